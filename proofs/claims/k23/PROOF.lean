import PyProof.Rows.All
import Wide.All
import OpenK.AllK
import Wide.FinOn
import HandS.ForMost
import HandS.Wide
import HandS.TupAny
import HandS.Deep
import HandS.IsInst
import HandS.More
import HandS.EndBits
import HandS.Style
import HandS.FStr
import HandS.MakeKwOnly
import KE.KDictZip
import HandS.Zip
import HandS.DictComp
import HandS.SetKeys
import KE.DataMinMax
import KE.KUnpackStar
import HandS.MakeKw
import PySem.Challenge.RW_weldmill_k23_members_drawn
import PyProof.StrLawsRepr
set_option Elab.async false
set_option linter.all false
set_option maxRecDepth 100000
set_option maxHeartbeats 4000000
/-! FL: a plain-function layer over HandS. -/
namespace FL
open PySem PySem.Spec L2

/-- data: pure trees -/
inductive D where
  | non | bl (b : Bool) | int (i : Int) | str (x : Str)
  | tup (ds : List D) | rtup (ds : List D) | lst (ds : List D) | rol (ds : List D)
  | ins (C : Addr) (fs : List Str) (ds : List D)
  | dk (ks : List Key) (ds : List D) | dt (ks : List (List Key)) (ds : List D)
  | op (v : V)
/-- what a name holds: data, a mutable cell of the running defs, or a tuple with such in it -/
inductive W where
  | d (x : D) | cel (n : Nat) | tup (ws : List W)
/-- a mutable object -/
inductive Cell where
  | lst (ds : List W) | dk (ks : List Key) (ds : List W) | dt (ks : List (List Key)) (ds : List W)
  | ins (C : Addr) (fs : List Str) (ds : List W) | gone
structure Rho where
  sl : List (Option W)
  cl : List Cell

mutual
def Rep0 (K : PySem.W.Frag) (F : Hp) : D → V → Prop
  | .non, v => v = .non
  | .bl b, v => v = .bl b
  | .int i, v => v = .int i
  | .str x, v => v = .str x
  | .tup ds, v => ∃ a vs, v = .ref a ∧ F a = some (.tup vs) ∧ Reps0 K F ds vs
  | .rtup ds, v => ∃ a vs, v = .ref a ∧ SqT K F a vs ∧ Reps0 K F ds vs
  | .lst ds, v => ∃ a vs, v = .ref a ∧ F a = some (.lst vs) ∧ Reps0 K F ds vs
  | .rol ds, v => ∃ a vs, v = .ref a ∧ SqL K F a vs ∧ Reps0 K F ds vs
  | .ins C fs ds, v => ∃ a dx fvs, v = .ref a ∧ F a = some (.ins C dx fvs) ∧ fvs.map (·.1) = fs ∧ Reps0 K F ds (fvs.map (·.2))
  | .dk ks ds, v => ∃ a kvs, v = .ref a ∧ Rd F a (.dK kvs) ∧ kvs.map (·.1) = ks ∧ Reps0 K F ds (kvs.map (·.2))
  | .dt ks ds, v => ∃ a kvs, v = .ref a ∧ Rd F a (.dT kvs) ∧ kvs.map (·.1) = ks ∧ Reps0 K F ds (kvs.map (·.2))
  | .op u, v => v = u
def Reps0 (K : PySem.W.Frag) (F : Hp) : List D → List V → Prop
  | [], vs => vs = []
  | d :: ds, vs => ∃ v r, vs = v :: r ∧ Rep0 K F d v ∧ Reps0 K F ds r
end
mutual
def Rep (K : PySem.W.Frag) (F : Hp) (al : List Addr) : W → V → Prop
  | .d x, v => Rep0 K F x v
  | .cel n, v => ∃ a, v = .ref a ∧ al[n]? = some a
  | .tup ds, v => ∃ a vs, v = .ref a ∧ F a = some (.tup vs) ∧ Reps K F al ds vs
def Reps (K : PySem.W.Frag) (F : Hp) (al : List Addr) : List W → List V → Prop
  | [], vs => vs = []
  | d :: ds, vs => ∃ v r, vs = v :: r ∧ Rep K F al d v ∧ Reps K F al ds r
end

theorem Same.seqT {K : PySem.W.Frag} {H H' : Hp} {a : Addr} {xs : List V} (e : Same H H') (h : SqT K H a xs) : SqT K H' a xs := by
  rcases h with (h | ⟨o, h⟩) | h
  · exact .inl (.inl (e _ _ h))
  · exact .inl (.inr ⟨o, e _ _ h⟩)
  · exact .inr h
theorem Same.rd {H H' : Hp} {a : Addr} {u : HO} (e : Same H H') (h : Rd H a u) : Rd H' a u := by
  rcases h with h | ⟨o, h⟩
  · exact .inl (e _ _ h)
  · exact .inr ⟨o, e _ _ h⟩

section
variable {K : PySem.W.Frag} {F F' : Hp} {al be : List Addr}
theorem get_pre {a : Addr} {n : Nat} {al ga : List Addr} (h : al[n]? = some a) : (al ++ ga)[n]? = some a := by
  rw [List.getElem?_append_left (List.getElem?_eq_some_iff.mp h).1]
  exact h
mutual
theorem Rep0.mono (e : Same F F') : ∀ {d : D} {v : V}, Rep0 K F d v → Rep0 K F' d v
  | .non, _, h => h
  | .bl _, _, h => h
  | .int _, _, h => h
  | .str _, _, h => h
  | .tup ds, _, ⟨a, vs, e1, e2, e3⟩ => ⟨a, vs, e1, e _ _ e2, Reps0.mono e e3⟩
  | .rtup ds, _, ⟨a, vs, e1, e2, e3⟩ => ⟨a, vs, e1, Same.seqT e e2, Reps0.mono e e3⟩
  | .lst ds, _, ⟨a, vs, e1, e2, e3⟩ => ⟨a, vs, e1, e _ _ e2, Reps0.mono e e3⟩
  | .rol ds, _, ⟨a, vs, e1, e2, e3⟩ => ⟨a, vs, e1, e.seq e2, Reps0.mono e e3⟩
  | .ins C fs ds, _, ⟨a, dx, vs, e1, e2, e0, e3⟩ => ⟨a, dx, vs, e1, e _ _ e2, e0, Reps0.mono e e3⟩
  | .dk ks ds, _, ⟨a, vs, e1, e2, e0, e3⟩ => ⟨a, vs, e1, Same.rd e e2, e0, Reps0.mono e e3⟩
  | .dt ks ds, _, ⟨a, vs, e1, e2, e0, e3⟩ => ⟨a, vs, e1, Same.rd e e2, e0, Reps0.mono e e3⟩
  | .op _, _, h => h
theorem Reps0.mono (e : Same F F') : ∀ {ds : List D} {vs : List V}, Reps0 K F ds vs → Reps0 K F' ds vs
  | [], _, h => h
  | d :: ds, _, ⟨v, r, e1, e2, e3⟩ => ⟨v, r, e1, Rep0.mono e e2, Reps0.mono e e3⟩
end
mutual
theorem Rep.mono (e : Same F F') : ∀ {d : W} {v : V}, Rep K F al d v → Rep K F' (al ++ be) d v
  | .d x, _, h => Rep0.mono (d := x) e h
  | .tup ds, _, ⟨a, vs, e1, e2, e3⟩ => ⟨a, vs, e1, e _ _ e2, Reps.mono e e3⟩
  | .cel n, _, ⟨a, e1, e2⟩ => ⟨a, e1, get_pre e2⟩
theorem Reps.mono (e : Same F F') : ∀ {ds : List W} {vs : List V}, Reps K F al ds vs → Reps K F' (al ++ be) ds vs
  | [], _, h => h
  | d :: ds, _, ⟨v, r, e1, e2, e3⟩ => ⟨v, r, e1, Rep.mono e e2, Reps.mono e e3⟩
end
/-- data all through -/
theorem Reps.of0 : ∀ {ds : List D} {vs : List V}, Reps0 K F ds vs → Reps K F al (ds.map W.d) vs
  | [], _, h => h
  | d :: ds, _, ⟨v, r, e1, e2, e3⟩ => ⟨v, r, e1, e2, Reps.of0 e3⟩
theorem Reps.to0 : ∀ {ds : List D} {vs : List V}, Reps K F al (ds.map W.d) vs → Reps0 K F ds vs
  | [], _, h => h
  | d :: ds, _, ⟨v, r, e1, e2, e3⟩ => ⟨v, r, e1, e2, Reps.to0 e3⟩
/-- the data of a row, where it is all data -/
def datas : List W → Option (List D)
  | [] => some []
  | .d x :: ws => (datas ws).map (x :: ·)
  | _ => none
theorem datas_map : ∀ ds : List D, datas (ds.map W.d) = some ds
  | [] => rfl
  | d :: ds => by
    show (datas (ds.map W.d)).map (d :: ·) = _
    rw [datas_map ds]
    rfl
theorem datas_some : ∀ {ws : List W} {ds : List D}, datas ws = some ds → ws = ds.map W.d
  | [], ds, h => by
    cases h
    rfl
  | .d x :: ws, ds, h => by
    obtain ⟨r, e1, e2⟩ := Option.map_eq_some_iff.mp h
    subst e2
    rw [datas_some e1]
    rfl
  | .cel n :: ws, ds, h => nomatch h
  | .tup n :: ws, ds, h => nomatch h
theorem Reps.length : ∀ {ds : List W} {vs : List V}, Reps K F al ds vs → vs.length = ds.length
  | [], _, h => by
    have h : _ = [] := h
    rw [h]
    rfl
  | d :: ds, _, ⟨v, r, e1, _, e3⟩ => by
    rw [e1, List.length_cons, List.length_cons, Reps.length e3]
theorem Reps.get : ∀ {ds : List W} {vs : List V} {i : Nat} {d : W}, Reps K F al ds vs → ds[i]? = some d → ∃ v, vs[i]? = some v ∧ Rep K F al d v
  | [], _, _, _, _, h => by simp at h
  | d :: ds, _, 0, d', ⟨v, r, e1, e2, _⟩, h => by
    subst e1
    have h : some d = some d' := h
    cases h
    exact ⟨v, rfl, e2⟩
  | d :: ds, _, i + 1, d', ⟨v, r, e1, e2, e3⟩, h => by
    subst e1
    have h : ds[i]? = some d' := h
    exact Reps.get (i := i) e3 h
theorem Reps.getv {ds : List W} {vs : List V} {i : Nat} {v : V} (r : Reps K F al ds vs) (h : vs[i]? = some v) : ∃ d, ds[i]? = some d ∧ Rep K F al d v := by
  have hi : i < ds.length := by
    rw [← r.length]
    exact (List.getElem?_eq_some_iff.mp h).1
  obtain ⟨v', e1, e2⟩ := r.get (List.getElem?_eq_getElem hi)
  rw [h] at e1
  cases e1
  exact ⟨_, List.getElem?_eq_getElem hi, e2⟩
theorem Reps.app : ∀ {ds es : List W} {vs ws : List V}, Reps K F al ds vs → Reps K F al es ws → Reps K F al (ds ++ es) (vs ++ ws)
  | [], _, _, _, h, q => by
    have h : _ = [] := h
    subst h
    exact q
  | d :: ds, _, _, _, ⟨v, r, e1, e2, e3⟩, q => by
    subst e1
    exact ⟨v, _, rfl, e2, Reps.app e3 q⟩
theorem Reps.one {d : W} {v : V} (h : Rep K F al d v) : Reps K F al [d] [v] := ⟨v, [], rfl, h, rfl⟩
theorem Reps.set : ∀ {ds : List W} {vs : List V} {i : Nat} {d : W} {v : V}, Reps K F al ds vs → Rep K F al d v → Reps K F al (ds.set i d) (vs.set i v)
  | [], _, _, _, _, h, _ => by
    have h : _ = [] := h
    subst h
    rfl
  | d :: ds, _, 0, d', v', ⟨v, r, e1, e2, e3⟩, q => by
    subst e1
    exact ⟨v', r, rfl, q, e3⟩
  | d :: ds, _, i + 1, d', v', ⟨v, r, e1, e2, e3⟩, q => by
    subst e1
    exact ⟨v, _, rfl, e2, Reps.set e3 q⟩
theorem Reps.take : ∀ {ds : List W} {vs : List V} (n : Nat), Reps K F al ds vs → Reps K F al (ds.take n) (vs.take n)
  | _, _, 0, _ => rfl
  | [], _, _ + 1, h => by
    have h : _ = [] := h
    subst h
    rfl
  | d :: ds, _, n + 1, ⟨v, r, e1, e2, e3⟩ => by
    subst e1
    exact ⟨v, _, rfl, e2, Reps.take n e3⟩
theorem Reps.drop : ∀ {ds : List W} {vs : List V} (n : Nat), Reps K F al ds vs → Reps K F al (ds.drop n) (vs.drop n)
  | _, _, 0, h => h
  | [], _, _ + 1, h => by
    have h : _ = [] := h
    subst h
    rfl
  | d :: ds, _, n + 1, ⟨v, r, e1, e2, e3⟩ => by
    subst e1
    exact Reps.drop n e3
theorem Reps.eraseIdx : ∀ {ds : List W} {vs : List V} (n : Nat), Reps K F al ds vs → Reps K F al (ds.eraseIdx n) (vs.eraseIdx n)
  | [], _, _, h => by
    have h : _ = [] := h
    subst h
    rfl
  | d :: ds, _, 0, ⟨v, r, e1, e2, e3⟩ => by
    subst e1
    exact e3
  | d :: ds, _, n + 1, ⟨v, r, e1, e2, e3⟩ => by
    subst e1
    exact ⟨v, _, rfl, e2, Reps.eraseIdx n e3⟩
theorem Reps.rev : ∀ {ds : List W} {vs : List V}, Reps K F al ds vs → Reps K F al ds.reverse vs.reverse
  | [], _, h => by
    have h : _ = [] := h
    subst h
    rfl
  | d :: ds, _, ⟨v, r, e1, e2, e3⟩ => by
    subst e1
    rw [List.reverse_cons, List.reverse_cons]
    exact Reps.app (Reps.rev e3) (Reps.one e2)
end

/-! ### the relation -/
def CellOk (K : PySem.W.Frag) (F : Hp) (al : List Addr) (H : Hp) (a : Addr) : Cell → Prop
  | .lst ds => F a = none ∧ ∃ vs, H a = some (.lst vs) ∧ Reps K F al ds vs
  | .dk ks ds => F a = none ∧ ∃ kvs, H a = some (.dK kvs) ∧ kvs.map (·.1) = ks ∧ Reps K F al ds (kvs.map (·.2))
  | .dt ks ds => F a = none ∧ ∃ kvs, H a = some (.dT kvs) ∧ kvs.map (·.1) = ks ∧ Reps K F al ds (kvs.map (·.2))
  | .ins C fs ds => F a = none ∧ ∃ dx fvs, H a = some (.ins C dx fvs) ∧ fvs.map (·.1) = fs ∧ Reps K F al ds (fvs.map (·.2))
  | .gone => True
/-- cells: every live one stands, apart from what is frozen -/
structure Cells (K : PySem.W.Frag) (cl : List Cell) (F : Hp) (al : List Addr) (H : Hp) : Prop where
  fh : Same F H
  len : al.length = cl.length
  ok : ∀ (n : Nat) (a : Addr) (c : Cell), al[n]? = some a → cl[n]? = some c → CellOk K F al H a c
  nd : al.Nodup
  has : ∀ a ∈ al, H a ≠ none
/-- from a situation to a later one -/
structure Ext (F : Hp) (al : List Addr) (H F' : Hp) (al' : List Addr) (H' : Hp) : Prop where
  f : Same F F'
  a : ∃ be, al' = al ++ be ∧ ∀ b ∈ be, H b = none
  h : ∀ b o, H b = some o → b ∉ al → H' b = some o
  n : ∀ b o, F' b = some o → F b = some o ∨ H b = none ∨ b ∈ al
  t : ∀ b, H b ≠ none → H' b ≠ none
theorem Ext.refl (F : Hp) (al : List Addr) (H : Hp) : Ext F al H F al H := ⟨Same.refl F, ⟨[], by simp, by simp⟩, fun _ _ h _ => h, fun _ _ h => .inl h, fun _ h => h⟩
theorem Ext.trans {F : Hp} {al : List Addr} {H F1 : Hp} {al1 : List Addr} {H1 F2 : Hp} {al2 : List Addr} {H2 : Hp} (x : Ext F al H F1 al1 H1) (y : Ext F1 al1 H1 F2 al2 H2) : Ext F al H F2 al2 H2 := by
  obtain ⟨b1, e1, n1⟩ := x.a
  obtain ⟨b2, e2, n2⟩ := y.a
  have hn : ∀ b, H1 b = none → H b = none := fun b q => by
    by_cases z : H b = none
    · exact z
    · exact absurd q (x.t b z)
  refine ⟨x.f.trans y.f, ⟨b1 ++ b2, by rw [e2, e1, List.append_assoc], fun b hb => ?_⟩, fun b o h hb => ?_, fun b o h => ?_, fun b h => y.t b (x.t b h)⟩
  · rcases List.mem_append.mp hb with q | q
    · exact n1 b q
    · exact hn b (n2 b q)
  · refine y.h b o (x.h b o h hb) fun q => ?_
    rw [e1] at q
    rcases List.mem_append.mp q with q | q
    · exact hb q
    · rw [n1 b q] at h
      cases h
  · rcases y.n b o h with q | q | q
    · exact x.n b o q
    · exact .inr (.inl (hn b q))
    · rw [e1] at q
      rcases List.mem_append.mp q with q | q
      · exact .inr (.inr q)
      · exact .inr (.inl (n1 b q))
theorem Ext.rep {K : PySem.W.Frag} {F : Hp} {al : List Addr} {H F1 : Hp} {al1 : List Addr} {H1 : Hp} {d : W} {v : V} (x : Ext F al H F1 al1 H1) (r : Rep K F al d v) : Rep K F1 al1 d v := by
  obtain ⟨b1, e1, _⟩ := x.a
  rw [e1]
  exact Rep.mono x.f r
theorem Ext.reps {K : PySem.W.Frag} {F : Hp} {al : List Addr} {H F1 : Hp} {al1 : List Addr} {H1 : Hp} {d : List W} {v : List V} (x : Ext F al H F1 al1 H1) (r : Reps K F al d v) : Reps K F1 al1 d v := by
  obtain ⟨b1, e1, _⟩ := x.a
  rw [e1]
  exact Reps.mono x.f r
/-- the slots -/
structure Slots (K : PySem.W.Frag) (sl : List (Option W)) (F : Hp) (al : List Addr) (σ : St) : Prop where
  len : σ.length = sl.length
  ok : ∀ (i : Nat) (d : W), sl[i]? = some (some d) → ∃ v, σ[i]? = some (some v) ∧ Rep K F al d v
structure Rel (K : PySem.W.Frag) (r : Rho) (F : Hp) (al : List Addr) (σ : St) (H : Hp) : Prop where
  s : Slots K r.sl F al σ
  c : Cells K r.cl F al H
theorem Slots.ext {K : PySem.W.Frag} {sl : List (Option W)} {F : Hp} {al : List Addr} {σ : St} {H F1 : Hp} {al1 : List Addr} {H1 : Hp} (s : Slots K sl F al σ) (x : Ext F al H F1 al1 H1) : Slots K sl F1 al1 σ :=
  ⟨s.len, fun i d h => by
    obtain ⟨v, e1, e2⟩ := s.ok i d h
    exact ⟨v, e1, x.rep e2⟩⟩
theorem Slots.set {K : PySem.W.Frag} {sl : List (Option W)} {F : Hp} {al : List Addr} {σ : St} (s : Slots K sl F al σ) (i : Nat) {d : W} {v : V} (r : Rep K F al d v) : Slots K (sl.set i (some d)) F al (σ.set i (some v)) := by
  refine ⟨by rw [List.length_set, List.length_set, s.len], fun j d' h => ?_⟩
  by_cases e : i = j
  · subst e
    have hi : i < sl.length := by
      have q := (List.getElem?_eq_some_iff.mp h).1
      rw [List.length_set] at q
      exact q
    rw [List.getElem?_set_self hi] at h
    cases h
    exact ⟨v, List.getElem?_set_self (by rw [s.len]; exact hi), r⟩
  · rw [List.getElem?_set_ne e] at h
    rw [List.getElem?_set_ne e]
    exact s.ok j d' h
theorem Slots.forget {K : PySem.W.Frag} {sl : List (Option W)} {F : Hp} {al : List Addr} {σ : St} (s : Slots K sl F al σ) (i : Nat) {w : Option V} : Slots K (sl.set i none) F al (σ.set i w) := by
  refine ⟨by rw [List.length_set, List.length_set, s.len], fun j d' h => ?_⟩
  by_cases e : i = j
  · subst e
    have hi : i < sl.length := by
      have q := (List.getElem?_eq_some_iff.mp h).1
      rw [List.length_set] at q
      exact q
    rw [List.getElem?_set_self hi] at h
    cases h
  · rw [List.getElem?_set_ne e] at h
    rw [List.getElem?_set_ne e]
    exact s.ok j d' h

theorem Cells.ext0 {K : PySem.W.Frag} {cl : List Cell} {F : Hp} {al : List Addr} {H : Hp} (c : Cells K cl F al H) {F1 H1 : Hp} (x : Ext F al H F1 al H1) (fh : Same F1 H1) (kp : ∀ a ∈ al, H1 a = H a ∧ (F a = none → F1 a = none)) : Cells K cl F1 al H1 := by
  refine ⟨fh, c.len, fun n a q h1 h2 => ?_, c.nd, fun a ha => ?_⟩
  · have o := c.ok n a q h1 h2
    obtain ⟨e1, e2⟩ := kp a (List.mem_of_getElem? h1)
    cases q with
    | lst ds =>
      obtain ⟨n0, vs, q1, q2⟩ := o
      exact ⟨e2 n0, vs, by rw [e1]; exact q1, x.reps q2⟩
    | dk ks ds =>
      obtain ⟨n0, vs, q1, q0, q2⟩ := o
      exact ⟨e2 n0, vs, by rw [e1]; exact q1, q0, x.reps q2⟩
    | dt ks ds =>
      obtain ⟨n0, vs, q1, q0, q2⟩ := o
      exact ⟨e2 n0, vs, by rw [e1]; exact q1, q0, x.reps q2⟩
    | ins C fs ds =>
      obtain ⟨n0, dx, vs, q1, q0, q2⟩ := o
      exact ⟨e2 n0, dx, vs, by rw [e1]; exact q1, q0, x.reps q2⟩
    | gone => exact trivial
  · rw [(kp a ha).1]
    exact c.has a ha

/-! ### a new object -/
section
variable {K : PySem.W.Frag} {F H : Hp} {al : List Addr} {p : Addr} {o : HO}
theorem Cells.free {cl : List Cell} (c : Cells K cl F al H) (hp : H p = none) : F p = none ∧ p ∉ al := by
  refine ⟨?_, fun q => c.has p q hp⟩
  cases e : F p with
  | none => rfl
  | some u =>
    rw [c.fh p u e] at hp
    cases hp
theorem ext_frz (hF : F p = none) (hp : H p = none) : Ext F al H (upd F p o) al (upd H p o) :=
  ⟨fun b u h => by rw [upd_ne (ne_of_none h hF)]; exact h, ⟨[], by simp, by simp⟩, fun b u h _ => by rw [upd_ne (ne_of_none h hp)]; exact h,
   fun b u h => by
    by_cases e : b = p
    · exact .inr (.inl (by rw [e]; exact hp))
    · rw [upd_ne e] at h
      exact .inl h,
   fun b h => by
    by_cases e : b = p
    · rw [e, upd_same]
      exact fun q => nomatch q
    · rw [upd_ne e]
      exact h⟩
theorem same_frz (s : Same F H) : Same (upd F p o) (upd H p o) := fun b u h => by
  by_cases e : b = p
  · rw [e, upd_same] at h
    rw [e, upd_same]
    exact h
  · rw [upd_ne e] at h
    rw [upd_ne e]
    exact s b u h
/-- .. frozen at once -/
theorem Cells.frz {cl : List Cell} (c : Cells K cl F al H) (hp : H p = none) : Cells K cl (upd F p o) al (upd H p o) := by
  obtain ⟨hF, hal⟩ := c.free hp
  refine c.ext0 (ext_frz hF hp) (same_frz c.fh) fun a ha => ?_
  have ne : a ≠ p := fun e => hal (e ▸ ha)
  exact ⟨upd_ne ne, fun z => by rw [upd_ne ne]; exact z⟩
theorem ext_new (hF : F p = none) (hp : H p = none) : Ext F al H F (al ++ [p]) (upd H p o) :=
  ⟨Same.refl F, ⟨[p], rfl, fun b hb => by rw [List.mem_singleton.mp hb]; exact hp⟩, fun b u h _ => by rw [upd_ne (ne_of_none h hp)]; exact h, fun b u h => .inl h,
   fun b h => by
    by_cases e : b = p
    · rw [e, upd_same]
      exact fun q => nomatch q
    · rw [upd_ne e]
      exact h⟩
theorem CellOk.grow {a : Addr} {q : Cell} (h : CellOk K F al H a q) {be : List Addr} {H1 : Hp} (e : H1 a = H a) : CellOk K F (al ++ be) H1 a q := by
  cases q with
  | lst ds =>
    obtain ⟨n0, vs, q1, q2⟩ := h
    exact ⟨n0, vs, by rw [e]; exact q1, Reps.mono (Same.refl F) q2⟩
  | dk ks ds =>
    obtain ⟨n0, vs, q1, q0, q2⟩ := h
    exact ⟨n0, vs, by rw [e]; exact q1, q0, Reps.mono (Same.refl F) q2⟩
  | dt ks ds =>
    obtain ⟨n0, vs, q1, q0, q2⟩ := h
    exact ⟨n0, vs, by rw [e]; exact q1, q0, Reps.mono (Same.refl F) q2⟩
  | ins C fs ds =>
    obtain ⟨n0, dx, vs, q1, q0, q2⟩ := h
    exact ⟨n0, dx, vs, by rw [e]; exact q1, q0, Reps.mono (Same.refl F) q2⟩
  | gone => exact trivial
/-- .. as a cell -/
theorem Cells.new {cl : List Cell} (c : Cells K cl F al H) (hp : H p = none) {q : Cell} (hq : CellOk K F (al ++ [p]) (upd H p o) p q) : Cells K (cl ++ [q]) F (al ++ [p]) (upd H p o) := by
  obtain ⟨hF, hal⟩ := c.free hp
  refine ⟨fun b u h => by rw [upd_ne (ne_of_none (c.fh b u h) hp)]; exact c.fh b u h, by rw [List.length_append, List.length_append, c.len]; rfl, fun n a k h1 h2 => ?_, ?_, fun a ha => ?_⟩
  · by_cases e : n < al.length
    · rw [List.getElem?_append_left e] at h1
      rw [List.getElem?_append_left (by rw [← c.len]; exact e)] at h2
      have ne : a ≠ p := fun z => hal (z ▸ List.mem_of_getElem? h1)
      exact (c.ok n a k h1 h2).grow (upd_ne ne)
    · have q1 := (List.getElem?_eq_some_iff.mp h1).1
      rw [List.length_append, List.length_singleton] at q1
      have e2 : n = al.length := by omega
      subst e2
      rw [List.getElem?_append_right (Nat.le_refl _), Nat.sub_self] at h1
      rw [c.len, List.getElem?_append_right (Nat.le_refl _), Nat.sub_self] at h2
      have h1 : some p = some a := h1
      have h2 : some q = some k := h2
      cases h1
      cases h2
      exact hq
  · rw [List.nodup_append]
    exact ⟨c.nd, by simp, fun a ha b hb e => by
      rw [List.mem_singleton] at hb
      rw [e, hb] at ha
      exact hal ha⟩
  · by_cases e : a = p
    · rw [e, upd_same]
      exact fun q => nomatch q
    · rw [upd_ne e]
      rcases List.mem_append.mp ha with z | z
      · exact c.has a z
      · exact absurd (List.mem_singleton.mp z) e
/-- a live cell is written -/
theorem ext_wr {n : Nat} (h1 : al[n]? = some p) (hF : F p = none) : Ext F al H F al (upd H p o) :=
  ⟨Same.refl F, ⟨[], by simp, by simp⟩, fun b u h hb => by rw [upd_ne (fun e => hb (by rw [e]; exact List.mem_of_getElem? h1))]; exact h, fun b u h => .inl h,
   fun b h => by
    by_cases e : b = p
    · rw [e, upd_same]
      exact fun q => nomatch q
    · rw [upd_ne e]
      exact h⟩
theorem Cells.wr {cl : List Cell} (c : Cells K cl F al H) {n : Nat} (h1 : al[n]? = some p) (hF : F p = none) {q : Cell} (hq : CellOk K F al (upd H p o) p q) : Cells K (cl.set n q) F al (upd H p o) := by
  refine ⟨fun b u h => by rw [upd_ne (ne_of_none h hF)]; exact c.fh b u h, by rw [List.length_set, c.len], fun m a k g1 g2 => ?_, c.nd, fun a ha => ?_⟩
  · by_cases e : n = m
    · subst e
      have q1 := (List.getElem?_eq_some_iff.mp g2).1
      rw [List.length_set] at q1
      rw [List.getElem?_set_self q1] at g2
      rw [h1] at g1
      cases g1
      cases g2
      exact hq
    · rw [List.getElem?_set_ne e] at g2
      have ne : a ≠ p := fun z => by
        rw [z] at g1
        obtain ⟨l1, e1⟩ := List.getElem?_eq_some_iff.mp h1
        obtain ⟨l2, e2⟩ := List.getElem?_eq_some_iff.mp g1
        exact e ((List.getElem_inj c.nd).mp (e1.trans e2.symm))
      have := (c.ok m a k g1 g2).grow (be := []) (H1 := upd H p o) (upd_ne ne)
      rw [List.append_nil] at this
      exact this
  · by_cases e : a = p
    · rw [e, upd_same]
      exact fun q => nomatch q
    · rw [upd_ne e]
      exact c.has a ha
/-- a live cell is frozen -/
theorem ext_gone {n : Nat} (h1 : al[n]? = some p) (hF : F p = none) : Ext F al H (upd F p o) al H :=
  ⟨fun b u h => by rw [upd_ne (ne_of_none h hF)]; exact h, ⟨[], by simp, by simp⟩, fun b u h _ => h, fun b u h => by
    by_cases e : b = p
    · exact .inr (.inr (by rw [e]; exact List.mem_of_getElem? h1))
    · rw [upd_ne e] at h
      exact .inl h, fun b h => h⟩
theorem Cells.toGone {cl : List Cell} (c : Cells K cl F al H) {n : Nat} (h1 : al[n]? = some p) (hF : F p = none) (hH : H p = some o) : Cells K (cl.set n .gone) (upd F p o) al H := by
  have x : Ext F al H (upd F p o) al H := ext_gone h1 hF
  refine ⟨fun b u h => ?_, by rw [List.length_set, c.len], fun m a k g1 g2 => ?_, c.nd, c.has⟩
  · by_cases e : b = p
    · rw [e, upd_same] at h
      rw [e, hH]
      exact h
    · rw [upd_ne e] at h
      exact c.fh b u h
  · by_cases e : n = m
    · subst e
      have q1 := (List.getElem?_eq_some_iff.mp g2).1
      rw [List.length_set] at q1
      rw [List.getElem?_set_self q1] at g2
      cases g2
      exact trivial
    · rw [List.getElem?_set_ne e] at g2
      have ne : a ≠ p := fun z => by
        rw [z] at g1
        obtain ⟨l1, e1⟩ := List.getElem?_eq_some_iff.mp h1
        obtain ⟨l2, e2⟩ := List.getElem?_eq_some_iff.mp g1
        exact e ((List.getElem_inj c.nd).mp (e1.trans e2.symm))
      have o := c.ok m a k g1 g2
      have up : ∀ {z : Prop}, (F a = none → z) → F a = none → z := fun f => f
      cases k with
      | lst ds =>
        obtain ⟨n0, vs, q1, q2⟩ := o
        exact ⟨by rw [upd_ne ne]; exact n0, vs, q1, x.reps q2⟩
      | dk ks ds =>
        obtain ⟨n0, vs, q1, q0, q2⟩ := o
        exact ⟨by rw [upd_ne ne]; exact n0, vs, q1, q0, x.reps q2⟩
      | dt ks ds =>
        obtain ⟨n0, vs, q1, q0, q2⟩ := o
        exact ⟨by rw [upd_ne ne]; exact n0, vs, q1, q0, x.reps q2⟩
      | ins C fs ds =>
        obtain ⟨n0, dx, vs, q1, q0, q2⟩ := o
        exact ⟨by rw [upd_ne ne]; exact n0, dx, vs, q1, q0, x.reps q2⟩
      | gone => exact trivial
end

/-! ### readings by a plain function -/
abbrev M := Rho → Option (W × Rho)
abbrev MB := Rho → Option (Bool × Rho)
abbrev MS := Rho → Option (List W × Rho)
inductive Out where
  | nx (r : Rho) | ret (d : W) (r : Rho) | bk (r : Rho) | ct (r : Rho)
abbrev G := Rho → Option Out
def tF (K : PySem.W.Frag) (m : M) : TE := fun σ H Q => ∃ r F al d r', Rel K r F al σ H ∧ m r = some (d, r') ∧
  ∀ F' al' v H', Ext F al H F' al' H' → Rel K r' F' al' σ H' → Rep K F' al' d v → Q v H'
def tFB (K : PySem.W.Frag) (m : MB) : TT := fun σ H Q => ∃ r F al d r', Rel K r F al σ H ∧ m r = some (d, r') ∧
  ∀ F' al' H', Ext F al H F' al' H' → Rel K r' F' al' σ H' → Q d H'
def tFA (K : PySem.W.Frag) (m : MS) : TA := fun σ H Q => ∃ r F al d r', Rel K r F al σ H ∧ m r = some (d, r') ∧
  ∀ F' al' v H', Ext F al H F' al' H' → Rel K r' F' al' σ H' → Reps K F' al' d v → Q v H'
def EndF (K : PySem.W.Frag) (D : Ends) (F : Hp) (al : List Addr) (H : Hp) : Out → Prop
  | .nx r => ∀ F' al' σ' H', Ext F al H F' al' H' → Rel K r F' al' σ' H' → D.nx σ' H'
  | .ret d r => ∀ F' al' v σ' H', Ext F al H F' al' H' → Rel K r F' al' σ' H' → Rep K F' al' d v → D.rt v H'
  | .bk r => ∀ F' al' σ' H', Ext F al H F' al' H' → Rel K r F' al' σ' H' → D.bk σ' H'
  | .ct r => ∀ F' al' σ' H', Ext F al H F' al' H' → Rel K r F' al' σ' H' → D.ct σ' H'
def tFS (K : PySem.W.Frag) (g : G) : TS := fun D σ H => ∃ r F al o, Rel K r F al σ H ∧ g r = some o ∧ EndF K D F al H o
theorem EndF.ext {K : PySem.W.Frag} {D : Ends} {F : Hp} {al : List Addr} {H F1 : Hp} {al1 : List Addr} {H1 : Hp} {o : Out} (h : EndF K D F al H o) (x : Ext F al H F1 al1 H1) : EndF K D F1 al1 H1 o := by
  cases o with
  | nx r => exact fun F' al' σ' H' y => h F' al' σ' H' (x.trans y)
  | ret d r => exact fun F' al' v σ' H' y => h F' al' v σ' H' (x.trans y)
  | bk r => exact fun F' al' σ' H' y => h F' al' σ' H' (x.trans y)
  | ct r => exact fun F' al' σ' H' y => h F' al' σ' H' (x.trans y)
section
variable {X : Cx} {e : Expr} {es : List Expr} {st : Stmt} {sts : List Stmt}
theorem PE.weak {t t' : TE} (h : PE X e t) (w : ∀ σ H Q, t' σ H Q → t σ H Q) : PE X e t' := ⟨fun pins s σ H Q I q => h.run pins s σ H Q I (w σ H Q q)⟩
theorem PT.weak {t t' : TT} (h : PT X e t) (w : ∀ σ H Q, t' σ H Q → t σ H Q) : PT X e t' := ⟨fun pins s σ H Q I q => h.run pins s σ H Q I (w σ H Q q)⟩
theorem PA.weak {t t' : TA} (h : PA X es t) (w : ∀ σ H Q, t' σ H Q → t σ H Q) : PA X es t' := ⟨fun pos pins s σ H Q I q => h.run pos pins s σ H Q I (w σ H Q q)⟩
theorem PS.weak {t t' : TS} (h : PS X st t) (w : ∀ D σ H, t' D σ H → t D σ H) : PS X st t' := ⟨fun pins s σ H D I q => h.run pins s σ H D I (w D σ H q)⟩
theorem PSs.weak {t t' : TS} (h : PSs X sts t) (w : ∀ D σ H, t' D σ H → t D σ H) : PSs X sts t' := ⟨fun pins s σ H D I q => h.run pins s σ H D I (w D σ H q)⟩
end
end FL

namespace FL
open PySem PySem.Spec L2

/-! ### operations by values -/
abbrev R0 := Option (W × List Cell)
def PostV (K : PySem.W.Frag) (F : Hp) (al : List Addr) (H : Hp) (Q : VK) : R0 → Prop
  | none => False
  | some (d, cl') => ∀ F' al' v H', Ext F al H F' al' H' → Cells K cl' F' al' H' → Rep K F' al' d v → Q v H'
abbrev Op1 := List Cell → W → R0
abbrev Op2 := List Cell → W → W → R0
abbrev OpN := List Cell → List W → R0
def r1F (K : PySem.W.Frag) (g : Op1) : V → Hp → VK → Prop := fun vx H Q => ∃ cl F al x, Cells K cl F al H ∧ Rep K F al x vx ∧ PostV K F al H Q (g cl x)
def r2F (K : PySem.W.Frag) (g : Op2) : R2 := fun vx vy H Q => ∃ cl F al x y, Cells K cl F al H ∧ Rep K F al x vx ∧ Rep K F al y vy ∧ PostV K F al H Q (g cl x y)
def rNF (K : PySem.W.Frag) (g : OpN) : List V → Hp → VK → Prop := fun vs H Q => ∃ cl F al ds, Cells K cl F al H ∧ Reps K F al ds vs ∧ PostV K F al H Q (g cl ds)
def rMF (K : PySem.W.Frag) (g : OpN) : V → List V → Hp → VK → Prop := fun vx vs H Q => ∃ cl F al x ds, Cells K cl F al H ∧ Rep K F al x vx ∧ Reps K F al ds vs ∧ PostV K F al H Q (g cl (x :: ds))
theorem PostV.some {K : PySem.W.Frag} {F : Hp} {al : List Addr} {H : Hp} {Q : VK} {r : R0} (h : PostV K F al H Q r) : ∃ d cl', r = some (d, cl') ∧ ∀ F' al' v H', Ext F al H F' al' H' → Cells K cl' F' al' H' → Rep K F' al' d v → Q v H' := by
  match r, h with
  | .some (d, cl'), h => exact ⟨d, cl', rfl, h⟩
/-- the value stands and nothing has changed -/
theorem PostV.pure {K : PySem.W.Frag} {cl : List Cell} {F : Hp} {al : List Addr} {H : Hp} {Q : VK} {d : W} {v : V} {r : R0} (h : PostV K F al H Q r) (e : r = .some (d, cl)) (c : Cells K cl F al H) (q : Rep K F al d v) : Q v H := by
  rw [e] at h
  exact h F al v H (Ext.refl _ _ _) c q

/-! ### expressions -/
def eVar (i : Nat) : M := fun r => match r.sl[i]? with
  | some (some d) => some (d, r)
  | _ => none
def eC (d : W) : M := fun r => some (d, r)
def lift1 (g : Op1) (x : W) (r : Rho) : Option (W × Rho) := match g r.cl x with
  | some (d, c) => some (d, { r with cl := c })
  | none => none
def lift2 (g : Op2) (x y : W) (r : Rho) : Option (W × Rho) := match g r.cl x y with
  | some (d, c) => some (d, { r with cl := c })
  | none => none
def liftN (g : OpN) (ds : List W) (r : Rho) : Option (W × Rho) := match g r.cl ds with
  | some (d, c) => some (d, { r with cl := c })
  | none => none
def eUn (g : Op1) (a : M) : M := fun r => match a r with
  | some (x, r1) => lift1 g x r1
  | none => none
def eBin (g : Op2) (a b : M) : M := fun r => match a r with
  | some (x, r1) => match b r1 with
    | some (y, r2) => lift2 g x y r2
    | none => none
  | none => none
def aNil : MS := fun r => some ([], r)
def aCons (a : M) (t : MS) : MS := fun r => match a r with
  | some (x, r1) => match t r1 with
    | some (xs, r2) => some (x :: xs, r2)
    | none => none
  | none => none
def eCall (g : OpN) (t : MS) : M := fun r => match t r with
  | some (xs, r1) => liftN g xs r1
  | none => none
def eMeth (g : OpN) (a : M) (t : MS) : M := fun r => match a r with
  | some (x, r1) => match t r1 with
    | some (xs, r2) => liftN g (x :: xs) r2
    | none => none
  | none => none
theorem lift1_some {g : Op1} {x : W} {r : Rho} {d : W} {r' : Rho} (h : lift1 g x r = some (d, r')) : ∃ c, g r.cl x = some (d, c) ∧ r' = { r with cl := c } := by
  unfold lift1 at h
  split at h
  · cases h
    exact ⟨_, by assumption, rfl⟩
  · cases h
theorem lift2_some {g : Op2} {x y : W} {r : Rho} {d : W} {r' : Rho} (h : lift2 g x y r = some (d, r')) : ∃ c, g r.cl x y = some (d, c) ∧ r' = { r with cl := c } := by
  unfold lift2 at h
  split at h
  · cases h
    exact ⟨_, by assumption, rfl⟩
  · cases h
theorem liftN_some {g : OpN} {x : List W} {r : Rho} {d : W} {r' : Rho} (h : liftN g x r = some (d, r')) : ∃ c, g r.cl x = some (d, c) ∧ r' = { r with cl := c } := by
  unfold liftN at h
  split at h
  · cases h
    exact ⟨_, by assumption, rfl⟩
  · cases h
theorem eUn_some {g : Op1} {a : M} {r : Rho} {d : W} {r' : Rho} (h : eUn g a r = some (d, r')) : ∃ x r1, a r = some (x, r1) ∧ lift1 g x r1 = some (d, r') := by
  unfold eUn at h
  split at h
  · exact ⟨_, _, by assumption, h⟩
  · cases h
theorem eBin_some {g : Op2} {a b : M} {r : Rho} {d : W} {r' : Rho} (h : eBin g a b r = some (d, r')) : ∃ x r1 y r2, a r = some (x, r1) ∧ b r1 = some (y, r2) ∧ lift2 g x y r2 = some (d, r') := by
  unfold eBin at h
  split at h
  · split at h
    · exact ⟨_, _, _, _, by assumption, by assumption, h⟩
    · cases h
  · cases h
theorem aCons_some {a : M} {t : MS} {r : Rho} {d : List W} {r' : Rho} (h : aCons a t r = some (d, r')) : ∃ x r1 xs, a r = some (x, r1) ∧ t r1 = some (xs, r') ∧ d = x :: xs := by
  unfold aCons at h
  split at h
  · split at h
    · cases h
      exact ⟨_, _, _, by assumption, by assumption, rfl⟩
    · cases h
  · cases h
theorem eCall_some {g : OpN} {t : MS} {r : Rho} {d : W} {r' : Rho} (h : eCall g t r = some (d, r')) : ∃ xs r1, t r = some (xs, r1) ∧ liftN g xs r1 = some (d, r') := by
  unfold eCall at h
  split at h
  · exact ⟨_, _, by assumption, h⟩
  · cases h
theorem eMeth_some {g : OpN} {a : M} {t : MS} {r : Rho} {d : W} {r' : Rho} (h : eMeth g a t r = some (d, r')) : ∃ x r1 xs r2, a r = some (x, r1) ∧ t r1 = some (xs, r2) ∧ liftN g (x :: xs) r2 = some (d, r') := by
  unfold eMeth at h
  split at h
  · split at h
    · exact ⟨_, _, _, _, by assumption, by assumption, h⟩
    · cases h
  · cases h
/-- from an operation's post to an expression's -/
theorem post_of {K : PySem.W.Frag} {r : Rho} {d : W} {c : List Cell} {F : Hp} {al : List Addr} {σ : St} {H : Hp} {Q : VK} (s : Slots K r.sl F al σ)
    (k : ∀ F' al' v H', Ext F al H F' al' H' → Rel K { r with cl := c } F' al' σ H' → Rep K F' al' d v → Q v H') : PostV K F al H Q (some (d, c)) :=
  fun F' al' v H' x c' q => k F' al' v H' x ⟨s.ext x, c'⟩ q
section
variable {X : Cx} {a b e : Expr} {es : List Expr} {pos : Pos}
theorem pf_var {i : Nat} (h : PE X e (tVar i)) : PE X e (tF X.K (eVar i)) := PE.weak h fun σ H Q ⟨r, F, al, d, r', R, e1, k⟩ => by
  unfold eVar at e1
  split at e1
  · rename_i d' e2
    cases e1
    obtain ⟨v, q1, q2⟩ := R.s.ok i _ e2
    exact ⟨v, q1, k F al v H (Ext.refl _ _ _) R q2⟩
  · cases e1
theorem pf_c {v : V} {d : W} (h : PE X e (tC v)) (q : ∀ F al, Rep X.K F al d v) : PE X e (tF X.K (eC d)) := PE.weak h fun σ H Q ⟨r, F, al, d', r', R, e1, k⟩ => by
  have e1 : some (d, r) = some (d', r') := e1
  cases e1
  exact k F al v H (Ext.refl _ _ _) R (q F al)
theorem pf_int {i : Int} {j} : PE X (.Constant (.int i) j pos) (tF X.K (eC (.d (.int i)))) := pf_c pe_int fun _ _ => rfl
theorem pf_bl {i : Bool} {j} : PE X (.Constant (.bool i) j pos) (tF X.K (eC (.d (.bl i)))) := pf_c pe_bl fun _ _ => rfl
theorem pf_non {j} : PE X (.Constant .none j pos) (tF X.K (eC (.d .non))) := pf_c pe_non fun _ _ => rfl
theorem pf_str {i : Str} {j} : PE X (.Constant (.str i) j pos) (tF X.K (eC (.d (.str i)))) := pf_c pe_str fun _ _ => rfl
theorem w_bin {r : R2} {g : Op2} {ma mb : M} (hr : ∀ x y H Q, r2F X.K g x y H Q → r x y H Q) : ∀ σ H Q, tF X.K (eBin g ma mb) σ H Q → tOp r (tF X.K ma) (tF X.K mb) σ H Q := fun σ H Q ⟨rho, F, al, d, r', R, e1, k⟩ => by
  obtain ⟨x, r1, y, r2, q1, q2, q3⟩ := eBin_some e1
  obtain ⟨c, q4, rfl⟩ := lift2_some q3
  refine ⟨rho, F, al, x, r1, R, q1, fun F1 al1 vx H1 x1 R1 p1 => ?_⟩
  refine ⟨r1, F1, al1, y, r2, R1, q2, fun F2 al2 vy H2 x2 R2 p2 => ?_⟩
  refine hr _ _ _ _ ⟨r2.cl, F2, al2, x, y, R2.c, x2.rep p1, p2, ?_⟩
  rw [q4]
  exact post_of R2.s fun F' al' v H' x3 R3 p3 => k F' al' v H' ((x1.trans x2).trans x3) R3 p3
theorem pf_op {op : Operator} {g : Op2} {ma mb : M} (ho : OpR X (binaryOp op) (r2F X.K g)) (ha : PE X a (tF X.K ma)) (hb : PE X b (tF X.K mb)) : PE X (.BinOp a op b pos) (tF X.K (eBin g ma mb)) :=
  PE.weak (pe_op ho ha hb) (w_bin fun _ _ _ _ h => h)
theorem pf_cmp {op : CmpOp} {g : Op2} {ma mb : M} (ho : OpR X (compareOp op) (r2F X.K g)) (ha : PE X a (tF X.K ma)) (hb : PE X b (tF X.K mb)) (hm : behindInMarks op b = false := by first | exact nomark _ | rfl) : PE X (.Compare a [op] [b] pos) (tF X.K (eBin g ma mb)) :=
  PE.weak (pe_cmpR ho ha hb hm) (w_bin fun _ _ _ _ h => h)
theorem pf_ix {g : Op2} {ma mb : M} (ho : IxR X (r2F X.K g)) (ha : PE X a (tF X.K ma)) (hb : PE X b (tF X.K mb)) (hs : PlainIx b := by exact fun _ _ => rfl) : PE X (.Subscript a b pos) (tF X.K (eBin g ma mb)) :=
  PE.weak (pe_ix ho ha hb hs) (w_bin fun _ _ _ _ h => h)
theorem pf_un {op : UnaryOp} {g : Op1} {ma : M} (ho : UnR X (unaryOp op) (r1F X.K g)) (ha : PE X a (tF X.K ma)) : PE X (.UnaryOp op a pos) (tF X.K (eUn g ma)) :=
  PE.weak (pe_un ho ha) fun σ H Q ⟨rho, F, al, d, r', R, e1, k⟩ => by
    obtain ⟨x, r1, q1, q3⟩ := eUn_some e1
    obtain ⟨c, q4, rfl⟩ := lift1_some q3
    refine ⟨rho, F, al, x, r1, R, q1, fun F1 al1 vx H1 x1 R1 p1 => ?_⟩
    refine ⟨r1.cl, F1, al1, x, R1.c, p1, ?_⟩
    rw [q4]
    exact post_of R1.s fun F' al' v H' x3 R3 p3 => k F' al' v H' (x1.trans x3) R3 p3
/-! ### argument lists, displays -/
theorem fa_nil : PA X [] (tFA X.K aNil) := PA.weak pa_nil fun σ H Q ⟨r, F, al, d, r', R, e1, k⟩ => by
  have e1 : some ([], r) = some (d, r') := e1
  cases e1
  exact k F al [] H (Ext.refl _ _ _) R rfl
theorem fa_cons {m : M} {ms : MS} (ha : PE X e (tF X.K m)) (hr : PA X es (tFA X.K ms)) (hs : starEach (e :: es) X.env = (false, eval e X.env) :: starEach es X.env := by rfl) : PA X (e :: es) (tFA X.K (aCons m ms)) :=
  PA.weak (pa_cons ha hr hs) fun σ H Q ⟨r, F, al, d, r', R, e1, k⟩ => by
    obtain ⟨x, r1, xs, q1, q2, rfl⟩ := aCons_some e1
    refine ⟨r, F, al, x, r1, R, q1, fun F1 al1 vx H1 x1 R1 p1 => ?_⟩
    exact ⟨r1, F1, al1, xs, r', R1, q2, fun F2 al2 vs H2 x2 R2 p2 => k F2 al2 _ H2 (x1.trans x2) R2 ⟨_, _, rfl, x2.rep p1, p2⟩⟩
theorem w_call {t : List V → Hp → VK → Prop} {g : OpN} {ms : MS} (hr : ∀ vs H Q, rNF X.K g vs H Q → t vs H Q) : ∀ σ H Q, tF X.K (eCall g ms) σ H Q → tFA X.K ms σ H fun vs H1 => t vs H1 Q := fun σ H Q ⟨rho, F, al, d, r', R, e1, k⟩ => by
  obtain ⟨xs, r1, q1, q3⟩ := eCall_some e1
  obtain ⟨c, q4, rfl⟩ := liftN_some q3
  refine ⟨rho, F, al, xs, r1, R, q1, fun F1 al1 vs H1 x1 R1 p1 => ?_⟩
  refine hr _ _ _ ⟨r1.cl, F1, al1, xs, R1.c, p1, ?_⟩
  rw [q4]
  exact post_of R1.s fun F' al' v H' x3 R3 p3 => k F' al' v H' (x1.trans x3) R3 p3
theorem w_meth {t : V → List V → Hp → VK → Prop} {g : OpN} {ma : M} {ms : MS} (hr : ∀ v vs H Q, rMF X.K g v vs H Q → t v vs H Q) : ∀ σ H Q, tF X.K (eMeth g ma ms) σ H Q → tF X.K ma σ H fun v H1 => tFA X.K ms σ H1 fun vs H2 => t v vs H2 Q := fun σ H Q ⟨rho, F, al, d, r', R, e1, k⟩ => by
  obtain ⟨x, r1, xs, r2, q1, q2, q3⟩ := eMeth_some e1
  obtain ⟨c, q4, rfl⟩ := liftN_some q3
  refine ⟨rho, F, al, x, r1, R, q1, fun F1 al1 vx H1 x1 R1 p1 => ?_⟩
  refine ⟨r1, F1, al1, xs, r2, R1, q2, fun F2 al2 vs H2 x2 R2 p2 => ?_⟩
  refine hr _ _ _ _ ⟨r2.cl, F2, al2, x, xs, R2.c, x2.rep p1, p2, ?_⟩
  rw [q4]
  exact post_of R2.s fun F' al' v H' x3 R3 p3 => k F' al' v H' ((x1.trans x2).trans x3) R3 p3
end

/-! ### new lists and tuples -/
/-- a new list: frozen at once, or a cell -/
def fresh (c : Bool) (ds : List W) (cl : List Cell) : R0 := if c then some (.cel cl.length, cl ++ [.lst ds]) else (datas ds).map fun xs => (.d (.lst xs), cl)
theorem fresh_ok {K : PySem.W.Frag} {cl : List Cell} {F : Hp} {al : List Addr} {H : Hp} {Q : VK} {c : Bool} {ds : List W} {vs : List V} {p : Addr} (h : PostV K F al H Q (fresh c ds cl)) (C : Cells K cl F al H) (q : Reps K F al ds vs) (hp : H p = none) : Q (.ref p) (upd H p (.lst vs)) := by
  obtain ⟨hF, hal⟩ := C.free hp
  cases c with
  | false =>
    obtain ⟨d, cl', e, k⟩ := h.some
    obtain ⟨xs, e1, e2⟩ := Option.map_eq_some_iff.mp (show (datas ds).map _ = _ from e)
    cases e2
    have q0 : Reps0 K F xs vs := by
      rw [datas_some e1] at q
      exact q.to0
    exact k _ _ _ _ (ext_frz hF hp) (C.frz hp) ⟨p, vs, rfl, upd_same, Reps0.mono (ext_frz (al := al) hF hp).f q0⟩
  | true =>
    have x : Ext F al H F (al ++ [p]) (upd H p (.lst vs)) := ext_new hF hp
    refine h _ _ _ _ x (C.new hp ⟨hF, vs, upd_same, x.reps q⟩) ⟨p, rfl, ?_⟩
    rw [← C.len, List.getElem?_append_right (Nat.le_refl _), Nat.sub_self]
    rfl
/-- a new tuple -/
def tupW (ws : List W) : W := match datas ws with
  | some xs => .d (.tup xs)
  | none => .tup ws
theorem tup_ok {K : PySem.W.Frag} {cl : List Cell} {F : Hp} {al : List Addr} {H : Hp} {Q : VK} {ds : List W} {vs : List V} {p : Addr} (h : PostV K F al H Q (some (tupW ds, cl))) (C : Cells K cl F al H) (q : Reps K F al ds vs) (hp : H p = none) : Q (.ref p) (upd H p (.tup vs)) := by
  obtain ⟨hF, hal⟩ := C.free hp
  refine h _ _ _ _ (ext_frz hF hp) (C.frz hp) ?_
  unfold tupW
  split
  · rename_i xs e
    have q0 : Reps0 K F xs vs := by
      rw [datas_some e] at q
      exact q.to0
    exact ⟨p, vs, rfl, upd_same, Reps0.mono (ext_frz (al := al) hF hp).f q0⟩
  · exact ⟨p, vs, rfl, upd_same, (ext_frz (al := al) hF hp).reps q⟩
def oLst (c : Bool) : OpN := fun cl ds => if ds.length ≤ sizeLine then fresh c ds cl else none
def oTup : OpN := fun cl ds => if ds.length ≤ sizeLine then some (tupW ds, cl) else none
section
variable {X : Cx} {a b e : Expr} {es : List Expr} {pos : Pos}
theorem pf_lst (c : Bool) {ms : MS} (h : PA X es (tFA X.K ms)) : PE X (.List es pos) (tF X.K (eCall (oLst c) ms)) :=
  PE.weak (pe_lst h) (w_call (t := fun xs H1 Q => xs.length ≤ sizeLine ∧ ∀ p, H1 p = none → Q (.ref p) (upd H1 p (.lst xs))) fun vs H Q ⟨cl, F, al, ds, C, r, k⟩ => by
    unfold oLst at k
    split at k
    · exact ⟨by rw [r.length]; assumption, fun p hp => fresh_ok k C r hp⟩
    · exact k.elim)
theorem pf_tup {x1} {ms : MS} (h : PA X es (tFA X.K ms)) : PE X (.Tuple es x1 pos) (tF X.K (eCall oTup ms)) :=
  PE.weak (pe_tup h) (w_call (t := fun xs H1 Q => xs.length ≤ sizeLine ∧ ∀ p, H1 p = none → Q (.ref p) (upd H1 p (.tup xs))) fun vs H Q ⟨cl, F, al, ds, C, r, k⟩ => by
    unfold oTup at k
    split at k
    · exact ⟨by rw [r.length]; assumption, fun p hp => tup_ok k C r hp⟩
    · exact k.elim)
end

/-! ### lists and tuples as they are read -/
def asList (cl : List Cell) : W → Option (List W)
  | .d (.lst ds) => some (ds.map W.d)
  | .d (.rol ds) => some (ds.map W.d)
  | .cel n => match cl[n]? with
    | some (.lst ds) => some ds
    | _ => none
  | _ => none
/-- .. a list of our own -/
def asOwn (cl : List Cell) : W → Option (List W)
  | .d (.lst ds) => some (ds.map W.d)
  | .cel n => match cl[n]? with
    | some (.lst ds) => some ds
    | _ => none
  | _ => none
def asTup : W → Option (List W)
  | .d (.tup ds) => some (ds.map W.d)
  | .d (.rtup ds) => some (ds.map W.d)
  | .tup ws => some ws
  | _ => none
theorem asTup_ok {K : PySem.W.Frag} {F : Hp} {al : List Addr} {x : W} {v : V} (r : Rep K F al x v) {ds : List W} (h : asTup x = some ds) : ∃ a vs, v = .ref a ∧ SqT K F a vs ∧ Reps K F al ds vs := by
  unfold asTup at h
  split at h
  · cases h
    obtain ⟨a, vs, e1, e2, e3⟩ := r
    exact ⟨a, vs, e1, SqT.of e2, Reps.of0 e3⟩
  · cases h
    obtain ⟨a, vs, e1, e2, e3⟩ := r
    exact ⟨a, vs, e1, e2, Reps.of0 e3⟩
  · cases h
    obtain ⟨a, vs, e1, e2, e3⟩ := r
    exact ⟨a, vs, e1, SqT.of e2, e3⟩
  · cases h
/-- a tuple of our own -/
def asTupP : W → Option (List W)
  | .d (.tup ds) => some (ds.map W.d)
  | .tup ws => some ws
  | _ => none
theorem asTupP_up {x : W} {ds : List W} (h : asTupP x = some ds) : asTup x = some ds := by
  unfold asTupP at h
  split at h
  · exact h
  · exact h
  · cases h
theorem asOwn_ok {K : PySem.W.Frag} {cl : List Cell} {F : Hp} {al : List Addr} {H : Hp} (C : Cells K cl F al H) {x : W} {v : V} (r : Rep K F al x v) {ds : List W} (h : asOwn cl x = some ds) : ∃ a vs, v = .ref a ∧ H a = some (.lst vs) ∧ Reps K F al ds vs := by
  unfold asOwn at h
  split at h
  · cases h
    obtain ⟨a, vs, e1, e2, e3⟩ := r
    exact ⟨a, vs, e1, C.fh _ _ e2, Reps.of0 e3⟩
  · obtain ⟨a, e1, e2⟩ := r
    split at h
    · cases h
      rename_i q
      obtain ⟨_, vs, q1, q2⟩ := C.ok _ _ _ e2 q
      exact ⟨a, vs, e1, q1, q2⟩
    · cases h
  · cases h
theorem asList_ok {K : PySem.W.Frag} {cl : List Cell} {F : Hp} {al : List Addr} {H : Hp} (C : Cells K cl F al H) {x : W} {v : V} (r : Rep K F al x v) {ds : List W} (h : asList cl x = some ds) : ∃ a vs, v = .ref a ∧ SqL K H a vs ∧ Reps K F al ds vs := by
  unfold asList at h
  split at h
  · cases h
    obtain ⟨a, vs, e1, e2, e3⟩ := r
    exact ⟨a, vs, e1, SqL.of (C.fh _ _ e2), Reps.of0 e3⟩
  · cases h
    obtain ⟨a, vs, e1, e2, e3⟩ := r
    exact ⟨a, vs, e1, C.fh.seq e2, Reps.of0 e3⟩
  · obtain ⟨a, e1, e2⟩ := r
    split at h
    · cases h
      rename_i q
      obtain ⟨_, vs, q1, q2⟩ := C.ok _ _ _ e2 q
      exact ⟨a, vs, e1, SqL.of q1, q2⟩
    · cases h
  · cases h
theorem OpR.weak {X : Cx} {f : Value → Value → Sem Value} {r r' : R2} (h : OpR X f r) (w : ∀ x y H Q, r' x y H Q → r x y H Q) : OpR X f r' := fun pins s σ H x y v u Q I rx ry q => h pins s σ H x y v u Q I rx ry (w _ _ _ _ q)
theorem IxR.weak {X : Cx} {r r' : R2} (h : IxR X r) (w : ∀ x y H Q, r' x y H Q → r x y H Q) : IxR X r' := fun va sl pins s σ H x y v u Q I rx ry q => h va sl pins s σ H x y v u Q I rx ry (w _ _ _ _ q)
theorem UnR.weak {X : Cx} {f : Value → Sem Value} {r r' : V → Hp → VK → Prop} (h : UnR X f r) (w : ∀ x H Q, r' x H Q → r x H Q) : UnR X f r' := fun pins s σ H x v Q I rx q => h pins s σ H x v Q I rx (w _ _ _ q)
theorem CallR.weak {X : Cx} {f : Value} {r r' : List V → Hp → VK → Prop} (h : CallR X f r) (w : ∀ x H Q, r' x H Q → r x H Q) : CallR X f r' := fun pins s σ H xs us Q I rx q => h pins s σ H xs us Q I rx (w _ _ _ q)
theorem MtR.weak {X : Cx} {id : String} {r r' : V → List V → Hp → VK → Prop} (h : MtR X id r) (w : ∀ x vs H Q, r' x vs H Q → r x vs H Q) : MtR X id r' := fun pins s σ H x xs v us Q I rx rv q => h pins s σ H x xs v us Q I rx rv (w _ _ _ _ q)

theorem atI_map {K : PySem.W.Frag} {F : Hp} {al : List Addr} {ds : List W} {vs : List V} {i : Int} {d : W} (r : Reps K F al ds vs) (h : atI ds i = some d) : ∃ v, atI vs i = some v ∧ Rep K F al d v := by
  unfold atI at h ⊢
  rw [r.length]
  cases e : ixN ds.length i with
  | none =>
    rw [e] at h
    cases h
  | some j =>
    rw [e] at h
    exact r.get h
theorem PostV.none_elim {K : PySem.W.Frag} {F : Hp} {al : List Addr} {H : Hp} {Q : VK} {P : Prop} {r : R0} (h : PostV K F al H Q r) (e : r = none) : P := by
  rw [e] at h
  exact h.elim
/-- x[i] of lists, tuples, texts -/
def dIx : Op2 := fun cl x y => match y with
  | .d (.int i) => match x with
    | .d (.str z) => if z.length ≤ sizeLine then (atI z.cps.toList i).map fun c => (.d (.str ⟨#[c]⟩), cl) else none
    | x => match asTup x with
      | some ds => (atI ds i).map fun d => (d, cl)
      | none => (asList cl x).bind fun ds => (atI ds i).map fun d => (d, cl)
  | _ => none
theorem ix_ok {X : Cx} : IxR X (r2F X.K dIx) := IxR.weak ix_seq fun vx vy H Q ⟨cl, F, al, x, y, C, rx, ry, k⟩ => by
  obtain ⟨d, cl', e, kk⟩ := k.some
  unfold dIx at e
  split at e
  · rename_i i
    have ry : vy = .int i := ry
    subst ry
    split at e
    · rename_i z
      have rx : vx = .str z := rx
      subst rx
      split at e
      · obtain ⟨c, e1, e2⟩ := Option.map_eq_some_iff.mp e
        cases e2
        exact .inr (.inr ⟨z, i, c, rfl, rfl, by assumption, e1, kk F al _ H (Ext.refl _ _ _) C rfl⟩)
      · cases e
    · split at e
      · rename_i ds et
        obtain ⟨a, vs, rfl, h1, h2⟩ := asTup_ok rx et
        obtain ⟨d', e1, e2⟩ := Option.map_eq_some_iff.mp e
        cases e2
        obtain ⟨v, q1, q2⟩ := atI_map h2 e1
        exact .inr (.inl ⟨a, vs, i, v, rfl, rfl, Same.seqT C.fh h1, q1, kk F al v H (Ext.refl _ _ _) C q2⟩)
      · obtain ⟨ds, e1, e2⟩ := Option.bind_eq_some_iff.mp e
        obtain ⟨d', e3, e4⟩ := Option.map_eq_some_iff.mp e2
        cases e4
        obtain ⟨a, vs, rfl, h1, h2⟩ := asList_ok C rx e1
        obtain ⟨v, q1, q2⟩ := atI_map h2 e3
        exact .inl ⟨a, vs, i, v, rfl, rfl, h1, q1, kk F al v H (Ext.refl _ _ _) C q2⟩
  · cases e
end FL

namespace FL
open PySem PySem.Spec L2

/-! ### tests -/
def bVal (m : M) : MB := fun r => match m r with
  | some (.d (.bl b), r1) => some (b, r1)
  | _ => none
def bAnd (a b : MB) : MB := fun r => match a r with
  | some (true, r1) => b r1
  | some (false, r1) => some (false, r1)
  | none => none
def bOr (a b : MB) : MB := fun r => match a r with
  | some (true, r1) => some (true, r1)
  | some (false, r1) => b r1
  | none => none
def bNot (a : MB) : MB := fun r => match a r with
  | some (b, r1) => some (!b, r1)
  | none => none
def eIf (c : MB) (a b : M) : M := fun r => match c r with
  | some (true, r1) => a r1
  | some (false, r1) => b r1
  | none => none
/-- a test as a value -/
def eOfB (a : MB) : M := fun r => match a r with
  | some (b, r1) => some (.d (.bl b), r1)
  | none => none
/-- a value by its truth -/
def truth (cl : List Cell) : W → Option Bool
  | .d .non => some false
  | .d (.bl b) => some b
  | .d (.int i) => some (i != 0)
  | .d (.str z) => if z.length ≤ sizeLine then some (z.length != 0) else none
  | x => match asTup x with
    | some ds => some (!ds.isEmpty)
    | none => (asList cl x).map fun ds => !ds.isEmpty
def bTru (m : M) : MB := fun r => match m r with
  | some (d, r1) => match truth r1.cl d with
    | some b => some (b, r1)
    | none => none
  | none => none
section
variable {X : Cx} {a b c e : Expr} {rest : List Expr} {pos : Pos}
theorem bVal_some {m : M} {r : Rho} {b : Bool} {r' : Rho} (h : bVal m r = some (b, r')) : m r = some (.d (.bl b), r') := by
  unfold bVal at h
  split at h
  · cases h
    assumption
  · cases h
theorem w_tB {t : TE} {m : M} (hm : ∀ σ H Q, tF X.K m σ H Q → t σ H Q) : ∀ σ H Q, tFB X.K (bVal m) σ H Q → t σ H fun x H1 => ∃ k, x = .bl k ∧ Q k H1 := fun σ H Q ⟨rho, F, al, d, r', R, e1, k⟩ => by
  refine hm _ _ _ ⟨rho, F, al, .d (.bl d), r', R, bVal_some e1, fun F1 al1 v H1 x1 R1 p1 => ?_⟩
  have p1 : v = .bl d := p1
  subst p1
  exact ⟨d, rfl, k F1 al1 H1 x1 R1⟩
theorem ft_val {m : M} (h : PE X e (tF X.K m)) (he : ∀ whole, isTrue e X.env whole = (do let v ← whole; standAt e.pos; holding [v] (truthy v)) := by intro _; rfl) : PT X e (tFB X.K (bVal m)) :=
  PT.weak (pt_val h he) (w_tB fun _ _ _ h => h)
theorem ft_cmp {op : CmpOp} {g : Op2} {ma mb : M} (ho : OpR X (compareOp op) (r2F X.K g)) (ha : PE X a (tF X.K ma)) (hb : PE X b (tF X.K mb)) (hm : behindInMarks op b = false := by first | exact nomark _ | rfl) : PT X (.Compare a [op] [b] pos) (tFB X.K (bVal (eBin g ma mb))) :=
  PT.weak (pt_cmpR ho ha hb hm) (w_tB (w_bin fun _ _ _ _ h => h))
theorem Reps.isEmpty {K : PySem.W.Frag} {F : Hp} {al : List Addr} {ds : List W} {vs : List V} (r : Reps K F al ds vs) : vs.isEmpty = ds.isEmpty := by
  have e := r.length
  cases ds with
  | nil =>
    cases vs with
    | nil => rfl
    | cons v vs => cases e
  | cons d ds =>
    cases vs with
    | nil => cases e
    | cons v vs => rfl
theorem truth_ok {K : PySem.W.Frag} {cl : List Cell} {F : Hp} {al : List Addr} {H : Hp} (C : Cells K cl F al H) {d : W} {v : V} (r : Rep K F al d v) {b : Bool} (h : truth cl d = some b) : TruV K v H b := by
  unfold truth at h
  split at h
  · have r : v = .non := r
    subst r
    cases h
    exact rfl
  · rename_i k
    have r : v = .bl k := r
    subst r
    cases h
    exact rfl
  · rename_i i
    have r : v = .int i := r
    subst r
    cases h
    exact rfl
  · rename_i z
    have r : v = .str z := r
    subst r
    split at h
    · cases h
      refine ⟨by assumption, ?_⟩
      by_cases e : z.length = 0
      · rw [e]
        rfl
      · have e1 : (z.length != 0) = true := by simpa using e
        have e2 : ((z.length : Int) != 0) = true := by
          have : ¬ (z.length : Int) = 0 := by omega
          simpa using this
        rw [e1, e2]
    · cases h
  · split at h
    · rename_i ds et
      cases h
      obtain ⟨a, vs, rfl, h1, h2⟩ := asTup_ok r et
      exact .inr (.inl ⟨vs, Same.seqT C.fh h1, by rw [h2.isEmpty]⟩)
    · obtain ⟨ds, e1, e2⟩ := Option.map_eq_some_iff.mp h
      obtain ⟨a, vs, rfl, h1, h2⟩ := asList_ok C r e1
      exact .inl ⟨vs, h1, by rw [h2.isEmpty, e2]⟩
theorem ft_tru {m : M} (h : PE X e (tF X.K m)) (he : ∀ whole, isTrue e X.env whole = (do let v ← whole; standAt e.pos; holding [v] (truthy v)) := by intro _; rfl) : PT X e (tFB X.K (bTru m)) :=
  PT.weak (pt_truth h he) fun σ H Q ⟨rho, F, al, d, r', R, e1, k⟩ => by
    unfold bTru at e1
    split at e1
    · rename_i d0 r1 q
      split at e1
      · rename_i b q2
        cases e1
        exact ⟨rho, F, al, d0, r', R, q, fun F1 al1 v H1 x1 R1 p1 => ⟨d, truth_ok R1.c p1 q2, k F1 al1 H1 x1 R1⟩⟩
      · cases e1
    · cases e1
theorem ft_not {m : MB} (h : PT X e (tFB X.K m)) : PT X (.UnaryOp .Not e pos) (tFB X.K (bNot m)) :=
  PT.weak (pt_not h) fun σ H Q ⟨rho, F, al, d, r', R, e1, k⟩ => by
    unfold bNot at e1
    split at e1
    · cases e1
      exact ⟨rho, F, al, _, r', R, by assumption, fun F1 al1 H1 x1 R1 => k F1 al1 H1 x1 R1⟩
    · cases e1
theorem fw_and1 {m : MB} (h : PT X e (tFB X.K m)) : PW X (.BoolOp .And [e] pos) (tFB X.K m) := pw_and1 h
theorem fw_or1 {m : MB} (h : PT X e (tFB X.K m)) : PW X (.BoolOp .Or [e] pos) (tFB X.K m) := pw_or1 h
theorem PW.weak {t t' : TT} (h : PW X e t) (w : ∀ σ H Q, t' σ H Q → t σ H Q) : PW X e t' := ⟨fun wh pins s σ H Q I q => h.run wh pins s σ H Q I (w σ H Q q)⟩
theorem w_and {ma mb : MB} : ∀ σ H Q, tFB X.K (bAnd ma mb) σ H Q → tAnd (tFB X.K ma) (tFB X.K mb) σ H Q := fun σ H Q ⟨rho, F, al, d, r', R, e1, k⟩ => by
  unfold bAnd at e1
  split at e1
  · rename_i r1 q
    exact ⟨rho, F, al, true, r1, R, q, fun F1 al1 H1 x1 R1 => iteT ⟨r1, F1, al1, d, r', R1, e1, fun F2 al2 H2 x2 R2 => k F2 al2 H2 (x1.trans x2) R2⟩⟩
  · rename_i q
    cases e1
    exact ⟨rho, F, al, false, r', R, q, fun F1 al1 H1 x1 R1 => iteF (k F1 al1 H1 x1 R1)⟩
  · cases e1
theorem w_or {ma mb : MB} : ∀ σ H Q, tFB X.K (bOr ma mb) σ H Q → tOr (tFB X.K ma) (tFB X.K mb) σ H Q := fun σ H Q ⟨rho, F, al, d, r', R, e1, k⟩ => by
  unfold bOr at e1
  split at e1
  · rename_i q
    cases e1
    exact ⟨rho, F, al, true, r', R, q, fun F1 al1 H1 x1 R1 => iteT (k F1 al1 H1 x1 R1)⟩
  · rename_i r1 q
    exact ⟨rho, F, al, false, r1, R, q, fun F1 al1 H1 x1 R1 => iteF ⟨r1, F1, al1, d, r', R1, e1, fun F2 al2 H2 x2 R2 => k F2 al2 H2 (x1.trans x2) R2⟩⟩
  · cases e1
theorem fw_and {ma mb : MB} (ha : PT X a (tFB X.K ma)) (hb : PW X (.BoolOp .And (b :: rest) pos) (tFB X.K mb)) : PW X (.BoolOp .And (a :: b :: rest) pos) (tFB X.K (bAnd ma mb)) := PW.weak (pw_and ha hb) w_and
theorem fw_or {ma mb : MB} (ha : PT X a (tFB X.K ma)) (hb : PW X (.BoolOp .Or (b :: rest) pos) (tFB X.K mb)) : PW X (.BoolOp .Or (a :: b :: rest) pos) (tFB X.K (bOr ma mb)) := PW.weak (pw_or ha hb) w_or
/-! .. as values: all but the last True or False -/
def eAnd (a b : M) : M := fun r => match a r with
  | some (.d (.bl true), r1) => b r1
  | some (.d (.bl false), r1) => some (.d (.bl false), r1)
  | _ => none
def eOr (a b : M) : M := fun r => match a r with
  | some (.d (.bl true), r1) => some (.d (.bl true), r1)
  | some (.d (.bl false), r1) => b r1
  | _ => none
def eNot (a : M) : M := fun r => match a r with
  | some (.d (.bl b), r1) => some (.d (.bl (!b)), r1)
  | _ => none
theorem pf_one {op} {m : M} (h : PE X e (tF X.K m)) : PE X (.BoolOp op [e] pos) (tF X.K m) := pe_one h
theorem pf_and {ma mb : M} (ha : PE X a (tF X.K ma)) (hb : PE X (.BoolOp .And (b :: rest) pos) (tF X.K mb)) : PE X (.BoolOp .And (a :: b :: rest) pos) (tF X.K (eAnd ma mb)) :=
  PE.weak (pe_and ha hb) fun σ H Q ⟨rho, F, al, d, r', R, e1, k⟩ => by
    unfold eAnd at e1
    split at e1
    · rename_i r1 q
      refine ⟨rho, F, al, _, r1, R, q, fun F1 al1 v H1 x1 R1 p1 => ?_⟩
      have p1 : v = .bl true := p1
      exact ⟨true, p1, iteT ⟨r1, F1, al1, d, r', R1, e1, fun F2 al2 v H2 x2 R2 p2 => k F2 al2 v H2 (x1.trans x2) R2 p2⟩⟩
    · rename_i q
      cases e1
      refine ⟨rho, F, al, _, r', R, q, fun F1 al1 v H1 x1 R1 p1 => ?_⟩
      have p1 : v = .bl false := p1
      exact ⟨false, p1, iteF (k F1 al1 _ H1 x1 R1 rfl)⟩
    · cases e1
theorem pf_or {ma mb : M} (ha : PE X a (tF X.K ma)) (hb : PE X (.BoolOp .Or (b :: rest) pos) (tF X.K mb)) : PE X (.BoolOp .Or (a :: b :: rest) pos) (tF X.K (eOr ma mb)) :=
  PE.weak (pe_or ha hb) fun σ H Q ⟨rho, F, al, d, r', R, e1, k⟩ => by
    unfold eOr at e1
    split at e1
    · rename_i q
      cases e1
      refine ⟨rho, F, al, _, r', R, q, fun F1 al1 v H1 x1 R1 p1 => ?_⟩
      have p1 : v = .bl true := p1
      exact ⟨true, p1, iteT (k F1 al1 _ H1 x1 R1 rfl)⟩
    · rename_i r1 q
      refine ⟨rho, F, al, _, r1, R, q, fun F1 al1 v H1 x1 R1 p1 => ?_⟩
      have p1 : v = .bl false := p1
      exact ⟨false, p1, iteF ⟨r1, F1, al1, d, r', R1, e1, fun F2 al2 v H2 x2 R2 p2 => k F2 al2 v H2 (x1.trans x2) R2 p2⟩⟩
    · cases e1
theorem pf_not {ma : M} (ha : PE X a (tF X.K ma)) : PE X (.UnaryOp .Not a pos) (tF X.K (eNot ma)) :=
  PE.weak (pe_not ha) fun σ H Q ⟨rho, F, al, d, r', R, e1, k⟩ => by
    unfold eNot at e1
    split at e1
    · rename_i b r1 q
      cases e1
      refine ⟨rho, F, al, _, _, R, q, fun F1 al1 v H1 x1 R1 p1 => ?_⟩
      have p1 : v = .bl b := p1
      exact ⟨b, p1, k F1 al1 _ H1 x1 R1 rfl⟩
    · cases e1
theorem pf_ifx {mc : MB} {ma mb : M} (hc : PT X c (tFB X.K mc)) (ha : PE X a (tF X.K ma)) (hb : PE X b (tF X.K mb)) : PE X (.IfExp c a b pos) (tF X.K (eIf mc ma mb)) :=
  PE.weak (pe_ifExp hc ha hb) fun σ H Q ⟨rho, F, al, d, r', R, e1, k⟩ => by
    unfold eIf at e1
    split at e1
    · rename_i r1 q
      exact ⟨rho, F, al, true, r1, R, q, fun F1 al1 H1 x1 R1 => iteT ⟨r1, F1, al1, d, r', R1, e1, fun F2 al2 v H2 x2 R2 p2 => k F2 al2 v H2 (x1.trans x2) R2 p2⟩⟩
    · rename_i r1 q
      exact ⟨rho, F, al, false, r1, R, q, fun F1 al1 H1 x1 R1 => iteF ⟨r1, F1, al1, d, r', R1, e1, fun F2 al2 v H2 x2 R2 p2 => k F2 al2 v H2 (x1.trans x2) R2 p2⟩⟩
    · cases e1
end

/-! ### targets -/
/-- what a target makes of a value; ws: the slots that it may touch -/
abbrev MG := W → Rho → Option Rho
def gF (K : PySem.W.Frag) (ws : List Nat) (g : MG) : TG := fun v σ H Q => ∃ r F al d r', Rel K r F al σ H ∧ Rep K F al d v ∧ g d r = some r' ∧
  ∀ F' al' σ' H', Ext F al H F' al' H' → Rel K r' F' al' σ' H' → σ'.length = σ.length → (∀ j, j ∉ ws → σ'[j]? = σ[j]?) → Q σ' H'
abbrev MGs := List W → Rho → Option Rho
def gFs (K : PySem.W.Frag) (ws : List Nat) (g : MGs) : TGs := fun v σ H Q => ∃ r F al d r', Rel K r F al σ H ∧ Reps K F al d v ∧ g d r = some r' ∧
  ∀ F' al' σ' H', Ext F al H F' al' H' → Rel K r' F' al' σ' H' → σ'.length = σ.length → (∀ j, j ∉ ws → σ'[j]? = σ[j]?) → Q σ' H'
def tName (i : Nat) : MG := fun d r => some { r with sl := r.sl.set i (some d) }
def tsNil : MGs := fun ds r => match ds with
  | [] => some r
  | _ => none
def tsCons (g : MG) (gs : MGs) : MGs := fun ds r => match ds with
  | d :: ds => match g d r with
    | some r1 => gs ds r1
    | none => none
  | _ => none
def tTupG (n : Nat) (gs : MGs) : MG := fun d r => match asTup d with
  | some ds => if ds.length = n then gs ds r else none
  | none => none
theorem PG.weak {X : Cx} {tg : Expr} {t t' : TG} (h : PG X tg t) (w : ∀ v σ H Q, t' v σ H Q → t v σ H Q) : PG X tg t' := ⟨fun pins s σ H v u Q I r q => h.run pins s σ H v u Q I r (w _ _ _ _ q)⟩
theorem PGs.weak {X : Cx} {tg : List Expr} {t t' : TGs} (h : PGs X tg t) (w : ∀ v σ H Q, t' v σ H Q → t v σ H Q) : PGs X tg t' := ⟨fun pins s σ H v u Q I r q => h.run pins s σ H v u Q I r (w _ _ _ _ q)⟩
section
variable {X : Cx} {pos : Pos}
theorem set_other {σ : St} {i : Nat} {v : Option V} : ∀ j, j ∉ [i] → (σ.set i v)[j]? = σ[j]? := fun j hj => List.getElem?_set_ne (fun e => hj (by rw [e]; exact List.mem_singleton.mpr rfl))
theorem fg_name {i : Nat} {x : Str} (h : PG X (.Name x pos) (gName i)) : PG X (.Name x pos) (gF X.K [i] (tName i)) := PG.weak h fun v σ H Q ⟨r, F, al, d, r', R, p, e1, k⟩ => by
  have e1 : some { r with sl := r.sl.set i (some d) } = some r' := e1
  cases e1
  exact k F al _ H (Ext.refl _ _ _) ⟨R.s.set i p, R.c⟩ List.length_set set_other
theorem fgs_nil : PGs X [] (gFs X.K [] tsNil) := PGs.weak pgs_nil fun v σ H Q ⟨r, F, al, d, r', R, p, e1, k⟩ => by
  cases d with
  | nil =>
    have e1 : some r = some r' := e1
    cases e1
    exact ⟨p, k F al σ H (Ext.refl _ _ _) R rfl fun _ _ => rfl⟩
  | cons d ds => cases e1
theorem fgs_cons {e : Expr} {es : List Expr} {g : MG} {gs : MGs} {ws ws' : List Nat} (h1 : PG X e (gF X.K ws g)) (h2 : PGs X es (gFs X.K ws' gs))
    (hs : (assignEach (e :: es) X.env).map (·.2) = assign e X.env :: (assignEach es X.env).map (·.2) := by rfl) : PGs X (e :: es) (gFs X.K (ws ++ ws') (tsCons g gs)) :=
  PGs.weak (pgs_cons h1 h2 hs) fun v σ H Q ⟨r, F, al, d, r', R, p, e1, k⟩ => by
    cases d with
    | nil => cases e1
    | cons d ds =>
      simp only [tsCons] at e1
      split at e1
      · rename_i r1 q
        obtain ⟨v, vs, rfl, p1, p2⟩ := p
        refine ⟨v, vs, rfl, r, F, al, d, r1, R, p1, q, fun F1 al1 σ1 H1 x1 R1 l1 o1 => ?_⟩
        refine ⟨r1, F1, al1, ds, r', R1, x1.reps p2, e1, fun F2 al2 σ2 H2 x2 R2 l2 o2 => k F2 al2 σ2 H2 (x1.trans x2) R2 (l2.trans l1) fun j hj => ?_⟩
        rw [List.mem_append, not_or] at hj
        exact (o2 j hj.2).trans (o1 j hj.1)
      · cases e1
theorem fg_tup {es : List Expr} {k : Nat} {gs : MGs} {n : Nat} {ws : List Nat} (hc : X.calm = true) (h : PGs X es (gFs X.K ws gs))
    (hn : (assignEach es X.env).length = n := by rfl) (hst : (assignEach es X.env).findIdx? (·.1) = none := by rfl) : PG X (.Tuple es k pos) (gF X.K ws (tTupG n gs)) :=
  PG.weak (pg_tup hc h hn hst) fun v σ H Q ⟨r, F, al, d, r', R, p, e1, k⟩ => by
    unfold tTupG at e1
    split at e1
    · rename_i ds et
      split at e1
      · obtain ⟨a, vs, rfl, h1, h2⟩ := asTup_ok p et
        exact ⟨a, vs, rfl, Same.seqT R.c.fh h1, by rw [h2.length]; assumption, r, F, al, ds, r', R, h2, e1, k⟩
      · cases e1
    · cases e1
end

/-! ### statements -/
def sNil : G := fun r => some (.nx r)
def sSeq (g h : G) : G := fun r => match g r with
  | some (.nx r1) => h r1
  | x => x
def sExpr (m : M) : G := fun r => match m r with
  | some (_, r1) => some (.nx r1)
  | none => none
def sRet (m : M) : G := fun r => match m r with
  | some (d, r1) => some (.ret d r1)
  | none => none
def sRetN : G := fun r => some (.ret (.d .non) r)
def sIf (c : MB) (g h : G) : G := fun r => match c r with
  | some (true, r1) => g r1
  | some (false, r1) => h r1
  | none => none
def sAsg (m : M) (g : MG) : G := fun r => match m r with
  | some (d, r1) => match g d r1 with
    | some r2 => some (.nx r2)
    | none => none
  | none => none
def sBrk : G := fun r => some (.bk r)
def sCnt : G := fun r => some (.ct r)
section
variable {X : Cx} {st : Stmt} {rest : List Stmt} {e tg : Expr} {pos : Pos}
theorem fss_nil : PSs X [] (tFS X.K sNil) := PSs.weak pss_nil fun D σ H ⟨r, F, al, o, R, e1, k⟩ => by
  have e1 : some (Out.nx r) = some o := e1
  cases e1
  exact k F al σ H (Ext.refl _ _ _) R
theorem w_seq {g h : G} : ∀ D σ H, tFS X.K (sSeq g h) D σ H → tSeq (tFS X.K g) (tFS X.K h) D σ H := fun D σ H ⟨r, F, al, o, R, e1, k⟩ => by
  unfold sSeq at e1
  split at e1
  · rename_i r1 q
    exact ⟨r, F, al, .nx r1, R, q, fun F1 al1 σ1 H1 x1 R1 => ⟨r1, F1, al1, o, R1, e1, k.ext x1⟩⟩
  · rename_i q
    refine ⟨r, F, al, o, R, e1, ?_⟩
    cases o with
    | nx r1 => exact absurd e1 (q r1)
    | ret d r1 => exact k
    | bk r1 => exact k
    | ct r1 => exact k
theorem fss_cons {g h : G} (h1 : PS X st (tFS X.K g)) (h2 : PSs X rest (tFS X.K h)) : PSs X (st :: rest) (tFS X.K (sSeq g h)) := PSs.weak (pss_cons h1 h2) w_seq
theorem fss_one {g : G} (h1 : PS X st (tFS X.K g)) : PSs X [st] (tFS X.K g) := pss_one h1
theorem fs_expr {m : M} (he : PE X e (tF X.K m)) (hs : swapsWith e none pos.line X.env = pure false := by rfl) : PS X (.Expr e pos) (tFS X.K (sExpr m)) :=
  PS.weak (ps_expr he hs) fun D σ H ⟨r, F, al, o, R, e1, k⟩ => by
    unfold sExpr at e1
    split at e1
    · rename_i d r1 q
      cases e1
      exact ⟨r, F, al, d, r1, R, q, fun F1 al1 v H1 x1 R1 p1 => k F1 al1 σ H1 x1 R1⟩
    · cases e1
theorem fs_ret {m : M} (he : PE X e (tF X.K m)) : PS X (.Return (some e) pos) (tFS X.K (sRet m)) :=
  PS.weak (ps_ret he) fun D σ H ⟨r, F, al, o, R, e1, k⟩ => by
    unfold sRet at e1
    split at e1
    · rename_i d r1 q
      cases e1
      exact ⟨r, F, al, d, r1, R, q, fun F1 al1 v H1 x1 R1 p1 => k F1 al1 v σ H1 x1 R1 p1⟩
    · cases e1
theorem fs_retN : PS X (.Return none pos) (tFS X.K sRetN) := PS.weak ps_retN fun D σ H ⟨r, F, al, o, R, e1, k⟩ => by
  have e1 : some (Out.ret (.d .non) r) = some o := e1
  cases e1
  exact k F al .non σ H (Ext.refl _ _ _) R rfl
theorem fs_pass : PS X (.Pass pos) (tFS X.K sNil) := PS.weak ps_pass fun D σ H ⟨r, F, al, o, R, e1, k⟩ => by
  have e1 : some (Out.nx r) = some o := e1
  cases e1
  exact k F al σ H (Ext.refl _ _ _) R
theorem fs_break : PS X (.Break pos) (tFS X.K sBrk) := PS.weak ps_break fun D σ H ⟨r, F, al, o, R, e1, k⟩ => by
  have e1 : some (Out.bk r) = some o := e1
  cases e1
  exact k F al σ H (Ext.refl _ _ _) R
theorem fs_continue : PS X (.Continue pos) (tFS X.K sCnt) := PS.weak ps_continue fun D σ H ⟨r, F, al, o, R, e1, k⟩ => by
  have e1 : some (Out.ct r) = some o := e1
  cases e1
  exact k F al σ H (Ext.refl _ _ _) R
theorem fs_if {c : Expr} {a b : List Stmt} {mc : MB} {g h : G} (hc : PT X c (tFB X.K mc)) (ha : PSs X a (tFS X.K g)) (hb : PSs X b (tFS X.K h)) : PS X (.If c a b pos) (tFS X.K (sIf mc g h)) :=
  PS.weak (ps_if hc ha hb) fun D σ H ⟨r, F, al, o, R, e1, k⟩ => by
    unfold sIf at e1
    split at e1
    · rename_i r1 q
      exact ⟨r, F, al, true, r1, R, q, fun F1 al1 H1 x1 R1 => iteT ⟨r1, F1, al1, o, R1, e1, k.ext x1⟩⟩
    · rename_i r1 q
      exact ⟨r, F, al, false, r1, R, q, fun F1 al1 H1 x1 R1 => iteF ⟨r1, F1, al1, o, R1, e1, k.ext x1⟩⟩
    · cases e1
theorem w_asg {m : M} {g : MG} {ws : List Nat} : ∀ D σ H, tFS X.K (sAsg m g) D σ H → tAsg (tF X.K m) (gF X.K ws g) D σ H := fun D σ H ⟨r, F, al, o, R, e1, k⟩ => by
  unfold sAsg at e1
  split at e1
  · rename_i d r1 q
    split at e1
    · rename_i r2 q2
      cases e1
      exact ⟨r, F, al, d, r1, R, q, fun F1 al1 v H1 x1 R1 p1 => ⟨r1, F1, al1, d, r2, R1, p1, q2, fun F2 al2 σ2 H2 x2 R2 _ _ => k F2 al2 σ2 H2 (x1.trans x2) R2⟩⟩
    · cases e1
  · cases e1
theorem w_set {m : M} {i : Nat} : ∀ D σ H, tFS X.K (sAsg m (tName i)) D σ H → tAsg (tF X.K m) (gName i) D σ H := fun D σ H ⟨r, F, al, o, R, e1, k⟩ => by
  unfold sAsg at e1
  split at e1
  · rename_i d r1 q
    have e1 : some (Out.nx { r1 with sl := r1.sl.set i (some d) }) = some o := e1
    cases e1
    exact ⟨r, F, al, d, r1, R, q, fun F1 al1 v H1 x1 R1 p1 => k F1 al1 _ H1 x1 ⟨R1.s.set i p1, R1.c⟩⟩
  · cases e1
theorem fs_asg {m : M} {g : MG} {ws : List Nat} (he : PE X e (tF X.K m)) (hg : PG X tg (gF X.K ws g)) (hs : swapsWithSole [tg] e pos.line X.env = pure false := by rfl) (hw : swappedStores [tg] e X.env = pure none := by rfl)
    (h1 : (assignEach [tg] X.env).map (·.2) = [assign tg X.env] := by rfl) : PS X (.Assign [tg] e pos) (tFS X.K (sAsg m g)) := PS.weak (ps_asg he hg hs hw h1) w_asg
theorem fs_set {i : Nat} {x : Str} {m : M} {pos' : Pos} (hN : X.N.Nodup) (hi : X.N[i]? = some x) (hx : Loc X.env.scope x) (he : PE X e (tF X.K m)) (hs : swapsWith e (some (.Name x pos')) pos.line X.env = pure false := by rfl)
    (hf : X.fn x = true ∨ X.env.scope.names.lookup x = some .local := by first | exact .inl rfl | exact .inr rfl | assumption) : PS X (.Assign [.Name x pos'] e pos) (tFS X.K (sAsg m (tName i))) :=
  PS.weak (ps_set hN hi hx he hs hf) w_set
end

/-! ### what is walked -/
/-- what is walked: data, or the cell n that stays these items -/
abbrev Ck := Option (List (Nat × List W))
def ckC : Ck → List Cell → Prop
  | none, _ => True
  | some ps, cl => ∀ p ∈ ps, cl[p.1]? = some (.lst p.2)
theorem ckC_one {n : Nat} {ws : List W} {cl : List Cell} (h : cl[n]? = some (.lst ws)) : ckC (some [(n, ws)]) cl := fun p hp => by
  rw [List.mem_singleton] at hp
  rw [hp]
  exact h
/-- J walks the items ds, over all that is at least (F, al) -/
structure Wk (K : PySem.W.Frag) (J : It) (F : Hp) (al : List Addr) (ds : List W) (ck : Ck) : Prop where
  go : ∀ (i : Nat) (d : W) (F1 : Hp) (al1 : List Addr) (cl1 : List Cell) (H1 : Hp), ds[i]? = some d → Same F F1 → (∃ be, al1 = al ++ be) → Cells K cl1 F1 al1 H1 → ckC ck cl1 →
    J.go i H1 ∧ ∀ x H2, J.yld i H1 x H2 → ∃ F2, Ext F1 al1 H1 F2 al1 H2 ∧ Cells K cl1 F2 al1 H2 ∧ Rep K F2 al1 d x
  stop : ∀ (i : Nat) (F1 : Hp) (al1 : List Addr) (cl1 : List Cell) (H1 : Hp), ds.length ≤ i → Same F F1 → (∃ be, al1 = al ++ be) → Cells K cl1 F1 al1 H1 → ckC ck cl1 → J.stop i H1
abbrev MI := Rho → Option ((List W × Ck) × Rho)
def iF (K : PySem.W.Frag) (m : MI) : TI := fun σ H R => ∃ r F al ds ck r', Rel K r F al σ H ∧ m r = some ((ds, ck), r') ∧
  ∀ F' al' J H', Ext F al H F' al' H' → Rel K r' F' al' σ H' → Wk K J F' al' ds ck → R J H'
theorem PI.weak {X : Cx} {tg e : Expr} {t t' : TI} (h : PI X tg e t) (w : ∀ σ H Q, t' σ H Q → t σ H Q) : PI X tg e t' := ⟨fun pins s σ H Q I q => h.run pins s σ H Q I (w σ H Q q)⟩
open Classical in
/-- the loop over what is left -/
noncomputable def forL (g : MG) (b : G) (ck : Ck) : List W → G
  | [] => fun r => if ckC ck r.cl then some (.nx r) else none
  | d :: ds => fun r => if ckC ck r.cl then match g d r with
    | none => none
    | some r1 => match b r1 with
      | some (.nx r2) => forL g b ck ds r2
      | some (.ct r2) => forL g b ck ds r2
      | some (.bk r2) => some (.nx r2)
      | some (.ret x r2) => some (.ret x r2)
      | none => none
    else none
noncomputable def sFor (m : MI) (g : MG) (b : G) : G := fun r => match m r with
  | some ((ds, ck), r1) => forL g b ck ds r1
  | none => none
section
variable {X : Cx} {tg iter : Expr} {body : List Stmt} {pos : Pos}
theorem w_for {m : MI} {g : MG} {b : G} {ws : List Nat} : ∀ D σ H, tFS X.K (sFor m g b) D σ H → tFor (iF X.K m) (gF X.K ws g) (tFS X.K b) D σ H := fun D σ H ⟨r, F, al, o, R, e1, k⟩ => by
  unfold sFor at e1
  split at e1
  · rename_i ds ck r1 q
    refine ⟨r, F, al, ds, ck, r1, R, q, fun F1 al1 J H1 x1 R1 W => ?_⟩
    refine ⟨fun i n σ' H' => n = ds.length - i ∧ ∃ r' F' al', Ext F1 al1 H1 F' al' H' ∧ Rel X.K r' F' al' σ' H' ∧ forL g b ck (ds.drop i) r' = some o, ⟨ds.length, rfl, r1, F1, al1, Ext.refl _ _ _, R1, e1⟩, ?_⟩
    rintro i n σ' H' ⟨rfl, r', F', al', x', R', e'⟩
    by_cases hi : i < ds.length
    · rw [List.drop_eq_getElem_cons hi] at e'
      unfold forL at e'
      split at e'
      rotate_left
      · cases e'
      rename_i hck
      split at e'
      · cases e'
      · rename_i r2 q2
        obtain ⟨g1, y1⟩ := W.go i ds[i] F' al' r'.cl H' (List.getElem?_eq_getElem hi) x'.f (let ⟨be, z, _⟩ := x'.a; ⟨be, z⟩) R'.c hck
        refine .inr ⟨g1, fun σ2 H2 => ∃ r3 F3 al3, Ext F1 al1 H1 F3 al3 H2 ∧ Rel X.K r3 F3 al3 σ2 H2 ∧ forL g b ck (ds.drop (i + 1)) r3 = some o, fun σ2 H2 z => ⟨ds.length - (i + 1), by omega, rfl, z⟩, fun x H2 hy => ?_⟩
        obtain ⟨F2, x2, C2, p2⟩ := y1 x H2 hy
        refine ⟨r', F2, al', ds[i], r2, ⟨R'.s.ext x2, C2⟩, p2, q2, fun F3 al3 σ3 H3 x3 R3 _ _ => ?_⟩
        have xx := x'.trans (x2.trans x3)
        cases hb : b r2 with
        | none =>
          rw [hb] at e'
          cases e'
        | some o2 =>
          rw [hb] at e'
          refine ⟨r2, F3, al3, o2, R3, hb, ?_⟩
          cases o2 with
          | nx r4 => exact fun F4 al4 σ4 H4 x4 R4 => ⟨r4, F4, al4, xx.trans x4, R4, e'⟩
          | ct r4 => exact fun F4 al4 σ4 H4 x4 R4 => ⟨r4, F4, al4, xx.trans x4, R4, e'⟩
          | bk r4 =>
            cases e'
            exact fun F4 al4 σ4 H4 x4 R4 => k F4 al4 σ4 H4 ((x1.trans xx).trans x4) R4
          | ret d r4 =>
            cases e'
            exact fun F4 al4 v σ4 H4 x4 R4 p4 => k F4 al4 v σ4 H4 ((x1.trans xx).trans x4) R4 p4
    · rw [List.drop_of_length_le (by omega)] at e'
      unfold forL at e'
      split at e'
      · rename_i hck
        cases e'
        exact .inl ⟨W.stop i F' al' r'.cl H' (by omega) x'.f (let ⟨be, z, _⟩ := x'.a; ⟨be, z⟩) R'.c hck, k F' al' σ' H' (x1.trans x') R'⟩
      · cases e'
  · cases e1
theorem fs_for {m : MI} {g : MG} {b : G} {ws : List Nat} (hp : PassesOwn (model X.prog X.w) X.A X.env X.xe) (hc : X.calm = true) (hi : PI X tg iter (iF X.K m)) (hg : PG X tg (gF X.K ws g)) (hb : PSs X body (tFS X.K b))
    (hs : ∀ x, foldedSetIterable iter X.env x = pure x := by intro _; rfl) : PS X (.For tg iter body [] pos) (tFS X.K (sFor m g b)) := PS.weak (ps_for hp hc hi hg hb hs) w_for
end
/-! ### while -/
def whN (c : MB) (b : G) : Nat → G
  | 0 => fun _ => none
  | n + 1 => fun r => match c r with
    | none => none
    | some (false, r1) => some (.nx r1)
    | some (true, r1) => match b r1 with
      | some (.nx r2) => whN c b n r2
      | some (.ct r2) => whN c b n r2
      | some (.bk r2) => some (.nx r2)
      | some (.ret x r2) => some (.ret x r2)
      | none => none
open Classical in
noncomputable def sWhile (c : MB) (b : G) : G := fun r => if h : ∃ n o, whN c b n r = some o then some (Classical.choose (Classical.choose_spec h)) else none
theorem whN_up {c : MB} {b : G} : ∀ (n : Nat) (r : Rho) (o : Out), whN c b n r = some o → whN c b (n + 1) r = some o
  | 0, r, o, h => by cases h
  | n + 1, r, o, h => by
    unfold whN at h ⊢
    cases hc : c r with
    | none =>
      rw [hc] at h
      cases h
    | some p =>
      obtain ⟨k, r1⟩ := p
      rw [hc] at h
      cases k with
      | false => exact h
      | true =>
        cases hb : b r1 with
        | none =>
          simp only [hb] at h
          cases h
        | some o2 =>
          simp only [hb] at h ⊢
          cases o2 with
          | nx r2 => exact whN_up n r2 o h
          | ct r2 => exact whN_up n r2 o h
          | bk r2 => exact h
          | ret d r2 => exact h
theorem whN_le {c : MB} {b : G} {n m : Nat} (h : n ≤ m) {r : Rho} {o : Out} (e : whN c b n r = some o) : whN c b m r = some o := by
  induction h with
  | refl => exact e
  | step _ ih => exact whN_up _ _ _ ih
theorem sWhile_of {c : MB} {b : G} {n : Nat} {r : Rho} {o : Out} (h : whN c b n r = some o) : sWhile c b r = some o := by
  unfold sWhile
  have hx : ∃ n o, whN c b n r = some o := ⟨n, o, h⟩
  rw [dif_pos hx]
  have q := Classical.choose_spec (Classical.choose_spec hx)
  have q1 := whN_le (Nat.le_max_left n (Classical.choose hx)) h
  have q2 := whN_le (Nat.le_max_right n (Classical.choose hx)) q
  rw [q1] at q2
  exact q2.symm
theorem sWhile_some {c : MB} {b : G} {r : Rho} {o : Out} (h : sWhile c b r = some o) : ∃ n, whN c b n r = some o := by
  unfold sWhile at h
  split at h
  · rename_i hx
    cases h
    exact ⟨_, Classical.choose_spec (Classical.choose_spec hx)⟩
  · cases h
section
variable {X : Cx} {body : List Stmt} {pos : Pos}
theorem w_while {mc : MB} {b : G} : ∀ D σ H, tFS X.K (sWhile mc b) D σ H → tWhile (tFB X.K mc) (tFS X.K b) D σ H := fun D σ H ⟨r, F, al, o, R, e1, k⟩ => by
  obtain ⟨n, e1⟩ := sWhile_some e1
  refine ⟨fun m σ' H' => ∃ r' F' al', Ext F al H F' al' H' ∧ Rel X.K r' F' al' σ' H' ∧ whN mc b m r' = some o, ⟨n, r, F, al, Ext.refl _ _ _, R, e1⟩, ?_⟩
  rintro m σ' H' ⟨r', F', al', x', R', e'⟩
  cases m with
  | zero => cases e'
  | succ m =>
    unfold whN at e'
    split at e'
    · cases e'
    · rename_i r1 q
      cases e'
      exact ⟨r', F', al', false, r1, R', q, fun F2 al2 H2 x2 R2 => iteF (k F2 al2 σ' H2 (x'.trans x2) R2)⟩
    · rename_i r1 q
      refine ⟨r', F', al', true, r1, R', q, fun F2 al2 H2 x2 R2 => iteT ?_⟩
      refine ⟨fun σ3 H3 => ∃ r3 F3 al3, Ext F al H F3 al3 H3 ∧ Rel X.K r3 F3 al3 σ3 H3 ∧ whN mc b m r3 = some o, fun σ3 H3 z => ⟨m, Nat.lt_succ_self m, z⟩, ?_⟩
      have xx := x'.trans x2
      cases hb : b r1 with
      | none =>
        rw [hb] at e'
        cases e'
      | some o2 =>
        rw [hb] at e'
        refine ⟨r1, F2, al2, o2, R2, hb, ?_⟩
        cases o2 with
        | nx r4 => exact fun F4 al4 σ4 H4 x4 R4 => ⟨r4, F4, al4, xx.trans x4, R4, e'⟩
        | ct r4 => exact fun F4 al4 σ4 H4 x4 R4 => ⟨r4, F4, al4, xx.trans x4, R4, e'⟩
        | bk r4 =>
          cases e'
          exact fun F4 al4 σ4 H4 x4 R4 => k F4 al4 σ4 H4 (xx.trans x4) R4
        | ret d r4 =>
          cases e'
          exact fun F4 al4 v σ4 H4 x4 R4 p4 => k F4 al4 v σ4 H4 (xx.trans x4) R4 p4
theorem fs_while {c : Expr} {mc : MB} {b : G} (hp : PassesOwn (model X.prog X.w) X.A X.env X.xe) (hc : PT X c (tFB X.K mc)) (hb : PSs X body (tFS X.K b)) : PS X (.While c body [] pos) (tFS X.K (sWhile mc b)) := PS.weak (ps_while hp hc hb) w_while
end
end FL

namespace FL
open PySem PySem.Spec L2

/-! ### the cells that a value refers to, and other numbers for them -/
mutual
def W.refs : W → List Nat
  | .d _ => []
  | .cel n => [n]
  | .tup ws => refsA ws
def refsA : List W → List Nat
  | [] => []
  | w :: ws => W.refs w ++ refsA ws
end
mutual
def W.mapc (f : Nat → Nat) : W → W
  | .d x => .d x
  | .cel n => .cel (f n)
  | .tup ws => .tup (mapcA f ws)
def mapcA (f : Nat → Nat) : List W → List W
  | [] => []
  | w :: ws => W.mapc f w :: mapcA f ws
end
def Cell.refs : Cell → List Nat
  | .lst ws => refsA ws
  | .dk _ ws => refsA ws
  | .dt _ ws => refsA ws
  | .ins _ _ ws => refsA ws
  | .gone => []
def Cell.mapc (f : Nat → Nat) : Cell → Cell
  | .lst ws => .lst (mapcA f ws)
  | .dk ks ws => .dk ks (mapcA f ws)
  | .dt ks ws => .dt ks (mapcA f ws)
  | .ins C fs ws => .ins C fs (mapcA f ws)
  | .gone => .gone
theorem refsA_map (ds : List D) : refsA (ds.map W.d) = [] := by
  induction ds with
  | nil => rfl
  | cons d ds ih => exact ih
theorem mapcA_map (f : Nat → Nat) (ds : List D) : mapcA f (ds.map W.d) = ds.map W.d := by
  induction ds with
  | nil => rfl
  | cons d ds ih =>
    show W.d d :: mapcA f (ds.map W.d) = W.d d :: ds.map W.d
    rw [ih]
theorem mapcA_len (f : Nat → Nat) : ∀ ws : List W, (mapcA f ws).length = ws.length
  | [] => rfl
  | w :: ws => by
    show (mapcA f ws).length + 1 = ws.length + 1
    rw [mapcA_len f ws]
section
variable {K : PySem.W.Frag} {F : Hp} {al be : List Addr} {f : Nat → Nat}
mutual
theorem Rep.mapc : ∀ {w : W} {v : V}, Rep K F al w v → (∀ n ∈ w.refs, ∀ a, al[n]? = some a → be[f n]? = some a) → Rep K F be (w.mapc f) v
  | .d x, _, h, _ => h
  | .cel n, _, ⟨a, e1, e2⟩, k => ⟨a, e1, k n (List.mem_singleton.mpr rfl) a e2⟩
  | .tup ws, _, ⟨a, vs, e1, e2, e3⟩, k => ⟨a, vs, e1, e2, Reps.mapc e3 k⟩
theorem Reps.mapc : ∀ {ws : List W} {vs : List V}, Reps K F al ws vs → (∀ n ∈ refsA ws, ∀ a, al[n]? = some a → be[f n]? = some a) → Reps K F be (mapcA f ws) vs
  | [], _, h, _ => h
  | w :: ws, _, ⟨v, r, e1, e2, e3⟩, k => ⟨v, r, e1, Rep.mapc e2 fun n hn => k n (List.mem_append_left _ hn), Reps.mapc e3 fun n hn => k n (List.mem_append_right _ hn)⟩
end
mutual
theorem Rep.lt : ∀ {w : W} {v : V}, Rep K F al w v → ∀ n ∈ w.refs, n < al.length
  | .d x, _, h, n, hn => nomatch hn
  | .cel n, _, ⟨a, e1, e2⟩, m, hm => by
    rw [List.mem_singleton.mp hm]
    exact (List.getElem?_eq_some_iff.mp e2).1
  | .tup ws, _, ⟨a, vs, e1, e2, e3⟩, n, hn => Reps.lt e3 n hn
theorem Reps.lt : ∀ {ws : List W} {vs : List V}, Reps K F al ws vs → ∀ n ∈ refsA ws, n < al.length
  | [], _, h, n, hn => nomatch hn
  | w :: ws, _, ⟨v, r, e1, e2, e3⟩, n, hn => (List.mem_append.mp hn).elim (Rep.lt e2 n) (Reps.lt e3 n)
end
theorem CellOk.mapc {H : Hp} {a : Addr} {c : Cell} (h : CellOk K F al H a c) (k : ∀ n ∈ c.refs, ∀ a, al[n]? = some a → be[f n]? = some a) : CellOk K F be H a (c.mapc f) := by
  cases c with
  | lst ws =>
    obtain ⟨n0, vs, q1, q2⟩ := h
    exact ⟨n0, vs, q1, q2.mapc k⟩
  | dk ks ws =>
    obtain ⟨n0, vs, q1, q0, q2⟩ := h
    exact ⟨n0, vs, q1, q0, q2.mapc k⟩
  | dt ks ws =>
    obtain ⟨n0, vs, q1, q0, q2⟩ := h
    exact ⟨n0, vs, q1, q0, q2.mapc k⟩
  | ins C fs ws =>
    obtain ⟨n0, dx, vs, q1, q0, q2⟩ := h
    exact ⟨n0, dx, vs, q1, q0, q2.mapc k⟩
  | gone => exact trivial
theorem CellOk.lt {H : Hp} {a : Addr} {c : Cell} (h : CellOk K F al H a c) : ∀ n ∈ c.refs, n < al.length := by
  cases c with
  | lst ws => exact h.2.elim fun vs q => q.2.lt
  | dk ks ws => exact h.2.elim fun vs q => q.2.2.lt
  | dt ks ws => exact h.2.elim fun vs q => q.2.2.lt
  | ins C fs ws => exact h.2.elim fun dx q => q.elim fun vs q => q.2.2.lt
  | gone => exact fun n hn => nomatch hn
/-- over other frozen things and another heap -/
theorem CellOk.to {F1 H H1 : Hp} {a : Addr} {c : Cell} (h : CellOk K F al H a c) (e : Same F F1) (eh : H1 a = H a) (ef : F a = none → F1 a = none) : CellOk K F1 al H1 a c := by
  have up : ∀ {ws : List W} {vs : List V}, Reps K F al ws vs → Reps K F1 al ws vs := fun q => by
    have := Reps.mono (be := []) e q
    rw [List.append_nil] at this
    exact this
  cases c with
  | lst ws =>
    obtain ⟨n0, vs, q1, q2⟩ := h
    exact ⟨ef n0, vs, by rw [eh]; exact q1, up q2⟩
  | dk ks ws =>
    obtain ⟨n0, vs, q1, q0, q2⟩ := h
    exact ⟨ef n0, vs, by rw [eh]; exact q1, q0, up q2⟩
  | dt ks ws =>
    obtain ⟨n0, vs, q1, q0, q2⟩ := h
    exact ⟨ef n0, vs, by rw [eh]; exact q1, q0, up q2⟩
  | ins C fs ws =>
    obtain ⟨n0, dx, vs, q1, q0, q2⟩ := h
    exact ⟨ef n0, dx, vs, by rw [eh]; exact q1, q0, up q2⟩
  | gone => exact trivial
end

/-! ### a part of the store -/
def cellAt (cl : List Cell) (i : Nat) : Cell := (cl[i]?).getD .gone
def clos (cl : List Cell) : Nat → List Nat → List Nat
  | 0, ids => ids
  | f + 1, ids =>
    let more := (ids.flatMap fun i => (cellAt cl i).refs).eraseDups.filter fun n => !ids.contains n
    if more.isEmpty then ids else clos cl f (ids ++ more)
/-- the part is closed, and each of it once -/
def isPart (cl : List Cell) (ids : List Nat) : Bool := decide ids.Nodup && ids.all fun i => decide (i < cl.length) && (cellAt cl i).refs.all fun n => ids.contains n
def ix (ids : List Nat) (n : Nat) : Nat := ids.idxOf n
def part (cl : List Cell) (ids : List Nat) : List Cell := ids.map fun i => (cellAt cl i).mapc (ix ids)
def partA (al : List Addr) (ids : List Nat) : List Addr := ids.map fun i => (al[i]?).getD 0
theorem ix_get {ids : List Nat} {n : Nat} (h : n ∈ ids) : ids[ix ids n]? = some n := by
  have q := List.idxOf_lt_length_of_mem h
  unfold ix
  rw [List.getElem?_eq_getElem q, List.getElem_idxOf]
theorem partA_get {al : List Addr} {ids : List Nat} {n : Nat} {a : Addr} (h : n ∈ ids) (e : al[n]? = some a) : (partA al ids)[ix ids n]? = some a := by
  unfold partA
  rw [List.getElem?_map, ix_get h]
  show some ((al[n]?).getD 0) = some a
  rw [e]
  rfl
theorem isPart_iff {cl : List Cell} {ids : List Nat} (h : isPart cl ids = true) : ids.Nodup ∧ ∀ i ∈ ids, i < cl.length ∧ ∀ n ∈ (cellAt cl i).refs, n ∈ ids := by
  unfold isPart at h
  simp only [Bool.and_eq_true, decide_eq_true_eq, List.all_eq_true, List.contains_iff_mem] at h
  exact h
theorem nodup_get {α : Type} {l : List α} (hN : l.Nodup) {i j : Nat} {x : α} (a : l[i]? = some x) (b : l[j]? = some x) : i = j := by
  obtain ⟨h1, e1⟩ := List.getElem?_eq_some_iff.mp a
  obtain ⟨h2, e2⟩ := List.getElem?_eq_some_iff.mp b
  exact (List.getElem_inj hN).mp (e1.trans e2.symm)
section
variable {K : PySem.W.Frag} {F H : Hp} {al : List Addr} {cl : List Cell}
theorem Cells.at (C : Cells K cl F al H) {i : Nat} (h : i < cl.length) : ∃ a, al[i]? = some a ∧ cl[i]? = some (cellAt cl i) ∧ CellOk K F al H a (cellAt cl i) := by
  have h' : i < al.length := by rw [C.len]; exact h
  have e : cl[i]? = some (cellAt cl i) := by
    unfold cellAt
    rw [List.getElem?_eq_getElem h]
    rfl
  exact ⟨al[i], List.getElem?_eq_getElem h', e, C.ok i _ _ (List.getElem?_eq_getElem h') e⟩
theorem partA_of (C : Cells K cl F al H) {ids : List Nat} (p : isPart cl ids = true) {j : Nat} {a : Addr} (h : (partA al ids)[j]? = some a) : ∃ i, ids[j]? = some i ∧ al[i]? = some a := by
  unfold partA at h
  rw [List.getElem?_map] at h
  obtain ⟨i, e1, e2⟩ := Option.map_eq_some_iff.mp h
  obtain ⟨b, q1, _⟩ := C.at ((isPart_iff p).2 i (List.mem_of_getElem? e1)).1
  rw [q1] at e2
  cases e2
  exact ⟨i, e1, q1⟩
theorem Cells.part (C : Cells K cl F al H) {ids : List Nat} (p : isPart cl ids = true) : Cells K (part cl ids) F (partA al ids) H := by
  obtain ⟨nd, cls⟩ := isPart_iff p
  refine ⟨C.fh, by unfold partA FL.part; rw [List.length_map, List.length_map], fun n a c h1 h2 => ?_, ?_, fun a ha => ?_⟩
  · obtain ⟨i, e1, e2⟩ := partA_of C p h1
    unfold FL.part at h2
    rw [List.getElem?_map, e1] at h2
    have h2 : some ((cellAt cl i).mapc (ix ids)) = some c := h2
    cases h2
    obtain ⟨b, q1, q2, q3⟩ := C.at (cls i (List.mem_of_getElem? e1)).1
    rw [e2] at q1
    cases q1
    exact q3.mapc fun m hm a' e => partA_get ((cls i (List.mem_of_getElem? e1)).2 m hm) e
  · refine List.pairwise_iff_getElem.mpr fun i j hi hj hij e => ?_
    obtain ⟨x, e1, e2⟩ := partA_of C p (List.getElem?_eq_getElem hi)
    obtain ⟨y, e3, e4⟩ := partA_of C p (List.getElem?_eq_getElem hj)
    rw [← e] at e4
    have exy := nodup_get C.nd e2 e4
    subst exy
    exact Nat.ne_of_lt hij (nodup_get nd e1 e3)
  · obtain ⟨j, hj⟩ := List.getElem?_of_mem ha
    obtain ⟨i, e1, e2⟩ := partA_of C p hj
    exact C.has a (List.mem_of_getElem? e2)
end

/-! ### back from a part -/
def setAll : List Cell → List Nat → List Cell → List Cell
  | cl, i :: is, c :: cs => setAll (cl.set i c) is cs
  | cl, _, _ => cl
/-- the number behind the call: one of the part, or a new one -/
def back (n : Nat) (ids : List Nat) (j : Nat) : Nat := if j < ids.length then (ids[j]?).getD 0 else n + (j - ids.length)
def merge (cl : List Cell) (ids : List Nat) (st : List Cell) : List Cell := setAll cl ids ((st.take ids.length).map (Cell.mapc (back cl.length ids))) ++ (st.drop ids.length).map (Cell.mapc (back cl.length ids))
theorem setAll_len : ∀ (cl : List Cell) (ids : List Nat) (cs : List Cell), (setAll cl ids cs).length = cl.length
  | cl, [], cs => by
    cases cs <;> rfl
  | cl, i :: is, [] => rfl
  | cl, i :: is, c :: cs => by
    show (setAll (cl.set i c) is cs).length = cl.length
    rw [setAll_len, List.length_set]
theorem setAll_out : ∀ (cl : List Cell) (ids : List Nat) (cs : List Cell) (k : Nat), k ∉ ids → (setAll cl ids cs)[k]? = cl[k]?
  | cl, [], cs, k, h => by
    cases cs <;> rfl
  | cl, i :: is, [], k, h => rfl
  | cl, i :: is, c :: cs, k, h => by
    show (setAll (cl.set i c) is cs)[k]? = cl[k]?
    rw [setAll_out _ is cs k (fun z => h (List.mem_cons_of_mem _ z)), List.getElem?_set_ne (fun e => h (by rw [e]; exact List.mem_cons_self))]
theorem setAll_in : ∀ (cl : List Cell) (ids : List Nat) (cs : List Cell) (j k : Nat) (c : Cell), ids.Nodup → ids[j]? = some k → k < cl.length → cs[j]? = some c → (setAll cl ids cs)[k]? = some c
  | cl, [], cs, j, k, c, nd, h1, h2, h3 => by simp at h1
  | cl, i :: is, [], j, k, c, nd, h1, h2, h3 => by simp at h3
  | cl, i :: is, c0 :: cs, 0, k, c, nd, h1, h2, h3 => by
    have h1 : some i = some k := h1
    have h3 : some c0 = some c := h3
    cases h1
    cases h3
    show (setAll (cl.set i c0) is cs)[i]? = some c0
    rw [setAll_out _ is cs i (List.nodup_cons.mp nd).1, List.getElem?_set_self h2]
  | cl, i :: is, c0 :: cs, j + 1, k, c, nd, h1, h2, h3 => by
    have h1 : is[j]? = some k := h1
    have h3 : cs[j]? = some c := h3
    exact setAll_in (cl.set i c0) is cs j k c (List.nodup_cons.mp nd).2 h1 (by rw [List.length_set]; exact h2) h3
/-- the caller's cells behind a call that had the part -/
theorem Cells.merge {K : PySem.W.Frag} {F H F1 H1 : Hp} {al al1 : List Addr} {cl st : List Cell} {ids : List Nat} (C : Cells K cl F al H) (p : isPart cl ids = true) (x : Ext F (partA al ids) H F1 al1 H1) (C1 : Cells K st F1 al1 H1) :
    Ext F al H F1 (al ++ al1.drop ids.length) H1 ∧ Cells K (merge cl ids st) F1 (al ++ al1.drop ids.length) H1 ∧ ∀ n a, al1[n]? = some a → (al ++ al1.drop ids.length)[back cl.length ids n]? = some a := by
  obtain ⟨nd, cls⟩ := isPart_iff p
  obtain ⟨be, eb, hb⟩ := x.a
  have lp : (partA al ids).length = ids.length := by unfold partA; rw [List.length_map]
  have ed : al1.drop ids.length = be := by rw [eb, List.drop_append, ← lp, List.drop_length, Nat.sub_self]; rfl
  have inal : ∀ b, b ∈ partA al ids → b ∈ al := fun b hb => by
    obtain ⟨j, hj⟩ := List.getElem?_of_mem hb
    obtain ⟨i, e1, e2⟩ := partA_of C p hj
    exact List.mem_of_getElem? e2
  have bk : ∀ n a, al1[n]? = some a → (al ++ al1.drop ids.length)[back cl.length ids n]? = some a := fun n a e => by
    rw [ed]
    unfold back
    by_cases hn : n < ids.length
    · rw [if_pos hn]
      rw [eb, List.getElem?_append_left (by rw [lp]; exact hn)] at e
      obtain ⟨i, e1, e2⟩ := partA_of C p e
      rw [e1]
      show (al ++ be)[i]? = some a
      exact get_pre e2
    · rw [if_neg hn]
      rw [eb, List.getElem?_append_right (by rw [lp]; omega), lp] at e
      rw [List.getElem?_append_right (by rw [C.len]; omega), C.len, Nat.add_sub_cancel_left]
      exact e
  have X1 : Ext F al H F1 (al ++ al1.drop ids.length) H1 := ⟨x.f, ⟨be, by rw [ed], hb⟩, fun b o h hn => x.h b o h fun z => hn (inal b z), fun b o h => (x.n b o h).imp_right fun q => q.imp_right (inal b), x.t⟩
  refine ⟨X1, ⟨C1.fh, ?_, fun n a c h1 h2 => ?_, ?_, fun a ha => ?_⟩, bk⟩
  · unfold FL.merge
    rw [List.length_append, List.length_append, setAll_len, List.length_map, C.len, List.length_drop, List.length_drop, C1.len]
  · by_cases hn : n < cl.length
    · rw [List.getElem?_append_left (by rw [C.len]; exact hn)] at h1
      unfold FL.merge at h2
      rw [List.getElem?_append_left (by rw [setAll_len]; exact hn)] at h2
      by_cases hi : n ∈ ids
      · have e1 := ix_get hi
        have h3 := partA_get hi h1
        have hlt : ix ids n < al1.length := by
          rw [eb, List.length_append]
          have := (List.getElem?_eq_some_iff.mp h3).1
          omega
        have hlt2 : ix ids n < st.length := by rw [← C1.len]; exact hlt
        have hk : ix ids n < ids.length := (List.getElem?_eq_some_iff.mp e1).1
        have h4 : ((st.take ids.length).map (Cell.mapc (back cl.length ids)))[ix ids n]? = some ((st[ix ids n]).mapc (back cl.length ids)) := by
          rw [List.getElem?_map, List.getElem?_take_of_lt hk, List.getElem?_eq_getElem hlt2]
          rfl
        rw [setAll_in cl ids _ (ix ids n) n _ nd e1 hn h4] at h2
        cases h2
        have h5 : al1[ix ids n]? = some a := by
          rw [eb]
          exact get_pre h3
        exact (C1.ok _ _ _ h5 (List.getElem?_eq_getElem hlt2)).mapc fun m _ a' e => bk m a' e
      · rw [setAll_out _ _ _ _ hi] at h2
        have h3 := C.ok n a c h1 h2
        have hna : a ∉ partA al ids := fun z => by
          obtain ⟨j, hj⟩ := List.getElem?_of_mem z
          obtain ⟨i, e1, e2⟩ := partA_of C p hj
          have := nodup_get C.nd h1 e2
          subst this
          exact hi (List.mem_of_getElem? e1)
        have hH : H1 a = H a := by
          cases e : H a with
          | none => exact absurd e (C.has a (List.mem_of_getElem? h1))
          | some o => exact x.h a o e hna
        have hF : F a = none → F1 a = none := fun z => by
          cases e : F1 a with
          | none => rfl
          | some o =>
            rcases x.n a o e with q | q | q
            · rw [z] at q
              cases q
            · exact absurd q (C.has a (List.mem_of_getElem? h1))
            · exact absurd q hna
        have h4 := (h3.to x.f hH hF).mapc (f := fun n => n) (be := al ++ al1.drop ids.length) fun m _ a' e => get_pre e
        have idm : c.mapc (fun n => n) = c := by
          have m1 : ∀ ws : List W, mapcA (fun n => n) ws = ws := by
            have := @W.rec (fun w => w.mapc (fun n => n) = w) (fun ws => mapcA (fun n => n) ws = ws) (fun _ => rfl) (fun _ => rfl) (fun ws ih => by show W.tup (mapcA _ ws) = W.tup ws; rw [ih]) rfl (fun w ws i1 i2 => by show w.mapc _ :: mapcA _ ws = w :: ws; rw [i1, i2])
            intro ws
            induction ws with
            | nil => rfl
            | cons w ws ih =>
              show w.mapc _ :: mapcA _ ws = w :: ws
              rw [ih, this w]
          cases c with
          | lst ws => show Cell.lst (mapcA _ ws) = _; rw [m1]
          | dk ks ws => show Cell.dk ks (mapcA _ ws) = _; rw [m1]
          | dt ks ws => show Cell.dt ks (mapcA _ ws) = _; rw [m1]
          | ins C fs ws => show Cell.ins C fs (mapcA _ ws) = _; rw [m1]
          | gone => rfl
        rw [idm] at h4
        exact h4
    · rw [ed, List.getElem?_append_right (by rw [C.len]; omega), C.len] at h1
      unfold FL.merge at h2
      rw [List.getElem?_append_right (by rw [setAll_len]; omega), setAll_len, List.getElem?_map, List.getElem?_drop] at h2
      obtain ⟨c0, e1, e2⟩ := Option.map_eq_some_iff.mp h2
      subst e2
      have h5 : al1[ids.length + (n - cl.length)]? = some a := by
        rw [eb, List.getElem?_append_right (by rw [lp]; omega), lp, Nat.add_sub_cancel_left]
        exact h1
      exact (C1.ok _ _ _ h5 e1).mapc fun m _ a' e => bk m a' e
  · rw [ed, List.nodup_append]
    have ndb : be.Nodup := by
      have := C1.nd
      rw [eb] at this
      exact (List.nodup_append.mp this).2.1
    refine ⟨C.nd, ndb, fun a ha b hb' e => ?_⟩
    subst e
    exact C.has a ha (hb a hb')
  · rcases List.mem_append.mp ha with z | z
    · exact X1.t a (C.has a z)
    · exact C1.has a (List.mem_of_mem_drop z)
end FL

namespace FL
open PySem PySem.Spec L2 PyProof.Rows

/-! ### calls -/
def spF (K : PySem.W.Frag) (n : Nat) (f : OpN) : Sp := fun vs H Q _ => ∃ cl F al ds, Cells K cl F al H ∧ Reps K F al ds vs ∧ ds.length = n ∧ PostV K F al H Q (f cl ds)
def idsOf (cl : List Cell) (ds : List W) : List Nat := clos cl (cl.length + 1) (refsA ds).eraseDups
/-- a call: the callee sees the cells that its arguments reach -/
def oCall (f : OpN) : OpN := fun cl ds =>
  let ids := idsOf cl ds
  if isPart cl ids && (refsA ds).all fun n => ids.contains n then
    match f (part cl ids) (mapcA (ix ids) ds) with
    | some (w, st) => some (w.mapc (back cl.length ids), merge cl ids st)
    | none => none
  else none
/-- new cells (from m on) as data -/
def purW (st : List Cell) (m : Nat) : Nat → W → Option D
  | _, .d x => some x
  | k + 1, .cel j => if j < m then none else match st[j]? with
    | some (.lst ws) => (ws.mapM (purW st m k)).map .lst
    | some (.dk ks ws) => (ws.mapM (purW st m k)).map (.dk ks)
    | some (.dt ks ws) => (ws.mapM (purW st m k)).map (.dt ks)
    | some (.ins C fs ws) => (ws.mapM (purW st m k)).map (.ins C fs)
    | _ => none
  | k + 1, .tup ws => (ws.mapM (purW st m k)).map .tup
  | 0, _ => none
/-- a call whose result is wanted as data: what is new is frozen -/
def oCallP (f : OpN) : OpN := fun cl ds =>
  let ids := idsOf cl ds
  if isPart cl ids && (refsA ds).all fun n => ids.contains n then
    match f (part cl ids) (mapcA (ix ids) ds) with
    | some (w, st) => match purW st ids.length 8 w with
      | some x => if (st.take ids.length).all fun c => c.refs.all fun n => decide (n < ids.length) then some (.d x, merge cl ids (st.take ids.length)) else none
      | none => none
    | none => none
  else none
section
variable {K : PySem.W.Frag} {F H : Hp} {al : List Addr} {cl : List Cell} {ds : List W} {vs : List V}
theorem Reps.part (C : Cells K cl F al H) (r : Reps K F al ds vs) {ids : List Nat} (h : ∀ n ∈ refsA ds, n ∈ ids) : Reps K F (partA al ids) (mapcA (ix ids) ds) vs := r.mapc fun n hn a e => partA_get (h n hn) e
theorem ids_ok {p : Bool} {ids : List Nat} (h : (p && (refsA ds).all fun n => ids.contains n) = true) : p = true ∧ ∀ n ∈ refsA ds, n ∈ ids := by
  simp only [Bool.and_eq_true, List.all_eq_true, List.contains_iff_mem] at h
  exact h
theorem w_spF {f : OpN} {n : Nat} (hl : vs.length = n) {Q : VK} {E : XK} (h : rNF K (oCall f) vs H Q) : spF K n f vs H Q E := by
  obtain ⟨cl, F, al, ds, C, r, k⟩ := h
  obtain ⟨d, cl', e, kk⟩ := k.some
  unfold oCall at e
  simp only at e
  split at e
  · rename_i hp
    obtain ⟨p, hi⟩ := ids_ok hp
    split at e
    · rename_i w st ef
      cases e
      refine ⟨part cl (idsOf cl ds), F, partA al (idsOf cl ds), mapcA (ix (idsOf cl ds)) ds, C.part p, r.part C hi, by rw [mapcA_len, ← r.length]; exact hl, ?_⟩
      rw [ef]
      intro F1 al1 v H1 x C1 q
      obtain ⟨X, C2, bk⟩ := C.merge p x C1
      exact kk F1 _ v H1 X C2 (q.mapc fun n _ a e => bk n a e)
    · cases e
  · cases e
theorem purW_ok {st : List Cell} {F1 F2 H1 : Hp} {al1 : List Addr} {m : Nat} (C1 : Cells K st F1 al1 H1) (s : Same F1 F2) (hn : ∀ (j : Nat) (a : Addr), m ≤ j → al1[j]? = some a → F2 a = H1 a) :
    ∀ (k : Nat) {w : W} {v : V} {x : D}, Rep K F1 al1 w v → purW st m k w = some x → Rep0 K F2 x v := by
  intro k
  induction k with
  | zero =>
    intro w v x r h
    cases w with
    | d y =>
      cases h
      exact Rep0.mono s r
    | cel n => cases h
    | tup ws => cases h
  | succ k ih =>
    have all : ∀ {ws : List W} {vs : List V} {xs : List D}, Reps K F1 al1 ws vs → ws.mapM (purW st m k) = some xs → Reps0 K F2 xs vs := by
      intro ws
      induction ws with
      | nil =>
        intro vs xs r h
        have h : some [] = some xs := h
        cases h
        exact r
      | cons w ws ihw =>
        intro vs xs r h
        obtain ⟨v, vr, rfl, r1, r2⟩ := r
        rw [List.mapM_cons] at h
        simp only [Option.bind_eq_bind, Option.bind_eq_some_iff, Option.pure_def, Option.some.injEq] at h
        obtain ⟨y, h1, ys, h2, rfl⟩ := h
        exact ⟨v, vr, rfl, ih r1 h1, ihw r2 h2⟩
    intro w v x r h
    cases w with
    | d y =>
      cases h
      exact Rep0.mono s r
    | tup ws =>
      obtain ⟨a, vs, rfl, h1, h2⟩ := r
      have h : (ws.mapM (purW st m k)).map D.tup = some x := h
      obtain ⟨xs, q1, rfl⟩ := Option.map_eq_some_iff.mp h
      exact ⟨a, vs, rfl, s _ _ h1, all h2 q1⟩
    | cel n =>
      obtain ⟨a, rfl, ha⟩ := r
      unfold purW at h
      split at h
      · cases h
      · rename_i hm
        have hF := hn n a (by omega) ha
        split at h
        · rename_i ws e
          obtain ⟨_, vs, q1, q2⟩ := C1.ok n a _ ha e
          obtain ⟨xs, q3, rfl⟩ := Option.map_eq_some_iff.mp h
          exact ⟨a, vs, rfl, hF.trans q1, all q2 q3⟩
        · rename_i ks ws e
          obtain ⟨_, vs, q1, q0, q2⟩ := C1.ok n a _ ha e
          obtain ⟨xs, q3, rfl⟩ := Option.map_eq_some_iff.mp h
          exact ⟨a, vs, rfl, .inl (hF.trans q1), q0, all q2 q3⟩
        · rename_i ks ws e
          obtain ⟨_, vs, q1, q0, q2⟩ := C1.ok n a _ ha e
          obtain ⟨xs, q3, rfl⟩ := Option.map_eq_some_iff.mp h
          exact ⟨a, vs, rfl, .inl (hF.trans q1), q0, all q2 q3⟩
        · rename_i Cc fs ws e
          obtain ⟨_, dx, vs, q1, q0, q2⟩ := C1.ok n a _ ha e
          obtain ⟨xs, q3, rfl⟩ := Option.map_eq_some_iff.mp h
          exact ⟨a, dx, vs, rfl, hF.trans q1, q0, all q2 q3⟩
        · cases h
/-- all that is new is frozen -/
theorem Cells.froze {st : List Cell} {F1 H1 : Hp} {al0 al1 : List Addr} (x : Ext F al0 H F1 al1 H1) (C1 : Cells K st F1 al1 H1) (m : Nat) (hm : al0.length = m) (hr : ∀ c ∈ st.take m, ∀ n ∈ c.refs, n < m) :
    ∃ F2, Same F1 F2 ∧ (∀ (j : Nat) (a : Addr), m ≤ j → al1[j]? = some a → F2 a = H1 a) ∧ Ext F al0 H F2 al0 H1 ∧ Cells K (st.take m) F2 al0 H1 := by
  obtain ⟨be, eb, hb⟩ := x.a
  have new : ∀ b, b ∈ be → b ∉ al0 := fun b h z => by
    have := C1.nd
    rw [eb] at this
    exact (List.nodup_append.mp this).2.2 b z b h rfl
  refine ⟨fun b => if b ∈ be then H1 b else F1 b, fun b o h => ?_, fun j a hj e => ?_, ?_, ?_⟩
  · show (if b ∈ be then H1 b else F1 b) = some o
    split
    · exact C1.fh b o h
    · exact h
  · show (if a ∈ be then H1 a else F1 a) = H1 a
    rw [eb, List.getElem?_append_right (by omega)] at e
    rw [if_pos (List.mem_of_getElem? e)]
  · refine ⟨fun b o h => ?_, ⟨[], by simp, by simp⟩, fun b o h hn => x.h b o h hn, fun b o h => ?_, x.t⟩
    · show (if b ∈ be then H1 b else F1 b) = some o
      split
      · exact C1.fh b o (x.f b o h)
      · exact x.f b o h
    · have h : (if b ∈ be then H1 b else F1 b) = some o := h
      split at h
      · exact .inr (.inl (hb b (by assumption)))
      · exact x.n b o h
  · refine ⟨fun b o h => ?_, ?_, fun n a c h1 h2 => ?_, ?_, fun a ha => C1.has a (by rw [eb]; exact List.mem_append_left _ ha)⟩
    · have h : (if b ∈ be then H1 b else F1 b) = some o := h
      split at h
      · exact h
      · exact C1.fh b o h
    · rw [List.length_take, ← C1.len, eb, List.length_append]
      omega
    · have hn : n < m := by
        rw [← hm]
        exact (List.getElem?_eq_some_iff.mp h1).1
      have h3 := h2
      rw [List.getElem?_take_of_lt hn] at h2
      have q := C1.ok n a c (by rw [eb]; exact get_pre h1) h2
      have q2 := q.to (F1 := fun b => if b ∈ be then H1 b else F1 b) (H1 := H1) (fun b o h => by
        show (if b ∈ be then H1 b else F1 b) = some o
        split
        · exact C1.fh b o h
        · exact h) rfl (fun z => by
        show (if a ∈ be then H1 a else F1 a) = none
        rw [if_neg (fun z => new a z (List.mem_of_getElem? h1))]
        exact z)
      have q3 := q2.mapc (f := fun n => n) (be := al0) fun k hk a' e => by
        have hk' := hr c (List.mem_of_getElem? h3) k hk
        rw [eb, List.getElem?_append_left (by omega)] at e
        exact e
      have idm : c.mapc (fun n => n) = c := by
        have m1 : ∀ ws : List W, mapcA (fun n => n) ws = ws := by
          have := @W.rec (fun w => w.mapc (fun n => n) = w) (fun ws => mapcA (fun n => n) ws = ws) (fun _ => rfl) (fun _ => rfl) (fun ws ih => by show W.tup (mapcA _ ws) = W.tup ws; rw [ih]) rfl (fun w ws i1 i2 => by show w.mapc _ :: mapcA _ ws = w :: ws; rw [i1, i2])
          intro ws
          induction ws with
          | nil => rfl
          | cons w ws ih =>
            show w.mapc _ :: mapcA _ ws = w :: ws
            rw [ih, this w]
        cases c with
        | lst ws => show Cell.lst (mapcA _ ws) = _; rw [m1]
        | dk ks ws => show Cell.dk ks (mapcA _ ws) = _; rw [m1]
        | dt ks ws => show Cell.dt ks (mapcA _ ws) = _; rw [m1]
        | ins C fs ws => show Cell.ins C fs (mapcA _ ws) = _; rw [m1]
        | gone => rfl
      rw [idm] at q3
      exact q3
    · have := C1.nd
      rw [eb] at this
      exact (List.nodup_append.mp this).1
theorem w_spFP {f : OpN} {n : Nat} (hl : vs.length = n) {Q : VK} {E : XK} (h : rNF K (oCallP f) vs H Q) : spF K n f vs H Q E := by
  obtain ⟨cl, F, al, ds, C, r, k⟩ := h
  obtain ⟨d, cl', e, kk⟩ := k.some
  unfold oCallP at e
  simp only at e
  split at e
  · rename_i hp
    obtain ⟨p, hi⟩ := ids_ok hp
    split at e
    · rename_i w st ef
      split at e
      · rename_i y ey
        split at e
        · rename_i hc
          cases e
          refine ⟨part cl (idsOf cl ds), F, partA al (idsOf cl ds), mapcA (ix (idsOf cl ds)) ds, C.part p, r.part C hi, by rw [mapcA_len, ← r.length]; exact hl, ?_⟩
          rw [ef]
          intro F1 al1 v H1 x C1 q
          simp only [List.all_eq_true, decide_eq_true_eq] at hc
          obtain ⟨F2, s2, n2, x2, C2⟩ := C1.froze x (idsOf cl ds).length (by unfold partA; rw [List.length_map]) hc
          obtain ⟨X, C3, bk⟩ := C.merge p x2 C2
          exact kk F2 _ v H1 X C3 (purW_ok C1 s2 n2 8 q ey)
        · cases e
      · cases e
    · cases e
  · cases e
end

/-! ### a def -/
def fin (m : Nat) (w : W) (cl : List Cell) : R0 :=
  let ids := clos cl (cl.length + 1) (List.range m ++ (w.refs.filter fun n => decide (m ≤ n)).eraseDups)
  if isPart cl ids && (w.refs.all fun n => ids.contains n) && decide (ids.take m = List.range m) then some (w.mapc (ix ids), part cl ids) else none
def runG (N : Nat) (g : G) : OpN := fun cl ds => match g ⟨ds.map some ++ List.replicate (N - ds.length) none, cl⟩ with
  | some (.ret w r) => fin cl.length w r.cl
  | some (.nx r) => fin cl.length (.d .non) r.cl
  | _ => none
theorem fin_ok {K : PySem.W.Frag} {F H F1 H1 : Hp} {al al1 : List Addr} {cl st : List Cell} {w : W} {v : V} {Q : VK} (C : Cells K cl F al H) (k : PostV K F al H Q (fin cl.length w st)) (x : Ext F al H F1 al1 H1) (C1 : Cells K st F1 al1 H1) (r : Rep K F1 al1 w v) : Q v H1 := by
  obtain ⟨d, cl', e, kk⟩ := k.some
  unfold fin at e
  simp only at e
  generalize clos st (st.length + 1) (List.range cl.length ++ (w.refs.filter fun n => decide (cl.length ≤ n)).eraseDups) = ids at e
  split at e
  · rename_i hc
    simp only [Bool.and_eq_true, decide_eq_true_eq, List.all_eq_true, List.contains_iff_mem] at hc
    obtain ⟨⟨p, hr⟩, ht⟩ := hc
    cases e
    obtain ⟨nd, cls⟩ := isPart_iff p
    obtain ⟨be, eb, hb⟩ := x.a
    have hle : cl.length ≤ ids.length := by
      have := congrArg List.length ht
      rw [List.length_take, List.length_range] at this
      omega
    have ea : partA al1 ids = al ++ (partA al1 ids).drop cl.length := by
      have e1 : (partA al1 ids).take cl.length = al := by
        unfold partA
        rw [← List.map_take, ht]
        refine List.ext_getElem? fun i => ?_
        rw [List.getElem?_map]
        by_cases hi : i < cl.length
        · rw [List.getElem?_range hi]
          show some ((al1[i]?).getD 0) = al[i]?
          rw [eb, List.getElem?_append_left (by rw [C.len]; exact hi), List.getElem?_eq_getElem (by rw [C.len]; exact hi)]
          rfl
        · rw [List.getElem?_eq_none (by rw [List.length_range]; omega), List.getElem?_eq_none (by rw [C.len]; omega)]
          rfl
      conv => lhs; rw [← List.take_append_drop cl.length (partA al1 ids), e1]
    have nb : ∀ b ∈ (partA al1 ids).drop cl.length, b ∈ be := fun b hb' => by
      obtain ⟨j, hj⟩ := List.getElem?_of_mem hb'
      rw [List.getElem?_drop] at hj
      obtain ⟨i, e1, e2⟩ := partA_of C1 p hj
      have hi : ¬ i < cl.length := fun hi => by
        have e3 : ids[i]? = some i := by
          have := congrArg (fun l => l[i]?) ht
          simp only [List.getElem?_take_of_lt hi, List.getElem?_range hi] at this
          exact this
        have := nodup_get nd e1 e3
        omega
      rw [eb, List.getElem?_append_right (by rw [C.len]; omega)] at e2
      exact List.mem_of_getElem? e2
    have X1 : Ext F al H F1 (partA al1 ids) H1 := ⟨x.f, ⟨_, ea, fun b hb' => hb b (nb b hb')⟩, x.h, x.n, x.t⟩
    exact kk F1 _ v H1 X1 (C1.part p) (r.mapc fun n hn a e => partA_get (hr n hn) e)
  · cases e
theorem slots_start {K : PySem.W.Frag} {F : Hp} {al : List Addr} {ds : List W} {vs : List V} {N : List Str} (r : Reps K F al ds vs) : Slots K (ds.map some ++ List.replicate (N.length - ds.length) none) F al (L2.start N vs) := by
  unfold L2.start
  refine ⟨by rw [List.length_append, List.length_append, List.length_map, List.length_map, List.length_replicate, List.length_replicate, r.length], fun i d h => ?_⟩
  by_cases hi : i < ds.length
  · rw [List.getElem?_append_left (by rw [List.length_map]; exact hi), List.getElem?_map] at h
    obtain ⟨d', e1, e2⟩ := Option.map_eq_some_iff.mp h
    cases e2
    obtain ⟨v, q1, q2⟩ := r.get e1
    refine ⟨v, ?_, q2⟩
    rw [List.getElem?_append_left (by rw [List.length_map, r.length]; exact hi), List.getElem?_map, q1]
    rfl
  · rw [List.getElem?_append_right (by rw [List.length_map]; omega), List.getElem?_replicate] at h
    split at h <;> cases h
section
variable {P : Program} {w : World} {K : PySem.W.Frag} {mg : Str → Option Value} {base : Heap}
theorem fn_okF {x qual : Str} {st : Stmt} {f : Addr} {fd : FuncData} {N ps : List Str} {k : Nat} {g : G} (F : Fun K x qual st f fd) (S : FnScope N ps (defScope st))
    (hb : ∀ (cdv : Value) (A : Around) (outer : List PySem.Env) (s : Shared) (H : Hp) (E : XK), Room k (A.deeper (envOfC qual (defScope st) s.heap.objs.size f cdv)) →
      PSs (cxOf CX0 P w K mg base N qual (defScope st) f cdv A outer s H E).nox (defBody st) (tFS K g)) : FnOk P w K mg base CX0 (k + 1) f fd ps (spF K ps.length (runG N.length g)) := by
  refine F.ok S (fun vs H Q E h => ?_) (fun cdv A outer s H vs Q E hr h => ?_)
  · obtain ⟨cl, Fz, al, ds, C, r, hl, _⟩ := h
    rw [r.length]
    exact hl
  · obtain ⟨cl, Fz, al, ds, C, r, hl, pk⟩ := h
    refine ⟨_, hb cdv A outer s H E hr, ?_⟩
    unfold runG at pk
    split at pk
    · rename_i wv r1 e
      exact ⟨_, Fz, al, _, ⟨slots_start r, C⟩, e, fun F' al' v σ' H' x R q => fin_ok C pk x R.c q⟩
    · rename_i r1 e
      exact ⟨_, Fz, al, _, ⟨slots_start r, C⟩, e, fun F' al' σ' H' x R => fin_ok (w := .d .non) C pk x R.c rfl⟩
    · exact pk.elim
end
section
variable {X : Cx} {k : Nat} {f C : Addr} {fd : FuncData} {ps : List Str} {dvs : List V} {ds : List Value} {x m : Str} {p pos apos : Pos} {e o : Expr} {es : List Expr} {g : OpN} {ms : MS} {dd : List W}
def ALen (ms : MS) (n : Nat) : Prop := ∀ r xs r', ms r = some (xs, r') → xs.length = n
theorem al_nil : ALen aNil 0 := fun r xs r' h => by
  have h : some ([], r) = some (xs, r') := h
  cases h
  rfl
theorem al_cons {m : M} {ms : MS} {n : Nat} (h : ALen ms n) : ALen (aCons m ms) (n + 1) := fun r xs r' e => by
  obtain ⟨x, r1, ys, q1, q2, rfl⟩ := aCons_some e
  rw [List.length_cons, h _ _ _ q2]
/-- with the defaults behind -/
def withD (dd : List W) (g : OpN) : OpN := fun cl ds => g cl (ds ++ dd)
/-- f(..), its result with the cells that it made -/
theorem pf_call {n : Nat} (c : Bool) (F : FnOk X.prog X.w X.K X.mg X.base CX0 k f fd ps (spF X.K n g)) (hr : Room k X.A) (hg : Gl X x) (hm : X.mg x = some (.ref f)) (hk : PySem.W.keepIn X.K (.ref f) = true) (hb : Binds X.K fd ps ds) (hd : Vals dvs ds)
    (hdd : ∀ F al, Reps X.K F al dd dvs) (hml : ALen ms (e :: es).length) (ha : PA X (e :: es) (tFA X.K ms)) (hn : (e :: es).length + dd.length = n := by rfl) (hdb : (x == ("__debug__" : Str)) = false := by decide) (he : starEach (e :: es) X.env = (false, eval e X.env) :: starEach es X.env := by rfl)
    (hpl : (backTo pos (starEach es X.env)).any (·.1) = false := by rfl) :
    PE X (.Call (.Name x p) (e :: es) [] pos) (tF X.K (eCall (withD dd (if c then oCall g else oCallP g)) ms)) := by
  refine PE.weak (pe_call (E := E0) F hr hg hm hk hb hd pass0 ha hdb he hpl) fun σ H Q h => ?_
  obtain ⟨rho, F0, al, d, r', R, e1, kk⟩ := h
  obtain ⟨xs, r1, q1, q3⟩ := eCall_some e1
  obtain ⟨cc, q4, rfl⟩ := liftN_some q3
  refine ⟨rho, F0, al, xs, r1, R, q1, fun F1 al1 vs H1 x1 R1 p1 => ?_⟩
  have hl : (vs ++ dvs).length = n := by
    rw [List.length_append, p1.length, hml _ _ _ q1, (hdd F1 al1).length, hn]
  have pv : PostV X.K F1 al1 H1 Q ((if c then oCall g else oCallP g) r1.cl (xs ++ dd)) := by
    rw [show (if c then oCall g else oCallP g) r1.cl (xs ++ dd) = some (d, cc) from q4]
    exact post_of R1.s fun F' al' v H' x3 R3 p3 => kk F' al' v H' (x1.trans x3) R3 p3
  cases c with
  | true => exact w_spF hl ⟨r1.cl, F1, al1, xs ++ dd, R1.c, p1.app (hdd F1 al1), pv⟩
  | false => exact w_spFP hl ⟨r1.cl, F1, al1, xs ++ dd, R1.c, p1.app (hdd F1 al1), pv⟩
end
end FL

namespace FL
open PySem PySem.Spec L2 PyProof.Rows

/-! ### list comprehensions -/
def wipeW (sl : List (Option W)) : List Nat → List (Option W)
  | [] => sl
  | v :: vs => (wipeW sl vs).set v none
def bYes : MB := fun r => some (true, r)
open Classical in
/-- the loop: the new list is the cell n -/
noncomputable def lcL (ck : Ck) (g : MG) (tt : MB) (te : M) (vs : List Nat) (n : Nat) : List W → Rho → Option Rho
  | [], r => if ckC ck r.cl then some r else none
  | d :: ds, r => if ckC ck r.cl then match g d { r with sl := wipeW r.sl vs } with
    | none => none
    | some r1 => match tt r1 with
      | none => none
      | some (false, r2) => lcL ck g tt te vs n ds { r with cl := r2.cl }
      | some (true, r2) => match te r2 with
        | none => none
        | some (y, r3) => match r3.cl[n]? with
          | some (.lst acc) => if acc.length < sizeLine then lcL ck g tt te vs n ds { r with cl := r3.cl.set n (.lst (acc ++ [y])) } else none
          | _ => none
    else none
/-- a new cell n as it is, or as data (the last one, nothing else refers to it) -/
def unCell (c : Bool) (n : Nat) (r : Rho) : Option (W × Rho) :=
  if c then some (.cel n, r) else match r.cl[n]? with
    | some (.lst ws) => match datas ws with
      | some xs => if r.cl.length = n + 1 ∧ ((r.cl.take n).all fun k => k.refs.all fun j => decide (j < n)) = true then some (.d (.lst xs), { r with cl := r.cl.take n }) else none
      | none => none
    | _ => none
noncomputable def eLc (c : Bool) (mi : MI) (g : MG) (tt : MB) (te : M) (vs : List Nat) : M := fun r => match mi r with
  | none => none
  | some ((ds, ck), r1) => match lcL ck g tt te vs r1.cl.length ds { r1 with cl := r1.cl ++ [.lst []] } with
    | none => none
    | some r2 => unCell c r1.cl.length r2
theorem wipe_slots {K : PySem.W.Frag} {sl : List (Option W)} {F : Hp} {al : List Addr} {σ : L2.St} (s : Slots K sl F al σ) : ∀ vs : List Nat, Slots K (wipeW sl vs) F al (wipe σ vs)
  | [] => s
  | v :: vs => (wipe_slots s vs).forget v
theorem wipe_get {σ : L2.St} {i : Nat} : ∀ {vs : List Nat}, i ∈ vs → (wipe σ vs)[i]? = if i < σ.length then some none else none
  | v :: vs, h => by
    unfold wipe
    by_cases e : v = i
    · subst e
      by_cases hv : v < σ.length
      · rw [List.getElem?_set_self (by rw [wipe_length]; exact hv), if_pos hv]
      · rw [List.getElem?_eq_none (by rw [List.length_set, wipe_length]; omega), if_neg hv]
    · rw [List.getElem?_set_ne e]
      exact wipe_get ((List.mem_cons.mp h).resolve_left fun z => e z.symm)
theorem wipe_eq {σ σ2 : L2.St} {vs : List Nat} (hl : σ2.length = σ.length) (h : ∀ j, j ∉ vs → σ2[j]? = (wipe σ vs)[j]?) : wipe σ2 vs = wipe σ vs := by
  refine List.ext_getElem? fun i => ?_
  by_cases hi : i ∈ vs
  · rw [wipe_get hi, wipe_get hi, hl]
  · rw [wipe_out hi, h i hi]
theorem unCell_ok {K : PySem.W.Frag} {F H F1 H1 : Hp} {al al1 : List Addr} {st : List Cell} {n : Nat} {p : Addr} {c : Bool} {w : W} {r' : Rho} {sl : List (Option W)} {σ : L2.St} (x : Ext F al H F1 al1 H1) (hn : al.length = n) (hp : al1[n]? = some p)
    (s : Slots K sl F al σ) (C : Cells K st F1 al1 H1) (e : unCell c n ⟨sl, st⟩ = some (w, r')) : ∃ F' al', Ext F al H F' al' H1 ∧ Rel K r' F' al' σ H1 ∧ Rep K F' al' w (.ref p) := by
  cases c with
  | true =>
    have e : some (W.cel n, (⟨sl, st⟩ : Rho)) = some (w, r') := e
    cases e
    exact ⟨F1, al1, x, ⟨s.ext x, C⟩, ⟨p, rfl, hp⟩⟩
  | false =>
    unfold unCell at e
    simp only [Bool.false_eq_true, if_false] at e
    split at e
    · rename_i ws e1
      split at e
      · rename_i xs e2
        split at e
        · rename_i hc
          cases e
          obtain ⟨hl, hr⟩ := hc
          simp only [List.all_eq_true, decide_eq_true_eq] at hr
          obtain ⟨F2, s2, n2, x2, C2⟩ := C.froze x n hn hr
          obtain ⟨_, vs, q1, q2⟩ := C.ok n p _ hp e1
          rw [datas_some e2] at q2
          exact ⟨F2, al, x2, ⟨s.ext x2, C2⟩, p, vs, rfl, (n2 n p (Nat.le_refl _) hp).trans q1, Reps0.mono s2 q2.to0⟩
        · cases e
      · cases e
    · cases e
theorem w_lc {X : Cx} {mi : MI} {g : MG} {tt : MB} {te : M} {vs ws : List Nat} {c : Bool} (hw : ∀ j ∈ ws, j ∈ vs) : ∀ σ H Q, tF X.K (eLc c mi g tt te vs) σ H Q → tLc (iF X.K mi) (gF X.K ws g) (tFB X.K tt) (tF X.K te) vs σ H Q := fun σ H Q ⟨r, F, al, d, r', R, e1, k⟩ => by
  unfold eLc at e1
  split at e1
  · cases e1
  · rename_i ds ck r1 q
    split at e1
    · cases e1
    · rename_i r2 q2
      refine ⟨r, F, al, ds, ck, r1, R, q, fun F1 al1 J H1 x1 R1 Wj D hD => ?_⟩
      obtain ⟨hF, hal⟩ := R1.c.free hD
      have x0 : Ext F1 al1 H1 F1 (al1 ++ [D]) (upd H1 D (.lst [])) := ext_new hF hD
      have C0 : Cells X.K (r1.cl ++ [.lst []]) F1 (al1 ++ [D]) (upd H1 D (.lst [])) := R1.c.new hD ⟨hF, [], upd_same, rfl⟩
      have hn : al1.length = r1.cl.length := R1.c.len
      -- what stays: the place of D
      have at_n : ∀ be : List Addr, (al1 ++ [D] ++ be)[r1.cl.length]? = some D := fun be => by
        rw [← hn, List.append_assoc, List.getElem?_append_right (Nat.le_refl _), Nat.sub_self]
        rfl
      refine ⟨fun i m H' => m = ds.length - i ∧ ∃ F' al' cl', Ext F1 (al1 ++ [D]) (upd H1 D (.lst [])) F' al' H' ∧ Cells X.K cl' F' al' H' ∧ lcL ck g tt te vs r1.cl.length (ds.drop i) ⟨r1.sl, cl'⟩ = some r2, ⟨ds.length, rfl, F1, _, _, Ext.refl _ _ _, C0, q2⟩, ?_⟩
      rintro i m H' ⟨rfl, F', al', cl', x', C', e'⟩
      obtain ⟨be, eb, _⟩ := id x'.a
      by_cases hi : i < ds.length
      · rw [List.drop_eq_getElem_cons hi] at e'
        unfold lcL at e'
        split at e'
        rotate_left
        · cases e'
        rename_i hck
        split at e'
        · cases e'
        · rename_i ra qa
          obtain ⟨g1, y1⟩ := Wj.go i ds[i] F' al' cl' H' (List.getElem?_eq_getElem hi) x'.f ⟨[D] ++ be, by rw [eb, List.append_assoc]⟩ C' hck
          refine .inr ⟨g1, fun H2 => ∃ F3 al3 cl3, Ext F1 (al1 ++ [D]) (upd H1 D (.lst [])) F3 al3 H2 ∧ Cells X.K cl3 F3 al3 H2 ∧ lcL ck g tt te vs r1.cl.length (ds.drop (i + 1)) ⟨r1.sl, cl3⟩ = some r2, fun H2 z => ⟨ds.length - (i + 1), by omega, rfl, z⟩, fun x H2 hy => ?_⟩
          obtain ⟨F2, x2, C2, p2⟩ := y1 x H2 hy
          have sw : Slots X.K (wipeW r1.sl vs) F2 al' (wipe σ vs) := ((wipe_slots R1.s vs).ext (x0.trans x')).ext x2
          refine ⟨_, F2, al', ds[i], ra, ⟨sw, C2⟩, p2, qa, fun F3 al3 σ3 H3 x3 R3 l3 o3 => ?_⟩
          refine ⟨wipe_eq (by rw [l3, wipe_length]) fun j hj => o3 j fun z => hj (hw j z), ?_⟩
          have xx := (x'.trans x2).trans x3
          cases ht : tt ra with
          | none =>
            simp only [ht] at e'
            cases e'
          | some pr =>
            obtain ⟨b, rb⟩ := pr
            simp only [ht] at e'
            refine ⟨ra, F3, al3, b, rb, R3, ht, fun F4 al4 H4 x4 R4 => ?_⟩
            cases b with
            | false => exact iteF ⟨F4, al4, rb.cl, xx.trans x4, R4.c, e'⟩
            | true =>
              refine iteT ?_
              cases he : te rb with
              | none =>
                simp only [he] at e'
                cases e'
              | some py =>
                obtain ⟨y, rc⟩ := py
                simp only [he] at e'
                refine ⟨rb, F4, al4, y, rc, R4, he, fun F5 al5 v H5 x5 R5 p5 => ?_⟩
                split at e'
                · rename_i acc hacc
                  split at e'
                  · rename_i hz
                    have x6 := (xx.trans x4).trans x5
                    obtain ⟨be5, eb5, _⟩ := id x6.a
                    have hD5 : al5[r1.cl.length]? = some D := by
                      rw [eb5]
                      exact at_n be5
                    obtain ⟨nF, vsv, q1, q2'⟩ := R5.c.ok _ _ _ hD5 hacc
                    refine ⟨vsv, q1, by rw [q2'.length]; exact hz, F5, al5, rc.cl.set r1.cl.length (.lst (acc ++ [y])), x6.trans (ext_wr hD5 nF), R5.c.wr hD5 nF ⟨nF, _, upd_same, q2'.app (Reps.one p5)⟩, e'⟩
                  · cases e'
                · cases e'
      · rw [List.drop_of_length_le (by omega)] at e'
        unfold lcL at e'
        split at e'
        rotate_left
        · cases e'
        rename_i hck
        cases e'
        refine .inl ⟨Wj.stop i F' al' cl' H' (by omega) x'.f ⟨[D] ++ be, by rw [eb, List.append_assoc]⟩ C' hck, ?_⟩
        have hD' : al'[r1.cl.length]? = some D := by
          rw [eb]
          exact at_n be
        obtain ⟨F9, al9, x9, R9, p9⟩ := unCell_ok (x0.trans x') hn hD' R1.s C' e1
        exact k F9 al9 (.ref D) H' (x1.trans x9) R9 p9
section
variable {X : Cx} {elt tg iter : Expr} {ifs : List Expr} {scope : Scope} {own : List (Str × Nat)} {pos spos : Pos}
theorem fts_nil : PTs X [] (tFB X.K bYes) := ⟨fun pins s σ H Q I ⟨r, F, al, d, r', R, e, k⟩ => pts_nil.run pins s σ H Q I (by
  have e : some (true, r) = some (d, r') := e
  cases e
  exact k F al H (Ext.refl _ _ _) R)⟩
theorem fts_one {c : Expr} {m : MB} (h : PT X c (tFB X.K m)) : PTs X [c] (tFB X.K m) := pts_one h
theorem pf_lc (c : Bool) {mi : MI} {g : MG} {tt : MB} {te : M} {ws : List Nat} (hc : X.calm = true) (hN : X.N.Nodup) (hi : PI X tg iter (iF X.K mi)) (ok : BlkOk X.N X.env.scope scope own) (hw : ∀ j ∈ ws, j ∈ own.map (·.2))
    (hg : ∀ (s : Shared) (H : Hp) (C : Addr) (cl : List (Str × Addr)) (fp : List Addr), PG (X.blk s H scope (compEnvC scope cl C X.env) fp) tg (gF X.K ws g)) (ht : ∀ (s : Shared) (H : Hp) (C : Addr) (cl : List (Str × Addr)) (fp : List Addr), PTs (X.blk s H scope (compEnvC scope cl C X.env) fp) ifs (tFB X.K tt))
    (he : ∀ (s : Shared) (H : Hp) (C : Addr) (cl : List (Str × Addr)) (fp : List Addr), PE (X.blk s H scope (compEnvC scope cl C X.env) fp) elt (tF X.K te)) (hs : ∀ x, foldedSetIterable iter X.env x = pure x := by intro _; rfl) :
    PE X (.ListComp elt [⟨tg, iter, ifs, 0⟩] scope pos) (tF X.K (eLc c mi g tt te (own.map (·.2)))) := PE.weak (pe_lc hc hN hi ok hg ht he hs) (w_lc hw)
theorem fs_setLc (c : Bool) {i : Nat} {y : Str} {py : Pos} {mi : MI} {g : MG} {tt : MB} {te : M} {ws : List Nat} (hc : X.calm = true) (hN : X.N.Nodup) (hy : X.N[i]? = some y) (hyl : X.env.scope.names.lookup y = some .local)
    (hsw : swapsWith (.ListComp elt [⟨tg, iter, ifs, 0⟩] scope pos) (some (.Name y py)) spos.line X.env = pure true) (hi : PI X tg iter (iF X.K mi)) (ok : BlkOk X.N X.env.scope scope own) (hw : ∀ j ∈ ws, j ∈ own.map (·.2))
    (hg : ∀ (s : Shared) (H : Hp) (C : Addr) (cl : List (Str × Addr)) (fp : List Addr), PG (X.blk s H scope (compEnvC scope cl C X.env) fp) tg (gF X.K ws g)) (ht : ∀ (s : Shared) (H : Hp) (C : Addr) (cl : List (Str × Addr)) (fp : List Addr), PTs (X.blk s H scope (compEnvC scope cl C X.env) fp) ifs (tFB X.K tt))
    (he : ∀ (s : Shared) (H : Hp) (C : Addr) (cl : List (Str × Addr)) (fp : List Addr), PE (X.blk s H scope (compEnvC scope cl C X.env) fp) elt (tF X.K te)) (hs : ∀ x, foldedSetIterable iter X.env x = pure x := by intro _; rfl) :
    PS X (.Assign [.Name y py] (.ListComp elt [⟨tg, iter, ifs, 0⟩] scope pos) spos) (tFS X.K (sAsg (eLc c mi g tt te (own.map (·.2))) (tName i))) :=
  PS.weak (ps_setLc hc hN hy hyl hsw hi ok hg ht he hs) fun D σ H h => by
    have h2 := w_set (X := X) D σ H h
    exact w_lc hw σ H _ h2
end

/-! ### what is walked -/
def itemsL (cl : List Cell) : W → Option (List W × Ck)
  | .d (.lst ds) => some (ds.map W.d, none)
  | .d (.rol ds) => some (ds.map W.d, none)
  | .cel n => match cl[n]? with
    | some (.lst ws) => some (ws, some [(n, ws)])
    | _ => none
  | _ => none
def iLst (m : M) : MI := fun r => match m r with
  | some (w, r1) => match itemsL r1.cl w with
    | some p => some (p, r1)
    | none => none
  | none => none
def iTupF (m : M) : MI := fun r => match m r with
  | some (w, r1) => match asTup w with
    | some ds => some ((ds, none), r1)
    | none => none
  | none => none
def intsW (lo : Int) : Nat → List W
  | 0 => []
  | n + 1 => .d (.int lo) :: intsW (lo + 1) n
theorem intsW_get : ∀ (n : Nat) (lo : Int) (i : Nat), i < n → (intsW lo n)[i]? = some (.d (.int (lo + i)))
  | n + 1, lo, 0, _ => by
    show some _ = some _
    simp
  | n + 1, lo, i + 1, h => by
    show (intsW (lo + 1) n)[i]? = _
    rw [intsW_get n (lo + 1) i (by omega)]
    congr 3
    push_cast
    omega
theorem intsW_len : ∀ (n : Nat) (lo : Int), (intsW lo n).length = n
  | 0, _ => rfl
  | n + 1, lo => by
    show (intsW (lo + 1) n).length + 1 = n + 1
    rw [intsW_len n]
def iRng (m : MS) : MI := fun r => match m r with
  | some ([.d (.int j)], r1) => if -(2 ^ 62) ≤ j ∧ j < 2 ^ 62 then some ((intsW 0 j.toNat, none), r1) else none
  | some ([.d (.int i), .d (.int j)], r1) => if -(2 ^ 62) ≤ i ∧ i < 2 ^ 62 ∧ -(2 ^ 62) ≤ j ∧ j < 2 ^ 62 then some ((intsW i (j - i).toNat, none), r1) else none
  | _ => none
theorem wk_same {K : PySem.W.Frag} {F1 : Hp} {al1 : List Addr} {cl1 : List Cell} {H1 H2 : Hp} {d : W} {x : V} (e : H2 = H1) (C : Cells K cl1 F1 al1 H1) (r : Rep K F1 al1 d x) : ∃ F2, Ext F1 al1 H1 F2 al1 H2 ∧ Cells K cl1 F2 al1 H2 ∧ Rep K F2 al1 d x := by
  subst e
  exact ⟨F1, Ext.refl _ _ _, C, r⟩
/-- the list at a is at every later time one of these items -/
def StL (K : PySem.W.Frag) (F : Hp) (al : List Addr) (a : Addr) (ds : List W) (ck : Ck) : Prop := ∀ (F1 : Hp) (al1 : List Addr) (cl1 : List Cell) (H1 : Hp), Same F F1 → (∃ be, al1 = al ++ be) → Cells K cl1 F1 al1 H1 → ckC ck cl1 → ∃ vs, SqL K H1 a vs ∧ Reps K F1 al1 ds vs
theorem stL_frz {K : PySem.W.Frag} {F : Hp} {al : List Addr} {a : Addr} {vs : List V} {ds : List W} {ck : Ck} (h : SqL K F a vs) (r : Reps K F al ds vs) : StL K F al a ds ck := fun F1 al1 cl1 H1 e ha C _ => by
  obtain ⟨be, rfl⟩ := ha
  exact ⟨vs, C.fh.seq (e.seq h), Reps.mono e r⟩
theorem items_ok {K : PySem.W.Frag} {cl : List Cell} {F : Hp} {al : List Addr} {H : Hp} (C : Cells K cl F al H) {w : W} {v : V} (r : Rep K F al w v) {ds : List W} {ck : Ck} (h : itemsL cl w = some (ds, ck)) : ∃ a, v = .ref a ∧ StL K F al a ds ck ∧ ckC ck cl := by
  unfold itemsL at h
  split at h
  · cases h
    obtain ⟨a, vs, rfl, q1, q2⟩ := r
    exact ⟨a, rfl, stL_frz (SqL.of q1) (Reps.of0 q2), trivial⟩
  · cases h
    obtain ⟨a, vs, rfl, q1, q2⟩ := r
    exact ⟨a, rfl, stL_frz q1 (Reps.of0 q2), trivial⟩
  · rename_i n
    split at h
    · rename_i ws q
      cases h
      obtain ⟨a, rfl, ha⟩ := r
      refine ⟨a, rfl, fun F1 al1 cl1 H1 e hal C1 hck => ?_, ckC_one q⟩
      obtain ⟨be, rfl⟩ := hal
      obtain ⟨_, vs, q1, q2⟩ := C1.ok n a _ (get_pre ha) (hck _ (List.mem_singleton.mpr rfl))
      exact ⟨vs, SqL.of q1, q2⟩
    · cases h
  · cases h
theorem wk_list {K : PySem.W.Frag} {F : Hp} {al : List Addr} {a : Addr} {ds : List W} {ck : Ck} (h : StL K F al a ds ck) : Wk K (Itl K a) F al ds ck where
  go := fun i d F1 al1 cl1 H1 hd e ha C hck => by
    obtain ⟨vs, hs, r⟩ := h F1 al1 cl1 H1 e ha C hck
    obtain ⟨v, q1, q2⟩ := r.get hd
    refine ⟨⟨vs, v, hs, q1⟩, fun x H2 ⟨e2, hx⟩ => wk_same e2 C ?_⟩
    have := hx vs hs
    rw [q1] at this
    cases this
    exact q2
  stop := fun i F1 al1 cl1 H1 hi e ha C hck => by
    obtain ⟨vs, hs, r⟩ := h F1 al1 cl1 H1 e ha C hck
    exact ⟨vs, hs, by rw [r.length]; exact hi⟩
theorem wk_tup {K : PySem.W.Frag} {F : Hp} {al : List Addr} {a : Addr} {vs : List V} {ds : List W} (h : SqT K F a vs) (r : Reps K F al ds vs) : Wk K (Itt K a) F al ds none where
  go := fun i d F1 al1 cl1 H1 hd e ha C _ => by
    obtain ⟨be, rfl⟩ := ha
    obtain ⟨v, q1, q2⟩ := r.get hd
    have hs : SqT K H1 a vs := Same.seqT C.fh (Same.seqT e h)
    refine ⟨⟨vs, v, hs, q1⟩, fun x H2 ⟨e2, hx⟩ => wk_same e2 C ?_⟩
    have := hx vs hs
    rw [q1] at this
    cases this
    exact Rep.mono e q2
  stop := fun i F1 al1 cl1 H1 hi e _ C _ => ⟨vs, Same.seqT C.fh (Same.seqT e h), by rw [r.length]; exact hi⟩
theorem wk_rng {K : PySem.W.Frag} {F : Hp} {al : List Addr} (lo : Int) (n : Nat) : Wk K (Itr lo n) F al (intsW lo n) none where
  go := fun i d F1 al1 cl1 H1 hd e ha C _ => by
    have hi : i < n := by
      have := (List.getElem?_eq_some_iff.mp hd).1
      rw [intsW_len] at this
      exact this
    rw [intsW_get n lo i hi] at hd
    cases hd
    exact ⟨hi, fun x H2 ⟨e2, hx⟩ => wk_same e2 C hx⟩
  stop := fun i F1 al1 cl1 H1 hi e _ C _ => by
    rw [intsW_len] at hi
    exact hi
/-- numbered -/
def numW : Nat → List W → List W
  | _, [] => []
  | i, d :: ds => tupW [.d (.int i), d] :: numW (i + 1) ds
theorem numW_get : ∀ (ds : List W) (k i : Nat) (d : W), (numW k ds)[i]? = some d → ∃ d0, ds[i]? = some d0 ∧ d = tupW [.d (.int ((k + i : Nat) : Int)), d0]
  | [], k, i, d, h => by simp [numW] at h
  | d0 :: ds, k, 0, d, h => by
    have h : some (tupW [.d (.int (k : Int)), d0]) = some d := h
    cases h
    exact ⟨d0, rfl, rfl⟩
  | d0 :: ds, k, i + 1, d, h => by
    have h : (numW (k + 1) ds)[i]? = some d := h
    obtain ⟨d1, q1, q2⟩ := numW_get ds (k + 1) i d h
    refine ⟨d1, q1, ?_⟩
    rw [q2, show k + 1 + i = k + (i + 1) by omega]
theorem numW_len : ∀ (ds : List W) (k : Nat), (numW k ds).length = ds.length
  | [], _ => rfl
  | d :: ds, k => by
    show (numW (k + 1) ds).length + 1 = ds.length + 1
    rw [numW_len ds]
def iEnumF (m : M) : MI := fun r => match m r with
  | some (w, r1) => match itemsL r1.cl w with
    | some (ds, ck) => some ((numW 0 ds, ck), r1)
    | none => none
  | none => none
/-- a new tuple is given out -/
theorem wk_new {K : PySem.W.Frag} {F1 : Hp} {al1 : List Addr} {cl1 : List Cell} {H1 : Hp} {ws : List W} {vs : List V} {T : Addr} (C : Cells K cl1 F1 al1 H1) (r : Reps K F1 al1 ws vs) (hT : H1 T = none) : ∃ F2, Ext F1 al1 H1 F2 al1 (upd H1 T (.tup vs)) ∧ Cells K cl1 F2 al1 (upd H1 T (.tup vs)) ∧ Rep K F2 al1 (tupW ws) (.ref T) := by
  obtain ⟨hF, _⟩ := C.free hT
  have x : Ext F1 al1 H1 (upd F1 T (.tup vs)) al1 (upd H1 T (.tup vs)) := ext_frz hF hT
  refine ⟨_, x, C.frz hT, ?_⟩
  have r2 := x.reps r
  unfold tupW
  split
  · rename_i xs e
    rw [datas_some e] at r2
    exact ⟨T, vs, rfl, upd_same, r2.to0⟩
  · exact ⟨T, vs, rfl, upd_same, r2⟩
theorem wk_enum {K : PySem.W.Frag} {F : Hp} {al : List Addr} {a : Addr} {ds : List W} {ck : Ck} (h : StL K F al a ds ck) : Wk K (Ite K a) F al (numW 0 ds) ck where
  go := fun i d F1 al1 cl1 H1 hd e ha C hck => by
    obtain ⟨vs, hs, r⟩ := h F1 al1 cl1 H1 e ha C hck
    obtain ⟨d0, hd0, rfl⟩ := numW_get ds 0 i d hd
    obtain ⟨v, q1, q2⟩ := r.get hd0
    refine ⟨⟨vs, v, hs, q1⟩, fun x H2 ⟨T, y, ex, hT, eH, hx⟩ => ?_⟩
    have := hx vs hs
    rw [q1] at this
    cases this
    subst ex eH
    refine wk_new C ⟨_, _, rfl, ?_, _, _, rfl, q2, rfl⟩ hT
    show V.int (i : Nat) = V.int ((0 + i : Nat) : Int)
    rw [Nat.zero_add]
  stop := fun i F1 al1 cl1 H1 hi e ha C hck => by
    obtain ⟨vs, hs, r⟩ := h F1 al1 cl1 H1 e ha C hck
    rw [numW_len] at hi
    exact ⟨vs, hs, by rw [r.length]; exact hi⟩
section
variable {X : Cx} {tg e a b : Expr} {pos p tpos : Pos} {elts : List Expr} {kk : Nat}
theorem fi_list {m : M} (h : PE X e (tF X.K m)) : PI X tg e (iF X.K (iLst m)) := PI.weak (pi_list h) fun σ H R ⟨r, F, al, ds, ck, r', Rl, e1, k⟩ => by
  unfold iLst at e1
  split at e1
  · rename_i w r1 q
    split at e1
    · rename_i pr hp
      cases e1
      refine ⟨r, F, al, _, r', Rl, q, fun F1 al1 v H1 x1 R1 p1 => ?_⟩
      obtain ⟨a, rfl, st, hck⟩ := items_ok R1.c p1 hp
      obtain ⟨vs, q2, _⟩ := st F1 al1 r'.cl H1 (Same.refl _) ⟨[], by simp⟩ R1.c hck
      exact ⟨a, rfl, ⟨vs, q2⟩, k F1 al1 _ H1 x1 R1 (wk_list st)⟩
    · cases e1
  · cases e1
theorem fi_tup {m : M} (h : PE X e (tF X.K m)) : PI X tg e (iF X.K (iTupF m)) := PI.weak (pi_tup h) fun σ H R ⟨r, F, al, ds, ck, r', Rl, e1, k⟩ => by
  unfold iTupF at e1
  split at e1
  · rename_i w r1 q
    split at e1
    · rename_i xs et
      cases e1
      refine ⟨r, F, al, _, r', Rl, q, fun F1 al1 v H1 x1 R1 p1 => ?_⟩
      obtain ⟨a, vs, rfl, q2, q3⟩ := asTup_ok p1 et
      exact ⟨a, rfl, ⟨vs, Same.seqT R1.c.fh q2⟩, k F1 al1 _ H1 x1 R1 (wk_tup q2 q3)⟩
    · cases e1
  · cases e1
theorem fi_enum {m : M} (hg : Gl X "enumerate") (hm : X.mg "enumerate" = none) (ha : PA X [e] (tFA X.K (aCons m aNil))) (hs : starEach [e] X.env = [(false, eval e X.env)] := by rfl) : PI X (.Tuple elts kk tpos) (.Call (.Name "enumerate" p) [e] [] pos) (iF X.K (iEnumF m)) :=
  PI.weak (pi_enum hg hm ha hs) fun σ H R ⟨r, F, al, ds, ck, r', Rl, e1, k⟩ => by
    unfold iEnumF at e1
    split at e1
    · rename_i w r1 q
      split at e1
      · rename_i xs ck' hp
        cases e1
        refine ⟨r, F, al, [w], r', Rl, by unfold aCons; rw [q]; rfl, fun F1 al1 v H1 x1 R1 p1 => ?_⟩
        obtain ⟨v1, vr, rfl, h1, h2⟩ := p1
        have h2 : vr = [] := h2
        subst h2
        obtain ⟨a, rfl, st, hck⟩ := items_ok R1.c h1 hp
        obtain ⟨vs, q2, _⟩ := st F1 al1 r'.cl H1 (Same.refl _) ⟨[], by simp⟩ R1.c hck
        exact ⟨a, vs, rfl, q2, k F1 al1 _ H1 x1 R1 (wk_enum st)⟩
      · cases e1
    · cases e1
theorem fi_rng1 {m : M} (hg : Gl X "range") (hm : X.mg "range" = none) (ha : PA X [a] (tFA X.K (aCons m aNil))) (hs : starEach [a] X.env = [(false, eval a X.env)] := by rfl) : PI X tg (.Call (.Name "range" p) [a] [] pos) (iF X.K (iRng (aCons m aNil))) :=
  PI.weak (pi_range1 hg hm ha hs) fun σ H R ⟨r, F, al, ds, ck, r', Rl, e1, k⟩ => by
    unfold iRng at e1
    split at e1
    · rename_i j r1 q
      split at e1
      · rename_i hj
        cases e1
        refine ⟨r, F, al, _, r', Rl, q, fun F1 al1 v H1 x1 R1 p1 => ?_⟩
        obtain ⟨v1, vr, rfl, h1, h2⟩ := p1
        have h1 : v1 = .int j := h1
        have h2 : vr = [] := h2
        subst h1 h2
        exact ⟨j, rfl, hj.1, hj.2, k F1 al1 _ H1 x1 R1 (wk_rng 0 j.toNat)⟩
      · cases e1
    · rename_i i j r1 q
      obtain ⟨_, _, xs, _, q2, q3⟩ := aCons_some q
      have q2 : some ([], _) = some (xs, _) := q2
      cases q2
      cases q3
    · cases e1
theorem fi_rng2 {m m2 : M} (hg : Gl X "range") (hm : X.mg "range" = none) (ha : PA X [a, b] (tFA X.K (aCons m (aCons m2 aNil)))) (hs : starEach [a, b] X.env = [(false, eval a X.env), (false, eval b X.env)] := by rfl) (hs2 : starEach [b] X.env = [(false, eval b X.env)] := by rfl) :
    PI X tg (.Call (.Name "range" p) [a, b] [] pos) (iF X.K (iRng (aCons m (aCons m2 aNil)))) :=
  PI.weak (pi_range2 hg hm ha hs hs2) fun σ H R ⟨r, F, al, ds, ck, r', Rl, e1, k⟩ => by
    unfold iRng at e1
    split at e1
    · rename_i j r1 q
      obtain ⟨_, _, xs, _, q2, q3⟩ := aCons_some q
      obtain ⟨_, _, ys, _, _, q5⟩ := aCons_some q2
      subst q5
      cases q3
    · rename_i i j r1 q
      split at e1
      · rename_i hj
        cases e1
        refine ⟨r, F, al, _, r', Rl, q, fun F1 al1 v H1 x1 R1 p1 => ?_⟩
        obtain ⟨v1, vr, rfl, h1, v2, vr2, rfl, h2, h3⟩ := p1
        have h1 : v1 = .int i := h1
        have h2 : v2 = .int j := h2
        have h3 : vr2 = [] := h3
        subst h1 h2 h3
        exact ⟨i, j, rfl, hj, k F1 al1 _ H1 x1 R1 (wk_rng i (j - i).toNat)⟩
      · cases e1
    · cases e1
end
end FL

namespace FL
open PySem PySem.Spec L2

/-! ### data for == -/
mutual
def D.py : D → Option PyData
  | .non => some .none
  | .bl b => some (.bool b)
  | .int i => some (.int i)
  | .str x => some (.str x)
  | .tup ds => (pyA ds).map .tuple
  | .rtup ds => (pyA ds).map .tuple
  | .lst ds => (pyA ds).map .list
  | .rol ds => (pyA ds).map .list
  | _ => none
def pyA : List D → Option (List PyData)
  | [] => some []
  | d :: ds => match D.py d, pyA ds with
    | some p, some ps => some (p :: ps)
    | _, _ => none
end
mutual
theorem py_ok {K : PySem.W.Frag} {F H : Hp} (s : Same F H) : ∀ {d : D} {v : V} {p : PyData}, Rep0 K F d v → d.py = some p → Dp K H v p
  | .non, v, p, r, e => by
    have r : v = .non := r
    cases e
    rw [r]
    exact .non
  | .bl b, v, p, r, e => by
    have r : v = .bl b := r
    cases e
    rw [r]
    exact .bl b
  | .int i, v, p, r, e => by
    have r : v = .int i := r
    cases e
    rw [r]
    exact .int i
  | .str i, v, p, r, e => by
    have r : v = .str i := r
    cases e
    rw [r]
    exact .str i
  | .tup ds, v, p, ⟨a, vs, e1, e2, e3⟩, e => by
    obtain ⟨ps, q1, q2⟩ := Option.map_eq_some_iff.mp (show (pyA ds).map PyData.tuple = some p from e)
    subst q2
    rw [e1]
    exact .tup (SqT.of (s _ _ e2)) (pyA_ok s e3 q1)
  | .rtup ds, v, p, ⟨a, vs, e1, e2, e3⟩, e => by
    obtain ⟨ps, q1, q2⟩ := Option.map_eq_some_iff.mp (show (pyA ds).map PyData.tuple = some p from e)
    subst q2
    rw [e1]
    exact .tup (Same.seqT s e2) (pyA_ok s e3 q1)
  | .lst ds, v, p, ⟨a, vs, e1, e2, e3⟩, e => by
    obtain ⟨ps, q1, q2⟩ := Option.map_eq_some_iff.mp (show (pyA ds).map PyData.list = some p from e)
    subst q2
    rw [e1]
    exact .lst (SqL.of (s _ _ e2)) (pyA_ok s e3 q1)
  | .rol ds, v, p, ⟨a, vs, e1, e2, e3⟩, e => by
    obtain ⟨ps, q1, q2⟩ := Option.map_eq_some_iff.mp (show (pyA ds).map PyData.list = some p from e)
    subst q2
    rw [e1]
    exact .lst (s.seq e2) (pyA_ok s e3 q1)
  | .ins _ _ _, v, p, _, e => nomatch e
  | .dk _ _, v, p, _, e => nomatch e
  | .dt _ _, v, p, _, e => nomatch e
  | .op _, v, p, _, e => nomatch e
theorem pyA_ok {K : PySem.W.Frag} {F H : Hp} (s : Same F H) : ∀ {ds : List D} {vs : List V} {ps : List PyData}, Reps0 K F ds vs → pyA ds = some ps → DpAll K H vs ps
  | [], vs, ps, r, e => by
    have r : vs = [] := r
    cases e
    rw [r]
    exact .nil
  | d :: ds, vs, ps, ⟨v, vr, e1, e2, e3⟩, e => by
    unfold pyA at e
    split at e
    · rename_i p ps' h1 h2
      cases e
      rw [e1]
      exact .cons (py_ok s e2 h1) (pyA_ok s e3 h2)
    · cases e
end
/-- a name's value for == -/
def pyW (cl : List Cell) : W → Option PyData
  | .d x => x.py
  | .cel n => match cl[n]? with
    | some (.lst ws) => match datas ws with
      | some xs => (pyA xs).map .list
      | none => none
    | _ => none
  | .tup ws => match datas ws with
    | some xs => (pyA xs).map .tuple
    | none => none
theorem pyW_ok {K : PySem.W.Frag} {cl : List Cell} {F : Hp} {al : List Addr} {H : Hp} (C : Cells K cl F al H) {w : W} {v : V} (r : Rep K F al w v) {p : PyData} (h : pyW cl w = some p) : Dp K H v p := by
  cases w with
  | d x => exact py_ok C.fh r h
  | cel n =>
    simp only [pyW] at h
    obtain ⟨a, rfl, ha⟩ := r
    split at h
    · rename_i ws e1
      split at h
      · rename_i xs e2
        obtain ⟨ps, q1, q2⟩ := Option.map_eq_some_iff.mp h
        subst q2
        obtain ⟨_, vs, q3, q4⟩ := C.ok n a _ ha e1
        rw [datas_some e2] at q4
        exact .lst (SqL.of q3) (pyA_ok C.fh q4.to0 q1)
      · cases h
    · cases h
  | tup ws =>
    simp only [pyW] at h
    obtain ⟨a, vs, rfl, h1, h2⟩ := r
    split at h
    · rename_i xs e2
      obtain ⟨ps, q1, q2⟩ := Option.map_eq_some_iff.mp h
      subst q2
      rw [datas_some e2] at h2
      exact .tup (SqT.of (C.fh _ _ h1)) (pyA_ok C.fh h2.to0 q1)
    · cases h
def eqvD (neg : Bool) : Op2 := fun cl x y => match pyW cl x, pyW cl y with
  | some p, some q => if SeqAt.shaped p = true ∧ SeqAt.shaped q = true then some (.d (.bl (if neg then !PyData.eqv p q else PyData.eqv p q)), cl) else none
  | _, _ => none
section
variable {X : Cx}
theorem eq_ok (hu : X.A.units + 64 < cLine) : OpR X (compareOp .Eq) (r2F X.K (eqvD false)) := OpR.weak (op_eqD hu) fun vx vy H Q ⟨cl, F, al, x, y, C, rx, ry, k⟩ => by
  obtain ⟨d, cl', e, kk⟩ := k.some
  unfold eqvD at e
  split at e
  · rename_i p q e1 e2
    split at e
    · rename_i h
      cases e
      exact ⟨p, q, pyW_ok C rx e1, pyW_ok C ry e2, h.1, h.2, kk F al _ H (Ext.refl _ _ _) C rfl⟩
    · cases e
  · cases e
theorem ne_ok (hu : X.A.units + 64 < cLine) : OpR X (compareOp .NotEq) (r2F X.K (eqvD true)) := OpR.weak (op_neD hu) fun vx vy H Q ⟨cl, F, al, x, y, C, rx, ry, k⟩ => by
  obtain ⟨d, cl', e, kk⟩ := k.some
  unfold eqvD at e
  split at e
  · rename_i p q e1 e2
    split at e
    · rename_i h
      cases e
      exact ⟨p, q, pyW_ok C rx e1, pyW_ok C ry e2, h.1, h.2, kk F al _ H (Ext.refl _ _ _) C rfl⟩
    · cases e
  · cases e
/-- x in a list of data -/
def inD (neg : Bool) : Op2 := fun cl x y => match pyW cl x, pyW cl y with
  | some p, some (.list qs) => if SeqAt.shaped p = true ∧ SeqAt.shaped (.list qs) = true then some (.d (.bl (if neg then !qs.any fun z => PyData.eqv z p else qs.any fun z => PyData.eqv z p)), cl) else none
  | _, _ => none
theorem in_ok (hu : X.A.units + 65 < cLine) : OpR X (compareOp .In) (r2F X.K (inD false)) := OpR.weak (op_inD hu) fun vx vy H Q ⟨cl, F, al, x, y, C, rx, ry, k⟩ => by
  obtain ⟨d, cl', e, kk⟩ := k.some
  unfold inD at e
  split at e
  · rename_i p q e1 e2
    split at e
    · rename_i h
      cases e
      exact ⟨p, q, pyW_ok C rx e1, pyW_ok C ry e2, h.1, h.2, kk F al _ H (Ext.refl _ _ _) C rfl⟩
    · cases e
  · cases e
theorem notin_ok (hu : X.A.units + 65 < cLine) : OpR X (compareOp .NotIn) (r2F X.K (inD true)) := OpR.weak (op_notInD hu) fun vx vy H Q ⟨cl, F, al, x, y, C, rx, ry, k⟩ => by
  obtain ⟨d, cl', e, kk⟩ := k.some
  unfold inD at e
  split at e
  · rename_i p q e1 e2
    split at e
    · rename_i h
      cases e
      exact ⟨p, q, pyW_ok C rx e1, pyW_ok C ry e2, h.1, h.2, kk F al _ H (Ext.refl _ _ _) C rfl⟩
    · cases e
  · cases e
/-- is None -/
def isN (neg : Bool) : Op2 := fun cl x y => match y with
  | .d .non => match x with
    | .d (.op _) => none
    | .d .non => some (.d (.bl (!neg)), cl)
    | _ => some (.d (.bl neg), cl)
  | _ => none
theorem isN_v {K : PySem.W.Frag} {F : Hp} {al : List Addr} {x : W} {v : V} (r : Rep K F al x v) {neg : Bool} {cl cl' : List Cell} {d : W} (e : isN neg cl x (.d .non) = some (d, cl')) : cl' = cl ∧ d = .d (.bl (if neg then !decide (v = .non) else decide (v = .non))) := by
  have no : v ≠ .non → (if neg then !decide (v = .non) else decide (v = .non)) = neg := fun h => by
    rw [decide_eq_false h]
    cases neg <;> rfl
  cases x with
  | cel n =>
    cases e
    obtain ⟨a, rfl, _⟩ := r
    exact ⟨rfl, by rw [no (by intro z; cases z)]⟩
  | tup ws =>
    cases e
    obtain ⟨a, vs, rfl, _⟩ := r
    exact ⟨rfl, by rw [no (by intro z; cases z)]⟩
  | d x =>
    cases x with
    | non =>
      have r : v = .non := r
      subst r
      cases e
      refine ⟨rfl, ?_⟩
      cases neg <;> rfl
    | op u => cases e
    | bl b =>
      have r : v = .bl b := r
      subst r
      cases e
      exact ⟨rfl, by rw [no (by intro z; cases z)]⟩
    | int b =>
      have r : v = .int b := r
      subst r
      cases e
      exact ⟨rfl, by rw [no (by intro z; cases z)]⟩
    | str b =>
      have r : v = .str b := r
      subst r
      cases e
      exact ⟨rfl, by rw [no (by intro z; cases z)]⟩
    | tup ds =>
      cases e
      obtain ⟨a, vs, rfl, _⟩ := r
      exact ⟨rfl, by rw [no (by intro z; cases z)]⟩
    | rtup ds =>
      cases e
      obtain ⟨a, vs, rfl, _⟩ := r
      exact ⟨rfl, by rw [no (by intro z; cases z)]⟩
    | lst ds =>
      cases e
      obtain ⟨a, vs, rfl, _⟩ := r
      exact ⟨rfl, by rw [no (by intro z; cases z)]⟩
    | rol ds =>
      cases e
      obtain ⟨a, vs, rfl, _⟩ := r
      exact ⟨rfl, by rw [no (by intro z; cases z)]⟩
    | ins C fs ds =>
      cases e
      obtain ⟨a, dx, vs, rfl, _⟩ := r
      exact ⟨rfl, by rw [no (by intro z; cases z)]⟩
    | dk ks ds =>
      cases e
      obtain ⟨a, vs, rfl, _⟩ := r
      exact ⟨rfl, by rw [no (by intro z; cases z)]⟩
    | dt ks ds =>
      cases e
      obtain ⟨a, vs, rfl, _⟩ := r
      exact ⟨rfl, by rw [no (by intro z; cases z)]⟩
theorem isN_y {neg : Bool} {cl : List Cell} {x y : W} {r : W × List Cell} (e : isN neg cl x y = some r) : y = .d .non := by
  unfold isN at e
  split at e
  · rfl
  · cases e
theorem is_ok : OpR X (compareOp .Is) (r2F X.K (isN false)) := OpR.weak op_isN fun vx vy H Q ⟨cl, F, al, x, y, C, rx, ry, k⟩ => by
  obtain ⟨d, cl', e, kk⟩ := k.some
  have ey := isN_y e
  subst ey
  obtain ⟨rfl, rfl⟩ := isN_v rx e
  exact ⟨ry, kk F al _ H (Ext.refl _ _ _) C rfl⟩
theorem isnot_ok : OpR X (compareOp .IsNot) (r2F X.K (isN true)) := OpR.weak op_notN fun vx vy H Q ⟨cl, F, al, x, y, C, rx, ry, k⟩ => by
  obtain ⟨d, cl', e, kk⟩ := k.some
  have ey := isN_y e
  subst ey
  obtain ⟨rfl, rfl⟩ := isN_v rx e
  exact ⟨ry, kk F al _ H (Ext.refl _ _ _) C rfl⟩

/-! ### ints -/
def dInt (g : Int → Int → Option D) : Op2 := fun cl x y => match x, y with
  | .d (.int i), .d (.int j) => (g i j).map fun d => (.d d, cl)
  | _, _ => none
theorem int_ok {f : Value → Value → Sem Value} {C : Int → Int → Prop} {g : Int → Int → V} {gd : Int → Int → Option D} (h : OpR X f (rI C g)) (q : ∀ i j d, gd i j = some d → C i j ∧ ∀ F, Rep0 X.K F d (g i j)) : OpR X f (r2F X.K (dInt gd)) :=
  OpR.weak h fun vx vy H Q ⟨cl, F, al, x, y, C, rx, ry, k⟩ => by
    obtain ⟨d, cl', e, kk⟩ := k.some
    unfold dInt at e
    split at e
    · rename_i i j
      have rx : vx = .int i := rx
      have ry : vy = .int j := ry
      subst rx
      subst ry
      obtain ⟨d', e1, e2⟩ := Option.map_eq_some_iff.mp e
      cases e2
      obtain ⟨q1, q2⟩ := q i j d' e1
      exact ⟨i, j, rfl, rfl, q1, kk F al _ H (Ext.refl _ _ _) C (q2 F)⟩
    · cases e
theorem int0_ok {f : Value → Value → Sem Value} {g : Int → Int → V} {gd : Int → Int → D} (h : OpR X f (rI0 g)) (q : ∀ i j F, Rep0 X.K F (gd i j) (g i j)) : OpR X f (r2F X.K (dInt fun i j => some (gd i j))) :=
  OpR.weak h fun vx vy H Q ⟨cl, F, al, x, y, C, rx, ry, k⟩ => by
    obtain ⟨d, cl', e, kk⟩ := k.some
    unfold dInt at e
    split at e
    · rename_i i j
      have rx : vx = .int i := rx
      have ry : vy = .int j := ry
      subst rx
      subst ry
      cases e
      exact ⟨i, j, rfl, rfl, kk F al _ H (Ext.refl _ _ _) C (q i j F)⟩
    · cases e
def dSub : Op2 := dInt fun i j => some (.int (i - j))
def dMod : Op2 := dInt fun i j => if 0 < j then some (.int (i % j)) else none
def dFdv : Op2 := dInt fun i j => if 0 < j ∧ j.natAbs.log2 < 9000 then some (.int (i / j)) else none
def dPow : Op2 := dInt fun i j => if 0 ≤ j ∧ j ≤ 1000000 ∧ i.natAbs < 2 ^ 64 then some (.int (i ^ j.toNat)) else none
def dLt : Op2 := dInt fun i j => some (.bl (decide (i < j)))
def dLe : Op2 := dInt fun i j => some (.bl (decide (i ≤ j)))
def dGt : Op2 := dInt fun i j => some (.bl (decide (j < i)))
def dGe : Op2 := dInt fun i j => some (.bl (decide (j ≤ i)))
theorem sub_ok : OpR X (binaryOp .Sub) (r2F X.K dSub) := int0_ok op_sub fun _ _ _ => rfl
theorem mod_ok : OpR X (binaryOp .Mod) (r2F X.K dMod) := int_ok op_mod fun i j d e => by
  split at e
  · cases e
    exact ⟨by assumption, fun _ => rfl⟩
  · cases e
theorem fdv_ok : OpR X (binaryOp .FloorDiv) (r2F X.K dFdv) := int_ok op_fdivW fun i j d e => by
  split at e
  · cases e
    exact ⟨by assumption, fun _ => rfl⟩
  · cases e
theorem pow_ok : OpR X (binaryOp .Pow) (r2F X.K dPow) := int_ok op_pow fun i j d e => by
  split at e
  · cases e
    exact ⟨by assumption, fun _ => rfl⟩
  · cases e
theorem lt_ok : OpR X (compareOp .Lt) (r2F X.K dLt) := int0_ok op_lt fun _ _ _ => rfl
theorem le_ok : OpR X (compareOp .LtE) (r2F X.K dLe) := int0_ok op_le fun _ _ _ => rfl
theorem gt_ok : OpR X (compareOp .Gt) (r2F X.K dGt) := int0_ok op_gt fun _ _ _ => rfl
theorem ge_ok : OpR X (compareOp .GtE) (r2F X.K dGe) := int0_ok op_ge fun _ _ _ => rfl
def dNeg : Op1 := fun cl x => match x with
  | .d (.int i) => some (.d (.int (-i)), cl)
  | _ => none
theorem neg_ok : UnR X (unaryOp .USub) (r1F X.K dNeg) := UnR.weak un_neg fun vx H Q ⟨cl, F, al, x, C, rx, k⟩ => by
  obtain ⟨d, cl', e, kk⟩ := k.some
  unfold dNeg at e
  split at e
  · rename_i i
    have rx : vx = .int i := rx
    subst rx
    cases e
    exact ⟨i, rfl, kk F al _ H (Ext.refl _ _ _) C rfl⟩
  · cases e

/-! ### + and * of several kinds -/
theorem tupW_ok {K : PySem.W.Frag} {F : Hp} {al : List Addr} {y : W} {v : V} (r : Rep K F al y v) {ys : List W} (h : asTupP y = some ys) : Rep K F al (tupW ys) v := by
  unfold asTupP at h
  split at h
  · cases h
    unfold tupW
    rw [datas_map]
    exact r
  · cases h
    unfold tupW
    split
    · rename_i xs e
      obtain ⟨a, vs, rfl, h1, h2⟩ := r
      rw [datas_some e] at h2
      exact ⟨a, vs, rfl, h1, h2.to0⟩
    · exact r
  · cases h
def dAdd (c : Bool) : Op2 := fun cl x y => match x, y with
  | .d (.int i), .d (.int j) => some (.d (.int (i + j)), cl)
  | .d (.str a), .d (.str b) => if a.length + b.length ≤ sizeLine then some (.d (.str (a ++ b)), cl) else none
  | x, y => match asTupP x, asTupP y with
    | some xs, some ys => if xs.length + ys.length ≤ sizeLine then some (tupW (xs ++ ys), cl) else none
    | _, _ => match asOwn cl x, asOwn cl y with
      | some xs, some ys => if xs.length + ys.length ≤ sizeLine then fresh c (xs ++ ys) cl else none
      | _, _ => none
theorem nil_of {K : PySem.W.Frag} {F : Hp} {al : List Addr} {ds : List W} {vs : List V} (r : Reps K F al ds vs) : vs = [] ↔ ds = [] := by
  rw [← List.length_eq_zero_iff, ← List.length_eq_zero_iff, r.length]
theorem add_ok (c : Bool) : OpR X (binaryOp .Add) (r2F X.K (dAdd c)) := OpR.weak (op_add.or (op_add_str.or (op_catA.or op_cat))) fun vx vy H Q ⟨cl, F, al, x, y, C, rx, ry, k⟩ => by
  obtain ⟨d, cl', e, kk⟩ := k.some
  unfold dAdd at e k
  split at e
  · rename_i i j
    have rx : vx = .int i := rx
    have ry : vy = .int j := ry
    subst rx
    subst ry
    cases e
    exact .inl ⟨i, j, rfl, rfl, kk F al _ H (Ext.refl _ _ _) C rfl⟩
  · rename_i i j
    have rx : vx = .str i := rx
    have ry : vy = .str j := ry
    subst rx
    subst ry
    split at e
    · cases e
      exact .inr (.inl ⟨i, j, rfl, rfl, by assumption, kk F al _ H (Ext.refl _ _ _) C rfl⟩)
    · cases e
  · split at e
    · rename_i xs ys h1 h2
      split at e
      · rename_i hz
        cases e
        obtain ⟨a, vs, rfl, q1, q2⟩ := asTup_ok rx (asTupP_up h1)
        obtain ⟨b, ws, rfl, q3, q4⟩ := asTup_ok ry (asTupP_up h2)
        refine .inr (.inr (.inl ⟨a, b, vs, ws, rfl, rfl, Same.seqT C.fh q1, Same.seqT C.fh q3, by rw [q2.length, q4.length]; exact hz, fun h => ?_, fun _ h => ?_, fun _ _ p hp => ?_⟩))
        · rw [(nil_of q2).mp h] at kk
          exact kk F al _ H (Ext.refl _ _ _) C (tupW_ok ry h2)
        · rw [(nil_of q4).mp h, List.append_nil] at kk
          exact kk F al _ H (Ext.refl _ _ _) C (tupW_ok rx h1)
        · exact tup_ok (show PostV X.K F al H Q (some (tupW (xs ++ ys), cl)) from kk) C (q2.app q4) hp
      · cases e
    · split at e
      · rename_i xs ys h1 h2
        split at e
        · rename_i hz
          obtain ⟨a, vs, rfl, q1, q2⟩ := asOwn_ok C rx h1
          obtain ⟨b, ws, rfl, q3, q4⟩ := asOwn_ok C ry h2
          refine .inr (.inr (.inr ⟨a, b, vs, ws, rfl, rfl, q1, q3, by rw [q2.length, q4.length]; exact hz, fun p hp => ?_⟩))
          refine fresh_ok (c := c) (ds := xs ++ ys) ?_ C (q2.app q4) hp
          rw [e]
          exact kk
        · cases e
      · cases e
def strRep (a : Str) (n : Nat) : Str := ⟨(List.replicate n a.cps).foldl (· ++ ·) #[]⟩
def dMul : Op2 := fun cl x y => match x, y with
  | .d (.int i), .d (.int j) => if i.natAbs.log2 + j.natAbs.log2 < 1000000 then some (.d (.int (i * j)), cl) else none
  | .d (.str a), .d (.int n) => if 2 ≤ n ∧ n ≤ 1000 ∧ a.length ≤ 1000 ∧ a.length ≠ 0 then some (.d (.str (strRep a n.toNat)), cl) else none
  | _, _ => none
theorem op_rep_str : OpR X (binaryOp .Mult) (fun x y H Q => ∃ a n, x = .str a ∧ y = .int n ∧ (2 ≤ n ∧ n ≤ 1000 ∧ a.length ≤ 1000 ∧ a.length ≠ 0) ∧ Q (.str (strRep a n.toNat)) H) := by
  intro pins s σ H x y v u Q I rx ry h
  obtain ⟨a, n, rfl, rfl, ⟨h1, h2, h3, h4⟩, q⟩ := h
  obtain ⟨t, rfl⟩ := rx
  obtain ⟨t', rfl⟩ := ry
  have n1 : ¬ n < 1 := by omega
  have e1 : (n == 1 || a.length == 0) = false := by
    have q1 : (n == 1) = false := by simpa using (show n ≠ 1 by omega)
    have q2 : (a.length == 0) = false := by simpa using h4
    rw [q1, q2]
    rfl
  refine PySem.P.mul_str ?_ (fun _ _ => ?_) (fun _ _ => ?_) ?_
  · have a1 : ¬ n < -(2 ^ 63 : Int) := by omega
    have a2 : ¬ n ≥ 2 ^ 63 := by omega
    rw [decide_eq_false a1, decide_eq_false a2]
    rfl
  · have : (1000 : Int) ≤ (2 ^ 63 - 1) / n := by
      rw [Int.le_ediv_iff_mul_le (by omega)]
      omega
    omega
  · have e2 : a.length * n.toNat ≤ 1000000 := Nat.le_trans (Nat.mul_le_mul h3 (show n.toNat ≤ 1000 by omega)) (by decide)
    unfold Builtin.Str.tooLong
    rw [decide_eq_false]
    rw [sizeLine_eq]
    omega
  · rw [if_neg n1, if_neg (by rw [e1]; exact Bool.false_ne_true)]
    have len : ∀ (k : Nat) (z : Array Nat), ((List.replicate k a.cps).foldl (· ++ ·) z).size = z.size + k * a.cps.size := by
      intro k
      induction k with
      | zero => intro z; simp
      | succ k ih =>
        intro z
        rw [List.replicate_succ, List.foldl_cons, ih, Array.size_append, Nat.succ_mul]
        omega
    refine ⟨?_, ⟨.str (strRep a n.toNat), H, I.tok _, ⟨_, rfl⟩, q⟩⟩
    show ((List.replicate n.toNat a.cps).foldl (· ++ ·) #[]).size ≤ sizeLine
    rw [len, sizeLine_eq]
    have : n.toNat * a.cps.size ≤ 1000 * 1000 := Nat.mul_le_mul (show n.toNat ≤ 1000 by omega) h3
    simp
    omega
theorem mul_ok : OpR X (binaryOp .Mult) (r2F X.K dMul) := OpR.weak (op_mulW.or op_rep_str) fun vx vy H Q ⟨cl, F, al, x, y, C, rx, ry, k⟩ => by
  obtain ⟨d, cl', e, kk⟩ := k.some
  unfold dMul at e
  split at e
  · rename_i i j
    have rx : vx = .int i := rx
    have ry : vy = .int j := ry
    subst rx
    subst ry
    split at e
    · cases e
      exact .inl ⟨i, j, rfl, rfl, by assumption, kk F al _ H (Ext.refl _ _ _) C rfl⟩
    · cases e
  · rename_i i j
    have rx : vx = .str i := rx
    have ry : vy = .int j := ry
    subst rx
    subst ry
    split at e
    · cases e
      exact .inr ⟨i, j, rfl, rfl, by assumption, kk F al _ H (Ext.refl _ _ _) C rfl⟩
    · cases e
  · cases e
end
end FL

namespace FL
open PySem PySem.Spec L2

/-! ### built-in functions by name -/
section
variable {X : Cx} {x : Str} {p pos apos cpos : Pos} {e o : Expr} {es : List Expr} {id T : String} {g : OpN} {ms : MS} {name : Str}
theorem pf_callB (hc : CallR X (.builtin id) (rNF X.K g)) (hg : Gl X x) (hm : X.mg x = none) (hv : bootBuiltins x = some (.builtin id)) (ha : PA X (e :: es) (tFA X.K ms)) (hn : x ≠ "__name__" := by decide) (hdb : (x == ("__debug__" : Str)) = false := by decide)
    (he : starEach (e :: es) X.env = (false, eval e X.env) :: starEach es X.env := by rfl) (hpl : (backTo pos (starEach es X.env)).any (·.1) = false := by rfl) : PE X (.Call (.Name x p) (e :: es) [] pos) (tF X.K (eCall g ms)) :=
  PE.weak (pe_callB hc hg hm hv ha hn hdb he hpl) (w_call fun _ _ _ h => h)
theorem pf_callTy (hc : CallR X (.type T) (rNF X.K g)) (hg : Gl X x) (hm : X.mg x = none) (hv : bootBuiltins x = some (.type T)) (ha : PA X (e :: es) (tFA X.K ms)) (hn : x ≠ "__name__" := by decide) (hdb : (x == ("__debug__" : Str)) = false := by decide)
    (he : starEach (e :: es) X.env = (false, eval e X.env) :: starEach es X.env := by rfl) (hpl : (backTo pos (starEach es X.env)).any (·.1) = false := by rfl) : PE X (.Call (.Name x p) (e :: es) [] pos) (tF X.K (eCall g ms)) :=
  PE.weak (pe_callTy hc hg hm hv ha hn hdb he hpl) (w_call fun _ _ _ h => h)
/-- o.m(..) of a built-in's method: the receiver is looked at ahead of the arguments -/
def eMethT (chk : List Cell → W → Bool) (g : OpN) (a : M) (t : MS) : M := fun r => match a r with
  | some (x, r1) => if chk r1.cl x = true then match t r1 with
      | some (xs, r2) => liftN g (x :: xs) r2
      | none => none
    else none
  | none => none
def TyOk (X : Cx) (T : String) (chk : List Cell → W → Bool) : Prop := ∀ (cl : List Cell) (F : Hp) (al : List Addr) (H : Hp) (x : W) (v : V), Cells X.K cl F al H → Rep X.K F al x v → chk cl x = true → tyV X.K T v H
theorem pf_bm {chk : List Cell → W → Bool} {m : M} (pa : PlainAttrs T) (slot : Slot T name id) (hty : typeOf (.builtin id) = pure (.type "method_descriptor")) (hm : MtR X id (rMF X.K g)) (ty : TyOk X T chk) (ho : PE X o (tF X.K m)) (ha : PA X (e :: es) (tFA X.K ms))
    (hbase : attributeBase o name X.env (eval o X.env) = eval o X.env := by rfl)
    (hfew : ((backTo cpos (starEach (e :: es) X.env)).all (fun x => !x.1) && (backToKw cpos (keywordEach [] X.env)).all (fun x => x.1.isSome)
      && decide ((e :: es).length + ([] : List Keyword).length + (if ([] : List Keyword).isEmpty then 0 else 1) < 30)) = true := by rfl)
    (hline : (apos.endLine == cpos.line) = true := by rfl) (hs : starEach (e :: es) X.env = (false, eval e X.env) :: starEach es X.env := by rfl) (hplain : (backTo cpos (starEach es X.env)).any (·.1) = false := by rfl) :
    PE X (.Call (.Attribute o name apos) (e :: es) [] cpos) (tF X.K (eMethT chk g m ms)) :=
  PE.weak (pe_bm pa slot hty hm ho ha hbase hfew hline hs hplain) fun σ H Q ⟨rho, F, al, d, r', R, e1, k⟩ => by
    unfold eMethT at e1
    split at e1
    · rename_i x0 r1 q1
      split at e1
      · rename_i hc
        split at e1
        · rename_i xs r2 q2
          obtain ⟨c, q4, rfl⟩ := liftN_some e1
          refine ⟨rho, F, al, x0, r1, R, q1, fun F1 al1 vx H1 x1 R1 p1 => ⟨ty _ _ _ _ _ _ R1.c p1 hc, ?_⟩⟩
          refine ⟨r1, F1, al1, xs, r2, R1, q2, fun F2 al2 vs H2 x2 R2 p2 => ?_⟩
          refine ⟨r2.cl, F2, al2, x0, xs, R2.c, x2.rep p1, p2, ?_⟩
          rw [q4]
          exact post_of R2.s fun F' al' v H' x3 R3 p3 => k F' al' v H' ((x1.trans x2).trans x3) R3 p3
        · cases e1
      · cases e1
    · cases e1
theorem pf_bm0 {chk : List Cell → W → Bool} {m : M} (pa : PlainAttrs T) (slot : Slot T name id) (hty : typeOf (.builtin id) = pure (.type "method_descriptor")) (hm : MtR X id (rMF X.K g)) (ty : TyOk X T chk) (ho : PE X o (tF X.K m))
    (hbase : attributeBase o name X.env (eval o X.env) = eval o X.env := by rfl) (hline : (apos.endLine == cpos.line) = true := by rfl) : PE X (.Call (.Attribute o name apos) [] [] cpos) (tF X.K (eMethT chk g m aNil)) :=
  PE.weak (pe_bm0 pa slot hty hm ho hbase hline) fun σ H Q ⟨rho, F, al, d, r', R, e1, k⟩ => by
    unfold eMethT at e1
    split at e1
    · rename_i x0 r1 q1
      split at e1
      · rename_i hc
        obtain ⟨c, q4, rfl⟩ := liftN_some (show liftN g [x0] r1 = some (d, r') from e1)
        refine ⟨rho, F, al, x0, r1, R, q1, fun F1 al1 vx H1 x1 R1 p1 => ⟨ty _ _ _ _ _ _ R1.c p1 hc, ?_⟩⟩
        refine ⟨r1.cl, F1, al1, x0, [], R1.c, p1, rfl, ?_⟩
        rw [q4]
        exact post_of R1.s fun F' al' v H' x3 R3 p3 => k F' al' v H' (x1.trans x3) R3 p3
      · cases e1
    · cases e1
end

def isLst (cl : List Cell) (x : W) : Bool := (asList cl x).isSome
def isStr (_ : List Cell) : W → Bool
  | .d (.str _) => true
  | _ => false
section
variable {X : Cx}
theorem ty_lst : TyOk X "list" isLst := fun cl F al H x v C r h => by
  unfold isLst at h
  obtain ⟨ds, e⟩ := Option.isSome_iff_exists.mp h
  obtain ⟨a, vs, rfl, q, _⟩ := asList_ok C r e
  exact .inl ⟨rfl, vs, q⟩
theorem ty_str : TyOk X "str" isStr := fun cl F al H x v C r h => by
  unfold isStr at h
  split at h
  · have r : v = .str _ := r
    subst r
    exact rfl
  · cases h

/-! ### methods that change a list of ours -/
def cellL (cl : List Cell) : W → Option (Nat × List W)
  | .cel n => match cl[n]? with
    | some (.lst ws) => some (n, ws)
    | _ => none
  | _ => none
theorem cellL_ok {K : PySem.W.Frag} {cl : List Cell} {F : Hp} {al : List Addr} {H : Hp} (C : Cells K cl F al H) {x : W} {v : V} (r : Rep K F al x v) {n : Nat} {ws : List W} (h : cellL cl x = some (n, ws)) : ∃ a vs, v = .ref a ∧ al[n]? = some a ∧ F a = none ∧ H a = some (.lst vs) ∧ Reps K F al ws vs := by
  unfold cellL at h
  split at h
  · obtain ⟨a, e1, e2⟩ := r
    split at h
    · cases h
      rename_i q
      obtain ⟨q0, vs, q1, q2⟩ := C.ok _ _ _ e2 q
      exact ⟨a, vs, e1, e2, q0, q1, q2⟩
    · cases h
  · cases h
theorem wr_ok {K : PySem.W.Frag} {cl : List Cell} {F : Hp} {al : List Addr} {H : Hp} {Q : VK} {n : Nat} {a : Addr} {ws : List W} {vs : List V} {d : W} {v : V} {r : R0} (k : PostV K F al H Q r) (e : r = some (d, cl.set n (.lst ws))) (C : Cells K cl F al H) (ha : al[n]? = some a) (hF : F a = none) (q : Reps K F al ws vs) (p : Rep K F al d v) :
    Q v (upd H a (.lst vs)) := by
  subst e
  exact k F al v _ (ext_wr ha hF) (C.wr ha hF ⟨hF, vs, upd_same, q⟩) p
def mAppend : OpN := fun cl ds => match ds with
  | [x, y] => match cellL cl x with
    | some (n, ws) => if ws.length < sizeLine then some (.d .non, cl.set n (.lst (ws ++ [y]))) else none
    | none => none
  | _ => none
def mClear : OpN := fun cl ds => match ds with
  | [x] => match cellL cl x with
    | some (n, ws) => some (.d .non, cl.set n (.lst []))
    | none => none
  | _ => none
def mPop : OpN := fun cl ds => match ds with
  | [x] => match cellL cl x with
    | some (n, ws) => match ws[ws.length - 1]? with
      | some y => some (y, cl.set n (.lst ws.dropLast))
      | none => none
    | none => none
  | _ => none
def mPopAt : OpN := fun cl ds => match ds with
  | [x, .d (.int i)] => match cellL cl x with
    | some (n, ws) => if -(2 ^ 63) ≤ i ∧ i < 2 ^ 63 then match seqIndex? i ws.length with
        | some k => match ws[k]? with
          | some y => some (y, cl.set n (.lst (ws.eraseIdx k)))
          | none => none
        | none => none
      else none
    | none => none
  | _ => none
def mInsert : OpN := fun cl ds => match ds with
  | [x, .d (.int i), y] => match cellL cl x with
    | some (n, ws) => if ws.length < sizeLine ∧ 0 ≤ i ∧ i < 2 ^ 63 then some (.d .non, cl.set n (.lst (ws.take i.toNat ++ [y] ++ ws.drop i.toNat))) else none
    | none => none
  | _ => none
theorem MtM.toR {id : String} {r : V → List V → Hp → VK → Prop} (h : MtM X id r) : MtR X id r := h
theorem append_ok : MtR X "list.append" (rMF X.K mAppend) := MtR.weak mt_append fun vx vs H Q ⟨cl, F, al, x, ds, C, rx, rs, k⟩ => by
  obtain ⟨d, cl', e, _⟩ := k.some
  cases ds with
  | nil => exact k.none_elim rfl
  | cons y ds =>
    cases ds with
    | cons z ds => exact k.none_elim rfl
    | nil =>
      obtain ⟨vy, vr, rfl, ry, r0⟩ := rs
      have r0 : vr = [] := r0
      subst r0
      simp only [mAppend] at e
      split at e
      · rename_i n ws hc
        split at e
        · rename_i hz
          obtain ⟨a, vs, rfl, h1, h2, h3, h4⟩ := cellL_ok C rx hc
          refine ⟨a, vs, vy, rfl, rfl, h3, by rw [h4.length]; exact hz, ?_⟩
          exact wr_ok k (by simp only [mAppend, hc, if_pos hz]) C h1 h2 (h4.app (Reps.one ry)) (show Rep X.K F al (.d .non) .non from rfl)
        · cases e
      · cases e
theorem clear_ok : MtR X "list.clear" (rMF X.K mClear) := MtR.weak mt_clear fun vx vs H Q ⟨cl, F, al, x, ds, C, rx, rs, k⟩ => by
  obtain ⟨d, cl', e, _⟩ := k.some
  cases ds with
  | cons y ds => exact k.none_elim rfl
  | nil =>
    have r0 : vs = [] := rs
    subst r0
    simp only [mClear] at e
    split at e
    · rename_i n ws hc
      obtain ⟨a, vs, rfl, h1, h2, h3, h4⟩ := cellL_ok C rx hc
      refine ⟨a, vs, rfl, rfl, h3, ?_⟩
      exact wr_ok (ws := []) (vs := []) k (by simp only [mClear, hc]) C h1 h2 rfl (show Rep X.K F al (.d .non) .non from rfl)
    · cases e
theorem Reps.dropLast {K : PySem.W.Frag} {F : Hp} {al : List Addr} {ds : List W} {vs : List V} (r : Reps K F al ds vs) : Reps K F al ds.dropLast vs.dropLast := by
  rw [List.dropLast_eq_take, List.dropLast_eq_take, r.length]
  exact r.take _
theorem pop_ok : MtR X "list.pop" (rMF X.K mPop) := MtR.weak mt_pop fun vx vs H Q ⟨cl, F, al, x, ds, C, rx, rs, k⟩ => by
  obtain ⟨d, cl', e, _⟩ := k.some
  cases ds with
  | cons y ds => exact k.none_elim rfl
  | nil =>
    have r0 : vs = [] := rs
    subst r0
    simp only [mPop] at e
    split at e
    · rename_i n ws hc
      split at e
      · rename_i y hy
        obtain ⟨a, vs, rfl, h1, h2, h3, h4⟩ := cellL_ok C rx hc
        obtain ⟨vy, q1, q2⟩ := h4.get hy
        refine ⟨a, vs, vy, rfl, rfl, h3, by rw [h4.length]; exact q1, ?_⟩
        exact wr_ok k (by simp only [mPop, hc, hy]) C h1 h2 h4.dropLast q2
      · cases e
    · cases e
theorem popAt_ok : MtR X "list.pop" (rMF X.K mPopAt) := MtR.weak mt_popAt fun vx vs H Q ⟨cl, F, al, x, ds, C, rx, rs, k⟩ => by
  obtain ⟨d, cl', e, _⟩ := k.some
  unfold mPopAt at e
  split at e
  · rename_i x0 i he
    cases he
    obtain ⟨vy, vr, rfl, ry, r0⟩ := rs
    have r0 : vr = [] := r0
    have ry : vy = .int i := ry
    subst r0 ry
    split at e
    · rename_i n ws hc
      split at e
      · rename_i hb
        split at e
        · rename_i j hj
          split at e
          · rename_i y hy
            obtain ⟨a, vs, rfl, h1, h2, h3, h4⟩ := cellL_ok C rx hc
            obtain ⟨vy, q1, q2⟩ := h4.get hy
            refine ⟨a, vs, i, j, vy, rfl, rfl, h3, hb.1, hb.2, by rw [h4.length]; exact hj, q1, ?_⟩
            exact wr_ok k (by simp only [mPopAt, hc, if_pos hb, hj, hy]) C h1 h2 (h4.eraseIdx j) q2
          · cases e
        · cases e
      · cases e
    · cases e
  · cases e
theorem insert_ok : MtR X "list.insert" (rMF X.K mInsert) := MtR.weak mt_insert fun vx vs H Q ⟨cl, F, al, x, ds, C, rx, rs, k⟩ => by
  obtain ⟨d, cl', e, _⟩ := k.some
  unfold mInsert at e
  split at e
  · rename_i x0 i y he
    cases he
    obtain ⟨vi, vr, rfl, ri, vy, vr2, rfl, ry, r0⟩ := rs
    have r0 : vr2 = [] := r0
    have ri : vi = .int i := ri
    subst r0 ri
    split at e
    · rename_i n ws hc
      split at e
      · rename_i hb
        obtain ⟨a, vs, rfl, h1, h2, h3, h4⟩ := cellL_ok C rx hc
        refine ⟨a, vs, i, vy, rfl, rfl, h3, by rw [h4.length]; exact hb.1, hb.2.1, hb.2.2, ?_⟩
        exact wr_ok k (by simp only [mInsert, hc, if_pos hb]) C h1 h2 (((h4.take i.toNat).app (Reps.one ry)).app (h4.drop i.toNat)) (show Rep X.K F al (.d .non) .non from rfl)
      · cases e
    · cases e
  · cases e
end
end FL

namespace FL
open PySem PySem.Spec L2

/-! ### len, max, min, list, int, isinstance -/
section
variable {X : Cx}
def lenW (cl : List Cell) : W → Option Nat
  | .d (.str z) => if z.length ≤ sizeLine then some z.length else none
  | x => match asTup x with
    | some ds => some ds.length
    | none => (asList cl x).map List.length
def oLen : OpN := fun cl ds => match ds with
  | [x] => match lenW cl x with
    | some n => some (.d (.int n), cl)
    | none => none
  | _ => none
theorem lenW_ok {K : PySem.W.Frag} {cl : List Cell} {F : Hp} {al : List Addr} {H : Hp} (C : Cells K cl F al H) {x : W} {v : V} (r : Rep K F al x v) {n : Nat} (h : lenW cl x = some n) : LenV K v H n := by
  unfold lenW at h
  split at h
  · rename_i z
    have r : v = .str z := r
    subst r
    split at h
    · cases h
      exact ⟨by assumption, rfl⟩
    · cases h
  · split at h
    · rename_i ds et
      cases h
      obtain ⟨a, vs, rfl, h1, h2⟩ := asTup_ok r et
      exact .inr ⟨vs, Same.seqT C.fh h1, h2.length.symm⟩
    · obtain ⟨ds, e1, e2⟩ := Option.map_eq_some_iff.mp h
      obtain ⟨a, vs, rfl, h1, h2⟩ := asList_ok C r e1
      exact .inl ⟨vs, h1, by rw [h2.length]; exact e2.symm⟩
theorem len_ok : CallR X (.builtin "len") (rNF X.K oLen) := CallR.weak call_len fun vs H Q ⟨cl, F, al, ds, C, rs, k⟩ => by
  obtain ⟨d, cl', e, kk⟩ := k.some
  unfold oLen at e
  split at e
  · rename_i x
    obtain ⟨v, vr, rfl, rx, r0⟩ := rs
    have r0 : vr = [] := r0
    subst r0
    split at e
    · rename_i n hn
      cases e
      exact ⟨v, n, rfl, lenW_ok C rx hn, kk F al _ H (Ext.refl _ _ _) C rfl⟩
    · cases e
  · cases e
def oInt2 (g : Int → Int → Int) : OpN := fun cl ds => match ds with
  | [.d (.int i), .d (.int j)] => some (.d (.int (g i j)), cl)
  | _ => none
def oMax : OpN := oInt2 fun i j => if j > i then j else i
def oMin : OpN := oInt2 fun i j => if j < i then j else i
theorem int2_ok {f : Value} {g : Int → Int → Int} (h : CallR X f (fun xs H Q => ∃ i j, xs = [.int i, .int j] ∧ Q (.int (g i j)) H)) : CallR X f (rNF X.K (oInt2 g)) := CallR.weak h fun vs H Q ⟨cl, F, al, ds, C, rs, k⟩ => by
  obtain ⟨d, cl', e, kk⟩ := k.some
  unfold oInt2 at e
  split at e
  · rename_i i j
    obtain ⟨v, vr, rfl, r1, v2, vr2, rfl, r2, r0⟩ := rs
    have r0 : vr2 = [] := r0
    have r1 : v = .int i := r1
    have r2 : v2 = .int j := r2
    subst r0 r1 r2
    cases e
    exact ⟨i, j, rfl, kk F al _ H (Ext.refl _ _ _) C rfl⟩
  · cases e
theorem max_ok (hc : X.calm = true) : CallR X (.builtin "max") (rNF X.K oMax) := int2_ok (call_max2 hc)
theorem min_ok (hc : X.calm = true) : CallR X (.builtin "min") (rNF X.K oMin) := int2_ok (call_min2 hc)
def oInt : OpN := fun cl ds => match ds with
  | [.d (.int i)] => some (.d (.int i), cl)
  | [.d (.bl k)] => some (.d (.int (if k then 1 else 0)), cl)
  | _ => none
theorem int1_ok : CallR X (.type "int") (rNF X.K oInt) := CallR.weak call_int1 fun vs H Q ⟨cl, F, al, ds, C, rs, k⟩ => by
  obtain ⟨d, cl', e, kk⟩ := k.some
  unfold oInt at e
  split at e
  · rename_i i
    obtain ⟨v, vr, rfl, r1, r0⟩ := rs
    have r0 : vr = [] := r0
    have r1 : v = .int i := r1
    subst r0 r1
    cases e
    exact .inl ⟨i, rfl, kk F al _ H (Ext.refl _ _ _) C rfl⟩
  · rename_i i
    obtain ⟨v, vr, rfl, r1, r0⟩ := rs
    have r0 : vr = [] := r0
    have r1 : v = .bl i := r1
    subst r0 r1
    cases e
    exact .inr ⟨i, rfl, kk F al _ H (Ext.refl _ _ _) C rfl⟩
  · cases e
def seqW (cl : List Cell) (x : W) : Option (List W) := match asTup x with
  | some ds => some ds
  | none => asList cl x
def oList (c : Bool) : OpN := fun cl ds => match ds with
  | [x] => match seqW cl x with
    | some ws => fresh c ws cl
    | none => none
  | _ => none
theorem seqW_ok {K : PySem.W.Frag} {cl : List Cell} {F : Hp} {al : List Addr} {H : Hp} (C : Cells K cl F al H) {x : W} {v : V} (r : Rep K F al x v) {ds : List W} (h : seqW cl x = some ds) : ∃ a vs, v = .ref a ∧ (SqL K H a vs ∨ SqT K H a vs) ∧ Reps K F al ds vs := by
  unfold seqW at h
  split at h
  · rename_i ws et
    cases h
    obtain ⟨a, vs, rfl, h1, h2⟩ := asTup_ok r et
    exact ⟨a, vs, rfl, .inr (Same.seqT C.fh h1), h2⟩
  · obtain ⟨a, vs, rfl, h1, h2⟩ := asList_ok C r h
    exact ⟨a, vs, rfl, .inl h1, h2⟩
theorem list_ok (c : Bool) : CallR X (.type "list") (rNF X.K (oList c)) := CallR.weak call_list_of fun vs H Q ⟨cl, F, al, ds, C, rs, k⟩ => by
  obtain ⟨d, cl', e, kk⟩ := k.some
  unfold oList at e k
  split at e
  · rename_i x
    obtain ⟨v, vr, rfl, rx, r0⟩ := rs
    have r0 : vr = [] := r0
    subst r0
    simp only at k
    split at e
    · rename_i ws hw
      rw [hw] at k
      obtain ⟨a, vs, rfl, h1, h2⟩ := seqW_ok C rx hw
      exact ⟨a, vs, rfl, h1, fun l hl => fresh_ok k C h2 hl⟩
    · cases e
  · cases e
/-- isinstance(x, T), T a built-in class -/
def tyW (cl : List Cell) : W → Option String
  | .d .non => some "NoneType"
  | .d (.bl _) => some "bool"
  | .d (.int _) => some "int"
  | .d (.str _) => some "str"
  | .d (.lst _) => some "list"
  | .cel n => match cl[n]? with
    | some (.lst _) => some "list"
    | some (.dk _ _) => some "dict"
    | some (.dt _ _) => some "dict"
    | _ => none
  | _ => none
def oIsi : OpN := fun cl ds => match ds with
  | [x, .d (.op (.ty T))] => match tyW cl x with
    | some t => match kitB t T with
      | some b => some (.d (.bl b), cl)
      | none => none
    | none => none
  | _ => none
theorem tyW_ok {K : PySem.W.Frag} {cl : List Cell} {F : Hp} {al : List Addr} {H : Hp} (C : Cells K cl F al H) {x : W} {v : V} (r : Rep K F al x v) {t : String} (h : tyW cl x = some t) : TyX K H v (.type t) := by
  unfold tyW at h
  split at h
  · have r : v = .non := r
    subst r
    cases h
    exact .base .non
  · have r : v = .bl _ := r
    subst r
    cases h
    exact .base (.bl _)
  · have r : v = .int _ := r
    subst r
    cases h
    exact .base (.int _)
  · have r : v = .str _ := r
    subst r
    cases h
    exact .base (.str _)
  · cases h
    obtain ⟨a, vs, rfl, q1, q2⟩ := r
    exact .base (.lst (C.fh _ _ q1))
  · obtain ⟨a, rfl, ha⟩ := r
    split at h
    · rename_i q
      cases h
      obtain ⟨_, vs, q1, _⟩ := C.ok _ _ _ ha q
      exact .base (.lst q1)
    · rename_i q
      cases h
      obtain ⟨_, vs, q1, _⟩ := C.ok _ _ _ ha q
      exact .base (.dK q1)
    · rename_i q
      cases h
      obtain ⟨_, vs, q1, _⟩ := C.ok _ _ _ ha q
      exact .base (.dT q1)
    · cases h
  · cases h
theorem isi_ok : CallR X (.builtin "isinstance") (rNF X.K oIsi) := CallR.weak call_isi fun vs H Q ⟨cl, F, al, ds, C, rs, k⟩ => by
  obtain ⟨d, cl', e, kk⟩ := k.some
  unfold oIsi at e
  split at e
  · rename_i x T
    obtain ⟨v, vr, rfl, r1, v2, vr2, rfl, r2, r0⟩ := rs
    have r0 : vr2 = [] := r0
    have r2 : v2 = .ty T := r2
    subst r0 r2
    split at e
    · rename_i t ht
      split at e
      · rename_i b hb
        cases e
        exact ⟨v, .ty T, .type t, .type T, b, rfl, .ty T, tyW_ok C r1 ht, kit_ty hb, kk F al _ H (Ext.refl _ _ _) C rfl⟩
      · cases e
    · cases e
  · cases e
end

/-! ### slices of lists and tuples -/
def cutW (xs : List W) (lo hi : Option Int) : List W := (xs.drop (HT.sIx xs.length 0 lo)).take (HT.sIx xs.length xs.length hi - HT.sIx xs.length 0 lo)
theorem Reps.cut {K : PySem.W.Frag} {F : Hp} {al : List Addr} {ds : List W} {vs : List V} (r : Reps K F al ds vs) (lo hi : Option Int) : Reps K F al (cutW ds lo hi) (cutV vs lo hi) := by
  unfold cutW cutV
  rw [r.length]
  exact (r.drop _).take _
abbrev OpS := List Cell → W → Option Int → Option Int → R0
def rSF (K : PySem.W.Frag) (g : OpS) : V → Option Int → Option Int → Hp → VK → Prop := fun vx lo hi H Q => ∃ cl F al x, Cells K cl F al H ∧ Rep K F al x vx ∧ PostV K F al H Q (g cl x lo hi)
abbrev MO := Rho → Option (Option Int × Rho)
def oNo : MO := fun r => some (none, r)
def oSome (m : M) : MO := fun r => match m r with
  | some (.d (.int i), r1) => some (some i, r1)
  | _ => none
def eSlice (g : OpS) (a : M) (lo hi : MO) : M := fun r => match a r with
  | some (x, r1) => match lo r1 with
    | some (l, r2) => match hi r2 with
      | some (u, r3) => match g r3.cl x l u with
        | some (d, c) => some (d, { r3 with cl := c })
        | none => none
      | none => none
    | none => none
  | none => none
def tFO (K : PySem.W.Frag) (m : MO) : TO := fun σ H Q => ∃ r F al d r', Rel K r F al σ H ∧ m r = some (d, r') ∧ ∀ F' al' H', Ext F al H F' al' H' → Rel K r' F' al' σ H' → Q d H'
section
variable {X : Cx} {e : Expr} {lo hi : Option Expr} {p2 pos : Pos}
theorem PO.weak {t t' : TO} (h : PO X lo t) (w : ∀ σ H Q, t' σ H Q → t σ H Q) : PO X lo t' := ⟨fun pins s σ H Q I q => h.run pins s σ H Q I (w σ H Q q)⟩
theorem fo_none : PO X none (tFO X.K oNo) := PO.weak po_none fun σ H Q ⟨r, F, al, d, r', R, e1, k⟩ => by
  have e1 : some (none, r) = some (d, r') := e1
  cases e1
  exact k F al H (Ext.refl _ _ _) R
theorem fo_some {m : M} (h : PE X e (tF X.K m)) : PO X (some e) (tFO X.K (oSome m)) := PO.weak (po_some h) fun σ H Q ⟨r, F, al, d, r', R, e1, k⟩ => by
  unfold oSome at e1
  split at e1
  · rename_i i r1 q
    cases e1
    refine ⟨r, F, al, _, r', R, q, fun F1 al1 v H1 x1 R1 p1 => ?_⟩
    have p1 : v = .int i := p1
    exact ⟨i, p1, k F1 al1 H1 x1 R1⟩
  · cases e1
theorem pf_slice {g : OpS} {m : M} {ml mh : MO} (hr : SlR X (rSF X.K g)) (he : PE X e (tF X.K m)) (hl : PO X lo (tFO X.K ml)) (hu : PO X hi (tFO X.K mh)) : PE X (.Subscript e (.Slice lo hi none p2) pos) (tF X.K (eSlice g m ml mh)) :=
  PE.weak (pe_slice hr he hl hu) fun σ H Q ⟨r, F, al, d, r', R, e1, k⟩ => by
    unfold eSlice at e1
    split at e1
    · rename_i x0 r1 q1
      split at e1
      · rename_i l r2 q2
        split at e1
        · rename_i u r3 q3
          split at e1
          · rename_i d0 c q4
            cases e1
            refine ⟨r, F, al, x0, r1, R, q1, fun F1 al1 v H1 x1 R1 p1 => ⟨r1, F1, al1, l, r2, R1, q2, fun F2 al2 H2 x2 R2 => ⟨r2, F2, al2, u, r3, R2, q3, fun F3 al3 H3 x3 R3 => ?_⟩⟩⟩
            refine ⟨r3.cl, F3, al3, x0, R3.c, (x2.trans x3).rep p1, ?_⟩
            rw [q4]
            exact post_of R3.s fun F' al' v H' x4 R4 p4 => k F' al' v H' (((x1.trans x2).trans x3).trans x4) R4 p4
          · cases e1
        · cases e1
      · cases e1
    · cases e1
theorem SlR.weak {r r' : V → Option Int → Option Int → Hp → VK → Prop} (h : SlR X r) (w : ∀ x lo hi H Q, r' x lo hi H Q → r x lo hi H Q) : SlR X r' := fun pins s σ H x v vl vu lo hi sl Q I rx hs pl pu q => h pins s σ H x v vl vu lo hi sl Q I rx hs pl pu (w _ _ _ _ _ q)
def dSl (c : Bool) : OpS := fun cl x lo hi => match asTupP x with
  | some ws => some (tupW (cutW ws lo hi), cl)
  | none => match asList cl x with
    | some ws => fresh c (cutW ws lo hi) cl
    | none => none
theorem cut_whole (ws : List W) (lo hi : Option Int) (h : HT.sIx ws.length 0 lo = 0 ∧ HT.sIx ws.length ws.length hi = ws.length) : cutW ws lo hi = ws := by
  unfold cutW
  rw [h.1, h.2, List.drop_zero, Nat.sub_zero, List.take_length]
theorem sl_ok (c : Bool) : SlR X (rSF X.K (dSl c)) := SlR.weak (sl_tupA.or sl_list) fun vx lo hi H Q ⟨cl, F, al, x, C, rx, k⟩ => by
  unfold dSl at k
  split at k
  · rename_i ws et
    obtain ⟨a, vs, rfl, h1, h2⟩ := asTup_ok rx (asTupP_up et)
    refine .inl ⟨a, vs, rfl, Same.seqT C.fh h1, fun hw => ?_, fun hw p hp => tup_ok k C (h2.cut lo hi) hp⟩
    rw [h2.length] at hw
    rw [cut_whole ws lo hi hw] at k
    exact k F al _ H (Ext.refl _ _ _) C (tupW_ok rx et)
  · split at k
    · rename_i ws et
      obtain ⟨a, vs, rfl, h1, h2⟩ := asList_ok C rx et
      exact .inr ⟨a, vs, rfl, h1, fun p hp => fresh_ok k C (h2.cut lo hi) hp⟩
    · exact k.elim
end

/-! ### o[i] = v -/
abbrev OpSet := List Cell → W → W → W → Option (List Cell)
def rSetF (K : PySem.W.Frag) (g : OpSet) : TSet := fun vo vi vv H Q => ∃ cl F al o i x, Cells K cl F al H ∧ Rep K F al o vo ∧ Rep K F al i vi ∧ Rep K F al x vv ∧ ∃ cl', g cl o i x = some cl' ∧ ∀ F' al' H', Ext F al H F' al' H' → Cells K cl' F' al' H' → Q H'
def tSub (o i : M) (g : OpSet) : MG := fun d r => match o r with
  | some (ov, r1) => match i r1 with
    | some (iv, r2) => match g r2.cl ov iv d with
      | some c => some { r2 with cl := c }
      | none => none
    | none => none
  | none => none
theorem PSet.weak {X : Cx} {t t' : TSet} (h : PSet X t) (w : ∀ o i v H Q, t' o i v H Q → t o i v H Q) : PSet X t' := fun pins s σ H o i v ov iv u Q I ro ri rv q => h pins s σ H o i v ov iv u Q I ro ri rv (w _ _ _ _ _ q)
def setL : OpSet := fun cl o i x => match i with
  | .d (.int k) => match cellL cl o with
    | some (n, ws) => match ixN ws.length k with
      | some j => some (cl.set n (.lst (ws.set j x)))
      | none => none
    | none => none
  | _ => none
section
variable {X : Cx} {o i : Expr} {pos : Pos}
theorem setL_ok : PSet X (rSetF X.K setL) := PSet.weak set_list fun vo vi vv H Q ⟨cl, F, al, o, i, x, C, ro, ri, rv, cl', e, k⟩ => by
  unfold setL at e
  split at e
  · rename_i kk
    have ri : vi = .int kk := ri
    subst ri
    split at e
    · rename_i n ws hc
      split at e
      · rename_i j hj
        cases e
        obtain ⟨a, vs, rfl, h1, h2, h3, h4⟩ := cellL_ok C ro hc
        exact ⟨a, vs, kk, j, rfl, rfl, h3, by rw [h4.length]; exact hj, k F al _ (ext_wr h1 h2) (C.wr h1 h2 ⟨h2, _, upd_same, h4.set rv⟩)⟩
      · cases e
    · cases e
  · cases e
theorem fg_sub {mo mi : M} {g : OpSet} (ho : PE X o (tF X.K mo)) (hi : PE X i (tF X.K mi)) (hs : PSet X (rSetF X.K g))
    (ha : ∀ v, assign (.Subscript o i pos) X.env v = (do
      let ov ← holding [v] (eval o X.env)
      let iv ← holding [v, ov] (eval i X.env)
      standAt pos
      holding [v, ov, iv] (setItem ov iv v)
      release [v, ov, iv] []) := by intro _; rfl) : PG X (.Subscript o i pos) (gF X.K [] (tSub mo mi g)) :=
  PG.weak (pg_sub ho hi hs ha) fun v σ H Q ⟨r, F, al, d, r', R, p, e1, k⟩ => by
    unfold tSub at e1
    split at e1
    · rename_i ov r1 q1
      split at e1
      · rename_i iv r2 q2
        split at e1
        · rename_i c q3
          cases e1
          refine ⟨r, F, al, ov, r1, R, q1, fun F1 al1 vo H1 x1 R1 p1 => ⟨r1, F1, al1, iv, r2, R1, q2, fun F2 al2 vi H2 x2 R2 p2 => ?_⟩⟩
          exact ⟨r2.cl, F2, al2, ov, iv, d, R2.c, x2.rep p1, p2, (x1.trans x2).rep p, c, q3, fun F' al' H' x3 C3 => k F' al' σ H' ((x1.trans x2).trans x3) ⟨R2.s.ext x3, C3⟩ rfl fun _ _ => rfl⟩
        · cases e1
      · cases e1
    · cases e1
end
end FL

namespace FL
open PySem PySem.Spec L2

/-! ### instances -/
def look (f : Str) : List Str → List W → Option W
  | g :: gs, x :: xs => if f = g then some x else look f gs xs
  | _, _ => none
theorem look_ok {K : PySem.W.Frag} {F : Hp} {al : List Addr} {f : Str} : ∀ {fvs : List (Str × V)} {ws : List W} {w : W}, Reps K F al ws (fvs.map (·.2)) → look f (fvs.map (·.1)) ws = some w → ∃ v, fvs.lookup f = some v ∧ Rep K F al w v
  | [], ws, w, r, h => by
    cases ws with
    | nil => cases h
    | cons x xs => cases h
  | (g, v) :: fvs, [], w, r, h => by cases h
  | (g, v) :: fvs, x :: xs, w, ⟨v', vr, e1, r1, r2⟩, h => by
    have e1 : v :: fvs.map (·.2) = v' :: vr := e1
    cases e1
    have h : (if f = g then some x else look f (fvs.map (·.1)) xs) = some w := h
    rw [List.lookup_cons]
    by_cases e : f = g
    · rw [if_pos e] at h
      cases h
      rw [show (f == g) = true from beq_iff_eq.mpr e]
      exact ⟨v, rfl, r1⟩
    · rw [if_neg e] at h
      rw [show (f == g) = false from beq_eq_false_iff_ne.mpr e]
      exact look_ok r2 h
def putN (f : Str) : List Str → List Str
  | [] => [f]
  | g :: gs => if g = f then g :: gs else g :: putN f gs
def putW (f : Str) (w : W) : List Str → List W → List W
  | g :: gs, x :: xs => if g = f then w :: xs else x :: putW f w gs xs
  | _, _ => [w]
theorem put_ok {K : PySem.W.Frag} {F : Hp} {al : List Addr} {f : Str} {w : W} {v : V} (q : Rep K F al w v) : ∀ {fvs : List (Str × V)} {ws : List W}, Reps K F al ws (fvs.map (·.2)) → (putF f v fvs).map (·.1) = putN f (fvs.map (·.1)) ∧ Reps K F al (putW f w (fvs.map (·.1)) ws) ((putF f v fvs).map (·.2))
  | [], ws, r => by
    cases ws with
    | nil => exact ⟨rfl, Reps.one q⟩
    | cons x xs =>
      obtain ⟨_, _, e, _⟩ := r
      cases e
  | (g, x) :: fvs, [], r => by cases (show (((g, x) :: fvs).map (·.2) : List V) = [] from r)
  | (g, x) :: fvs, y :: ys, ⟨v', vr, e1, r1, r2⟩ => by
    have e1 : x :: fvs.map (·.2) = v' :: vr := e1
    cases e1
    show ((if g = f then (g, v) :: fvs else (g, x) :: putF f v fvs).map (·.1) = (if g = f then g :: fvs.map (·.1) else g :: putN f (fvs.map (·.1)))) ∧ Reps K F al (if g = f then w :: ys else y :: putW f w (fvs.map (·.1)) ys) ((if g = f then (g, v) :: fvs else (g, x) :: putF f v fvs).map (·.2))
    by_cases e : g = f
    · rw [if_pos e, if_pos e, if_pos e]
      exact ⟨rfl, _, _, rfl, q, r2⟩
    · rw [if_neg e, if_neg e, if_neg e]
      obtain ⟨i1, i2⟩ := put_ok q r2
      exact ⟨by show g :: (putF f v fvs).map (·.1) = _; rw [i1], _, _, rfl, r1, i2⟩
/-- an instance of the class at C -/
def insW (C : Addr) (cl : List Cell) : W → Option (List Str × List W)
  | .d (.ins C' fs ds) => if C' = C then some (fs, ds.map W.d) else none
  | .cel n => match cl[n]? with
    | some (.ins C' fs ws) => if C' = C then some (fs, ws) else none
    | _ => none
  | _ => none
theorem insW_ok {K : PySem.W.Frag} {C : Addr} {cl : List Cell} {F : Hp} {al : List Addr} {H : Hp} (Cs : Cells K cl F al H) {x : W} {v : V} (r : Rep K F al x v) {fs : List Str} {ws : List W} (h : insW C cl x = some (fs, ws)) : ∃ a dx fvs, v = .ref a ∧ H a = some (.ins C dx fvs) ∧ fvs.map (·.1) = fs ∧ Reps K F al ws (fvs.map (·.2)) := by
  unfold insW at h
  split at h
  · split at h
    · rename_i e
      cases h
      subst e
      obtain ⟨a, dx, fvs, q1, q2, q3, q4⟩ := r
      exact ⟨a, dx, fvs, q1, Cs.fh _ _ q2, q3, Reps.of0 q4⟩
    · cases h
  · obtain ⟨a, q1, ha⟩ := r
    split at h
    · rename_i q
      split at h
      · rename_i e
        cases h
        subst e
        obtain ⟨_, dx, fvs, q2, q3, q4⟩ := Cs.ok _ _ _ ha q
        exact ⟨a, dx, fvs, q1, q2, q3, q4⟩
      · cases h
    · cases h
  · cases h
def dFld (C : Addr) (f : Str) : Op1 := fun cl x => match insW C cl x with
  | some (fs, ws) => match look f fs ws with
    | some w => some (w, cl)
    | none => none
  | none => none
section
variable {X : Cx} {e o value : Expr} {f m : Str} {pos pos' apos : Pos} {C : Addr}
theorem pf_fld {me : M} (c : Cls X.K C) (n : NoAttr X.K C f) (he : PE X e (tF X.K me)) (hb : attributeBase e f X.env (eval e X.env) = eval e X.env := by rfl) : PE X (.Attribute e f pos) (tF X.K (eUn (dFld C f) me)) :=
  PE.weak (pe_fld he hb) fun σ H Q ⟨r, F, al, d, r', R, e1, k⟩ => by
    obtain ⟨x, r1, q1, q3⟩ := eUn_some e1
    obtain ⟨cc, q4, rfl⟩ := lift1_some q3
    refine ⟨r, F, al, x, r1, R, q1, fun F1 al1 vx H1 x1 R1 p1 => ?_⟩
    unfold dFld at q4
    split at q4
    · rename_i fs ws hi
      split at q4
      · rename_i w hl
        cases q4
        obtain ⟨a, dx, fvs, rfl, h1, h2, h3⟩ := insW_ok R1.c p1 hi
        subst h2
        obtain ⟨v, h4, h5⟩ := look_ok h3 hl
        exact ⟨a, C, dx, fvs, v, rfl, h1, c, n, h4, k F1 al1 v H1 x1 R1 h5⟩
      · cases q4
    · cases q4
/-- o.f = e -/
def sSetF (C : Addr) (f : Str) (mv mo : M) : G := fun r => match mv r with
  | some (y, r1) => match mo r1 with
    | some (.cel n, r2) => match r2.cl[n]? with
      | some (.ins C' fs ws) => if C' = C ∧ fs.length < 1000 then some (.nx { r2 with cl := r2.cl.set n (.ins C (putN f fs) (putW f y fs ws)) }) else none
      | _ => none
    | _ => none
  | none => none
theorem fs_fld {mo mv : M} (c : Cls X.K C) (nA : NoAttr X.K C f) (ho : PE X o (tF X.K mo)) (hv : PE X value (tF X.K mv)) (hs : swapsWith value (some (.Attribute o f pos')) pos.line X.env = pure false := by rfl) : PS X (.Assign [.Attribute o f pos'] value pos) (tFS X.K (sSetF C f mv mo)) :=
  PS.weak (ps_fld ho hv hs) fun D σ H ⟨r, F, al, oo, R, e1, k⟩ => by
    unfold sSetF at e1
    split at e1
    · rename_i y r1 q1
      split at e1
      · rename_i n r2 q2
        split at e1
        · rename_i C' fs ws q3
          split at e1
          · rename_i hc
            obtain ⟨rfl, hl⟩ := hc
            cases e1
            refine ⟨r, F, al, y, r1, R, q1, fun F1 al1 vy H1 x1 R1 p1 => ⟨r1, F1, al1, .cel n, r2, R1, q2, fun F2 al2 vo H2 x2 R2 p2 => ?_⟩⟩
            obtain ⟨a, rfl, ha⟩ := p2
            obtain ⟨nF, dx, fvs, h1, h2, h3⟩ := R2.c.ok n a _ ha q3
            subst h2
            obtain ⟨i1, i2⟩ := put_ok (f := f) (x2.rep p1) h3
            refine ⟨a, C', dx, fvs, rfl, h1, c, nA, by rw [List.length_map] at hl; exact hl, ?_⟩
            have xe : Ext F2 al2 H2 F2 al2 (upd H2 a (.ins C' dx (putF f vy fvs))) := ext_wr ha nF
            exact k F2 al2 σ _ ((x1.trans x2).trans xe) ⟨R2.s.ext xe, R2.c.wr ha nF ⟨nF, dx, _, upd_same, i1, i2⟩⟩
          · cases e1
        · cases e1
      · cases e1
    · cases e1
/-- C(..): the new instance, then __init__ -/
def oMake (C : Addr) (g : OpN) : OpN := fun cl ds => match oCall g (cl ++ [.ins C [] []]) (.cel cl.length :: ds) with
  | some (.d .non, c) => some (.cel cl.length, c)
  | _ => none
theorem Cells.add {K : PySem.W.Frag} {cl : List Cell} {F : Hp} {al : List Addr} {H : Hp} (Cs : Cells K cl F al H) {p : Addr} {u : HO} (hp : H p = none) : Ext F al H F al (upd H p u) ∧ Cells K cl F al (upd H p u) := by
  obtain ⟨hF, hal⟩ := Cs.free hp
  have x : Ext F al H F al (upd H p u) := ⟨Same.refl F, ⟨[], by simp, by simp⟩, fun b o h _ => by rw [upd_ne (ne_of_none h hp)]; exact h, fun b o h => .inl h, fun b h => by
    by_cases e : b = p
    · rw [e, upd_same]
      exact fun q => nomatch q
    · rw [upd_ne e]
      exact h⟩
  exact ⟨x, Cs.ext0 x (fun b o h => by rw [upd_ne (ne_of_none (Cs.fh b o h) hp)]; exact Cs.fh b o h) fun a ha => ⟨upd_ne fun e => hal (e ▸ ha), fun z => z⟩⟩
theorem make_sp {K : PySem.W.Frag} {g : OpN} {n : Nat} {vs : List V} {H : Hp} {Q : VK} {E : XK} (hl : vs.length + 1 = n) (h : rNF K (oMake C g) vs H Q) : ∀ x dx, H x = none → H dx = none → dx ≠ x →
    spF K n g (.ref x :: vs) (upd (upd H dx (.own x)) x (.ins C dx [])) (fun v H2 => v = .non ∧ Q (.ref x) H2) E := fun x dx hx hd hne => by
  obtain ⟨cl, F, al, ds, Cs, r, k⟩ := h
  obtain ⟨d, cl', e, kk⟩ := k.some
  obtain ⟨x1, C1⟩ := Cs.add (u := .own x) hd
  have hx1 : upd H dx (.own x) x = none := by
    rw [upd_ne (Ne.symm hne)]
    exact hx
  obtain ⟨hF, hal⟩ := C1.free hx1
  have x2 : Ext F al (upd H dx (.own x)) F (al ++ [x]) (upd (upd H dx (.own x)) x (.ins C dx [])) := ext_new hF hx1
  have C2 : Cells K (cl ++ [.ins C [] []]) F (al ++ [x]) (upd (upd H dx (.own x)) x (.ins C dx [])) := C1.new hx1 ⟨hF, dx, [], upd_same, rfl, rfl⟩
  have hxi : (al ++ [x])[cl.length]? = some x := by
    rw [← Cs.len, List.getElem?_append_right (Nat.le_refl _), Nat.sub_self]
    rfl
  refine w_spF (by rw [List.length_cons]; exact hl) ⟨_, F, al ++ [x], .cel cl.length :: ds, C2, ⟨.ref x, vs, rfl, ⟨x, rfl, hxi⟩, (x1.trans x2).reps r⟩, ?_⟩
  unfold oMake at e
  split at e
  · rename_i c0 hc
    cases e
    rw [hc]
    intro F' al' v H' x3 C3 p3
    obtain ⟨be, eb, _⟩ := id x3.a
    exact ⟨p3, kk F' al' _ H' ((x1.trans x2).trans x3) C3 ⟨x, rfl, by rw [eb]; exact get_pre hxi⟩⟩
  · cases e
variable {k : Nat} {fa : Addr} {fd : FuncData} {ps : List Str} {dvs : List V} {dds : List Value} {x : Str} {p : Pos} {es : List Expr} {g : OpN} {ms : MS} {dd : List W}
def purW' (cl : List Cell) (n : Nat) : R0 → R0 := fun r => r
theorem pf_make {n : Nat} (Mk1 : Mk X.K C fa) (F : FnOk X.prog X.w X.K X.mg X.base CX0 k fa fd ps (spF X.K n g)) (hr : Room (k + 1) X.A) (hg : Gl X x) (hm : X.mg x = some (.ref C)) (hb : Binds X.K fd ps dds) (hd : Vals dvs dds)
    (hdd : ∀ F al, Reps X.K F al dd dvs) (hml : ALen ms (e :: es).length) (ha : PA X (e :: es) (tFA X.K ms)) (hn : (e :: es).length + dd.length + 1 = n := by rfl) (hdb : (x == ("__debug__" : Str)) = false := by decide) (he : starEach (e :: es) X.env = (false, eval e X.env) :: starEach es X.env := by rfl)
    (hpl : (backTo pos (starEach es X.env)).any (·.1) = false := by rfl) : PE X (.Call (.Name x p) (e :: es) [] pos) (tF X.K (eCall (withD dd (oMake C g)) ms)) := by
  refine PE.weak (pe_make (E := E0) Mk1 F hr hg hm hb hd pass0 ha hdb he hpl) fun σ H Q h => ?_
  obtain ⟨rho, F0, al, d, r', R, e1, kk⟩ := h
  obtain ⟨xs, r1, q1, q3⟩ := eCall_some e1
  obtain ⟨cc, q4, rfl⟩ := liftN_some q3
  refine ⟨rho, F0, al, xs, r1, R, q1, fun F1 al1 vs H1 x1 R1 p1 => ?_⟩
  refine make_sp (by rw [List.length_append, p1.length, hml _ _ _ q1, (hdd F1 al1).length]; exact hn) ⟨r1.cl, F1, al1, xs ++ dd, R1.c, p1.app (hdd F1 al1), ?_⟩
  rw [show oMake C g r1.cl (xs ++ dd) = some (d, cc) from q4]
  exact post_of R1.s fun F' al' v H' x3 R3 p3 => kk F' al' v H' (x1.trans x3) R3 p3
theorem pf_make0 {n : Nat} (Mk1 : Mk X.K C fa) (F : FnOk X.prog X.w X.K X.mg X.base CX0 k fa fd ps (spF X.K n g)) (hr : Room (k + 1) X.A) (hg : Gl X x) (hm : X.mg x = some (.ref C)) (hb : Binds X.K fd ps dds) (hd : Vals dvs dds)
    (hdd : ∀ F al, Reps X.K F al dd dvs) (hn : dd.length + 1 = n := by rfl) (hdb : (x == ("__debug__" : Str)) = false := by decide) : PE X (.Call (.Name x p) [] [] pos) (tF X.K (eCall (withD dd (oMake C g)) aNil)) := by
  refine PE.weak (pe_make0 (E := E0) Mk1 F hr hg hm hb hd pass0 hdb) fun σ H Q h => ?_
  obtain ⟨rho, F0, al, d, r', R, e1, kk⟩ := h
  obtain ⟨xs, r1, q1, q3⟩ := eCall_some e1
  have q1 : some ([], rho) = some (xs, r1) := q1
  cases q1
  obtain ⟨cc, q4, rfl⟩ := liftN_some q3
  refine make_sp (by rw [List.nil_append, (hdd F0 al).length]; exact hn) ⟨rho.cl, F0, al, dd, R.c, hdd F0 al, ?_⟩
  rw [show oMake C g rho.cl dd = some (d, cc) from q4]
  exact post_of R.s fun F' al' v H' x3 R3 p3 => kk F' al' v H' x3 R3 p3
/-- o.m(..), m a method of the class at C -/
def hasM (C : Addr) (m : Str) (cl : List Cell) (x : W) : Bool := match insW C cl x with
  | some (fs, _) => fs.all fun f => decide (m ≠ f)
  | none => false
theorem look_no {m : Str} : ∀ {fvs : List (Str × V)}, (fvs.map (·.1)).all (fun f => decide (m ≠ f)) = true → fvs.lookup m = none
  | [], _ => rfl
  | (g, v) :: fvs, h => by
    have h : (decide (m ≠ g) && (fvs.map (·.1)).all fun f => decide (m ≠ f)) = true := h
    rw [Bool.and_eq_true, decide_eq_true_eq] at h
    rw [List.lookup_cons, show (m == g) = false from beq_eq_false_iff_ne.mpr h.1]
    exact look_no h.2
theorem hasM_ok {K : PySem.W.Frag} {cl : List Cell} {F : Hp} {al : List Addr} {H : Hp} (Cs : Cells K cl F al H) {x : W} {v : V} (r : Rep K F al x v) (h : hasM C m cl x = true) : ∃ a dx fs, v = .ref a ∧ H a = some (.ins C dx fs) ∧ fs.lookup m = none := by
  unfold hasM at h
  split at h
  · rename_i fs ws hi
    obtain ⟨a, dx, fvs, rfl, h1, h2, h3⟩ := insW_ok Cs r hi
    subst h2
    exact ⟨a, dx, fvs, rfl, h1, look_no h⟩
  · cases h
def callC (c : Bool) (g : OpN) : OpN := if c then oCall g else oCallP g
theorem w_spC {K : PySem.W.Frag} {g : OpN} {n : Nat} (c : Bool) {vs : List V} {H : Hp} (hl : vs.length = n) {Q : VK} {E : XK} (h : rNF K (callC c g) vs H Q) : spF K n g vs H Q E := by
  cases c with
  | true => exact w_spF hl h
  | false => exact w_spFP hl h
theorem pf_meth {n : Nat} (c : Bool) {pl : Sem Bool} {mo : M} (hc : Cls X.K C) (hm : Meth X.K C m fa) (F : FnOk X.prog X.w X.K X.mg X.base CX0 k fa fd ps (spF X.K n g)) (hr : Room k X.A) (hb : Binds X.K fd ps dds) (hd : Vals dvs dds)
    (hdd : ∀ F al, Reps X.K F al dd dvs) (hml : ALen ms (e :: es).length) (ho : PE X o (tF X.K mo)) (ha : PA X (e :: es) (tFA X.K ms)) (hn : (e :: es).length + dd.length + 1 = n := by rfl)
    (hst : starEach (e :: es) X.env = (false, eval e X.env) :: starEach es X.env := by rfl) (hpl : (backTo pos (starEach es X.env)).any (·.1) = false := by rfl)
    (ht : eval (.Call (.Attribute o m apos) (e :: es) [] pos) X.env = (do
      let ov ← eval o X.env
      standAt apos.atName
      let (f, first) ← holding [ov] (getMethod ov m pl)
      callWith pos f first (backTo pos (starEach (e :: es) X.env)) (backToKw pos (keywordEach [] X.env))) := by rfl) :
    PE X (.Call (.Attribute o m apos) (e :: es) [] pos) (tF X.K (eMethT (hasM C m) (withD dd (callC c g)) mo ms)) := by
  refine PE.weak (pe_meth (E := E0) ho hc hm F hr hb hd pass0 ha hst hpl ht) fun σ H Q h => ?_
  obtain ⟨rho, F0, al, d, r', R, e1, kk⟩ := h
  unfold eMethT at e1
  split at e1
  · rename_i x0 r1 q1
    split at e1
    · rename_i hh
      split at e1
      · rename_i xs r2 q2
        obtain ⟨cc, q4, rfl⟩ := liftN_some e1
        refine ⟨rho, F0, al, x0, r1, R, q1, fun F1 al1 vx H1 x1 R1 p1 => ?_⟩
        obtain ⟨a, dx, fs, rfl, h1, h2⟩ := hasM_ok R1.c p1 hh
        refine ⟨a, dx, fs, rfl, h1, h2, r1, F1, al1, xs, r2, R1, q2, fun F2 al2 vs H2 x2 R2 p2 => ?_⟩
        refine w_spC (E := E0) c (by rw [List.length_cons, List.length_append, p2.length, hml _ _ _ q2, (hdd F2 al2).length]; exact hn) ⟨r2.cl, F2, al2, x0 :: (xs ++ dd), R2.c, ⟨_, _, rfl, x2.rep p1, p2.app (hdd F2 al2)⟩, ?_⟩
        rw [show callC c g r2.cl (x0 :: (xs ++ dd)) = some (d, cc) from q4]
        exact post_of R2.s fun F' al' v H' x3 R3 p3 => kk F' al' v H' ((x1.trans x2).trans x3) R3 p3
      · cases e1
    · cases e1
  · cases e1
theorem pf_meth0 {n : Nat} (c : Bool) {pl : Sem Bool} {mo : M} (hc : Cls X.K C) (hm : Meth X.K C m fa) (F : FnOk X.prog X.w X.K X.mg X.base CX0 k fa fd ps (spF X.K n g)) (hr : Room k X.A) (hb : Binds X.K fd ps dds) (hd : Vals dvs dds)
    (hdd : ∀ F al, Reps X.K F al dd dvs) (ho : PE X o (tF X.K mo)) (hn : dd.length + 1 = n := by rfl)
    (ht : eval (.Call (.Attribute o m apos) [] [] pos) X.env = (do
      let ov ← eval o X.env
      standAt apos.atName
      let (f, first) ← holding [ov] (getMethod ov m pl)
      callWith pos f first (backTo pos (starEach [] X.env)) (backToKw pos (keywordEach [] X.env))) := by rfl) :
    PE X (.Call (.Attribute o m apos) [] [] pos) (tF X.K (eMethT (hasM C m) (withD dd (callC c g)) mo aNil)) := by
  refine PE.weak (pe_meth0 (E := E0) ho hc hm F hr hb hd pass0 ht) fun σ H Q h => ?_
  obtain ⟨rho, F0, al, d, r', R, e1, kk⟩ := h
  unfold eMethT at e1
  split at e1
  · rename_i x0 r1 q1
    split at e1
    · rename_i hh
      obtain ⟨cc, q4, rfl⟩ := liftN_some (show liftN _ [x0] r1 = some (d, r') from e1)
      refine ⟨rho, F0, al, x0, r1, R, q1, fun F1 al1 vx H1 x1 R1 p1 => ?_⟩
      obtain ⟨a, dx, fs, rfl, h1, h2⟩ := hasM_ok R1.c p1 hh
      refine ⟨a, dx, fs, rfl, h1, h2, ?_⟩
      refine w_spC (E := E0) c (by rw [List.length_cons, List.nil_append, (hdd F1 al1).length]; exact hn) ⟨r1.cl, F1, al1, x0 :: dd, R1.c, ⟨_, _, rfl, p1, hdd F1 al1⟩, ?_⟩
      rw [show callC c g r1.cl (x0 :: dd) = some (d, cc) from q4]
      exact post_of R1.s fun F' al' v H' x3 R3 p3 => kk F' al' v H' (x1.trans x3) R3 p3
    · cases e1
  · cases e1
/-- a def without arguments -/
theorem pf_call0 {n : Nat} (c : Bool) (F : FnOk X.prog X.w X.K X.mg X.base CX0 k fa fd ps (spF X.K n g)) (hr : Room k X.A) (hg : Gl X x) (hm : X.mg x = some (.ref fa)) (hk : PySem.W.keepIn X.K (.ref fa) = true) (hb : Binds X.K fd ps dds) (hd : Vals dvs dds)
    (hdd : ∀ F al, Reps X.K F al dd dvs) (hn : dd.length = n := by rfl) (hdb : (x == ("__debug__" : Str)) = false := by decide) : PE X (.Call (.Name x p) [] [] pos) (tF X.K (eCall (withD dd (callC c g)) aNil)) := by
  refine PE.weak (pe_call0 (E := E0) F hr hg hm hk hb hd pass0 hdb) fun σ H Q h => ?_
  obtain ⟨rho, F0, al, d, r', R, e1, kk⟩ := h
  obtain ⟨xs, r1, q1, q3⟩ := eCall_some e1
  have q1 : some ([], rho) = some (xs, r1) := q1
  cases q1
  obtain ⟨cc, q4, rfl⟩ := liftN_some q3
  refine w_spC (E := E0) c (by rw [List.nil_append, (hdd F0 al).length]; exact hn) ⟨rho.cl, F0, al, dd, R.c, hdd F0 al, ?_⟩
  rw [show callC c g rho.cl dd = some (d, cc) from q4]
  exact post_of R.s fun F' al' v H' x3 R3 p3 => kk F' al' v H' x3 R3 p3
/-- len(o), o with a __len__ of its own -/
def oLenI (C : Addr) (c : Bool) (g : OpN) : OpN := fun cl ds => match ds with
  | [x] => match insW C cl x with
    | some _ => match callC c g cl [x] with
      | some (.d (.int n), cl') => if 0 ≤ n ∧ n < 2 ^ 63 then some (.d (.int n), cl') else none
      | _ => none
    | none => none
  | _ => none
theorem lenI_ok (c : Bool) (hs : PySem.W.findIn X.K (.ref C) "__len__" = some (some (.ref fa))) (hf : PySem.W.isFn X.K (.ref fa) = true) (F : FnOk X.prog X.w X.K X.mg X.base CX0 k fa fd ps (spF X.K 1 g)) (hr : Room (k + 1) X.A) (hb : Binds X.K fd ps []) :
    CallR X (.builtin "len") (rNF X.K (oLenI C c g)) := by
  intro pins s σ H vs us Q I rv h
  obtain ⟨cl, Fz, al, ds, Cs, rs, kk⟩ := h
  obtain ⟨d, cl', e, k2⟩ := kk.some
  unfold oLenI at e
  split at e
  · rename_i x0
    obtain ⟨v, vr, rfl, rx, r0⟩ := rs
    have r0 : vr = [] := r0
    subst r0
    split at e
    · rename_i pr hi
      obtain ⟨a, dx, fvs, rfl, h1, h2, h3⟩ := insW_ok (fs := pr.1) (ws := pr.2) Cs rx hi
      obtain ⟨u, rfl, ru⟩ := vals1 rv
      cases ru
      split at e
      · rename_i n c0 hcall
        split at e
        · rename_i hb2
          cases e
          obtain ⟨mA, J, _⟩ := ins_get I.hok h1
          obtain ⟨od, J, _⟩ := J.look
          obtain ⟨mf, hF⟩ := I.fr
          refine PySem.W.len_K hF I.ok.mod.kin J hs hf ?_
          have hsp : spF X.K 1 g [.ref a] H (fun v H' => v = .int n ∧ Q (.int n) H') E0 := w_spC c rfl ⟨cl, Fz, al, [x0], Cs, ⟨_, _, rfl, rx, rfl⟩, by
            rw [hcall]
            intro F' al' v H' x3 C3 p3
            have p3 : v = .int n := p3
            subst p3
            exact ⟨rfl, k2 F' al' _ H' x3 C3 rfl⟩⟩
          have hl := F.len _ _ _ _ hsp
          refine wpAny_call (codeAny_mono (F.run X.A.in1 X.stack s H ⟨[.ref a], []⟩ [.ref a] [.ref a] _ E0 hr.in1 I.env0.in1 (by
            have := hb s [.ref a] I.kIn (by simpa using hl)
            simpa using this) (.cons rfl .nil) hsp) fun r s' hq => ?_)
          cases r with
          | error e => exact (show False from hq).elim
          | ok fl =>
            cases fl with
            | ret w =>
              obtain ⟨z, H', I', rz, ez, q⟩ := I.after hq
              subst ez
              obtain ⟨t, rfl⟩ := rz
              exact ⟨hb2, .int n, H', I'.tok _, ⟨_, rfl⟩, q⟩
            | next => exact False.elim hq
            | brk => exact False.elim hq
            | cont => exact False.elim hq
        · cases e
      · cases e
    · cases e
  · cases e
/-- a == b by an own __eq__, both instances of the class at C -/
def dEqI (C : Addr) (c : Bool) (g : OpN) : Op2 := fun cl x y => match insW C cl x, insW C cl y with
  | some _, some _ => match callC c g cl [x, y] with
    | some (.d (.bl b), cl') => some (.d (.bl b), cl')
    | _ => none
  | _, _ => none
theorem eqI_ok (c : Bool) (hs : PySem.W.findIn X.K (.ref C) "__eq__" = some (some (.ref fa))) (hf : PySem.W.isFn X.K (.ref fa) = true) (F : FnOk X.prog X.w X.K X.mg X.base CX0 k fa fd ps (spF X.K 2 g)) (hr : Room k X.A) (hb : Binds X.K fd ps []) :
    OpR X (compareOp .Eq) (r2F X.K (dEqI C c g)) := by
  intro pins s σ H vx vy v u Q I rvx rvy h
  obtain ⟨cl, Fz, al, x0, y0, Cs, rx, ry, kk⟩ := h
  obtain ⟨d, cl', e, k2⟩ := kk.some
  unfold dEqI at e
  split at e
  · rename_i px py hi hj
    obtain ⟨a, dx, fvs, rfl, h1, h2, h3⟩ := insW_ok (fs := px.1) (ws := px.2) Cs rx hi
    obtain ⟨b, dy, gvs, rfl, h4, h5, h6⟩ := insW_ok (fs := py.1) (ws := py.2) Cs ry hj
    cases rvx
    cases rvy
    split at e
    · rename_i bb c0 hcall
      cases e
      obtain ⟨mA, J, _⟩ := ins_get I.hok h1
      obtain ⟨mB, J', _⟩ := ins_get I.hok h4
      obtain ⟨od, J, _⟩ := J.look
      obtain ⟨od', J', _⟩ := J'.look
      obtain ⟨mf, hF⟩ := I.fr
      show wpAny (model X.prog X.w) X.A (richCompare .Eq (.ref a) (.ref b)) (EP X pins σ Q) X.xe s
      refine PySem.W.cmp_K (op := .Eq) (tb := .ref C) hr.units0 hF I.ok.mod.kin J J'.type (by simp [PySem.W.notFirst]) hs hf ?_
      have hsp : spF X.K 2 g [.ref a, .ref b] H (fun v H' => v = .bl bb ∧ Q (.bl bb) H') E0 := w_spC c rfl ⟨cl, Fz, al, [x0, y0], Cs, ⟨_, _, rfl, rx, _, _, rfl, ry, rfl⟩, by
        rw [hcall]
        intro F' al' v H' x3 C3 p3
        have p3 : v = .bl bb := p3
        subst p3
        exact ⟨rfl, k2 F' al' _ H' x3 C3 rfl⟩⟩
      have hl := F.len _ _ _ _ hsp
      refine wpAny_call (codeAny_mono (F.run X.A X.stack s H ⟨[.ref a, .ref b], []⟩ [.ref a, .ref b] [.ref a, .ref b] _ E0 hr I.env0 (by
        have := hb s [.ref a, .ref b] I.kIn (by simpa using hl)
        simpa using this) (.cons rfl (.cons rfl .nil)) hsp) fun r s' hq => ?_)
      cases r with
      | error e => exact (show False from hq).elim
      | ok fl =>
        cases fl with
        | ret w =>
          obtain ⟨z, H', I', rz, ez, q⟩ := I.after hq
          subst ez
          cases rz
          exact ⟨.bl bb, H', I', rfl, q⟩
        | next => exact False.elim hq
        | brk => exact False.elim hq
        | cont => exact False.elim hq
    · cases e
  · cases e
end
end FL

namespace FL
open PySem PySem.Spec L2

/-! ### dicts -/
section
variable {κ : Type} [DecidableEq κ] {K : PySem.W.Frag} {F : Hp} {al : List Addr}
def valK : List κ → List W → κ → Option W
  | k' :: ks, w :: ws, k => if k' = k then some w else valK ks ws k
  | _, _, _ => none
def updK : List κ → List W → κ → W → List W
  | k' :: ks, v :: ws, k, w => (if k' = k then w else v) :: updK ks ws k w
  | _, _, _, _ => []
def hasK (ks : List κ) (k : κ) : Bool := ks.any fun k' => decide (k' = k)
theorem valK_ok : ∀ {kvs : List (κ × V)} {ws : List W} (k : κ), Reps K F al ws (kvs.map (·.2)) →
    (∀ w, valK (kvs.map (·.1)) ws k = some w → ∃ v, valV kvs k = some v ∧ Rep K F al w v) ∧ (valK (kvs.map (·.1)) ws k = none → valV kvs k = none)
  | [], ws, k, r => by
    cases ws with
    | nil => exact ⟨fun w h => (nomatch h), fun _ => rfl⟩
    | cons x xs =>
      obtain ⟨_, _, e, _⟩ := r
      cases e
  | (g, v) :: kvs, [], k, r => by cases (show (((g, v) :: kvs).map (·.2) : List V) = [] from r)
  | (g, v) :: kvs, x :: xs, k, ⟨v', vr, e1, r1, r2⟩ => by
    have e1 : v :: kvs.map (·.2) = v' :: vr := e1
    cases e1
    obtain ⟨i1, i2⟩ := valK_ok k r2
    have h1 : valK (((g, v) :: kvs).map (·.1)) (x :: xs) k = if g = k then some x else valK (kvs.map (·.1)) xs k := rfl
    rw [h1]
    by_cases e : g = k
    · rw [if_pos e, valV_pos (p := (g, v)) e]
      exact ⟨fun w h => by
        cases h
        exact ⟨v, rfl, r1⟩, fun h => nomatch h⟩
    · rw [if_neg e]
      have h2 : valV ((g, v) :: kvs) k = valV kvs k := by simp [valV, List.find?_cons, e]
      rw [h2]
      exact ⟨i1, i2⟩
theorem updK_ok {k : κ} {w : W} {v : V} (q : Rep K F al w v) : ∀ {kvs : List (κ × V)} {ws : List W}, Reps K F al ws (kvs.map (·.2)) →
    Reps K F al (updK (kvs.map (·.1)) ws k w) ((kvs.map fun kv => if kv.1 = k then (kv.1, v) else kv).map (·.2))
  | [], ws, r => by
    cases ws with
    | nil => exact r
    | cons x xs =>
      obtain ⟨_, _, e, _⟩ := r
      cases e
  | (g, x) :: kvs, [], r => by cases (show (((g, x) :: kvs).map (·.2) : List V) = [] from r)
  | (g, x) :: kvs, y :: ys, ⟨v', vr, e1, r1, r2⟩ => by
    have e1 : x :: kvs.map (·.2) = v' :: vr := e1
    cases e1
    have i := updK_ok (k := k) q r2
    show Reps K F al ((if g = k then w else y) :: updK (kvs.map (·.1)) ys k w) (((if g = k then (g, v) else (g, x)) :: (kvs.map fun kv => if kv.1 = k then (kv.1, v) else kv)).map (·.2))
    by_cases e : g = k
    · rw [if_pos e, if_pos e]
      exact ⟨_, _, rfl, q, i⟩
    · rw [if_neg e, if_neg e]
      exact ⟨_, _, rfl, r1, i⟩
theorem map_keys {k : κ} {v : V} (kvs : List (κ × V)) : (kvs.map fun kv => if kv.1 = k then (kv.1, v) else kv).map (·.1) = kvs.map (·.1) := by
  rw [List.map_map]
  refine List.map_congr_left fun a _ => ?_
  show (if a.1 = k then (a.1, v) else a).1 = a.1
  split <;> rfl
theorem hasK_ok {k : κ} (kvs : List (κ × V)) : (kvs.any fun kv => decide (kv.1 = k)) = hasK (kvs.map (·.1)) k := by
  unfold hasK
  rw [List.any_map]
  rfl
end
def keyD : D → Option Key
  | .int i => some (.inl i)
  | .str z => some (.inr z)
  | _ => none
def keysD : List D → Option (List Key)
  | [] => some []
  | d :: ds => match keyD d, keysD ds with
    | some k, some ks => some (k :: ks)
    | _, _ => none
def keyW : W → Option Key
  | .d x => keyD x
  | _ => none
def tkeyW : W → Option (List Key)
  | .d (.tup ds) => keysD ds
  | _ => none
theorem keyD_ok {K : PySem.W.Frag} {F : Hp} {d : D} {v : V} (r : Rep0 K F d v) {k : Key} (h : keyD d = some k) : v = kV k := by
  unfold keyD at h
  split at h
  · cases h
    exact r
  · cases h
    exact r
  · cases h
theorem keysD_ok {K : PySem.W.Frag} {F : Hp} : ∀ {ds : List D} {vs : List V} {ks : List Key}, Reps0 K F ds vs → keysD ds = some ks → vs = ks.map kV
  | [], vs, ks, r, h => by
    cases h
    exact r
  | d :: ds, vs, ks, ⟨v, vr, e1, r1, r2⟩, h => by
    unfold keysD at h
    split at h
    · rename_i k ks' h1 h2
      cases h
      rw [e1, keyD_ok r1 h1, keysD_ok r2 h2]
      rfl
    · cases h
/-- a dict: with plain keys, with tuples as keys -/
def asDk (cl : List Cell) : W → Option (List Key × List W)
  | .d (.dk ks ds) => some (ks, ds.map W.d)
  | .cel n => match cl[n]? with
    | some (.dk ks ws) => some (ks, ws)
    | _ => none
  | _ => none
def asDt (cl : List Cell) : W → Option (List (List Key) × List W)
  | .d (.dt ks ds) => some (ks, ds.map W.d)
  | .cel n => match cl[n]? with
    | some (.dt ks ws) => some (ks, ws)
    | _ => none
  | _ => none
section
variable {K : PySem.W.Frag} {cl : List Cell} {F : Hp} {al : List Addr} {H : Hp}
theorem asDk_ok (C : Cells K cl F al H) {x : W} {v : V} (r : Rep K F al x v) {ks : List Key} {ws : List W} (h : asDk cl x = some (ks, ws)) : ∃ a kvs, v = .ref a ∧ Rd H a (.dK kvs) ∧ kvs.map (·.1) = ks ∧ Reps K F al ws (kvs.map (·.2)) := by
  unfold asDk at h
  split at h
  · cases h
    obtain ⟨a, kvs, rfl, q1, q2, q3⟩ := r
    exact ⟨a, kvs, rfl, Same.rd C.fh q1, q2, Reps.of0 q3⟩
  · obtain ⟨a, rfl, ha⟩ := r
    split at h
    · rename_i q
      cases h
      obtain ⟨_, kvs, q1, q2, q3⟩ := C.ok _ _ _ ha q
      exact ⟨a, kvs, rfl, .inl q1, q2, q3⟩
    · cases h
  · cases h
theorem asDt_ok (C : Cells K cl F al H) {x : W} {v : V} (r : Rep K F al x v) {ks : List (List Key)} {ws : List W} (h : asDt cl x = some (ks, ws)) : ∃ a kvs, v = .ref a ∧ Rd H a (.dT kvs) ∧ kvs.map (·.1) = ks ∧ Reps K F al ws (kvs.map (·.2)) := by
  unfold asDt at h
  split at h
  · cases h
    obtain ⟨a, kvs, rfl, q1, q2, q3⟩ := r
    exact ⟨a, kvs, rfl, Same.rd C.fh q1, q2, Reps.of0 q3⟩
  · obtain ⟨a, rfl, ha⟩ := r
    split at h
    · rename_i q
      cases h
      obtain ⟨_, kvs, q1, q2, q3⟩ := C.ok _ _ _ ha q
      exact ⟨a, kvs, rfl, .inl q1, q2, q3⟩
    · cases h
  · cases h
/-- d[y], as it is there or not -/
def dGetW (cl : List Cell) (x y : W) : Option (Option W) := match asDk cl x with
  | some (ks, ws) => (keyW y).map fun k => valK ks ws k
  | none => match asDt cl x with
    | some (ks, ws) => (tkeyW y).map fun k => valK ks ws k
    | none => none
theorem dGetW_ok (C : Cells K cl F al H) {x y : W} {vx vy : V} (rx : Rep K F al x vx) (ry : Rep K F al y vy) {o : Option W} (h : dGetW cl x y = some o) :
    ∃ a ov, vx = .ref a ∧ DGet H a vy ov ∧ (∀ w, o = some w → ∃ v, ov = some v ∧ Rep K F al w v) ∧ (o = none → ov = none) := by
  unfold dGetW at h
  split at h
  · rename_i ks ws hd
    obtain ⟨a, kvs, rfl, q1, q2, q3⟩ := asDk_ok C rx hd
    obtain ⟨k, hk, ho⟩ := Option.map_eq_some_iff.mp h
    subst q2
    obtain ⟨i1, i2⟩ := valK_ok k q3
    have ey : vy = kV k := by
      cases y with
      | d z => exact keyD_ok ry hk
      | cel n => cases hk
      | tup ws => cases hk
    exact ⟨a, _, rfl, .inl ⟨kvs, k, q1, ey, rfl⟩, fun w hw => i1 w (ho.trans hw), fun hn => i2 (ho.trans hn)⟩
  · split at h
    · rename_i ks ws hd
      obtain ⟨a, kvs, rfl, q1, q2, q3⟩ := asDt_ok C rx hd
      obtain ⟨k, hk, ho⟩ := Option.map_eq_some_iff.mp h
      subst q2
      obtain ⟨i1, i2⟩ := valK_ok k q3
      unfold tkeyW at hk
      split at hk
      · rename_i ds
        obtain ⟨b, vs, rfl, p1, p2⟩ := ry
        rw [keysD_ok p2 hk] at p1
        exact ⟨a, _, rfl, .inr ⟨kvs, k, b, q1, rfl, C.fh _ _ p1, rfl⟩, fun w hw => i1 w (ho.trans hw), fun hn => i2 (ho.trans hn)⟩
      · cases hk
    · cases h
def dDix : Op2 := fun cl x y => match dGetW cl x y with
  | some (some w) => some (w, cl)
  | _ => none
def dDin (neg : Bool) : Op2 := fun cl y x => match dGetW cl x y with
  | some o => some (.d (.bl (if neg then !o.isSome else o.isSome)), cl)
  | none => none
end
section
variable {X : Cx} {o i e f value : Expr} {pos pos' apos cpos : Pos}
theorem pf_dix {mo mi : M} (hu : X.A.units + 1 < cLine) (ho : PE X o (tF X.K mo)) (hi : PE X i (tF X.K mi)) (hs : NoSl i := by exact fun _ _ => rfl) : PE X (.Subscript o i pos) (tF X.K (eBin dDix mo mi)) :=
  PE.weak (pe_dget hu ho hi hs) fun σ H Q ⟨rho, F, al, d, r', R, e1, k⟩ => by
    obtain ⟨x, r1, y, r2, q1, q2, q3⟩ := eBin_some e1
    obtain ⟨c, q4, rfl⟩ := lift2_some q3
    refine ⟨rho, F, al, x, r1, R, q1, fun F1 al1 vx H1 x1 R1 p1 => ⟨r1, F1, al1, y, r2, R1, q2, fun F2 al2 vy H2 x2 R2 p2 => ?_⟩⟩
    unfold dDix at q4
    split at q4
    · rename_i w hw
      cases q4
      obtain ⟨a, ov, rfl, g, i1, _⟩ := dGetW_ok R2.c (x2.rep p1) p2 hw
      obtain ⟨v, rfl, rv⟩ := i1 _ rfl
      exact ⟨a, v, rfl, g, k F2 al2 v H2 (x1.trans x2) R2 rv⟩
    · cases q4
theorem w_din {neg : Bool} {mi mo : M} : ∀ σ H Q, tF X.K (eBin (dDin neg) mi mo) σ H Q → tF X.K mi σ H fun y H1 => tF X.K mo σ H1 fun x H2 => ∃ a ov, x = .ref a ∧ DGet H2 a y ov ∧ Q (.bl (if neg then !ov.isSome else ov.isSome)) H2 := fun σ H Q ⟨rho, F, al, d, r', R, e1, k⟩ => by
  obtain ⟨y, r1, x, r2, q1, q2, q3⟩ := eBin_some e1
  obtain ⟨c, q4, rfl⟩ := lift2_some q3
  refine ⟨rho, F, al, y, r1, R, q1, fun F1 al1 vy H1 x1 R1 p1 => ⟨r1, F1, al1, x, r2, R1, q2, fun F2 al2 vx H2 x2 R2 p2 => ?_⟩⟩
  unfold dDin at q4
  split at q4
  · rename_i ow hw
    cases q4
    obtain ⟨a, ov, rfl, g, i1, i2⟩ := dGetW_ok R2.c p2 (x2.rep p1) hw
    refine ⟨a, ov, rfl, g, k F2 al2 _ H2 (x1.trans x2) R2 ?_⟩
    cases ow with
    | none =>
      rw [i2 rfl]
      rfl
    | some w =>
      obtain ⟨v, e, _⟩ := i1 w rfl
      rw [e]
      rfl
  · cases q4
theorem pf_din {mo mi : M} (hu : X.A.units + 1 < cLine) (hi : PE X i (tF X.K mi)) (ho : PE X o (tF X.K mo)) (h1 : behindInMarks .In o = false := by rfl) : PE X (.Compare i [.In] [o] pos) (tF X.K (eBin (dDin false) mi mo)) :=
  PE.weak (pe_cmp (pc_din hu hi ho) h1) fun σ H Q h => w_din σ H Q h
theorem pf_dnotin {mo mi : M} (hu : X.A.units + 1 < cLine) (hi : PE X i (tF X.K mi)) (ho : PE X o (tF X.K mo)) (h1 : behindInMarks .NotIn o = false := by rfl) : PE X (.Compare i [.NotIn] [o] pos) (tF X.K (eBin (dDin true) mi mo)) :=
  PE.weak (pe_cmp (pc_dnotin hu hi ho) h1) fun σ H Q h => w_din σ H Q h
theorem ft_din {mo mi : M} (hu : X.A.units + 1 < cLine) (hi : PE X i (tF X.K mi)) (ho : PE X o (tF X.K mo)) (h1 : behindInMarks .In o = false := by rfl) : PT X (.Compare i [.In] [o] pos) (tFB X.K (bVal (eBin (dDin false) mi mo))) :=
  PT.weak (pt_cmp (pc_din hu hi ho) h1) (w_tB fun σ H Q h => w_din σ H Q h)
theorem ft_dnotin {mo mi : M} (hu : X.A.units + 1 < cLine) (hi : PE X i (tF X.K mi)) (ho : PE X o (tF X.K mo)) (h1 : behindInMarks .NotIn o = false := by rfl) : PT X (.Compare i [.NotIn] [o] pos) (tFB X.K (bVal (eBin (dDin true) mi mo))) :=
  PT.weak (pt_cmp (pc_dnotin hu hi ho) h1) (w_tB fun σ H Q h => w_din σ H Q h)
/-- d[y] = w -/
def dPutC (cl : List Cell) (x y w : W) : Option (List Cell) := match x with
  | .cel n => match cl[n]? with
    | some (.dk ks ws) => match keyW y with
      | some k => if ks.length < sizeLine then some (cl.set n (if hasK ks k then .dk ks (updK ks ws k w) else .dk (ks ++ [k]) (ws ++ [w]))) else none
      | none => none
    | some (.dt ks ws) => match tkeyW y with
      | some k => if ks.length < sizeLine then some (cl.set n (if hasK ks k then .dt ks (updK ks ws k w) else .dt (ks ++ [k]) (ws ++ [w]))) else none
      | none => none
    | _ => none
  | _ => none
theorem dPutC_ok {K : PySem.W.Frag} {cl cl' : List Cell} {F : Hp} {al : List Addr} {H : Hp} (C : Cells K cl F al H) {x y w : W} {vx vy vw : V} (rx : Rep K F al x vx) (ry : Rep K F al y vy) (rw' : Rep K F al w vw) (h : dPutC cl x y w = some cl') :
    ∃ a H', vx = .ref a ∧ DPut H a vy vw H' ∧ Ext F al H F al H' ∧ Cells K cl' F al H' := by
  unfold dPutC at h
  split at h
  · rename_i n
    obtain ⟨a, rfl, ha⟩ := rx
    split at h
    · rename_i ks ws hc
      split at h
      · rename_i k hk
        split at h
        · rename_i hz
          cases h
          obtain ⟨nF, kvs, q1, q2, q3⟩ := C.ok _ _ _ ha hc
          subst q2
          have ey : vy = kV k := by
            cases y with
            | d z => exact keyD_ok ry hk
            | cel n => cases hk
            | tup ws => cases hk
          subst ey
          refine ⟨a, _, rfl, DPut.k q1 (by rw [List.length_map] at hz; exact hz), ext_wr ha nF, C.wr ha nF ?_⟩
          have eh := hasK_ok (k := k) kvs
          cases hh : hasK (kvs.map (·.1)) k with
          | true =>
            rw [hh] at eh
            refine ⟨nF, _, upd_same, ?_, ?_⟩
            · unfold putK
              rw [if_pos eh]
              exact map_keys kvs
            · unfold putK
              rw [if_pos eh]
              exact updK_ok rw' q3
          | false =>
            rw [hh] at eh
            refine ⟨nF, _, upd_same, ?_, ?_⟩
            · unfold putK
              rw [if_neg (by rw [eh]; exact Bool.false_ne_true), List.map_append]
              rfl
            · unfold putK
              rw [if_neg (by rw [eh]; exact Bool.false_ne_true), List.map_append]
              exact q3.app (Reps.one rw')
        · cases h
      · cases h
    · rename_i ks ws hc
      split at h
      · rename_i k hk
        split at h
        · rename_i hz
          cases h
          obtain ⟨nF, kvs, q1, q2, q3⟩ := C.ok _ _ _ ha hc
          subst q2
          unfold tkeyW at hk
          split at hk
          · rename_i ds
            obtain ⟨b, vs, rfl, p1, p2⟩ := ry
            rw [keysD_ok p2 hk] at p1
            refine ⟨a, _, rfl, DPut.t q1 (C.fh _ _ p1) (by rw [List.length_map] at hz; exact hz), ext_wr ha nF, C.wr ha nF ?_⟩
            have eh := hasK_ok (k := k) kvs
            cases hh : hasK (kvs.map (·.1)) k with
            | true =>
              rw [hh] at eh
              refine ⟨nF, _, upd_same, ?_, ?_⟩
              · unfold putK
                rw [if_pos eh]
                exact map_keys kvs
              · unfold putK
                rw [if_pos eh]
                exact updK_ok rw' q3
            | false =>
              rw [hh] at eh
              refine ⟨nF, _, upd_same, ?_, ?_⟩
              · unfold putK
                rw [if_neg (by rw [eh]; exact Bool.false_ne_true), List.map_append]
                rfl
              · unfold putK
                rw [if_neg (by rw [eh]; exact Bool.false_ne_true), List.map_append]
                exact q3.app (Reps.one rw')
          · cases hk
        · cases h
      · cases h
    · cases h
  · cases h
def sPutD (mv mo mi : M) : G := fun r => match mv r with
  | some (w, r1) => match mo r1 with
    | some (x, r2) => match mi r2 with
      | some (y, r3) => match dPutC r3.cl x y w with
        | some c => some (.nx { r3 with cl := c })
        | none => none
      | none => none
    | none => none
  | none => none
theorem fs_dput {mo mi mv : M} (hu : X.A.units + 1 < cLine) (ho : PE X o (tF X.K mo)) (hi : PE X i (tF X.K mi)) (hv : PE X value (tF X.K mv)) (hs : swapsWith value (some (.Subscript o i pos')) pos.line X.env = pure false := by rfl) :
    PS X (.Assign [.Subscript o i pos'] value pos) (tFS X.K (sPutD mv mo mi)) := PS.weak (ps_dput hu ho hi hv hs) fun D σ H ⟨r, F, al, oo, R, e1, k⟩ => by
  unfold sPutD at e1
  split at e1
  · rename_i w r1 q1
    split at e1
    · rename_i x r2 q2
      split at e1
      · rename_i y r3 q3
        split at e1
        · rename_i c q4
          cases e1
          refine ⟨r, F, al, w, r1, R, q1, fun F1 al1 vw H1 x1 R1 p1 => ⟨r1, F1, al1, x, r2, R1, q2, fun F2 al2 vx H2 x2 R2 p2 => ⟨r2, F2, al2, y, r3, R2, q3, fun F3 al3 vy H3 x3 R3 p3 => ?_⟩⟩⟩
          obtain ⟨a, H4, rfl, g, x4, C4⟩ := dPutC_ok R3.c (x3.rep p2) p3 ((x2.trans x3).rep p1) q4
          exact ⟨a, H4, rfl, g, k F3 al3 σ H4 (((x1.trans x2).trans x3).trans x4) ⟨R3.s.ext x4, C4⟩⟩
        · cases e1
      · cases e1
    · cases e1
  · cases e1
/-! displays -/
def aPairs : List (M × M) → Rho → Option (List (W × W) × Rho)
  | [], r => some ([], r)
  | (mk, mv) :: ms, r => match mk r with
    | some (x, r1) => match mv r1 with
      | some (y, r2) => match aPairs ms r2 with
        | some (ps, r3) => some ((x, y) :: ps, r3)
        | none => none
      | none => none
    | none => none
def mergeW : List (W × W) → List Key → List W → Option (List Key × List W)
  | [], ks, ws => some (ks, ws)
  | (x, y) :: ps, ks, ws => match keyW x with
    | some k => if hasK ks k then mergeW ps ks (updK ks ws k y) else mergeW ps (ks ++ [k]) (ws ++ [y])
    | none => none
/-- a new dict: frozen at once, or a cell -/
def freshK (c : Bool) (ks : List Key) (ws : List W) (cl : List Cell) : R0 := if c then some (.cel cl.length, cl ++ [.dk ks ws]) else (datas ws).map fun xs => (.d (.dk ks xs), cl)
def eDisp (c : Bool) (ms : List (M × M)) : M := fun r => match aPairs ms r with
  | some (ps, r1) => if ps.length ≤ 15 then match mergeW ps [] [] with
      | some (ks, ws) => match freshK c ks ws r1.cl with
        | some (w, c1) => some (w, { r1 with cl := c1 })
        | none => none
      | none => none
    else none
  | none => none
def trsF (K : PySem.W.Frag) (ms : List (M × M)) : List (TE × TE) := ms.map fun p => (tF K p.1, tF K p.2)
/-- pairs of values -/
def RepP (K : PySem.W.Frag) (F : Hp) (al : List Addr) : List (W × W) → List (V × V) → Prop
  | [], ps => ps = []
  | (x, y) :: r, ps => ∃ v u ps', ps = (v, u) :: ps' ∧ Rep K F al x v ∧ Rep K F al y u ∧ RepP K F al r ps'
theorem aPairs_ok {K : PySem.W.Frag} : ∀ {ms : List (M × M)} {σ : L2.St} {H : Hp} {Q : List (V × V) → Hp → Prop} {r r' : Rho} {F : Hp} {al : List Addr} {ps : List (W × W)}, Rel K r F al σ H → aPairs ms r = some (ps, r') →
    (∀ F' al' vs H', Ext F al H F' al' H' → Rel K r' F' al' σ H' → RepP K F' al' ps vs → Q vs H') → tPairs (trsF K ms) σ H Q
  | [], σ, H, Q, r, r', F, al, ps, R, e, k => by
    have e : some ([], r) = some (ps, r') := e
    cases e
    exact k F al [] H (Ext.refl _ _ _) R rfl
  | (mk, mv) :: ms, σ, H, Q, r, r', F, al, ps, R, e, k => by
    unfold aPairs at e
    split at e
    · rename_i x r1 q1
      split at e
      · rename_i y r2 q2
        split at e
        · rename_i ps' r3 q3
          cases e
          refine ⟨r, F, al, x, r1, R, q1, fun F1 al1 vx H1 x1 R1 p1 => ⟨r1, F1, al1, y, r2, R1, q2, fun F2 al2 vy H2 x2 R2 p2 => ?_⟩⟩
          refine aPairs_ok R2 q3 fun F3 al3 vs H3 x3 R3 p3 => ?_
          exact k F3 al3 _ H3 ((x1.trans x2).trans x3) R3 ⟨_, _, _, rfl, (x2.trans x3).rep p1, x3.rep p2, p3⟩
        · cases e
      · cases e
    · cases e
theorem mergeW_ok {K : PySem.W.Frag} {F : Hp} {al : List Addr} : ∀ {ps : List (W × W)} {vs : List (V × V)} {kvs : List (Key × V)} {ws : List W} {ks' : List Key} {ws' : List W}, RepP K F al ps vs → Reps K F al ws (kvs.map (·.2)) → mergeW ps (kvs.map (·.1)) ws = some (ks', ws') →
    ∃ more : List (Key × V), vs = more.map (fun kv => (kV kv.1, kv.2)) ∧ more.length = ps.length ∧ (mergeK kvs more).map (·.1) = ks' ∧ Reps K F al ws' ((mergeK kvs more).map (·.2))
  | [], vs, kvs, ws, ks', ws', r, q, e => by
    have e : some (kvs.map (·.1), ws) = some (ks', ws') := e
    cases e
    exact ⟨[], r, rfl, rfl, q⟩
  | (x, y) :: ps, vs, kvs, ws, ks', ws', ⟨v, u, ps', ev, rx, ry, r⟩, q, e => by
    unfold mergeW at e
    split at e
    · rename_i k hk
      have ex : v = kV k := by
        cases x with
        | d z => exact keyD_ok rx hk
        | cel n => cases hk
        | tup ws => cases hk
      have eh := hasK_ok (k := k) kvs
      split at e
      · rename_i hh
        rw [hh] at eh
        have k1 : (putK kvs k u).map (·.1) = kvs.map (·.1) := by
          unfold putK
          rw [if_pos eh]
          exact map_keys kvs
        obtain ⟨more, m1, m2, m3, m4⟩ := mergeW_ok (kvs := putK kvs k u) (ws := updK (kvs.map (·.1)) ws k y) r (by
          unfold putK
          rw [if_pos eh]
          exact updK_ok ry q) (by rw [k1]; exact e)
        exact ⟨(k, u) :: more, by rw [ev, m1, ex]; rfl, by rw [List.length_cons, List.length_cons, m2], m3, m4⟩
      · rename_i hh
        rw [Bool.not_eq_true] at hh
        rw [hh] at eh
        have nn : ¬ (kvs.any fun kv => decide (kv.1 = k)) = true := by rw [eh]; exact Bool.false_ne_true
        have k1 : (putK kvs k u).map (·.1) = kvs.map (·.1) ++ [k] := by
          unfold putK
          rw [if_neg nn, List.map_append]
          rfl
        rw [← k1] at e
        obtain ⟨more, m1, m2, m3, m4⟩ := mergeW_ok (kvs := putK kvs k u) r (by
          unfold putK
          rw [if_neg nn, List.map_append]
          exact q.app (Reps.one ry)) e
        exact ⟨(k, u) :: more, by rw [ev, m1, ex]; rfl, by rw [List.length_cons, List.length_cons, m2], m3, m4⟩
    · cases e
/-- a new object that has been written since: as a cell, or frozen -/
theorem freshK_ok {K : PySem.W.Frag} {F H H2 F2 : Hp} {al al2 : List Addr} {cl2 cl3 : List Cell} {p : Addr} {u : HO} {c : Bool} {ks : List Key} {ws : List W} {kvs : List (Key × V)} {w : W} (hp : H p = none) (Cs : Cells K cl2 F2 al2 H2) (x : Ext F al H F2 al2 H2) (hu : H2 p = some u) (hF2 : F2 p = none) (hal2 : p ∉ al2)
    (hk : kvs.map (·.1) = ks) (q : Reps K F2 al2 ws (kvs.map (·.2))) (e : freshK c ks ws cl2 = some (w, cl3)) : ∃ F3 al3, Ext F al H F3 al3 (upd H2 p (.dK kvs)) ∧ Cells K cl3 F3 al3 (upd H2 p (.dK kvs)) ∧ Rep K F3 al3 w (.ref p) ∧ Same F2 F3 ∧ ∃ be, al3 = al2 ++ be := by
  have ne : ∀ a ∈ al2, a ≠ p := fun a ha z => hal2 (z ▸ ha)
  cases c with
  | false =>
    obtain ⟨xs, e1, e2⟩ := Option.map_eq_some_iff.mp (show (datas ws).map _ = _ from e)
    cases e2
    rw [datas_some e1] at q
    have s3 : Same F2 (upd F2 p (.dK kvs)) := fun b o h => by rw [upd_ne (ne_of_none h hF2)]; exact h
    have x3 : Ext F al H (upd F2 p (.dK kvs)) al2 (upd H2 p (.dK kvs)) := by
      refine ⟨x.f.trans s3, x.a, fun b o h hb => ?_, fun b o h => ?_, fun b h => ?_⟩
      · rw [upd_ne (ne_of_none h hp)]
        exact x.h b o h hb
      · by_cases z : b = p
        · exact .inr (.inl (z ▸ hp))
        · rw [upd_ne z] at h
          exact x.n b o h
      · by_cases z : b = p
        · rw [z, upd_same]
          exact fun q => nomatch q
        · rw [upd_ne z]
          exact x.t b h
    refine ⟨_, al2, x3, ⟨fun b o h => ?_, Cs.len, fun n a k h1 h2 => ?_, Cs.nd, fun a ha => ?_⟩, ⟨p, kvs, rfl, .inl upd_same, hk, Reps0.mono s3 q.to0⟩, s3, [], by simp⟩
    · by_cases z : b = p
      · rw [z, upd_same] at h
        rw [z, upd_same]
        exact h
      · rw [upd_ne z] at h
        rw [upd_ne z]
        exact Cs.fh b o h
    · have na := ne a (List.mem_of_getElem? h1)
      exact (Cs.ok n a k h1 h2).to s3 (upd_ne na) (fun z => by rw [upd_ne na]; exact z)
    · rw [upd_ne (ne a ha)]
      exact Cs.has a ha
  | true =>
    have e : some (W.cel cl2.length, cl2 ++ [Cell.dk ks ws]) = some (w, cl3) := e
    cases e
    obtain ⟨be, eb, hb⟩ := x.a
    have x3 : Ext F al H F2 (al2 ++ [p]) (upd H2 p (.dK kvs)) := by
      refine ⟨x.f, ⟨be ++ [p], by rw [eb, List.append_assoc], fun b hb' => ?_⟩, fun b o h hb => ?_, fun b o h => x.n b o h, fun b h => ?_⟩
      · rcases List.mem_append.mp hb' with z | z
        · exact hb b z
        · rw [List.mem_singleton.mp z]
          exact hp
      · rw [upd_ne (ne_of_none h hp)]
        exact x.h b o h hb
      · by_cases z : b = p
        · rw [z, upd_same]
          exact fun q => nomatch q
        · rw [upd_ne z]
          exact x.t b h
    refine ⟨F2, al2 ++ [p], x3, ⟨fun b o h => by rw [upd_ne (ne_of_none h hF2)]; exact Cs.fh b o h, by rw [List.length_append, List.length_append, Cs.len]; rfl, fun n a k h1 h2 => ?_, ?_, fun a ha => ?_⟩, ⟨p, rfl, ?_⟩, Same.refl _, [p], rfl⟩
    · by_cases z : n < al2.length
      · rw [List.getElem?_append_left z] at h1
        rw [List.getElem?_append_left (by rw [← Cs.len]; exact z)] at h2
        exact (Cs.ok n a k h1 h2).grow (upd_ne (ne a (List.mem_of_getElem? h1)))
      · have q1 := (List.getElem?_eq_some_iff.mp h1).1
        rw [List.length_append, List.length_singleton] at q1
        have e2 : n = al2.length := by omega
        subst e2
        rw [List.getElem?_append_right (Nat.le_refl _), Nat.sub_self] at h1
        rw [Cs.len, List.getElem?_append_right (Nat.le_refl _), Nat.sub_self] at h2
        have h1 : some p = some a := h1
        have h2 : some (Cell.dk ks ws) = some k := h2
        cases h1
        cases h2
        exact ⟨hF2, kvs, upd_same, hk, Reps.mono (Same.refl _) q⟩
    · rw [List.nodup_append]
      exact ⟨Cs.nd, by simp, fun a ha b hb e => by
        rw [List.mem_singleton] at hb
        rw [e, hb] at ha
        exact hal2 ha⟩
    · by_cases z : a = p
      · rw [z, upd_same]
        exact fun q => nomatch q
      · rw [upd_ne z]
        rcases List.mem_append.mp ha with y | y
        · exact Cs.has a y
        · exact absurd (List.mem_singleton.mp y) z
    · rw [← Cs.len, List.getElem?_append_right (Nat.le_refl _), Nat.sub_self]
      rfl
theorem pf_disp (c : Bool) {keys : List (Option Expr)} {values : List Expr} {ms : List (M × M)} (h : PPs X pos keys values (trsF X.K ms)) (hall : keys.all (·.isSome) = true := by rfl) (hl : keys.length = values.length := by rfl) (h0 : keys ≠ [] := by exact fun z => nomatch z)
    (h15 : keys.length ≤ 15 := by decide) : PE X (.Dict keys values pos) (tF X.K (eDisp c ms)) := PE.weak (pe_disp h hall hl h0 h15) fun σ H Q ⟨r, F, al, d, r', R, e1, k⟩ => by
  intro p hp
  obtain ⟨hF, hal⟩ := R.c.free hp
  obtain ⟨x0, C0⟩ := R.c.add (u := .dK []) hp
  unfold eDisp at e1
  split at e1
  · rename_i ps r1 q1
    split at e1
    · rename_i h15'
      split at e1
      · rename_i ks ws q2
        split at e1
        · rename_i w c1 q3
          cases e1
          refine aPairs_ok (r := r) (r' := r1) ⟨R.s.ext x0, C0⟩ q1 fun F2 al2 vs H2 x2 R2 p2 => ?_
          have hH2 : H2 p = some (.dK []) := x2.h p _ upd_same hal
          obtain ⟨be, eb, hb⟩ := x2.a
          have hal2 : p ∉ al2 := fun z => by
            rw [eb] at z
            rcases List.mem_append.mp z with y | y
            · exact hal y
            · have := hb p y
              rw [upd_same] at this
              cases this
          have hF2 : F2 p = none := by
            cases e : F2 p with
            | none => rfl
            | some o =>
              rcases x2.n p o e with y | y | y
              · rw [hF] at y
                cases y
              · rw [upd_same] at y
                cases y
              · exact absurd y hal
          obtain ⟨more, m1, m2, m3, m4⟩ := mergeW_ok (kvs := []) (ws := []) p2 rfl q2
          refine ⟨hH2, more, m1, by rw [m2]; exact h15', ?_⟩
          obtain ⟨F3, al3, x3, C3, p3, s3, be3, rfl⟩ := freshK_ok hp R2.c (x0.trans x2) hH2 hF2 hal2 m3 m4 q3
          refine k F3 _ (.ref p) _ x3 ⟨⟨R2.s.len, fun i d h => ?_⟩, C3⟩ p3
          obtain ⟨v, e1, e2⟩ := R2.s.ok i d h
          exact ⟨v, e1, Rep.mono s3 e2⟩
        · cases e1
      · cases e1
    · cases e1
  · cases e1
end
end FL

namespace FL
open PySem PySem.Spec L2

section
variable {X : Cx}
/-! ### in -/
def flD : D → Option V
  | .non => some .non
  | .bl b => some (.bl b)
  | .int i => some (.int i)
  | .str z => some (.str z)
  | _ => none
def flW : W → Option V
  | .d x => flD x
  | _ => none
def flA : List W → Option (List V)
  | [] => some []
  | w :: ws => match flW w, flA ws with
    | some v, some vs => some (v :: vs)
    | _, _ => none
theorem flD_ok {K : PySem.W.Frag} {F : Hp} {d : D} {v u : V} (r : Rep0 K F d v) (h : flD d = some u) : v = u ∧ flatV u = true := by
  unfold flD at h
  split at h <;> first
    | (cases h; exact ⟨r, rfl⟩)
    | cases h
theorem flW_ok {K : PySem.W.Frag} {F : Hp} {al : List Addr} {w : W} {v u : V} (r : Rep K F al w v) (h : flW w = some u) : v = u ∧ flatV u = true := by
  unfold flW at h
  split at h
  · exact flD_ok r h
  · cases h
theorem flA_ok {K : PySem.W.Frag} {F : Hp} {al : List Addr} : ∀ {ws : List W} {vs us : List V}, Reps K F al ws vs → flA ws = some us → vs = us ∧ us.all flatV = true
  | [], vs, us, r, h => by
    cases h
    exact ⟨r, rfl⟩
  | w :: ws, vs, us, ⟨v, vr, e1, r1, r2⟩, h => by
    unfold flA at h
    split at h
    · rename_i u us' h1 h2
      cases h
      obtain ⟨i1, i2⟩ := flW_ok r1 h1
      obtain ⟨i3, i4⟩ := flA_ok r2 h2
      refine ⟨by rw [e1, i1, i3], ?_⟩
      rw [List.all_cons, i2, i4]
      rfl
    · cases h
theorem op_in_dict (hu : X.A.units + 1 < cLine) : OpR X (compareOp .In) (fun y x H Q => ∃ a o, x = .ref a ∧ DGet H a y o ∧ Q (.bl o.isSome) H) := by
  intro pins s σ H y x v u Q I ry rx h
  obtain ⟨a, o, rfl, g, q⟩ := h
  cases rx
  exact d_in hu I g ry fun s' I' => ⟨.bl _, H, I', rfl, q⟩
theorem op_notIn_dict (hu : X.A.units + 1 < cLine) : OpR X (compareOp .NotIn) (fun y x H Q => ∃ a o, x = .ref a ∧ DGet H a y o ∧ Q (.bl (!o.isSome)) H) := by
  intro pins s σ H y x v u Q I ry rx h
  obtain ⟨a, o, rfl, g, q⟩ := h
  cases rx
  exact d_notIn hu I g ry fun s' I' => ⟨.bl _, H, I', rfl, q⟩
def sg (neg b : Bool) : Bool := if neg then !b else b
def dIn (neg : Bool) : Op2 := fun cl x y => match dGetW cl y x with
  | some o => some (.d (.bl (sg neg o.isSome)), cl)
  | none => match y with
    | .d (.str z) => match x with
      | .d (.str ⟨⟨[c]⟩⟩) => some (.d (.bl (sg neg (decide (c ∈ z.cps.toList)))), cl)
      | _ => none
    | y => match flW x, (seqW cl y).bind flA with
      | some v, some vs => some (.d (.bl (sg neg (inV v vs))), cl)
      | _, _ => inD neg cl x y
theorem dIn_v {K : PySem.W.Frag} {neg : Bool} {cl : List Cell} {F : Hp} {al : List Addr} {H : Hp} (C : Cells K cl F al H) {x y : W} {vx vy : V} (rx : Rep K F al x vx) (ry : Rep K F al y vy) {d : W} {cl' : List Cell} (e : dIn neg cl x y = some (d, cl')) : cl' = cl ∧ ∃ b, d = .d (.bl b) ∧
    ((∃ a o, vy = .ref a ∧ DGet H a vx o ∧ b = sg neg o.isSome) ∨ (∃ (c : Nat) (z : Str), vx = .str ⟨#[c]⟩ ∧ vy = .str z ∧ b = sg neg (decide (c ∈ z.cps.toList))) ∨
     (∃ p xs, vy = .ref p ∧ (SqL K H p xs ∨ SqT K H p xs) ∧ flatV vx = true ∧ xs.all flatV = true ∧ b = sg neg (inV vx xs)) ∨
     (∃ p ps, Dp K H vx p ∧ Dp K H vy (.list ps) ∧ SeqAt.shaped p = true ∧ SeqAt.shaped (.list ps) = true ∧ b = sg neg (ps.any fun z => PyData.eqv z p))) := by
  unfold dIn at e
  split at e
  · rename_i o ho
    cases e
    obtain ⟨a, ov, rfl, g, i1, i2⟩ := dGetW_ok C ry rx ho
    refine ⟨rfl, _, rfl, .inl ⟨a, ov, rfl, g, ?_⟩⟩
    cases o with
    | none =>
      rw [i2 rfl]
      rfl
    | some w =>
      obtain ⟨v, e, _⟩ := i1 w rfl
      rw [e]
      rfl
  · split at e
    · rename_i z _
      have ry : vy = .str z := ry
      split at e
      · rename_i c _
        cases e
        exact ⟨rfl, _, rfl, .inr (.inl ⟨c, z, rx, ry, rfl⟩)⟩
      · cases e
    · split at e
      · rename_i v vs h1 h2
        cases e
        obtain ⟨ws, h3, h4⟩ := Option.bind_eq_some_iff.mp h2
        obtain ⟨a, us, rfl, q1, q2⟩ := seqW_ok C ry h3
        obtain ⟨rfl, i2⟩ := flW_ok rx h1
        obtain ⟨rfl, i4⟩ := flA_ok q2 h4
        exact ⟨rfl, _, rfl, .inr (.inr (.inl ⟨a, _, rfl, q1, i2, i4, rfl⟩))⟩
      · unfold inD at e
        split at e
        · rename_i p ps h1 h2
          split at e
          · rename_i hs
            cases e
            exact ⟨rfl, _, rfl, .inr (.inr (.inr ⟨p, ps, pyW_ok C rx h1, pyW_ok C ry h2, hs.1, hs.2, rfl⟩))⟩
          · cases e
        · cases e
theorem inn_ok (hu : X.A.units + 65 < cLine) : OpR X (compareOp .In) (r2F X.K (dIn false)) := OpR.weak ((op_in_dict (by omega)).or (op_in_sign.or (op_in_seq.or (op_inD hu)))) fun vx vy H Q ⟨cl, F, al, x, y, C, rx, ry, k⟩ => by
  obtain ⟨d, cl', e, kk⟩ := k.some
  obtain ⟨rfl, b, rfl, h⟩ := dIn_v C rx ry e
  have q := kk F al (.bl b) H (Ext.refl _ _ _) C rfl
  rcases h with ⟨a, o, e1, g, rfl⟩ | ⟨c, z, e1, e2, rfl⟩ | ⟨p, xs, e1, e2, e3, e4, rfl⟩ | ⟨p, ps, e1, e2, e3, e4, rfl⟩
  · exact .inl ⟨a, o, e1, g, q⟩
  · exact .inr (.inl ⟨c, z, e1, e2, q⟩)
  · exact .inr (.inr (.inl ⟨p, xs, e1, e2, e3, e4, q⟩))
  · exact .inr (.inr (.inr ⟨p, ps, e1, e2, e3, e4, q⟩))
theorem notinn_ok (hu : X.A.units + 65 < cLine) : OpR X (compareOp .NotIn) (r2F X.K (dIn true)) := OpR.weak ((op_notIn_dict (by omega)).or (op_notIn_sign.or (op_notIn_seq.or (op_notInD hu)))) fun vx vy H Q ⟨cl, F, al, x, y, C, rx, ry, k⟩ => by
  obtain ⟨d, cl', e, kk⟩ := k.some
  obtain ⟨rfl, b, rfl, h⟩ := dIn_v C rx ry e
  have q := kk F al (.bl b) H (Ext.refl _ _ _) C rfl
  rcases h with ⟨a, o, e1, g, rfl⟩ | ⟨c, z, e1, e2, rfl⟩ | ⟨p, xs, e1, e2, e3, e4, rfl⟩ | ⟨p, ps, e1, e2, e3, e4, rfl⟩
  · exact .inl ⟨a, o, e1, g, q⟩
  · exact .inr (.inl ⟨c, z, e1, e2, q⟩)
  · exact .inr (.inr (.inl ⟨p, xs, e1, e2, e3, e4, q⟩))
  · exact .inr (.inr (.inr ⟨p, ps, e1, e2, e3, e4, q⟩))

/-! ### isinstance of an own class: an instance of it -/
def oIsiC (C : Addr) : OpN := fun cl ds => match ds with
  | [x, .d (.op (.ref C'))] => if C' = C then match insW C cl x with
      | some _ => some (.d (.bl true), cl)
      | none => none
    else none
  | _ => none
/-- what isinstance asks of a class -/
structure IsC (K : PySem.W.Frag) (C : Addr) : Prop where
  cl : Cls K C
  a : PySem.W.findIn K (.ref C) "__class__" = some (some (.builtin "object.__class__"))
  n : PySem.W.specialIn K (.builtin "object.__class__") "__get__" = some (some (.builtin "getset_descriptor.__get__"))
  t : PySem.W.takesIn K (.builtin "object.__class__") = some true
  m : PySem.W.mroIn K C (.type "object") = some true
theorem isiC_ok {C : Addr} (c : IsC X.K C) : CallR X (.builtin "isinstance") (rNF X.K (oIsiC C)) := CallR.weak call_isi fun vs H Q ⟨cl, F, al, ds, Cs, rs, k⟩ => by
  obtain ⟨d, cl', e, kk⟩ := k.some
  unfold oIsiC at e
  split at e
  · rename_i x C'
    obtain ⟨v, vr, rfl, r1, v2, vr2, rfl, r2, r0⟩ := rs
    have r0 : vr2 = [] := r0
    have r2 : v2 = .ref C' := r2
    subst r0 r2
    split at e
    · rename_i hC
      subst hC
      split at e
      · rename_i pr hi
        cases e
        obtain ⟨a, dx, fvs, rfl, h1, _, _⟩ := insW_ok (fs := pr.1) (ws := pr.2) Cs r1 hi
        refine ⟨.ref a, .ref C', .ref C', .ref C', true, rfl, .own C', .base (.ins h1 c.cl c.a c.n c.t c.m), ?_, kk F al _ H (Ext.refl _ _ _) Cs rfl⟩
        unfold PySem.W.kitOne
        rw [if_pos (by simp)]
      · cases e
    · cases e
  · cases e

/-! ### globals, what is never reached -/
theorem pf_glob {e : Expr} {v : V} {d : D} (h : PE X e (tC v)) (q : ∀ F, Rep0 X.K F d v) : PE X e (tF X.K (eC (.d d))) := pf_c h fun F _ => q F
def sNever : G := fun _ => none
theorem fs_never {st : Stmt} : PS X st (tFS X.K sNever) := PS.weak ps_never fun D σ H ⟨r, F, al, o, R, e, k⟩ => nomatch e

/-! ### all, any, sum, str -/
def bools : List W → Option (List Bool)
  | [] => some []
  | .d (.bl b) :: ws => (bools ws).map (b :: ·)
  | _ => none
def intsOf : List W → Option (List Int)
  | [] => some []
  | .d (.int i) :: ws => (intsOf ws).map (i :: ·)
  | _ => none
theorem bools_ok {K : PySem.W.Frag} {F : Hp} {al : List Addr} : ∀ {ws : List W} {vs : List V} {bs : List Bool}, Reps K F al ws vs → bools ws = some bs → vs = bs.map V.bl
  | [], vs, bs, r, h => by
    cases h
    exact r
  | w :: ws, vs, bs, ⟨v, vr, e1, r1, r2⟩, h => by
    unfold bools at h
    split at h
    · rename_i q
      cases q
    · rename_i b ws' q
      cases q
      obtain ⟨bs', h1, h2⟩ := Option.map_eq_some_iff.mp h
      subst h2
      have r1 : v = .bl b := r1
      rw [e1, r1, bools_ok r2 h1]
      rfl
    · cases h
theorem intsOf_ok {K : PySem.W.Frag} {F : Hp} {al : List Addr} : ∀ {ws : List W} {vs : List V} {bs : List Int}, Reps K F al ws vs → intsOf ws = some bs → vs = bs.map V.int
  | [], vs, bs, r, h => by
    cases h
    exact r
  | w :: ws, vs, bs, ⟨v, vr, e1, r1, r2⟩, h => by
    unfold intsOf at h
    split at h
    · rename_i q
      cases q
    · rename_i b ws' q
      cases q
      obtain ⟨bs', h1, h2⟩ := Option.map_eq_some_iff.mp h
      subst h2
      have r1 : v = .int b := r1
      rw [e1, r1, intsOf_ok r2 h1]
      rfl
    · cases h
def oBools (f : List Bool → Bool) : OpN := fun cl ds => match ds with
  | [x] => match (asList cl x).bind bools with
    | some bs => some (.d (.bl (f bs)), cl)
    | none => none
  | _ => none
def oAll : OpN := oBools fun bs => bs.all id
def oAny : OpN := oBools fun bs => bs.any id
theorem bools1_ok {f : Value} {g : List Bool → Bool} (h : CallR X f (fun vs H Q => ∃ (a : Addr) (bs : List Bool), vs = [V.ref a] ∧ SqL X.K H a (bs.map V.bl) ∧ Q (.bl (g bs)) H)) : CallR X f (rNF X.K (oBools g)) := CallR.weak h fun vs H Q ⟨cl, F, al, ds, C, rs, k⟩ => by
  obtain ⟨d, cl', e, kk⟩ := k.some
  unfold oBools at e
  split at e
  · rename_i x
    obtain ⟨v, vr, rfl, r1, r0⟩ := rs
    have r0 : vr = [] := r0
    subst r0
    split at e
    · rename_i bs hb
      cases e
      obtain ⟨ws, h1, h2⟩ := Option.bind_eq_some_iff.mp hb
      obtain ⟨a, us, rfl, q1, q2⟩ := asList_ok C r1 h1
      rw [bools_ok q2 h2] at q1
      exact ⟨a, bs, rfl, q1, kk F al _ H (Ext.refl _ _ _) C rfl⟩
    · cases e
  · cases e
theorem all_ok (hc : X.calm = true) : CallR X (.builtin "all") (rNF X.K oAll) := bools1_ok (cr_all hc)
theorem any_ok (hc : X.calm = true) : CallR X (.builtin "any") (rNF X.K oAny) := bools1_ok (cr_any hc)
def oSum : OpN := fun cl ds => match ds with
  | [x] => match (asList cl x).bind intsOf with
    | some bs => some (.d (.int bs.sum), cl)
    | none => none
  | _ => none
theorem sum_ok (hc : X.calm = true) : CallR X (.builtin "sum") (rNF X.K oSum) := CallR.weak (cr_sum hc) fun vs H Q ⟨cl, F, al, ds, C, rs, k⟩ => by
  obtain ⟨d, cl', e, kk⟩ := k.some
  unfold oSum at e
  split at e
  · rename_i x
    obtain ⟨v, vr, rfl, r1, r0⟩ := rs
    have r0 : vr = [] := r0
    subst r0
    split at e
    · rename_i bs hb
      cases e
      obtain ⟨ws, h1, h2⟩ := Option.bind_eq_some_iff.mp hb
      obtain ⟨a, us, rfl, q1, q2⟩ := asList_ok C r1 h1
      rw [intsOf_ok q2 h2] at q1
      exact ⟨a, bs, rfl, q1, kk F al _ H (Ext.refl _ _ _) C rfl⟩
    · cases e
  · cases e
def oStrI : OpN := fun cl ds => match ds with
  | [.d (.int i)] => if i.natAbs.log2 < 1920 then some (.d (.str (toString i)), cl) else none
  | _ => none
theorem strI_ok : CallR X (.type "str") (rNF X.K oStrI) := CallR.weak call_str_int fun vs H Q ⟨cl, F, al, ds, C, rs, k⟩ => by
  obtain ⟨d, cl', e, kk⟩ := k.some
  unfold oStrI at e
  split at e
  · rename_i i
    obtain ⟨v, vr, rfl, r1, r0⟩ := rs
    have r0 : vr = [] := r0
    have r1 : v = .int i := r1
    subst r0 r1
    split at e
    · cases e
      exact ⟨i, rfl, by assumption, kk F al _ H (Ext.refl _ _ _) C rfl⟩
    · cases e
  · cases e
end
end FL

namespace FL
open PySem PySem.Spec L2 PyProof.Rows

/-! ### for over a list or a tuple, whichever it is -/
def iSq (K : PySem.W.Frag) (tl : TE) : TI := fun σ H R => tl σ H fun x H1 => (∃ a, x = .ref a ∧ (∃ xs, SqL K H1 a xs) ∧ R (Itl K a) H1) ∨ ∃ a, x = .ref a ∧ (∃ xs, SqT K H1 a xs) ∧ R (Itt K a) H1
theorem pi_sq {X : Cx} {tg l : Expr} {tl : TE} (hl : PE X l tl) : PI X tg l (iSq X.K tl) := by
  refine ⟨fun pins s σ H R I h => thn (hl.run pins s σ H _ I h) fun v s1 hv => ?_⟩
  obtain ⟨x, H1, I1, r1, q1⟩ := hv
  have nw : FpOk X pins H1 s1.heap.objs.size := I1.fpOk (Nat.le_refl _) (I1.hok.fresh (Nat.le_refl _))
  have all1 : ∀ b ∈ [s1.heap.objs.size], FpOk X pins H1 b := fun b hb => by
    rw [List.mem_singleton.mp hb]
    exact nw
  rcases q1 with ⟨a, e, ⟨xs, hq⟩, q⟩ | ⟨a, e, ⟨xs, hq⟩, q⟩
  · subst e
    cases r1
    obtain ⟨its, rv, p, _⟩ := I1.list hq
    refine wpAny_pyIter_list p.isList ⟨_, _, _, _, H1, rfl, I1.kept (t' := s1.toks) fun b o e => Heap.get?_push_of_some _ e, turn_list a s1.heap.objs.size, ?_, all1, q⟩
    exact ⟨_, Heap.get?_push_size _ rfl, rfl, rfl⟩
  · subst e
    cases r1
    obtain ⟨its, rv, p, _⟩ := I1.tuple hq
    have p' : s1.heap.IsTuple a its.toArray := p
    refine wpAny_pyIter_tuple p' ⟨_, _, _, _, H1, rfl, I1.kept (t' := s1.toks) fun b o e => Heap.get?_push_of_some _ e, turn_tuple a s1.heap.objs.size, ?_, all1, q⟩
    exact ⟨_, Heap.get?_push_size _ rfl, rfl, rfl⟩
def iSeq (m : M) : MI := fun r => match m r with
  | some (w, r1) => match asTup w with
    | some ds => some ((ds, none), r1)
    | none => match itemsL r1.cl w with
      | some p => some (p, r1)
      | none => none
  | none => none
theorem fi_seq {X : Cx} {tg e : Expr} {m : M} (h : PE X e (tF X.K m)) : PI X tg e (iF X.K (iSeq m)) := PI.weak (pi_sq h) fun σ H R ⟨r, F, al, ds, ck, r', Rl, e1, k⟩ => by
  unfold iSeq at e1
  split at e1
  · rename_i w r1 q
    split at e1
    · rename_i xs et
      cases e1
      refine ⟨r, F, al, _, r', Rl, q, fun F1 al1 v H1 x1 R1 p1 => .inr ?_⟩
      obtain ⟨a, vs, rfl, q2, q3⟩ := asTup_ok p1 et
      exact ⟨a, rfl, ⟨vs, Same.seqT R1.c.fh q2⟩, k F1 al1 _ H1 x1 R1 (wk_tup q2 q3)⟩
    · split at e1
      · rename_i pr hp
        cases e1
        refine ⟨r, F, al, _, r', Rl, q, fun F1 al1 v H1 x1 R1 p1 => .inl ?_⟩
        obtain ⟨a, rfl, st, hck⟩ := items_ok R1.c p1 hp
        obtain ⟨vs, q2, _⟩ := st F1 al1 r'.cl H1 (Same.refl _) ⟨[], by simp⟩ R1.c hck
        exact ⟨a, rfl, ⟨vs, q2⟩, k F1 al1 _ H1 x1 R1 (wk_list st)⟩
      · cases e1
  · cases e1
theorem hu65 {k : Nat} {A : Around} (hr : Room k A) : A.units + 65 < cLine := by have := hr.un; omega
theorem hu1 {k : Nat} {A : Around} (hr : Room k A) : A.units + 1 < cLine := by have := hr.un; omega
end FL
/-! repr, and a law that is called by the outermost caller alone -/
namespace FL
open PySem PySem.Spec L2 PyProof.Rows
def oRepr : OpN := fun cl ds => match ds with
  | [x] => match pyW cl x with
    | some p => if isDisplay p = true ∧ PyData.showable p = true ∧ PyData.hasDict p = false ∧ p.depth ≤ 60 ∧ (PyData.shown p).length ≤ sizeLine then some (.d (.str (PyData.shown p)), cl) else none
    | none => none
  | _ => none
theorem repr_ok {X : Cx} (hg : X.A.guards = some []) (hu : X.A.units + 64 < cLine) : CallR X (.builtin "repr") (rNF X.K oRepr) := by
  intro pins s σ H xs us Q I r h
  obtain ⟨cl, F, al, ds, C, rs, k⟩ := h
  obtain ⟨d, cl', e, kk⟩ := k.some
  unfold oRepr at e
  split at e
  · rename_i x
    split at e
    · rename_i p hp
      split at e
      · rename_i hc
        cases e
        obtain ⟨h1, h2, h3, h4, h5⟩ := hc
        obtain ⟨v, vr, rfl, rv, r0⟩ := rs
        have r0 : vr = [] := r0
        subst r0
        have dp := pyW_ok C rv hp
        obtain ⟨u, rfl, rx⟩ := vals1 r
        obtain ⟨as, rd⟩ := Dp.reads I p v u dp rx
        obtain ⟨a, rfl⟩ := isRef_of_reads rd h1
        exact repr_of_reads' rd h2 (PyData.noDict_hsm h3) hg (by omega) (fun _ _ e => e) (fun h' t tk hk => ⟨.str _, H, I.kept hk, ⟨_, rfl⟩, kk F al _ H (Ext.refl _ _ _) C rfl⟩) h5
      · cases e
    · cases e
  · cases e
/-- a def that the outermost caller calls -/
structure FnG (P : Program) (w : World) (K : PySem.W.Frag) (mg : Str → Option Value) (base : Heap) (f : Addr) (fd : FuncData) (ps : List Str) (sp : Sp) : Prop where
  len : ∀ vs H Q E, sp vs H Q E → vs.length = ps.length
  run : ∀ (s : Shared) (H : Hp) (args : Args) (us : List Value) (vs : List V) (Q : VK) (E : XK), Env0 P w K mg base callerA [] s H → BindsTo s fd args (ps.zip us) → Vals vs us → sp vs H Q E →
    codeAny (model P w) callerA (.call (.ref f) args) (CR CX0 [] P w H s Q E) s
section
variable {P : Program} {w : World} {K : PySem.W.Frag} {mg : Str → Option Value} {base : Heap}
theorem fnG_of {x qual : Str} {st : Stmt} {f : Addr} {fd : FuncData} {N ps : List Str} {k : Nat} {g : G} (F : Fun K x qual st f fd) (S : FnScope N ps (defScope st)) (hk : Room (k + 1) callerA)
    (hb : ∀ (cdv : Value) (s : Shared) (H : Hp) (E : XK), Room k (callerA.deeper (envOfC qual (defScope st) s.heap.objs.size f cdv)) →
      PSs (cxOf CX0 P w K mg base N qual (defScope st) f cdv callerA [] s H E).nox (defBody st) (tFS K g)) : FnG P w K mg base f fd ps (spF K ps.length (runG N.length g)) := by
  obtain ⟨oc, od, kV, doc, pm, an, cdv, ct, osl, rfl, fl, ch⟩ := F.ex
  have hlen : ∀ (vs : List V) (H : Hp) (Q : VK) (E : XK), spF K ps.length (runG N.length g) vs H Q E → vs.length = ps.length := fun vs H Q E h => by
    obtain ⟨cl, Fz, al, ds, C, r, hl, _⟩ := h
    rw [r.length, hl]
  constructor
  · exact hlen
  intro s H args us vs Q E en bi rv hs
  have ln := hlen _ _ _ _ hs
  have up : ∀ b o, base.get? b = some o → s.heap.get? b = some o := fun b o e => (en.bs b o e).1
  have inS : K.In s.heap := en.mod.kin.keeps up
  refine codeAny_call_function hk.depth (inS _ _ fl) rfl S.co S.gen rfl (PySem.W.codeRec_of inS ch) (bi _ _ _ _ ?_)
  refine wpAny_newFunctionEnv_cells S.kind (fun y hy => (S.par y.1 (List.of_mem_zip (a := y.1) (b := y.2) hy).1).imp id fun q => ⟨q, PySem.W.cellsFrom_some _ _ _ (.inl q)⟩) fun env he s1 made => ?_
  subst he
  refine ⟨(en.mod.nolimit.keeps up).keeps made.toInCall.keep, codeAny_func ?_⟩
  obtain ⟨cl, Fz, al, ds, C, r, hl, pk⟩ := hs
  have body := (hb cdv s H E (hk.deeper _)).nox
  have begun := inv_start (CX := CX0) (E := E) S hk.hd en ln rv made
  have read : (tFS K g) { nx := fun _ H' => Q .non H', rt := Q } (start N vs) H := by
    unfold runG at pk
    split at pk
    · rename_i wv r1 e
      exact ⟨_, Fz, al, _, ⟨slots_start r, C⟩, e, fun F' al' v σ' H' x R q => fin_ok C pk x R.c q⟩
    · rename_i r1 e
      exact ⟨_, Fz, al, _, ⟨slots_start r, C⟩, e, fun F' al' σ' H' x R => fin_ok (w := .d .non) C pk x R.c rfl⟩
    · exact pk.elim
  refine wpAny_mono (body.run [] s1 (start N vs) H _ begun read) (fun out s2 z => ?_) fun _ _ z => z
  cases out with
  | next =>
    obtain ⟨σ2, H2, J, q⟩ := z
    exact ⟨.non, H2, J.os, J.bare, J.base, J.hok, rfl, q⟩
  | ret u =>
    obtain ⟨v, σ2, H2, J, ru, q⟩ := z
    exact ⟨v, H2, J.os, J.bare, J.base, J.hok, ru, q⟩
  | brk => exact z.elim fun _ z => z.elim fun _ z => z.2.elim
  | cont => exact z.elim fun _ z => z.elim fun _ z => z.2.elim
end
section
variable {P : Program} {w : World} {K : PySem.W.Frag} {mg mb : Str → Option Value} {fa a : Addr} {fd : FuncData} {x : Str} {sp : Sp} {s₁ : Shared}
/-- the call over what is known of the script -/
theorem callG_over {H : Hp} {us : List Value} (KX : K.In s₁.heap) (gN : s₁.heap.Ns mainGlobals mg) (bN : s₁.heap.Ns builtinsNs mb) (bV : ∀ x : Str, x ≠ "__name__" → mb x = bootBuiltins x) (nl : s₁.heap.NoLimit) (ng : s₁.gens = #[])
    (at1 : s₁.heap.get? a = some { cls := .type "list", data := .seq us.toArray }) (F : ∀ base : Heap, K.In base → base.Ns mainGlobals mg → FnG P w K mg base fa fd [x] sp) (bind1 : ∀ (s : Shared) (u : Value), BindsTo s fd ⟨[u], []⟩ [(x, u)])
    (only : Only H) (ok : HOk P w H s₁.heap) (just : ∀ b, H b ≠ none → b = a) (apart : H a ≠ none → K.lookup a = none) (yes : sp [.ref a] H (fun v _ => v = .bl true) fun _ _ _ => False) :
    codeAny (model P w) callerA (.call (.ref fa) ⟨[.ref a], []⟩) (fun r s' => r = .ok (.ret (.bool true)) ∧ OldK s₁.heap s'.heap ∧ s'.os = s₁.os ∧ AllBare s'.gens) s₁ := by
  have dictFree : ∀ (b : Addr) (o : Obj) (es : Array DictEntry) (n : Nat), s₁.heap.get? b = some o → o.data = .dict es n → H b = none := by
    intro b o es n hb hd
    by_cases hn : H b = none
    · exact hn
    · have := just b hn
      subst this
      rw [at1] at hb
      cases hb
      exact Data.noConfusion hd
  have lift : ∀ (b : Addr) (m : Str → Option Value), s₁.heap.Ns b m → (hidT s₁.heap H).Ns b m := by
    rintro b m ⟨o, es, n, h1, h2, h3⟩
    exact ⟨o, es, n, hidT_get h1 (dictFree b o es n h1 h2), h2, h3⟩
  have inB : K.In (hidT s₁.heap H) := by
    intro b o hl
    refine hidT_get (KX b o hl) ?_
    by_cases hn : H b = none
    · exact hn
    · have := just b hn
      subst this
      rw [apart hn] at hl
      cases hl
  obtain ⟨mc, l1, l2⟩ := nl
  have en : Env0 P w K mg (hidT s₁.heap H) callerA [] s₁ H := { frames := rfl, mod := ⟨inB, lift _ _ gN, ⟨mb, lift _ _ bN, bV⟩, mc, lift _ _ l1, l2⟩, bs := fun b o e => of_hidT e, bsz := Nat.le_of_eq (hidT_size _ _), funs := trivial, frf := fun b hb => absurd (show b ∈ ([] : List Addr) from hb) List.not_mem_nil, hok := ok, bare := .of_eq ng }
  have out := (F _ inB (lift _ _ gN)).run s₁ H ⟨[.ref a], []⟩ [.ref a] [.ref a] _ _ en (bind1 s₁ (.ref a)) (.cons rfl .nil) yes
  refine codeAny_mono out fun r s2 z => ?_
  match r, z with
  | .error e, z => exact z.elim
  | .ok .next, z => exact z.elim
  | .ok .brk, z => exact z.elim
  | .ok .cont, z => exact z.elim
  | .ok (.ret u), ⟨v, H2, hos, hbare, un, ok2, rv, hv⟩ =>
    have hv : v = .bl true := hv
    subst hv
    have ru : u = Value.bool true := rv
    subst ru
    refine ⟨rfl, OldK.of_keep fun b o e => ?_, hos, hbare⟩
    rcases only b with hn | ⟨ob, ys, hf⟩
    · exact un.keep b o e hn (fun z => absurd (show b ∈ ([] : List Addr) from z) List.not_mem_nil) (by simp)
    · have f2 := un.frzs b ob _ hf
      have g1 := (ok b _ hf).1
      have g2 := (ok2 b _ f2).1
      rw [e] at g1
      cases g1
      exact g2
/-- .. the script is one of the module's own lists, or is frozen -/
theorem callG {us : List Value} {ns : List Int} (KX : K.In s₁.heap) (gN : s₁.heap.Ns mainGlobals mg) (bN : s₁.heap.Ns builtinsNs mb) (bV : ∀ x : Str, x ≠ "__name__" → mb x = bootBuiltins x) (nl : s₁.heap.NoLimit) (ng : s₁.gens = #[])
    (at1 : s₁.heap.get? a = some { cls := .type "list", data := .seq us.toArray }) (are : IntsAre us ns) (fits : ns.length ≤ sizeLine) (F : ∀ base : Heap, K.In base → base.Ns mainGlobals mg → FnG P w K mg base fa fd [x] sp) (bind1 : ∀ (s : Shared) (u : Value), BindsTo s fd ⟨[u], []⟩ [(x, u)])
    (yes : ∀ H : Hp, Only H → SqL K H a (ns.map V.int) → sp [.ref a] H (fun v _ => v = .bl true) fun _ _ _ => False) :
    codeAny (model P w) callerA (.call (.ref fa) ⟨[.ref a], []⟩) (fun r s' => r = .ok (.ret (.bool true)) ∧ OldK s₁.heap s'.heap ∧ s'.os = s₁.os ∧ AllBare s'.gens) s₁ := by
  have vs := vals_ints are
  cases hk : K.lookup a with
  | some o =>
    have same := (KX a o hk).symm.trans at1
    cases same
    have e0 : Only fun _ => none := fun _ => .inl rfl
    refine callG_over (H := fun _ => none) KX gN bN bV nl ng at1 F bind1 e0 (fun b u z => nomatch z) (fun b z => absurd rfl z) (fun z => absurd rfl z) (yes _ e0 (.inr ⟨_, us.toArray, _, hk, rfl, rfl, rfl, ?_, by simpa using vs⟩))
    rw [List.size_toArray, are.length]
    exact fits
  | none =>
    let o1 : Obj := { cls := .type "list", data := .seq us.toArray }
    let H1 : Hp := fun b => if b = a then some (.frz o1 (.lst (ns.map V.int))) else none
    have at_a : H1 a = some (.frz o1 (.lst (ns.map V.int))) := if_pos rfl
    have off_a : ∀ b, b ≠ a → H1 b = none := fun b h => if_neg h
    have e1 : Only H1 := fun b => (Classical.em (b = a)).elim (fun h => .inr ⟨o1, ns.map V.int, h ▸ at_a⟩) fun h => .inl (off_a b h)
    refine callG_over (H := H1) KX gN bN bV nl ng at1 F bind1 e1 (fun b u z => ?_) (fun b z => Classical.byContradiction fun h => z (off_a b h)) (fun _ => hk) (yes _ e1 (.inl (.inr ⟨o1, at_a⟩)))
    rcases Classical.em (b = a) with h | h
    · subst h
      rw [at_a] at z
      cases z
      exact ⟨at1, by rw [List.length_map]; exact fits, us, _, vs, at1⟩
    · rw [off_a b h] at z
      cases z
end
theorem walk_ofG {l : PySem.W.OpenLaw} {n : Nat} {q : Program} {loose : List Str} {XP : (Str → Option Value) → Heap → Prop} {YP : World → Heap → Prop} {d : DefRec} {K : Params → PySem.W.Frag} {sp : World → Sp} {x : Str}
    (most1 : l.most = some n) (small : n ≤ sizeLine) (noD : d.params.defaults = []) (inK : ∀ (w : World) (h : Heap), YP w h → (K w.params).In h)
    (F : ∀ (w : World) (mg : Str → Option Value) (fa : Addr) (h : Heap), (K w.params).In h → h.Ns mainGlobals mg → mg d.name = some (.ref fa) → ∃ fd : FuncData, (∀ (s : Shared) (u : Value), BindsTo s fd ⟨[u], []⟩ [(x, u)]) ∧
      ∀ base : Heap, (K w.params).In base → base.Ns mainGlobals mg → FnG l.prog w (K w.params) mg base fa fd [x] (sp w))
    (yes : ∀ (w : World) (H : Hp) (a : Addr) (ns : List Int), ns.length ≤ n → (∀ z ∈ ns, Builtin.Int.intBits z ≤ 1048576) → Only H → SqL (K w.params) H a (ns.map V.int) → sp w [.ref a] H (fun v _ => v = .bl true) fun _ _ _ => False) :
    PySem.W.WalkO q loose XP YP l.row.toRowW d [] (fun f vs => PySem.call f vs) := by
  refine Att.attach_callB most1 noD fun w s₀ s₁ mg mb fa o pm cd doc a us ns G Y ho hd hcd found lst1 ints1 short bits bare => ?_
  obtain ⟨fd, bd, hF⟩ := F w mg fa _ (inK w _ Y) G.T.g found
  exact callG (inK w _ Y) G.T.g G.T.b G.T.builtins G.T.nolimit bare lst1 ints1 (Nat.le_trans short small) hF bd fun H o1 s1 => yes w H a ns short bits o1 s1
/-! a, b = x, y -/
def sPar (i j : Nat) (ms : MS) : G := fun r => match ms r with
  | some ([d, e], r1) => some (.nx { r1 with sl := (r1.sl.set i (some d)).set j (some e) })
  | _ => none
@[simp] theorem ev_sPar {i j : Nat} {ms : MS} {r : Rho} : sPar i j ms r = (ms r).bind fun p => match p.1 with | [d, e] => some (.nx { p.2 with sl := (p.2.sl.set i (some d)).set j (some e) }) | _ => none := by
  unfold sPar
  cases ms r with
  | none => rfl
  | some p =>
    obtain ⟨p1, p2⟩ := p
    simp only [Option.bind_some]
    split <;> simp_all
theorem fs_par {X : Cx} {i j : Nat} {x y : Str} {a b : Expr} {ms : MS} {px py pt pos : Pos} {kt k2 pt2} (hc : X.calm = true) (hN : X.N.Nodup) (hi : X.N[i]? = some x) (hj : X.N[j]? = some y) (hij : i ≠ j)
    (hx : X.env.scope.names.lookup x = some .local) (hy : X.env.scope.names.lookup y = some .local) (ha : PA X [a, b] (tFA X.K ms)) (hw : swappedStores [.Tuple [.Name x px, .Name y py] kt pt] (.Tuple [a, b] k2 pt2) X.env = pure (some [x, y]))
    (hs : swapsWithSole [.Tuple [.Name x px, .Name y py] kt pt] (.Tuple [a, b] k2 pt2) pos.line X.env = pure false := by rfl) :
    PS X (.Assign [.Tuple [.Name x px, .Name y py] kt pt] (.Tuple [a, b] k2 pt2) pos) (tFS X.K (sPar i j ms)) := PS.weak (ps_par hc hN hi hj hij hx hy ha hw hs) fun D σ H ⟨r, F, al, o, R, e1, k⟩ => by
  unfold sPar at e1
  split at e1
  · rename_i d e r1 q
    cases e1
    refine ⟨r, F, al, [d, e], r1, R, q, fun F1 al1 vs H1 x1 R1 p1 => ?_⟩
    obtain ⟨v, vr, rfl, p2, u, ur, rfl, p3, p4⟩ := p1
    have p4 : ur = [] := p4
    subst p4
    exact ⟨v, u, rfl, k F1 al1 _ H1 x1 ⟨(R1.s.set i p2).set j p3, R1.c⟩⟩
  · cases e1
/-! == of two texts -/
def eqS (neg : Bool) : Op2 := fun cl x y => match x, y with
  | .d (.str s), .d (.str t) => some (.d (.bl (sg neg (decide (s = t)))), cl)
  | _, _ => none
theorem eqS_w {K : PySem.W.Frag} {neg : Bool} {vx vy : V} {H : Hp} {Q : VK} (h : r2F K (eqS neg) vx vy H Q) : ∃ s t : Str, vx = .str s ∧ vy = .str t ∧ Q (.bl (sg neg (decide (s = t)))) H := by
  obtain ⟨cl, F, al, x, y, C, rx, ry, k⟩ := h
  obtain ⟨d, cl', e, kk⟩ := k.some
  unfold eqS at e
  split at e
  · rename_i s t
    cases e
    have rx : vx = .str s := rx
    have ry : vy = .str t := ry
    exact ⟨s, t, rx, ry, kk F al _ H (Ext.refl _ _ _) C rfl⟩
  · cases e
theorem dec_strs {s t : Str} : decide (V.str s = V.str t) = decide (s = t) := by
  by_cases h : s = t <;> simp [h]
theorem eqS_ok {X : Cx} : OpR X (compareOp .Eq) (r2F X.K (eqS false)) := OpR.weak op_eq fun vx vy H Q h => by
  obtain ⟨s, t, rfl, rfl, q⟩ := eqS_w h
  refine ⟨rfl, ?_⟩
  rw [dec_strs]
  exact q
theorem neS_ok {X : Cx} : OpR X (compareOp .NotEq) (r2F X.K (eqS true)) := OpR.weak op_ne fun vx vy H Q h => by
  obtain ⟨s, t, rfl, rfl, q⟩ := eqS_w h
  refine ⟨rfl, ?_⟩
  rw [dec_strs]
  exact q
end FL
/-! xs[::-1], f'..', x in a text -/
namespace FL
open PySem PySem.Spec L2
def dRev (c : Bool) : Op1 := fun cl x => match asList cl x with
  | some ws => fresh c ws.reverse cl
  | none => none
/-- a part of f'..' -/
def eFmt (m : M) : M := fun r => match m r with
  | some (.d (.str y), r1) => if y.length ≤ sizeLine then some (.d (.str y), r1) else none
  | some (.d (.int i), r1) => if i.natAbs.log2 < 1920 then some (.d (.str (toString i : String)), r1) else none
  | _ => none
theorem pf_fmt {X : Cx} {e : Expr} {m : M} {pos : Pos} (h : PE X e (tF X.K m)) : PE X (.FormattedValue e (-1) none pos) (tF X.K (eFmt m)) := PE.weak (pe_fmt h) fun σ H Q ⟨r, F, al, d, r', R, e1, k⟩ => by
  unfold eFmt at e1
  split at e1
  · rename_i y r1 q
    split at e1
    · rename_i hz
      cases e1
      exact ⟨r, F, al, _, _, R, q, fun F1 al1 v H1 x1 R1 p1 => by
        have p1 : v = .str y := p1
        exact .inl ⟨y, p1, hz, k F1 al1 _ H1 x1 R1 rfl⟩⟩
    · cases e1
  · rename_i i r1 q
    split at e1
    · rename_i hz
      cases e1
      exact ⟨r, F, al, _, _, R, q, fun F1 al1 v H1 x1 R1 p1 => by
        have p1 : v = .int i := p1
        exact .inr ⟨i, p1, hz, k F1 al1 _ H1 x1 R1 rfl⟩⟩
    · cases e1
  · cases e1
theorem pf_rev (c : Bool) {X : Cx} {e : Expr} {m : M} {kk : Nat} {p1 p2 p3 pos : Pos} (h : PE X e (tF X.K m)) : PE X (.Subscript e (.Slice none none (some (.UnaryOp .USub (.Constant (.int 1) kk p1) p2)) p3) pos) (tF X.K (eUn (dRev c) m)) :=
  PE.weak (pe_revL h) fun σ H Q ⟨rho, F, al, d, r', R, e1, k⟩ => by
    obtain ⟨x, r1, q1, q3⟩ := eUn_some e1
    obtain ⟨c1, q4, rfl⟩ := lift1_some q3
    refine ⟨rho, F, al, x, r1, R, q1, fun F1 al1 vx H1 x1 R1 pp => ?_⟩
    have post : PostV X.K F1 al1 H1 Q (some (d, c1)) := post_of R1.s fun F' al' v H' x3 R3 p3 => k F' al' v H' (x1.trans x3) R3 p3
    rw [← q4] at post
    unfold dRev at post q4
    split at q4
    · rename_i ws ew
      rw [ew] at post
      obtain ⟨a, vs, rfl, h1, h2⟩ := asList_ok R1.c pp ew
      refine ⟨a, vs, rfl, h1, fun p hp => ?_⟩
      exact fresh_ok post R1.c h2.rev hp
    · cases q4
/-- a text in a text -/
def inT (neg : Bool) : Op2 := fun cl x y => match x, y with
  | .d (.str s), .d (.str t) => some (.d (.bl (sg neg (!(Builtin.Str.occurrences t s 0 t.length 1).isEmpty))), cl)
  | _, _ => none
theorem inT_ok {X : Cx} : OpR X (compareOp .In) (r2F X.K (inT false)) := OpR.weak op_in_str fun vx vy H Q h => by
  obtain ⟨cl, F, al, x, y, C, rx, ry, k⟩ := h
  obtain ⟨d, cl', e, kk⟩ := k.some
  unfold inT at e
  split at e
  · rename_i s t
    cases e
    have rx : vx = .str s := rx
    have ry : vy = .str t := ry
    exact ⟨s, t, rx, ry, kk F al _ H (Ext.refl _ _ _) C rfl⟩
  · cases e
/-! f'..' -/
def eJoinA : List M → Str → Rho → Option (Str × Rho)
  | [], acc, r => some (acc, r)
  | m :: ms, acc, r => match m r with
    | some (.d (.str y), r1) => if (acc ++ y).length ≤ sizeLine then eJoinA ms (acc ++ y) r1 else none
    | _ => none
def eJoin (ms : List M) : M := fun r => (eJoinA ms Str.empty r).map fun p => (.d (.str p.1), p.2)
theorem w_join {K : PySem.W.Frag} : ∀ (ms : List M) (acc : Str) (σ : L2.St) (H : Hp) (Q : Str → Hp → Prop), (∃ r F al out r', Rel K r F al σ H ∧ eJoinA ms acc r = some (out, r') ∧ ∀ F1 al1 H1, Ext F al H F1 al1 H1 → Rel K r' F1 al1 σ H1 → Q out H1) → tJs (ms.map (tF K)) acc σ H Q
  | [], acc, σ, H, Q, ⟨r, F, al, out, r', R, e, k⟩ => by
    cases e
    exact k F al H (Ext.refl _ _ _) R
  | m :: ms, acc, σ, H, Q, ⟨r, F, al, out, r', R, e, k⟩ => by
    unfold eJoinA at e
    split at e
    · rename_i y r1 q
      split at e
      · rename_i hz
        exact ⟨r, F, al, _, _, R, q, fun F1 al1 v H1 x1 R1 p1 => by
          have p1 : v = .str y := p1
          exact ⟨y, p1, hz, w_join ms (acc ++ y) σ H1 Q ⟨r1, F1, al1, out, r', R1, e, fun F2 al2 H2 x2 R2 => k F2 al2 H2 (x1.trans x2) R2⟩⟩⟩
      · cases e
    · cases e
theorem pj_nil {X : Cx} : PJ X [] (([] : List M).map (tF X.K)) := .nil
theorem pj_cons {X : Cx} {e : Expr} {m : M} {es : List Expr} {ms : List M} (h : PE X e (tF X.K m)) (r : PJ X es (ms.map (tF X.K))) : PJ X (e :: es) ((m :: ms).map (tF X.K)) := .cons h r
theorem pf_join {X : Cx} {v1 v2 : Expr} {rest : List Expr} {ms : List M} {pos : Pos} (h : PJ X (v1 :: v2 :: rest) (ms.map (tF X.K))) : PE X (.JoinedStr (v1 :: v2 :: rest) pos) (tF X.K (eJoin ms)) := PE.weak (pe_joined h) fun σ H Q ⟨r, F, al, d, r', R, e, k⟩ => by
  unfold eJoin at e
  obtain ⟨p, e1, e2⟩ := Option.map_eq_some_iff.mp e
  cases e2
  exact w_join ms Str.empty σ H _ ⟨r, F, al, p.1, p.2, R, e1, fun F1 al1 H1 x1 R1 => k F1 al1 _ H1 x1 R1 rfl⟩
end FL
/-! own != by own == -/
namespace FL
open PySem PySem.Spec L2 PySem.W
section
variable {prog : Program} {w : World} {A : Around} {E : Value → Shared → Prop} {s : Shared} {K : PySem.W.Frag} {x C f : Addr} {ox : Obj} {od : Option Obj} {b tb : Value}
theorem objNe_K (X : K.In s.heap) (I : InstAt s.heap x ox C od) (hs : findIn K (.ref C) "__eq__" = some (some (.ref f))) (hf : isFn K (.ref f) = true) (hu : A.units < cLine) {Q : Fin → Shared → Prop}
    (own : wpAny (model prog w) A (call (.ref f) [.ref x, b]) (fun v s' => ∃ k, v = .bool k ∧ Q (.done (.ret (.bool (!k)))) s') E s) : wpAny (model prog w) A (Builtin.«object.__ne__» ⟨[.ref x, b], []⟩) Q E s := by
  unfold Builtin.«object.__ne__»
  have one : wpAny (model prog w) A (callSpecialIfBound? (.ref x) (Str.ofString "__eq__") [b]) (fun r s' => ∃ k, r = some (.bool k) ∧ Q (.done (.ret (.bool (!k)))) s') E s := ifBound_K X I hs hf (wpAny_mono own (fun v s' z => by
    obtain ⟨k, rfl, q⟩ := z
    exact ⟨k, rfl, q⟩) fun _ _ e => e)
  repeat (first
    | with_reducible refine wpAny_cRoomFor hu ?_
    | (refine wpAny_bind (m := callSpecialIfBound? (.ref x) (Str.ofString "__eq__") [b]) (wpAny_mono one (fun r s' z => ?_) fun _ _ e => e); obtain ⟨k, rfl, q⟩ := z)
    | exact q
    | exact wpAny_pure q
    | exact wpAny_truthy_bool q
    | (refine wpAny_bind (m := truthy (.bool _)) (wpAny_truthy_bool ?_))
    | wp_step)
theorem neSlot : Slot "object" "__ne__" "object.__ne__" := PySem.F.cmp_object.ne
/-- object.__ne__ is called on an instance -/
theorem callNe_K (X : K.In s.heap) (I : InstAt s.heap x ox C od) (hp : plainOver K C = true) (hs : findIn K (.ref C) "__eq__" = some (some (.ref f))) (hf : isFn K (.ref f) = true) (hu : A.units + 1 < cLine) {Q : Value → Shared → Prop}
    (own : wpAny (model prog w) A.in1 (call (.ref f) [.ref x, b]) (fun v s' => ∃ k, v = .bool k ∧ Q (.bool (!k)) s') E s) : wpAny (model prog w) A (call (.builtin "object.__ne__") [.ref x, b]) Q E s := by
  obtain ⟨cd, hc, ho⟩ := any_some hp
  have ne : cd.mro.isEmpty = false := by cases q : cd.mro with | nil => rw [q] at ho; cases ho | cons _ _ => rfl
  have sub : Looks (model prog w) s.heap (isInstance (.ref x) (.type "object")) true := I.type.andThen (looks_mroIn X (by unfold mroIn; rw [hc, Option.bind_some, if_neg (by rw [ne]; decide), only_has ho]))
  refine wpAny_call (codeAny_call_builtin neSlot.plain PySem.F.cmpEntry_ne (check_slot PySem.F.cmpKind_ne PySem.F.cmpSplit_ne sub (PySem.F.cmpArgs_ne _ _) ?_))
  refine objNe_K X I hs hf (by show A.units + 1 < cLine; exact hu) (wpAny_mono own (fun v s' z => ?_) fun _ _ e => e)
  obtain ⟨k, rfl, q⟩ := z
  exact ⟨k, rfl, q⟩
theorem bindNe (self : Value) : bindSpecial (.builtin "object.__ne__") self = pure (.builtin "object.__ne__", [self]) := neSlot.bind self
theorem ifBoundNe_K {M : Model} {args : List Value} {Q : Option Value → Shared → Prop} (X : K.In s.heap) (I : InstAt s.heap x ox C od) (hs : findIn K (.ref C) "__ne__" = some (some (.builtin "object.__ne__")))
    (h : wpAny M A (call (.builtin "object.__ne__") (.ref x :: args)) (fun v => Q (some v)) E s) : wpAny M A (callSpecialIfBound? (.ref x) "__ne__" args) Q E s := by
  simp only [callSpecialIfBound?, bindSpecialIfBound?]
  refine wpAny_holding (wpAny_bind (wpAny_bind (wpAny_bind (I.type.here ((looks_findIn X hs).here ?_)))))
  refine wpAny_bind (wpAny_askSetting (wpAny_ite ?_))
  have last : wpAny M A (call (.builtin "object.__ne__") ([.ref x] ++ args) >>= fun v => pure (some v)) Q E s := wpAny_bind (wpAny_mono h (fun v s' z => wpAny_pure z) fun _ _ e => e)
  split
  · rw [bindNe]
    exact wpAny_bind (wpAny_pure (wpAny_pure last))
  · rw [bindNe]
    exact wpAny_tryCatch (wpAny_bind (wpAny_pure (wpAny_pure last)))
theorem cmpNe_K (hu : A.units + 1 < cLine) (X : K.In s.heap) (I : InstAt s.heap x ox C od) (hp : plainOver K C = true) (hb : Looks (model prog w) s.heap (typeOf b) tb) (hn : notFirst K C tb = true) (hne : findIn K (.ref C) "__ne__" = some (some (.builtin "object.__ne__")))
    (hs : findIn K (.ref C) "__eq__" = some (some (.ref f))) (hf : isFn K (.ref f) = true) {Q : Value → Shared → Prop} (own : wpAny (model prog w) A.in1 (call (.ref f) [.ref x, b]) (fun v s' => ∃ k, v = .bool k ∧ Q (.bool (!k)) s') E s) :
    wpAny (model prog w) A (richCompare .NotEq (.ref x) b) Q E s := by
  have tried : wpAny (model prog w) A (tryCompare (.ref x) "__ne__" b) (fun r s' => ∃ k, r = some (.bool k) ∧ Q (.bool k) s') E s := by
    unfold tryCompare
    refine wpAny_bind (ifBoundNe_K X I hne (callNe_K X I hp hs hf hu (wpAny_mono own (fun v s' z => ?_) fun _ _ e => e)))
    obtain ⟨k, rfl, q⟩ := z
    exact ⟨k, rfl, wpAny_pure ⟨_, rfl, q⟩⟩
  unfold richCompare
  simp only [oneThing_ref]
  refine wpAny_holding (wpAny_bind (wpAny_cRoomFor (by omega) ?_))
  rw [cmpInfo_NotEq]
  dsimp only
  refine wpAny_bind (I.type.here (wpAny_bind (hb.here ?_)))
  have past : ∀ M' : Option Value → Sem Value, (∀ k s', Q (.bool k) s' → wpAny (model prog w) A (M' (some (.bool k))) Q E s') → wpAny (model prog w) A (tryCompare (.ref x) "__ne__" b >>= M') Q E s := fun M' h => wpAny_bind (wpAny_mono tried (fun r s' z => by
    obtain ⟨k, rfl, q⟩ := z
    exact h k s' q) fun _ _ e => e)
  split
  · rename_i diff
    have apart : subIn K tb (.ref C) = some false := by
      rcases Bool.or_eq_true_iff.mp hn with e | e
      · rw [beq_iff_eq.mp e] at diff
        simp at diff
      · exact beq_iff_eq.mp e
    refine wpAny_bind ((looks_subIn X apart).here ?_)
    simp only [Bool.false_eq_true, if_false]
    exact past _ fun k s' q => wpAny_pure q
  · refine wpAny_bind (wpAny_pure ?_)
    simp only [Bool.false_eq_true, if_false]
    exact past _ fun k s' q => wpAny_pure q
end
section
variable {X : Cx} {C fa : Addr} {fd : FuncData} {ps : List Str} {k : Nat} {g : OpN}
/-- x != y, both of the own class -/
def dNeI (C : Addr) (c : Bool) (g : OpN) : Op2 := fun cl x y => match insW C cl x, insW C cl y with
  | some _, some _ => match callC c g cl [x, y] with
    | some (.d (.bl b), cl') => some (.d (.bl (!b)), cl')
    | _ => none
  | _, _ => none
theorem neI_ok (c : Bool) (hp : PySem.W.plainOver X.K C = true) (hne : PySem.W.findIn X.K (.ref C) "__ne__" = some (some (.builtin "object.__ne__"))) (hs : PySem.W.findIn X.K (.ref C) "__eq__" = some (some (.ref fa))) (hf : PySem.W.isFn X.K (.ref fa) = true) (F : FnOk X.prog X.w X.K X.mg X.base CX0 k fa fd ps (spF X.K 2 g)) (hr : Room (k + 1) X.A) (hb : Binds X.K fd ps []) :
    OpR X (compareOp .NotEq) (r2F X.K (dNeI C c g)) := by
  intro pins s σ H vx vy v u Q I rvx rvy h
  obtain ⟨cl, Fz, al, x0, y0, Cs, rx, ry, kk⟩ := h
  obtain ⟨d, cl', e, k2⟩ := kk.some
  unfold dNeI at e
  split at e
  · rename_i px py hi hj
    obtain ⟨a, dx, fvs, rfl, h1, h2, h3⟩ := insW_ok (fs := px.1) (ws := px.2) Cs rx hi
    obtain ⟨b, dy, gvs, rfl, h4, h5, h6⟩ := insW_ok (fs := py.1) (ws := py.2) Cs ry hj
    cases rvx
    cases rvy
    split at e
    · rename_i bb c0 hcall
      cases e
      obtain ⟨mA, J, _⟩ := ins_get I.hok h1
      obtain ⟨mB, J', _⟩ := ins_get I.hok h4
      obtain ⟨od, J, _⟩ := J.look
      obtain ⟨od', J', _⟩ := J'.look
      have hr' := hr.in1
      show wpAny (model X.prog X.w) X.A (richCompare .NotEq (.ref a) (.ref b)) (EP X pins σ Q) X.xe s
      refine cmpNe_K (tb := .ref C) (by have := hr.un; omega) I.kIn J hp J'.type (by simp [PySem.W.notFirst]) hne hs hf ?_
      have hsp : spF X.K 2 g [.ref a, .ref b] H (fun v H' => v = .bl bb ∧ Q (.bl (!bb)) H') E0 := w_spC c rfl ⟨cl, Fz, al, [x0, y0], Cs, ⟨_, _, rfl, rx, _, _, rfl, ry, rfl⟩, by
        rw [hcall]
        intro F' al' v H' x3 C3 p3
        have p3 : v = .bl bb := p3
        subst p3
        exact ⟨rfl, k2 F' al' _ H' x3 C3 rfl⟩⟩
      have hl := F.len _ _ _ _ hsp
      refine wpAny_call (codeAny_mono (F.run X.A.in1 X.stack s H ⟨[.ref a, .ref b], []⟩ [.ref a, .ref b] [.ref a, .ref b] _ E0 hr' I.env0.in1 (by
        have := hb s [.ref a, .ref b] I.kIn (by simpa using hl)
        simpa using this) (.cons rfl (.cons rfl .nil)) hsp) fun r s' hq => ?_)
      cases r with
      | error e => exact (show False from hq).elim
      | ok fl =>
        cases fl with
        | ret w =>
          obtain ⟨z, H', I', rz, ez, q⟩ := I.after hq
          subst ez
          cases rz
          exact ⟨bb, rfl, .bl (!bb), H', I', rfl, q⟩
        | next => exact False.elim hq
        | brk => exact False.elim hq
        | cont => exact False.elim hq
    · cases e
  · cases e
end
end FL
/-! isinstance and == where the other one is no instance -/
namespace FL
open PySem PySem.Spec L2
def tyX (cl : List Cell) (x : W) : Option String := match tyW cl x with
  | some t => some t
  | none => match asTupP x with
    | some _ => some "tuple"
    | none => none
theorem tyX_ok {K : PySem.W.Frag} {cl : List Cell} {F : Hp} {al : List Addr} {H : Hp} (C : Cells K cl F al H) {x : W} {v : V} (r : Rep K F al x v) {t : String} (h : tyX cl x = some t) : TyX K H v (.type t) := by
  unfold tyX at h
  split at h
  · rename_i t' e
    cases h
    exact tyW_ok C r e
  · split at h
    · rename_i ws e
      cases h
      unfold asTupP at e
      split at e
      · cases e
        obtain ⟨a, vs, rfl, h1, _⟩ := r
        exact .base (.tup (C.fh _ _ h1))
      · cases e
        obtain ⟨a, vs, rfl, h1, _⟩ := r
        exact .base (.tup (C.fh _ _ h1))
      · cases e
    · cases h
def kinds : List String := ["NoneType", "bool", "int", "str", "list", "dict", "tuple"]
theorem tyX_in {cl : List Cell} {x : W} {t : String} (h : tyX cl x = some t) : t ∈ kinds := by
  unfold tyX at h
  split at h
  · rename_i t' e
    cases h
    unfold tyW at e
    split at e <;> first | (cases e; decide) | (split at e <;> first | (cases e; decide) | cases e) | cases e
  · split at h
    · cases h
      decide
    · cases h
/-- no value of these kinds is an instance of C, nor goes ahead of it in a comparison -/
structure NotC (K : PySem.W.Frag) (C : Addr) : Prop where
  kit : ∀ t ∈ kinds, PySem.W.kitOne K (.type t) (.ref C) = some false
  nf : ∀ t ∈ kinds, PySem.W.notFirst K C (.type t) = true
def oIsiO (C : Addr) : OpN := fun cl ds => match ds with
  | [x, .d (.op (.ref C'))] => if C' = C then match tyX cl x with
      | some _ => some (.d (.bl false), cl)
      | none => oIsiC C cl ds
    else none
  | _ => none
theorem isiO_ok {X : Cx} {C : Addr} (c : IsC X.K C) (n : NotC X.K C) : CallR X (.builtin "isinstance") (rNF X.K (oIsiO C)) := by
  intro pins s σ H xs us Q I r h
  have h0 := h
  obtain ⟨cl, F, al, ds, Cs, rs, k⟩ := h
  obtain ⟨d, cl', e, kk⟩ := k.some
  unfold oIsiO at e
  split at e
  · rename_i x C'
    split at e
    · rename_i hC
      subst hC
      split at e
      · rename_i t ht
        cases e
        refine call_isi pins s σ H xs us Q I r ?_
        obtain ⟨v, vr, rfl, r1, v2, vr2, rfl, r2, r0⟩ := rs
        have r0 : vr2 = [] := r0
        have r2 : v2 = .ref C' := r2
        subst r0 r2
        exact ⟨v, .ref C', .type t, .ref C', false, rfl, .own C', tyX_ok Cs r1 ht, n.kit t (tyX_in ht), kk F al _ H (Ext.refl _ _ _) Cs rfl⟩
      · exact isiC_ok c pins s σ H xs us Q I r ⟨cl, F, al, _, Cs, rs, by rw [e]; exact kk⟩
    · cases e
  · cases e
section
variable {X : Cx} {C fa : Addr} {fd : FuncData} {ps : List Str} {k : Nat} {g : OpN}
/-- the right one: an instance too, or of the kinds above -/
def sideW (C : Addr) (cl : List Cell) (y : W) : Bool := (insW C cl y).isSome || (tyX cl y).isSome
def dEqO (neg : Bool) (C : Addr) (c : Bool) (g : OpN) : Op2 := fun cl x y => match insW C cl x with
  | some _ => if sideW C cl y then match callC c g cl [x, y] with
      | some (.d (.bl b), cl') => some (.d (.bl (if neg then !b else b)), cl')
      | _ => none
    else none
  | none => none
theorem side_ok {pins : List (Addr × Obj)} {s : Shared} {σ : L2.St} {H : Hp} (n : NotC X.K C) (I : Inv X pins σ H s) {cl : List Cell} {F : Hp} {al : List Addr} (Cs : Cells X.K cl F al H) {y : W} {vy : V} {u : Value} (ry : Rep X.K F al y vy) (rv : RelV vy u) (h : sideW C cl y = true) :
    ∃ tb, PySem.W.Looks (model X.prog X.w) s.heap (typeOf u) tb ∧ PySem.W.notFirst X.K C tb = true := by
  unfold sideW at h
  cases hy : insW C cl y with
  | some p =>
    obtain ⟨b, dy, gvs, rfl, h4, _, _⟩ := insW_ok (fs := p.1) (ws := p.2) Cs ry hy
    cases rv
    obtain ⟨_, J', _⟩ := ins_get I.hok h4
    obtain ⟨_, J', _⟩ := J'.look
    exact ⟨.ref C, J'.type, by simp [PySem.W.notFirst]⟩
  | none =>
    rw [hy] at h
    obtain ⟨t, ht⟩ := Option.isSome_iff_exists.mp (by simpa using h)
    obtain ⟨P, Z, p, _⟩ := kit_of I rv (tyX_ok Cs ry ht)
    exact ⟨.type t, Z.ty _ _ I.kIn p, n.nf t (tyX_in ht)⟩
theorem eqO_ok (c : Bool) (n : NotC X.K C) (hs : PySem.W.findIn X.K (.ref C) "__eq__" = some (some (.ref fa))) (hf : PySem.W.isFn X.K (.ref fa) = true) (F : FnOk X.prog X.w X.K X.mg X.base CX0 k fa fd ps (spF X.K 2 g)) (hr : Room k X.A) (hb : Binds X.K fd ps []) :
    OpR X (compareOp .Eq) (r2F X.K (dEqO false C c g)) := by
  intro pins s σ H vx vy v u Q I rvx rvy h
  obtain ⟨cl, Fz, al, x0, y0, Cs, rx, ry, kk⟩ := h
  obtain ⟨d, cl', e, k2⟩ := kk.some
  unfold dEqO at e
  split at e
  · rename_i px hi
    split at e
    · rename_i sd
      split at e
      · rename_i bb c0 hcall
        cases e
        obtain ⟨a, dx, fvs, rfl, h1, h2, h3⟩ := insW_ok (fs := px.1) (ws := px.2) Cs rx hi
        obtain ⟨tb, lt, nf⟩ := side_ok n I Cs ry rvy sd
        cases rvx
        obtain ⟨mA, J, _⟩ := ins_get I.hok h1
        obtain ⟨od, J, _⟩ := J.look
        obtain ⟨mf, hF⟩ := I.fr
        show wpAny (model X.prog X.w) X.A (richCompare .Eq (.ref a) u) (EP X pins σ Q) X.xe s
        refine PySem.W.cmp_K (op := .Eq) (tb := tb) hr.units0 hF I.ok.mod.kin J lt nf hs hf ?_
        have hsp : spF X.K 2 g [.ref a, vy] H (fun v H' => v = .bl bb ∧ Q (.bl bb) H') E0 := w_spC c rfl ⟨cl, Fz, al, [x0, y0], Cs, ⟨_, _, rfl, rx, _, _, rfl, ry, rfl⟩, by
          rw [hcall]
          intro F' al' v H' x3 C3 p3
          have p3 : v = .bl bb := p3
          subst p3
          exact ⟨rfl, k2 F' al' _ H' x3 C3 rfl⟩⟩
        have hl := F.len _ _ _ _ hsp
        refine wpAny_call (codeAny_mono (F.run X.A X.stack s H ⟨[.ref a, u], []⟩ [.ref a, u] [.ref a, vy] _ E0 hr I.env0 (by
          have := hb s [.ref a, u] I.kIn (by simpa using hl)
          simpa using this) (.cons rfl (.cons rvy .nil)) hsp) fun r s' hq => ?_)
        cases r with
        | error e => exact (show False from hq).elim
        | ok fl =>
          cases fl with
          | ret w =>
            obtain ⟨z, H', I', rz, ez, q⟩ := I.after hq
            subst ez
            cases rz
            exact ⟨.bl bb, H', I', rfl, q⟩
          | next => exact False.elim hq
          | brk => exact False.elim hq
          | cont => exact False.elim hq
      · cases e
    · cases e
  · cases e
theorem neO_ok (c : Bool) (n : NotC X.K C) (hp : PySem.W.plainOver X.K C = true) (hne : PySem.W.findIn X.K (.ref C) "__ne__" = some (some (.builtin "object.__ne__"))) (hs : PySem.W.findIn X.K (.ref C) "__eq__" = some (some (.ref fa))) (hf : PySem.W.isFn X.K (.ref fa) = true) (F : FnOk X.prog X.w X.K X.mg X.base CX0 k fa fd ps (spF X.K 2 g)) (hr : Room (k + 1) X.A) (hb : Binds X.K fd ps []) :
    OpR X (compareOp .NotEq) (r2F X.K (dEqO true C c g)) := by
  intro pins s σ H vx vy v u Q I rvx rvy h
  obtain ⟨cl, Fz, al, x0, y0, Cs, rx, ry, kk⟩ := h
  obtain ⟨d, cl', e, k2⟩ := kk.some
  unfold dEqO at e
  split at e
  · rename_i px hi
    split at e
    · rename_i sd
      split at e
      · rename_i bb c0 hcall
        cases e
        obtain ⟨a, dx, fvs, rfl, h1, h2, h3⟩ := insW_ok (fs := px.1) (ws := px.2) Cs rx hi
        obtain ⟨tb, lt, nf⟩ := side_ok n I Cs ry rvy sd
        cases rvx
        obtain ⟨mA, J, _⟩ := ins_get I.hok h1
        obtain ⟨od, J, _⟩ := J.look
        have hr' := hr.in1
        show wpAny (model X.prog X.w) X.A (richCompare .NotEq (.ref a) u) (EP X pins σ Q) X.xe s
        refine cmpNe_K (tb := tb) (by have := hr.un; omega) I.kIn J hp lt nf hne hs hf ?_
        have hsp : spF X.K 2 g [.ref a, vy] H (fun v H' => v = .bl bb ∧ Q (.bl (!bb)) H') E0 := w_spC c rfl ⟨cl, Fz, al, [x0, y0], Cs, ⟨_, _, rfl, rx, _, _, rfl, ry, rfl⟩, by
          rw [hcall]
          intro F' al' v H' x3 C3 p3
          have p3 : v = .bl bb := p3
          subst p3
          exact ⟨rfl, k2 F' al' _ H' x3 C3 rfl⟩⟩
        have hl := F.len _ _ _ _ hsp
        refine wpAny_call (codeAny_mono (F.run X.A.in1 X.stack s H ⟨[.ref a, u], []⟩ [.ref a, u] [.ref a, vy] _ E0 hr' I.env0.in1 (by
          have := hb s [.ref a, u] I.kIn (by simpa using hl)
          simpa using this) (.cons rfl (.cons rvy .nil)) hsp) fun r s' hq => ?_)
        cases r with
        | error e => exact (show False from hq).elim
        | ok fl =>
          cases fl with
          | ret w =>
            obtain ⟨z, H', I', rz, ez, q⟩ := I.after hq
            subst ez
            cases rz
            exact ⟨bb, rfl, .bl (!bb), H', I', rfl, q⟩
          | next => exact False.elim hq
          | brk => exact False.elim hq
          | cont => exact False.elim hq
      · cases e
    · cases e
  · cases e
end
end FL
/-! C(k = v, ..) -/
namespace FL
open PySem PySem.Spec L2
def perm {α : Type} (js : List Nat) (xs : List α) : List α := js.filterMap fun j => xs[j]?
theorem Reps.at_n {K : PySem.W.Frag} {F : Hp} {al : List Addr} : ∀ {xs : List W} {vs : List V}, Reps K F al xs vs → ∀ j : Nat, (xs[j]? = none ∧ vs[j]? = none) ∨ ∃ x v, xs[j]? = some x ∧ vs[j]? = some v ∧ Rep K F al x v
  | [], vs, h, j => by
    have h : vs = [] := h
    subst h
    exact .inl ⟨rfl, rfl⟩
  | x :: xs, vs, h, 0 => by
    obtain ⟨v, r, rfl, h1, h2⟩ := h
    exact .inr ⟨x, v, rfl, rfl, h1⟩
  | x :: xs, vs, h, j + 1 => by
    obtain ⟨v, r, rfl, h1, h2⟩ := h
    exact Reps.at_n h2 j
theorem Reps.perm {K : PySem.W.Frag} {F : Hp} {al : List Addr} {xs : List W} {vs : List V} (h : Reps K F al xs vs) : ∀ js : List Nat, Reps K F al (FL.perm js xs) (FL.perm js vs)
  | [] => rfl
  | j :: js => by
    have ih := Reps.perm h js
    rcases h.at_n j with ⟨e1, e2⟩ | ⟨x, v, e1, e2, r⟩
    · simp only [FL.perm, List.filterMap_cons, e1, e2] at ih ⊢
      exact ih
    · simp only [FL.perm, List.filterMap_cons, e1, e2] at ih ⊢
      exact ⟨v, _, rfl, r, ih⟩
theorem vals_at : ∀ {vs : List V} {us : List Value}, Vals vs us → ∀ j : Nat, (vs[j]? = none ∧ us[j]? = none) ∨ ∃ v u, vs[j]? = some v ∧ us[j]? = some u ∧ RelV v u
  | _, _, .nil, j => .inl ⟨rfl, rfl⟩
  | _, _, .cons r t, 0 => .inr ⟨_, _, rfl, rfl, r⟩
  | _, _, .cons r t, j + 1 => vals_at t j
theorem vals_perm {vs : List V} {us : List Value} (h : Vals vs us) : ∀ js : List Nat, Vals (perm js vs) (perm js us)
  | [] => .nil
  | j :: js => by
    have ih := vals_perm h js
    rcases vals_at h j with ⟨e1, e2⟩ | ⟨v, u, e1, e2, r⟩
    · simp only [perm, List.filterMap_cons, e1, e2] at ih ⊢
      exact ih
    · simp only [perm, List.filterMap_cons, e1, e2] at ih ⊢
      exact .cons r ih
/-- how keywords bind: the first n by place, the others in the order js -/
theorem kb_of {K : PySem.W.Frag} {x qual : Str} {st : Stmt} {f : Addr} {fd : FuncData} {ps ks : List Str} {n : Nat} (F : Fun K x qual st f fd) (js : List Nat)
    (h : ∀ (kV doc pm : Value) (an : Option Addr) (cdv ct : Value) (us ws : List Value), us.length = n → ws.length = ks.length → bindArgs (PySem.W.fnOf x qual (defArgs st) (defBody st) (defScope st) .none kV doc pm an cdv ct) ⟨us, ks.zip ws⟩ = pure (ps.zip (us ++ perm js ws))) :
    KBn K fd ps n ks (fun us ws => us ++ perm js ws) (fun vs zs => vs ++ perm js zs) := by
  obtain ⟨oc, od, kV, doc, pm, an, cdv, ct, osl, rfl, lk, hcd⟩ := F.ex
  exact ⟨fun s us ws _ l1 l2 => .of_eq (h kV doc pm an cdv ct us ws l1 l2), fun r1 r2 => r1.append (vals_perm r2 js)⟩
section
variable {X : Cx} {k n : Nat} {fa C : Addr} {fd : FuncData} {ps ks : List Str} {x : Str} {p pos : Pos} {kws : List Keyword} {g : OpN} {ms : MS}
theorem PK.weak {t t' : TA} (h : PK X kws t) (w : ∀ σ H Q, t' σ H Q → t σ H Q) : PK X kws t' := ⟨fun pos pins s σ H Q I q => h.run pos pins s σ H Q I (w σ H Q q)⟩
theorem fk_nil : PK X [] (tFA X.K aNil) := PK.weak pk_nil fun σ H Q ⟨r, F, al, d, r', R, e1, k⟩ => by
  have e1 : some ([], r) = some (d, r') := e1
  cases e1
  exact k F al [] H (Ext.refl _ _ _) R rfl
theorem fk_cons {nm : Option Str} {e : Expr} {kpos : Pos} {m : M} (ha : PE X e (tF X.K m)) (hr : PK X kws (tFA X.K ms)) : PK X (⟨nm, e, kpos⟩ :: kws) (tFA X.K (aCons m ms)) := PK.weak (pk_cons ha hr) fun σ H Q ⟨r, F, al, d, r', R, e1, k⟩ => by
  obtain ⟨y, r1, ys, q1, q2, rfl⟩ := aCons_some e1
  exact ⟨r, F, al, y, r1, R, q1, fun F1 al1 vx H1 x1 R1 p1 => ⟨r1, F1, al1, ys, r', R1, q2, fun F2 al2 vs H2 x2 R2 p2 => k F2 al2 _ H2 (x1.trans x2) R2 ⟨_, _, rfl, x2.rep p1, p2⟩⟩⟩
def permO (js : List Nat) (g : OpN) : OpN := fun cl ds => g cl (perm js ds)
theorem pf_makeK (js : List Nat) (Mk1 : Mk X.K C fa) (F : FnOk X.prog X.w X.K X.mg X.base CX0 k fa fd ps (spF X.K n g)) (hr : Room (k + 1) X.A) (hg : Gl X x) (hm : X.mg x = some (.ref C)) (hb : KBn X.K fd ps 1 ks (fun us ws => us ++ perm js ws) (fun vs zs => vs ++ perm js zs))
    (hkw : PK X kws (tFA X.K ms)) (al1 : ALen ms ks.length) (hn : ∀ zs : List V, zs.length = ks.length → (perm js zs).length + 1 = n)
    (hall : (backToKw pos (keywordEach kws X.env)).all (·.1.isSome) = true := by rfl) (hks : (backToKw pos (keywordEach kws X.env)).filterMap (·.1) = ks := by rfl) (hdb : (x == ("__debug__" : Str)) = false := by decide)
    (hpl : ((backTo pos (starEach [] X.env)).any (·.1) || (backToKw pos (keywordEach kws X.env)).any (·.1.isNone)) = false := by rfl) :
    PE X (.Call (.Name x p) [] kws pos) (tF X.K (eCall (permO js (oMake C g)) ms)) := by
  refine PE.weak (pe_makeK0 (E := E0) Mk1 F hr hg hm hb pass0 hkw hall hks hdb hpl) fun σ H Q ⟨rho, F0, al0, d, r', R, e1, kk⟩ => ?_
  obtain ⟨xs, r1, q1, q3⟩ := eCall_some e1
  obtain ⟨cc, q4, rfl⟩ := liftN_some q3
  have hl := al1 _ _ _ q1
  refine ⟨rho, F0, al0, xs, r1, R, q1, fun F1 al1 zs H1 x1 R1 p1 => ⟨rfl, by rw [p1.length]; exact hl, ?_⟩⟩
  have q4 : oMake C g r1.cl (perm js xs) = some (d, cc) := q4
  refine make_sp (hn zs (by rw [p1.length]; exact hl)) ⟨r1.cl, F1, al1, perm js xs, R1.c, p1.perm js, ?_⟩
  rw [q4]
  exact post_of R1.s fun F' al' v H' x3 R3 p3 => kk F' al' v H' (x1.trans x3) R3 p3
end
/-! repr of an own instance -/
def oReprI (C : Addr) (c : Bool) (g : OpN) : OpN := fun cl ds => match ds with
  | [x] => match insW C cl x with
    | some _ => match callC c g cl [x] with
      | some (.d (.str z), cl') => some (.d (.str z), cl')
      | _ => none
    | none => none
  | _ => none
section
variable {X : Cx} {C fa : Addr} {fd : FuncData} {ps : List Str} {k : Nat} {g : OpN}
theorem reprI_ok (c : Bool) (hs : PySem.W.findIn X.K (.ref C) "__repr__" = some (some (.ref fa))) (hf : PySem.W.isFn X.K (.ref fa) = true) (F : FnOk X.prog X.w X.K X.mg X.base CX0 k fa fd ps (spF X.K 1 g)) (hr : Room (k + 1) X.A) (hb : Binds X.K fd ps []) :
    CallR X (.builtin "repr") (rNF X.K (oReprI C c g)) := by
  intro pins s σ H vs us Q I rv h
  obtain ⟨cl, Fz, al, ds, Cs, rs, kk⟩ := h
  obtain ⟨d, cl', e, k2⟩ := kk.some
  unfold oReprI at e
  split at e
  · rename_i x0
    obtain ⟨v, vr, rfl, rx, r0⟩ := rs
    have r0 : vr = [] := r0
    subst r0
    split at e
    · rename_i pr hi
      obtain ⟨a, dx, fvs, rfl, h1, h2, h3⟩ := insW_ok (fs := pr.1) (ws := pr.2) Cs rx hi
      obtain ⟨u, rfl, ru⟩ := vals1 rv
      cases ru
      split at e
      · rename_i z0 c0 hcall
        cases e
        obtain ⟨mA, J, _⟩ := ins_get I.hok h1
        obtain ⟨od, J, _⟩ := J.look
        obtain ⟨mf, hF⟩ := I.fr
        refine PySem.W.repr_K (by have := hr.in1.un; omega) hF I.ok.mod.kin J hs hf ?_
        have hsp : spF X.K 1 g [.ref a] H (fun v H' => v = .str z0 ∧ Q (.str z0) H') E0 := w_spC c rfl ⟨cl, Fz, al, [x0], Cs, ⟨_, _, rfl, rx, rfl⟩, by
          rw [hcall]
          intro F' al' v H' x3 C3 p3
          have p3 : v = .str z0 := p3
          subst p3
          exact ⟨rfl, k2 F' al' _ H' x3 C3 rfl⟩⟩
        have hl := F.len _ _ _ _ hsp
        refine wpAny_call (codeAny_mono (F.run X.A.in1 X.stack s H ⟨[.ref a], []⟩ [.ref a] [.ref a] _ E0 hr.in1 I.env0.in1 (by
          have := hb s [.ref a] I.kIn (by simpa using hl)
          simpa using this) (.cons rfl .nil) hsp) fun r s' hq => ?_)
        cases r with
        | error e => exact (show False from hq).elim
        | ok fl =>
          cases fl with
          | ret w =>
            obtain ⟨z, H', I', rz, ez, q⟩ := I.after hq
            subst ez
            obtain ⟨tk, rfl⟩ := rz
            exact ⟨.str z0, H', I', ⟨tk, rfl⟩, q⟩
          | next => exact False.elim hq
          | brk => exact False.elim hq
          | cont => exact False.elim hq
      · cases e
    · cases e
  · cases e
end
theorem notinT_ok {X : Cx} : OpR X (compareOp .NotIn) (r2F X.K (inT true)) := OpR.weak op_notIn_str fun vx vy H Q h => by
  obtain ⟨cl, F, al, x, y, C, rx, ry, k⟩ := h
  obtain ⟨d, cl', e, kk⟩ := k.some
  unfold inT at e
  split at e
  · rename_i s t
    cases e
    have rx : vx = .str s := rx
    have ry : vy = .str t := ry
    exact ⟨s, t, rx, ry, kk F al _ H (Ext.refl _ _ _) C rfl⟩
  · cases e
end FL
/-! zip, d.get(k, x), sorted(d), dict(enumerate(xs)), a def that calls itself -/
namespace FL
open PySem PySem.Spec L2 RZ
section
variable {K : PySem.W.Frag} {F : Hp} {al : List Addr} {H : Hp}
/-! ### zip -/
def zipW : List W → List W → List W
  | x :: xs, y :: ys => tupW [x, y] :: zipW xs ys
  | _, _ => []
theorem zipW_get : ∀ (xs ys : List W) (i : Nat) (d : W), (zipW xs ys)[i]? = some d → ∃ x y, xs[i]? = some x ∧ ys[i]? = some y ∧ d = tupW [x, y]
  | x :: xs, y :: ys, 0, d, h => ⟨x, y, rfl, rfl, (Option.some.inj h).symm⟩
  | x :: xs, y :: ys, i + 1, d, h => zipW_get xs ys i d h
  | [], _, i, d, h => by
    cases i <;> exact (nomatch h)
  | _ :: _, [], i, d, h => by
    cases i <;> exact (nomatch h)
theorem zipW_len : ∀ (xs ys : List W), (zipW xs ys).length = min xs.length ys.length
  | x :: xs, y :: ys => by
    show (zipW xs ys).length + 1 = _
    rw [zipW_len xs ys]
    simp
  | [], ys => by simp [zipW]
  | _ :: _, [] => by simp [zipW]
def ckAnd : Ck → Ck → Ck
  | none, c => c
  | c, none => c
  | some p, some q => some (p ++ q)
theorem ckAnd_l {c d : Ck} {cl : List Cell} (h : ckC (ckAnd c d) cl) : ckC c cl := by
  cases c with
  | none => exact trivial
  | some p => cases d with
    | none => exact h
    | some q => exact fun x hx => h x (List.mem_append_left _ hx)
theorem ckAnd_r {c d : Ck} {cl : List Cell} (h : ckC (ckAnd c d) cl) : ckC d cl := by
  cases d with
  | none => exact trivial
  | some q => cases c with
    | none => exact h
    | some p => exact fun x hx => h x (List.mem_append_right _ hx)
theorem wk_zipL {a b : Addr} {xs ys : List W} {c d : Ck} (h1 : StL K F al a xs c) (h2 : StL K F al b ys d) : Wk K (Itz K a b) F al (zipW xs ys) (ckAnd c d) where
  go := fun i dd F1 al1 cl1 H1 hd e ha C hck => by
    obtain ⟨vs, hs, r⟩ := h1 F1 al1 cl1 H1 e ha C (ckAnd_l hck)
    obtain ⟨us, hu, q⟩ := h2 F1 al1 cl1 H1 e ha C (ckAnd_r hck)
    obtain ⟨x, y, e1, e2, rfl⟩ := zipW_get xs ys i dd hd
    obtain ⟨v, v1, v2⟩ := r.get e1
    obtain ⟨u, u1, u2⟩ := q.get e2
    refine ⟨⟨vs, us, v, u, hs, hu, v1, u1⟩, fun z H2 ⟨T, x', y', ez, hT, eH, hx, hy⟩ => ?_⟩
    have hx := hx vs hs
    have hy := hy us hu
    rw [v1] at hx
    rw [u1] at hy
    cases hx
    cases hy
    subst ez eH
    exact wk_new C ⟨_, _, rfl, v2, _, _, rfl, u2, rfl⟩ hT
  stop := fun i F1 al1 cl1 H1 hi e ha C hck => by
    obtain ⟨vs, hs, r⟩ := h1 F1 al1 cl1 H1 e ha C (ckAnd_l hck)
    obtain ⟨us, hu, q⟩ := h2 F1 al1 cl1 H1 e ha C (ckAnd_r hck)
    rw [zipW_len] at hi
    exact ⟨vs, us, hs, hu, by rw [r.length, q.length]; omega⟩
theorem wk_zipT {a b : Addr} {vs us : List V} {xs ys : List W} (h1 : SqT K F a vs) (r1 : Reps K F al xs vs) (h2 : SqT K F b us) (r2 : Reps K F al ys us) : Wk K (ItzT K a b) F al (zipW xs ys) none where
  go := fun i dd F1 al1 cl1 H1 hd e ha C _ => by
    obtain ⟨be, rfl⟩ := ha
    obtain ⟨x, y, e1, e2, rfl⟩ := zipW_get xs ys i dd hd
    obtain ⟨v, v1, v2⟩ := (Reps.mono (be := be) e r1).get e1
    obtain ⟨u, u1, u2⟩ := (Reps.mono (be := be) e r2).get e2
    have hs : SqT K H1 a vs := Same.seqT C.fh (Same.seqT e h1)
    have hu : SqT K H1 b us := Same.seqT C.fh (Same.seqT e h2)
    refine ⟨⟨vs, us, v, u, hs, hu, v1, u1⟩, fun z H2 ⟨T, x', y', ez, hT, eH, hx, hy⟩ => ?_⟩
    have hx := hx vs hs
    have hy := hy us hu
    rw [v1] at hx
    rw [u1] at hy
    cases hx
    cases hy
    subst ez eH
    exact wk_new C ⟨_, _, rfl, v2, _, _, rfl, u2, rfl⟩ hT
  stop := fun i F1 al1 cl1 H1 hi e ha C _ => by
    have hs : SqT K H1 a vs := Same.seqT C.fh (Same.seqT e h1)
    have hu : SqT K H1 b us := Same.seqT C.fh (Same.seqT e h2)
    rw [zipW_len] at hi
    exact ⟨vs, us, hs, hu, by rw [r1.length, r2.length]; omega⟩
end
def iZip (ma mb : M) : MI := fun r => match ma r with
  | some (x, r1) => match mb r1 with
    | some (y, r2) => match itemsL r2.cl x, itemsL r2.cl y with
      | some (xs, c), some (ys, d) => some ((zipW xs ys, ckAnd c d), r2)
      | none, none => match asTup x, asTup y with
        | some xs, some ys => some ((zipW xs ys, none), r2)
        | _, _ => none
      | _, _ => none
    | none => none
  | none => none
section
variable {X : Cx} {e e2 o f k : Expr} {pos p p2 q tpos apos cpos : Pos} {elts : List Expr} {kk : Nat}
theorem fi_zip {ma mb : M} (hg : Gl X "zip") (hm : X.mg "zip" = none) (ha : PA X [e, e2] (tFA X.K (aCons ma (aCons mb aNil)))) (hs : starEach [e, e2] X.env = (false, eval e X.env) :: starEach [e2] X.env := by rfl) (hpl : (backTo pos (starEach [e2] X.env)).any (·.1) = false := by rfl) :
    PI X (.Tuple elts kk tpos) (.Call (.Name "zip" p) [e, e2] [] pos) (iF X.K (iZip ma mb)) :=
  PI.weak (pi_zipA hg hm ha hs hpl) fun σ H R ⟨r, F, al, ds, ck, r', Rl, e1, kR⟩ => by
    unfold iZip at e1
    split at e1
    · rename_i x r1 q1
      split at e1
      · rename_i y r2 q2
        have qa : aCons ma (aCons mb aNil) r = some ([x, y], r2) := by simp only [aCons, q1, q2, aNil]
        split at e1
        · rename_i xs c ys d h1 h2
          cases e1
          refine ⟨r, F, al, [x, y], _, Rl, qa, fun F1 al1 v H1 x1 R1 p1 => ?_⟩
          obtain ⟨v1, vr, rfl, g1, v2, vr2, rfl, g2, g3⟩ := p1
          have g3 : vr2 = [] := g3
          subst g3
          obtain ⟨a, rfl, st, hck⟩ := items_ok R1.c g1 h1
          obtain ⟨b, rfl, st2, hck2⟩ := items_ok R1.c g2 h2
          obtain ⟨vs, w2, _⟩ := st F1 al1 _ H1 (Same.refl _) ⟨[], by simp⟩ R1.c hck
          obtain ⟨us, w3, _⟩ := st2 F1 al1 _ H1 (Same.refl _) ⟨[], by simp⟩ R1.c hck2
          exact ⟨a, b, vs, us, rfl, .inl ⟨w2, w3, kR F1 al1 _ H1 x1 R1 (wk_zipL st st2)⟩⟩
        · split at e1
          · rename_i xs ys h1 h2
            cases e1
            refine ⟨r, F, al, [x, y], _, Rl, qa, fun F1 al1 v H1 x1 R1 p1 => ?_⟩
            obtain ⟨v1, vr, rfl, g1, v2, vr2, rfl, g2, g3⟩ := p1
            have g3 : vr2 = [] := g3
            subst g3
            obtain ⟨a, vs, rfl, s1, s2⟩ := asTup_ok g1 h1
            obtain ⟨b, us, rfl, t1, t2⟩ := asTup_ok g2 h2
            exact ⟨a, b, vs, us, rfl, .inr ⟨Same.seqT R1.c.fh s1, Same.seqT R1.c.fh t1, kR F1 al1 _ H1 x1 R1 (wk_zipT s1 s2 t1 t2)⟩⟩
          · cases e1
        · cases e1
      · cases e1
    · cases e1
/-! ### d.get(k, x) -/
def isDic (cl : List Cell) (x : W) : Bool := (asDk cl x).isSome || (asDt cl x).isSome
def mGet : OpN := fun cl ds => match ds with
  | [x, y, z] => match dGetW cl x y with
    | some (some w) => some (w, cl)
    | some none => some (z, cl)
    | none => none
  | _ => none
theorem mGet_some {cl c : List Cell} {x y z d : W} (h : mGet cl [x, y, z] = some (d, c)) : c = cl ∧ ((∃ w, dGetW cl x y = some (some w) ∧ d = w) ∨ (dGetW cl x y = some none ∧ d = z)) := by
  simp only [mGet] at h
  cases g : dGetW cl x y with
  | none =>
    rw [g] at h
    cases h
  | some o =>
    rw [g] at h
    cases o with
    | none =>
      cases h
      exact ⟨rfl, .inr ⟨rfl, rfl⟩⟩
    | some w =>
      cases h
      exact ⟨rfl, .inl ⟨_, rfl, rfl⟩⟩
theorem pf_dget2 {mo mk mx : M} (hu : X.A.units + 1 < cLine) (ho : PE X o (tF X.K mo)) (hk : PE X k (tF X.K mk)) (hf : PE X f (tF X.K mx))
    (hbase : attributeBase o "get" X.env (eval o X.env) = eval o X.env := by rfl)
    (hfew : ((backTo cpos (starEach [k, f] X.env)).all (fun x => !x.1) && (backToKw cpos (keywordEach [] X.env)).all (fun x => x.1.isSome) && decide (([k, f] : List Expr).length + ([] : List Keyword).length + (if ([] : List Keyword).isEmpty then 0 else 1) < 30)) = true := by rfl)
    (hline : (apos.endLine == cpos.line) = true := by rfl) (htr : backTo cpos (starEach [k, f] X.env) = [(false, eval k X.env), (false, eval f X.env)] := by rfl) :
    PE X (.Call (.Attribute o "get" apos) [k, f] [] cpos) (tF X.K (eMethT isDic mGet mo (aCons mk (aCons mx aNil)))) :=
  PE.weak (pe_dget2 hu ho hk hf ⟨hbase, hfew, hline, htr⟩) fun σ H Q ⟨rho, F, al, d, r', R, e1, kQ⟩ => by
    unfold eMethT at e1
    split at e1
    · rename_i x0 r1 q1
      split at e1
      · rename_i hc
        split at e1
        · rename_i xs r2 q2
          obtain ⟨c, q4, rfl⟩ := liftN_some e1
          obtain ⟨y, ry, ys, w1, w2, rfl⟩ := aCons_some q2
          obtain ⟨z, rz, zs, w3, w4, rfl⟩ := aCons_some w2
          have w4 : some ([], rz) = some (zs, r2) := w4
          have w5 := Option.some.inj w4
          have ez : [] = zs := congrArg Prod.fst w5
          have er : rz = r2 := congrArg Prod.snd w5
          subst ez er
          refine ⟨rho, F, al, x0, r1, R, q1, fun F1 al1 vx H1 x1 R1 p1 => ?_⟩
          have hD : ∃ a, vx = .ref a ∧ IsD H1 a := by
            unfold isDic at hc
            cases e1 : asDk r1.cl x0 with
            | some p =>
              obtain ⟨a, kvs, rfl, g, _⟩ := asDk_ok R1.c p1 (ks := p.1) (ws := p.2) e1
              exact ⟨a, rfl, .inl ⟨kvs, g⟩⟩
            | none =>
              rw [e1] at hc
              simp at hc
              obtain ⟨p, e2⟩ := Option.isSome_iff_exists.mp hc
              obtain ⟨a, kvs, rfl, g, _⟩ := asDt_ok R1.c p1 (ks := p.1) (ws := p.2) e2
              exact ⟨a, rfl, .inr ⟨kvs, g⟩⟩
          obtain ⟨a, rfl, hD⟩ := hD
          refine ⟨a, rfl, hD, r1, F1, al1, y, ry, R1, w1, fun F2 al2 vy H2 x2 R2 p2 => ⟨ry, F2, al2, z, rz, R2, w3, fun F3 al3 vz H3 x3 R3 p3 => ?_⟩⟩
          have rx := (x2.trans x3).rep p1
          obtain ⟨rfl, hh⟩ := mGet_some q4
          rcases hh with ⟨w, hw, rfl⟩ | ⟨hw, rfl⟩
          · obtain ⟨b, ov, eb, g, i1, _⟩ := dGetW_ok R3.c rx (x3.rep p2) hw
            cases eb
            obtain ⟨v, rfl, rv⟩ := i1 _ rfl
            exact ⟨some v, g, kQ F3 al3 v H3 ((x1.trans x2).trans x3) R3 rv⟩
          · obtain ⟨b, ov, eb, g, _, i2⟩ := dGetW_ok R3.c rx (x3.rep p2) hw
            cases eb
            rw [i2 rfl] at g
            exact ⟨_, g, kQ F3 al3 vz H3 ((x1.trans x2).trans x3) R3 p3⟩
        · cases e1
      · cases e1
    · cases e1
end
end FL
/-! sorted(d), dict(enumerate(xs)) -/
namespace L2
open PySem PySem.Spec PyProof.Rows
def numK {α : Type} : Nat → List α → List (Key × α)
  | _, [] => []
  | n, x :: xs => (.inl (n : Int), x) :: numK (n + 1) xs
theorem numK_len {α : Type} : ∀ (n : Nat) (xs : List α), (numK n xs).length = xs.length
  | _, [] => rfl
  | n, x :: xs => by
    show (numK (n + 1) xs).length + 1 = xs.length + 1
    rw [numK_len (n + 1) xs]
theorem numK_get {α : Type} : ∀ (n : Nat) (xs : List α) (i : Nat) (x : α), xs[i]? = some x → (numK n xs)[i]? = some (.inl ((n + i : Nat) : Int), x)
  | n, y :: xs, 0, x, h => by
    cases h
    rfl
  | n, y :: xs, i + 1, x, h => by
    have := numK_get (n + 1) xs i x h
    show (numK (n + 1) xs)[i]? = _
    rw [this, show n + 1 + i = n + (i + 1) by omega]
  | n, [], i, x, h => (nomatch h)
theorem numK_key {α : Type} : ∀ (n : Nat) (xs : List α), (numK n xs).map (·.1) = (List.range xs.length).map fun i => (.inl ((n + i : Nat) : Int) : Key)
  | _, [] => rfl
  | n, x :: xs => by
    have := numK_key (n + 1) xs
    show (.inl (n : Int)) :: (numK (n + 1) xs).map (·.1) = _
    rw [this, List.length_cons, List.range_succ_eq_map, List.map_cons, List.map_map]
    refine congrArg _ (List.map_congr_left fun i _ => ?_)
    show (Sum.inl (((n + 1 + i : Nat)) : Int) : Key) = Sum.inl (((n + (i + 1) : Nat)) : Int)
    rw [show n + 1 + i = n + (i + 1) by omega]
theorem numK_val {α : Type} : ∀ (n : Nat) (xs : List α), (numK n xs).map (·.2) = xs
  | _, [] => rfl
  | n, x :: xs => by
    show x :: (numK (n + 1) xs).map (·.2) = _
    rw [numK_val (n + 1) xs]
theorem mergeK_num : ∀ (n : Nat) (xs : List V) (acc : List (Key × V)), (∀ kv ∈ acc, ∃ i : Int, kv.1 = .inl i ∧ i < n) → mergeK acc (numK n xs) = acc ++ numK n xs
  | n, [], acc, _ => by simp [numK, mergeK]
  | n, x :: xs, acc, h => by
    have hp : putK acc (.inl (n : Int)) x = acc ++ [(.inl (n : Int), x)] := by
      unfold putK
      rw [if_neg]
      intro q
      obtain ⟨kv, hk, e⟩ := List.any_eq_true.mp q
      obtain ⟨i, e1, e2⟩ := h kv hk
      have e := of_decide_eq_true e
      rw [e1] at e
      cases e
      omega
    have ih := mergeK_num (n + 1) xs (acc ++ [(.inl (n : Int), x)]) (fun kv hk => by
      rcases List.mem_append.mp hk with hk | hk
      · obtain ⟨i, e1, e2⟩ := h kv hk
        exact ⟨i, e1, by omega⟩
      · rw [List.mem_singleton] at hk
        subst hk
        exact ⟨n, rfl, by omega⟩)
    show mergeK (putK acc (.inl (n : Int)) x) (numK (n + 1) xs) = _
    rw [hp, ih, List.append_assoc]
    rfl
theorem kv_num : ∀ (n : Nat) {xs : List V} {us : List Value}, Vals xs us → KV (numK n xs) (numK n us)
  | _, _, _, .nil => .nil
  | n, _, _, .cons r t => .cons ⟨rfl, r⟩ (kv_num (n + 1) t)
def tDictEn (K : PySem.W.Frag) (ta : TA) : TE := fun σ H Q => ta σ H fun vs H1 => ∃ (l : Addr) (xs : List V), vs = [.ref l] ∧ SqL K H1 l xs ∧ ∀ p, H1 p = none → Q (.ref p) (upd H1 p (.dK (numK 0 xs)))
theorem pe_dictEn {X : Cx} {e : Expr} {ta : TA} {p p2 q pos : Pos} (hg : Gl X "dict") (hm : X.mg "dict" = none) (hg2 : Gl X "enumerate") (hm2 : X.mg "enumerate" = none) (ha : PA X [e] ta) (hc : X.calm = true := by rfl)
    (hs : starEach [e] X.env = [(false, eval e X.env)] := by rfl) (na : starEach [.Call (.Name "enumerate" p2) [e] [] q] X.env = (false, eval (.Call (.Name "enumerate" p2) [e] [] q) X.env) :: starEach [] X.env := by rfl) :
    PE X (.Call (.Name "dict" p) [.Call (.Name "enumerate" p2) [e] [] q] [] pos) (tDictEn X.K ta) := by
  refine ⟨fun pins s σ H Q I h => ?_⟩
  refine Call_ (ld_blt I hg hm boot_dict ?_)
  refine PyProof.Rows.callWith_type1 (PyProof.Rows.args_cons ?_ na) na rfl
  refine Call_ (ld_blt I hg2 hm2 boot_enumerate (PyProof.Rows.callWith_type1 (thn (ha.run q pins s σ H _ I h) fun us s1 ⟨vs, H1, I1, r1, q1⟩ => ?_) hs rfl))
  obtain ⟨a, xs, ex, hq, q1⟩ := q1
  subst ex
  cases r1 with
  | cons r rr =>
    cases rr
    cases r
    obtain ⟨its, rv, p', hz⟩ := I1.list hq
    have hl : its.length = xs.length := rv.length.symm
    refine call_enumerate_list p'.isList fun h' he hit hsz hk => ?_
    have I2 : Inv X pins σ H1 { s1 with heap := h' } := I1.kept (t' := s1.toks) hk
    have ha1 : a < s1.heap.objs.size := p'.lt
    refine PyProof.Rows.args_nil ?_
    have P := PySem.PairArg.enumerate (prog := X.prog) (w := X.w) (s1.heap.objs.size + 1) s1.heap.objs.size a (Nat.succ_ne_self _) (Nat.ne_of_lt (Nat.lt_succ_of_lt ha1)) (Nat.ne_of_lt ha1) its.toArray
    refine PySem.call_dict_pairs (knd := mixKind X.prog X.w) (kvs := numK 0 its) P (I2.ok.hd hc) ⟨⟨_, he⟩, hit, p'.isList.at fun o z => hk _ o z⟩ ⟨by rw [numK_len]; simp, fun i k v ⟨⟨t, ek⟩, hv⟩ => ?_⟩ (by simpa [hl] using hz) fun h2 tk hd hk2 => ?_
    · subst ek
      refine ⟨.inl (i : Int), ?_, ?_⟩
      · have := numK_get 0 its i v (by simpa using hv)
        rw [Nat.zero_add] at this
        exact this
      · show Value.isInt (i : Int) (.int i t) = true
        simp [Value.isInt]
    · have hlt : ∀ b u, s1.heap.get? b = some u → h2.get? b = some u := fun b u z => hk2 b u (by
        intro hb
        have lt := Heap.lt_size z
        have e' : b = s1.heap.objs.size + 1 ∨ b = s1.heap.objs.size := by simpa using hb
        rcases e' with w | w
        · rw [w] at lt
          exact Nat.lt_irrefl _ (Nat.lt_of_succ_lt lt)
        · rw [w] at lt
          exact Nat.lt_irrefl _ lt) (hk b u z)
      have hm : (h'.objs.size == sysModules) = false := beq_eq_false_iff_ne.mpr (Nat.ne_of_gt I2.big)
      have kv : KV (numK 0 xs) (merged [] (numK 0 its)) := by
        have := KV.merge (kv_num 0 rv) (.nil : KV [] [])
        rw [mergeK_num 0 xs [] (fun _ h => nomatch h), List.nil_append] at this
        exact this
      have hle : s1.heap.objs.size ≤ h'.objs.size := by omega
      exact ⟨.ref h'.objs.size, upd H1 h'.objs.size (.dK (numK 0 xs)), I1.laid (t' := tk) hlt hle (show ObjOk X.prog X.w _ _ _ (.dK (numK 0 xs)) from ⟨by rw [numK_len]; exact hz, hm, _, kv, hd⟩), rfl, q1 _ (I1.hok.fresh hle)⟩
end L2
namespace FL
open PySem PySem.Spec L2
theorem freshD_ok {K : PySem.W.Frag} {cl : List Cell} {F : Hp} {al : List Addr} {H : Hp} {Q : VK} {c : Bool} {ks : List Key} {ws : List W} {kvs : List (Key × V)} {p : Addr} (h : PostV K F al H Q (freshK c ks ws cl)) (C : Cells K cl F al H) (hk : kvs.map (·.1) = ks) (q : Reps K F al ws (kvs.map (·.2))) (hp : H p = none) : Q (.ref p) (upd H p (.dK kvs)) := by
  obtain ⟨hF, hal⟩ := C.free hp
  cases c with
  | false =>
    obtain ⟨d, cl', e, k⟩ := h.some
    obtain ⟨xs, e1, e2⟩ := Option.map_eq_some_iff.mp (show (datas ws).map _ = _ from e)
    cases e2
    have q0 : Reps0 K F xs (kvs.map (·.2)) := by
      rw [datas_some e1] at q
      exact q.to0
    exact k _ _ _ _ (ext_frz hF hp) (C.frz hp) ⟨p, kvs, rfl, .inl upd_same, hk, Reps0.mono (ext_frz (al := al) hF hp).f q0⟩
  | true =>
    have x : Ext F al H F (al ++ [p]) (upd H p (.dK kvs)) := ext_new hF hp
    refine h _ _ _ _ x (C.new hp ⟨hF, kvs, upd_same, hk, x.reps q⟩) ⟨p, rfl, ?_⟩
    rw [← C.len, List.getElem?_append_right (Nat.le_refl _), Nat.sub_self]
    rfl
def keysN (n : Nat) : List Key := (List.range n).map fun i => (.inl ((i : Nat) : Int) : Key)
def oDictEn (c : Bool) : OpN := fun cl ds => match ds with
  | [x] => match asList cl x with
    | some ws => freshK c (keysN ws.length) ws cl
    | none => none
  | _ => none
section
variable {X : Cx} {e : Expr} {p p2 q pos : Pos}
theorem pf_dictEn (c : Bool) {ms : MS} (hg : Gl X "dict") (hm : X.mg "dict" = none) (hg2 : Gl X "enumerate") (hm2 : X.mg "enumerate" = none) (ha : PA X [e] (tFA X.K ms)) (hc : X.calm = true := by rfl)
    (hs : starEach [e] X.env = [(false, eval e X.env)] := by rfl) (na : starEach [.Call (.Name "enumerate" p2) [e] [] q] X.env = (false, eval (.Call (.Name "enumerate" p2) [e] [] q) X.env) :: starEach [] X.env := by rfl) :
    PE X (.Call (.Name "dict" p) [.Call (.Name "enumerate" p2) [e] [] q] [] pos) (tF X.K (eCall (oDictEn c) ms)) :=
  PE.weak (pe_dictEn hg hm hg2 hm2 ha hc hs na) (w_call (t := fun xs H1 Q => ∃ (l : Addr) (vs : List V), xs = [.ref l] ∧ SqL X.K H1 l vs ∧ ∀ p, H1 p = none → Q (.ref p) (upd H1 p (.dK (numK 0 vs)))) fun vs H Q ⟨cl, F, al, ds, C, r, k⟩ => by
    obtain ⟨d, cl', e, kk⟩ := k.some
    unfold oDictEn at e k
    split at e
    · rename_i x
      obtain ⟨v, vr, rfl, rx, r0⟩ := r
      have r0 : vr = [] := r0
      subst r0
      simp only at k
      split at e
      · rename_i ws hw
        rw [hw] at k
        obtain ⟨a, us, rfl, h1, h2⟩ := asList_ok C rx hw
        refine ⟨a, us, rfl, h1, fun p hp => freshD_ok k C ?_ ?_ hp⟩
        · rw [numK_key, ← h2.length]
          simp [keysN]
        · rw [numK_val]
          exact h2
      · cases e
    · cases e)
end
/-! ### sorted(d), the keys ints -/
def intsK : List Key → Option (List Int)
  | [] => some []
  | .inl i :: ks => (intsK ks).map (i :: ·)
  | .inr _ :: _ => none
theorem intsK_ok : ∀ {ks : List Key} {zs : List Int}, intsK ks = some zs → ks = zs.map Sum.inl
  | [], zs, h => by
    cases h
    rfl
  | .inl i :: ks, zs, h => by
    obtain ⟨ys, e1, e2⟩ := Option.map_eq_some_iff.mp (show (intsK ks).map _ = _ from h)
    subst e2
    rw [intsK_ok e1]
    rfl
  | .inr _ :: _, zs, h => (nomatch h)
def sortI (zs : List Int) : List Int := zs.mergeSort fun a b => decide (a ≤ b)
theorem sortI_eq {zs ys : List Int} (h1 : ys.Perm zs) (h2 : ys.Pairwise (· ≤ ·)) : ys = sortI zs := by
  have q1 : (sortI zs).Perm zs := List.mergeSort_perm zs _
  have q2 : (sortI zs).Pairwise (· ≤ ·) := by
    have := List.pairwise_mergeSort (le := fun a b : Int => decide (a ≤ b)) (fun a b c h1 h2 => by simp at *; omega) (fun a b => by simp; omega) zs
    exact this.imp fun h => by simpa using h
  exact List.Perm.eq_of_pairwise (le := fun a b : Int => a ≤ b) (fun a b _ _ h k => by omega) h2 q2 (h1.trans q1.symm)
def oSortDI (c : Bool) : OpN := fun cl ds => match ds with
  | [x] => match asDk cl x with
    | some (ks, _) => match intsK ks with
      | some zs => if zs.length < 64 then fresh c ((sortI zs).map fun i => W.d (.int i)) cl else none
      | none => none
    | none => none
  | _ => none
theorem reps_intsW {K : PySem.W.Frag} {F : Hp} {al : List Addr} : ∀ zs : List Int, Reps K F al (zs.map fun i => W.d (.int i)) (zs.map V.int)
  | [] => rfl
  | i :: zs => ⟨.int i, zs.map V.int, rfl, rfl, reps_intsW zs⟩
theorem sortDI_ok (c : Bool) {X : Cx} (hc : X.calm = true) : CallR X (.builtin "sorted") (rNF X.K (oSortDI c)) := CallR.weak (call_sortedDI hc) fun vs H Q ⟨cl, F, al, ds, C, rs, k⟩ => by
  obtain ⟨d, cl', e, kk⟩ := k.some
  unfold oSortDI at e k
  split at e
  · rename_i x
    obtain ⟨v, vr, rfl, rx, r0⟩ := rs
    have r0 : vr = [] := r0
    subst r0
    simp only at k
    split at e
    · rename_i ks ws hw
      rw [hw] at k
      simp only at k
      split at e
      · rename_i zs hz
        rw [hz] at k
        simp only at k
        split at e
        · rename_i h64
          rw [if_pos h64] at k
          obtain ⟨a, kvs, rfl, g, q2, _⟩ := asDk_ok C rx hw
          refine ⟨a, kvs, zs, rfl, g, by rw [q2, intsK_ok hz], h64, fun ys p hp1 hp2 hp => ?_⟩
          rw [sortI_eq hp1 hp2]
          exact fresh_ok k C (reps_intsW _) hp
        · cases e
      · cases e
    · cases e
  · cases e
/-! ### isinstance, tuples too -/
def oIsiX : OpN := fun cl ds => match ds with
  | [x, .d (.op (.ty T))] => match tyX cl x with
    | some t => match kitB t T with
      | some b => some (.d (.bl b), cl)
      | none => none
    | none => none
  | _ => none
theorem isiX_ok {X : Cx} : CallR X (.builtin "isinstance") (rNF X.K oIsiX) := CallR.weak call_isi fun vs H Q ⟨cl, F, al, ds, C, rs, k⟩ => by
  obtain ⟨d, cl', e, kk⟩ := k.some
  unfold oIsiX at e
  split at e
  · rename_i x T
    obtain ⟨v, vr, rfl, r1, v2, vr2, rfl, r2, r0⟩ := rs
    have r0 : vr2 = [] := r0
    have r2 : v2 = .ty T := r2
    subst r0 r2
    split at e
    · rename_i t ht
      split at e
      · rename_i b hb
        cases e
        exact ⟨v, .ty T, .type t, .type T, b, rfl, .ty T, tyX_ok C r1 ht, kit_ty hb, kk F al _ H (Ext.refl _ _ _) C rfl⟩
      · cases e
    · cases e
  · cases e
/-! ### nothing is promised -/
theorem fn_none {P : Program} {w : World} {K : PySem.W.Frag} {mg : Str → Option Value} {base : Heap} {k : Nat} {f : Addr} {fd : FuncData} {ps : List Str} {n : Nat} : FnOk P w K mg base CX0 k f fd ps (spF K n fun _ _ => none) :=
  ⟨fun vs H Q E ⟨cl, F, al, ds, C, r, hl, k⟩ => (show False from k).elim, fun A outer s H args us vs Q E hr he hb hv ⟨cl, F, al, ds, C, r, hl, k⟩ => (show False from k).elim⟩
end FL
/-! a dict comprehension of two clauses -/
namespace L2
open PySem PySem.Spec PyProof.Rows
/-- one turn of a clause: the next item stored and tested, then B -/
def turnOf (ip : Pos) (itv : Value) (tg : Expr) (fs : List Expr) (en : Env) (B ag : Sem Fin) : Sem Fin := do
  standAt ip
  match ← pyNext itv with
  | none => pure (.done .next)
  | some v =>
    letOwnedTupleGo tg itv v
    assign tg en v
    let mut go := true
    for f in fs do
      if go then go ← isTrue f en (eval f en)
    if go then B else ag
/-- what the slots know stays known -/
def Knows (τ σ : St) : Prop := σ.length = τ.length ∧ ∀ (j : Nat) v, τ[j]? = some (some v) → σ[j]? = some (some v)
section
variable {Y : Cx} {kx vx tg : Expr} {gs : List Comprehension} {scp : Scope} {at_ : Pos} {k : Nat} {ita : Addr} {acc : Value} {fs : List Expr} {B : Sem Fin} {ip : Pos} {R : Result → Shared → Prop} {J : It} {fp : List Addr} {tn : Nat → Heap → Prop} {g : TG} {tt : TT} {pn : List (Addr × Obj)} {τ : St}
/-- the loop of a clause -/
theorem loopS (hc : Y.calm = true) (hx : ∀ a z, Y.xe a z → False) (he : compTurn (.DictComp kx vx gs scp at_) k (.ref ita) acc Y.env = turnOf ip (.ref ita) tg fs Y.env B (again (.compLoop (.DictComp kx vx gs scp at_) k (.ref ita) acc Y.env))) (T : Turn Y.prog Y.w Y.K tg J fp ita tn) (pg : PG Y tg g) (pt : PTs Y fs tt)
    (W : Nat → Nat → Hp → Prop) (rest : ∀ b ∈ fp, ∀ H : Hp, H b = none → FpOk Y pn H b)
    (turn : ∀ i m H, W i m H → (J.stop i H ∧ ∀ z, Inv Y pn τ H z → R (.ok .next) z) ∨ (J.go i H ∧ ∃ Nx : Hp → Prop, (∀ H', Nx H' → ∃ m', m' < m ∧ W (i + 1) m' H') ∧ ∀ x H', J.yld i H x H' → ∃ P : St → Hp → Prop, g x τ H' P ∧ ∀ σ2 H2, P σ2 H2 → Knows τ σ2 ∧ ∃ P3 : Bool → Hp → Prop, tt σ2 H2 P3 ∧ ∀ b H3, P3 b H3 →
      if b = true then ∀ z pl, Inv Y (pn ++ pl) σ2 H3 z → wpAny (model Y.prog Y.w) Y.A B (fun r z' => r = .again (.compLoop (.DictComp kx vx gs scp at_) k (.ref ita) acc Y.env) ∧ ∃ σ4 H4, Inv Y (pn ++ pl) σ4 H4 z' ∧ Knows τ σ4 ∧ Nx H4) (fun _ _ => False) z else Nx H3))
    {s : Shared} {H : Hp} {m : Nat} (I : Inv Y pn τ H s) (st : tn 0 s.heap) (nf : ∀ b ∈ fp, H b = none) (w : W 0 m H) : codeAny (model Y.prog Y.w) Y.A (.compLoop (.DictComp kx vx gs scp at_) k (.ref ita) acc Y.env) R s := by
  refine codeAny_loop rfl (fun n z => ∃ i H', Inv Y pn τ H' z ∧ tn i z.heap ∧ (∀ b ∈ fp, H' b = none) ∧ W i n H') (fun n z ⟨i, H1, I1, st1, nf1, w1⟩ => ?_) m ⟨0, H, I, st, nf, w⟩
  show wpAny (model Y.prog Y.w) Y.A ((compTurn (.DictComp kx vx gs scp at_) k (.ref ita) acc Y.env).onRaise (fun x => do noteFrame x Y.env; theTreesLotGoes x)) _ _ z
  refine wpAny_noted ?_
  rw [he]
  unfold turnOf
  refine wpAny_bind (wpAny_standAt (wpAny_bind ?_))
  have ok1 : ∀ b ∈ fp, FpOk Y pn H1 b := fun b hb => rest b hb H1 (nf1 b hb)
  rcases turn i n H1 w1 with ⟨stop, out⟩ | ⟨go, Nx, hNx, step⟩
  · refine thnF (T.done Y rfl rfl rfl hc i pn z τ H1 (fun _ _ => False) I1 ok1 st1 stop) fun r z2 ⟨er, I2⟩ => ?_
    subst er
    exact wpAny_pure (out z2 I2)
  · refine thnF (T.item Y rfl rfl rfl hc i pn z τ H1 (fun _ _ => False) I1 ok1 st1 go) fun r z2 ⟨u, er, h2⟩ => ?_
    subst er
    refine wpAny_bind (thnF h2 fun _ z3 ⟨x, H3, I3, r3, y3, st3, nf3⟩ => ?_)
    have I3p := I3.pinned (fun b hb => rest b hb H3 (nf3 b hb)) (T.obj _ _ st3)
    obtain ⟨P, hP, next⟩ := step x H3 y3
    refine wpAny_bind (wpAny_mono (pg.run _ z3 τ H3 x u P I3p r3 hP) (fun _ z4 ⟨σ4, H4, I4, p4⟩ => ?_) fun ex zx hx' => ?_)
    · obtain ⟨kn4, P3, q4, last⟩ := next σ4 H4 p4
      refine wpAny_bind (wpAny_mono (pt.run _ z4 σ4 H4 P3 I4 q4) (fun go z5 ⟨H5, I5, p5⟩ => ?_) fun ex zx hx' => ?_)
      · have q5 := last go H5 p5
        have fin : ∀ {z' : Shared} {σ' : St} {H' : Hp}, Inv Y (pn ++ pinsAt fp z3.heap) σ' H' z' → Knows τ σ' → Nx H' → ∃ m', m' < n ∧ ∃ i H', Inv Y pn τ H' z' ∧ tn i z'.heap ∧ (∀ b ∈ fp, H' b = none) ∧ W i m' H' := fun {z' σ' H'} I' kn nx => by
          obtain ⟨m', hm, w'⟩ := hNx H' nx
          have here : ∀ b ∈ fp, ∀ o, z3.heap.get? b = some o → z'.heap.get? b = some o ∧ H' b = none := fun b hb o eo => by
            have q := I'.pin (b, o) (List.mem_append_right _ (List.mem_append_right _ (mem_pinsAt hb eo)))
            exact ⟨q.1, q.2.1⟩
          refine ⟨m', hm, i + 1, H', I'.unpinned.weak kn.1.symm kn.2, T.keep _ _ _ st3 fun b hb o eo => (here b hb o eo).1, fun b hb => ?_, w'⟩
          obtain ⟨o, eo, _⟩ := T.obj _ _ st3 b hb
          exact (here b hb o eo).2
        cases go with
        | false =>
          have q5 : Nx H5 := by simpa using q5
          exact wpAny_pure ⟨rfl, fin I5 kn4 q5⟩
        | true =>
          have q5 := (show (∀ z pl, Inv Y (pn ++ pl) σ4 H5 z → wpAny (model Y.prog Y.w) Y.A B (fun r z' => r = .again (.compLoop (.DictComp kx vx gs scp at_) k (.ref ita) acc Y.env) ∧ ∃ σ4 H4, Inv Y (pn ++ pl) σ4 H4 z' ∧ Knows τ σ4 ∧ Nx H4) (fun _ _ => False) z) by simpa using q5) z5 _ I5
          refine thnF q5 fun r z6 ⟨er, σ6, H6, I6, kn6, nx6⟩ => ?_
          subst er
          exact ⟨rfl, fin I6 kn6 nx6⟩
      · exact (hx ex zx hx').elim
    · exact (hx ex zx hx').elim
end
section
variable {kx vx t0 i0 t1 i1 : Expr} {fs0 fs1 : List Expr} {sc : Scope} {ps : Pos}
theorem turn_d0 (itv acc : Value) (en : Env) : compTurn (.DictComp kx vx [⟨t0, i0, fs0, 0⟩, ⟨t1, i1, fs1, 0⟩] sc ps) 0 itv acc en = turnOf i0.pos itv t0 fs0 en (do
    let x ← eval i1 en
    standAt i1.pos
    let x ← foldedSetIterable i1 en x
    let _ ← runOwn (.compStart (.DictComp kx vx [⟨t0, i0, fs0, 0⟩, ⟨t1, i1, fs1, 0⟩] sc ps) 1 (← holding [x] (pyIter x)) acc en) en
    again (.compLoop (.DictComp kx vx [⟨t0, i0, fs0, 0⟩, ⟨t1, i1, fs1, 0⟩] sc ps) 0 itv acc en)) (again (.compLoop (.DictComp kx vx [⟨t0, i0, fs0, 0⟩, ⟨t1, i1, fs1, 0⟩] sc ps) 0 itv acc en)) := by rfl
theorem turn_d1 (itv : Value) (D : Addr) (en : Env) : compTurn (.DictComp kx vx [⟨t0, i0, fs0, 0⟩, ⟨t1, i1, fs1, 0⟩] sc ps) 1 itv (.ref D) en = turnOf i1.pos itv t1 fs1 en (do
    (do
      let kv ← eval kx en
      let vv ← holding [kv] (eval vx en)
      standAt { kx.pos with endLine := vx.pos.endLine, endCol := vx.pos.endCol }
      holding [kv, vv] (dictSet D kv vv))
    again (.compLoop (.DictComp kx vx [⟨t0, i0, fs0, 0⟩, ⟨t1, i1, fs1, 0⟩] sc ps) 1 itv (.ref D) en)) (again (.compLoop (.DictComp kx vx [⟨t0, i0, fs0, 0⟩, ⟨t1, i1, fs1, 0⟩] sc ps) 1 itv (.ref D) en)) := by rfl
/-- the second clause's beginning -/
theorem start_d1 {prog : Program} {w : World} {A : Around} {en : Env} {R : Result → Shared → Prop} {z : Shared} {itv acc : Value} (h0 : codeAny (model prog w) A (.compLoop (.DictComp kx vx [⟨t0, i0, fs0, 0⟩, ⟨t1, i1, fs1, 0⟩] sc ps) 1 itv acc en) R z)
    (hi : wpAny (model prog w) A (pyIter itv) (fun jt z' => codeAny (model prog w) A (.compLoop (.DictComp kx vx [⟨t0, i0, fs0, 0⟩, ⟨t1, i1, fs1, 0⟩] sc ps) 1 jt acc en) R z') (notedBy (model prog w) A en fun x z' => R (.error x) z') z) :
    codeAny (model prog w) A (.compStart (.DictComp kx vx [⟨t0, i0, fs0, 0⟩, ⟨t1, i1, fs1, 0⟩] sc ps) 1 itv acc en) R z := by
  refine codeAny_of_tree ?_
  show wpAny (model prog w) _ ((compStart (.DictComp kx vx [⟨t0, i0, fs0, 0⟩, ⟨t1, i1, fs1, 0⟩] sc ps) 1 itv acc en).onRaise fun x => do noteFrame x en; standAt theWindowsPlace) _ _ z
  refine wpAny_notedAt ?_
  unfold compStart
  refine wpAny_bind (wpAny_askSetting (wpAny_ite ?_))
  split
  · first
      | exact wpAny_pure ⟨rfl, h0⟩
      | exact wpAny_bind (wpAny_pure (wpAny_pure ⟨rfl, h0⟩))
  · refine wpAny_bind (wpAny_rule ?_)
    refine wpAny_bind (wpAny_standAt (wpAny_bind ?_))
    exact wpAny_mono hi (fun jt z' h => wpAny_pure ⟨rfl, h⟩) fun _ _ x => x
/-- {k: v for a in xs if .. for b in ys if ..} -/
def tDc2 (wi : TI) (g : TG) (tt : TT) (wi1 : TI) (g1 : TG) (tt1 : TT) (tk tv : TE) (vs vs1 : List Nat) : TE := fun σ H Q => wi σ H fun J H1 => ∀ D, H1 D = none → ∃ W : Nat → Nat → Hp → Prop, (∃ m, W 0 m (upd H1 D (.dK []))) ∧
  ∀ i m H, W i m H → (J.stop i H ∧ Q (.ref D) H) ∨ (J.go i H ∧ ∃ Nx : Hp → Prop, (∀ H', Nx H' → ∃ m', m' < m ∧ W (i + 1) m' H') ∧ ∀ x H', J.yld i H x H' → ∃ P : St → Hp → Prop, g x (wipe σ vs) H' P ∧ ∀ σ2 H2, P σ2 H2 → Knows (wipe σ vs) σ2 ∧
    ∃ P3 : Bool → Hp → Prop, tt σ2 H2 P3 ∧ ∀ b H3, P3 b H3 → if b = true then wi1 σ2 H3 fun J1 H4 => ∃ W1 : Nat → Nat → Hp → Prop, (∃ m, W1 0 m H4) ∧
      ∀ j k H, W1 j k H → (J1.stop j H ∧ Nx H) ∨ (J1.go j H ∧ ∃ N1 : Hp → Prop, (∀ H', N1 H' → ∃ k', k' < k ∧ W1 (j + 1) k' H') ∧ ∀ x H', J1.yld j H x H' → ∃ P4 : St → Hp → Prop, g1 x (wipe σ2 vs1) H' P4 ∧ ∀ σ5 H5, P4 σ5 H5 → Knows (wipe σ2 vs1) σ5 ∧
        ∃ P6 : Bool → Hp → Prop, tt1 σ5 H5 P6 ∧ ∀ b H6, P6 b H6 → if b = true then tk σ5 H6 fun y H7 => tv σ5 H7 fun z H8 => ∃ kvs k, y = kV k ∧ H8 D = some (.dK kvs) ∧ kvs.length < sizeLine ∧ N1 (upd H8 D (.dK (putK kvs k z))) else N1 H6)
    else Nx H3)
theorem knows_wipe {σ τ : St} {vs vs1 : List Nat} (h : Knows (wipe σ vs) τ) (hv : ∀ i ∈ vs1, i ∈ vs) : Knows (wipe σ vs) (wipe τ vs1) := by
  refine ⟨by rw [wipe_length]; exact h.1, fun j v e => ?_⟩
  obtain ⟨e1, e2⟩ := wipe_some e
  rw [wipe_out fun q => e2 (hv j q)]
  exact h.2 j v e
theorem Knows.trans {a b c : St} (h : Knows a b) (k : Knows b c) : Knows a c := ⟨k.1.trans h.1, fun j v e => k.2 j v (h.2 j v e)⟩
theorem Knows.self {a : St} : Knows a a := ⟨rfl, fun _ _ e => e⟩
abbrev DC2 (kx vx t0 i0 : Expr) (fs0 : List Expr) (t1 i1 : Expr) (fs1 : List Expr) (sc : Scope) (ps : Pos) : Expr := .DictComp kx vx [⟨t0, i0, fs0, 0⟩, ⟨t1, i1, fs1, 0⟩] sc ps
/-- the block, from the new dict at D on -/
theorem dc2_block {X : Cx} {own : List (Str × Nat)} {vs1 : List Nat} {wi1 : TI} {g g1 : TG} {tt tt1 : TT} {tk tv : TE} {pins : List (Addr × Obj)} {σ : St} {H3 : Hp} {z3 : Shared} {Q : VK} {D ita : Addr} {fp : List Addr} {tn : Nat → Heap → Prop} {J : It} (hc : X.calm = true) (hN : X.N.Nodup) (ok : BlkOk X.N X.env.scope sc own) (hv : ∀ i ∈ vs1, i ∈ own.map (·.2))
    (hg : ∀ (s : Shared) (H : Hp) (C : Addr) (cl : List (Str × Addr)) (fp : List Addr), PG (X.blk s H sc (compEnvC sc cl C X.env) fp) t0 g)
    (ht : ∀ (s : Shared) (H : Hp) (C : Addr) (cl : List (Str × Addr)) (fp : List Addr), PTs (X.blk s H sc (compEnvC sc cl C X.env) fp) fs0 tt)
    (hi1 : ∀ (s : Shared) (H : Hp) (C : Addr) (cl : List (Str × Addr)) (fp : List Addr), PI (X.blk s H sc (compEnvC sc cl C X.env) fp) t1 i1 wi1)
    (hg1 : ∀ (s : Shared) (H : Hp) (C : Addr) (cl : List (Str × Addr)) (fp : List Addr), PG (X.blk s H sc (compEnvC sc cl C X.env) fp) t1 g1)
    (ht1 : ∀ (s : Shared) (H : Hp) (C : Addr) (cl : List (Str × Addr)) (fp : List Addr), PTs (X.blk s H sc (compEnvC sc cl C X.env) fp) fs1 tt1)
    (hk : ∀ (s : Shared) (H : Hp) (C : Addr) (cl : List (Str × Addr)) (fp : List Addr), PE (X.blk s H sc (compEnvC sc cl C X.env) fp) kx tk)
    (hw : ∀ (s : Shared) (H : Hp) (C : Addr) (cl : List (Str × Addr)) (fp : List Addr), PE (X.blk s H sc (compEnvC sc cl C X.env) fp) vx tv)
    (hs1 : ∀ en x, foldedSetIterable i1 en x = pure x) {use : Option (Value → Sem Unit)} {Qf : Value → Shared → Prop} (out : ∀ C s' m H', Inv X pins σ H' s' → Q (.ref D) H' → s'.heap.Ns C m → FpOk X pins H' C → compPost (model X.prog X.w) X.A X.xe use Qf (.ref D) C (.ok .next) s') (I3 : Inv X pins σ H3 z3) (ok3 : ∀ b ∈ fp, FpOk X pins H3 b ∧ b < z3.heap.objs.size) (T : Turn X.prog X.w X.K t0 J fp ita tn) (st3 : tn 0 z3.heap) {W : Nat → Nat → Hp → Prop} {m0 : Nat} (w0 : W 0 m0 H3)
    (outer : ∀ i m H, W i m H → (J.stop i H ∧ Q (.ref D) H) ∨ (J.go i H ∧ ∃ Nx : Hp → Prop, (∀ H', Nx H' → ∃ m', m' < m ∧ W (i + 1) m' H') ∧ ∀ x H', J.yld i H x H' → ∃ P : St → Hp → Prop, g x (wipe σ (own.map (·.2))) H' P ∧ ∀ σ2 H2, P σ2 H2 → Knows (wipe σ (own.map (·.2))) σ2 ∧
      ∃ P3 : Bool → Hp → Prop, tt σ2 H2 P3 ∧ ∀ b H3, P3 b H3 → if b = true then wi1 σ2 H3 fun J1 H4 => ∃ W1 : Nat → Nat → Hp → Prop, (∃ m, W1 0 m H4) ∧
        ∀ j k H, W1 j k H → (J1.stop j H ∧ Nx H) ∨ (J1.go j H ∧ ∃ N1 : Hp → Prop, (∀ H', N1 H' → ∃ k', k' < k ∧ W1 (j + 1) k' H') ∧ ∀ x H', J1.yld j H x H' → ∃ P4 : St → Hp → Prop, g1 x (wipe σ2 vs1) H' P4 ∧ ∀ σ5 H5, P4 σ5 H5 → Knows (wipe σ2 vs1) σ5 ∧
          ∃ P6 : Bool → Hp → Prop, tt1 σ5 H5 P6 ∧ ∀ b H6, P6 b H6 → if b = true then tk σ5 H6 fun y H7 => tv σ5 H7 fun z H8 => ∃ kvs k, y = kV k ∧ H8 D = some (.dK kvs) ∧ kvs.length < sizeLine ∧ N1 (upd H8 D (.dK (putK kvs k z))) else N1 H6)
      else Nx H3)) :
    codeAny (model X.prog X.w) X.A (.compStart (DC2 kx vx t0 i0 fs0 t1 i1 fs1 sc ps) 0 (.ref ita) (.ref D) (compEnvC sc (cellsFrom (z3.heap.objs.size + 1) sc.names (cloFrom X.env.cells sc.names [])) z3.heap.objs.size X.env)) (compPost (model X.prog X.w) X.A X.xe use Qf (.ref D) z3.heap.objs.size)
      { z3 with heap := pushCells (z3.heap.push { cls := .type "dict", data := .dict #[] }) sc.names } := by
  have I4 := block_start I3 ok hN ok3
  have G := hg z3 H3 z3.heap.objs.size (cellsFrom (z3.heap.objs.size + 1) sc.names (cloFrom X.env.cells sc.names [])) fp
  have Tt := ht z3 H3 z3.heap.objs.size (cellsFrom (z3.heap.objs.size + 1) sc.names (cloFrom X.env.cells sc.names [])) fp
  have Pi := hi1 z3 H3 z3.heap.objs.size (cellsFrom (z3.heap.objs.size + 1) sc.names (cloFrom X.env.cells sc.names [])) fp
  have G1 := hg1 z3 H3 z3.heap.objs.size (cellsFrom (z3.heap.objs.size + 1) sc.names (cloFrom X.env.cells sc.names [])) fp
  have T1t := ht1 z3 H3 z3.heap.objs.size (cellsFrom (z3.heap.objs.size + 1) sc.names (cloFrom X.env.cells sc.names [])) fp
  have Ke := hk z3 H3 z3.heap.objs.size (cellsFrom (z3.heap.objs.size + 1) sc.names (cloFrom X.env.cells sc.names [])) fp
  have Ve := hw z3 H3 z3.heap.objs.size (cellsFrom (z3.heap.objs.size + 1) sc.names (cloFrom X.env.cells sc.names [])) fp
  have cL : (compEnvC sc (cellsFrom (z3.heap.objs.size + 1) sc.names (cloFrom X.env.cells sc.names [])) z3.heap.objs.size X.env).locals = z3.heap.objs.size := rfl
  generalize compEnvC sc (cellsFrom (z3.heap.objs.size + 1) sc.names (cloFrom X.env.cells sc.names [])) z3.heap.objs.size X.env = ce at *
  have st4 : tn 0 (pushCells (z3.heap.push { cls := .type "dict", data := .dict #[] }) sc.names) := T.keep _ _ _ st3 fun b _ o eo => pushCells_keeps _ _ _ _ (Heap.get?_push_of_some _ eo)
  have rest : ∀ b ∈ fp, ∀ H : Hp, H b = none → FpOk (X.blk z3 H3 sc ce fp) [] H b := fun b hb H hn =>
    ⟨hn, (I4.ok.exf b hb).1, I4.ok.exfs b hb, .inl hb, fun x c q => (I4.ok.exf b hb).2 x c q, fun p hp => absurd (show p ∈ ([] : List (Addr × Obj)) ++ [] from hp) (by simp)⟩
  have loop := loopS (Y := X.blk z3 H3 sc ce fp) (pn := []) (τ := wipe σ (own.map (·.2))) (R := compPost (model X.prog X.w) X.A X.xe use Qf (.ref D) z3.heap.objs.size) hc (fun _ _ q => q) (turn_d0 (kx := kx) (vx := vx) (t0 := t0) (i0 := i0) (t1 := t1) (i1 := i1) (fs0 := fs0) (fs1 := fs1) (sc := sc) (ps := ps) (.ref ita) (.ref D) ce) T G Tt W rest (fun i m H hwW => ?_) I4 st4 (fun b hb => (ok3 b hb).1.1) w0
  · exact codeAny_compStart_dict loop (T.self X.A 0 _ _ _ st4 loop)
  rcases outer i m H hwW with ⟨stop, fine⟩ | ⟨go, Nx, less, step⟩
  · refine .inl ⟨stop, fun z Iz => ?_⟩
    have Ix : Inv X pins σ H z := I3.call' (ch := fp) Iz.os Iz.base Iz.hok Iz.bare fun b hb => let ⟨_, b1, _, b3, b4, b5⟩ := (ok3 b hb).1; ⟨b3, b1, b4, b5⟩
    have Cn : H z3.heap.objs.size = none := cL ▸ (show H ce.locals = none from Iz.free)
    obtain ⟨m, ns, _⟩ := Iz.loc
    have ns : z.heap.Ns z3.heap.objs.size m := cL ▸ (show z.heap.Ns ce.locals m from ns)
    exact out _ z m H Ix fine ns (I3.fpOk (H' := H) (Nat.le_refl _) Cn)
  · refine .inr ⟨go, Nx, less, fun x H' y => ?_⟩
    obtain ⟨P, hP, after⟩ := step x H' y
    refine ⟨P, hP, fun σ2 H2 p2 => ?_⟩
    obtain ⟨kn, P3, h3, last⟩ := after σ2 H2 p2
    refine ⟨kn, P3, h3, fun b H5 p5 => ?_⟩
    have q5 := last b H5 p5
    cases b with
    | false => simpa using q5
    | true =>
      simp only [if_true] at q5 ⊢
      intro z pl Iz
      refine wpAny_bind (thnF (Pi.run _ z σ2 H5 _ Iz q5) fun v z6 hx => ?_)
      refine wpAny_bind (wpAny_standAt (wpAny_bind (wpAny_of_eq (hs1 ce v) (wpAny_bind (wpAny_holding (thnF hx fun jv z7 ⟨it1, fp1, tn1, J1, H7, ej, I7, U, st7, ok7, W1, ⟨m1, w1⟩, inner⟩ => ?_))))))
      subst ej
      refine wpAny_bind (wpAny_runOwn ?_)
      rw [Around.mark_none]
      have loop1 := loopS (Y := X.blk z3 H3 sc ce fp) (pn := [] ++ pl) (τ := wipe σ2 vs1) (R := fun r s' => match r with
          | .ok _ => ∃ σ4 H4, Inv (X.blk z3 H3 sc ce fp) ([] ++ pl) σ4 H4 s' ∧ Knows (wipe σ (own.map (·.2))) σ4 ∧ Nx H4
          | .error _ => False) hc (fun _ _ q => q) (turn_d1 (kx := kx) (vx := vx) (t0 := t0) (i0 := i0) (t1 := t1) (i1 := i1) (fs0 := fs0) (fs1 := fs1) (sc := sc) (ps := ps) (.ref it1) D ce) U G1 T1t W1 (fun b hb H hn => ⟨hn, (ok7 b hb).2⟩) (fun j k H hw1 => ?_) (I7.weak (wipe_length _ _) fun j v e => (wipe_some e).1) st7 (fun b hb => (ok7 b hb).1) w1
      · refine codeAny_mono (start_d1 loop1 (U.self _ 0 _ _ _ st7 loop1)) fun r s' hr => ?_
        cases r with
        | ok f => exact wpAny_pure ⟨rfl, hr⟩
        | error e => exact hr.elim
      rcases inner j k H hw1 with ⟨stop1, nx⟩ | ⟨go1, N1, less1, step1⟩
      · exact .inl ⟨stop1, fun z Iz => ⟨wipe σ2 vs1, H, Iz, knows_wipe kn hv, nx⟩⟩
      · refine .inr ⟨go1, N1, less1, fun x H' y => ?_⟩
        obtain ⟨P4, h4, after1⟩ := step1 x H' y
        refine ⟨P4, h4, fun σ5 H5' p5 => ?_⟩
        obtain ⟨kn5, P6, h6, last1⟩ := after1 σ5 H5' p5
        refine ⟨kn5, P6, h6, fun b H6 p6 => ?_⟩
        have q6 := last1 b H6 p6
        cases b with
        | false => simpa using q6
        | true =>
          simp only [if_true] at q6 ⊢
          intro z8 pl1 I8
          refine wpAny_bind (wpAny_bind (thnF (Ke.run _ z8 σ5 H6 _ I8 q6) fun kv z9 ⟨y, H9, I9, ry, q9⟩ => ?_))
          refine wpAny_bind (wpAny_holding (thnF (Ve.run _ z9 σ5 H9 _ I9 q9) fun vv z10 ⟨zv, H10, I10, rz, kvs, kk, ek, hD, hz, nx⟩ => ?_))
          subst ek
          refine wpAny_bind (wpAny_standAt (wpAny_holding (d_dictSet (X := X.blk z3 H3 sc ce fp) I10 hD hz ry rz fun z11 I11 => ?_)))
          exact wpAny_pure ⟨rfl, σ5, _, I11, kn5, nx⟩
theorem dc2_from {X : Cx} {own : List (Str × Nat)} {vs1 : List Nat} {wi wi1 : TI} {g g1 : TG} {tt tt1 : TT} {tk tv : TE} {pins : List (Addr × Obj)} {s : Shared} {σ : St} {H : Hp} {Q : VK} {use : Option (Value → Sem Unit)} {Qf : Value → Shared → Prop} {pp : Pos} (hc : X.calm = true) (hN : X.N.Nodup) (I : Inv X pins σ H s) (hi : PI X t0 i0 wi) (ok : BlkOk X.N X.env.scope sc own) (hv : ∀ i ∈ vs1, i ∈ own.map (·.2))
    (hg : ∀ (s : Shared) (H : Hp) (C : Addr) (cl : List (Str × Addr)) (fp : List Addr), PG (X.blk s H sc (compEnvC sc cl C X.env) fp) t0 g)
    (ht : ∀ (s : Shared) (H : Hp) (C : Addr) (cl : List (Str × Addr)) (fp : List Addr), PTs (X.blk s H sc (compEnvC sc cl C X.env) fp) fs0 tt)
    (hi1 : ∀ (s : Shared) (H : Hp) (C : Addr) (cl : List (Str × Addr)) (fp : List Addr), PI (X.blk s H sc (compEnvC sc cl C X.env) fp) t1 i1 wi1)
    (hg1 : ∀ (s : Shared) (H : Hp) (C : Addr) (cl : List (Str × Addr)) (fp : List Addr), PG (X.blk s H sc (compEnvC sc cl C X.env) fp) t1 g1)
    (ht1 : ∀ (s : Shared) (H : Hp) (C : Addr) (cl : List (Str × Addr)) (fp : List Addr), PTs (X.blk s H sc (compEnvC sc cl C X.env) fp) fs1 tt1)
    (hk : ∀ (s : Shared) (H : Hp) (C : Addr) (cl : List (Str × Addr)) (fp : List Addr), PE (X.blk s H sc (compEnvC sc cl C X.env) fp) kx tk)
    (hw : ∀ (s : Shared) (H : Hp) (C : Addr) (cl : List (Str × Addr)) (fp : List Addr), PE (X.blk s H sc (compEnvC sc cl C X.env) fp) vx tv)
    (hs : ∀ x, foldedSetIterable i0 X.env x = pure x) (hs1 : ∀ en x, foldedSetIterable i1 en x = pure x)
    (out : ∀ D C s' m H', Inv X pins σ H' s' → Q (.ref D) H' → s'.heap.Ns C m → FpOk X pins H' C → compPost (model X.prog X.w) X.A X.xe use Qf (.ref D) C (.ok .next) s') (h : tDc2 wi g tt wi1 g1 tt1 tk tv (own.map (·.2)) vs1 σ H Q) :
    wpAny (model X.prog X.w) X.A (comprehension (DC2 kx vx t0 i0 fs0 t1 i1 fs1 sc ps) sc X.env pp newDict false (eval i0 X.env) use) Qf X.xe s := by
  have cells : ∀ y ∈ sc.names, y.2 = .free → ∃ c, X.env.cells.lookup y.1 = some c := fun y hy q => (ok.free y hy q).elim (fun u => I.ok.has _ (.inl u)) fun u => I.ok.has _ (.inr u)
  refine wpAny_comprehension_free (use := use) rfl hs (closure_ok cells) ok.kind (fun y hy q => (ok.uniq y hy).trans (congrArg some q)) ?_
  refine thn (hi.run pins s σ H _ I h) fun v0 z1 h1 => thn h1 fun v1 z2 ⟨ita, fp, tn, J, H2, ev, I2, T, st2, ok2, q⟩ => ?_
  subst ev
  refine wpAny_newObj_type (newEnv_comp ?_)
  -- the new dict at D, the block's names at C
  have Dn : H2 z2.heap.objs.size = none := I2.hok.fresh (Nat.le_refl _)
  obtain ⟨W, ⟨m0, w0⟩, outer⟩ := q _ Dn
  have I3 : Inv X pins σ (upd H2 z2.heap.objs.size (.dK [])) { z2 with heap := z2.heap.push { cls := .type "dict", data := .dict #[] } } :=
    I2.laid (t' := z2.toks) (fun b o eo => Heap.get?_push_of_some _ eo) (Nat.le_refl _) (dk_empty z2.heap I2.big)
  have lt2 : ∀ b ∈ fp, b < z2.heap.objs.size := fun b hb => let ⟨_, eo, _⟩ := T.obj _ _ st2 b hb; Heap.lt_size eo
  have ok3 : ∀ b ∈ fp, FpOk X pins (upd H2 z2.heap.objs.size (.dK [])) b ∧ b < (z2.heap.push { cls := .type "dict", data := .dict #[] }).objs.size := fun b hb =>
    ⟨⟨(upd_ne (Nat.ne_of_lt (lt2 b hb))).trans (ok2 b hb).1, (ok2 b hb).2⟩, by rw [Heap.size_push]; exact Nat.lt_succ_of_lt (lt2 b hb)⟩
  exact dc2_block hc hN ok hv hg ht hi1 hg1 ht1 hk hw hs1 (out _) I3 ok3 T (T.keep _ _ _ st2 fun b _ o eo => Heap.get?_push_of_some _ eo) w0 outer
/-- as a value -/
theorem pe_dc2 {X : Cx} {own : List (Str × Nat)} {vs1 : List Nat} {wi wi1 : TI} {g g1 : TG} {tt tt1 : TT} {tk tv : TE} (hc : X.calm = true) (hN : X.N.Nodup) (hi : PI X t0 i0 wi) (ok : BlkOk X.N X.env.scope sc own) (hv : ∀ i ∈ vs1, i ∈ own.map (·.2))
    (hg : ∀ (s : Shared) (H : Hp) (C : Addr) (cl : List (Str × Addr)) (fp : List Addr), PG (X.blk s H sc (compEnvC sc cl C X.env) fp) t0 g)
    (ht : ∀ (s : Shared) (H : Hp) (C : Addr) (cl : List (Str × Addr)) (fp : List Addr), PTs (X.blk s H sc (compEnvC sc cl C X.env) fp) fs0 tt)
    (hi1 : ∀ (s : Shared) (H : Hp) (C : Addr) (cl : List (Str × Addr)) (fp : List Addr), PI (X.blk s H sc (compEnvC sc cl C X.env) fp) t1 i1 wi1)
    (hg1 : ∀ (s : Shared) (H : Hp) (C : Addr) (cl : List (Str × Addr)) (fp : List Addr), PG (X.blk s H sc (compEnvC sc cl C X.env) fp) t1 g1)
    (ht1 : ∀ (s : Shared) (H : Hp) (C : Addr) (cl : List (Str × Addr)) (fp : List Addr), PTs (X.blk s H sc (compEnvC sc cl C X.env) fp) fs1 tt1)
    (hk : ∀ (s : Shared) (H : Hp) (C : Addr) (cl : List (Str × Addr)) (fp : List Addr), PE (X.blk s H sc (compEnvC sc cl C X.env) fp) kx tk)
    (hw : ∀ (s : Shared) (H : Hp) (C : Addr) (cl : List (Str × Addr)) (fp : List Addr), PE (X.blk s H sc (compEnvC sc cl C X.env) fp) vx tv)
    (hs : ∀ x, foldedSetIterable i0 X.env x = pure x := by intro _; rfl) (hs1 : ∀ en x, foldedSetIterable i1 en x = pure x := by intro _ _; rfl) :
    PE X (DC2 kx vx t0 i0 fs0 t1 i1 fs1 sc ps) (tDc2 wi g tt wi1 g1 tt1 tk tv (own.map (·.2)) vs1) := by
  refine ⟨fun pins s σ H Q I h => ?_⟩
  rw [arm_eval_DictComp]
  refine dc2_from hc hN I hi ok hv hg ht hi1 hg1 ht1 hk hw hs hs1 (fun D C s' m H' I' q ns f => ⟨m, ns, fun h' sb => ?_⟩) h
  obtain ⟨a0, a1, _, a3, a4, a5⟩ := f
  exact ⟨.ref D, H', I'.turned (t' := s'.toks) (fun b o hb q => (sb.2 b hb).trans q) a0 a1 a3 a4 a5, rfl, q⟩
/-- put into a name -/
theorem put_comp {X : Cx} {pins : List (Addr × Obj)} {σ : St} {i : Nat} {y : Str} {py : Pos} {D : Ends} (hN : X.N.Nodup) (hy : X.N[i]? = some y) (hyl : X.env.scope.names.lookup y = some .local) {L C : Addr} {s' : Shared} {m : Str → Option Value} {H' : Hp} (I' : Inv X pins σ H' s') (q : gName i (.ref L) σ H' D.nx) (hn : s'.heap.Ns C m) (f : FpOk X pins H' C) :
    compPost (model X.prog X.w) X.A X.xe (some (assign (.Name y py) X.env)) (fun _ s' => SP X pins D .next s') (.ref L) C (.ok .next) s' := by
  show wpAny _ _ (assign (.Name y py) X.env (.ref L)) _ _ _
  refine wpAny_assign_Name (store_ok2 (v := V.ref L) I' hN hy (.inl hyl) rfl (fun s2 I2 ⟨a, sb, ha⟩ => ?_) (.inr hyl))
  obtain ⟨a0, a1, _, a3, a4, a5⟩ := f
  have ne : C ≠ a := ha.elim (fun z => z ▸ a1) fun z q => a4 y a z q.symm
  exact ⟨m, hn.sameBut sb ne, fun h3 sb3 => ⟨_, H', I2.turned (t' := s2.toks) (fun b o hb q => (sb3.2 b hb).trans q) a0 a1 a3 a4 a5, q⟩⟩
theorem ps_setDc2 {X : Cx} {i : Nat} {y : Str} {py spos : Pos} {own : List (Str × Nat)} {vs1 : List Nat} {wi wi1 : TI} {g g1 : TG} {tt tt1 : TT} {tk tv : TE} (hc : X.calm = true) (hN : X.N.Nodup) (hy : X.N[i]? = some y) (hyl : X.env.scope.names.lookup y = some .local)
    (hsw : swapsWith (DC2 kx vx t0 i0 fs0 t1 i1 fs1 sc ps) (some (.Name y py)) spos.line X.env = pure true) (hi : PI X t0 i0 wi) (ok : BlkOk X.N X.env.scope sc own) (hv : ∀ i ∈ vs1, i ∈ own.map (·.2))
    (hg : ∀ (s : Shared) (H : Hp) (C : Addr) (cl : List (Str × Addr)) (fp : List Addr), PG (X.blk s H sc (compEnvC sc cl C X.env) fp) t0 g)
    (ht : ∀ (s : Shared) (H : Hp) (C : Addr) (cl : List (Str × Addr)) (fp : List Addr), PTs (X.blk s H sc (compEnvC sc cl C X.env) fp) fs0 tt)
    (hi1 : ∀ (s : Shared) (H : Hp) (C : Addr) (cl : List (Str × Addr)) (fp : List Addr), PI (X.blk s H sc (compEnvC sc cl C X.env) fp) t1 i1 wi1)
    (hg1 : ∀ (s : Shared) (H : Hp) (C : Addr) (cl : List (Str × Addr)) (fp : List Addr), PG (X.blk s H sc (compEnvC sc cl C X.env) fp) t1 g1)
    (ht1 : ∀ (s : Shared) (H : Hp) (C : Addr) (cl : List (Str × Addr)) (fp : List Addr), PTs (X.blk s H sc (compEnvC sc cl C X.env) fp) fs1 tt1)
    (hk : ∀ (s : Shared) (H : Hp) (C : Addr) (cl : List (Str × Addr)) (fp : List Addr), PE (X.blk s H sc (compEnvC sc cl C X.env) fp) kx tk)
    (hw : ∀ (s : Shared) (H : Hp) (C : Addr) (cl : List (Str × Addr)) (fp : List Addr), PE (X.blk s H sc (compEnvC sc cl C X.env) fp) vx tv)
    (hs : ∀ x, foldedSetIterable i0 X.env x = pure x := by intro _; rfl) (hs1 : ∀ en x, foldedSetIterable i1 en x = pure x := by intro _ _; rfl) :
    PS X (.Assign [.Name y py] (DC2 kx vx t0 i0 fs0 t1 i1 fs1 sc ps) spos) (tAsg (tDc2 wi g tt wi1 g1 tt1 tk tv (own.map (·.2)) vs1) (gName i)) := by
  refine ⟨fun pins s σ H D I h => ?_⟩
  rw [exec_Assign_Name_used _ _ _ _ hsw]
  refine wpAny_bind (wpAny_standAt (wpAny_bind ?_))
  show wpAny _ X.A (do let _ ← comprehension (DC2 kx vx t0 i0 fs0 t1 i1 fs1 sc ps) sc X.env (firstIterPos [⟨t0, i0, fs0, 0⟩, ⟨t1, i1, fs1, 0⟩] ps) newDict false (eval i0 X.env) (some (assign (.Name y py) X.env))) _ _ s
  exact wpAny_bind (thn (dc2_from (Q := fun x H1 => gName i x σ H1 D.nx) (Qf := fun _ s' => SP X pins D .next s') hc hN I hi ok hv hg ht hi1 hg1 ht1 hk hw hs hs1 (fun L C s' m H' I' q ns f => put_comp hN hy hyl I' q ns f) h) fun _ s' hq => wpAny_pure (wpAny_pure hq))
theorem ps_setDc {X : Cx} {i : Nat} {y : Str} {py spos : Pos} {own : List (Str × Nat)} {wi : TI} {g : TG} {tt : TT} {tk tv : TE} (hc : X.calm = true) (hN : X.N.Nodup) (hy : X.N[i]? = some y) (hyl : X.env.scope.names.lookup y = some .local)
    (hsw : swapsWith (.DictComp kx vx [⟨t0, i0, fs0, 0⟩] sc ps) (some (.Name y py)) spos.line X.env = pure true) (hi : PI X t0 i0 wi) (ok : BlkOk X.N X.env.scope sc own)
    (hg : ∀ (s : Shared) (H : Hp) (C : Addr) (cl : List (Str × Addr)) (fp : List Addr), PG (X.blk s H sc (compEnvC sc cl C X.env) fp) t0 g)
    (ht : ∀ (s : Shared) (H : Hp) (C : Addr) (cl : List (Str × Addr)) (fp : List Addr), PTs (X.blk s H sc (compEnvC sc cl C X.env) fp) fs0 tt)
    (hk : ∀ (s : Shared) (H : Hp) (C : Addr) (cl : List (Str × Addr)) (fp : List Addr), PE (X.blk s H sc (compEnvC sc cl C X.env) fp) kx tk)
    (hw : ∀ (s : Shared) (H : Hp) (C : Addr) (cl : List (Str × Addr)) (fp : List Addr), PE (X.blk s H sc (compEnvC sc cl C X.env) fp) vx tv)
    (hs : ∀ x, foldedSetIterable i0 X.env x = pure x := by intro _; rfl) :
    PS X (.Assign [.Name y py] (.DictComp kx vx [⟨t0, i0, fs0, 0⟩] sc ps) spos) (tAsg (tDc wi g tt tk tv (own.map (·.2))) (gName i)) := by
  refine ⟨fun pins s σ H D I h => ?_⟩
  rw [exec_Assign_Name_used _ _ _ _ hsw]
  refine wpAny_bind (wpAny_standAt (wpAny_bind ?_))
  show wpAny _ X.A (do let _ ← comprehension (.DictComp kx vx [⟨t0, i0, fs0, 0⟩] sc ps) sc X.env (firstIterPos [⟨t0, i0, fs0, 0⟩] ps) newDict false (eval i0 X.env) (some (assign (.Name y py) X.env))) _ _ s
  exact wpAny_bind (thn (dc_core (Q := fun x H1 => gName i x σ H1 D.nx) (Qf := fun _ s' => SP X pins D .next s') hc hN I hi ok hg ht hk hw hs h (fun L C s' m H' I' q ns f => put_comp hN hy hyl I' q ns f)) fun _ s' hq => wpAny_pure (wpAny_pure hq))
end
end L2
/-! dict comprehensions of one and two clauses -/
namespace FL
open PySem PySem.Spec L2
/-! ### the loops -/
open Classical in
noncomputable def cpL (ck : Ck) (g : MG) (tt : MB) (body : Rho → Option (List Cell)) (vs : List Nat) : List W → Rho → Option Rho
  | [], r => if ckC ck r.cl then some r else none
  | d :: ds, r => if ckC ck r.cl then match g d { r with sl := wipeW r.sl vs } with
    | none => none
    | some r1 => match tt r1 with
      | none => none
      | some (false, r2) => cpL ck g tt body vs ds { r with cl := r2.cl }
      | some (true, r2) => match body r2 with
        | none => none
        | some cl => cpL ck g tt body vs ds { r with cl := cl }
    else none
/-- d[y] = z, d the cell n -/
def dStep (n : Nat) (y z : W) (cl : List Cell) : Option (List Cell) := match cl[n]? with
  | some (.dk _ _) => dPutC cl (.cel n) y z
  | _ => none
def bodyD (tk tv : M) (n : Nat) : Rho → Option (List Cell) := fun r => match tk r with
  | some (y, r1) => match tv r1 with
    | some (z, r2) => dStep n y z r2.cl
    | none => none
  | none => none
noncomputable def bodyI (mi : MI) (g : MG) (tt : MB) (body : Rho → Option (List Cell)) (vs : List Nat) : Rho → Option (List Cell) := fun r => match mi r with
  | some ((ds, ck), r1) => (cpL ck g tt body vs ds r1).map (·.cl)
  | none => none
/-- the new dict: the cell n as it is, or as data -/
def unCellD (c : Bool) (n : Nat) (r : Rho) : Option (W × Rho) :=
  if c then some (.cel n, r) else match r.cl[n]? with
    | some (.dk ks ws) => match datas ws with
      | some xs => if r.cl.length = n + 1 ∧ ((r.cl.take n).all fun k => k.refs.all fun j => decide (j < n)) = true then some (.d (.dk ks xs), { r with cl := r.cl.take n }) else none
      | none => none
    | _ => none
noncomputable def eDc (c : Bool) (mi : MI) (g : MG) (tt : MB) (tk tv : M) (vs : List Nat) : M := fun r => match mi r with
  | none => none
  | some ((ds, ck), r1) => match cpL ck g tt (bodyD tk tv r1.cl.length) vs ds { r1 with cl := r1.cl ++ [.dk [] []] } with
    | none => none
    | some r2 => unCellD c r1.cl.length r2
noncomputable def eDc2 (c : Bool) (mi : MI) (g : MG) (tt : MB) (mi1 : MI) (g1 : MG) (tt1 : MB) (tk tv : M) (vs vs1 : List Nat) : M := fun r => match mi r with
  | none => none
  | some ((ds, ck), r1) => match cpL ck g tt (bodyI mi1 g1 tt1 (bodyD tk tv r1.cl.length) vs1) vs ds { r1 with cl := r1.cl ++ [.dk [] []] } with
    | none => none
    | some r2 => unCellD c r1.cl.length r2
theorem unCellD_ok {K : PySem.W.Frag} {F H F1 H1 : Hp} {al al1 : List Addr} {st : List Cell} {n : Nat} {p : Addr} {c : Bool} {w : W} {r' : Rho} {sl : List (Option W)} {σ : L2.St} (x : Ext F al H F1 al1 H1) (hn : al.length = n) (hp : al1[n]? = some p)
    (s : Slots K sl F al σ) (C : Cells K st F1 al1 H1) (e : unCellD c n ⟨sl, st⟩ = some (w, r')) : ∃ F' al', Ext F al H F' al' H1 ∧ Rel K r' F' al' σ H1 ∧ Rep K F' al' w (.ref p) := by
  cases c with
  | true =>
    have e : some (W.cel n, (⟨sl, st⟩ : Rho)) = some (w, r') := e
    cases e
    exact ⟨F1, al1, x, ⟨s.ext x, C⟩, ⟨p, rfl, hp⟩⟩
  | false =>
    unfold unCellD at e
    simp only [Bool.false_eq_true, if_false] at e
    split at e
    · rename_i ks ws e1
      split at e
      · rename_i xs e2
        split at e
        · rename_i hc
          cases e
          obtain ⟨hl, hr⟩ := hc
          simp only [List.all_eq_true, decide_eq_true_eq] at hr
          obtain ⟨F2, s2, n2, x2, C2⟩ := C.froze x n hn hr
          obtain ⟨_, kvs, q1, q2, q3⟩ := C.ok n p _ hp e1
          rw [datas_some e2] at q3
          exact ⟨F2, al, x2, ⟨s.ext x2, C2⟩, p, kvs, rfl, .inl ((n2 n p (Nat.le_refl _) hp).trans q1), q2, Reps0.mono s2 q3.to0⟩
        · cases e
      · cases e
    · cases e
theorem dStep_ok {K : PySem.W.Frag} {F H : Hp} {al : List Addr} {cl cl' : List Cell} {n : Nat} {D : Addr} {y z : W} {v u : V} (C : Cells K cl F al H) (hD : al[n]? = some D) (ry : Rep K F al y v) (rz : Rep K F al z u) (e : dStep n y z cl = some cl') :
    ∃ kvs k, v = kV k ∧ H D = some (.dK kvs) ∧ kvs.length < sizeLine ∧ Ext F al H F al (upd H D (.dK (putK kvs k u))) ∧ Cells K cl' F al (upd H D (.dK (putK kvs k u))) := by
  unfold dStep at e
  split at e
  · rename_i ks ws hc
    obtain ⟨_, kvs0, q1, _⟩ := C.ok n D _ hD hc
    obtain ⟨a, H', ea, p, x, C'⟩ := dPutC_ok C (show Rep K F al (.cel n) (.ref D) from ⟨D, rfl, hD⟩) ry rz e
    cases ea
    rcases p with ⟨kvs, k, h1, h2, h3, h4⟩ | ⟨kvs, k, b, h1, _⟩
    · subst h4
      exact ⟨kvs, k, h2, h1, h3, x, C'⟩
    · rw [q1] at h1
      cases h1
  · cases e
/-! ### a turn -/
theorem knows_of {τ σ : L2.St} {vs ws : List Nat} {σ0 : L2.St} (hτ : τ = wipe σ0 vs) (hl : σ.length = τ.length) (ho : ∀ j, j ∉ ws → σ[j]? = τ[j]?) (hw : ∀ j ∈ ws, j ∈ vs) : Knows τ σ := by
  subst hτ
  refine ⟨hl, fun j v e => ?_⟩
  obtain ⟨_, e2⟩ := wipe_some e
  rw [ho j fun q => e2 (hw j q)]
  exact e
section
variable {K : PySem.W.Frag} {J : It} {F0 H0 : Hp} {al0 : List Addr} {sl : List (Option W)} {σ : L2.St} {ds : List W} {ck : Ck} {g : MG} {tt : MB} {body : Rho → Option (List Cell)} {vs ws : List Nat} {r2 : Rho}
/-- the loop's state, i items gone through -/
def CpS (K : PySem.W.Frag) (F0 : Hp) (al0 : List Addr) (H0 : Hp) (sl : List (Option W)) (ds : List W) (ck : Ck) (g : MG) (tt : MB) (body : Rho → Option (List Cell)) (vs : List Nat) (r2 : Rho) (i : Nat) (H : Hp) : Prop :=
  ∃ F al cl, Ext F0 al0 H0 F al H ∧ Cells K cl F al H ∧ cpL ck g tt body vs (ds.drop i) ⟨sl, cl⟩ = some r2
theorem cp_turn (S : Slots K sl F0 al0 σ) {Fw : Hp} {alw : List Addr} (Wj : Wk K J Fw alw ds ck) (sw : Same Fw F0) (pw : ∃ be, al0 = alw ++ be) (hw : ∀ j ∈ ws, j ∈ vs) {i : Nat} {H : Hp} (h : CpS K F0 al0 H0 sl ds ck g tt body vs r2 i H) :
    (ds.length ≤ i ∧ J.stop i H ∧ ∃ F al, Ext F0 al0 H0 F al H ∧ Cells K r2.cl F al H ∧ r2.sl = sl) ∨
    (i < ds.length ∧ J.go i H ∧ ∀ x H2, J.yld i H x H2 → ∃ P : L2.St → Hp → Prop, gF K ws g x (wipe σ vs) H2 P ∧ ∀ σ3 H3, P σ3 H3 → Knows (wipe σ vs) σ3 ∧ wipe σ3 vs = wipe σ vs ∧ ∃ P3 : Bool → Hp → Prop, tFB K tt σ3 H3 P3 ∧ ∀ b H4, P3 b H4 →
      if b = true then ∃ rb F4 al4 cl4, Rel K rb F4 al4 σ3 H4 ∧ Ext F0 al0 H0 F4 al4 H4 ∧ body rb = some cl4 ∧ cpL ck g tt body vs (ds.drop (i + 1)) ⟨sl, cl4⟩ = some r2 else CpS K F0 al0 H0 sl ds ck g tt body vs r2 (i + 1) H4) := by
  obtain ⟨F, al, cl, x, C, e⟩ := h
  obtain ⟨be0, eb0⟩ := pw
  obtain ⟨be, eb, _⟩ := id x.a
  have pre : ∃ be, al = alw ++ be := ⟨be0 ++ be, by rw [eb, eb0, List.append_assoc]⟩
  by_cases hi : i < ds.length
  · rw [List.drop_eq_getElem_cons hi] at e
    unfold cpL at e
    split at e
    rotate_left
    · cases e
    rename_i hck
    split at e
    · cases e
    · rename_i ra qa
      obtain ⟨go, yields⟩ := Wj.go i ds[i] F al cl H (List.getElem?_eq_getElem hi) (sw.trans x.f) pre C hck
      refine .inr ⟨hi, go, fun v H2 hy => ?_⟩
      obtain ⟨F2, x2, C2, p2⟩ := yields v H2 hy
      have s2 : Slots K (wipeW sl vs) F2 al (wipe σ vs) := ((wipe_slots S vs).ext x).ext x2
      refine ⟨fun σ3 H3 => (Knows (wipe σ vs) σ3 ∧ wipe σ3 vs = wipe σ vs) ∧ ∃ F3 al3, Ext F0 al0 H0 F3 al3 H3 ∧ Rel K ra F3 al3 σ3 H3, ⟨_, F2, al, ds[i], ra, ⟨s2, C2⟩, p2, qa, fun F3 al3 σ3 H3 x3 R3 l3 o3 => ⟨⟨knows_of rfl l3 o3 hw, wipe_eq (by rw [l3, wipe_length]) fun j hj => o3 j fun q => hj (hw j q)⟩, F3, al3, (x.trans x2).trans x3, R3⟩⟩, ?_⟩
      rintro σ3 H3 ⟨⟨kn, kw⟩, F3, al3, x3, R3⟩
      refine ⟨kn, kw, ?_⟩
      cases ht : tt ra with
      | none =>
        rw [ht] at e
        cases e
      | some pr =>
        obtain ⟨b, rb⟩ := pr
        rw [ht] at e
        refine ⟨fun b' H4 => b' = b ∧ ∃ F4 al4, Ext F0 al0 H0 F4 al4 H4 ∧ Rel K rb F4 al4 σ3 H4, ⟨ra, F3, al3, b, rb, R3, ht, fun F4 al4 H4 x4 R4 => ⟨rfl, F4, al4, x3.trans x4, R4⟩⟩, ?_⟩
        rintro b' H4 ⟨rfl, F4, al4, x4, R4⟩
        cases b' with
        | false =>
          rw [if_neg (by simp)]
          exact ⟨F4, al4, rb.cl, x4, R4.c, e⟩
        | true =>
          rw [if_pos rfl]
          cases hb : body rb with
          | none =>
            simp only [hb] at e
            cases e
          | some cl4 =>
            simp only [hb] at e
            exact ⟨rb, F4, al4, cl4, R4, x4, hb, e⟩
  · rw [List.drop_of_length_le (by omega)] at e
    unfold cpL at e
    split at e
    rotate_left
    · cases e
    rename_i hck
    cases e
    exact .inl ⟨by omega, Wj.stop i F al cl H (by omega) (sw.trans x.f) pre C hck, F, al, x, C, rfl⟩
end
theorem gF_mono {K : PySem.W.Frag} {ws : List Nat} {g : MG} {v : V} {σ : L2.St} {H : Hp} {P Q : L2.St → Hp → Prop} (h : gF K ws g v σ H P) (k : ∀ σ' H', P σ' H' → Q σ' H') : gF K ws g v σ H Q := by
  obtain ⟨r, F, al, d, r', R, p, e, q⟩ := h
  exact ⟨r, F, al, d, r', R, p, e, fun F' al' σ' H' x R' l o => k _ _ (q F' al' σ' H' x R' l o)⟩
theorem tFB_mono {K : PySem.W.Frag} {m : MB} {σ : L2.St} {H : Hp} {P Q : Bool → Hp → Prop} (h : tFB K m σ H P) (k : ∀ b H', P b H' → Q b H') : tFB K m σ H Q := by
  obtain ⟨r, F, al, d, r', R, e, q⟩ := h
  exact ⟨r, F, al, d, r', R, e, fun F' al' H' x R' => k _ _ (q F' al' H' x R')⟩
section
variable {X : Cx} {mi mi1 : MI} {g g1 : MG} {tt tt1 : MB} {tk tv : M} {vs vs1 ws ws1 : List Nat} {c : Bool}
/-- key and value, and the store -/
theorem body_ok {K : PySem.W.Frag} {rb : Rho} {F : Hp} {al : List Addr} {σ : L2.St} {H : Hp} {n : Nat} {cl4 : List Cell} {D : Addr} {al0 : List Addr} {N : Hp → Prop} (R : Rel K rb F al σ H) (hD : ∀ be, (al ++ be)[n]? = some D) (e : bodyD tk tv n rb = some cl4) (hN : ∀ F' al' H', Ext F al H F' al' H' → Cells K cl4 F' al' H' → N H') :
    tF K tk σ H fun y H7 => tF K tv σ H7 fun z H8 => ∃ kvs k, y = kV k ∧ H8 D = some (.dK kvs) ∧ kvs.length < sizeLine ∧ N (upd H8 D (.dK (putK kvs k z))) := by
  unfold bodyD at e
  split at e
  · rename_i y rc q1
    split at e
    · rename_i z rd q2
      refine ⟨rb, F, al, y, rc, R, q1, fun F5 al5 v H5 x5 R5 p5 => ⟨rc, F5, al5, z, rd, R5, q2, fun F6 al6 u H6 x6 R6 p6 => ?_⟩⟩
      obtain ⟨be, eb, _⟩ := (x5.trans x6).a
      obtain ⟨kvs, k, h1, h2, h3, x7, C7⟩ := dStep_ok R6.c (by rw [eb]; exact hD be) (x6.rep p5) p6 e
      exact ⟨kvs, k, h1, h2, h3, hN _ _ _ ((x5.trans x6).trans x7) C7⟩
    · cases e
  · cases e
theorem at_new {al : List Addr} {n : Nat} {D : Addr} (hn : al.length = n) (be : List Addr) : (al ++ [D] ++ be)[n]? = some D := by
  rw [← hn, List.append_assoc, List.getElem?_append_right (Nat.le_refl _), Nat.sub_self]
  rfl
theorem w_dc2 (hw : ∀ j ∈ ws, j ∈ vs) (hw1 : ∀ j ∈ ws1, j ∈ vs1) : ∀ σ H Q, tF X.K (eDc2 c mi g tt mi1 g1 tt1 tk tv vs vs1) σ H Q → tDc2 (iF X.K mi) (gF X.K ws g) (tFB X.K tt) (iF X.K mi1) (gF X.K ws1 g1) (tFB X.K tt1) (tF X.K tk) (tF X.K tv) vs vs1 σ H Q := fun σ H Q ⟨r, F, al, d, r', R, e1, k⟩ => by
  unfold eDc2 at e1
  split at e1
  · cases e1
  · rename_i ds ck r1 q
    split at e1
    · cases e1
    · rename_i r2 q2
      refine ⟨r, F, al, ds, ck, r1, R, q, fun F1 al1 J H1 x1 R1 Wj D hD => ?_⟩
      obtain ⟨hF, hal⟩ := R1.c.free hD
      have x0 : Ext F1 al1 H1 F1 (al1 ++ [D]) (upd H1 D (.dK [])) := ext_new hF hD
      have C0 : Cells X.K (r1.cl ++ [.dk [] []]) F1 (al1 ++ [D]) (upd H1 D (.dK [])) := R1.c.new hD ⟨hF, [], upd_same, rfl, rfl⟩
      have hn : al1.length = r1.cl.length := R1.c.len
      have S0 := R1.s.ext x0
      refine ⟨fun i m H' => m = ds.length - i ∧ CpS X.K F1 (al1 ++ [D]) (upd H1 D (.dK [])) r1.sl ds ck g tt (bodyI mi1 g1 tt1 (bodyD tk tv r1.cl.length) vs1) vs r2 i H', ⟨ds.length, rfl, F1, _, _, Ext.refl _ _ _, C0, q2⟩, ?_⟩
      rintro i m H' ⟨rfl, st⟩
      rcases cp_turn S0 Wj (Same.refl _) ⟨[D], rfl⟩ hw st with ⟨hi, stop, F9, al9, x9, C9, es⟩ | ⟨hi, go, step⟩
      · refine .inl ⟨stop, ?_⟩
        obtain ⟨be, eb, _⟩ := id x9.a
        obtain ⟨sl2, cl2⟩ := r2
        cases es
        obtain ⟨Fz, alz, xz, Rz, pz⟩ := unCellD_ok (x0.trans x9) hn (by rw [eb]; exact at_new hn be) R1.s C9 e1
        exact k Fz alz (.ref D) H' (x1.trans xz) Rz pz
      · refine .inr ⟨go, fun H2 => CpS X.K F1 (al1 ++ [D]) (upd H1 D (.dK [])) r1.sl ds ck g tt (bodyI mi1 g1 tt1 (bodyD tk tv r1.cl.length) vs1) vs r2 (i + 1) H2, fun H2 z => ⟨ds.length - (i + 1), by omega, rfl, z⟩, fun x H2 hy => ?_⟩
        obtain ⟨P, hP, after⟩ := step x H2 hy
        refine ⟨P, hP, fun σ3 H3 p3 => ?_⟩
        obtain ⟨kn, _, P3, h3, last⟩ := after σ3 H3 p3
        refine ⟨kn, P3, h3, fun b H4 p4 => ?_⟩
        have q4 := last b H4 p4
        cases b with
        | false => simpa using q4
        | true =>
          simp only [if_true] at q4 ⊢
          obtain ⟨rb, F4, al4, cl4, R4, x4, hb, e4⟩ := q4
          unfold bodyI at hb
          split at hb
          · rename_i ds1 ck1 rc qc
            obtain ⟨rI, qI, eI⟩ := Option.map_eq_some_iff.mp hb
            refine ⟨rb, F4, al4, ds1, ck1, rc, R4, qc, fun F5 al5 J1 H5 x5 R5 W1 => ?_⟩
            refine ⟨fun j k H' => k = ds1.length - j ∧ CpS X.K F5 al5 H5 rc.sl ds1 ck1 g1 tt1 (bodyD tk tv r1.cl.length) vs1 rI j H', ⟨ds1.length, rfl, F5, _, _, Ext.refl _ _ _, R5.c, qI⟩, ?_⟩
            rintro j k' H' ⟨rfl, st1⟩
            rcases cp_turn R5.s W1 (Same.refl _) ⟨[], by simp⟩ hw1 st1 with ⟨hj, stop1, F9, al9, x9, C9, es⟩ | ⟨hj, go1, step1⟩
            · refine .inl ⟨stop1, F9, al9, rI.cl, (x4.trans x5).trans x9, C9, ?_⟩
              rw [eI]
              exact e4
            · refine .inr ⟨go1, fun H6 => CpS X.K F5 al5 H5 rc.sl ds1 ck1 g1 tt1 (bodyD tk tv r1.cl.length) vs1 rI (j + 1) H6, fun H6 z => ⟨ds1.length - (j + 1), by omega, rfl, z⟩, fun x H6 hy => ?_⟩
              obtain ⟨P4, hP4, after1⟩ := step1 x H6 hy
              refine ⟨P4, hP4, fun σ7 H7 p7 => ?_⟩
              obtain ⟨kn7, _, P6, h6, last1⟩ := after1 σ7 H7 p7
              refine ⟨kn7, P6, h6, fun b H8 p8 => ?_⟩
              have q8 := last1 b H8 p8
              cases b with
              | false => simpa using q8
              | true =>
                simp only [if_true] at q8 ⊢
                obtain ⟨rd, F8, al8, cl8, R8, x8, hb8, e8⟩ := q8
                obtain ⟨be, eb, _⟩ := ((x4.trans x5).trans x8).a
                exact body_ok (al0 := al1) R8 (fun bf => by rw [eb, List.append_assoc]; exact at_new hn (be ++ bf)) hb8 fun F9 al9 H9 x9 C9 => ⟨F9, al9, cl8, x8.trans x9, C9, e8⟩
          · cases hb
section
variable {kx vx tg iter tg1 iter1 : Expr} {ifs ifs1 : List Expr} {scope : Scope} {own : List (Str × Nat)} {pos : Pos}
theorem pf_dc2 (c : Bool) (hc : X.calm = true) (hN : X.N.Nodup) (hi : PI X tg iter (iF X.K mi)) (ok : BlkOk X.N X.env.scope scope own) (hv : ∀ i ∈ vs1, i ∈ own.map (·.2)) (hw : ∀ j ∈ ws, j ∈ own.map (·.2)) (hw1 : ∀ j ∈ ws1, j ∈ vs1)
    (hg : ∀ (z : Shared) (H : Hp) (C : Addr) (cl : List (Str × Addr)) (fp : List Addr), PG (X.blk z H scope (compEnvC scope cl C X.env) fp) tg (gF X.K ws g))
    (ht : ∀ (z : Shared) (H : Hp) (C : Addr) (cl : List (Str × Addr)) (fp : List Addr), PTs (X.blk z H scope (compEnvC scope cl C X.env) fp) ifs (tFB X.K tt))
    (hi1 : ∀ (z : Shared) (H : Hp) (C : Addr) (cl : List (Str × Addr)) (fp : List Addr), PI (X.blk z H scope (compEnvC scope cl C X.env) fp) tg1 iter1 (iF X.K mi1))
    (hg1 : ∀ (z : Shared) (H : Hp) (C : Addr) (cl : List (Str × Addr)) (fp : List Addr), PG (X.blk z H scope (compEnvC scope cl C X.env) fp) tg1 (gF X.K ws1 g1))
    (ht1 : ∀ (z : Shared) (H : Hp) (C : Addr) (cl : List (Str × Addr)) (fp : List Addr), PTs (X.blk z H scope (compEnvC scope cl C X.env) fp) ifs1 (tFB X.K tt1))
    (hk : ∀ (z : Shared) (H : Hp) (C : Addr) (cl : List (Str × Addr)) (fp : List Addr), PE (X.blk z H scope (compEnvC scope cl C X.env) fp) kx (tF X.K tk))
    (he : ∀ (z : Shared) (H : Hp) (C : Addr) (cl : List (Str × Addr)) (fp : List Addr), PE (X.blk z H scope (compEnvC scope cl C X.env) fp) vx (tF X.K tv))
    (hs : ∀ x, foldedSetIterable iter X.env x = pure x := by intro _; rfl) (hs1 : ∀ en x, foldedSetIterable iter1 en x = pure x := by intro _ _; rfl) :
    PE X (.DictComp kx vx [⟨tg, iter, ifs, 0⟩, ⟨tg1, iter1, ifs1, 0⟩] scope pos) (tF X.K (eDc2 c mi g tt mi1 g1 tt1 tk tv (own.map (·.2)) vs1)) :=
  PE.weak (pe_dc2 hc hN hi ok hv hg ht hi1 hg1 ht1 hk he hs hs1) (w_dc2 hw hw1)
end
end
end FL
/-! a dict comprehension of one clause -/
namespace FL
open PySem PySem.Spec L2
section
variable {X : Cx} {mi : MI} {g : MG} {tt : MB} {tk tv : M} {vs ws : List Nat} {c : Bool}
/-- from the walked thing on -/
theorem dc_run {K : PySem.W.Frag} {r1 r2 r' : Rho} {F1 H1 : Hp} {al1 : List Addr} {σ : L2.St} {J : It} {ds : List W} {ck : Ck} {d : W} {D : Addr} {Q : VK} (R1 : Rel K r1 F1 al1 σ H1) (Wj : Wk K J F1 al1 ds ck) (hD : H1 D = none) (hw : ∀ j ∈ ws, j ∈ vs) (q2 : cpL ck g tt (bodyD tk tv r1.cl.length) vs ds { r1 with cl := r1.cl ++ [.dk [] []] } = some r2) (e1 : unCellD c r1.cl.length r2 = some (d, r'))
    (k : ∀ F' al' v H', Ext F1 al1 H1 F' al' H' → Rel K r' F' al' σ H' → Rep K F' al' d v → Q v H') :
    ∃ W : Nat → Nat → Hp → Prop, (∃ m, W 0 m (upd H1 D (.dK []))) ∧ ∀ i m H, W i m H →
      (J.stop i H ∧ Q (.ref D) H) ∨ (J.go i H ∧ ∃ Nx : Hp → Prop, (∀ H', Nx H' → ∃ m', m' < m ∧ W (i + 1) m' H') ∧ ∀ x H', J.yld i H x H' → gF K ws g x (wipe σ vs) H' fun σ2 H2 => wipe σ2 vs = wipe σ vs ∧ tFB K tt σ2 H2 fun b H3 =>
        if b = true then tF K tk σ2 H3 fun y H4 => tF K tv σ2 H4 fun z H5 => ∃ kvs k, y = kV k ∧ H5 D = some (.dK kvs) ∧ kvs.length < sizeLine ∧ Nx (upd H5 D (.dK (putK kvs k z))) else Nx H3) := by
  obtain ⟨hF, hal⟩ := R1.c.free hD
  have x0 : Ext F1 al1 H1 F1 (al1 ++ [D]) (upd H1 D (.dK [])) := ext_new hF hD
  have C0 : Cells K (r1.cl ++ [.dk [] []]) F1 (al1 ++ [D]) (upd H1 D (.dK [])) := R1.c.new hD ⟨hF, [], upd_same, rfl, rfl⟩
  have hn : al1.length = r1.cl.length := R1.c.len
  refine ⟨fun i m H' => m = ds.length - i ∧ CpS K F1 (al1 ++ [D]) (upd H1 D (.dK [])) r1.sl ds ck g tt (bodyD tk tv r1.cl.length) vs r2 i H', ⟨ds.length, rfl, F1, _, _, Ext.refl _ _ _, C0, q2⟩, ?_⟩
  rintro i m H' ⟨rfl, st⟩
  rcases cp_turn (R1.s.ext x0) Wj (Same.refl _) ⟨[D], rfl⟩ hw st with ⟨hi, stop, F9, al9, x9, C9, es⟩ | ⟨hi, go, step⟩
  · refine .inl ⟨stop, ?_⟩
    obtain ⟨be, eb, _⟩ := id x9.a
    obtain ⟨sl2, cl2⟩ := r2
    cases es
    obtain ⟨Fz, alz, xz, Rz, pz⟩ := unCellD_ok (x0.trans x9) hn (by rw [eb]; exact at_new hn be) R1.s C9 e1
    exact k Fz alz (.ref D) H' xz Rz pz
  · refine .inr ⟨go, fun H2 => CpS K F1 (al1 ++ [D]) (upd H1 D (.dK [])) r1.sl ds ck g tt (bodyD tk tv r1.cl.length) vs r2 (i + 1) H2, fun H2 z => ⟨ds.length - (i + 1), by omega, rfl, z⟩, fun x H2 hy => ?_⟩
    obtain ⟨P, hP, after⟩ := step x H2 hy
    refine gF_mono hP fun σ3 H3 p3 => ?_
    obtain ⟨_, kw, P3, h3, last⟩ := after σ3 H3 p3
    refine ⟨kw, tFB_mono h3 fun b H4 p4 => ?_⟩
    have q4 := last b H4 p4
    cases b with
    | false => simpa using q4
    | true =>
      simp only [if_true] at q4 ⊢
      obtain ⟨rb, F4, al4, cl4, R4, x4, hb, e4⟩ := q4
      obtain ⟨be, eb, _⟩ := id x4.a
      exact body_ok (al0 := al1) R4 (fun bf => by rw [eb, List.append_assoc]; exact at_new hn (be ++ bf)) hb fun F9 al9 H9 x9 C9 => ⟨F9, al9, cl4, x4.trans x9, C9, e4⟩
theorem w_dc (hw : ∀ j ∈ ws, j ∈ vs) : ∀ σ H Q, tF X.K (eDc c mi g tt tk tv vs) σ H Q → tDc (iF X.K mi) (gF X.K ws g) (tFB X.K tt) (tF X.K tk) (tF X.K tv) vs σ H Q := fun σ H Q ⟨r, F, al, d, r', R, e1, k⟩ => by
  unfold eDc at e1
  split at e1
  · cases e1
  · rename_i ds ck r1 q
    split at e1
    · cases e1
    · rename_i r2 q2
      exact ⟨r, F, al, ds, ck, r1, R, q, fun F1 al1 J H1 x1 R1 Wj D hD => dc_run R1 Wj hD hw q2 e1 fun F' al' v H' x' R' p' => k F' al' v H' (x1.trans x') R' p'⟩
section
variable {kx vx tg iter : Expr} {ifs : List Expr} {scope : Scope} {own : List (Str × Nat)} {pos : Pos}
theorem pf_dc (c : Bool) (hc : X.calm = true) (hN : X.N.Nodup) (hi : PI X tg iter (iF X.K mi)) (ok : BlkOk X.N X.env.scope scope own) (hw : ∀ j ∈ ws, j ∈ own.map (·.2))
    (hg : ∀ (z : Shared) (H : Hp) (C : Addr) (cl : List (Str × Addr)) (fp : List Addr), PG (X.blk z H scope (compEnvC scope cl C X.env) fp) tg (gF X.K ws g))
    (ht : ∀ (z : Shared) (H : Hp) (C : Addr) (cl : List (Str × Addr)) (fp : List Addr), PTs (X.blk z H scope (compEnvC scope cl C X.env) fp) ifs (tFB X.K tt))
    (hk : ∀ (z : Shared) (H : Hp) (C : Addr) (cl : List (Str × Addr)) (fp : List Addr), PE (X.blk z H scope (compEnvC scope cl C X.env) fp) kx (tF X.K tk))
    (he : ∀ (z : Shared) (H : Hp) (C : Addr) (cl : List (Str × Addr)) (fp : List Addr), PE (X.blk z H scope (compEnvC scope cl C X.env) fp) vx (tF X.K tv))
    (hs : ∀ x, foldedSetIterable iter X.env x = pure x := by intro _; rfl) : PE X (.DictComp kx vx [⟨tg, iter, ifs, 0⟩] scope pos) (tF X.K (eDc c mi g tt tk tv (own.map (·.2)))) :=
  PE.weak (pe_dc hc hN hi ok hg ht hk he hs) (w_dc hw)
end
end
end FL
/-! sorted(..) of ints and of texts, tuple(xs), dict(pairs) -/
namespace FL
open PySem PySem.Spec L2 PyProof.Rows
/-! ### texts in order -/
def leT (a b : Str) : Bool := !ltCps b.cps.toList a.cps.toList
theorem leT_iff (a b : Str) : leT a b = true ↔ a.cps.toList ≤ b.cps.toList := by
  unfold leT
  rw [ltCps_eq, Bool.not_eq_true', decide_eq_false_iff_not]
  exact List.not_lt
theorem leT_trans {a b c : Str} (h : leT a b = true) (k : leT b c = true) : leT a c = true := by
  rw [leT_iff] at *
  exact List.le_trans h k
theorem leT_total (a b : Str) : (leT a b || leT b a) = true := by
  rw [Bool.or_eq_true, leT_iff, leT_iff]
  exact List.le_total _ _
theorem cps_eq {a b : Str} (h : a.cps.toList = b.cps.toList) : a = b := by
  have e : a.cps = b.cps := Array.toList_inj.mp h
  obtain ⟨x⟩ := a
  obtain ⟨y⟩ := b
  exact congrArg Str.mk e
theorem leT_anti {a b : Str} (h : leT a b = true) (k : leT b a = true) : a = b := by
  rw [leT_iff] at *
  exact cps_eq (List.le_antisymm h k)
def sortT (xs : List Str) : List Str := xs.mergeSort leT
theorem rising_pw : ∀ (l : List Str) (p : Str), risingS p l = true → (p :: l).Pairwise fun a b => leT a b = true
  | [], p, _ => List.pairwise_singleton ..
  | x :: l, p, h => by
    obtain ⟨h1, h2⟩ := Bool.and_eq_true_iff.mp (show (leT p x && risingS x l) = true from h)
    have ih := rising_pw l x h2
    refine List.pairwise_cons.mpr ⟨fun y hy => ?_, ih⟩
    rcases List.mem_cons.mp hy with rfl | hy
    · exact h1
    · exact leT_trans h1 ((List.pairwise_cons.mp ih).1 y hy)
theorem sortT_eq {xs ys : List Str} (h1 : ys.Perm xs) (h2 : sortedS ys = true) : ys = sortT xs := by
  have pw : ys.Pairwise fun a b => leT a b = true := by
    cases ys with
    | nil => exact List.Pairwise.nil
    | cons x r => exact rising_pw r x h2
  have q1 : (sortT xs).Perm xs := List.mergeSort_perm xs _
  have q2 : (sortT xs).Pairwise fun a b => leT a b = true := List.pairwise_mergeSort (le := leT) (fun a b c => leT_trans) leT_total xs
  exact List.Perm.eq_of_pairwise (le := fun a b : Str => leT a b = true) (fun a b _ _ => leT_anti) pw q2 (h1.trans q1.symm)
/-! ### lists of ints, of texts -/
def zsOf : List W → Option (List Int)
  | [] => some []
  | .d (.int i) :: ws => (zsOf ws).map (i :: ·)
  | _ => none
def tsOf : List W → Option (List Str)
  | [] => some []
  | .d (.str x) :: ws => (tsOf ws).map (x :: ·)
  | _ => none
theorem zsOf_ok : ∀ {ws : List W} {zs : List Int}, zsOf ws = some zs → ws = zs.map fun i => W.d (.int i)
  | [], zs, h => by
    cases h
    rfl
  | w :: ws, zs, h => by
    unfold zsOf at h
    split at h
    · cases ‹_ :: _ = []›
    · rename_i i r e
      cases e
      obtain ⟨ys, e1, e2⟩ := Option.map_eq_some_iff.mp h
      subst e2
      rw [zsOf_ok e1]
      rfl
    · cases h
theorem tsOf_ok : ∀ {ws : List W} {zs : List Str}, tsOf ws = some zs → ws = zs.map fun i => W.d (.str i)
  | [], zs, h => by
    cases h
    rfl
  | w :: ws, zs, h => by
    unfold tsOf at h
    split at h
    · cases ‹_ :: _ = []›
    · rename_i i r e
      cases e
      obtain ⟨ys, e1, e2⟩ := Option.map_eq_some_iff.mp h
      subst e2
      rw [tsOf_ok e1]
      rfl
    · cases h
def strsK : List Key → Option (List Str)
  | [] => some []
  | .inr i :: ks => (strsK ks).map (i :: ·)
  | .inl _ :: _ => none
theorem strsK_ok : ∀ {ks : List Key} {zs : List Str}, strsK ks = some zs → ks = zs.map Sum.inr
  | [], zs, h => by
    cases h
    rfl
  | .inr i :: ks, zs, h => by
    obtain ⟨ys, e1, e2⟩ := Option.map_eq_some_iff.mp (show (strsK ks).map _ = _ from h)
    subst e2
    rw [strsK_ok e1]
    rfl
  | .inl _ :: _, zs, h => (nomatch h)
theorem reps_tsOf {K : PySem.W.Frag} {F : Hp} {al : List Addr} : ∀ zs : List Str, Reps K F al (zs.map fun i => W.d (.str i)) (zs.map V.str)
  | [] => rfl
  | i :: zs => ⟨.str i, zs.map V.str, rfl, rfl, reps_tsOf zs⟩
theorem reps_intsV {K : PySem.W.Frag} {F : Hp} {al : List Addr} : ∀ {zs : List Int} {vs : List V}, Reps K F al (zs.map fun i => W.d (.int i)) vs → vs = zs.map V.int
  | [], vs, h => h
  | i :: zs, vs, ⟨v, r, e, rv, rr⟩ => by
    have rv : v = .int i := rv
    rw [e, rv, reps_intsV rr]
    rfl
theorem reps_strsV {K : PySem.W.Frag} {F : Hp} {al : List Addr} : ∀ {zs : List Str} {vs : List V}, Reps K F al (zs.map fun i => W.d (.str i)) vs → vs = zs.map V.str
  | [], vs, h => h
  | i :: zs, vs, ⟨v, r, e, rv, rr⟩ => by
    have rv : v = .str i := rv
    rw [e, rv, reps_strsV rr]
    rfl
/-- what is sorted: ints or texts -/
def sortedOf (cl : List Cell) (x : W) : Option (List Int ⊕ List Str) := match asList cl x with
  | some ws => match zsOf ws with
    | some zs => some (.inl zs)
    | none => (tsOf ws).map .inr
  | none => match asDk cl x with
    | some (ks, _) => match intsK ks with
      | some zs => some (.inl zs)
      | none => (strsK ks).map .inr
    | none => none
def oSorted (c : Bool) : OpN := fun cl ds => match ds with
  | [x] => match sortedOf cl x with
    | some (.inl zs) => if zs.length < 64 then fresh c ((sortI zs).map fun i => W.d (.int i)) cl else none
    | some (.inr zs) => if zs.length < 64 then fresh c ((sortT zs).map fun i => W.d (.str i)) cl else none
    | none => none
  | _ => none
theorem sorted_ok (c : Bool) {X : Cx} (hc : X.calm = true) : CallR X (.builtin "sorted") (rNF X.K (oSorted c)) := fun pins s σ H vs us Q I r ⟨cl, F, al, ds, C, rs, k⟩ => by
  obtain ⟨d, cl', e, kk⟩ := k.some
  unfold oSorted at e k
  split at e
  · rename_i x
    obtain ⟨v, vr, rfl, rx, r0⟩ := rs
    have r0 : vr = [] := r0
    subst r0
    simp only at k
    split at e
    · rename_i zs hz
      rw [hz] at k
      simp only at k
      split at e
      · rename_i h64
        rw [if_pos h64] at k
        unfold sortedOf at hz
        split at hz
        · rename_i ws hl
          obtain ⟨a, us', rfl, g, q2⟩ := asList_ok C rx hl
          split at hz
          · rename_i zs' hi
            cases hz
            rw [zsOf_ok hi] at q2
            refine cr_sorted pins s σ H _ us Q I r ⟨a, zs, rfl, by rw [← reps_intsV q2]; exact g, h64, fun ys p hp1 hp2 hp => ?_⟩
            rw [sortI_eq hp1 hp2]
            exact fresh_ok k C (reps_intsW _) hp
          · obtain ⟨_, _, hh⟩ := Option.map_eq_some_iff.mp hz
            cases hh
        · split at hz
          · rename_i ks ws hd
            obtain ⟨a, kvs, rfl, g, q2, _⟩ := asDk_ok C rx hd
            split at hz
            · rename_i zs' hi
              cases hz
              refine call_sortedDI hc pins s σ H _ us Q I r ⟨a, kvs, zs, rfl, g, by rw [q2, intsK_ok hi], h64, fun ys p hp1 hp2 hp => ?_⟩
              rw [sortI_eq hp1 hp2]
              exact fresh_ok k C (reps_intsW _) hp
            · obtain ⟨_, _, hh⟩ := Option.map_eq_some_iff.mp hz
              cases hh
          · cases hz
      · cases e
    · rename_i zs hz
      rw [hz] at k
      simp only at k
      split at e
      · rename_i h64
        rw [if_pos h64] at k
        unfold sortedOf at hz
        split at hz
        · rename_i ws hl
          obtain ⟨a, us', rfl, g, q2⟩ := asList_ok C rx hl
          split at hz
          · cases hz
          · obtain ⟨zs', hi, hh⟩ := Option.map_eq_some_iff.mp hz
            cases hh
            rw [tsOf_ok hi] at q2
            refine cr_sortedS pins s σ H _ us Q I r ⟨a, zs, rfl, by rw [← reps_strsV q2]; exact g, h64, fun ys p hp1 hp2 hp => ?_⟩
            rw [sortT_eq hp1 hp2]
            exact fresh_ok k C (reps_tsOf _) hp
        · split at hz
          · rename_i ks ws hd
            obtain ⟨a, kvs, rfl, g, q2, _⟩ := asDk_ok C rx hd
            split at hz
            · cases hz
            · obtain ⟨zs', hi, hh⟩ := Option.map_eq_some_iff.mp hz
              cases hh
              refine call_sortedD hc pins s σ H _ us Q I r ⟨a, kvs, zs, rfl, g, by rw [q2, strsK_ok hi], h64, fun ys p hp1 hp2 hp => ?_⟩
              rw [sortT_eq hp1 hp2]
              exact fresh_ok k C (reps_tsOf _) hp
          · cases hz
      · cases e
    · cases e
  · cases e
/-! ### tuple(xs) -/
def oTupOf : OpN := fun cl ds => match ds with
  | [x] => match asList cl x with
    | some ws => some (tupW ws, cl)
    | none => match asTup x with
      | some _ => some (x, cl)
      | none => none
  | _ => none
theorem tuple_ok {X : Cx} : CallR X (.type "tuple") (rNF X.K oTupOf) := CallR.weak call_tuple_of fun vs H Q ⟨cl, F, al, ds, C, rs, k⟩ => by
  obtain ⟨d, cl', e, kk⟩ := k.some
  unfold oTupOf at e k
  split at e
  · rename_i x
    obtain ⟨v, vr, rfl, rx, r0⟩ := rs
    have r0 : vr = [] := r0
    subst r0
    simp only at k
    split at e
    · rename_i ws hw
      rw [hw] at k
      obtain ⟨a, us, rfl, h1, h2⟩ := asList_ok C rx hw
      exact ⟨a, us, rfl, .inl ⟨h1, fun l hl => tup_ok k C h2 hl⟩⟩
    · split at e
      · rename_i ws hw
        cases e
        obtain ⟨a, us, rfl, h1, h2⟩ := asTup_ok rx hw
        exact ⟨a, us, rfl, .inr ⟨Same.seqT C.fh h1, kk F al _ H (Ext.refl _ _ _) C rx⟩⟩
      · cases e
  · cases e
/-! ### dict(pairs) -/
def pairsW : List W → Option (List (W × W))
  | [] => some []
  | w :: ws => match asTup w with
    | some [x, y] => (pairsW ws).map ((x, y) :: ·)
    | _ => none
def oDictP (c : Bool) : OpN := fun cl ds => match ds with
  | [x] => match asList cl x with
    | some ws => match pairsW ws with
      | some ps => match mergeW ps [] [] with
        | some (ks, zs) => freshK c ks zs cl
        | none => none
      | none => none
    | none => none
  | _ => none
theorem pairsW_ok {K : PySem.W.Frag} {F : Hp} {al : List Addr} : ∀ {ws : List W} {vs : List V} {ps : List (W × W)}, Reps K F al ws vs → pairsW ws = some ps →
    ∃ (as : List Addr) (us : List (V × V)), vs = as.map V.ref ∧ Paired (fun a u => SqT K F a [u.1, u.2]) as us ∧ RepP K F al ps us
  | [], vs, ps, r, h => by
    have r : vs = [] := r
    cases h
    exact ⟨[], [], r, .nil, rfl⟩
  | w :: ws, vs, ps, ⟨v, vr, e, rv, rr⟩, h => by
    unfold pairsW at h
    split at h
    · rename_i x y ht
      obtain ⟨qs, h1, h2⟩ := Option.map_eq_some_iff.mp h
      subst h2
      obtain ⟨as, us, e1, e2, e3⟩ := pairsW_ok rr h1
      obtain ⟨a, zs, rfl, g1, g2⟩ := asTup_ok rv ht
      obtain ⟨z, zr, rfl, rz, u, ur, rfl, ru, r0⟩ := g2
      have r0 : ur = [] := r0
      subst r0
      exact ⟨a :: as, (z, u) :: us, by rw [e, e1]; rfl, .cons g1 e2, ⟨z, u, us, rfl, rz, ru, e3⟩⟩
    · cases h
theorem paired_map {K : PySem.W.Frag} {H : Hp} : ∀ {as : List Addr} {kvs : List (Key × V)}, Paired (fun a u => SqT K H a [u.1, u.2]) as (kvs.map fun kv => (kV kv.1, kv.2)) → Paired (fun a (kv : Key × V) => SqT K H a [kV kv.1, kv.2]) as kvs
  | [], [], _ => .nil
  | _ :: _, _ :: _, .cons h t => .cons h (paired_map t)
theorem paired_same {K : PySem.W.Frag} {F H : Hp} (s : Same F H) : ∀ {as : List Addr} {us : List (V × V)}, Paired (fun a u => SqT K F a [u.1, u.2]) as us → Paired (fun a u => SqT K H a [u.1, u.2]) as us
  | _, _, .nil => .nil
  | _, _, .cons h t => .cons (Same.seqT s h) (paired_same s t)
theorem dictP_ok (c : Bool) {X : Cx} (hc : X.calm = true) : CallR X (.type "dict") (rNF X.K (oDictP c)) := CallR.weak (call_dictP hc) fun vs H Q ⟨cl, F, al, ds, C, rs, k⟩ => by
  obtain ⟨d, cl', e, kk⟩ := k.some
  unfold oDictP at e k
  split at e
  · rename_i x
    obtain ⟨v, vr, rfl, rx, r0⟩ := rs
    have r0 : vr = [] := r0
    subst r0
    simp only at k
    split at e
    · rename_i ws hw
      rw [hw] at k
      simp only at k
      split at e
      · rename_i ps hp
        rw [hp] at k
        simp only at k
        split at e
        · rename_i ks zs hm
          rw [hm] at k
          obtain ⟨a, us, rfl, h1, h2⟩ := asList_ok C rx hw
          obtain ⟨as, pv, rfl, g2, g3⟩ := pairsW_ok h2 hp
          obtain ⟨more, m1, _, m3, m4⟩ := mergeW_ok (kvs := []) (ws := []) g3 rfl hm
          rw [m1] at g2
          exact ⟨a, as, more, rfl, h1, paired_map (paired_same C.fh (by rw [m1] at *; exact g2)), fun p hp => freshD_ok k C m3 m4 hp⟩
        · cases e
      · cases e
    · cases e
  · cases e
end FL
/-! a dict that is gone through: it is locked as long as that lasts -/
namespace FL
open PySem PySem.Spec L2
/-- G tells what F tells, but for locks put to or taken from dicts -/
structure Lk (F G : Hp) : Prop where
  n : ∀ a, F a = none → G a = none
  k : ∀ a kvs, Rd F a (.dK kvs) → Rd G a (.dK kvs)
  t : ∀ a kvs, Rd F a (.dT kvs) → Rd G a (.dT kvs)
  tu : ∀ a vs, F a = some (.tup vs) → G a = some (.tup vs)
  li : ∀ a vs, F a = some (.lst vs) → G a = some (.lst vs)
  i : ∀ a C dx fs, F a = some (.ins C dx fs) → G a = some (.ins C dx fs)
  rt : ∀ a vs, Rd F a (.tup vs) → Rd G a (.tup vs)
  rl : ∀ a vs, Rd F a (.lst vs) → Rd G a (.lst vs)
def isDk : HO → Bool
  | .dK _ => true
  | .dT _ => true
  | _ => false
section
variable {K : PySem.W.Frag} {F G H H' : Hp} {al : List Addr} {d : Addr} {u : HO} {od : Obj}
theorem lk_on (h : F d = some u) (hu : isDk u = true) : Lk F (upd F d (.frz od u)) := by
  have ne : ∀ {a : Addr} {o : HO}, F a = some o → isDk o = false → a ≠ d := fun e q z => by
    rw [z, h] at e
    cases e
    rw [hu] at q
    cases q
  have rd : ∀ {a : Addr} {o : HO}, Rd F a o → Rd (upd F d (.frz od u)) a o := fun {a o} r => by
    by_cases z : a = d
    · subst z
      rcases r with r | ⟨x, r⟩
      · rw [h] at r
        cases r
        exact .inr ⟨od, upd_same⟩
      · rw [h] at r
        cases r
        cases hu
    · rcases r with r | ⟨x, r⟩
      · exact .inl (by rw [upd_ne z]; exact r)
      · exact .inr ⟨x, by rw [upd_ne z]; exact r⟩
  exact ⟨fun a e => by rw [upd_ne (fun z => by rw [z, h] at e; cases e)]; exact e, fun _ _ => rd, fun _ _ => rd, fun a vs e => by rw [upd_ne (ne e rfl)]; exact e, fun a vs e => by rw [upd_ne (ne e rfl)]; exact e, fun a C dx fs e => by rw [upd_ne (ne e rfl)]; exact e, fun _ _ => rd, fun _ _ => rd⟩
theorem lk_off (h : F d = some (.frz od u)) (hu : isDk u = true) : Lk F (upd F d u) := by
  have ne : ∀ {a : Addr} {o : HO}, F a = some o → (∀ x y, o ≠ .frz x y) → a ≠ d := fun e q z => by
    rw [z, h] at e
    cases e
    exact q _ _ rfl
  have rd : ∀ {a : Addr} {o : HO}, Rd F a o → (∀ x y, o ≠ .frz x y) → Rd (upd F d u) a o := fun {a o} r q => by
    by_cases z : a = d
    · subst z
      rcases r with r | ⟨x, r⟩
      · rw [h] at r
        cases r
        exact absurd rfl (q _ _)
      · rw [h] at r
        cases r
        exact .inl upd_same
    · rcases r with r | ⟨x, r⟩
      · exact .inl (by rw [upd_ne z]; exact r)
      · exact .inr ⟨x, by rw [upd_ne z]; exact r⟩
  exact ⟨fun a e => by rw [upd_ne (fun z => by rw [z, h] at e; cases e)]; exact e, fun _ _ r => rd r (fun _ _ z => nomatch z), fun _ _ r => rd r (fun _ _ z => nomatch z), fun a vs e => by rw [upd_ne (ne e (fun _ _ z => nomatch z))]; exact e, fun a vs e => by rw [upd_ne (ne e (fun _ _ z => nomatch z))]; exact e, fun a C dx fs e => by rw [upd_ne (ne e (fun _ _ z => nomatch z))]; exact e, fun _ _ r => rd r (fun _ _ z => nomatch z), fun _ _ r => rd r (fun _ _ z => nomatch z)⟩
theorem Lk.seqT (l : Lk F G) {a : Addr} {vs : List V} (h : SqT K F a vs) : SqT K G a vs := h.imp (l.rt a vs) id
theorem Lk.seqL (l : Lk F G) {a : Addr} {vs : List V} (h : SqL K F a vs) : SqL K G a vs := h.imp (l.rl a vs) id
mutual
theorem Rep0.lk (l : Lk F G) : ∀ {x : D} {v : V}, Rep0 K F x v → Rep0 K G x v
  | .non, _, h => h
  | .bl _, _, h => h
  | .int _, _, h => h
  | .str _, _, h => h
  | .tup ds, _, ⟨a, vs, e, h, r⟩ => ⟨a, vs, e, l.tu a vs h, Reps0.lk l r⟩
  | .rtup ds, _, ⟨a, vs, e, h, r⟩ => ⟨a, vs, e, l.seqT h, Reps0.lk l r⟩
  | .lst ds, _, ⟨a, vs, e, h, r⟩ => ⟨a, vs, e, l.li a vs h, Reps0.lk l r⟩
  | .rol ds, _, ⟨a, vs, e, h, r⟩ => ⟨a, vs, e, l.seqL h, Reps0.lk l r⟩
  | .ins C fs ds, _, ⟨a, dx, fvs, e, h, q, r⟩ => ⟨a, dx, fvs, e, l.i a C dx fvs h, q, Reps0.lk l r⟩
  | .dk ks ds, _, ⟨a, kvs, e, h, q, r⟩ => ⟨a, kvs, e, l.k a kvs h, q, Reps0.lk l r⟩
  | .dt ks ds, _, ⟨a, kvs, e, h, q, r⟩ => ⟨a, kvs, e, l.t a kvs h, q, Reps0.lk l r⟩
  | .op _, _, h => h
theorem Reps0.lk (l : Lk F G) : ∀ {xs : List D} {vs : List V}, Reps0 K F xs vs → Reps0 K G xs vs
  | [], _, h => h
  | _ :: _, _, ⟨v, r, e, h, t⟩ => ⟨v, r, e, Rep0.lk l h, Reps0.lk l t⟩
end
mutual
theorem Rep.lk (l : Lk F G) : ∀ {x : W} {v : V}, Rep K F al x v → Rep K G al x v
  | .d _, _, h => Rep0.lk l h
  | .cel _, _, h => h
  | .tup ds, _, ⟨a, vs, e, h, r⟩ => ⟨a, vs, e, l.tu a vs h, Reps.lk l r⟩
theorem Reps.lk (l : Lk F G) : ∀ {xs : List W} {vs : List V}, Reps K F al xs vs → Reps K G al xs vs
  | [], _, h => h
  | _ :: _, _, ⟨v, r, e, h, t⟩ => ⟨v, r, e, Rep.lk l h, Reps.lk l t⟩
end
theorem Slots.lk (l : Lk F G) {sl : List (Option W)} {σ : L2.St} (s : Slots K sl F al σ) : Slots K sl G al σ := ⟨s.len, fun i x h => by
  obtain ⟨v, e, r⟩ := s.ok i x h
  exact ⟨v, e, Rep.lk l r⟩⟩
theorem Cells.lk (l : Lk F G) {cl : List Cell} (C : Cells K cl F al H) (s : Same G H') (same : ∀ a, F a = none → H' a = H a) (some' : ∀ a, H a ≠ none → H' a ≠ none) : Cells K cl G al H' := by
  refine ⟨s, C.len, fun n a c h1 h2 => ?_, C.nd, fun a ha => some' a (C.has a ha)⟩
  have o := C.ok n a c h1 h2
  cases c with
  | lst ds =>
    obtain ⟨n0, vs, q1, q2⟩ := o
    exact ⟨l.n a n0, vs, (same a n0).trans q1, Reps.lk l q2⟩
  | dk ks ds =>
    obtain ⟨n0, vs, q1, q0, q2⟩ := o
    exact ⟨l.n a n0, vs, (same a n0).trans q1, q0, Reps.lk l q2⟩
  | dt ks ds =>
    obtain ⟨n0, vs, q1, q0, q2⟩ := o
    exact ⟨l.n a n0, vs, (same a n0).trans q1, q0, Reps.lk l q2⟩
  | ins C fs ds =>
    obtain ⟨n0, dx, vs, q1, q0, q2⟩ := o
    exact ⟨l.n a n0, dx, vs, (same a n0).trans q1, q0, Reps.lk l q2⟩
  | gone => exact trivial
theorem same_upd {x : HO} (s : Same F H) : Same (upd F d x) (upd H d x) := fun b o h => by
  by_cases z : b = d
  · subst z
    rw [upd_same] at h ⊢
    exact h
  · rw [upd_ne z] at h ⊢
    exact s b o h
theorem Cells.on {cl : List Cell} (C : Cells K cl F al H) (h : F d = some u) (hu : isDk u = true) : Cells K cl (upd F d (.frz od u)) al (upd H d (.frz od u)) :=
  C.lk (lk_on h hu) (same_upd C.fh) (fun a n => by rw [upd_ne (fun z => by rw [z, h] at n; cases n)]) fun a q => by
    by_cases z : a = d
    · rw [z, upd_same]
      exact fun q => nomatch q
    · rw [upd_ne z]
      exact q
theorem Cells.off {cl : List Cell} (C : Cells K cl F al H) (h : F d = some (.frz od u)) (hu : isDk u = true) : Cells K cl (upd F d u) al (upd H d u) :=
  C.lk (lk_off h hu) (same_upd C.fh) (fun a n => by rw [upd_ne (fun z => by rw [z, h] at n; cases n)]) fun a q => by
    by_cases z : a = d
    · rw [z, upd_same]
      exact fun q => nomatch q
    · rw [upd_ne z]
      exact q
theorem Rel.on {r : Rho} {σ : L2.St} (R : Rel K r F al σ H) (h : F d = some u) (hu : isDk u = true) : Rel K r (upd F d (.frz od u)) al σ (upd H d (.frz od u)) := ⟨R.s.lk (lk_on h hu), R.c.on h hu⟩
theorem Rel.off {r : Rho} {σ : L2.St} (R : Rel K r F al σ H) (h : F d = some (.frz od u)) (hu : isDk u = true) : Rel K r (upd F d u) al σ (upd H d u) := ⟨R.s.lk (lk_off h hu), R.c.off h hu⟩
/-- from ahead of the lock to behind it -/
theorem Ext.off {F' H' : Hp} {al' : List Addr} (fh : Same F H) (h : F d = some u) (x : Ext (upd F d (.frz od u)) al (upd H d (.frz od u)) F' al' H') : Ext F al H (upd F' d u) al' (upd H' d u) := by
  have hH : H d = some u := fh d u h
  have up : ∀ {b : Addr}, H b = none → b ≠ d := fun e z => by rw [z, hH] at e; cases e
  have dn : ∀ {b : Addr}, (upd H d (.frz od u)) b = none → H b = none := fun {b} e => by
    by_cases z : b = d
    · rw [z, upd_same] at e
      cases e
    · rw [upd_ne z] at e
      exact e
  refine ⟨fun b o e => ?_, ?_, fun b o e hb => ?_, fun b o e => ?_, fun b e => ?_⟩
  · by_cases z : b = d
    · subst z
      rw [upd_same, ← h]
      exact e
    · rw [upd_ne z]
      exact x.f b o (by rw [upd_ne z]; exact e)
  · obtain ⟨be, e1, e2⟩ := x.a
    exact ⟨be, e1, fun b hb => dn (e2 b hb)⟩
  · by_cases z : b = d
    · subst z
      rw [upd_same, ← hH]
      exact e
    · rw [upd_ne z]
      exact x.h b o (by rw [upd_ne z]; exact e) hb
  · by_cases z : b = d
    · subst z
      rw [upd_same] at e
      exact .inl (h.trans e)
    · rw [upd_ne z] at e
      rcases x.n b o e with q | q | q
      · rw [upd_ne z] at q
        exact .inl q
      · exact .inr (.inl (dn q))
      · exact .inr (.inr q)
  · by_cases z : b = d
    · rw [z, upd_same]
      exact fun q => nomatch q
    · rw [upd_ne z]
      exact x.t b (by rw [upd_ne z]; exact e)
theorem mut_dk (hu : isDk u = true) : Mut (some u) := by
  cases u <;> first
    | exact trivial
    | cases hu
end
/-- the name i is of a dict that is locked -/
def Gd (i : Nat) (σ : L2.St) (H : Hp) : Prop := ∃ a o u, σ[i]? = some (some (V.ref a)) ∧ H a = some (.frz o u)
section
variable {X : Cx} {i : Nat}
def isDat : Option (Option W) → Bool
  | some (some (.d (.dk _ _))) => true
  | some (some (.d (.dt _ _))) => true
  | _ => false
theorem dat_ok {K : PySem.W.Frag} {r : Rho} {F H : Hp} {al : List Addr} {σ : L2.St} (R : Rel K r F al σ H) (h : isDat r.sl[i]? = true) : ∃ a u, σ[i]? = some (some (V.ref a)) ∧ isDk u = true ∧ Rd F a u := by
  unfold isDat at h
  split at h
  · rename_i ks ds e
    obtain ⟨v, e1, a, kvs, rfl, q, _⟩ := R.s.ok i _ e
    exact ⟨a, _, e1, rfl, q⟩
  · rename_i ks ds e
    obtain ⟨v, e1, a, kvs, rfl, q, _⟩ := R.s.ok i _ e
    exact ⟨a, _, e1, rfl, q⟩
  · cases h
theorem w_lock {m : M} {T : TE} (hT : ∀ σ H Q, tF X.K m σ H Q → T σ H Q) (hm : ∀ r d r', m r = some (d, r') → isDat r.sl[i]? = true) : ∀ σ H Q, tF X.K m σ H Q → tLockE (fun σ H Q => Gd i σ H ∧ T σ H Q) σ H Q ∨ (Gd i σ H ∧ T σ H Q) := fun σ H Q h => by
  obtain ⟨r, F, al, d, r', R, e1, k⟩ := id h
  obtain ⟨a, u, es, hu, rd⟩ := dat_ok R (hm r d r' e1)
  rcases rd with rd | ⟨o, rd⟩
  · refine .inl ⟨a, u, R.c.fh _ _ rd, mut_dk hu, fun od => ⟨⟨a, od, u, es, upd_same⟩, hT _ _ _ ⟨r, _, al, d, r', R.on rd hu, e1, fun F' al' v H' x' R' p' => ?_⟩⟩⟩
    have hd : F' a = some (.frz od u) := x'.f a _ upd_same
    exact ⟨R'.c.fh _ _ hd, k _ al' v _ (x'.off R.c.fh rd) (R'.off hd hu) (p'.lk (lk_off hd hu))⟩
  · exact .inr ⟨⟨a, o, u, es, R.c.fh _ _ rd⟩, hT _ _ _ h⟩
theorem EndF.lock {K : PySem.W.Frag} {D : Ends} {F H : Hp} {al : List Addr} {d : Addr} {u : HO} {od : Obj} {o : Out} (fh : Same F H) (h : F d = some u) (hu : isDk u = true) (E : EndF K D F al H o) :
    EndF K ⟨fun σ' H' => H' d = some (.frz od u) ∧ D.nx σ' (upd H' d u), fun v H' => H' d = some (.frz od u) ∧ D.rt v (upd H' d u), fun σ' H' => H' d = some (.frz od u) ∧ D.bk σ' (upd H' d u), fun σ' H' => H' d = some (.frz od u) ∧ D.ct σ' (upd H' d u)⟩ (upd F d (.frz od u)) al (upd H d (.frz od u)) o := by
  cases o with
  | nx r =>
    intro F' al' σ' H' x R
    have hd : F' d = some (.frz od u) := x.f d _ upd_same
    exact ⟨R.c.fh _ _ hd, E _ al' σ' _ (x.off fh h) (R.off hd hu)⟩
  | ret w r =>
    intro F' al' v σ' H' x R p
    have hd : F' d = some (.frz od u) := x.f d _ upd_same
    exact ⟨R.c.fh _ _ hd, E _ al' v σ' _ (x.off fh h) (R.off hd hu) (p.lk (lk_off hd hu))⟩
  | bk r =>
    intro F' al' σ' H' x R
    have hd : F' d = some (.frz od u) := x.f d _ upd_same
    exact ⟨R.c.fh _ _ hd, E _ al' σ' _ (x.off fh h) (R.off hd hu)⟩
  | ct r =>
    intro F' al' σ' H' x R
    have hd : F' d = some (.frz od u) := x.f d _ upd_same
    exact ⟨R.c.fh _ _ hd, E _ al' σ' _ (x.off fh h) (R.off hd hu)⟩
theorem w_lockS {g : G} {T : TS} (hT : ∀ D σ H, tFS X.K g D σ H → T D σ H) (hm : ∀ r o, g r = some o → isDat r.sl[i]? = true) : ∀ D σ H, tFS X.K g D σ H → tLock (fun D σ H => Gd i σ H ∧ T D σ H) D σ H ∨ (Gd i σ H ∧ T D σ H) := fun D σ H h => by
  obtain ⟨r, F, al, o, R, e1, E⟩ := id h
  obtain ⟨a, u, es, hu, rd⟩ := dat_ok R (hm r o e1)
  rcases rd with rd | ⟨ob, rd⟩
  · exact .inl ⟨a, u, R.c.fh _ _ rd, mut_dk hu, fun od => ⟨⟨a, od, u, es, upd_same⟩, hT _ _ _ ⟨r, _, al, o, R.on rd hu, e1, E.lock R.c.fh rd hu⟩⟩⟩
  · exact .inr ⟨⟨a, ob, u, es, R.c.fh _ _ rd⟩, hT _ _ _ h⟩
theorem PE.or {e : Expr} {t t' : TE} (h : PE X e t) (h' : PE X e t') : PE X e fun σ H Q => t σ H Q ∨ t' σ H Q := ⟨fun pins s σ H Q I q => q.elim (h.run pins s σ H Q I) (h'.run pins s σ H Q I)⟩
theorem PS.or {st : Stmt} {t t' : TS} (h : PS X st t) (h' : PS X st t') : PS X st fun D σ H => t D σ H ∨ t' D σ H := ⟨fun pins s σ H D I q => q.elim (h.run pins s σ H D I) (h'.run pins s σ H D I)⟩
/-- the keys, or the pairs, of the dict at the name i -/
def keyTo : Key → W
  | .inl i => .d (.int i)
  | .inr x => .d (.str x)
def iKey (i : Nat) : MI := fun r => match r.sl[i]? with
  | some (some (.d (.dk ks _))) => some ((ks.map keyTo, none), r)
  | _ => none
theorem iKey_dat {r r' : Rho} {p : List W × Ck} (h : iKey i r = some (p, r')) : isDat r.sl[i]? = true := by
  unfold iKey at h
  split at h
  · rename_i e
    rw [e]
    rfl
  · cases h
theorem rep_key {K : PySem.W.Frag} {F : Hp} {al : List Addr} (k : Key) : Rep K F al (keyTo k) (kV k) := by
  cases k <;> rfl
theorem wk_keys {K : PySem.W.Frag} {F : Hp} {al : List Addr} {a : Addr} {o : Obj} {kvs : List (Key × V)} (h : F a = some (.frz o (.dK kvs))) : Wk K (Itk a o kvs) F al ((kvs.map (·.1)).map keyTo) none where
  go := fun i d F1 al1 cl1 H1 hd e ha C _ => by
    have h1 := C.fh _ _ (e _ _ h)
    rw [List.getElem?_map, List.getElem?_map] at hd
    cases q : kvs[i]? with
    | none =>
      rw [q] at hd
      cases hd
    | some kv =>
      rw [q] at hd
      cases hd
      refine ⟨⟨h1, (List.getElem?_eq_some_iff.mp q).1⟩, fun x H2 ⟨e2, k, v, q2, ex⟩ => wk_same e2 C ?_⟩
      rw [q] at q2
      cases q2
      rw [ex]
      exact rep_key k
  stop := fun i F1 al1 cl1 H1 hi e ha C _ => ⟨C.fh _ _ (e _ _ h), by simpa using hi⟩
/-- for k in d, the name of a dict that is locked -/
theorem fi_key {tg e : Expr} (h : PE X e (tVar i)) : PI X tg e (fun σ H R => Gd i σ H ∧ iF X.K (iKey i) σ H R) :=
  PI.weak (pi_keys h) fun σ H R ⟨⟨a, o, u, es, hH⟩, r, F, al, ds, ck, r', Rl, e1, kR⟩ => by
    unfold iKey at e1
    split at e1
    · rename_i ks ws q
      cases e1
      obtain ⟨v, e2, a', kvs, rfl, rd, hk, _⟩ := Rl.s.ok i _ q
      rw [es] at e2
      cases e2
      have hu : F a = some (.frz o (.dK kvs)) := by
        rcases rd with rd | ⟨x, rd⟩
        · have := Rl.c.fh _ _ rd
          rw [hH] at this
          cases this
        · have := Rl.c.fh _ _ rd
          rw [hH] at this
          cases this
          exact rd
      subst hk
      exact ⟨_, es, a, o, rfl, .inl ⟨kvs, Rl.c.fh _ _ hu, kR F al _ H (Ext.refl _ _ _) Rl (wk_keys hu)⟩⟩
    · cases e1
end
end FL
/-! dict comprehensions put into names; comprehensions and loops over the keys of a dict -/
namespace FL
open PySem PySem.Spec L2
theorem eLc_dat {i : Nat} {c : Bool} {g : MG} {tt : MB} {te : M} {vs : List Nat} : ∀ r d r', eLc c (iKey i) g tt te vs r = some (d, r') → isDat r.sl[i]? = true := fun r d r' h => by
  unfold eLc at h
  split at h
  · cases h
  · rename_i q
    exact iKey_dat q
theorem eDc_dat {i : Nat} {c : Bool} {g : MG} {tt : MB} {tk tv : M} {vs : List Nat} : ∀ r d r', eDc c (iKey i) g tt tk tv vs r = some (d, r') → isDat r.sl[i]? = true := fun r d r' h => by
  unfold eDc at h
  split at h
  · cases h
  · rename_i q
    exact iKey_dat q
theorem sFor_dat {i : Nat} {g : MG} {b : G} : ∀ r o, sFor (iKey i) g b r = some o → isDat r.sl[i]? = true := fun r o h => by
  unfold sFor at h
  split at h
  · rename_i q
    exact iKey_dat q
  · cases h
theorem sAsg_dat {i : Nat} {m : M} {g : MG} (hm : ∀ r d r', m r = some (d, r') → isDat r.sl[i]? = true) : ∀ r o, sAsg m g r = some o → isDat r.sl[i]? = true := fun r o h => by
  unfold sAsg at h
  split at h
  · rename_i q
    exact hm _ _ _ q
  · cases h
section
variable {X : Cx} {i j : Nat} {mi : MI} {g : MG} {tt : MB} {te tk tv : M} {ws : List Nat} {b : G} {y : Str} {py pos spos : Pos} {elt kx vx tg iter tg1 iter1 : Expr} {ifs ifs1 : List Expr} {scope : Scope} {own : List (Str × Nat)} {body : List Stmt}
theorem fs_setDc (c : Bool) (hc : X.calm = true) (hN : X.N.Nodup) (hy : X.N[j]? = some y) (hyl : X.env.scope.names.lookup y = some .local) (hsw : swapsWith (.DictComp kx vx [⟨tg, iter, ifs, 0⟩] scope pos) (some (.Name y py)) spos.line X.env = pure true) (hi : PI X tg iter (iF X.K mi)) (ok : BlkOk X.N X.env.scope scope own) (hw : ∀ j ∈ ws, j ∈ own.map (·.2)) (hg : ∀ (z : Shared) (H : Hp) (C : Addr) (cl : List (Str × Addr)) (fp : List Addr), PG (X.blk z H scope (compEnvC scope cl C X.env) fp) tg (gF X.K ws g)) (ht : ∀ (z : Shared) (H : Hp) (C : Addr) (cl : List (Str × Addr)) (fp : List Addr), PTs (X.blk z H scope (compEnvC scope cl C X.env) fp) ifs (tFB X.K tt)) (hk : ∀ (z : Shared) (H : Hp) (C : Addr) (cl : List (Str × Addr)) (fp : List Addr), PE (X.blk z H scope (compEnvC scope cl C X.env) fp) kx (tF X.K tk)) (hv : ∀ (z : Shared) (H : Hp) (C : Addr) (cl : List (Str × Addr)) (fp : List Addr), PE (X.blk z H scope (compEnvC scope cl C X.env) fp) vx (tF X.K tv)) (hs : ∀ x, foldedSetIterable iter X.env x = pure x := by intro _; rfl) :
    PS X (.Assign [.Name y py] (.DictComp kx vx [⟨tg, iter, ifs, 0⟩] scope pos) spos) (tFS X.K (sAsg (eDc c mi g tt tk tv (own.map (·.2))) (tName j))) :=
  PS.weak (ps_setDc hc hN hy hyl hsw hi ok hg ht hk hv hs) fun D σ H h => w_dc hw σ H _ (w_set (X := X) D σ H h)
theorem fs_setDc2 (c : Bool) {mi1 : MI} {g1 : MG} {tt1 : MB} {vs1 ws1 : List Nat} (hc : X.calm = true) (hN : X.N.Nodup) (hy : X.N[j]? = some y) (hyl : X.env.scope.names.lookup y = some .local) (hsw : swapsWith (.DictComp kx vx [⟨tg, iter, ifs, 0⟩, ⟨tg1, iter1, ifs1, 0⟩] scope pos) (some (.Name y py)) spos.line X.env = pure true) (hi : PI X tg iter (iF X.K mi)) (ok : BlkOk X.N X.env.scope scope own) (hV : ∀ i ∈ vs1, i ∈ own.map (·.2)) (hw : ∀ j ∈ ws, j ∈ own.map (·.2)) (hw1 : ∀ j ∈ ws1, j ∈ vs1) (hg : ∀ (z : Shared) (H : Hp) (C : Addr) (cl : List (Str × Addr)) (fp : List Addr), PG (X.blk z H scope (compEnvC scope cl C X.env) fp) tg (gF X.K ws g)) (ht : ∀ (z : Shared) (H : Hp) (C : Addr) (cl : List (Str × Addr)) (fp : List Addr), PTs (X.blk z H scope (compEnvC scope cl C X.env) fp) ifs (tFB X.K tt)) (hi1 : ∀ (z : Shared) (H : Hp) (C : Addr) (cl : List (Str × Addr)) (fp : List Addr), PI (X.blk z H scope (compEnvC scope cl C X.env) fp) tg1 iter1 (iF X.K mi1)) (hg1 : ∀ (z : Shared) (H : Hp) (C : Addr) (cl : List (Str × Addr)) (fp : List Addr), PG (X.blk z H scope (compEnvC scope cl C X.env) fp) tg1 (gF X.K ws1 g1)) (ht1 : ∀ (z : Shared) (H : Hp) (C : Addr) (cl : List (Str × Addr)) (fp : List Addr), PTs (X.blk z H scope (compEnvC scope cl C X.env) fp) ifs1 (tFB X.K tt1)) (hk : ∀ (z : Shared) (H : Hp) (C : Addr) (cl : List (Str × Addr)) (fp : List Addr), PE (X.blk z H scope (compEnvC scope cl C X.env) fp) kx (tF X.K tk)) (hv : ∀ (z : Shared) (H : Hp) (C : Addr) (cl : List (Str × Addr)) (fp : List Addr), PE (X.blk z H scope (compEnvC scope cl C X.env) fp) vx (tF X.K tv)) (hs : ∀ x, foldedSetIterable iter X.env x = pure x := by intro _; rfl) (hs1 : ∀ en x, foldedSetIterable iter1 en x = pure x := by intro _ _; rfl) :
    PS X (.Assign [.Name y py] (.DictComp kx vx [⟨tg, iter, ifs, 0⟩, ⟨tg1, iter1, ifs1, 0⟩] scope pos) spos) (tFS X.K (sAsg (eDc2 c mi g tt mi1 g1 tt1 tk tv (own.map (·.2)) vs1) (tName j))) :=
  PS.weak (ps_setDc2 hc hN hy hyl hsw hi ok hV hg ht hi1 hg1 ht1 hk hv hs hs1) fun D σ H h => w_dc2 hw hw1 σ H _ (w_set (X := X) D σ H h)
/-- over the keys of the dict at the name i -/
theorem pf_lcK (c : Bool) (hc : X.calm = true) (hN : X.N.Nodup) (hn : PE X iter (tVar i)) (ok : BlkOk X.N X.env.scope scope own) (hw : ∀ j ∈ ws, j ∈ own.map (·.2)) (hg : ∀ (z : Shared) (H : Hp) (C : Addr) (cl : List (Str × Addr)) (fp : List Addr), PG (X.blk z H scope (compEnvC scope cl C X.env) fp) tg (gF X.K ws g)) (ht : ∀ (z : Shared) (H : Hp) (C : Addr) (cl : List (Str × Addr)) (fp : List Addr), PTs (X.blk z H scope (compEnvC scope cl C X.env) fp) ifs (tFB X.K tt)) (he : ∀ (z : Shared) (H : Hp) (C : Addr) (cl : List (Str × Addr)) (fp : List Addr), PE (X.blk z H scope (compEnvC scope cl C X.env) fp) elt (tF X.K te)) (hs : ∀ x, foldedSetIterable iter X.env x = pure x := by intro _; rfl) :
    PE X (.ListComp elt [⟨tg, iter, ifs, 0⟩] scope pos) (tF X.K (eLc c (iKey i) g tt te (own.map (·.2)))) :=
  have P := pe_lc hc hN (fi_key (tg := tg) hn) ok hg ht he hs
  PE.weak (PE.or (pe_lock P) P) (w_lock (i := i) (w_lc hw) eLc_dat)
theorem fs_setLcK (c : Bool) (hc : X.calm = true) (hN : X.N.Nodup) (hy : X.N[j]? = some y) (hyl : X.env.scope.names.lookup y = some .local) (hsw : swapsWith (.ListComp elt [⟨tg, iter, ifs, 0⟩] scope pos) (some (.Name y py)) spos.line X.env = pure true) (hn : PE X iter (tVar i)) (ok : BlkOk X.N X.env.scope scope own) (hw : ∀ j ∈ ws, j ∈ own.map (·.2)) (hg : ∀ (z : Shared) (H : Hp) (C : Addr) (cl : List (Str × Addr)) (fp : List Addr), PG (X.blk z H scope (compEnvC scope cl C X.env) fp) tg (gF X.K ws g)) (ht : ∀ (z : Shared) (H : Hp) (C : Addr) (cl : List (Str × Addr)) (fp : List Addr), PTs (X.blk z H scope (compEnvC scope cl C X.env) fp) ifs (tFB X.K tt)) (he : ∀ (z : Shared) (H : Hp) (C : Addr) (cl : List (Str × Addr)) (fp : List Addr), PE (X.blk z H scope (compEnvC scope cl C X.env) fp) elt (tF X.K te)) (hs : ∀ x, foldedSetIterable iter X.env x = pure x := by intro _; rfl) :
    PS X (.Assign [.Name y py] (.ListComp elt [⟨tg, iter, ifs, 0⟩] scope pos) spos) (tFS X.K (sAsg (eLc c (iKey i) g tt te (own.map (·.2))) (tName j))) :=
  have P := ps_setLc hc hN hy hyl hsw (fi_key (tg := tg) hn) ok hg ht he hs
  PS.weak (PS.or (ps_lock P) P) (w_lockS (i := i) (T := tAsg (tLc (iF X.K (iKey i)) (gF X.K ws g) (tFB X.K tt) (tF X.K te) (own.map fun q : Str × Nat => q.2)) (gName j)) (fun D σ H h => w_lc hw σ H _ (w_set (X := X) D σ H h)) (sAsg_dat eLc_dat))
theorem pf_dcK (c : Bool) (hc : X.calm = true) (hN : X.N.Nodup) (hn : PE X iter (tVar i)) (ok : BlkOk X.N X.env.scope scope own) (hw : ∀ j ∈ ws, j ∈ own.map (·.2)) (hg : ∀ (z : Shared) (H : Hp) (C : Addr) (cl : List (Str × Addr)) (fp : List Addr), PG (X.blk z H scope (compEnvC scope cl C X.env) fp) tg (gF X.K ws g)) (ht : ∀ (z : Shared) (H : Hp) (C : Addr) (cl : List (Str × Addr)) (fp : List Addr), PTs (X.blk z H scope (compEnvC scope cl C X.env) fp) ifs (tFB X.K tt)) (hk : ∀ (z : Shared) (H : Hp) (C : Addr) (cl : List (Str × Addr)) (fp : List Addr), PE (X.blk z H scope (compEnvC scope cl C X.env) fp) kx (tF X.K tk)) (hv : ∀ (z : Shared) (H : Hp) (C : Addr) (cl : List (Str × Addr)) (fp : List Addr), PE (X.blk z H scope (compEnvC scope cl C X.env) fp) vx (tF X.K tv)) (hs : ∀ x, foldedSetIterable iter X.env x = pure x := by intro _; rfl) :
    PE X (.DictComp kx vx [⟨tg, iter, ifs, 0⟩] scope pos) (tF X.K (eDc c (iKey i) g tt tk tv (own.map (·.2)))) :=
  have P := pe_dc hc hN (fi_key (tg := tg) hn) ok hg ht hk hv hs
  PE.weak (PE.or (pe_lock P) P) (w_lock (i := i) (w_dc hw) eDc_dat)
theorem fs_setDcK (c : Bool) (hc : X.calm = true) (hN : X.N.Nodup) (hy : X.N[j]? = some y) (hyl : X.env.scope.names.lookup y = some .local) (hsw : swapsWith (.DictComp kx vx [⟨tg, iter, ifs, 0⟩] scope pos) (some (.Name y py)) spos.line X.env = pure true) (hn : PE X iter (tVar i)) (ok : BlkOk X.N X.env.scope scope own) (hw : ∀ j ∈ ws, j ∈ own.map (·.2)) (hg : ∀ (z : Shared) (H : Hp) (C : Addr) (cl : List (Str × Addr)) (fp : List Addr), PG (X.blk z H scope (compEnvC scope cl C X.env) fp) tg (gF X.K ws g)) (ht : ∀ (z : Shared) (H : Hp) (C : Addr) (cl : List (Str × Addr)) (fp : List Addr), PTs (X.blk z H scope (compEnvC scope cl C X.env) fp) ifs (tFB X.K tt)) (hk : ∀ (z : Shared) (H : Hp) (C : Addr) (cl : List (Str × Addr)) (fp : List Addr), PE (X.blk z H scope (compEnvC scope cl C X.env) fp) kx (tF X.K tk)) (hv : ∀ (z : Shared) (H : Hp) (C : Addr) (cl : List (Str × Addr)) (fp : List Addr), PE (X.blk z H scope (compEnvC scope cl C X.env) fp) vx (tF X.K tv)) (hs : ∀ x, foldedSetIterable iter X.env x = pure x := by intro _; rfl) :
    PS X (.Assign [.Name y py] (.DictComp kx vx [⟨tg, iter, ifs, 0⟩] scope pos) spos) (tFS X.K (sAsg (eDc c (iKey i) g tt tk tv (own.map (·.2))) (tName j))) :=
  have P := ps_setDc hc hN hy hyl hsw (fi_key (tg := tg) hn) ok hg ht hk hv hs
  PS.weak (PS.or (ps_lock P) P) (w_lockS (i := i) (T := tAsg (tDc (iF X.K (iKey i)) (gF X.K ws g) (tFB X.K tt) (tF X.K tk) (tF X.K tv) (own.map fun q : Str × Nat => q.2)) (gName j)) (fun D σ H h => w_dc hw σ H _ (w_set (X := X) D σ H h)) (sAsg_dat eDc_dat))
theorem fs_forK (hp : PassesOwn (model X.prog X.w) X.A X.env X.xe) (hc : X.calm = true) (hn : PE X iter (tVar i)) (hg : PG X tg (gF X.K ws g)) (hb : PSs X body (tFS X.K b)) (hs : ∀ x, foldedSetIterable iter X.env x = pure x := by intro _; rfl) :
    PS X (.For tg iter body [] pos) (tFS X.K (sFor (iKey i) g b)) :=
  have P := ps_for hp hc (fi_key (tg := tg) hn) hg hb hs
  PS.weak (PS.or (ps_lock P) P) (w_lockS (i := i) (T := tFor (iF X.K (iKey i)) (gF X.K ws g) (tFS X.K b)) w_for sFor_dat)
end
end FL
/-! list comprehensions of two clauses, d.setdefault(k, x), min(texts) -/
namespace FL
open PySem PySem.Spec L2
/-! ### lists of two clauses -/
def bodyL (te : M) (n : Nat) : Rho → Option (List Cell) := fun r => match te r with
  | some (y, r1) => match r1.cl[n]? with
    | some (.lst acc) => if acc.length < sizeLine then some (r1.cl.set n (.lst (acc ++ [y]))) else none
    | _ => none
  | none => none
noncomputable def eLc2 (c : Bool) (mi : MI) (g : MG) (tt : MB) (mi1 : MI) (g1 : MG) (tt1 : MB) (te : M) (vs vs1 : List Nat) : M := fun r => match mi r with
  | none => none
  | some ((ds, ck), r1) => match cpL ck g tt (bodyI mi1 g1 tt1 (bodyL te r1.cl.length) vs1) vs ds { r1 with cl := r1.cl ++ [.lst []] } with
    | none => none
    | some r2 => unCell c r1.cl.length r2
section
variable {X : Cx} {mi mi1 : MI} {g g1 : MG} {tt tt1 : MB} {te : M} {vs vs1 ws ws1 : List Nat} {c : Bool}
theorem bodyL_ok {K : PySem.W.Frag} {rb : Rho} {F : Hp} {al : List Addr} {σ : L2.St} {H : Hp} {n : Nat} {cl4 : List Cell} {D : Addr} {N : Hp → Prop} (R : Rel K rb F al σ H) (hD : ∀ be, (al ++ be)[n]? = some D) (e : bodyL te n rb = some cl4) (hN : ∀ F' al' H', Ext F al H F' al' H' → Cells K cl4 F' al' H' → N H') :
    tF K te σ H fun y H7 => ∃ acc, H7 D = some (.lst acc) ∧ acc.length < sizeLine ∧ N (upd H7 D (.lst (acc ++ [y]))) := by
  unfold bodyL at e
  split at e
  · rename_i y rc q1
    refine ⟨rb, F, al, y, rc, R, q1, fun F5 al5 v H5 x5 R5 p5 => ?_⟩
    split at e
    · rename_i acc hacc
      split at e
      · rename_i hz
        cases e
        obtain ⟨be, eb, _⟩ := id x5.a
        have hD5 : al5[n]? = some D := by
          rw [eb]
          exact hD be
        obtain ⟨nF, us, q3, q4⟩ := R5.c.ok _ _ _ hD5 hacc
        exact ⟨us, q3, by rw [q4.length]; exact hz, hN _ _ _ (x5.trans (ext_wr hD5 nF)) (R5.c.wr hD5 nF ⟨nF, _, upd_same, q4.app (Reps.one p5)⟩)⟩
      · cases e
    · cases e
  · cases e
theorem w_lc2 (hw : ∀ j ∈ ws, j ∈ vs) (hw1 : ∀ j ∈ ws1, j ∈ vs1) : ∀ σ H Q, tF X.K (eLc2 c mi g tt mi1 g1 tt1 te vs vs1) σ H Q → tLc2 (iF X.K mi) (gF X.K ws g) (tFB X.K tt) (iF X.K mi1) (gF X.K ws1 g1) (tFB X.K tt1) (tF X.K te) vs vs1 σ H Q := fun σ H Q ⟨r, F, al, d, r', R, e1, k⟩ => by
  unfold eLc2 at e1
  split at e1
  · cases e1
  · rename_i ds ck r1 q
    split at e1
    · cases e1
    · rename_i r2 q2
      refine ⟨r, F, al, ds, ck, r1, R, q, fun F1 al1 J H1 x1 R1 Wj D hD => ?_⟩
      obtain ⟨hF, hal⟩ := R1.c.free hD
      have x0 : Ext F1 al1 H1 F1 (al1 ++ [D]) (upd H1 D (.lst [])) := ext_new hF hD
      have C0 : Cells X.K (r1.cl ++ [.lst []]) F1 (al1 ++ [D]) (upd H1 D (.lst [])) := R1.c.new hD ⟨hF, [], upd_same, rfl⟩
      have hn : al1.length = r1.cl.length := R1.c.len
      refine ⟨fun i m H' => m = ds.length - i ∧ CpS X.K F1 (al1 ++ [D]) (upd H1 D (.lst [])) r1.sl ds ck g tt (bodyI mi1 g1 tt1 (bodyL te r1.cl.length) vs1) vs r2 i H', ⟨ds.length, rfl, F1, _, _, Ext.refl _ _ _, C0, q2⟩, ?_⟩
      rintro i m H' ⟨rfl, st⟩
      rcases cp_turn (R1.s.ext x0) Wj (Same.refl _) ⟨[D], rfl⟩ hw st with ⟨hi, stop, F9, al9, x9, C9, es⟩ | ⟨hi, go, step⟩
      · refine .inl ⟨stop, ?_⟩
        obtain ⟨be, eb, _⟩ := id x9.a
        obtain ⟨sl2, cl2⟩ := r2
        cases es
        obtain ⟨Fz, alz, xz, Rz, pz⟩ := unCell_ok (x0.trans x9) hn (by rw [eb]; exact at_new hn be) R1.s C9 e1
        exact k Fz alz (.ref D) H' (x1.trans xz) Rz pz
      · refine .inr ⟨go, fun H2 => CpS X.K F1 (al1 ++ [D]) (upd H1 D (.lst [])) r1.sl ds ck g tt (bodyI mi1 g1 tt1 (bodyL te r1.cl.length) vs1) vs r2 (i + 1) H2, fun H2 z => ⟨ds.length - (i + 1), by omega, rfl, z⟩, fun x H2 hy => ?_⟩
        obtain ⟨P, hP, after⟩ := step x H2 hy
        refine gF_mono hP fun σ3 H3 p3 => ?_
        obtain ⟨_, kw, P3, h3, last⟩ := after σ3 H3 p3
        refine ⟨kw, tFB_mono h3 fun b H4 p4 => ?_⟩
        have q4 := last b H4 p4
        cases b with
        | false => simpa using q4
        | true =>
          simp only [if_true] at q4 ⊢
          obtain ⟨rb, F4, al4, cl4, R4, x4, hb, e4⟩ := q4
          unfold bodyI at hb
          split at hb
          · rename_i ds1 ck1 rc qc
            obtain ⟨rI, qI, eI⟩ := Option.map_eq_some_iff.mp hb
            refine ⟨rb, F4, al4, ds1, ck1, rc, R4, qc, fun F5 al5 J1 H5 x5 R5 W1 => ?_⟩
            refine ⟨fun j k H' => k = ds1.length - j ∧ CpS X.K F5 al5 H5 rc.sl ds1 ck1 g1 tt1 (bodyL te r1.cl.length) vs1 rI j H', ⟨ds1.length, rfl, F5, _, _, Ext.refl _ _ _, R5.c, qI⟩, ?_⟩
            rintro j k' H' ⟨rfl, st1⟩
            rcases cp_turn R5.s W1 (Same.refl _) ⟨[], by simp⟩ hw1 st1 with ⟨hj, stop1, F9, al9, x9, C9, es⟩ | ⟨hj, go1, step1⟩
            · refine .inl ⟨stop1, F9, al9, rI.cl, (x4.trans x5).trans x9, C9, ?_⟩
              rw [eI]
              exact e4
            · refine .inr ⟨go1, fun H6 => CpS X.K F5 al5 H5 rc.sl ds1 ck1 g1 tt1 (bodyL te r1.cl.length) vs1 rI (j + 1) H6, fun H6 z => ⟨ds1.length - (j + 1), by omega, rfl, z⟩, fun x H6 hy => ?_⟩
              obtain ⟨P4, hP4, after1⟩ := step1 x H6 hy
              refine gF_mono hP4 fun σ7 H7 p7 => ?_
              obtain ⟨_, kw7, P6, h6, last1⟩ := after1 σ7 H7 p7
              refine ⟨kw7, tFB_mono h6 fun b H8 p8 => ?_⟩
              have q8 := last1 b H8 p8
              cases b with
              | false => simpa using q8
              | true =>
                simp only [if_true] at q8 ⊢
                obtain ⟨rd, F8, al8, cl8, R8, x8, hb8, e8⟩ := q8
                obtain ⟨be, eb, _⟩ := ((x4.trans x5).trans x8).a
                exact bodyL_ok R8 (fun bf => by rw [eb, List.append_assoc]; exact at_new hn (be ++ bf)) hb8 fun F9 al9 H9 x9 C9 => ⟨F9, al9, cl8, x8.trans x9, C9, e8⟩
          · cases hb
section
variable {elt tg iter tg1 iter1 : Expr} {ifs ifs1 : List Expr} {scope : Scope} {own : List (Str × Nat)} {pos spos py : Pos} {y : Str} {j : Nat}
theorem pf_lc2 (c : Bool) (hc : X.calm = true) (hN : X.N.Nodup) (hi : PI X tg iter (iF X.K mi)) (ok : BlkOk X.N X.env.scope scope own) (hV : ∀ i ∈ vs1, i ∈ own.map (·.2)) (hw : ∀ j ∈ ws, j ∈ own.map (·.2)) (hw1 : ∀ j ∈ ws1, j ∈ vs1) (hg : ∀ (z : Shared) (H : Hp) (C : Addr) (cl : List (Str × Addr)) (fp : List Addr), PG (X.blk z H scope (compEnvC scope cl C X.env) fp) tg (gF X.K ws g)) (ht : ∀ (z : Shared) (H : Hp) (C : Addr) (cl : List (Str × Addr)) (fp : List Addr), PTs (X.blk z H scope (compEnvC scope cl C X.env) fp) ifs (tFB X.K tt)) (hi1 : ∀ (z : Shared) (H : Hp) (C : Addr) (cl : List (Str × Addr)) (fp : List Addr), PI (X.blk z H scope (compEnvC scope cl C X.env) fp) tg1 iter1 (iF X.K mi1)) (hg1 : ∀ (z : Shared) (H : Hp) (C : Addr) (cl : List (Str × Addr)) (fp : List Addr), PG (X.blk z H scope (compEnvC scope cl C X.env) fp) tg1 (gF X.K ws1 g1)) (ht1 : ∀ (z : Shared) (H : Hp) (C : Addr) (cl : List (Str × Addr)) (fp : List Addr), PTs (X.blk z H scope (compEnvC scope cl C X.env) fp) ifs1 (tFB X.K tt1)) (he : ∀ (z : Shared) (H : Hp) (C : Addr) (cl : List (Str × Addr)) (fp : List Addr), PE (X.blk z H scope (compEnvC scope cl C X.env) fp) elt (tF X.K te))
    (hs : ∀ x, foldedSetIterable iter X.env x = pure x := by intro _; rfl) (hs1 : ∀ en x, foldedSetIterable iter1 en x = pure x := by intro _ _; rfl) :
    PE X (.ListComp elt [⟨tg, iter, ifs, 0⟩, ⟨tg1, iter1, ifs1, 0⟩] scope pos) (tF X.K (eLc2 c mi g tt mi1 g1 tt1 te (own.map (·.2)) vs1)) :=
  PE.weak (pe_lc2 hc hN hi ok hV hg ht hi1 hg1 ht1 he hs hs1) (w_lc2 hw hw1)
theorem fs_setLc2 (c : Bool) (hc : X.calm = true) (hN : X.N.Nodup) (hy : X.N[j]? = some y) (hyl : X.env.scope.names.lookup y = some .local) (hsw : swapsWith (.ListComp elt [⟨tg, iter, ifs, 0⟩, ⟨tg1, iter1, ifs1, 0⟩] scope pos) (some (.Name y py)) spos.line X.env = pure true) (hi : PI X tg iter (iF X.K mi)) (ok : BlkOk X.N X.env.scope scope own) (hV : ∀ i ∈ vs1, i ∈ own.map (·.2)) (hw : ∀ j ∈ ws, j ∈ own.map (·.2)) (hw1 : ∀ j ∈ ws1, j ∈ vs1) (hg : ∀ (z : Shared) (H : Hp) (C : Addr) (cl : List (Str × Addr)) (fp : List Addr), PG (X.blk z H scope (compEnvC scope cl C X.env) fp) tg (gF X.K ws g)) (ht : ∀ (z : Shared) (H : Hp) (C : Addr) (cl : List (Str × Addr)) (fp : List Addr), PTs (X.blk z H scope (compEnvC scope cl C X.env) fp) ifs (tFB X.K tt)) (hi1 : ∀ (z : Shared) (H : Hp) (C : Addr) (cl : List (Str × Addr)) (fp : List Addr), PI (X.blk z H scope (compEnvC scope cl C X.env) fp) tg1 iter1 (iF X.K mi1)) (hg1 : ∀ (z : Shared) (H : Hp) (C : Addr) (cl : List (Str × Addr)) (fp : List Addr), PG (X.blk z H scope (compEnvC scope cl C X.env) fp) tg1 (gF X.K ws1 g1)) (ht1 : ∀ (z : Shared) (H : Hp) (C : Addr) (cl : List (Str × Addr)) (fp : List Addr), PTs (X.blk z H scope (compEnvC scope cl C X.env) fp) ifs1 (tFB X.K tt1)) (he : ∀ (z : Shared) (H : Hp) (C : Addr) (cl : List (Str × Addr)) (fp : List Addr), PE (X.blk z H scope (compEnvC scope cl C X.env) fp) elt (tF X.K te))
    (hs : ∀ x, foldedSetIterable iter X.env x = pure x := by intro _; rfl) (hs1 : ∀ en x, foldedSetIterable iter1 en x = pure x := by intro _ _; rfl) :
    PS X (.Assign [.Name y py] (.ListComp elt [⟨tg, iter, ifs, 0⟩, ⟨tg1, iter1, ifs1, 0⟩] scope pos) spos) (tFS X.K (sAsg (eLc2 c mi g tt mi1 g1 tt1 te (own.map (·.2)) vs1) (tName j))) :=
  PS.weak (ps_setLc2 hc hN hy hyl hsw hi ok hV hg ht hi1 hg1 ht1 he hs hs1) fun D σ H h => w_lc2 hw hw1 σ H _ (w_set (X := X) D σ H h)
end
end
/-! ### d.setdefault(k, x) -/
def mSetd : OpN := fun cl ds => match ds with
  | [.cel n, y, z] => match cl[n]? with
    | some (.dk ks ws) => match keyW y with
      | some k => if ks.length < sizeLine then match valK ks ws k with
          | some w => some (w, cl)
          | none => (dStep n y z cl).map fun c => (z, c)
        else none
      | none => none
    | _ => none
  | _ => none
section
variable {X : Cx} {e o f k : Expr} {apos cpos : Pos}
theorem pf_dsetd {mo mk mx : M} (ho : PE X o (tF X.K mo)) (hk : PE X k (tF X.K mk)) (hf : PE X f (tF X.K mx))
    (hbase : attributeBase o "setdefault" X.env (eval o X.env) = eval o X.env := by rfl)
    (hfew : ((backTo cpos (starEach [k, f] X.env)).all (fun x => !x.1) && (backToKw cpos (keywordEach [] X.env)).all (fun x => x.1.isSome) && decide (([k, f] : List Expr).length + ([] : List Keyword).length + (if ([] : List Keyword).isEmpty then 0 else 1) < 30)) = true := by rfl)
    (hline : (apos.endLine == cpos.line) = true := by rfl) (htr : backTo cpos (starEach [k, f] X.env) = [(false, eval k X.env), (false, eval f X.env)] := by rfl) :
    PE X (.Call (.Attribute o "setdefault" apos) [k, f] [] cpos) (tF X.K (eMethT isDic mSetd mo (aCons mk (aCons mx aNil)))) :=
  PE.weak (pe_dsetd ho hk hf ⟨hbase, hfew, hline, htr⟩) fun σ H Q ⟨rho, F, al, d, r', R, e1, kQ⟩ => by
    unfold eMethT at e1
    split at e1
    · rename_i x0 r1 q1
      split at e1
      · rename_i hc
        split at e1
        · rename_i xs r2 q2
          obtain ⟨c, q4, rfl⟩ := liftN_some e1
          obtain ⟨y, ry, ys, w1, w2, rfl⟩ := aCons_some q2
          obtain ⟨z, rz, zs, w3, w4, rfl⟩ := aCons_some w2
          have w4 : some ([], rz) = some (zs, r2) := w4
          have w5 := Option.some.inj w4
          have ez : [] = zs := congrArg Prod.fst w5
          have er : rz = r2 := congrArg Prod.snd w5
          subst ez er
          refine ⟨rho, F, al, x0, r1, R, q1, fun F1 al1 vx H1 x1 R1 p1 => ?_⟩
          have hD : ∃ a, vx = .ref a ∧ IsD H1 a := by
            unfold isDic at hc
            cases e1 : asDk r1.cl x0 with
            | some p =>
              obtain ⟨a, kvs, rfl, g, _⟩ := asDk_ok R1.c p1 (ks := p.1) (ws := p.2) e1
              exact ⟨a, rfl, .inl ⟨kvs, g⟩⟩
            | none =>
              rw [e1] at hc
              simp at hc
              obtain ⟨p, e2⟩ := Option.isSome_iff_exists.mp hc
              obtain ⟨a, kvs, rfl, g, _⟩ := asDt_ok R1.c p1 (ks := p.1) (ws := p.2) e2
              exact ⟨a, rfl, .inr ⟨kvs, g⟩⟩
          obtain ⟨a, rfl, hD⟩ := hD
          refine ⟨a, rfl, hD, r1, F1, al1, y, ry, R1, w1, fun F2 al2 vy H2 x2 R2 p2 => ⟨ry, F2, al2, z, rz, R2, w3, fun F3 al3 vz H3 x3 R3 p3 => ?_⟩⟩
          have rx := (x2.trans x3).rep p1
          have ry' := x3.rep p2
          unfold mSetd at q4
          split at q4
          · rename_i n y' z' eds
            cases eds
            obtain ⟨a', ea, ha⟩ := rx
            cases ea
            split at q4
            · rename_i ks ws hcl
              split at q4
              · rename_i kk hkk
                split at q4
                · rename_i hz
                  obtain ⟨nF, kvs, g1, g2, g3⟩ := R3.c.ok n a _ ha hcl
                  subst g2
                  obtain ⟨i1, i2⟩ := valK_ok kk g3
                  have ey : vy = kV kk := by
                    cases y with
                    | d q => exact keyD_ok ry' hkk
                    | cel n => cases hkk
                    | tup ws => cases hkk
                  refine ⟨kvs, kk, g1, ey, by simpa using hz, fun v hv => ?_, fun hv => ?_⟩
                  · split at q4
                    · rename_i w hw
                      cases q4
                      obtain ⟨v', hv', rv⟩ := i1 _ hw
                      rw [hv] at hv'
                      cases hv'
                      exact kQ F3 al3 v H3 ((x1.trans x2).trans x3) R3 rv
                    · rename_i hw
                      rw [i2 hw] at hv
                      cases hv
                  · split at q4
                    · rename_i w hw
                      obtain ⟨v', hv', _⟩ := i1 _ hw
                      rw [hv] at hv'
                      cases hv'
                    · obtain ⟨c2, hc2, ec2⟩ := Option.map_eq_some_iff.mp q4
                      cases ec2
                      obtain ⟨kvs2, k2, h1, h2, h3, x7, C7⟩ := dStep_ok R3.c ha ry' p3 hc2
                      rw [g1] at h2
                      cases h2
                      have ek : kk = k2 := by
                        rw [ey] at h1
                        exact kV_inj h1
                      subst ek
                      exact kQ F3 al3 vz _ (((x1.trans x2).trans x3).trans x7) ⟨R3.s.ext x7, C7⟩ (x7.rep p3)
                · cases q4
              · cases q4
            · cases q4
          · cases q4
        · cases e1
      · cases e1
    · cases e1
end
end FL
/-! a, b, *c = t; min(texts); a global tuple of texts; calls with keywords -/
namespace L2
open PySem PySem.Spec PyProof.Rows
/-- a, .., *z = v, v a tuple -/
def gStar (K : PySem.W.Frag) (n : Nat) (t : TGs) : TG := fun v σ H Q => ∃ a xs, v = .ref a ∧ SqT K H a xs ∧ n ≤ xs.length ∧ xs.length < 16384 ∧ ∀ D, H D = none → t (xs.take n ++ [.ref D]) σ (upd H D (.lst (xs.drop n))) Q
theorem pg_star {X : Cx} {es es' : List Expr} {k n : Nat} {pos : Pos} {t : TGs} (hc : X.calm = true) (h : PGs X es' t) (hn : (assignEach es X.env).length = n + 1 := by rfl) (hst : (assignEach es X.env).findIdx? (·.1) = some n := by rfl) (same : (assignEach es X.env).map (·.2) = (assignEach es' X.env).map (·.2) := by rfl) : PG X (.Tuple es k pos) (gStar X.K n t) := by
  refine ⟨fun pins s σ H v u Q I r ⟨a, xs, ev, hq, hl, h16, hw⟩ => ?_⟩
  subst ev
  cases r
  obtain ⟨its, rv, tp, hz⟩ := I.tuple hq
  have el : its.length = xs.length := rv.length.symm
  have lt : a < s.heap.objs.size := by
    obtain ⟨o, ho, _⟩ := id tp
    exact Heap.lt_size ho
  rw [assign_Tuple]
  refine wpAny_bind (wpAny_standAt ?_)
  unfold unpack
  rw [hn, hst, same]
  refine wpAny_bind (wpAny_holding ?_)
  unfold unpackItems notIterableAtAll
  refine wpAny_bind (wpAny_bind (wpAny_specialOf tp.typeIs slot_tuple_iter.lookup (wpAny_pure ?_)))
  rw [if_neg (by exact Bool.false_ne_true)]
  refine wpAny_bind (wpAny_holding (iter_tuple tp (wpAny_bind (wpAny_holding ?_))))
  refine draw_tuple (Nat.ne_of_lt lt) n 0 _ _ ⟨_, Heap.get?_push_size _ rfl, rfl, rfl⟩ (tp.push _) (by simp; omega) fun h1 st1 sb1 => ?_
  rw [Nat.zero_add] at st1
  have kept1 : ∀ b o, s.heap.get? b = some o → b ≠ s.heap.objs.size ∧ h1.get? b = some o := fun b o eo =>
    have nb := Nat.ne_of_lt (Heap.lt_size eo)
    ⟨nb, (sb1.2 b nb).trans (Heap.get?_push_of_some _ eo)⟩
  have tp1 : IsTup h1 a its.toArray := by
    obtain ⟨o, eo, rest⟩ := id tp
    exact ⟨o, (kept1 a o eo).2, rest⟩
  have ln : ((its.toArray.toList.drop 0).take n).length = n := by
    simp
    omega
  rw [if_neg (by rw [ln]; exact Nat.lt_irrefl _)]
  have lt1 : s.heap.objs.size < h1.objs.size := by
    obtain ⟨o, eo, _⟩ := id st1
    exact Heap.lt_size eo
  have lta : a < h1.objs.size := by
    obtain ⟨o, eo, _⟩ := id tp1
    exact Heap.lt_size eo
  refine wpAny_bind (wpAny_holding (PySem.W.kun_collect (s := { s with heap := h1 }) (T := "tuple_iterator") (.inr (.inr (.inr rfl))) (Walks.tuple (A := X.A.in1) (I.ok.hd hc) s.heap.objs.size a (Nat.ne_of_lt lt) its.toArray) (fun j u z => z.1.typeIs) (k := n) (by simp; omega) ⟨st1, tp1⟩ lt1 lta (fun h2 tk k2 => ?_) (by rw [sizeLine_eq]; simp; omega)))
  have zero : n + 1 - 1 - n = 0 := by omega
  dsimp only
  rw [zero, if_neg (Nat.not_lt_zero _), Nat.sub_zero, List.take_length, List.drop_length]
  have I1 : Inv X pins σ H { s with heap := h2, toks := tk } := I.kept (t' := tk) fun b o eo => k2 b o (kept1 b o eo).1 (kept1 b o eo).2
  have fr : H h2.objs.size = none := I1.hok.fresh (Nat.le_refl _)
  have er : (its.toArray.toList.drop n) = its.drop n := rfl
  have tk' : (its.toArray.toList.drop 0).take n = its.take n := by simp
  refine wpAny_bind (wpAny_newList (items := its.drop n) (wpAny_pure ?_) (by rw [sizeLine_eq, List.length_drop]; omega))
  have I2 : Inv X pins σ (upd H h2.objs.size (.lst (xs.drop n))) { s with heap := h2.push { cls := .type "list", data := .seq (its.drop n).toArray }, toks := tk } :=
    I1.laid (t' := tk) (fun b o eo => Heap.get?_push_of_some _ eo) (Nat.le_refl _) (show ObjOk X.prog X.w _ _ _ (.lst (xs.drop n)) from ⟨by rw [List.length_drop, sizeLine_eq]; omega, its.drop n, 0, rv.drop n, Heap.get?_push_size _ rfl⟩)
  rw [List.append_nil, tk']
  exact h.run pins _ σ _ _ _ Q I2 ((rv.take n).append (.cons (show RelV (V.ref h2.objs.size) (Value.ref h2.objs.size) from rfl) .nil)) (hw _ fr)
end L2
namespace FL
open PySem PySem.Spec L2
/-- a, .., *z = t: the rest is a cell -/
def tStarG (n : Nat) (gs : MGs) : MG := fun d r => match asTup d with
  | some ws => if n ≤ ws.length ∧ ws.length < 16384 then gs (ws.take n ++ [.cel r.cl.length]) { r with cl := r.cl ++ [.lst (ws.drop n)] } else none
  | none => none
theorem fg_star {X : Cx} {es es' : List Expr} {k n : Nat} {pos : Pos} {gs : MGs} {ws : List Nat} (hc : X.calm = true) (h : PGs X es' (gFs X.K ws gs)) (hn : (assignEach es X.env).length = n + 1 := by rfl) (hst : (assignEach es X.env).findIdx? (·.1) = some n := by rfl) (same : (assignEach es X.env).map (·.2) = (assignEach es' X.env).map (·.2) := by rfl) :
    PG X (.Tuple es k pos) (gF X.K ws (tStarG n gs)) :=
  PG.weak (pg_star hc h hn hst same) fun v σ H Q ⟨r, F, al, d, r', R, p, e1, q⟩ => by
    unfold tStarG at e1
    split at e1
    · rename_i us hu
      split at e1
      · rename_i hz
        obtain ⟨a, xs, rfl, h1, h2⟩ := asTup_ok p hu
        have el := h2.length
        refine ⟨a, xs, rfl, Same.seqT R.c.fh h1, by omega, by omega, fun D hD => ?_⟩
        obtain ⟨hF, hal⟩ := R.c.free hD
        have x0 : Ext F al H F (al ++ [D]) (upd H D (.lst (xs.drop n))) := ext_new hF hD
        have r2 : Reps X.K F (al ++ [D]) us xs := x0.reps h2
        have C2 := R.c.new hD (q := .lst (us.drop n)) ⟨hF, _, upd_same, r2.drop n⟩
        have cel : Rep X.K F (al ++ [D]) (.cel r.cl.length) (.ref D) := ⟨D, rfl, by
          rw [← R.c.len, List.getElem?_append_right (Nat.le_refl _), Nat.sub_self]
          rfl⟩
        exact ⟨⟨r.sl, r.cl ++ [.lst (us.drop n)]⟩, F, al ++ [D], _, r', ⟨R.s.ext x0, C2⟩, (r2.take n).app (Reps.one cel), e1, fun F' al' σ' H' x' R' l o => q F' al' σ' H' (x0.trans x') R' l o⟩
      · cases e1
    · cases e1
/-! ### a global tuple of texts -/
/-- the name x of the top is of a tuple of these -/
def TupG (K : PySem.W.Frag) (mg : Str → Option Value) (x : Str) (xs : List V) : Prop := ∃ a, mg x = some (.ref a) ∧ ∃ (o : Obj) (its : Array Value) (n : Nat), K.lookup a = some o ∧ o.cls = .type "tuple" ∧ o.data = .seq its n ∧ its.size ≤ sizeLine ∧ Vals xs its.toList
theorem reps0_strs {K : PySem.W.Frag} {F : Hp} : ∀ ss : List Str, Reps0 K F (ss.map D.str) (ss.map V.str)
  | [] => rfl
  | s :: ss => ⟨.str s, ss.map V.str, rfl, rfl, reps0_strs ss⟩
theorem pf_globT {X : Cx} {x : Str} {ss : List Str} {pos : Pos} (hg : Gl X x) (h : TupG X.K X.mg x (ss.map V.str)) (hd : (x == ("__debug__" : Str)) = false := by decide) : PE X (.Name x pos) (tF X.K (eC (.d (.rtup (ss.map D.str))))) := by
  obtain ⟨a, hm, ex⟩ := h
  exact pf_glob (pe_glob (v := .ref a) hg hm rfl hd) fun F => ⟨a, _, rfl, .inr ex, reps0_strs ss⟩
/-! ### calls with keywords -/
def eCallK (g : OpN) (js : List Nat) (t tk : MS) : M := fun r => match t r with
  | some (xs, r1) => match tk r1 with
    | some (zs, r2) => liftN g (xs ++ perm js zs) r2
    | none => none
  | none => none
section
variable {X : Cx} {k n N : Nat} {f : Addr} {fd : FuncData} {ps ks : List Str} {x : Str} {p pos : Pos} {e : Expr} {es : List Expr} {kws : List Keyword} {g : OpN} {ms mk : MS}
theorem pf_callK (c : Bool) (js : List Nat) (F : FnOk X.prog X.w X.K X.mg X.base CX0 k f fd ps (spF X.K N g)) (hr : Room k X.A) (hg : Gl X x) (hm : X.mg x = some (.ref f)) (hk : PySem.W.keepIn X.K (.ref f) = true)
    (hb : KBn X.K fd ps n ks (fun us ws => us ++ perm js ws) (fun vs zs => vs ++ perm js zs)) (hml : ALen ms n) (ha : PA X (e :: es) (tFA X.K ms)) (hkw : PK X kws (tFA X.K mk)) (hmk : ALen mk ks.length) (hn : ∀ zs : List V, zs.length = ks.length → n + (perm js zs).length = N)
    (hall : (backToKw pos (keywordEach kws X.env)).all (·.1.isSome) = true := by rfl) (hks : (backToKw pos (keywordEach kws X.env)).filterMap (·.1) = ks := by rfl)
    (hdb : (x == ("__debug__" : Str)) = false := by decide) (he : starEach (e :: es) X.env = (false, eval e X.env) :: starEach es X.env := by rfl)
    (hpl : ((backTo pos (starEach (e :: es) X.env)).any (·.1) || (backToKw pos (keywordEach kws X.env)).any (·.1.isNone)) = false := by rfl) :
    PE X (.Call (.Name x p) (e :: es) kws pos) (tF X.K (eCallK (if c then oCall g else oCallP g) js ms mk)) := by
  refine PE.weak (pe_callN (E := E0) F hr hg hm hk hb pass0 ha hkw hall hks hdb he hpl) fun σ H Q ⟨rho, F0, al0, d, r', R, e1, kk⟩ => ?_
  unfold eCallK at e1
  split at e1
  · rename_i xs r1 q1
    split at e1
    · rename_i zs r2 q2
      obtain ⟨cc, q4, rfl⟩ := liftN_some e1
      refine ⟨rho, F0, al0, xs, r1, R, q1, fun F1 al1 vs H1 x1 R1 p1 => ⟨r1, F1, al1, zs, r2, R1, q2, fun F2 al2 us H2 x2 R2 p2 => ?_⟩⟩
      have l1 : vs.length = n := by rw [p1.length]; exact hml _ _ _ q1
      have l2 : us.length = ks.length := by rw [p2.length]; exact hmk _ _ _ q2
      have hl : (vs ++ perm js us).length = N := by
        rw [List.length_append, l1]
        exact hn us l2
      have pv : PostV X.K F2 al2 H2 Q ((if c then oCall g else oCallP g) r2.cl (xs ++ perm js zs)) := by
        rw [show (if c then oCall g else oCallP g) r2.cl (xs ++ perm js zs) = some (d, cc) from q4]
        exact post_of R2.s fun F' al' v H' x3 R3 p3 => kk F' al' v H' ((x1.trans x2).trans x3) R3 p3
      refine ⟨l1, l2, ?_⟩
      cases c with
      | true => exact w_spF hl ⟨r2.cl, F2, al2, xs ++ perm js zs, R2.c, (x2.reps p1).app (p2.perm js), pv⟩
      | false => exact w_spFP hl ⟨r2.cl, F2, al2, xs ++ perm js zs, R2.c, (x2.reps p1).app (p2.perm js), pv⟩
    · cases e1
  · cases e1
end
/-! ### min(xs), texts -/
def minT (x : Str) (xs : List Str) : Str := xs.foldl (fun a y => if decide (y.cps.toList < a.cps.toList) then y else a) x
theorem minT_eq (x : Str) : ∀ xs : List Str, PySem.W.minD (.str x) (xs.map PyData.str) = .str (minT x xs) := by
  intro xs
  unfold PySem.W.minD minT
  induction xs generalizing x with
  | nil => rfl
  | cons y r ih =>
    rw [List.map_cons, List.foldl_cons, List.foldl_cons, ← ih]
    rw [PySem.W.dataLt_str]
    congr 1
    split <;> rfl
def oMinL : OpN := fun cl ds => match ds with
  | [x] => match asList cl x with
    | some ws => match tsOf ws with
      | some (s :: ss) => some (.d (.str (minT s ss)), cl)
      | _ => none
    | none => none
  | _ => none
theorem reads_strs {h : Heap} : ∀ {ss : List Str} {us : List Value}, Vals (ss.map V.str) us → ReadsAll h us (ss.map PyData.str) []
  | [], us, r => by
    cases r
    exact .nil
  | s :: ss, us, r => by
    cases r with
    | cons a b =>
      obtain ⟨t, rfl⟩ := a
      exact .cons (as := []) (bs := []) (.str s t) (reads_strs b)
theorem depth_strs : ∀ ss : List Str, PyData.depthAll (ss.map PyData.str) = 0
  | [] => rfl
  | s :: ss => by
    show max 0 (PyData.depthAll (ss.map PyData.str)) = 0
    rw [depth_strs ss]
    rfl
theorem minL_ok {X : Cx} (hc : X.calm = true) (hu : X.A.units + 1 < cLine) : CallR X (.builtin "min") (rNF X.K oMinL) := fun pins s σ H vs us Q I r ⟨cl, F, al, ds, C, rs, k⟩ => by
  obtain ⟨d, cl', e, kk⟩ := k.some
  unfold oMinL at e k
  split at e
  · rename_i x
    obtain ⟨v, vr, rfl, rx, r0⟩ := rs
    have r0 : vr = [] := r0
    subst r0
    simp only at k
    split at e
    · rename_i ws hw
      rw [hw] at k
      simp only at k
      split at e
      · rename_i t ts ht
        cases e
        obtain ⟨a, ys, rfl, g, q2⟩ := asList_ok C rx hw
        rw [tsOf_ok ht] at q2
        have ey := reps_strsV q2
        subst ey
        obtain ⟨its, rv, tp, hz⟩ := I.list g
        rw [Vals.ref1 r]
        refine PySem.W.min_list_data (x := .str t) (xs := ts.map PyData.str) (I.ok.hd hc) tp.isList (reads_strs (ss := t :: ts) rv) ⟨fun p hp q hq => ?_, fun p hp => ?_⟩ (by rw [show PyData.str t :: ts.map PyData.str = (t :: ts).map PyData.str from rfl, depth_strs]; exact hu) fun i u h' tk bs hi rd hk => ?_
        · obtain ⟨p', _, rfl⟩ := List.mem_map.mp (show p ∈ (t :: ts).map PyData.str from hp)
          obtain ⟨q', _, rfl⟩ := List.mem_map.mp (show q ∈ (t :: ts).map PyData.str from hq)
          rfl
        · obtain ⟨p', _, rfl⟩ := List.mem_map.mp (show p ∈ (t :: ts).map PyData.str from hp)
          exact fun z => nomatch z
        · rw [minT_eq] at rd
          cases rd with
          | str _ tt => exact ⟨.str (minT t ts), H, I.kept hk, ⟨tt, rfl⟩, kk F al _ H (Ext.refl _ _ _) C rfl⟩
      · cases e
    · cases e
  · cases e
end FL
/-! {} -/
namespace FL
open PySem PySem.Spec L2
section
variable {X : Cx} {pos : Pos}
/-- {}, to be filled with plain keys -/
def oNewK : OpN := fun cl ds => match ds with
  | [] => freshK true [] [] cl
  | _ => none
def oNewT : OpN := fun cl ds => match ds with
  | [] => some (.cel cl.length, cl ++ [.dt [] []])
  | _ => none
theorem pf_newK : PE X (.Dict [] [] pos) (tF X.K (eCall oNewK aNil)) := PE.weak pe_dnewK fun σ H Q ⟨r, F, al, d, r', R, e1, k⟩ => fun p hp => by
  obtain ⟨xs, r1, q1, q3⟩ := eCall_some e1
  have q1 : some ([], r) = some (xs, r1) := q1
  cases q1
  obtain ⟨cc, q4, rfl⟩ := liftN_some q3
  have q4 : some (W.cel r.cl.length, r.cl ++ [.dk [] []]) = some (d, cc) := q4
  cases q4
  obtain ⟨hF, hal⟩ := R.c.free hp
  have x : Ext F al H F (al ++ [p]) (upd H p (.dK [])) := ext_new hF hp
  exact k F (al ++ [p]) (.ref p) _ x ⟨R.s.ext x, R.c.new hp ⟨hF, [], upd_same, rfl, rfl⟩⟩ ⟨p, rfl, by
    rw [← R.c.len, List.getElem?_append_right (Nat.le_refl _), Nat.sub_self]
    rfl⟩
theorem pf_newT : PE X (.Dict [] [] pos) (tF X.K (eCall oNewT aNil)) := PE.weak pe_dnewT fun σ H Q ⟨r, F, al, d, r', R, e1, k⟩ => fun p hp => by
  obtain ⟨xs, r1, q1, q3⟩ := eCall_some e1
  have q1 : some ([], r) = some (xs, r1) := q1
  cases q1
  obtain ⟨cc, q4, rfl⟩ := liftN_some q3
  have q4 : some (W.cel r.cl.length, r.cl ++ [.dt [] []]) = some (d, cc) := q4
  cases q4
  obtain ⟨hF, hal⟩ := R.c.free hp
  have x : Ext F al H F (al ++ [p]) (upd H p (.dT [])) := ext_new hF hp
  exact k F (al ++ [p]) (.ref p) _ x ⟨R.s.ext x, R.c.new hp ⟨hF, [], upd_same, rfl, rfl⟩⟩ ⟨p, rfl, by
    rw [← R.c.len, List.getElem?_append_right (Nat.le_refl _), Nat.sub_self]
    rfl⟩
end
/-- a call of a def with keyword-only parameters, all of them lacking: what is bound -/
theorem binds_kw {K : PySem.W.Frag} {x qual : Str} {st : Stmt} {kws : List (Str × V)} {f D : Addr} {oc doc pm cdv ct : Value} {od an : Option Addr} {osl : Array (Option Value)} {ps : List Str} {n : Nat} {ds : List Value}
    (hl : K.lookup f = some ⟨oc, od, .func (PySem.W.fnOf x qual (defArgs st) (defBody st) (defScope st) .none (.ref D) doc pm an cdv ct), osl⟩) (hc : PySem.W.codeIn K cdv qual = true) (hk : PySem.W.keepIn K (.ref f) = true)
    (hD : ∀ q ∈ kws, ∃ u, PySem.W.nsIn K D q.1 = some (some u) ∧ RelV q.2 u) (hne : kws ≠ []) (hn : n + kws.length = ps.length) (hd : ∀ us, Vals (kws.map (·.2)) us → us = ds)
    (h : ∀ (D : Addr) (doc pm : Value) (an : Option Addr) (cdv ct : Value) (us ks : List Value), us.length = n → ks.length = kws.length →
      KwChain D ((kws.map (·.1)).zip ks) (bindArgs (PySem.W.fnOf x qual (defArgs st) (defBody st) (defScope st) .none (.ref D) doc pm an cdv ct) ⟨us, []⟩) (ps.zip (us ++ ks))) : Binds K (PySem.W.fnOf x qual (defArgs st) (defBody st) (defScope st) .none (.ref D) doc pm an cdv ct) ps ds := by
  have F : FunD K x qual (defArgs st) (defBody st) (defScope st) [] kws f (PySem.W.fnOf x qual (defArgs st) (defBody st) (defScope st) .none (.ref D) doc pm an cdv ct) :=
    ⟨⟨oc, od, .none, .ref D, doc, pm, an, cdv, ct, osl, rfl, hl, hc, .inl ⟨rfl, rfl⟩, .inr ⟨D, rfl, hD⟩⟩, hk⟩
  obtain ⟨us, r, b⟩ := F.binds0 n hne hn h
  rw [hd us r] at b
  exact b
theorem sw_trueD {kx vx : Expr} {gs : List Comprehension} {sc : Scope} {pos py : Pos} {y : Str} {n : Nat} {en : Env} (kf : en.scope.kind = .function) (ky : en.scope.names.lookup y = some .local) (line : (py.line == pos.line) = true)
    (own : (sc.names.any fun (m, q) => m == y && (q == .local || q == .cell)) = false) : swapsWith (.DictComp kx vx gs sc pos) (some (.Name y py)) n en = pure true := by
  have k1 : en.kindOf y = some .local := ky
  have k2 : en.blockKind = .function := by
    unfold Env.blockKind
    rw [kf]
    rfl
  unfold swapsWith
  simp only [k2, k1, own, Expr.pos, line]
  rfl
/-- the targets without the star -/
def unstar : List Expr → List Expr
  | [a, .Starred b _] => [a, b]
  | [a, b, .Starred c _] => [a, b, c]
  | es => es
theorem fg_starU {X : Cx} {es : List Expr} {k n : Nat} {pos : Pos} {gs : MGs} {ws : List Nat} (hc : X.calm = true) (h : PGs X (unstar es) (gFs X.K ws gs)) (hn : (assignEach es X.env).length = n + 1 := by rfl) (hst : (assignEach es X.env).findIdx? (·.1) = some n := by rfl) (same : (assignEach es X.env).map (·.2) = (assignEach (unstar es) X.env).map (·.2) := by rfl) :
    PG X (.Tuple es k pos) (gF X.K ws (tStarG n gs)) := fg_star hc h hn hst same
end FL
/-! repr of what holds cells -/
namespace FL
open PySem PySem.Spec L2
def pyV (cl : List Cell) : Nat → W → Option PyData
  | _, .d x => x.py
  | k + 1, .cel n => match cl[n]? with
    | some (.lst ws) => (ws.mapM (pyV cl k)).map .list
    | _ => none
  | k + 1, .tup ws => (ws.mapM (pyV cl k)).map .tuple
  | 0, _ => none
theorem pyV_all {K : PySem.W.Frag} {cl : List Cell} {F : Hp} {al : List Addr} {H : Hp} {k : Nat} (ih : ∀ (w : W) (v : V) (p : PyData), Rep K F al w v → pyV cl k w = some p → Dp K H v p) : ∀ (ws : List W) (vs : List V) (ps : List PyData), Reps K F al ws vs → ws.mapM (pyV cl k) = some ps → DpAll K H vs ps
  | [], vs, ps, r, h => by
    have r : vs = [] := r
    subst r
    cases h
    exact .nil
  | w :: ws, vs, ps, ⟨v, vr, e, rv, rr⟩, h => by
    rw [List.mapM_cons] at h
    obtain ⟨p, h1, h⟩ := Option.bind_eq_some_iff.mp h
    obtain ⟨ps', h2, h⟩ := Option.bind_eq_some_iff.mp h
    cases h
    subst e
    exact .cons (ih w v p rv h1) (pyV_all ih ws vr ps' rr h2)
theorem pyV_ok {K : PySem.W.Frag} {cl : List Cell} {F : Hp} {al : List Addr} {H : Hp} (C : Cells K cl F al H) : ∀ (k : Nat) (w : W) (v : V) (p : PyData), Rep K F al w v → pyV cl k w = some p → Dp K H v p
  | 0, .d x, v, p, r, h => py_ok C.fh r h
  | k + 1, .d x, v, p, r, h => py_ok C.fh r h
  | 0, .cel n, v, p, r, h => (nomatch h)
  | 0, .tup ws, v, p, r, h => (nomatch h)
  | k + 1, .cel n, v, p, r, h => by
    simp only [pyV] at h
    obtain ⟨a, rfl, ha⟩ := r
    split at h
    · rename_i ws e1
      obtain ⟨ps, q1, rfl⟩ := Option.map_eq_some_iff.mp h
      obtain ⟨_, vs, q3, q4⟩ := C.ok n a _ ha e1
      exact .lst (SqL.of q3) (pyV_all (pyV_ok C k) ws vs ps q4 q1)
    · cases h
  | k + 1, .tup ws, v, p, r, h => by
    simp only [pyV] at h
    obtain ⟨a, vs, rfl, h1, h2⟩ := r
    obtain ⟨ps, q1, rfl⟩ := Option.map_eq_some_iff.mp h
    exact .tup (SqT.of (C.fh _ _ h1)) (pyV_all (pyV_ok C k) ws vs ps h2 q1)
/-- repr, lists and tuples of cells too -/
def oReprV : OpN := fun cl ds => match ds with
  | [x] => match pyV cl 8 x with
    | some p => if PyProof.Rows.isDisplay p = true ∧ PyData.showable p = true ∧ PyData.hasDict p = false ∧ p.depth ≤ 60 ∧ (PyData.shown p).length ≤ sizeLine then some (.d (.str (PyData.shown p)), cl) else none
    | none => none
  | _ => none
open PyProof.Rows in
theorem reprV_ok {X : Cx} (hg : X.A.guards = some []) (hu : X.A.units + 64 < cLine) : CallR X (.builtin "repr") (rNF X.K oReprV) := by
  intro pins s σ H xs us Q I r h
  obtain ⟨cl, F, al, ds, C, rs, k⟩ := h
  obtain ⟨d, cl', e, kk⟩ := k.some
  unfold oReprV at e
  split at e
  · rename_i x
    split at e
    · rename_i p hp
      split at e
      · rename_i hc
        cases e
        obtain ⟨h1, h2, h3, h4, h5⟩ := hc
        obtain ⟨v, vr, rfl, rv, r0⟩ := rs
        have r0 : vr = [] := r0
        subst r0
        have dp := pyV_ok C 8 x v p rv hp
        obtain ⟨u, rfl, rx⟩ := vals1 r
        obtain ⟨as, rd⟩ := Dp.reads I p v u dp rx
        obtain ⟨a, rfl⟩ := isRef_of_reads rd h1
        exact repr_of_reads' rd h2 (PyData.noDict_hsm h3) hg (by omega) (fun _ _ e => e) (fun h' t tk hk => ⟨.str _, H, I.kept hk, ⟨_, rfl⟩, kk F al _ H (Ext.refl _ _ _) C rfl⟩) h5
      · cases e
    · cases e
  · cases e
end FL
namespace Lw
open PySem PySem.Spec L2 FL
def topS (i : Nat) : Stmt := PySem.Challenge.pw_weldmill_k23_members_drawn.main.body.getD i (.Pass ⟨0, 0, 0, 0⟩)
abbrev st_law_acell : Stmt := (topS 13)
abbrev st_law_atape : Stmt := (topS 14)
abbrev st_law_adigit : Stmt := (topS 15)
abbrev st_law_apool : Stmt := (topS 16)
abbrev st_law_amember : Stmt := (topS 20)
abbrev st_law_aarchives : Stmt := (topS 21)
abbrev st_law_adefines : Stmt := (topS 22)
abbrev st_law_anamed : Stmt := (topS 17)
abbrev st_law_asymbol : Stmt := (topS 18)
abbrev st_law_aasks : Stmt := (topS 19)
abbrev st_law_aopen : Stmt := (topS 23)
abbrev st_law_anext : Stmt := (topS 24)
abbrev st_law_adraws : Stmt := (topS 25)
abbrev st_locals_of : Stmt := (topS 2)
abbrev st_named : Stmt := (topS 1)
abbrev st_asked : Stmt := (topS 3)
abbrev st_askers : Stmt := (topS 5)
abbrev st_defined : Stmt := (topS 8)
abbrev st_open_names : Stmt := (topS 9)
abbrev st_next_reason : Stmt := (topS 10)
abbrev st_drawn : Stmt := (topS 11)
abbrev st_law : Stmt := (topS 26)
structure Ad where
  a_law_acell : Addr
  d_law_acell : FuncData
  a_law_atape : Addr
  d_law_atape : FuncData
  a_law_adigit : Addr
  d_law_adigit : FuncData
  a_law_apool : Addr
  d_law_apool : FuncData
  a_law_amember : Addr
  d_law_amember : FuncData
  a_law_aarchives : Addr
  d_law_aarchives : FuncData
  a_law_adefines : Addr
  d_law_adefines : FuncData
  a_law_anamed : Addr
  d_law_anamed : FuncData
  a_law_asymbol : Addr
  d_law_asymbol : FuncData
  a_law_aasks : Addr
  d_law_aasks : FuncData
  a_law_aopen : Addr
  d_law_aopen : FuncData
  a_law_anext : Addr
  d_law_anext : FuncData
  a_law_adraws : Addr
  d_law_adraws : FuncData
  a_locals_of : Addr
  d_locals_of : FuncData
  a_named : Addr
  d_named : FuncData
  a_asked : Addr
  d_asked : FuncData
  a_askers : Addr
  d_askers : FuncData
  a_defined : Addr
  d_defined : FuncData
  a_open_names : Addr
  d_open_names : FuncData
  a_next_reason : Addr
  d_next_reason : FuncData
  a_drawn : Addr
  d_drawn : FuncData
  a_law : Addr
  d_law : FuncData
structure TX (K : PySem.W.Frag) (mg : Str → Option Value) (a : Ad) : Prop where
  F_law_acell : Fun K "_law_acell" "_law_acell" st_law_acell a.a_law_acell a.d_law_acell
  b_law_acell : Binds K a.d_law_acell ["script", "k"] []
  g_law_acell : mg "_law_acell" = some (.ref a.a_law_acell)
  F_law_atape : Fun K "_law_atape" "_law_atape" st_law_atape a.a_law_atape a.d_law_atape
  b_law_atape : Binds K a.d_law_atape ["script", "k"] []
  g_law_atape : mg "_law_atape" = some (.ref a.a_law_atape)
  F_law_adigit : Fun K "_law_adigit" "_law_adigit" st_law_adigit a.a_law_adigit a.d_law_adigit
  b_law_adigit : Binds K a.d_law_adigit ["tape", "many"] []
  g_law_adigit : mg "_law_adigit" = some (.ref a.a_law_adigit)
  F_law_apool : Fun K "_law_apool" "_law_apool" st_law_apool a.a_law_apool a.d_law_apool
  b_law_apool : Binds K a.d_law_apool ["tape"] []
  g_law_apool : mg "_law_apool" = some (.ref a.a_law_apool)
  F_law_amember : Fun K "_law_amember" "_law_amember" st_law_amember a.a_law_amember a.d_law_amember
  b_law_amember : Binds K a.d_law_amember ["tape", "pool", "name"] []
  g_law_amember : mg "_law_amember" = some (.ref a.a_law_amember)
  F_law_aarchives : Fun K "_law_aarchives" "_law_aarchives" st_law_aarchives a.a_law_aarchives a.d_law_aarchives
  b_law_aarchives : Binds K a.d_law_aarchives ["tape", "pool"] []
  g_law_aarchives : mg "_law_aarchives" = some (.ref a.a_law_aarchives)
  F_law_adefines : Fun K "_law_adefines" "_law_adefines" st_law_adefines a.a_law_adefines a.d_law_adefines
  b_law_adefines : Binds K a.d_law_adefines ["piece"] []
  g_law_adefines : mg "_law_adefines" = some (.ref a.a_law_adefines)
  F_law_anamed : Fun K "_law_anamed" "_law_anamed" st_law_anamed a.a_law_anamed a.d_law_anamed
  b_law_anamed : Binds K a.d_law_anamed ["item"] []
  g_law_anamed : mg "_law_anamed" = some (.ref a.a_law_anamed)
  F_law_asymbol : Fun K "_law_asymbol" "_law_asymbol" st_law_asymbol a.a_law_asymbol a.d_law_asymbol
  b_law_asymbol : Binds K a.d_law_asymbol ["piece", "name"] []
  g_law_asymbol : mg "_law_asymbol" = some (.ref a.a_law_asymbol)
  F_law_aasks : Fun K "_law_aasks" "_law_aasks" st_law_aasks a.a_law_aasks a.d_law_aasks
  b_law_aasks : Binds K a.d_law_aasks ["piece"] []
  g_law_aasks : mg "_law_aasks" = some (.ref a.a_law_aasks)
  F_law_aopen : Fun K "_law_aopen" "_law_aopen" st_law_aopen a.a_law_aopen a.d_law_aopen
  b_law_aopen : Binds K a.d_law_aopen ["pieces"] []
  g_law_aopen : mg "_law_aopen" = some (.ref a.a_law_aopen)
  F_law_anext : Fun K "_law_anext" "_law_anext" st_law_anext a.a_law_anext a.d_law_anext
  b_law_anext : Binds K a.d_law_anext ["pieces", "archives", "seats", "done"] []
  g_law_anext : mg "_law_anext" = some (.ref a.a_law_anext)
  F_law_adraws : Fun K "_law_adraws" "_law_adraws" st_law_adraws a.a_law_adraws a.d_law_adraws
  b_law_adraws : Binds K a.d_law_adraws ["pieces", "archives", "grouped"] []
  g_law_adraws : mg "_law_adraws" = some (.ref a.a_law_adraws)
  F_locals_of : Fun K "locals_of" "locals_of" st_locals_of a.a_locals_of a.d_locals_of
  b_locals_of : Binds K a.d_locals_of ["piece"] []
  g_locals_of : mg "locals_of" = some (.ref a.a_locals_of)
  F_named : Fun K "named" "named" st_named a.a_named a.d_named
  b_named : Binds K a.d_named ["item"] []
  g_named : mg "named" = some (.ref a.a_named)
  F_asked : Fun K "asked" "asked" st_asked a.a_asked a.d_asked
  b_asked : Binds K a.d_asked ["piece"] []
  g_asked : mg "asked" = some (.ref a.a_asked)
  F_askers : Fun K "askers" "askers" st_askers a.a_askers a.d_askers
  b_askers : Binds K a.d_askers ["pieces"] []
  g_askers : mg "askers" = some (.ref a.a_askers)
  F_defined : Fun K "defined" "defined" st_defined a.a_defined a.d_defined
  b_defined : Binds K a.d_defined ["piece"] []
  g_defined : mg "defined" = some (.ref a.a_defined)
  F_open_names : Fun K "open_names" "open_names" st_open_names a.a_open_names a.d_open_names
  b_open_names : Binds K a.d_open_names ["pieces"] []
  g_open_names : mg "open_names" = some (.ref a.a_open_names)
  F_next_reason : Fun K "next_reason" "next_reason" st_next_reason a.a_next_reason a.d_next_reason
  b_next_reason : Binds K a.d_next_reason ["pieces", "archives", "spots", "done"] []
  g_next_reason : mg "next_reason" = some (.ref a.a_next_reason)
  F_drawn : Fun K "drawn" "drawn" st_drawn a.a_drawn a.d_drawn
  b_drawn : Binds K a.d_drawn ["pieces", "archives", "group"] [Value.bool false]
  g_drawn : mg "drawn" = some (.ref a.a_drawn)
  F_law : Fun K "law" "law" st_law a.a_law a.d_law
  b_law : Binds K a.d_law ["script"] []
  g_law : mg "law" = some (.ref a.a_law)
  z_dict : mg "dict" = none
  z_enumerate : mg "enumerate" = none
  z_isinstance : mg "isinstance" = none
  z_len : mg "len" = none
  z_list : mg "list" = none
  z_max : mg "max" = none
  z_min : mg "min" = none
  z_range : mg "range" = none
  z_repr : mg "repr" = none
  z_sorted : mg "sorted" = none
  z_str : mg "str" = none
  z_tuple : mg "tuple" = none
  t_DEFINING : TupG K mg "DEFINING" ((["strong", "weak", "common"] : List Str).map V.str)
section
variable {P : Program} {w : World} {K : PySem.W.Frag} {mg : Str → Option Value} {base : Heap} {a : Ad}
/-! _law_acell -/
theorem sc_law_acell : FnScope ["script", "k"] ["script", "k"] (defScope st_law_acell) := ⟨rfl, rfl, rfl, by decide +kernel, rfl, by decide +kernel, by decide +kernel⟩
noncomputable def m_law_acell (a : Ad) : G := (sSeq (sIf (bVal (eBin dLt (eVar 1) (eCall oLen (aCons (eVar 0) aNil)))) (sRet (eBin dIx (eVar 0) (eVar 1))) sNil)
  (sRet (eC (.d (.int 0)))))
noncomputable def f_law_acell (a : Ad) : OpN := runG 2 (m_law_acell a)
theorem ok_law_acell (T : TX K mg a) : FnOk P w K mg base CX0 1 a.a_law_acell a.d_law_acell ["script", "k"] (spF K 2 (f_law_acell a)) := by
  refine fn_okF (N := ["script", "k"]) T.F_law_acell sc_law_acell fun cdv A outer s H E hr => ?_
  have nd := sc_law_acell.nd
  exact (fss_cons (fs_if (ft_cmp lt_ok (pf_var (pv 1)) (pf_callB len_ok (by rfl) T.z_len (by decide +kernel) (fa_cons (pf_var (pv 0)) fa_nil))) (fss_one (fs_ret (pf_ix ix_ok (pf_var (pv 0)) (pf_var (pv 1))))) fss_nil)
      (fss_one (fs_ret pf_int)))
/-! _law_atape -/
theorem sc_law_atape : FnScope ["script", "k", "cell", "p", "number", "last", "turn"] ["script", "k"] (defScope st_law_atape) := ⟨rfl, rfl, rfl, by decide +kernel, rfl, by decide +kernel, by decide +kernel⟩
noncomputable def m_law_atape (a : Ad) : G := (sSeq (sAsg (eCall (withD [] (callC false (f_law_acell a))) (aCons (eVar 0) (aCons (eVar 1) aNil))) (tName 2))
  (sSeq (sIf (bVal (eBin (eqvD false) (eBin dMod (eVar 2) (eC (.d (.int 2)))) (eC (.d (.int 0))))) (sRet (eCall (oLst true) (aCons (eBin dFdv (eVar 2) (eC (.d (.int 2)))) aNil))) sNil)
  (sSeq (sAsg (eC (.d (.int 2305843009213693951))) (tName 3))
  (sSeq (sAsg (eC (.d (.int 0))) (tName 4))
  (sSeq (sAsg (eBin dMod (eBin (dAdd false) (eBin (dAdd false) (eBin dPow (eBin (dAdd false) (eBin (dAdd false) (eBin dMod (eVar 2) (eVar 3)) (eBin dMul (eC (.d (.int 6007))) (eVar 1))) (eC (.d (.int 3)))) (eC (.d (.int 3)))) (eBin dMul (eC (.d (.int 77003))) (eVar 1))) (eC (.d (.int 19)))) (eVar 3)) (tName 5))
  (sSeq (sFor (iRng (aCons (eC (.d (.int 18))) aNil)) (tName 6) (sSeq (sAsg (eBin (dAdd false) (eBin dMul (eVar 4) (eVar 3)) (eVar 5)) (tName 4))
  (sAsg (eBin dMod (eBin (dAdd false) (eBin (dAdd false) (eBin dMul (eBin dMul (eVar 5) (eVar 5)) (eBin (dAdd false) (eBin dMul (eC (.d (.int 2))) (eVar 1)) (eC (.d (.int 5))))) (eBin dMul (eC (.d (.int 51749))) (eVar 1))) (eVar 6)) (eVar 3)) (tName 5))))
  (sRet (eCall (oLst true) (aCons (eVar 4) aNil)))))))))
noncomputable def f_law_atape (a : Ad) : OpN := runG 7 (m_law_atape a)
theorem ok_law_atape (T : TX K mg a) : FnOk P w K mg base CX0 2 a.a_law_atape a.d_law_atape ["script", "k"] (spF K 2 (f_law_atape a)) := by
  refine fn_okF (N := ["script", "k", "cell", "p", "number", "last", "turn"]) T.F_law_atape sc_law_atape fun cdv A outer s H E hr => ?_
  have nd := sc_law_atape.nd
  exact (fss_cons (fs_set (i := 2) nd rfl (by first | exact Or.inl rfl | exact Or.inr rfl) (pf_call false (ok_law_acell T) (hr.mono (by decide)) (by rfl) T.g_law_acell T.F_law_acell.kp T.b_law_acell .nil (fun _ _ => rfl) (al_cons (al_cons al_nil)) (fa_cons (pf_var (pv 0)) (fa_cons (pf_var (pv 1)) fa_nil))))
      (fss_cons (fs_if (ft_cmp (eq_ok hr.units) (pf_op mod_ok (pf_var (pv 2)) pf_int) pf_int) (fss_one (fs_ret (pf_lst true (fa_cons (pf_op fdv_ok (pf_var (pv 2)) pf_int) fa_nil)))) fss_nil)
      (fss_cons (fs_set (i := 3) nd rfl (by first | exact Or.inl rfl | exact Or.inr rfl) pf_int)
      (fss_cons (fs_set (i := 4) nd rfl (by first | exact Or.inl rfl | exact Or.inr rfl) pf_int)
      (fss_cons (fs_set (i := 5) nd rfl (by first | exact Or.inl rfl | exact Or.inr rfl) (pf_op mod_ok (pf_op (add_ok false) (pf_op (add_ok false) (pf_op pow_ok (pf_op (add_ok false) (pf_op (add_ok false) (pf_op mod_ok (pf_var (pv 2)) (pf_var (pv 3))) (pf_op mul_ok pf_int (pf_var (pv 1)))) pf_int) pf_int) (pf_op mul_ok pf_int (pf_var (pv 1)))) pf_int) (pf_var (pv 3))))
      (fss_cons (fs_for PassesOwn.never rfl (fi_rng1 (by rfl) T.z_range (fa_cons pf_int fa_nil)) (fg_name (pg_name (i := 6) nd rfl (by first | exact Or.inl rfl | exact Or.inr rfl))) (fss_cons (fs_set (i := 4) nd rfl (by first | exact Or.inl rfl | exact Or.inr rfl) (pf_op (add_ok false) (pf_op mul_ok (pf_var (pv 4)) (pf_var (pv 3))) (pf_var (pv 5))))
      (fss_one (fs_set (i := 5) nd rfl (by first | exact Or.inl rfl | exact Or.inr rfl) (pf_op mod_ok (pf_op (add_ok false) (pf_op (add_ok false) (pf_op mul_ok (pf_op mul_ok (pf_var (pv 5)) (pf_var (pv 5))) (pf_op (add_ok false) (pf_op mul_ok pf_int (pf_var (pv 1))) pf_int)) (pf_op mul_ok pf_int (pf_var (pv 1)))) (pf_var (pv 6))) (pf_var (pv 3)))))))
      (fss_one (fs_ret (pf_lst true (fa_cons (pf_var (pv 4)) fa_nil))))))))))
/-! _law_adigit -/
theorem sc_law_adigit : FnScope ["tape", "many", "found"] ["tape", "many"] (defScope st_law_adigit) := ⟨rfl, rfl, rfl, by decide +kernel, rfl, by decide +kernel, by decide +kernel⟩
noncomputable def m_law_adigit (a : Ad) : G := (sSeq (sAsg (eBin dMod (eBin dIx (eVar 0) (eC (.d (.int 0)))) (eVar 1)) (tName 2))
  (sSeq (sAsg (eBin dFdv (eBin dIx (eVar 0) (eC (.d (.int 0)))) (eVar 1)) (tSub (eVar 0) (eC (.d (.int 0))) setL))
  (sRet (eVar 2))))
noncomputable def f_law_adigit (a : Ad) : OpN := runG 3 (m_law_adigit a)
theorem ok_law_adigit (T : TX K mg a) : FnOk P w K mg base CX0 1 a.a_law_adigit a.d_law_adigit ["tape", "many"] (spF K 2 (f_law_adigit a)) := by
  refine fn_okF (N := ["tape", "many", "found"]) T.F_law_adigit sc_law_adigit fun cdv A outer s H E hr => ?_
  have nd := sc_law_adigit.nd
  exact (fss_cons (fs_set (i := 2) nd rfl (by first | exact Or.inl rfl | exact Or.inr rfl) (pf_op mod_ok (pf_ix ix_ok (pf_var (pv 0)) pf_int) (pf_var (pv 1))))
      (fss_cons (fs_asg (pf_op fdv_ok (pf_ix ix_ok (pf_var (pv 0)) pf_int) (pf_var (pv 1))) (fg_sub (pf_var (pv 0)) pf_int setL_ok))
      (fss_one (fs_ret (pf_var (pv 2))))))
/-! _law_apool -/
theorem sc_law_apool : FnScope ["tape", "letters", "turn", "way", "tails", "j", "tail"] ["tape"] (defScope st_law_apool) := ⟨rfl, rfl, rfl, by decide +kernel, rfl, by decide +kernel, by decide +kernel⟩
noncomputable def m_law_apool (a : Ad) : G := (sSeq (sAsg (eC (.d (.str "abcdefghijklmnopqrstuvwxyz"))) (tName 1))
  (sSeq (sAsg (eCall (withD [] (callC false (f_law_adigit a))) (aCons (eVar 0) (aCons (eC (.d (.int 26))) aNil))) (tName 2))
  (sSeq (sAsg (eCall (withD [] (callC false (f_law_adigit a))) (aCons (eVar 0) (aCons (eC (.d (.int 4))) aNil))) (tName 3))
  (sSeq (sIf (bVal (eBin (eqvD false) (eVar 3) (eC (.d (.int 3))))) (sRet (eLc true (iSeq (eCall (oLst false) (aCons (eC (.d (.str ""))) (aCons (eC (.d (.str "a1"))) (aCons (eC (.d (.str "a"))) (aCons (eC (.d (.str "0"))) (aCons (eC (.d (.str "a10"))) (aCons (eC (.d (.str "b"))) aNil)))))))) (tName 6) bYes (eBin (dAdd false) (eBin dIx (eVar 1) (eVar 2)) (eVar 6)) [6])) sNil)
  (sSeq (sAsg (eCall (oLst false) (aCons (eC (.d (.str ""))) (aCons (eC (.d (.str "1"))) (aCons (eC (.d (.str "x9"))) (aCons (eC (.d (.str "0000000000000zz"))) aNil))))) (tName 4))
  (sRet (eLc true (iRng (aCons (eC (.d (.int 6))) aNil)) (tName 5) bYes (eBin (dAdd false) (eBin dIx (eVar 1) (eBin dMod (eBin (dAdd false) (eVar 2) (eBin dMul (eC (.d (.int 5))) (eVar 5))) (eC (.d (.int 26))))) (eBin dIx (eVar 4) (eBin dMod (eBin (dAdd false) (eVar 3) (eVar 5)) (eC (.d (.int 4)))))) [5])))))))
noncomputable def f_law_apool (a : Ad) : OpN := runG 7 (m_law_apool a)
theorem ok_law_apool (T : TX K mg a) : FnOk P w K mg base CX0 2 a.a_law_apool a.d_law_apool ["tape"] (spF K 1 (f_law_apool a)) := by
  refine fn_okF (N := ["tape", "letters", "turn", "way", "tails", "j", "tail"]) T.F_law_apool sc_law_apool fun cdv A outer s H E hr => ?_
  have nd := sc_law_apool.nd
  exact (fss_cons (fs_set (i := 1) nd rfl (by first | exact Or.inl rfl | exact Or.inr rfl) pf_str)
      (fss_cons (fs_set (i := 2) nd rfl (by first | exact Or.inl rfl | exact Or.inr rfl) (pf_call false (ok_law_adigit T) (hr.mono (by decide)) (by rfl) T.g_law_adigit T.F_law_adigit.kp T.b_law_adigit .nil (fun _ _ => rfl) (al_cons (al_cons al_nil)) (fa_cons (pf_var (pv 0)) (fa_cons pf_int fa_nil))))
      (fss_cons (fs_set (i := 3) nd rfl (by first | exact Or.inl rfl | exact Or.inr rfl) (pf_call false (ok_law_adigit T) (hr.mono (by decide)) (by rfl) T.g_law_adigit T.F_law_adigit.kp T.b_law_adigit .nil (fun _ _ => rfl) (al_cons (al_cons al_nil)) (fa_cons (pf_var (pv 0)) (fa_cons pf_int fa_nil))))
      (fss_cons (fs_if (ft_cmp (eq_ok hr.units) (pf_var (pv 3)) pf_int) (fss_one (fs_ret (pf_lc (own := [("tail", 6)]) true rfl nd (fi_seq (pf_lst false (fa_cons pf_str (fa_cons pf_str (fa_cons pf_str (fa_cons pf_str (fa_cons pf_str (fa_cons pf_str fa_nil)))))))) (blkOk_by (N := ["tape", "letters", "turn", "way", "tails", "j", "tail"]) (sc := (defScope st_law_apool)) (own := [("tail", 6)]) (by decide +kernel)) (by decide) (fun _ _ _ _ _ => (fg_name (pg_name (i := 6) nd rfl (by first | exact Or.inl rfl | exact Or.inr rfl)))) (fun _ _ _ _ _ => fts_nil) (fun _ _ _ _ _ => (pf_op (add_ok false) (pf_ix ix_ok (pf_var (pv 1)) (pf_var (pv 2))) (pf_var (pv 6))))))) fss_nil)
      (fss_cons (fs_set (i := 4) nd rfl (by first | exact Or.inl rfl | exact Or.inr rfl) (pf_lst false (fa_cons pf_str (fa_cons pf_str (fa_cons pf_str (fa_cons pf_str fa_nil))))))
      (fss_one (fs_ret (pf_lc (own := [("j", 5)]) true rfl nd (fi_rng1 (by rfl) T.z_range (fa_cons pf_int fa_nil)) (blkOk_by (N := ["tape", "letters", "turn", "way", "tails", "j", "tail"]) (sc := (defScope st_law_apool)) (own := [("j", 5)]) (by decide +kernel)) (by decide) (fun _ _ _ _ _ => (fg_name (pg_name (i := 5) nd rfl (by first | exact Or.inl rfl | exact Or.inr rfl)))) (fun _ _ _ _ _ => fts_nil) (fun _ _ _ _ _ => (pf_op (add_ok false) (pf_ix ix_ok (pf_var (pv 1)) (pf_op mod_ok (pf_op (add_ok false) (pf_var (pv 2)) (pf_op mul_ok pf_int (pf_var (pv 5)))) pf_int)) (pf_ix ix_ok (pf_var (pv 4)) (pf_op mod_ok (pf_op (add_ok false) (pf_var (pv 3)) (pf_var (pv 5))) pf_int))))))))))))
/-! _law_amember -/
theorem sc_law_amember : FnScope ["tape", "pool", "name", "items", "turn", "cells", "symbols", "one", "form", "way"] ["tape", "pool", "name"] (defScope st_law_amember) := ⟨rfl, rfl, rfl, by decide +kernel, rfl, by decide +kernel, by decide +kernel⟩
noncomputable def m_law_amember (a : Ad) : G := (sSeq (sAsg (eCall (oLst true) aNil) (tName 3))
  (sSeq (sFor (iRng (aCons (eCall (withD [] (callC false (f_law_adigit a))) (aCons (eVar 0) (aCons (eC (.d (.int 4))) aNil))) aNil)) (tName 4) (sSeq (sAsg (eBin dIx (eVar 1) (eCall (withD [] (callC false (f_law_adigit a))) (aCons (eVar 0) (aCons (eC (.d (.int 6))) aNil)))) (tName 7))
  (sSeq (sAsg (eCall (withD [] (callC false (f_law_adigit a))) (aCons (eVar 0) (aCons (eC (.d (.int 4))) aNil))) (tName 8))
  (sExpr (eMethT isLst mAppend (eVar 3) (aCons (eBin dIx (eCall (oLst false) (aCons (eCall oTup (aCons (eC (.d (.str "place"))) (aCons (eC (.d (.int 0))) (aCons (eVar 7) (aCons (eC (.d (.int 0))) aNil))))) (aCons (eCall oTup (aCons (eC (.d (.str "call"))) (aCons (eVar 7) aNil))) (aCons (eCall oTup (aCons (eC (.d (.str "jump"))) (aCons (eVar 7) aNil))) (aCons (eCall oTup (aCons (eC (.d (.str "when"))) (aCons (eC (.d (.int 1))) (aCons (eVar 7) aNil)))) aNil))))) (eVar 8)) aNil))))))
  (sSeq (sAsg (eCall oTupOf (aCons (eLc false (iRng (aCons (eCall (withD [] (callC false (f_law_adigit a))) (aCons (eVar 0) (aCons (eC (.d (.int 2))) aNil))) aNil)) (tName 4) bYes (eCall oTup (aCons (eC (.d (.str "at"))) (aCons (eBin dIx (eVar 1) (eCall (withD [] (callC false (f_law_adigit a))) (aCons (eVar 0) (aCons (eC (.d (.int 6))) aNil)))) (aCons (eC (.d (.int 0))) aNil)))) [4]) aNil)) (tName 5))
  (sSeq (sAsg (eCall (oLst true) aNil) (tName 6))
  (sSeq (sFor (iSeq (eCall (oSorted false) (aCons (eVar 1) aNil))) (tName 7) (sSeq (sAsg (eCall (withD [] (callC false (f_law_adigit a))) (aCons (eVar 0) (aCons (eC (.d (.int 11))) aNil))) (tName 9))
  (sIf (bVal (eBin (dIn false) (eVar 9) (eCall oTup (aCons (eC (.d (.int 0))) (aCons (eC (.d (.int 1))) (aCons (eC (.d (.int 4))) aNil)))))) (sExpr (eMethT isLst mAppend (eVar 6) (aCons (eCall oTup (aCons (eVar 7) (aCons (eBin dIx (eCall (oLst false) (aCons (eC (.d (.str "strong"))) (aCons (eC (.d (.str "weak"))) (aCons (eC (.d (.str ""))) (aCons (eC (.d (.str ""))) (aCons (eC (.d (.str "local"))) aNil)))))) (eVar 9)) (aCons (eCall oTup (aCons (eCall (withD [] (callC false (f_law_adigit a))) (aCons (eVar 0) (aCons (eC (.d (.int 2))) aNil))) (aCons (eC (.d (.int 0))) aNil))) aNil)))) aNil))) (sIf (bVal (eBin (eqvD false) (eVar 9) (eC (.d (.int 2))))) (sExpr (eMethT isLst mAppend (eVar 6) (aCons (eCall oTup (aCons (eVar 7) (aCons (eC (.d (.str "common"))) (aCons (eBin (dAdd false) (eC (.d (.int 1))) (eCall (withD [] (callC false (f_law_adigit a))) (aCons (eVar 0) (aCons (eC (.d (.int 500))) aNil)))) aNil)))) aNil))) (sIf (bVal (eBin (eqvD false) (eVar 9) (eC (.d (.int 3))))) (sExpr (eMethT isLst mAppend (eVar 6) (aCons (eCall oTup (aCons (eVar 7) (aCons (eC (.d (.str "maybe"))) (aCons (eC (.d .non)) aNil)))) aNil))) sNil)))))
  (sRet (eCall oTup (aCons (eVar 2) (aCons (eCall oTup (aCons (eCall oTup (aCons (eC (.d (.str "c"))) (aCons (eC (.d (.str "code"))) (aCons (eC (.d (.int 1))) (aCons (eCall oTupOf (aCons (eVar 3) aNil)) aNil))))) (aCons (eCall oTup (aCons (eC (.d (.str "d"))) (aCons (eC (.d (.str "data"))) (aCons (eC (.d (.int 1))) (aCons (eVar 5) aNil))))) aNil))) (aCons (eCall oTupOf (aCons (eVar 6) aNil)) aNil))))))))))
noncomputable def f_law_amember (a : Ad) : OpN := runG 10 (m_law_amember a)
theorem ok_law_amember (T : TX K mg a) : FnOk P w K mg base CX0 2 a.a_law_amember a.d_law_amember ["tape", "pool", "name"] (spF K 3 (f_law_amember a)) := by
  refine fn_okF (N := ["tape", "pool", "name", "items", "turn", "cells", "symbols", "one", "form", "way"]) T.F_law_amember sc_law_amember fun cdv A outer s H E hr => ?_
  have nd := sc_law_amember.nd
  exact (fss_cons (fs_set (i := 3) nd rfl (by first | exact Or.inl rfl | exact Or.inr rfl) (pf_lst true fa_nil))
      (fss_cons (fs_for PassesOwn.never rfl (fi_rng1 (by rfl) T.z_range (fa_cons (pf_call false (ok_law_adigit T) (hr.mono (by decide)) (by rfl) T.g_law_adigit T.F_law_adigit.kp T.b_law_adigit .nil (fun _ _ => rfl) (al_cons (al_cons al_nil)) (fa_cons (pf_var (pv 0)) (fa_cons pf_int fa_nil))) fa_nil)) (fg_name (pg_name (i := 4) nd rfl (by first | exact Or.inl rfl | exact Or.inr rfl))) (fss_cons (fs_set (i := 7) nd rfl (by first | exact Or.inl rfl | exact Or.inr rfl) (pf_ix ix_ok (pf_var (pv 1)) (pf_call false (ok_law_adigit T) (hr.mono (by decide)) (by rfl) T.g_law_adigit T.F_law_adigit.kp T.b_law_adigit .nil (fun _ _ => rfl) (al_cons (al_cons al_nil)) (fa_cons (pf_var (pv 0)) (fa_cons pf_int fa_nil)))))
      (fss_cons (fs_set (i := 8) nd rfl (by first | exact Or.inl rfl | exact Or.inr rfl) (pf_call false (ok_law_adigit T) (hr.mono (by decide)) (by rfl) T.g_law_adigit T.F_law_adigit.kp T.b_law_adigit .nil (fun _ _ => rfl) (al_cons (al_cons al_nil)) (fa_cons (pf_var (pv 0)) (fa_cons pf_int fa_nil))))
      (fss_one (fs_expr (pf_bm PySem.F.plainAttrs_list PySem.F.slot_list_append PySem.F.type_list_append append_ok ty_lst (pf_var (pv 3)) (fa_cons (pf_ix ix_ok (pf_lst false (fa_cons (pf_tup (fa_cons pf_str (fa_cons pf_int (fa_cons (pf_var (pv 7)) (fa_cons pf_int fa_nil))))) (fa_cons (pf_tup (fa_cons pf_str (fa_cons (pf_var (pv 7)) fa_nil))) (fa_cons (pf_tup (fa_cons pf_str (fa_cons (pf_var (pv 7)) fa_nil))) (fa_cons (pf_tup (fa_cons pf_str (fa_cons pf_int (fa_cons (pf_var (pv 7)) fa_nil)))) fa_nil))))) (pf_var (pv 8))) fa_nil)))))))
      (fss_cons (fs_set (i := 5) nd rfl (by first | exact Or.inl rfl | exact Or.inr rfl) (pf_callTy tuple_ok (by rfl) T.z_tuple (by decide +kernel) (fa_cons (pf_lc (own := [("turn", 4)]) false rfl nd (fi_rng1 (by rfl) T.z_range (fa_cons (pf_call false (ok_law_adigit T) (hr.mono (by decide)) (by rfl) T.g_law_adigit T.F_law_adigit.kp T.b_law_adigit .nil (fun _ _ => rfl) (al_cons (al_cons al_nil)) (fa_cons (pf_var (pv 0)) (fa_cons pf_int fa_nil))) fa_nil)) (blkOk_by (N := ["tape", "pool", "name", "items", "turn", "cells", "symbols", "one", "form", "way"]) (sc := (defScope st_law_amember)) (own := [("turn", 4)]) (by decide +kernel)) (by decide) (fun _ _ _ _ _ => (fg_name (pg_name (i := 4) nd rfl (by first | exact Or.inl rfl | exact Or.inr rfl)))) (fun _ _ _ _ _ => fts_nil) (fun _ _ _ _ _ => (pf_tup (fa_cons pf_str (fa_cons (pf_ix ix_ok (pf_var (pv 1)) (pf_call false (ok_law_adigit T) (hr.mono (by decide)) (by rfl) T.g_law_adigit T.F_law_adigit.kp T.b_law_adigit .nil (fun _ _ => rfl) (al_cons (al_cons al_nil)) (fa_cons (pf_var (pv 0)) (fa_cons pf_int fa_nil)))) (fa_cons pf_int fa_nil)))))) fa_nil)))
      (fss_cons (fs_set (i := 6) nd rfl (by first | exact Or.inl rfl | exact Or.inr rfl) (pf_lst true fa_nil))
      (fss_cons (fs_for PassesOwn.never rfl (fi_seq (pf_callB (sorted_ok false rfl) (by rfl) T.z_sorted (by decide +kernel) (fa_cons (pf_var (pv 1)) fa_nil))) (fg_name (pg_name (i := 7) nd rfl (by first | exact Or.inl rfl | exact Or.inr rfl))) (fss_cons (fs_set (i := 9) nd rfl (by first | exact Or.inl rfl | exact Or.inr rfl) (pf_call false (ok_law_adigit T) (hr.mono (by decide)) (by rfl) T.g_law_adigit T.F_law_adigit.kp T.b_law_adigit .nil (fun _ _ => rfl) (al_cons (al_cons al_nil)) (fa_cons (pf_var (pv 0)) (fa_cons pf_int fa_nil))))
      (fss_one (fs_if (ft_cmp (inn_ok (hu65 hr)) (pf_var (pv 9)) (pf_tup (fa_cons pf_int (fa_cons pf_int (fa_cons pf_int fa_nil))))) (fss_one (fs_expr (pf_bm PySem.F.plainAttrs_list PySem.F.slot_list_append PySem.F.type_list_append append_ok ty_lst (pf_var (pv 6)) (fa_cons (pf_tup (fa_cons (pf_var (pv 7)) (fa_cons (pf_ix ix_ok (pf_lst false (fa_cons pf_str (fa_cons pf_str (fa_cons pf_str (fa_cons pf_str (fa_cons pf_str fa_nil)))))) (pf_var (pv 9))) (fa_cons (pf_tup (fa_cons (pf_call false (ok_law_adigit T) (hr.mono (by decide)) (by rfl) T.g_law_adigit T.F_law_adigit.kp T.b_law_adigit .nil (fun _ _ => rfl) (al_cons (al_cons al_nil)) (fa_cons (pf_var (pv 0)) (fa_cons pf_int fa_nil))) (fa_cons pf_int fa_nil))) fa_nil)))) fa_nil)))) (fss_one (fs_if (ft_cmp (eq_ok hr.units) (pf_var (pv 9)) pf_int) (fss_one (fs_expr (pf_bm PySem.F.plainAttrs_list PySem.F.slot_list_append PySem.F.type_list_append append_ok ty_lst (pf_var (pv 6)) (fa_cons (pf_tup (fa_cons (pf_var (pv 7)) (fa_cons pf_str (fa_cons (pf_op (add_ok false) pf_int (pf_call false (ok_law_adigit T) (hr.mono (by decide)) (by rfl) T.g_law_adigit T.F_law_adigit.kp T.b_law_adigit .nil (fun _ _ => rfl) (al_cons (al_cons al_nil)) (fa_cons (pf_var (pv 0)) (fa_cons pf_int fa_nil)))) fa_nil)))) fa_nil)))) (fss_one (fs_if (ft_cmp (eq_ok hr.units) (pf_var (pv 9)) pf_int) (fss_one (fs_expr (pf_bm PySem.F.plainAttrs_list PySem.F.slot_list_append PySem.F.type_list_append append_ok ty_lst (pf_var (pv 6)) (fa_cons (pf_tup (fa_cons (pf_var (pv 7)) (fa_cons pf_str (fa_cons pf_non fa_nil)))) fa_nil)))) fss_nil))))))))
      (fss_one (fs_ret (pf_tup (fa_cons (pf_var (pv 2)) (fa_cons (pf_tup (fa_cons (pf_tup (fa_cons pf_str (fa_cons pf_str (fa_cons pf_int (fa_cons (pf_callTy tuple_ok (by rfl) T.z_tuple (by decide +kernel) (fa_cons (pf_var (pv 3)) fa_nil)) fa_nil))))) (fa_cons (pf_tup (fa_cons pf_str (fa_cons pf_str (fa_cons pf_int (fa_cons (pf_var (pv 5)) fa_nil))))) fa_nil))) (fa_cons (pf_callTy tuple_ok (by rfl) T.z_tuple (by decide +kernel) (fa_cons (pf_var (pv 6)) fa_nil)) fa_nil)))))))))))
/-! _law_aarchives -/
theorem sc_law_aarchives : FnScope ["tape", "pool", "found", "a", "many", "m"] ["tape", "pool"] (defScope st_law_aarchives) := ⟨rfl, rfl, rfl, by decide +kernel, rfl, by decide +kernel, by decide +kernel⟩
noncomputable def m_law_aarchives (a : Ad) : G := (sSeq (sAsg (eCall (oLst true) aNil) (tName 2))
  (sSeq (sFor (iRng (aCons (eCall (withD [] (callC false (f_law_adigit a))) (aCons (eVar 0) (aCons (eC (.d (.int 4))) aNil))) aNil)) (tName 3) (sSeq (sAsg (eCall (withD [] (callC false (f_law_adigit a))) (aCons (eVar 0) (aCons (eC (.d (.int 5))) aNil))) (tName 4))
  (sExpr (eMethT isLst mAppend (eVar 2) (aCons (eCall oTupOf (aCons (eLc false (iRng (aCons (eVar 4) aNil)) (tName 5) bYes (eCall (withD [] (callC false (f_law_amember a))) (aCons (eVar 0) (aCons (eVar 1) (aCons (eBin (dAdd false) (eC (.d (.str "m"))) (eCall oStrI (aCons (eBin (dAdd false) (eBin dMul (eC (.d (.int 10))) (eVar 3)) (eVar 5)) aNil))) aNil)))) [5]) aNil)) aNil)))))
  (sRet (eVar 2))))
noncomputable def f_law_aarchives (a : Ad) : OpN := runG 6 (m_law_aarchives a)
theorem ok_law_aarchives (T : TX K mg a) : FnOk P w K mg base CX0 3 a.a_law_aarchives a.d_law_aarchives ["tape", "pool"] (spF K 2 (f_law_aarchives a)) := by
  refine fn_okF (N := ["tape", "pool", "found", "a", "many", "m"]) T.F_law_aarchives sc_law_aarchives fun cdv A outer s H E hr => ?_
  have nd := sc_law_aarchives.nd
  exact (fss_cons (fs_set (i := 2) nd rfl (by first | exact Or.inl rfl | exact Or.inr rfl) (pf_lst true fa_nil))
      (fss_cons (fs_for PassesOwn.never rfl (fi_rng1 (by rfl) T.z_range (fa_cons (pf_call false (ok_law_adigit T) (hr.mono (by decide)) (by rfl) T.g_law_adigit T.F_law_adigit.kp T.b_law_adigit .nil (fun _ _ => rfl) (al_cons (al_cons al_nil)) (fa_cons (pf_var (pv 0)) (fa_cons pf_int fa_nil))) fa_nil)) (fg_name (pg_name (i := 3) nd rfl (by first | exact Or.inl rfl | exact Or.inr rfl))) (fss_cons (fs_set (i := 4) nd rfl (by first | exact Or.inl rfl | exact Or.inr rfl) (pf_call false (ok_law_adigit T) (hr.mono (by decide)) (by rfl) T.g_law_adigit T.F_law_adigit.kp T.b_law_adigit .nil (fun _ _ => rfl) (al_cons (al_cons al_nil)) (fa_cons (pf_var (pv 0)) (fa_cons pf_int fa_nil))))
      (fss_one (fs_expr (pf_bm PySem.F.plainAttrs_list PySem.F.slot_list_append PySem.F.type_list_append append_ok ty_lst (pf_var (pv 2)) (fa_cons (pf_callTy tuple_ok (by rfl) T.z_tuple (by decide +kernel) (fa_cons (pf_lc (own := [("m", 5)]) false rfl nd (fi_rng1 (by rfl) T.z_range (fa_cons (pf_var (pv 4)) fa_nil)) (blkOk_by (N := ["tape", "pool", "found", "a", "many", "m"]) (sc := (defScope st_law_aarchives)) (own := [("m", 5)]) (by decide +kernel)) (by decide) (fun _ _ _ _ _ => (fg_name (pg_name (i := 5) nd rfl (by first | exact Or.inl rfl | exact Or.inr rfl)))) (fun _ _ _ _ _ => fts_nil) (fun _ _ _ _ _ => (pf_call false (ok_law_amember T) (hr.mono (by decide)) (by rfl) T.g_law_amember T.F_law_amember.kp T.b_law_amember .nil (fun _ _ => rfl) (al_cons (al_cons (al_cons al_nil))) (fa_cons (pf_var (pv 0)) (fa_cons (pf_var (pv 1)) (fa_cons (pf_op (add_ok false) pf_str (pf_callTy strI_ok (by rfl) T.z_str (by decide +kernel) (fa_cons (pf_op (add_ok false) (pf_op mul_ok pf_int (pf_var (pv 3))) (pf_var (pv 5))) fa_nil))) fa_nil)))))) fa_nil)) fa_nil))))))
      (fss_one (fs_ret (pf_var (pv 2))))))
/-! _law_adefines -/
theorem sc_law_adefines : FnScope ["piece", "symbol"] ["piece"] (defScope st_law_adefines) := ⟨rfl, rfl, rfl, by decide +kernel, rfl, by decide +kernel, by decide +kernel⟩
noncomputable def m_law_adefines (a : Ad) : G := (sRet (eLc true (iSeq (eBin dIx (eVar 0) (eC (.d (.int 2))))) (tName 1) (bVal (eBin (dIn false) (eBin dIx (eVar 1) (eC (.d (.int 1)))) (eCall oTup (aCons (eC (.d (.str "strong"))) (aCons (eC (.d (.str "weak"))) (aCons (eC (.d (.str "common"))) aNil)))))) (eBin dIx (eVar 1) (eC (.d (.int 0)))) [1]))
noncomputable def f_law_adefines (a : Ad) : OpN := runG 2 (m_law_adefines a)
theorem ok_law_adefines (T : TX K mg a) : FnOk P w K mg base CX0 1 a.a_law_adefines a.d_law_adefines ["piece"] (spF K 1 (f_law_adefines a)) := by
  refine fn_okF (N := ["piece", "symbol"]) T.F_law_adefines sc_law_adefines fun cdv A outer s H E hr => ?_
  have nd := sc_law_adefines.nd
  exact (fss_one (fs_ret (pf_lc (own := [("symbol", 1)]) true rfl nd (fi_seq (pf_ix ix_ok (pf_var (pv 0)) pf_int)) (blkOk_by (N := ["piece", "symbol"]) (sc := (defScope st_law_adefines)) (own := [("symbol", 1)]) (by decide +kernel)) (by decide) (fun _ _ _ _ _ => (fg_name (pg_name (i := 1) nd rfl (by first | exact Or.inl rfl | exact Or.inr rfl)))) (fun _ _ _ _ _ => (fts_one (ft_cmp (inn_ok (hu65 hr)) (pf_ix ix_ok (pf_var (pv 1)) pf_int) (pf_tup (fa_cons pf_str (fa_cons pf_str (fa_cons pf_str fa_nil))))))) (fun _ _ _ _ _ => (pf_ix ix_ok (pf_var (pv 1)) pf_int)))))
/-! _law_anamed -/
theorem sc_law_anamed : FnScope ["item"] ["item"] (defScope st_law_anamed) := ⟨rfl, rfl, rfl, by decide +kernel, rfl, by decide +kernel, by decide +kernel⟩
noncomputable def m_law_anamed (a : Ad) : G := (sSeq (sIf (bVal (eBin (dIn false) (eBin dIx (eVar 0) (eC (.d (.int 0)))) (eCall oTup (aCons (eC (.d (.str "place"))) (aCons (eC (.d (.str "when"))) aNil))))) (sRet (eBin dIx (eVar 0) (eC (.d (.int 2))))) sNil)
  (sSeq (sIf (bVal (eBin (dIn false) (eBin dIx (eVar 0) (eC (.d (.int 0)))) (eCall oTup (aCons (eC (.d (.str "call"))) (aCons (eC (.d (.str "jump"))) (aCons (eC (.d (.str "at"))) aNil)))))) (sRet (eBin dIx (eVar 0) (eC (.d (.int 1))))) sNil)
  (sRet (eC (.d .non)))))
noncomputable def f_law_anamed (a : Ad) : OpN := runG 1 (m_law_anamed a)
theorem ok_law_anamed (T : TX K mg a) : FnOk P w K mg base CX0 1 a.a_law_anamed a.d_law_anamed ["item"] (spF K 1 (f_law_anamed a)) := by
  refine fn_okF (N := ["item"]) T.F_law_anamed sc_law_anamed fun cdv A outer s H E hr => ?_
  have nd := sc_law_anamed.nd
  exact (fss_cons (fs_if (ft_cmp (inn_ok (hu65 hr)) (pf_ix ix_ok (pf_var (pv 0)) pf_int) (pf_tup (fa_cons pf_str (fa_cons pf_str fa_nil)))) (fss_one (fs_ret (pf_ix ix_ok (pf_var (pv 0)) pf_int))) fss_nil)
      (fss_cons (fs_if (ft_cmp (inn_ok (hu65 hr)) (pf_ix ix_ok (pf_var (pv 0)) pf_int) (pf_tup (fa_cons pf_str (fa_cons pf_str (fa_cons pf_str fa_nil))))) (fss_one (fs_ret (pf_ix ix_ok (pf_var (pv 0)) pf_int))) fss_nil)
      (fss_one (fs_ret pf_non))))
/-! _law_asymbol -/
theorem sc_law_asymbol : FnScope ["piece", "name", "symbol"] ["piece", "name"] (defScope st_law_asymbol) := ⟨rfl, rfl, rfl, by decide +kernel, rfl, by decide +kernel, by decide +kernel⟩
noncomputable def m_law_asymbol (a : Ad) : G := (sSeq (sFor (iSeq (eBin dIx (eVar 0) (eC (.d (.int 2))))) (tName 2) (sIf (bVal (eBin (eqvD false) (eBin dIx (eVar 2) (eC (.d (.int 0)))) (eVar 1))) (sRet (eVar 2)) sNil))
  (sRet (eCall oTup (aCons (eVar 1) (aCons (eC (.d (.str ""))) (aCons (eC (.d .non)) aNil))))))
noncomputable def f_law_asymbol (a : Ad) : OpN := runG 3 (m_law_asymbol a)
theorem ok_law_asymbol (T : TX K mg a) : FnOk P w K mg base CX0 1 a.a_law_asymbol a.d_law_asymbol ["piece", "name"] (spF K 2 (f_law_asymbol a)) := by
  refine fn_okF (N := ["piece", "name", "symbol"]) T.F_law_asymbol sc_law_asymbol fun cdv A outer s H E hr => ?_
  have nd := sc_law_asymbol.nd
  exact (fss_cons (fs_for PassesOwn.never rfl (fi_seq (pf_ix ix_ok (pf_var (pv 0)) pf_int)) (fg_name (pg_name (i := 2) nd rfl (by first | exact Or.inl rfl | exact Or.inr rfl))) (fss_one (fs_if (ft_cmp (eq_ok hr.units) (pf_ix ix_ok (pf_var (pv 2)) pf_int) (pf_var (pv 1))) (fss_one (fs_ret (pf_var (pv 2)))) fss_nil)))
      (fss_one (fs_ret (pf_tup (fa_cons (pf_var (pv 1)) (fa_cons pf_str (fa_cons pf_non fa_nil)))))))
/-! _law_aasks -/
theorem sc_law_aasks : FnScope ["piece", "found", "section", "item", "name"] ["piece"] (defScope st_law_aasks) := ⟨rfl, rfl, rfl, by decide +kernel, rfl, by decide +kernel, by decide +kernel⟩
noncomputable def m_law_aasks (a : Ad) : G := (sSeq (sAsg (eCall (oLst true) aNil) (tName 1))
  (sSeq (sFor (iSeq (eBin dIx (eVar 0) (eC (.d (.int 1))))) (tName 2) (sFor (iSeq (eBin dIx (eVar 2) (eC (.d (.int 3))))) (tName 3) (sSeq (sAsg (eCall (withD [] (callC false (f_law_anamed a))) (aCons (eVar 3) aNil)) (tName 4))
  (sIf (bAnd (bVal (eBin (isN true) (eVar 4) (eC (.d .non)))) (bAnd (bVal (eBin (dIn true) (eVar 4) (eVar 1))) (bVal (eBin (eqvD true) (eBin dIx (eCall (withD [] (callC false (f_law_asymbol a))) (aCons (eVar 0) (aCons (eVar 4) aNil))) (eC (.d (.int 1)))) (eC (.d (.str "local"))))))) (sExpr (eMethT isLst mAppend (eVar 1) (aCons (eVar 4) aNil))) sNil))))
  (sRet (eCall (oSorted true) (aCons (eVar 1) aNil)))))
noncomputable def f_law_aasks (a : Ad) : OpN := runG 5 (m_law_aasks a)
theorem ok_law_aasks (T : TX K mg a) : FnOk P w K mg base CX0 2 a.a_law_aasks a.d_law_aasks ["piece"] (spF K 1 (f_law_aasks a)) := by
  refine fn_okF (N := ["piece", "found", "section", "item", "name"]) T.F_law_aasks sc_law_aasks fun cdv A outer s H E hr => ?_
  have nd := sc_law_aasks.nd
  exact (fss_cons (fs_set (i := 1) nd rfl (by first | exact Or.inl rfl | exact Or.inr rfl) (pf_lst true fa_nil))
      (fss_cons (fs_for PassesOwn.never rfl (fi_seq (pf_ix ix_ok (pf_var (pv 0)) pf_int)) (fg_name (pg_name (i := 2) nd rfl (by first | exact Or.inl rfl | exact Or.inr rfl))) (fss_one (fs_for PassesOwn.never rfl (fi_seq (pf_ix ix_ok (pf_var (pv 2)) pf_int)) (fg_name (pg_name (i := 3) nd rfl (by first | exact Or.inl rfl | exact Or.inr rfl))) (fss_cons (fs_set (i := 4) nd rfl (by first | exact Or.inl rfl | exact Or.inr rfl) (pf_call false (ok_law_anamed T) (hr.mono (by decide)) (by rfl) T.g_law_anamed T.F_law_anamed.kp T.b_law_anamed .nil (fun _ _ => rfl) (al_cons al_nil) (fa_cons (pf_var (pv 3)) fa_nil)))
      (fss_one (fs_if (PW.pt (fw_and (ft_cmp isnot_ok (pf_var (pv 4)) pf_non) (fw_and (ft_cmp (notinn_ok (hu65 hr)) (pf_var (pv 4)) (pf_var (pv 1))) (fw_and1 (ft_cmp (ne_ok hr.units) (pf_ix ix_ok (pf_call false (ok_law_asymbol T) (hr.mono (by decide)) (by rfl) T.g_law_asymbol T.F_law_asymbol.kp T.b_law_asymbol .nil (fun _ _ => rfl) (al_cons (al_cons al_nil)) (fa_cons (pf_var (pv 0)) (fa_cons (pf_var (pv 4)) fa_nil))) pf_int) pf_str))))) (fss_one (fs_expr (pf_bm PySem.F.plainAttrs_list PySem.F.slot_list_append PySem.F.type_list_append append_ok ty_lst (pf_var (pv 1)) (fa_cons (pf_var (pv 4)) fa_nil)))) fss_nil))))))
      (fss_one (fs_ret (pf_callB (sorted_ok true rfl) (by rfl) T.z_sorted (by decide +kernel) (fa_cons (pf_var (pv 1)) fa_nil))))))
/-! _law_aopen -/
theorem sc_law_aopen : FnScope ["pieces", "had", "piece", "found", "name", "i"] ["pieces"] (defScope st_law_aopen) := ⟨rfl, rfl, rfl, by decide +kernel, rfl, by decide +kernel, by decide +kernel⟩
noncomputable def m_law_aopen (a : Ad) : G := (sSeq (sAsg (eCall oNewK aNil) (tName 1))
  (sSeq (sFor (iSeq (eVar 0)) (tName 2) (sFor (iSeq (eCall (withD [] (callC false (f_law_adefines a))) (aCons (eVar 2) aNil))) (tName 4) (sPutD (eC (.d (.bl true))) (eVar 1) (eVar 4))))
  (sSeq (sAsg (eCall oNewK aNil) (tName 3))
  (sSeq (sFor (iEnumF (eVar 0)) (tTupG 2 (tsCons (tName 5) (tsCons (tName 2) tsNil))) (sFor (iSeq (eCall (withD [] (callC false (f_law_aasks a))) (aCons (eVar 2) aNil))) (tName 4) (sIf (bAnd (bVal (eBin (dIn true) (eVar 4) (eVar 1))) (bAnd (bVal (eBin (dIn true) (eVar 4) (eVar 3))) (bVal (eBin (eqvD true) (eBin dIx (eCall (withD [] (callC false (f_law_asymbol a))) (aCons (eVar 2) (aCons (eVar 4) aNil))) (eC (.d (.int 1)))) (eC (.d (.str "maybe"))))))) (sPutD (eVar 5) (eVar 3) (eVar 4)) sNil)))
  (sRet (eVar 3))))))
noncomputable def f_law_aopen (a : Ad) : OpN := runG 6 (m_law_aopen a)
theorem ok_law_aopen (T : TX K mg a) : FnOk P w K mg base CX0 3 a.a_law_aopen a.d_law_aopen ["pieces"] (spF K 1 (f_law_aopen a)) := by
  refine fn_okF (N := ["pieces", "had", "piece", "found", "name", "i"]) T.F_law_aopen sc_law_aopen fun cdv A outer s H E hr => ?_
  have nd := sc_law_aopen.nd
  exact (fss_cons (fs_set (i := 1) nd rfl (by first | exact Or.inl rfl | exact Or.inr rfl) pf_newK)
      (fss_cons (fs_for PassesOwn.never rfl (fi_seq (pf_var (pv 0))) (fg_name (pg_name (i := 2) nd rfl (by first | exact Or.inl rfl | exact Or.inr rfl))) (fss_one (fs_for PassesOwn.never rfl (fi_seq (pf_call false (ok_law_adefines T) (hr.mono (by decide)) (by rfl) T.g_law_adefines T.F_law_adefines.kp T.b_law_adefines .nil (fun _ _ => rfl) (al_cons al_nil) (fa_cons (pf_var (pv 2)) fa_nil))) (fg_name (pg_name (i := 4) nd rfl (by first | exact Or.inl rfl | exact Or.inr rfl))) (fss_one (fs_dput (hu1 hr) (pf_var (pv 1)) (pf_var (pv 4)) pf_bl)))))
      (fss_cons (fs_set (i := 3) nd rfl (by first | exact Or.inl rfl | exact Or.inr rfl) pf_newK)
      (fss_cons (fs_for PassesOwn.never rfl (fi_enum (by rfl) T.z_enumerate (fa_cons (pf_var (pv 0)) fa_nil)) (fg_tup rfl (fgs_cons (fg_name (pg_name (i := 5) nd rfl (by first | exact Or.inl rfl | exact Or.inr rfl))) (fgs_cons (fg_name (pg_name (i := 2) nd rfl (by first | exact Or.inl rfl | exact Or.inr rfl))) fgs_nil))) (fss_one (fs_for PassesOwn.never rfl (fi_seq (pf_call false (ok_law_aasks T) (hr.mono (by decide)) (by rfl) T.g_law_aasks T.F_law_aasks.kp T.b_law_aasks .nil (fun _ _ => rfl) (al_cons al_nil) (fa_cons (pf_var (pv 2)) fa_nil))) (fg_name (pg_name (i := 4) nd rfl (by first | exact Or.inl rfl | exact Or.inr rfl))) (fss_one (fs_if (PW.pt (fw_and (ft_cmp (notinn_ok (hu65 hr)) (pf_var (pv 4)) (pf_var (pv 1))) (fw_and (ft_cmp (notinn_ok (hu65 hr)) (pf_var (pv 4)) (pf_var (pv 3))) (fw_and1 (ft_cmp (ne_ok hr.units) (pf_ix ix_ok (pf_call false (ok_law_asymbol T) (hr.mono (by decide)) (by rfl) T.g_law_asymbol T.F_law_asymbol.kp T.b_law_asymbol .nil (fun _ _ => rfl) (al_cons (al_cons al_nil)) (fa_cons (pf_var (pv 2)) (fa_cons (pf_var (pv 4)) fa_nil))) pf_int) pf_str))))) (fss_one (fs_dput (hu1 hr) (pf_var (pv 3)) (pf_var (pv 4)) (pf_var (pv 5)))) fss_nil)))))
      (fss_one (fs_ret (pf_var (pv 3))))))))
/-! _law_anext -/
theorem sc_law_anext : FnScope ["pieces", "archives", "seats", "done", "wanted", "a", "m", "own", "names", "name"] ["pieces", "archives", "seats", "done"] (defScope st_law_anext) := ⟨rfl, rfl, rfl, by decide +kernel, rfl, by decide +kernel, by decide +kernel⟩
noncomputable def m_law_anext (a : Ad) : G := (sSeq (sAsg (eCall (withD [] (callC false (f_law_aopen a))) (aCons (eVar 0) aNil)) (tName 4))
  (sSeq (sFor (iSeq (eVar 2)) (tTupG 2 (tsCons (tName 5) (tsCons (tName 6) tsNil))) (sSeq (sAsg (eCall (withD [] (callC false (f_law_adefines a))) (aCons (eBin dIx (eBin dIx (eVar 1) (eVar 5)) (eVar 6)) aNil)) (tName 7))
  (sSeq (sAsg (eLc false (iSeq (eCall (oSorted false) (aCons (eVar 4) aNil))) (tName 9) (bVal (eBin (dIn false) (eVar 9) (eVar 7))) (eVar 9) [9]) (tName 8))
  (sIf (bAnd (bVal (eBin (eqvD true) (eVar 8) (eCall (oLst false) aNil))) (bVal (eBin (dIn true) (eCall oTup (aCons (eVar 5) (aCons (eVar 6) aNil))) (eVar 3)))) (sRet (eCall oTup (aCons (eVar 5) (aCons (eVar 6) (aCons (eBin dIx (eVar 8) (eC (.d (.int 0)))) (aCons (eBin dDix (eVar 4) (eBin dIx (eVar 8) (eC (.d (.int 0))))) aNil)))))) sNil))))
  (sRet (eC (.d .non)))))
noncomputable def f_law_anext (a : Ad) : OpN := runG 10 (m_law_anext a)
theorem ok_law_anext (T : TX K mg a) : FnOk P w K mg base CX0 4 a.a_law_anext a.d_law_anext ["pieces", "archives", "seats", "done"] (spF K 4 (f_law_anext a)) := by
  refine fn_okF (N := ["pieces", "archives", "seats", "done", "wanted", "a", "m", "own", "names", "name"]) T.F_law_anext sc_law_anext fun cdv A outer s H E hr => ?_
  have nd := sc_law_anext.nd
  exact (fss_cons (fs_set (i := 4) nd rfl (by first | exact Or.inl rfl | exact Or.inr rfl) (pf_call false (ok_law_aopen T) (hr.mono (by decide)) (by rfl) T.g_law_aopen T.F_law_aopen.kp T.b_law_aopen .nil (fun _ _ => rfl) (al_cons al_nil) (fa_cons (pf_var (pv 0)) fa_nil)))
      (fss_cons (fs_for PassesOwn.never rfl (fi_seq (pf_var (pv 2))) (fg_tup rfl (fgs_cons (fg_name (pg_name (i := 5) nd rfl (by first | exact Or.inl rfl | exact Or.inr rfl))) (fgs_cons (fg_name (pg_name (i := 6) nd rfl (by first | exact Or.inl rfl | exact Or.inr rfl))) fgs_nil))) (fss_cons (fs_set (i := 7) nd rfl (by first | exact Or.inl rfl | exact Or.inr rfl) (pf_call false (ok_law_adefines T) (hr.mono (by decide)) (by rfl) T.g_law_adefines T.F_law_adefines.kp T.b_law_adefines .nil (fun _ _ => rfl) (al_cons al_nil) (fa_cons (pf_ix ix_ok (pf_ix ix_ok (pf_var (pv 1)) (pf_var (pv 5))) (pf_var (pv 6))) fa_nil)))
      (fss_cons (fs_setLc (own := [("name", 9)]) false (i := 8) rfl nd rfl rfl (sw_true rfl rfl rfl (by decide +kernel)) (fi_seq (pf_callB (sorted_ok false rfl) (by rfl) T.z_sorted (by decide +kernel) (fa_cons (pf_var (pv 4)) fa_nil))) (blkOk_by (N := ["pieces", "archives", "seats", "done", "wanted", "a", "m", "own", "names", "name"]) (sc := (defScope st_law_anext)) (own := [("name", 9)]) (by decide +kernel)) (by decide) (fun _ _ _ _ _ => (fg_name (pg_name (i := 9) nd rfl (by first | exact Or.inl rfl | exact Or.inr rfl)))) (fun _ _ _ _ _ => (fts_one (ft_cmp (inn_ok (hu65 hr)) (pf_var (pv 9)) (pf_var (pv 7))))) (fun _ _ _ _ _ => (pf_var (pv 9))))
      (fss_one (fs_if (PW.pt (fw_and (ft_cmp (ne_ok hr.units) (pf_var (pv 8)) (pf_lst false fa_nil)) (fw_and1 (ft_cmp (notinn_ok (hu65 hr)) (pf_tup (fa_cons (pf_var (pv 5)) (fa_cons (pf_var (pv 6)) fa_nil))) (pf_var (pv 3)))))) (fss_one (fs_ret (pf_tup (fa_cons (pf_var (pv 5)) (fa_cons (pf_var (pv 6)) (fa_cons (pf_ix ix_ok (pf_var (pv 8)) pf_int) (fa_cons (pf_dix (hu1 hr) (pf_var (pv 4)) (pf_ix ix_ok (pf_var (pv 8)) pf_int)) fa_nil))))))) fss_nil)))))
      (fss_one (fs_ret pf_non))))
/-! _law_adraws -/
theorem sc_law_adraws : FnScope ["pieces", "archives", "grouped", "rows", "here", "reasons", "done", "seats", "row", "one", "a", "m"] ["pieces", "archives", "grouped"] (defScope st_law_adraws) := ⟨rfl, rfl, rfl, by decide +kernel, rfl, by decide +kernel, by decide +kernel⟩
noncomputable def m_law_adraws (a : Ad) : G := (sSeq (sAsg (eLc false (iRng (aCons (eCall oLen (aCons (eVar 1) aNil)) aNil)) (tName 10) bYes (eLc false (iRng (aCons (eCall oLen (aCons (eBin dIx (eVar 1) (eVar 10)) aNil)) aNil)) (tName 11) bYes (eCall oTup (aCons (eVar 10) (aCons (eVar 11) aNil))) [11]) [10]) (tName 3))
  (sSeq (sIf (bVal (eVar 2)) (sSeq (sAsg (eCall (oLst false) aNil) (tName 7))
  (sSeq (sFor (iSeq (eVar 3)) (tName 8) (sAsg (eBin (dAdd false) (eVar 7) (eVar 8)) (tName 7)))
  (sAsg (eCall (oLst false) (aCons (eVar 7) aNil)) (tName 3)))) sNil)
  (sSeq (sAsg (eCall (oList true) (aCons (eVar 0) aNil)) (tName 4))
  (sSeq (sAsg (eCall (oLst true) aNil) (tName 5))
  (sSeq (sAsg (eCall (oLst true) aNil) (tName 6))
  (sSeq (sFor (iSeq (eVar 3)) (tName 7) (sSeq (sAsg (eCall (withD [] (callC false (f_law_anext a))) (aCons (eVar 4) (aCons (eVar 1) (aCons (eVar 7) (aCons (eVar 6) aNil))))) (tName 9))
  (sWhile (bVal (eBin (isN true) (eVar 9) (eC (.d .non)))) (sSeq (sExpr (eMethT isLst mAppend (eVar 4) (aCons (eBin dIx (eBin dIx (eVar 1) (eBin dIx (eVar 9) (eC (.d (.int 0))))) (eBin dIx (eVar 9) (eC (.d (.int 1))))) aNil)))
  (sSeq (sExpr (eMethT isLst mAppend (eVar 6) (aCons (eSlice (dSl false) (eVar 9) oNo (oSome (eC (.d (.int 2))))) aNil)))
  (sSeq (sExpr (eMethT isLst mAppend (eVar 5) (aCons (eVar 9) aNil)))
  (sAsg (eCall (withD [] (callC false (f_law_anext a))) (aCons (eVar 4) (aCons (eVar 1) (aCons (eVar 7) (aCons (eVar 6) aNil))))) (tName 9))))))))
  (sRet (eCall oTup (aCons (eVar 4) (aCons (eVar 5) aNil))))))))))
noncomputable def f_law_adraws (a : Ad) : OpN := runG 12 (m_law_adraws a)
theorem ok_law_adraws (T : TX K mg a) : FnOk P w K mg base CX0 5 a.a_law_adraws a.d_law_adraws ["pieces", "archives", "grouped"] (spF K 3 (f_law_adraws a)) := by
  refine fn_okF (N := ["pieces", "archives", "grouped", "rows", "here", "reasons", "done", "seats", "row", "one", "a", "m"]) T.F_law_adraws sc_law_adraws fun cdv A outer s H E hr => ?_
  have nd := sc_law_adraws.nd
  exact (fss_cons (fs_setLc (own := [("a", 10)]) false (i := 3) rfl nd rfl rfl (sw_true rfl rfl rfl (by decide +kernel)) (fi_rng1 (by rfl) T.z_range (fa_cons (pf_callB len_ok (by rfl) T.z_len (by decide +kernel) (fa_cons (pf_var (pv 1)) fa_nil)) fa_nil)) (blkOk_by (N := ["pieces", "archives", "grouped", "rows", "here", "reasons", "done", "seats", "row", "one", "a", "m"]) (sc := (defScope st_law_adraws)) (own := [("a", 10)]) (by decide +kernel)) (by decide) (fun _ _ _ _ _ => (fg_name (pg_name (i := 10) nd rfl (by first | exact Or.inl rfl | exact Or.inr rfl)))) (fun _ _ _ _ _ => fts_nil) (fun _ _ _ _ _ => (pf_lc (own := [("m", 11)]) false rfl nd (fi_rng1 (by rfl) T.z_range (fa_cons (pf_callB len_ok (by rfl) T.z_len (by decide +kernel) (fa_cons (pf_ix ix_ok (pf_var (pv 1)) (pf_var (pv 10))) fa_nil)) fa_nil)) (blkOk_by (N := ["pieces", "archives", "grouped", "rows", "here", "reasons", "done", "seats", "row", "one", "a", "m"]) (sc := (relS _ (defScope st_law_adraws))) (own := [("m", 11)]) (by decide +kernel)) (by decide) (fun _ _ _ _ _ => (fg_name (pg_name (i := 11) nd rfl (by first | exact Or.inl rfl | exact Or.inr rfl)))) (fun _ _ _ _ _ => fts_nil) (fun _ _ _ _ _ => (pf_tup (fa_cons (pf_var (pv 10)) (fa_cons (pf_var (pv 11)) fa_nil)))))))
      (fss_cons (fs_if (ft_val (pf_var (pv 2))) (fss_cons (fs_set (i := 7) nd rfl (by first | exact Or.inl rfl | exact Or.inr rfl) (pf_lst false fa_nil))
      (fss_cons (fs_for PassesOwn.never rfl (fi_seq (pf_var (pv 3))) (fg_name (pg_name (i := 8) nd rfl (by first | exact Or.inl rfl | exact Or.inr rfl))) (fss_one (fs_set (i := 7) nd rfl (by first | exact Or.inl rfl | exact Or.inr rfl) (pf_op (add_ok false) (pf_var (pv 7)) (pf_var (pv 8))))))
      (fss_one (fs_set (i := 3) nd rfl (by first | exact Or.inl rfl | exact Or.inr rfl) (pf_lst false (fa_cons (pf_var (pv 7)) fa_nil)))))) fss_nil)
      (fss_cons (fs_set (i := 4) nd rfl (by first | exact Or.inl rfl | exact Or.inr rfl) (pf_callTy (list_ok true) (by rfl) T.z_list (by decide +kernel) (fa_cons (pf_var (pv 0)) fa_nil)))
      (fss_cons (fs_set (i := 5) nd rfl (by first | exact Or.inl rfl | exact Or.inr rfl) (pf_lst true fa_nil))
      (fss_cons (fs_set (i := 6) nd rfl (by first | exact Or.inl rfl | exact Or.inr rfl) (pf_lst true fa_nil))
      (fss_cons (fs_for PassesOwn.never rfl (fi_seq (pf_var (pv 3))) (fg_name (pg_name (i := 7) nd rfl (by first | exact Or.inl rfl | exact Or.inr rfl))) (fss_cons (fs_set (i := 9) nd rfl (by first | exact Or.inl rfl | exact Or.inr rfl) (pf_call false (ok_law_anext T) (hr.mono (by decide)) (by rfl) T.g_law_anext T.F_law_anext.kp T.b_law_anext .nil (fun _ _ => rfl) (al_cons (al_cons (al_cons (al_cons al_nil)))) (fa_cons (pf_var (pv 4)) (fa_cons (pf_var (pv 1)) (fa_cons (pf_var (pv 7)) (fa_cons (pf_var (pv 6)) fa_nil))))))
      (fss_one (fs_while PassesOwn.never (ft_cmp isnot_ok (pf_var (pv 9)) pf_non) (fss_cons (fs_expr (pf_bm PySem.F.plainAttrs_list PySem.F.slot_list_append PySem.F.type_list_append append_ok ty_lst (pf_var (pv 4)) (fa_cons (pf_ix ix_ok (pf_ix ix_ok (pf_var (pv 1)) (pf_ix ix_ok (pf_var (pv 9)) pf_int)) (pf_ix ix_ok (pf_var (pv 9)) pf_int)) fa_nil)))
      (fss_cons (fs_expr (pf_bm PySem.F.plainAttrs_list PySem.F.slot_list_append PySem.F.type_list_append append_ok ty_lst (pf_var (pv 6)) (fa_cons (pf_slice (sl_ok false) (pf_var (pv 9)) fo_none (fo_some pf_int)) fa_nil)))
      (fss_cons (fs_expr (pf_bm PySem.F.plainAttrs_list PySem.F.slot_list_append PySem.F.type_list_append append_ok ty_lst (pf_var (pv 5)) (fa_cons (pf_var (pv 9)) fa_nil)))
      (fss_one (fs_set (i := 9) nd rfl (by first | exact Or.inl rfl | exact Or.inr rfl) (pf_call false (ok_law_anext T) (hr.mono (by decide)) (by rfl) T.g_law_anext T.F_law_anext.kp T.b_law_anext .nil (fun _ _ => rfl) (al_cons (al_cons (al_cons (al_cons al_nil)))) (fa_cons (pf_var (pv 4)) (fa_cons (pf_var (pv 1)) (fa_cons (pf_var (pv 7)) (fa_cons (pf_var (pv 6)) fa_nil))))))))))))))
      (fss_one (fs_ret (pf_tup (fa_cons (pf_var (pv 4)) (fa_cons (pf_var (pv 5)) fa_nil)))))))))))
/-! locals_of -/
theorem sc_locals_of : FnScope ["piece", "name", "binding", "where"] ["piece"] (defScope st_locals_of) := ⟨rfl, rfl, rfl, by decide +kernel, rfl, by decide +kernel, by decide +kernel⟩
noncomputable def m_locals_of (a : Ad) : G := (sRet (eCall (oDictP true) (aCons (eLc false (iSeq (eBin dIx (eVar 0) (eC (.d (.int 2))))) (tTupG 3 (tsCons (tName 1) (tsCons (tName 2) (tsCons (tName 3) tsNil)))) (bVal (eBin (eqvD false) (eVar 2) (eC (.d (.str "local"))))) (eCall oTup (aCons (eVar 1) (aCons (eVar 3) aNil))) [1, 2, 3]) aNil)))
noncomputable def f_locals_of (a : Ad) : OpN := runG 4 (m_locals_of a)
theorem ok_locals_of (T : TX K mg a) : FnOk P w K mg base CX0 1 a.a_locals_of a.d_locals_of ["piece"] (spF K 1 (f_locals_of a)) := by
  refine fn_okF (N := ["piece", "name", "binding", "where"]) T.F_locals_of sc_locals_of fun cdv A outer s H E hr => ?_
  have nd := sc_locals_of.nd
  exact (fss_one (fs_ret (pf_callTy (dictP_ok true rfl) (by rfl) T.z_dict (by decide +kernel) (fa_cons (pf_lc (own := [("name", 1), ("binding", 2), ("where", 3)]) false rfl nd (fi_seq (pf_ix ix_ok (pf_var (pv 0)) pf_int)) (blkOk_by (N := ["piece", "name", "binding", "where"]) (sc := (defScope st_locals_of)) (own := [("name", 1), ("binding", 2), ("where", 3)]) (by decide +kernel)) (by decide) (fun _ _ _ _ _ => (fg_tup rfl (fgs_cons (fg_name (pg_name (i := 1) nd rfl (by first | exact Or.inl rfl | exact Or.inr rfl))) (fgs_cons (fg_name (pg_name (i := 2) nd rfl (by first | exact Or.inl rfl | exact Or.inr rfl))) (fgs_cons (fg_name (pg_name (i := 3) nd rfl (by first | exact Or.inl rfl | exact Or.inr rfl))) fgs_nil))))) (fun _ _ _ _ _ => (fts_one (ft_cmp (eq_ok hr.units) (pf_var (pv 2)) pf_str))) (fun _ _ _ _ _ => (pf_tup (fa_cons (pf_var (pv 1)) (fa_cons (pf_var (pv 3)) fa_nil))))) fa_nil))))
/-! named -/
theorem sc_named : FnScope ["item"] ["item"] (defScope st_named) := ⟨rfl, rfl, rfl, by decide +kernel, rfl, by decide +kernel, by decide +kernel⟩
noncomputable def m_named (a : Ad) : G := (sSeq (sIf (bVal (eBin (dIn false) (eBin dIx (eVar 0) (eC (.d (.int 0)))) (eCall oTup (aCons (eC (.d (.str "place"))) (aCons (eC (.d (.str "when"))) aNil))))) (sRet (eBin dIx (eVar 0) (eC (.d (.int 2))))) sNil)
  (sRet (eIf (bVal (eBin (dIn false) (eBin dIx (eVar 0) (eC (.d (.int 0)))) (eCall oTup (aCons (eC (.d (.str "call"))) (aCons (eC (.d (.str "jump"))) (aCons (eC (.d (.str "at"))) aNil)))))) (eBin dIx (eVar 0) (eC (.d (.int 1)))) (eC (.d .non)))))
noncomputable def f_named (a : Ad) : OpN := runG 1 (m_named a)
theorem ok_named (T : TX K mg a) : FnOk P w K mg base CX0 1 a.a_named a.d_named ["item"] (spF K 1 (f_named a)) := by
  refine fn_okF (N := ["item"]) T.F_named sc_named fun cdv A outer s H E hr => ?_
  have nd := sc_named.nd
  exact (fss_cons (fs_if (ft_cmp (inn_ok (hu65 hr)) (pf_ix ix_ok (pf_var (pv 0)) pf_int) (pf_tup (fa_cons pf_str (fa_cons pf_str fa_nil)))) (fss_one (fs_ret (pf_ix ix_ok (pf_var (pv 0)) pf_int))) fss_nil)
      (fss_one (fs_ret (pf_ifx (ft_cmp (inn_ok (hu65 hr)) (pf_ix ix_ok (pf_var (pv 0)) pf_int) (pf_tup (fa_cons pf_str (fa_cons pf_str (fa_cons pf_str fa_nil))))) (pf_ix ix_ok (pf_var (pv 0)) pf_int) pf_non))))
/-! asked -/
theorem sc_asked : FnScope ["piece", "own", "found", "section", "item", "name"] ["piece"] (defScope st_asked) := ⟨rfl, rfl, rfl, by decide +kernel, rfl, by decide +kernel, by decide +kernel⟩
noncomputable def m_asked (a : Ad) : G := (sSeq (sAsg (eCall (withD [] (callC false (f_locals_of a))) (aCons (eVar 0) aNil)) (tName 1))
  (sSeq (sAsg (eCall oNewK aNil) (tName 2))
  (sSeq (sFor (iSeq (eBin dIx (eVar 0) (eC (.d (.int 1))))) (tName 3) (sFor (iSeq (eBin dIx (eVar 3) (eC (.d (.int 3))))) (tName 4) (sSeq (sAsg (eCall (withD [] (callC false (f_named a))) (aCons (eVar 4) aNil)) (tName 5))
  (sIf (bAnd (bVal (eBin (isN true) (eVar 5) (eC (.d .non)))) (bVal (eBin (dIn true) (eVar 5) (eVar 1)))) (sPutD (eC (.d (.bl true))) (eVar 2) (eVar 5)) sNil))))
  (sRet (eCall (oSorted true) (aCons (eVar 2) aNil))))))
noncomputable def f_asked (a : Ad) : OpN := runG 6 (m_asked a)
theorem ok_asked (T : TX K mg a) : FnOk P w K mg base CX0 2 a.a_asked a.d_asked ["piece"] (spF K 1 (f_asked a)) := by
  refine fn_okF (N := ["piece", "own", "found", "section", "item", "name"]) T.F_asked sc_asked fun cdv A outer s H E hr => ?_
  have nd := sc_asked.nd
  exact (fss_cons (fs_set (i := 1) nd rfl (by first | exact Or.inl rfl | exact Or.inr rfl) (pf_call false (ok_locals_of T) (hr.mono (by decide)) (by rfl) T.g_locals_of T.F_locals_of.kp T.b_locals_of .nil (fun _ _ => rfl) (al_cons al_nil) (fa_cons (pf_var (pv 0)) fa_nil)))
      (fss_cons (fs_set (i := 2) nd rfl (by first | exact Or.inl rfl | exact Or.inr rfl) pf_newK)
      (fss_cons (fs_for PassesOwn.never rfl (fi_seq (pf_ix ix_ok (pf_var (pv 0)) pf_int)) (fg_name (pg_name (i := 3) nd rfl (by first | exact Or.inl rfl | exact Or.inr rfl))) (fss_one (fs_for PassesOwn.never rfl (fi_seq (pf_ix ix_ok (pf_var (pv 3)) pf_int)) (fg_name (pg_name (i := 4) nd rfl (by first | exact Or.inl rfl | exact Or.inr rfl))) (fss_cons (fs_set (i := 5) nd rfl (by first | exact Or.inl rfl | exact Or.inr rfl) (pf_call false (ok_named T) (hr.mono (by decide)) (by rfl) T.g_named T.F_named.kp T.b_named .nil (fun _ _ => rfl) (al_cons al_nil) (fa_cons (pf_var (pv 4)) fa_nil)))
      (fss_one (fs_if (PW.pt (fw_and (ft_cmp isnot_ok (pf_var (pv 5)) pf_non) (fw_and1 (ft_cmp (notinn_ok (hu65 hr)) (pf_var (pv 5)) (pf_var (pv 1)))))) (fss_one (fs_dput (hu1 hr) (pf_var (pv 2)) (pf_var (pv 5)) pf_bl)) fss_nil))))))
      (fss_one (fs_ret (pf_callB (sorted_ok true rfl) (by rfl) T.z_sorted (by decide +kernel) (fa_cons (pf_var (pv 2)) fa_nil)))))))
/-! askers -/
theorem sc_askers : FnScope ["pieces", "found", "number", "piece", "lax", "name", "binding", "where"] ["pieces"] (defScope st_askers) := ⟨rfl, rfl, rfl, by decide +kernel, rfl, by decide +kernel, by decide +kernel⟩
noncomputable def m_askers (a : Ad) : G := (sSeq (sAsg (eCall oNewK aNil) (tName 1))
  (sSeq (sFor (iEnumF (eVar 0)) (tTupG 2 (tsCons (tName 2) (tsCons (tName 3) tsNil))) (sSeq (sAsg (eLc false (iSeq (eBin dIx (eVar 3) (eC (.d (.int 2))))) (tTupG 3 (tsCons (tName 5) (tsCons (tName 6) (tsCons (tName 7) tsNil)))) (bVal (eBin (eqvD false) (eVar 6) (eC (.d (.str "maybe"))))) (eVar 5) [5, 6, 7]) (tName 4))
  (sFor (iSeq (eCall (withD [] (callC false (f_asked a))) (aCons (eVar 3) aNil))) (tName 5) (sIf (bVal (eBin (dIn true) (eVar 5) (eVar 4))) (sExpr (eMethT isDic mSetd (eVar 1) (aCons (eVar 5) (aCons (eVar 2) aNil)))) sNil))))
  (sRet (eVar 1))))
noncomputable def f_askers (a : Ad) : OpN := runG 8 (m_askers a)
theorem ok_askers (T : TX K mg a) : FnOk P w K mg base CX0 3 a.a_askers a.d_askers ["pieces"] (spF K 1 (f_askers a)) := by
  refine fn_okF (N := ["pieces", "found", "number", "piece", "lax", "name", "binding", "where"]) T.F_askers sc_askers fun cdv A outer s H E hr => ?_
  have nd := sc_askers.nd
  exact (fss_cons (fs_set (i := 1) nd rfl (by first | exact Or.inl rfl | exact Or.inr rfl) pf_newK)
      (fss_cons (fs_for PassesOwn.never rfl (fi_enum (by rfl) T.z_enumerate (fa_cons (pf_var (pv 0)) fa_nil)) (fg_tup rfl (fgs_cons (fg_name (pg_name (i := 2) nd rfl (by first | exact Or.inl rfl | exact Or.inr rfl))) (fgs_cons (fg_name (pg_name (i := 3) nd rfl (by first | exact Or.inl rfl | exact Or.inr rfl))) fgs_nil))) (fss_cons (fs_setLc (own := [("name", 5), ("binding", 6), ("where", 7)]) false (i := 4) rfl nd rfl rfl (sw_true rfl rfl rfl (by decide +kernel)) (fi_seq (pf_ix ix_ok (pf_var (pv 3)) pf_int)) (blkOk_by (N := ["pieces", "found", "number", "piece", "lax", "name", "binding", "where"]) (sc := (defScope st_askers)) (own := [("name", 5), ("binding", 6), ("where", 7)]) (by decide +kernel)) (by decide) (fun _ _ _ _ _ => (fg_tup rfl (fgs_cons (fg_name (pg_name (i := 5) nd rfl (by first | exact Or.inl rfl | exact Or.inr rfl))) (fgs_cons (fg_name (pg_name (i := 6) nd rfl (by first | exact Or.inl rfl | exact Or.inr rfl))) (fgs_cons (fg_name (pg_name (i := 7) nd rfl (by first | exact Or.inl rfl | exact Or.inr rfl))) fgs_nil))))) (fun _ _ _ _ _ => (fts_one (ft_cmp (eq_ok hr.units) (pf_var (pv 6)) pf_str))) (fun _ _ _ _ _ => (pf_var (pv 5))))
      (fss_one (fs_for PassesOwn.never rfl (fi_seq (pf_call false (ok_asked T) (hr.mono (by decide)) (by rfl) T.g_asked T.F_asked.kp T.b_asked .nil (fun _ _ => rfl) (al_cons al_nil) (fa_cons (pf_var (pv 3)) fa_nil))) (fg_name (pg_name (i := 5) nd rfl (by first | exact Or.inl rfl | exact Or.inr rfl))) (fss_one (fs_if (ft_cmp (notinn_ok (hu65 hr)) (pf_var (pv 5)) (pf_var (pv 4))) (fss_one (fs_expr (pf_dsetd (pf_var (pv 1)) (pf_var (pv 5)) (pf_var (pv 2))))) fss_nil))))))
      (fss_one (fs_ret (pf_var (pv 1))))))
/-! defined -/
theorem sc_defined : FnScope ["piece", "name", "binding", "where"] ["piece"] (defScope st_defined) := ⟨rfl, rfl, rfl, by decide +kernel, rfl, by decide +kernel, by decide +kernel⟩
noncomputable def m_defined (a : Ad) : G := (sRet (eLc true (iSeq (eBin dIx (eVar 0) (eC (.d (.int 2))))) (tTupG 3 (tsCons (tName 1) (tsCons (tName 2) (tsCons (tName 3) tsNil)))) (bVal (eBin (dIn false) (eVar 2) (eC (.d (.rtup ((["strong", "weak", "common"] : List Str).map D.str)))))) (eVar 1) [1, 2, 3]))
noncomputable def f_defined (a : Ad) : OpN := runG 4 (m_defined a)
theorem ok_defined (T : TX K mg a) : FnOk P w K mg base CX0 1 a.a_defined a.d_defined ["piece"] (spF K 1 (f_defined a)) := by
  refine fn_okF (N := ["piece", "name", "binding", "where"]) T.F_defined sc_defined fun cdv A outer s H E hr => ?_
  have nd := sc_defined.nd
  exact (fss_one (fs_ret (pf_lc (own := [("name", 1), ("binding", 2), ("where", 3)]) true rfl nd (fi_seq (pf_ix ix_ok (pf_var (pv 0)) pf_int)) (blkOk_by (N := ["piece", "name", "binding", "where"]) (sc := (defScope st_defined)) (own := [("name", 1), ("binding", 2), ("where", 3)]) (by decide +kernel)) (by decide) (fun _ _ _ _ _ => (fg_tup rfl (fgs_cons (fg_name (pg_name (i := 1) nd rfl (by first | exact Or.inl rfl | exact Or.inr rfl))) (fgs_cons (fg_name (pg_name (i := 2) nd rfl (by first | exact Or.inl rfl | exact Or.inr rfl))) (fgs_cons (fg_name (pg_name (i := 3) nd rfl (by first | exact Or.inl rfl | exact Or.inr rfl))) fgs_nil))))) (fun _ _ _ _ _ => (fts_one (ft_cmp (inn_ok (hu65 hr)) (pf_var (pv 2)) (pf_globT (ss := ["strong", "weak", "common"]) (by rfl) T.t_DEFINING)))) (fun _ _ _ _ _ => (pf_var (pv 1))))))
/-! open_names -/
theorem sc_open_names : FnScope ["pieces", "had", "wanting", "piece", "name"] ["pieces"] (defScope st_open_names) := ⟨rfl, rfl, rfl, by decide +kernel, rfl, by decide +kernel, by decide +kernel⟩
noncomputable def m_open_names (a : Ad) : G := (sSeq (sAsg (eDc2 false (iSeq (eVar 0)) (tName 3) bYes (iSeq (eCall (withD [] (callC false (f_defined a))) (aCons (eVar 3) aNil))) (tName 4) bYes (eVar 4) (eC (.d (.bl true))) [3, 4] [4]) (tName 1))
  (sSeq (sAsg (eCall (withD [] (callC false (f_askers a))) (aCons (eVar 0) aNil)) (tName 2))
  (sRet (eDc true (iKey 2) (tName 4) (bVal (eBin (dIn true) (eVar 4) (eVar 1))) (eVar 4) (eBin dDix (eVar 2) (eVar 4)) [4]))))
noncomputable def f_open_names (a : Ad) : OpN := runG 5 (m_open_names a)
theorem ok_open_names (T : TX K mg a) : FnOk P w K mg base CX0 4 a.a_open_names a.d_open_names ["pieces"] (spF K 1 (f_open_names a)) := by
  refine fn_okF (N := ["pieces", "had", "wanting", "piece", "name"]) T.F_open_names sc_open_names fun cdv A outer s H E hr => ?_
  have nd := sc_open_names.nd
  exact (fss_cons (fs_set (i := 1) nd rfl (by first | exact Or.inl rfl | exact Or.inr rfl) (pf_dc2 (own := [("piece", 3), ("name", 4)]) (vs1 := [4]) false rfl nd (fi_seq (pf_var (pv 0))) (blkOk_by (N := ["pieces", "had", "wanting", "piece", "name"]) (sc := (defScope st_open_names)) (own := [("piece", 3), ("name", 4)]) (by decide +kernel)) (by decide) (by decide) (by decide) (fun _ _ _ _ _ => (fg_name (pg_name (i := 3) nd rfl (by first | exact Or.inl rfl | exact Or.inr rfl)))) (fun _ _ _ _ _ => fts_nil) (fun _ _ _ _ _ => (fi_seq (pf_call false (ok_defined T) (hr.mono (by decide)) (by rfl) T.g_defined T.F_defined.kp T.b_defined .nil (fun _ _ => rfl) (al_cons al_nil) (fa_cons (pf_var (pv 3)) fa_nil)))) (fun _ _ _ _ _ => (fg_name (pg_name (i := 4) nd rfl (by first | exact Or.inl rfl | exact Or.inr rfl)))) (fun _ _ _ _ _ => fts_nil) (fun _ _ _ _ _ => (pf_var (pv 4))) (fun _ _ _ _ _ => pf_bl)))
      (fss_cons (fs_set (i := 2) nd rfl (by first | exact Or.inl rfl | exact Or.inr rfl) (pf_call false (ok_askers T) (hr.mono (by decide)) (by rfl) T.g_askers T.F_askers.kp T.b_askers .nil (fun _ _ => rfl) (al_cons al_nil) (fa_cons (pf_var (pv 0)) fa_nil)))
      (fss_one (fs_ret (pf_dcK (own := [("name", 4)]) true rfl nd (pv 2) (blkOk_by (N := ["pieces", "had", "wanting", "piece", "name"]) (sc := (defScope st_open_names)) (own := [("name", 4)]) (by decide +kernel)) (by decide) (fun _ _ _ _ _ => (fg_name (pg_name (i := 4) nd rfl (by first | exact Or.inl rfl | exact Or.inr rfl)))) (fun _ _ _ _ _ => (fts_one (ft_cmp (notinn_ok (hu65 hr)) (pf_var (pv 4)) (pf_var (pv 1))))) (fun _ _ _ _ _ => (pf_var (pv 4))) (fun _ _ _ _ _ => (pf_dix (hu1 hr) (pf_var (pv 2)) (pf_var (pv 4)))))))))
/-! next_reason -/
theorem sc_next_reason : FnScope ["pieces", "archives", "spots", "done", "wanting", "archive", "member", "names", "name"] ["pieces", "archives", "spots", "done"] (defScope st_next_reason) := ⟨rfl, rfl, rfl, by decide +kernel, rfl, by decide +kernel, by decide +kernel⟩
noncomputable def m_next_reason (a : Ad) : G := (sSeq (sAsg (eCall (withD [] (callC false (f_open_names a))) (aCons (eVar 0) aNil)) (tName 4))
  (sSeq (sFor (iSeq (eVar 2)) (tTupG 2 (tsCons (tName 5) (tsCons (tName 6) tsNil))) (sSeq (sAsg (eLc false (iSeq (eCall (withD [] (callC false (f_defined a))) (aCons (eBin dIx (eBin dIx (eVar 1) (eVar 5)) (eVar 6)) aNil))) (tName 8) (bVal (eBin (dIn false) (eVar 8) (eVar 4))) (eVar 8) [8]) (tName 7))
  (sIf (bAnd (bVal (eBin (eqvD true) (eVar 7) (eCall (oLst false) aNil))) (bVal (eBin (dIn true) (eCall oTup (aCons (eVar 5) (aCons (eVar 6) aNil))) (eVar 3)))) (sRet (eCall oTup (aCons (eVar 5) (aCons (eVar 6) (aCons (eCall oMinL (aCons (eVar 7) aNil)) (aCons (eBin dDix (eVar 4) (eCall oMinL (aCons (eVar 7) aNil))) aNil)))))) sNil)))
  (sRet (eC (.d .non)))))
noncomputable def f_next_reason (a : Ad) : OpN := runG 9 (m_next_reason a)
theorem ok_next_reason (T : TX K mg a) : FnOk P w K mg base CX0 5 a.a_next_reason a.d_next_reason ["pieces", "archives", "spots", "done"] (spF K 4 (f_next_reason a)) := by
  refine fn_okF (N := ["pieces", "archives", "spots", "done", "wanting", "archive", "member", "names", "name"]) T.F_next_reason sc_next_reason fun cdv A outer s H E hr => ?_
  have nd := sc_next_reason.nd
  exact (fss_cons (fs_set (i := 4) nd rfl (by first | exact Or.inl rfl | exact Or.inr rfl) (pf_call false (ok_open_names T) (hr.mono (by decide)) (by rfl) T.g_open_names T.F_open_names.kp T.b_open_names .nil (fun _ _ => rfl) (al_cons al_nil) (fa_cons (pf_var (pv 0)) fa_nil)))
      (fss_cons (fs_for PassesOwn.never rfl (fi_seq (pf_var (pv 2))) (fg_tup rfl (fgs_cons (fg_name (pg_name (i := 5) nd rfl (by first | exact Or.inl rfl | exact Or.inr rfl))) (fgs_cons (fg_name (pg_name (i := 6) nd rfl (by first | exact Or.inl rfl | exact Or.inr rfl))) fgs_nil))) (fss_cons (fs_setLc (own := [("name", 8)]) false (i := 7) rfl nd rfl rfl (sw_true rfl rfl rfl (by decide +kernel)) (fi_seq (pf_call false (ok_defined T) (hr.mono (by decide)) (by rfl) T.g_defined T.F_defined.kp T.b_defined .nil (fun _ _ => rfl) (al_cons al_nil) (fa_cons (pf_ix ix_ok (pf_ix ix_ok (pf_var (pv 1)) (pf_var (pv 5))) (pf_var (pv 6))) fa_nil))) (blkOk_by (N := ["pieces", "archives", "spots", "done", "wanting", "archive", "member", "names", "name"]) (sc := (defScope st_next_reason)) (own := [("name", 8)]) (by decide +kernel)) (by decide) (fun _ _ _ _ _ => (fg_name (pg_name (i := 8) nd rfl (by first | exact Or.inl rfl | exact Or.inr rfl)))) (fun _ _ _ _ _ => (fts_one (ft_cmp (inn_ok (hu65 hr)) (pf_var (pv 8)) (pf_var (pv 4))))) (fun _ _ _ _ _ => (pf_var (pv 8))))
      (fss_one (fs_if (PW.pt (fw_and (ft_cmp (ne_ok hr.units) (pf_var (pv 7)) (pf_lst false fa_nil)) (fw_and1 (ft_cmp (notinn_ok (hu65 hr)) (pf_tup (fa_cons (pf_var (pv 5)) (fa_cons (pf_var (pv 6)) fa_nil))) (pf_var (pv 3)))))) (fss_one (fs_ret (pf_tup (fa_cons (pf_var (pv 5)) (fa_cons (pf_var (pv 6)) (fa_cons (pf_callB (minL_ok rfl (hu1 hr)) (by rfl) T.z_min (by decide +kernel) (fa_cons (pf_var (pv 7)) fa_nil)) (fa_cons (pf_dix (hu1 hr) (pf_var (pv 4)) (pf_callB (minL_ok rfl (hu1 hr)) (by rfl) T.z_min (by decide +kernel) (fa_cons (pf_var (pv 7)) fa_nil))) fa_nil))))))) fss_nil))))
      (fss_one (fs_ret pf_non))))
/-! drawn -/
theorem sc_drawn : FnScope ["pieces", "archives", "group", "rows", "found", "reasons", "done", "spots", "reason", "member", "at", "archive", "row", "spot", "rest"] ["pieces", "archives", "group"] (defScope st_drawn) := ⟨rfl, rfl, rfl, by decide +kernel, rfl, by decide +kernel, by decide +kernel⟩
noncomputable def m_drawn (a : Ad) : G := (sSeq (sAsg (eLc false (iEnumF (eVar 1)) (tTupG 2 (tsCons (tName 10) (tsCons (tName 11) tsNil))) bYes (eLc false (iRng (aCons (eCall oLen (aCons (eVar 11) aNil)) aNil)) (tName 9) bYes (eCall oTup (aCons (eVar 10) (aCons (eVar 9) aNil))) [9]) [10, 11]) (tName 3))
  (sSeq (sIf (bVal (eVar 2)) (sAsg (eCall (oLst false) (aCons (eLc2 false (iSeq (eVar 3)) (tName 12) bYes (iSeq (eVar 12)) (tName 13) bYes (eVar 13) [12, 13] [13]) aNil)) (tName 3)) sNil)
  (sSeq (sAsg (eCall (oList true) (aCons (eVar 0) aNil)) (tName 4))
  (sSeq (sAsg (eCall (oLst true) aNil) (tName 5))
  (sSeq (sAsg (eCall oNewT aNil) (tName 6))
  (sSeq (sFor (iSeq (eVar 3)) (tName 7) (sSeq (sAsg (eCall (withD [] (callC false (f_next_reason a))) (aCons (eVar 4) (aCons (eVar 1) (aCons (eVar 7) (aCons (eVar 6) aNil))))) (tName 8))
  (sWhile (bVal (eBin (isN true) (eVar 8) (eC (.d .non)))) (sSeq (sAsg (eVar 8) (tStarG 2 (tsCons (tName 11) (tsCons (tName 9) (tsCons (tName 14) tsNil)))))
  (sSeq (sExpr (eMethT isLst mAppend (eVar 4) (aCons (eBin dIx (eBin dIx (eVar 1) (eVar 11)) (eVar 9)) aNil)))
  (sSeq (sPutD (eC (.d (.bl true))) (eVar 6) (eCall oTup (aCons (eVar 11) (aCons (eVar 9) aNil))))
  (sSeq (sExpr (eMethT isLst mAppend (eVar 5) (aCons (eVar 8) aNil)))
  (sAsg (eCall (withD [] (callC false (f_next_reason a))) (aCons (eVar 4) (aCons (eVar 1) (aCons (eVar 7) (aCons (eVar 6) aNil))))) (tName 8)))))))))
  (sRet (eCall oTup (aCons (eVar 4) (aCons (eVar 5) aNil))))))))))
noncomputable def f_drawn (a : Ad) : OpN := runG 15 (m_drawn a)
theorem ok_drawn (T : TX K mg a) : FnOk P w K mg base CX0 6 a.a_drawn a.d_drawn ["pieces", "archives", "group"] (spF K 3 (f_drawn a)) := by
  refine fn_okF (N := ["pieces", "archives", "group", "rows", "found", "reasons", "done", "spots", "reason", "member", "at", "archive", "row", "spot", "rest"]) T.F_drawn sc_drawn fun cdv A outer s H E hr => ?_
  have nd := sc_drawn.nd
  exact (fss_cons (fs_setLc (own := [("at", 10), ("archive", 11)]) false (i := 3) rfl nd rfl rfl (sw_true rfl rfl rfl (by decide +kernel)) (fi_enum (by rfl) T.z_enumerate (fa_cons (pf_var (pv 1)) fa_nil)) (blkOk_by (N := ["pieces", "archives", "group", "rows", "found", "reasons", "done", "spots", "reason", "member", "at", "archive", "row", "spot", "rest"]) (sc := (defScope st_drawn)) (own := [("at", 10), ("archive", 11)]) (by decide +kernel)) (by decide) (fun _ _ _ _ _ => (fg_tup rfl (fgs_cons (fg_name (pg_name (i := 10) nd rfl (by first | exact Or.inl rfl | exact Or.inr rfl))) (fgs_cons (fg_name (pg_name (i := 11) nd rfl (by first | exact Or.inl rfl | exact Or.inr rfl))) fgs_nil)))) (fun _ _ _ _ _ => fts_nil) (fun _ _ _ _ _ => (pf_lc (own := [("member", 9)]) false rfl nd (fi_rng1 (by rfl) T.z_range (fa_cons (pf_callB len_ok (by rfl) T.z_len (by decide +kernel) (fa_cons (pf_var (pv 11)) fa_nil)) fa_nil)) (blkOk_by (N := ["pieces", "archives", "group", "rows", "found", "reasons", "done", "spots", "reason", "member", "at", "archive", "row", "spot", "rest"]) (sc := (relS _ (defScope st_drawn))) (own := [("member", 9)]) (by decide +kernel)) (by decide) (fun _ _ _ _ _ => (fg_name (pg_name (i := 9) nd rfl (by first | exact Or.inl rfl | exact Or.inr rfl)))) (fun _ _ _ _ _ => fts_nil) (fun _ _ _ _ _ => (pf_tup (fa_cons (pf_var (pv 10)) (fa_cons (pf_var (pv 9)) fa_nil)))))))
      (fss_cons (fs_if (ft_val (pf_var (pv 2))) (fss_one (fs_set (i := 3) nd rfl (by first | exact Or.inl rfl | exact Or.inr rfl) (pf_lst false (fa_cons (pf_lc2 (own := [("row", 12), ("spot", 13)]) (vs1 := [13]) false rfl nd (fi_seq (pf_var (pv 3))) (blkOk_by (N := ["pieces", "archives", "group", "rows", "found", "reasons", "done", "spots", "reason", "member", "at", "archive", "row", "spot", "rest"]) (sc := (defScope st_drawn)) (own := [("row", 12), ("spot", 13)]) (by decide +kernel)) (by decide) (by decide) (by decide) (fun _ _ _ _ _ => (fg_name (pg_name (i := 12) nd rfl (by first | exact Or.inl rfl | exact Or.inr rfl)))) (fun _ _ _ _ _ => fts_nil) (fun _ _ _ _ _ => (fi_seq (pf_var (pv 12)))) (fun _ _ _ _ _ => (fg_name (pg_name (i := 13) nd rfl (by first | exact Or.inl rfl | exact Or.inr rfl)))) (fun _ _ _ _ _ => fts_nil) (fun _ _ _ _ _ => (pf_var (pv 13)))) fa_nil)))) fss_nil)
      (fss_cons (fs_set (i := 4) nd rfl (by first | exact Or.inl rfl | exact Or.inr rfl) (pf_callTy (list_ok true) (by rfl) T.z_list (by decide +kernel) (fa_cons (pf_var (pv 0)) fa_nil)))
      (fss_cons (fs_set (i := 5) nd rfl (by first | exact Or.inl rfl | exact Or.inr rfl) (pf_lst true fa_nil))
      (fss_cons (fs_set (i := 6) nd rfl (by first | exact Or.inl rfl | exact Or.inr rfl) pf_newT)
      (fss_cons (fs_for PassesOwn.never rfl (fi_seq (pf_var (pv 3))) (fg_name (pg_name (i := 7) nd rfl (by first | exact Or.inl rfl | exact Or.inr rfl))) (fss_cons (fs_set (i := 8) nd rfl (by first | exact Or.inl rfl | exact Or.inr rfl) (pf_call false (ok_next_reason T) (hr.mono (by decide)) (by rfl) T.g_next_reason T.F_next_reason.kp T.b_next_reason .nil (fun _ _ => rfl) (al_cons (al_cons (al_cons (al_cons al_nil)))) (fa_cons (pf_var (pv 4)) (fa_cons (pf_var (pv 1)) (fa_cons (pf_var (pv 7)) (fa_cons (pf_var (pv 6)) fa_nil))))))
      (fss_one (fs_while PassesOwn.never (ft_cmp isnot_ok (pf_var (pv 8)) pf_non) (fss_cons (fs_asg (pf_var (pv 8)) (fg_starU rfl (fgs_cons (fg_name (pg_name (i := 11) nd rfl (by first | exact Or.inl rfl | exact Or.inr rfl))) (fgs_cons (fg_name (pg_name (i := 9) nd rfl (by first | exact Or.inl rfl | exact Or.inr rfl))) (fgs_cons (fg_name (pg_name (i := 14) nd rfl (by first | exact Or.inl rfl | exact Or.inr rfl))) fgs_nil)))))
      (fss_cons (fs_expr (pf_bm PySem.F.plainAttrs_list PySem.F.slot_list_append PySem.F.type_list_append append_ok ty_lst (pf_var (pv 4)) (fa_cons (pf_ix ix_ok (pf_ix ix_ok (pf_var (pv 1)) (pf_var (pv 11))) (pf_var (pv 9))) fa_nil)))
      (fss_cons (fs_dput (hu1 hr) (pf_var (pv 6)) (pf_tup (fa_cons (pf_var (pv 11)) (fa_cons (pf_var (pv 9)) fa_nil))) pf_bl)
      (fss_cons (fs_expr (pf_bm PySem.F.plainAttrs_list PySem.F.slot_list_append PySem.F.type_list_append append_ok ty_lst (pf_var (pv 5)) (fa_cons (pf_var (pv 8)) fa_nil)))
      (fss_one (fs_set (i := 8) nd rfl (by first | exact Or.inl rfl | exact Or.inr rfl) (pf_call false (ok_next_reason T) (hr.mono (by decide)) (by rfl) T.g_next_reason T.F_next_reason.kp T.b_next_reason .nil (fun _ _ => rfl) (al_cons (al_cons (al_cons (al_cons al_nil)))) (fa_cons (pf_var (pv 4)) (fa_cons (pf_var (pv 1)) (fa_cons (pf_var (pv 7)) (fa_cons (pf_var (pv 6)) fa_nil)))))))))))))))
      (fss_one (fs_ret (pf_tup (fa_cons (pf_var (pv 4)) (fa_cons (pf_var (pv 5)) fa_nil)))))))))))
/-! law -/
theorem sc_law : FnScope ["script", "start", "tape", "pool", "pieces", "archives", "due", "before", "turn", "i", "told"] ["script"] (defScope st_law) := ⟨rfl, rfl, rfl, by decide +kernel, rfl, by decide +kernel, by decide +kernel⟩
noncomputable def m_law (a : Ad) : G := (sSeq (sFor (iRng (aCons (eC (.d (.int 0))) (aCons (eCall oMax (aCons (eC (.d (.int 1))) (aCons (eCall oMin (aCons (eC (.d (.int 3))) (aCons (eCall oLen (aCons (eVar 0) aNil)) aNil))) aNil))) aNil))) (tName 1) (sSeq (sAsg (eCall (withD [] (callC true (f_law_atape a))) (aCons (eVar 0) (aCons (eVar 1) aNil))) (tName 2))
  (sSeq (sAsg (eCall (withD [] (callC false (f_law_apool a))) (aCons (eVar 2) aNil)) (tName 3))
  (sSeq (sAsg (eLc false (iRng (aCons (eCall (withD [] (callC false (f_law_adigit a))) (aCons (eVar 2) (aCons (eC (.d (.int 3))) aNil))) aNil)) (tName 9) bYes (eCall (withD [] (callC false (f_law_amember a))) (aCons (eVar 2) (aCons (eVar 3) (aCons (eBin (dAdd false) (eC (.d (.str "p"))) (eCall oStrI (aCons (eVar 9) aNil))) aNil)))) [9]) (tName 4))
  (sSeq (sAsg (eCall (withD [] (callC false (f_law_aarchives a))) (aCons (eVar 2) (aCons (eVar 3) aNil))) (tName 5))
  (sSeq (sAsg (eCall (withD [] (callC false (f_law_adraws a))) (aCons (eVar 4) (aCons (eVar 5) (aCons (eC (.d (.bl false))) aNil)))) (tName 6))
  (sSeq (sAsg (eCall oReprV (aCons (eCall (oLst false) (aCons (eVar 4) (aCons (eVar 5) aNil))) aNil)) (tName 7))
  (sSeq (sFor (iRng (aCons (eC (.d (.int 2))) aNil)) (tName 8) (sSeq (sIf (bVal (eBin (eqvD false) (eVar 8) (eC (.d (.int 0))))) (sAsg (eCall (withD [.d (.bl false)] (callC true (f_drawn a))) (aCons (eVar 4) (aCons (eVar 5) aNil))) (tName 10)) (sAsg (eCallK (callC true (f_drawn a)) [0] (aCons (eVar 4) (aCons (eVar 5) aNil)) (aCons (eC (.d (.bl false))) aNil)) (tName 10)))
  (sSeq (sIf (bOr (bNot (bVal (eCall oIsiX (aCons (eVar 10) (aCons (eC (.d (.op (.ty "tuple")))) aNil))))) (bVal (eBin (eqS true) (eCall oReprV (aCons (eVar 10) aNil)) (eCall oReprV (aCons (eVar 6) aNil))))) (sRet (eC (.d (.bl false)))) sNil)
  (sSeq (sExpr (eMethT isLst mAppend (eBin dIx (eVar 10) (eC (.d (.int 0)))) (aCons (eC (.d .non)) aNil)))
  (sSeq (sIf (bVal (eBin (eqS true) (eCall oReprV (aCons (eBin dIx (eVar 10) (eC (.d (.int 1)))) aNil)) (eCall oReprV (aCons (eBin dIx (eVar 6) (eC (.d (.int 1)))) aNil)))) (sRet (eC (.d (.bl false)))) sNil)
  (sExpr (eMethT isLst mClear (eBin dIx (eVar 10) (eC (.d (.int 1)))) aNil)))))))
  (sIf (bVal (eBin (eqS true) (eCall oReprV (aCons (eCall (oLst false) (aCons (eVar 4) (aCons (eVar 5) aNil))) aNil)) (eVar 7))) (sRet (eC (.d (.bl false)))) sNil)))))))))
  (sRet (eC (.d (.bl true)))))
noncomputable def f_law (a : Ad) : OpN := runG 11 (m_law a)
theorem ok_law (T : TX K mg a) : FnG P w K mg base a.a_law a.d_law ["script"] (spF K 1 (f_law a)) := by
  refine fnG_of (N := ["script", "start", "tape", "pool", "pieces", "archives", "due", "before", "turn", "i", "told"]) (k := 6) T.F_law sc_law ⟨rfl, by decide, by decide⟩ fun cdv s H E hr => ?_
  have nd := sc_law.nd
  exact (fss_cons (fs_for PassesOwn.never rfl (fi_rng2 (by rfl) T.z_range (fa_cons pf_int (fa_cons (pf_callB (max_ok rfl) (by rfl) T.z_max (by decide +kernel) (fa_cons pf_int (fa_cons (pf_callB (min_ok rfl) (by rfl) T.z_min (by decide +kernel) (fa_cons pf_int (fa_cons (pf_callB len_ok (by rfl) T.z_len (by decide +kernel) (fa_cons (pf_var (pv 0)) fa_nil)) fa_nil))) fa_nil))) fa_nil))) (fg_name (pg_name (i := 1) nd rfl (by first | exact Or.inl rfl | exact Or.inr rfl))) (fss_cons (fs_set (i := 2) nd rfl (by first | exact Or.inl rfl | exact Or.inr rfl) (pf_call true (ok_law_atape T) (hr.mono (by decide)) (by rfl) T.g_law_atape T.F_law_atape.kp T.b_law_atape .nil (fun _ _ => rfl) (al_cons (al_cons al_nil)) (fa_cons (pf_var (pv 0)) (fa_cons (pf_var (pv 1)) fa_nil))))
      (fss_cons (fs_set (i := 3) nd rfl (by first | exact Or.inl rfl | exact Or.inr rfl) (pf_call false (ok_law_apool T) (hr.mono (by decide)) (by rfl) T.g_law_apool T.F_law_apool.kp T.b_law_apool .nil (fun _ _ => rfl) (al_cons al_nil) (fa_cons (pf_var (pv 2)) fa_nil)))
      (fss_cons (fs_setLc (own := [("i", 9)]) false (i := 4) rfl nd rfl rfl (sw_true rfl rfl rfl (by decide +kernel)) (fi_rng1 (by rfl) T.z_range (fa_cons (pf_call false (ok_law_adigit T) (hr.mono (by decide)) (by rfl) T.g_law_adigit T.F_law_adigit.kp T.b_law_adigit .nil (fun _ _ => rfl) (al_cons (al_cons al_nil)) (fa_cons (pf_var (pv 2)) (fa_cons pf_int fa_nil))) fa_nil)) (blkOk_by (N := ["script", "start", "tape", "pool", "pieces", "archives", "due", "before", "turn", "i", "told"]) (sc := (defScope st_law)) (own := [("i", 9)]) (by decide +kernel)) (by decide) (fun _ _ _ _ _ => (fg_name (pg_name (i := 9) nd rfl (by first | exact Or.inl rfl | exact Or.inr rfl)))) (fun _ _ _ _ _ => fts_nil) (fun _ _ _ _ _ => (pf_call false (ok_law_amember T) (hr.mono (by decide)) (by rfl) T.g_law_amember T.F_law_amember.kp T.b_law_amember .nil (fun _ _ => rfl) (al_cons (al_cons (al_cons al_nil))) (fa_cons (pf_var (pv 2)) (fa_cons (pf_var (pv 3)) (fa_cons (pf_op (add_ok false) pf_str (pf_callTy strI_ok (by rfl) T.z_str (by decide +kernel) (fa_cons (pf_var (pv 9)) fa_nil))) fa_nil))))))
      (fss_cons (fs_set (i := 5) nd rfl (by first | exact Or.inl rfl | exact Or.inr rfl) (pf_call false (ok_law_aarchives T) (hr.mono (by decide)) (by rfl) T.g_law_aarchives T.F_law_aarchives.kp T.b_law_aarchives .nil (fun _ _ => rfl) (al_cons (al_cons al_nil)) (fa_cons (pf_var (pv 2)) (fa_cons (pf_var (pv 3)) fa_nil))))
      (fss_cons (fs_set (i := 6) nd rfl (by first | exact Or.inl rfl | exact Or.inr rfl) (pf_call false (ok_law_adraws T) (hr.mono (by decide)) (by rfl) T.g_law_adraws T.F_law_adraws.kp T.b_law_adraws .nil (fun _ _ => rfl) (al_cons (al_cons (al_cons al_nil))) (fa_cons (pf_var (pv 4)) (fa_cons (pf_var (pv 5)) (fa_cons pf_bl fa_nil)))))
      (fss_cons (fs_set (i := 7) nd rfl (by first | exact Or.inl rfl | exact Or.inr rfl) (pf_callB (reprV_ok rfl hr.units) (by rfl) T.z_repr (by decide +kernel) (fa_cons (pf_lst false (fa_cons (pf_var (pv 4)) (fa_cons (pf_var (pv 5)) fa_nil))) fa_nil)))
      (fss_cons (fs_for PassesOwn.never rfl (fi_rng1 (by rfl) T.z_range (fa_cons pf_int fa_nil)) (fg_name (pg_name (i := 8) nd rfl (by first | exact Or.inl rfl | exact Or.inr rfl))) (fss_cons (fs_if (ft_cmp (eq_ok hr.units) (pf_var (pv 8)) pf_int) (fss_one (fs_set (i := 10) nd rfl (by first | exact Or.inl rfl | exact Or.inr rfl) (pf_call (dvs := [V.bl false]) (dd := [.d (.bl false)]) true (ok_drawn T) (hr.mono (by decide)) (by rfl) T.g_drawn T.F_drawn.kp T.b_drawn (.cons rfl (.nil)) (fun _ _ => ⟨_, _, rfl, rfl, rfl⟩) (al_cons (al_cons al_nil)) (fa_cons (pf_var (pv 4)) (fa_cons (pf_var (pv 5)) fa_nil))))) (fss_one (fs_set (i := 10) nd rfl (by first | exact Or.inl rfl | exact Or.inr rfl) (pf_callK true [0] (ok_drawn T) (hr.mono (by decide)) (by rfl) T.g_drawn T.F_drawn.kp (kb_of (ks := ["group"]) (n := 2) T.F_drawn [0] (fun _ _ _ _ _ _ us ws h1 h2 => match us, ws, h1, h2 with | [_, _], [_], _, _ => rfl)) (al_cons (al_cons al_nil)) (fa_cons (pf_var (pv 4)) (fa_cons (pf_var (pv 5)) fa_nil)) (fk_cons pf_bl fk_nil) (al_cons al_nil) (fun zs h => match zs, h with | [_], _ => rfl)))))
      (fss_cons (fs_if (PW.pt (fw_or (ft_not (ft_val (pf_callB isiX_ok (by rfl) T.z_isinstance (by decide +kernel) (fa_cons (pf_var (pv 10)) (fa_cons (pf_glob (pe_bltn (v := .ty "tuple") (by rfl) T.z_tuple (by decide +kernel) rfl) (fun _ => rfl)) fa_nil))))) (fw_or1 (ft_cmp neS_ok (pf_callB (reprV_ok rfl hr.units) (by rfl) T.z_repr (by decide +kernel) (fa_cons (pf_var (pv 10)) fa_nil)) (pf_callB (reprV_ok rfl hr.units) (by rfl) T.z_repr (by decide +kernel) (fa_cons (pf_var (pv 6)) fa_nil)))))) (fss_one (fs_ret pf_bl)) fss_nil)
      (fss_cons (fs_expr (pf_bm PySem.F.plainAttrs_list PySem.F.slot_list_append PySem.F.type_list_append append_ok ty_lst (pf_ix ix_ok (pf_var (pv 10)) pf_int) (fa_cons pf_non fa_nil)))
      (fss_cons (fs_if (ft_cmp neS_ok (pf_callB (reprV_ok rfl hr.units) (by rfl) T.z_repr (by decide +kernel) (fa_cons (pf_ix ix_ok (pf_var (pv 10)) pf_int) fa_nil)) (pf_callB (reprV_ok rfl hr.units) (by rfl) T.z_repr (by decide +kernel) (fa_cons (pf_ix ix_ok (pf_var (pv 6)) pf_int) fa_nil))) (fss_one (fs_ret pf_bl)) fss_nil)
      (fss_one (fs_expr (pf_bm0 PySem.F.plainAttrs_list PySem.F.slot_list_clear PySem.F.type_list_clear clear_ok ty_lst (pf_ix ix_ok (pf_var (pv 10)) pf_int)))))))))
      (fss_one (fs_if (ft_cmp neS_ok (pf_callB (reprV_ok rfl hr.units) (by rfl) T.z_repr (by decide +kernel) (fa_cons (pf_lst false (fa_cons (pf_var (pv 4)) (fa_cons (pf_var (pv 5)) fa_nil))) fa_nil)) (pf_var (pv 7))) (fss_one (fs_ret pf_bl)) fss_nil))))))))))
      (fss_one (fs_ret pf_bl)))
end
end Lw
namespace Lw
open PySem PySem.Spec L2 FL
/-! the statements of law_atape -/
noncomputable def b_law_atape_1 (a : Ad) : G := sAsg (eCall (withD [] (callC false (f_law_acell a))) (aCons (eVar 0) (aCons (eVar 1) aNil))) (tName 2)
noncomputable def b_law_atape_2 (a : Ad) : G := sIf (bVal (eBin (eqvD false) (eBin dMod (eVar 2) (eC (.d (.int 2)))) (eC (.d (.int 0))))) (sRet (eCall (oLst true) (aCons (eBin dFdv (eVar 2) (eC (.d (.int 2)))) aNil))) sNil
noncomputable def b_law_atape_3 (a : Ad) : G := sAsg (eC (.d (.int 2305843009213693951))) (tName 3)
noncomputable def b_law_atape_4 (a : Ad) : G := sAsg (eC (.d (.int 0))) (tName 4)
noncomputable def b_law_atape_5 (a : Ad) : G := sAsg (eBin dMod (eBin (dAdd false) (eBin (dAdd false) (eBin dPow (eBin (dAdd false) (eBin (dAdd false) (eBin dMod (eVar 2) (eVar 3)) (eBin dMul (eC (.d (.int 6007))) (eVar 1))) (eC (.d (.int 3)))) (eC (.d (.int 3)))) (eBin dMul (eC (.d (.int 77003))) (eVar 1))) (eC (.d (.int 19)))) (eVar 3)) (tName 5)
noncomputable def b_law_atape_6_f_1 (a : Ad) : G := sAsg (eBin (dAdd false) (eBin dMul (eVar 4) (eVar 3)) (eVar 5)) (tName 4)
noncomputable def b_law_atape_6_f_2 (a : Ad) : G := sAsg (eBin dMod (eBin (dAdd false) (eBin (dAdd false) (eBin dMul (eBin dMul (eVar 5) (eVar 5)) (eBin (dAdd false) (eBin dMul (eC (.d (.int 2))) (eVar 1)) (eC (.d (.int 5))))) (eBin dMul (eC (.d (.int 51749))) (eVar 1))) (eVar 6)) (eVar 3)) (tName 5)
noncomputable def b_law_atape_6_f (a : Ad) : G := sSeq (b_law_atape_6_f_1 a) (b_law_atape_6_f_2 a)
noncomputable def b_law_atape_6 (a : Ad) : G := sFor (iRng (aCons (eC (.d (.int 18))) aNil)) (tName 6) (b_law_atape_6_f a)
noncomputable def b_law_atape_7 (a : Ad) : G := sRet (eCall (oLst true) (aCons (eVar 4) aNil))
theorem split_law_atape (a : Ad) : m_law_atape a = sSeq (b_law_atape_1 a) (sSeq (b_law_atape_2 a) (sSeq (b_law_atape_3 a) (sSeq (b_law_atape_4 a) (sSeq (b_law_atape_5 a) (sSeq (b_law_atape_6 a) (b_law_atape_7 a)))))) := rfl
/-! the statements of law_apool -/
noncomputable def b_law_apool_1 (a : Ad) : G := sAsg (eC (.d (.str "abcdefghijklmnopqrstuvwxyz"))) (tName 1)
noncomputable def b_law_apool_2 (a : Ad) : G := sAsg (eCall (withD [] (callC false (f_law_adigit a))) (aCons (eVar 0) (aCons (eC (.d (.int 26))) aNil))) (tName 2)
noncomputable def b_law_apool_3 (a : Ad) : G := sAsg (eCall (withD [] (callC false (f_law_adigit a))) (aCons (eVar 0) (aCons (eC (.d (.int 4))) aNil))) (tName 3)
noncomputable def b_law_apool_4 (a : Ad) : G := sIf (bVal (eBin (eqvD false) (eVar 3) (eC (.d (.int 3))))) (sRet (eLc true (iSeq (eCall (oLst false) (aCons (eC (.d (.str ""))) (aCons (eC (.d (.str "a1"))) (aCons (eC (.d (.str "a"))) (aCons (eC (.d (.str "0"))) (aCons (eC (.d (.str "a10"))) (aCons (eC (.d (.str "b"))) aNil)))))))) (tName 6) bYes (eBin (dAdd false) (eBin dIx (eVar 1) (eVar 2)) (eVar 6)) [6])) sNil
noncomputable def b_law_apool_5 (a : Ad) : G := sAsg (eCall (oLst false) (aCons (eC (.d (.str ""))) (aCons (eC (.d (.str "1"))) (aCons (eC (.d (.str "x9"))) (aCons (eC (.d (.str "0000000000000zz"))) aNil))))) (tName 4)
noncomputable def b_law_apool_6 (a : Ad) : G := sRet (eLc true (iRng (aCons (eC (.d (.int 6))) aNil)) (tName 5) bYes (eBin (dAdd false) (eBin dIx (eVar 1) (eBin dMod (eBin (dAdd false) (eVar 2) (eBin dMul (eC (.d (.int 5))) (eVar 5))) (eC (.d (.int 26))))) (eBin dIx (eVar 4) (eBin dMod (eBin (dAdd false) (eVar 3) (eVar 5)) (eC (.d (.int 4)))))) [5])
theorem split_law_apool (a : Ad) : m_law_apool a = sSeq (b_law_apool_1 a) (sSeq (b_law_apool_2 a) (sSeq (b_law_apool_3 a) (sSeq (b_law_apool_4 a) (sSeq (b_law_apool_5 a) (b_law_apool_6 a))))) := rfl
/-! the statements of asked -/
noncomputable def b_asked_1 (a : Ad) : G := sAsg (eCall (withD [] (callC false (f_locals_of a))) (aCons (eVar 0) aNil)) (tName 1)
noncomputable def b_asked_2 (a : Ad) : G := sAsg (eCall oNewK aNil) (tName 2)
noncomputable def b_asked_3_f_f_1 (a : Ad) : G := sAsg (eCall (withD [] (callC false (f_named a))) (aCons (eVar 4) aNil)) (tName 5)
noncomputable def b_asked_3_f_f_2 (a : Ad) : G := sIf (bAnd (bVal (eBin (isN true) (eVar 5) (eC (.d .non)))) (bVal (eBin (dIn true) (eVar 5) (eVar 1)))) (sPutD (eC (.d (.bl true))) (eVar 2) (eVar 5)) sNil
noncomputable def b_asked_3_f_f (a : Ad) : G := sSeq (b_asked_3_f_f_1 a) (b_asked_3_f_f_2 a)
noncomputable def b_asked_3_f (a : Ad) : G := sFor (iSeq (eBin dIx (eVar 3) (eC (.d (.int 3))))) (tName 4) (b_asked_3_f_f a)
noncomputable def b_asked_3 (a : Ad) : G := sFor (iSeq (eBin dIx (eVar 0) (eC (.d (.int 1))))) (tName 3) (b_asked_3_f a)
noncomputable def b_asked_4 (a : Ad) : G := sRet (eCall (oSorted true) (aCons (eVar 2) aNil))
theorem split_asked (a : Ad) : m_asked a = sSeq (b_asked_1 a) (sSeq (b_asked_2 a) (sSeq (b_asked_3 a) (b_asked_4 a))) := rfl
/-! the statements of askers -/
noncomputable def b_askers_1 (a : Ad) : G := sAsg (eCall oNewK aNil) (tName 1)
noncomputable def b_askers_2_f_1 (a : Ad) : G := sAsg (eLc false (iSeq (eBin dIx (eVar 3) (eC (.d (.int 2))))) (tTupG 3 (tsCons (tName 5) (tsCons (tName 6) (tsCons (tName 7) tsNil)))) (bVal (eBin (eqvD false) (eVar 6) (eC (.d (.str "maybe"))))) (eVar 5) [5, 6, 7]) (tName 4)
noncomputable def b_askers_2_f_2_f (a : Ad) : G := sIf (bVal (eBin (dIn true) (eVar 5) (eVar 4))) (sExpr (eMethT isDic mSetd (eVar 1) (aCons (eVar 5) (aCons (eVar 2) aNil)))) sNil
noncomputable def b_askers_2_f_2 (a : Ad) : G := sFor (iSeq (eCall (withD [] (callC false (f_asked a))) (aCons (eVar 3) aNil))) (tName 5) (b_askers_2_f_2_f a)
noncomputable def b_askers_2_f (a : Ad) : G := sSeq (b_askers_2_f_1 a) (b_askers_2_f_2 a)
noncomputable def b_askers_2 (a : Ad) : G := sFor (iEnumF (eVar 0)) (tTupG 2 (tsCons (tName 2) (tsCons (tName 3) tsNil))) (b_askers_2_f a)
noncomputable def b_askers_3 (a : Ad) : G := sRet (eVar 1)
theorem split_askers (a : Ad) : m_askers a = sSeq (b_askers_1 a) (sSeq (b_askers_2 a) (b_askers_3 a)) := rfl
/-! the statements of open_names -/
noncomputable def b_open_names_1 (a : Ad) : G := sAsg (eDc2 false (iSeq (eVar 0)) (tName 3) bYes (iSeq (eCall (withD [] (callC false (f_defined a))) (aCons (eVar 3) aNil))) (tName 4) bYes (eVar 4) (eC (.d (.bl true))) [3, 4] [4]) (tName 1)
noncomputable def b_open_names_2 (a : Ad) : G := sAsg (eCall (withD [] (callC false (f_askers a))) (aCons (eVar 0) aNil)) (tName 2)
noncomputable def b_open_names_3 (a : Ad) : G := sRet (eDc true (iKey 2) (tName 4) (bVal (eBin (dIn true) (eVar 4) (eVar 1))) (eVar 4) (eBin dDix (eVar 2) (eVar 4)) [4])
theorem split_open_names (a : Ad) : m_open_names a = sSeq (b_open_names_1 a) (sSeq (b_open_names_2 a) (b_open_names_3 a)) := rfl
/-! the statements of next_reason -/
noncomputable def b_next_reason_1 (a : Ad) : G := sAsg (eCall (withD [] (callC false (f_open_names a))) (aCons (eVar 0) aNil)) (tName 4)
noncomputable def b_next_reason_2_f_1 (a : Ad) : G := sAsg (eLc false (iSeq (eCall (withD [] (callC false (f_defined a))) (aCons (eBin dIx (eBin dIx (eVar 1) (eVar 5)) (eVar 6)) aNil))) (tName 8) (bVal (eBin (dIn false) (eVar 8) (eVar 4))) (eVar 8) [8]) (tName 7)
noncomputable def b_next_reason_2_f_2 (a : Ad) : G := sIf (bAnd (bVal (eBin (eqvD true) (eVar 7) (eCall (oLst false) aNil))) (bVal (eBin (dIn true) (eCall oTup (aCons (eVar 5) (aCons (eVar 6) aNil))) (eVar 3)))) (sRet (eCall oTup (aCons (eVar 5) (aCons (eVar 6) (aCons (eCall oMinL (aCons (eVar 7) aNil)) (aCons (eBin dDix (eVar 4) (eCall oMinL (aCons (eVar 7) aNil))) aNil)))))) sNil
noncomputable def b_next_reason_2_f (a : Ad) : G := sSeq (b_next_reason_2_f_1 a) (b_next_reason_2_f_2 a)
noncomputable def b_next_reason_2 (a : Ad) : G := sFor (iSeq (eVar 2)) (tTupG 2 (tsCons (tName 5) (tsCons (tName 6) tsNil))) (b_next_reason_2_f a)
noncomputable def b_next_reason_3 (a : Ad) : G := sRet (eC (.d .non))
theorem split_next_reason (a : Ad) : m_next_reason a = sSeq (b_next_reason_1 a) (sSeq (b_next_reason_2 a) (b_next_reason_3 a)) := rfl
/-! the statements of drawn -/
noncomputable def b_drawn_1 (a : Ad) : G := sAsg (eLc false (iEnumF (eVar 1)) (tTupG 2 (tsCons (tName 10) (tsCons (tName 11) tsNil))) bYes (eLc false (iRng (aCons (eCall oLen (aCons (eVar 11) aNil)) aNil)) (tName 9) bYes (eCall oTup (aCons (eVar 10) (aCons (eVar 9) aNil))) [9]) [10, 11]) (tName 3)
noncomputable def b_drawn_2 (a : Ad) : G := sIf (bVal (eVar 2)) (sAsg (eCall (oLst false) (aCons (eLc2 false (iSeq (eVar 3)) (tName 12) bYes (iSeq (eVar 12)) (tName 13) bYes (eVar 13) [12, 13] [13]) aNil)) (tName 3)) sNil
noncomputable def b_drawn_3 (a : Ad) : G := sAsg (eCall (oList true) (aCons (eVar 0) aNil)) (tName 4)
noncomputable def b_drawn_4 (a : Ad) : G := sAsg (eCall (oLst true) aNil) (tName 5)
noncomputable def b_drawn_5 (a : Ad) : G := sAsg (eCall oNewT aNil) (tName 6)
noncomputable def b_drawn_6_f_1 (a : Ad) : G := sAsg (eCall (withD [] (callC false (f_next_reason a))) (aCons (eVar 4) (aCons (eVar 1) (aCons (eVar 7) (aCons (eVar 6) aNil))))) (tName 8)
noncomputable def b_drawn_6_f_2_w_1 (a : Ad) : G := sAsg (eVar 8) (tStarG 2 (tsCons (tName 11) (tsCons (tName 9) (tsCons (tName 14) tsNil))))
noncomputable def b_drawn_6_f_2_w_2 (a : Ad) : G := sExpr (eMethT isLst mAppend (eVar 4) (aCons (eBin dIx (eBin dIx (eVar 1) (eVar 11)) (eVar 9)) aNil))
noncomputable def b_drawn_6_f_2_w_3 (a : Ad) : G := sPutD (eC (.d (.bl true))) (eVar 6) (eCall oTup (aCons (eVar 11) (aCons (eVar 9) aNil)))
noncomputable def b_drawn_6_f_2_w_4 (a : Ad) : G := sExpr (eMethT isLst mAppend (eVar 5) (aCons (eVar 8) aNil))
noncomputable def b_drawn_6_f_2_w_5 (a : Ad) : G := sAsg (eCall (withD [] (callC false (f_next_reason a))) (aCons (eVar 4) (aCons (eVar 1) (aCons (eVar 7) (aCons (eVar 6) aNil))))) (tName 8)
noncomputable def b_drawn_6_f_2 (a : Ad) : G := sWhile (bVal (eBin (isN true) (eVar 8) (eC (.d .non)))) (sSeq (b_drawn_6_f_2_w_1 a) (sSeq (b_drawn_6_f_2_w_2 a) (sSeq (b_drawn_6_f_2_w_3 a) (sSeq (b_drawn_6_f_2_w_4 a) (b_drawn_6_f_2_w_5 a)))))
noncomputable def b_drawn_6_f (a : Ad) : G := sSeq (b_drawn_6_f_1 a) (b_drawn_6_f_2 a)
noncomputable def b_drawn_6 (a : Ad) : G := sFor (iSeq (eVar 3)) (tName 7) (b_drawn_6_f a)
noncomputable def b_drawn_7 (a : Ad) : G := sRet (eCall oTup (aCons (eVar 4) (aCons (eVar 5) aNil)))
theorem split_drawn (a : Ad) : m_drawn a = sSeq (b_drawn_1 a) (sSeq (b_drawn_2 a) (sSeq (b_drawn_3 a) (sSeq (b_drawn_4 a) (sSeq (b_drawn_5 a) (sSeq (b_drawn_6 a) (b_drawn_7 a)))))) := rfl
/-! the statements of law_amember -/
noncomputable def b_law_amember_1 (a : Ad) : G := sAsg (eCall (oLst true) aNil) (tName 3)
noncomputable def b_law_amember_2_f_1 (a : Ad) : G := sAsg (eBin dIx (eVar 1) (eCall (withD [] (callC false (f_law_adigit a))) (aCons (eVar 0) (aCons (eC (.d (.int 6))) aNil)))) (tName 7)
noncomputable def b_law_amember_2_f_2 (a : Ad) : G := sAsg (eCall (withD [] (callC false (f_law_adigit a))) (aCons (eVar 0) (aCons (eC (.d (.int 4))) aNil))) (tName 8)
noncomputable def b_law_amember_2_f_3 (a : Ad) : G := sExpr (eMethT isLst mAppend (eVar 3) (aCons (eBin dIx (eCall (oLst false) (aCons (eCall oTup (aCons (eC (.d (.str "place"))) (aCons (eC (.d (.int 0))) (aCons (eVar 7) (aCons (eC (.d (.int 0))) aNil))))) (aCons (eCall oTup (aCons (eC (.d (.str "call"))) (aCons (eVar 7) aNil))) (aCons (eCall oTup (aCons (eC (.d (.str "jump"))) (aCons (eVar 7) aNil))) (aCons (eCall oTup (aCons (eC (.d (.str "when"))) (aCons (eC (.d (.int 1))) (aCons (eVar 7) aNil)))) aNil))))) (eVar 8)) aNil))
noncomputable def b_law_amember_2_f (a : Ad) : G := sSeq (b_law_amember_2_f_1 a) (sSeq (b_law_amember_2_f_2 a) (b_law_amember_2_f_3 a))
noncomputable def b_law_amember_2 (a : Ad) : G := sFor (iRng (aCons (eCall (withD [] (callC false (f_law_adigit a))) (aCons (eVar 0) (aCons (eC (.d (.int 4))) aNil))) aNil)) (tName 4) (b_law_amember_2_f a)
noncomputable def b_law_amember_3 (a : Ad) : G := sAsg (eCall oTupOf (aCons (eLc false (iRng (aCons (eCall (withD [] (callC false (f_law_adigit a))) (aCons (eVar 0) (aCons (eC (.d (.int 2))) aNil))) aNil)) (tName 4) bYes (eCall oTup (aCons (eC (.d (.str "at"))) (aCons (eBin dIx (eVar 1) (eCall (withD [] (callC false (f_law_adigit a))) (aCons (eVar 0) (aCons (eC (.d (.int 6))) aNil)))) (aCons (eC (.d (.int 0))) aNil)))) [4]) aNil)) (tName 5)
noncomputable def b_law_amember_4 (a : Ad) : G := sAsg (eCall (oLst true) aNil) (tName 6)
noncomputable def b_law_amember_5_f_1 (a : Ad) : G := sAsg (eCall (withD [] (callC false (f_law_adigit a))) (aCons (eVar 0) (aCons (eC (.d (.int 11))) aNil))) (tName 9)
noncomputable def b_law_amember_5_f_2 (a : Ad) : G := sIf (bVal (eBin (dIn false) (eVar 9) (eCall oTup (aCons (eC (.d (.int 0))) (aCons (eC (.d (.int 1))) (aCons (eC (.d (.int 4))) aNil)))))) (sExpr (eMethT isLst mAppend (eVar 6) (aCons (eCall oTup (aCons (eVar 7) (aCons (eBin dIx (eCall (oLst false) (aCons (eC (.d (.str "strong"))) (aCons (eC (.d (.str "weak"))) (aCons (eC (.d (.str ""))) (aCons (eC (.d (.str ""))) (aCons (eC (.d (.str "local"))) aNil)))))) (eVar 9)) (aCons (eCall oTup (aCons (eCall (withD [] (callC false (f_law_adigit a))) (aCons (eVar 0) (aCons (eC (.d (.int 2))) aNil))) (aCons (eC (.d (.int 0))) aNil))) aNil)))) aNil))) (sIf (bVal (eBin (eqvD false) (eVar 9) (eC (.d (.int 2))))) (sExpr (eMethT isLst mAppend (eVar 6) (aCons (eCall oTup (aCons (eVar 7) (aCons (eC (.d (.str "common"))) (aCons (eBin (dAdd false) (eC (.d (.int 1))) (eCall (withD [] (callC false (f_law_adigit a))) (aCons (eVar 0) (aCons (eC (.d (.int 500))) aNil)))) aNil)))) aNil))) (sIf (bVal (eBin (eqvD false) (eVar 9) (eC (.d (.int 3))))) (sExpr (eMethT isLst mAppend (eVar 6) (aCons (eCall oTup (aCons (eVar 7) (aCons (eC (.d (.str "maybe"))) (aCons (eC (.d .non)) aNil)))) aNil))) sNil))
noncomputable def b_law_amember_5_f (a : Ad) : G := sSeq (b_law_amember_5_f_1 a) (b_law_amember_5_f_2 a)
noncomputable def b_law_amember_5 (a : Ad) : G := sFor (iSeq (eCall (oSorted false) (aCons (eVar 1) aNil))) (tName 7) (b_law_amember_5_f a)
noncomputable def b_law_amember_6 (a : Ad) : G := sRet (eCall oTup (aCons (eVar 2) (aCons (eCall oTup (aCons (eCall oTup (aCons (eC (.d (.str "c"))) (aCons (eC (.d (.str "code"))) (aCons (eC (.d (.int 1))) (aCons (eCall oTupOf (aCons (eVar 3) aNil)) aNil))))) (aCons (eCall oTup (aCons (eC (.d (.str "d"))) (aCons (eC (.d (.str "data"))) (aCons (eC (.d (.int 1))) (aCons (eVar 5) aNil))))) aNil))) (aCons (eCall oTupOf (aCons (eVar 6) aNil)) aNil))))
theorem split_law_amember (a : Ad) : m_law_amember a = sSeq (b_law_amember_1 a) (sSeq (b_law_amember_2 a) (sSeq (b_law_amember_3 a) (sSeq (b_law_amember_4 a) (sSeq (b_law_amember_5 a) (b_law_amember_6 a))))) := rfl
/-! the statements of law_aarchives -/
noncomputable def b_law_aarchives_1 (a : Ad) : G := sAsg (eCall (oLst true) aNil) (tName 2)
noncomputable def b_law_aarchives_2_f_1 (a : Ad) : G := sAsg (eCall (withD [] (callC false (f_law_adigit a))) (aCons (eVar 0) (aCons (eC (.d (.int 5))) aNil))) (tName 4)
noncomputable def b_law_aarchives_2_f_2 (a : Ad) : G := sExpr (eMethT isLst mAppend (eVar 2) (aCons (eCall oTupOf (aCons (eLc false (iRng (aCons (eVar 4) aNil)) (tName 5) bYes (eCall (withD [] (callC false (f_law_amember a))) (aCons (eVar 0) (aCons (eVar 1) (aCons (eBin (dAdd false) (eC (.d (.str "m"))) (eCall oStrI (aCons (eBin (dAdd false) (eBin dMul (eC (.d (.int 10))) (eVar 3)) (eVar 5)) aNil))) aNil)))) [5]) aNil)) aNil))
noncomputable def b_law_aarchives_2_f (a : Ad) : G := sSeq (b_law_aarchives_2_f_1 a) (b_law_aarchives_2_f_2 a)
noncomputable def b_law_aarchives_2 (a : Ad) : G := sFor (iRng (aCons (eCall (withD [] (callC false (f_law_adigit a))) (aCons (eVar 0) (aCons (eC (.d (.int 4))) aNil))) aNil)) (tName 3) (b_law_aarchives_2_f a)
noncomputable def b_law_aarchives_3 (a : Ad) : G := sRet (eVar 2)
theorem split_law_aarchives (a : Ad) : m_law_aarchives a = sSeq (b_law_aarchives_1 a) (sSeq (b_law_aarchives_2 a) (b_law_aarchives_3 a)) := rfl
/-! the statements of law_aasks -/
noncomputable def b_law_aasks_1 (a : Ad) : G := sAsg (eCall (oLst true) aNil) (tName 1)
noncomputable def b_law_aasks_2_f_f_1 (a : Ad) : G := sAsg (eCall (withD [] (callC false (f_law_anamed a))) (aCons (eVar 3) aNil)) (tName 4)
noncomputable def b_law_aasks_2_f_f_2 (a : Ad) : G := sIf (bAnd (bVal (eBin (isN true) (eVar 4) (eC (.d .non)))) (bAnd (bVal (eBin (dIn true) (eVar 4) (eVar 1))) (bVal (eBin (eqvD true) (eBin dIx (eCall (withD [] (callC false (f_law_asymbol a))) (aCons (eVar 0) (aCons (eVar 4) aNil))) (eC (.d (.int 1)))) (eC (.d (.str "local"))))))) (sExpr (eMethT isLst mAppend (eVar 1) (aCons (eVar 4) aNil))) sNil
noncomputable def b_law_aasks_2_f_f (a : Ad) : G := sSeq (b_law_aasks_2_f_f_1 a) (b_law_aasks_2_f_f_2 a)
noncomputable def b_law_aasks_2_f (a : Ad) : G := sFor (iSeq (eBin dIx (eVar 2) (eC (.d (.int 3))))) (tName 3) (b_law_aasks_2_f_f a)
noncomputable def b_law_aasks_2 (a : Ad) : G := sFor (iSeq (eBin dIx (eVar 0) (eC (.d (.int 1))))) (tName 2) (b_law_aasks_2_f a)
noncomputable def b_law_aasks_3 (a : Ad) : G := sRet (eCall (oSorted true) (aCons (eVar 1) aNil))
theorem split_law_aasks (a : Ad) : m_law_aasks a = sSeq (b_law_aasks_1 a) (sSeq (b_law_aasks_2 a) (b_law_aasks_3 a)) := rfl
/-! the statements of law_asymbol -/
noncomputable def b_law_asymbol_1_f (a : Ad) : G := sIf (bVal (eBin (eqvD false) (eBin dIx (eVar 2) (eC (.d (.int 0)))) (eVar 1))) (sRet (eVar 2)) sNil
noncomputable def b_law_asymbol_1 (a : Ad) : G := sFor (iSeq (eBin dIx (eVar 0) (eC (.d (.int 2))))) (tName 2) (b_law_asymbol_1_f a)
noncomputable def b_law_asymbol_2 (a : Ad) : G := sRet (eCall oTup (aCons (eVar 1) (aCons (eC (.d (.str ""))) (aCons (eC (.d .non)) aNil))))
theorem split_law_asymbol (a : Ad) : m_law_asymbol a = sSeq (b_law_asymbol_1 a) (b_law_asymbol_2 a) := rfl
/-! the statements of law_aopen -/
noncomputable def b_law_aopen_1 (a : Ad) : G := sAsg (eCall oNewK aNil) (tName 1)
noncomputable def b_law_aopen_2_f_f (a : Ad) : G := sPutD (eC (.d (.bl true))) (eVar 1) (eVar 4)
noncomputable def b_law_aopen_2_f (a : Ad) : G := sFor (iSeq (eCall (withD [] (callC false (f_law_adefines a))) (aCons (eVar 2) aNil))) (tName 4) (b_law_aopen_2_f_f a)
noncomputable def b_law_aopen_2 (a : Ad) : G := sFor (iSeq (eVar 0)) (tName 2) (b_law_aopen_2_f a)
noncomputable def b_law_aopen_3 (a : Ad) : G := sAsg (eCall oNewK aNil) (tName 3)
noncomputable def b_law_aopen_4_f_f (a : Ad) : G := sIf (bAnd (bVal (eBin (dIn true) (eVar 4) (eVar 1))) (bAnd (bVal (eBin (dIn true) (eVar 4) (eVar 3))) (bVal (eBin (eqvD true) (eBin dIx (eCall (withD [] (callC false (f_law_asymbol a))) (aCons (eVar 2) (aCons (eVar 4) aNil))) (eC (.d (.int 1)))) (eC (.d (.str "maybe"))))))) (sPutD (eVar 5) (eVar 3) (eVar 4)) sNil
noncomputable def b_law_aopen_4_f (a : Ad) : G := sFor (iSeq (eCall (withD [] (callC false (f_law_aasks a))) (aCons (eVar 2) aNil))) (tName 4) (b_law_aopen_4_f_f a)
noncomputable def b_law_aopen_4 (a : Ad) : G := sFor (iEnumF (eVar 0)) (tTupG 2 (tsCons (tName 5) (tsCons (tName 2) tsNil))) (b_law_aopen_4_f a)
noncomputable def b_law_aopen_5 (a : Ad) : G := sRet (eVar 3)
theorem split_law_aopen (a : Ad) : m_law_aopen a = sSeq (b_law_aopen_1 a) (sSeq (b_law_aopen_2 a) (sSeq (b_law_aopen_3 a) (sSeq (b_law_aopen_4 a) (b_law_aopen_5 a)))) := rfl
/-! the statements of law_anext -/
noncomputable def b_law_anext_1 (a : Ad) : G := sAsg (eCall (withD [] (callC false (f_law_aopen a))) (aCons (eVar 0) aNil)) (tName 4)
noncomputable def b_law_anext_2_f_1 (a : Ad) : G := sAsg (eCall (withD [] (callC false (f_law_adefines a))) (aCons (eBin dIx (eBin dIx (eVar 1) (eVar 5)) (eVar 6)) aNil)) (tName 7)
noncomputable def b_law_anext_2_f_2 (a : Ad) : G := sAsg (eLc false (iSeq (eCall (oSorted false) (aCons (eVar 4) aNil))) (tName 9) (bVal (eBin (dIn false) (eVar 9) (eVar 7))) (eVar 9) [9]) (tName 8)
noncomputable def b_law_anext_2_f_3 (a : Ad) : G := sIf (bAnd (bVal (eBin (eqvD true) (eVar 8) (eCall (oLst false) aNil))) (bVal (eBin (dIn true) (eCall oTup (aCons (eVar 5) (aCons (eVar 6) aNil))) (eVar 3)))) (sRet (eCall oTup (aCons (eVar 5) (aCons (eVar 6) (aCons (eBin dIx (eVar 8) (eC (.d (.int 0)))) (aCons (eBin dDix (eVar 4) (eBin dIx (eVar 8) (eC (.d (.int 0))))) aNil)))))) sNil
noncomputable def b_law_anext_2_f (a : Ad) : G := sSeq (b_law_anext_2_f_1 a) (sSeq (b_law_anext_2_f_2 a) (b_law_anext_2_f_3 a))
noncomputable def b_law_anext_2 (a : Ad) : G := sFor (iSeq (eVar 2)) (tTupG 2 (tsCons (tName 5) (tsCons (tName 6) tsNil))) (b_law_anext_2_f a)
noncomputable def b_law_anext_3 (a : Ad) : G := sRet (eC (.d .non))
theorem split_law_anext (a : Ad) : m_law_anext a = sSeq (b_law_anext_1 a) (sSeq (b_law_anext_2 a) (b_law_anext_3 a)) := rfl
/-! the statements of law_adraws -/
noncomputable def b_law_adraws_1 (a : Ad) : G := sAsg (eLc false (iRng (aCons (eCall oLen (aCons (eVar 1) aNil)) aNil)) (tName 10) bYes (eLc false (iRng (aCons (eCall oLen (aCons (eBin dIx (eVar 1) (eVar 10)) aNil)) aNil)) (tName 11) bYes (eCall oTup (aCons (eVar 10) (aCons (eVar 11) aNil))) [11]) [10]) (tName 3)
noncomputable def b_law_adraws_2_t_1 (a : Ad) : G := sAsg (eCall (oLst false) aNil) (tName 7)
noncomputable def b_law_adraws_2_t_2_f (a : Ad) : G := sAsg (eBin (dAdd false) (eVar 7) (eVar 8)) (tName 7)
noncomputable def b_law_adraws_2_t_2 (a : Ad) : G := sFor (iSeq (eVar 3)) (tName 8) (b_law_adraws_2_t_2_f a)
noncomputable def b_law_adraws_2_t_3 (a : Ad) : G := sAsg (eCall (oLst false) (aCons (eVar 7) aNil)) (tName 3)
noncomputable def b_law_adraws_2 (a : Ad) : G := sIf (bVal (eVar 2)) (sSeq (b_law_adraws_2_t_1 a) (sSeq (b_law_adraws_2_t_2 a) (b_law_adraws_2_t_3 a))) sNil
noncomputable def b_law_adraws_3 (a : Ad) : G := sAsg (eCall (oList true) (aCons (eVar 0) aNil)) (tName 4)
noncomputable def b_law_adraws_4 (a : Ad) : G := sAsg (eCall (oLst true) aNil) (tName 5)
noncomputable def b_law_adraws_5 (a : Ad) : G := sAsg (eCall (oLst true) aNil) (tName 6)
noncomputable def b_law_adraws_6_f_1 (a : Ad) : G := sAsg (eCall (withD [] (callC false (f_law_anext a))) (aCons (eVar 4) (aCons (eVar 1) (aCons (eVar 7) (aCons (eVar 6) aNil))))) (tName 9)
noncomputable def b_law_adraws_6_f_2_w_1 (a : Ad) : G := sExpr (eMethT isLst mAppend (eVar 4) (aCons (eBin dIx (eBin dIx (eVar 1) (eBin dIx (eVar 9) (eC (.d (.int 0))))) (eBin dIx (eVar 9) (eC (.d (.int 1))))) aNil))
noncomputable def b_law_adraws_6_f_2_w_2 (a : Ad) : G := sExpr (eMethT isLst mAppend (eVar 6) (aCons (eSlice (dSl false) (eVar 9) oNo (oSome (eC (.d (.int 2))))) aNil))
noncomputable def b_law_adraws_6_f_2_w_3 (a : Ad) : G := sExpr (eMethT isLst mAppend (eVar 5) (aCons (eVar 9) aNil))
noncomputable def b_law_adraws_6_f_2_w_4 (a : Ad) : G := sAsg (eCall (withD [] (callC false (f_law_anext a))) (aCons (eVar 4) (aCons (eVar 1) (aCons (eVar 7) (aCons (eVar 6) aNil))))) (tName 9)
noncomputable def b_law_adraws_6_f_2 (a : Ad) : G := sWhile (bVal (eBin (isN true) (eVar 9) (eC (.d .non)))) (sSeq (b_law_adraws_6_f_2_w_1 a) (sSeq (b_law_adraws_6_f_2_w_2 a) (sSeq (b_law_adraws_6_f_2_w_3 a) (b_law_adraws_6_f_2_w_4 a))))
noncomputable def b_law_adraws_6_f (a : Ad) : G := sSeq (b_law_adraws_6_f_1 a) (b_law_adraws_6_f_2 a)
noncomputable def b_law_adraws_6 (a : Ad) : G := sFor (iSeq (eVar 3)) (tName 7) (b_law_adraws_6_f a)
noncomputable def b_law_adraws_7 (a : Ad) : G := sRet (eCall oTup (aCons (eVar 4) (aCons (eVar 5) aNil)))
theorem split_law_adraws (a : Ad) : m_law_adraws a = sSeq (b_law_adraws_1 a) (sSeq (b_law_adraws_2 a) (sSeq (b_law_adraws_3 a) (sSeq (b_law_adraws_4 a) (sSeq (b_law_adraws_5 a) (sSeq (b_law_adraws_6 a) (b_law_adraws_7 a)))))) := rfl
/-! the statements of law -/
noncomputable def b_law_1_f_1 (a : Ad) : G := sAsg (eCall (withD [] (callC true (f_law_atape a))) (aCons (eVar 0) (aCons (eVar 1) aNil))) (tName 2)
noncomputable def b_law_1_f_2 (a : Ad) : G := sAsg (eCall (withD [] (callC false (f_law_apool a))) (aCons (eVar 2) aNil)) (tName 3)
noncomputable def b_law_1_f_3 (a : Ad) : G := sAsg (eLc false (iRng (aCons (eCall (withD [] (callC false (f_law_adigit a))) (aCons (eVar 2) (aCons (eC (.d (.int 3))) aNil))) aNil)) (tName 9) bYes (eCall (withD [] (callC false (f_law_amember a))) (aCons (eVar 2) (aCons (eVar 3) (aCons (eBin (dAdd false) (eC (.d (.str "p"))) (eCall oStrI (aCons (eVar 9) aNil))) aNil)))) [9]) (tName 4)
noncomputable def b_law_1_f_4 (a : Ad) : G := sAsg (eCall (withD [] (callC false (f_law_aarchives a))) (aCons (eVar 2) (aCons (eVar 3) aNil))) (tName 5)
noncomputable def b_law_1_f_5 (a : Ad) : G := sAsg (eCall (withD [] (callC false (f_law_adraws a))) (aCons (eVar 4) (aCons (eVar 5) (aCons (eC (.d (.bl false))) aNil)))) (tName 6)
noncomputable def b_law_1_f_6 (a : Ad) : G := sAsg (eCall oReprV (aCons (eCall (oLst false) (aCons (eVar 4) (aCons (eVar 5) aNil))) aNil)) (tName 7)
noncomputable def b_law_1_f_7_f_1 (a : Ad) : G := sIf (bVal (eBin (eqvD false) (eVar 8) (eC (.d (.int 0))))) (sAsg (eCall (withD [.d (.bl false)] (callC true (f_drawn a))) (aCons (eVar 4) (aCons (eVar 5) aNil))) (tName 10)) (sAsg (eCallK (callC true (f_drawn a)) [0] (aCons (eVar 4) (aCons (eVar 5) aNil)) (aCons (eC (.d (.bl false))) aNil)) (tName 10))
noncomputable def b_law_1_f_7_f_2 (a : Ad) : G := sIf (bOr (bNot (bVal (eCall oIsiX (aCons (eVar 10) (aCons (eC (.d (.op (.ty "tuple")))) aNil))))) (bVal (eBin (eqS true) (eCall oReprV (aCons (eVar 10) aNil)) (eCall oReprV (aCons (eVar 6) aNil))))) (sRet (eC (.d (.bl false)))) sNil
noncomputable def b_law_1_f_7_f_3 (a : Ad) : G := sExpr (eMethT isLst mAppend (eBin dIx (eVar 10) (eC (.d (.int 0)))) (aCons (eC (.d .non)) aNil))
noncomputable def b_law_1_f_7_f_4 (a : Ad) : G := sIf (bVal (eBin (eqS true) (eCall oReprV (aCons (eBin dIx (eVar 10) (eC (.d (.int 1)))) aNil)) (eCall oReprV (aCons (eBin dIx (eVar 6) (eC (.d (.int 1)))) aNil)))) (sRet (eC (.d (.bl false)))) sNil
noncomputable def b_law_1_f_7_f_5 (a : Ad) : G := sExpr (eMethT isLst mClear (eBin dIx (eVar 10) (eC (.d (.int 1)))) aNil)
noncomputable def b_law_1_f_7_f (a : Ad) : G := sSeq (b_law_1_f_7_f_1 a) (sSeq (b_law_1_f_7_f_2 a) (sSeq (b_law_1_f_7_f_3 a) (sSeq (b_law_1_f_7_f_4 a) (b_law_1_f_7_f_5 a))))
noncomputable def b_law_1_f_7 (a : Ad) : G := sFor (iRng (aCons (eC (.d (.int 2))) aNil)) (tName 8) (b_law_1_f_7_f a)
noncomputable def b_law_1_f_8 (a : Ad) : G := sIf (bVal (eBin (eqS true) (eCall oReprV (aCons (eCall (oLst false) (aCons (eVar 4) (aCons (eVar 5) aNil))) aNil)) (eVar 7))) (sRet (eC (.d (.bl false)))) sNil
noncomputable def b_law_1_f (a : Ad) : G := sSeq (b_law_1_f_1 a) (sSeq (b_law_1_f_2 a) (sSeq (b_law_1_f_3 a) (sSeq (b_law_1_f_4 a) (sSeq (b_law_1_f_5 a) (sSeq (b_law_1_f_6 a) (sSeq (b_law_1_f_7 a) (b_law_1_f_8 a)))))))
noncomputable def b_law_1 (a : Ad) : G := sFor (iRng (aCons (eC (.d (.int 0))) (aCons (eCall oMax (aCons (eC (.d (.int 1))) (aCons (eCall oMin (aCons (eC (.d (.int 3))) (aCons (eCall oLen (aCons (eVar 0) aNil)) aNil))) aNil))) aNil))) (tName 1) (b_law_1_f a)
noncomputable def b_law_2 (a : Ad) : G := sRet (eC (.d (.bl true)))
theorem split_law (a : Ad) : m_law a = sSeq (b_law_1 a) (b_law_2 a) := rfl
end Lw
/-! the mirrors, evaluated -/
namespace FL
open PySem PySem.Spec L2
section
variable {r : Rho} {a b c : M} {t : MS} {p q : MB}
@[simp] theorem ev_var {i : Nat} : eVar i r = (r.sl[i]?).bind fun o => o.map fun d => (d, r) := by
  unfold eVar
  cases r.sl[i]? with
  | none => rfl
  | some o => cases o <;> rfl
@[simp] theorem ev_c {w : W} : eC w r = some (w, r) := rfl
@[simp] theorem ev_un {g : Op1} : eUn g a r = (a r).bind fun x => (g x.2.cl x.1).map fun z => (z.1, { x.2 with cl := z.2 }) := by
  unfold eUn lift1
  cases a r with
  | none => rfl
  | some x =>
    show (match g x.2.cl x.1 with | some (d, c) => some (d, { x.2 with cl := c }) | none => none) = (g x.2.cl x.1).map _
    cases g x.2.cl x.1 <;> rfl
@[simp] theorem ev_bin {g : Op2} : eBin g a b r = (a r).bind fun x => (b x.2).bind fun y => (g y.2.cl x.1 y.1).map fun z => (z.1, { y.2 with cl := z.2 }) := by
  unfold eBin lift2
  cases a r with
  | none => rfl
  | some x =>
    show (match b x.2 with | some (y, r2) => _ | none => none) = (b x.2).bind _
    cases b x.2 with
    | none => rfl
    | some y =>
      show (match g y.2.cl x.1 y.1 with | some (d, c) => some (d, { y.2 with cl := c }) | none => none) = (g y.2.cl x.1 y.1).map _
      cases g y.2.cl x.1 y.1 <;> rfl
@[simp] theorem ev_nil : aNil r = some ([], r) := rfl
@[simp] theorem ev_cons : aCons a t r = (a r).bind fun x => (t x.2).map fun y => (x.1 :: y.1, y.2) := by
  unfold aCons
  cases a r with
  | none => rfl
  | some x =>
    show (match t x.2 with | some (xs, r2) => _ | none => none) = (t x.2).map _
    cases t x.2 <;> rfl
@[simp] theorem ev_call {g : OpN} : eCall g t r = (t r).bind fun x => (g x.2.cl x.1).map fun z => (z.1, { x.2 with cl := z.2 }) := by
  unfold eCall liftN
  cases t r with
  | none => rfl
  | some x =>
    show (match g x.2.cl x.1 with | some (d, c) => some (d, { x.2 with cl := c }) | none => none) = (g x.2.cl x.1).map _
    cases g x.2.cl x.1 <;> rfl
@[simp] theorem ev_methT {chk : List Cell → W → Bool} {g : OpN} : eMethT chk g a t r = (a r).bind fun x => if chk x.2.cl x.1 then (t x.2).bind fun y => (g y.2.cl (x.1 :: y.1)).map fun z => (z.1, { y.2 with cl := z.2 }) else none := by
  unfold eMethT
  cases a r with
  | none => rfl
  | some x =>
    obtain ⟨x1, x2⟩ := x
    simp only [Option.bind_some]
    split
    · cases t x2 with
      | none => rfl
      | some y =>
        simp only [Option.bind_some, liftN]
        cases g y.2.cl (x1 :: y.1) <;> rfl
    · rfl
@[simp] theorem ev_bVal : bVal a r = (a r).bind fun x => match x.1 with | .d (.bl b) => some (b, x.2) | _ => none := by
  unfold bVal
  cases a r with
  | none => rfl
  | some x =>
    obtain ⟨x1, x2⟩ := x
    simp only [Option.bind_some]
    split <;> simp_all
@[simp] theorem ev_bAnd : bAnd p q r = (p r).bind fun x => if x.1 then q x.2 else some (false, x.2) := by
  unfold bAnd
  rcases p r with _ | ⟨_ | _, _⟩ <;> rfl
@[simp] theorem ev_bOr : bOr p q r = (p r).bind fun x => if x.1 then some (true, x.2) else q x.2 := by
  unfold bOr
  rcases p r with _ | ⟨_ | _, _⟩ <;> rfl
@[simp] theorem ev_bNot : bNot p r = (p r).map fun x => (!x.1, x.2) := by
  unfold bNot
  rcases p r with _ | ⟨_, _⟩ <;> rfl
@[simp] theorem ev_bYes : bYes r = some (true, r) := rfl
@[simp] theorem ev_eIf : eIf p a b r = (p r).bind fun x => if x.1 then a x.2 else b x.2 := by
  unfold eIf
  rcases p r with _ | ⟨_ | _, _⟩ <;> rfl
@[simp] theorem ev_bTru : bTru a r = (a r).bind fun x => (truth x.2.cl x.1).map fun b => (b, x.2) := by
  unfold bTru
  cases a r with
  | none => rfl
  | some x =>
    show (match truth x.2.cl x.1 with | some b => some (b, x.2) | none => none) = (truth x.2.cl x.1).map _
    cases truth x.2.cl x.1 <;> rfl
@[simp] theorem ev_eAnd : eAnd a b r = (a r).bind fun x => match x.1 with | .d (.bl k) => if k then b x.2 else some x | _ => none := by
  unfold eAnd
  cases a r with
  | none => rfl
  | some x =>
    obtain ⟨x1, x2⟩ := x
    simp only [Option.bind_some]
    split <;> simp_all
@[simp] theorem ev_eOr : eOr a b r = (a r).bind fun x => match x.1 with | .d (.bl k) => if k then some x else b x.2 | _ => none := by
  unfold eOr
  cases a r with
  | none => rfl
  | some x =>
    obtain ⟨x1, x2⟩ := x
    simp only [Option.bind_some]
    split <;> simp_all
@[simp] theorem ev_oNo : oNo r = some (none, r) := rfl
@[simp] theorem ev_oSome : oSome a r = (a r).bind fun x => match x.1 with | .d (.int i) => some (some i, x.2) | _ => none := by
  unfold oSome
  cases a r with
  | none => rfl
  | some x =>
    obtain ⟨x1, x2⟩ := x
    simp only [Option.bind_some]
    split <;> simp_all
@[simp] theorem ev_eSlice {g : OpS} {lo hi : MO} : eSlice g a lo hi r = (a r).bind fun x => (lo x.2).bind fun y => (hi y.2).bind fun z => (g z.2.cl x.1 y.1 z.1).map fun u => (u.1, { z.2 with cl := u.2 }) := by
  unfold eSlice
  cases a r with
  | none => rfl
  | some x =>
    obtain ⟨x1, x2⟩ := x
    simp only [Option.bind_some]
    cases lo x2 with
    | none => rfl
    | some y =>
      simp only [Option.bind_some]
      cases hi y.2 with
      | none => rfl
      | some z =>
        simp only [Option.bind_some]
        cases g z.2.cl x1 y.1 z.1 <;> rfl
/-! targets -/
variable {g : MG} {gs : MGs} {d : W} {ds : List W}
@[simp] theorem ev_tName {i : Nat} : tName i d r = some { r with sl := r.sl.set i (some d) } := rfl
@[simp] theorem ev_tsNil : tsNil [] r = some r := rfl
@[simp] theorem ev_tsCons : tsCons g gs (d :: ds) r = (g d r).bind fun r1 => gs ds r1 := by
  show (match g d r with | some r1 => gs ds r1 | none => none) = _
  cases g d r <;> rfl
@[simp] theorem ev_tTup {n : Nat} : tTupG n gs d r = (asTup d).bind fun ds => if ds.length = n then gs ds r else none := by
  unfold tTupG
  cases asTup d <;> rfl
@[simp] theorem ev_tSub {o i : M} {s : OpSet} : tSub o i s d r = (o r).bind fun x => (i x.2).bind fun y => (s y.2.cl x.1 y.1 d).map fun c => { y.2 with cl := c } := by
  unfold tSub
  cases o r with
  | none => rfl
  | some x =>
    obtain ⟨x1, x2⟩ := x
    simp only [Option.bind_some]
    cases i x2 with
    | none => rfl
    | some y =>
      simp only [Option.bind_some]
      cases s y.2.cl x1 y.1 d <;> rfl
/-! statements -/
variable {h k : G}
def nxt (h : G) : Out → Option Out
  | .nx r => h r
  | o => some o
@[simp] theorem nxt_nx : nxt h (.nx r) = h r := rfl
@[simp] theorem nxt_ret {w : W} : nxt h (.ret w r) = some (.ret w r) := rfl
@[simp] theorem nxt_bk : nxt h (.bk r) = some (.bk r) := rfl
@[simp] theorem nxt_ct : nxt h (.ct r) = some (.ct r) := rfl
@[simp] theorem nxt_ite {c : Prop} [Decidable c] {x y : Option Out} : (if c then x else y).bind (nxt h) = if c then x.bind (nxt h) else y.bind (nxt h) := by
  split <;> rfl
@[simp] theorem ev_sNil : sNil r = some (.nx r) := rfl
@[simp] theorem ev_sSeq : sSeq k h r = (k r).bind (nxt h) := by
  unfold sSeq
  rcases k r with _ | (_ | _ | _ | _) <;> rfl
@[simp] theorem ev_sExpr : sExpr a r = (a r).map fun x => .nx x.2 := by
  unfold sExpr
  cases a r <;> rfl
@[simp] theorem ev_sRet : sRet a r = (a r).map fun x => .ret x.1 x.2 := by
  unfold sRet
  cases a r <;> rfl
@[simp] theorem ev_sRetN : sRetN r = some (.ret (.d .non) r) := rfl
@[simp] theorem ev_sIf : sIf p k h r = (p r).bind fun x => if x.1 then k x.2 else h x.2 := by
  unfold sIf
  rcases p r with _ | ⟨_ | _, _⟩ <;> rfl
@[simp] theorem ev_sAsg : sAsg a g r = (a r).bind fun x => (g x.1 x.2).map .nx := by
  unfold sAsg
  cases a r with
  | none => rfl
  | some x =>
    simp only [Option.bind_some]
    cases g x.1 x.2 <;> rfl
@[simp] theorem ev_sBrk : sBrk r = some (.bk r) := rfl
@[simp] theorem ev_sCnt : sCnt r = some (.ct r) := rfl
@[simp] theorem ev_sNever : sNever r = none := rfl
end
@[simp] theorem ev_withD (g : OpN) : withD [] g = g := by
  funext cl ds
  simp [withD]
def outF (m : Nat) : Option Out → R0
  | some (.ret w r) => fin m w r.cl
  | some (.nx r) => fin m (.d .non) r.cl
  | _ => none
@[simp] theorem outF_ret {m : Nat} {w : W} {r : Rho} : outF m (some (.ret w r)) = fin m w r.cl := rfl
@[simp] theorem outF_nx {m : Nat} {r : Rho} : outF m (some (.nx r)) = fin m (.d .non) r.cl := rfl
theorem run_eq {N : Nat} {g : G} {cl : List Cell} {ds : List W} : runG N g cl ds = outF cl.length (g ⟨ds.map some ++ List.replicate (N - ds.length) none, cl⟩) := by
  unfold runG
  generalize g _ = o
  rcases o with _ | (_ | _ | _ | _) <;> rfl
/-! the operations at plain values -/
def mulOk (i j : Int) : Bool := decide (i.natAbs.log2 + j.natAbs.log2 < 1000000)
def fdvOk (j : Int) : Bool := decide (0 < j ∧ j.natAbs.log2 < 9000)
section
variable {cl : List Cell} {i j : Int} {s t : Str}
@[simp] theorem op_dSub : dSub cl (.d (.int i)) (.d (.int j)) = some (.d (.int (i - j)), cl) := rfl
@[simp] theorem op_dMod : dMod cl (.d (.int i)) (.d (.int j)) = if 0 < j then some (.d (.int (i % j)), cl) else none := by
  simp only [dMod, dInt]
  split <;> rfl
@[simp] theorem op_dFdv : dFdv cl (.d (.int i)) (.d (.int j)) = if fdvOk j then some (.d (.int (i / j)), cl) else none := by
  simp only [dFdv, dInt, fdvOk]
  split <;> rename_i h <;> simp [h]
@[simp] theorem op_dLt : dLt cl (.d (.int i)) (.d (.int j)) = some (.d (.bl (decide (i < j))), cl) := rfl
@[simp] theorem op_dLe : dLe cl (.d (.int i)) (.d (.int j)) = some (.d (.bl (decide (i ≤ j))), cl) := rfl
@[simp] theorem op_dGt : dGt cl (.d (.int i)) (.d (.int j)) = some (.d (.bl (decide (j < i))), cl) := rfl
@[simp] theorem op_dGe : dGe cl (.d (.int i)) (.d (.int j)) = some (.d (.bl (decide (j ≤ i))), cl) := rfl
@[simp] theorem op_dMul : dMul cl (.d (.int i)) (.d (.int j)) = if mulOk i j then some (.d (.int (i * j)), cl) else none := by
  simp only [dMul, mulOk]
  split <;> rename_i h <;> simp [h]
@[simp] theorem op_dMulS : dMul cl (.d (.str s)) (.d (.int j)) = if 2 ≤ j ∧ j ≤ 1000 ∧ s.length ≤ 1000 ∧ s.length ≠ 0 then some (.d (.str (strRep s j.toNat)), cl) else none := rfl
@[simp] theorem op_dAdd {c : Bool} : dAdd c cl (.d (.int i)) (.d (.int j)) = some (.d (.int (i + j)), cl) := rfl
@[simp] theorem op_dAddS {c : Bool} : dAdd c cl (.d (.str s)) (.d (.str t)) = if s.length + t.length ≤ sizeLine then some (.d (.str (s ++ t)), cl) else none := rfl
theorem op_dPow18 : dPow cl (.d (.int 10)) (.d (.int 18)) = some (.d (.int 1000000000000000000), cl) := by
  simp only [dPow, dInt]
  rw [if_pos (by decide)]
  rfl
end
theorem log2_lt {n k : Nat} (h : n < 2 ^ (k + 1)) : n.log2 ≤ k := by
  by_cases h0 : n = 0
  · subst h0
    simp
  · exact Nat.lt_succ_iff.mp ((Nat.log2_lt h0).mpr h)
theorem log2_31 {i : Int} (h0 : 0 ≤ i) (h : i < 2147483648) : i.natAbs.log2 ≤ 30 := log2_lt (k := 30) (by omega)
theorem log2_64 {i : Int} (h0 : 0 ≤ i) (h : i < 2 ^ 64) : i.natAbs.log2 ≤ 63 := log2_lt (k := 63) (by omega)
theorem mulOk_of {i j : Int} (h0 : 0 ≤ i) (h : i < 2 ^ 64) (k0 : 0 ≤ j) (k : j < 2 ^ 64) : mulOk i j = true := by
  have := log2_64 h0 h
  have := log2_64 k0 k
  simp only [mulOk, decide_eq_true_eq]
  omega
theorem fdvOk_of {j : Int} (k0 : 0 < j) (k : j < 2 ^ 64) : fdvOk j = true := by
  have := log2_64 (by omega) k
  simp only [fdvOk, decide_eq_true_eq]
  omega
theorem mod_at {i m : Int} (h : 0 < m) (k : m ≤ 2147483648) : 0 ≤ i % m ∧ i % m < 2147483648 := ⟨Int.emod_nonneg _ (by omega), Int.lt_of_lt_of_le (Int.emod_lt_of_pos _ h) k⟩
end FL
/-! calls and comparisons at plain stores -/
namespace FL
open PySem PySem.Spec L2 PySem.PyData
/-! ### calls -/
@[simp] theorem refsA_nil : refsA [] = [] := rfl
@[simp] theorem refsA_d {x : D} {ws : List W} : refsA (.d x :: ws) = refsA ws := rfl
@[simp] theorem refsA_c {n : Nat} {ws : List W} : refsA (.cel n :: ws) = n :: refsA ws := rfl
@[simp] theorem refsA_m {ds : List D} : refsA (ds.map W.d) = [] := refsA_map ds
@[simp] theorem mapcA_nil {f : Nat → Nat} : mapcA f [] = [] := rfl
@[simp] theorem mapcA_d {f : Nat → Nat} {x : D} {ws : List W} : mapcA f (.d x :: ws) = .d x :: mapcA f ws := rfl
@[simp] theorem mapcA_c {f : Nat → Nat} {n : Nat} {ws : List W} : mapcA f (.cel n :: ws) = .cel (f n) :: mapcA f ws := rfl
@[simp] theorem mapcA_m {f : Nat → Nat} {ds : List D} : mapcA f (ds.map W.d) = ds.map W.d := mapcA_map f ds
@[simp] theorem datas_m {ds : List D} : datas (ds.map W.d) = some ds := datas_map ds
@[simp] theorem refs_lst {ws : List W} : (Cell.lst ws).refs = refsA ws := rfl
@[simp] theorem refs_dk {ks : List Key} {ws : List W} : (Cell.dk ks ws).refs = refsA ws := rfl
@[simp] theorem refs_dt {ks : List (List Key)} {ws : List W} : (Cell.dt ks ws).refs = refsA ws := rfl
@[simp] theorem refs_ins {C : Addr} {fs : List Str} {ws : List W} : (Cell.ins C fs ws).refs = refsA ws := rfl
@[simp] theorem mapc_lst {f : Nat → Nat} {ws : List W} : (Cell.lst ws).mapc f = .lst (mapcA f ws) := rfl
@[simp] theorem mapc_dk {f : Nat → Nat} {ks : List Key} {ws : List W} : (Cell.dk ks ws).mapc f = .dk ks (mapcA f ws) := rfl
@[simp] theorem mapc_dt {f : Nat → Nat} {ks : List (List Key)} {ws : List W} : (Cell.dt ks ws).mapc f = .dt ks (mapcA f ws) := rfl
@[simp] theorem mapc_ins {f : Nat → Nat} {C : Addr} {fs : List Str} {ws : List W} : (Cell.ins C fs ws).mapc f = .ins C fs (mapcA f ws) := rfl
@[simp] theorem wrefs_d {x : D} : (W.d x).refs = [] := rfl
@[simp] theorem wrefs_c {n : Nat} : (W.cel n).refs = [n] := rfl
@[simp] theorem wmapc_d {f : Nat → Nat} {x : D} : (W.d x).mapc f = .d x := rfl
@[simp] theorem wmapc_c {f : Nat → Nat} {n : Nat} : (W.cel n).mapc f = .cel (f n) := rfl
theorem callT (g : OpN) : callC true g = oCall g := rfl
theorem callF (g : OpN) : callC false g = oCallP g := rfl
/-- a call in which no cell takes part -/
theorem call_flat {c : Bool} {f : OpN} {cl : List Cell} {ws : List W} {x : D} (h1 : refsA ws = []) (h2 : ∀ g, mapcA g ws = ws) (h : f [] ws = some (.d x, [])) : callC c f cl ws = some (.d x, cl) := by
  have e : idsOf cl ws = [] := by
    unfold idsOf
    rw [h1]
    simp [clos]
  cases c with
  | false => simp [callC, oCallP, e, isPart, h1, part, h2, h, purW, merge, setAll]
  | true => simp [callC, oCall, e, isPart, h1, part, h2, h, merge, setAll]
/-- a call with the cells ids -/
theorem callP_of {f : OpN} {cl st st0 cl' : List Cell} {ws ws0 : List W} {ids : List Nat} {x : D} (h1 : idsOf cl ws = ids) (h2 : isPart cl ids = true) (h3 : ((refsA ws).all fun n => ids.contains n) = true) (h4 : part cl ids = st0) (h5 : mapcA (ix ids) ws = ws0)
    (h6 : f st0 ws0 = some (.d x, st)) (h7 : st.length = ids.length) (h8 : (st.all fun c => c.refs.all fun n => decide (n < ids.length)) = true) (h9 : merge cl ids st = cl') : callC false f cl ws = some (.d x, cl') := by
  show oCallP f cl ws = _
  have e7 : st.take ids.length = st := by rw [← h7, List.take_length]
  simp only [oCallP, h1]
  rw [if_pos (by rw [h2, h3]; rfl), h4, h5, h6]
  simp only [purW, e7]
  rw [if_pos h8, h9]
theorem callT_of {f : OpN} {cl st st0 cl' : List Cell} {ws ws0 : List W} {ids : List Nat} {x y : W} (h1 : idsOf cl ws = ids) (h2 : isPart cl ids = true) (h3 : ((refsA ws).all fun n => ids.contains n) = true) (h4 : part cl ids = st0) (h5 : mapcA (ix ids) ws = ws0)
    (h6 : f st0 ws0 = some (x, st)) (h8 : x.mapc (back cl.length ids) = y) (h9 : merge cl ids st = cl') : callC true f cl ws = some (y, cl') := by
  show oCall f cl ws = _
  simp only [oCall, h1]
  rw [if_pos (by rw [h2, h3]; rfl), h4, h5, h6]
  simp only [h8, h9]
/-- .. with one cell, that refers to none -/
theorem call_leaf {c : Bool} {f : OpN} {cl : List Cell} {k : Nat} {ce ce' : Cell} {ws ws0 : List W} {x : D} (hk : cl[k]? = some ce) (hr : ce.refs = []) (hm : ce.mapc (ix [k]) = ce) (h1 : (refsA ws).eraseDups = [k]) (h3 : ((refsA ws).all fun n => [k].contains n) = true) (h5 : mapcA (ix [k]) ws = ws0)
    (h6 : f [ce] ws0 = some (.d x, [ce'])) (hr' : ce'.refs = []) (hm' : ce'.mapc (back cl.length [k]) = ce') : callC c f cl ws = some (.d x, cl.set k ce') := by
  have hlt : k < cl.length := by
    by_cases h : k < cl.length
    · exact h
    · rw [List.getElem?_eq_none (by omega)] at hk
      cases hk
  have e : idsOf cl ws = [k] := by
    unfold idsOf
    rw [h1]
    simp [clos, cellAt, hk, hr]
  have e2 : isPart cl [k] = true := by
    have e : cellAt cl k = ce := by simp [cellAt, hk]
    simp [isPart, e, hr, hlt]
  have e4 : part cl [k] = [ce] := by simp [part, cellAt, hk, hm]
  have e9 : merge cl [k] [ce'] = cl.set k ce' := by simp [merge, hm', setAll]
  cases c with
  | false => exact callP_of e e2 h3 e4 h5 h6 rfl (by simp [hr']) e9
  | true => exact callT_of e e2 h3 e4 h5 h6 rfl e9
theorem call_leaf_t {f : OpN} {cl : List Cell} {k : Nat} {ce ce' : Cell} {ws ws0 : List W} (hk : cl[k]? = some ce) (hr : ce.refs = []) (hm : ce.mapc (ix [k]) = ce) (h1 : (refsA ws).eraseDups = [k]) (h3 : ((refsA ws).all fun n => [k].contains n) = true) (h5 : mapcA (ix [k]) ws = ws0) {xs : List D}
    (h6 : f [ce] ws0 = some (.cel 1, [ce', .lst (xs.map W.d)])) (hr' : ce'.refs = []) (hm' : ce'.mapc (back cl.length [k]) = ce') : callC false f cl ws = some (.d (.lst xs), cl.set k ce') := by
  have hlt : k < cl.length := by
    by_cases h : k < cl.length
    · exact h
    · rw [List.getElem?_eq_none (by omega)] at hk
      cases hk
  have e : idsOf cl ws = [k] := by
    unfold idsOf
    rw [h1]
    simp [clos, cellAt, hk, hr]
  have e2 : isPart cl [k] = true := by
    have e : cellAt cl k = ce := by simp [cellAt, hk]
    simp [isPart, e, hr, hlt]
  have e4 : part cl [k] = [ce] := by simp [part, cellAt, hk, hm]
  have e9 : merge cl [k] [ce'] = cl.set k ce' := by simp [merge, hm', setAll]
  have em : ∀ ys : List D, (ys.map W.d).mapM (purW [ce', .lst (xs.map W.d)] 1 7) = some ys := by
    intro ys
    induction ys with
    | nil => rfl
    | cons y ys ih => simp [List.mapM_cons, ih, purW]
  have ep : purW [ce', .lst (xs.map W.d)] 1 8 (.cel 1) = some (.lst xs) := by
    simp only [purW]
    simp only [show ¬ (1 < 1) by decide, if_false, List.getElem?_cons_succ, List.getElem?_cons_zero]
    rw [em xs]
    rfl
  show oCallP f cl ws = _
  simp only [oCallP, e]
  rw [if_pos (by rw [e2, h3]; rfl), e4, h5, h6]
  simp only [List.length_singleton, ep]
  rw [if_pos (by simp [hr'])]
  simp [e9]
/-! ### comparisons of data -/
mutual
def okD : Nat → D → Bool
  | _, .non => true
  | _, .bl _ => true
  | _, .int _ => true
  | _, .str x => strOk x
  | k + 1, .tup ds => okA k ds
  | k + 1, .rtup ds => okA k ds
  | k + 1, .lst ds => okA k ds
  | k + 1, .rol ds => okA k ds
  | _, _ => false
def okA : Nat → List D → Bool
  | _, [] => true
  | k, d :: ds => okD k d && okA k ds
end
theorem scal_ok {p : PyData} (h : PyData.canLay0 p = true) (k : p.depth = 0) (n : Nat) : PyData.canLay0 p = true ∧ p.depth ≤ n := ⟨h, by omega⟩
mutual
theorem okD_py : ∀ (k : Nat) (d : D), okD k d = true → ∃ p, d.py = some p ∧ p.canLay0 = true ∧ p.depth ≤ k + 1
  | k, .non, _ => ⟨.none, rfl, rfl, by simp [PyData.depth]⟩
  | k, .bl b, _ => ⟨.bool b, rfl, rfl, by simp [PyData.depth]⟩
  | k, .int i, _ => ⟨.int i, rfl, rfl, by simp [PyData.depth]⟩
  | k, .str x, h => ⟨.str x, rfl, by cases k <;> exact h, by simp [PyData.depth]⟩
  | k + 1, .tup ds, h => by
    obtain ⟨ps, e, e1, e2⟩ := okA_py k ds h
    exact ⟨.tuple ps, by simp [D.py, e], e1, by simp [PyData.depth]; omega⟩
  | k + 1, .rtup ds, h => by
    obtain ⟨ps, e, e1, e2⟩ := okA_py k ds h
    exact ⟨.tuple ps, by simp [D.py, e], e1, by simp [PyData.depth]; omega⟩
  | k + 1, .lst ds, h => by
    obtain ⟨ps, e, e1, e2⟩ := okA_py k ds h
    exact ⟨.list ps, by simp [D.py, e], e1, by simp [PyData.depth]; omega⟩
  | k + 1, .rol ds, h => by
    obtain ⟨ps, e, e1, e2⟩ := okA_py k ds h
    exact ⟨.list ps, by simp [D.py, e], e1, by simp [PyData.depth]; omega⟩
  | 0, .tup ds, h => nomatch h
  | 0, .rtup ds, h => nomatch h
  | 0, .lst ds, h => nomatch h
  | 0, .rol ds, h => nomatch h
  | 0, .ins _ _ _, h => nomatch h
  | 0, .dk _ _, h => nomatch h
  | 0, .dt _ _, h => nomatch h
  | 0, .op _, h => nomatch h
  | k + 1, .ins _ _ _, h => nomatch h
  | k + 1, .dk _ _, h => nomatch h
  | k + 1, .dt _ _, h => nomatch h
  | k + 1, .op _, h => nomatch h
theorem okA_py : ∀ (k : Nat) (ds : List D), okA k ds = true → ∃ ps, pyA ds = some ps ∧ PyData.canLayAll0 ps = true ∧ PyData.depthAll ps ≤ k + 1
  | k, [], _ => ⟨[], rfl, rfl, by simp [PyData.depthAll]⟩
  | k, d :: ds, h => by
    have h : (okD k d && okA k ds) = true := by cases k <;> exact h
    rw [Bool.and_eq_true] at h
    obtain ⟨p, e, e1, e2⟩ := okD_py k d h.1
    obtain ⟨ps, f, f1, f2⟩ := okA_py k ds h.2
    exact ⟨p :: ps, by simp [pyA, e, f], by simp [PyData.canLayAll0, e1, f1], by simp [PyData.depthAll]; omega⟩
end
theorem okD_shaped {d : D} (h : okD 60 d = true) : ∃ p, d.py = some p ∧ SeqAt.shaped p = true ∧ PyData.eqv p p = true := by
  obtain ⟨p, e, e1, e2⟩ := okD_py 60 d h
  exact ⟨p, e, by simp [SeqAt.shaped, e1]; omega, SeqAt.eqv_refl p e1⟩
section
variable {neg : Bool} {cl : List Cell} {d : D} {ds : List D} {n m : Nat} {s t : Str} {i j : Int}
theorem py_lst : (D.lst ds).py = (pyA ds).map .list := by simp [D.py]
theorem pyW_c (h : cl[n]? = some (.lst (ds.map W.d))) : pyW cl (.cel n) = (D.lst ds).py := by simp [pyW, h, py_lst]
theorem eqv_W {w1 w2 : W} (h1 : pyW cl w1 = d.py) (h2 : pyW cl w2 = d.py) (h : okD 60 d = true) : eqvD neg cl w1 w2 = some (.d (.bl (!neg)), cl) := by
  obtain ⟨p, e, e1, e2⟩ := okD_shaped h
  simp only [eqvD, h1, h2, e, e1, e2]
  cases neg <;> simp
theorem eqv_dd (h : okD 60 d = true) : eqvD neg cl (.d d) (.d d) = some (.d (.bl (!neg)), cl) := eqv_W rfl rfl h
theorem eqv_cd (hc : cl[n]? = some (.lst (ds.map W.d))) (h : okD 60 (.lst ds) = true) : eqvD neg cl (.cel n) (.d (.lst ds)) = some (.d (.bl (!neg)), cl) := eqv_W (pyW_c hc) rfl h
theorem eqv_cc (hc : cl[n]? = some (.lst (ds.map W.d))) (hd : cl[m]? = some (.lst (ds.map W.d))) (h : okD 60 (.lst ds) = true) : eqvD neg cl (.cel n) (.cel m) = some (.d (.bl (!neg)), cl) := eqv_W (pyW_c hc) (pyW_c hd) h
theorem eqv_nilW {w : W} (h1 : pyW cl w = (D.lst ds).py) (h : okD 60 (.lst ds) = true) : eqvD neg cl w (.d (.lst [])) = some (.d (.bl (sg neg ds.isEmpty)), cl) := by
  obtain ⟨p, e, e1, e2⟩ := okD_shaped h
  have e3 : pyW cl (.d (.lst [])) = some (.list []) := rfl
  have e4 : SeqAt.shaped (.list []) = true := by decide
  have e5 : PyData.eqv p (.list []) = ds.isEmpty := by
    rw [py_lst] at e
    obtain ⟨ps, q1, q2⟩ := Option.map_eq_some_iff.mp e
    subst q2
    cases ds with
    | nil =>
      cases q1
      rfl
    | cons x xs =>
      unfold pyA at q1
      split at q1
      · cases q1
        simp [PyData.eqv, PyData.eqvAll]
      · cases q1
  simp only [eqvD, h1, e, e3, e1, e4, e5, sg]
  simp
theorem eqv_c_nil (hc : cl[n]? = some (.lst (ds.map W.d))) (h : okD 60 (.lst ds) = true) : eqvD neg cl (.cel n) (.d (.lst [])) = some (.d (.bl (sg neg ds.isEmpty)), cl) := eqv_nilW (pyW_c hc) h
theorem eqv_d_nil (h : okD 60 (.lst ds) = true) : eqvD neg cl (.d (.lst ds)) (.d (.lst [])) = some (.d (.bl (sg neg ds.isEmpty)), cl) := eqv_nilW rfl h
theorem eqv_str (hs : strOk s = true) (ht : strOk t = true) : eqvD neg cl (.d (.str s)) (.d (.str t)) = some (.d (.bl (sg neg (decide (s = t)))), cl) := by
  have e1 : SeqAt.shaped (.str s) = true := by simp [SeqAt.shaped, PyData.canLay0, hs, PyData.depth]
  have e2 : SeqAt.shaped (.str t) = true := by simp [SeqAt.shaped, PyData.canLay0, ht, PyData.depth]
  have e3 : (D.str s).py = some (.str s) := rfl
  have e4 : (D.str t).py = some (.str t) := rfl
  have e5 : (s == t) = decide (s = t) := by by_cases h : s = t <;> simp [h]
  simp only [eqvD, pyW, e3, e4, e1, e2]
  simp [PyData.eqv, sg, e5]
theorem eqv_int : eqvD neg cl (.d (.int i)) (.d (.int j)) = some (.d (.bl (sg neg (decide (i = j)))), cl) := by
  have e1 : SeqAt.shaped (.int i) = true := rfl
  have e2 : SeqAt.shaped (.int j) = true := rfl
  have e3 : (D.int i).py = some (.int i) := rfl
  have e4 : (D.int j).py = some (.int j) := rfl
  have e5 : (i == j) = decide (i = j) := by by_cases h : i = j <;> simp [h]
  simp only [eqvD, pyW, e3, e4, e1, e2]
  simp [PyData.eqv, sg, e5]
end
theorem atI_nat {α : Type} {xs : List α} {i : Int} (h0 : 0 ≤ i) (h : i < xs.length) : atI xs i = xs[i.toNat]? := by
  simp [atI, ixN, h0, h]
end FL
/-! loops -/
namespace FL
open PySem PySem.Spec L2 PySem.PyData
theorem intsW_map (n : Nat) : ∀ lo : Int, intsW lo n = (List.range n).map fun i : Nat => W.d (.int (lo + i)) := by
  induction n with
  | zero => intro lo; rfl
  | succ n ih =>
    intro lo
    rw [List.range_succ_eq_map, List.map_cons, List.map_map]
    show W.d (.int lo) :: intsW (lo + 1) n = _
    rw [ih (lo + 1)]
    simp
    intro i _
    omega
theorem intsW_d (n : Nat) (lo : Int) : intsW lo n = ((List.range n).map fun i : Nat => D.int (lo + i)).map W.d := by rw [intsW_map, List.map_map]; rfl
/-- a for loop that runs to its end, or returns on the way -/
theorem forL_run {g : MG} {b : G} {ck : Ck} {I : Nat → Rho → Prop} {R : W → Rho → Prop} : ∀ (ds : List W) (k : Nat) (r : Rho), (∀ i d r, ds[i]? = some d → I (k + i) r → ckC ck r.cl ∧ ∃ r1, g d r = some r1 ∧ ((∃ r2, (b r1 = some (.nx r2) ∨ b r1 = some (.ct r2)) ∧ I (k + i + 1) r2) ∨ ∃ x r2, b r1 = some (.ret x r2) ∧ R x r2)) → (∀ r, I (k + ds.length) r → ckC ck r.cl) → I k r →
    (∃ r', forL g b ck ds r = some (.nx r') ∧ I (k + ds.length) r') ∨ ∃ x r', forL g b ck ds r = some (.ret x r') ∧ R x r'
  | [], k, r, _, he, h => .inl ⟨r, by simp only [forL]; rw [if_pos (he r h)], h⟩
  | d :: ds, k, r, hs, he, h => by
    obtain ⟨c, r1, e1, hb⟩ := hs 0 d r rfl h
    rcases hb with ⟨r2, e2, h2⟩ | ⟨x, r2, e2, h2⟩
    · have ih := forL_run (g := g) (b := b) (ck := ck) (I := I) (R := R) ds (k + 1) r2 (fun i d r q hi => by
          have := hs (i + 1) d r q (by rw [show k + (i + 1) = k + 1 + i by omega]; exact hi)
          rw [show k + (i + 1) = k + 1 + i by omega] at this
          exact this) (fun r hr => he r (by rw [List.length_cons, show k + (ds.length + 1) = k + 1 + ds.length by omega]; exact hr)) h2
      have e : forL g b ck (d :: ds) r = forL g b ck ds r2 := by
        rcases e2 with e2 | e2 <;> simp only [forL, e1, e2] <;> rw [if_pos c]
      rw [e, List.length_cons, show k + (ds.length + 1) = k + 1 + ds.length by omega]
      exact ih
    · exact .inr ⟨x, r2, by simp only [forL, e1, e2]; rw [if_pos c], h2⟩
/-- .. that runs to its end -/
theorem forL_all {g : MG} {b : G} {ck : Ck} {I : Nat → Rho → Prop} (ds : List W) (r : Rho) (hs : ∀ i d r, ds[i]? = some d → I i r → ckC ck r.cl ∧ ∃ r1, g d r = some r1 ∧ ∃ r2, (b r1 = some (.nx r2) ∨ b r1 = some (.ct r2)) ∧ I (i + 1) r2) (he : ∀ r, I ds.length r → ckC ck r.cl) (h : I 0 r) :
    ∃ r', forL g b ck ds r = some (.nx r') ∧ I ds.length r' := by
  have := forL_run (g := g) (b := b) (ck := ck) (I := I) (R := fun _ _ => False) ds 0 r (fun i d r q hi => by
    rw [Nat.zero_add] at hi ⊢
    obtain ⟨c, r1, e1, h2⟩ := hs i d r q hi
    exact ⟨c, r1, e1, .inl h2⟩) (fun r hr => he r (by rw [Nat.zero_add] at hr; exact hr)) h
  rw [Nat.zero_add] at this
  rcases this with h | ⟨_, _, _, h⟩
  · exact h
  · exact h.elim
/-- a while loop, by what is still to go -/
theorem while_run {c : MB} {b : G} {I : Nat → Rho → Prop} : ∀ (n : Nat) (r : Rho), I n r → (∀ n r, I (n + 1) r → ∃ r1 r2, c r = some (true, r1) ∧ b r1 = some (.nx r2) ∧ I n r2) → (∀ r, I 0 r → ∃ r1, c r = some (false, r1) ∧ I 0 r1) →
    ∃ r', whN c b (n + 1) r = some (.nx r') ∧ I 0 r'
  | 0, r, h, _, he => by
    obtain ⟨r1, e1, h1⟩ := he r h
    exact ⟨r1, by simp only [whN, e1], h1⟩
  | n + 1, r, h, hs, he => by
    obtain ⟨r1, r2, e1, e2, h2⟩ := hs n r h
    obtain ⟨r', e, h'⟩ := while_run n r2 h2 hs he
    refine ⟨r', ?_, h'⟩
    rw [whN]
    simp only [e1, e2]
    exact e
theorem sWhile_run {c : MB} {b : G} {I : Nat → Rho → Prop} (n : Nat) (r : Rho) (h : I n r) (hs : ∀ n r, I (n + 1) r → ∃ r1 r2, c r = some (true, r1) ∧ b r1 = some (.nx r2) ∧ I n r2) (he : ∀ r, I 0 r → ∃ r1, c r = some (false, r1) ∧ I 0 r1) : ∃ r', sWhile c b r = some (.nx r') ∧ I 0 r' := by
  obtain ⟨r', e, h'⟩ := while_run n r h hs he
  exact ⟨r', sWhile_of e, h'⟩
/-- a list comprehension whose parts change nothing -/
theorem lcL_pure {ck : Ck} {g : MG} {tt : MB} {te : M} {vs : List Nat} {cl : List Cell} {sl : List (Option W)} {keep : W → Bool} {val : W → D} (hck : ∀ c : Cell, ckC ck (cl ++ [c])) : ∀ (ds : List W) (acc : List D), acc.length + ds.length ≤ sizeLine →
    (∀ d ∈ ds, ∀ acc : List W, ∃ r1, g d ⟨wipeW sl vs, cl ++ [.lst acc]⟩ = some r1 ∧ ∃ r2, tt r1 = some (keep d, r2) ∧ r2.cl = cl ++ [.lst acc] ∧ (keep d = true → ∃ r3, te r2 = some (.d (val d), r3) ∧ r3.cl = cl ++ [.lst acc])) →
    lcL ck g tt te vs cl.length ds ⟨sl, cl ++ [.lst (acc.map W.d)]⟩ = some ⟨sl, cl ++ [.lst ((acc ++ (ds.filter keep).map val).map W.d)]⟩
  | [], acc, _, _ => by
    simp only [lcL]
    rw [if_pos (hck _)]
    simp
  | d :: ds, acc, hl, h => by
    obtain ⟨r1, e1, r2, e2, e3, h3⟩ := h d (List.mem_cons_self) (acc.map W.d)
    simp only [lcL]
    rw [if_pos (hck _), e1]
    simp only [e2]
    have h' := fun d' (hd : d' ∈ ds) => h d' (List.mem_cons_of_mem _ hd)
    rw [List.length_cons] at hl
    cases hk : keep d with
    | false =>
      simp only [e3]
      rw [lcL_pure hck ds acc (by omega) h', List.filter_cons, hk]
      rfl
    | true =>
      obtain ⟨r3, e4, e5⟩ := h3 hk
      simp only [e4, e5]
      have e6 : (cl ++ [Cell.lst (acc.map W.d)])[cl.length]? = some (.lst (acc.map W.d)) := by simp
      rw [e6]
      simp only
      rw [if_pos (by rw [List.length_map]; omega)]
      have e7 : (cl ++ [Cell.lst (acc.map W.d)]).set cl.length (.lst (acc.map W.d ++ [.d (val d)])) = cl ++ [.lst ((acc ++ [val d]).map W.d)] := by simp
      rw [e7, lcL_pure hck ds (acc ++ [val d]) (by rw [List.length_append, List.length_singleton]; omega) h', List.filter_cons, hk]
      simp
theorem lc_pure {c : Bool} {mi : MI} {g : MG} {tt : MB} {te : M} {vs : List Nat} {r : Rho} {ds : List W} {ck : Ck} {cl : List Cell} {sl : List (Option W)} (hi : mi r = some ((ds, ck), ⟨sl, cl⟩)) (keep : W → Bool) (val : W → D) (hck : ∀ c : Cell, ckC ck (cl ++ [c])) (hl : ds.length ≤ sizeLine) (hcl : (cl.all fun k => k.refs.all fun j => decide (j < cl.length)) = true)
    (h : ∀ d ∈ ds, ∀ acc : List W, ∃ r1, g d ⟨wipeW sl vs, cl ++ [.lst acc]⟩ = some r1 ∧ ∃ r2, tt r1 = some (keep d, r2) ∧ r2.cl = cl ++ [.lst acc] ∧ (keep d = true → ∃ r3, te r2 = some (.d (val d), r3) ∧ r3.cl = cl ++ [.lst acc])) :
    eLc c mi g tt te vs r = some (if c then (.cel cl.length, ⟨sl, cl ++ [.lst (((ds.filter keep).map val).map W.d)]⟩) else (.d (.lst ((ds.filter keep).map val)), ⟨sl, cl⟩)) := by
  unfold eLc
  rw [hi]
  simp only
  have e := lcL_pure (ck := ck) (g := g) (tt := tt) (te := te) (vs := vs) (sl := sl) (keep := keep) (val := val) hck ds [] (by simpa using hl) h
  simp only [List.map_nil] at e
  rw [e]
  simp only [List.nil_append, unCell]
  cases c with
  | true => rfl
  | false =>
    have e2 : ∀ c : Cell, (cl ++ [c])[cl.length]? = some c := by simp
    have e3 : ∀ c : Cell, (cl ++ [c]).take cl.length = cl := by simp
    simp only [e2, e3, datas_m]
    rw [if_neg (by decide), if_pos ⟨by simp, hcl⟩]
    rfl
end FL
/-! list cells of data -/
namespace FL
open PySem PySem.Spec L2 PySem.PyData
def lstD (P : List D) : Cell := .lst (P.map W.d)
@[simp] theorem lstD_refs {P : List D} : (lstD P).refs = [] := refsA_map P
@[simp] theorem lstD_mapc {P : List D} {f : Nat → Nat} : (lstD P).mapc f = lstD P := congrArg Cell.lst (mapcA_map f P)
theorem set_same {cl : List Cell} {l : Nat} {c : Cell} (h : cl[l]? = some c) : cl.set l c = cl := by
  apply List.ext_getElem?
  intro i
  by_cases e : l = i
  · subst e
    rw [List.getElem?_set_self (by rw [List.getElem?_eq_some_iff] at h; exact h.1), h]
  · rw [List.getElem?_set_ne e]
theorem erase_map {α β : Type} (f : α → β) : ∀ (P : List α) (i : Nat), (P.map f).eraseIdx i = (P.eraseIdx i).map f
  | [], _ => rfl
  | _ :: _, 0 => rfl
  | x :: P, i + 1 => by
    show f x :: (P.map f).eraseIdx i = f x :: (P.eraseIdx i).map f
    rw [erase_map f P i]
theorem seq_at {i n : Nat} (h : i < n) : seqIndex? (i : Int) n = some i := by
  simp [seqIndex?]
  omega
section
variable {cl : List Cell} {n i : Nat} {P : List D} {x : D}
@[simp] theorem lstD_g {cl : List Cell} (h : cl[n]? = some (lstD P)) : cellL cl (.cel n) = some (n, P.map W.d) := by simp [cellL, h, lstD]
theorem isLst_c (h : cl[n]? = some (lstD P)) : isLst cl (.cel n) = true := by simp [isLst, asList, h, lstD]
theorem len_c (h : cl[n]? = some (lstD P)) : oLen cl [.cel n] = some (.d (.int P.length), cl) := by simp [oLen, lenW, asTup, asList, h, lstD]
theorem len_d : oLen cl [.d (.lst P)] = some (.d (.int P.length), cl) := by simp [oLen, lenW, asTup, asList]
theorem pop_c (h : cl[n]? = some (lstD (P ++ [x]))) : mPop cl [.cel n] = some (.d x, cl.set n (lstD P)) := by
  have e : lstD P = .lst (P.map W.d) := rfl
  simp [mPop, lstD_g h, e]
theorem popAt_c (h : cl[n]? = some (lstD P)) (hi : i < P.length) (hl : P.length < 2 ^ 60) : mPopAt cl [.cel n, .d (.int i)] = some (.d P[i], cl.set n (lstD (P.eraseIdx i))) := by
  have e : lstD (P.eraseIdx i) = .lst ((P.eraseIdx i).map W.d) := rfl
  simp only [mPopAt, lstD_g h]
  rw [if_pos (by constructor <;> omega), seq_at (by rw [List.length_map]; exact hi), e]
  simp [hi, erase_map]
theorem ins_c (h : cl[n]? = some (lstD P)) (hl : P.length < 2 ^ 20) (hi : i < 2 ^ 60) : mInsert cl [.cel n, .d (.int i), .d x] = some (.d .non, cl.set n (lstD (P.take i ++ [x] ++ P.drop i))) := by
  have e : lstD (P.take i ++ [x] ++ P.drop i) = .lst ((P.take i ++ [x] ++ P.drop i).map W.d) := rfl
  have sz : sizeLine = 2 ^ 24 := rfl
  simp only [mInsert, lstD_g h]
  rw [if_pos (by rw [List.length_map, sz]; refine ⟨?_, ?_, ?_⟩ <;> omega), e]
  simp [List.map_take, List.map_drop]
theorem set_c (h : cl[n]? = some (lstD P)) (hi : i < P.length) : setL cl (.cel n) (.d (.int i)) (.d x) = some (cl.set n (lstD (P.set i x))) := by
  have e : lstD (P.set i x) = .lst ((P.set i x).map W.d) := rfl
  have e2 : ixN P.length i = some i := by simp [ixN, hi]
  simp only [setL, lstD_g h, List.length_map, e2]
  rw [e, List.map_set]
theorem app_c (h : cl[n]? = some (lstD P)) (hl : P.length < 2 ^ 20) : mAppend cl [.cel n, .d x] = some (.d .non, cl.set n (lstD (P ++ [x]))) := by
  have e : lstD (P ++ [x]) = .lst ((P ++ [x]).map W.d) := rfl
  have sz : sizeLine = 2 ^ 24 := rfl
  simp only [mAppend, lstD_g h]
  rw [if_pos (by rw [List.length_map, sz]; omega), e]
  simp
theorem at_c (h : cl[n]? = some (lstD P)) (hi : i < P.length) : dIx cl (.cel n) (.d (.int i)) = some (.d P[i], cl) := by
  simp only [dIx, asTup, asList, h, lstD, Option.bind_some]
  rw [atI_nat (by omega) (by simpa using hi)]
  simp [hi]
theorem at_d (hi : i < P.length) : dIx cl (.d (.lst P)) (.d (.int i)) = some (.d P[i], cl) := by
  simp only [dIx, asTup, asList, Option.bind_some]
  rw [atI_nat (by omega) (by simpa using hi)]
  simp [hi]
theorem at_t (hi : i < P.length) : dIx cl (.d (.tup P)) (.d (.int i)) = some (.d P[i], cl) := by
  simp only [dIx, asTup]
  rw [atI_nat (by omega) (by simpa using hi)]
  simp [hi]
theorem at_t0 {ds : List D} : dIx cl (.d (.tup (x :: ds))) (.d (.int 0)) = some (.d x, cl) := at_t (P := x :: ds) (i := 0) (by simp)
theorem at_t1 {y : D} {ds : List D} : dIx cl (.d (.tup (y :: x :: ds))) (.d (.int 1)) = some (.d x, cl) := at_t (P := y :: x :: ds) (i := 1) (by simp)
theorem at_t2 {y z : D} {ds : List D} : dIx cl (.d (.tup (y :: z :: x :: ds))) (.d (.int 2)) = some (.d x, cl) := at_t (P := y :: z :: x :: ds) (i := 2) (by simp)
end
theorem okA_append {k : Nat} {P : List D} {x : D} (h : okA k P = true) (hx : okD k x = true) : okA k (P ++ [x]) = true := by
  induction P with
  | nil =>
    have : okA k [x] = (okD k x && okA k []) := by cases k <;> rfl
    show okA k [x] = true
    rw [this, hx]
    cases k <;> rfl
  | cons y P ih =>
    have h : (okD k y && okA k P) = true := by cases k <;> exact h
    rw [Bool.and_eq_true] at h
    have : okA k (y :: (P ++ [x])) = (okD k y && okA k (P ++ [x])) := by cases k <;> rfl
    show okA k (y :: (P ++ [x])) = true
    rw [this, h.1, ih h.2]
    rfl
theorem okA_cons {k : Nat} {y : D} {P : List D} : okA k (y :: P) = (okD k y && okA k P) := by cases k <;> rfl
theorem okA_iff {k : Nat} {P : List D} : okA k P = true ↔ ∀ x ∈ P, okD k x = true := by
  induction P with
  | nil =>
    have : okA k [] = true := by cases k <;> rfl
    simp [this]
  | cons y P ih => rw [okA_cons, Bool.and_eq_true, ih]; simp
theorem eqv_sne {cl : List Cell} {s t : Str} (neg : Bool) (hs : strOk s = true) (ht : strOk t = true) (h : ¬ s = t) : eqvD neg cl (.d (.str s)) (.d (.str t)) = some (.d (.bl neg), cl) := by
  rw [eqv_str hs ht, sg, decide_eq_false h]
  cases neg <;> rfl
theorem eqv_seq {cl : List Cell} {s : Str} (neg : Bool) (hs : strOk s = true) : eqvD neg cl (.d (.str s)) (.d (.str s)) = some (.d (.bl (!neg)), cl) := eqv_dd hs
@[simp] theorem ev_sFor {m : MI} {g : MG} {b : G} {r : Rho} : sFor m g b r = (m r).bind fun p => forL g b p.1.2 p.1.1 p.2 := by
  unfold sFor
  rcases m r with _ | ⟨⟨_, _⟩, _⟩ <;> rfl
end FL
/-! a list comprehension whose parts change cells -/
namespace FL
open PySem PySem.Spec L2
theorem lcL_run {g : MG} {tt : MB} {te : M} {vs : List Nat} {sl : List (Option W)} {n : Nat} {I : Nat → List Cell → List D → Prop} : ∀ (ds : List W) (k : Nat) (cl : List Cell) (acc : List D), cl.length = n → acc.length + ds.length ≤ sizeLine →
    (∀ i d cl acc, ds[i]? = some d → cl.length = n → I (k + i) cl acc → ∃ r1, g d ⟨wipeW sl vs, cl ++ [.lst (acc.map W.d)]⟩ = some r1 ∧ ∃ b r2, tt r1 = some (b, r2) ∧ ((b = false ∧ ∃ cl', r2.cl = cl' ++ [.lst (acc.map W.d)] ∧ cl'.length = n ∧ I (k + i + 1) cl' acc) ∨
      (b = true ∧ ∃ y r3 cl', te r2 = some (.d y, r3) ∧ r3.cl = cl' ++ [.lst (acc.map W.d)] ∧ cl'.length = n ∧ I (k + i + 1) cl' (acc ++ [y])))) → I k cl acc →
    ∃ cl' acc', lcL none g tt te vs n ds ⟨sl, cl ++ [.lst (acc.map W.d)]⟩ = some ⟨sl, cl' ++ [.lst (acc'.map W.d)]⟩ ∧ cl'.length = n ∧ I (k + ds.length) cl' acc'
  | [], k, cl, acc, hn, _, _, h => ⟨cl, acc, by simp only [lcL]; rw [if_pos (show ckC none _ from trivial)], hn, h⟩
  | d :: ds, k, cl, acc, hn, hl, hs, h => by
    rw [List.length_cons] at hl
    obtain ⟨r1, e1, b, r2, e2, hb⟩ := hs 0 d cl acc rfl hn h
    have next : ∀ i d cl acc, ds[i]? = some d → cl.length = n → I (k + 1 + i) cl acc → _ := fun i d cl acc q hn hi => by
      have := hs (i + 1) d cl acc q hn (by rw [show k + (i + 1) = k + 1 + i by omega]; exact hi)
      rw [show k + (i + 1) = k + 1 + i by omega] at this
      exact this
    rw [List.length_cons, show k + (ds.length + 1) = k + 1 + ds.length by omega]
    rcases hb with ⟨rfl, cl', q1, q2, q3⟩ | ⟨rfl, y, r3, cl', q0, q1, q2, q3⟩
    · obtain ⟨c2, a2, e, l2, i2⟩ := lcL_run ds (k + 1) cl' acc q2 (by omega) next q3
      refine ⟨c2, a2, ?_, l2, i2⟩
      simp only [lcL]
      rw [if_pos (show ckC none _ from trivial)]
      simp only [e1, e2, q1]
      exact e
    · obtain ⟨c2, a2, e, l2, i2⟩ := lcL_run ds (k + 1) cl' (acc ++ [y]) q2 (by rw [List.length_append, List.length_singleton]; omega) next q3
      refine ⟨c2, a2, ?_, l2, i2⟩
      have q6 : (cl' ++ [Cell.lst (acc.map W.d)])[n]? = some (.lst (acc.map W.d)) := by rw [← q2]; simp
      have q7 : (cl' ++ [Cell.lst (acc.map W.d)]).set n (.lst (acc.map W.d ++ [.d y])) = cl' ++ [.lst ((acc ++ [y]).map W.d)] := by rw [← q2]; simp
      simp only [lcL]
      rw [if_pos (show ckC none _ from trivial)]
      simp only [e1, e2, q0, q1, q6]
      rw [if_pos (by rw [List.length_map]; omega), q7]
      exact e
end FL
/-! plain data compared; the end of a def, any store; statements one by one -/
namespace FL
open PySem PySem.Spec L2 PySem.PyData
/-! ### data without truths, all tuples plain -/
mutual
def okE : Nat → D → Bool
  | _, .non => true
  | _, .int _ => true
  | _, .str x => strOk x
  | k + 1, .tup ds => okEA k ds
  | k + 1, .lst ds => okEA k ds
  | _, _ => false
def okEA : Nat → List D → Bool
  | _, [] => true
  | k, d :: ds => okE k d && okEA k ds
end
theorem okEA_cons {k : Nat} {d : D} {ds : List D} : okEA k (d :: ds) = (okE k d && okEA k ds) := by cases k <;> rfl
theorem okEA_nil {k : Nat} : okEA k [] = true := by cases k <;> rfl
theorem okEA_iff {k : Nat} {P : List D} : okEA k P = true ↔ ∀ x ∈ P, okE k x = true := by
  induction P with
  | nil => simp [okEA_nil]
  | cons y P ih => rw [okEA_cons, Bool.and_eq_true, ih]; simp
mutual
theorem okE_okD : ∀ (k : Nat) (d : D), okE k d = true → okD k d = true
  | 0, .non, _ => rfl
  | _ + 1, .non, _ => rfl
  | 0, .int _, _ => rfl
  | _ + 1, .int _, _ => rfl
  | 0, .str _, h => h
  | _ + 1, .str _, h => h
  | k + 1, .tup ds, h => okEA_okA k ds h
  | k + 1, .lst ds, h => okEA_okA k ds h
  | 0, .bl _, h => (nomatch h)
  | 0, .tup _, h => (nomatch h)
  | 0, .rtup _, h => (nomatch h)
  | 0, .lst _, h => (nomatch h)
  | 0, .rol _, h => (nomatch h)
  | 0, .ins _ _ _, h => (nomatch h)
  | 0, .dk _ _, h => (nomatch h)
  | 0, .dt _ _, h => (nomatch h)
  | 0, .op _, h => (nomatch h)
  | _ + 1, .bl _, h => (nomatch h)
  | _ + 1, .rtup _, h => (nomatch h)
  | _ + 1, .rol _, h => (nomatch h)
  | _ + 1, .ins _ _ _, h => (nomatch h)
  | _ + 1, .dk _ _, h => (nomatch h)
  | _ + 1, .dt _ _, h => (nomatch h)
  | _ + 1, .op _, h => (nomatch h)
theorem okEA_okA : ∀ (k : Nat) (ds : List D), okEA k ds = true → okA k ds = true
  | 0, [], _ => rfl
  | _ + 1, [], _ => rfl
  | k, d :: ds, h => by
    rw [okEA_cons, Bool.and_eq_true] at h
    rw [okA_cons, okE_okD k d h.1, okEA_okA k ds h.2]
    rfl
end

theorem py_tup {ds : List D} {p : PyData} (h : (D.tup ds).py = some p) : ∃ ps, pyA ds = some ps ∧ p = .tuple ps := by
  simp only [D.py] at h
  obtain ⟨ps, q1, q2⟩ := Option.map_eq_some_iff.mp h
  exact ⟨ps, q1, q2.symm⟩
theorem py_lst' {ds : List D} {p : PyData} (h : (D.lst ds).py = some p) : ∃ ps, pyA ds = some ps ∧ p = .list ps := by
  simp only [D.py] at h
  obtain ⟨ps, q1, q2⟩ := Option.map_eq_some_iff.mp h
  exact ⟨ps, q1, q2.symm⟩
theorem pyA_cons {d : D} {ds : List D} {ps : List PyData} (h : pyA (d :: ds) = some ps) : ∃ p ps', d.py = some p ∧ pyA ds = some ps' ∧ ps = p :: ps' := by
  unfold pyA at h
  split at h
  · rename_i p ps' h1 h2
    cases h
    exact ⟨_, _, h1, h2, rfl⟩
  · cases h
theorem pyA_nil {ps : List PyData} (h : pyA [] = some ps) : ps = [] := by
  cases h
  rfl
/-- what a plain data looks like -/
theorem okE_kind {k : Nat} {d : D} (h : okE k d = true) : d = .non ∨ (∃ i, d = .int i) ∨ (∃ s, d = .str s) ∨ (∃ ds k', d = .tup ds ∧ okEA k' ds = true ∧ k = k' + 1) ∨ ∃ ds k', d = .lst ds ∧ okEA k' ds = true ∧ k = k' + 1 := by
  cases d with
  | non => exact .inl rfl
  | int i => exact .inr (.inl ⟨i, rfl⟩)
  | str s => exact .inr (.inr (.inl ⟨s, rfl⟩))
  | tup ds => cases k with
    | zero => exact (nomatch h)
    | succ k => exact .inr (.inr (.inr (.inl ⟨ds, k, rfl, h, rfl⟩)))
  | lst ds => cases k with
    | zero => exact (nomatch h)
    | succ k => exact .inr (.inr (.inr (.inr ⟨ds, k, rfl, h, rfl⟩)))
  | _ => cases k <;> exact (nomatch h)
def SameD (k : Nat) : Prop := ∀ (l : Nat) (d e : D) (p q : PyData), okE k d = true → okE l e = true → d.py = some p → e.py = some q → PyData.eqv p q = true → d = e
theorem sameA {k : Nat} (h : SameD k) : ∀ (l : Nat) (ds es : List D) (ps qs : List PyData), okEA k ds = true → okEA l es = true → pyA ds = some ps → pyA es = some qs → PyData.eqvAll ps qs = true → ds = es
  | l, [], [], _, _, _, _, _, _, _ => rfl
  | l, [], e :: es, ps, qs, _, _, h1, h2, h3 => by
    cases pyA_nil h1
    obtain ⟨q, qs', _, _, rfl⟩ := pyA_cons h2
    exact (nomatch h3)
  | l, d :: ds, [], ps, qs, _, _, h1, h2, h3 => by
    cases pyA_nil h2
    obtain ⟨q, qs', _, _, rfl⟩ := pyA_cons h1
    exact (nomatch h3)
  | l, d :: ds, e :: es, ps, qs, a1, a2, h1, h2, h3 => by
    obtain ⟨p, ps', e1, e2, rfl⟩ := pyA_cons h1
    obtain ⟨q, qs', f1, f2, rfl⟩ := pyA_cons h2
    rw [okEA_cons, Bool.and_eq_true] at a1 a2
    have h3 : (PyData.eqv p q && PyData.eqvAll ps' qs') = true := by rw [← h3]; simp [PyData.eqvAll]
    rw [Bool.and_eq_true] at h3
    rw [h l d e p q a1.1 a2.1 e1 f1 h3.1, sameA h l ds es ps' qs' a1.2 a2.2 e2 f2 h3.2]
theorem sameD : ∀ k, SameD k := by
  intro k
  induction k with
  | zero => 
    intro l d e p q a1 a2 h1 h2 h3
    rcases okE_kind a1 with rfl | ⟨i, rfl⟩ | ⟨s, rfl⟩ | ⟨ds, k', rfl, b1, b2⟩ | ⟨ds, k', rfl, b1, b2⟩
    all_goals rcases okE_kind a2 with rfl | ⟨j, rfl⟩ | ⟨t, rfl⟩ | ⟨es, l', rfl, c1, c2⟩ | ⟨es, l', rfl, c1, c2⟩
    all_goals first | omega | skip
    all_goals first | (cases h1; cases h2; simp [PyData.eqv] at h3; first | rfl | (rw [h3]; done) | done) | skip
    all_goals first | (obtain ⟨qs, f1, rfl⟩ := py_tup h2; cases h1; simp [PyData.eqv] at h3; done) | skip
    all_goals (obtain ⟨qs, f1, rfl⟩ := py_lst' h2; cases h1; simp [PyData.eqv] at h3)
  | succ k ih =>
    intro l d e p q a1 a2 h1 h2 h3
    rcases okE_kind a1 with rfl | ⟨i, rfl⟩ | ⟨s, rfl⟩ | ⟨ds, k', rfl, b1, b2⟩ | ⟨ds, k', rfl, b1, b2⟩
    all_goals rcases okE_kind a2 with rfl | ⟨j, rfl⟩ | ⟨t, rfl⟩ | ⟨es, l', rfl, c1, c2⟩ | ⟨es, l', rfl, c1, c2⟩
    all_goals first | (cases h1; cases h2; simp [PyData.eqv] at h3; first | rfl | (rw [h3]; done) | done) | skip
    all_goals try obtain ⟨ps, e1, rfl⟩ := py_tup h1
    all_goals try obtain ⟨ps, e1, rfl⟩ := py_lst' h1
    all_goals try obtain ⟨qs, f1, rfl⟩ := py_tup h2
    all_goals try obtain ⟨qs, f1, rfl⟩ := py_lst' h2
    all_goals try cases h1
    all_goals try cases h2
    all_goals first | (simp [PyData.eqv] at h3; done) | skip
    all_goals (
      obtain rfl : k = k' := by omega
      have h3 : PyData.eqvAll ps qs = true := by rw [← h3]; simp [PyData.eqv]
      rw [sameA ih l' ds es ps qs b1 c1 e1 f1 h3])
section
open Classical
variable {cl : List Cell} {x y : D} {w1 w2 : W} {neg : Bool} {n m : Nat} {P Q : List D}
theorem eqvE_W (h1 : pyW cl w1 = x.py) (h2 : pyW cl w2 = y.py) (kx : okE 60 x = true) (ky : okE 60 y = true) : eqvD neg cl w1 w2 = some (.d (.bl (sg neg (decide (x = y)))), cl) := by
  obtain ⟨p, e, e1, e2⟩ := okD_shaped (okE_okD _ _ kx)
  obtain ⟨q, f, f1, f2⟩ := okD_shaped (okE_okD _ _ ky)
  have : PyData.eqv p q = decide (x = y) := by
    by_cases h : x = y
    · subst h
      rw [e] at f
      cases f
      rw [e2]
      simp
    · rw [decide_eq_false h]
      cases g : PyData.eqv p q with
      | false => rfl
      | true => exact absurd (sameD 60 60 x y p q kx ky e f g) h
  simp only [eqvD, h1, h2, e, f, e1, f1, this, sg]
  simp
theorem eqE_dd (kx : okE 60 x = true) (ky : okE 60 y = true) : eqvD neg cl (.d x) (.d y) = some (.d (.bl (sg neg (decide (x = y)))), cl) := eqvE_W rfl rfl kx ky
theorem eqE_cd (hc : cl[n]? = some (lstD P)) (kx : okE 60 (.lst P) = true) (ky : okE 60 (.lst Q) = true) : eqvD neg cl (.cel n) (.d (.lst Q)) = some (.d (.bl (sg neg (decide (P = Q)))), cl) := by
  rw [eqvE_W (pyW_c hc) rfl kx ky]
  simp
theorem eqE_dc (hc : cl[n]? = some (lstD P)) (kx : okE 60 (.lst P) = true) (ky : okE 60 (.lst Q) = true) : eqvD neg cl (.d (.lst Q)) (.cel n) = some (.d (.bl (sg neg (decide (Q = P)))), cl) := by
  rw [eqvE_W rfl (pyW_c hc) ky kx]
  simp
theorem eqE_cc (hc : cl[n]? = some (lstD P)) (hd : cl[m]? = some (lstD Q)) (kx : okE 60 (.lst P) = true) (ky : okE 60 (.lst Q) = true) : eqvD neg cl (.cel n) (.cel m) = some (.d (.bl (sg neg (decide (P = Q)))), cl) := by
  rw [eqvE_W (pyW_c hc) (pyW_c hd) kx ky]
  simp
end
end FL
/-! the end of a def over any store -/
namespace FL
open PySem PySem.Spec L2 PySem.PyData
theorem nodup_len : ∀ (n : Nat) (l : List Nat), l.Nodup → (∀ i ∈ l, i < n) → l.length ≤ n
  | 0, l, _, h => by
    cases l with
    | nil => simp
    | cons a l => exact absurd (h a (List.mem_cons_self)) (by omega)
  | n + 1, l, nd, h => by
    have h1 : (l.erase n).Nodup := nd.erase n
    have h2 : ∀ i ∈ l.erase n, i < n := fun i hi => by
      have q := (nd.mem_erase_iff).mp hi
      have := h i q.2
      omega
    have h3 := nodup_len n (l.erase n) h1 h2
    have h4 : l.length ≤ (l.erase n).length + 1 := by
      rw [List.length_erase]
      split <;> omega
    omega
theorem nodup_ed : ∀ (n : Nat) (l : List Nat), l.length ≤ n → l.eraseDups.Nodup ∧ ∀ x, x ∈ l.eraseDups ↔ x ∈ l
  | 0, l, h => by
    cases l with
    | nil => simp
    | cons a l => simp at h
  | n + 1, [], _ => by simp
  | n + 1, a :: l, h => by
    rw [List.eraseDups_cons]
    obtain ⟨h1, h2⟩ := nodup_ed n (l.filter fun b => !b == a) (by
      have := List.length_filter_le (fun b => !b == a) l
      simp only [List.length_cons] at h
      omega)
    refine ⟨List.nodup_cons.mpr ⟨fun q => ?_, h1⟩, fun x => ?_⟩
    · have := (h2 a).mp q
      simp at this
    · simp only [List.mem_cons, h2, List.mem_filter, Bool.not_eq_true', beq_eq_false_iff_ne]
      by_cases e : x = a <;> simp [e]
/-- every reference is to a cell of the store -/
def Wf (cl : List Cell) : Prop := ∀ i n, i < cl.length → n ∈ (cellAt cl i).refs → n < cl.length
theorem clos_ok {cl : List Cell} (wf : Wf cl) : ∀ (f : Nat) (ids : List Nat), ids.Nodup → (∀ i ∈ ids, i < cl.length) → cl.length < f + ids.length →
    (clos cl f ids).Nodup ∧ (∀ i ∈ clos cl f ids, i < cl.length) ∧ (∀ i ∈ clos cl f ids, ∀ n ∈ (cellAt cl i).refs, n ∈ clos cl f ids) ∧ ∃ t, clos cl f ids = ids ++ t
  | 0, ids, nd, hb, hf => absurd (nodup_len _ _ nd hb) (by omega)
  | f + 1, ids, nd, hb, hf => by
    obtain ⟨m1, m2⟩ := nodup_ed _ (ids.flatMap fun i => (cellAt cl i).refs) (Nat.le_refl _)
    unfold clos
    generalize hm : ((ids.flatMap fun i => (cellAt cl i).refs).eraseDups.filter fun n => !ids.contains n) = more
    have n1 : more.Nodup := by rw [← hm]; exact m1.filter _
    have n2 : ∀ x, x ∈ more ↔ (∃ i ∈ ids, x ∈ (cellAt cl i).refs) ∧ x ∉ ids := fun x => by
      rw [← hm, List.mem_filter, m2]
      simp
    simp only
    split
    · rename_i h0
      rw [List.isEmpty_iff] at h0
      subst h0
      refine ⟨nd, hb, fun i hi n hn => ?_, [], by simp⟩
      by_cases q : n ∈ ids
      · exact q
      · exact absurd ((n2 n).mpr ⟨⟨i, hi, hn⟩, q⟩) (by simp)
    · rename_i h0
      have hl : 0 < more.length := by
        cases more with
        | nil => simp at h0
        | cons _ _ => simp
      have nd2 : (ids ++ more).Nodup := List.nodup_append.mpr ⟨nd, n1, fun x hx y hy e => by
        subst e
        exact ((n2 x).mp hy).2 hx⟩
      have hb2 : ∀ i ∈ ids ++ more, i < cl.length := fun i hi => by
        rcases List.mem_append.mp hi with h | h
        · exact hb i h
        · obtain ⟨⟨j, hj, hn⟩, _⟩ := (n2 i).mp h
          exact wf j i (hb j hj) hn
      obtain ⟨q1, q2, q3, t, q4⟩ := clos_ok wf f (ids ++ more) nd2 hb2 (by rw [List.length_append]; omega)
      exact ⟨q1, q2, q3, more ++ t, by rw [q4, List.append_assoc]⟩
structure FinP (m : Nat) (w : W) (cl : List Cell) (ids : List Nat) : Prop where
  nd : ids.Nodup
  inb : ∀ i ∈ ids, i < cl.length
  cls : ∀ i ∈ ids, ∀ n ∈ (cellAt cl i).refs, n ∈ ids
  tk : ids.take m = List.range m
  rf : ∀ n ∈ w.refs, n ∈ ids
  ml : m ≤ ids.length
theorem fin_any {m : Nat} {w : W} {cl : List Cell} (wf : Wf cl) (hm : m ≤ cl.length) (hw : ∀ n ∈ w.refs, n < cl.length) : ∃ ids, fin m w cl = some (w.mapc (ix ids), FL.part cl ids) ∧ FinP m w cl ids := by
  obtain ⟨e1, e2⟩ := nodup_ed _ (w.refs.filter fun n => decide (m ≤ n)) (Nat.le_refl _)
  generalize hr : (w.refs.filter fun n => decide (m ≤ n)).eraseDups = rs at e1 e2
  have n0 : (List.range m ++ rs).Nodup := List.nodup_append.mpr ⟨List.nodup_range, e1, fun x hx y hy e => by
    subst e
    have := (e2 x).mp hy
    simp at this hx
    omega⟩
  have b0 : ∀ i ∈ List.range m ++ rs, i < cl.length := fun i hi => by
    rcases List.mem_append.mp hi with h | h
    · have := List.mem_range.mp h
      omega
    · have := (e2 i).mp h
      exact hw i (List.mem_filter.mp this).1
  obtain ⟨q1, q2, q3, t, q4⟩ := clos_ok wf (cl.length + 1) _ n0 b0 (by omega)
  have tk : (clos cl (cl.length + 1) (List.range m ++ rs)).take m = List.range m := by
    rw [q4, List.append_assoc, List.take_append_of_le_length (by simp), List.take_of_length_le (by simp)]
  have rf : ∀ n ∈ w.refs, n ∈ clos cl (cl.length + 1) (List.range m ++ rs) := fun n hn => by
    rw [q4]
    refine List.mem_append_left _ ?_
    by_cases h : n < m
    · exact List.mem_append_left _ (List.mem_range.mpr h)
    · exact List.mem_append_right _ ((e2 n).mpr (List.mem_filter.mpr ⟨hn, by simpa using h⟩))
  refine ⟨_, ?_, ⟨q1, q2, q3, tk, rf, by rw [q4]; simp⟩⟩
  have ip : isPart cl (clos cl (cl.length + 1) (List.range m ++ rs)) = true := by
    simp only [isPart, Bool.and_eq_true, decide_eq_true_eq, List.all_eq_true, List.contains_iff_mem]
    exact ⟨q1, fun i hi => ⟨q2 i hi, fun n hn => q3 i hi n hn⟩⟩
  unfold fin
  simp only [hr, ip, tk]
  rw [if_pos (by simp only [Bool.and_eq_true, decide_true, Bool.true_and, and_true, List.all_eq_true, List.contains_iff_mem]; first | done | exact rf)]
theorem ix_lt {ids : List Nat} {m j : Nat} (nd : ids.Nodup) (tk : ids.take m = List.range m) (hm : m ≤ ids.length) (hj : j ∈ ids) : ix ids j < m ↔ j < m := by
  have g := ix_get hj
  have at1 : ∀ i, i < m → ids[i]? = some i := fun i hi => by
    have : (ids.take m)[i]? = some i := by rw [tk]; simp [hi]
    rwa [List.getElem?_take_of_lt hi] at this
  constructor
  · intro h
    rw [at1 _ h] at g
    have e := Option.some.inj g
    omega
  · intro h
    have h1 := at1 j h
    have h2 := (List.getElem?_eq_some_iff.mp g)
    have h3 := (List.getElem?_eq_some_iff.mp h1)
    obtain ⟨l2, e2⟩ := h2
    obtain ⟨l3, e3⟩ := h3
    have : ix ids j = j := (List.getElem_inj nd).mp (e2.trans e3.symm)
    omega
theorem purW_part {m : Nat} {cl : List Cell} {ids : List Nat} {w0 : W} (p : FinP m w0 cl ids) : ∀ (k : Nat) (w : W), (∀ n ∈ w.refs, n ∈ ids) → purW (FL.part cl ids) m k (w.mapc (ix ids)) = purW cl m k w := by
  intro k
  induction k with
  | zero =>
    intro w _
    cases w <;> rfl
  | succ k ih =>
    have ihA : ∀ ws : List W, (∀ n ∈ refsA ws, n ∈ ids) → (mapcA (ix ids) ws).mapM (purW (FL.part cl ids) m k) = ws.mapM (purW cl m k) := by
      intro ws
      induction ws with
      | nil => intro _; rfl
      | cons x ws ihw =>
        intro h
        have h1 := ih x (fun n hn => h n (List.mem_append_left _ hn))
        have h2 := ihw (fun n hn => h n (List.mem_append_right _ hn))
        show ((x.mapc (ix ids)) :: mapcA (ix ids) ws).mapM _ = _
        rw [List.mapM_cons, List.mapM_cons, h1, h2]
    intro w hw
    cases w with
    | d x => rfl
    | tup ws =>
      show ((mapcA (ix ids) ws).mapM (purW (FL.part cl ids) m k)).map D.tup = (ws.mapM (purW cl m k)).map D.tup
      rw [ihA ws hw]
    | cel j =>
      have hj : j ∈ ids := hw j (by simp)
      have g : (FL.part cl ids)[ix ids j]? = some ((cellAt cl j).mapc (ix ids)) := by
        unfold FL.part
        rw [List.getElem?_map, ix_get hj]
        rfl
      have g2 : cl[j]? = some (cellAt cl j) := by
        have := p.inb j hj
        simp [cellAt, this]
      have lt := ix_lt p.nd p.tk p.ml hj
      have rf := p.cls j hj
      show (if ix ids j < m then Option.none else _) = if j < m then Option.none else _
      by_cases h : j < m
      · rw [if_pos h, if_pos (lt.mpr h)]
      · rw [if_neg h, if_neg (fun q => h (lt.mp q)), g, g2]
        generalize cellAt cl j = c at rf
        cases c with
        | lst ws => exact congrArg (Option.map D.lst) (ihA ws rf)
        | dk ks ws => exact congrArg (Option.map (D.dk ks)) (ihA ws rf)
        | dt ks ws => exact congrArg (Option.map (D.dt ks)) (ihA ws rf)
        | ins C fs ws => exact congrArg (Option.map (D.ins C fs)) (ihA ws rf)
        | gone => rfl
/-- a leaf: refers to no cell -/
def Leaf (c : Cell) : Prop := c.refs = [] ∧ ∀ f, c.mapc f = c
theorem leaf_lst {P : List D} : Leaf (lstD P) := ⟨lstD_refs, fun _ => lstD_mapc⟩
theorem callP_fin {f : OpN} {cl st st0 : List Cell} {ws ws0 : List W} {ids : List Nat} {x : D} {w : W} (h1 : idsOf cl ws = ids) (h2 : isPart cl ids = true) (h3 : ((refsA ws).all fun n => ids.contains n) = true) (h4 : FL.part cl ids = st0) (h5 : mapcA (ix ids) ws = ws0)
    (h6 : f st0 ws0 = fin ids.length w st) (wf : Wf st) (hl : ids.length ≤ st.length) (hw : ∀ n ∈ w.refs, n < st.length) (hx : purW st ids.length 8 w = some x) (hf : ∀ i, i < ids.length → Leaf (cellAt st i)) : callC false f cl ws = some (.d x, setAll cl ids (st.take ids.length)) := by
  obtain ⟨js, e, p⟩ := fin_any wf hl hw
  show oCallP f cl ws = _
  have e7 : (FL.part st js).take ids.length = st.take ids.length := by
    apply List.ext_getElem?
    intro i
    by_cases hi : i < ids.length
    · have g : js[i]? = some i := by
        have : (js.take ids.length)[i]? = some i := by rw [p.tk]; simp [hi]
        rwa [List.getElem?_take_of_lt hi] at this
      rw [List.getElem?_take_of_lt hi, List.getElem?_take_of_lt hi]
      unfold FL.part
      rw [List.getElem?_map, g]
      have l2 : i < st.length := by omega
      show some ((cellAt st i).mapc _) = _
      rw [(hf i hi).2]
      simp [cellAt, l2]
    · rw [List.getElem?_eq_none (by simp; omega), List.getElem?_eq_none (by simp; omega)]
  have e8 : purW (FL.part st js) ids.length 8 (w.mapc (ix js)) = some x := by rw [purW_part p 8 w p.rf, hx]
  have e9 : ((st.take ids.length).all fun c => c.refs.all fun n => decide (n < ids.length)) = true := by
    rw [List.all_eq_true]
    intro c hc
    obtain ⟨i, hi⟩ := List.getElem?_of_mem hc
    have l1 : i < ids.length := by
      have := (List.getElem?_eq_some_iff.mp hi).1
      simp at this
      omega
    have l2 : i < st.length := by omega
    rw [List.getElem?_take_of_lt l1] at hi
    have : c = cellAt st i := by simp [cellAt, hi]
    rw [this, (hf i l1).1]
    rfl
  have e10 : merge cl ids (st.take ids.length) = setAll cl ids (st.take ids.length) := by
    unfold merge
    rw [List.take_take, Nat.min_self, List.drop_take]
    simp
    congr 1
    apply List.ext_getElem?
    intro i
    by_cases hi : i < ids.length
    · have l2 : i < st.length := by omega
      have q := (hf i hi).2 (back cl.length ids)
      rw [List.getElem?_take_of_lt hi, List.getElem?_take_of_lt hi, List.getElem?_map]
      have : st[i]? = some (cellAt st i) := by simp [cellAt, l2]
      rw [this]
      show some _ = _
      rw [q]
    · rw [List.getElem?_eq_none (by simp; omega), List.getElem?_eq_none (by simp; omega)]
  simp only [oCallP, h1]
  rw [if_pos (by rw [h2, h3]; rfl), h4, h5, h6, e]
  simp only [e8, e7, e9, e10]
  rfl
/-! ### statements, one by one -/
def Ht (I : Rho → Prop) (s : G) (J : Rho → Prop) : Prop := ∀ r, I r → ∃ r', s r = some (.nx r') ∧ J r'
theorem Ht.seq {I J L : Rho → Prop} {s t : G} (h : Ht I s J) (k : Ht J t L) : Ht I (sSeq s t) L := fun r hr => by
  obtain ⟨r1, e1, h1⟩ := h r hr
  obtain ⟨r2, e2, h2⟩ := k r1 h1
  exact ⟨r2, by rw [ev_sSeq, e1]; exact e2, h2⟩
theorem Ht.skip {I : Rho → Prop} : Ht I sNil I := fun r hr => ⟨r, rfl, hr⟩
theorem Ht.ite {I J : Rho → Prop} {p : MB} {s t : G} (h : ∀ r, I r → ∃ b r1, p r = some (b, r1) ∧ ∃ r', (if b then s r1 else t r1) = some (.nx r') ∧ J r') : Ht I (sIf p s t) J := fun r hr => by
  obtain ⟨b, r1, e1, r', e2, h2⟩ := h r hr
  exact ⟨r', by rw [ev_sIf, e1]; exact e2, h2⟩
theorem Ht.weak {I I' J J' : Rho → Prop} {s : G} (h : Ht I s J) (h1 : ∀ r, I' r → I r) (h2 : ∀ r, J r → J' r) : Ht I' s J' := fun r hr => by
  obtain ⟨r1, e1, q⟩ := h r (h1 r hr)
  exact ⟨r1, e1, h2 _ q⟩
end FL
/-! slices and sums of lists -/
namespace FL
open PySem PySem.Spec L2 PySem.PyData
section
variable {cl : List Cell} {n i : Nat} {P Q : List D} {x y : D}
theorem cut_to {ws : List W} : cutW ws Option.none (some (i : Int)) = ws.take i := by
  unfold cutW
  rw [HT.sIx_none, HT.sIx_nat, List.drop_zero, Nat.sub_zero]
  by_cases h : i ≤ ws.length
  · rw [Nat.min_eq_left h]
  · rw [Nat.min_eq_right (by omega), List.take_length, List.take_of_length_le (by omega)]
theorem cut_from {ws : List W} : cutW ws (some (i : Int)) Option.none = ws.drop i := by
  unfold cutW
  rw [HT.sIx_none, HT.sIx_nat]
  by_cases h : i ≤ ws.length
  · rw [Nat.min_eq_left h, ← List.length_drop, List.take_length]
  · rw [Nat.min_eq_right (by omega), List.drop_length, List.drop_of_length_le (by omega)]
    simp
theorem slTo_c (h : cl[n]? = some (lstD P)) : dSl false cl (.cel n) Option.none (some (i : Int)) = some (.d (.lst (P.take i)), cl) := by
  simp [dSl, asTupP, asList, h, lstD, cut_to, FL.fresh, ← List.map_take]
theorem slFrom_c (h : cl[n]? = some (lstD P)) : dSl false cl (.cel n) (some (i : Int)) Option.none = some (.d (.lst (P.drop i)), cl) := by
  simp [dSl, asTupP, asList, h, lstD, cut_from, FL.fresh, ← List.map_drop]
theorem slTo_d : dSl false cl (.d (.lst P)) Option.none (some (i : Int)) = some (.d (.lst (P.take i)), cl) := by
  simp [dSl, asTupP, asList, cut_to, FL.fresh, ← List.map_take]
theorem slFrom_d : dSl false cl (.d (.lst P)) (some (i : Int)) Option.none = some (.d (.lst (P.drop i)), cl) := by
  simp [dSl, asTupP, asList, cut_from, FL.fresh, ← List.map_drop]
theorem rev_c (h : cl[n]? = some (lstD P)) : dRev false cl (.cel n) = some (.d (.lst P.reverse), cl) := by
  simp [dRev, asList, h, lstD, FL.fresh, ← List.map_reverse]
theorem rev_d : dRev false cl (.d (.lst P)) = some (.d (.lst P.reverse), cl) := by
  simp [dRev, asList, FL.fresh, ← List.map_reverse]
theorem add_cd (h : cl[n]? = some (lstD P)) (hl : P.length + Q.length ≤ sizeLine) : dAdd false cl (.cel n) (.d (.lst Q)) = some (.d (.lst (P ++ Q)), cl) := by
  have e : P.map W.d ++ Q.map W.d = (P ++ Q).map W.d := by simp
  simp only [dAdd, asTupP, asOwn, h, lstD]
  rw [if_pos (by simpa using hl), e]
  simp only [FL.fresh, datas_m]
  rfl
theorem add_dd (hl : P.length + Q.length ≤ sizeLine) : dAdd false cl (.d (.lst P)) (.d (.lst Q)) = some (.d (.lst (P ++ Q)), cl) := by
  have e : P.map W.d ++ Q.map W.d = (P ++ Q).map W.d := by simp
  simp only [dAdd, asTupP, asOwn]
  rw [if_pos (by simpa using hl), e]
  simp only [FL.fresh, datas_m]
  rfl
theorem lst1 : oLst false cl [.d x] = some (.d (.lst [x]), cl) := by
  simp [oLst, FL.fresh, datas, show sizeLine = 16777216 from rfl]
theorem lst2 : oLst false cl [.d x, .d y] = some (.d (.lst [x, y]), cl) := by
  simp [oLst, FL.fresh, datas, show sizeLine = 16777216 from rfl]
theorem lst0 : oLst false cl [] = some (.d (.lst []), cl) := by
  simp [oLst, FL.fresh, datas]
theorem tup2 : oTup cl [.d x, .d y] = some (.d (.tup [x, y]), cl) := by
  simp [oTup, tupW, datas, show sizeLine = 16777216 from rfl]
end
end FL
/-! calls that change nothing, over any store -/
namespace FL
open PySem PySem.Spec L2 PySem.PyData
mutual
theorem mapc_id {f : Nat → Nat} : ∀ w : W, (∀ n ∈ w.refs, f n = n) → w.mapc f = w
  | .d _, _ => rfl
  | .cel n, h => by
    show W.cel (f n) = _
    rw [h n (by simp)]
  | .tup ws, h => by
    show W.tup (mapcA f ws) = _
    rw [mapcA_id ws h]
theorem mapcA_id {f : Nat → Nat} : ∀ ws : List W, (∀ n ∈ refsA ws, f n = n) → mapcA f ws = ws
  | [], _ => rfl
  | w :: ws, h => by
    show w.mapc f :: mapcA f ws = _
    rw [mapc_id w (fun n hn => h n (List.mem_append_left _ hn)), mapcA_id ws (fun n hn => h n (List.mem_append_right _ hn))]
end
theorem cmapc_id {f : Nat → Nat} {c : Cell} (h : ∀ n ∈ c.refs, f n = n) : c.mapc f = c := by
  cases c with
  | gone => rfl
  | lst ws => exact congrArg Cell.lst (mapcA_id ws h)
  | dk ks ws => exact congrArg (Cell.dk ks) (mapcA_id ws h)
  | dt ks ws => exact congrArg (Cell.dt ks) (mapcA_id ws h)
  | ins C fs ws => exact congrArg (Cell.ins C fs) (mapcA_id ws h)
mutual
theorem mapc_mapc {f g : Nat → Nat} : ∀ w : W, (w.mapc f).mapc g = w.mapc fun n => g (f n)
  | .d _ => rfl
  | .cel n => rfl
  | .tup ws => by
    show W.tup (mapcA g (mapcA f ws)) = W.tup _
    rw [mapcA_mapcA ws]
theorem mapcA_mapcA {f g : Nat → Nat} : ∀ ws : List W, mapcA g (mapcA f ws) = mapcA (fun n => g (f n)) ws
  | [] => rfl
  | w :: ws => by
    show (w.mapc f).mapc g :: mapcA g (mapcA f ws) = w.mapc _ :: mapcA _ ws
    rw [mapc_mapc w, mapcA_mapcA ws]
end
theorem cmapc_cmapc {f g : Nat → Nat} {c : Cell} : (c.mapc f).mapc g = c.mapc fun n => g (f n) := by
  cases c with
  | gone => rfl
  | lst ws => exact congrArg Cell.lst (mapcA_mapcA ws)
  | dk ks ws => exact congrArg (Cell.dk ks) (mapcA_mapcA ws)
  | dt ks ws => exact congrArg (Cell.dt ks) (mapcA_mapcA ws)
  | ins C fs ws => exact congrArg (Cell.ins C fs) (mapcA_mapcA ws)
mutual
theorem refs_mapc {f : Nat → Nat} : ∀ w : W, (w.mapc f).refs = w.refs.map f
  | .d _ => rfl
  | .cel n => rfl
  | .tup ws => refsA_mapcA ws
theorem refsA_mapcA {f : Nat → Nat} : ∀ ws : List W, refsA (mapcA f ws) = (refsA ws).map f
  | [] => rfl
  | w :: ws => by
    show (w.mapc f).refs ++ refsA (mapcA f ws) = (w.refs ++ refsA ws).map f
    rw [refs_mapc w, refsA_mapcA ws, List.map_append]
end
theorem crefs_mapc {f : Nat → Nat} {c : Cell} : (c.mapc f).refs = c.refs.map f := by
  cases c with
  | gone => rfl
  | lst ws => exact refsA_mapcA ws
  | dk ks ws => exact refsA_mapcA ws
  | dt ks ws => exact refsA_mapcA ws
  | ins C fs ws => exact refsA_mapcA ws
theorem fin_same {cl : List Cell} {x : D} (wf : Wf cl) : fin cl.length (.d x) cl = some (.d x, cl) := by
  obtain ⟨ids, e, p⟩ := fin_any (m := cl.length) (w := .d x) wf (Nat.le_refl _) (by simp)
  have hl : ids.length ≤ cl.length := nodup_len _ _ p.nd p.inb
  have hr : ids = List.range cl.length := by rw [← p.tk, List.take_of_length_le hl]
  rw [e]
  have : FL.part cl ids = cl := by
    apply List.ext_getElem?
    intro i
    unfold FL.part
    rw [List.getElem?_map]
    by_cases hi : i < cl.length
    · have g : ids[i]? = some i := by rw [hr]; simp [hi]
      rw [g]
      show some ((cellAt cl i).mapc (ix ids)) = _
      rw [cmapc_id fun n hn => ?_]
      · simp [cellAt, hi]
      · have hn2 : n ∈ ids := p.cls i (by rw [hr]; simpa using hi) n hn
        have q := ix_get hn2
        have lt : ix ids n < cl.length := by
          have := (List.getElem?_eq_some_iff.mp q).1
          omega
        rw [hr] at q
        rw [hr]
        rw [hr] at lt
        rw [List.getElem?_range lt] at q
        exact Option.some.inj q
    · rw [List.getElem?_eq_none (by omega), List.getElem?_eq_none (by omega)]
      rfl
  rw [this]
  rfl
theorem ids_part {cl : List Cell} {ws : List W} (wf : Wf cl) (hw : ∀ n ∈ refsA ws, n < cl.length) : (idsOf cl ws).Nodup ∧ (∀ i ∈ idsOf cl ws, i < cl.length) ∧ (∀ i ∈ idsOf cl ws, ∀ n ∈ (cellAt cl i).refs, n ∈ idsOf cl ws) ∧ ∀ n ∈ refsA ws, n ∈ idsOf cl ws := by
  obtain ⟨e1, e2⟩ := nodup_ed _ (refsA ws) (Nat.le_refl _)
  obtain ⟨q1, q2, q3, t, q4⟩ := clos_ok wf (cl.length + 1) _ e1 (fun i hi => hw i ((e2 i).mp hi)) (by omega)
  exact ⟨q1, q2, q3, fun n hn => by unfold idsOf; rw [q4]; exact List.mem_append_left _ ((e2 n).mpr hn)⟩
theorem isPart_of3 {cl : List Cell} {ids : List Nat} (nd : ids.Nodup) (inb : ∀ i ∈ ids, i < cl.length) (cls : ∀ i ∈ ids, ∀ n ∈ (cellAt cl i).refs, n ∈ ids) : isPart cl ids = true := by
  simp only [isPart, Bool.and_eq_true, decide_eq_true_eq, List.all_eq_true, List.contains_iff_mem]
  exact ⟨nd, fun i hi => ⟨inb i hi, fun n hn => cls i hi n hn⟩⟩
theorem part_at {cl : List Cell} {ids : List Nat} {n : Nat} (h : n ∈ ids) : (FL.part cl ids)[ix ids n]? = some ((cellAt cl n).mapc (ix ids)) := by
  unfold FL.part
  rw [List.getElem?_map, ix_get h]
  rfl
theorem part_wf {cl : List Cell} {ids : List Nat} (cls : ∀ i ∈ ids, ∀ n ∈ (cellAt cl i).refs, n ∈ ids) : Wf (FL.part cl ids) := fun i n hi hn => by
  have hl : (FL.part cl ids).length = ids.length := by simp [FL.part]
  rw [hl] at hi ⊢
  have : cellAt (FL.part cl ids) i = (cellAt cl ids[i]).mapc (ix ids) := by
    unfold cellAt FL.part
    rw [List.getElem?_map, List.getElem?_eq_getElem hi]
    rfl
  rw [this, crefs_mapc] at hn
  obtain ⟨m, hm, rfl⟩ := List.mem_map.mp hn
  have := cls _ (List.getElem_mem hi) m hm
  exact List.idxOf_lt_length_of_mem this
theorem setAll_same : ∀ (ids : List Nat) (cl : List Cell), (∀ i ∈ ids, i < cl.length) → setAll cl ids (ids.map (cellAt cl)) = cl
  | [], cl, _ => by simp [setAll]
  | i :: ids, cl, h => by
    have hi := h i List.mem_cons_self
    have e : cl.set i (cellAt cl i) = cl := set_same (by simp [cellAt, hi])
    show setAll (cl.set i (cellAt cl i)) ids (ids.map (cellAt cl)) = cl
    rw [e]
    exact setAll_same ids cl fun j hj => h j (List.mem_cons_of_mem _ hj)
theorem merge_part {cl : List Cell} {ids : List Nat} (inb : ∀ i ∈ ids, i < cl.length) (cls : ∀ i ∈ ids, ∀ n ∈ (cellAt cl i).refs, n ∈ ids) : merge cl ids (FL.part cl ids) = cl := by
  have hl : (FL.part cl ids).length = ids.length := by simp [FL.part]
  unfold merge
  rw [← hl, List.take_length, List.drop_length]
  have : (FL.part cl ids).map (Cell.mapc (back cl.length ids)) = ids.map (cellAt cl) := by
    unfold FL.part
    rw [List.map_map]
    apply List.map_congr_left
    intro i hi
    show ((cellAt cl i).mapc (ix ids)).mapc _ = _
    rw [cmapc_cmapc, cmapc_id]
    intro n hn
    have q := ix_get (cls i hi n hn)
    have lt := (List.getElem?_eq_some_iff.mp q).1
    unfold back
    rw [if_pos lt, q]
    rfl
  rw [this, setAll_same ids cl inb]
  simp
/-- a call that changes no cell -/
theorem call_pure {f : OpN} {cl : List Cell} {ws : List W} {x : D} (wf : Wf cl) (hw : ∀ n ∈ refsA ws, n < cl.length)
    (h : ∀ (st : List Cell) (ids : List Nat), Wf st → (∀ n ∈ refsA ws, n ∈ ids) → (∀ n ∈ ids, ∀ m ∈ (cellAt cl n).refs, m ∈ ids) → (∀ n ∈ ids, st[ix ids n]? = some ((cellAt cl n).mapc (ix ids))) → f st (mapcA (ix ids) ws) = some (.d x, st)) : callC false f cl ws = some (.d x, cl) := by
  obtain ⟨nd, inb, cls, rf⟩ := ids_part wf hw
  generalize hi : idsOf cl ws = ids at nd inb cls rf
  have hl : (FL.part cl ids).length = ids.length := by simp [FL.part]
  refine callP_of hi (isPart_of3 nd inb cls) (by rw [List.all_eq_true]; intro n hn; exact List.contains_iff_mem.mpr (rf n hn)) rfl rfl (h _ ids (part_wf cls) rf cls fun n hn => part_at hn) hl ?_ (merge_part inb cls)
  rw [List.all_eq_true]
  intro c hc
  rw [List.all_eq_true]
  intro n hn
  obtain ⟨i, hi⟩ := List.getElem?_of_mem hc
  have lt := (List.getElem?_eq_some_iff.mp hi).1
  have := part_wf cls i n lt (by simpa [cellAt, hi] using hn)
  simpa [hl] using this
end FL
/-! stores; calls that make one new list -/
namespace FL
open PySem PySem.Spec L2 PySem.PyData
theorem wf_set {cl : List Cell} (h : Wf cl) (i : Nat) (c : Cell) (hc : ∀ n ∈ c.refs, n < cl.length) : Wf (cl.set i c) := fun j n hj hn => by
  rw [List.length_set] at hj ⊢
  by_cases e : i = j
  · subst e
    have : cellAt (cl.set i c) i = c := by simp [cellAt, List.getElem?_set_self, hj]
    rw [this] at hn
    exact hc n hn
  · have : cellAt (cl.set i c) j = cellAt cl j := by simp [cellAt, List.getElem?_set_ne e]
    rw [this] at hn
    exact h j n hj hn
theorem wf_app {cl : List Cell} (h : Wf cl) (ds : List Cell) (hd : ∀ c ∈ ds, ∀ n ∈ c.refs, n < cl.length + ds.length) : Wf (cl ++ ds) := fun j n hj hn => by
  rw [List.length_append] at hj ⊢
  by_cases e : j < cl.length
  · have : cellAt (cl ++ ds) j = cellAt cl j := by simp [cellAt, List.getElem?_append_left e]
    rw [this] at hn
    have := h j n e hn
    omega
  · have : cellAt (cl ++ ds) j = cellAt ds (j - cl.length) := by simp [cellAt, List.getElem?_append_right (Nat.le_of_not_lt e)]
    rw [this] at hn
    have l : j - cl.length < ds.length := by omega
    refine hd _ ?_ n hn
    simp [cellAt, l]
theorem wf_lst {cl : List Cell} (h : Wf cl) (Q : List D) : Wf (cl ++ [lstD Q]) := wf_app h _ fun c hc k hk => by
  rw [List.mem_singleton] at hc
  subst hc
  simp at hk
theorem fin0 {cl : List Cell} {x : D} : fin 0 (.d x) cl = some (.d x, []) := by
  have e : clos cl (cl.length + 1) (List.range 0 ++ []) = [] := rfl
  unfold fin
  simp only [wrefs_d, List.filter_nil, List.eraseDups_nil, e]
  rfl

theorem fin_range {cl st : List Cell} {m : Nat} {w : W} (wf : Wf st) (hm : m ≤ st.length) (hw : ∀ n ∈ w.refs, n < st.length) (hall : ∀ ids, ids.Nodup → (∀ i ∈ ids, i < st.length) → ids.take m = List.range m → m ≤ ids.length → (∀ n ∈ w.refs, n ∈ ids) → ids = List.range st.length) : fin m w st = some (w, st) := by
  obtain ⟨ids, e, p⟩ := fin_any wf hm hw
  have hr := hall ids p.nd p.inb p.tk p.ml p.rf
  have hix : ∀ n, n < st.length → ix ids n = n := fun n hn => by
    have q := ix_get (ids := ids) (n := n) (by rw [hr]; simpa using hn)
    have lt := (List.getElem?_eq_some_iff.mp q).1
    rw [hr] at lt q ⊢
    rw [List.getElem?_range (by simpa using lt)] at q
    exact Option.some.inj q
  rw [e, mapc_id w fun n hn => hix n (hw n hn)]
  have : FL.part st ids = st := by
    apply List.ext_getElem?
    intro i
    unfold FL.part
    rw [List.getElem?_map]
    by_cases hi : i < st.length
    · have g : ids[i]? = some i := by rw [hr]; simp [hi]
      rw [g]
      show some ((cellAt st i).mapc (ix ids)) = _
      rw [cmapc_id fun n hn => hix n (wf i n hi hn)]
      simp [cellAt, hi]
    · have : ids.length = st.length := by rw [hr]; simp
      rw [List.getElem?_eq_none (by omega), List.getElem?_eq_none (by omega)]
      rfl
  rw [this]
theorem fin_new {st : List Cell} {Q : List D} (wf : Wf st) : fin st.length (.cel st.length) (st ++ [lstD Q]) = some (.cel st.length, st ++ [lstD Q]) := by
  refine fin_range (cl := st) (wf_lst wf Q) (by simp) (by intro n hn; simp at hn; simp; omega) fun ids nd inb tk ml rf => ?_
  have hm : st.length ∈ ids := rf _ (by simp)
  have le : ids.length ≤ st.length + 1 := by
    have := nodup_len _ ids nd inb
    simpa using this
  have e1 : ids = List.range st.length ++ ids.drop st.length := by rw [← tk, List.take_append_drop]
  have ne : st.length ∈ ids.drop st.length := by
    rw [e1] at hm
    rcases List.mem_append.mp hm with h | h
    · simp at h
    · exact h
  have l1 : (ids.drop st.length).length ≤ 1 := by simp; omega
  match hd : ids.drop st.length, ne, l1 with
  | [x], ne, _ =>
    rw [List.mem_singleton] at ne
    rw [e1, hd, ← ne, List.length_append, List.length_singleton, List.range_succ]
  | x :: y :: _, _, l1 => simp at l1
section
variable {f : OpN} {cl : List Cell} {ws : List W} {Q : List D}
/-- a call that makes one new list, and changes no cell -/
theorem call_newT (wf : Wf cl) (hw : ∀ n ∈ refsA ws, n < cl.length)
    (h : ∀ (st : List Cell) (ids : List Nat), Wf st → (∀ n ∈ refsA ws, n ∈ ids) → (∀ n ∈ ids, ∀ m ∈ (cellAt cl n).refs, m ∈ ids) → (∀ n ∈ ids, st[ix ids n]? = some ((cellAt cl n).mapc (ix ids))) → f st (mapcA (ix ids) ws) = some (.cel st.length, st ++ [lstD Q])) : callC true f cl ws = some (.cel cl.length, cl ++ [lstD Q]) := by
  obtain ⟨nd, inb, cls, rf⟩ := ids_part wf hw
  generalize hi : idsOf cl ws = ids at nd inb cls rf
  have hl : (FL.part cl ids).length = ids.length := by simp [FL.part]
  have e := h _ ids (part_wf cls) rf cls fun n hn => part_at hn
  refine callT_of hi (isPart_of3 nd inb cls) (by rw [List.all_eq_true]; intro n hn; exact List.contains_iff_mem.mpr (rf n hn)) rfl rfl e (by simp [hl, back]) ?_
  have mp := merge_part inb cls
  unfold merge at mp ⊢
  rw [← hl, List.take_length, List.drop_length] at mp
  rw [← hl, List.take_left' rfl, List.drop_left' rfl]
  simp only [List.map_nil, List.append_nil] at mp
  rw [mp]
  simp
theorem call_newF (wf : Wf cl) (hw : ∀ n ∈ refsA ws, n < cl.length)
    (h : ∀ (st : List Cell) (ids : List Nat), Wf st → (∀ n ∈ refsA ws, n ∈ ids) → (∀ n ∈ ids, ∀ m ∈ (cellAt cl n).refs, m ∈ ids) → (∀ n ∈ ids, st[ix ids n]? = some ((cellAt cl n).mapc (ix ids))) → f st (mapcA (ix ids) ws) = some (.cel st.length, st ++ [lstD Q])) : callC false f cl ws = some (.d (.lst Q), cl) := by
  obtain ⟨nd, inb, cls, rf⟩ := ids_part wf hw
  generalize hi : idsOf cl ws = ids at nd inb cls rf
  have hl : (FL.part cl ids).length = ids.length := by simp [FL.part]
  have e := h _ ids (part_wf cls) rf cls fun n hn => part_at hn
  have em : ∀ ys : List D, (ys.map W.d).mapM (purW (FL.part cl ids ++ [lstD Q]) ids.length 7) = some ys := by
    intro ys
    induction ys with
    | nil => rfl
    | cons y ys ih => simp [List.mapM_cons, ih, purW]
  have g : (FL.part cl ids ++ [lstD Q])[ids.length]? = some (lstD Q) := by rw [← hl]; simp
  have ep : purW (FL.part cl ids ++ [lstD Q]) ids.length 8 (.cel ids.length) = some (.lst Q) := by
    show (if ids.length < ids.length then Option.none else _) = _
    rw [if_neg (Nat.lt_irrefl _), g]
    show Option.map D.lst (List.mapM (purW (FL.part cl ids ++ [lstD Q]) ids.length 7) (Q.map W.d)) = _
    rw [em]
    rfl
  have tk : (FL.part cl ids ++ [lstD Q]).take ids.length = FL.part cl ids := by rw [← hl, List.take_left' rfl]
  show oCallP f cl ws = _
  simp only [oCallP, hi]
  rw [if_pos (by rw [isPart_of3 nd inb cls, Bool.true_and, List.all_eq_true]; intro n hn; exact List.contains_iff_mem.mpr (rf n hn)), e]
  simp only [hl, ep, tk]
  rw [if_pos ?_, merge_part inb cls]
  rw [List.all_eq_true]
  intro c hc
  rw [List.all_eq_true]
  intro n hn
  obtain ⟨i, hi⟩ := List.getElem?_of_mem hc
  have lt := (List.getElem?_eq_some_iff.mp hi).1
  have := part_wf cls i n lt (by simpa [cellAt, hi] using hn)
  simpa [hl] using this
end
end FL
/-! dicts with texts as keys, as cells and as data -/
namespace FL
open PySem PySem.Spec L2
abbrev Kvs := List (Str × D)
def dkK (kvs : Kvs) : List Key := kvs.map fun p => Sum.inr p.1
def dkC (kvs : Kvs) : Cell := .dk (dkK kvs) (kvs.map fun p => W.d p.2)
def dkD (kvs : Kvs) : D := .dk (dkK kvs) (kvs.map (·.2))
def lookD : Kvs → Str → Option D
  | [], _ => none
  | p :: kvs, x => if p.1 = x then some p.2 else lookD kvs x
def putD (kvs : Kvs) (x : Str) (v : D) : Kvs := if (lookD kvs x).isSome then kvs.map fun p => if p.1 = x then (p.1, v) else p else kvs ++ [(x, v)]
theorem val_kvs (x : Str) : ∀ kvs : Kvs, valK (dkK kvs) (kvs.map fun p => W.d p.2) (Sum.inr x) = (lookD kvs x).map W.d
  | [] => rfl
  | p :: kvs => by
    show (if (Sum.inr p.1 : Key) = Sum.inr x then some (W.d p.2) else valK (dkK kvs) (kvs.map fun p => W.d p.2) (Sum.inr x)) = (if p.1 = x then some p.2 else lookD kvs x).map W.d
    by_cases h : p.1 = x
    · rw [if_pos h, if_pos (by rw [h])]
      rfl
    · rw [if_neg h, if_neg (fun z => h (Sum.inr.inj z)), val_kvs x kvs]
theorem has_kvs (x : Str) : ∀ kvs : Kvs, hasK (dkK kvs) (Sum.inr x) = (lookD kvs x).isSome
  | [] => rfl
  | p :: kvs => by
    show (decide ((Sum.inr p.1 : Key) = Sum.inr x) || hasK (dkK kvs) (Sum.inr x)) = (if p.1 = x then some p.2 else lookD kvs x).isSome
    by_cases h : p.1 = x
    · rw [if_pos h, decide_eq_true (by rw [h])]
      rfl
    · rw [if_neg h, decide_eq_false (fun z => h (Sum.inr.inj z)), has_kvs x kvs]
      rfl
theorem upd_kvs (x : Str) (v : D) : ∀ kvs : Kvs, updK (dkK kvs) (kvs.map fun p => W.d p.2) (Sum.inr x) (.d v) = (kvs.map fun p => if p.1 = x then (p.1, v) else p).map fun p => W.d p.2
  | [] => rfl
  | p :: kvs => by
    show (if (Sum.inr p.1 : Key) = Sum.inr x then W.d v else W.d p.2) :: updK (dkK kvs) (kvs.map fun p => W.d p.2) (Sum.inr x) (.d v) = W.d (if p.1 = x then (p.1, v) else p).2 :: (kvs.map fun p => if p.1 = x then (p.1, v) else p).map fun p => W.d p.2
    rw [upd_kvs x v kvs]
    by_cases h : p.1 = x
    · rw [if_pos h, if_pos (by rw [h])]
    · rw [if_neg h, if_neg (fun z => h (Sum.inr.inj z))]
theorem key_kvs (x : Str) (v : D) (kvs : Kvs) : dkK (kvs.map fun p => if p.1 = x then (p.1, v) else p) = dkK kvs := by
  unfold dkK
  rw [List.map_map]
  refine List.map_congr_left fun p _ => ?_
  show (Sum.inr (if p.1 = x then (p.1, v) else p).1 : Key) = Sum.inr p.1
  split <;> rfl
section
variable {cl : List Cell} {n : Nat} {kvs : Kvs} {x : Str} {v : D}
theorem datas_kvs : (kvs.map fun p => W.d p.2) = (kvs.map (·.2)).map W.d := by
  rw [List.map_map]
  rfl
theorem dget_c (h : cl[n]? = some (dkC kvs)) : dGetW cl (.cel n) (.d (.str x)) = some ((lookD kvs x).map W.d) := by
  simp only [dGetW, asDk, h, dkC, keyW, keyD, Option.map_some, val_kvs]
theorem dget_d : dGetW cl (.d (dkD kvs)) (.d (.str x)) = some ((lookD kvs x).map W.d) := by
  simp only [dGetW, asDk, dkD, keyW, keyD, Option.map_some, ← datas_kvs, val_kvs]
theorem din_c {neg : Bool} (h : cl[n]? = some (dkC kvs)) : dIn neg cl (.d (.str x)) (.cel n) = some (.d (.bl (sg neg (lookD kvs x).isSome)), cl) := by
  simp only [dIn, dget_c h, Option.isSome_map]
theorem din_d {neg : Bool} : dIn neg cl (.d (.str x)) (.d (dkD kvs)) = some (.d (.bl (sg neg (lookD kvs x).isSome)), cl) := by
  simp only [dIn, dget_d, Option.isSome_map]
theorem dix_d (h : lookD kvs x = some v) : dDix cl (.d (dkD kvs)) (.d (.str x)) = some (.d v, cl) := by
  simp only [dDix, dget_d, h, Option.map_some]
theorem dix_c (h : lookD kvs x = some v) (hc : cl[n]? = some (dkC kvs)) : dDix cl (.cel n) (.d (.str x)) = some (.d v, cl) := by
  simp only [dDix, dget_c hc, h, Option.map_some]
theorem dput_c (h : cl[n]? = some (dkC kvs)) (hz : kvs.length < sizeLine) : dPutC cl (.cel n) (.d (.str x)) (.d v) = some (cl.set n (dkC (putD kvs x v))) := by
  have e : dPutC cl (.cel n) (.d (.str x)) (.d v) = if (dkK kvs).length < sizeLine then some (cl.set n (if hasK (dkK kvs) (Sum.inr x) then .dk (dkK kvs) (updK (dkK kvs) (kvs.map fun p => W.d p.2) (Sum.inr x) (.d v)) else .dk (dkK kvs ++ [Sum.inr x]) ((kvs.map fun p => W.d p.2) ++ [.d v]))) else none := by
    simp only [dPutC, h, dkC, keyW, keyD]
  rw [e, if_pos (by simpa [dkK] using hz), has_kvs, putD]
  cases hl : (lookD kvs x).isSome with
  | true =>
    rw [if_pos rfl, if_pos rfl, upd_kvs, dkC, key_kvs]
  | false =>
    rw [if_neg (by decide), if_neg (by decide), dkC]
    simp [dkK]
theorem setd_c (h : cl[n]? = some (dkC kvs)) (hz : kvs.length < sizeLine) : mSetd cl [.cel n, .d (.str x), .d v] = match lookD kvs x with
    | some w => some (.d w, cl)
    | none => some (.d v, cl.set n (dkC (kvs ++ [(x, v)]))) := by
  have h' : cl[n]? = some (.dk (dkK kvs) (kvs.map fun p => W.d p.2)) := h
  have e : mSetd cl [.cel n, .d (.str x), .d v] = if (dkK kvs).length < sizeLine then match valK (dkK kvs) (kvs.map fun p => W.d p.2) (Sum.inr x) with
      | some w => some (w, cl)
      | none => (dStep n (.d (.str x)) (.d v) cl).map fun c => (.d v, c)
    else none := by
    simp only [mSetd, h', keyW, keyD]
    all_goals rfl
  rw [e, if_pos (by simpa [dkK] using hz), val_kvs]
  cases hl : lookD kvs x with
  | some w => rfl
  | none =>
    have e2 : dStep n (.d (.str x)) (.d v) cl = some (cl.set n (dkC (kvs ++ [(x, v)]))) := by
      simp only [dStep, h']
      rw [dput_c h hz, putD, hl]
      rfl
    simp only [Option.map_none, e2, Option.map_some]
theorem isDic_c (h : cl[n]? = some (dkC kvs)) : isDic cl (.cel n) = true := by simp [isDic, asDk, h, dkC]
@[simp] theorem dkC_refs : (dkC kvs).refs = [] := by
  show refsA (kvs.map fun p => W.d p.2) = []
  rw [datas_kvs]
  exact refsA_map _
@[simp] theorem dkC_mapc {f : Nat → Nat} : (dkC kvs).mapc f = dkC kvs := by
  show Cell.dk (dkK kvs) (mapcA f (kvs.map fun p => W.d p.2)) = Cell.dk (dkK kvs) (kvs.map fun p => W.d p.2)
  rw [datas_kvs, mapcA_map]
/-! sorted names -/
theorem ts_strs : ∀ ss : List Str, tsOf (ss.map fun s => W.d (.str s)) = some ss
  | [] => rfl
  | s :: ss => by
    show (tsOf (ss.map fun s => W.d (.str s))).map (s :: ·) = _
    rw [ts_strs ss]
    rfl
theorem strsK_kvs : ∀ kvs : Kvs, strsK (dkK kvs) = some (kvs.map (·.1))
  | [] => rfl
  | p :: kvs => by
    show (strsK (dkK kvs)).map (p.1 :: ·) = _
    rw [strsK_kvs kvs]
    rfl
end
/-! ### the loops of dict comprehensions -/
theorem cpL_all {ck : Ck} {g : MG} {tt : MB} {body : Rho → Option (List Cell)} {vs : List Nat} {sl : List (Option W)} {I : Nat → List Cell → Prop} : ∀ (ds : List W) (k : Nat) (cl : List Cell),
    (∀ i d cl, ds[i]? = some d → I (k + i) cl → ckC ck cl ∧ ∃ r1, g d ⟨wipeW sl vs, cl⟩ = some r1 ∧ ∃ b r2, tt r1 = some (b, r2) ∧ ((b = false ∧ I (k + i + 1) r2.cl) ∨ (b = true ∧ ∃ cl', body r2 = some cl' ∧ I (k + i + 1) cl'))) →
    (∀ cl, I (k + ds.length) cl → ckC ck cl) → I k cl → ∃ cl', cpL ck g tt body vs ds ⟨sl, cl⟩ = some ⟨sl, cl'⟩ ∧ I (k + ds.length) cl'
  | [], k, cl, _, he, h => ⟨cl, by simp only [cpL]; rw [if_pos (he cl h)], h⟩
  | d :: ds, k, cl, hs, he, h => by
    obtain ⟨c, r1, e1, b, r2, e2, hb⟩ := hs 0 d cl rfl h
    have next : ∀ i d cl, ds[i]? = some d → I (k + 1 + i) cl → _ := fun i d cl q hi => by
      have := hs (i + 1) d cl q (by rw [show k + (i + 1) = k + 1 + i by omega]; exact hi)
      rw [show k + (i + 1) = k + 1 + i by omega] at this
      exact this
    have fin : ∀ cl, I (k + 1 + ds.length) cl → ckC ck cl := fun cl hi => he cl (by rw [List.length_cons, show k + (ds.length + 1) = k + 1 + ds.length by omega]; exact hi)
    rw [List.length_cons, show k + (ds.length + 1) = k + 1 + ds.length by omega]
    rcases hb with ⟨rfl, hi⟩ | ⟨rfl, cl', e3, hi⟩
    · obtain ⟨c2, e, i2⟩ := cpL_all ds (k + 1) r2.cl next fin hi
      refine ⟨c2, ?_, i2⟩
      simp only [cpL]
      rw [if_pos c]
      simp only [e1, e2]
      exact e
    · obtain ⟨c2, e, i2⟩ := cpL_all ds (k + 1) cl' next fin hi
      refine ⟨c2, ?_, i2⟩
      simp only [cpL]
      rw [if_pos c]
      simp only [e1, e2, e3]
      exact e
/-- the new dict as data -/
theorem unCellD_d {cl : List Cell} {kvs : Kvs} {sl : List (Option W)} (wf : (cl.all fun k => k.refs.all fun j => decide (j < cl.length)) = true) : unCellD false cl.length ⟨sl, cl ++ [dkC kvs]⟩ = some (.d (dkD kvs), ⟨sl, cl⟩) := by
  have e1 : (cl ++ [dkC kvs])[cl.length]? = some (.dk (dkK kvs) ((kvs.map (·.2)).map W.d)) := by
    rw [← datas_kvs]
    simp [dkC]
  have e2 : (cl ++ [dkC kvs]).take cl.length = cl := by simp
  unfold unCellD
  simp only [Bool.false_eq_true, if_false, e1, datas_m, e2]
  rw [if_pos ⟨by simp, wf⟩]
  rfl
end FL
/-! text in texts; calls that read data alone and tell a new list or dict -/
namespace FL
open PySem PySem.Spec L2
theorem flA_ts : ∀ ns : List Str, flA ((ns.map D.str).map W.d) = some (ns.map V.str)
  | [] => rfl
  | y :: ns => by
    simp only [List.map_cons, flA, flA_ts ns, flW, flD]
theorem inV_ts (s : Str) : ∀ ns : List Str, inV (.str s) (ns.map V.str) = decide (s ∈ ns)
  | [] => rfl
  | y :: ns => by
    have e4 : (eqV (.str y) (.str s)) = decide (s = y) := by
      simp only [eqV]
      by_cases h : s = y
      · subst h
        simp -implicitDefEqProofs
      · simp -implicitDefEqProofs [h, Ne.symm h]
    have ih := inV_ts s ns
    simp only [inV] at ih ⊢
    simp only [List.map_cons, List.any_cons, ih, e4]
    simp -implicitDefEqProofs
section
variable {cl : List Cell} {neg : Bool} {s : Str} {ns : List Str} {n : Nat}
theorem in_lst : dIn neg cl (.d (.str s)) (.d (.lst (ns.map D.str))) = some (.d (.bl (sg neg (decide (s ∈ ns)))), cl) := by
  have e1 : dGetW cl (.d (.lst (ns.map D.str))) (.d (.str s)) = none := rfl
  have e2 : (seqW cl (.d (.lst (ns.map D.str)))).bind flA = some (ns.map V.str) := flA_ts ns
  simp only [dIn, e1, flW, flD, e2, inV_ts]
theorem in_tup : dIn neg cl (.d (.str s)) (.d (.tup (ns.map D.str))) = some (.d (.bl (sg neg (decide (s ∈ ns)))), cl) := by
  have e1 : dGetW cl (.d (.tup (ns.map D.str))) (.d (.str s)) = none := rfl
  have e2 : (seqW cl (.d (.tup (ns.map D.str)))).bind flA = some (ns.map V.str) := flA_ts ns
  simp only [dIn, e1, flW, flD, e2, inV_ts]
theorem in_rtup : dIn neg cl (.d (.str s)) (.d (.rtup (ns.map D.str))) = some (.d (.bl (sg neg (decide (s ∈ ns)))), cl) := by
  have e1 : dGetW cl (.d (.rtup (ns.map D.str))) (.d (.str s)) = none := rfl
  have e2 : (seqW cl (.d (.rtup (ns.map D.str)))).bind flA = some (ns.map V.str) := flA_ts ns
  simp only [dIn, e1, flW, flD, e2, inV_ts]
theorem in_cel (h : cl[n]? = some (lstD (ns.map D.str))) : dIn neg cl (.d (.str s)) (.cel n) = some (.d (.bl (sg neg (decide (s ∈ ns)))), cl) := by
  have e1 : dGetW cl (.cel n) (.d (.str s)) = none := by simp [dGetW, asDk, asDt, h, lstD]
  have e0 : seqW cl (.cel n) = some ((ns.map D.str).map W.d) := by simp [seqW, asTup, asList, h, lstD]
  have e2 : (seqW cl (.cel n)).bind flA = some (ns.map V.str) := by
    rw [e0]
    exact flA_ts ns
  simp only [dIn, e1, flW, flD, e2, inV_ts]
end
theorem pur_ds (st : List Cell) (m k : Nat) : ∀ ys : List D, (ys.map W.d).mapM (purW st m k) = some ys := by
  intro ys
  induction ys with
  | nil => rfl
  | cons y ys ih =>
    have e : purW st m k (W.d y) = some y := by cases k <;> rfl
    simp [List.mapM_cons, ih, e]
theorem call_flat1 {f : OpN} {cl : List Cell} {ws : List W} {c0 : Cell} {x : D} (h1 : refsA ws = []) (h2 : ∀ g, mapcA g ws = ws) (h : f [] ws = some (.cel 0, [c0])) (hp : purW [c0] 0 8 (.cel 0) = some x) : callC false f cl ws = some (.d x, cl) := by
  have e : idsOf cl ws = [] := by
    unfold idsOf
    rw [h1]
    simp [clos]
  show oCallP f cl ws = _
  simp only [oCallP, e]
  rw [if_pos (by rw [h1]; rfl), h2, show part cl [] = [] from rfl, h]
  simp only [List.length_nil, hp]
  rw [if_pos (by rfl)]
  simp [merge, setAll]
theorem call_flatL {f : OpN} {cl : List Cell} {ws : List W} {P : List D} (h1 : refsA ws = []) (h2 : ∀ g, mapcA g ws = ws) (h : f [] ws = some (.cel 0, [lstD P])) : callC false f cl ws = some (.d (.lst P), cl) := call_flat1 h1 h2 h (by
  have e : purW [lstD P] 0 8 (.cel 0) = ((P.map W.d).mapM (purW [lstD P] 0 7)).map D.lst := rfl
  rw [e, pur_ds]
  rfl)
theorem call_flatK {f : OpN} {cl : List Cell} {ws : List W} {kvs : Kvs} (h1 : refsA ws = []) (h2 : ∀ g, mapcA g ws = ws) (h : f [] ws = some (.cel 0, [dkC kvs])) : callC false f cl ws = some (.d (dkD kvs), cl) := call_flat1 h1 h2 h (by
  have e : purW [dkC kvs] 0 8 (.cel 0) = ((kvs.map fun p => W.d p.2).mapM (purW [dkC kvs] 0 7)).map (D.dk (dkK kvs)) := rfl
  rw [e, datas_kvs, pur_ds]
  rfl)
theorem fin_K {kvs : Kvs} : fin 0 (.cel 0) [dkC kvs] = some (.cel 0, [dkC kvs]) := by
  have e : clos [dkC kvs] 2 [0] = [0] := by simp -implicitDefEqProofs [clos, cellAt]
  have e2 : isPart [dkC kvs] [0] = true := by simp -implicitDefEqProofs [isPart, cellAt]
  have e4 : FL.part [dkC kvs] [0] = [dkC kvs] := by simp -implicitDefEqProofs [FL.part, cellAt]
  have e5 : ((W.cel 0).refs.filter fun n => decide (0 ≤ n)) = [0] := rfl
  unfold fin
  simp only [List.length_singleton, e5, List.range_zero, List.nil_append, show [0].eraseDups = [0] from rfl, e, e2, e4]
  simp -implicitDefEqProofs [ix]
theorem fin_L {P : List D} : fin 0 (.cel 0) [lstD P] = some (.cel 0, [lstD P]) := fin_new (st := []) (Q := P) fun i n hi hn => by simp at hi
end FL
/-! the tape -/
namespace Lw
open PySem PySem.Spec L2 PySem.PyData FL
variable {a : Ad}
theorem scr_len {xs : List Int} {cl : List Cell} : oLen cl [.d (.rol (xs.map D.int))] = some (.d (.int xs.length), cl) := by simp -implicitDefEqProofs [oLen, lenW, asTup, asList]
theorem scr_at {xs : List Int} {i : Int} {cl : List Cell} (h0 : 0 ≤ i) (h : i < xs.length) : ∃ z : Int, dIx cl (.d (.rol (xs.map D.int))) (.d (.int i)) = some (.d (.int z), cl) := by
  have hl : i.toNat < xs.length := by omega
  refine ⟨xs[i.toNat], ?_⟩
  simp only [dIx, asTup, asList, Option.bind_some]
  rw [atI_nat h0 (by simpa using h)]
  simp -implicitDefEqProofs [hl]
theorem acell_ok (xs : List Int) (k : Int) (h0 : 0 ≤ k) : ∃ z : Int, f_law_acell a [] [.d (.rol (xs.map D.int)), .d (.int k)] = some (.d (.int z), []) := by
  rw [f_law_acell, run_eq, m_law_acell]
  by_cases h : k < xs.length
  · obtain ⟨z, e⟩ := scr_at (cl := []) h0 h
    exact ⟨z, by
      simp -implicitDefEqProofs [scr_len, h, e]
      exact fin0⟩
  · exact ⟨0, by
      simp -implicitDefEqProofs [scr_len, h]
      exact fin0⟩
theorem digit_ok (z m : Int) (m0 : 0 < m) (m1 : m < 2 ^ 62) : f_law_adigit a [lstD [.int z]] [.cel 0, .d (.int m)] = some (.d (.int (z % m)), [lstD [.int (z / m)]]) := by
  have gd : fdvOk m = true := fdvOk_of m0 (by omega)
  have at0 : ∀ z : Int, dIx [lstD [.int z]] (.cel 0) (.d (.int 0)) = some (.d (.int z), [lstD [.int z]]) := fun z => by simp -implicitDefEqProofs [dIx, asTup, asList, lstD, atI, ixN]
  have st0 : ∀ z y : Int, setL [lstD [.int z]] (.cel 0) (.d (.int 0)) (.d (.int y)) = some [lstD [.int y]] := fun z y => by simp -implicitDefEqProofs [setL, cellL, lstD, ixN]
  have fl : ∀ (z : Int) (x : D), fin 1 (.d x) [lstD [.int z]] = some (.d x, [lstD [.int z]]) := fun z x => fin_same (cl := [lstD [.int z]]) fun i n hi hn => by
    have hi : i < 1 := hi
    have : i = 0 := by omega
    subst this
    simp [cellAt] at hn
  rw [f_law_adigit, run_eq, m_law_adigit]
  simp -implicitDefEqProofs [at0, st0, m0, gd, fl]
/-- a digit of the tape at n -/
theorem digit_call (c : Bool) {cl : List Cell} {n : Nat} {z m : Int} (h : cl[n]? = some (lstD [.int z])) (m0 : 0 < m) (m1 : m < 2 ^ 62) : callC c (f_law_adigit a) cl [.cel n, .d (.int m)] = some (.d (.int (z % m)), cl.set n (lstD [.int (z / m)])) :=
  call_leaf h (by simp) (by simp) (by simp [List.eraseDups_cons]) (by simp) (by simp [ix]) (digit_ok z m m0 m1) (by simp) (by simp)
theorem pow3 {cl : List Cell} {i : Int} (h : i.natAbs < 2 ^ 64) : dPow cl (.d (.int i)) (.d (.int 3)) = some (.d (.int (i ^ 3)), cl) := by
  simp only [dPow, dInt]
  rw [if_pos ⟨by decide, by decide, h⟩]
  rfl
theorem mulOk_l {i j : Int} (h : i.natAbs.log2 ≤ 9999) (k : j.natAbs.log2 ≤ 9999) : mulOk i j = true := by
  simp only [mulOk, decide_eq_true_eq]
  omega
theorem log_small {i : Int} (h0 : 0 ≤ i) (h : i < 2 ^ 130) : i.natAbs.log2 ≤ 9999 := Nat.le_trans (log2_lt (k := 129) (by omega)) (by decide)
/-- the number that is built up, j turns done -/
structure Num (j : Nat) (n l : Int) : Prop where
  n0 : 0 ≤ n
  n1 : n < 2 ^ (61 * (j + 1))
  l0 : 0 ≤ l
  l1 : l < 2305843009213693951
theorem Num.log {j : Nat} {n l : Int} (h : Num j n l) (hj : j < 100) : n.natAbs.log2 ≤ 9999 := by
  have h1 := h.n1
  have h0 := h.n0
  have : n.natAbs < 2 ^ (61 * j + 60 + 1) := by
    have e : 61 * (j + 1) = 61 * j + 60 + 1 := by omega
    rw [e] at h1
    have : ((n.natAbs : Nat) : Int) < ((2 ^ (61 * j + 60 + 1) : Nat) : Int) := by
      rw [Int.natCast_pow, show ((2 : Nat) : Int) = 2 from rfl]
      omega
    exact Int.ofNat_lt.mp this
  have := log2_lt this
  omega
theorem Num.step {j : Nat} {n l l' : Int} (h : Num j n l) (h0 : 0 ≤ l') (h1 : l' < 2305843009213693951) : Num (j + 1) (n * 2305843009213693951 + l) l' := by
  refine ⟨by have := h.n0; have := h.l0; omega, ?_, h0, h1⟩
  have a0 := h.n0
  have a1 := h.n1
  have a2 := h.l1
  have e : (2 : Int) ^ (61 * (j + 1 + 1)) = 2 ^ (61 * (j + 1)) * 2305843009213693952 := by
    rw [show 61 * (j + 1 + 1) = 61 * (j + 1) + 61 by omega, Int.pow_add]
    rfl
  rw [e]
  generalize (2 : Int) ^ (61 * (j + 1)) = X at *
  omega
theorem tape_turn {cs : D} {k c n l : Int} {j : Nat} (h0 : 0 ≤ k) (h1 : k < 64) (hj : j < 18) (h : Num j n l) : ∃ n' l', b_law_atape_6_f a ⟨[some (.d cs), some (.d (.int k)), some (.d (.int c)), some (.d (.int 2305843009213693951)), some (.d (.int n)), some (.d (.int l)), some (.d (.int j))], []⟩ =
    some (.nx ⟨[some (.d cs), some (.d (.int k)), some (.d (.int c)), some (.d (.int 2305843009213693951)), some (.d (.int n')), some (.d (.int l')), some (.d (.int j))], []⟩) ∧ Num (j + 1) n' l' := by
  have g1 : mulOk n 2305843009213693951 = true := mulOk_l (h.log (by omega)) (log_small (by decide) (by decide))
  have l0 := h.l0
  have l1 := h.l1
  have ll0 : 0 ≤ l * l := Int.mul_nonneg l0 l0
  have ll1 : l * l < 2 ^ 122 := by
    have := Int.mul_le_mul (show l ≤ 2305843009213693951 by omega) (show l ≤ 2305843009213693951 by omega) l0 (by decide)
    have e : (2305843009213693951 : Int) * 2305843009213693951 < 2 ^ 122 := by decide
    omega
  have g2 : mulOk l l = true := mulOk_l (log_small l0 (by omega)) (log_small l0 (by omega))
  have g3 : mulOk 2 k = true := mulOk_l (log_small (by decide) (by decide)) (log_small h0 (by omega))
  have g4 : mulOk (l * l) (2 * k + 5) = true := mulOk_l (log_small ll0 (by omega)) (log_small (by omega) (by omega))
  have g5 : mulOk 51749 k = true := mulOk_l (log_small (by decide) (by decide)) (log_small h0 (by omega))
  refine ⟨_, _, ?_, h.step (l' := (l * l * (2 * k + 5) + 51749 * k + j) % 2305843009213693951) (Int.emod_nonneg _ (by decide)) (Int.emod_lt_of_pos _ (by decide))⟩
  rw [b_law_atape_6_f, b_law_atape_6_f_1, b_law_atape_6_f_2]
  simp -implicitDefEqProofs [g1, g2, g3, g4, g5]
theorem tape_loop {cs : D} {k c l : Int} (h0 : 0 ≤ k) (h1 : k < 64) (l0 : 0 ≤ l) (l1 : l < 2305843009213693951) : ∃ n' l' s6, b_law_atape_6 a ⟨[some (.d cs), some (.d (.int k)), some (.d (.int c)), some (.d (.int 2305843009213693951)), some (.d (.int 0)), some (.d (.int l)), Option.none], []⟩ =
    some (.nx ⟨[some (.d cs), some (.d (.int k)), some (.d (.int c)), some (.d (.int 2305843009213693951)), some (.d (.int n')), some (.d (.int l')), s6], []⟩) := by
  rw [b_law_atape_6, ev_sFor]
  have e : iRng (aCons (eC (.d (.int 18))) aNil) ⟨[some (.d cs), some (.d (.int k)), some (.d (.int c)), some (.d (.int 2305843009213693951)), some (.d (.int 0)), some (.d (.int l)), Option.none], []⟩ = some ((intsW 0 18, Option.none), ⟨[some (.d cs), some (.d (.int k)), some (.d (.int c)), some (.d (.int 2305843009213693951)), some (.d (.int 0)), some (.d (.int l)), Option.none], []⟩) := by
    rfl
  rw [e]
  simp only [Option.bind_some]
  obtain ⟨r', e', n, l', s6, er, _⟩ := forL_all (g := tName 6) (b := b_law_atape_6_f a) (ck := Option.none) (I := fun j r => ∃ n l s6, r = ⟨[some (.d cs), some (.d (.int k)), some (.d (.int c)), some (.d (.int 2305843009213693951)), some (.d (.int n)), some (.d (.int l)), s6], []⟩ ∧ Num j n l) (intsW 0 18) ⟨[some (.d cs), some (.d (.int k)), some (.d (.int c)), some (.d (.int 2305843009213693951)), some (.d (.int 0)), some (.d (.int l)), Option.none], []⟩
    (fun i d r hd ⟨n, l, s6, er, hn⟩ => by
      subst er
      have hi : i < 18 := by
        have := (List.getElem?_eq_some_iff.mp hd).1
        simpa [intsW_len] using this
      rw [intsW_get 18 0 i hi] at hd
      cases hd
      obtain ⟨n', l', e2, h2⟩ := tape_turn (a := a) (cs := cs) (c := c) h0 h1 hi hn
      refine ⟨trivial, _, ev_tName, _, .inl ?_, n', l', some (.d (.int i)), rfl, h2⟩
      rw [Int.zero_add]
      exact e2) (fun _ _ => trivial) ⟨0, l, Option.none, rfl, by decide, by decide, l0, l1⟩
  exact ⟨n, l', s6, by rw [e', er]⟩
/-- the tape's start: a list of one number -/
theorem tape_ok (xs : List Int) (k : Int) (h0 : 0 ≤ k) (h1 : k < 64) : ∃ z : Int, f_law_atape a [] [.d (.rol (xs.map D.int)), .d (.int k)] = some (.cel 0, [lstD [.int z]]) := by
  obtain ⟨c, ec⟩ := acell_ok (a := a) xs k h0
  have e1 : callC false (f_law_acell a) [] [.d (.rol (xs.map D.int)), .d (.int k)] = some (.d (.int c), []) := call_flat rfl (fun _ => rfl) ec
  have nw : ∀ z : Int, fin 0 (.cel 0) [lstD [.int z]] = some (.cel 0, [lstD [.int z]]) := fun z => fin_new (st := []) (Q := [.int z]) fun i n hi hn => by simp at hi
  have ls : ∀ z : Int, oLst true [] [.d (.int z)] = some (.cel 0, [lstD [.int z]]) := fun z => by
    unfold oLst
    rw [if_pos (by show 1 ≤ sizeLine; rw [sizeLine_eq]; decide)]
    rfl
  rw [f_law_atape, run_eq, split_law_atape]
  simp only [ev_sSeq]
  by_cases hc : c % 2 = 0
  · refine ⟨c / 2, ?_⟩
    rw [b_law_atape_1, b_law_atape_2]
    simp -implicitDefEqProofs [e1, eqv_int, hc, sg, ls, show fdvOk 2 = true by decide, nw]
  · obtain ⟨c0, c1⟩ : 0 ≤ c % 2305843009213693951 ∧ c % 2305843009213693951 < 2305843009213693951 := ⟨Int.emod_nonneg _ (by decide), Int.emod_lt_of_pos _ (by decide)⟩
    generalize hcm : c % 2305843009213693951 = cm at *
    have p1 := pow3 (cl := []) (i := cm + 6007 * k + 3) (by omega)
    have g1 : mulOk 6007 k = true := mulOk_l (log_small (by decide) (by decide)) (log_small h0 (by omega))
    have g2 : mulOk 77003 k = true := mulOk_l (log_small (by decide) (by decide)) (log_small h0 (by omega))
    obtain ⟨n', l', s6, e6⟩ := tape_loop (a := a) (cs := .rol (xs.map D.int)) (k := k) (c := c) (l := ((cm + 6007 * k + 3) ^ 3 + 77003 * k + 19) % 2305843009213693951) h0 h1 (Int.emod_nonneg _ (by decide)) (Int.emod_lt_of_pos _ (by decide))
    refine ⟨n', ?_⟩
    rw [b_law_atape_1, b_law_atape_2, b_law_atape_3, b_law_atape_4, b_law_atape_5, b_law_atape_7]
    generalize D.rol (xs.map D.int) = cs at *
    simp -implicitDefEqProofs [e1, eqv_int, hc, hcm, sg, p1, g1, g2, e6, ls, nw]
end Lw
/-! pieces: what they name, define, ask -/
namespace Lw
open PySem PySem.Spec L2 FL
inductive It where
  | place (n : Str) | call (n : Str) | jump (n : Str) | ats (n : Str) | whn (n : Str)
def It.n : It → Str
  | .place n | .call n | .jump n | .ats n | .whn n => n
def It.d : It → D
  | .place n => .tup [.str "place", .int 0, .str n, .int 0]
  | .call n => .tup [.str "call", .str n]
  | .jump n => .tup [.str "jump", .str n]
  | .ats n => .tup [.str "at", .str n, .int 0]
  | .whn n => .tup [.str "when", .int 1, .str n]
structure Sy where
  n : Str
  b : Str
  w : D
def Sy.d (s : Sy) : D := .tup [.str s.n, .str s.b, s.w]
structure Pc where
  nm : Str
  its : List It
  cs : List It
  sy : List Sy
def Pc.d (p : Pc) : D := .tup [.str p.nm, .tup [.tup [.str "c", .str "code", .int 1, .tup (p.its.map It.d)], .tup [.str "d", .str "data", .int 1, .tup (p.cs.map It.d)]], .tup (p.sy.map Sy.d)]
variable {a : Ad}
theorem sIn {cl : List Cell} {neg : Bool} {s : Str} (ns : List Str) : dIn neg cl (.d (.str s)) (.d (.tup (ns.map D.str))) = some (.d (.bl (sg neg (decide (s ∈ ns)))), cl) := in_tup
theorem tp2 {cl : List Cell} {x y : D} : oTup cl [.d x, .d y] = some (.d (.tup [x, y]), cl) := by
  unfold oTup
  rw [if_pos (by show 2 ≤ sizeLine; rw [sizeLine_eq]; decide)]
  rfl
theorem tp3 {cl : List Cell} {x y z : D} : oTup cl [.d x, .d y, .d z] = some (.d (.tup [x, y, z]), cl) := by
  unfold oTup
  rw [if_pos (by show 3 ≤ sizeLine; rw [sizeLine_eq]; decide)]
  rfl
theorem pw2 {cl : List Cell} {s : Str} : dIn false cl (.d (.str s)) (.d (.tup [.str "place", .str "when"])) = some (.d (.bl (decide (s ∈ (["place", "when"] : List Str)))), cl) := sIn ["place", "when"]
theorem cja {cl : List Cell} {s : Str} : dIn false cl (.d (.str s)) (.d (.tup [.str "call", .str "jump", .str "at"])) = some (.d (.bl (decide (s ∈ (["call", "jump", "at"] : List Str)))), cl) := sIn ["call", "jump", "at"]
theorem named_ok (t : It) : f_named a [] [.d t.d] = some (.d (.str t.n), []) := by
  rw [f_named, run_eq, m_named]
  cases t with
  | place n =>
    have e1 : dIn false [] (.d (.str "place")) (.d (.tup [.str "place", .str "when"])) = some (.d (.bl true), []) := by rw [pw2, show decide (("place" : Str) ∈ (["place", "when"] : List Str)) = true by decide]
    simp -implicitDefEqProofs [It.d, It.n, at_t0, at_t1, at_t2, tp2, tp3, e1, fin0]
  | whn n =>
    have e1 : dIn false [] (.d (.str "when")) (.d (.tup [.str "place", .str "when"])) = some (.d (.bl true), []) := by rw [pw2, show decide (("when" : Str) ∈ (["place", "when"] : List Str)) = true by decide]
    simp -implicitDefEqProofs [It.d, It.n, at_t0, at_t1, at_t2, tp2, tp3, e1, fin0]
  | call n =>
    have e1 : dIn false [] (.d (.str "call")) (.d (.tup [.str "place", .str "when"])) = some (.d (.bl false), []) := by rw [pw2, show decide (("call" : Str) ∈ (["place", "when"] : List Str)) = false by decide]
    have e2 : dIn false [] (.d (.str "call")) (.d (.tup [.str "call", .str "jump", .str "at"])) = some (.d (.bl true), []) := by rw [cja, show decide (("call" : Str) ∈ (["call", "jump", "at"] : List Str)) = true by decide]
    simp -implicitDefEqProofs [It.d, It.n, at_t0, at_t1, at_t2, tp2, tp3, e1, e2, fin0]
  | jump n =>
    have e1 : dIn false [] (.d (.str "jump")) (.d (.tup [.str "place", .str "when"])) = some (.d (.bl false), []) := by rw [pw2, show decide (("jump" : Str) ∈ (["place", "when"] : List Str)) = false by decide]
    have e2 : dIn false [] (.d (.str "jump")) (.d (.tup [.str "call", .str "jump", .str "at"])) = some (.d (.bl true), []) := by rw [cja, show decide (("jump" : Str) ∈ (["call", "jump", "at"] : List Str)) = true by decide]
    simp -implicitDefEqProofs [It.d, It.n, at_t0, at_t1, at_t2, tp2, tp3, e1, e2, fin0]
  | ats n =>
    have e1 : dIn false [] (.d (.str "at")) (.d (.tup [.str "place", .str "when"])) = some (.d (.bl false), []) := by rw [pw2, show decide (("at" : Str) ∈ (["place", "when"] : List Str)) = false by decide]
    have e2 : dIn false [] (.d (.str "at")) (.d (.tup [.str "call", .str "jump", .str "at"])) = some (.d (.bl true), []) := by rw [cja, show decide (("at" : Str) ∈ (["call", "jump", "at"] : List Str)) = true by decide]
    simp -implicitDefEqProofs [It.d, It.n, at_t0, at_t1, at_t2, tp2, tp3, e1, e2, fin0]
theorem anamed_ok (t : It) : f_law_anamed a [] [.d t.d] = some (.d (.str t.n), []) := by
  rw [f_law_anamed, run_eq, m_law_anamed]
  cases t with
  | place n =>
    have e1 : dIn false [] (.d (.str "place")) (.d (.tup [.str "place", .str "when"])) = some (.d (.bl true), []) := by rw [pw2, show decide (("place" : Str) ∈ (["place", "when"] : List Str)) = true by decide]
    simp -implicitDefEqProofs [It.d, It.n, at_t0, at_t1, at_t2, tp2, tp3, e1, fin0]
  | whn n =>
    have e1 : dIn false [] (.d (.str "when")) (.d (.tup [.str "place", .str "when"])) = some (.d (.bl true), []) := by rw [pw2, show decide (("when" : Str) ∈ (["place", "when"] : List Str)) = true by decide]
    simp -implicitDefEqProofs [It.d, It.n, at_t0, at_t1, at_t2, tp2, tp3, e1, fin0]
  | call n =>
    have e1 : dIn false [] (.d (.str "call")) (.d (.tup [.str "place", .str "when"])) = some (.d (.bl false), []) := by rw [pw2, show decide (("call" : Str) ∈ (["place", "when"] : List Str)) = false by decide]
    have e2 : dIn false [] (.d (.str "call")) (.d (.tup [.str "call", .str "jump", .str "at"])) = some (.d (.bl true), []) := by rw [cja, show decide (("call" : Str) ∈ (["call", "jump", "at"] : List Str)) = true by decide]
    simp -implicitDefEqProofs [It.d, It.n, at_t0, at_t1, at_t2, tp2, tp3, e1, e2, fin0]
  | jump n =>
    have e1 : dIn false [] (.d (.str "jump")) (.d (.tup [.str "place", .str "when"])) = some (.d (.bl false), []) := by rw [pw2, show decide (("jump" : Str) ∈ (["place", "when"] : List Str)) = false by decide]
    have e2 : dIn false [] (.d (.str "jump")) (.d (.tup [.str "call", .str "jump", .str "at"])) = some (.d (.bl true), []) := by rw [cja, show decide (("jump" : Str) ∈ (["call", "jump", "at"] : List Str)) = true by decide]
    simp -implicitDefEqProofs [It.d, It.n, at_t0, at_t1, at_t2, tp2, tp3, e1, e2, fin0]
  | ats n =>
    have e1 : dIn false [] (.d (.str "at")) (.d (.tup [.str "place", .str "when"])) = some (.d (.bl false), []) := by rw [pw2, show decide (("at" : Str) ∈ (["place", "when"] : List Str)) = false by decide]
    have e2 : dIn false [] (.d (.str "at")) (.d (.tup [.str "call", .str "jump", .str "at"])) = some (.d (.bl true), []) := by rw [cja, show decide (("at" : Str) ∈ (["call", "jump", "at"] : List Str)) = true by decide]
    simp -implicitDefEqProofs [It.d, It.n, at_t0, at_t1, at_t2, tp2, tp3, e1, e2, fin0]
theorem named_call (t : It) (cl : List Cell) : callC false (f_named a) cl [.d t.d] = some (.d (.str t.n), cl) := call_flat rfl (fun _ => rfl) (named_ok t)
theorem anamed_call (t : It) (cl : List Cell) : callC false (f_law_anamed a) cl [.d t.d] = some (.d (.str t.n), cl) := call_flat rfl (fun _ => rfl) (anamed_ok t)
end Lw
/-! locals_of, defined -/
namespace FL
open PySem PySem.Spec L2
def putAll (kvs : Kvs) (qs : Kvs) : Kvs := qs.foldl (fun k q => putD k q.1 q.2) kvs
theorem map_upd (x : Str) (v : D) : ∀ kvs : Kvs, (kvs.map fun p => if p.1 = x then (p.1, v) else p).length = kvs.length := fun kvs => by simp
theorem merge_kvs : ∀ (qs : Kvs) (kvs : Kvs), mergeW (qs.map fun q => (W.d (.str q.1), W.d q.2)) (dkK kvs) (kvs.map fun p => W.d p.2) = some (dkK (putAll kvs qs), (putAll kvs qs).map fun p => W.d p.2)
  | [], kvs => rfl
  | q :: qs, kvs => by
    have e : mergeW ((q :: qs).map fun q => (W.d (.str q.1), W.d q.2)) (dkK kvs) (kvs.map fun p => W.d p.2) =
      if hasK (dkK kvs) (Sum.inr q.1) then mergeW (qs.map fun q => (W.d (.str q.1), W.d q.2)) (dkK kvs) (updK (dkK kvs) (kvs.map fun p => W.d p.2) (Sum.inr q.1) (W.d q.2)) else mergeW (qs.map fun q => (W.d (.str q.1), W.d q.2)) (dkK kvs ++ [Sum.inr q.1]) ((kvs.map fun p => W.d p.2) ++ [W.d q.2]) := rfl
    rw [e, has_kvs]
    have e2 : putAll kvs (q :: qs) = putAll (putD kvs q.1 q.2) qs := rfl
    rw [e2]
    cases h : (lookD kvs q.1).isSome with
    | true =>
      rw [if_pos rfl, upd_kvs, ← key_kvs q.1 q.2 kvs]
      have e3 : putD kvs q.1 q.2 = kvs.map fun p => if p.1 = q.1 then (p.1, q.2) else p := by rw [putD, if_pos h]
      rw [e3]
      exact merge_kvs qs _
    | false =>
      rw [if_neg (by decide)]
      have e3 : putD kvs q.1 q.2 = kvs ++ [(q.1, q.2)] := by rw [putD, if_neg (by rw [h]; decide)]
      have e4 : dkK kvs ++ [Sum.inr q.1] = dkK (kvs ++ [(q.1, q.2)]) := by simp [dkK]
      have e5 : (kvs.map fun p => W.d p.2) ++ [W.d q.2] = (kvs ++ [(q.1, q.2)]).map fun p => W.d p.2 := by simp
      rw [e3, e4, e5]
      exact merge_kvs qs _
theorem look_put (kvs : Kvs) (x y : Str) (v : D) : (lookD (putD kvs x v) y).isSome = (decide (x = y) || (lookD kvs y).isSome) := by
  have app : ∀ (k1 k2 : Kvs), (lookD (k1 ++ k2) y).isSome = ((lookD k1 y).isSome || (lookD k2 y).isSome) := fun k1 k2 => by
    induction k1 with
    | nil => rfl
    | cons p k1 ih =>
      show (if p.1 = y then some p.2 else lookD (k1 ++ k2) y).isSome = ((if p.1 = y then some p.2 else lookD k1 y).isSome || _)
      split
      · rfl
      · exact ih
  have upd : ∀ k1 : Kvs, (lookD (k1.map fun p => if p.1 = x then (p.1, v) else p) y).isSome = (lookD k1 y).isSome := fun k1 => by
    induction k1 with
    | nil => rfl
    | cons p k1 ih =>
      show (if (if p.1 = x then (p.1, v) else p).1 = y then some (if p.1 = x then (p.1, v) else p).2 else lookD (k1.map _) y).isSome = (if p.1 = y then some p.2 else lookD k1 y).isSome
      have e : (if p.1 = x then (p.1, v) else p).1 = p.1 := by split <;> rfl
      rw [e]
      split
      · rfl
      · exact ih
  unfold putD
  split
  · rename_i h
    rw [upd]
    by_cases z : x = y
    · subst z
      rw [h]
      simp
    · simp [z]
  · rw [app]
    by_cases z : x = y
    · subst z
      simp [lookD]
    · simp [lookD, z]
theorem look_all (y : Str) : ∀ (qs kvs : Kvs), (lookD (putAll kvs qs) y).isSome = ((lookD kvs y).isSome || decide (y ∈ qs.map (·.1)))
  | [], kvs => by simp [putAll]
  | q :: qs, kvs => by
    show (lookD (putAll (putD kvs q.1 q.2) qs) y).isSome = _
    rw [look_all y qs, look_put]
    by_cases z : q.1 = y
    · subst z
      simp
    · have z' : ¬ y = q.1 := fun h => z h.symm
      rw [decide_eq_false z, Bool.false_or, List.map_cons]
      congr 1
      exact decide_eq_decide.mpr ⟨fun h => List.mem_cons_of_mem _ h, fun h => (List.mem_cons.mp h).resolve_left z'⟩
end FL
namespace Lw
open PySem PySem.Spec L2 FL
variable {a : Ad}
/-- the symbols' first and second parts are texts that can be laid -/
structure Pc.Ok (p : Pc) : Prop where
  nb : ∀ s ∈ p.sy, PyData.strOk s.b = true
  nn : ∀ s ∈ p.sy, PyData.strOk s.n = true
  fw : p.its.length + p.cs.length ≤ 60
  fs : p.sy.length ≤ 60
  nd : (p.sy.map Sy.n).Nodup
  ni : ∀ t ∈ p.its ++ p.cs, PyData.strOk t.n = true
theorem p_2 {p : Pc} {cl : List Cell} : dIx cl (.d p.d) (.d (.int 2)) = some (.d (.tup (p.sy.map Sy.d)), cl) := at_t2
theorem p_1 {p : Pc} {cl : List Cell} : dIx cl (.d p.d) (.d (.int 1)) = some (.d (.tup [.tup [.str "c", .str "code", .int 1, .tup (p.its.map It.d)], .tup [.str "d", .str "data", .int 1, .tup (p.cs.map It.d)]]), cl) := at_t1
/-- the pairs of the symbols whose binding is b -/
def Pc.with (p : Pc) (b : Str) : List Sy := p.sy.filter fun s => decide (s.b = b)
def keepB (b : Str) : W → Bool
  | .d (.tup [_, .str z, _]) => decide (z = b)
  | _ => false
def pairOf : W → D
  | .d (.tup [x, _, w]) => .tup [x, w]
  | _ => .non
def nameOf : W → D
  | .d (.tup [x, _, _]) => x
  | _ => .non
theorem filter_sy (b : Str) (val : W → D) (f : Sy → D) (h : ∀ s : Sy, val (.d s.d) = f s) : ∀ l : List Sy, (((l.map Sy.d).map W.d).filter (keepB b)).map val = (l.filter fun s => decide (s.b = b)).map f
  | [] => rfl
  | s :: l => by
    have ih := filter_sy b val f h l
    have e : keepB b (.d s.d) = decide (s.b = b) := rfl
    simp only [List.map_cons, List.filter_cons, e]
    split
    · rw [List.map_cons, List.map_cons, ih, h]
    · exact ih
theorem locals_ok (p : Pc) (ok : p.Ok) : f_locals_of a [] [.d p.d] = some (.cel 0, [dkC (putAll [] ((p.with "local").map fun s => (s.n, s.w)))]) := by
  have e1 := lc_pure (c := false) (mi := iSeq (eBin dIx (eVar 0) (eC (.d (.int 2))))) (g := tTupG 3 (tsCons (tName 1) (tsCons (tName 2) (tsCons (tName 3) tsNil)))) (tt := bVal (eBin (eqvD false) (eVar 2) (eC (.d (.str "local"))))) (te := eCall oTup (aCons (eVar 1) (aCons (eVar 3) aNil))) (vs := [1, 2, 3])
    (r := ⟨[some (.d p.d), none, none, none], []⟩) (ds := (p.sy.map Sy.d).map W.d) (ck := none) (sl := [some (.d p.d), none, none, none]) (cl := []) (by
      simp only [iSeq, ev_bin, ev_var, ev_c, List.getElem?_cons_zero, Option.bind_some, Option.map_some, p_2, asTup]) (keepB "local") pairOf (fun _ => trivial) (by
      have := ok.fs
      rw [List.length_map, List.length_map, sizeLine_eq]
      omega) rfl (fun d hd acc => by
      obtain ⟨q, hq, rfl⟩ := List.mem_map.mp hd
      obtain ⟨s, hs, rfl⟩ := List.mem_map.mp hq
      have eb := eqv_str (neg := false) (cl := ([] : List Cell) ++ [.lst acc]) (ok.nb s hs) (show PyData.strOk "local" = true by decide +kernel)
      refine ⟨⟨[some (.d p.d), some (.d (.str s.n)), some (.d (.str s.b)), some (.d s.w)], [] ++ [.lst acc]⟩, by simp [Sy.d, wipeW, asTup], ⟨[some (.d p.d), some (.d (.str s.n)), some (.d (.str s.b)), some (.d s.w)], [] ++ [.lst acc]⟩, ?_, rfl, fun _ => ⟨⟨[some (.d p.d), some (.d (.str s.n)), some (.d (.str s.b)), some (.d s.w)], [] ++ [.lst acc]⟩, ?_, rfl⟩⟩
      · have ek : keepB "local" (.d s.d) = decide (s.b = "local") := rfl
        rw [ek]
        simp -implicitDefEqProofs only [ev_bVal, ev_bin, ev_var, ev_c, List.getElem?_cons_zero, List.getElem?_cons_succ, Option.bind_some, Option.map_some, eb, sg]
        rfl
      · simp -implicitDefEqProofs [tp2, Sy.d, pairOf])
  rw [filter_sy "local" pairOf (fun s => .tup [.str s.n, s.w]) (fun _ => rfl)] at e1
  have e1 := e1
  simp only [Bool.false_eq_true, if_false] at e1
  have e2 : oDictP true [] [.d (.lst ((p.with "local").map fun s => .tup [.str s.n, s.w]))] = some (.cel 0, [dkC (putAll [] ((p.with "local").map fun s => (s.n, s.w)))]) := by
    have e3 : pairsW (((p.with "local").map fun s => D.tup [.str s.n, s.w]).map W.d) = some (((p.with "local").map fun s => (s.n, s.w)).map fun q => (W.d (.str q.1), W.d q.2)) := by
      induction p.with "local" with
      | nil => rfl
      | cons s l ih =>
        have u : pairsW (((s :: l).map fun s => D.tup [.str s.n, s.w]).map W.d) = (pairsW ((l.map fun s => D.tup [.str s.n, s.w]).map W.d)).map ((W.d (.str s.n), W.d s.w) :: ·) := rfl
        rw [u, ih]
        rfl
    have e4 := merge_kvs ((p.with "local").map fun s => (s.n, s.w)) []
    simp only [oDictP, asList, e3]
    have e4 : mergeW (((p.with "local").map fun s => (s.n, s.w)).map fun q => (W.d (.str q.1), W.d q.2)) [] [] = _ := e4
    rw [e4]
    rfl
  rw [f_locals_of, run_eq, m_locals_of]
  have e5 : (⟨[W.d p.d].map some ++ List.replicate (4 - [W.d p.d].length) none, []⟩ : Rho) = ⟨[some (.d p.d), none, none, none], []⟩ := rfl
  rw [e5, ev_sRet, ev_call, ev_cons, e1]
  simp only [Option.bind_some, ev_nil, Option.map_some]
  have e2 : oDictP true [] [.d (.lst ((p.sy.filter fun s : Sy => decide (s.b = ("local" : Str))).map fun s => .tup [.str s.n, s.w]))] = _ := e2
  rw [e2]
  exact fin_K
end Lw
/-! defined, asked -/
namespace Lw
open PySem PySem.Spec L2 FL
variable {a : Ad}
abbrev defB : List Str := ["strong", "weak", "common"]
def Pc.defs (p : Pc) : List Str := (p.sy.filter fun s => decide (s.b ∈ defB)).map Sy.n
def keepIn : W → Bool
  | .d (.tup [_, .str z, _]) => decide (z ∈ defB)
  | _ => false
theorem filter_in : ∀ l : List Sy, (((l.map Sy.d).map W.d).filter keepIn).map nameOf = ((l.filter fun s => decide (s.b ∈ defB)).map Sy.n).map D.str
  | [] => rfl
  | s :: l => by
    have ih := filter_in l
    have e : keepIn (.d s.d) = decide (s.b ∈ defB) := rfl
    simp only [List.map_cons, List.filter_cons, e]
    split
    · rw [List.map_cons, List.map_cons, List.map_cons, ih]
      rfl
    · exact ih
theorem defined_ok (p : Pc) (ok : p.Ok) : f_defined a [] [.d p.d] = some (.cel 0, [lstD (p.defs.map D.str)]) := by
  have e1 := lc_pure (c := true) (mi := iSeq (eBin dIx (eVar 0) (eC (.d (.int 2))))) (g := tTupG 3 (tsCons (tName 1) (tsCons (tName 2) (tsCons (tName 3) tsNil)))) (tt := bVal (eBin (dIn false) (eVar 2) (eC (.d (.rtup ((["strong", "weak", "common"] : List Str).map D.str)))))) (te := eVar 1) (vs := [1, 2, 3])
    (r := ⟨[some (.d p.d), none, none, none], []⟩) (ds := (p.sy.map Sy.d).map W.d) (ck := none) (sl := [some (.d p.d), none, none, none]) (cl := []) (by
      simp only [iSeq, ev_bin, ev_var, ev_c, List.getElem?_cons_zero, Option.bind_some, Option.map_some, p_2, asTup]) keepIn nameOf (fun _ => trivial) (by
      have := ok.fs
      rw [List.length_map, List.length_map, sizeLine_eq]
      omega) rfl (fun d hd acc => by
      obtain ⟨q, hq, rfl⟩ := List.mem_map.mp hd
      obtain ⟨s, hs, rfl⟩ := List.mem_map.mp hq
      have eb := in_rtup (neg := false) (cl := ([] : List Cell) ++ [.lst acc]) (s := s.b) (ns := defB)
      refine ⟨⟨[some (.d p.d), some (.d (.str s.n)), some (.d (.str s.b)), some (.d s.w)], [] ++ [.lst acc]⟩, by simp [Sy.d, wipeW, asTup], ⟨[some (.d p.d), some (.d (.str s.n)), some (.d (.str s.b)), some (.d s.w)], [] ++ [.lst acc]⟩, ?_, rfl, fun _ => ⟨⟨[some (.d p.d), some (.d (.str s.n)), some (.d (.str s.b)), some (.d s.w)], [] ++ [.lst acc]⟩, ?_, rfl⟩⟩
      · have ek : keepIn (.d s.d) = decide (s.b ∈ defB) := rfl
        rw [ek]
        simp -implicitDefEqProofs only [ev_bVal, ev_bin, ev_var, ev_c, List.getElem?_cons_zero, List.getElem?_cons_succ, Option.bind_some, Option.map_some, eb, sg]
        rfl
      · simp -implicitDefEqProofs [Sy.d, nameOf])
  rw [filter_in] at e1
  simp only [if_true] at e1
  rw [f_defined, run_eq, m_defined]
  have e5 : (⟨[W.d p.d].map some ++ List.replicate (4 - [W.d p.d].length) none, []⟩ : Rho) = ⟨[some (.d p.d), none, none, none], []⟩ := rfl
  rw [e5, ev_sRet, e1]
  exact fin_L
theorem defined_call (p : Pc) (ok : p.Ok) (cl : List Cell) : callC false (f_defined a) cl [.d p.d] = some (.d (.lst (p.defs.map D.str)), cl) := call_flatL rfl (fun _ => rfl) (defined_ok p ok)
theorem locals_call (p : Pc) (ok : p.Ok) (cl : List Cell) : callC false (f_locals_of a) cl [.d p.d] = some (.d (dkD (putAll [] ((p.with "local").map fun s => (s.n, s.w)))), cl) := call_flatK rfl (fun _ => rfl) (locals_ok p ok)
/-! asked -/
def isLoc (p : Pc) (x : Str) : Bool := decide (x ∈ (p.with "local").map Sy.n)
def tru (ns : List Str) : Kvs := ns.map fun n => (n, .bl true)
def insN (ns : List Str) (x : Str) : List Str := if x ∈ ns then ns else ns ++ [x]
def addN (own : Str → Bool) (ns : List Str) (x : Str) : List Str := if own x then ns else insN ns x
theorem look_tru (x : Str) : ∀ ns : List Str, (lookD (tru ns) x).isSome = decide (x ∈ ns)
  | [] => rfl
  | n :: ns => by
    have ih := look_tru x ns
    show (if n = x then some (D.bl true) else lookD (tru ns) x).isSome = _
    by_cases h : n = x
    · subst h
      simp
    · have h' : ¬ x = n := fun z => h z.symm
      rw [if_neg h, ih]
      exact decide_eq_decide.mpr ⟨fun z => List.mem_cons_of_mem _ z, fun z => (List.mem_cons.mp z).resolve_left h'⟩
theorem put_tru (ns : List Str) (x : Str) : putD (tru ns) x (.bl true) = tru (insN ns x) := by
  unfold putD insN
  rw [look_tru]
  by_cases h : x ∈ ns
  · rw [if_pos (by simpa using h), if_pos h]
    unfold tru
    rw [List.map_map]
    refine List.map_congr_left fun n _ => ?_
    show (if n = x then (n, D.bl true) else (n, D.bl true)) = (n, D.bl true)
    split <;> rfl
  · rw [if_neg (by simpa using h), if_neg h]
    simp [tru]
theorem look_loc (p : Pc) (x : Str) : (lookD (putAll [] ((p.with "local").map fun s => (s.n, s.w))) x).isSome = isLoc p x := by
  rw [look_all]
  simp [lookD, isLoc]
theorem asked_turn {pd : D} {kv : Kvs} {own : Str → Bool} (ho : ∀ x, (lookD kv x).isSome = own x) {ns : List Str} (hl : ns.length ≤ 1000) {s3 s5 : Option W} (t : It) :
    b_asked_3_f_f a ⟨[some (.d pd), some (.d (dkD kv)), some (.cel 0), s3, some (.d t.d), s5], [dkC (tru ns)]⟩ = some (.nx ⟨[some (.d pd), some (.d (dkD kv)), some (.cel 0), s3, some (.d t.d), some (.d (.str t.n))], [dkC (tru (addN own ns t.n))]⟩) := by
  have e1 := named_call (a := a) t [dkC (tru ns)]
  have e2 := din_d (neg := true) (cl := [dkC (tru ns)]) (kvs := kv) (x := t.n)
  have e3 : dPutC [dkC (tru ns)] (.cel 0) (.d (.str t.n)) (.d (.bl true)) = some [dkC (tru (insN ns t.n))] := by
    rw [dput_c (n := 0) (kvs := tru ns) rfl (by rw [sizeLine_eq]; simp [tru]; omega), put_tru]
    rfl
  rw [ho] at e2
  rw [b_asked_3_f_f, b_asked_3_f_f_1, b_asked_3_f_f_2]
  generalize t.d = td at *
  generalize t.n = tn at *
  generalize dkD kv = kd at *
  cases h : own tn with
  | true => 
    rw [h] at e2
    simp -implicitDefEqProofs [e1, e2, sg, isN, addN, h]
  | false =>
    rw [h] at e2
    simp -implicitDefEqProofs [e1, e2, e3, sg, isN, addN, h, sPutD]
end Lw
/-! asked -/
namespace Lw
open PySem PySem.Spec L2 FL
variable {a : Ad}
def addAll (own : Str → Bool) (ns : List Str) (l : List It) : List Str := l.foldl (fun ns t => addN own ns t.n) ns
theorem addN_len (own : Str → Bool) (ns : List Str) (x : Str) : (addN own ns x).length ≤ ns.length + 1 := by
  unfold addN insN
  split
  · omega
  · split
    · omega
    · simp
theorem addAll_len (own : Str → Bool) : ∀ (l : List It) (ns : List Str), (addAll own ns l).length ≤ ns.length + l.length
  | [], ns => by simp [addAll]
  | t :: l, ns => by
    have h1 := addAll_len own l (addN own ns t.n)
    have h2 := addN_len own ns t.n
    show (addAll own (addN own ns t.n) l).length ≤ _
    rw [List.length_cons]
    omega
section
variable {pd : D} {kv : Kvs} {own : Str → Bool} (ho : ∀ x, (lookD kv x).isSome = own x)
include ho
theorem asked_list : ∀ (l : List It) (ns : List Str) (s3 s4 s5 : Option W), ns.length + l.length ≤ 1000 → ∃ s4' s5', forL (tName 4) (b_asked_3_f_f a) none ((l.map It.d).map W.d) ⟨[some (.d pd), some (.d (dkD kv)), some (.cel 0), s3, s4, s5], [dkC (tru ns)]⟩ = some (.nx ⟨[some (.d pd), some (.d (dkD kv)), some (.cel 0), s3, s4', s5'], [dkC (tru (addAll own ns l))]⟩)
  | [], ns, s3, s4, s5, _ => ⟨s4, s5, by
    simp only [List.map_nil, forL]
    rw [if_pos (show ckC none _ from trivial)]
    rfl⟩
  | t :: l, ns, s3, s4, s5, hl => by
    rw [List.length_cons] at hl
    have e := asked_turn (a := a) (pd := pd) ho (ns := ns) (by omega) (s3 := s3) (s5 := s5) t
    have h2 := addN_len own ns t.n
    obtain ⟨s4', s5', ih⟩ := asked_list l (addN own ns t.n) s3 (some (.d t.d)) (some (.d (.str t.n))) (by omega)
    refine ⟨s4', s5', ?_⟩
    have u : forL (tName 4) (b_asked_3_f_f a) none (((t :: l).map It.d).map W.d) ⟨[some (.d pd), some (.d (dkD kv)), some (.cel 0), s3, s4, s5], [dkC (tru ns)]⟩ =
      (b_asked_3_f_f a ⟨[some (.d pd), some (.d (dkD kv)), some (.cel 0), s3, some (.d t.d), s5], [dkC (tru ns)]⟩).bind fun o => match o with
        | .nx r2 => forL (tName 4) (b_asked_3_f_f a) none ((l.map It.d).map W.d) r2
        | .ct r2 => forL (tName 4) (b_asked_3_f_f a) none ((l.map It.d).map W.d) r2
        | .bk r2 => some (.nx r2)
        | .ret d r2 => some (.ret d r2) := by
      simp only [List.map_cons, forL]
      rw [if_pos (show ckC none _ from trivial)]
      simp only [ev_tName, List.set_cons_succ, List.set_cons_zero]
      generalize b_asked_3_f_f a _ = o
      rcases o with _ | (_ | _ | _ | _) <;> rfl
    rw [u, e]
    exact ih
theorem asked_sec (x y z : D) (l : List It) (ns : List Str) (s4 s5 : Option W) (hl : ns.length + l.length ≤ 1000) : ∃ s4' s5', b_asked_3_f a ⟨[some (.d pd), some (.d (dkD kv)), some (.cel 0), some (.d (.tup [x, y, z, .tup (l.map It.d)])), s4, s5], [dkC (tru ns)]⟩ =
    some (.nx ⟨[some (.d pd), some (.d (dkD kv)), some (.cel 0), some (.d (.tup [x, y, z, .tup (l.map It.d)])), s4', s5'], [dkC (tru (addAll own ns l))]⟩) := by
  obtain ⟨s4', s5', e⟩ := asked_list (a := a) (pd := pd) ho l ns (some (.d (.tup [x, y, z, .tup (l.map It.d)]))) s4 s5 hl
  refine ⟨s4', s5', ?_⟩
  have e3 : dIx [dkC (tru ns)] (.d (.tup [x, y, z, .tup (l.map It.d)])) (.d (.int 3)) = some (.d (.tup (l.map It.d)), [dkC (tru ns)]) := at_t (P := [x, y, z, .tup (l.map It.d)]) (i := 3) (by simp)
  rw [b_asked_3_f, ev_sFor]
  have e4 : iSeq (eBin dIx (eVar 3) (eC (.d (.int 3)))) ⟨[some (.d pd), some (.d (dkD kv)), some (.cel 0), some (.d (.tup [x, y, z, .tup (l.map It.d)])), s4, s5], [dkC (tru ns)]⟩ = some (((l.map It.d).map W.d, none), ⟨[some (.d pd), some (.d (dkD kv)), some (.cel 0), some (.d (.tup [x, y, z, .tup (l.map It.d)])), s4, s5], [dkC (tru ns)]⟩) := by
    simp only [iSeq, ev_bin, ev_var, ev_c, List.getElem?_cons_zero, List.getElem?_cons_succ, Option.bind_some, Option.map_some, e3, asTup]
  rw [e4]
  exact e
end
/-- what a piece asks -/
def Pc.found (p : Pc) : List Str := addAll (isLoc p) (addAll (isLoc p) [] p.its) p.cs
def Pc.asks (p : Pc) : List Str := sortT p.found
theorem found_len (p : Pc) (ok : p.Ok) : p.found.length ≤ 60 := by
  have h1 := addAll_len (isLoc p) p.its []
  have h2 := addAll_len (isLoc p) p.cs (addAll (isLoc p) [] p.its)
  have := ok.fw
  unfold Pc.found
  simp at h1
  omega
theorem sorted_kvs {cl : List Cell} {n : Nat} {ns : List Str} (h : cl[n]? = some (dkC (tru ns))) (hl : ns.length < 64) : oSorted true cl [.cel n] = some (.cel cl.length, cl ++ [lstD ((sortT ns).map D.str)]) := by
  have ek : (tru ns).map (·.1) = ns := by
    unfold tru
    rw [List.map_map]
    exact List.map_id' ns
  have h' : cl[n]? = some (.dk (dkK (tru ns)) ((tru ns).map fun p => W.d p.2)) := h
  have e1 : asList cl (.cel n) = none := by simp only [asList, h']
  have e2 : asDk cl (.cel n) = some (dkK (tru ns), (tru ns).map fun p => W.d p.2) := by simp only [asDk, h']
  have e3 := strsK_kvs (tru ns)
  rw [ek] at e3
  have em : (sortT ns).map (fun i => W.d (.str i)) = ((sortT ns).map D.str).map W.d := by rw [List.map_map]; rfl
  cases ns with
  | nil =>
    have e4 : sortedOf cl (.cel n) = some (.inl []) := by
      simp only [sortedOf, e1, e2]
      rfl
    simp only [oSorted, e4]
    rw [if_pos (by decide), show sortI [] = [] by simp [sortI], show sortT [] = [] by simp [sortT]]
    rfl
  | cons s ss =>
    have e4 : sortedOf cl (.cel n) = some (.inr (s :: ss)) := by
      simp only [sortedOf, e1, e2, e3]
      rfl
    simp only [oSorted, e4]
    rw [if_pos hl, em]
    rfl
theorem fin_last {c0 : Cell} {P : List D} : fin 0 (.cel 1) [c0, lstD P] = some (.cel 0, [lstD P]) := by
  have e : clos [c0, lstD P] 3 [1] = [1] := by simp -implicitDefEqProofs [clos, cellAt]
  have e2 : isPart [c0, lstD P] [1] = true := by simp -implicitDefEqProofs [isPart, cellAt]
  have e4 : FL.part [c0, lstD P] [1] = [lstD P] := by simp -implicitDefEqProofs [FL.part, cellAt]
  have e5 : ((W.cel 1).refs.filter fun n => decide (0 ≤ n)) = [1] := rfl
  unfold fin
  simp only [List.length_cons, List.length_nil, e5, List.range_zero, List.nil_append, show [1].eraseDups = [1] from rfl, e, e2, e4]
  simp -implicitDefEqProofs [ix]
theorem asked_ok (p : Pc) (ok : p.Ok) : f_asked a [] [.d p.d] = some (.cel 0, [lstD (p.asks.map D.str)]) := by
  have e0 := locals_call (a := a) p ok []
  have ho := look_loc p
  have hf := ok.fw
  generalize putAll [] ((p.with "local").map fun s => (s.n, s.w)) = kv at *
  obtain ⟨s4, s5, e1⟩ := asked_sec (a := a) (pd := p.d) ho (.str "c") (.str "code") (.int 1) p.its [] none none (by simp; omega)
  have hl1 := addAll_len (isLoc p) p.its []
  obtain ⟨s4', s5', e2⟩ := asked_sec (a := a) (pd := p.d) ho (.str "d") (.str "data") (.int 1) p.cs (addAll (isLoc p) [] p.its) s4 s5 (by simp at hl1; omega)
  have e3 : b_asked_3 a ⟨[some (.d p.d), some (.d (dkD kv)), some (.cel 0), none, none, none], [dkC (tru [])]⟩ = some (.nx ⟨[some (.d p.d), some (.d (dkD kv)), some (.cel 0), some (.d (.tup [.str "d", .str "data", .int 1, .tup (p.cs.map It.d)])), s4', s5'], [dkC (tru p.found)]⟩) := by
    rw [b_asked_3, ev_sFor]
    have e4 : iSeq (eBin dIx (eVar 0) (eC (.d (.int 1)))) ⟨[some (.d p.d), some (.d (dkD kv)), some (.cel 0), none, none, none], [dkC (tru [])]⟩ = some (([W.d (.tup [.str "c", .str "code", .int 1, .tup (p.its.map It.d)]), W.d (.tup [.str "d", .str "data", .int 1, .tup (p.cs.map It.d)])], none), ⟨[some (.d p.d), some (.d (dkD kv)), some (.cel 0), none, none, none], [dkC (tru [])]⟩) := by
      simp only [iSeq, ev_bin, ev_var, ev_c, List.getElem?_cons_zero, List.getElem?_cons_succ, Option.bind_some, Option.map_some, p_1, asTup]
      rfl
    rw [e4]
    simp only [Option.bind_some, forL]
    rw [if_pos (show ckC none _ from trivial)]
    simp only [ev_tName, List.set_cons_succ, List.set_cons_zero, e1]
    rw [if_pos (show ckC none _ from trivial)]
    simp only [e2]
    rw [if_pos (show ckC none _ from trivial)]
    rfl
  have e6 := sorted_kvs (cl := [dkC (tru p.found)]) (n := 0) rfl (by have := found_len p ok; omega)
  have e7 : b_asked_1 a ⟨[some (.d p.d), none, none, none, none, none], []⟩ = some (.nx ⟨[some (.d p.d), some (.d (dkD kv)), none, none, none, none], []⟩) := by
    rw [b_asked_1]
    simp -implicitDefEqProofs [e0]
  have e8 : b_asked_2 a ⟨[some (.d p.d), some (.d (dkD kv)), none, none, none, none], []⟩ = some (.nx ⟨[some (.d p.d), some (.d (dkD kv)), some (.cel 0), none, none, none], [dkC (tru [])]⟩) := by
    rw [b_asked_2]
    rfl
  have e9 : b_asked_4 a ⟨[some (.d p.d), some (.d (dkD kv)), some (.cel 0), some (.d (.tup [.str "d", .str "data", .int 1, .tup (p.cs.map It.d)])), s4', s5'], [dkC (tru p.found)]⟩ = some (.ret (.cel 1) ⟨[some (.d p.d), some (.d (dkD kv)), some (.cel 0), some (.d (.tup [.str "d", .str "data", .int 1, .tup (p.cs.map It.d)])), s4', s5'], [dkC (tru p.found), lstD (p.asks.map D.str)]⟩) := by
    rw [b_asked_4]
    simp -implicitDefEqProofs [e6]
    rfl
  rw [f_asked, run_eq, split_asked]
  have e5 : (⟨[W.d p.d].map some ++ List.replicate (6 - [W.d p.d].length) none, []⟩ : Rho) = ⟨[some (.d p.d), none, none, none, none, none], []⟩ := rfl
  rw [e5]
  simp only [ev_sSeq, e7, e8, e3, e9, Option.bind_some, nxt_nx]
  exact fin_last
theorem asked_call (p : Pc) (ok : p.Ok) (cl : List Cell) : callC false (f_asked a) cl [.d p.d] = some (.d (.lst (p.asks.map D.str)), cl) := call_flatL rfl (fun _ => rfl) (asked_ok p ok)
end Lw
/-! the law's own: symbols, names asked, names defined -/
namespace Lw
open PySem PySem.Spec L2 FL
variable {a : Ad}
def symL : List Sy → Str → D
  | [], x => .tup [.str x, .str "", .non]
  | s :: l, x => if s.n = x then s.d else symL l x
def bndL : List Sy → Str → Str
  | [], _ => ""
  | s :: l, x => if s.n = x then s.b else bndL l x
theorem sym_at (x : Str) : ∀ l : List Sy, ∃ u v, symL l x = .tup [u, .str (bndL l x), v]
  | [] => ⟨_, _, rfl⟩
  | s :: l => by
    obtain ⟨u, v, e⟩ := sym_at x l
    unfold symL bndL
    split
    · exact ⟨_, _, rfl⟩
    · exact ⟨u, v, e⟩
theorem sym_list {pd : D} {x : Str} (hx : PyData.strOk x = true) : ∀ (l : List Sy) (s2 : Option W), (∀ s ∈ l, PyData.strOk s.n = true) → (∃ s2', forL (tName 2) (b_law_asymbol_1_f a) none ((l.map Sy.d).map W.d) ⟨[some (.d pd), some (.d (.str x)), s2], []⟩ = some (.nx ⟨[some (.d pd), some (.d (.str x)), s2'], []⟩) ∧ symL l x = .tup [.str x, .str "", .non]) ∨
    ∃ s2', forL (tName 2) (b_law_asymbol_1_f a) none ((l.map Sy.d).map W.d) ⟨[some (.d pd), some (.d (.str x)), s2], []⟩ = some (.ret (.d (symL l x)) ⟨[some (.d pd), some (.d (.str x)), s2'], []⟩)
  | [], s2, _ => .inl ⟨s2, by
    simp only [List.map_nil, forL]
    rw [if_pos (show ckC none _ from trivial)], rfl⟩
  | s :: l, s2, h => by
    have e1 := eqv_str (neg := false) (cl := ([] : List Cell)) (h s List.mem_cons_self) hx
    have e0 : dIx ([] : List Cell) (.d s.d) (.d (.int 0)) = some (.d (.str s.n), []) := at_t0
    have ih := sym_list (pd := pd) hx l (some (.d s.d)) fun q hq => h q (List.mem_cons_of_mem _ hq)
    have e2 : b_law_asymbol_1_f a ⟨[some (.d pd), some (.d (.str x)), some (.d s.d)], []⟩ = some (if s.n = x then .ret (.d s.d) ⟨[some (.d pd), some (.d (.str x)), some (.d s.d)], []⟩ else .nx ⟨[some (.d pd), some (.d (.str x)), some (.d s.d)], []⟩) := by
      rw [b_law_asymbol_1_f]
      by_cases z : s.n = x
      · rw [decide_eq_true z] at e1
        rw [if_pos z]
        simp -implicitDefEqProofs [e0, e1, sg]
      · rw [decide_eq_false z] at e1
        rw [if_neg z]
        simp -implicitDefEqProofs [e0, e1, sg]
    simp only [List.map_cons, forL]
    rw [if_pos (show ckC none _ from trivial)]
    simp only [ev_tName, List.set_cons_succ, List.set_cons_zero, e2]
    unfold symL
    by_cases z : s.n = x
    · simp only [if_pos z]
      exact .inr ⟨_, rfl⟩
    · simp only [if_neg z]
      exact ih
theorem symbol_ok (p : Pc) (ok : p.Ok) {x : Str} (hx : PyData.strOk x = true) : f_law_asymbol a [] [.d p.d, .d (.str x)] = some (.d (symL p.sy x), []) := by
  have e5 : (⟨[W.d p.d, W.d (.str x)].map some ++ List.replicate (3 - [W.d p.d, W.d (.str x)].length) none, []⟩ : Rho) = ⟨[some (.d p.d), some (.d (.str x)), none], []⟩ := rfl
  have e4 : iSeq (eBin dIx (eVar 0) (eC (.d (.int 2)))) ⟨[some (.d p.d), some (.d (.str x)), none], []⟩ = some (((p.sy.map Sy.d).map W.d, none), ⟨[some (.d p.d), some (.d (.str x)), none], []⟩) := by
    simp only [iSeq, ev_bin, ev_var, ev_c, List.getElem?_cons_zero, List.getElem?_cons_succ, Option.bind_some, Option.map_some, p_2, asTup]
  rw [f_law_asymbol, run_eq, split_law_asymbol, e5, ev_sSeq, b_law_asymbol_1, ev_sFor, e4]
  simp only [Option.bind_some]
  rcases sym_list (a := a) (pd := p.d) hx p.sy none ok.nn with ⟨s2, e, es⟩ | ⟨s2, e⟩
  · rw [e, es]
    simp only [Option.bind_some, nxt_nx]
    rw [b_law_asymbol_2]
    simp -implicitDefEqProofs [tp3, fin0]
  · rw [e]
    exact fin0
theorem symbol_call (p : Pc) (ok : p.Ok) {x : Str} (hx : PyData.strOk x = true) (cl : List Cell) : callC false (f_law_asymbol a) cl [.d p.d, .d (.str x)] = some (.d (symL p.sy x), cl) := call_flat rfl (fun _ => rfl) (symbol_ok p ok hx)
theorem bnd_mem (x b : Str) (hb : b ≠ "") : ∀ l : List Sy, (l.map Sy.n).Nodup → (bndL l x = b ↔ x ∈ (l.filter fun s => decide (s.b = b)).map Sy.n)
  | [], _ => by
    unfold bndL
    simp [Ne.symm hb]
  | s :: l, h => by
    obtain ⟨h1, h2⟩ := List.nodup_cons.mp (show (s.n :: l.map Sy.n).Nodup from h)
    have ih := bnd_mem x b hb l h2
    have sub : x ∈ (l.filter fun s => decide (s.b = b)).map Sy.n → x ∈ l.map Sy.n := fun q => by
      obtain ⟨t, ht, e⟩ := List.mem_map.mp q
      exact List.mem_map.mpr ⟨t, (List.mem_filter.mp ht).1, e⟩
    unfold bndL
    by_cases z : s.n = x
    · rw [if_pos z]
      rw [z] at h1
      by_cases y : s.b = b
      · simp [List.filter_cons, y, z]
      · rw [List.filter_cons, if_neg (by simpa using y)]
        exact ⟨fun q => absurd q y, fun q => absurd (sub q) h1⟩
    · rw [if_neg z, ih, List.filter_cons]
      split
      · rw [List.map_cons]
        exact ⟨fun q => List.mem_cons_of_mem _ q, fun q => (List.mem_cons.mp q).resolve_left fun w => z w.symm⟩
      · exact Iff.rfl
theorem bnd_ok (p : Pc) (ok : p.Ok) : ∀ s ∈ p.sy, PyData.strOk s.b = true := ok.nb
theorem bndL_ok (x : Str) : ∀ l : List Sy, (∀ s ∈ l, PyData.strOk s.b = true) → PyData.strOk (bndL l x) = true
  | [], _ => by
    unfold bndL
    decide +kernel
  | s :: l, h => by
    unfold bndL
    split
    · exact h s List.mem_cons_self
    · exact bndL_ok x l fun q hq => h q (List.mem_cons_of_mem _ hq)
/-- asymbol(piece, x)[1] -/
theorem bnd_ix (p : Pc) (x : Str) (cl : List Cell) : dIx cl (.d (symL p.sy x)) (.d (.int 1)) = some (.d (.str (bndL p.sy x)), cl) := by
  obtain ⟨u, v, e⟩ := sym_at x p.sy
  rw [e]
  exact at_t1
/-! names asked, as the law tells them -/
theorem aasks_turn (p : Pc) (ok : p.Ok) {ns : List Str} (hl : ns.length ≤ 1000) {s2 s4 : Option W} (t : It) (ht : PyData.strOk t.n = true) :
    b_law_aasks_2_f_f a ⟨[some (.d p.d), some (.cel 0), s2, some (.d t.d), s4], [lstD (ns.map D.str)]⟩ = some (.nx ⟨[some (.d p.d), some (.cel 0), s2, some (.d t.d), some (.d (.str t.n))], [lstD ((addN (isLoc p) ns t.n).map D.str)]⟩) := by
  have e1 := anamed_call (a := a) t [lstD (ns.map D.str)]
  have e2 := in_cel (neg := true) (cl := [lstD (ns.map D.str)]) (n := 0) (s := t.n) (ns := ns) rfl
  have e3 := symbol_call (a := a) p ok ht [lstD (ns.map D.str)]
  have e4 := bnd_ix p t.n [lstD (ns.map D.str)]
  have e5 := eqv_str (neg := true) (cl := [lstD (ns.map D.str)]) (bndL_ok t.n p.sy ok.nb) (show PyData.strOk "local" = true by decide +kernel)
  have e6 : mAppend [lstD (ns.map D.str)] [.cel 0, .d (.str t.n)] = some (.d .non, [lstD ((ns ++ [t.n]).map D.str)]) := by
    have := app_c (cl := [lstD (ns.map D.str)]) (n := 0) (P := ns.map D.str) (x := .str t.n) rfl (by rw [List.length_map]; omega)
    rw [this]
    simp
  have e7 : isLst [lstD (ns.map D.str)] (.cel 0) = true := isLst_c rfl
  have eb : decide (bndL p.sy t.n = "local") = isLoc p t.n := decide_eq_decide.mpr (bnd_mem t.n "local" (by decide) p.sy ok.nd)
  rw [eb] at e5
  rw [b_law_aasks_2_f_f, b_law_aasks_2_f_f_1, b_law_aasks_2_f_f_2]
  generalize p.d = pd at *
  generalize t.d = td at *
  generalize t.n = tn at *
  generalize symL p.sy tn = sd at *
  unfold addN insN
  by_cases z : tn ∈ ns
  · rw [decide_eq_true z] at e2
    cases h : isLoc p tn with
    | true =>
      rw [h] at e5
      simp -implicitDefEqProofs [e1, e2, e3, e4, e5, e6, e7, sg, isN, z]
    | false =>
      rw [h] at e5
      simp -implicitDefEqProofs [e1, e2, e3, e4, e5, e6, e7, sg, isN, z]
  · rw [decide_eq_false z] at e2
    cases h : isLoc p tn with
    | true =>
      rw [h] at e5
      simp -implicitDefEqProofs [e1, e2, e3, e4, e5, e6, e7, sg, isN, z]
    | false =>
      rw [h] at e5
      simp -implicitDefEqProofs [e1, e2, e3, e4, e5, e6, e7, sg, isN, z]
end Lw
/-! the law's own: names asked, names defined -/
namespace Lw
open PySem PySem.Spec L2 FL
variable {a : Ad}
theorem aasks_list (p : Pc) (ok : p.Ok) : ∀ (l : List It) (ns : List Str) (s2 s3 s4 : Option W), (∀ t ∈ l, PyData.strOk t.n = true) → ns.length + l.length ≤ 1000 → ∃ s3' s4', forL (tName 3) (b_law_aasks_2_f_f a) none ((l.map It.d).map W.d) ⟨[some (.d p.d), some (.cel 0), s2, s3, s4], [lstD (ns.map D.str)]⟩ = some (.nx ⟨[some (.d p.d), some (.cel 0), s2, s3', s4'], [lstD ((addAll (isLoc p) ns l).map D.str)]⟩)
  | [], ns, s2, s3, s4, _, _ => ⟨s3, s4, by
    simp only [List.map_nil, forL]
    rw [if_pos (show ckC none _ from trivial)]
    rfl⟩
  | t :: l, ns, s2, s3, s4, ht, hl => by
    rw [List.length_cons] at hl
    have e := aasks_turn (a := a) p ok (ns := ns) (by omega) (s2 := s2) (s4 := s4) t (ht t List.mem_cons_self)
    have h2 := addN_len (isLoc p) ns t.n
    obtain ⟨s3', s4', ih⟩ := aasks_list p ok l (addN (isLoc p) ns t.n) s2 (some (.d t.d)) (some (.d (.str t.n))) (fun q hq => ht q (List.mem_cons_of_mem _ hq)) (by omega)
    refine ⟨s3', s4', ?_⟩
    simp only [List.map_cons, forL]
    rw [if_pos (show ckC none _ from trivial)]
    simp only [ev_tName, List.set_cons_succ, List.set_cons_zero, e]
    exact ih
theorem aasks_sec (p : Pc) (ok : p.Ok) (x y z : D) (l : List It) (ns : List Str) (s3 s4 : Option W) (ht : ∀ t ∈ l, PyData.strOk t.n = true) (hl : ns.length + l.length ≤ 1000) : ∃ s3' s4', b_law_aasks_2_f a ⟨[some (.d p.d), some (.cel 0), some (.d (.tup [x, y, z, .tup (l.map It.d)])), s3, s4], [lstD (ns.map D.str)]⟩ =
    some (.nx ⟨[some (.d p.d), some (.cel 0), some (.d (.tup [x, y, z, .tup (l.map It.d)])), s3', s4'], [lstD ((addAll (isLoc p) ns l).map D.str)]⟩) := by
  obtain ⟨s3', s4', e⟩ := aasks_list (a := a) p ok l ns (some (.d (.tup [x, y, z, .tup (l.map It.d)]))) s3 s4 ht hl
  refine ⟨s3', s4', ?_⟩
  have e3 : dIx [lstD (ns.map D.str)] (.d (.tup [x, y, z, .tup (l.map It.d)])) (.d (.int 3)) = some (.d (.tup (l.map It.d)), [lstD (ns.map D.str)]) := at_t (P := [x, y, z, .tup (l.map It.d)]) (i := 3) (by simp)
  rw [b_law_aasks_2_f, ev_sFor]
  have e4 : iSeq (eBin dIx (eVar 2) (eC (.d (.int 3)))) ⟨[some (.d p.d), some (.cel 0), some (.d (.tup [x, y, z, .tup (l.map It.d)])), s3, s4], [lstD (ns.map D.str)]⟩ = some (((l.map It.d).map W.d, none), ⟨[some (.d p.d), some (.cel 0), some (.d (.tup [x, y, z, .tup (l.map It.d)])), s3, s4], [lstD (ns.map D.str)]⟩) := by
    simp only [iSeq, ev_bin, ev_var, ev_c, List.getElem?_cons_zero, List.getElem?_cons_succ, Option.bind_some, Option.map_some, e3, asTup]
  rw [e4]
  exact e
theorem sorted_lst {cl : List Cell} {n : Nat} {ns : List Str} (c : Bool) (h : cl[n]? = some (lstD (ns.map D.str))) (hl : ns.length < 64) : oSorted c cl [.cel n] = FL.fresh c (((sortT ns).map D.str).map W.d) cl := by
  have h' : cl[n]? = some (.lst ((ns.map D.str).map W.d)) := h
  have e1 : asList cl (.cel n) = some ((ns.map D.str).map W.d) := by simp only [asList, h']
  have em : (sortT ns).map (fun i => W.d (.str i)) = ((sortT ns).map D.str).map W.d := by rw [List.map_map]; rfl
  have ts := ts_strs ns
  rw [show (ns.map fun s => W.d (.str s)) = (ns.map D.str).map W.d by rw [List.map_map]; rfl] at ts
  cases ns with
  | nil =>
    have e4 : sortedOf cl (.cel n) = some (.inl []) := by
      simp only [sortedOf, e1]
      rfl
    simp only [oSorted, e4]
    rw [if_pos (by decide), show sortI [] = [] by simp [sortI], show sortT [] = [] by simp [sortT]]
    rfl
  | cons s ss =>
    have e4 : sortedOf cl (.cel n) = some (.inr (s :: ss)) := by
      simp only [sortedOf, e1, ts]
      rfl
    simp only [oSorted, e4]
    rw [if_pos hl, em]
theorem aasks_ok (p : Pc) (ok : p.Ok) : f_law_aasks a [] [.d p.d] = some (.cel 0, [lstD (p.asks.map D.str)]) := by
  have hf := ok.fw
  have hi1 : ∀ t ∈ p.its, PyData.strOk t.n = true := fun t h => ok.ni t (List.mem_append_left _ h)
  have hi2 : ∀ t ∈ p.cs, PyData.strOk t.n = true := fun t h => ok.ni t (List.mem_append_right _ h)
  obtain ⟨s4, s5, e1⟩ := aasks_sec (a := a) p ok (.str "c") (.str "code") (.int 1) p.its [] none none hi1 (by simp; omega)
  have hl1 := addAll_len (isLoc p) p.its []
  obtain ⟨s4', s5', e2⟩ := aasks_sec (a := a) p ok (.str "d") (.str "data") (.int 1) p.cs (addAll (isLoc p) [] p.its) s4 s5 hi2 (by simp at hl1; omega)
  have e3 : b_law_aasks_2 a ⟨[some (.d p.d), some (.cel 0), none, none, none], [lstD []]⟩ = some (.nx ⟨[some (.d p.d), some (.cel 0), some (.d (.tup [.str "d", .str "data", .int 1, .tup (p.cs.map It.d)])), s4', s5'], [lstD (p.found.map D.str)]⟩) := by
    rw [b_law_aasks_2, ev_sFor]
    have e4 : iSeq (eBin dIx (eVar 0) (eC (.d (.int 1)))) ⟨[some (.d p.d), some (.cel 0), none, none, none], [lstD []]⟩ = some (([W.d (.tup [.str "c", .str "code", .int 1, .tup (p.its.map It.d)]), W.d (.tup [.str "d", .str "data", .int 1, .tup (p.cs.map It.d)])], none), ⟨[some (.d p.d), some (.cel 0), none, none, none], [lstD []]⟩) := by
      simp only [iSeq, ev_bin, ev_var, ev_c, List.getElem?_cons_zero, List.getElem?_cons_succ, Option.bind_some, Option.map_some, p_1, asTup]
      rfl
    rw [e4]
    have e1 : b_law_aasks_2_f a ⟨[some (.d p.d), some (.cel 0), some (.d (.tup [.str "c", .str "code", .int 1, .tup (p.its.map It.d)])), none, none], [lstD []]⟩ = _ := e1
    simp only [Option.bind_some, forL]
    rw [if_pos (show ckC none _ from trivial)]
    simp only [ev_tName, List.set_cons_succ, List.set_cons_zero, e1]
    rw [if_pos (show ckC none _ from trivial)]
    simp only [e2]
    rw [if_pos (show ckC none _ from trivial)]
    rfl
  have e6 : oSorted true [lstD (p.found.map D.str)] [.cel 0] = some (.cel 1, [lstD (p.found.map D.str), lstD (p.asks.map D.str)]) := by
    rw [sorted_lst (cl := [lstD (p.found.map D.str)]) (n := 0) (ns := p.found) true rfl (by have := found_len p ok; omega)]
    rfl
  have e7 : b_law_aasks_1 a ⟨[some (.d p.d), none, none, none, none], []⟩ = some (.nx ⟨[some (.d p.d), some (.cel 0), none, none, none], [lstD []]⟩) := by
    rw [b_law_aasks_1]
    have : oLst true [] [] = some (.cel 0, [lstD []]) := by
      unfold oLst
      rw [if_pos (by simp)]
      rfl
    simp -implicitDefEqProofs [this]
  have e9 : b_law_aasks_3 a ⟨[some (.d p.d), some (.cel 0), some (.d (.tup [.str "d", .str "data", .int 1, .tup (p.cs.map It.d)])), s4', s5'], [lstD (p.found.map D.str)]⟩ = some (.ret (.cel 1) ⟨[some (.d p.d), some (.cel 0), some (.d (.tup [.str "d", .str "data", .int 1, .tup (p.cs.map It.d)])), s4', s5'], [lstD (p.found.map D.str), lstD (p.asks.map D.str)]⟩) := by
    rw [b_law_aasks_3]
    simp -implicitDefEqProofs [e6]
  rw [f_law_aasks, run_eq, split_law_aasks]
  have e5 : (⟨[W.d p.d].map some ++ List.replicate (5 - [W.d p.d].length) none, []⟩ : Rho) = ⟨[some (.d p.d), none, none, none, none], []⟩ := rfl
  rw [e5]
  simp only [ev_sSeq, e7, e3, e9, Option.bind_some, nxt_nx]
  exact fin_last
theorem aasks_call (p : Pc) (ok : p.Ok) (cl : List Cell) : callC false (f_law_aasks a) cl [.d p.d] = some (.d (.lst (p.asks.map D.str)), cl) := call_flatL rfl (fun _ => rfl) (aasks_ok p ok)
theorem in_def {cl : List Cell} {s : Str} : dIn false cl (.d (.str s)) (.d (.tup [.str "strong", .str "weak", .str "common"])) = some (.d (.bl (decide (s ∈ defB))), cl) := sIn defB
theorem adefines_ok (p : Pc) (ok : p.Ok) : f_law_adefines a [] [.d p.d] = some (.cel 0, [lstD (p.defs.map D.str)]) := by
  have e1 := lc_pure (c := true) (mi := iSeq (eBin dIx (eVar 0) (eC (.d (.int 2))))) (g := tName 1) (tt := bVal (eBin (dIn false) (eBin dIx (eVar 1) (eC (.d (.int 1)))) (eCall oTup (aCons (eC (.d (.str "strong"))) (aCons (eC (.d (.str "weak"))) (aCons (eC (.d (.str "common"))) aNil)))))) (te := eBin dIx (eVar 1) (eC (.d (.int 0)))) (vs := [1])
    (r := ⟨[some (.d p.d), none], []⟩) (ds := (p.sy.map Sy.d).map W.d) (ck := none) (sl := [some (.d p.d), none]) (cl := []) (by
      simp only [iSeq, ev_bin, ev_var, ev_c, List.getElem?_cons_zero, Option.bind_some, Option.map_some, p_2, asTup]) keepIn nameOf (fun _ => trivial) (by
      have := ok.fs
      rw [List.length_map, List.length_map, sizeLine_eq]
      omega) rfl (fun d hd acc => by
      obtain ⟨q, hq, rfl⟩ := List.mem_map.mp hd
      obtain ⟨s, hs, rfl⟩ := List.mem_map.mp hq
      have eb := in_def (cl := [.lst acc]) (s := s.b)
      have e0 : dIx [.lst acc] (.d s.d) (.d (.int 0)) = some (.d (.str s.n), [.lst acc]) := at_t0
      have e1 : dIx [.lst acc] (.d s.d) (.d (.int 1)) = some (.d (.str s.b), [.lst acc]) := at_t1
      have ek : keepIn (.d s.d) = decide (s.b ∈ defB) := rfl
      have en : nameOf (.d s.d) = .str s.n := rfl
      rw [ek, en]
      generalize s.d = sd at *
      generalize decide (s.b ∈ defB) = bb at *
      refine ⟨⟨[some (.d p.d), some (.d sd)], [] ++ [.lst acc]⟩, rfl, ⟨[some (.d p.d), some (.d sd)], [] ++ [.lst acc]⟩, ?_, rfl, fun _ => ⟨⟨[some (.d p.d), some (.d sd)], [] ++ [.lst acc]⟩, ?_, rfl⟩⟩
      · simp -implicitDefEqProofs [e1, tp3, eb]
      · simp -implicitDefEqProofs [e0])
  rw [filter_in] at e1
  simp only [if_true] at e1
  rw [f_law_adefines, run_eq, m_law_adefines]
  have e5 : (⟨[W.d p.d].map some ++ List.replicate (2 - [W.d p.d].length) none, []⟩ : Rho) = ⟨[some (.d p.d), none], []⟩ := rfl
  rw [e5, ev_sRet, e1]
  exact fin_L
theorem adefines_call (p : Pc) (ok : p.Ok) (cl : List Cell) : callC false (f_law_adefines a) cl [.d p.d] = some (.d (.lst (p.defs.map D.str)), cl) := call_flatL rfl (fun _ => rfl) (adefines_ok p ok)
end Lw
/-! askers -/
namespace FL
open PySem PySem.Spec L2
theorem fin_two {c0 c1 : Cell} (h0 : c0.refs = []) (h1 : c1.refs = []) (m0 : ∀ f, c0.mapc f = c0) (m1 : ∀ f, c1.mapc f = c1) : fin 1 (.cel 1) [c0, c1] = some (.cel 1, [c0, c1]) := by
  have e : clos [c0, c1] 3 [0, 1] = [0, 1] := by simp -implicitDefEqProofs [clos, cellAt, h0, h1]
  have e2 : isPart [c0, c1] [0, 1] = true := by simp -implicitDefEqProofs [isPart, cellAt, h0, h1]
  have e4 : FL.part [c0, c1] [0, 1] = [c0, c1] := by simp -implicitDefEqProofs [FL.part, cellAt, m0, m1]
  have e5 : ((W.cel 1).refs.filter fun n => decide (1 ≤ n)) = [1] := rfl
  have e6 : List.range 1 ++ [1].eraseDups = [0, 1] := rfl
  unfold fin
  simp only [List.length_cons, List.length_nil, e5, e6, e, e2, e4]
  simp -implicitDefEqProofs [ix, List.idxOf, List.findIdx, List.findIdx.go, List.range, List.range.loop]
/-- a call with one cell that tells a new dict, and changes nothing -/
theorem call_leafK {f : OpN} {cl : List Cell} {k : Nat} {P : List D} {kvs : Kvs} (hk : cl[k]? = some (lstD P)) (h : f [lstD P] [.cel 0] = some (.cel 1, [lstD P, dkC kvs])) : callC false f cl [.cel k] = some (.d (dkD kvs), cl) := by
  have lt : k < cl.length := (List.getElem?_eq_some_iff.mp hk).1
  have e : idsOf cl [.cel k] = [k] := by
    unfold idsOf
    simp [clos, cellAt, hk, List.eraseDups_cons]
  have e0 : cellAt cl k = lstD P := by simp [cellAt, hk]
  have e2 : isPart cl [k] = true := by simp [isPart, e0, lt]
  have e4 : part cl [k] = [lstD P] := by simp [part, e0]
  have e9 : merge cl [k] [lstD P] = cl := by
    have : merge cl [k] [lstD P] = cl.set k (lstD P) := by simp [merge, setAll]
    rw [this, set_same hk]
  have ep : purW [lstD P, dkC kvs] 1 8 (.cel 1) = some (dkD kvs) := by
    have e : purW [lstD P, dkC kvs] 1 8 (.cel 1) = ((kvs.map fun p => W.d p.2).mapM (purW [lstD P, dkC kvs] 1 7)).map (D.dk (dkK kvs)) := rfl
    rw [e, datas_kvs, pur_ds]
    rfl
  show oCallP f cl [.cel k] = _
  simp only [oCallP, e]
  rw [if_pos (by rw [e2]; simp), e4, show mapcA (ix [k]) [W.cel k] = [.cel 0] by simp [ix], h]
  simp only [List.length_singleton, ep]
  rw [if_pos (by simp)]
  have : List.take 1 [lstD P, dkC kvs] = [lstD P] := rfl
  rw [this, e9]
end FL
namespace Lw
open PySem PySem.Spec L2 FL
variable {a : Ad}
def sdD (kv : Kvs) (x : Str) (v : D) : Kvs := if (lookD kv x).isSome then kv else kv ++ [(x, v)]
def lax (p : Pc) (x : Str) : Bool := decide (x ∈ (p.with "maybe").map Sy.n)
def askP (lx : Str → Bool) (i : Nat) (kv : Kvs) (l : List Str) : Kvs := l.foldl (fun kv x => if lx x then kv else sdD kv x (.int i)) kv
def askL : List Pc → Nat → Kvs → Kvs
  | [], _, kv => kv
  | p :: ps, i, kv => askL ps (i + 1) (askP (lax p) i kv p.asks)
theorem sdD_len (kv : Kvs) (x : Str) (v : D) : (sdD kv x v).length ≤ kv.length + 1 := by
  unfold sdD
  split
  · omega
  · simp
theorem askP_len (lx : Str → Bool) (i : Nat) : ∀ (l : List Str) (kv : Kvs), (askP lx i kv l).length ≤ kv.length + l.length
  | [], kv => by simp [askP]
  | x :: l, kv => by
    have h1 := askP_len lx i l (if lx x then kv else sdD kv x (.int i))
    have h2 : (if lx x then kv else sdD kv x (.int i)).length ≤ kv.length + 1 := by
      split
      · omega
      · exact sdD_len kv x _
    show (askP lx i (if lx x then kv else sdD kv x (.int i)) l).length ≤ _
    rw [List.length_cons]
    omega
theorem asks_len (p : Pc) (ok : p.Ok) : p.asks.length ≤ 60 := by
  have h := (List.mergeSort_perm p.found leT).length_eq
  have := found_len p ok
  show (p.found.mergeSort leT).length ≤ 60
  omega
theorem setd_at {P : List D} {kv : Kvs} {x : Str} {v : D} (hl : kv.length ≤ 100000) : ∃ w, mSetd [lstD P, dkC kv] [.cel 1, .d (.str x), .d v] = some (w, [lstD P, dkC (sdD kv x v)]) := by
  have := setd_c (cl := [lstD P, dkC kv]) (n := 1) (kvs := kv) (x := x) (v := v) rfl (by rw [sizeLine_eq]; omega)
  unfold sdD
  rw [this]
  cases h : lookD kv x with
  | some w => exact ⟨_, rfl⟩
  | none => exact ⟨_, rfl⟩
theorem askers_names {P : List D} {pd : D} {ln : List Str} {i : Nat} : ∀ (l : List Str) (kv : Kvs) (s5 s6 s7 : Option W), kv.length + l.length ≤ 100000 → ∃ s5', forL (tName 5) (b_askers_2_f_2_f a) none ((l.map D.str).map W.d) ⟨[some (.cel 0), some (.cel 1), some (.d (.int i)), some (.d pd), some (.d (.lst (ln.map D.str))), s5, s6, s7], [lstD P, dkC kv]⟩ =
    some (.nx ⟨[some (.cel 0), some (.cel 1), some (.d (.int i)), some (.d pd), some (.d (.lst (ln.map D.str))), s5', s6, s7], [lstD P, dkC (askP (fun x => decide (x ∈ ln)) i kv l)]⟩)
  | [], kv, s5, s6, s7, _ => ⟨s5, by
    simp only [List.map_nil, forL]
    rw [if_pos (show ckC none _ from trivial)]
    rfl⟩
  | x :: l, kv, s5, s6, s7, hl => by
    rw [List.length_cons] at hl
    obtain ⟨w, e3⟩ := setd_at (P := P) (kv := kv) (x := x) (v := .int i) (by omega)
    have e2 := in_lst (neg := true) (cl := [lstD P, dkC kv]) (s := x) (ns := ln)
    have e4 : isDic [lstD P, dkC kv] (.cel 1) = true := isDic_c (n := 1) rfl
    have e : b_askers_2_f_2_f a ⟨[some (.cel 0), some (.cel 1), some (.d (.int i)), some (.d pd), some (.d (.lst (ln.map D.str))), some (.d (.str x)), s6, s7], [lstD P, dkC kv]⟩ =
      some (.nx ⟨[some (.cel 0), some (.cel 1), some (.d (.int i)), some (.d pd), some (.d (.lst (ln.map D.str))), some (.d (.str x)), s6, s7], [lstD P, dkC (if decide (x ∈ ln) then kv else sdD kv x (.int i))]⟩) := by
      rw [b_askers_2_f_2_f]
      generalize ln.map D.str = LN at *
      by_cases z : x ∈ ln
      · rw [decide_eq_true z] at e2 ⊢
        simp -implicitDefEqProofs [e2, sg]
      · rw [decide_eq_false z] at e2 ⊢
        simp -implicitDefEqProofs [e2, e3, e4, sg]
    have h2 : (if decide (x ∈ ln) then kv else sdD kv x (.int i)).length ≤ kv.length + 1 := by
      split
      · omega
      · exact sdD_len kv x _
    obtain ⟨s5', ih⟩ := askers_names l (if decide (x ∈ ln) then kv else sdD kv x (.int i)) (some (.d (.str x))) s6 s7 (by omega)
    refine ⟨s5', ?_⟩
    simp only [List.map_cons, forL]
    rw [if_pos (show ckC none _ from trivial)]
    simp only [ev_tName, List.set_cons_succ, List.set_cons_zero, e]
    exact ih
theorem lax_lc (p : Pc) (ok : p.Ok) {i : Nat} {s4 s5 s6 s7 : Option W} {cl : List Cell} (hcl : (cl.all fun k => k.refs.all fun j => decide (j < cl.length)) = true) : b_askers_2_f_1 a ⟨[some (.cel 0), some (.cel 1), some (.d (.int i)), some (.d p.d), s4, s5, s6, s7], cl⟩ = some (.nx ⟨[some (.cel 0), some (.cel 1), some (.d (.int i)), some (.d p.d), some (.d (.lst (((p.with "maybe").map Sy.n).map D.str))), s5, s6, s7], cl⟩) := by
  have e1 := lc_pure (c := false) (mi := iSeq (eBin dIx (eVar 3) (eC (.d (.int 2))))) (g := tTupG 3 (tsCons (tName 5) (tsCons (tName 6) (tsCons (tName 7) tsNil)))) (tt := bVal (eBin (eqvD false) (eVar 6) (eC (.d (.str "maybe"))))) (te := eVar 5) (vs := [5, 6, 7])
    (r := ⟨[some (.cel 0), some (.cel 1), some (.d (.int i)), some (.d p.d), s4, s5, s6, s7], cl⟩) (ds := (p.sy.map Sy.d).map W.d) (ck := none) (sl := [some (.cel 0), some (.cel 1), some (.d (.int i)), some (.d p.d), s4, s5, s6, s7]) (cl := cl) (by
      simp only [iSeq, ev_bin, ev_var, ev_c, List.getElem?_cons_zero, List.getElem?_cons_succ, Option.bind_some, Option.map_some, p_2, asTup]) (keepB "maybe") nameOf (fun _ => trivial) (by
      have := ok.fs
      rw [List.length_map, List.length_map, sizeLine_eq]
      omega) hcl (fun d hd acc => by
      obtain ⟨q, hq, rfl⟩ := List.mem_map.mp hd
      obtain ⟨s, hs, rfl⟩ := List.mem_map.mp hq
      have eb := eqv_str (neg := false) (cl := cl ++ [.lst acc]) (ok.nb s hs) (show PyData.strOk "maybe" = true by decide +kernel)
      refine ⟨⟨[some (.cel 0), some (.cel 1), some (.d (.int i)), some (.d p.d), s4, some (.d (.str s.n)), some (.d (.str s.b)), some (.d s.w)], cl ++ [.lst acc]⟩, by simp [Sy.d, wipeW, asTup], ⟨[some (.cel 0), some (.cel 1), some (.d (.int i)), some (.d p.d), s4, some (.d (.str s.n)), some (.d (.str s.b)), some (.d s.w)], cl ++ [.lst acc]⟩, ?_, rfl, fun _ => ⟨⟨[some (.cel 0), some (.cel 1), some (.d (.int i)), some (.d p.d), s4, some (.d (.str s.n)), some (.d (.str s.b)), some (.d s.w)], cl ++ [.lst acc]⟩, ?_, rfl⟩⟩
      · have ek : keepB "maybe" (.d s.d) = decide (s.b = "maybe") := rfl
        rw [ek]
        simp -implicitDefEqProofs only [ev_bVal, ev_bin, ev_var, ev_c, List.getElem?_cons_zero, List.getElem?_cons_succ, Option.bind_some, Option.map_some, eb, sg]
        rfl
      · simp -implicitDefEqProofs [Sy.d, nameOf])
  rw [filter_sy "maybe" nameOf (fun s => .str s.n) (fun _ => rfl)] at e1
  simp only [Bool.false_eq_true, if_false] at e1
  have e2 : (((p.with "maybe").map Sy.n).map D.str) = (p.sy.filter fun s : Sy => decide (s.b = ("maybe" : Str))).map fun s => D.str s.n := by
    rw [List.map_map]
    rfl
  rw [b_askers_2_f_1, ev_sAsg, e1, e2]
  rfl
end Lw
/-! askers, open_names -/
namespace Lw
open PySem PySem.Spec L2 FL
variable {a : Ad}
theorem num_cons (i : Nat) (p : Pc) (ps : List Pc) : numW i (((p :: ps).map Pc.d).map W.d) = W.d (.tup [.int i, p.d]) :: numW (i + 1) ((ps.map Pc.d).map W.d) := rfl
theorem askers_pcs {P : List D} : ∀ (ps : List Pc) (i : Nat) (kv : Kvs) (s2 s3 s4 s5 s6 s7 : Option W), (∀ p ∈ ps, p.Ok) → kv.length + 60 * ps.length ≤ 100000 → ∃ s2' s3' s4' s5' s6' s7', forL (tTupG 2 (tsCons (tName 2) (tsCons (tName 3) tsNil))) (b_askers_2_f a) (some [(0, P.map W.d)]) (numW i ((ps.map Pc.d).map W.d)) ⟨[some (.cel 0), some (.cel 1), s2, s3, s4, s5, s6, s7], [lstD P, dkC kv]⟩ =
    some (.nx ⟨[some (.cel 0), some (.cel 1), s2', s3', s4', s5', s6', s7'], [lstD P, dkC (askL ps i kv)]⟩)
  | [], i, kv, s2, s3, s4, s5, s6, s7, _, _ => ⟨s2, s3, s4, s5, s6, s7, by
    simp only [List.map_nil, numW, forL]
    rw [if_pos (ckC_one rfl)]
    rfl⟩
  | p :: ps, i, kv, s2, s3, s4, s5, s6, s7, ok, hl => by
    have okp := ok p List.mem_cons_self
    rw [List.length_cons] at hl
    have la := asks_len p okp
    have e1 := lax_lc (a := a) p okp (i := i) (s4 := s4) (s5 := s5) (s6 := s6) (s7 := s7) (cl := [lstD P, dkC kv]) (by simp)
    have e2 := asked_call (a := a) p okp [lstD P, dkC kv]
    obtain ⟨s5', e3⟩ := askers_names (a := a) (P := P) (pd := p.d) (ln := (p.with "maybe").map Sy.n) (i := i) p.asks kv s5 s6 s7 (by omega)
    have e : b_askers_2_f a ⟨[some (.cel 0), some (.cel 1), some (.d (.int i)), some (.d p.d), s4, s5, s6, s7], [lstD P, dkC kv]⟩ = some (.nx ⟨[some (.cel 0), some (.cel 1), some (.d (.int i)), some (.d p.d), some (.d (.lst (((p.with "maybe").map Sy.n).map D.str))), s5', s6, s7], [lstD P, dkC (askP (lax p) i kv p.asks)]⟩) := by
      rw [b_askers_2_f, ev_sSeq, e1]
      simp only [Option.bind_some, nxt_nx]
      rw [b_askers_2_f_2, ev_sFor]
      have e4 : iSeq (eCall (withD [] (callC false (f_asked a))) (aCons (eVar 3) aNil)) ⟨[some (.cel 0), some (.cel 1), some (.d (.int i)), some (.d p.d), some (.d (.lst (((p.with "maybe").map Sy.n).map D.str))), s5, s6, s7], [lstD P, dkC kv]⟩ = some (((p.asks.map D.str).map W.d, none), ⟨[some (.cel 0), some (.cel 1), some (.d (.int i)), some (.d p.d), some (.d (.lst (((p.with "maybe").map Sy.n).map D.str))), s5, s6, s7], [lstD P, dkC kv]⟩) := by
        simp only [iSeq, ev_withD, ev_call, ev_cons, ev_nil, ev_var, List.getElem?_cons_zero, List.getElem?_cons_succ, Option.bind_some, Option.map_some, e2, asTup, itemsL]
      rw [e4]
      exact e3
    have h2 := askP_len (lax p) i p.asks kv
    obtain ⟨t2, t3, t4, t5, t6, t7, ih⟩ := askers_pcs ps (i + 1) (askP (lax p) i kv p.asks) (some (.d (.int i))) (some (.d p.d)) (some (.d (.lst (((p.with "maybe").map Sy.n).map D.str)))) s5' s6 s7 (fun q hq => ok q (List.mem_cons_of_mem _ hq)) (by omega)
    refine ⟨t2, t3, t4, t5, t6, t7, ?_⟩
    rw [num_cons]
    simp only [forL]
    rw [if_pos (ckC_one rfl)]
    have et : tTupG 2 (tsCons (tName 2) (tsCons (tName 3) tsNil)) (W.d (.tup [.int i, p.d])) ⟨[some (.cel 0), some (.cel 1), s2, s3, s4, s5, s6, s7], [lstD P, dkC kv]⟩ = some ⟨[some (.cel 0), some (.cel 1), some (.d (.int i)), some (.d p.d), s4, s5, s6, s7], [lstD P, dkC kv]⟩ := rfl
    simp only [et, e]
    exact ih
theorem askers_ok (ps : List Pc) (ok : ∀ p ∈ ps, p.Ok) (hl : ps.length ≤ 1000) : f_askers a [lstD (ps.map Pc.d)] [.cel 0] = some (.cel 1, [lstD (ps.map Pc.d), dkC (askL ps 0 [])]) := by
  have e5 : (⟨[W.cel 0].map some ++ List.replicate (8 - [W.cel 0].length) none, [lstD (ps.map Pc.d)]⟩ : Rho) = ⟨[some (.cel 0), none, none, none, none, none, none, none], [lstD (ps.map Pc.d)]⟩ := rfl
  have e1 : b_askers_1 a ⟨[some (.cel 0), none, none, none, none, none, none, none], [lstD (ps.map Pc.d)]⟩ = some (.nx ⟨[some (.cel 0), some (.cel 1), none, none, none, none, none, none], [lstD (ps.map Pc.d), dkC []]⟩) := by
    rw [b_askers_1]
    rfl
  obtain ⟨t2, t3, t4, t5, t6, t7, e2⟩ := askers_pcs (a := a) (P := ps.map Pc.d) ps 0 [] none none none none none none ok (by simp; omega)
  have e3 : b_askers_2 a ⟨[some (.cel 0), some (.cel 1), none, none, none, none, none, none], [lstD (ps.map Pc.d), dkC []]⟩ = some (.nx ⟨[some (.cel 0), some (.cel 1), t2, t3, t4, t5, t6, t7], [lstD (ps.map Pc.d), dkC (askL ps 0 [])]⟩) := by
    rw [b_askers_2, ev_sFor]
    have e4 : iEnumF (eVar 0) ⟨[some (.cel 0), some (.cel 1), none, none, none, none, none, none], [lstD (ps.map Pc.d), dkC []]⟩ = some ((numW 0 ((ps.map Pc.d).map W.d), some [(0, (ps.map Pc.d).map W.d)]), ⟨[some (.cel 0), some (.cel 1), none, none, none, none, none, none], [lstD (ps.map Pc.d), dkC []]⟩) := by
      simp only [iEnumF, ev_var, List.getElem?_cons_zero, Option.bind_some, Option.map_some, itemsL, lstD]
    rw [e4]
    exact e2
  rw [f_askers, run_eq, split_askers, e5]
  simp only [ev_sSeq, e1, e3, Option.bind_some, nxt_nx]
  rw [b_askers_3]
  exact fin_two (by simp) (by simp) (fun _ => by simp) fun _ => by simp
theorem askers_call (ps : List Pc) (ok : ∀ p ∈ ps, p.Ok) (hl : ps.length ≤ 1000) {cl : List Cell} {k : Nat} (h : cl[k]? = some (lstD (ps.map Pc.d))) : callC false (f_askers a) cl [.cel k] = some (.d (dkD (askL ps 0 [])), cl) := call_leafK h (askers_ok ps ok hl)
/-! had -/
def hadL : List Pc → List Str → List Str
  | [], ns => ns
  | p :: ps, ns => hadL ps (p.defs.foldl insN ns)
theorem insN_len (ns : List Str) (x : Str) : (insN ns x).length ≤ ns.length + 1 := by
  unfold insN
  split
  · omega
  · simp
theorem insA_len : ∀ (l : List Str) (ns : List Str), (l.foldl insN ns).length ≤ ns.length + l.length
  | [], ns => by simp
  | x :: l, ns => by
    have h1 := insA_len l (insN ns x)
    have h2 := insN_len ns x
    rw [List.foldl_cons, List.length_cons]
    omega
theorem defs_len (p : Pc) (ok : p.Ok) : p.defs.length ≤ 60 := by
  have := ok.fs
  have h2 := List.length_filter_le (fun s : Sy => decide (s.b ∈ defB)) p.sy
  unfold Pc.defs
  rw [List.length_map]
  omega
theorem put_at {P : List D} {ns : List Str} {x : Str} (hl : ns.length ≤ 100000) : dStep 1 (.d (.str x)) (.d (.bl true)) [lstD P, dkC (tru ns)] = some [lstD P, dkC (tru (insN ns x))] := by
  have h := dput_c (cl := [lstD P, dkC (tru ns)]) (n := 1) (kvs := tru ns) (x := x) (v := .bl true) rfl (by rw [sizeLine_eq]; simp [tru]; omega)
  rw [put_tru] at h
  have e : dStep 1 (.d (.str x)) (.d (.bl true)) [lstD P, dkC (tru ns)] = dPutC [lstD P, dkC (tru ns)] (.cel 1) (.d (.str x)) (.d (.bl true)) := rfl
  rw [e, h]
  rfl
theorem had_names {P : List D} {pd : D} : ∀ (l : List Str) (ns : List Str) (s4 : Option W), ns.length + l.length ≤ 100000 → cpL none (tName 4) bYes (bodyD (eVar 4) (eC (.d (.bl true))) 1) [4] ((l.map D.str).map W.d) ⟨[some (.cel 0), none, none, some (.d pd), s4], [lstD P, dkC (tru ns)]⟩ = some ⟨[some (.cel 0), none, none, some (.d pd), s4], [lstD P, dkC (tru (l.foldl insN ns))]⟩
  | [], ns, s4, _ => by
    simp only [List.map_nil, cpL]
    rw [if_pos (show ckC none _ from trivial)]
    rfl
  | x :: l, ns, s4, hl => by
    rw [List.length_cons] at hl
    have h2 := insN_len ns x
    have ih := had_names (P := P) (pd := pd) l (insN ns x) s4 (by omega)
    have e := put_at (P := P) (ns := ns) (x := x) (by omega)
    have eb : bodyD (eVar 4) (eC (.d (.bl true))) 1 ⟨[some (.cel 0), none, none, some (.d pd), some (.d (.str x))], [lstD P, dkC (tru ns)]⟩ = some [lstD P, dkC (tru (insN ns x))] := by
      simp only [bodyD, ev_var, ev_c, List.getElem?_cons_zero, List.getElem?_cons_succ, Option.bind_some, Option.map_some, e]
    simp only [List.map_cons, cpL]
    rw [if_pos (show ckC none _ from trivial)]
    have et : tName 4 (W.d (.str x)) ⟨wipeW [some (.cel 0), none, none, some (.d pd), s4] [4], [lstD P, dkC (tru ns)]⟩ = some ⟨[some (.cel 0), none, none, some (.d pd), some (.d (.str x))], [lstD P, dkC (tru ns)]⟩ := rfl
    simp only [et, ev_bYes, eb]
    exact ih
theorem had_pcs {P : List D} : ∀ (ps : List Pc) (ns : List Str), (∀ p ∈ ps, p.Ok) → ns.length + 60 * ps.length ≤ 100000 →
    cpL (some [(0, P.map W.d)]) (tName 3) bYes (bodyI (iSeq (eCall (withD [] (callC false (f_defined a))) (aCons (eVar 3) aNil))) (tName 4) bYes (bodyD (eVar 4) (eC (.d (.bl true))) 1) [4]) [3, 4] ((ps.map Pc.d).map W.d) ⟨[some (.cel 0), none, none, none, none], [lstD P, dkC (tru ns)]⟩ = some ⟨[some (.cel 0), none, none, none, none], [lstD P, dkC (tru (hadL ps ns))]⟩
  | [], ns, _, _ => by
    simp only [List.map_nil, cpL]
    rw [if_pos (ckC_one rfl)]
    rfl
  | p :: ps, ns, ok, hl => by
    have okp := ok p List.mem_cons_self
    rw [List.length_cons] at hl
    have ld := defs_len p okp
    have h2 := insA_len p.defs ns
    have ih := had_pcs (P := P) ps (p.defs.foldl insN ns) (fun q hq => ok q (List.mem_cons_of_mem _ hq)) (by omega)
    have e2 := defined_call (a := a) p okp [lstD P, dkC (tru ns)]
    have e3 := had_names (P := P) (pd := p.d) p.defs ns none (by omega)
    have e4 : iSeq (eCall (withD [] (callC false (f_defined a))) (aCons (eVar 3) aNil)) ⟨[some (.cel 0), none, none, some (.d p.d), none], [lstD P, dkC (tru ns)]⟩ = some (((p.defs.map D.str).map W.d, none), ⟨[some (.cel 0), none, none, some (.d p.d), none], [lstD P, dkC (tru ns)]⟩) := by
      simp only [iSeq, ev_withD, ev_call, ev_cons, ev_nil, ev_var, List.getElem?_cons_zero, List.getElem?_cons_succ, Option.bind_some, Option.map_some, e2, asTup, itemsL]
    have eb : bodyI (iSeq (eCall (withD [] (callC false (f_defined a))) (aCons (eVar 3) aNil))) (tName 4) bYes (bodyD (eVar 4) (eC (.d (.bl true))) 1) [4] ⟨[some (.cel 0), none, none, some (.d p.d), none], [lstD P, dkC (tru ns)]⟩ = some [lstD P, dkC (tru (p.defs.foldl insN ns))] := by
      simp only [bodyI, e4, e3]
      rfl
    simp only [List.map_cons, cpL]
    rw [if_pos (ckC_one rfl)]
    have et : tName 3 (W.d p.d) ⟨wipeW [some (.cel 0), none, none, none, none] [3, 4], [lstD P, dkC (tru ns)]⟩ = some ⟨[some (.cel 0), none, none, some (.d p.d), none], [lstD P, dkC (tru ns)]⟩ := rfl
    simp only [et, ev_bYes, eb]
    exact ih
end Lw
/-! open_names -/
namespace Lw
open PySem PySem.Spec L2 FL
variable {a : Ad}
def keysOf (kv : Kvs) : List Str := kv.map (·.1)
theorem look_none {x : Str} : ∀ {kv : Kvs}, (lookD kv x).isSome = decide (x ∈ keysOf kv)
  | [] => rfl
  | p :: kv => by
    have ih := look_none (x := x) (kv := kv)
    show (if p.1 = x then some p.2 else lookD kv x).isSome = decide (x ∈ p.1 :: keysOf kv)
    by_cases h : p.1 = x
    · subst h
      simp
    · have h' : ¬ x = p.1 := fun z => h z.symm
      rw [if_neg h, ih]
      exact decide_eq_decide.mpr ⟨fun z => List.mem_cons_of_mem _ z, fun z => (List.mem_cons.mp z).resolve_left h'⟩
theorem sdD_nd {kv : Kvs} (x : Str) (v : D) (h : (keysOf kv).Nodup) : (keysOf (sdD kv x v)).Nodup := by
  unfold sdD
  split
  · exact h
  · rename_i hn
    rw [look_none] at hn
    have hn : x ∉ keysOf kv := by simpa using hn
    unfold keysOf at *
    rw [List.map_append, List.nodup_append]
    exact ⟨h, by simp, fun y hy z hz => by
      simp at hz
      subst hz
      exact fun w => hn (w ▸ hy)⟩
theorem askP_nd (lx : Str → Bool) (i : Nat) : ∀ (l : List Str) (kv : Kvs), (keysOf kv).Nodup → (keysOf (askP lx i kv l)).Nodup
  | [], kv, h => h
  | x :: l, kv, h => by
    show (keysOf (askP lx i (if lx x then kv else sdD kv x (.int i)) l)).Nodup
    refine askP_nd lx i l _ ?_
    split
    · exact h
    · exact sdD_nd x _ h
theorem askL_nd : ∀ (ps : List Pc) (i : Nat) (kv : Kvs), (keysOf kv).Nodup → (keysOf (askL ps i kv)).Nodup
  | [], i, kv, h => h
  | p :: ps, i, kv, h => askL_nd ps (i + 1) _ (askP_nd _ _ _ _ h)
theorem askL_len : ∀ (ps : List Pc) (i : Nat) (kv : Kvs), (∀ p ∈ ps, p.Ok) → (askL ps i kv).length ≤ kv.length + 60 * ps.length
  | [], i, kv, _ => by simp [askL]
  | p :: ps, i, kv, ok => by
    have h1 := askL_len ps (i + 1) (askP (lax p) i kv p.asks) fun q hq => ok q (List.mem_cons_of_mem _ hq)
    have h2 := askP_len (lax p) i p.asks kv
    have h3 := asks_len p (ok p List.mem_cons_self)
    show (askL ps (i + 1) (askP (lax p) i kv p.asks)).length ≤ _
    rw [List.length_cons]
    omega
theorem look_mem : ∀ {kv : Kvs} {q : Str × D}, (keysOf kv).Nodup → q ∈ kv → lookD kv q.1 = some q.2
  | p :: kv, q, nd, h => by
    obtain ⟨n1, n2⟩ := List.nodup_cons.mp (show (p.1 :: keysOf kv).Nodup from nd)
    show (if p.1 = q.1 then some p.2 else lookD kv q.1) = some q.2
    rcases List.mem_cons.mp h with e | h
    · subst e
      rw [if_pos rfl]
    · have ne : p.1 ≠ q.1 := fun z => n1 (z ▸ List.mem_map.mpr ⟨q, h, rfl⟩)
      rw [if_neg ne]
      exact look_mem n2 h
/-- the open ones -/
def opens (ps : List Pc) : Kvs := (askL ps 0 []).filter fun q => !decide (q.1 ∈ hadL ps [])
theorem open_loop {P : List D} {hs : List Str} {kv : Kvs} (nd : (keysOf kv).Nodup) : ∀ (l : Kvs) (acc : Kvs) (s3 s4 : Option W), (∀ q ∈ l, q ∈ kv) → (keysOf (acc ++ l)).Nodup → acc.length + l.length ≤ 100000 →
    cpL none (tName 4) (bVal (eBin (dIn true) (eVar 4) (eVar 1))) (bodyD (eVar 4) (eBin dDix (eVar 2) (eVar 4)) 1) [4] ((dkK l).map keyTo) ⟨[some (.cel 0), some (.d (dkD (tru hs))), some (.d (dkD kv)), s3, s4], [lstD P, dkC acc]⟩ = some ⟨[some (.cel 0), some (.d (dkD (tru hs))), some (.d (dkD kv)), s3, s4], [lstD P, dkC (acc ++ l.filter fun q => !decide (q.1 ∈ hs))]⟩
  | [], acc, s3, s4, _, _, _ => by
    simp only [dkK, List.map_nil, cpL, List.filter_nil, List.append_nil]
    rw [if_pos (show ckC none _ from trivial)]
  | q :: l, acc, s3, s4, sub, nda, hl => by
    rw [List.length_cons] at hl
    have e1 := din_d (neg := true) (cl := [lstD P, dkC acc]) (kvs := tru hs) (x := q.1)
    rw [look_tru] at e1
    have e2 : dDix [lstD P, dkC acc] (.d (dkD kv)) (.d (.str q.1)) = some (.d q.2, [lstD P, dkC acc]) := dix_d (look_mem nd (sub q List.mem_cons_self))
    have hn : (lookD acc q.1).isSome = false := by
      rw [look_none]
      have : q.1 ∉ keysOf acc := fun h => by
        unfold keysOf at nda h
        rw [List.map_append, List.nodup_append] at nda
        exact nda.2.2 q.1 h q.1 (by simp) rfl
      simpa using this
    have e3 : dStep 1 (.d (.str q.1)) (.d q.2) [lstD P, dkC acc] = some [lstD P, dkC (acc ++ [(q.1, q.2)])] := by
      have h := dput_c (cl := [lstD P, dkC acc]) (n := 1) (kvs := acc) (x := q.1) (v := q.2) rfl (by rw [sizeLine_eq]; omega)
      rw [putD, if_neg (by rw [hn]; decide)] at h
      have e : dStep 1 (.d (.str q.1)) (.d q.2) [lstD P, dkC acc] = dPutC [lstD P, dkC acc] (.cel 1) (.d (.str q.1)) (.d q.2) := rfl
      rw [e, h]
      rfl
    have et : tName 4 (keyTo (Sum.inr q.1)) ⟨wipeW [some (.cel 0), some (.d (dkD (tru hs))), some (.d (dkD kv)), s3, s4] [4], [lstD P, dkC acc]⟩ = some ⟨[some (.cel 0), some (.d (dkD (tru hs))), some (.d (dkD kv)), s3, some (.d (.str q.1))], [lstD P, dkC acc]⟩ := rfl
    have ek : (dkK (q :: l)).map keyTo = keyTo (Sum.inr q.1) :: (dkK l).map keyTo := rfl
    rw [ek]
    simp only [cpL]
    rw [if_pos (show ckC none _ from trivial)]
    simp only [et]
    by_cases z : q.1 ∈ hs
    · rw [decide_eq_true z] at e1
      have eb : bVal (eBin (dIn true) (eVar 4) (eVar 1)) ⟨[some (.cel 0), some (.d (dkD (tru hs))), some (.d (dkD kv)), s3, some (.d (.str q.1))], [lstD P, dkC acc]⟩ = some (false, ⟨[some (.cel 0), some (.d (dkD (tru hs))), some (.d (dkD kv)), s3, some (.d (.str q.1))], [lstD P, dkC acc]⟩) := by
        simp only [ev_bVal, ev_bin, ev_var, List.getElem?_cons_zero, List.getElem?_cons_succ, Option.bind_some, Option.map_some, e1]
        rfl
      simp only [eb]
      have ih := open_loop (P := P) (hs := hs) nd l acc s3 s4 (fun r hr => sub r (List.mem_cons_of_mem _ hr)) (by
        unfold keysOf at *
        rw [List.map_append, List.nodup_append] at nda ⊢
        refine ⟨nda.1, (List.nodup_cons.mp (by simpa using nda.2.1)).2, fun x hx y hy => nda.2.2 x hx y (by simp at hy ⊢; exact .inr hy)⟩) (by omega)
      rw [List.filter_cons, if_neg (by simp [z])]
      exact ih
    · rw [decide_eq_false z] at e1
      have eb : bVal (eBin (dIn true) (eVar 4) (eVar 1)) ⟨[some (.cel 0), some (.d (dkD (tru hs))), some (.d (dkD kv)), s3, some (.d (.str q.1))], [lstD P, dkC acc]⟩ = some (true, ⟨[some (.cel 0), some (.d (dkD (tru hs))), some (.d (dkD kv)), s3, some (.d (.str q.1))], [lstD P, dkC acc]⟩) := by
        simp only [ev_bVal, ev_bin, ev_var, List.getElem?_cons_zero, List.getElem?_cons_succ, Option.bind_some, Option.map_some, e1]
        rfl
      have ebd : bodyD (eVar 4) (eBin dDix (eVar 2) (eVar 4)) 1 ⟨[some (.cel 0), some (.d (dkD (tru hs))), some (.d (dkD kv)), s3, some (.d (.str q.1))], [lstD P, dkC acc]⟩ = some [lstD P, dkC (acc ++ [(q.1, q.2)])] := by
        simp only [bodyD, ev_bin, ev_var, List.getElem?_cons_zero, List.getElem?_cons_succ, Option.bind_some, Option.map_some, e2, e3]
      simp only [eb, ebd]
      have ih := open_loop (P := P) (hs := hs) nd l (acc ++ [(q.1, q.2)]) s3 s4 (fun r hr => sub r (List.mem_cons_of_mem _ hr)) (by
        rw [List.append_assoc]
        exact nda) (by rw [List.length_append, List.length_singleton]; omega)
      rw [List.filter_cons, if_pos (by simp [z])]
      rw [List.append_assoc] at ih
      exact ih
theorem open_ok (ps : List Pc) (ok : ∀ p ∈ ps, p.Ok) (hl : ps.length ≤ 1000) : f_open_names a [lstD (ps.map Pc.d)] [.cel 0] = some (.cel 1, [lstD (ps.map Pc.d), dkC (opens ps)]) := by
  have e5 : (⟨[W.cel 0].map some ++ List.replicate (5 - [W.cel 0].length) none, [lstD (ps.map Pc.d)]⟩ : Rho) = ⟨[some (.cel 0), none, none, none, none], [lstD (ps.map Pc.d)]⟩ := rfl
  have h1 := had_pcs (a := a) (P := ps.map Pc.d) ps [] ok (by simp; omega)
  have h2 := askers_call (a := a) ps ok hl (cl := [lstD (ps.map Pc.d)]) (k := 0) rfl
  have nd := askL_nd ps 0 [] List.nodup_nil
  have ll := askL_len ps 0 [] ok
  have h3 := open_loop (P := ps.map Pc.d) (hs := hadL ps []) nd (askL ps 0 []) [] none none (fun _ h => h) (by simpa using nd) (by simp at ll ⊢; omega)
  have hop : opens ps = [] ++ (askL ps 0 []).filter fun q => !decide (q.1 ∈ hadL ps []) := rfl
  rw [← hop] at h3
  generalize hadL ps [] = hs at *
  generalize askL ps 0 [] = kv at *
  generalize hP : ps.map Pc.d = P at *
  have e1 : b_open_names_1 a ⟨[some (.cel 0), none, none, none, none], [lstD P]⟩ = some (.nx ⟨[some (.cel 0), some (.d (dkD (tru hs))), none, none, none], [lstD P]⟩) := by
    have ei : iSeq (eVar 0) ⟨[some (.cel 0), none, none, none, none], [lstD P]⟩ = some ((P.map W.d, some [(0, P.map W.d)]), ⟨[some (.cel 0), none, none, none, none], [lstD P]⟩) := by
      simp only [iSeq, ev_var, List.getElem?_cons_zero, Option.bind_some, Option.map_some, asTup, itemsL, lstD]
    have h1' : cpL (some [(0, P.map W.d)]) (tName 3) bYes (bodyI (iSeq (eCall (withD [] (callC false (f_defined a))) (aCons (eVar 3) aNil))) (tName 4) bYes (bodyD (eVar 4) (eC (.d (.bl true))) 1) [4]) [3, 4] (P.map W.d) ⟨[some (.cel 0), none, none, none, none], [lstD P] ++ [.dk [] []]⟩ = _ := h1
    have eu := unCellD_d (cl := [lstD P]) (kvs := tru hs) (sl := [some (.cel 0), none, none, none, none]) (by simp)
    have eu : unCellD false 1 ⟨[some (.cel 0), none, none, none, none], [lstD P, dkC (tru hs)]⟩ = some (.d (dkD (tru hs)), ⟨[some (.cel 0), none, none, none, none], [lstD P]⟩) := eu
    have ed : eDc2 false (iSeq (eVar 0)) (tName 3) bYes (iSeq (eCall (withD [] (callC false (f_defined a))) (aCons (eVar 3) aNil))) (tName 4) bYes (eVar 4) (eC (.d (.bl true))) [3, 4] [4] ⟨[some (.cel 0), none, none, none, none], [lstD P]⟩ = some (.d (dkD (tru hs)), ⟨[some (.cel 0), none, none, none, none], [lstD P]⟩) := by
      unfold eDc2
      rw [ei]
      simp only [List.length_singleton, h1', eu]
    rw [b_open_names_1, ev_sAsg, ed]
    rfl
  have e2 : b_open_names_2 a ⟨[some (.cel 0), some (.d (dkD (tru hs))), none, none, none], [lstD P]⟩ = some (.nx ⟨[some (.cel 0), some (.d (dkD (tru hs))), some (.d (dkD kv)), none, none], [lstD P]⟩) := by
    rw [b_open_names_2]
    generalize dkD (tru hs) = th at *
    generalize dkD kv = kd at *
    simp -implicitDefEqProofs [h2]
  have e3 : b_open_names_3 a ⟨[some (.cel 0), some (.d (dkD (tru hs))), some (.d (dkD kv)), none, none], [lstD P]⟩ = some (.ret (.cel 1) ⟨[some (.cel 0), some (.d (dkD (tru hs))), some (.d (dkD kv)), none, none], [lstD P, dkC (opens ps)]⟩) := by
    have ei : iKey 2 ⟨[some (.cel 0), some (.d (dkD (tru hs))), some (.d (dkD kv)), none, none], [lstD P]⟩ = some (((dkK kv).map keyTo, none), ⟨[some (.cel 0), some (.d (dkD (tru hs))), some (.d (dkD kv)), none, none], [lstD P]⟩) := rfl
    have h3' : cpL none (tName 4) (bVal (eBin (dIn true) (eVar 4) (eVar 1))) (bodyD (eVar 4) (eBin dDix (eVar 2) (eVar 4)) 1) [4] ((dkK kv).map keyTo) ⟨[some (.cel 0), some (.d (dkD (tru hs))), some (.d (dkD kv)), none, none], [lstD P] ++ [.dk [] []]⟩ = _ := h3
    have ed : eDc true (iKey 2) (tName 4) (bVal (eBin (dIn true) (eVar 4) (eVar 1))) (eVar 4) (eBin dDix (eVar 2) (eVar 4)) [4] ⟨[some (.cel 0), some (.d (dkD (tru hs))), some (.d (dkD kv)), none, none], [lstD P]⟩ = some (.cel 1, ⟨[some (.cel 0), some (.d (dkD (tru hs))), some (.d (dkD kv)), none, none], [lstD P, dkC (opens ps)]⟩) := by
      unfold eDc
      rw [ei]
      simp only [List.length_singleton, h3']
      rfl
    rw [b_open_names_3, ev_sRet, ed]
    rfl
  rw [f_open_names, run_eq, split_open_names, e5]
  simp only [ev_sSeq, e1, e2, e3, Option.bind_some, nxt_nx]
  exact fin_two (by simp) (by simp) (fun _ => by simp) fun _ => by simp
theorem open_call (ps : List Pc) (ok : ∀ p ∈ ps, p.Ok) (hl : ps.length ≤ 1000) {cl : List Cell} {k : Nat} (h : cl[k]? = some (lstD (ps.map Pc.d))) : callC false (f_open_names a) cl [.cel k] = some (.d (dkD (opens ps)), cl) := call_leafK h (open_ok ps ok hl)
end Lw
/-! the law's open names -/
namespace FL
open PySem PySem.Spec L2
theorem fin_skip {c0 c1 c2 : Cell} (h0 : c0.refs = []) (h2 : c2.refs = []) (m0 : ∀ f, c0.mapc f = c0) (m2 : ∀ f, c2.mapc f = c2) : fin 1 (.cel 2) [c0, c1, c2] = some (.cel 1, [c0, c2]) := by
  have e : clos [c0, c1, c2] 4 [0, 2] = [0, 2] := by simp -implicitDefEqProofs [clos, cellAt, h0, h2]
  have e2 : isPart [c0, c1, c2] [0, 2] = true := by simp -implicitDefEqProofs [isPart, cellAt, h0, h2]
  have e4 : FL.part [c0, c1, c2] [0, 2] = [c0, c2] := by simp -implicitDefEqProofs [FL.part, cellAt, m0, m2]
  have e5 : ((W.cel 2).refs.filter fun n => decide (1 ≤ n)) = [2] := rfl
  have e6 : List.range 1 ++ [2].eraseDups = [0, 2] := rfl
  unfold fin
  simp only [List.length_cons, List.length_nil, e5, e6, e, e2, e4]
  simp -implicitDefEqProofs [ix, List.idxOf, List.findIdx, List.findIdx.go, List.range, List.range.loop]
end FL
namespace Lw
open PySem PySem.Spec L2 FL
variable {a : Ad}
theorem add_mem {own : Str → Bool} {x : Str} : ∀ (l : List It) (ns : List Str), x ∈ addAll own ns l → x ∈ ns ∨ ∃ t ∈ l, t.n = x
  | [], ns, h => .inl h
  | t :: l, ns, h => by
    rcases add_mem l (addN own ns t.n) h with h | ⟨u, hu, e⟩
    · unfold addN insN at h
      split at h
      · exact .inl h
      · split at h
        · exact .inl h
        · rcases List.mem_append.mp h with h | h
          · exact .inl h
          · exact .inr ⟨t, List.mem_cons_self, by simpa using (List.mem_singleton.mp h).symm⟩
    · exact .inr ⟨u, List.mem_cons_of_mem _ hu, e⟩
theorem asks_ok (p : Pc) (ok : p.Ok) : ∀ x ∈ p.asks, PyData.strOk x = true := fun x hx => by
  have hx : x ∈ p.found := (List.mergeSort_perm p.found leT).mem_iff.mp hx
  rcases add_mem p.cs _ hx with h | ⟨t, ht, rfl⟩
  · rcases add_mem p.its _ h with h | ⟨t, ht, rfl⟩
    · cases h
    · exact ok.ni t (List.mem_append_left _ ht)
  · exact ok.ni t (List.mem_append_right _ ht)
def aopP (hs : List Str) (lx : Str → Bool) (i : Nat) (kv : Kvs) (l : List Str) : Kvs := l.foldl (fun kv x => if decide (x ∈ hs) || lx x then kv else sdD kv x (.int i)) kv
def aopL (hs : List Str) : List Pc → Nat → Kvs → Kvs
  | [], _, kv => kv
  | p :: ps, i, kv => aopL hs ps (i + 1) (aopP hs (lax p) i kv p.asks)
theorem look_filter {hs : List Str} {x : Str} (h : x ∉ hs) : ∀ kv : Kvs, lookD (kv.filter fun q => !decide (q.1 ∈ hs)) x = lookD kv x
  | [] => rfl
  | q :: kv => by
    have ih := look_filter h kv
    rw [List.filter_cons]
    split
    · show (if q.1 = x then _ else _) = (if q.1 = x then _ else _)
      rw [ih]
    · rename_i z
      have ne : q.1 ≠ x := fun e => by
        subst e
        simp [h] at z
      show _ = (if q.1 = x then some q.2 else lookD kv x)
      rw [if_neg ne, ih]
theorem sdD_filter {hs : List Str} (x : Str) (v : D) (kv : Kvs) : (sdD kv x v).filter (fun q => !decide (q.1 ∈ hs)) = if decide (x ∈ hs) then kv.filter (fun q => !decide (q.1 ∈ hs)) else sdD (kv.filter fun q => !decide (q.1 ∈ hs)) x v := by
  by_cases h : x ∈ hs
  · rw [decide_eq_true h, if_pos rfl]
    unfold sdD
    split
    · rfl
    · rw [List.filter_append]
      simp [h]
  · rw [decide_eq_false h, if_neg (by decide)]
    unfold sdD
    rw [look_filter h]
    split
    · rfl
    · rw [List.filter_append]
      simp [h]
theorem askP_filter (hs : List Str) (lx : Str → Bool) (i : Nat) : ∀ (l : List Str) (kv : Kvs), (askP lx i kv l).filter (fun q => !decide (q.1 ∈ hs)) = aopP hs lx i (kv.filter fun q => !decide (q.1 ∈ hs)) l
  | [], kv => rfl
  | x :: l, kv => by
    show (askP lx i (if lx x then kv else sdD kv x (.int i)) l).filter _ = aopP hs lx i (if decide (x ∈ hs) || lx x then kv.filter _ else sdD (kv.filter _) x (.int i)) l
    rw [askP_filter hs lx i l]
    congr 1
    cases lx x with
    | true => simp
    | false =>
      rw [if_neg (by decide), sdD_filter, Bool.or_false]
theorem askL_filter (hs : List Str) : ∀ (ps : List Pc) (i : Nat) (kv : Kvs), (askL ps i kv).filter (fun q => !decide (q.1 ∈ hs)) = aopL hs ps i (kv.filter fun q => !decide (q.1 ∈ hs))
  | [], i, kv => rfl
  | p :: ps, i, kv => by
    show (askL ps (i + 1) (askP (lax p) i kv p.asks)).filter _ = aopL hs ps (i + 1) (aopP hs (lax p) i (kv.filter _) p.asks)
    rw [askL_filter hs ps, askP_filter]
theorem aop_opens (ps : List Pc) : aopL (hadL ps []) ps 0 [] = opens ps := (askL_filter (hadL ps []) ps 0 []).symm
/-! the walk's loops -/
theorem aop_names {P : List D} {hs : List Str} (p : Pc) (ok : p.Ok) {i : Nat} : ∀ (l : List Str) (kv : Kvs) (s4 : Option W), (∀ x ∈ l, PyData.strOk x = true) → kv.length + l.length ≤ 100000 → ∃ s4', forL (tName 4) (b_law_aopen_4_f_f a) none ((l.map D.str).map W.d) ⟨[some (.cel 0), some (.cel 1), some (.d p.d), some (.cel 2), s4, some (.d (.int i))], [lstD P, dkC (tru hs), dkC kv]⟩ =
    some (.nx ⟨[some (.cel 0), some (.cel 1), some (.d p.d), some (.cel 2), s4', some (.d (.int i))], [lstD P, dkC (tru hs), dkC (aopP hs (lax p) i kv l)]⟩)
  | [], kv, s4, _, _ => ⟨s4, by
    simp only [List.map_nil, forL]
    rw [if_pos (show ckC none _ from trivial)]
    rfl⟩
  | x :: l, kv, s4, hx, hl => by
    rw [List.length_cons] at hl
    have e1 := din_c (neg := true) (cl := [lstD P, dkC (tru hs), dkC kv]) (n := 1) (kvs := tru hs) (x := x) rfl
    rw [look_tru] at e1
    have e2 := din_c (neg := true) (cl := [lstD P, dkC (tru hs), dkC kv]) (n := 2) (kvs := kv) (x := x) rfl
    have e3 := symbol_call (a := a) p ok (hx x List.mem_cons_self) [lstD P, dkC (tru hs), dkC kv]
    have e4 := bnd_ix p x [lstD P, dkC (tru hs), dkC kv]
    have e5 := eqv_str (neg := true) (cl := [lstD P, dkC (tru hs), dkC kv]) (bndL_ok x p.sy ok.nb) (show PyData.strOk "maybe" = true by decide +kernel)
    have eb : decide (bndL p.sy x = "maybe") = lax p x := decide_eq_decide.mpr (bnd_mem x "maybe" (by decide) p.sy ok.nd)
    rw [eb] at e5
    have e6 := dput_c (cl := [lstD P, dkC (tru hs), dkC kv]) (n := 2) (kvs := kv) (x := x) (v := .int i) rfl (by rw [sizeLine_eq]; omega)
    have e : b_law_aopen_4_f_f a ⟨[some (.cel 0), some (.cel 1), some (.d p.d), some (.cel 2), some (.d (.str x)), some (.d (.int i))], [lstD P, dkC (tru hs), dkC kv]⟩ =
      some (.nx ⟨[some (.cel 0), some (.cel 1), some (.d p.d), some (.cel 2), some (.d (.str x)), some (.d (.int i))], [lstD P, dkC (tru hs), dkC (if decide (x ∈ hs) || lax p x then kv else sdD kv x (.int i))]⟩) := by
      rw [b_law_aopen_4_f_f]
      unfold putD at e6
      unfold sdD
      generalize p.d = pd at *
      generalize symL p.sy x = sd at *
      generalize dkC (tru hs) = T at *
      cases h1 : decide (x ∈ hs) with
      | true =>
        rw [h1] at e1
        simp -implicitDefEqProofs [e1, sg]
      | false =>
        rw [h1] at e1
        cases h2 : (lookD kv x).isSome with
        | true =>
          rw [h2] at e2
          simp -implicitDefEqProofs [e1, e2, sg]
        | false =>
          rw [h2] at e2 e6
          cases h3 : lax p x with
          | true =>
            rw [h3] at e5
            simp -implicitDefEqProofs [e1, e2, e3, e4, e5, sg]
          | false =>
            rw [h3] at e5
            rw [if_neg (by decide)] at e6
            simp -implicitDefEqProofs [e1, e2, e3, e4, e5, e6, sg, sPutD]
    have h2 : (if decide (x ∈ hs) || lax p x then kv else sdD kv x (.int i)).length ≤ kv.length + 1 := by
      split
      · omega
      · exact sdD_len kv x _
    obtain ⟨s4', ih⟩ := aop_names (P := P) (hs := hs) p ok (i := i) l (if decide (x ∈ hs) || lax p x then kv else sdD kv x (.int i)) (some (.d (.str x))) (fun y hy => hx y (List.mem_cons_of_mem _ hy)) (by omega)
    refine ⟨s4', ?_⟩
    simp only [List.map_cons, forL]
    rw [if_pos (show ckC none _ from trivial)]
    simp only [ev_tName, List.set_cons_succ, List.set_cons_zero, e]
    exact ih
theorem aopP_len (hs : List Str) (lx : Str → Bool) (i : Nat) : ∀ (l : List Str) (kv : Kvs), (aopP hs lx i kv l).length ≤ kv.length + l.length
  | [], kv => by simp [aopP]
  | x :: l, kv => by
    have h1 := aopP_len hs lx i l (if decide (x ∈ hs) || lx x then kv else sdD kv x (.int i))
    have h2 : (if decide (x ∈ hs) || lx x then kv else sdD kv x (.int i)).length ≤ kv.length + 1 := by
      split
      · omega
      · exact sdD_len kv x _
    show (aopP hs lx i (if decide (x ∈ hs) || lx x then kv else sdD kv x (.int i)) l).length ≤ _
    rw [List.length_cons]
    omega
theorem aop_pcs {P : List D} {hs : List Str} : ∀ (ps : List Pc) (i : Nat) (kv : Kvs) (s2 s4 s5 : Option W), (∀ p ∈ ps, p.Ok) → kv.length + 60 * ps.length ≤ 100000 → ∃ s2' s4' s5', forL (tTupG 2 (tsCons (tName 5) (tsCons (tName 2) tsNil))) (b_law_aopen_4_f a) (some [(0, P.map W.d)]) (numW i ((ps.map Pc.d).map W.d)) ⟨[some (.cel 0), some (.cel 1), s2, some (.cel 2), s4, s5], [lstD P, dkC (tru hs), dkC kv]⟩ =
    some (.nx ⟨[some (.cel 0), some (.cel 1), s2', some (.cel 2), s4', s5'], [lstD P, dkC (tru hs), dkC (aopL hs ps i kv)]⟩)
  | [], i, kv, s2, s4, s5, _, _ => ⟨s2, s4, s5, by
    simp only [List.map_nil, numW, forL]
    rw [if_pos (ckC_one rfl)]
    rfl⟩
  | p :: ps, i, kv, s2, s4, s5, ok, hl => by
    have okp := ok p List.mem_cons_self
    rw [List.length_cons] at hl
    have la := asks_len p okp
    have e2 := aasks_call (a := a) p okp [lstD P, dkC (tru hs), dkC kv]
    obtain ⟨s4', e3⟩ := aop_names (a := a) (P := P) (hs := hs) p okp (i := i) p.asks kv s4 (asks_ok p okp) (by omega)
    have e : b_law_aopen_4_f a ⟨[some (.cel 0), some (.cel 1), some (.d p.d), some (.cel 2), s4, some (.d (.int i))], [lstD P, dkC (tru hs), dkC kv]⟩ = some (.nx ⟨[some (.cel 0), some (.cel 1), some (.d p.d), some (.cel 2), s4', some (.d (.int i))], [lstD P, dkC (tru hs), dkC (aopP hs (lax p) i kv p.asks)]⟩) := by
      rw [b_law_aopen_4_f, ev_sFor]
      have e4 : iSeq (eCall (withD [] (callC false (f_law_aasks a))) (aCons (eVar 2) aNil)) ⟨[some (.cel 0), some (.cel 1), some (.d p.d), some (.cel 2), s4, some (.d (.int i))], [lstD P, dkC (tru hs), dkC kv]⟩ = some (((p.asks.map D.str).map W.d, none), ⟨[some (.cel 0), some (.cel 1), some (.d p.d), some (.cel 2), s4, some (.d (.int i))], [lstD P, dkC (tru hs), dkC kv]⟩) := by
        simp only [iSeq, ev_withD, ev_call, ev_cons, ev_nil, ev_var, List.getElem?_cons_zero, List.getElem?_cons_succ, Option.bind_some, Option.map_some, e2, asTup, itemsL]
      rw [e4]
      exact e3
    have h2 := aopP_len hs (lax p) i p.asks kv
    obtain ⟨t2, t4, t5, ih⟩ := aop_pcs (P := P) (hs := hs) ps (i + 1) (aopP hs (lax p) i kv p.asks) (some (.d p.d)) s4' (some (.d (.int i))) (fun q hq => ok q (List.mem_cons_of_mem _ hq)) (by omega)
    refine ⟨t2, t4, t5, ?_⟩
    rw [num_cons]
    simp only [forL]
    rw [if_pos (ckC_one rfl)]
    have et : tTupG 2 (tsCons (tName 5) (tsCons (tName 2) tsNil)) (W.d (.tup [.int i, p.d])) ⟨[some (.cel 0), some (.cel 1), s2, some (.cel 2), s4, s5], [lstD P, dkC (tru hs), dkC kv]⟩ = some ⟨[some (.cel 0), some (.cel 1), some (.d p.d), some (.cel 2), s4, some (.d (.int i))], [lstD P, dkC (tru hs), dkC kv]⟩ := rfl
    simp only [et, e]
    exact ih
theorem ahad_names {P : List D} {pd : D} : ∀ (l : List Str) (ns : List Str) (s4 : Option W), ns.length + l.length ≤ 100000 → ∃ s4', forL (tName 4) (b_law_aopen_2_f_f a) none ((l.map D.str).map W.d) ⟨[some (.cel 0), some (.cel 1), some (.d pd), none, s4, none], [lstD P, dkC (tru ns)]⟩ = some (.nx ⟨[some (.cel 0), some (.cel 1), some (.d pd), none, s4', none], [lstD P, dkC (tru (l.foldl insN ns))]⟩)
  | [], ns, s4, _ => ⟨s4, by
    simp only [List.map_nil, forL]
    rw [if_pos (show ckC none _ from trivial)]
    rfl⟩
  | x :: l, ns, s4, hl => by
    rw [List.length_cons] at hl
    have h2 := insN_len ns x
    obtain ⟨s4', ih⟩ := ahad_names (P := P) (pd := pd) l (insN ns x) (some (.d (.str x))) (by omega)
    have e := put_at (P := P) (ns := ns) (x := x) (by omega)
    have e : dPutC [lstD P, dkC (tru ns)] (.cel 1) (.d (.str x)) (.d (.bl true)) = _ := e
    have eb : b_law_aopen_2_f_f a ⟨[some (.cel 0), some (.cel 1), some (.d pd), none, some (.d (.str x)), none], [lstD P, dkC (tru ns)]⟩ = some (.nx ⟨[some (.cel 0), some (.cel 1), some (.d pd), none, some (.d (.str x)), none], [lstD P, dkC (tru (insN ns x))]⟩) := by
      rw [b_law_aopen_2_f_f]
      simp only [sPutD, ev_var, ev_c, List.getElem?_cons_zero, List.getElem?_cons_succ, Option.bind_some, Option.map_some, e]
    refine ⟨s4', ?_⟩
    simp only [List.map_cons, forL]
    rw [if_pos (show ckC none _ from trivial)]
    simp only [ev_tName, List.set_cons_succ, List.set_cons_zero, eb]
    exact ih
theorem ahad_pcs {P : List D} : ∀ (ps : List Pc) (ns : List Str) (s2 s4 : Option W), (∀ p ∈ ps, p.Ok) → ns.length + 60 * ps.length ≤ 100000 → ∃ s2' s4', forL (tName 2) (b_law_aopen_2_f a) (some [(0, P.map W.d)]) ((ps.map Pc.d).map W.d) ⟨[some (.cel 0), some (.cel 1), s2, none, s4, none], [lstD P, dkC (tru ns)]⟩ = some (.nx ⟨[some (.cel 0), some (.cel 1), s2', none, s4', none], [lstD P, dkC (tru (hadL ps ns))]⟩)
  | [], ns, s2, s4, _, _ => ⟨s2, s4, by
    simp only [List.map_nil, forL]
    rw [if_pos (ckC_one rfl)]
    rfl⟩
  | p :: ps, ns, s2, s4, ok, hl => by
    have okp := ok p List.mem_cons_self
    rw [List.length_cons] at hl
    have ld := defs_len p okp
    have h2 := insA_len p.defs ns
    have e2 := adefines_call (a := a) p okp [lstD P, dkC (tru ns)]
    obtain ⟨s4', e3⟩ := ahad_names (a := a) (P := P) (pd := p.d) p.defs ns s4 (by omega)
    obtain ⟨t2, t4, ih⟩ := ahad_pcs (P := P) ps (p.defs.foldl insN ns) (some (.d p.d)) s4' (fun q hq => ok q (List.mem_cons_of_mem _ hq)) (by omega)
    have e : b_law_aopen_2_f a ⟨[some (.cel 0), some (.cel 1), some (.d p.d), none, s4, none], [lstD P, dkC (tru ns)]⟩ = some (.nx ⟨[some (.cel 0), some (.cel 1), some (.d p.d), none, s4', none], [lstD P, dkC (tru (p.defs.foldl insN ns))]⟩) := by
      rw [b_law_aopen_2_f, ev_sFor]
      have e4 : iSeq (eCall (withD [] (callC false (f_law_adefines a))) (aCons (eVar 2) aNil)) ⟨[some (.cel 0), some (.cel 1), some (.d p.d), none, s4, none], [lstD P, dkC (tru ns)]⟩ = some (((p.defs.map D.str).map W.d, none), ⟨[some (.cel 0), some (.cel 1), some (.d p.d), none, s4, none], [lstD P, dkC (tru ns)]⟩) := by
        simp only [iSeq, ev_withD, ev_call, ev_cons, ev_nil, ev_var, List.getElem?_cons_zero, List.getElem?_cons_succ, Option.bind_some, Option.map_some, e2, asTup, itemsL]
      rw [e4]
      exact e3
    refine ⟨t2, t4, ?_⟩
    simp only [List.map_cons, forL]
    rw [if_pos (ckC_one rfl)]
    simp only [ev_tName, List.set_cons_succ, List.set_cons_zero, e]
    exact ih
theorem aopen_ok (ps : List Pc) (ok : ∀ p ∈ ps, p.Ok) (hl : ps.length ≤ 1000) : f_law_aopen a [lstD (ps.map Pc.d)] [.cel 0] = some (.cel 1, [lstD (ps.map Pc.d), dkC (opens ps)]) := by
  have e5 : (⟨[W.cel 0].map some ++ List.replicate (6 - [W.cel 0].length) none, [lstD (ps.map Pc.d)]⟩ : Rho) = ⟨[some (.cel 0), none, none, none, none, none], [lstD (ps.map Pc.d)]⟩ := rfl
  obtain ⟨s2, s4, h1⟩ := ahad_pcs (a := a) (P := ps.map Pc.d) ps [] none none ok (by simp; omega)
  obtain ⟨t2, t4, t5, h2⟩ := aop_pcs (a := a) (P := ps.map Pc.d) (hs := hadL ps []) ps 0 [] s2 s4 none ok (by simp; omega)
  rw [aop_opens] at h2
  generalize hadL ps [] = hs at *
  generalize opens ps = ov at *
  generalize hP : ps.map Pc.d = P at *
  have e1 : b_law_aopen_1 a ⟨[some (.cel 0), none, none, none, none, none], [lstD P]⟩ = some (.nx ⟨[some (.cel 0), some (.cel 1), none, none, none, none], [lstD P, dkC (tru [])]⟩) := by
    rw [b_law_aopen_1]
    rfl
  have e2 : b_law_aopen_2 a ⟨[some (.cel 0), some (.cel 1), none, none, none, none], [lstD P, dkC (tru [])]⟩ = some (.nx ⟨[some (.cel 0), some (.cel 1), s2, none, s4, none], [lstD P, dkC (tru hs)]⟩) := by
    have ei : iSeq (eVar 0) ⟨[some (.cel 0), some (.cel 1), none, none, none, none], [lstD P, dkC (tru [])]⟩ = some ((P.map W.d, some [(0, P.map W.d)]), ⟨[some (.cel 0), some (.cel 1), none, none, none, none], [lstD P, dkC (tru [])]⟩) := by
      simp only [iSeq, ev_var, List.getElem?_cons_zero, Option.bind_some, Option.map_some, asTup, itemsL, lstD]
    rw [b_law_aopen_2, ev_sFor, ei]
    exact h1
  have e3 : b_law_aopen_3 a ⟨[some (.cel 0), some (.cel 1), s2, none, s4, none], [lstD P, dkC (tru hs)]⟩ = some (.nx ⟨[some (.cel 0), some (.cel 1), s2, some (.cel 2), s4, none], [lstD P, dkC (tru hs), dkC []]⟩) := by
    rw [b_law_aopen_3]
    rfl
  have e4 : b_law_aopen_4 a ⟨[some (.cel 0), some (.cel 1), s2, some (.cel 2), s4, none], [lstD P, dkC (tru hs), dkC []]⟩ = some (.nx ⟨[some (.cel 0), some (.cel 1), t2, some (.cel 2), t4, t5], [lstD P, dkC (tru hs), dkC ov]⟩) := by
    have ei : iEnumF (eVar 0) ⟨[some (.cel 0), some (.cel 1), s2, some (.cel 2), s4, none], [lstD P, dkC (tru hs), dkC []]⟩ = some ((numW 0 (P.map W.d), some [(0, P.map W.d)]), ⟨[some (.cel 0), some (.cel 1), s2, some (.cel 2), s4, none], [lstD P, dkC (tru hs), dkC []]⟩) := by
      simp only [iEnumF, ev_var, List.getElem?_cons_zero, Option.bind_some, Option.map_some, itemsL, lstD]
    rw [b_law_aopen_4, ev_sFor, ei]
    exact h2
  rw [f_law_aopen, run_eq, split_law_aopen, e5]
  simp only [ev_sSeq, e1, e2, e3, e4, Option.bind_some, nxt_nx]
  rw [b_law_aopen_5]
  exact fin_skip (by simp) (by simp) (fun _ => by simp) fun _ => by simp
theorem aopen_call (ps : List Pc) (ok : ∀ p ∈ ps, p.Ok) (hl : ps.length ≤ 1000) {cl : List Cell} {k : Nat} (h : cl[k]? = some (lstD (ps.map Pc.d))) : callC false (f_law_aopen a) cl [.cel k] = some (.d (dkD (opens ps)), cl) := call_leafK h (aopen_ok ps ok hl)
end Lw
/-! what is drawn next -/
namespace FL
open PySem PySem.Spec L2
open Classical in
theorem eqv_dec {x y : D} {p q : PyData} (kx : okE 60 x = true) (ky : okE 60 y = true) (e : x.py = some p) (f : y.py = some q) : PyData.eqv p q = decide (x = y) := by
  by_cases h : x = y
  · subst h
    rw [e] at f
    cases f
    obtain ⟨p', e', _, e2⟩ := okD_shaped (okE_okD _ _ kx)
    rw [e] at e'
    cases e'
    rw [e2]
    simp
  · rw [decide_eq_false h]
    cases g : PyData.eqv p q with
    | false => rfl
    | true => exact absurd (sameD 60 60 x y p q kx ky e f g) h
open Classical in
theorem any_eqv {x : D} {p : PyData} (kx : okE 60 x = true) (e : x.py = some p) : ∀ (Q : List D) (qs : List PyData), (∀ y ∈ Q, okE 60 y = true) → pyA Q = some qs → (qs.any fun z => PyData.eqv z p) = decide (x ∈ Q)
  | [], qs, _, h => by
    rw [pyA_nil h]
    rfl
  | y :: Q, qs, k, h => by
    obtain ⟨q, qs', h1, h2, rfl⟩ := pyA_cons h
    have ih := any_eqv kx e Q qs' (fun z hz => k z (List.mem_cons_of_mem _ hz)) h2
    rw [List.any_cons, ih, eqv_dec (k y List.mem_cons_self) kx h1 e]
    by_cases z : y = x
    · subst z
      simp
    · have z' : ¬ x = y := fun w => z w.symm
      rw [decide_eq_false z, Bool.false_or]
      exact decide_eq_decide.mpr ⟨fun w => List.mem_cons_of_mem _ w, fun w => (List.mem_cons.mp w).resolve_left z'⟩
open Classical in
theorem in_data {neg : Bool} {cl : List Cell} {n : Nat} {x : D} {Q : List D} (h : cl[n]? = some (lstD Q)) (fl : flD x = none) (kx : okE 59 x = true) (kx' : okE 60 x = true) (k' : ∀ y ∈ Q, okE 60 y = true) (k : ∀ y ∈ Q, okE 59 y = true) : dIn neg cl (.d x) (.cel n) = some (.d (.bl (sg neg (decide (x ∈ Q)))), cl) := by
  have e1 : dGetW cl (.cel n) (.d x) = none := by simp [dGetW, asDk, asDt, h, lstD]
  have e2 : flW (.d x) = none := fl
  obtain ⟨p, ep, sp, _⟩ := okD_shaped (okE_okD _ _ kx')
  have kQ : okE 60 (.lst Q) = true := okEA_iff.mpr k
  obtain ⟨pq, eq, sq, _⟩ := okD_shaped (okE_okD _ _ kQ)
  obtain ⟨qs, e3, rfl⟩ := py_lst' eq
  have e4 := any_eqv kx' ep Q qs k' e3
  have e5 : pyW cl (.cel n) = some (.list qs) := by
    rw [pyW_c (h := show cl[n]? = some (.lst (Q.map W.d)) from h), eq]
  have e6 : pyW cl (.d x) = some p := ep
  simp only [dIn, e1, e2]
  unfold inD
  simp only [e5, e6, e4]
  rw [if_pos ⟨sp, sq⟩]
  cases neg <;> rfl
def pD (q : Nat × Nat) : D := .tup [.int q.1, .int q.2]
theorem pD_inj {q r : Nat × Nat} (h : pD q = pD r) : q = r := by
  injection h with h
  injection h with h1 h2
  injection h2 with h2 _
  injection h1 with h1
  injection h2 with h2
  exact Prod.ext (Int.ofNat.inj h1) (Int.ofNat.inj h2)
theorem in_pairs {neg : Bool} {cl : List Cell} {n : Nat} {i j : Nat} {dn : List (Nat × Nat)} (h : cl[n]? = some (lstD (dn.map pD))) : dIn neg cl (.d (.tup [.int i, .int j])) (.cel n) = some (.d (.bl (sg neg (decide ((i, j) ∈ dn)))), cl) := by
  have k : ∀ m, ∀ y ∈ dn.map pD, okE (m + 1) y = true := fun m y hy => by
    obtain ⟨q, _, rfl⟩ := List.mem_map.mp hy
    rfl
  show dIn neg cl (.d (pD (i, j))) (.cel n) = _
  rw [in_data (x := pD (i, j)) h rfl rfl rfl (k 59) (k 58)]
  have : (pD (i, j) ∈ dn.map pD) ↔ (i, j) ∈ dn := ⟨fun q => by
    obtain ⟨r, hr, e⟩ := List.mem_map.mp q
    exact pD_inj e ▸ hr, fun q => List.mem_map.mpr ⟨_, q, rfl⟩⟩
  by_cases z : (i, j) ∈ dn
  · have z' := this.mpr z
    simp only [z, z', decide_true]
  · have z' : ¬ pD (i, j) ∈ dn.map pD := fun w => z (this.mp w)
    simp only [z, z', decide_false]
/-! dicts of pairs -/
def dtC (dn : List (Nat × Nat)) : Cell := .dt (dn.map fun q => [Sum.inl (q.1 : Int), Sum.inl (q.2 : Int)]) (dn.map fun _ => W.d (.bl true))
theorem val_dt (q : Nat × Nat) : ∀ dn : List (Nat × Nat), (valK (dn.map fun q => ([Sum.inl (q.1 : Int), Sum.inl (q.2 : Int)] : List Key)) (dn.map fun _ => W.d (.bl true)) [Sum.inl (q.1 : Int), Sum.inl (q.2 : Int)]).isSome = decide (q ∈ dn)
  | [] => rfl
  | r :: dn => by
    have ih := val_dt q dn
    show (if ([Sum.inl (r.1 : Int), Sum.inl (r.2 : Int)] : List Key) = [Sum.inl (q.1 : Int), Sum.inl (q.2 : Int)] then some (W.d (.bl true)) else _).isSome = _
    have ek : (([Sum.inl (r.1 : Int), Sum.inl (r.2 : Int)] : List Key) = [Sum.inl (q.1 : Int), Sum.inl (q.2 : Int)]) ↔ r = q := by
      constructor
      · intro h
        have h1 := List.cons.inj h
        have h2 := List.cons.inj h1.2
        have a1 := Sum.inl.inj h1.1
        have a2 := Sum.inl.inj h2.1
        exact Prod.ext (Int.ofNat.inj a1) (Int.ofNat.inj a2)
      · rintro rfl
        rfl
    by_cases h : r = q
    · rw [if_pos (ek.mpr h)]
      subst h
      simp
    · rw [if_neg (fun z => h (ek.mp z)), ih]
      have h' : ¬ q = r := fun z => h z.symm
      exact decide_eq_decide.mpr ⟨fun w => List.mem_cons_of_mem _ w, fun w => (List.mem_cons.mp w).resolve_left h'⟩
theorem in_dt {neg : Bool} {cl : List Cell} {n : Nat} {dn : List (Nat × Nat)} {i j : Nat} (h : cl[n]? = some (dtC dn)) : dIn neg cl (.d (.tup [.int i, .int j])) (.cel n) = some (.d (.bl (sg neg (decide ((i, j) ∈ dn)))), cl) := by
  have h' : cl[n]? = some (.dt (dn.map fun q => [Sum.inl (q.1 : Int), Sum.inl (q.2 : Int)]) (dn.map fun _ => W.d (.bl true))) := h
  have v := val_dt (i, j) dn
  simp only [dIn, dGetW, asDk, asDt, h', tkeyW, keysD, keyD, Option.map_some, v]
theorem has_dt (q : Nat × Nat) (dn : List (Nat × Nat)) : hasK (dn.map fun q => ([Sum.inl (q.1 : Int), Sum.inl (q.2 : Int)] : List Key)) [Sum.inl (q.1 : Int), Sum.inl (q.2 : Int)] = decide (q ∈ dn) := by
  unfold hasK
  rw [List.any_map]
  induction dn with
  | nil => rfl
  | cons r dn ih =>
    rw [List.any_cons, ih]
    have ek : (([Sum.inl (r.1 : Int), Sum.inl (r.2 : Int)] : List Key) = [Sum.inl (q.1 : Int), Sum.inl (q.2 : Int)]) ↔ r = q := by
      constructor
      · intro h
        have h1 := List.cons.inj h
        have h2 := List.cons.inj h1.2
        have a1 := Sum.inl.inj h1.1
        have a2 := Sum.inl.inj h2.1
        exact Prod.ext (Int.ofNat.inj a1) (Int.ofNat.inj a2)
      · rintro rfl
        rfl
    by_cases h : r = q
    · subst h
      simp
    · have h' : ¬ q = r := fun z => h z.symm
      have : decide (([Sum.inl (r.1 : Int), Sum.inl (r.2 : Int)] : List Key) = [Sum.inl (q.1 : Int), Sum.inl (q.2 : Int)]) = false := decide_eq_false fun z => h (ek.mp z)
      show (decide (([Sum.inl (r.1 : Int), Sum.inl (r.2 : Int)] : List Key) = [Sum.inl (q.1 : Int), Sum.inl (q.2 : Int)]) || _) = _
      rw [this, Bool.false_or]
      exact decide_eq_decide.mpr ⟨fun w => List.mem_cons_of_mem _ w, fun w => (List.mem_cons.mp w).resolve_left h'⟩
theorem dput_dt {cl : List Cell} {n : Nat} {dn : List (Nat × Nat)} {i j : Nat} (h : cl[n]? = some (dtC dn)) (hn : (i, j) ∉ dn) (hl : dn.length < sizeLine) : dPutC cl (.cel n) (.d (.tup [.int i, .int j])) (.d (.bl true)) = some (cl.set n (dtC (dn ++ [(i, j)]))) := by
  have h' : cl[n]? = some (.dt (dn.map fun q => [Sum.inl (q.1 : Int), Sum.inl (q.2 : Int)]) (dn.map fun _ => W.d (.bl true))) := h
  have hh := has_dt (i, j) dn
  rw [decide_eq_false hn] at hh
  have hh : hasK (dn.map fun q => ([Sum.inl (q.1 : Int), Sum.inl (q.2 : Int)] : List Key)) [Sum.inl (i : Int), Sum.inl (j : Int)] = false := hh
  simp only [dPutC, h', tkeyW, keysD, keyD, hh]
  rw [if_pos (by rw [List.length_map]; exact hl)]
  simp [dtC]
@[simp] theorem dtC_refs {dn : List (Nat × Nat)} : (dtC dn).refs = [] := by
  show refsA (dn.map fun _ => W.d (.bl true)) = []
  induction dn with
  | nil => rfl
  | cons q dn ih => exact ih
@[simp] theorem dtC_mapc {f : Nat → Nat} {dn : List (Nat × Nat)} : (dtC dn).mapc f = dtC dn := by
  show Cell.dt _ (mapcA f (dn.map fun _ => W.d (.bl true))) = Cell.dt _ _
  congr 1
  induction dn with
  | nil => rfl
  | cons q dn ih =>
    show W.d (.bl true) :: mapcA f (dn.map fun _ => W.d (.bl true)) = _
    rw [ih]
    rfl
/-! the least text -/
theorem minT_ok (x : Str) : ∀ xs : List Str, minT x xs ∈ x :: xs ∧ ∀ y ∈ x :: xs, leT (minT x xs) y = true
  | [] => ⟨by simp [minT], fun y hy => by
    rw [List.mem_singleton] at hy
    subst hy
    exact (leT_iff _ _).mpr (List.le_refl _)⟩
  | z :: xs => by
    have e : minT x (z :: xs) = minT (if decide (z.cps.toList < x.cps.toList) then z else x) xs := rfl
    rw [e]
    obtain ⟨h1, h2⟩ := minT_ok (if decide (z.cps.toList < x.cps.toList) then z else x) xs
    refine ⟨?_, fun y hy => ?_⟩
    · rcases List.mem_cons.mp h1 with h | h
      · rw [h]
        split
        · exact List.mem_cons_of_mem _ List.mem_cons_self
        · exact List.mem_cons_self
      · exact List.mem_cons_of_mem _ (List.mem_cons_of_mem _ h)
    · have hm := h2 _ List.mem_cons_self
      have both : leT (if decide (z.cps.toList < x.cps.toList) then z else x) x = true ∧ leT (if decide (z.cps.toList < x.cps.toList) then z else x) z = true := by
        by_cases h : z.cps.toList < x.cps.toList
        · rw [if_pos (by simpa using h)]
          exact ⟨(leT_iff _ _).mpr (List.le_of_lt h), (leT_iff _ _).mpr (List.le_refl _)⟩
        · rw [if_neg (by simpa using h)]
          exact ⟨(leT_iff _ _).mpr (List.le_refl _), (leT_iff _ _).mpr (List.not_lt.mp h)⟩
      rcases List.mem_cons.mp hy with rfl | hy
      · exact leT_trans hm both.1
      · rcases List.mem_cons.mp hy with rfl | hy
        · exact leT_trans hm both.2
        · exact h2 y (List.mem_cons_of_mem _ hy)
/-- the least of two lists with the same members -/
theorem min_head {x : Str} {xs : List Str} {y : Str} {ys : List Str} (hs : ∀ z, z ∈ x :: xs ↔ z ∈ y :: ys) (h : (y :: ys).Pairwise fun a b => leT a b = true) : minT x xs = y := by
  obtain ⟨h1, h2⟩ := minT_ok x xs
  have a1 := h2 y ((hs y).mpr List.mem_cons_self)
  have a2 : leT y (minT x xs) = true := by
    rcases List.mem_cons.mp ((hs _).mp h1) with e | e
    · rw [e]
      exact (leT_iff _ _).mpr (List.le_refl _)
    · exact (List.pairwise_cons.mp h).1 _ e
  exact leT_anti a1 a2
end FL
/-! next_reason and the law's own -/
namespace Lw
open PySem PySem.Spec L2 FL
variable {a : Ad}
abbrev Ars := List (List Pc)
def arD (ars : Ars) : D := .lst (ars.map fun l => .tup (l.map Pc.d))
def pcAt (ars : Ars) (q : Nat × Nat) : Option Pc := (ars[q.1]?).bind fun l => l[q.2]?
structure ArsOk (ars : Ars) : Prop where
  ok : ∀ l ∈ ars, ∀ p ∈ l, p.Ok
def spD (sp : List (Nat × Nat)) : D := .lst (sp.map pD)
/-- the least name that a piece defines of those open, and its value -/
def cand (p : Pc) (ov : Kvs) : List Str := p.defs.filter fun x => (lookD ov x).isSome
def pick (p : Pc) (ov : Kvs) : Option (Str × D) := match cand p ov with
  | [] => none
  | x :: xs => (lookD ov (minT x xs)).map fun v => (minT x xs, v)
def nxt1 (ars : Ars) (ov : Kvs) (dn : List (Nat × Nat)) : List (Nat × Nat) → Option ((Nat × Nat) × Str × D)
  | [] => none
  | q :: sp => match (pcAt ars q).bind fun p => pick p ov with
    | some r => if decide (q ∈ dn) then nxt1 ars ov dn sp else some (q, r)
    | none => nxt1 ars ov dn sp
def resD (r : (Nat × Nat) × Str × D) : D := .tup [.int r.1.1, .int r.1.2, .str r.2.1, r.2.2]
theorem tp4 {cl : List Cell} {x y z w : D} : oTup cl [.d x, .d y, .d z, .d w] = some (.d (.tup [x, y, z, w]), cl) := by
  unfold oTup
  rw [if_pos (by show 4 ≤ sizeLine; rw [sizeLine_eq]; decide)]
  rfl
theorem ar_at {ars : Ars} {q : Nat × Nat} {p : Pc} (h : pcAt ars q = some p) (cl : List Cell) : ∃ l, dIx cl (.d (arD ars)) (.d (.int q.1)) = some (.d l, cl) ∧ dIx cl (.d l) (.d (.int q.2)) = some (.d p.d, cl) := by
  obtain ⟨l, h1, h2⟩ := Option.bind_eq_some_iff.mp h
  have l1 := (List.getElem?_eq_some_iff.mp h1).1
  have l2 := (List.getElem?_eq_some_iff.mp h2).1
  refine ⟨.tup (l.map Pc.d), ?_, ?_⟩
  · have := at_d (cl := cl) (P := ars.map fun l => D.tup (l.map Pc.d)) (i := q.1) (by simpa using l1)
    rw [show arD ars = .lst (ars.map fun l => .tup (l.map Pc.d)) from rfl, this]
    simp [(List.getElem?_eq_some_iff.mp h1).2]
  · have := at_t (cl := cl) (P := l.map Pc.d) (i := q.2) (by simpa using l2)
    rw [this]
    simp [(List.getElem?_eq_some_iff.mp h2).2]
theorem defs_ok (p : Pc) (ok : p.Ok) : ∀ x ∈ p.defs, PyData.strOk x = true := fun x hx => by
  obtain ⟨s, hs, rfl⟩ := List.mem_map.mp hx
  exact ok.nn s (List.mem_filter.mp hs).1
theorem okA_strs {k : Nat} {ss : List Str} (h : ∀ x ∈ ss, PyData.strOk x = true) : okA k (ss.map D.str) = true := okA_iff.mpr fun y hy => by
  obtain ⟨x, hx, rfl⟩ := List.mem_map.mp hy
  cases k <;> exact h x hx
theorem minL_d {cl : List Cell} {x : Str} {xs : List Str} : oMinL cl [.d (.lst ((x :: xs).map D.str))] = some (.d (.str (minT x xs)), cl) := by
  have ts := ts_strs (x :: xs)
  rw [show ((x :: xs).map fun s => W.d (.str s)) = ((x :: xs).map D.str).map W.d by rw [List.map_map]; rfl] at ts
  simp only [oMinL, asList, ts]
theorem pick_look {p : Pc} {ov : Kvs} {x : Str} {xs : List Str} (h : cand p ov = x :: xs) : ∃ v, lookD ov (minT x xs) = some v := by
  have hm := (minT_ok x xs).1
  rw [← h] at hm
  exact Option.isSome_iff_exists.mp (List.mem_filter.mp hm).2
/-- one seat -/
theorem next_turn {P : List D} {ars : Ars} {ov : Kvs} {dn : List (Nat × Nat)} {q : Nat × Nat} {p : Pc} (ok : p.Ok) (hp : pcAt ars q = some p) {spd : D} {s7 s8 : Option W} :
    ∃ s7' s8', b_next_reason_2_f a ⟨[some (.cel 0), some (.d (arD ars)), some (.d spd), some (.cel 1), some (.d (dkD ov)), some (.d (.int q.1)), some (.d (.int q.2)), s7, s8], [lstD P, dtC dn]⟩ = some (match pick p ov with
      | some r => if decide (q ∈ dn) then .nx ⟨[some (.cel 0), some (.d (arD ars)), some (.d spd), some (.cel 1), some (.d (dkD ov)), some (.d (.int q.1)), some (.d (.int q.2)), s7', s8'], [lstD P, dtC dn]⟩ else .ret (.d (resD (q, r))) ⟨[some (.cel 0), some (.d (arD ars)), some (.d spd), some (.cel 1), some (.d (dkD ov)), some (.d (.int q.1)), some (.d (.int q.2)), s7', s8'], [lstD P, dtC dn]⟩
      | none => .nx ⟨[some (.cel 0), some (.d (arD ars)), some (.d spd), some (.cel 1), some (.d (dkD ov)), some (.d (.int q.1)), some (.d (.int q.2)), s7', s8'], [lstD P, dtC dn]⟩) := by
  obtain ⟨l, a1, a2⟩ := ar_at hp [lstD P, dtC dn]
  have e2 := defined_call (a := a) p ok [lstD P, dtC dn]
  have ei : iSeq (eCall (withD [] (callC false (f_defined a))) (aCons (eBin dIx (eBin dIx (eVar 1) (eVar 5)) (eVar 6)) aNil)) ⟨[some (.cel 0), some (.d (arD ars)), some (.d spd), some (.cel 1), some (.d (dkD ov)), some (.d (.int q.1)), some (.d (.int q.2)), s7, s8], [lstD P, dtC dn]⟩ =
      some (((p.defs.map D.str).map W.d, none), ⟨[some (.cel 0), some (.d (arD ars)), some (.d spd), some (.cel 1), some (.d (dkD ov)), some (.d (.int q.1)), some (.d (.int q.2)), s7, s8], [lstD P, dtC dn]⟩) := by
    simp only [iSeq, ev_withD, ev_call, ev_cons, ev_nil, ev_bin, ev_var, List.getElem?_cons_zero, List.getElem?_cons_succ, Option.bind_some, Option.map_some, a1, a2, e2, asTup, itemsL]
  have el := lc_pure (c := false) (mi := iSeq (eCall (withD [] (callC false (f_defined a))) (aCons (eBin dIx (eBin dIx (eVar 1) (eVar 5)) (eVar 6)) aNil))) (g := tName 8) (tt := bVal (eBin (dIn false) (eVar 8) (eVar 4))) (te := eVar 8) (vs := [8]) ei
    (fun w => match w with | .d (.str x) => (lookD ov x).isSome | _ => false) (fun w => match w with | .d x => x | _ => .non) (fun _ => trivial) (by
      have := defs_len p ok
      rw [List.length_map, List.length_map, sizeLine_eq]
      omega) (by simp) (fun d hd acc => by
      obtain ⟨y, hy, rfl⟩ := List.mem_map.mp hd
      obtain ⟨x, hx, rfl⟩ := List.mem_map.mp hy
      have e3 := din_d (neg := false) (cl := [lstD P, dtC dn] ++ [.lst acc]) (kvs := ov) (x := x)
      refine ⟨⟨[some (.cel 0), some (.d (arD ars)), some (.d spd), some (.cel 1), some (.d (dkD ov)), some (.d (.int q.1)), some (.d (.int q.2)), s7, some (.d (.str x))], [lstD P, dtC dn] ++ [.lst acc]⟩, rfl, ⟨[some (.cel 0), some (.d (arD ars)), some (.d spd), some (.cel 1), some (.d (dkD ov)), some (.d (.int q.1)), some (.d (.int q.2)), s7, some (.d (.str x))], [lstD P, dtC dn] ++ [.lst acc]⟩, ?_, rfl, fun _ => ⟨_, rfl, rfl⟩⟩
      simp only [ev_bVal, ev_bin, ev_var, List.getElem?_cons_zero, List.getElem?_cons_succ, Option.bind_some, Option.map_some, e3]
      rfl)
  have ef : ((((p.defs.map D.str).map W.d).filter fun w => match w with | .d (.str x) => (lookD ov x).isSome | _ => false).map fun w => match w with | .d x => x | _ => .non) = (cand p ov).map D.str := by
    unfold cand
    induction p.defs with
    | nil => rfl
    | cons x l ih =>
      simp only [List.map_cons, List.filter_cons]
      split
      · rw [List.map_cons, List.map_cons, ih]
      · exact ih
  rw [ef] at el
  simp only [Bool.false_eq_true, if_false] at el
  have en := eqv_d_nil (neg := true) (cl := [lstD P, dtC dn]) (ds := (cand p ov).map D.str) (okA_strs fun x hx => defs_ok p ok x (List.mem_filter.mp hx).1)
  have ed := in_dt (neg := true) (cl := [lstD P, dtC dn]) (n := 1) (dn := dn) (i := q.1) (j := q.2) rfl
  have e0 : oLst false [lstD P, dtC dn] [] = some (.d (.lst []), [lstD P, dtC dn]) := lst0
  refine ⟨some (.d (.lst ((cand p ov).map D.str))), s8, ?_⟩
  rw [b_next_reason_2_f, b_next_reason_2_f_1, b_next_reason_2_f_2]
  unfold pick
  cases hc : cand p ov with
  | nil =>
    rw [hc] at el en
    have en : eqvD true [lstD P, dtC dn] (.d (.lst [])) (.d (.lst [])) = some (.d (.bl false), [lstD P, dtC dn]) := en
    rw [ev_sSeq, ev_sAsg, el]
    generalize arD ars = AD at *
    generalize dkD ov = OD at *
    simp -implicitDefEqProofs [en, e0]
  | cons x xs =>
    obtain ⟨v, hv⟩ := pick_look hc
    have em := minL_d (cl := [lstD P, dtC dn]) (x := x) (xs := xs)
    have ex := dix_d (cl := [lstD P, dtC dn]) hv
    rw [hc] at el en
    rw [ev_sSeq, ev_sAsg, el]
    simp only [hv, Option.map_some]
    have en' : eqvD true [lstD P, dtC dn] (.d (.lst ((x :: xs).map D.str))) (.d (.lst [])) = some (.d (.bl true), [lstD P, dtC dn]) := en
    generalize (x :: xs).map D.str = XS at *
    generalize arD ars = AD at *
    generalize dkD ov = OD at *
    by_cases z : q ∈ dn
    · have ed : dIn true [lstD P, dtC dn] (.d (.tup [.int q.1, .int q.2])) (.cel 1) = some (.d (.bl false), [lstD P, dtC dn]) := by
        rw [ed, decide_eq_true (show (q.1, q.2) ∈ dn from z)]
        rfl
      rw [decide_eq_true z]
      simp -implicitDefEqProofs [en', e0, tp2, ed]
    · have ed : dIn true [lstD P, dtC dn] (.d (.tup [.int q.1, .int q.2])) (.cel 1) = some (.d (.bl true), [lstD P, dtC dn]) := by
        rw [ed, decide_eq_false (show ¬ (q.1, q.2) ∈ dn from z)]
        rfl
      rw [decide_eq_false z]
      simp -implicitDefEqProofs [en', e0, tp2, tp4, ed, em, ex, resD]
/-- the seats -/
theorem next_list {P : List D} {ars : Ars} (oa : ArsOk ars) {ov : Kvs} {dn : List (Nat × Nat)} {spd : D} : ∀ (sp : List (Nat × Nat)) (s5 s6 s7 s8 : Option W), (∀ q ∈ sp, (pcAt ars q).isSome = true) →
    ∃ s5' s6' s7' s8', forL (tTupG 2 (tsCons (tName 5) (tsCons (tName 6) tsNil))) (b_next_reason_2_f a) none ((sp.map pD).map W.d) ⟨[some (.cel 0), some (.d (arD ars)), some (.d spd), some (.cel 1), some (.d (dkD ov)), s5, s6, s7, s8], [lstD P, dtC dn]⟩ = some (match nxt1 ars ov dn sp with
      | some r => .ret (.d (resD r)) ⟨[some (.cel 0), some (.d (arD ars)), some (.d spd), some (.cel 1), some (.d (dkD ov)), s5', s6', s7', s8'], [lstD P, dtC dn]⟩
      | none => .nx ⟨[some (.cel 0), some (.d (arD ars)), some (.d spd), some (.cel 1), some (.d (dkD ov)), s5', s6', s7', s8'], [lstD P, dtC dn]⟩)
  | [], s5, s6, s7, s8, _ => ⟨s5, s6, s7, s8, by
    simp only [List.map_nil, forL]
    rw [if_pos (show ckC none _ from trivial)]
    rfl⟩
  | q :: sp, s5, s6, s7, s8, hv => by
    obtain ⟨p, hp⟩ := Option.isSome_iff_exists.mp (hv q List.mem_cons_self)
    have okp : p.Ok := by
      obtain ⟨l, h1, h2⟩ := Option.bind_eq_some_iff.mp hp
      exact oa.ok l (List.mem_of_getElem? h1) p (List.mem_of_getElem? h2)
    obtain ⟨s7', s8', e⟩ := next_turn (a := a) (P := P) (ov := ov) (dn := dn) okp hp (spd := spd) (s7 := s7) (s8 := s8)
    obtain ⟨t5, t6, t7, t8, ih⟩ := next_list (P := P) oa (ov := ov) (dn := dn) (spd := spd) sp (some (.d (.int q.1))) (some (.d (.int q.2))) s7' s8' fun r hr => hv r (List.mem_cons_of_mem _ hr)
    have et : tTupG 2 (tsCons (tName 5) (tsCons (tName 6) tsNil)) (W.d (pD q)) ⟨[some (.cel 0), some (.d (arD ars)), some (.d spd), some (.cel 1), some (.d (dkD ov)), s5, s6, s7, s8], [lstD P, dtC dn]⟩ = some ⟨[some (.cel 0), some (.d (arD ars)), some (.d spd), some (.cel 1), some (.d (dkD ov)), some (.d (.int q.1)), some (.d (.int q.2)), s7, s8], [lstD P, dtC dn]⟩ := rfl
    have u : nxt1 ars ov dn (q :: sp) = match pick p ov with
      | some r => if decide (q ∈ dn) then nxt1 ars ov dn sp else some (q, r)
      | none => nxt1 ars ov dn sp := by
      simp only [nxt1, hp, Option.bind_some]
    rw [u]
    simp only [List.map_cons, forL]
    rw [if_pos (show ckC none _ from trivial)]
    simp only [et, e]
    cases hk : pick p ov with
    | none =>
      simp only
      exact ⟨t5, t6, t7, t8, ih⟩
    | some r =>
      by_cases z : q ∈ dn
      · simp only [decide_eq_true z, if_true]
        exact ⟨t5, t6, t7, t8, ih⟩
      · simp only [decide_eq_false z, Bool.false_eq_true, if_false]
        exact ⟨_, _, s7', s8', rfl⟩
def optD : Option ((Nat × Nat) × Str × D) → D
  | some r => resD r
  | none => .non
theorem next_ok (ps : List Pc) (ok : ∀ p ∈ ps, p.Ok) (hl : ps.length ≤ 1000) {ars : Ars} (oa : ArsOk ars) (dn sp : List (Nat × Nat)) (hv : ∀ q ∈ sp, (pcAt ars q).isSome = true) :
    f_next_reason a [lstD (ps.map Pc.d), dtC dn] [.cel 0, .d (arD ars), .d (spD sp), .cel 1] = some (.d (optD (nxt1 ars (opens ps) dn sp)), [lstD (ps.map Pc.d), dtC dn]) := by
  have e5 : (⟨[W.cel 0, .d (arD ars), .d (spD sp), .cel 1].map some ++ List.replicate (9 - [W.cel 0, .d (arD ars), .d (spD sp), .cel 1].length) none, [lstD (ps.map Pc.d), dtC dn]⟩ : Rho) = ⟨[some (.cel 0), some (.d (arD ars)), some (.d (spD sp)), some (.cel 1), none, none, none, none, none], [lstD (ps.map Pc.d), dtC dn]⟩ := rfl
  have e0 := open_call (a := a) ps ok hl (cl := [lstD (ps.map Pc.d), dtC dn]) (k := 0) rfl
  obtain ⟨s5, s6, s7, s8, e2⟩ := next_list (a := a) (P := ps.map Pc.d) oa (ov := opens ps) (dn := dn) (spd := spD sp) sp none none none none hv
  generalize opens ps = ov at *
  generalize ps.map Pc.d = P at *
  have e1 : b_next_reason_1 a ⟨[some (.cel 0), some (.d (arD ars)), some (.d (spD sp)), some (.cel 1), none, none, none, none, none], [lstD P, dtC dn]⟩ = some (.nx ⟨[some (.cel 0), some (.d (arD ars)), some (.d (spD sp)), some (.cel 1), some (.d (dkD ov)), none, none, none, none], [lstD P, dtC dn]⟩) := by
    rw [b_next_reason_1]
    generalize arD ars = AD at *
    generalize dkD ov = OD at *
    simp -implicitDefEqProofs [e0]
  have fl : ∀ x : D, fin 2 (.d x) [lstD P, dtC dn] = some (.d x, [lstD P, dtC dn]) := fun x => fin_same (cl := [lstD P, dtC dn]) fun i n hi hn => by
    have hi : i < 2 := hi
    rcases (by omega : i = 0 ∨ i = 1) with rfl | rfl
    · simp [cellAt] at hn
    · simp [cellAt] at hn
  have e3 : b_next_reason_2 a ⟨[some (.cel 0), some (.d (arD ars)), some (.d (spD sp)), some (.cel 1), some (.d (dkD ov)), none, none, none, none], [lstD P, dtC dn]⟩ = forL (tTupG 2 (tsCons (tName 5) (tsCons (tName 6) tsNil))) (b_next_reason_2_f a) none ((sp.map pD).map W.d) ⟨[some (.cel 0), some (.d (arD ars)), some (.d (spD sp)), some (.cel 1), some (.d (dkD ov)), none, none, none, none], [lstD P, dtC dn]⟩ := by
    rw [b_next_reason_2, ev_sFor]
    have ei : iSeq (eVar 2) ⟨[some (.cel 0), some (.d (arD ars)), some (.d (spD sp)), some (.cel 1), some (.d (dkD ov)), none, none, none, none], [lstD P, dtC dn]⟩ = some (((sp.map pD).map W.d, none), ⟨[some (.cel 0), some (.d (arD ars)), some (.d (spD sp)), some (.cel 1), some (.d (dkD ov)), none, none, none, none], [lstD P, dtC dn]⟩) := rfl
    rw [ei]
    rfl
  rw [← e3] at e2
  rw [f_next_reason, run_eq, split_next_reason, e5]
  simp only [ev_sSeq, e1, e2, Option.bind_some, nxt_nx]
  cases nxt1 ars ov dn sp with
  | some r => exact fl _
  | none =>
    simp only [nxt_nx]
    rw [b_next_reason_3]
    exact fl _
end Lw
/-! what the law draws next -/
namespace Lw
open PySem PySem.Spec L2 FL
variable {a : Ad}
theorem sorted_d {cl : List Cell} {ov : Kvs} (hl : ov.length < 64) : oSorted false cl [.d (dkD ov)] = some (.d (.lst ((sortT (keysOf ov)).map D.str)), cl) := by
  have e1 : asList cl (.d (dkD ov)) = none := rfl
  have e2 : asDk cl (.d (dkD ov)) = some (dkK ov, (ov.map (·.2)).map W.d) := rfl
  have e3 := strsK_kvs ov
  have em : (sortT (keysOf ov)).map (fun i => W.d (.str i)) = ((sortT (keysOf ov)).map D.str).map W.d := by rw [List.map_map]; rfl
  have ef : FL.fresh false (((sortT (keysOf ov)).map D.str).map W.d) cl = some (.d (.lst ((sortT (keysOf ov)).map D.str)), cl) := by
    unfold FL.fresh
    rw [if_neg (by decide), datas_m]
    rfl
  cases ov with
  | nil =>
    have e4 : sortedOf cl (.d (dkD [])) = some (.inl []) := by
      simp only [sortedOf, e1, e2]
      rfl
    simp only [oSorted, e4]
    rw [if_pos (by decide), show sortI [] = [] by simp [sortI]]
    rw [show sortT (keysOf []) = [] by simp [sortT, keysOf]]
    rfl
  | cons s ss =>
    have e4 : sortedOf cl (.d (dkD (s :: ss))) = some (.inr (keysOf (s :: ss))) := by
      simp only [sortedOf, e1, e2, e3]
      rfl
    simp only [oSorted, e4]
    rw [if_pos (by unfold keysOf; rw [List.length_map]; exact hl), em]
    exact ef
def cand2 (p : Pc) (ov : Kvs) : List Str := (sortT (keysOf ov)).filter fun x => decide (x ∈ p.defs)
def pick2 (p : Pc) (ov : Kvs) : Option (Str × D) := match cand2 p ov with
  | [] => none
  | y :: _ => (lookD ov y).map fun v => (y, v)
theorem cand_mem (p : Pc) (ov : Kvs) (x : Str) : x ∈ cand p ov ↔ x ∈ cand2 p ov := by
  unfold cand cand2
  rw [List.mem_filter, List.mem_filter, look_none]
  have := (List.mergeSort_perm (keysOf ov) leT).mem_iff (a := x)
  show _ ↔ x ∈ (keysOf ov).mergeSort leT ∧ _
  rw [this]
  simp only [decide_eq_true_eq]
  exact And.comm
theorem pick_eq (p : Pc) (ov : Kvs) : pick2 p ov = pick p ov := by
  have hm := cand_mem p ov
  have pw : (cand2 p ov).Pairwise fun a b => leT a b = true := List.Pairwise.filter _ (List.pairwise_mergeSort (le := leT) (fun a b c => leT_trans) leT_total (keysOf ov))
  unfold pick2 pick
  cases h1 : cand p ov with
  | nil =>
    cases h2 : cand2 p ov with
    | nil => rfl
    | cons y ys =>
      rw [h1, h2] at hm
      exact absurd ((hm y).mpr List.mem_cons_self) (by simp)
  | cons x xs =>
    cases h2 : cand2 p ov with
    | nil =>
      rw [h1, h2] at hm
      exact absurd ((hm x).mp List.mem_cons_self) (by simp)
    | cons y ys =>
      rw [h1, h2] at hm
      rw [h2] at pw
      have e := min_head hm pw
      simp only [e]
theorem pick2_look {p : Pc} {ov : Kvs} {y : Str} {ys : List Str} (h : cand2 p ov = y :: ys) : ∃ v, lookD ov y = some v := by
  have hm : y ∈ cand p ov := (cand_mem p ov y).mpr (by rw [h]; exact List.mem_cons_self)
  exact Option.isSome_iff_exists.mp (List.mem_filter.mp hm).2
theorem anext_turn {P : List D} {ars : Ars} {ov : Kvs} (ho : ov.length < 64) {dn : List (Nat × Nat)} {q : Nat × Nat} {p : Pc} (ok : p.Ok) (hp : pcAt ars q = some p) {spd : D} {s7 s8 s9 : Option W} :
    ∃ s7' s8' s9', b_law_anext_2_f a ⟨[some (.cel 0), some (.d (arD ars)), some (.d spd), some (.cel 1), some (.d (dkD ov)), some (.d (.int q.1)), some (.d (.int q.2)), s7, s8, s9], [lstD P, lstD (dn.map pD)]⟩ = some (match pick p ov with
      | some r => if decide (q ∈ dn) then .nx ⟨[some (.cel 0), some (.d (arD ars)), some (.d spd), some (.cel 1), some (.d (dkD ov)), some (.d (.int q.1)), some (.d (.int q.2)), s7', s8', s9'], [lstD P, lstD (dn.map pD)]⟩ else .ret (.d (resD (q, r))) ⟨[some (.cel 0), some (.d (arD ars)), some (.d spd), some (.cel 1), some (.d (dkD ov)), some (.d (.int q.1)), some (.d (.int q.2)), s7', s8', s9'], [lstD P, lstD (dn.map pD)]⟩
      | none => .nx ⟨[some (.cel 0), some (.d (arD ars)), some (.d spd), some (.cel 1), some (.d (dkD ov)), some (.d (.int q.1)), some (.d (.int q.2)), s7', s8', s9'], [lstD P, lstD (dn.map pD)]⟩) := by
  obtain ⟨l, a1, a2⟩ := ar_at hp [lstD P, lstD (dn.map pD)]
  have e2 := adefines_call (a := a) p ok [lstD P, lstD (dn.map pD)]
  have e1 : b_law_anext_2_f_1 a ⟨[some (.cel 0), some (.d (arD ars)), some (.d spd), some (.cel 1), some (.d (dkD ov)), some (.d (.int q.1)), some (.d (.int q.2)), s7, s8, s9], [lstD P, lstD (dn.map pD)]⟩ = some (.nx ⟨[some (.cel 0), some (.d (arD ars)), some (.d spd), some (.cel 1), some (.d (dkD ov)), some (.d (.int q.1)), some (.d (.int q.2)), some (.d (.lst (p.defs.map D.str))), s8, s9], [lstD P, lstD (dn.map pD)]⟩) := by
    rw [b_law_anext_2_f_1]
    generalize arD ars = AD at *
    generalize dkD ov = OD at *
    generalize p.d = pd at *
    simp -implicitDefEqProofs [a1, a2, e2]
  have es := sorted_d (cl := [lstD P, lstD (dn.map pD)]) ho
  have kl : (sortT (keysOf ov)).length = ov.length := by
    have := (List.mergeSort_perm (keysOf ov) leT).length_eq
    show ((keysOf ov).mergeSort leT).length = _
    rw [this]
    unfold keysOf
    rw [List.length_map]
  have ei : iSeq (eCall (oSorted false) (aCons (eVar 4) aNil)) ⟨[some (.cel 0), some (.d (arD ars)), some (.d spd), some (.cel 1), some (.d (dkD ov)), some (.d (.int q.1)), some (.d (.int q.2)), some (.d (.lst (p.defs.map D.str))), s8, s9], [lstD P, lstD (dn.map pD)]⟩ = some ((((sortT (keysOf ov)).map D.str).map W.d, none), ⟨[some (.cel 0), some (.d (arD ars)), some (.d spd), some (.cel 1), some (.d (dkD ov)), some (.d (.int q.1)), some (.d (.int q.2)), some (.d (.lst (p.defs.map D.str))), s8, s9], [lstD P, lstD (dn.map pD)]⟩) := by
    simp only [iSeq, ev_call, ev_cons, ev_nil, ev_var, List.getElem?_cons_zero, List.getElem?_cons_succ, Option.bind_some, Option.map_some, es, asTup, itemsL]
  have el := lc_pure (c := false) (mi := iSeq (eCall (oSorted false) (aCons (eVar 4) aNil))) (g := tName 9) (tt := bVal (eBin (dIn false) (eVar 9) (eVar 7))) (te := eVar 9) (vs := [9]) ei
    (fun w => match w with | .d (.str x) => decide (x ∈ p.defs) | _ => false) (fun w => match w with | .d x => x | _ => .non) (fun _ => trivial) (by
      rw [List.length_map, List.length_map, sizeLine_eq]
      omega) (by simp) (fun d hd acc => by
      obtain ⟨y, hy, rfl⟩ := List.mem_map.mp hd
      obtain ⟨x, hx, rfl⟩ := List.mem_map.mp hy
      have e3 := in_lst (neg := false) (cl := [lstD P, lstD (dn.map pD)] ++ [.lst acc]) (s := x) (ns := p.defs)
      refine ⟨⟨[some (.cel 0), some (.d (arD ars)), some (.d spd), some (.cel 1), some (.d (dkD ov)), some (.d (.int q.1)), some (.d (.int q.2)), some (.d (.lst (p.defs.map D.str))), s8, some (.d (.str x))], [lstD P, lstD (dn.map pD)] ++ [.lst acc]⟩, rfl, ⟨[some (.cel 0), some (.d (arD ars)), some (.d spd), some (.cel 1), some (.d (dkD ov)), some (.d (.int q.1)), some (.d (.int q.2)), some (.d (.lst (p.defs.map D.str))), s8, some (.d (.str x))], [lstD P, lstD (dn.map pD)] ++ [.lst acc]⟩, ?_, rfl, fun _ => ⟨_, rfl, rfl⟩⟩
      simp only [ev_bVal, ev_bin, ev_var, List.getElem?_cons_zero, List.getElem?_cons_succ, Option.bind_some, Option.map_some, e3]
      rfl)
  have ef : ((((sortT (keysOf ov)).map D.str).map W.d).filter fun w => match w with | .d (.str x) => decide (x ∈ p.defs) | _ => false).map (fun w => match w with | .d x => x | _ => .non) = (cand2 p ov).map D.str := by
    unfold cand2
    induction sortT (keysOf ov) with
    | nil => rfl
    | cons x l ih =>
      simp only [List.map_cons, List.filter_cons]
      split
      · rw [List.map_cons, List.map_cons, ih]
      · exact ih
  rw [ef] at el
  simp only [Bool.false_eq_true, if_false] at el
  have e3 : b_law_anext_2_f_2 a ⟨[some (.cel 0), some (.d (arD ars)), some (.d spd), some (.cel 1), some (.d (dkD ov)), some (.d (.int q.1)), some (.d (.int q.2)), some (.d (.lst (p.defs.map D.str))), s8, s9], [lstD P, lstD (dn.map pD)]⟩ = some (.nx ⟨[some (.cel 0), some (.d (arD ars)), some (.d spd), some (.cel 1), some (.d (dkD ov)), some (.d (.int q.1)), some (.d (.int q.2)), some (.d (.lst (p.defs.map D.str))), some (.d (.lst ((cand2 p ov).map D.str))), s9], [lstD P, lstD (dn.map pD)]⟩) := by
    rw [b_law_anext_2_f_2, ev_sAsg, el]
    rfl
  have en := eqv_d_nil (neg := true) (cl := [lstD P, lstD (dn.map pD)]) (ds := (cand2 p ov).map D.str) (okA_strs fun x hx => defs_ok p ok x (by simpa using (List.mem_filter.mp hx).2))
  have ed := in_pairs (neg := true) (cl := [lstD P, lstD (dn.map pD)]) (n := 1) (dn := dn) (i := q.1) (j := q.2) rfl
  have e0 : oLst false [lstD P, lstD (dn.map pD)] [] = some (.d (.lst []), [lstD P, lstD (dn.map pD)]) := lst0
  refine ⟨some (.d (.lst (p.defs.map D.str))), some (.d (.lst ((cand2 p ov).map D.str))), s9, ?_⟩
  rw [b_law_anext_2_f, ev_sSeq, e1]
  simp only [Option.bind_some, nxt_nx]
  rw [ev_sSeq, e3]
  simp only [Option.bind_some, nxt_nx]
  rw [b_law_anext_2_f_3, ← pick_eq]
  unfold pick2
  cases hc : cand2 p ov with
  | nil =>
    rw [hc] at en
    have en : eqvD true [lstD P, lstD (dn.map pD)] (.d (.lst [])) (.d (.lst [])) = some (.d (.bl false), [lstD P, lstD (dn.map pD)]) := en
    generalize arD ars = AD at *
    generalize dkD ov = OD at *
    generalize dn.map pD = DN at *
    generalize p.defs.map D.str = PD at *
    simp -implicitDefEqProofs [en, e0]
  | cons y ys =>
    obtain ⟨v, hv⟩ := pick2_look hc
    have ex := dix_d (cl := [lstD P, lstD (dn.map pD)]) hv
    have eh : dIx [lstD P, lstD (dn.map pD)] (.d (.lst ((y :: ys).map D.str))) (.d (.int 0)) = some (.d (.str y), [lstD P, lstD (dn.map pD)]) := at_d (P := (y :: ys).map D.str) (i := 0) (by simp)
    rw [hc] at en
    simp only [hv, Option.map_some]
    have en' : eqvD true [lstD P, lstD (dn.map pD)] (.d (.lst ((y :: ys).map D.str))) (.d (.lst [])) = some (.d (.bl true), [lstD P, lstD (dn.map pD)]) := en
    generalize (y :: ys).map D.str = XS at *
    generalize arD ars = AD at *
    generalize dkD ov = OD at *
    generalize p.defs.map D.str = PD at *
    by_cases z : q ∈ dn
    · rw [decide_eq_true (show (q.1, q.2) ∈ dn from z)] at ed
      rw [decide_eq_true z]
      generalize dn.map pD = DN at *
      simp -implicitDefEqProofs [en', e0, tp2, ed, sg]
    · rw [decide_eq_false (show ¬ (q.1, q.2) ∈ dn from z)] at ed
      rw [decide_eq_false z]
      generalize dn.map pD = DN at *
      simp -implicitDefEqProofs [en', e0, tp2, tp4, ed, eh, ex, resD, sg]
theorem anext_list {P : List D} {ars : Ars} (oa : ArsOk ars) {ov : Kvs} (ho : ov.length < 64) {dn : List (Nat × Nat)} {spd : D} : ∀ (sp : List (Nat × Nat)) (s5 s6 s7 s8 s9 : Option W), (∀ q ∈ sp, (pcAt ars q).isSome = true) →
    ∃ s5' s6' s7' s8' s9', forL (tTupG 2 (tsCons (tName 5) (tsCons (tName 6) tsNil))) (b_law_anext_2_f a) none ((sp.map pD).map W.d) ⟨[some (.cel 0), some (.d (arD ars)), some (.d spd), some (.cel 1), some (.d (dkD ov)), s5, s6, s7, s8, s9], [lstD P, lstD (dn.map pD)]⟩ = some (match nxt1 ars ov dn sp with
      | some r => .ret (.d (resD r)) ⟨[some (.cel 0), some (.d (arD ars)), some (.d spd), some (.cel 1), some (.d (dkD ov)), s5', s6', s7', s8', s9'], [lstD P, lstD (dn.map pD)]⟩
      | none => .nx ⟨[some (.cel 0), some (.d (arD ars)), some (.d spd), some (.cel 1), some (.d (dkD ov)), s5', s6', s7', s8', s9'], [lstD P, lstD (dn.map pD)]⟩)
  | [], s5, s6, s7, s8, s9, _ => ⟨s5, s6, s7, s8, s9, by
    simp only [List.map_nil, forL]
    rw [if_pos (show ckC none _ from trivial)]
    rfl⟩
  | q :: sp, s5, s6, s7, s8, s9, hv => by
    obtain ⟨p, hp⟩ := Option.isSome_iff_exists.mp (hv q List.mem_cons_self)
    have okp : p.Ok := by
      obtain ⟨l, h1, h2⟩ := Option.bind_eq_some_iff.mp hp
      exact oa.ok l (List.mem_of_getElem? h1) p (List.mem_of_getElem? h2)
    obtain ⟨s7', s8', s9', e⟩ := anext_turn (a := a) (P := P) ho (dn := dn) okp hp (spd := spd) (s7 := s7) (s8 := s8) (s9 := s9)
    obtain ⟨t5, t6, t7, t8, t9, ih⟩ := anext_list (P := P) oa ho (dn := dn) (spd := spd) sp (some (.d (.int q.1))) (some (.d (.int q.2))) s7' s8' s9' fun r hr => hv r (List.mem_cons_of_mem _ hr)
    have et : tTupG 2 (tsCons (tName 5) (tsCons (tName 6) tsNil)) (W.d (pD q)) ⟨[some (.cel 0), some (.d (arD ars)), some (.d spd), some (.cel 1), some (.d (dkD ov)), s5, s6, s7, s8, s9], [lstD P, lstD (dn.map pD)]⟩ = some ⟨[some (.cel 0), some (.d (arD ars)), some (.d spd), some (.cel 1), some (.d (dkD ov)), some (.d (.int q.1)), some (.d (.int q.2)), s7, s8, s9], [lstD P, lstD (dn.map pD)]⟩ := rfl
    have u : nxt1 ars ov dn (q :: sp) = match pick p ov with
      | some r => if decide (q ∈ dn) then nxt1 ars ov dn sp else some (q, r)
      | none => nxt1 ars ov dn sp := by
      simp only [nxt1, hp, Option.bind_some]
      all_goals rfl
    rw [u]
    simp only [List.map_cons, forL]
    rw [if_pos (show ckC none _ from trivial)]
    simp only [et, e]
    cases hk : pick p ov with
    | none =>
      simp only
      exact ⟨t5, t6, t7, t8, t9, ih⟩
    | some r =>
      by_cases z : q ∈ dn
      · simp only [decide_eq_true z, if_true]
        exact ⟨t5, t6, t7, t8, t9, ih⟩
      · simp only [decide_eq_false z, Bool.false_eq_true, if_false]
        exact ⟨_, _, s7', s8', s9', rfl⟩
theorem anext_ok (ps : List Pc) (ok : ∀ p ∈ ps, p.Ok) (hl : ps.length ≤ 1000) (ho : (opens ps).length < 64) {ars : Ars} (oa : ArsOk ars) (dn sp : List (Nat × Nat)) (hv : ∀ q ∈ sp, (pcAt ars q).isSome = true) :
    f_law_anext a [lstD (ps.map Pc.d), lstD (dn.map pD)] [.cel 0, .d (arD ars), .d (spD sp), .cel 1] = some (.d (optD (nxt1 ars (opens ps) dn sp)), [lstD (ps.map Pc.d), lstD (dn.map pD)]) := by
  have e5 : (⟨[W.cel 0, .d (arD ars), .d (spD sp), .cel 1].map some ++ List.replicate (10 - [W.cel 0, .d (arD ars), .d (spD sp), .cel 1].length) none, [lstD (ps.map Pc.d), lstD (dn.map pD)]⟩ : Rho) = ⟨[some (.cel 0), some (.d (arD ars)), some (.d (spD sp)), some (.cel 1), none, none, none, none, none, none], [lstD (ps.map Pc.d), lstD (dn.map pD)]⟩ := rfl
  have e0 := aopen_call (a := a) ps ok hl (cl := [lstD (ps.map Pc.d), lstD (dn.map pD)]) (k := 0) rfl
  obtain ⟨s5, s6, s7, s8, s9, e2⟩ := anext_list (a := a) (P := ps.map Pc.d) oa ho (dn := dn) (spd := spD sp) sp none none none none none hv
  generalize opens ps = ov at *
  generalize ps.map Pc.d = P at *
  have e1 : b_law_anext_1 a ⟨[some (.cel 0), some (.d (arD ars)), some (.d (spD sp)), some (.cel 1), none, none, none, none, none, none], [lstD P, lstD (dn.map pD)]⟩ = some (.nx ⟨[some (.cel 0), some (.d (arD ars)), some (.d (spD sp)), some (.cel 1), some (.d (dkD ov)), none, none, none, none, none], [lstD P, lstD (dn.map pD)]⟩) := by
    rw [b_law_anext_1]
    generalize arD ars = AD at *
    generalize dkD ov = OD at *
    simp -implicitDefEqProofs [e0]
  have fl : ∀ x : D, fin 2 (.d x) [lstD P, lstD (dn.map pD)] = some (.d x, [lstD P, lstD (dn.map pD)]) := fun x => fin_same (cl := [lstD P, lstD (dn.map pD)]) fun i n hi hn => by
    have hi : i < 2 := hi
    rcases (by omega : i = 0 ∨ i = 1) with rfl | rfl
    · simp [cellAt] at hn
    · simp [cellAt] at hn
  have e3 : b_law_anext_2 a ⟨[some (.cel 0), some (.d (arD ars)), some (.d (spD sp)), some (.cel 1), some (.d (dkD ov)), none, none, none, none, none], [lstD P, lstD (dn.map pD)]⟩ = forL (tTupG 2 (tsCons (tName 5) (tsCons (tName 6) tsNil))) (b_law_anext_2_f a) none ((sp.map pD).map W.d) ⟨[some (.cel 0), some (.d (arD ars)), some (.d (spD sp)), some (.cel 1), some (.d (dkD ov)), none, none, none, none, none], [lstD P, lstD (dn.map pD)]⟩ := by
    rw [b_law_anext_2, ev_sFor]
    have ei : iSeq (eVar 2) ⟨[some (.cel 0), some (.d (arD ars)), some (.d (spD sp)), some (.cel 1), some (.d (dkD ov)), none, none, none, none, none], [lstD P, lstD (dn.map pD)]⟩ = some (((sp.map pD).map W.d, none), ⟨[some (.cel 0), some (.d (arD ars)), some (.d (spD sp)), some (.cel 1), some (.d (dkD ov)), none, none, none, none, none], [lstD P, lstD (dn.map pD)]⟩) := rfl
    rw [ei]
    rfl
  rw [← e3] at e2
  rw [f_law_anext, run_eq, split_law_anext, e5]
  simp only [ev_sSeq, e1, e2, Option.bind_some, nxt_nx]
  cases nxt1 ars ov dn sp with
  | some r => exact fl _
  | none =>
    simp only [nxt_nx]
    rw [b_law_anext_3]
    exact fl _
end Lw
/-! the states of the drawing -/
namespace FL
open PySem PySem.Spec L2
/-- a call with two cells that changes nothing -/
theorem call_leaf2 {f : OpN} {cl : List Cell} {i j : Nat} {ci cj : Cell} {ws ws0 : List W} {x : D} (hij : i ≠ j) (hi : cl[i]? = some ci) (hj : cl[j]? = some cj) (ri : ci.refs = []) (rj : cj.refs = []) (mi : ∀ f, ci.mapc f = ci) (mj : ∀ f, cj.mapc f = cj)
    (h1 : (refsA ws).eraseDups = [i, j]) (h2 : ((refsA ws).all fun n => [i, j].contains n) = true) (h3 : mapcA (ix [i, j]) ws = ws0) (h : f [ci, cj] ws0 = some (.d x, [ci, cj])) : callC false f cl ws = some (.d x, cl) := by
  have li := (List.getElem?_eq_some_iff.mp hi).1
  have lj := (List.getElem?_eq_some_iff.mp hj).1
  have ei : cellAt cl i = ci := by simp [cellAt, hi]
  have ej : cellAt cl j = cj := by simp [cellAt, hj]
  have e : idsOf cl ws = [i, j] := by
    unfold idsOf
    rw [h1]
    simp [clos, ei, ej, ri, rj]
  have e2 : isPart cl [i, j] = true := by simp [isPart, ei, ej, ri, rj, li, lj, hij]
  have e4 : FL.part cl [i, j] = [ci, cj] := by simp [FL.part, ei, ej, mi, mj]
  have e9 : merge cl [i, j] [ci, cj] = cl := by
    have := merge_part (cl := cl) (ids := [i, j]) (fun n hn => by
      rcases List.mem_cons.mp hn with rfl | hn
      · exact li
      · rw [List.mem_singleton] at hn
        subst hn
        exact lj) (fun n hn m hm => by
      rcases List.mem_cons.mp hn with rfl | hn
      · rw [ei, ri] at hm
        cases hm
      · rw [List.mem_singleton] at hn
        subst hn
        rw [ej, rj] at hm
        cases hm)
    rw [e4] at this
    exact this
  exact callP_of e e2 h2 e4 h3 h rfl (by simp [ri, rj]) e9
end FL
namespace Lw
open PySem PySem.Spec L2 FL
variable {a : Ad}
abbrev Rs := (Nat × Nat) × Str × D
structure Ds where
  ps : List Pc
  rs : List Rs
  dn : List (Nat × Nat)
def Ds.next (ars : Ars) (s : Ds) (r : Rs) : Ds := ⟨s.ps ++ (pcAt ars r.1).toList, s.rs ++ [r], s.dn ++ [r.1]⟩
/-- n more are drawn of these seats -/
inductive Rn (ars : Ars) (sp : List (Nat × Nat)) : Nat → Ds → Ds → Prop
  | stop {s : Ds} : nxt1 ars (opens s.ps) s.dn sp = none → Rn ars sp 0 s s
  | go {s t : Ds} {n : Nat} {r : Rs} : nxt1 ars (opens s.ps) s.dn sp = some r → Rn ars sp n (s.next ars r) t → Rn ars sp (n + 1) s t
inductive RR (ars : Ars) : List (List (Nat × Nat)) → Ds → Ds → Prop
  | nil {s : Ds} : RR ars [] s s
  | cons {s m t : Ds} {n : Nat} {sp : List (Nat × Nat)} {rows : List (List (Nat × Nat))} : n ≤ sp.length → Rn ars sp n s m → RR ars rows m t → RR ars (sp :: rows) s t
theorem nxt1_mem {ars : Ars} {ov : Kvs} {dn : List (Nat × Nat)} {r : Rs} : ∀ {sp : List (Nat × Nat)}, nxt1 ars ov dn sp = some r → r.1 ∈ sp ∧ r.1 ∉ dn ∧ (pcAt ars r.1).isSome = true
  | [], h => (nomatch h)
  | q :: sp, h => by
    unfold nxt1 at h
    split at h
    · rename_i r' hr
      split at h
      · obtain ⟨h1, h2⟩ := nxt1_mem h
        exact ⟨List.mem_cons_of_mem _ h1, h2⟩
      · rename_i hd
        cases h
        refine ⟨List.mem_cons_self, by simpa using hd, ?_⟩
        obtain ⟨p, hp, _⟩ := Option.bind_eq_some_iff.mp hr
        rw [hp]
        rfl
    · obtain ⟨h1, h2⟩ := nxt1_mem h
      exact ⟨List.mem_cons_of_mem _ h1, h2⟩
def left (sp dn : List (Nat × Nat)) : Nat := (sp.filter fun q => !decide (q ∈ dn)).length
theorem left_le (sp dn : List (Nat × Nat)) : left sp dn ≤ sp.length := List.length_filter_le _ _
theorem left_next {q : Nat × Nat} {dn : List (Nat × Nat)} (hn : q ∉ dn) : ∀ {sp : List (Nat × Nat)}, q ∈ sp → left sp (dn ++ [q]) < left sp dn
  | r :: sp, h => by
    have mono : ∀ l : List (Nat × Nat), left l (dn ++ [q]) ≤ left l dn := fun l => by
      unfold left
      induction l with
      | nil => simp
      | cons x l ih =>
        rw [List.filter_cons, List.filter_cons]
        by_cases z : x ∈ dn
        · simp [z] at ih ⊢
          exact ih
        · by_cases w : x = q
          · rw [if_neg (by simp [w]), if_pos (by simpa using z), List.length_cons]
            exact Nat.le_succ_of_le ih
          · simp [z, w] at ih ⊢
            exact ih
    unfold left at *
    rw [List.filter_cons, List.filter_cons]
    by_cases w : r = q
    · subst w
      have := mono sp
      rw [if_neg (by simp), if_pos (by simpa using hn), List.length_cons]
      omega
    · have h' : q ∈ sp := (List.mem_cons.mp h).resolve_left fun z => w z.symm
      have ih := left_next hn h'
      unfold left at ih
      by_cases z : r ∈ dn
      · rw [if_neg (by simp [z]), if_neg (by simp [z])]
        exact ih
      · rw [if_pos (by simp [z, w]), if_pos (by simp [z]), List.length_cons, List.length_cons]
        omega
theorem rn_ex (ars : Ars) (sp : List (Nat × Nat)) : ∀ (k : Nat) (s : Ds), left sp s.dn ≤ k → ∃ n t, n ≤ k ∧ Rn ars sp n s t
  | k, s, h => by
    cases hn : nxt1 ars (opens s.ps) s.dn sp with
    | none => exact ⟨0, s, Nat.zero_le _, .stop hn⟩
    | some r =>
      obtain ⟨h1, h2, _⟩ := nxt1_mem hn
      have lt := left_next h2 h1
      match k, h with
      | 0, h => omega
      | k + 1, h =>
        obtain ⟨n, t, hk, q⟩ := rn_ex ars sp k (s.next ars r) (by show left sp (s.dn ++ [r.1]) ≤ k; omega)
        exact ⟨n + 1, t, by omega, .go hn q⟩
theorem rr_ex (ars : Ars) : ∀ (rows : List (List (Nat × Nat))) (s : Ds), ∃ t, RR ars rows s t
  | [], s => ⟨s, .nil⟩
  | sp :: rows, s => by
    obtain ⟨n, m, hn, h1⟩ := rn_ex ars sp sp.length s (left_le _ _)
    obtain ⟨t, h2⟩ := rr_ex ars rows m
    exact ⟨t, .cons hn h1 h2⟩
/-- what stays true as members are drawn -/
structure Dk (pool : List Str) (ars : Ars) (k : Nat) (s : Ds) : Prop where
  ok : ∀ p ∈ s.ps, p.Ok
  po : ∀ p ∈ s.ps, ∀ x ∈ p.asks, x ∈ pool
  le : s.ps.length + k ≤ 1000
  le2 : s.dn.length + k ≤ 1000
  le3 : s.rs.length + k ≤ 1000
structure ArsIn (pool : List Str) (ars : Ars) : Prop where
  ok : ArsOk ars
  po : ∀ l ∈ ars, ∀ p ∈ l, ∀ x ∈ p.asks, x ∈ pool
theorem Dk.next {pool : List Str} {ars : Ars} {k : Nat} {s : Ds} (h : Dk pool ars (k + 1) s) (ha : ArsIn pool ars) {r : Rs} (hr : (pcAt ars r.1).isSome = true) : Dk pool ars k (s.next ars r) := by
  obtain ⟨p, hp⟩ := Option.isSome_iff_exists.mp hr
  obtain ⟨l, h1, h2⟩ := Option.bind_eq_some_iff.mp hp
  have m1 := List.mem_of_getElem? h1
  have m2 := List.mem_of_getElem? h2
  have e : (s.next ars r).ps = s.ps ++ [p] := by
    show s.ps ++ (pcAt ars r.1).toList = _
    rw [hp]
    rfl
  have a1 := h.le
  have a2 := h.le2
  have a3 := h.le3
  refine ⟨fun q hq => ?_, fun q hq => ?_, ?_, ?_, ?_⟩
  · rw [e] at hq
    rcases List.mem_append.mp hq with hq | hq
    · exact h.ok q hq
    · rw [List.mem_singleton] at hq
      subst hq
      exact ha.ok.ok l m1 q m2
  · rw [e] at hq
    rcases List.mem_append.mp hq with hq | hq
    · exact h.po q hq
    · rw [List.mem_singleton] at hq
      subst hq
      exact ha.po l m1 q m2
  · rw [e, List.length_append, List.length_singleton]
    omega
  · show (s.dn ++ [r.1]).length + k ≤ 1000
    rw [List.length_append, List.length_singleton]
    omega
  · show (s.rs ++ [r]).length + k ≤ 1000
    rw [List.length_append, List.length_singleton]
    omega
theorem nodup_sub : ∀ (L l : List Str), l.Nodup → (∀ x ∈ l, x ∈ L) → l.length ≤ L.length
  | [], l, _, h => by
    cases l with
    | nil => simp
    | cons x l => exact absurd (h x List.mem_cons_self) (by simp)
  | y :: L, l, nd, h => by
    have h1 := nodup_sub L (l.filter fun x => !decide (x = y)) (List.Pairwise.filter _ nd) (fun x hx => by
      obtain ⟨h2, h3⟩ := List.mem_filter.mp hx
      have : ¬ x = y := by simpa using h3
      exact (List.mem_cons.mp (h x h2)).resolve_left this)
    have h2 : ∀ l : List Str, l.Nodup → l.length ≤ (l.filter fun x => !decide (x = y)).length + 1 := fun l nd => by
      induction l with
      | nil => simp
      | cons x l ih =>
        obtain ⟨n1, n2⟩ := List.nodup_cons.mp nd
        by_cases z : x = y
        · subst z
          have e : (l.filter fun z => !decide (z = x)) = l := List.filter_eq_self.mpr fun z hz => by
            have : z ≠ x := fun w => n1 (w ▸ hz)
            simpa using this
          rw [List.filter_cons, if_neg (by simp), e]
          simp
        · have := ih n2
          rw [List.filter_cons, if_pos (by simpa using z), List.length_cons, List.length_cons]
          omega
    have := h2 l nd
    rw [List.length_cons]
    omega
theorem askP_sub {lx : Str → Bool} {i : Nat} {x : Str} : ∀ (l : List Str) (kv : Kvs), x ∈ keysOf (askP lx i kv l) → x ∈ keysOf kv ∨ x ∈ l
  | [], kv, h => .inl h
  | y :: l, kv, h => by
    rcases askP_sub l (if lx y then kv else sdD kv y (.int i)) h with h | h
    · split at h
      · exact .inl h
      · unfold sdD at h
        split at h
        · exact .inl h
        · unfold keysOf at h
          rw [List.map_append, List.mem_append] at h
          rcases h with h | h
          · exact .inl h
          · simp at h
            subst h
            exact .inr List.mem_cons_self
    · exact .inr (List.mem_cons_of_mem _ h)
theorem askL_sub {x : Str} : ∀ (ps : List Pc) (i : Nat) (kv : Kvs), x ∈ keysOf (askL ps i kv) → x ∈ keysOf kv ∨ ∃ p ∈ ps, x ∈ p.asks
  | [], i, kv, h => .inl h
  | p :: ps, i, kv, h => by
    rcases askL_sub ps (i + 1) _ h with h | ⟨q, hq, h⟩
    · rcases askP_sub _ _ h with h | h
      · exact .inl h
      · exact .inr ⟨p, List.mem_cons_self, h⟩
    · exact .inr ⟨q, List.mem_cons_of_mem _ hq, h⟩
theorem opens_len {pool : List Str} {ps : List Pc} (hp : ∀ p ∈ ps, ∀ x ∈ p.asks, x ∈ pool) : (opens ps).length ≤ pool.length := by
  have h1 : (opens ps).length ≤ (askL ps 0 []).length := List.length_filter_le _ _
  have h2 := nodup_sub pool (keysOf (askL ps 0 [])) (askL_nd ps 0 [] List.nodup_nil) fun x hx => by
    rcases askL_sub ps 0 [] hx with h | ⟨p, hp', h⟩
    · cases h
    · exact hp p hp' x h
  unfold keysOf at h2
  rw [List.length_map] at h2
  omega
end Lw
/-! drawn: the loop -/
namespace Lw
open PySem PySem.Spec L2 FL
variable {a : Ad} {ars : Ars} {sp : List (Nat × Nat)}
theorem reason_call {s : Ds} (ok : ∀ p ∈ s.ps, p.Ok) (hl : s.ps.length ≤ 1000) (oa : ArsOk ars) (hv : ∀ q ∈ sp, (pcAt ars q).isSome = true) {B : Cell} {G : List Cell} :
    callC false (f_next_reason a) (lstD (s.ps.map Pc.d) :: B :: dtC s.dn :: G) [.cel 0, .d (arD ars), .d (spD sp), .cel 2] = some (.d (optD (nxt1 ars (opens s.ps) s.dn sp)), lstD (s.ps.map Pc.d) :: B :: dtC s.dn :: G) :=
  call_leaf2 (i := 0) (j := 2) (by decide) rfl rfl (by simp) (by simp) (fun _ => by simp) (fun _ => by simp) rfl rfl rfl (next_ok s.ps ok hl oa s.dn sp hv)
section
variable {pd rowsd : W} {gr : Bool} {s9 s10 s11 s12 s13 s14 : Option W} {G : List Cell}
theorem drawn_w1 {s : Ds} {r : Rs} : b_drawn_6_f_2_w_1 a ⟨[some pd, some (.d (arD ars)), some (.d (.bl gr)), some rowsd, some (.cel 0), some (.cel 1), some (.cel 2), some (.d (spD sp)), some (.d (resD r)), s9, s10, s11, s12, s13, s14], lstD (s.ps.map Pc.d) :: lstD (s.rs.map resD) :: dtC (s.dn) :: G⟩ = some (.nx ⟨[some pd, some (.d (arD ars)), some (.d (.bl gr)), some rowsd, some (.cel 0), some (.cel 1), some (.cel 2), some (.d (spD sp)), some (.d (resD r)), some (.d (.int r.1.2)), s10, some (.d (.int r.1.1)), s12, s13, some (.cel (G.length + 3))], lstD (s.ps.map Pc.d) :: lstD (s.rs.map resD) :: dtC (s.dn) :: (G ++ [lstD [.str r.2.1, r.2.2]])⟩) := by
  rw [b_drawn_6_f_2_w_1]
  rfl
theorem drawn_w2 {s : Ds} {r : Rs} {p : Pc} (hp : pcAt ars r.1 = some p) (hl : s.ps.length ≤ 1000) : b_drawn_6_f_2_w_2 a ⟨[some pd, some (.d (arD ars)), some (.d (.bl gr)), some rowsd, some (.cel 0), some (.cel 1), some (.cel 2), some (.d (spD sp)), some (.d (resD r)), some (.d (.int r.1.2)), s10, some (.d (.int r.1.1)), s12, s13, s14], lstD (s.ps.map Pc.d) :: lstD (s.rs.map resD) :: dtC (s.dn) :: G⟩ = some (.nx ⟨[some pd, some (.d (arD ars)), some (.d (.bl gr)), some rowsd, some (.cel 0), some (.cel 1), some (.cel 2), some (.d (spD sp)), some (.d (resD r)), some (.d (.int r.1.2)), s10, some (.d (.int r.1.1)), s12, s13, s14], lstD (s.ps.map Pc.d ++ [p.d]) :: lstD (s.rs.map resD) :: dtC (s.dn) :: G⟩) := by
  obtain ⟨l, a1, a2⟩ := ar_at hp (lstD (s.ps.map Pc.d) :: lstD (s.rs.map resD) :: dtC (s.dn) :: G)
  have e1 := app_c (cl := lstD (s.ps.map Pc.d) :: lstD (s.rs.map resD) :: dtC (s.dn) :: G) (n := 0) (P := s.ps.map Pc.d) (x := p.d) rfl (by rw [List.length_map]; omega)
  have e2 : isLst (lstD (s.ps.map Pc.d) :: lstD (s.rs.map resD) :: dtC (s.dn) :: G) (.cel 0) = true := isLst_c rfl
  rw [b_drawn_6_f_2_w_2]
  generalize arD ars = AD at *
  generalize p.d = pdd at *
  generalize s.ps.map Pc.d = P at *
  generalize s.rs.map resD = RR' at *
  generalize dtC s.dn = DT at *
  simp -implicitDefEqProofs [a1, a2, e1, e2]
theorem drawn_w3 {s : Ds} {r : Rs} {P : List D} (hn : r.1 ∉ s.dn) (hl : s.dn.length ≤ 1000) : b_drawn_6_f_2_w_3 a ⟨[some pd, some (.d (arD ars)), some (.d (.bl gr)), some rowsd, some (.cel 0), some (.cel 1), some (.cel 2), some (.d (spD sp)), some (.d (resD r)), some (.d (.int r.1.2)), s10, some (.d (.int r.1.1)), s12, s13, s14], lstD (P) :: lstD (s.rs.map resD) :: dtC (s.dn) :: G⟩ = some (.nx ⟨[some pd, some (.d (arD ars)), some (.d (.bl gr)), some rowsd, some (.cel 0), some (.cel 1), some (.cel 2), some (.d (spD sp)), some (.d (resD r)), some (.d (.int r.1.2)), s10, some (.d (.int r.1.1)), s12, s13, s14], lstD (P) :: lstD (s.rs.map resD) :: dtC (s.dn ++ [(r.1.1, r.1.2)]) :: G⟩) := by
  have e1 := dput_dt (cl := lstD (P) :: lstD (s.rs.map resD) :: dtC (s.dn) :: G) (n := 2) (dn := s.dn) (i := r.1.1) (j := r.1.2) rfl hn (by rw [sizeLine_eq]; omega)
  rw [b_drawn_6_f_2_w_3]
  generalize arD ars = AD at *
  generalize s.rs.map resD = RR' at *
  generalize dtC (s.dn ++ [(r.1.1, r.1.2)]) = DT2 at *
  generalize dtC s.dn = DT at *
  simp -implicitDefEqProofs [sPutD, tp2, e1]
theorem drawn_w4 {s : Ds} {r : Rs} {P : List D} {dn : List (Nat × Nat)} (hl : s.rs.length ≤ 1000) : b_drawn_6_f_2_w_4 a ⟨[some pd, some (.d (arD ars)), some (.d (.bl gr)), some rowsd, some (.cel 0), some (.cel 1), some (.cel 2), some (.d (spD sp)), some (.d (resD r)), some (.d (.int r.1.2)), s10, some (.d (.int r.1.1)), s12, s13, s14], lstD (P) :: lstD (s.rs.map resD) :: dtC (dn) :: G⟩ = some (.nx ⟨[some pd, some (.d (arD ars)), some (.d (.bl gr)), some rowsd, some (.cel 0), some (.cel 1), some (.cel 2), some (.d (spD sp)), some (.d (resD r)), some (.d (.int r.1.2)), s10, some (.d (.int r.1.1)), s12, s13, s14], lstD (P) :: lstD (s.rs.map resD ++ [resD r]) :: dtC (dn) :: G⟩) := by
  have e1 := app_c (cl := lstD (P) :: lstD (s.rs.map resD) :: dtC (dn) :: G) (n := 1) (P := s.rs.map resD) (x := resD r) rfl (by rw [List.length_map]; omega)
  have e2 : isLst (lstD (P) :: lstD (s.rs.map resD) :: dtC (dn) :: G) (.cel 1) = true := isLst_c rfl
  rw [b_drawn_6_f_2_w_4]
  generalize arD ars = AD at *
  generalize s.rs.map resD = RR' at *
  generalize dtC dn = DT at *
  simp -implicitDefEqProofs [e1, e2]
theorem drawn_w5 {s : Ds} {r : W} (ok : ∀ p ∈ s.ps, p.Ok) (hl : s.ps.length ≤ 1000) (oa : ArsOk ars) (hv : ∀ q ∈ sp, (pcAt ars q).isSome = true) : b_drawn_6_f_2_w_5 a ⟨[some pd, some (.d (arD ars)), some (.d (.bl gr)), some rowsd, some (.cel 0), some (.cel 1), some (.cel 2), some (.d (spD sp)), some r, s9, s10, s11, s12, s13, s14], lstD (s.ps.map Pc.d) :: lstD (s.rs.map resD) :: dtC (s.dn) :: G⟩ = some (.nx ⟨[some pd, some (.d (arD ars)), some (.d (.bl gr)), some rowsd, some (.cel 0), some (.cel 1), some (.cel 2), some (.d (spD sp)), some (.d (optD (nxt1 ars (opens s.ps) s.dn sp))), s9, s10, s11, s12, s13, s14], lstD (s.ps.map Pc.d) :: lstD (s.rs.map resD) :: dtC (s.dn) :: G⟩) := by
  have e1 := reason_call (a := a) (B := lstD (s.rs.map resD)) (G := G) ok hl oa hv
  rw [b_drawn_6_f_2_w_5]
  generalize arD ars = AD at *
  generalize spD sp = SP at *
  generalize optD _ = OD at *
  generalize s.rs.map resD = RR' at *
  generalize s.ps.map Pc.d = P at *
  generalize dtC s.dn = DT at *
  simp -implicitDefEqProofs [e1]
theorem drawn_w0 {s : Ds} {o : Option W} (ok : ∀ p ∈ s.ps, p.Ok) (hl : s.ps.length ≤ 1000) (oa : ArsOk ars) (hv : ∀ q ∈ sp, (pcAt ars q).isSome = true) : b_drawn_6_f_1 a ⟨[some pd, some (.d (arD ars)), some (.d (.bl gr)), some rowsd, some (.cel 0), some (.cel 1), some (.cel 2), some (.d (spD sp)), o, s9, s10, s11, s12, s13, s14], lstD (s.ps.map Pc.d) :: lstD (s.rs.map resD) :: dtC (s.dn) :: G⟩ = some (.nx ⟨[some pd, some (.d (arD ars)), some (.d (.bl gr)), some rowsd, some (.cel 0), some (.cel 1), some (.cel 2), some (.d (spD sp)), some (.d (optD (nxt1 ars (opens s.ps) s.dn sp))), s9, s10, s11, s12, s13, s14], lstD (s.ps.map Pc.d) :: lstD (s.rs.map resD) :: dtC (s.dn) :: G⟩) := by
  have e1 := reason_call (a := a) (B := lstD (s.rs.map resD)) (G := G) ok hl oa hv
  rw [b_drawn_6_f_1]
  generalize arD ars = AD at *
  generalize spD sp = SP at *
  generalize optD _ = OD at *
  generalize s.rs.map resD = RR' at *
  generalize s.ps.map Pc.d = P at *
  generalize dtC s.dn = DT at *
  simp -implicitDefEqProofs [e1]
end
theorem next_maps {s : Ds} {r : Rs} {p : Pc} (hp : pcAt ars r.1 = some p) : (s.next ars r).ps.map Pc.d = s.ps.map Pc.d ++ [p.d] ∧ (s.next ars r).rs.map resD = s.rs.map resD ++ [resD r] ∧ (s.next ars r).dn = s.dn ++ [(r.1.1, r.1.2)] := by
  refine ⟨?_, ?_, rfl⟩
  · show (s.ps ++ (pcAt ars r.1).toList).map Pc.d = _
    rw [hp]
    simp
  · show (s.rs ++ [r]).map resD = _
    simp
/-- one more is drawn -/
theorem drawn_body {pool : List Str} {k : Nat} {s : Ds} {r : Rs} (ha : ArsIn pool ars) (h : Dk pool ars (k + 1) s) (hr : nxt1 ars (opens s.ps) s.dn sp = some r) (hv : ∀ q ∈ sp, (pcAt ars q).isSome = true) {pd rowsd : W} {gr : Bool} {s9 s10 s11 s12 s13 s14 : Option W} {G : List Cell} :
    sSeq (b_drawn_6_f_2_w_1 a) (sSeq (b_drawn_6_f_2_w_2 a) (sSeq (b_drawn_6_f_2_w_3 a) (sSeq (b_drawn_6_f_2_w_4 a) (b_drawn_6_f_2_w_5 a)))) ⟨[some pd, some (.d (arD ars)), some (.d (.bl gr)), some rowsd, some (.cel 0), some (.cel 1), some (.cel 2), some (.d (spD sp)), some (.d (resD r)), s9, s10, s11, s12, s13, s14], lstD (s.ps.map Pc.d) :: lstD (s.rs.map resD) :: dtC (s.dn) :: G⟩ =
    some (.nx ⟨[some pd, some (.d (arD ars)), some (.d (.bl gr)), some rowsd, some (.cel 0), some (.cel 1), some (.cel 2), some (.d (spD sp)), some (.d (optD (nxt1 ars (opens (s.next ars r).ps) (s.next ars r).dn sp))), some (.d (.int r.1.2)), s10, some (.d (.int r.1.1)), s12, s13, some (.cel (G.length + 3))], lstD ((s.next ars r).ps.map Pc.d) :: lstD ((s.next ars r).rs.map resD) :: dtC ((s.next ars r).dn) :: (G ++ [lstD [.str r.2.1, r.2.2]])⟩) := by
  obtain ⟨m1, m2, m3⟩ := nxt1_mem hr
  obtain ⟨p, hp⟩ := Option.isSome_iff_exists.mp m3
  obtain ⟨n1, n2, n3⟩ := next_maps (s := s) hp
  have h2 := h.next ha m3
  have l1 := h.le
  have l2 := h.le2
  have l3 := h.le3
  have l4 := h2.le
  rw [ev_sSeq, drawn_w1]
  simp only [Option.bind_some, nxt_nx]
  have e2 := drawn_w2 (a := a) (sp := sp) (pd := pd) (rowsd := rowsd) (gr := gr) (s10 := s10) (s12 := s12) (s13 := s13) (s14 := some (.cel (G.length + 3))) (G := (G ++ [lstD [.str r.2.1, r.2.2]])) (s := s) hp (by omega)
  have e3 := drawn_w3 (a := a) (ars := ars) (sp := sp) (pd := pd) (rowsd := rowsd) (gr := gr) (s10 := s10) (s12 := s12) (s13 := s13) (s14 := some (.cel (G.length + 3))) (G := (G ++ [lstD [.str r.2.1, r.2.2]])) (s := s) (P := s.ps.map Pc.d ++ [p.d]) m2 (by omega)
  have e4 := drawn_w4 (a := a) (ars := ars) (sp := sp) (pd := pd) (rowsd := rowsd) (gr := gr) (s10 := s10) (s12 := s12) (s13 := s13) (s14 := some (.cel (G.length + 3))) (G := (G ++ [lstD [.str r.2.1, r.2.2]])) (s := s) (r := r) (P := s.ps.map Pc.d ++ [p.d]) (dn := s.dn ++ [(r.1.1, r.1.2)]) (by omega)
  have e5 := drawn_w5 (a := a) (sp := sp) (pd := pd) (rowsd := rowsd) (gr := gr) (s9 := some (.d (.int r.1.2))) (s10 := s10) (s11 := some (.d (.int r.1.1))) (s12 := s12) (s13 := s13) (s14 := some (.cel (G.length + 3))) (G := (G ++ [lstD [.str r.2.1, r.2.2]])) (s := s.next ars r) (r := .d (resD r)) h2.ok (by omega) ha.ok hv
  rw [n1, n2, n3] at e5 ⊢
  rw [ev_sSeq, e2]
  simp only [Option.bind_some, nxt_nx]
  rw [ev_sSeq, e3]
  simp only [Option.bind_some, nxt_nx]
  rw [ev_sSeq, e4]
  simp only [Option.bind_some, nxt_nx]
  exact e5
/-- the loop of a row -/
theorem drawn_row {pool : List Str} (ha : ArsIn pool ars) (hv : ∀ q ∈ sp, (pcAt ars q).isSome = true) {t : Ds} {K n : Nat} {s : Ds} (hs : Rn ars sp n s t) (hd : Dk pool ars (n + K) s) {pd rowsd : W} {gr : Bool} {s9 s10 s11 s12 s13 s14 : Option W} {G : List Cell} {o : Option W} :
    ∃ s8' s9' s11' s14' G', b_drawn_6_f a ⟨[some pd, some (.d (arD ars)), some (.d (.bl gr)), some rowsd, some (.cel 0), some (.cel 1), some (.cel 2), some (.d (spD sp)), o, s9, s10, s11, s12, s13, s14], lstD (s.ps.map Pc.d) :: lstD (s.rs.map resD) :: dtC (s.dn) :: G⟩ = some (.nx ⟨[some pd, some (.d (arD ars)), some (.d (.bl gr)), some rowsd, some (.cel 0), some (.cel 1), some (.cel 2), some (.d (spD sp)), s8', s9', s10, s11', s12, s13, s14'], lstD (t.ps.map Pc.d) :: lstD (t.rs.map resD) :: dtC (t.dn) :: G'⟩) ∧ Dk pool ars K t := by
  have e0 := drawn_w0 (a := a) (ars := ars) (sp := sp) (pd := pd) (rowsd := rowsd) (gr := gr) (s9 := s9) (s10 := s10) (s11 := s11) (s12 := s12) (s13 := s13) (s14 := s14) (G := G) (s := s) (o := o) hd.ok (by have := hd.le; omega) ha.ok hv
  rw [b_drawn_6_f, ev_sSeq, e0]
  simp only [Option.bind_some, nxt_nx]
  rw [b_drawn_6_f_2]
  obtain ⟨r', e, u, s9', s11', s14', G', er, hu, hk⟩ := sWhile_run (c := bVal (eBin (isN true) (eVar 8) (eC (.d .non)))) (b := sSeq (b_drawn_6_f_2_w_1 a) (sSeq (b_drawn_6_f_2_w_2 a) (sSeq (b_drawn_6_f_2_w_3 a) (sSeq (b_drawn_6_f_2_w_4 a) (b_drawn_6_f_2_w_5 a)))))
    (I := fun n r => ∃ (u : Ds) (s9 s11 s14 : Option W) (G : List Cell), r = ⟨[some pd, some (.d (arD ars)), some (.d (.bl gr)), some rowsd, some (.cel 0), some (.cel 1), some (.cel 2), some (.d (spD sp)), some (.d (optD (nxt1 ars (opens u.ps) u.dn sp))), s9, s10, s11, s12, s13, s14], lstD (u.ps.map Pc.d) :: lstD (u.rs.map resD) :: dtC (u.dn) :: G⟩ ∧ Rn ars sp n u t ∧ Dk pool ars (n + K) u)
    n _ ⟨s, s9, s11, s14, G, rfl, hs, hd⟩ (fun m r ⟨u, s9, s11, s14, G, er, hu, hk⟩ => by
      subst er
      cases hu with
      | go h1 h2 =>
        rename_i r
        have hk' : Dk pool ars (m + K + 1) u := by rw [show m + K + 1 = m + 1 + K by omega]; exact hk
        have eb := drawn_body (a := a) (sp := sp) ha hk' h1 hv (pd := pd) (rowsd := rowsd) (gr := gr) (s9 := s9) (s10 := s10) (s11 := s11) (s12 := s12) (s13 := s13) (s14 := s14) (G := G)
        rw [h1]
        exact ⟨_, _, rfl, eb, u.next ars r, _, _, _, _, rfl, h2, hk'.next ha (nxt1_mem h1).2.2⟩) (fun r ⟨u, s9, s11, s14, G, er, hu, hk⟩ => by
      subst er
      cases hu with
      | stop h1 =>
        rw [h1]
        refine ⟨_, rfl, _, s9, s11, s14, G, ?_, .stop h1, hk⟩
        rw [h1])
  cases hu with
  | stop h1 =>
    exact ⟨some (.d (optD (nxt1 ars (opens t.ps) t.dn sp))), s9', s11', s14', G', by rw [e, er], by rw [Nat.zero_add] at hk; exact hk⟩
end Lw
/-! drawn, whole -/
namespace FL
open PySem PySem.Spec L2
theorem fin_pair {c0 c1 : Cell} {G : List Cell} (h0 : c0.refs = []) (h1 : c1.refs = []) (m0 : ∀ f, c0.mapc f = c0) (m1 : ∀ f, c1.mapc f = c1) : fin 0 (.tup [.cel 0, .cel 1]) (c0 :: c1 :: G) = some (.tup [.cel 0, .cel 1], [c0, c1]) := by
  have e : clos (c0 :: c1 :: G) ((c0 :: c1 :: G).length + 1) [0, 1] = [0, 1] := by simp -implicitDefEqProofs [clos, cellAt, h0, h1]
  have e2 : isPart (c0 :: c1 :: G) [0, 1] = true := by simp -implicitDefEqProofs [isPart, cellAt, h0, h1]
  have e4 : FL.part (c0 :: c1 :: G) [0, 1] = [c0, c1] := by simp -implicitDefEqProofs [FL.part, cellAt, m0, m1]
  have e5 : ((W.tup [.cel 0, .cel 1]).refs.filter fun n => decide (0 ≤ n)) = [0, 1] := rfl
  have e6 : List.range 0 ++ [0, 1].eraseDups = [0, 1] := rfl
  unfold fin
  simp only [e5, e6, e, e2, e4]
  rfl
end FL
namespace Lw
open PySem PySem.Spec L2 FL
variable {a : Ad} {ars : Ars}
theorem Dk.weak {pool : List Str} {k j : Nat} {s : Ds} (h : Dk pool ars k s) (hj : j ≤ k) : Dk pool ars j s := ⟨h.ok, h.po, by have := h.le; omega, by have := h.le2; omega, by have := h.le3; omega⟩
def total (rows : List (List (Nat × Nat))) : Nat := (rows.map List.length).sum
theorem drawn_rows {pool : List Str} (ha : ArsIn pool ars) {pd rowsd : W} {gr : Bool} {s10 s12 s13 : Option W} : ∀ (rows : List (List (Nat × Nat))) (s t : Ds) (s7 s8 s9 s11 s14 : Option W) (G : List Cell), (∀ sp ∈ rows, ∀ q ∈ sp, (pcAt ars q).isSome = true) → RR ars rows s t → Dk pool ars (total rows) s →
    ∃ s7' s8' s9' s11' s14' G', forL (tName 7) (b_drawn_6_f a) none ((rows.map spD).map W.d) ⟨[some pd, some (.d (arD ars)), some (.d (.bl gr)), some rowsd, some (.cel 0), some (.cel 1), some (.cel 2), s7, s8, s9, s10, s11, s12, s13, s14], lstD (s.ps.map Pc.d) :: lstD (s.rs.map resD) :: dtC (s.dn) :: G⟩ = some (.nx ⟨[some pd, some (.d (arD ars)), some (.d (.bl gr)), some rowsd, some (.cel 0), some (.cel 1), some (.cel 2), s7', s8', s9', s10, s11', s12, s13, s14'], lstD (t.ps.map Pc.d) :: lstD (t.rs.map resD) :: dtC (t.dn) :: G'⟩)
  | [], s, t, s7, s8, s9, s11, s14, G, _, h, _ => by
    cases h
    refine ⟨s7, s8, s9, s11, s14, G, ?_⟩
    simp only [List.map_nil, forL]
    rw [if_pos (show ckC none _ from trivial)]
  | sp :: rows, s, t, s7, s8, s9, s11, s14, G, hv, h, hd => by
    cases h with
    | cons hn h1 h2 =>
      rename_i m n
      have ht : total (sp :: rows) = sp.length + total rows := by simp [total]
      rw [ht] at hd
      obtain ⟨t8, t9, t11, t14, G1, e, hk⟩ := drawn_row (a := a) ha (hv sp List.mem_cons_self) h1 (K := total rows) (hd.weak (by omega)) (pd := pd) (rowsd := rowsd) (gr := gr) (s9 := s9) (s10 := s10) (s11 := s11) (s12 := s12) (s13 := s13) (s14 := s14) (G := G) (o := s8)
      obtain ⟨u7, u8, u9, u11, u14, G2, ih⟩ := drawn_rows ha (pd := pd) (rowsd := rowsd) (gr := gr) (s10 := s10) (s12 := s12) (s13 := s13) rows m t (some (.d (spD sp))) t8 t9 t11 t14 G1 (fun q hq => hv q (List.mem_cons_of_mem _ hq)) h2 hk
      refine ⟨u7, u8, u9, u11, u14, G2, ?_⟩
      simp only [List.map_cons, forL]
      rw [if_pos (show ckC none _ from trivial)]
      simp only [ev_tName, List.set_cons_succ, List.set_cons_zero, e]
      exact ih
/-- the seats of the archives -/
def rowsL : List (List Pc) → Nat → List (List (Nat × Nat))
  | [], _ => []
  | l :: r, i => ((List.range l.length).map fun m => (i, m)) :: rowsL r (i + 1)
def rowsD (ars : Ars) : D := .lst ((rowsL ars 0).map spD)
theorem rows_ok : ∀ (l : List (List Pc)) (i : Nat) (sp : List (Nat × Nat)), sp ∈ rowsL l i → ∀ q ∈ sp, i ≤ q.1 ∧ ((l[q.1 - i]?).bind fun r => r[q.2]?).isSome = true
  | r :: l, i, sp, h, q, hq => by
    rcases List.mem_cons.mp (show sp ∈ ((List.range r.length).map fun m => (i, m)) :: rowsL l (i + 1) from h) with rfl | h
    · obtain ⟨m, hm, rfl⟩ := List.mem_map.mp hq
      have hm : m < r.length := List.mem_range.mp hm
      exact ⟨Nat.le_refl _, by simp [hm]⟩
    · obtain ⟨h1, h2⟩ := rows_ok l (i + 1) sp h q hq
      refine ⟨by omega, ?_⟩
      rw [show q.1 - i = (q.1 - (i + 1)) + 1 by omega]
      exact h2
theorem seats_ok (ars : Ars) : ∀ sp ∈ rowsL ars 0, ∀ q ∈ sp, (pcAt ars q).isSome = true := fun sp h q hq => (rows_ok ars 0 sp h q hq).2
/-- the rows, as drawn makes them -/
def rowV : W → D
  | .d (.tup [.int i, .tup l]) => .lst ((List.range l.length).map fun m => .tup [.int i, .int (m : Nat)])
  | _ => .non
theorem num_rows : ∀ (l : List (List Pc)) (i : Nat), (numW i ((l.map fun r => D.tup (r.map Pc.d)).map W.d)).map rowV = (rowsL l i).map spD
  | [], i => rfl
  | r :: l, i => by
    have ih := num_rows l (i + 1)
    have e : numW i (((r :: l).map fun r => D.tup (r.map Pc.d)).map W.d) = W.d (.tup [.int i, .tup (r.map Pc.d)]) :: numW (i + 1) ((l.map fun r => D.tup (r.map Pc.d)).map W.d) := rfl
    rw [e, List.map_cons, ih]
    have e2 : rowV (W.d (.tup [.int i, .tup (r.map Pc.d)])) = spD ((List.range r.length).map fun m => (i, m)) := by
      show D.lst ((List.range (r.map Pc.d).length).map fun m => .tup [.int i, .int (m : Nat)]) = D.lst (((List.range r.length).map fun m => (i, m)).map pD)
      rw [List.length_map, List.map_map]
      rfl
    rw [e2]
    rfl
theorem num_mem : ∀ (l : List (List Pc)) (i : Nat) (d : W), d ∈ numW i ((l.map fun r => D.tup (r.map Pc.d)).map W.d) → ∃ (j : Nat) (r : List Pc), r ∈ l ∧ d = .d (.tup [.int j, .tup (r.map Pc.d)])
  | r :: l, i, d, h => by
    have e : numW i (((r :: l).map fun r => D.tup (r.map Pc.d)).map W.d) = W.d (.tup [.int i, .tup (r.map Pc.d)]) :: numW (i + 1) ((l.map fun r => D.tup (r.map Pc.d)).map W.d) := rfl
    rw [e] at h
    rcases List.mem_cons.mp h with rfl | h
    · exact ⟨i, r, List.mem_cons_self, rfl⟩
    · obtain ⟨j, r', h1, h2⟩ := num_mem l (i + 1) d h
      exact ⟨j, r', List.mem_cons_of_mem _ h1, h2⟩
end Lw
/-! lc_pure, what is made so far being data -/
namespace FL
open PySem PySem.Spec L2 PySem.PyData
theorem lcL_pureD {ck : Ck} {g : MG} {tt : MB} {te : M} {vs : List Nat} {cl : List Cell} {sl : List (Option W)} {keep : W → Bool} {val : W → D} (hck : ∀ c : Cell, ckC ck (cl ++ [c])) : ∀ (ds : List W) (acc : List D), acc.length + ds.length ≤ sizeLine →
    (∀ d ∈ ds, ∀ acc : List D, ∃ r1, g d ⟨wipeW sl vs, cl ++ [.lst (acc.map W.d)]⟩ = some r1 ∧ ∃ r2, tt r1 = some (keep d, r2) ∧ r2.cl = cl ++ [.lst (acc.map W.d)] ∧ (keep d = true → ∃ r3, te r2 = some (.d (val d), r3) ∧ r3.cl = cl ++ [.lst (acc.map W.d)])) →
    lcL ck g tt te vs cl.length ds ⟨sl, cl ++ [.lst (acc.map W.d)]⟩ = some ⟨sl, cl ++ [.lst ((acc ++ (ds.filter keep).map val).map W.d)]⟩
  | [], acc, _, _ => by
    simp only [lcL]
    rw [if_pos (hck _)]
    simp
  | d :: ds, acc, hl, h => by
    obtain ⟨r1, e1, r2, e2, e3, h3⟩ := h d (List.mem_cons_self) acc
    simp only [lcL]
    rw [if_pos (hck _), e1]
    simp only [e2]
    have h' := fun d' (hd : d' ∈ ds) => h d' (List.mem_cons_of_mem _ hd)
    rw [List.length_cons] at hl
    cases hk : keep d with
    | false =>
      simp only [e3]
      rw [lcL_pureD hck ds acc (by omega) h', List.filter_cons, hk]
      rfl
    | true =>
      obtain ⟨r3, e4, e5⟩ := h3 hk
      simp only [e4, e5]
      have e6 : (cl ++ [Cell.lst (acc.map W.d)])[cl.length]? = some (.lst (acc.map W.d)) := by simp
      rw [e6]
      simp only
      rw [if_pos (by rw [List.length_map]; omega)]
      have e7 : (cl ++ [Cell.lst (acc.map W.d)]).set cl.length (.lst (acc.map W.d ++ [.d (val d)])) = cl ++ [.lst ((acc ++ [val d]).map W.d)] := by simp
      rw [e7, lcL_pureD hck ds (acc ++ [val d]) (by rw [List.length_append, List.length_singleton]; omega) h', List.filter_cons, hk]
      simp
theorem lc_pureD {c : Bool} {mi : MI} {g : MG} {tt : MB} {te : M} {vs : List Nat} {r : Rho} {ds : List W} {ck : Ck} {cl : List Cell} {sl : List (Option W)} (hi : mi r = some ((ds, ck), ⟨sl, cl⟩)) (keep : W → Bool) (val : W → D) (hck : ∀ c : Cell, ckC ck (cl ++ [c])) (hl : ds.length ≤ sizeLine) (hcl : (cl.all fun k => k.refs.all fun j => decide (j < cl.length)) = true)
    (h : ∀ d ∈ ds, ∀ acc : List D, ∃ r1, g d ⟨wipeW sl vs, cl ++ [.lst (acc.map W.d)]⟩ = some r1 ∧ ∃ r2, tt r1 = some (keep d, r2) ∧ r2.cl = cl ++ [.lst (acc.map W.d)] ∧ (keep d = true → ∃ r3, te r2 = some (.d (val d), r3) ∧ r3.cl = cl ++ [.lst (acc.map W.d)])) :
    eLc c mi g tt te vs r = some (if c then (.cel cl.length, ⟨sl, cl ++ [.lst (((ds.filter keep).map val).map W.d)]⟩) else (.d (.lst ((ds.filter keep).map val)), ⟨sl, cl⟩)) := by
  unfold eLc
  rw [hi]
  simp only
  have e := lcL_pureD (ck := ck) (g := g) (tt := tt) (te := te) (vs := vs) (sl := sl) (keep := keep) (val := val) hck ds [] (by simpa using hl) h
  simp only [List.map_nil] at e
  rw [e]
  simp only [List.nil_append, unCell]
  cases c with
  | true => rfl
  | false =>
    have e2 : ∀ c : Cell, (cl ++ [c])[cl.length]? = some c := by simp
    have e3 : ∀ c : Cell, (cl ++ [c]).take cl.length = cl := by simp
    simp only [e2, e3, datas_m]
    rw [if_neg (by decide), if_pos ⟨by simp, hcl⟩]
    rfl
end FL
/-! drawn, whole -/
namespace Lw
open PySem PySem.Spec L2 FL
variable {a : Ad} {ars : Ars}
theorem len_t {cl : List Cell} {P : List D} : oLen cl [.d (.tup P)] = some (.d (.int P.length), cl) := by simp [oLen, lenW, asTup]
theorem seats_val (j n : Nat) : ((intsW 0 n).filter fun _ => true).map (fun w => match w with | .d (.int m) => D.tup [.int j, .int m] | _ => .non) = (List.range n).map fun m => D.tup [.int j, .int (m : Nat)] := by
  rw [List.filter_eq_self.mpr (fun _ _ => rfl), intsW_map, List.map_map]
  refine List.map_congr_left fun m _ => ?_
  show D.tup [.int j, .int (0 + (m : Int))] = _
  rw [Int.zero_add]
theorem drawn_1 (ps : List Pc) (hl : ars.length ≤ 1000) (hr : ∀ l ∈ ars, l.length ≤ 1000) : b_drawn_1 a ⟨[some (.d (.lst (ps.map Pc.d))), some (.d (arD ars)), some (.d (.bl false)), none, none, none, none, none, none, none, none, none, none, none, none], []⟩ = some (.nx ⟨[some (.d (.lst (ps.map Pc.d))), some (.d (arD ars)), some (.d (.bl false)), some (.d (rowsD ars)), none, none, none, none, none, none, none, none, none, none, none], []⟩) := by
  have ei : iEnumF (eVar 1) ⟨[some (.d (.lst (ps.map Pc.d))), some (.d (arD ars)), some (.d (.bl false)), none, none, none, none, none, none, none, none, none, none, none, none], []⟩ = some ((numW 0 ((ars.map fun r => D.tup (r.map Pc.d)).map W.d), none), ⟨[some (.d (.lst (ps.map Pc.d))), some (.d (arD ars)), some (.d (.bl false)), none, none, none, none, none, none, none, none, none, none, none, none], []⟩) := rfl
  have e1 := lc_pureD (c := false) (g := tTupG 2 (tsCons (tName 10) (tsCons (tName 11) tsNil))) (tt := bYes) (te := eLc false (iRng (aCons (eCall oLen (aCons (eVar 11) aNil)) aNil)) (tName 9) bYes (eCall oTup (aCons (eVar 10) (aCons (eVar 9) aNil))) [9]) (vs := [10, 11]) ei (fun _ => true) rowV (fun _ => trivial) (by
      have : ∀ (l : List W) (i : Nat), (numW i l).length = l.length := fun l => by
        induction l with
        | nil => intro i; rfl
        | cons x l ih => intro i; show (numW (i + 1) l).length + 1 = _; rw [ih]; rfl
      rw [this, List.length_map, List.length_map, sizeLine_eq]
      omega) rfl (fun d hd acc => by
      obtain ⟨j, r, hm, rfl⟩ := num_mem ars 0 d hd
      refine ⟨⟨[some (.d (.lst (ps.map Pc.d))), some (.d (arD ars)), some (.d (.bl false)), none, none, none, none, none, none, none, some (.d (.int j)), some (.d (.tup (r.map Pc.d))), none, none, none], [] ++ [.lst (acc.map W.d)]⟩, rfl, ⟨[some (.d (.lst (ps.map Pc.d))), some (.d (arD ars)), some (.d (.bl false)), none, none, none, none, none, none, none, some (.d (.int j)), some (.d (.tup (r.map Pc.d))), none, none, none], [] ++ [.lst (acc.map W.d)]⟩, rfl, rfl, fun _ => ?_⟩
      have er : iRng (aCons (eCall oLen (aCons (eVar 11) aNil)) aNil) ⟨[some (.d (.lst (ps.map Pc.d))), some (.d (arD ars)), some (.d (.bl false)), none, none, none, none, none, none, none, some (.d (.int j)), some (.d (.tup (r.map Pc.d))), none, none, none], [] ++ [.lst (acc.map W.d)]⟩ = some ((intsW 0 (r.map Pc.d).length, none), ⟨[some (.d (.lst (ps.map Pc.d))), some (.d (arD ars)), some (.d (.bl false)), none, none, none, none, none, none, none, some (.d (.int j)), some (.d (.tup (r.map Pc.d))), none, none, none], [] ++ [.lst (acc.map W.d)]⟩) := by
        simp only [iRng, ev_call, ev_cons, ev_nil, ev_var, List.getElem?_cons_zero, List.getElem?_cons_succ, Option.bind_some, Option.map_some, len_t]
        rw [if_pos (by have := hr r hm; rw [List.length_map]; omega)]
        rfl
      have ex := lc_pure (c := false) (g := tName 9) (tt := bYes) (te := eCall oTup (aCons (eVar 10) (aCons (eVar 9) aNil))) (vs := [9]) er (fun _ => true) (fun w => match w with | .d (.int m) => D.tup [.int j, .int m] | _ => .non) (fun _ => trivial) (by
        have := hr r hm
        rw [intsW_len, List.length_map, sizeLine_eq]
        omega) (by simp) (fun d hd acc2 => by
        rw [intsW_map] at hd
        obtain ⟨m, _, rfl⟩ := List.mem_map.mp hd
        refine ⟨⟨[some (.d (.lst (ps.map Pc.d))), some (.d (arD ars)), some (.d (.bl false)), none, none, none, none, none, none, some (.d (.int (0 + (m : Int)))), some (.d (.int j)), some (.d (.tup (r.map Pc.d))), none, none, none], ([] ++ [.lst (acc.map W.d)]) ++ [.lst acc2]⟩, rfl, ⟨[some (.d (.lst (ps.map Pc.d))), some (.d (arD ars)), some (.d (.bl false)), none, none, none, none, none, none, some (.d (.int (0 + (m : Int)))), some (.d (.int j)), some (.d (.tup (r.map Pc.d))), none, none, none], ([] ++ [.lst (acc.map W.d)]) ++ [.lst acc2]⟩, rfl, rfl, fun _ => ⟨⟨[some (.d (.lst (ps.map Pc.d))), some (.d (arD ars)), some (.d (.bl false)), none, none, none, none, none, none, some (.d (.int (0 + (m : Int)))), some (.d (.int j)), some (.d (.tup (r.map Pc.d))), none, none, none], ([] ++ [.lst (acc.map W.d)]) ++ [.lst acc2]⟩, ?_, rfl⟩⟩
        simp only [ev_call, ev_cons, ev_nil, ev_var, List.getElem?_cons_zero, List.getElem?_cons_succ, Option.bind_some, Option.map_some, tp2])
      rw [seats_val] at ex
      simp only [Bool.false_eq_true, if_false] at ex
      exact ⟨_, ex, rfl⟩)
  rw [List.filter_eq_self.mpr (fun _ _ => rfl), num_rows] at e1
  simp only [Bool.false_eq_true, if_false] at e1
  rw [b_drawn_1, ev_sAsg, e1]
  rfl
end Lw
/-! drawn, whole -/
namespace FL
open PySem PySem.Spec L2
/-- a call that tells a pair of new lists, as cells -/
theorem call_pairT {f : OpN} {cl : List Cell} {ws : List W} {P R : List D} (h1 : refsA ws = []) (h2 : ∀ g, mapcA g ws = ws) (h : f [] ws = some (.tup [.cel 0, .cel 1], [lstD P, lstD R])) : callC true f cl ws = some (.tup [.cel cl.length, .cel (cl.length + 1)], cl ++ [lstD P, lstD R]) := by
  have e : idsOf cl ws = [] := by
    unfold idsOf
    rw [h1]
    simp [clos]
  refine callT_of (st := [lstD P, lstD R]) (st0 := []) (ws0 := ws) e rfl (by rw [h1]; rfl) rfl (h2 _) h ?_ ?_
  · show W.tup [.cel (back cl.length [] 0), .cel (back cl.length [] 1)] = _
    simp [back]
  · simp [merge, setAll]
/-- .. as data -/
theorem call_pairF {f : OpN} {cl : List Cell} {ws : List W} {P R : List D} (h1 : refsA ws = []) (h2 : ∀ g, mapcA g ws = ws) (h : f [] ws = some (.tup [.cel 0, .cel 1], [lstD P, lstD R])) : callC false f cl ws = some (.d (.tup [.lst P, .lst R]), cl) := by
  have e : idsOf cl ws = [] := by
    unfold idsOf
    rw [h1]
    simp [clos]
  have ep : purW [lstD P, lstD R] 0 8 (.tup [.cel 0, .cel 1]) = some (.tup [.lst P, .lst R]) := by
    have a0 : purW [lstD P, lstD R] 0 7 (.cel 0) = some (.lst P) := by
      have e : purW [lstD P, lstD R] 0 7 (.cel 0) = ((P.map W.d).mapM (purW [lstD P, lstD R] 0 6)).map D.lst := rfl
      rw [e, pur_ds]
      rfl
    have a1 : purW [lstD P, lstD R] 0 7 (.cel 1) = some (.lst R) := by
      have e : purW [lstD P, lstD R] 0 7 (.cel 1) = ((R.map W.d).mapM (purW [lstD P, lstD R] 0 6)).map D.lst := rfl
      rw [e, pur_ds]
      rfl
    have e : purW [lstD P, lstD R] 0 8 (.tup [.cel 0, .cel 1]) = (([W.cel 0, W.cel 1] : List W).mapM (purW [lstD P, lstD R] 0 7)).map D.tup := rfl
    rw [e]
    simp only [List.mapM_cons, List.mapM_nil, a0, a1]
    rfl
  show oCallP f cl ws = _
  simp only [oCallP, e]
  rw [if_pos (by rw [h1]; rfl), h2, show part cl [] = [] from rfl, h]
  simp only [List.length_nil, ep]
  rw [if_pos (by rfl)]
  simp [merge, setAll]
end FL
namespace Lw
open PySem PySem.Spec L2 FL
variable {a : Ad} {ars : Ars}
theorem drawn_ok {pool : List Str} (ha : ArsIn pool ars) (hl : ars.length ≤ 1000) (hr : ∀ l ∈ ars, l.length ≤ 1000) (ps : List Pc) (hd : Dk pool ars (total (rowsL ars 0)) ⟨ps, [], []⟩) {t : Ds} (h : RR ars (rowsL ars 0) ⟨ps, [], []⟩ t) :
    f_drawn a [] [.d (.lst (ps.map Pc.d)), .d (arD ars), .d (.bl false)] = some (.tup [.cel 0, .cel 1], [lstD (t.ps.map Pc.d), lstD (t.rs.map resD)]) := by
  have e5 : (⟨[W.d (.lst (ps.map Pc.d)), .d (arD ars), .d (.bl false)].map some ++ List.replicate (15 - [W.d (.lst (ps.map Pc.d)), .d (arD ars), .d (.bl false)].length) none, []⟩ : Rho) = ⟨[some (.d (.lst (ps.map Pc.d))), some (.d (arD ars)), some (.d (.bl false)), none, none, none, none, none, none, none, none, none, none, none, none], []⟩ := rfl
  have e1 := drawn_1 (a := a) (ars := ars) ps hl hr
  have e2 : b_drawn_2 a ⟨[some (.d (.lst (ps.map Pc.d))), some (.d (arD ars)), some (.d (.bl false)), some (.d (rowsD ars)), none, none, none, none, none, none, none, none, none, none, none], []⟩ = some (.nx ⟨[some (.d (.lst (ps.map Pc.d))), some (.d (arD ars)), some (.d (.bl false)), some (.d (rowsD ars)), none, none, none, none, none, none, none, none, none, none, none], []⟩) := by
    rw [b_drawn_2]
    rfl
  have e3 : b_drawn_3 a ⟨[some (.d (.lst (ps.map Pc.d))), some (.d (arD ars)), some (.d (.bl false)), some (.d (rowsD ars)), none, none, none, none, none, none, none, none, none, none, none], []⟩ = some (.nx ⟨[some (.d (.lst (ps.map Pc.d))), some (.d (arD ars)), some (.d (.bl false)), some (.d (rowsD ars)), some (.cel 0), none, none, none, none, none, none, none, none, none, none], [lstD (ps.map Pc.d)]⟩) := by
    rw [b_drawn_3]
    rfl
  have e4 : b_drawn_4 a ⟨[some (.d (.lst (ps.map Pc.d))), some (.d (arD ars)), some (.d (.bl false)), some (.d (rowsD ars)), some (.cel 0), none, none, none, none, none, none, none, none, none, none], [lstD (ps.map Pc.d)]⟩ = some (.nx ⟨[some (.d (.lst (ps.map Pc.d))), some (.d (arD ars)), some (.d (.bl false)), some (.d (rowsD ars)), some (.cel 0), some (.cel 1), none, none, none, none, none, none, none, none, none], [lstD (ps.map Pc.d), lstD []]⟩) := by
    rw [b_drawn_4]
    have : oLst true [lstD (ps.map Pc.d)] [] = some (.cel 1, [lstD (ps.map Pc.d), lstD []]) := by
      unfold oLst
      rw [if_pos (by simp)]
      rfl
    generalize arD ars = AD at *
    generalize rowsD ars = RD at *
    simp -implicitDefEqProofs [this]
  have e6 : b_drawn_5 a ⟨[some (.d (.lst (ps.map Pc.d))), some (.d (arD ars)), some (.d (.bl false)), some (.d (rowsD ars)), some (.cel 0), some (.cel 1), none, none, none, none, none, none, none, none, none], [lstD (ps.map Pc.d), lstD []]⟩ = some (.nx ⟨[some (.d (.lst (ps.map Pc.d))), some (.d (arD ars)), some (.d (.bl false)), some (.d (rowsD ars)), some (.cel 0), some (.cel 1), some (.cel 2), none, none, none, none, none, none, none, none], [lstD (ps.map Pc.d), lstD [], dtC []]⟩) := by
    rw [b_drawn_5]
    rfl
  obtain ⟨s7, s8, s9, s11, s14, G, e7⟩ := drawn_rows (a := a) ha (pd := .d (.lst (ps.map Pc.d))) (rowsd := .d (rowsD ars)) (gr := false) (s10 := none) (s12 := none) (s13 := none) (rowsL ars 0) ⟨ps, [], []⟩ t none none none none none [] (seats_ok ars) h hd
  have e8 : b_drawn_6 a ⟨[some (.d (.lst (ps.map Pc.d))), some (.d (arD ars)), some (.d (.bl false)), some (.d (rowsD ars)), some (.cel 0), some (.cel 1), some (.cel 2), none, none, none, none, none, none, none, none], [lstD (ps.map Pc.d), lstD [], dtC []]⟩ = forL (tName 7) (b_drawn_6_f a) none (((rowsL ars 0).map spD).map W.d) ⟨[some (.d (.lst (ps.map Pc.d))), some (.d (arD ars)), some (.d (.bl false)), some (.d (rowsD ars)), some (.cel 0), some (.cel 1), some (.cel 2), none, none, none, none, none, none, none, none], [lstD (ps.map Pc.d), lstD [], dtC []]⟩ := by
    rw [b_drawn_6, ev_sFor]
    have ei : iSeq (eVar 3) ⟨[some (.d (.lst (ps.map Pc.d))), some (.d (arD ars)), some (.d (.bl false)), some (.d (rowsD ars)), some (.cel 0), some (.cel 1), some (.cel 2), none, none, none, none, none, none, none, none], [lstD (ps.map Pc.d), lstD [], dtC []]⟩ = some ((((rowsL ars 0).map spD).map W.d, none), ⟨[some (.d (.lst (ps.map Pc.d))), some (.d (arD ars)), some (.d (.bl false)), some (.d (rowsD ars)), some (.cel 0), some (.cel 1), some (.cel 2), none, none, none, none, none, none, none, none], [lstD (ps.map Pc.d), lstD [], dtC []]⟩) := rfl
    rw [ei]
    rfl
  have e7 : forL (tName 7) (b_drawn_6_f a) none (((rowsL ars 0).map spD).map W.d) ⟨[some (.d (.lst (ps.map Pc.d))), some (.d (arD ars)), some (.d (.bl false)), some (.d (rowsD ars)), some (.cel 0), some (.cel 1), some (.cel 2), none, none, none, none, none, none, none, none], [lstD (ps.map Pc.d), lstD [], dtC []]⟩ = _ := e7
  have tp : ∀ cl, oTup cl [.cel 0, .cel 1] = some (.tup [.cel 0, .cel 1], cl) := fun cl => by
    unfold oTup
    rw [if_pos (by show 2 ≤ sizeLine; rw [sizeLine_eq]; decide)]
    rfl
  rw [f_drawn, run_eq, split_drawn, e5]
  rw [ev_sSeq, e1]
  simp only [Option.bind_some, nxt_nx]
  rw [ev_sSeq, e2]
  simp only [Option.bind_some, nxt_nx]
  rw [ev_sSeq, e3]
  simp only [Option.bind_some, nxt_nx]
  rw [ev_sSeq, e4]
  simp only [Option.bind_some, nxt_nx]
  rw [ev_sSeq, e6]
  simp only [Option.bind_some, nxt_nx]
  rw [ev_sSeq, e8, e7]
  simp only [Option.bind_some, nxt_nx]
  rw [b_drawn_7]
  simp only [ev_sRet, ev_call, ev_cons, ev_nil, ev_var, List.getElem?_cons_zero, List.getElem?_cons_succ, Option.bind_some, Option.map_some, tp]
  exact fin_pair (by simp) (by simp) (fun _ => by simp) fun _ => by simp
end Lw
/-! the law's drawing -/
namespace Lw
open PySem PySem.Spec L2 FL
variable {a : Ad} {ars : Ars} {sp : List (Nat × Nat)}
theorem areason_call {s : Ds} (ok : ∀ p ∈ s.ps, p.Ok) (hl : s.ps.length ≤ 1000) (ho : (opens s.ps).length < 64) (oa : ArsOk ars) (hv : ∀ q ∈ sp, (pcAt ars q).isSome = true) {B : Cell} :
    callC false (f_law_anext a) [lstD (s.ps.map Pc.d), B, lstD (s.dn.map pD)] [.cel 0, .d (arD ars), .d (spD sp), .cel 2] = some (.d (optD (nxt1 ars (opens s.ps) s.dn sp)), [lstD (s.ps.map Pc.d), B, lstD (s.dn.map pD)]) :=
  call_leaf2 (i := 0) (j := 2) (by decide) rfl rfl (by simp) (by simp) (fun _ => by simp) (fun _ => by simp) rfl rfl rfl (anext_ok s.ps ok hl ho oa s.dn sp hv)
section
variable {pd rowsd : W} {gr : Bool} {s8 s9 s10 s11 : Option W}
theorem adraw_w1 {s : Ds} {r : Rs} {p : Pc} (hp : pcAt ars r.1 = some p) (hl : s.ps.length ≤ 1000) : b_law_adraws_6_f_2_w_1 a ⟨[some pd, some (.d (arD ars)), some (.d (.bl gr)), some rowsd, some (.cel 0), some (.cel 1), some (.cel 2), some (.d (spD sp)), s8, some (.d (resD r)), s10, s11], [lstD (s.ps.map Pc.d), lstD (s.rs.map resD), lstD (s.dn.map pD)]⟩ = some (.nx ⟨[some pd, some (.d (arD ars)), some (.d (.bl gr)), some rowsd, some (.cel 0), some (.cel 1), some (.cel 2), some (.d (spD sp)), s8, some (.d (resD r)), s10, s11], [lstD (s.ps.map Pc.d ++ [p.d]), lstD (s.rs.map resD), lstD (s.dn.map pD)]⟩) := by
  obtain ⟨l, a1, a2⟩ := ar_at hp ([lstD (s.ps.map Pc.d), lstD (s.rs.map resD), lstD (s.dn.map pD)])
  have e1 := app_c (cl := [lstD (s.ps.map Pc.d), lstD (s.rs.map resD), lstD (s.dn.map pD)]) (n := 0) (P := s.ps.map Pc.d) (x := p.d) rfl (by rw [List.length_map]; omega)
  have e2 : isLst ([lstD (s.ps.map Pc.d), lstD (s.rs.map resD), lstD (s.dn.map pD)]) (.cel 0) = true := isLst_c rfl
  have r0 : dIx ([lstD (s.ps.map Pc.d), lstD (s.rs.map resD), lstD (s.dn.map pD)]) (.d (resD r)) (.d (.int 0)) = some (.d (.int r.1.1), [lstD (s.ps.map Pc.d), lstD (s.rs.map resD), lstD (s.dn.map pD)]) := at_t0
  have r1 : dIx ([lstD (s.ps.map Pc.d), lstD (s.rs.map resD), lstD (s.dn.map pD)]) (.d (resD r)) (.d (.int 1)) = some (.d (.int r.1.2), [lstD (s.ps.map Pc.d), lstD (s.rs.map resD), lstD (s.dn.map pD)]) := at_t1
  rw [b_law_adraws_6_f_2_w_1]
  generalize arD ars = AD at *
  generalize p.d = pdd at *
  generalize resD r = RD at *
  generalize s.ps.map Pc.d = P at *
  generalize s.rs.map resD = RR' at *
  generalize s.dn.map pD = DT at *
  simp -implicitDefEqProofs [a1, a2, e1, e2, r0, r1]
theorem adraw_w2 {s : Ds} {r : Rs} {P : List D} (hl : s.dn.length ≤ 1000) : b_law_adraws_6_f_2_w_2 a ⟨[some pd, some (.d (arD ars)), some (.d (.bl gr)), some rowsd, some (.cel 0), some (.cel 1), some (.cel 2), some (.d (spD sp)), s8, some (.d (resD r)), s10, s11], [lstD (P), lstD (s.rs.map resD), lstD (s.dn.map pD)]⟩ = some (.nx ⟨[some pd, some (.d (arD ars)), some (.d (.bl gr)), some rowsd, some (.cel 0), some (.cel 1), some (.cel 2), some (.d (spD sp)), s8, some (.d (resD r)), s10, s11], [lstD (P), lstD (s.rs.map resD), lstD (s.dn.map pD ++ [pD r.1])]⟩) := by
  have e1 := app_c (cl := [lstD (P), lstD (s.rs.map resD), lstD (s.dn.map pD)]) (n := 2) (P := s.dn.map pD) (x := pD r.1) rfl (by rw [List.length_map]; omega)
  have e2 : isLst ([lstD (P), lstD (s.rs.map resD), lstD (s.dn.map pD)]) (.cel 2) = true := isLst_c rfl
  have e3 : dSl false ([lstD (P), lstD (s.rs.map resD), lstD (s.dn.map pD)]) (.d (resD r)) Option.none (some 2) = some (.d (pD r.1), [lstD (P), lstD (s.rs.map resD), lstD (s.dn.map pD)]) := rfl
  rw [b_law_adraws_6_f_2_w_2]
  generalize arD ars = AD at *
  generalize pD r.1 = pdd at *
  generalize resD r = RD at *
  generalize s.rs.map resD = RR' at *
  generalize s.dn.map pD = DT at *
  simp -implicitDefEqProofs [e1, e2, e3]
theorem adraw_w3 {s : Ds} {r : Rs} {P DN : List D} (hl : s.rs.length ≤ 1000) : b_law_adraws_6_f_2_w_3 a ⟨[some pd, some (.d (arD ars)), some (.d (.bl gr)), some rowsd, some (.cel 0), some (.cel 1), some (.cel 2), some (.d (spD sp)), s8, some (.d (resD r)), s10, s11], [lstD (P), lstD (s.rs.map resD), lstD (DN)]⟩ = some (.nx ⟨[some pd, some (.d (arD ars)), some (.d (.bl gr)), some rowsd, some (.cel 0), some (.cel 1), some (.cel 2), some (.d (spD sp)), s8, some (.d (resD r)), s10, s11], [lstD (P), lstD (s.rs.map resD ++ [resD r]), lstD (DN)]⟩) := by
  have e1 := app_c (cl := [lstD (P), lstD (s.rs.map resD), lstD (DN)]) (n := 1) (P := s.rs.map resD) (x := resD r) rfl (by rw [List.length_map]; omega)
  have e2 : isLst ([lstD (P), lstD (s.rs.map resD), lstD (DN)]) (.cel 1) = true := isLst_c rfl
  rw [b_law_adraws_6_f_2_w_3]
  generalize arD ars = AD at *
  generalize resD r = RD at *
  generalize s.rs.map resD = RR' at *
  simp -implicitDefEqProofs [e1, e2]
theorem adraw_w4 {s : Ds} {r : W} (ok : ∀ p ∈ s.ps, p.Ok) (hl : s.ps.length ≤ 1000) (ho : (opens s.ps).length < 64) (oa : ArsOk ars) (hv : ∀ q ∈ sp, (pcAt ars q).isSome = true) : b_law_adraws_6_f_2_w_4 a ⟨[some pd, some (.d (arD ars)), some (.d (.bl gr)), some rowsd, some (.cel 0), some (.cel 1), some (.cel 2), some (.d (spD sp)), s8, some r, s10, s11], [lstD (s.ps.map Pc.d), lstD (s.rs.map resD), lstD (s.dn.map pD)]⟩ = some (.nx ⟨[some pd, some (.d (arD ars)), some (.d (.bl gr)), some rowsd, some (.cel 0), some (.cel 1), some (.cel 2), some (.d (spD sp)), s8, some (.d (optD (nxt1 ars (opens s.ps) s.dn sp))), s10, s11], [lstD (s.ps.map Pc.d), lstD (s.rs.map resD), lstD (s.dn.map pD)]⟩) := by
  have e1 := areason_call (a := a) (B := lstD (s.rs.map resD)) ok hl ho oa hv
  rw [b_law_adraws_6_f_2_w_4]
  generalize arD ars = AD at *
  generalize spD sp = SP at *
  generalize optD _ = OD at *
  generalize s.rs.map resD = RR' at *
  generalize s.ps.map Pc.d = P at *
  generalize s.dn.map pD = DT at *
  simp -implicitDefEqProofs [e1]
theorem adraw_w0 {s : Ds} {o : Option W} (ok : ∀ p ∈ s.ps, p.Ok) (hl : s.ps.length ≤ 1000) (ho : (opens s.ps).length < 64) (oa : ArsOk ars) (hv : ∀ q ∈ sp, (pcAt ars q).isSome = true) : b_law_adraws_6_f_1 a ⟨[some pd, some (.d (arD ars)), some (.d (.bl gr)), some rowsd, some (.cel 0), some (.cel 1), some (.cel 2), some (.d (spD sp)), s8, o, s10, s11], [lstD (s.ps.map Pc.d), lstD (s.rs.map resD), lstD (s.dn.map pD)]⟩ = some (.nx ⟨[some pd, some (.d (arD ars)), some (.d (.bl gr)), some rowsd, some (.cel 0), some (.cel 1), some (.cel 2), some (.d (spD sp)), s8, some (.d (optD (nxt1 ars (opens s.ps) s.dn sp))), s10, s11], [lstD (s.ps.map Pc.d), lstD (s.rs.map resD), lstD (s.dn.map pD)]⟩) := by
  have e1 := areason_call (a := a) (B := lstD (s.rs.map resD)) ok hl ho oa hv
  rw [b_law_adraws_6_f_1]
  generalize arD ars = AD at *
  generalize spD sp = SP at *
  generalize optD _ = OD at *
  generalize s.rs.map resD = RR' at *
  generalize s.ps.map Pc.d = P at *
  generalize s.dn.map pD = DT at *
  simp -implicitDefEqProofs [e1]
end
theorem anext_maps {s : Ds} {r : Rs} {p : Pc} (hp : pcAt ars r.1 = some p) : (s.next ars r).ps.map Pc.d = s.ps.map Pc.d ++ [p.d] ∧ (s.next ars r).rs.map resD = s.rs.map resD ++ [resD r] ∧ (s.next ars r).dn.map pD = s.dn.map pD ++ [pD r.1] := by
  obtain ⟨h1, h2, _⟩ := next_maps (s := s) hp
  refine ⟨h1, h2, ?_⟩
  show (s.dn ++ [r.1]).map pD = _
  simp
theorem Dk.open {pool : List Str} (hp : pool.length < 64) {k : Nat} {s : Ds} (h : Dk pool ars k s) : (opens s.ps).length < 64 := Nat.lt_of_le_of_lt (opens_len h.po) hp
theorem adraw_body {pool : List Str} (hpl : pool.length < 64) {k : Nat} {s : Ds} {r : Rs} (ha : ArsIn pool ars) (h : Dk pool ars (k + 1) s) (hr : nxt1 ars (opens s.ps) s.dn sp = some r) (hv : ∀ q ∈ sp, (pcAt ars q).isSome = true) {pd rowsd : W} {gr : Bool} {s8 s9 s10 s11 : Option W} :
    sSeq (b_law_adraws_6_f_2_w_1 a) (sSeq (b_law_adraws_6_f_2_w_2 a) (sSeq (b_law_adraws_6_f_2_w_3 a) (b_law_adraws_6_f_2_w_4 a))) ⟨[some pd, some (.d (arD ars)), some (.d (.bl gr)), some rowsd, some (.cel 0), some (.cel 1), some (.cel 2), some (.d (spD sp)), s8, some (.d (resD r)), s10, s11], [lstD (s.ps.map Pc.d), lstD (s.rs.map resD), lstD (s.dn.map pD)]⟩ =
    some (.nx ⟨[some pd, some (.d (arD ars)), some (.d (.bl gr)), some rowsd, some (.cel 0), some (.cel 1), some (.cel 2), some (.d (spD sp)), s8, some (.d (optD (nxt1 ars (opens (s.next ars r).ps) (s.next ars r).dn sp))), s10, s11], [lstD ((s.next ars r).ps.map Pc.d), lstD ((s.next ars r).rs.map resD), lstD ((s.next ars r).dn.map pD)]⟩) := by
  obtain ⟨m1, m2, m3⟩ := nxt1_mem hr
  obtain ⟨p, hp⟩ := Option.isSome_iff_exists.mp m3
  obtain ⟨n1, n2, n3⟩ := anext_maps (s := s) hp
  have h2 := h.next ha m3
  have l1 := h.le
  have l2 := h.le2
  have l3 := h.le3
  have l4 := h2.le
  have e1 := adraw_w1 (a := a) (sp := sp) (pd := pd) (rowsd := rowsd) (gr := gr) (s8 := s8) (s10 := s10) (s11 := s11) (s := s) hp (by omega)
  have e2 := adraw_w2 (a := a) (ars := ars) (sp := sp) (pd := pd) (rowsd := rowsd) (gr := gr) (s8 := s8) (s10 := s10) (s11 := s11) (s := s) (r := r) (P := s.ps.map Pc.d ++ [p.d]) (by omega)
  have e3 := adraw_w3 (a := a) (ars := ars) (sp := sp) (pd := pd) (rowsd := rowsd) (gr := gr) (s8 := s8) (s10 := s10) (s11 := s11) (s := s) (r := r) (P := s.ps.map Pc.d ++ [p.d]) (DN := s.dn.map pD ++ [pD r.1]) (by omega)
  have e4 := adraw_w4 (a := a) (sp := sp) (pd := pd) (rowsd := rowsd) (gr := gr) (s8 := s8) (s10 := s10) (s11 := s11) (s := s.next ars r) (r := .d (resD r)) h2.ok (by omega) (h2.open hpl) ha.ok hv
  rw [n1, n2, n3] at e4 ⊢
  rw [ev_sSeq, e1]
  simp only [Option.bind_some, nxt_nx]
  rw [ev_sSeq, e2]
  simp only [Option.bind_some, nxt_nx]
  rw [ev_sSeq, e3]
  simp only [Option.bind_some, nxt_nx]
  exact e4
theorem adraw_row {pool : List Str} (hpl : pool.length < 64) (ha : ArsIn pool ars) (hv : ∀ q ∈ sp, (pcAt ars q).isSome = true) {t : Ds} {K n : Nat} {s : Ds} (hs : Rn ars sp n s t) (hd : Dk pool ars (n + K) s) {pd rowsd : W} {gr : Bool} {s8 s9 s10 s11 : Option W} {o : Option W} :
    ∃ s9', b_law_adraws_6_f a ⟨[some pd, some (.d (arD ars)), some (.d (.bl gr)), some rowsd, some (.cel 0), some (.cel 1), some (.cel 2), some (.d (spD sp)), s8, o, s10, s11], [lstD (s.ps.map Pc.d), lstD (s.rs.map resD), lstD (s.dn.map pD)]⟩ = some (.nx ⟨[some pd, some (.d (arD ars)), some (.d (.bl gr)), some rowsd, some (.cel 0), some (.cel 1), some (.cel 2), some (.d (spD sp)), s8, s9', s10, s11], [lstD (t.ps.map Pc.d), lstD (t.rs.map resD), lstD (t.dn.map pD)]⟩) ∧ Dk pool ars K t := by
  have e0 := adraw_w0 (a := a) (ars := ars) (sp := sp) (pd := pd) (rowsd := rowsd) (gr := gr) (s8 := s8) (s10 := s10) (s11 := s11) (s := s) (o := o) hd.ok (by have := hd.le; omega) (hd.open hpl) ha.ok hv
  rw [b_law_adraws_6_f, ev_sSeq, e0]
  simp only [Option.bind_some, nxt_nx]
  rw [b_law_adraws_6_f_2]
  obtain ⟨r', e, u, er, hu, hk⟩ := sWhile_run (c := bVal (eBin (isN true) (eVar 9) (eC (.d .non)))) (b := sSeq (b_law_adraws_6_f_2_w_1 a) (sSeq (b_law_adraws_6_f_2_w_2 a) (sSeq (b_law_adraws_6_f_2_w_3 a) (b_law_adraws_6_f_2_w_4 a))))
    (I := fun n r => ∃ (u : Ds), r = ⟨[some pd, some (.d (arD ars)), some (.d (.bl gr)), some rowsd, some (.cel 0), some (.cel 1), some (.cel 2), some (.d (spD sp)), s8, some (.d (optD (nxt1 ars (opens u.ps) u.dn sp))), s10, s11], [lstD (u.ps.map Pc.d), lstD (u.rs.map resD), lstD (u.dn.map pD)]⟩ ∧ Rn ars sp n u t ∧ Dk pool ars (n + K) u)
    n _ ⟨s, rfl, hs, hd⟩ (fun m r ⟨u, er, hu, hk⟩ => by
      subst er
      cases hu with
      | go h1 h2 =>
        rename_i r
        have hk' : Dk pool ars (m + K + 1) u := by rw [show m + K + 1 = m + 1 + K by omega]; exact hk
        have eb := adraw_body (a := a) (sp := sp) hpl ha hk' h1 hv (pd := pd) (rowsd := rowsd) (gr := gr) (s8 := s8) (s9 := s9) (s10 := s10) (s11 := s11)
        rw [h1]
        exact ⟨_, _, rfl, eb, u.next ars r, rfl, h2, hk'.next ha (nxt1_mem h1).2.2⟩) (fun r ⟨u, er, hu, hk⟩ => by
      subst er
      cases hu with
      | stop h1 =>
        rw [h1]
        refine ⟨_, rfl, _, ?_, .stop h1, hk⟩
        rw [h1])
  cases hu with
  | stop h1 => exact ⟨some (.d (optD (nxt1 ars (opens t.ps) t.dn sp))), by rw [e, er], by rw [Nat.zero_add] at hk; exact hk⟩
theorem adraw_rows {pool : List Str} (hpl : pool.length < 64) (ha : ArsIn pool ars) {pd rowsd : W} {gr : Bool} {s8 s10 s11 : Option W} : ∀ (rows : List (List (Nat × Nat))) (s t : Ds) (s7 s9 : Option W), (∀ sp ∈ rows, ∀ q ∈ sp, (pcAt ars q).isSome = true) → RR ars rows s t → Dk pool ars (total rows) s →
    ∃ s7' s9', forL (tName 7) (b_law_adraws_6_f a) none ((rows.map spD).map W.d) ⟨[some pd, some (.d (arD ars)), some (.d (.bl gr)), some rowsd, some (.cel 0), some (.cel 1), some (.cel 2), s7, s8, s9, s10, s11], [lstD (s.ps.map Pc.d), lstD (s.rs.map resD), lstD (s.dn.map pD)]⟩ = some (.nx ⟨[some pd, some (.d (arD ars)), some (.d (.bl gr)), some rowsd, some (.cel 0), some (.cel 1), some (.cel 2), s7', s8, s9', s10, s11], [lstD (t.ps.map Pc.d), lstD (t.rs.map resD), lstD (t.dn.map pD)]⟩)
  | [], s, t, s7, s9, _, h, _ => by
    cases h
    refine ⟨s7, s9, ?_⟩
    simp only [List.map_nil, forL]
    rw [if_pos (show ckC none _ from trivial)]
  | sp :: rows, s, t, s7, s9, hv, h, hd => by
    cases h with
    | cons hn h1 h2 =>
      rename_i m n
      have ht : total (sp :: rows) = sp.length + total rows := by simp [total]
      rw [ht] at hd
      obtain ⟨t9, e, hk⟩ := adraw_row (a := a) hpl ha (hv sp List.mem_cons_self) h1 (K := total rows) (hd.weak (by omega)) (pd := pd) (rowsd := rowsd) (gr := gr) (s8 := s8) (s9 := s9) (s10 := s10) (s11 := s11) (o := s9)
      obtain ⟨u7, u9, ih⟩ := adraw_rows hpl ha (pd := pd) (rowsd := rowsd) (gr := gr) (s8 := s8) (s10 := s10) (s11 := s11) rows m t (some (.d (spD sp))) t9 (fun q hq => hv q (List.mem_cons_of_mem _ hq)) h2 hk
      refine ⟨u7, u9, ?_⟩
      simp only [List.map_cons, forL]
      rw [if_pos (show ckC none _ from trivial)]
      simp only [ev_tName, List.set_cons_succ, List.set_cons_zero, e]
      exact ih
end Lw
/-! the law's drawing, whole -/
namespace Lw
open PySem PySem.Spec L2 FL
variable {a : Ad} {ars : Ars}
def rowN (ars : Ars) : W → D
  | .d (.int i) => .lst ((List.range ((ars[i.toNat]?).getD []).length).map fun m => .tup [.int i, .int (m : Nat)])
  | _ => .non
theorem rows_at : ∀ (l : List (List Pc)) (i : Nat), (rowsL l i) = (List.range l.length).map fun j => (List.range ((l[j]?).getD []).length).map fun m => (i + j, m)
  | [], i => rfl
  | r :: l, i => by
    have ih := rows_at l (i + 1)
    show ((List.range r.length).map fun m => (i, m)) :: rowsL l (i + 1) = _
    rw [ih, List.length_cons, List.range_succ_eq_map, List.map_cons, List.map_map]
    refine congr (congrArg _ ?_) ?_
    · simp
    · refine List.map_congr_left fun j _ => ?_
      show ((List.range ((l[j]?).getD []).length).map fun m => (i + 1 + j, m)) = (List.range (((r :: l)[j + 1]?).getD []).length).map fun m => (i + (j + 1), m)
      rw [List.getElem?_cons_succ, show i + (j + 1) = i + 1 + j by omega]
theorem rows_n (ars : Ars) : ((intsW 0 ars.length).filter fun _ => true).map (rowN ars) = (rowsL ars 0).map spD := by
  rw [List.filter_eq_self.mpr (fun _ _ => rfl), intsW_map, List.map_map, rows_at, List.map_map]
  refine List.map_congr_left fun i _ => ?_
  show rowN ars (W.d (.int (0 + (i : Int)))) = spD ((List.range ((ars[i]?).getD []).length).map fun m => (0 + i, m))
  rw [Int.zero_add, Nat.zero_add]
  show D.lst ((List.range ((ars[(i : Int).toNat]?).getD []).length).map fun m => .tup [.int i, .int (m : Nat)]) = D.lst (((List.range ((ars[i]?).getD []).length).map fun m => (i, m)).map pD)
  rw [Int.toNat_natCast, List.map_map]
  rfl
def seatV (j : Nat) : W → D
  | .d (.int m) => .tup [.int j, .int m]
  | _ => .non
theorem seats_val2 (j n : Nat) : ((intsW 0 n).filter fun _ => true).map (seatV j) = (List.range n).map fun m => D.tup [.int j, .int (m : Nat)] := by
  rw [List.filter_eq_self.mpr (fun _ _ => rfl), intsW_map, List.map_map]
  refine List.map_congr_left fun m _ => ?_
  show D.tup [.int j, .int (0 + (m : Int))] = _
  rw [Int.zero_add]
theorem arlen {cl : List Cell} : oLen cl [.d (arD ars)] = some (.d (.int ars.length), cl) := by simp [oLen, lenW, asTup, asList, arD]
theorem adraws_1 (ps : List Pc) (hl : ars.length ≤ 1000) (hr : ∀ l ∈ ars, l.length ≤ 1000) : b_law_adraws_1 a ⟨[some (.d (.lst (ps.map Pc.d))), some (.d (arD ars)), some (.d (.bl false)), none, none, none, none, none, none, none, none, none], []⟩ = some (.nx ⟨[some (.d (.lst (ps.map Pc.d))), some (.d (arD ars)), some (.d (.bl false)), some (.d (rowsD ars)), none, none, none, none, none, none, none, none], []⟩) := by
  have ei : iRng (aCons (eCall oLen (aCons (eVar 1) aNil)) aNil) ⟨[some (.d (.lst (ps.map Pc.d))), some (.d (arD ars)), some (.d (.bl false)), none, none, none, none, none, none, none, none, none], []⟩ = some ((intsW 0 ars.length, none), ⟨[some (.d (.lst (ps.map Pc.d))), some (.d (arD ars)), some (.d (.bl false)), none, none, none, none, none, none, none, none, none], []⟩) := by
    simp only [iRng, ev_call, ev_cons, ev_nil, ev_var, List.getElem?_cons_zero, List.getElem?_cons_succ, Option.bind_some, Option.map_some, arlen]
    rw [if_pos (by omega)]
    rfl
  have e1 := lc_pureD (c := false) (g := tName 10) (tt := bYes) (te := eLc false (iRng (aCons (eCall oLen (aCons (eBin dIx (eVar 1) (eVar 10)) aNil)) aNil)) (tName 11) bYes (eCall oTup (aCons (eVar 10) (aCons (eVar 11) aNil))) [11]) (vs := [10]) ei (fun _ => true) (rowN ars) (fun _ => trivial) (by
      rw [intsW_len, sizeLine_eq]
      omega) rfl (fun d hd acc => by
      rw [intsW_map] at hd
      obtain ⟨i, hi, rfl⟩ := List.mem_map.mp hd
      have hi : i < ars.length := List.mem_range.mp hi
      have hr' := hr ars[i] (List.getElem_mem hi)
      have ea : dIx ([] ++ [.lst (acc.map W.d)]) (.d (arD ars)) (.d (.int (0 + (i : Int)))) = some (.d (.tup (ars[i].map Pc.d)), [] ++ [.lst (acc.map W.d)]) := by
        rw [Int.zero_add]
        have := at_d (cl := [] ++ [.lst (acc.map W.d)]) (P := ars.map fun l => D.tup (l.map Pc.d)) (i := i) (by simpa using hi)
        rw [show arD ars = .lst (ars.map fun l => .tup (l.map Pc.d)) from rfl, this]
        simp
      refine ⟨⟨[some (.d (.lst (ps.map Pc.d))), some (.d (arD ars)), some (.d (.bl false)), none, none, none, none, none, none, none, some (.d (.int (0 + (i : Int)))), none], [] ++ [.lst (acc.map W.d)]⟩, rfl, ⟨[some (.d (.lst (ps.map Pc.d))), some (.d (arD ars)), some (.d (.bl false)), none, none, none, none, none, none, none, some (.d (.int (0 + (i : Int)))), none], [] ++ [.lst (acc.map W.d)]⟩, rfl, rfl, fun _ => ?_⟩
      have er : iRng (aCons (eCall oLen (aCons (eBin dIx (eVar 1) (eVar 10)) aNil)) aNil) ⟨[some (.d (.lst (ps.map Pc.d))), some (.d (arD ars)), some (.d (.bl false)), none, none, none, none, none, none, none, some (.d (.int (0 + (i : Int)))), none], [] ++ [.lst (acc.map W.d)]⟩ = some ((intsW 0 (ars[i].map Pc.d).length, none), ⟨[some (.d (.lst (ps.map Pc.d))), some (.d (arD ars)), some (.d (.bl false)), none, none, none, none, none, none, none, some (.d (.int (0 + (i : Int)))), none], [] ++ [.lst (acc.map W.d)]⟩) := by
        simp only [iRng, ev_call, ev_cons, ev_nil, ev_bin, ev_var, List.getElem?_cons_zero, List.getElem?_cons_succ, Option.bind_some, Option.map_some, ea, len_t]
        rw [if_pos (by rw [List.length_map]; omega)]
        rfl
      have ex := lc_pure (c := false) (g := tName 11) (tt := bYes) (te := eCall oTup (aCons (eVar 10) (aCons (eVar 11) aNil))) (vs := [11]) er (fun _ => true) (seatV i) (fun _ => trivial) (by
        rw [intsW_len, List.length_map, sizeLine_eq]
        omega) (by simp) (fun d hd acc2 => by
        rw [intsW_map] at hd
        obtain ⟨m, _, rfl⟩ := List.mem_map.mp hd
        refine ⟨⟨[some (.d (.lst (ps.map Pc.d))), some (.d (arD ars)), some (.d (.bl false)), none, none, none, none, none, none, none, some (.d (.int (0 + (i : Int)))), some (.d (.int (0 + (m : Int))))], ([] ++ [.lst (acc.map W.d)]) ++ [.lst acc2]⟩, rfl, ⟨[some (.d (.lst (ps.map Pc.d))), some (.d (arD ars)), some (.d (.bl false)), none, none, none, none, none, none, none, some (.d (.int (0 + (i : Int)))), some (.d (.int (0 + (m : Int))))], ([] ++ [.lst (acc.map W.d)]) ++ [.lst acc2]⟩, rfl, rfl, fun _ => ⟨⟨[some (.d (.lst (ps.map Pc.d))), some (.d (arD ars)), some (.d (.bl false)), none, none, none, none, none, none, none, some (.d (.int (0 + (i : Int)))), some (.d (.int (0 + (m : Int))))], ([] ++ [.lst (acc.map W.d)]) ++ [.lst acc2]⟩, ?_, rfl⟩⟩
        simp only [ev_call, ev_cons, ev_nil, ev_var, List.getElem?_cons_zero, List.getElem?_cons_succ, Option.bind_some, Option.map_some, tp2]
        rw [Int.zero_add (i : Int)]
        rfl)
      rw [seats_val2] at ex
      simp only [Bool.false_eq_true, if_false] at ex
      have ev : rowN ars (W.d (.int (0 + (i : Int)))) = .lst ((List.range (ars[i].map Pc.d).length).map fun m => .tup [.int (i : Nat), .int (m : Nat)]) := by
        rw [Int.zero_add]
        show D.lst ((List.range ((ars[(i : Int).toNat]?).getD []).length).map fun m => .tup [.int i, .int (m : Nat)]) = _
        rw [Int.toNat_natCast, List.getElem?_eq_getElem hi, List.length_map]
        rfl
      rw [ev]
      exact ⟨_, ex, rfl⟩)
  rw [rows_n] at e1
  simp only [Bool.false_eq_true, if_false] at e1
  rw [b_law_adraws_1, ev_sAsg, e1]
  rfl
theorem adraws_ok {pool : List Str} (hpl : pool.length < 64) (ha : ArsIn pool ars) (hl : ars.length ≤ 1000) (hr : ∀ l ∈ ars, l.length ≤ 1000) (ps : List Pc) (hd : Dk pool ars (total (rowsL ars 0)) ⟨ps, [], []⟩) {t : Ds} (h : RR ars (rowsL ars 0) ⟨ps, [], []⟩ t) :
    f_law_adraws a [] [.d (.lst (ps.map Pc.d)), .d (arD ars), .d (.bl false)] = some (.tup [.cel 0, .cel 1], [lstD (t.ps.map Pc.d), lstD (t.rs.map resD)]) := by
  have e5 : (⟨[W.d (.lst (ps.map Pc.d)), .d (arD ars), .d (.bl false)].map some ++ List.replicate (12 - [W.d (.lst (ps.map Pc.d)), .d (arD ars), .d (.bl false)].length) none, []⟩ : Rho) = ⟨[some (.d (.lst (ps.map Pc.d))), some (.d (arD ars)), some (.d (.bl false)), none, none, none, none, none, none, none, none, none], []⟩ := rfl
  have e1 := adraws_1 (a := a) (ars := ars) ps hl hr
  have e2 : b_law_adraws_2 a ⟨[some (.d (.lst (ps.map Pc.d))), some (.d (arD ars)), some (.d (.bl false)), some (.d (rowsD ars)), none, none, none, none, none, none, none, none], []⟩ = some (.nx ⟨[some (.d (.lst (ps.map Pc.d))), some (.d (arD ars)), some (.d (.bl false)), some (.d (rowsD ars)), none, none, none, none, none, none, none, none], []⟩) := by
    rw [b_law_adraws_2]
    rfl
  have e3 : b_law_adraws_3 a ⟨[some (.d (.lst (ps.map Pc.d))), some (.d (arD ars)), some (.d (.bl false)), some (.d (rowsD ars)), none, none, none, none, none, none, none, none], []⟩ = some (.nx ⟨[some (.d (.lst (ps.map Pc.d))), some (.d (arD ars)), some (.d (.bl false)), some (.d (rowsD ars)), some (.cel 0), none, none, none, none, none, none, none], [lstD (ps.map Pc.d)]⟩) := by
    rw [b_law_adraws_3]
    rfl
  have nil : ∀ cl, oLst true cl [] = some (.cel cl.length, cl ++ [lstD []]) := fun cl => by
    unfold oLst
    rw [if_pos (by simp)]
    rfl
  have n1 := nil [lstD (ps.map Pc.d)]
  have n2 := nil [lstD (ps.map Pc.d), lstD []]
  have e4 : b_law_adraws_4 a ⟨[some (.d (.lst (ps.map Pc.d))), some (.d (arD ars)), some (.d (.bl false)), some (.d (rowsD ars)), some (.cel 0), none, none, none, none, none, none, none], [lstD (ps.map Pc.d)]⟩ = some (.nx ⟨[some (.d (.lst (ps.map Pc.d))), some (.d (arD ars)), some (.d (.bl false)), some (.d (rowsD ars)), some (.cel 0), some (.cel 1), none, none, none, none, none, none], [lstD (ps.map Pc.d), lstD []]⟩) := by
    rw [b_law_adraws_4]
    generalize arD ars = AD at *
    generalize rowsD ars = RD at *
    simp -implicitDefEqProofs [n1]
  have e6 : b_law_adraws_5 a ⟨[some (.d (.lst (ps.map Pc.d))), some (.d (arD ars)), some (.d (.bl false)), some (.d (rowsD ars)), some (.cel 0), some (.cel 1), none, none, none, none, none, none], [lstD (ps.map Pc.d), lstD []]⟩ = some (.nx ⟨[some (.d (.lst (ps.map Pc.d))), some (.d (arD ars)), some (.d (.bl false)), some (.d (rowsD ars)), some (.cel 0), some (.cel 1), some (.cel 2), none, none, none, none, none], [lstD (ps.map Pc.d), lstD [], lstD []]⟩) := by
    rw [b_law_adraws_5]
    generalize arD ars = AD at *
    generalize rowsD ars = RD at *
    simp -implicitDefEqProofs [n2]
  obtain ⟨s7, s9, e7⟩ := adraw_rows (a := a) hpl ha (pd := .d (.lst (ps.map Pc.d))) (rowsd := .d (rowsD ars)) (gr := false) (s8 := none) (s10 := none) (s11 := none) (rowsL ars 0) ⟨ps, [], []⟩ t none none (seats_ok ars) h hd
  have e8 : b_law_adraws_6 a ⟨[some (.d (.lst (ps.map Pc.d))), some (.d (arD ars)), some (.d (.bl false)), some (.d (rowsD ars)), some (.cel 0), some (.cel 1), some (.cel 2), none, none, none, none, none], [lstD (ps.map Pc.d), lstD [], lstD []]⟩ = forL (tName 7) (b_law_adraws_6_f a) none (((rowsL ars 0).map spD).map W.d) ⟨[some (.d (.lst (ps.map Pc.d))), some (.d (arD ars)), some (.d (.bl false)), some (.d (rowsD ars)), some (.cel 0), some (.cel 1), some (.cel 2), none, none, none, none, none], [lstD (ps.map Pc.d), lstD [], lstD []]⟩ := by
    rw [b_law_adraws_6, ev_sFor]
    have ei : iSeq (eVar 3) ⟨[some (.d (.lst (ps.map Pc.d))), some (.d (arD ars)), some (.d (.bl false)), some (.d (rowsD ars)), some (.cel 0), some (.cel 1), some (.cel 2), none, none, none, none, none], [lstD (ps.map Pc.d), lstD [], lstD []]⟩ = some ((((rowsL ars 0).map spD).map W.d, none), ⟨[some (.d (.lst (ps.map Pc.d))), some (.d (arD ars)), some (.d (.bl false)), some (.d (rowsD ars)), some (.cel 0), some (.cel 1), some (.cel 2), none, none, none, none, none], [lstD (ps.map Pc.d), lstD [], lstD []]⟩) := rfl
    rw [ei]
    rfl
  have e7 : forL (tName 7) (b_law_adraws_6_f a) none (((rowsL ars 0).map spD).map W.d) ⟨[some (.d (.lst (ps.map Pc.d))), some (.d (arD ars)), some (.d (.bl false)), some (.d (rowsD ars)), some (.cel 0), some (.cel 1), some (.cel 2), none, none, none, none, none], [lstD (ps.map Pc.d), lstD [], lstD []]⟩ = _ := e7
  have tp : ∀ cl, oTup cl [.cel 0, .cel 1] = some (.tup [.cel 0, .cel 1], cl) := fun cl => by
    unfold oTup
    rw [if_pos (by show 2 ≤ sizeLine; rw [sizeLine_eq]; decide)]
    rfl
  rw [f_law_adraws, run_eq, split_law_adraws, e5]
  rw [ev_sSeq, e1]
  simp only [Option.bind_some, nxt_nx]
  rw [ev_sSeq, e2]
  simp only [Option.bind_some, nxt_nx]
  rw [ev_sSeq, e3]
  simp only [Option.bind_some, nxt_nx]
  rw [ev_sSeq, e4]
  simp only [Option.bind_some, nxt_nx]
  rw [ev_sSeq, e6]
  simp only [Option.bind_some, nxt_nx]
  rw [ev_sSeq, e8, e7]
  simp only [Option.bind_some, nxt_nx]
  rw [b_law_adraws_7]
  simp only [ev_sRet, ev_call, ev_cons, ev_nil, ev_var, List.getElem?_cons_zero, List.getElem?_cons_succ, Option.bind_some, Option.map_some, tp]
  exact fin_pair (by simp) (by simp) (fun _ => by simp) fun _ => by simp
end Lw
/-! the pool of names -/
namespace Lw
open PySem PySem.Spec L2 FL
variable {a : Ad}
def letters : Str := "abcdefghijklmnopqrstuvwxyz"
def chr (t : Nat) : Str := ⟨#[97 + t]⟩
theorem let_at : ∀ t : Nat, t < 26 → letters.cps.toList[t]? = some (97 + t) := by decide +kernel
theorem let_ix {cl : List Cell} {t : Nat} (h : t < 26) : dIx cl (.d (.str letters)) (.d (.int t)) = some (.d (.str (chr t)), cl) := by
  have hl : letters.length ≤ sizeLine := by rw [sizeLine_eq]; decide +kernel
  have hn : letters.cps.toList.length = 26 := by decide +kernel
  have e : dIx cl (.d (.str letters)) (.d (.int t)) = if letters.length ≤ sizeLine then (atI letters.cps.toList t).map fun c => (.d (.str ⟨#[c]⟩), cl) else none := rfl
  rw [e, if_pos hl, atI_nat (by omega) (by rw [hn]; omega), Int.toNat_natCast, let_at t h]
  rfl
def tlA : List Str := ["", "a1", "a", "0", "a10", "b"]
def tlB : List Str := ["", "1", "x9", "0000000000000zz"]
def poolA (t : Nat) : List Str := tlA.map fun s => chr t ++ s
def poolB (t w : Nat) : List Str := (List.range 6).map fun j => chr ((t + 5 * j) % 26) ++ (tlB[(w + j) % 4]?).getD ""
def Pool (P : List Str) : Prop := P.length = 6 ∧ P.Nodup ∧ (∀ x ∈ P, PyData.strOk x = true) ∧ ∀ x ∈ P, x.length ≤ 20
instance (P : List Str) : Decidable (Pool P) := by unfold Pool; infer_instance
theorem poolA_ok : ∀ t : Nat, t < 26 → Pool (poolA t) := by decide +kernel
theorem poolB_ok : ∀ t : Nat, t < 26 → ∀ w : Nat, w < 4 → Pool (poolB t w) := by decide +kernel
theorem len_small {s t : Str} (h : s.length + t.length ≤ 100) : s.length + t.length ≤ sizeLine := by rw [sizeLine_eq]; omega
theorem tlA_len : ∀ s ∈ tlA, s.length ≤ 50 := by decide +kernel
theorem tlB_len : ∀ s ∈ tlB, s.length ≤ 50 := by decide +kernel
theorem chr_len (t : Nat) : (chr t).length = 1 := rfl
def strV (t : Nat) : W → D
  | .d (.str s) => .str (chr t ++ s)
  | _ => .non
def intV (t w : Nat) : W → D
  | .d (.int j) => .str (chr ((t + 5 * j.toNat) % 26) ++ (tlB[(w + j.toNat) % 4]?).getD "")
  | _ => .non
theorem apool_ok (z : Int) : ∃ (z' : Int) (P : List Str), f_law_apool a [lstD [.int z]] [.cel 0] = some (.cel 1, [lstD [.int z'], lstD (P.map D.str)]) ∧ Pool P := by
  have t0 : 0 ≤ z % 26 := Int.emod_nonneg _ (by decide)
  have t1 : z % 26 < 26 := Int.emod_lt_of_pos _ (by decide)
  have w0 : 0 ≤ z / 26 % 4 := Int.emod_nonneg _ (by decide)
  have w1 : z / 26 % 4 < 4 := Int.emod_lt_of_pos _ (by decide)
  obtain ⟨t, ht⟩ : ∃ t : Nat, z % 26 = t := ⟨(z % 26).toNat, by omega⟩
  obtain ⟨w, hw⟩ : ∃ w : Nat, z / 26 % 4 = w := ⟨(z / 26 % 4).toNat, by omega⟩
  have ht26 : t < 26 := by omega
  have hw4 : w < 4 := by omega
  have e1 := digit_call (a := a) false (cl := [lstD [.int z]]) (n := 0) (z := z) (m := 26) rfl (by decide) (by decide)
  have e2 := digit_call (a := a) false (cl := [lstD [.int (z / 26)]]) (n := 0) (z := z / 26) (m := 4) rfl (by decide) (by decide)
  rw [ht] at e1
  rw [hw] at e2
  have e1 : callC false (f_law_adigit a) [lstD [.int z]] [.cel 0, .d (.int 26)] = some (.d (.int t), [lstD [.int (z / 26)]]) := e1
  have e2 : callC false (f_law_adigit a) [lstD [.int (z / 26)]] [.cel 0, .d (.int 4)] = some (.d (.int w), [lstD [.int (z / 26 / 4)]]) := e2
  generalize z / 26 / 4 = y at *
  generalize z / 26 = y1 at *
  have e5 : (⟨[W.cel 0].map some ++ List.replicate (7 - [W.cel 0].length) none, [lstD [.int z]]⟩ : Rho) = ⟨[some (.cel 0), none, none, none, none, none, none], [lstD [.int z]]⟩ := rfl
  have b1 : b_law_apool_1 a ⟨[some (.cel 0), none, none, none, none, none, none], [lstD [.int z]]⟩ = some (.nx ⟨[some (.cel 0), some (.d (.str letters)), none, none, none, none, none], [lstD [.int z]]⟩) := by
    rw [b_law_apool_1]
    rfl
  have b2 : b_law_apool_2 a ⟨[some (.cel 0), some (.d (.str letters)), none, none, none, none, none], [lstD [.int z]]⟩ = some (.nx ⟨[some (.cel 0), some (.d (.str letters)), some (.d (.int t)), none, none, none, none], [lstD [.int y1]]⟩) := by
    rw [b_law_apool_2]
    generalize letters = L at *
    simp -implicitDefEqProofs [e1]
  have b3 : b_law_apool_3 a ⟨[some (.cel 0), some (.d (.str letters)), some (.d (.int t)), none, none, none, none], [lstD [.int y1]]⟩ = some (.nx ⟨[some (.cel 0), some (.d (.str letters)), some (.d (.int t)), some (.d (.int w)), none, none, none], [lstD [.int y]]⟩) := by
    rw [b_law_apool_3]
    generalize letters = L at *
    simp -implicitDefEqProofs [e2]
  rw [f_law_apool, run_eq, split_law_apool, e5]
  rw [ev_sSeq, b1]
  simp only [Option.bind_some, nxt_nx]
  rw [ev_sSeq, b2]
  simp only [Option.bind_some, nxt_nx]
  rw [ev_sSeq, b3]
  simp only [Option.bind_some, nxt_nx]
  by_cases h3 : w = 3
  · subst h3
    refine ⟨y, poolA t, ?_, poolA_ok t ht26⟩
    have el : oLst false [lstD [.int y]] [.d (.str ""), .d (.str "a1"), .d (.str "a"), .d (.str "0"), .d (.str "a10"), .d (.str "b")] = some (.d (.lst (tlA.map D.str)), [lstD [.int y]]) := by
      unfold oLst
      rw [if_pos (by show 6 ≤ sizeLine; rw [sizeLine_eq]; decide)]
      rfl
    have ei : iSeq (eCall (oLst false) (aCons (eC (.d (.str ""))) (aCons (eC (.d (.str "a1"))) (aCons (eC (.d (.str "a"))) (aCons (eC (.d (.str "0"))) (aCons (eC (.d (.str "a10"))) (aCons (eC (.d (.str "b"))) aNil))))))) ⟨[some (.cel 0), some (.d (.str letters)), some (.d (.int t)), some (.d (.int (3 : Nat))), none, none, none], [lstD [.int y]]⟩ = some (((tlA.map D.str).map W.d, none), ⟨[some (.cel 0), some (.d (.str letters)), some (.d (.int t)), some (.d (.int (3 : Nat))), none, none, none], [lstD [.int y]]⟩) := by
      simp only [iSeq, ev_call, ev_cons, ev_nil, ev_c, Option.bind_some, Option.map_some, el, asTup, itemsL]
    have ex := lc_pureD (c := true) (g := tName 6) (tt := bYes) (te := eBin (dAdd false) (eBin dIx (eVar 1) (eVar 2)) (eVar 6)) (vs := [6]) ei (fun _ => true) (strV t) (fun _ => trivial) (by rw [List.length_map, List.length_map, sizeLine_eq]; decide) (by simp) (fun d hd acc => by
      obtain ⟨q, hq, rfl⟩ := List.mem_map.mp hd
      obtain ⟨s, hs, rfl⟩ := List.mem_map.mp hq
      have e3 := let_ix (cl := [lstD [.int y]] ++ [.lst (acc.map W.d)]) ht26
      have e4 : dAdd false ([lstD [.int y]] ++ [.lst (acc.map W.d)]) (.d (.str (chr t))) (.d (.str s)) = some (.d (.str (chr t ++ s)), [lstD [.int y]] ++ [.lst (acc.map W.d)]) := by
        rw [op_dAddS, if_pos (len_small (by have := tlA_len s hs; rw [chr_len]; omega))]
      refine ⟨⟨[some (.cel 0), some (.d (.str letters)), some (.d (.int t)), some (.d (.int (3 : Nat))), none, none, some (.d (.str s))], [lstD [.int y]] ++ [.lst (acc.map W.d)]⟩, rfl, ⟨[some (.cel 0), some (.d (.str letters)), some (.d (.int t)), some (.d (.int (3 : Nat))), none, none, some (.d (.str s))], [lstD [.int y]] ++ [.lst (acc.map W.d)]⟩, rfl, rfl, fun _ => ⟨⟨[some (.cel 0), some (.d (.str letters)), some (.d (.int t)), some (.d (.int (3 : Nat))), none, none, some (.d (.str s))], [lstD [.int y]] ++ [.lst (acc.map W.d)]⟩, ?_, rfl⟩⟩
      simp only [ev_bin, ev_var, List.getElem?_cons_zero, List.getElem?_cons_succ, Option.bind_some, Option.map_some, e3, e4]
      rfl)
    have b4 : b_law_apool_4 a ⟨[some (.cel 0), some (.d (.str letters)), some (.d (.int t)), some (.d (.int (3 : Nat))), none, none, none], [lstD [.int y]]⟩ = some (.ret (.cel 1) ⟨[some (.cel 0), some (.d (.str letters)), some (.d (.int t)), some (.d (.int (3 : Nat))), none, none, none], [lstD [.int y], lstD ((poolA t).map D.str)]⟩) := by
      have eq3 : eqvD false [lstD [.int y]] (.d (.int (3 : Nat))) (.d (.int 3)) = some (.d (.bl true), [lstD [.int y]]) := eqv_int
      rw [b_law_apool_4, ev_sIf]
      have eb : bVal (eBin (eqvD false) (eVar 3) (eC (.d (.int 3)))) ⟨[some (.cel 0), some (.d (.str letters)), some (.d (.int t)), some (.d (.int (3 : Nat))), none, none, none], [lstD [.int y]]⟩ = some (true, ⟨[some (.cel 0), some (.d (.str letters)), some (.d (.int t)), some (.d (.int (3 : Nat))), none, none, none], [lstD [.int y]]⟩) := by
        simp only [ev_bVal, ev_bin, ev_var, ev_c, List.getElem?_cons_zero, List.getElem?_cons_succ, Option.bind_some, Option.map_some, eq3]
      rw [eb]
      simp only [Option.bind_some, if_true]
      rw [ev_sRet, ex]
      rfl
    rw [ev_sSeq, b4]
    show fin 1 (.cel 1) [lstD [.int y], lstD ((poolA t).map D.str)] = _
    exact fin_two lstD_refs lstD_refs (fun _ => lstD_mapc) fun _ => lstD_mapc
  · refine ⟨y, poolB t w, ?_, poolB_ok t ht26 w hw4⟩
    have el : oLst false [lstD [.int y]] [.d (.str ""), .d (.str "1"), .d (.str "x9"), .d (.str "0000000000000zz")] = some (.d (.lst (tlB.map D.str)), [lstD [.int y]]) := by
      unfold oLst
      rw [if_pos (by show 4 ≤ sizeLine; rw [sizeLine_eq]; decide)]
      rfl
    have eq3 : eqvD false [lstD [.int y]] (.d (.int w)) (.d (.int 3)) = some (.d (.bl false), [lstD [.int y]]) := by
      rw [eqv_int, decide_eq_false (by omega)]
      rfl
    have b4 : b_law_apool_4 a ⟨[some (.cel 0), some (.d (.str letters)), some (.d (.int t)), some (.d (.int w)), none, none, none], [lstD [.int y]]⟩ = some (.nx ⟨[some (.cel 0), some (.d (.str letters)), some (.d (.int t)), some (.d (.int w)), none, none, none], [lstD [.int y]]⟩) := by
      rw [b_law_apool_4, ev_sIf]
      have eb : bVal (eBin (eqvD false) (eVar 3) (eC (.d (.int 3)))) ⟨[some (.cel 0), some (.d (.str letters)), some (.d (.int t)), some (.d (.int w)), none, none, none], [lstD [.int y]]⟩ = some (false, ⟨[some (.cel 0), some (.d (.str letters)), some (.d (.int t)), some (.d (.int w)), none, none, none], [lstD [.int y]]⟩) := by
        simp only [ev_bVal, ev_bin, ev_var, ev_c, List.getElem?_cons_zero, List.getElem?_cons_succ, Option.bind_some, Option.map_some, eq3]
      rw [eb]
      rfl
    have b5 : b_law_apool_5 a ⟨[some (.cel 0), some (.d (.str letters)), some (.d (.int t)), some (.d (.int w)), none, none, none], [lstD [.int y]]⟩ = some (.nx ⟨[some (.cel 0), some (.d (.str letters)), some (.d (.int t)), some (.d (.int w)), some (.d (.lst (tlB.map D.str))), none, none], [lstD [.int y]]⟩) := by
      rw [b_law_apool_5, ev_sAsg]
      simp only [ev_call, ev_cons, ev_nil, ev_c, Option.bind_some, Option.map_some, el]
      rfl
    have ei : iRng (aCons (eC (.d (.int 6))) aNil) ⟨[some (.cel 0), some (.d (.str letters)), some (.d (.int t)), some (.d (.int w)), some (.d (.lst (tlB.map D.str))), none, none], [lstD [.int y]]⟩ = some ((intsW 0 6, none), ⟨[some (.cel 0), some (.d (.str letters)), some (.d (.int t)), some (.d (.int w)), some (.d (.lst (tlB.map D.str))), none, none], [lstD [.int y]]⟩) := rfl
    have ex := lc_pureD (c := true) (g := tName 5) (tt := bYes) (te := eBin (dAdd false) (eBin dIx (eVar 1) (eBin dMod (eBin (dAdd false) (eVar 2) (eBin dMul (eC (.d (.int 5))) (eVar 5))) (eC (.d (.int 26))))) (eBin dIx (eVar 4) (eBin dMod (eBin (dAdd false) (eVar 3) (eVar 5)) (eC (.d (.int 4)))))) (vs := [5]) ei (fun _ => true) (intV t w) (fun _ => trivial) (by rw [intsW_len, sizeLine_eq]; decide) (by simp) (fun d hd acc => by
      rw [intsW_map] at hd
      obtain ⟨j, hj, rfl⟩ := List.mem_map.mp hd
      have hj : j < 6 := List.mem_range.mp hj
      have e3 := let_ix (cl := [lstD [.int y]] ++ [.lst (acc.map W.d)]) (t := (t + 5 * j) % 26) (Nat.mod_lt _ (by decide))
      have i3 : ((t : Int) + 5 * (0 + (j : Int))) % 26 = (((t + 5 * j) % 26 : Nat) : Int) := by omega
      have i4 : ((w : Int) + (0 + (j : Int))) % 4 = (((w + j) % 4 : Nat) : Int) := by omega
      have hk : (w + j) % 4 < tlB.length := Nat.mod_lt _ (by decide)
      have e6 : dIx ([lstD [.int y]] ++ [.lst (acc.map W.d)]) (.d (.lst (tlB.map D.str))) (.d (.int ((w + j) % 4 : Nat))) = some (.d (.str tlB[(w + j) % 4]), [lstD [.int y]] ++ [.lst (acc.map W.d)]) := by
        rw [at_d (P := tlB.map D.str) (i := (w + j) % 4) (by rw [List.length_map]; exact hk)]
        simp
      have e4 : dAdd false ([lstD [.int y]] ++ [.lst (acc.map W.d)]) (.d (.str (chr ((t + 5 * j) % 26)))) (.d (.str tlB[(w + j) % 4])) = some (.d (.str (chr ((t + 5 * j) % 26) ++ tlB[(w + j) % 4])), [lstD [.int y]] ++ [.lst (acc.map W.d)]) := by
        rw [op_dAddS, if_pos (len_small (by have := tlB_len _ (List.getElem_mem hk); rw [chr_len]; omega))]
      have m5 : dMul ([lstD [.int y]] ++ [.lst (acc.map W.d)]) (.d (.int 5)) (.d (.int (0 + (j : Int)))) = some (.d (.int (5 * (0 + (j : Int)))), [lstD [.int y]] ++ [.lst (acc.map W.d)]) := by
        rw [op_dMul, if_pos (mulOk_l (log_small (by decide) (by decide)) (log_small (by omega) (by omega)))]
      have ev : intV t w (W.d (.int (0 + (j : Int)))) = .str (chr ((t + 5 * j) % 26) ++ tlB[(w + j) % 4]) := by
        rw [Int.zero_add]
        show D.str (chr ((t + 5 * (j : Int).toNat) % 26) ++ (tlB[(w + (j : Int).toNat) % 4]?).getD "") = _
        rw [Int.toNat_natCast, List.getElem?_eq_getElem hk]
        rfl
      rw [ev]
      refine ⟨⟨[some (.cel 0), some (.d (.str letters)), some (.d (.int t)), some (.d (.int w)), some (.d (.lst (tlB.map D.str))), some (.d (.int (0 + (j : Int)))), none], [lstD [.int y]] ++ [.lst (acc.map W.d)]⟩, rfl, ⟨[some (.cel 0), some (.d (.str letters)), some (.d (.int t)), some (.d (.int w)), some (.d (.lst (tlB.map D.str))), some (.d (.int (0 + (j : Int)))), none], [lstD [.int y]] ++ [.lst (acc.map W.d)]⟩, rfl, rfl, fun _ => ⟨⟨[some (.cel 0), some (.d (.str letters)), some (.d (.int t)), some (.d (.int w)), some (.d (.lst (tlB.map D.str))), some (.d (.int (0 + (j : Int)))), none], [lstD [.int y]] ++ [.lst (acc.map W.d)]⟩, ?_, rfl⟩⟩
      simp only [ev_bin, ev_var, ev_c, List.getElem?_cons_zero, List.getElem?_cons_succ, Option.bind_some, Option.map_some, m5, op_dAdd, op_dMod, if_pos (show (0 : Int) < 26 by decide), if_pos (show (0 : Int) < 4 by decide), i3, i4, e3, e6, e4])
    have ep : ((intsW 0 6).filter fun _ => true).map (intV t w) = (poolB t w).map D.str := by
      rw [List.filter_eq_self.mpr (fun _ _ => rfl), intsW_map, List.map_map]
      unfold poolB
      rw [List.map_map]
      refine List.map_congr_left fun j _ => ?_
      show intV t w (W.d (.int (0 + (j : Int)))) = _
      rw [Int.zero_add]
      rfl
    have b6 : b_law_apool_6 a ⟨[some (.cel 0), some (.d (.str letters)), some (.d (.int t)), some (.d (.int w)), some (.d (.lst (tlB.map D.str))), none, none], [lstD [.int y]]⟩ = some (.ret (.cel 1) ⟨[some (.cel 0), some (.d (.str letters)), some (.d (.int t)), some (.d (.int w)), some (.d (.lst (tlB.map D.str))), none, none], [lstD [.int y], lstD ((poolB t w).map D.str)]⟩) := by
      rw [b_law_apool_6, ev_sRet, ex, ep]
      rfl
    rw [ev_sSeq, b4]
    simp only [Option.bind_some, nxt_nx]
    rw [ev_sSeq, b5]
    simp only [Option.bind_some, nxt_nx]
    rw [b6]
    show fin 1 (.cel 1) [lstD [.int y], lstD ((poolB t w).map D.str)] = _
    exact fin_two lstD_refs lstD_refs (fun _ => lstD_mapc) fun _ => lstD_mapc
end Lw
/-! a member drawn -/
namespace Lw
open PySem PySem.Spec L2 FL
variable {a : Ad} {P : List Str}
theorem dig_at (hP : Pool P) {cl : List Cell} {i : Int} (h0 : 0 ≤ i) (h1 : i < 6) : ∃ x ∈ P, dIx cl (.d (.lst (P.map D.str))) (.d (.int i)) = some (.d (.str x), cl) := by
  have hl := hP.1
  have hi : i.toNat < P.length := by omega
  refine ⟨P[i.toNat], List.getElem_mem hi, ?_⟩
  have := at_d (cl := cl) (P := P.map D.str) (i := i.toNat) (by simpa using hi)
  rw [show ((i.toNat : Nat) : Int) = i by omega] at this
  rw [this]
  simp
def formD (k : Nat) (x : Str) : It := match k with
  | 0 => .place x
  | 1 => .call x
  | 2 => .jump x
  | _ => .whn x
theorem forms {cl : List Cell} {x : Str} : oLst false cl [.d (.tup [.str "place", .int 0, .str x, .int 0]), .d (.tup [.str "call", .str x]), .d (.tup [.str "jump", .str x]), .d (.tup [.str "when", .int 1, .str x])] = some (.d (.lst [(formD 0 x).d, (formD 1 x).d, (formD 2 x).d, (formD 3 x).d]), cl) := by
  unfold oLst
  rw [if_pos (by show 4 ≤ sizeLine; rw [sizeLine_eq]; decide)]
  rfl
theorem form_at {cl : List Cell} {x : Str} {i : Int} (h0 : 0 ≤ i) (h1 : i < 4) : dIx cl (.d (.lst [(formD 0 x).d, (formD 1 x).d, (formD 2 x).d, (formD 3 x).d])) (.d (.int i)) = some (.d (formD i.toNat x).d, cl) := by
  have := at_d (cl := cl) (P := [(formD 0 x).d, (formD 1 x).d, (formD 2 x).d, (formD 3 x).d]) (i := i.toNat) (by show i.toNat < 4; omega)
  rw [show ((i.toNat : Nat) : Int) = i by omega] at this
  rw [this]
  obtain ⟨k, hk⟩ : ∃ k : Nat, i = k := ⟨i.toNat, by omega⟩
  subst hk
  rcases (by omega : k = 0 ∨ k = 1 ∨ k = 2 ∨ k = 3) with rfl | rfl | rfl | rfl <;> rfl
theorem form_n (k : Nat) (x : Str) : (formD k x).n = x := by
  unfold formD
  split <;> rfl
/-- one item -/
theorem item_turn (hP : Pool P) {nm : Str} {z : Int} {its : List It} (hl : its.length ≤ 100) {s4 s7 s8 : Option W} : ∃ (z' : Int) (x : Str) (k : Nat) (s7' s8' : Option W), x ∈ P ∧ b_law_amember_2_f a ⟨[some (.cel 0), some (.d (.lst (P.map D.str))), some (.d (.str nm)), some (.cel 1), s4, none, none, s7, s8, none], [lstD [.int z], lstD (its.map It.d)]⟩ = some (.nx ⟨[some (.cel 0), some (.d (.lst (P.map D.str))), some (.d (.str nm)), some (.cel 1), s4, none, none, s7', s8', none], [lstD [.int z'], lstD ((its ++ [formD k x]).map It.d)]⟩) := by
  have d1 := digit_call (a := a) false (cl := [lstD [.int z], lstD (its.map It.d)]) (n := 0) (z := z) (m := 6) rfl (by decide) (by decide)
  have d1 : callC false (f_law_adigit a) [lstD [.int z], lstD (its.map It.d)] [.cel 0, .d (.int 6)] = some (.d (.int (z % 6)), [lstD [.int (z / 6)], lstD (its.map It.d)]) := d1
  obtain ⟨x, hx, e1⟩ := dig_at hP (cl := [lstD [.int (z / 6)], lstD (its.map It.d)]) (i := z % 6) (Int.emod_nonneg _ (by decide)) (Int.emod_lt_of_pos _ (by decide))
  have d2 := digit_call (a := a) false (cl := [lstD [.int (z / 6)], lstD (its.map It.d)]) (n := 0) (z := z / 6) (m := 4) rfl (by decide) (by decide)
  have d2 : callC false (f_law_adigit a) [lstD [.int (z / 6)], lstD (its.map It.d)] [.cel 0, .d (.int 4)] = some (.d (.int (z / 6 % 4)), [lstD [.int (z / 6 / 4)], lstD (its.map It.d)]) := d2
  have g0 : 0 ≤ z / 6 % 4 := Int.emod_nonneg _ (by decide)
  have g1 : z / 6 % 4 < 4 := Int.emod_lt_of_pos _ (by decide)
  refine ⟨z / 6 / 4, x, (z / 6 % 4).toNat, some (.d (.str x)), some (.d (.int (z / 6 % 4))), hx, ?_⟩
  generalize z / 6 / 4 = z2 at *
  generalize z / 6 % 4 = k at *
  generalize z / 6 = z1 at *
  generalize z % 6 = k0 at *
  have e4 := form_at (cl := [lstD [.int z2], lstD (its.map It.d)]) (x := x) g0 g1
  have e3 := forms (cl := [lstD [.int z2], lstD (its.map It.d)]) (x := x)
  have e5 := app_c (cl := [lstD [.int z2], lstD (its.map It.d)]) (n := 1) (P := its.map It.d) (x := (formD k.toNat x).d) rfl (by rw [List.length_map]; omega)
  have e5 : mAppend [lstD [.int z2], lstD (its.map It.d)] [.cel 1, .d (formD k.toNat x).d] = some (.d .non, [lstD [.int z2], lstD ((its ++ [formD k.toNat x]).map It.d)]) := by
    rw [e5]
    simp
  have e6 : isLst [lstD [.int z2], lstD (its.map It.d)] (.cel 1) = true := isLst_c rfl
  rw [b_law_amember_2_f, b_law_amember_2_f_1, b_law_amember_2_f_2, b_law_amember_2_f_3]
  generalize P.map D.str = PP at *
  generalize lstD ((its ++ [formD k.toNat x]).map It.d) = L2' at *
  generalize lstD (its.map It.d) = L1 at *
  generalize (formD k.toNat x).d = fk at *
  generalize (formD 0 x).d = f0 at *
  generalize (formD 1 x).d = f1 at *
  generalize (formD 2 x).d = f2 at *
  generalize (formD 3 x).d = f3 at *
  simp -implicitDefEqProofs [d1, d2, e1, e3, e4, e5, e6, tp2, tp3, tp4]
theorem item_loop (hP : Pool P) {nm : Str} : ∀ (ds : List W) (z : Int) (its : List It) (s4 s7 s8 : Option W), (∀ t ∈ its, t.n ∈ P) → its.length + ds.length ≤ 100 → ∃ (z' : Int) (its' : List It) (s4' s7' s8' : Option W), (∀ t ∈ its', t.n ∈ P) ∧ its'.length = its.length + ds.length ∧ forL (tName 4) (b_law_amember_2_f a) none ds ⟨[some (.cel 0), some (.d (.lst (P.map D.str))), some (.d (.str nm)), some (.cel 1), s4, none, none, s7, s8, none], [lstD [.int z], lstD (its.map It.d)]⟩ = some (.nx ⟨[some (.cel 0), some (.d (.lst (P.map D.str))), some (.d (.str nm)), some (.cel 1), s4', none, none, s7', s8', none], [lstD [.int z'], lstD (its'.map It.d)]⟩)
  | [], z, its, s4, s7, s8, hi, _ => ⟨z, its, s4, s7, s8, hi, rfl, by
    simp only [forL]
    rw [if_pos (show ckC none _ from trivial)]⟩
  | d :: ds, z, its, s4, s7, s8, hi, hl => by
    rw [List.length_cons] at hl
    obtain ⟨z1, x, k, t7, t8, hx, e⟩ := item_turn (a := a) hP (nm := nm) (z := z) (its := its) (by omega) (s4 := some d) (s7 := s7) (s8 := s8)
    obtain ⟨z2, its2, u4, u7, u8, h1, h2, ih⟩ := item_loop hP (nm := nm) ds z1 (its ++ [formD k x]) (some d) t7 t8 (fun t ht => by
      rcases List.mem_append.mp ht with h | h
      · exact hi t h
      · rw [List.mem_singleton] at h
        subst h
        rw [form_n]
        exact hx) (by rw [List.length_append, List.length_singleton]; omega)
    refine ⟨z2, its2, u4, u7, u8, h1, by rw [h2, List.length_append, List.length_singleton, List.length_cons]; omega, ?_⟩
    simp only [forL]
    rw [if_pos (show ckC none _ from trivial)]
    simp only [ev_tName, List.set_cons_succ, List.set_cons_zero, e]
    exact ih
/-- the items -/
theorem member_2 (hP : Pool P) {nm : Str} (z : Int) : ∃ (z' : Int) (its : List It) (s4 s7 s8 : Option W), (∀ t ∈ its, t.n ∈ P) ∧ its.length ≤ 3 ∧ b_law_amember_2 a ⟨[some (.cel 0), some (.d (.lst (P.map D.str))), some (.d (.str nm)), some (.cel 1), none, none, none, none, none, none], [lstD [.int z], lstD []]⟩ = some (.nx ⟨[some (.cel 0), some (.d (.lst (P.map D.str))), some (.d (.str nm)), some (.cel 1), s4, none, none, s7, s8, none], [lstD [.int z'], lstD (its.map It.d)]⟩) := by
  have d1 := digit_call (a := a) false (cl := [lstD [.int z], lstD []]) (n := 0) (z := z) (m := 4) rfl (by decide) (by decide)
  have d1 : callC false (f_law_adigit a) [lstD [.int z], lstD []] [.cel 0, .d (.int 4)] = some (.d (.int (z % 4)), [lstD [.int (z / 4)], lstD []]) := d1
  have g0 : 0 ≤ z % 4 := Int.emod_nonneg _ (by decide)
  have g1 : z % 4 < 4 := Int.emod_lt_of_pos _ (by decide)
  obtain ⟨z2, its, s4, s7, s8, h1, h2, e⟩ := item_loop (a := a) hP (nm := nm) (intsW 0 (z % 4).toNat) (z / 4) [] none none none (by simp) (by rw [intsW_len]; simp; omega)
  refine ⟨z2, its, s4, s7, s8, h1, by rw [h2, intsW_len]; simp; omega, ?_⟩
  have ei : iRng (aCons (eCall (withD [] (callC false (f_law_adigit a))) (aCons (eVar 0) (aCons (eC (.d (.int 4))) aNil))) aNil) ⟨[some (.cel 0), some (.d (.lst (P.map D.str))), some (.d (.str nm)), some (.cel 1), none, none, none, none, none, none], [lstD [.int z], lstD []]⟩ = some ((intsW 0 (z % 4).toNat, none), ⟨[some (.cel 0), some (.d (.lst (P.map D.str))), some (.d (.str nm)), some (.cel 1), none, none, none, none, none, none], [lstD [.int (z / 4)], lstD []]⟩) := by
    simp only [iRng, ev_withD, ev_call, ev_cons, ev_nil, ev_c, ev_var, List.getElem?_cons_zero, Option.bind_some, Option.map_some, d1]
    rw [if_pos (by omega)]
  rw [b_law_amember_2, ev_sFor, ei]
  exact e
end Lw
/-! a member's symbols -/
namespace Lw
open PySem PySem.Spec L2 FL
variable {a : Ad} {P : List Str}
def bnds : List Str := ["strong", "weak", "", "", "local"]
def bndA : List Str := ["strong", "weak", "", "local", "common", "maybe"]
inductive WOk : D → Prop
  | non : WOk .non
  | int (i : Int) : 0 ≤ i → i ≤ 500 → WOk (.int i)
  | pair (i : Int) : 0 ≤ i → i ≤ 1 → WOk (.tup [.int i, .int 0])
theorem bnds_in : ∀ b ∈ bnds, b ∈ bndA := by decide +kernel
theorem bnds_ok : ∀ b ∈ bnds, PyData.strOk b = true := by decide +kernel
theorem in_014 {cl : List Cell} {k : Nat} (hk : k < 11) : dIn false cl (.d (.int k)) (.d (.tup [.int 0, .int 1, .int 4])) = some (.d (.bl (decide (k = 0 ∨ k = 1 ∨ k = 4))), cl) := by
  rcases (by omega : k = 0 ∨ k = 1 ∨ k = 2 ∨ k = 3 ∨ k = 4 ∨ k = 5 ∨ k = 6 ∨ k = 7 ∨ k = 8 ∨ k = 9 ∨ k = 10) with rfl | rfl | rfl | rfl | rfl | rfl | rfl | rfl | rfl | rfl | rfl <;> rfl
theorem bnd_lst {cl : List Cell} : oLst false cl [.d (.str "strong"), .d (.str "weak"), .d (.str ""), .d (.str ""), .d (.str "local")] = some (.d (.lst (bnds.map D.str)), cl) := by
  unfold oLst
  rw [if_pos (by show 5 ≤ sizeLine; rw [sizeLine_eq]; decide)]
  rfl
theorem sym_turn {nm x : Str} {LI : Cell} {cd : D} {z : Int} {sy : List Sy} (hl : sy.length ≤ 100) {s4 s8 s9 : Option W} : ∃ (z' : Int) (s9' : Option W) (e : List Sy), (e = [] ∨ ∃ b w, e = [⟨x, b, w⟩] ∧ PyData.strOk b = true ∧ b ∈ bndA ∧ WOk w) ∧ b_law_amember_5_f a ⟨[some (.cel 0), some (.d (.lst (P.map D.str))), some (.d (.str nm)), some (.cel 1), s4, some (.d cd), some (.cel 2), some (.d (.str x)), s8, s9], [lstD [.int z], LI, lstD (sy.map Sy.d)]⟩ = some (.nx ⟨[some (.cel 0), some (.d (.lst (P.map D.str))), some (.d (.str nm)), some (.cel 1), s4, some (.d cd), some (.cel 2), some (.d (.str x)), s8, s9'], [lstD [.int z'], LI, lstD ((sy ++ e).map Sy.d)]⟩) := by
  have d1 := digit_call (a := a) false (cl := [lstD [.int z], LI, lstD (sy.map Sy.d)]) (n := 0) (z := z) (m := 11) rfl (by decide) (by decide)
  obtain ⟨k, hk⟩ : ∃ k : Nat, z % 11 = k := ⟨(z % 11).toNat, by omega⟩
  have hk11 : k < 11 := by omega
  rw [hk] at d1
  have d1 : callC false (f_law_adigit a) [lstD [.int z], LI, lstD (sy.map Sy.d)] [.cel 0, .d (.int 11)] = some (.d (.int k), [lstD [.int (z / 11)], LI, lstD (sy.map Sy.d)]) := d1
  generalize z / 11 = z1 at *
  have b1 : b_law_amember_5_f_1 a ⟨[some (.cel 0), some (.d (.lst (P.map D.str))), some (.d (.str nm)), some (.cel 1), s4, some (.d cd), some (.cel 2), some (.d (.str x)), s8, s9], [lstD [.int z], LI, lstD (sy.map Sy.d)]⟩ = some (.nx ⟨[some (.cel 0), some (.d (.lst (P.map D.str))), some (.d (.str nm)), some (.cel 1), s4, some (.d cd), some (.cel 2), some (.d (.str x)), s8, some (.d (.int k))], [lstD [.int z1], LI, lstD (sy.map Sy.d)]⟩) := by
    rw [b_law_amember_5_f_1]
    generalize P.map D.str = PP at *
    generalize lstD (sy.map Sy.d) = LS at *
    simp -implicitDefEqProofs [d1]
  have e1 := in_014 (cl := [lstD [.int z1], LI, lstD (sy.map Sy.d)]) hk11
  have e2 : eqvD false [lstD [.int z1], LI, lstD (sy.map Sy.d)] (.d (.int k)) (.d (.int 2)) = some (.d (.bl (decide (k = 2))), [lstD [.int z1], LI, lstD (sy.map Sy.d)]) := by
    rw [eqv_int]
    by_cases h : k = 2
    · subst h
      rfl
    · rw [decide_eq_false h, decide_eq_false (by omega)]
      rfl
  have e3 : eqvD false [lstD [.int z1], LI, lstD (sy.map Sy.d)] (.d (.int k)) (.d (.int 3)) = some (.d (.bl (decide (k = 3))), [lstD [.int z1], LI, lstD (sy.map Sy.d)]) := by
    rw [eqv_int]
    by_cases h : k = 3
    · subst h
      rfl
    · rw [decide_eq_false h, decide_eq_false (by omega)]
      rfl
  have app : ∀ (z2 : Int) (s : Sy), mAppend [lstD [.int z2], LI, lstD (sy.map Sy.d)] [.cel 2, .d s.d] = some (.d .non, [lstD [.int z2], LI, lstD ((sy ++ [s]).map Sy.d)]) := fun z2 s => by
    have := app_c (cl := [lstD [.int z2], LI, lstD (sy.map Sy.d)]) (n := 2) (P := sy.map Sy.d) (x := s.d) rfl (by rw [List.length_map]; omega)
    rw [this]
    simp
  have isl : isLst [lstD [.int z1], LI, lstD (sy.map Sy.d)] (.cel 2) = true := isLst_c rfl
  rw [b_law_amember_5_f, ev_sSeq, b1]
  simp only [Option.bind_some, nxt_nx]
  rw [b_law_amember_5_f_2]
  by_cases h1 : k = 0 ∨ k = 1 ∨ k = 4
  · rw [decide_eq_true h1] at e1
    have d2 := digit_call (a := a) false (cl := [lstD [.int z1], LI, lstD (sy.map Sy.d)]) (n := 0) (z := z1) (m := 2) rfl (by decide) (by decide)
    have d2 : callC false (f_law_adigit a) [lstD [.int z1], LI, lstD (sy.map Sy.d)] [.cel 0, .d (.int 2)] = some (.d (.int (z1 % 2)), [lstD [.int (z1 / 2)], LI, lstD (sy.map Sy.d)]) := d2
    have hb : k < bnds.length := by show k < 5; omega
    have e4 : dIx [lstD [.int z1], LI, lstD (sy.map Sy.d)] (.d (.lst (bnds.map D.str))) (.d (.int k)) = some (.d (.str bnds[k]), [lstD [.int z1], LI, lstD (sy.map Sy.d)]) := by
      rw [at_d (P := bnds.map D.str) (i := k) (by rw [List.length_map]; exact hb)]
      simp
    have e5 := app (z1 / 2) ⟨x, bnds[k], .tup [.int (z1 % 2), .int 0]⟩
    refine ⟨z1 / 2, some (.d (.int k)), [⟨x, bnds[k], .tup [.int (z1 % 2), .int 0]⟩], .inr ⟨_, _, rfl, bnds_ok _ (List.getElem_mem hb), bnds_in _ (List.getElem_mem hb), .pair _ (Int.emod_nonneg _ (by decide)) (by omega)⟩, ?_⟩
    have el := bnd_lst (cl := [lstD [.int z1], LI, lstD (sy.map Sy.d)])
    have e5 : mAppend [lstD [.int (z1 / 2)], LI, lstD (sy.map Sy.d)] [.cel 2, .d (.tup [.str x, .str bnds[k], .tup [.int (z1 % 2), .int 0]])] = _ := e5
    generalize lstD ((sy ++ [(⟨x, bnds[k], .tup [.int (z1 % 2), .int 0]⟩ : Sy)]).map Sy.d) = LS2 at *
    generalize z1 / 2 = z2 at *
    generalize z1 % 2 = r2 at *
    generalize bnds[k] = bk at *
    generalize P.map D.str = PP at *
    generalize bnds.map D.str = BB at *
    generalize lstD (sy.map Sy.d) = LS at *
    simp -implicitDefEqProofs [e1, e4, e5, isl, el, d2, tp2, tp3]
  · rw [decide_eq_false h1] at e1
    by_cases h2 : k = 2
    · rw [decide_eq_true h2] at e2
      have d2 := digit_call (a := a) false (cl := [lstD [.int z1], LI, lstD (sy.map Sy.d)]) (n := 0) (z := z1) (m := 500) rfl (by decide) (by decide)
      have d2 : callC false (f_law_adigit a) [lstD [.int z1], LI, lstD (sy.map Sy.d)] [.cel 0, .d (.int 500)] = some (.d (.int (z1 % 500)), [lstD [.int (z1 / 500)], LI, lstD (sy.map Sy.d)]) := d2
      have e5 := app (z1 / 500) ⟨x, "common", .int (1 + z1 % 500)⟩
      refine ⟨z1 / 500, some (.d (.int k)), [⟨x, "common", .int (1 + z1 % 500)⟩], .inr ⟨_, _, rfl, by decide +kernel, by decide +kernel, .int _ (by omega) (by omega)⟩, ?_⟩
      have e5 : mAppend [lstD [.int (z1 / 500)], LI, lstD (sy.map Sy.d)] [.cel 2, .d (.tup [.str x, .str "common", .int (1 + z1 % 500)])] = _ := e5
      generalize lstD ((sy ++ [(⟨x, "common", .int (1 + z1 % 500)⟩ : Sy)]).map Sy.d) = LS2 at *
      generalize z1 / 500 = z2 at *
      generalize z1 % 500 = r2 at *
      generalize P.map D.str = PP at *
      generalize lstD (sy.map Sy.d) = LS at *
      simp -implicitDefEqProofs [e1, e2, e5, isl, d2, tp2, tp3]
    · rw [decide_eq_false h2] at e2
      by_cases h3 : k = 3
      · rw [decide_eq_true h3] at e3
        have e5 := app z1 ⟨x, "maybe", .non⟩
        refine ⟨z1, some (.d (.int k)), [⟨x, "maybe", .non⟩], .inr ⟨_, _, rfl, by decide +kernel, by decide +kernel, .non⟩, ?_⟩
        have e5 : mAppend [lstD [.int z1], LI, lstD (sy.map Sy.d)] [.cel 2, .d (.tup [.str x, .str "maybe", .non])] = _ := e5
        generalize lstD ((sy ++ [(⟨x, "maybe", .non⟩ : Sy)]).map Sy.d) = LS2 at *
        generalize P.map D.str = PP at *
        generalize lstD (sy.map Sy.d) = LS at *
        simp -implicitDefEqProofs [e1, e2, e3, e5, isl, tp2, tp3]
      · rw [decide_eq_false h3] at e3
        refine ⟨z1, some (.d (.int k)), [], .inl rfl, ?_⟩
        rw [List.append_nil]
        generalize P.map D.str = PP at *
        generalize lstD (sy.map Sy.d) = LS at *
        simp -implicitDefEqProofs [e1, e2, e3, tp3]
end Lw
/-! a member, whole -/
namespace FL
open PySem PySem.Spec L2
theorem fin_one {c0 : Cell} {G : List Cell} {x : D} (h0 : c0.refs = []) (m0 : ∀ f, c0.mapc f = c0) : fin 1 (.d x) (c0 :: G) = some (.d x, [c0]) := by
  have e : clos (c0 :: G) ((c0 :: G).length + 1) [0] = [0] := by simp -implicitDefEqProofs [clos, cellAt, h0]
  have e2 : isPart (c0 :: G) [0] = true := by simp -implicitDefEqProofs [isPart, cellAt, h0]
  have e4 : FL.part (c0 :: G) [0] = [c0] := by simp -implicitDefEqProofs [FL.part, cellAt, m0]
  have e6 : List.range 1 ++ (((W.d x).refs.filter fun n => decide (1 ≤ n)).eraseDups) = [0] := rfl
  unfold fin
  simp only [e6, e, e2, e4]
  rfl
end FL
namespace Lw
open PySem PySem.Spec L2 FL
variable {a : Ad} {P : List Str}
theorem tupof_d {cl : List Cell} {X : List D} : oTupOf cl [.d (.lst X)] = some (.d (.tup X), cl) := by
  simp only [oTupOf, asList, tupW, datas_m]
theorem tupof_c {cl : List Cell} {n : Nat} {X : List D} (h : cl[n]? = some (lstD X)) : oTupOf cl [.cel n] = some (.d (.tup X), cl) := by
  have h' : cl[n]? = some (.lst (X.map W.d)) := h
  simp only [oTupOf, asList, h', tupW, datas_m]
theorem sym_loop {nm : Str} {LI : Cell} {cd : D} {s4 s8 : Option W} : ∀ (l : List Str) (z : Int) (sy : List Sy) (s7 s9 : Option W), sy.length + l.length ≤ 100 → ∃ (z' : Int) (e : List Sy) (s7' s9' : Option W), ((e.map Sy.n).Sublist l ∧ ∀ s ∈ e, PyData.strOk s.b = true ∧ s.b ∈ bndA ∧ WOk s.w) ∧ forL (tName 7) (b_law_amember_5_f a) none ((l.map D.str).map W.d) ⟨[some (.cel 0), some (.d (.lst (P.map D.str))), some (.d (.str nm)), some (.cel 1), s4, some (.d cd), some (.cel 2), s7, s8, s9], [lstD [.int z], LI, lstD (sy.map Sy.d)]⟩ = some (.nx ⟨[some (.cel 0), some (.d (.lst (P.map D.str))), some (.d (.str nm)), some (.cel 1), s4, some (.d cd), some (.cel 2), s7', s8, s9'], [lstD [.int z'], LI, lstD ((sy ++ e).map Sy.d)]⟩)
  | [], z, sy, s7, s9, _ => ⟨z, [], s7, s9, ⟨List.Sublist.refl _, by simp⟩, by
    simp only [List.map_nil, forL, List.append_nil]
    rw [if_pos (show ckC none _ from trivial)]⟩
  | x :: l, z, sy, s7, s9, hl => by
    rw [List.length_cons] at hl
    obtain ⟨z1, t9, e1, h1, e⟩ := sym_turn (a := a) (P := P) (nm := nm) (x := x) (LI := LI) (cd := cd) (z := z) (sy := sy) (by omega) (s4 := s4) (s8 := s8) (s9 := s9)
    have l1 : e1.length ≤ 1 := by
      rcases h1 with rfl | ⟨b, w, rfl, _⟩ <;> simp
    obtain ⟨z2, e2, u7, u9, ⟨h2, h3⟩, ih⟩ := sym_loop (nm := nm) (LI := LI) (cd := cd) (s4 := s4) (s8 := s8) l z1 (sy ++ e1) (some (.d (.str x))) t9 (by rw [List.length_append]; omega)
    refine ⟨z2, e1 ++ e2, u7, u9, ⟨?_, fun s hs => ?_⟩, ?_⟩
    · rcases h1 with rfl | ⟨b, w, rfl, _⟩
      · exact h2.cons x
      · exact h2.cons₂ x
    · rcases List.mem_append.mp hs with hs | hs
      · rcases h1 with rfl | ⟨b, w, rfl, hb⟩
        · cases hs
        · rw [List.mem_singleton] at hs
          subst hs
          exact hb
      · exact h3 s hs
    · simp only [List.map_cons, forL]
      rw [if_pos (show ckC none _ from trivial)]
      simp only [ev_tName, List.set_cons_succ, List.set_cons_zero, e]
      rw [List.append_assoc] at ih
      exact ih
theorem sorted_ld {cl : List Cell} (hP : Pool P) : oSorted false cl [.d (.lst (P.map D.str))] = some (.d (.lst ((sortT P).map D.str)), cl) := by
  have e1 : asList cl (.d (.lst (P.map D.str))) = some ((P.map D.str).map W.d) := rfl
  have em : (sortT P).map (fun i => W.d (.str i)) = ((sortT P).map D.str).map W.d := by rw [List.map_map]; rfl
  have ts := ts_strs P
  rw [show (P.map fun s => W.d (.str s)) = (P.map D.str).map W.d by rw [List.map_map]; rfl] at ts
  have hl := hP.1
  cases P with
  | nil => cases hl
  | cons s ss =>
    have e4 : sortedOf cl (.d (.lst ((s :: ss).map D.str))) = some (.inr (s :: ss)) := by
      simp only [sortedOf, e1, ts]
      rfl
    simp only [oSorted, e4]
    rw [if_pos (by omega), em]
    unfold FL.fresh
    rw [if_neg (by decide), datas_m]
    rfl
/-- the cells of data -/
theorem cells_3 (hP : Pool P) {nm : Str} (z : Int) (Q : List D) (s4 s7 s8 : Option W) : ∃ (z' : Int) (cs : List It), (∀ t ∈ cs, t.n ∈ P) ∧ cs.length ≤ 1 ∧ b_law_amember_3 a ⟨[some (.cel 0), some (.d (.lst (P.map D.str))), some (.d (.str nm)), some (.cel 1), s4, none, none, s7, s8, none], [lstD [.int z], lstD Q]⟩ = some (.nx ⟨[some (.cel 0), some (.d (.lst (P.map D.str))), some (.d (.str nm)), some (.cel 1), s4, some (.d (.tup (cs.map It.d))), none, s7, s8, none], [lstD [.int z'], lstD Q]⟩) := by
  have d1 := digit_call (a := a) false (cl := [lstD [.int z], lstD Q]) (n := 0) (z := z) (m := 2) rfl (by decide) (by decide)
  have d1 : callC false (f_law_adigit a) [lstD [.int z], lstD Q] [.cel 0, .d (.int 2)] = some (.d (.int (z % 2)), [lstD [.int (z / 2)], lstD Q]) := d1
  have ei : iRng (aCons (eCall (withD [] (callC false (f_law_adigit a))) (aCons (eVar 0) (aCons (eC (.d (.int 2))) aNil))) aNil) ⟨[some (.cel 0), some (.d (.lst (P.map D.str))), some (.d (.str nm)), some (.cel 1), s4, none, none, s7, s8, none], [lstD [.int z], lstD Q]⟩ = some ((intsW 0 (z % 2).toNat, none), ⟨[some (.cel 0), some (.d (.lst (P.map D.str))), some (.d (.str nm)), some (.cel 1), s4, none, none, s7, s8, none], [lstD [.int (z / 2)], lstD Q]⟩) := by
    simp only [iRng, ev_withD, ev_call, ev_cons, ev_nil, ev_c, ev_var, List.getElem?_cons_zero, Option.bind_some, Option.map_some, d1]
    rw [if_pos (by omega)]
  obtain ⟨cl', acc', ex, hn, z2, cs, rfl, rfl, hc, hcl⟩ := lcL_run (g := tName 4) (tt := bYes) (te := eCall oTup (aCons (eC (.d (.str "at"))) (aCons (eBin dIx (eVar 1) (eCall (withD [] (callC false (f_law_adigit a))) (aCons (eVar 0) (aCons (eC (.d (.int 6))) aNil)))) (aCons (eC (.d (.int 0))) aNil)))) (vs := [4]) (sl := [some (.cel 0), some (.d (.lst (P.map D.str))), some (.d (.str nm)), some (.cel 1), s4, none, none, s7, s8, none]) (n := 2)
    (I := fun i cl acc => ∃ (z : Int) (cs : List It), cl = [lstD [.int z], lstD Q] ∧ acc = cs.map It.d ∧ (∀ t ∈ cs, t.n ∈ P) ∧ cs.length = i) (intsW 0 (z % 2).toNat) 0 [lstD [.int (z / 2)], lstD Q] [] rfl (by rw [intsW_len, sizeLine_eq]; simp; omega)
    (fun i d cl acc hd hn ⟨z, cs, h1, h2, h3, h4⟩ => by
      subst h1 h2
      have d2 := digit_call (a := a) false (cl := [lstD [.int z], lstD Q] ++ [.lst ((cs.map It.d).map W.d)]) (n := 0) (z := z) (m := 6) rfl (by decide) (by decide)
      have d2 : callC false (f_law_adigit a) ([lstD [.int z], lstD Q] ++ [.lst ((cs.map It.d).map W.d)]) [.cel 0, .d (.int 6)] = some (.d (.int (z % 6)), [lstD [.int (z / 6)], lstD Q] ++ [.lst ((cs.map It.d).map W.d)]) := d2
      obtain ⟨x, hx, e1⟩ := dig_at hP (cl := [lstD [.int (z / 6)], lstD Q] ++ [.lst ((cs.map It.d).map W.d)]) (i := z % 6) (Int.emod_nonneg _ (by decide)) (Int.emod_lt_of_pos _ (by decide))
      refine ⟨⟨[some (.cel 0), some (.d (.lst (P.map D.str))), some (.d (.str nm)), some (.cel 1), some d, none, none, s7, s8, none], [lstD [.int z], lstD Q] ++ [.lst ((cs.map It.d).map W.d)]⟩, rfl, true, _, rfl, .inr ⟨rfl, (It.ats x).d, ⟨[some (.cel 0), some (.d (.lst (P.map D.str))), some (.d (.str nm)), some (.cel 1), some d, none, none, s7, s8, none], [lstD [.int (z / 6)], lstD Q] ++ [.lst ((cs.map It.d).map W.d)]⟩, [lstD [.int (z / 6)], lstD Q], ?_, rfl, rfl, z / 6, cs ++ [.ats x], rfl, by simp, fun t ht => ?_, by rw [List.length_append, h4]; rfl⟩⟩
      · simp only [ev_withD, ev_call, ev_cons, ev_nil, ev_c, ev_bin, ev_var, List.getElem?_cons_zero, List.getElem?_cons_succ, Option.bind_some, Option.map_some, d2, e1, tp3]
        rfl
      · rcases List.mem_append.mp ht with h | h
        · exact h3 t h
        · rw [List.mem_singleton] at h
          subst h
          exact hx) ⟨z / 2, [], rfl, rfl, by simp, rfl⟩
  refine ⟨z2, cs, hc, by rw [hcl, intsW_len]; omega, ?_⟩
  have el : eLc false (iRng (aCons (eCall (withD [] (callC false (f_law_adigit a))) (aCons (eVar 0) (aCons (eC (.d (.int 2))) aNil))) aNil)) (tName 4) bYes (eCall oTup (aCons (eC (.d (.str "at"))) (aCons (eBin dIx (eVar 1) (eCall (withD [] (callC false (f_law_adigit a))) (aCons (eVar 0) (aCons (eC (.d (.int 6))) aNil)))) (aCons (eC (.d (.int 0))) aNil)))) [4] ⟨[some (.cel 0), some (.d (.lst (P.map D.str))), some (.d (.str nm)), some (.cel 1), s4, none, none, s7, s8, none], [lstD [.int z], lstD Q]⟩ = some (.d (.lst (cs.map It.d)), ⟨[some (.cel 0), some (.d (.lst (P.map D.str))), some (.d (.str nm)), some (.cel 1), s4, none, none, s7, s8, none], [lstD [.int z2], lstD Q]⟩) := by
    unfold eLc
    rw [ei]
    have ex : lcL none (tName 4) bYes (eCall oTup (aCons (eC (.d (.str "at"))) (aCons (eBin dIx (eVar 1) (eCall (withD [] (callC false (f_law_adigit a))) (aCons (eVar 0) (aCons (eC (.d (.int 6))) aNil)))) (aCons (eC (.d (.int 0))) aNil)))) [4] [lstD [.int (z / 2)], lstD Q].length (intsW 0 (z % 2).toNat) ⟨[some (.cel 0), some (.d (.lst (P.map D.str))), some (.d (.str nm)), some (.cel 1), s4, none, none, s7, s8, none], [lstD [.int (z / 2)], lstD Q] ++ [.lst []]⟩ = _ := ex
    simp only [ex]
    generalize cs.map It.d = CS at *
    simp -implicitDefEqProofs [unCell]
  have et := tupof_d (cl := [lstD [.int z2], lstD Q]) (X := cs.map It.d)
  rw [b_law_amember_3, ev_sAsg, ev_call, ev_cons, el]
  simp only [Option.bind_some, ev_nil, Option.map_some, et]
  rfl
end Lw
/-! a member, whole -/
namespace Lw
open PySem PySem.Spec L2 FL
variable {a : Ad} {P : List Str}
structure Mb (P : List Str) (p : Pc) : Prop where
  ok : p.Ok
  po : ∀ x ∈ p.asks, x ∈ P
  sw : ∀ s ∈ p.sy, s.n ∈ P ∧ s.b ∈ bndA ∧ WOk s.w
  nw : PyData.strOk p.nm = true ∧ p.nm.length ≤ 60
  iw : ∀ t ∈ p.its ++ p.cs, t.n ∈ P
  il : p.its.length ≤ 3 ∧ p.cs.length ≤ 1 ∧ p.sy.length ≤ 6
theorem member_ok (hP : Pool P) (nm : Str) (hn : PyData.strOk nm = true ∧ nm.length ≤ 60) (z : Int) : ∃ (z' : Int) (p : Pc), Mb P p ∧ p.nm = nm ∧ f_law_amember a [lstD [.int z]] [.cel 0, .d (.lst (P.map D.str)), .d (.str nm)] = some (.d p.d, [lstD [.int z']]) := by
  have nil : ∀ cl, oLst true cl [] = some (.cel cl.length, cl ++ [lstD []]) := fun cl => by
    unfold oLst
    rw [if_pos (by simp)]
    rfl
  obtain ⟨z1, its, s4, s7, s8, hi, li, e2⟩ := member_2 (a := a) hP (nm := nm) z
  obtain ⟨z2, cs, hc, lc, e3⟩ := cells_3 (a := a) hP (nm := nm) z1 (its.map It.d) s4 s7 s8
  have ls : (sortT P).length = 6 := by
    have := (List.mergeSort_perm P leT).length_eq
    show (P.mergeSort leT).length = 6
    rw [this]
    exact hP.1
  obtain ⟨z3, sy, t7, t9, ⟨hs, hb⟩, e5⟩ := sym_loop (a := a) (P := P) (nm := nm) (LI := lstD (its.map It.d)) (cd := .tup (cs.map It.d)) (s4 := s4) (s8 := s8) (sortT P) z2 [] s7 none (by rw [ls]; decide)
  rw [List.nil_append] at e5
  have pm : ∀ x, x ∈ sortT P ↔ x ∈ P := fun x => (List.mergeSort_perm P leT).mem_iff
  have nds : (sortT P).Nodup := (List.mergeSort_perm P leT).nodup_iff.mpr hP.2.1
  have e1 : b_law_amember_1 a ⟨[some (.cel 0), some (.d (.lst (P.map D.str))), some (.d (.str nm)), none, none, none, none, none, none, none], [lstD [.int z]]⟩ = some (.nx ⟨[some (.cel 0), some (.d (.lst (P.map D.str))), some (.d (.str nm)), some (.cel 1), none, none, none, none, none, none], [lstD [.int z], lstD []]⟩) := by
    rw [b_law_amember_1]
    have := nil [lstD [.int z]]
    generalize P.map D.str = PP at *
    simp -implicitDefEqProofs [this]
  have e4 : b_law_amember_4 a ⟨[some (.cel 0), some (.d (.lst (P.map D.str))), some (.d (.str nm)), some (.cel 1), s4, some (.d (.tup (cs.map It.d))), none, s7, s8, none], [lstD [.int z2], lstD (its.map It.d)]⟩ = some (.nx ⟨[some (.cel 0), some (.d (.lst (P.map D.str))), some (.d (.str nm)), some (.cel 1), s4, some (.d (.tup (cs.map It.d))), some (.cel 2), s7, s8, none], [lstD [.int z2], lstD (its.map It.d), lstD []]⟩) := by
    rw [b_law_amember_4]
    have := nil [lstD [.int z2], lstD (its.map It.d)]
    generalize P.map D.str = PP at *
    generalize lstD (its.map It.d) = LI at *
    generalize D.tup (cs.map It.d) = CD at *
    simp -implicitDefEqProofs [this]
  have e6 : b_law_amember_5 a ⟨[some (.cel 0), some (.d (.lst (P.map D.str))), some (.d (.str nm)), some (.cel 1), s4, some (.d (.tup (cs.map It.d))), some (.cel 2), s7, s8, none], [lstD [.int z2], lstD (its.map It.d), lstD []]⟩ = forL (tName 7) (b_law_amember_5_f a) none (((sortT P).map D.str).map W.d) ⟨[some (.cel 0), some (.d (.lst (P.map D.str))), some (.d (.str nm)), some (.cel 1), s4, some (.d (.tup (cs.map It.d))), some (.cel 2), s7, s8, none], [lstD [.int z2], lstD (its.map It.d), lstD []]⟩ := by
    rw [b_law_amember_5, ev_sFor]
    have es := sorted_ld (cl := [lstD [.int z2], lstD (its.map It.d), lstD []]) hP
    have ei : iSeq (eCall (oSorted false) (aCons (eVar 1) aNil)) ⟨[some (.cel 0), some (.d (.lst (P.map D.str))), some (.d (.str nm)), some (.cel 1), s4, some (.d (.tup (cs.map It.d))), some (.cel 2), s7, s8, none], [lstD [.int z2], lstD (its.map It.d), lstD []]⟩ = some ((((sortT P).map D.str).map W.d, none), ⟨[some (.cel 0), some (.d (.lst (P.map D.str))), some (.d (.str nm)), some (.cel 1), s4, some (.d (.tup (cs.map It.d))), some (.cel 2), s7, s8, none], [lstD [.int z2], lstD (its.map It.d), lstD []]⟩) := by
      simp only [iSeq, ev_call, ev_cons, ev_nil, ev_var, List.getElem?_cons_zero, List.getElem?_cons_succ, Option.bind_some, Option.map_some, es, asTup, itemsL]
    rw [ei]
    rfl
  have e5 : forL (tName 7) (b_law_amember_5_f a) none (((sortT P).map D.str).map W.d) ⟨[some (.cel 0), some (.d (.lst (P.map D.str))), some (.d (.str nm)), some (.cel 1), s4, some (.d (.tup (cs.map It.d))), some (.cel 2), s7, s8, none], [lstD [.int z2], lstD (its.map It.d), lstD []]⟩ = _ := e5
  have e7 : b_law_amember_6 a ⟨[some (.cel 0), some (.d (.lst (P.map D.str))), some (.d (.str nm)), some (.cel 1), s4, some (.d (.tup (cs.map It.d))), some (.cel 2), t7, s8, t9], [lstD [.int z3], lstD (its.map It.d), lstD (sy.map Sy.d)]⟩ = some (.ret (.d (Pc.d ⟨nm, its, cs, sy⟩)) ⟨[some (.cel 0), some (.d (.lst (P.map D.str))), some (.d (.str nm)), some (.cel 1), s4, some (.d (.tup (cs.map It.d))), some (.cel 2), t7, s8, t9], [lstD [.int z3], lstD (its.map It.d), lstD (sy.map Sy.d)]⟩) := by
    have t1 := tupof_c (cl := [lstD [.int z3], lstD (its.map It.d), lstD (sy.map Sy.d)]) (n := 1) (X := its.map It.d) rfl
    have t2 := tupof_c (cl := [lstD [.int z3], lstD (its.map It.d), lstD (sy.map Sy.d)]) (n := 2) (X := sy.map Sy.d) rfl
    rw [b_law_amember_6]
    unfold Pc.d
    generalize lstD (its.map It.d) = LI at *
    generalize lstD (sy.map Sy.d) = LS at *
    generalize its.map It.d = I1 at *
    generalize sy.map Sy.d = S1 at *
    generalize P.map D.str = PP at *
    generalize cs.map It.d = C1 at *
    simp -implicitDefEqProofs [t1, t2, tp2, tp3, tp4]
  refine ⟨z3, ⟨nm, its, cs, sy⟩, ⟨⟨fun s h => (hb s h).1, fun s h => ?_, by show its.length + cs.length ≤ 60; omega, ?_, hs.nodup nds, fun t ht => ?_⟩, fun x hx => ?_, fun s h => ⟨(pm s.n).mp (hs.subset (List.mem_map.mpr ⟨s, h, rfl⟩)), (hb s h).2⟩, hn, fun t ht => (List.mem_append.mp ht).elim (hi t) (hc t), ⟨li, lc, by have := hs.length_le; rw [List.length_map, ls] at this; exact this⟩⟩, rfl, ?_⟩
  · exact hP.2.2.1 _ ((pm s.n).mp (hs.subset (List.mem_map.mpr ⟨s, h, rfl⟩)))
  · have := hs.length_le
    rw [List.length_map, ls] at this
    show sy.length ≤ 60
    omega
  · rcases List.mem_append.mp ht with h | h
    · exact hP.2.2.1 _ (hi t h)
    · exact hP.2.2.1 _ (hc t h)
  · have hx : x ∈ Pc.found ⟨nm, its, cs, sy⟩ := (List.mergeSort_perm _ leT).mem_iff.mp hx
    rcases add_mem cs _ hx with h | ⟨t, ht, rfl⟩
    · rcases add_mem its _ h with h | ⟨t, ht, rfl⟩
      · cases h
      · exact hi t ht
    · exact hc t ht
  · have e0 : (⟨[W.cel 0, .d (.lst (P.map D.str)), .d (.str nm)].map some ++ List.replicate (10 - [W.cel 0, .d (.lst (P.map D.str)), .d (.str nm)].length) none, [lstD [.int z]]⟩ : Rho) = ⟨[some (.cel 0), some (.d (.lst (P.map D.str))), some (.d (.str nm)), none, none, none, none, none, none, none], [lstD [.int z]]⟩ := rfl
    rw [f_law_amember, run_eq, split_law_amember, e0]
    rw [ev_sSeq, e1]
    simp only [Option.bind_some, nxt_nx]
    rw [ev_sSeq, e2]
    simp only [Option.bind_some, nxt_nx]
    rw [ev_sSeq, e3]
    simp only [Option.bind_some, nxt_nx]
    rw [ev_sSeq, e4]
    simp only [Option.bind_some, nxt_nx]
    rw [ev_sSeq, e6, e5]
    simp only [Option.bind_some, nxt_nx]
    rw [e7]
    show fin 1 (.d _) (lstD [.int z3] :: [lstD (its.map It.d), lstD (sy.map Sy.d)]) = _
    exact fin_one lstD_refs fun _ => lstD_mapc
end Lw
/-! the archives -/
namespace Lw
open PySem PySem.Spec L2 FL
variable {a : Ad} {P : List Str}
theorem member_call (hP : Pool P) (nm : Str) (hn : PyData.strOk nm = true ∧ nm.length ≤ 60) {cl : List Cell} {n : Nat} {z : Int} (h : cl[n]? = some (lstD [.int z])) : ∃ (z' : Int) (p : Pc), Mb P p ∧ callC false (f_law_amember a) cl [.cel n, .d (.lst (P.map D.str)), .d (.str nm)] = some (.d p.d, cl.set n (lstD [.int z'])) := by
  obtain ⟨z', p, hp, _, e⟩ := member_ok (a := a) hP nm hn z
  exact ⟨z', p, hp, call_leaf h (by simp) (by simp) (by simp [List.eraseDups_cons]) (by simp) (by simp [ix]) e (by simp) (by simp)⟩
theorem num_len : ∀ k : Nat, k < 40 → (Str.ofString (toString (k : Int))).length ≤ 50 := by decide +kernel
theorem nm_m : ∀ k : Nat, k < 40 → PyData.strOk (("m" : Str) ++ (toString (k : Int) : Str)) = true ∧ (("m" : Str) ++ (toString (k : Int) : Str)).length ≤ 60 := by decide +kernel
theorem nm_p : ∀ k : Nat, k < 40 → PyData.strOk (("p" : Str) ++ (toString (k : Int) : Str)) = true ∧ (("p" : Str) ++ (toString (k : Int) : Str)).length ≤ 60 := by decide +kernel
theorem str_i {cl : List Cell} {k : Nat} (h : k < 40) : oStrI cl [.d (.int k)] = some (.d (.str (toString (k : Int))), cl) := by
  have : (k : Int).natAbs.log2 < 1920 := by
    have := log2_lt (n := (k : Int).natAbs) (k := 10) (by simp; omega)
    omega
  simp only [oStrI]
  rw [if_pos this]
theorem nm_add {cl : List Cell} {s : Str} (hs : s.length = 1) {k : Nat} (h : k < 40) : dAdd false cl (.d (.str s)) (.d (.str (toString (k : Int)))) = some (.d (.str (s ++ (toString (k : Int) : Str))), cl) := by
  rw [op_dAddS, if_pos (len_small (by have := num_len k h; rw [hs]; omega))]
theorem arch_turn (hP : Pool P) {z : Int} {ars : Ars} (hl : ars.length ≤ 100) {j : Nat} (hj : j < 3) {s4 s5 : Option W} : ∃ (z' : Int) (l : List Pc) (s4' s5' : Option W), (∀ p ∈ l, Mb P p) ∧ l.length ≤ 4 ∧ b_law_aarchives_2_f a ⟨[some (.cel 0), some (.d (.lst (P.map D.str))), some (.cel 1), some (.d (.int j)), s4, s5], [lstD [.int z], lstD (ars.map fun l => .tup (l.map Pc.d))]⟩ = some (.nx ⟨[some (.cel 0), some (.d (.lst (P.map D.str))), some (.cel 1), some (.d (.int j)), s4', s5'], [lstD [.int z'], lstD ((ars ++ [l]).map fun l => .tup (l.map Pc.d))]⟩) := by
  have d1 := digit_call (a := a) false (cl := [lstD [.int z], lstD (ars.map fun l => .tup (l.map Pc.d))]) (n := 0) (z := z) (m := 5) rfl (by decide) (by decide)
  have d1 : callC false (f_law_adigit a) [lstD [.int z], lstD (ars.map fun l => .tup (l.map Pc.d))] [.cel 0, .d (.int 5)] = some (.d (.int (z % 5)), [lstD [.int (z / 5)], lstD (ars.map fun l => .tup (l.map Pc.d))]) := d1
  have g0 : 0 ≤ z % 5 := Int.emod_nonneg _ (by decide)
  have g1 : z % 5 < 5 := Int.emod_lt_of_pos _ (by decide)
  generalize z / 5 = z1 at *
  generalize z % 5 = m at *
  have hq : ∃ Q, Q = ars.map fun l => D.tup (l.map Pc.d) := ⟨_, rfl⟩
  obtain ⟨Q, eQ⟩ := hq
  have hQl : Q.length ≤ 100 := by rw [eQ, List.length_map]; exact hl
  rw [← eQ] at d1 ⊢
  have b1 : b_law_aarchives_2_f_1 a ⟨[some (.cel 0), some (.d (.lst (P.map D.str))), some (.cel 1), some (.d (.int j)), s4, s5], [lstD [.int z], lstD Q]⟩ = some (.nx ⟨[some (.cel 0), some (.d (.lst (P.map D.str))), some (.cel 1), some (.d (.int j)), some (.d (.int m)), s5], [lstD [.int z1], lstD Q]⟩) := by
    rw [b_law_aarchives_2_f_1]
    generalize P.map D.str = PP at *
    simp -implicitDefEqProofs [d1]
  obtain ⟨cl', acc', ex, hn, z2, l, rfl, rfl, hc, hcl⟩ := lcL_run (g := tName 5) (tt := bYes) (te := (eCall (withD [] (callC false (f_law_amember a))) (aCons (eVar 0) (aCons (eVar 1) (aCons (eBin (dAdd false) (eC (.d (.str "m"))) (eCall oStrI (aCons (eBin (dAdd false) (eBin dMul (eC (.d (.int 10))) (eVar 3)) (eVar 5)) aNil))) aNil))))) (vs := [5]) (sl := [some (.cel 0), some (.d (.lst (P.map D.str))), some (.cel 1), some (.d (.int j)), some (.d (.int m)), s5]) (n := 2)
    (I := fun i cl acc => ∃ (z : Int) (l : List Pc), cl = [lstD [.int z], lstD Q] ∧ acc = l.map Pc.d ∧ (∀ p ∈ l, Mb P p) ∧ l.length = i) (intsW 0 m.toNat) 0 [lstD [.int z1], lstD Q] [] rfl (by rw [intsW_len, sizeLine_eq]; simp; omega)
    (fun i d cl acc hd hn ⟨z, l, h1, h2, h3, h4⟩ => by
      subst h1 h2
      have hi : i < m.toNat := by
        have := (List.getElem?_eq_some_iff.mp hd).1
        rw [intsW_len] at this
        exact this
      rw [intsW_get m.toNat 0 i hi] at hd
      cases hd
      have nmk : 10 * j + i < 40 := by omega
      obtain ⟨z', p, hp, e⟩ := member_call (a := a) hP (("m" : Str) ++ (toString ((10 * j + i : Nat) : Int) : Str)) (nm_m _ nmk) (cl := [lstD [.int z], lstD Q] ++ [.lst ((l.map Pc.d).map W.d)]) (n := 0) (z := z) rfl
      have e : callC false (f_law_amember a) ([lstD [.int z], lstD Q] ++ [.lst ((l.map Pc.d).map W.d)]) [.cel 0, .d (.lst (P.map D.str)), .d (.str (("m" : Str) ++ (toString ((10 * j + i : Nat) : Int) : Str)))] = some (.d p.d, [lstD [.int z'], lstD Q] ++ [.lst ((l.map Pc.d).map W.d)]) := e
      have m1 : dMul ([lstD [.int z], lstD Q] ++ [.lst ((l.map Pc.d).map W.d)]) (.d (.int 10)) (.d (.int j)) = some (.d (.int (10 * j)), [lstD [.int z], lstD Q] ++ [.lst ((l.map Pc.d).map W.d)]) := by
        rw [op_dMul, if_pos (mulOk_l (log_small (by decide) (by decide)) (log_small (by omega) (by omega)))]
      have ei : (10 * (j : Int) + (0 + (i : Int))) = ((10 * j + i : Nat) : Int) := by omega
      have s1 := str_i (cl := [lstD [.int z], lstD Q] ++ [.lst ((l.map Pc.d).map W.d)]) nmk
      have n1 := nm_add (cl := [lstD [.int z], lstD Q] ++ [.lst ((l.map Pc.d).map W.d)]) (s := "m") rfl nmk
      refine ⟨⟨[some (.cel 0), some (.d (.lst (P.map D.str))), some (.cel 1), some (.d (.int j)), some (.d (.int m)), some (.d (.int (0 + (i : Int))))], [lstD [.int z], lstD Q] ++ [.lst ((l.map Pc.d).map W.d)]⟩, rfl, true, _, rfl, .inr ⟨rfl, p.d, ⟨[some (.cel 0), some (.d (.lst (P.map D.str))), some (.cel 1), some (.d (.int j)), some (.d (.int m)), some (.d (.int (0 + (i : Int))))], [lstD [.int z'], lstD Q] ++ [.lst ((l.map Pc.d).map W.d)]⟩, [lstD [.int z'], lstD Q], ?_, rfl, rfl, z', l ++ [p], rfl, by simp, fun q hq => ?_, by rw [List.length_append, h4, List.length_singleton, Nat.zero_add]⟩⟩
      · simp only [ev_withD, ev_call, ev_cons, ev_nil, ev_c, ev_bin, ev_var, List.getElem?_cons_zero, List.getElem?_cons_succ, Option.bind_some, Option.map_some, m1, op_dAdd, ei, s1, n1, e]
      · rcases List.mem_append.mp hq with h | h
        · exact h3 q h
        · rw [List.mem_singleton] at h
          subst h
          exact hp) ⟨z1, [], rfl, rfl, by simp, rfl⟩
  refine ⟨z2, l, some (.d (.int m)), s5, hc, by rw [hcl, intsW_len]; omega, ?_⟩
  have er : iRng (aCons (eVar 4) aNil) ⟨[some (.cel 0), some (.d (.lst (P.map D.str))), some (.cel 1), some (.d (.int j)), some (.d (.int m)), s5], [lstD [.int z1], lstD Q]⟩ = some ((intsW 0 m.toNat, none), ⟨[some (.cel 0), some (.d (.lst (P.map D.str))), some (.cel 1), some (.d (.int j)), some (.d (.int m)), s5], [lstD [.int z1], lstD Q]⟩) := by
    simp only [iRng, ev_cons, ev_nil, ev_var, List.getElem?_cons_zero, List.getElem?_cons_succ, Option.bind_some, Option.map_some]
    rw [if_pos (by omega)]
  have el : eLc false (iRng (aCons (eVar 4) aNil)) (tName 5) bYes (eCall (withD [] (callC false (f_law_amember a))) (aCons (eVar 0) (aCons (eVar 1) (aCons (eBin (dAdd false) (eC (.d (.str "m"))) (eCall oStrI (aCons (eBin (dAdd false) (eBin dMul (eC (.d (.int 10))) (eVar 3)) (eVar 5)) aNil))) aNil)))) [5] ⟨[some (.cel 0), some (.d (.lst (P.map D.str))), some (.cel 1), some (.d (.int j)), some (.d (.int m)), s5], [lstD [.int z1], lstD Q]⟩ = some (.d (.lst (l.map Pc.d)), ⟨[some (.cel 0), some (.d (.lst (P.map D.str))), some (.cel 1), some (.d (.int j)), some (.d (.int m)), s5], [lstD [.int z2], lstD Q]⟩) := by
    unfold eLc
    rw [er]
    have ex : lcL none (tName 5) bYes (eCall (withD [] (callC false (f_law_amember a))) (aCons (eVar 0) (aCons (eVar 1) (aCons (eBin (dAdd false) (eC (.d (.str "m"))) (eCall oStrI (aCons (eBin (dAdd false) (eBin dMul (eC (.d (.int 10))) (eVar 3)) (eVar 5)) aNil))) aNil)))) [5] [lstD [.int z1], lstD Q].length (intsW 0 m.toNat) ⟨[some (.cel 0), some (.d (.lst (P.map D.str))), some (.cel 1), some (.d (.int j)), some (.d (.int m)), s5], [lstD [.int z1], lstD Q] ++ [.lst []]⟩ = _ := ex
    simp only [ex]
    generalize l.map Pc.d = CS at *
    simp -implicitDefEqProofs [unCell]
  have et := tupof_d (cl := [lstD [.int z2], lstD Q]) (X := l.map Pc.d)
  have ea := app_c (cl := [lstD [.int z2], lstD Q]) (n := 1) (P := Q) (x := .tup (l.map Pc.d)) rfl (by omega)
  have ei : isLst [lstD [.int z1], lstD Q] (.cel 1) = true := isLst_c rfl
  rw [b_law_aarchives_2_f, ev_sSeq, b1]
  simp only [Option.bind_some, nxt_nx]
  rw [b_law_aarchives_2_f_2, ev_sExpr, ev_methT]
  simp only [ev_var, List.getElem?_cons_zero, List.getElem?_cons_succ, Option.bind_some, Option.map_some, ei, if_true, ev_cons, ev_nil]
  rw [ev_call, ev_cons, el]
  simp only [Option.bind_some, Option.map_some, ev_nil, et, ea]
  rw [eQ]
  simp
end Lw
/-! the archives, whole -/
namespace Lw
open PySem PySem.Spec L2 FL
variable {a : Ad} {P : List Str}
theorem arch_loop (hP : Pool P) : ∀ (k j : Nat) (z : Int) (ars : Ars) (s3 s4 s5 : Option W), j + k ≤ 3 → ars.length + k ≤ 100 → (∀ l ∈ ars, (∀ p ∈ l, Mb P p) ∧ l.length ≤ 4) → ∃ (z' : Int) (ars' : Ars) (s3' s4' s5' : Option W), (∀ l ∈ ars', (∀ p ∈ l, Mb P p) ∧ l.length ≤ 4) ∧ ars'.length = ars.length + k ∧
    forL (tName 3) (b_law_aarchives_2_f a) none (intsW (j : Int) k) ⟨[some (.cel 0), some (.d (.lst (P.map D.str))), some (.cel 1), s3, s4, s5], [lstD [.int z], lstD (ars.map fun l => .tup (l.map Pc.d))]⟩ = some (.nx ⟨[some (.cel 0), some (.d (.lst (P.map D.str))), some (.cel 1), s3', s4', s5'], [lstD [.int z'], lstD (ars'.map fun l => .tup (l.map Pc.d))]⟩)
  | 0, j, z, ars, s3, s4, s5, _, _, h => ⟨z, ars, s3, s4, s5, h, rfl, by
    show forL (tName 3) (b_law_aarchives_2_f a) none [] _ = _
    simp only [forL]
    rw [if_pos (show ckC none _ from trivial)]⟩
  | k + 1, j, z, ars, s3, s4, s5, hj, hl, h => by
    obtain ⟨z1, l, t4, t5, h1, h2, e⟩ := arch_turn (a := a) hP (z := z) (ars := ars) (by omega) (j := j) (by omega) (s4 := s4) (s5 := s5)
    obtain ⟨z2, ars2, u3, u4, u5, h3, h4, ih⟩ := arch_loop hP k (j + 1) z1 (ars ++ [l]) (some (.d (.int j))) t4 t5 (by omega) (by rw [List.length_append, List.length_singleton]; omega) (fun q hq => by
      rcases List.mem_append.mp hq with hq | hq
      · exact h q hq
      · rw [List.mem_singleton] at hq
        subst hq
        exact ⟨h1, h2⟩)
    refine ⟨z2, ars2, u3, u4, u5, h3, by rw [h4, List.length_append, List.length_singleton]; omega, ?_⟩
    have ei : intsW (j : Int) (k + 1) = W.d (.int j) :: intsW ((j + 1 : Nat) : Int) k := rfl
    rw [ei]
    simp only [forL]
    rw [if_pos (show ckC none _ from trivial)]
    simp only [ev_tName, List.set_cons_succ, List.set_cons_zero, e]
    exact ih
structure AOk (P : List Str) (ars : Ars) : Prop where
  mb : ∀ l ∈ ars, (∀ p ∈ l, Mb P p) ∧ l.length ≤ 4
  le : ars.length ≤ 3
theorem archives_ok (hP : Pool P) (z : Int) : ∃ (z' : Int) (ars : Ars), AOk P ars ∧ f_law_aarchives a [lstD [.int z]] [.cel 0, .d (.lst (P.map D.str))] = some (.cel 1, [lstD [.int z'], lstD (ars.map fun l => .tup (l.map Pc.d))]) := by
  have nil : oLst true [lstD [.int z]] [] = some (.cel 1, [lstD [.int z], lstD []]) := by
    unfold oLst
    rw [if_pos (by simp)]
    rfl
  have d1 := digit_call (a := a) false (cl := [lstD [.int z], lstD []]) (n := 0) (z := z) (m := 4) rfl (by decide) (by decide)
  have d1 : callC false (f_law_adigit a) [lstD [.int z], lstD []] [.cel 0, .d (.int 4)] = some (.d (.int (z % 4)), [lstD [.int (z / 4)], lstD []]) := d1
  have g0 : 0 ≤ z % 4 := Int.emod_nonneg _ (by decide)
  have g1 : z % 4 < 4 := Int.emod_lt_of_pos _ (by decide)
  obtain ⟨z2, ars, s3, s4, s5, h1, h2, e⟩ := arch_loop (a := a) hP (z % 4).toNat 0 (z / 4) [] none none none (by omega) (by simp; omega) (by simp)
  refine ⟨z2, ars, ⟨h1, by rw [h2]; simp; omega⟩, ?_⟩
  have e1 : b_law_aarchives_1 a ⟨[some (.cel 0), some (.d (.lst (P.map D.str))), none, none, none, none], [lstD [.int z]]⟩ = some (.nx ⟨[some (.cel 0), some (.d (.lst (P.map D.str))), some (.cel 1), none, none, none], [lstD [.int z], lstD []]⟩) := by
    rw [b_law_aarchives_1]
    generalize P.map D.str = PP at *
    simp -implicitDefEqProofs [nil]
  have ei : iRng (aCons (eCall (withD [] (callC false (f_law_adigit a))) (aCons (eVar 0) (aCons (eC (.d (.int 4))) aNil))) aNil) ⟨[some (.cel 0), some (.d (.lst (P.map D.str))), some (.cel 1), none, none, none], [lstD [.int z], lstD []]⟩ = some ((intsW 0 (z % 4).toNat, none), ⟨[some (.cel 0), some (.d (.lst (P.map D.str))), some (.cel 1), none, none, none], [lstD [.int (z / 4)], lstD []]⟩) := by
    simp only [iRng, ev_withD, ev_call, ev_cons, ev_nil, ev_c, ev_var, List.getElem?_cons_zero, Option.bind_some, Option.map_some, d1]
    rw [if_pos (by omega)]
  have e2 : b_law_aarchives_2 a ⟨[some (.cel 0), some (.d (.lst (P.map D.str))), some (.cel 1), none, none, none], [lstD [.int z], lstD []]⟩ = some (.nx ⟨[some (.cel 0), some (.d (.lst (P.map D.str))), some (.cel 1), s3, s4, s5], [lstD [.int z2], lstD (ars.map fun l => .tup (l.map Pc.d))]⟩) := by
    rw [b_law_aarchives_2, ev_sFor, ei]
    exact e
  have e0 : (⟨[W.cel 0, .d (.lst (P.map D.str))].map some ++ List.replicate (6 - [W.cel 0, .d (.lst (P.map D.str))].length) none, [lstD [.int z]]⟩ : Rho) = ⟨[some (.cel 0), some (.d (.lst (P.map D.str))), none, none, none, none], [lstD [.int z]]⟩ := rfl
  rw [f_law_aarchives, run_eq, split_law_aarchives, e0]
  rw [ev_sSeq, e1]
  simp only [Option.bind_some, nxt_nx]
  rw [ev_sSeq, e2]
  simp only [Option.bind_some, nxt_nx]
  rw [b_law_aarchives_3]
  show fin 1 (.cel 1) [lstD [.int z2], lstD (ars.map fun l => .tup (l.map Pc.d))] = _
  exact fin_two lstD_refs lstD_refs (fun _ => lstD_mapc) fun _ => lstD_mapc
/-- what the law calls -/
theorem archives_call (hP : Pool P) {cl : List Cell} {n : Nat} {z : Int} (h : cl[n]? = some (lstD [.int z])) : ∃ (z' : Int) (ars : Ars), AOk P ars ∧ callC false (f_law_aarchives a) cl [.cel n, .d (.lst (P.map D.str))] = some (.d (arD ars), cl.set n (lstD [.int z'])) := by
  obtain ⟨z', ars, h1, e⟩ := archives_ok (a := a) hP z
  exact ⟨z', ars, h1, call_leaf_t h (by simp) (by simp) (by simp [List.eraseDups_cons]) (by simp) (by simp [ix]) (xs := ars.map fun l => .tup (l.map Pc.d)) e (by simp) (by simp)⟩
theorem apool_call {cl : List Cell} {n : Nat} {z : Int} (h : cl[n]? = some (lstD [.int z])) : ∃ (z' : Int) (P : List Str), Pool P ∧ callC false (f_law_apool a) cl [.cel n] = some (.d (.lst (P.map D.str)), cl.set n (lstD [.int z'])) := by
  obtain ⟨z', P, e, h1⟩ := apool_ok (a := a) z
  exact ⟨z', P, h1, call_leaf_t h (by simp) (by simp) (by simp [List.eraseDups_cons]) (by simp) (by simp [ix]) (xs := P.map D.str) e (by simp) (by simp)⟩
end Lw
/-! data that repr tells -/
namespace FL
open PySem PySem.Spec L2
theorem pileN {B : Nat} : ∀ ts : List Str, (∀ t ∈ ts, t.length ≤ B) → piled ts ≤ ts.length * (B + 2)
  | [], _ => Nat.zero_le _
  | t :: ts, h => by
    have ih := pileN ts fun x hx => h x (List.mem_cons_of_mem _ hx)
    have h0 := h t List.mem_cons_self
    rw [piled_cons, List.length_cons, Nat.succ_mul]
    omega
theorem tupN {B k : Nat} {ts : List Str} (h : ∀ t ∈ ts, t.length ≤ B) (hk : ts.length ≤ k) : (tupleText ts).length ≤ k * (B + 2) + 4 := by
  have h1 : (Str.join ", " ts).length ≤ k * (B + 2) := by
    by_cases e : ts = []
    · subst e
      exact Nat.zero_le _
    · have h1 := join_length_add ts e
      have h2 := pileN ts h
      have h3 := Nat.mul_le_mul_right (B + 2) hk
      omega
  have l1 : (Str.ofString "(").length = 1 := by decide +kernel
  have l2 : (Str.ofString ",)").length = 2 := by decide +kernel
  have l3 : (Str.ofString ")").length = 1 := by decide +kernel
  unfold tupleText
  rw [strLen_append, strLen_append, l1]
  split
  · rw [l2]; omega
  · rw [l3]; omega
theorem fromN : ∀ (ts : List Str) (k : Nat) (acc : Str), (textFrom k acc ts).length ≤ acc.length + piled ts
  | [], k, acc => by
    show acc.length ≤ _
    omega
  | t :: ts, k, acc => by
    have ih := fromN ts (k + 1) (acc ++ ((if k > 0 then ", " else "" : String) : Str) ++ t)
    have l2 : ((if k > 0 then ", " else "" : String) : Str).length ≤ 2 := by
      split <;> decide +kernel
    rw [strLen_append, strLen_append] at ih
    rw [piled_cons]
    show (textFrom (k + 1) (acc ++ ((if k > 0 then ", " else "" : String) : Str) ++ t) ts).length ≤ _
    omega
theorem lstN {B k : Nat} {ts : List Str} (h : ∀ t ∈ ts, t.length ≤ B) (hk : ts.length ≤ k) : (listText ts).length ≤ k * (B + 2) + 4 := by
  have h1 := fromN ts 0 "["
  have h2 := pileN ts h
  have h3 := Nat.mul_le_mul_right (B + 2) hk
  have l1 : (Str.ofString "[").length = 1 := by decide +kernel
  have l2 : (Str.ofString "]").length = 1 := by decide +kernel
  unfold listText
  rw [strLen_append, l2]
  rw [l1] at h1
  omega
/-- p is shown within n signs, k deep -/
structure ShP (k n : Nat) (p : PyData) : Prop where
  sh : p.showable = true
  nd : p.hasDict = false
  dp : p.depth ≤ k
  ln : p.shown.length ≤ n
def ShD (k n : Nat) (d : D) : Prop := ∃ p, d.py = some p ∧ ShP k n p
theorem shA {k n : Nat} : ∀ ds : List D, (∀ d ∈ ds, ShD k n d) → ∃ ps, pyA ds = some ps ∧ ps.length = ds.length ∧ PyData.showableAll ps = true ∧ PyData.hasDictAll ps = false ∧ PyData.depthAll ps ≤ k ∧ ∀ t ∈ PyData.shownAll ps, t.length ≤ n
  | [], _ => ⟨[], rfl, rfl, rfl, rfl, Nat.zero_le _, fun t h => (nomatch h)⟩
  | d :: ds, h => by
    obtain ⟨p, e, hp⟩ := h d List.mem_cons_self
    obtain ⟨ps, e2, l, a1, a2, a3, a4⟩ := shA ds fun x hx => h x (List.mem_cons_of_mem _ hx)
    refine ⟨p :: ps, by simp [pyA, e, e2], by simp [l], ?_, ?_, ?_, ?_⟩
    · show (p.showable && PyData.showableAll ps) = true
      rw [hp.sh, a1]
      rfl
    · show (p.hasDict || PyData.hasDictAll ps) = false
      rw [hp.nd, a2]
      rfl
    · show max p.depth (PyData.depthAll ps) ≤ k
      exact Nat.max_le.mpr ⟨hp.dp, a3⟩
    · intro t ht
      rcases List.mem_cons.mp (show t ∈ p.shown :: PyData.shownAll ps from ht) with rfl | ht
      · exact hp.ln
      · exact a4 t ht
theorem shown_len : ∀ ps : List PyData, (PyData.shownAll ps).length = ps.length
  | [] => rfl
  | p :: ps => by
    show (PyData.shownAll ps).length + 1 = ps.length + 1
    rw [shown_len ps]
theorem sh_tup {k n m : Nat} {ds : List D} (h : ∀ d ∈ ds, ShD k n d) (hm : ds.length ≤ m) : ShD (k + 1) (m * (n + 2) + 4) (.tup ds) := by
  obtain ⟨ps, e, l, a1, a2, a3, a4⟩ := shA ds h
  refine ⟨.tuple ps, by simp [D.py, e], a1, a2, ?_, tupN a4 (by rw [shown_len, l]; exact hm)⟩
  show PyData.depthAll ps + 1 ≤ k + 1
  omega
theorem sh_lst {k n m : Nat} {ds : List D} (h : ∀ d ∈ ds, ShD k n d) (hm : ds.length ≤ m) : ShD (k + 1) (m * (n + 2) + 4) (.lst ds) := by
  obtain ⟨ps, e, l, a1, a2, a3, a4⟩ := shA ds h
  refine ⟨.list ps, by simp [D.py, e], a1, a2, ?_, lstN a4 (by rw [shown_len, l]; exact hm)⟩
  show PyData.depthAll ps + 1 ≤ k + 1
  omega
theorem ShD.weak {k n k' n' : Nat} {d : D} (h : ShD k n d) (hk : k ≤ k') (hn : n ≤ n') : ShD k' n' d := by
  obtain ⟨p, e, q⟩ := h
  exact ⟨p, e, q.sh, q.nd, Nat.le_trans q.dp hk, Nat.le_trans q.ln hn⟩
end FL
/-! pieces and archives are told by repr -/
namespace Lw
open PySem PySem.Spec L2 FL
variable {a : Ad} {P : List Str}
theorem all2 {p : D → Prop} {x y : D} (a : p x) (b : p y) : ∀ d ∈ [x, y], p d := fun d hd => by
  simp only [List.mem_cons, List.not_mem_nil, or_false] at hd
  rcases hd with rfl | rfl <;> assumption
theorem all3 {p : D → Prop} {x y z : D} (a : p x) (b : p y) (c : p z) : ∀ d ∈ [x, y, z], p d := fun d hd => by
  simp only [List.mem_cons, List.not_mem_nil, or_false] at hd
  rcases hd with rfl | rfl | rfl <;> assumption
theorem all4 {p : D → Prop} {x y z w : D} (a : p x) (b : p y) (c : p z) (e : p w) : ∀ d ∈ [x, y, z, w], p d := fun d hd => by
  simp only [List.mem_cons, List.not_mem_nil, or_false] at hd
  rcases hd with rfl | rfl | rfl | rfl <;> assumption
theorem text_n {s : Str} {k : Nat} (h : PyData.strOk s = true) (hl : s.length ≤ k) : (reprText s).length ≤ 10 * k + 2 := by
  have := StrLaws.reprText_len s fun c hc => by
    unfold PyData.strOk at h
    rw [Array.all_eq_true'] at h
    have := h c (by simpa using hc)
    have := of_decide_eq_true this
    omega
  omega
theorem sh_str {s : Str} {k : Nat} (h : PyData.strOk s = true) (hl : s.length ≤ k) : ShD 0 (10 * k + 2) (.str s) := ⟨.str s, rfl, rfl, rfl, Nat.le_refl _, text_n h hl⟩
theorem int_n : ∀ k : Nat, k < 600 → (Str.ofString (toString (k : Int))).length ≤ 4 := by decide +kernel
theorem sh_int {i : Int} (h0 : 0 ≤ i) (h1 : i < 600) : ShD 0 4 (.int i) := by
  obtain ⟨k, rfl⟩ : ∃ k : Nat, i = k := ⟨i.toNat, by omega⟩
  refine ⟨.int k, rfl, ?_, rfl, Nat.le_refl _, int_n k (by omega)⟩
  have := log2_lt (n := (k : Int).natAbs) (k := 10) (by simp; omega)
  show decide ((k : Int).natAbs.log2 < 1920) = true
  exact decide_eq_true (by omega)
theorem sh_non : ShD 0 4 .non := ⟨.none, rfl, rfl, rfl, Nat.le_refl _, by decide +kernel⟩
theorem lit_ok : ∀ s ∈ (["place", "call", "jump", "at", "when", "c", "d", "code", "data", "strong", "weak", "", "local", "common", "maybe"] : List Str), PyData.strOk s = true ∧ s.length ≤ 20 := by decide +kernel
theorem sh_lit {s : Str} (h : s ∈ (["place", "call", "jump", "at", "when", "c", "d", "code", "data", "strong", "weak", "", "local", "common", "maybe"] : List Str)) : ShD 0 202 (.str s) := sh_str (lit_ok s h).1 (lit_ok s h).2
theorem sh_nm (hP : Pool P) {s : Str} (h : s ∈ P) : ShD 0 202 (.str s) := sh_str (hP.2.2.1 s h) (hP.2.2.2 s h)
theorem sh_it (hP : Pool P) {t : It} (h : t.n ∈ P) : ShD 1 820 t.d := by
  have n := sh_nm hP h
  have i0 : ShD 0 202 (.int 0) := (sh_int (by decide) (by decide)).weak (Nat.le_refl _) (by decide)
  have i1 : ShD 0 202 (.int 1) := (sh_int (by decide) (by decide)).weak (Nat.le_refl _) (by decide)
  have go : ∀ ds : List D, (∀ d ∈ ds, ShD 0 202 d) → ds.length ≤ 4 → ShD 1 820 (.tup ds) := fun ds h1 h2 => sh_tup h1 h2
  cases t with
  | place x => exact go _ (all4 (sh_lit (by decide)) i0 n i0) (by simp)
  | call x => exact go _ (all2 (sh_lit (by decide)) n) (by simp)
  | jump x => exact go _ (all2 (sh_lit (by decide)) n) (by simp)
  | ats x => exact go _ (all3 (sh_lit (by decide)) n i0) (by simp)
  | whn x => exact go _ (all3 (sh_lit (by decide)) i1 n) (by simp)
theorem bnd_lit : ∀ b ∈ bndA, b ∈ (["place", "call", "jump", "at", "when", "c", "d", "code", "data", "strong", "weak", "", "local", "common", "maybe"] : List Str) := by decide +kernel
theorem sh_sy (hP : Pool P) {s : Sy} (h : s.n ∈ P ∧ s.b ∈ bndA ∧ WOk s.w) : ShD 2 900 s.d := by
  have hw : ShD 1 202 s.w := by
    obtain ⟨_, _, w⟩ := h
    generalize s.w = sw at w ⊢
    cases w with
    | non => exact sh_non.weak (by decide) (by decide)
    | int i a b => exact (sh_int a (by omega)).weak (by decide) (by decide)
    | pair i a b => exact (sh_tup (k := 0) (n := 4) (m := 2) (all2 (sh_int a (by omega)) (sh_int (by decide) (by decide))) (by simp)).weak (by decide) (by decide)
  exact (sh_tup (k := 1) (n := 202) (m := 3) (all3 ((sh_nm hP h.1).weak (by decide) (Nat.le_refl _)) ((sh_lit (bnd_lit _ h.2.1)).weak (by decide) (Nat.le_refl _)) hw) (by simp)).weak (by decide) (by decide)
/-- a piece is told within so many signs -/
theorem sh_pc (hP : Pool P) {p : Pc} (h : Mb P p) : ShD 5 79000 p.d := by
  have s1 : ShD 2 3000 (.tup (p.its.map It.d)) := (sh_tup (k := 1) (n := 820) (m := 3) (fun d hd => by
    obtain ⟨t, ht, rfl⟩ := List.mem_map.mp hd
    exact sh_it hP (h.iw t (List.mem_append_left _ ht))) (by rw [List.length_map]; exact h.il.1)).weak (by decide) (by decide)
  have s2 : ShD 2 3000 (.tup (p.cs.map It.d)) := (sh_tup (k := 1) (n := 820) (m := 1) (fun d hd => by
    obtain ⟨t, ht, rfl⟩ := List.mem_map.mp hd
    exact sh_it hP (h.iw t (List.mem_append_right _ ht))) (by rw [List.length_map]; exact h.il.2.1)).weak (by decide) (by decide)
  have s3 : ShD 3 6000 (.tup (p.sy.map Sy.d)) := (sh_tup (k := 2) (n := 900) (m := 6) (fun d hd => by
    obtain ⟨s, hs, rfl⟩ := List.mem_map.mp hd
    exact sh_sy hP (h.sw s hs)) (by rw [List.length_map]; exact h.il.2.2)).weak (by decide) (by decide)
  have l : ∀ s : Str, s ∈ (["place", "call", "jump", "at", "when", "c", "d", "code", "data", "strong", "weak", "", "local", "common", "maybe"] : List Str) → ShD 2 3000 (.str s) := fun s hs => (sh_lit hs).weak (by decide) (by decide)
  have i1 : ShD 2 3000 (.int 1) := (sh_int (by decide) (by decide)).weak (by decide) (by decide)
  have c1 : ShD 3 13000 (.tup [.str "c", .str "code", .int 1, .tup (p.its.map It.d)]) := (sh_tup (k := 2) (n := 3000) (m := 4) (all4 (l _ (by decide)) (l _ (by decide)) i1 s1) (by simp)).weak (by decide) (by decide)
  have c2 : ShD 3 13000 (.tup [.str "d", .str "data", .int 1, .tup (p.cs.map It.d)]) := (sh_tup (k := 2) (n := 3000) (m := 4) (all4 (l _ (by decide)) (l _ (by decide)) i1 s2) (by simp)).weak (by decide) (by decide)
  have c3 : ShD 4 26100 (.tup [.tup [.str "c", .str "code", .int 1, .tup (p.its.map It.d)], .tup [.str "d", .str "data", .int 1, .tup (p.cs.map It.d)]]) := (sh_tup (k := 3) (n := 13000) (m := 2) (all2 c1 c2) (by simp)).weak (by decide) (by decide)
  have n0 : ShD 4 26100 (.str p.nm) := (sh_str (k := 60) h.nw.1 h.nw.2).weak (by decide) (by decide)
  exact (sh_tup (k := 4) (n := 26100) (m := 3) (all3 n0 c3 (s3.weak (by decide) (by decide))) (by simp)).weak (Nat.le_refl _) (by decide)
end Lw
/-! calls of the law, repr -/
namespace FL
open PySem PySem.Spec L2
/-- a call that tells one new list, as a cell -/
theorem call_oneT {f : OpN} {cl : List Cell} {ws : List W} {P : List D} (h1 : refsA ws = []) (h2 : ∀ g, mapcA g ws = ws) (h : f [] ws = some (.cel 0, [lstD P])) : callC true f cl ws = some (.cel cl.length, cl ++ [lstD P]) := by
  have e : idsOf cl ws = [] := by
    unfold idsOf
    rw [h1]
    simp [clos]
  refine callT_of (st := [lstD P]) (st0 := []) (ws0 := ws) e rfl (by rw [h1]; rfl) rfl (h2 _) h ?_ ?_
  · simp [back]
  · simp [merge, setAll]
/-- repr of a datum that is told -/
theorem repr_d {k n : Nat} {d : D} (h : ShD k n d) (hk : k ≤ 60) (hn : n ≤ sizeLine) (hd : ∀ p, d.py = some p → PyProof.Rows.isDisplay p = true) : ∃ p, d.py = some p ∧ ∀ cl w, pyV cl 8 w = some p → oReprV cl [w] = some (.d (.str p.shown), cl) := by
  obtain ⟨p, e, q⟩ := h
  refine ⟨p, e, fun cl w hw => ?_⟩
  simp only [oReprV, hw]
  rw [if_pos ⟨hd p e, q.sh, q.nd, Nat.le_trans q.dp hk, Nat.le_trans q.ln hn⟩]
end FL
/-! the pieces of the law -/
namespace Lw
open PySem PySem.Spec L2 FL
variable {a : Ad} {P : List Str}
theorem set_tape {G R : List Cell} {c d : Cell} : (G ++ [c] ++ R).set G.length d = G ++ [d] ++ R := by simp
theorem get_tape {G R : List Cell} {c : Cell} : (G ++ [c] ++ R)[G.length]? = some c := by simp
theorem unCell_d {cl : List Cell} {Q : List D} {sl : List (Option W)} (wf : (cl.all fun k => k.refs.all fun j => decide (j < cl.length)) = true) : unCell false cl.length ⟨sl, cl ++ [.lst (Q.map W.d)]⟩ = some (.d (.lst Q), ⟨sl, cl⟩) := by
  have e2 : ∀ c : Cell, (cl ++ [c])[cl.length]? = some c := by simp
  have e3 : ∀ c : Cell, (cl ++ [c]).take cl.length = cl := by simp
  simp only [unCell, e2, e3, datas_m]
  rw [if_neg (by decide), if_pos ⟨by simp, wf⟩]
theorem wf_leaf {cl : List Cell} (h : ∀ c ∈ cl, c.refs = []) : (cl.all fun k => k.refs.all fun j => decide (j < cl.length)) = true := by
  rw [List.all_eq_true]
  intro c hc
  rw [h c hc]
  rfl
theorem pieces_3 (hP : Pool P) {scr : W} {j : Nat} {G : List Cell} (hG : ∀ c ∈ G, c.refs = []) (z : Int) {s4 s5 s6 s7 s8 s9 s10 : Option W} : ∃ (z' : Int) (ps : List Pc), (∀ p ∈ ps, Mb P p) ∧ ps.length ≤ 2 ∧ b_law_1_f_3 a ⟨[some scr, some (.d (.int j)), some (.cel G.length), some (.d (.lst (P.map D.str))), s4, s5, s6, s7, s8, s9, s10], G ++ [lstD [.int z]]⟩ = some (.nx ⟨[some scr, some (.d (.int j)), some (.cel G.length), some (.d (.lst (P.map D.str))), some (.d (.lst (ps.map Pc.d))), s5, s6, s7, s8, s9, s10], G ++ [lstD [.int z']]⟩) := by
  have d1 := digit_call (a := a) false (cl := G ++ [lstD [.int z]] ++ []) (n := G.length) (z := z) (m := 3) get_tape (by decide) (by decide)
  rw [set_tape, List.append_nil, List.append_nil] at d1
  have g0 : 0 ≤ z % 3 := Int.emod_nonneg _ (by decide)
  have g1 : z % 3 < 3 := Int.emod_lt_of_pos _ (by decide)
  have ei : iRng (aCons (eCall (withD [] (callC false (f_law_adigit a))) (aCons (eVar 2) (aCons (eC (.d (.int 3))) aNil))) aNil) ⟨[some scr, some (.d (.int j)), some (.cel G.length), some (.d (.lst (P.map D.str))), s4, s5, s6, s7, s8, s9, s10], G ++ [lstD [.int z]]⟩ = some ((intsW 0 (z % 3).toNat, none), ⟨[some scr, some (.d (.int j)), some (.cel G.length), some (.d (.lst (P.map D.str))), s4, s5, s6, s7, s8, s9, s10], G ++ [lstD [.int (z / 3)]]⟩) := by
    simp only [iRng, ev_withD, ev_call, ev_cons, ev_nil, ev_c, ev_var, List.getElem?_cons_zero, List.getElem?_cons_succ, Option.bind_some, Option.map_some, d1]
    rw [if_pos (by omega)]
  obtain ⟨cl', acc', ex, hn, z2, ps, rfl, rfl, hc, hcl⟩ := lcL_run (g := tName 9) (tt := bYes) (te := (eCall (withD [] (callC false (f_law_amember a))) (aCons (eVar 2) (aCons (eVar 3) (aCons (eBin (dAdd false) (eC (.d (.str "p"))) (eCall oStrI (aCons (eVar 9) aNil))) aNil))))) (vs := [9]) (sl := [some scr, some (.d (.int j)), some (.cel G.length), some (.d (.lst (P.map D.str))), s4, s5, s6, s7, s8, s9, s10]) (n := G.length + 1)
    (I := fun i cl acc => ∃ (z : Int) (ps : List Pc), cl = G ++ [lstD [.int z]] ∧ acc = ps.map Pc.d ∧ (∀ p ∈ ps, Mb P p) ∧ ps.length = i) (intsW 0 (z % 3).toNat) 0 (G ++ [lstD [.int (z / 3)]]) [] (by simp) (by rw [intsW_len, sizeLine_eq]; simp; omega)
    (fun i d cl acc hd hn ⟨z, ps, h1, h2, h3, h4⟩ => by
      subst h1 h2
      have hi : i < 3 := by
        have := (List.getElem?_eq_some_iff.mp hd).1
        rw [intsW_len] at this
        omega
      rw [intsW_get _ 0 i (by have := (List.getElem?_eq_some_iff.mp hd).1; rw [intsW_len] at this; exact this)] at hd
      cases hd
      obtain ⟨z', p, hp, e⟩ := member_call (a := a) hP (("p" : Str) ++ (toString (i : Int) : Str)) (nm_p i (by omega)) (cl := G ++ [lstD [.int z]] ++ [.lst ((ps.map Pc.d).map W.d)]) (n := G.length) (z := z) get_tape
      rw [set_tape] at e
      have s1 := str_i (cl := G ++ [lstD [.int z]] ++ [.lst ((ps.map Pc.d).map W.d)]) (k := i) (by omega)
      have n1 := nm_add (cl := G ++ [lstD [.int z]] ++ [.lst ((ps.map Pc.d).map W.d)]) (s := "p") rfl (k := i) (by omega)
      refine ⟨⟨[some scr, some (.d (.int j)), some (.cel G.length), some (.d (.lst (P.map D.str))), s4, s5, s6, s7, s8, some (.d (.int (0 + (i : Int)))), s10], G ++ [lstD [.int z]] ++ [.lst ((ps.map Pc.d).map W.d)]⟩, rfl, true, _, rfl, .inr ⟨rfl, p.d, ⟨[some scr, some (.d (.int j)), some (.cel G.length), some (.d (.lst (P.map D.str))), s4, s5, s6, s7, s8, some (.d (.int (0 + (i : Int)))), s10], G ++ [lstD [.int z']] ++ [.lst ((ps.map Pc.d).map W.d)]⟩, G ++ [lstD [.int z']], ?_, rfl, by simp, z', ps ++ [p], rfl, by simp, fun q hq => ?_, by rw [List.length_append, h4, List.length_singleton, Nat.zero_add]⟩⟩
      · rw [Int.zero_add]
        simp only [ev_withD, ev_call, ev_cons, ev_nil, ev_c, ev_bin, ev_var, List.getElem?_cons_zero, List.getElem?_cons_succ, Option.bind_some, Option.map_some, s1, n1, e]
      · rcases List.mem_append.mp hq with h | h
        · exact h3 q h
        · rw [List.mem_singleton] at h
          subst h
          exact hp) ⟨z / 3, [], rfl, rfl, by simp, rfl⟩
  refine ⟨z2, ps, hc, by rw [hcl, intsW_len]; omega, ?_⟩
  have hl : ∀ z : Int, (G ++ [lstD [.int z]]).length = G.length + 1 := fun z => by simp
  have wf : ((G ++ [lstD [.int z2]]).all fun k => k.refs.all fun j => decide (j < (G ++ [lstD [.int z2]]).length)) = true := wf_leaf fun c hc => by
    rcases List.mem_append.mp hc with h | h
    · exact hG c h
    · rw [List.mem_singleton] at h
      subst h
      exact lstD_refs
  have eu := unCell_d (cl := G ++ [lstD [.int z2]]) (Q := ps.map Pc.d) (sl := [some scr, some (.d (.int j)), some (.cel G.length), some (.d (.lst (P.map D.str))), s4, s5, s6, s7, s8, s9, s10]) wf
  rw [hl] at eu
  have el : eLc false (iRng (aCons (eCall (withD [] (callC false (f_law_adigit a))) (aCons (eVar 2) (aCons (eC (.d (.int 3))) aNil))) aNil)) (tName 9) bYes (eCall (withD [] (callC false (f_law_amember a))) (aCons (eVar 2) (aCons (eVar 3) (aCons (eBin (dAdd false) (eC (.d (.str "p"))) (eCall oStrI (aCons (eVar 9) aNil))) aNil)))) [9] ⟨[some scr, some (.d (.int j)), some (.cel G.length), some (.d (.lst (P.map D.str))), s4, s5, s6, s7, s8, s9, s10], G ++ [lstD [.int z]]⟩ = some (.d (.lst (ps.map Pc.d)), ⟨[some scr, some (.d (.int j)), some (.cel G.length), some (.d (.lst (P.map D.str))), s4, s5, s6, s7, s8, s9, s10], G ++ [lstD [.int z2]]⟩) := by
    unfold eLc
    rw [ei]
    simp only [hl]
    have ex : lcL none (tName 9) bYes (eCall (withD [] (callC false (f_law_amember a))) (aCons (eVar 2) (aCons (eVar 3) (aCons (eBin (dAdd false) (eC (.d (.str "p"))) (eCall oStrI (aCons (eVar 9) aNil))) aNil)))) [9] (G.length + 1) (intsW 0 (z % 3).toNat) ⟨[some scr, some (.d (.int j)), some (.cel G.length), some (.d (.lst (P.map D.str))), s4, s5, s6, s7, s8, s9, s10], G ++ [lstD [.int (z / 3)]] ++ [.lst []]⟩ = _ := ex
    simp only [ex]
    exact eu
  rw [b_law_1_f_3, ev_sAsg, el]
  rfl
end Lw
/-! the reasons are told by repr -/
namespace Lw
open PySem PySem.Spec L2 FL
def VOk (d : D) : Prop := ∃ i : Nat, i < 600 ∧ d = .int i
theorem askP_v {lx : Str → Bool} {i : Nat} (hi : i < 600) : ∀ (l : List Str) (kv : Kvs), (∀ q ∈ kv, VOk q.2) → ∀ q ∈ askP lx i kv l, VOk q.2
  | [], kv, h => h
  | x :: l, kv, h => by
    refine askP_v hi l (if lx x then kv else sdD kv x (.int i)) fun q hq => ?_
    split at hq
    · exact h q hq
    · unfold sdD at hq
      split at hq
      · exact h q hq
      · rcases List.mem_append.mp hq with hq | hq
        · exact h q hq
        · rw [List.mem_singleton] at hq
          subst hq
          exact ⟨i, hi, rfl⟩
theorem askL_v : ∀ (ps : List Pc) (i : Nat) (kv : Kvs), i + ps.length ≤ 600 → (∀ q ∈ kv, VOk q.2) → ∀ q ∈ askL ps i kv, VOk q.2
  | [], i, kv, _, h => h
  | p :: ps, i, kv, hi, h => askL_v ps (i + 1) _ (by rw [List.length_cons] at hi; omega) (askP_v (by rw [List.length_cons] at hi; omega) _ _ h)
theorem look_v {kv : Kvs} (h : ∀ q ∈ kv, VOk q.2) {x : Str} {v : D} (hv : lookD kv x = some v) : VOk v := by
  induction kv with
  | nil => cases hv
  | cons q kv ih =>
    have hv : (if q.1 = x then some q.2 else lookD kv x) = some v := hv
    split at hv
    · cases hv
      exact h q List.mem_cons_self
    · exact ih (fun r hr => h r (List.mem_cons_of_mem _ hr)) hv
theorem pick_v {P : List Str} {p : Pc} {ov : Kvs} (hk : ∀ x ∈ keysOf ov, x ∈ P) (hv : ∀ q ∈ ov, VOk q.2) {r : Str × D} (h : pick p ov = some r) : r.1 ∈ P ∧ VOk r.2 := by
  unfold pick at h
  split at h
  · cases h
  · rename_i x xs hc
    obtain ⟨v, h1, h2⟩ := Option.map_eq_some_iff.mp h
    subst h2
    have hm := (minT_ok x xs).1
    rw [← hc] at hm
    have hs := (List.mem_filter.mp hm).2
    rw [look_none] at hs
    exact ⟨hk _ (by simpa using hs), look_v hv h1⟩
theorem nxt1_v {P : List Str} {ars : Ars} {ov : Kvs} {dn : List (Nat × Nat)} (hk : ∀ x ∈ keysOf ov, x ∈ P) (hv : ∀ q ∈ ov, VOk q.2) {r : Rs} : ∀ {sp : List (Nat × Nat)}, nxt1 ars ov dn sp = some r → r.2.1 ∈ P ∧ VOk r.2.2
  | [], h => (nomatch h)
  | q :: sp, h => by
    unfold nxt1 at h
    split at h
    · rename_i r' hr
      split at h
      · exact nxt1_v hk hv h
      · cases h
        obtain ⟨p, _, hp⟩ := Option.bind_eq_some_iff.mp hr
        exact pick_v hk hv hp
    · exact nxt1_v hk hv h
theorem opens_v {ps : List Pc} (h : ps.length ≤ 600) : ∀ q ∈ opens ps, VOk q.2 := fun q hq => askL_v ps 0 [] (by omega) (by simp) q (List.mem_filter.mp hq).1
theorem opens_k {P : List Str} {ps : List Pc} (hp : ∀ p ∈ ps, ∀ x ∈ p.asks, x ∈ P) : ∀ x ∈ keysOf (opens ps), x ∈ P := fun x hx => by
  obtain ⟨q, hq, rfl⟩ := List.mem_map.mp hx
  rcases askL_sub ps 0 [] (List.mem_map.mpr ⟨q, (List.mem_filter.mp hq).1, rfl⟩) with h | ⟨p, hp', h⟩
  · cases h
  · exact hp p hp' _ h
end Lw
/-! what is drawn keeps the pool -/
namespace Lw
open PySem PySem.Spec L2 FL
structure Dm (P : List Str) (ars : Ars) (s : Ds) : Prop where
  mb : ∀ p ∈ s.ps, Mb P p
  rs : ∀ r ∈ s.rs, r.2.1 ∈ P ∧ VOk r.2.2 ∧ (pcAt ars r.1).isSome = true
theorem Dm.next {P : List Str} {ars : Ars} (ha : AOk P ars) {s : Ds} (h : Dm P ars s) (hl : s.ps.length ≤ 600) {sp : List (Nat × Nat)} {r : Rs} (hr : nxt1 ars (opens s.ps) s.dn sp = some r) : Dm P ars (s.next ars r) := by
  obtain ⟨_, _, m3⟩ := nxt1_mem hr
  obtain ⟨p, hp⟩ := Option.isSome_iff_exists.mp m3
  obtain ⟨l, h1, h2⟩ := Option.bind_eq_some_iff.mp hp
  have hm : Mb P p := (ha.mb l (List.mem_of_getElem? h1)).1 p (List.mem_of_getElem? h2)
  obtain ⟨v1, v2⟩ := nxt1_v (opens_k fun q hq => (h.mb q hq).po) (opens_v hl) hr
  refine ⟨fun q hq => ?_, fun q hq => ?_⟩
  · have hq : q ∈ s.ps ++ (pcAt ars r.1).toList := hq
    rw [hp] at hq
    rcases List.mem_append.mp hq with hq | hq
    · exact h.mb q hq
    · have : q = p := by simpa using hq
      subst this
      exact hm
  · have hq : q ∈ s.rs ++ [r] := hq
    rcases List.mem_append.mp hq with hq | hq
    · exact h.rs q hq
    · rw [List.mem_singleton] at hq
      subst hq
      exact ⟨v1, v2, m3⟩
end Lw
/-! over the rows -/
namespace Lw
open PySem PySem.Spec L2 FL
theorem next_len {ars : Ars} {s : Ds} {r : Rs} : (s.next ars r).ps.length ≤ s.ps.length + 1 := by
  show (s.ps ++ (pcAt ars r.1).toList).length ≤ _
  rw [List.length_append]
  cases pcAt ars r.1 <;> simp
theorem rn_inv {P : List Str} {ars : Ars} (ha : AOk P ars) {sp : List (Nat × Nat)} {n : Nat} {s t : Ds} (h : Rn ars sp n s t) : Dm P ars s → s.ps.length + n ≤ 600 → Dm P ars t ∧ t.ps.length ≤ s.ps.length + n ∧ t.rs.length = s.rs.length + n := by
  induction h with
  | stop _ => exact fun d _ => ⟨d, Nat.le_refl _, rfl⟩
  | @go s t n r hr _ ih =>
    intro d hl
    have ln := next_len (ars := ars) (s := s) (r := r)
    obtain ⟨d2, l2, l3⟩ := ih (d.next ha (by omega) hr) (by omega)
    refine ⟨d2, by omega, ?_⟩
    rw [l3]
    show (s.rs ++ [r]).length + n = _
    rw [List.length_append, List.length_singleton]
    omega
theorem rr_inv {P : List Str} {ars : Ars} (ha : AOk P ars) {rows : List (List (Nat × Nat))} {s t : Ds} (h : RR ars rows s t) : Dm P ars s → s.ps.length + total rows ≤ 600 → Dm P ars t ∧ t.ps.length ≤ s.ps.length + total rows ∧ t.rs.length ≤ s.rs.length + total rows := by
  induction h with
  | nil => exact fun d _ => ⟨d, by simp [total], by simp [total]⟩
  | @cons s m t n sp rows hn h1 _ ih =>
    intro d hl
    have ht : total (sp :: rows) = sp.length + total rows := by simp [total]
    rw [ht] at hl ⊢
    obtain ⟨d2, l2, l3⟩ := rn_inv ha h1 d (by omega)
    obtain ⟨d3, l4, l5⟩ := ih d2 (by omega)
    exact ⟨d3, by omega, by omega⟩
end Lw
/-! repr of what is drawn, and of what it is drawn from -/
namespace Lw
open PySem PySem.Spec L2 FL
variable {P : List Str} {ars : Ars}
theorem at_lt (ha : AOk P ars) {q : Nat × Nat} (h : (pcAt ars q).isSome = true) : q.1 < 600 ∧ q.2 < 600 := by
  obtain ⟨p, hp⟩ := Option.isSome_iff_exists.mp h
  obtain ⟨l, h1, h2⟩ := Option.bind_eq_some_iff.mp hp
  have l1 := (List.getElem?_eq_some_iff.mp h1).1
  have l2 := (List.getElem?_eq_some_iff.mp h2).1
  have := ha.le
  have := (ha.mb l (List.mem_of_getElem? h1)).2
  omega
theorem sh_res (hP : Pool P) (ha : AOk P ars) {r : Rs} (h : r.2.1 ∈ P ∧ VOk r.2.2 ∧ (pcAt ars r.1).isSome = true) : ShD 1 820 (resD r) := by
  obtain ⟨h1, ⟨i, hi, e⟩, h3⟩ := h
  obtain ⟨q1, q2⟩ := at_lt ha h3
  have go : ∀ k : Nat, k < 600 → ShD 0 202 (.int k) := fun k hk => (sh_int (by omega) (by omega)).weak (Nat.le_refl _) (by decide)
  refine sh_tup (k := 0) (n := 202) (m := 4) (all4 (go _ q1) (go _ q2) (sh_nm hP h1) ?_) (by simp)
  rw [e]
  exact go i hi
theorem sh_ps (hP : Pool P) {ps : List Pc} (h : ∀ p ∈ ps, Mb P p) (hl : ps.length ≤ 20) : ShD 6 1600000 (.lst (ps.map Pc.d)) := (sh_lst (k := 5) (n := 79000) (m := 20) (fun d hd => by
  obtain ⟨p, hp, rfl⟩ := List.mem_map.mp hd
  exact sh_pc hP (h p hp)) (by rw [List.length_map]; exact hl)).weak (Nat.le_refl _) (by decide)
theorem sh_rs (hP : Pool P) (ha : AOk P ars) {rs : List Rs} (h : ∀ r ∈ rs, r.2.1 ∈ P ∧ VOk r.2.2 ∧ (pcAt ars r.1).isSome = true) (hl : rs.length ≤ 20) : ShD 6 1600000 (.lst (rs.map resD)) := (sh_lst (k := 1) (n := 820) (m := 20) (fun d hd => by
  obtain ⟨r, hr, rfl⟩ := List.mem_map.mp hd
  exact sh_res hP ha (h r hr)) (by rw [List.length_map]; exact hl)).weak (by decide) (by decide)
theorem sh_due (hP : Pool P) (ha : AOk P ars) {ps : List Pc} {rs : List Rs} (h : ∀ p ∈ ps, Mb P p) (hl : ps.length ≤ 20) (h2 : ∀ r ∈ rs, r.2.1 ∈ P ∧ VOk r.2.2 ∧ (pcAt ars r.1).isSome = true) (hl2 : rs.length ≤ 20) : ShD 7 4000000 (.tup [.lst (ps.map Pc.d), .lst (rs.map resD)]) :=
  (sh_tup (k := 6) (n := 1600000) (m := 2) (all2 (sh_ps hP h hl) (sh_rs hP ha h2 hl2)) (by simp)).weak (Nat.le_refl _) (by decide)
theorem sh_ars (hP : Pool P) (ha : AOk P ars) : ShD 7 1600000 (arD ars) := (sh_lst (k := 6) (n := 320000) (m := 3) (fun d hd => by
  obtain ⟨l, hl, rfl⟩ := List.mem_map.mp hd
  exact (sh_tup (k := 5) (n := 79000) (m := 4) (fun d hd => by
    obtain ⟨p, hp, rfl⟩ := List.mem_map.mp hd
    exact sh_pc hP ((ha.mb l hl).1 p hp)) (by rw [List.length_map]; exact (ha.mb l hl).2)).weak (Nat.le_refl _) (by decide)) (by rw [List.length_map]; exact ha.le)).weak (Nat.le_refl _) (by decide)
theorem sh_both (hP : Pool P) (ha : AOk P ars) {ps : List Pc} (h : ∀ p ∈ ps, Mb P p) (hl : ps.length ≤ 20) : ShD 8 4000000 (.lst [.lst (ps.map Pc.d), arD ars]) :=
  (sh_lst (k := 7) (n := 1600000) (m := 2) (all2 ((sh_ps hP h hl).weak (by decide) (Nat.le_refl _)) (sh_ars hP ha)) (by simp)).weak (Nat.le_refl _) (by decide)
end Lw
/-! the start of the drawing, from the law's pieces and archives -/
namespace Lw
open PySem PySem.Spec L2 FL
variable {P : List Str} {ars : Ars} {a : Ad}
theorem total_le : ∀ (l : List (List Pc)) (i : Nat), (∀ r ∈ l, r.length ≤ 4) → total (rowsL l i) ≤ 4 * l.length
  | [], i, _ => by simp [rowsL, total]
  | r :: l, i, h => by
    have ih := total_le l (i + 1) fun q hq => h q (List.mem_cons_of_mem _ hq)
    have h0 := h r List.mem_cons_self
    have e : total (rowsL (r :: l) i) = r.length + total (rowsL l (i + 1)) := by simp [rowsL, total]
    rw [e, List.length_cons]
    omega
theorem AOk.total (ha : AOk P ars) : Lw.total (rowsL ars 0) ≤ 12 := by
  have := total_le ars 0 fun r hr => (ha.mb r hr).2
  have := ha.le
  omega
theorem AOk.ain (ha : AOk P ars) : ArsIn P ars := ⟨⟨fun l hl p hp => ((ha.mb l hl).1 p hp).ok⟩, fun l hl p hp => ((ha.mb l hl).1 p hp).po⟩
theorem AOk.sz (ha : AOk P ars) : ars.length ≤ 1000 ∧ ∀ l ∈ ars, l.length ≤ 1000 := ⟨by have := ha.le; omega, fun l hl => by have := (ha.mb l hl).2; omega⟩
theorem dk_start (ha : AOk P ars) {ps : List Pc} (h : ∀ p ∈ ps, Mb P p) (hl : ps.length ≤ 2) : Dk P ars (total (rowsL ars 0)) ⟨ps, [], []⟩ := by
  have ht := ha.total
  exact ⟨fun p hp => (h p hp).ok, fun p hp => (h p hp).po, by show ps.length + _ ≤ 1000; omega, by show 0 + _ ≤ 1000; omega, by show 0 + _ ≤ 1000; omega⟩
/-- the drawing of both -/
theorem both_ok (hP : Pool P) (ha : AOk P ars) {ps : List Pc} (h : ∀ p ∈ ps, Mb P p) (hl : ps.length ≤ 2) : ∃ t : Ds, (Dm P ars t ∧ t.ps.length ≤ 14 ∧ t.rs.length ≤ 12) ∧
    (∀ cl, callC false (f_law_adraws a) cl [.d (.lst (ps.map Pc.d)), .d (arD ars), .d (.bl false)] = some (.d (.tup [.lst (t.ps.map Pc.d), .lst (t.rs.map resD)]), cl)) ∧
    ∀ cl, callC true (f_drawn a) cl [.d (.lst (ps.map Pc.d)), .d (arD ars), .d (.bl false)] = some (.tup [.cel cl.length, .cel (cl.length + 1)], cl ++ [lstD (t.ps.map Pc.d), lstD (t.rs.map resD)]) := by
  obtain ⟨t, ht⟩ := rr_ex ars (rowsL ars 0) ⟨ps, [], []⟩
  have hd := dk_start ha h hl
  have htot := ha.total
  obtain ⟨d1, d2, d3⟩ := rr_inv ha ht ⟨h, by simp⟩ (by show ps.length + _ ≤ 600; omega)
  have d2 : t.ps.length ≤ ps.length + total (rowsL ars 0) := d2
  have d3 : t.rs.length ≤ 0 + total (rowsL ars 0) := d3
  have hp6 : P.length < 64 := by have := hP.1; omega
  have e1 := adraws_ok (a := a) hp6 ha.ain ha.sz.1 ha.sz.2 ps hd ht
  have e2 := drawn_ok (a := a) ha.ain ha.sz.1 ha.sz.2 ps hd ht
  exact ⟨t, ⟨d1, by omega, by omega⟩, fun cl => call_pairF rfl (fun _ => rfl) e1, fun cl => call_pairT rfl (fun _ => rfl) e2⟩
end Lw
/-! what is told, looked at -/
namespace FL
open PySem PySem.Spec L2
theorem pyV_map (cl : List Cell) (k : Nat) : ∀ Q : List D, (Q.map W.d).mapM (pyV cl k) = pyA Q
  | [] => rfl
  | d :: Q => by
    have ih := pyV_map cl k Q
    have e : pyV cl k (W.d d) = d.py := by cases k <;> rfl
    rw [List.map_cons, List.mapM_cons, ih, e]
    simp only [pyA]
    cases d.py <;> cases pyA Q <;> rfl
theorem pyV_c {cl : List Cell} {n k : Nat} {Q : List D} (h : cl[n]? = some (lstD Q)) : pyV cl (k + 1) (.cel n) = (D.lst Q).py := by
  have h' : cl[n]? = some (.lst (Q.map W.d)) := h
  simp only [pyV, h', pyV_map]
  rw [py_lst]
theorem pyV_pair {cl : List Cell} {n m k : Nat} {Q R : List D} (h : cl[n]? = some (lstD Q)) (h2 : cl[m]? = some (lstD R)) : pyV cl (k + 2) (.tup [.cel n, .cel m]) = (D.tup [.lst Q, .lst R]).py := by
  have a1 := pyV_c (k := k) h
  have a2 := pyV_c (k := k) h2
  have e : pyV cl (k + 2) (.tup [.cel n, .cel m]) = (([W.cel n, W.cel m] : List W).mapM (pyV cl (k + 1))).map PyData.tuple := rfl
  rw [e]
  simp only [List.mapM_cons, List.mapM_nil, a1, a2]
  simp only [D.py, pyA]
  cases pyA Q <;> cases pyA R <;> rfl
end FL
namespace Lw
open PySem PySem.Spec L2 FL
variable {P : List Str} {ars : Ars} {a : Ad}
theorem told_1 {ps : List Pc} {t : Ds} (hd : ∀ cl, callC true (f_drawn a) cl [.d (.lst (ps.map Pc.d)), .d (arD ars), .d (.bl false)] = some (.tup [.cel cl.length, .cel (cl.length + 1)], cl ++ [lstD (t.ps.map Pc.d), lstD (t.rs.map resD)])) {scr s1 s2 s3 s7 s9 s10 : Option W} {DUE : D} {k : Nat} {G : List Cell} :
    b_law_1_f_7_f_1 a ⟨[scr, s1, s2, s3, some (.d (.lst (ps.map Pc.d))), some (.d (arD ars)), some (.d DUE), s7, some (.d (.int (k : Nat))), s9, s10], G⟩ = some (.nx ⟨[scr, s1, s2, s3, some (.d (.lst (ps.map Pc.d))), some (.d (arD ars)), some (.d DUE), s7, some (.d (.int (k : Nat))), s9, some (W.tup [.cel G.length, .cel (G.length + 1)])], (G ++ [lstD (t.ps.map Pc.d), lstD (t.rs.map resD)])⟩) := by
  have e1 := hd G
  have e2 : eqvD false G (.d (.int (k : Nat))) (.d (.int 0)) = some (.d (.bl (decide (k = 0))), G) := by
    rw [eqv_int]
    by_cases h : k = 0
    · subst h
      rfl
    · rw [decide_eq_false h, decide_eq_false (by omega)]
      rfl
  rw [b_law_1_f_7_f_1]
  generalize D.lst (ps.map Pc.d) = PS at *
  generalize arD ars = AR at *
  generalize lstD (t.ps.map Pc.d) = L1 at *
  generalize lstD (t.rs.map resD) = L2' at *
  by_cases h : k = 0
  · rw [decide_eq_true h] at e2
    simp -implicitDefEqProofs [e2, e1, withD]
  · rw [decide_eq_false h] at e2
    simp -implicitDefEqProofs [e2, e1, eCallK, liftN, perm]
end Lw
/-! what is told, looked at and changed -/
namespace Lw
open PySem PySem.Spec L2 FL
variable {P : List Str} {ars : Ars} {a : Ad}
theorem at_0 {G : List Cell} {c d : Cell} : (G ++ [c, d])[G.length]? = some c := by simp
theorem at_1 {G : List Cell} {c d : Cell} : (G ++ [c, d])[G.length + 1]? = some d := by
  rw [List.getElem?_append_right (by omega), show G.length + 1 - G.length = 1 by omega]
  rfl
theorem eqS_same {cl : List Cell} {x : Str} : eqS true cl (.d (.str x)) (.d (.str x)) = some (.d (.bl false), cl) := by simp [eqS, sg]
theorem told_2 (hP : Pool P) (ha : AOk P ars) {ps : List Pc} {t : Ds} (ht : Dm P ars t ∧ t.ps.length ≤ 14 ∧ t.rs.length ≤ 12) {scr s1 s2 s3 s7 s9 : Option W} {k : Nat} {G : List Cell} :
    b_law_1_f_7_f_2 a ⟨[scr, s1, s2, s3, some (.d (.lst (ps.map Pc.d))), some (.d (arD ars)), some (.d (D.tup [.lst (t.ps.map Pc.d), .lst (t.rs.map resD)])), s7, some (.d (.int (k : Nat))), s9, some (W.tup [.cel G.length, .cel (G.length + 1)])], (G ++ [lstD (t.ps.map Pc.d), lstD (t.rs.map resD)])⟩ = some (.nx ⟨[scr, s1, s2, s3, some (.d (.lst (ps.map Pc.d))), some (.d (arD ars)), some (.d (D.tup [.lst (t.ps.map Pc.d), .lst (t.rs.map resD)])), s7, some (.d (.int (k : Nat))), s9, some (W.tup [.cel G.length, .cel (G.length + 1)])], (G ++ [lstD (t.ps.map Pc.d), lstD (t.rs.map resD)])⟩) := by
  obtain ⟨p, hp, hr⟩ := repr_d (sh_due hP ha ht.1.mb (by omega) ht.1.rs (by omega)) (by decide) (by rw [sizeLine_eq]; decide) (fun p hp => by
    obtain ⟨qs, _, rfl⟩ := py_tup hp
    rfl)
  have e1 : oReprV (G ++ [lstD (t.ps.map Pc.d), lstD (t.rs.map resD)]) [(W.tup [.cel G.length, .cel (G.length + 1)])] = some (.d (.str p.shown), (G ++ [lstD (t.ps.map Pc.d), lstD (t.rs.map resD)])) := hr _ _ (by rw [pyV_pair (k := 6) at_0 at_1, hp])
  have e2 : oReprV (G ++ [lstD (t.ps.map Pc.d), lstD (t.rs.map resD)]) [.d (D.tup [.lst (t.ps.map Pc.d), .lst (t.rs.map resD)])] = some (.d (.str p.shown), (G ++ [lstD (t.ps.map Pc.d), lstD (t.rs.map resD)])) := hr _ _ hp
  have e3 : oIsiX (G ++ [lstD (t.ps.map Pc.d), lstD (t.rs.map resD)]) [(W.tup [.cel G.length, .cel (G.length + 1)]), .d (.op (.ty "tuple"))] = some (.d (.bl true), (G ++ [lstD (t.ps.map Pc.d), lstD (t.rs.map resD)])) := rfl
  have e4 := eqS_same (cl := (G ++ [lstD (t.ps.map Pc.d), lstD (t.rs.map resD)])) (x := p.shown)
  rw [b_law_1_f_7_f_2]
  generalize D.lst (ps.map Pc.d) = PS at *
  generalize arD ars = AR at *
  generalize (D.tup [.lst (t.ps.map Pc.d), .lst (t.rs.map resD)]) = DU at *
  generalize (G ++ [lstD (t.ps.map Pc.d), lstD (t.rs.map resD)]) = CC at *
  generalize p.shown = sh at *
  simp -implicitDefEqProofs [e1, e2, e3, e4]
theorem told_3 {ps : List Pc} {t : Ds} (ht : t.ps.length ≤ 14) {scr s1 s2 s3 s7 s9 : Option W} {DUE : D} {k : Nat} {G : List Cell} :
    b_law_1_f_7_f_3 a ⟨[scr, s1, s2, s3, some (.d (.lst (ps.map Pc.d))), some (.d (arD ars)), some (.d DUE), s7, some (.d (.int (k : Nat))), s9, some (W.tup [.cel G.length, .cel (G.length + 1)])], (G ++ [lstD (t.ps.map Pc.d), lstD (t.rs.map resD)])⟩ = some (.nx ⟨[scr, s1, s2, s3, some (.d (.lst (ps.map Pc.d))), some (.d (arD ars)), some (.d DUE), s7, some (.d (.int (k : Nat))), s9, some (W.tup [.cel G.length, .cel (G.length + 1)])], (G ++ [lstD (t.ps.map Pc.d ++ [.non]), lstD (t.rs.map resD)])⟩) := by
  have e0 : dIx (G ++ [lstD (t.ps.map Pc.d), lstD (t.rs.map resD)]) (W.tup [.cel G.length, .cel (G.length + 1)]) (.d (.int 0)) = some (.cel G.length, (G ++ [lstD (t.ps.map Pc.d), lstD (t.rs.map resD)])) := rfl
  have e1 := app_c (cl := (G ++ [lstD (t.ps.map Pc.d), lstD (t.rs.map resD)])) (n := G.length) (P := t.ps.map Pc.d) (x := .non) at_0 (by rw [List.length_map]; omega)
  have e1 : mAppend (G ++ [lstD (t.ps.map Pc.d), lstD (t.rs.map resD)]) [.cel G.length, .d .non] = some (.d .non, (G ++ [lstD (t.ps.map Pc.d ++ [.non]), lstD (t.rs.map resD)])) := by
    rw [e1]
    simp
  have e2 : isLst (G ++ [lstD (t.ps.map Pc.d), lstD (t.rs.map resD)]) (.cel G.length) = true := isLst_c at_0
  rw [b_law_1_f_7_f_3]
  generalize D.lst (ps.map Pc.d) = PS at *
  generalize arD ars = AR at *
  generalize (G ++ [lstD (t.ps.map Pc.d ++ [.non]), lstD (t.rs.map resD)]) = CD at *
  generalize (G ++ [lstD (t.ps.map Pc.d), lstD (t.rs.map resD)]) = CC at *
  simp -implicitDefEqProofs [e0, e1, e2]
end Lw
/-! a turn of the law's inner loop -/
namespace Lw
open PySem PySem.Spec L2 FL
variable {P : List Str} {ars : Ars} {a : Ad}
theorem told_4 (hP : Pool P) (ha : AOk P ars) {ps : List Pc} {t : Ds} (ht : Dm P ars t ∧ t.ps.length ≤ 14 ∧ t.rs.length ≤ 12) {scr s1 s2 s3 s7 s9 : Option W} {k : Nat} {G : List Cell} :
    b_law_1_f_7_f_4 a ⟨[scr, s1, s2, s3, some (.d (.lst (ps.map Pc.d))), some (.d (arD ars)), some (.d (D.tup [.lst (t.ps.map Pc.d), .lst (t.rs.map resD)])), s7, some (.d (.int (k : Nat))), s9, some (W.tup [.cel G.length, .cel (G.length + 1)])], (G ++ [lstD (t.ps.map Pc.d ++ [.non]), lstD (t.rs.map resD)])⟩ = some (.nx ⟨[scr, s1, s2, s3, some (.d (.lst (ps.map Pc.d))), some (.d (arD ars)), some (.d (D.tup [.lst (t.ps.map Pc.d), .lst (t.rs.map resD)])), s7, some (.d (.int (k : Nat))), s9, some (W.tup [.cel G.length, .cel (G.length + 1)])], (G ++ [lstD (t.ps.map Pc.d ++ [.non]), lstD (t.rs.map resD)])⟩) := by
  obtain ⟨p, hp, hr⟩ := repr_d (sh_rs hP ha ht.1.rs (by omega)) (by decide) (by rw [sizeLine_eq]; decide) (fun p hp => by
    obtain ⟨qs, _, rfl⟩ := py_lst' hp
    rfl)
  have e1 : oReprV (G ++ [lstD (t.ps.map Pc.d ++ [.non]), lstD (t.rs.map resD)]) [.cel (G.length + 1)] = some (.d (.str p.shown), (G ++ [lstD (t.ps.map Pc.d ++ [.non]), lstD (t.rs.map resD)])) := hr _ _ (by rw [pyV_c (k := 7) at_1, hp])
  have e2 : oReprV (G ++ [lstD (t.ps.map Pc.d ++ [.non]), lstD (t.rs.map resD)]) [.d (.lst (t.rs.map resD))] = some (.d (.str p.shown), (G ++ [lstD (t.ps.map Pc.d ++ [.non]), lstD (t.rs.map resD)])) := hr _ _ hp
  have e3 : dIx (G ++ [lstD (t.ps.map Pc.d ++ [.non]), lstD (t.rs.map resD)]) (W.tup [.cel G.length, .cel (G.length + 1)]) (.d (.int 1)) = some (.cel (G.length + 1), (G ++ [lstD (t.ps.map Pc.d ++ [.non]), lstD (t.rs.map resD)])) := rfl
  have e4 : dIx (G ++ [lstD (t.ps.map Pc.d ++ [.non]), lstD (t.rs.map resD)]) (.d (D.tup [.lst (t.ps.map Pc.d), .lst (t.rs.map resD)])) (.d (.int 1)) = some (.d (.lst (t.rs.map resD)), (G ++ [lstD (t.ps.map Pc.d ++ [.non]), lstD (t.rs.map resD)])) := rfl
  have e5 := eqS_same (cl := (G ++ [lstD (t.ps.map Pc.d ++ [.non]), lstD (t.rs.map resD)])) (x := p.shown)
  rw [b_law_1_f_7_f_4]
  generalize D.lst (ps.map Pc.d) = PS at *
  generalize arD ars = AR at *
  generalize (D.tup [.lst (t.ps.map Pc.d), .lst (t.rs.map resD)]) = DU at *
  generalize D.lst (t.rs.map resD) = RD at *
  generalize (G ++ [lstD (t.ps.map Pc.d ++ [.non]), lstD (t.rs.map resD)]) = CC at *
  generalize p.shown = sh at *
  simp -implicitDefEqProofs [e1, e2, e3, e4, e5]
theorem told_5 {ps : List Pc} {t : Ds} {scr s1 s2 s3 s7 s9 : Option W} {DUE : D} {k : Nat} {G : List Cell} :
    b_law_1_f_7_f_5 a ⟨[scr, s1, s2, s3, some (.d (.lst (ps.map Pc.d))), some (.d (arD ars)), some (.d DUE), s7, some (.d (.int (k : Nat))), s9, some (W.tup [.cel G.length, .cel (G.length + 1)])], (G ++ [lstD (t.ps.map Pc.d ++ [.non]), lstD (t.rs.map resD)])⟩ = some (.nx ⟨[scr, s1, s2, s3, some (.d (.lst (ps.map Pc.d))), some (.d (arD ars)), some (.d DUE), s7, some (.d (.int (k : Nat))), s9, some (W.tup [.cel G.length, .cel (G.length + 1)])], (G ++ [lstD (t.ps.map Pc.d ++ [.non]), lstD []])⟩) := by
  have e3 : dIx (G ++ [lstD (t.ps.map Pc.d ++ [.non]), lstD (t.rs.map resD)]) (W.tup [.cel G.length, .cel (G.length + 1)]) (.d (.int 1)) = some (.cel (G.length + 1), (G ++ [lstD (t.ps.map Pc.d ++ [.non]), lstD (t.rs.map resD)])) := rfl
  have h1 : (G ++ [lstD (t.ps.map Pc.d ++ [.non]), lstD (t.rs.map resD)])[G.length + 1]? = some (lstD (t.rs.map resD)) := at_1
  have e2 : isLst (G ++ [lstD (t.ps.map Pc.d ++ [.non]), lstD (t.rs.map resD)]) (.cel (G.length + 1)) = true := isLst_c h1
  have e1 : mClear (G ++ [lstD (t.ps.map Pc.d ++ [.non]), lstD (t.rs.map resD)]) [.cel (G.length + 1)] = some (.d .non, (G ++ [lstD (t.ps.map Pc.d ++ [.non]), lstD []])) := by
    have e0 : mClear (G ++ [lstD (t.ps.map Pc.d ++ [.non]), lstD (t.rs.map resD)]) [.cel (G.length + 1)] = some (.d .non, (G ++ [lstD (t.ps.map Pc.d ++ [.non]), lstD (t.rs.map resD)]).set (G.length + 1) (lstD [])) := by
      simp only [mClear, lstD_g h1]
      rfl
    rw [e0]
    simp
  rw [b_law_1_f_7_f_5]
  generalize D.lst (ps.map Pc.d) = PS at *
  generalize arD ars = AR at *
  generalize (G ++ [lstD (t.ps.map Pc.d ++ [.non]), lstD []]) = CD at *
  generalize (G ++ [lstD (t.ps.map Pc.d ++ [.non]), lstD (t.rs.map resD)]) = CC at *
  simp -implicitDefEqProofs [e1, e2, e3]
end Lw
/-! the law's inner loop -/
namespace Lw
open PySem PySem.Spec L2 FL
variable {P : List Str} {ars : Ars} {a : Ad}
theorem told_turn (hP : Pool P) (ha : AOk P ars) {ps : List Pc} {t : Ds} (ht : Dm P ars t ∧ t.ps.length ≤ 14 ∧ t.rs.length ≤ 12) (hd : ∀ cl, callC true (f_drawn a) cl [.d (.lst (ps.map Pc.d)), .d (arD ars), .d (.bl false)] = some (.tup [.cel cl.length, .cel (cl.length + 1)], cl ++ [lstD (t.ps.map Pc.d), lstD (t.rs.map resD)])) {scr s1 s2 s3 s7 s9 s10 : Option W} {k : Nat} {G : List Cell} :
    ∃ s10', b_law_1_f_7_f a ⟨[scr, s1, s2, s3, some (.d (.lst (ps.map Pc.d))), some (.d (arD ars)), some (.d (D.tup [.lst (t.ps.map Pc.d), .lst (t.rs.map resD)])), s7, some (.d (.int (k : Nat))), s9, s10], G⟩ = some (.nx ⟨[scr, s1, s2, s3, some (.d (.lst (ps.map Pc.d))), some (.d (arD ars)), some (.d (D.tup [.lst (t.ps.map Pc.d), .lst (t.rs.map resD)])), s7, some (.d (.int (k : Nat))), s9, s10'], (G ++ [lstD (t.ps.map Pc.d ++ [.non]), lstD []])⟩) := by
  refine ⟨some (W.tup [.cel G.length, .cel (G.length + 1)]), ?_⟩
  rw [b_law_1_f_7_f]
  rw [ev_sSeq, told_1 hd]
  simp only [Option.bind_some, nxt_nx]
  rw [ev_sSeq, told_2 hP ha ht]
  simp only [Option.bind_some, nxt_nx]
  rw [ev_sSeq, told_3 ht.2.1]
  simp only [Option.bind_some, nxt_nx]
  rw [ev_sSeq, told_4 hP ha ht]
  simp only [Option.bind_some, nxt_nx]
  exact told_5
theorem leaf_two {G : List Cell} {Q R : List D} (h : ∀ c ∈ G, c.refs = []) : ∀ c ∈ G ++ [lstD Q, lstD R], c.refs = [] := fun c hc => by
  rcases List.mem_append.mp hc with hc | hc
  · exact h c hc
  · simp only [List.mem_cons, List.not_mem_nil, or_false] at hc
    rcases hc with rfl | rfl <;> exact lstD_refs
theorem inner_7 (hP : Pool P) (ha : AOk P ars) {ps : List Pc} {t : Ds} (ht : Dm P ars t ∧ t.ps.length ≤ 14 ∧ t.rs.length ≤ 12) (hd : ∀ cl, callC true (f_drawn a) cl [.d (.lst (ps.map Pc.d)), .d (arD ars), .d (.bl false)] = some (.tup [.cel cl.length, .cel (cl.length + 1)], cl ++ [lstD (t.ps.map Pc.d), lstD (t.rs.map resD)])) {scr s1 s2 s3 s7 s8 s9 s10 : Option W} {G : List Cell} (hG : ∀ c ∈ G, c.refs = []) :
    ∃ (s8' s10' : Option W) (G' : List Cell), (∀ c ∈ G', c.refs = []) ∧ b_law_1_f_7 a ⟨[scr, s1, s2, s3, some (.d (.lst (ps.map Pc.d))), some (.d (arD ars)), some (.d (D.tup [.lst (t.ps.map Pc.d), .lst (t.rs.map resD)])), s7, s8, s9, s10], G⟩ = some (.nx ⟨[scr, s1, s2, s3, some (.d (.lst (ps.map Pc.d))), some (.d (arD ars)), some (.d (D.tup [.lst (t.ps.map Pc.d), .lst (t.rs.map resD)])), s7, s8', s9, s10'], G'⟩) := by
  obtain ⟨u1, e1⟩ := told_turn (a := a) hP ha ht hd (scr := scr) (s1 := s1) (s2 := s2) (s3 := s3) (s7 := s7) (s9 := s9) (s10 := s10) (k := 0) (G := G)
  obtain ⟨u2, e2⟩ := told_turn (a := a) hP ha ht hd (scr := scr) (s1 := s1) (s2 := s2) (s3 := s3) (s7 := s7) (s9 := s9) (s10 := u1) (k := 1) (G := (G ++ [lstD (t.ps.map Pc.d ++ [.non]), lstD []]))
  refine ⟨some (.d (.int (1 : Nat))), u2, (G ++ [lstD (t.ps.map Pc.d ++ [.non]), lstD []]) ++ [lstD (t.ps.map Pc.d ++ [.non]), lstD []], leaf_two (leaf_two hG), ?_⟩
  · rw [b_law_1_f_7, ev_sFor]
    have ei : iRng (aCons (eC (.d (.int 2))) aNil) ⟨[scr, s1, s2, s3, some (.d (.lst (ps.map Pc.d))), some (.d (arD ars)), some (.d (D.tup [.lst (t.ps.map Pc.d), .lst (t.rs.map resD)])), s7, s8, s9, s10], G⟩ = some (([W.d (.int (0 : Nat)), W.d (.int (1 : Nat))], none), ⟨[scr, s1, s2, s3, some (.d (.lst (ps.map Pc.d))), some (.d (arD ars)), some (.d (D.tup [.lst (t.ps.map Pc.d), .lst (t.rs.map resD)])), s7, s8, s9, s10], G⟩) := rfl
    rw [ei]
    simp only [Option.bind_some, forL]
    rw [if_pos (show ckC none _ from trivial)]
    simp only [ev_tName, List.set_cons_succ, List.set_cons_zero, e1]
    rw [if_pos (show ckC none _ from trivial)]
    simp only [e2]
    rw [if_pos (show ckC none _ from trivial)]
end Lw
/-! a turn of the law, the law -/
namespace Lw
open PySem PySem.Spec L2 FL
variable {a : Ad}
theorem seq_nx {k h : FL.G} {r r1 : Rho} {o : Option Out} (e : k r = some (.nx r1)) (e2 : h r1 = o) : sSeq k h r = o := by
  rw [ev_sSeq, e]
  exact e2
theorem leaf_one {G : List Cell} {Q : List D} (h : ∀ c ∈ G, c.refs = []) : ∀ c ∈ G ++ [lstD Q], c.refs = [] := fun c hc => by
  rcases List.mem_append.mp hc with hc | hc
  · exact h c hc
  · rw [List.mem_singleton] at hc
    subst hc
    exact lstD_refs
theorem law_turn (xs : List Int) {j : Nat} (hj : j < 3) {s2 s3 s4 s5 s6 s7 s8 s9 s10 : Option W} {G : List Cell} (hG : ∀ c ∈ G, c.refs = []) : ∃ (t2 t3 t4 t5 t6 t7 t8 t9 t10 : Option W) (G' : List Cell), (∀ c ∈ G', c.refs = []) ∧
    b_law_1_f a ⟨[some (.d (.rol (xs.map D.int))), some (.d (.int (j : Nat))), s2, s3, s4, s5, s6, s7, s8, s9, s10], G⟩ = some (.nx ⟨[some (.d (.rol (xs.map D.int))), some (.d (.int (j : Nat))), t2, t3, t4, t5, t6, t7, t8, t9, t10], G'⟩) := by
  obtain ⟨z1, h1⟩ := tape_ok (a := a) xs j (by omega) (by omega)
  have h1 := call_oneT (cl := G) rfl (fun _ => rfl) h1
  have e1 : b_law_1_f_1 a ⟨[some (.d (.rol (xs.map D.int))), some (.d (.int (j : Nat))), s2, s3, s4, s5, s6, s7, s8, s9, s10], G⟩ = some (.nx ⟨[some (.d (.rol (xs.map D.int))), some (.d (.int (j : Nat))), some (.cel G.length), s3, s4, s5, s6, s7, s8, s9, s10], G ++ [lstD [.int z1]]⟩) := by
    rw [b_law_1_f_1]
    generalize D.rol (xs.map D.int) = X at *
    generalize G ++ [lstD [.int z1]] = C1 at *
    simp -implicitDefEqProofs [h1]
  obtain ⟨z2, P, hP, h2⟩ := apool_call (a := a) (cl := G ++ [lstD [.int z1]]) (n := G.length) (z := z1) (by simp)
  have h2 : callC false (f_law_apool a) (G ++ [lstD [.int z1]]) [.cel G.length] = some ((.d (.lst (P.map D.str))), G ++ [lstD [.int z2]]) := by
    rw [h2]
    simp
  have e2 : b_law_1_f_2 a ⟨[some (.d (.rol (xs.map D.int))), some (.d (.int (j : Nat))), some (.cel G.length), s3, s4, s5, s6, s7, s8, s9, s10], G ++ [lstD [.int z1]]⟩ = some (.nx ⟨[some (.d (.rol (xs.map D.int))), some (.d (.int (j : Nat))), some (.cel G.length), some (.d (.lst (P.map D.str))), s4, s5, s6, s7, s8, s9, s10], G ++ [lstD [.int z2]]⟩) := by
    rw [b_law_1_f_2]
    generalize D.rol (xs.map D.int) = X at *
    generalize P.map D.str = PP at *
    generalize G ++ [lstD [.int z1]] = C1 at *
    generalize G ++ [lstD [.int z2]] = C2 at *
    simp -implicitDefEqProofs [h2]
  obtain ⟨z3, ps, hps, hpl, e3⟩ := pieces_3 (a := a) hP (scr := .d (.rol (xs.map D.int))) (j := j) hG z2 (s4 := s4) (s5 := s5) (s6 := s6) (s7 := s7) (s8 := s8) (s9 := s9) (s10 := s10)
  obtain ⟨z4, ars, ha, h4⟩ := archives_call (a := a) hP (cl := G ++ [lstD [.int z3]]) (n := G.length) (z := z3) (by simp)
  have h4 : callC false (f_law_aarchives a) (G ++ [lstD [.int z3]]) [.cel G.length, (.d (.lst (P.map D.str)))] = some ((.d (arD ars)), G ++ [lstD [.int z4]]) := by
    rw [h4]
    simp
  have e4 : b_law_1_f_4 a ⟨[some (.d (.rol (xs.map D.int))), some (.d (.int (j : Nat))), some (.cel G.length), some (.d (.lst (P.map D.str))), some (.d (.lst (ps.map Pc.d))), s5, s6, s7, s8, s9, s10], G ++ [lstD [.int z3]]⟩ = some (.nx ⟨[some (.d (.rol (xs.map D.int))), some (.d (.int (j : Nat))), some (.cel G.length), some (.d (.lst (P.map D.str))), some (.d (.lst (ps.map Pc.d))), some (.d (arD ars)), s6, s7, s8, s9, s10], G ++ [lstD [.int z4]]⟩) := by
    rw [b_law_1_f_4]
    generalize D.rol (xs.map D.int) = X at *
    generalize P.map D.str = PP at *
    generalize D.lst (ps.map Pc.d) = QQ at *
    generalize arD ars = AR at *
    generalize G ++ [lstD [.int z3]] = C1 at *
    generalize G ++ [lstD [.int z4]] = C2 at *
    simp -implicitDefEqProofs [h4]
  obtain ⟨t, ht, h5, hd⟩ := both_ok (a := a) hP ha hps hpl
  have h5 := h5 (G ++ [lstD [.int z4]])
  have e5 : b_law_1_f_5 a ⟨[some (.d (.rol (xs.map D.int))), some (.d (.int (j : Nat))), some (.cel G.length), some (.d (.lst (P.map D.str))), some (.d (.lst (ps.map Pc.d))), some (.d (arD ars)), s6, s7, s8, s9, s10], G ++ [lstD [.int z4]]⟩ = some (.nx ⟨[some (.d (.rol (xs.map D.int))), some (.d (.int (j : Nat))), some (.cel G.length), some (.d (.lst (P.map D.str))), some (.d (.lst (ps.map Pc.d))), some (.d (arD ars)), some (.d (D.tup [.lst (t.ps.map Pc.d), .lst (t.rs.map resD)])), s7, s8, s9, s10], G ++ [lstD [.int z4]]⟩) := by
    rw [b_law_1_f_5]
    generalize D.rol (xs.map D.int) = X at *
    generalize P.map D.str = PP at *
    generalize D.lst (ps.map Pc.d) = QQ at *
    generalize arD ars = AR at *
    generalize (D.tup [.lst (t.ps.map Pc.d), .lst (t.rs.map resD)]) = DU at *
    generalize G ++ [lstD [.int z4]] = C1 at *
    simp -implicitDefEqProofs [h5]
  obtain ⟨p, hp, hr⟩ := repr_d (sh_both hP ha hps (by omega)) (by decide) (by rw [sizeLine_eq]; decide) (fun p hp => by
    obtain ⟨qs, _, rfl⟩ := py_lst' hp
    rfl)
  have ol : ∀ cl : List Cell, oLst false cl [(.d (.lst (ps.map Pc.d))), (.d (arD ars))] = some (.d (.lst [.lst (ps.map Pc.d), arD ars]), cl) := fun cl => by
    unfold oLst
    rw [if_pos (by show 2 ≤ sizeLine; rw [sizeLine_eq]; decide)]
    rfl
  have h6 : ∀ cl : List Cell, oReprV cl [.d (.lst [.lst (ps.map Pc.d), arD ars])] = some (.d (.str p.shown), cl) := fun cl => hr _ _ hp
  have e6 : b_law_1_f_6 a ⟨[some (.d (.rol (xs.map D.int))), some (.d (.int (j : Nat))), some (.cel G.length), some (.d (.lst (P.map D.str))), some (.d (.lst (ps.map Pc.d))), some (.d (arD ars)), some (.d (D.tup [.lst (t.ps.map Pc.d), .lst (t.rs.map resD)])), s7, s8, s9, s10], G ++ [lstD [.int z4]]⟩ = some (.nx ⟨[some (.d (.rol (xs.map D.int))), some (.d (.int (j : Nat))), some (.cel G.length), some (.d (.lst (P.map D.str))), some (.d (.lst (ps.map Pc.d))), some (.d (arD ars)), some (.d (D.tup [.lst (t.ps.map Pc.d), .lst (t.rs.map resD)])), some (.d (.str p.shown)), s8, s9, s10], G ++ [lstD [.int z4]]⟩) := by
    rw [b_law_1_f_6]
    have o1 := ol (G ++ [lstD [.int z4]])
    have o2 := h6 (G ++ [lstD [.int z4]])
    generalize D.rol (xs.map D.int) = X at *
    generalize P.map D.str = PP at *
    generalize (D.lst [.lst (ps.map Pc.d), arD ars]) = BB at *
    generalize D.lst (ps.map Pc.d) = QQ at *
    generalize arD ars = AR at *
    generalize (D.tup [.lst (t.ps.map Pc.d), .lst (t.rs.map resD)]) = DU at *
    generalize G ++ [lstD [.int z4]] = C1 at *
    generalize p.shown = sh at *
    simp -implicitDefEqProofs [o1, o2]
  obtain ⟨s8', s10', G', hG', e7⟩ := inner_7 (a := a) hP ha ht hd (scr := some (.d (.rol (xs.map D.int)))) (s1 := some (.d (.int (j : Nat)))) (s2 := some (.cel G.length)) (s3 := some (.d (.lst (P.map D.str)))) (s7 := some (.d (.str p.shown))) (s8 := s8) (s9 := s9) (s10 := s10) (leaf_one (Q := [.int z4]) hG)
  have e8 : b_law_1_f_8 a ⟨[some (.d (.rol (xs.map D.int))), some (.d (.int (j : Nat))), some (.cel G.length), some (.d (.lst (P.map D.str))), some (.d (.lst (ps.map Pc.d))), some (.d (arD ars)), some (.d (D.tup [.lst (t.ps.map Pc.d), .lst (t.rs.map resD)])), some (.d (.str p.shown)), s8', s9, s10'], G'⟩ = some (.nx ⟨[some (.d (.rol (xs.map D.int))), some (.d (.int (j : Nat))), some (.cel G.length), some (.d (.lst (P.map D.str))), some (.d (.lst (ps.map Pc.d))), some (.d (arD ars)), some (.d (D.tup [.lst (t.ps.map Pc.d), .lst (t.rs.map resD)])), some (.d (.str p.shown)), s8', s9, s10'], G'⟩) := by
    rw [b_law_1_f_8]
    have o1 := ol G'
    have o2 := h6 G'
    have o3 := eqS_same (cl := G') (x := p.shown)
    generalize D.rol (xs.map D.int) = X at *
    generalize P.map D.str = PP at *
    generalize (D.lst [.lst (ps.map Pc.d), arD ars]) = BB at *
    generalize D.lst (ps.map Pc.d) = QQ at *
    generalize arD ars = AR at *
    generalize (D.tup [.lst (t.ps.map Pc.d), .lst (t.rs.map resD)]) = DU at *
    generalize p.shown = sh at *
    simp -implicitDefEqProofs [o1, o2, o3]
  refine ⟨some (.cel G.length), some (.d (.lst (P.map D.str))), some (.d (.lst (ps.map Pc.d))), some (.d (arD ars)), some (.d (D.tup [.lst (t.ps.map Pc.d), .lst (t.rs.map resD)])), some (.d (.str p.shown)), s8', s9, s10', G', hG', ?_⟩
  rw [b_law_1_f]
  exact seq_nx e1 (seq_nx e2 (seq_nx e3 (seq_nx e4 (seq_nx e5 (seq_nx e6 (seq_nx e7 e8))))))
theorem law_true (xs : List Int) : f_law a [] [.d (.rol (xs.map D.int))] = some (.d (.bl true), []) := by
  have e0 : ([.d (.rol (xs.map D.int))] : List W).map some ++ List.replicate (11 - ([.d (.rol (xs.map D.int))] : List W).length) none = [some (.d (.rol (xs.map D.int))), none, none, none, none, none, none, none, none, none, none] := rfl
  rw [f_law, run_eq, split_law, e0]
  obtain ⟨n, hn, er⟩ : ∃ n : Nat, n ≤ 3 ∧ iRng (aCons (eC (.d (.int 0))) (aCons (eCall oMax (aCons (eC (.d (.int 1))) (aCons (eCall oMin (aCons (eC (.d (.int 3))) (aCons (eCall oLen (aCons (eVar 0) aNil)) aNil))) aNil))) aNil)) ⟨[some (.d (.rol (xs.map D.int))), none, none, none, none, none, none, none, none, none, none], []⟩ = some ((intsW 0 n, none), ⟨[some (.d (.rol (xs.map D.int))), none, none, none, none, none, none, none, none, none, none], []⟩) := by
    have hl := scr_len (xs := xs) (cl := [])
    generalize hL : (xs.length : Int) = L at *
    have m1 : oMin [] [.d (.int 3), .d (.int L)] = some (.d (.int (if L < 3 then L else 3)), []) := rfl
    generalize hM : (if L < 3 then L else 3) = M at *
    have m2 : oMax [] [.d (.int 1), .d (.int M)] = some (.d (.int (if M > 1 then M else 1)), []) := rfl
    have hM2 : M ≤ 3 := by
      rw [← hM]
      split <;> omega
    generalize hN : (if M > 1 then M else 1) = N at *
    have hN1 : N ≤ 3 ∧ 1 ≤ N := by
      rw [← hN]
      split <;> omega
    refine ⟨N.toNat, by omega, ?_⟩
    generalize D.rol (xs.map D.int) = X at *
    simp only [iRng, ev_call, ev_cons, ev_nil, ev_c, ev_var, List.getElem?_cons_zero, Option.bind_some, Option.map_some, hl, m1, m2]
    rw [if_pos (by omega), Int.sub_zero]
  obtain ⟨r', e2, h2⟩ := forL_all (g := tName 1) (b := b_law_1_f a) (ck := none) (I := fun k r => ∃ (t1 t2 t3 t4 t5 t6 t7 t8 t9 t10 : Option W) (G : List Cell), (∀ c ∈ G, c.refs = []) ∧ r = ⟨[some (.d (.rol (xs.map D.int))), t1, t2, t3, t4, t5, t6, t7, t8, t9, t10], G⟩) (intsW 0 n) ⟨[some (.d (.rol (xs.map D.int))), none, none, none, none, none, none, none, none, none, none], []⟩ (by
    rintro i d r hd ⟨t1, t2, t3, t4, t5, t6, t7, t8, t9, t10, G, hG, rfl⟩
    have hi : i < n := by
      have := (List.getElem?_eq_some_iff.mp hd).1
      rwa [intsW_len] at this
    rw [intsW_get _ 0 i hi] at hd
    cases hd
    refine ⟨trivial, _, rfl, ?_⟩
    obtain ⟨u2, u3, u4, u5, u6, u7, u8, u9, u10, G', hG', e⟩ := law_turn (a := a) xs (j := i) (by omega) (s2 := t2) (s3 := t3) (s4 := t4) (s5 := t5) (s6 := t6) (s7 := t7) (s8 := t8) (s9 := t9) (s10 := t10) hG
    refine ⟨⟨[some (.d (.rol (xs.map D.int))), some (.d (.int (i : Nat))), u2, u3, u4, u5, u6, u7, u8, u9, u10], G'⟩, .inl ?_, some (.d (.int (i : Nat))), u2, u3, u4, u5, u6, u7, u8, u9, u10, G', hG', rfl⟩
    have ez : (⟨[some (.d (.rol (xs.map D.int))), t1, t2, t3, t4, t5, t6, t7, t8, t9, t10].set 1 (some (.d (.int (0 + (i : Int))))), G⟩ : Rho) = ⟨[some (.d (.rol (xs.map D.int))), some (.d (.int (i : Nat))), t2, t3, t4, t5, t6, t7, t8, t9, t10], G⟩ := by
      rw [Int.zero_add]
      rfl
    show b_law_1_f a ⟨[some (.d (.rol (xs.map D.int))), t1, t2, t3, t4, t5, t6, t7, t8, t9, t10].set 1 (some (.d (.int (0 + (i : Int))))), G⟩ = _
    rw [ez]
    exact e) (fun _ _ => trivial) ⟨none, none, none, none, none, none, none, none, none, none, [], by simp, rfl⟩
  obtain ⟨t1, t2, t3, t4, t5, t6, t7, t8, t9, t10, G, hG, rfl⟩ := h2
  have e1 : b_law_1 a ⟨[some (.d (.rol (xs.map D.int))), none, none, none, none, none, none, none, none, none, none], []⟩ = some (.nx ⟨[some (.d (.rol (xs.map D.int))), t1, t2, t3, t4, t5, t6, t7, t8, t9, t10], G⟩) := by
    rw [b_law_1, ev_sFor, er]
    exact e2
  rw [ev_sSeq, e1]
  simp only [Option.bind_some, nxt_nx]
  rw [b_law_2, ev_sRet, ev_c]
  exact fin0
end Lw
namespace Lw
open PySem PySem.Spec L2 FL
def spL (K : PySem.W.Frag) : Sp := fun vs H Q _ => ∃ (p : Addr) (ns : List Int), vs = [.ref p] ∧ SqL K H p (ns.map V.int) ∧ ns.length ≤ 63 ∧ (∀ z ∈ ns, Builtin.Int.intBits z ≤ 1048576) ∧ ∀ H', Q (.bl true) H'
theorem reps_ints {K : PySem.W.Frag} {F : Hp} : ∀ ns : List Int, Reps0 K F (ns.map D.int) (ns.map V.int)
  | [] => rfl
  | i :: ns => ⟨.int i, ns.map V.int, rfl, rfl, reps_ints ns⟩
theorem spL_imp {K : PySem.W.Frag} (ad : Ad) {vs : List V} {H : Hp} {Q : VK} {E : XK} (h : spL K vs H Q E) : spF K 1 (f_law ad) vs H Q E := by
  obtain ⟨p, ns, rfl, hs, hl, hb, q⟩ := h
  refine ⟨[], H, [], [.d (.rol (ns.map D.int))], ⟨Same.refl H, rfl, fun n a c e => by simp at e, List.nodup_nil, fun a h => by simp at h⟩, ⟨.ref p, [], rfl, ⟨p, ns.map V.int, rfl, hs, reps_ints ns⟩, rfl⟩, rfl, ?_⟩
  rw [law_true ns]
  intro F' al' v H' x C r
  have r : v = .bl true := r
  subst r
  exact q H'
theorem all_mk {l : PySem.W.OpenLaw} {w : World} {K : PySem.W.Frag} {h : Heap} {mg : Str → Option Value} {fa a_law_acell a_law_atape a_law_adigit a_law_apool a_law_amember a_law_aarchives a_law_adefines a_law_anamed a_law_asymbol a_law_aasks a_law_aopen a_law_anext a_law_adraws a_locals_of a_named a_asked a_askers a_defined a_open_names a_next_reason a_drawn a_law  : Addr} {tk_DEFINING_0 tk_DEFINING_1 tk_DEFINING_2 : Tok} (X : K.In h) (G : h.Ns mainGlobals mg) (hfa : mg "law" = some (.ref fa))
    {od_law_acell an_law_acell : Option Addr} {sl_law_acell : Array (Option Value)} {oc_law_acell kV_law_acell dc_law_acell pm_law_acell cd_law_acell ct_law_acell : Value}
    {od_law_atape an_law_atape : Option Addr} {sl_law_atape : Array (Option Value)} {oc_law_atape kV_law_atape dc_law_atape pm_law_atape cd_law_atape ct_law_atape : Value}
    {od_law_adigit an_law_adigit : Option Addr} {sl_law_adigit : Array (Option Value)} {oc_law_adigit kV_law_adigit dc_law_adigit pm_law_adigit cd_law_adigit ct_law_adigit : Value}
    {od_law_apool an_law_apool : Option Addr} {sl_law_apool : Array (Option Value)} {oc_law_apool kV_law_apool dc_law_apool pm_law_apool cd_law_apool ct_law_apool : Value}
    {od_law_amember an_law_amember : Option Addr} {sl_law_amember : Array (Option Value)} {oc_law_amember kV_law_amember dc_law_amember pm_law_amember cd_law_amember ct_law_amember : Value}
    {od_law_aarchives an_law_aarchives : Option Addr} {sl_law_aarchives : Array (Option Value)} {oc_law_aarchives kV_law_aarchives dc_law_aarchives pm_law_aarchives cd_law_aarchives ct_law_aarchives : Value}
    {od_law_adefines an_law_adefines : Option Addr} {sl_law_adefines : Array (Option Value)} {oc_law_adefines kV_law_adefines dc_law_adefines pm_law_adefines cd_law_adefines ct_law_adefines : Value}
    {od_law_anamed an_law_anamed : Option Addr} {sl_law_anamed : Array (Option Value)} {oc_law_anamed kV_law_anamed dc_law_anamed pm_law_anamed cd_law_anamed ct_law_anamed : Value}
    {od_law_asymbol an_law_asymbol : Option Addr} {sl_law_asymbol : Array (Option Value)} {oc_law_asymbol kV_law_asymbol dc_law_asymbol pm_law_asymbol cd_law_asymbol ct_law_asymbol : Value}
    {od_law_aasks an_law_aasks : Option Addr} {sl_law_aasks : Array (Option Value)} {oc_law_aasks kV_law_aasks dc_law_aasks pm_law_aasks cd_law_aasks ct_law_aasks : Value}
    {od_law_aopen an_law_aopen : Option Addr} {sl_law_aopen : Array (Option Value)} {oc_law_aopen kV_law_aopen dc_law_aopen pm_law_aopen cd_law_aopen ct_law_aopen : Value}
    {od_law_anext an_law_anext : Option Addr} {sl_law_anext : Array (Option Value)} {oc_law_anext kV_law_anext dc_law_anext pm_law_anext cd_law_anext ct_law_anext : Value}
    {od_law_adraws an_law_adraws : Option Addr} {sl_law_adraws : Array (Option Value)} {oc_law_adraws kV_law_adraws dc_law_adraws pm_law_adraws cd_law_adraws ct_law_adraws : Value}
    {od_locals_of an_locals_of : Option Addr} {sl_locals_of : Array (Option Value)} {oc_locals_of kV_locals_of dc_locals_of pm_locals_of cd_locals_of ct_locals_of : Value}
    {od_named an_named : Option Addr} {sl_named : Array (Option Value)} {oc_named kV_named dc_named pm_named cd_named ct_named : Value}
    {od_asked an_asked : Option Addr} {sl_asked : Array (Option Value)} {oc_asked kV_asked dc_asked pm_asked cd_asked ct_asked : Value}
    {od_askers an_askers : Option Addr} {sl_askers : Array (Option Value)} {oc_askers kV_askers dc_askers pm_askers cd_askers ct_askers : Value}
    {od_defined an_defined : Option Addr} {sl_defined : Array (Option Value)} {oc_defined kV_defined dc_defined pm_defined cd_defined ct_defined : Value}
    {od_open_names an_open_names : Option Addr} {sl_open_names : Array (Option Value)} {oc_open_names kV_open_names dc_open_names pm_open_names cd_open_names ct_open_names : Value}
    {od_next_reason an_next_reason : Option Addr} {sl_next_reason : Array (Option Value)} {oc_next_reason kV_next_reason dc_next_reason pm_next_reason cd_next_reason ct_next_reason : Value}
    {od_drawn an_drawn : Option Addr} {sl_drawn : Array (Option Value)} {oc_drawn dc_drawn pm_drawn cd_drawn ct_drawn : Value}
    {od_law an_law : Option Addr} {sl_law : Array (Option Value)} {oc_law kV_law dc_law pm_law cd_law ct_law : Value}
    {kd_drawn : Addr}
    {at_DEFINING : Addr} {td_DEFINING : Option Addr} {tn_DEFINING : Nat} {ts_DEFINING : Array (Option Value)}
    (hf_law_acell : PySem.W.nsIn K mainGlobals "_law_acell" = some (some (.ref a_law_acell)))
    (hl_law_acell : K.lookup a_law_acell = some ⟨oc_law_acell, od_law_acell, .func (PySem.W.fnOf "_law_acell" "_law_acell" (defArgs st_law_acell) (defBody st_law_acell) (defScope st_law_acell) .none kV_law_acell dc_law_acell pm_law_acell an_law_acell cd_law_acell ct_law_acell), sl_law_acell⟩)
    (hc_law_acell : PySem.W.codeIn K cd_law_acell "_law_acell" = true)
    (hk_law_acell : PySem.W.keepIn K (.ref a_law_acell) = true)
    (hf_law_atape : PySem.W.nsIn K mainGlobals "_law_atape" = some (some (.ref a_law_atape)))
    (hl_law_atape : K.lookup a_law_atape = some ⟨oc_law_atape, od_law_atape, .func (PySem.W.fnOf "_law_atape" "_law_atape" (defArgs st_law_atape) (defBody st_law_atape) (defScope st_law_atape) .none kV_law_atape dc_law_atape pm_law_atape an_law_atape cd_law_atape ct_law_atape), sl_law_atape⟩)
    (hc_law_atape : PySem.W.codeIn K cd_law_atape "_law_atape" = true)
    (hk_law_atape : PySem.W.keepIn K (.ref a_law_atape) = true)
    (hf_law_adigit : PySem.W.nsIn K mainGlobals "_law_adigit" = some (some (.ref a_law_adigit)))
    (hl_law_adigit : K.lookup a_law_adigit = some ⟨oc_law_adigit, od_law_adigit, .func (PySem.W.fnOf "_law_adigit" "_law_adigit" (defArgs st_law_adigit) (defBody st_law_adigit) (defScope st_law_adigit) .none kV_law_adigit dc_law_adigit pm_law_adigit an_law_adigit cd_law_adigit ct_law_adigit), sl_law_adigit⟩)
    (hc_law_adigit : PySem.W.codeIn K cd_law_adigit "_law_adigit" = true)
    (hk_law_adigit : PySem.W.keepIn K (.ref a_law_adigit) = true)
    (hf_law_apool : PySem.W.nsIn K mainGlobals "_law_apool" = some (some (.ref a_law_apool)))
    (hl_law_apool : K.lookup a_law_apool = some ⟨oc_law_apool, od_law_apool, .func (PySem.W.fnOf "_law_apool" "_law_apool" (defArgs st_law_apool) (defBody st_law_apool) (defScope st_law_apool) .none kV_law_apool dc_law_apool pm_law_apool an_law_apool cd_law_apool ct_law_apool), sl_law_apool⟩)
    (hc_law_apool : PySem.W.codeIn K cd_law_apool "_law_apool" = true)
    (hk_law_apool : PySem.W.keepIn K (.ref a_law_apool) = true)
    (hf_law_amember : PySem.W.nsIn K mainGlobals "_law_amember" = some (some (.ref a_law_amember)))
    (hl_law_amember : K.lookup a_law_amember = some ⟨oc_law_amember, od_law_amember, .func (PySem.W.fnOf "_law_amember" "_law_amember" (defArgs st_law_amember) (defBody st_law_amember) (defScope st_law_amember) .none kV_law_amember dc_law_amember pm_law_amember an_law_amember cd_law_amember ct_law_amember), sl_law_amember⟩)
    (hc_law_amember : PySem.W.codeIn K cd_law_amember "_law_amember" = true)
    (hk_law_amember : PySem.W.keepIn K (.ref a_law_amember) = true)
    (hf_law_aarchives : PySem.W.nsIn K mainGlobals "_law_aarchives" = some (some (.ref a_law_aarchives)))
    (hl_law_aarchives : K.lookup a_law_aarchives = some ⟨oc_law_aarchives, od_law_aarchives, .func (PySem.W.fnOf "_law_aarchives" "_law_aarchives" (defArgs st_law_aarchives) (defBody st_law_aarchives) (defScope st_law_aarchives) .none kV_law_aarchives dc_law_aarchives pm_law_aarchives an_law_aarchives cd_law_aarchives ct_law_aarchives), sl_law_aarchives⟩)
    (hc_law_aarchives : PySem.W.codeIn K cd_law_aarchives "_law_aarchives" = true)
    (hk_law_aarchives : PySem.W.keepIn K (.ref a_law_aarchives) = true)
    (hf_law_adefines : PySem.W.nsIn K mainGlobals "_law_adefines" = some (some (.ref a_law_adefines)))
    (hl_law_adefines : K.lookup a_law_adefines = some ⟨oc_law_adefines, od_law_adefines, .func (PySem.W.fnOf "_law_adefines" "_law_adefines" (defArgs st_law_adefines) (defBody st_law_adefines) (defScope st_law_adefines) .none kV_law_adefines dc_law_adefines pm_law_adefines an_law_adefines cd_law_adefines ct_law_adefines), sl_law_adefines⟩)
    (hc_law_adefines : PySem.W.codeIn K cd_law_adefines "_law_adefines" = true)
    (hk_law_adefines : PySem.W.keepIn K (.ref a_law_adefines) = true)
    (hf_law_anamed : PySem.W.nsIn K mainGlobals "_law_anamed" = some (some (.ref a_law_anamed)))
    (hl_law_anamed : K.lookup a_law_anamed = some ⟨oc_law_anamed, od_law_anamed, .func (PySem.W.fnOf "_law_anamed" "_law_anamed" (defArgs st_law_anamed) (defBody st_law_anamed) (defScope st_law_anamed) .none kV_law_anamed dc_law_anamed pm_law_anamed an_law_anamed cd_law_anamed ct_law_anamed), sl_law_anamed⟩)
    (hc_law_anamed : PySem.W.codeIn K cd_law_anamed "_law_anamed" = true)
    (hk_law_anamed : PySem.W.keepIn K (.ref a_law_anamed) = true)
    (hf_law_asymbol : PySem.W.nsIn K mainGlobals "_law_asymbol" = some (some (.ref a_law_asymbol)))
    (hl_law_asymbol : K.lookup a_law_asymbol = some ⟨oc_law_asymbol, od_law_asymbol, .func (PySem.W.fnOf "_law_asymbol" "_law_asymbol" (defArgs st_law_asymbol) (defBody st_law_asymbol) (defScope st_law_asymbol) .none kV_law_asymbol dc_law_asymbol pm_law_asymbol an_law_asymbol cd_law_asymbol ct_law_asymbol), sl_law_asymbol⟩)
    (hc_law_asymbol : PySem.W.codeIn K cd_law_asymbol "_law_asymbol" = true)
    (hk_law_asymbol : PySem.W.keepIn K (.ref a_law_asymbol) = true)
    (hf_law_aasks : PySem.W.nsIn K mainGlobals "_law_aasks" = some (some (.ref a_law_aasks)))
    (hl_law_aasks : K.lookup a_law_aasks = some ⟨oc_law_aasks, od_law_aasks, .func (PySem.W.fnOf "_law_aasks" "_law_aasks" (defArgs st_law_aasks) (defBody st_law_aasks) (defScope st_law_aasks) .none kV_law_aasks dc_law_aasks pm_law_aasks an_law_aasks cd_law_aasks ct_law_aasks), sl_law_aasks⟩)
    (hc_law_aasks : PySem.W.codeIn K cd_law_aasks "_law_aasks" = true)
    (hk_law_aasks : PySem.W.keepIn K (.ref a_law_aasks) = true)
    (hf_law_aopen : PySem.W.nsIn K mainGlobals "_law_aopen" = some (some (.ref a_law_aopen)))
    (hl_law_aopen : K.lookup a_law_aopen = some ⟨oc_law_aopen, od_law_aopen, .func (PySem.W.fnOf "_law_aopen" "_law_aopen" (defArgs st_law_aopen) (defBody st_law_aopen) (defScope st_law_aopen) .none kV_law_aopen dc_law_aopen pm_law_aopen an_law_aopen cd_law_aopen ct_law_aopen), sl_law_aopen⟩)
    (hc_law_aopen : PySem.W.codeIn K cd_law_aopen "_law_aopen" = true)
    (hk_law_aopen : PySem.W.keepIn K (.ref a_law_aopen) = true)
    (hf_law_anext : PySem.W.nsIn K mainGlobals "_law_anext" = some (some (.ref a_law_anext)))
    (hl_law_anext : K.lookup a_law_anext = some ⟨oc_law_anext, od_law_anext, .func (PySem.W.fnOf "_law_anext" "_law_anext" (defArgs st_law_anext) (defBody st_law_anext) (defScope st_law_anext) .none kV_law_anext dc_law_anext pm_law_anext an_law_anext cd_law_anext ct_law_anext), sl_law_anext⟩)
    (hc_law_anext : PySem.W.codeIn K cd_law_anext "_law_anext" = true)
    (hk_law_anext : PySem.W.keepIn K (.ref a_law_anext) = true)
    (hf_law_adraws : PySem.W.nsIn K mainGlobals "_law_adraws" = some (some (.ref a_law_adraws)))
    (hl_law_adraws : K.lookup a_law_adraws = some ⟨oc_law_adraws, od_law_adraws, .func (PySem.W.fnOf "_law_adraws" "_law_adraws" (defArgs st_law_adraws) (defBody st_law_adraws) (defScope st_law_adraws) .none kV_law_adraws dc_law_adraws pm_law_adraws an_law_adraws cd_law_adraws ct_law_adraws), sl_law_adraws⟩)
    (hc_law_adraws : PySem.W.codeIn K cd_law_adraws "_law_adraws" = true)
    (hk_law_adraws : PySem.W.keepIn K (.ref a_law_adraws) = true)
    (hf_locals_of : PySem.W.nsIn K mainGlobals "locals_of" = some (some (.ref a_locals_of)))
    (hl_locals_of : K.lookup a_locals_of = some ⟨oc_locals_of, od_locals_of, .func (PySem.W.fnOf "locals_of" "locals_of" (defArgs st_locals_of) (defBody st_locals_of) (defScope st_locals_of) .none kV_locals_of dc_locals_of pm_locals_of an_locals_of cd_locals_of ct_locals_of), sl_locals_of⟩)
    (hc_locals_of : PySem.W.codeIn K cd_locals_of "locals_of" = true)
    (hk_locals_of : PySem.W.keepIn K (.ref a_locals_of) = true)
    (hf_named : PySem.W.nsIn K mainGlobals "named" = some (some (.ref a_named)))
    (hl_named : K.lookup a_named = some ⟨oc_named, od_named, .func (PySem.W.fnOf "named" "named" (defArgs st_named) (defBody st_named) (defScope st_named) .none kV_named dc_named pm_named an_named cd_named ct_named), sl_named⟩)
    (hc_named : PySem.W.codeIn K cd_named "named" = true)
    (hk_named : PySem.W.keepIn K (.ref a_named) = true)
    (hf_asked : PySem.W.nsIn K mainGlobals "asked" = some (some (.ref a_asked)))
    (hl_asked : K.lookup a_asked = some ⟨oc_asked, od_asked, .func (PySem.W.fnOf "asked" "asked" (defArgs st_asked) (defBody st_asked) (defScope st_asked) .none kV_asked dc_asked pm_asked an_asked cd_asked ct_asked), sl_asked⟩)
    (hc_asked : PySem.W.codeIn K cd_asked "asked" = true)
    (hk_asked : PySem.W.keepIn K (.ref a_asked) = true)
    (hf_askers : PySem.W.nsIn K mainGlobals "askers" = some (some (.ref a_askers)))
    (hl_askers : K.lookup a_askers = some ⟨oc_askers, od_askers, .func (PySem.W.fnOf "askers" "askers" (defArgs st_askers) (defBody st_askers) (defScope st_askers) .none kV_askers dc_askers pm_askers an_askers cd_askers ct_askers), sl_askers⟩)
    (hc_askers : PySem.W.codeIn K cd_askers "askers" = true)
    (hk_askers : PySem.W.keepIn K (.ref a_askers) = true)
    (hf_defined : PySem.W.nsIn K mainGlobals "defined" = some (some (.ref a_defined)))
    (hl_defined : K.lookup a_defined = some ⟨oc_defined, od_defined, .func (PySem.W.fnOf "defined" "defined" (defArgs st_defined) (defBody st_defined) (defScope st_defined) .none kV_defined dc_defined pm_defined an_defined cd_defined ct_defined), sl_defined⟩)
    (hc_defined : PySem.W.codeIn K cd_defined "defined" = true)
    (hk_defined : PySem.W.keepIn K (.ref a_defined) = true)
    (hf_open_names : PySem.W.nsIn K mainGlobals "open_names" = some (some (.ref a_open_names)))
    (hl_open_names : K.lookup a_open_names = some ⟨oc_open_names, od_open_names, .func (PySem.W.fnOf "open_names" "open_names" (defArgs st_open_names) (defBody st_open_names) (defScope st_open_names) .none kV_open_names dc_open_names pm_open_names an_open_names cd_open_names ct_open_names), sl_open_names⟩)
    (hc_open_names : PySem.W.codeIn K cd_open_names "open_names" = true)
    (hk_open_names : PySem.W.keepIn K (.ref a_open_names) = true)
    (hf_next_reason : PySem.W.nsIn K mainGlobals "next_reason" = some (some (.ref a_next_reason)))
    (hl_next_reason : K.lookup a_next_reason = some ⟨oc_next_reason, od_next_reason, .func (PySem.W.fnOf "next_reason" "next_reason" (defArgs st_next_reason) (defBody st_next_reason) (defScope st_next_reason) .none kV_next_reason dc_next_reason pm_next_reason an_next_reason cd_next_reason ct_next_reason), sl_next_reason⟩)
    (hc_next_reason : PySem.W.codeIn K cd_next_reason "next_reason" = true)
    (hk_next_reason : PySem.W.keepIn K (.ref a_next_reason) = true)
    (hf_drawn : PySem.W.nsIn K mainGlobals "drawn" = some (some (.ref a_drawn)))
    (hl_drawn : K.lookup a_drawn = some ⟨oc_drawn, od_drawn, .func (PySem.W.fnOf "drawn" "drawn" (defArgs st_drawn) (defBody st_drawn) (defScope st_drawn) .none (.ref kd_drawn) dc_drawn pm_drawn an_drawn cd_drawn ct_drawn), sl_drawn⟩)
    (hc_drawn : PySem.W.codeIn K cd_drawn "drawn" = true)
    (hk_drawn : PySem.W.keepIn K (.ref a_drawn) = true)
    (hf_law : PySem.W.nsIn K mainGlobals "law" = some (some (.ref a_law)))
    (hl_law : K.lookup a_law = some ⟨oc_law, od_law, .func (PySem.W.fnOf "law" "law" (defArgs st_law) (defBody st_law) (defScope st_law) .none kV_law dc_law pm_law an_law cd_law ct_law), sl_law⟩)
    (hc_law : PySem.W.codeIn K cd_law "law" = true)
    (hk_law : PySem.W.keepIn K (.ref a_law) = true)
    (hz_dict : PySem.W.nsIn K mainGlobals "dict" = some none)
    (hz_enumerate : PySem.W.nsIn K mainGlobals "enumerate" = some none)
    (hz_isinstance : PySem.W.nsIn K mainGlobals "isinstance" = some none)
    (hz_len : PySem.W.nsIn K mainGlobals "len" = some none)
    (hz_list : PySem.W.nsIn K mainGlobals "list" = some none)
    (hz_max : PySem.W.nsIn K mainGlobals "max" = some none)
    (hz_min : PySem.W.nsIn K mainGlobals "min" = some none)
    (hz_range : PySem.W.nsIn K mainGlobals "range" = some none)
    (hz_repr : PySem.W.nsIn K mainGlobals "repr" = some none)
    (hz_sorted : PySem.W.nsIn K mainGlobals "sorted" = some none)
    (hz_str : PySem.W.nsIn K mainGlobals "str" = some none)
    (hz_tuple : PySem.W.nsIn K mainGlobals "tuple" = some none)
    (hkd_drawn_group : PySem.W.nsIn K kd_drawn "group" = some (some (Value.bool false)))
    (ht_DEFINING : PySem.W.nsIn K mainGlobals "DEFINING" = some (some (.ref at_DEFINING)))
    (hT_DEFINING : K.lookup at_DEFINING = some ⟨.type "tuple", td_DEFINING, .seq #[.str "strong" tk_DEFINING_0, .str "weak" tk_DEFINING_1, .str "common" tk_DEFINING_2] tn_DEFINING, ts_DEFINING⟩) :
    ∃ ad : Ad, ∃ fd : FuncData, (∀ (s : Shared) (v : Value), BindsTo s fd ⟨[v], []⟩ [("script", v)]) ∧ ∀ base : Heap, K.In base → base.Ns mainGlobals mg → FnG l.prog w K mg base fa fd ["script"] (spF K 1 (f_law ad)) := by
  have e := hfa.symm.trans (PySem.W.mg_of X G hf_law)
  cases e
  let ad : Ad := ⟨a_law_acell, PySem.W.fnOf "_law_acell" "_law_acell" (defArgs st_law_acell) (defBody st_law_acell) (defScope st_law_acell) .none kV_law_acell dc_law_acell pm_law_acell an_law_acell cd_law_acell ct_law_acell, a_law_atape, PySem.W.fnOf "_law_atape" "_law_atape" (defArgs st_law_atape) (defBody st_law_atape) (defScope st_law_atape) .none kV_law_atape dc_law_atape pm_law_atape an_law_atape cd_law_atape ct_law_atape, a_law_adigit, PySem.W.fnOf "_law_adigit" "_law_adigit" (defArgs st_law_adigit) (defBody st_law_adigit) (defScope st_law_adigit) .none kV_law_adigit dc_law_adigit pm_law_adigit an_law_adigit cd_law_adigit ct_law_adigit, a_law_apool, PySem.W.fnOf "_law_apool" "_law_apool" (defArgs st_law_apool) (defBody st_law_apool) (defScope st_law_apool) .none kV_law_apool dc_law_apool pm_law_apool an_law_apool cd_law_apool ct_law_apool, a_law_amember, PySem.W.fnOf "_law_amember" "_law_amember" (defArgs st_law_amember) (defBody st_law_amember) (defScope st_law_amember) .none kV_law_amember dc_law_amember pm_law_amember an_law_amember cd_law_amember ct_law_amember, a_law_aarchives, PySem.W.fnOf "_law_aarchives" "_law_aarchives" (defArgs st_law_aarchives) (defBody st_law_aarchives) (defScope st_law_aarchives) .none kV_law_aarchives dc_law_aarchives pm_law_aarchives an_law_aarchives cd_law_aarchives ct_law_aarchives, a_law_adefines, PySem.W.fnOf "_law_adefines" "_law_adefines" (defArgs st_law_adefines) (defBody st_law_adefines) (defScope st_law_adefines) .none kV_law_adefines dc_law_adefines pm_law_adefines an_law_adefines cd_law_adefines ct_law_adefines, a_law_anamed, PySem.W.fnOf "_law_anamed" "_law_anamed" (defArgs st_law_anamed) (defBody st_law_anamed) (defScope st_law_anamed) .none kV_law_anamed dc_law_anamed pm_law_anamed an_law_anamed cd_law_anamed ct_law_anamed, a_law_asymbol, PySem.W.fnOf "_law_asymbol" "_law_asymbol" (defArgs st_law_asymbol) (defBody st_law_asymbol) (defScope st_law_asymbol) .none kV_law_asymbol dc_law_asymbol pm_law_asymbol an_law_asymbol cd_law_asymbol ct_law_asymbol, a_law_aasks, PySem.W.fnOf "_law_aasks" "_law_aasks" (defArgs st_law_aasks) (defBody st_law_aasks) (defScope st_law_aasks) .none kV_law_aasks dc_law_aasks pm_law_aasks an_law_aasks cd_law_aasks ct_law_aasks, a_law_aopen, PySem.W.fnOf "_law_aopen" "_law_aopen" (defArgs st_law_aopen) (defBody st_law_aopen) (defScope st_law_aopen) .none kV_law_aopen dc_law_aopen pm_law_aopen an_law_aopen cd_law_aopen ct_law_aopen, a_law_anext, PySem.W.fnOf "_law_anext" "_law_anext" (defArgs st_law_anext) (defBody st_law_anext) (defScope st_law_anext) .none kV_law_anext dc_law_anext pm_law_anext an_law_anext cd_law_anext ct_law_anext, a_law_adraws, PySem.W.fnOf "_law_adraws" "_law_adraws" (defArgs st_law_adraws) (defBody st_law_adraws) (defScope st_law_adraws) .none kV_law_adraws dc_law_adraws pm_law_adraws an_law_adraws cd_law_adraws ct_law_adraws, a_locals_of, PySem.W.fnOf "locals_of" "locals_of" (defArgs st_locals_of) (defBody st_locals_of) (defScope st_locals_of) .none kV_locals_of dc_locals_of pm_locals_of an_locals_of cd_locals_of ct_locals_of, a_named, PySem.W.fnOf "named" "named" (defArgs st_named) (defBody st_named) (defScope st_named) .none kV_named dc_named pm_named an_named cd_named ct_named, a_asked, PySem.W.fnOf "asked" "asked" (defArgs st_asked) (defBody st_asked) (defScope st_asked) .none kV_asked dc_asked pm_asked an_asked cd_asked ct_asked, a_askers, PySem.W.fnOf "askers" "askers" (defArgs st_askers) (defBody st_askers) (defScope st_askers) .none kV_askers dc_askers pm_askers an_askers cd_askers ct_askers, a_defined, PySem.W.fnOf "defined" "defined" (defArgs st_defined) (defBody st_defined) (defScope st_defined) .none kV_defined dc_defined pm_defined an_defined cd_defined ct_defined, a_open_names, PySem.W.fnOf "open_names" "open_names" (defArgs st_open_names) (defBody st_open_names) (defScope st_open_names) .none kV_open_names dc_open_names pm_open_names an_open_names cd_open_names ct_open_names, a_next_reason, PySem.W.fnOf "next_reason" "next_reason" (defArgs st_next_reason) (defBody st_next_reason) (defScope st_next_reason) .none kV_next_reason dc_next_reason pm_next_reason an_next_reason cd_next_reason ct_next_reason, a_drawn, PySem.W.fnOf "drawn" "drawn" (defArgs st_drawn) (defBody st_drawn) (defScope st_drawn) .none (.ref kd_drawn) dc_drawn pm_drawn an_drawn cd_drawn ct_drawn, fa, PySem.W.fnOf "law" "law" (defArgs st_law) (defBody st_law) (defScope st_law) .none kV_law dc_law pm_law an_law cd_law ct_law⟩
  have F_law_acell := fun_mk (st := st_law_acell) hl_law_acell hc_law_acell hk_law_acell
  have F_law_atape := fun_mk (st := st_law_atape) hl_law_atape hc_law_atape hk_law_atape
  have F_law_adigit := fun_mk (st := st_law_adigit) hl_law_adigit hc_law_adigit hk_law_adigit
  have F_law_apool := fun_mk (st := st_law_apool) hl_law_apool hc_law_apool hk_law_apool
  have F_law_amember := fun_mk (st := st_law_amember) hl_law_amember hc_law_amember hk_law_amember
  have F_law_aarchives := fun_mk (st := st_law_aarchives) hl_law_aarchives hc_law_aarchives hk_law_aarchives
  have F_law_adefines := fun_mk (st := st_law_adefines) hl_law_adefines hc_law_adefines hk_law_adefines
  have F_law_anamed := fun_mk (st := st_law_anamed) hl_law_anamed hc_law_anamed hk_law_anamed
  have F_law_asymbol := fun_mk (st := st_law_asymbol) hl_law_asymbol hc_law_asymbol hk_law_asymbol
  have F_law_aasks := fun_mk (st := st_law_aasks) hl_law_aasks hc_law_aasks hk_law_aasks
  have F_law_aopen := fun_mk (st := st_law_aopen) hl_law_aopen hc_law_aopen hk_law_aopen
  have F_law_anext := fun_mk (st := st_law_anext) hl_law_anext hc_law_anext hk_law_anext
  have F_law_adraws := fun_mk (st := st_law_adraws) hl_law_adraws hc_law_adraws hk_law_adraws
  have F_locals_of := fun_mk (st := st_locals_of) hl_locals_of hc_locals_of hk_locals_of
  have F_named := fun_mk (st := st_named) hl_named hc_named hk_named
  have F_asked := fun_mk (st := st_asked) hl_asked hc_asked hk_asked
  have F_askers := fun_mk (st := st_askers) hl_askers hc_askers hk_askers
  have F_defined := fun_mk (st := st_defined) hl_defined hc_defined hk_defined
  have F_open_names := fun_mk (st := st_open_names) hl_open_names hc_open_names hk_open_names
  have F_next_reason := fun_mk (st := st_next_reason) hl_next_reason hc_next_reason hk_next_reason
  have F_drawn := fun_mk (st := st_drawn) hl_drawn hc_drawn hk_drawn
  have F_law := fun_mk (st := st_law) hl_law hc_law hk_law
  have T : TX K mg ad := ⟨F_law_acell,
    (F_law_acell.binds (ps := ["script", "k"]) fun _ _ _ _ _ _ us hl => match us, hl with | [_, _], _ => rfl),
    (PySem.W.mg_of X G hf_law_acell),
    F_law_atape,
    (F_law_atape.binds (ps := ["script", "k"]) fun _ _ _ _ _ _ us hl => match us, hl with | [_, _], _ => rfl),
    (PySem.W.mg_of X G hf_law_atape),
    F_law_adigit,
    (F_law_adigit.binds (ps := ["tape", "many"]) fun _ _ _ _ _ _ us hl => match us, hl with | [_, _], _ => rfl),
    (PySem.W.mg_of X G hf_law_adigit),
    F_law_apool,
    (F_law_apool.binds (ps := ["tape"]) fun _ _ _ _ _ _ us hl => match us, hl with | [_], _ => rfl),
    (PySem.W.mg_of X G hf_law_apool),
    F_law_amember,
    (F_law_amember.binds (ps := ["tape", "pool", "name"]) fun _ _ _ _ _ _ us hl => match us, hl with | [_, _, _], _ => rfl),
    (PySem.W.mg_of X G hf_law_amember),
    F_law_aarchives,
    (F_law_aarchives.binds (ps := ["tape", "pool"]) fun _ _ _ _ _ _ us hl => match us, hl with | [_, _], _ => rfl),
    (PySem.W.mg_of X G hf_law_aarchives),
    F_law_adefines,
    (F_law_adefines.binds (ps := ["piece"]) fun _ _ _ _ _ _ us hl => match us, hl with | [_], _ => rfl),
    (PySem.W.mg_of X G hf_law_adefines),
    F_law_anamed,
    (F_law_anamed.binds (ps := ["item"]) fun _ _ _ _ _ _ us hl => match us, hl with | [_], _ => rfl),
    (PySem.W.mg_of X G hf_law_anamed),
    F_law_asymbol,
    (F_law_asymbol.binds (ps := ["piece", "name"]) fun _ _ _ _ _ _ us hl => match us, hl with | [_, _], _ => rfl),
    (PySem.W.mg_of X G hf_law_asymbol),
    F_law_aasks,
    (F_law_aasks.binds (ps := ["piece"]) fun _ _ _ _ _ _ us hl => match us, hl with | [_], _ => rfl),
    (PySem.W.mg_of X G hf_law_aasks),
    F_law_aopen,
    (F_law_aopen.binds (ps := ["pieces"]) fun _ _ _ _ _ _ us hl => match us, hl with | [_], _ => rfl),
    (PySem.W.mg_of X G hf_law_aopen),
    F_law_anext,
    (F_law_anext.binds (ps := ["pieces", "archives", "seats", "done"]) fun _ _ _ _ _ _ us hl => match us, hl with | [_, _, _, _], _ => rfl),
    (PySem.W.mg_of X G hf_law_anext),
    F_law_adraws,
    (F_law_adraws.binds (ps := ["pieces", "archives", "grouped"]) fun _ _ _ _ _ _ us hl => match us, hl with | [_, _, _], _ => rfl),
    (PySem.W.mg_of X G hf_law_adraws),
    F_locals_of,
    (F_locals_of.binds (ps := ["piece"]) fun _ _ _ _ _ _ us hl => match us, hl with | [_], _ => rfl),
    (PySem.W.mg_of X G hf_locals_of),
    F_named,
    (F_named.binds (ps := ["item"]) fun _ _ _ _ _ _ us hl => match us, hl with | [_], _ => rfl),
    (PySem.W.mg_of X G hf_named),
    F_asked,
    (F_asked.binds (ps := ["piece"]) fun _ _ _ _ _ _ us hl => match us, hl with | [_], _ => rfl),
    (PySem.W.mg_of X G hf_asked),
    F_askers,
    (F_askers.binds (ps := ["pieces"]) fun _ _ _ _ _ _ us hl => match us, hl with | [_], _ => rfl),
    (PySem.W.mg_of X G hf_askers),
    F_defined,
    (F_defined.binds (ps := ["piece"]) fun _ _ _ _ _ _ us hl => match us, hl with | [_], _ => rfl),
    (PySem.W.mg_of X G hf_defined),
    F_open_names,
    (F_open_names.binds (ps := ["pieces"]) fun _ _ _ _ _ _ us hl => match us, hl with | [_], _ => rfl),
    (PySem.W.mg_of X G hf_open_names),
    F_next_reason,
    (F_next_reason.binds (ps := ["pieces", "archives", "spots", "done"]) fun _ _ _ _ _ _ us hl => match us, hl with | [_, _, _, _], _ => rfl),
    (PySem.W.mg_of X G hf_next_reason),
    F_drawn,
    (binds_kw (kws := [("group", V.bl false)]) (n := 2) hl_drawn hc_drawn hk_drawn (fun q hq => by
      rw [List.mem_singleton] at hq
      subst hq
      exact ⟨_, hkd_drawn_group, rfl⟩) (by decide) rfl (fun us r => by
      cases r with
      | cons h t =>
        cases t
        cases h
        rfl) fun _ _ _ _ _ _ us ks h1 h2 => match us, ks, h1, h2 with | [_, _], [_], _, _ => ⟨_, _, _, _, _, _, rfl, rfl, rfl⟩),
    (PySem.W.mg_of X G hf_drawn),
    F_law,
    (F_law.binds (ps := ["script"]) fun _ _ _ _ _ _ us hl => match us, hl with | [_], _ => rfl),
    (PySem.W.mg_of X G hf_law),
    (PySem.W.mg_none_of X G hz_dict),
    (PySem.W.mg_none_of X G hz_enumerate),
    (PySem.W.mg_none_of X G hz_isinstance),
    (PySem.W.mg_none_of X G hz_len),
    (PySem.W.mg_none_of X G hz_list),
    (PySem.W.mg_none_of X G hz_max),
    (PySem.W.mg_none_of X G hz_min),
    (PySem.W.mg_none_of X G hz_range),
    (PySem.W.mg_none_of X G hz_repr),
    (PySem.W.mg_none_of X G hz_sorted),
    (PySem.W.mg_none_of X G hz_str),
    (PySem.W.mg_none_of X G hz_tuple),
    ⟨_, PySem.W.mg_of X G ht_DEFINING, _, _, _, hT_DEFINING, rfl, rfl, (by show 3 ≤ sizeLine; decide +kernel), Paired.cons ⟨_, rfl⟩ (Paired.cons ⟨_, rfl⟩ (Paired.cons ⟨_, rfl⟩ (Paired.nil)))⟩⟩
  exact ⟨ad, PySem.W.fnOf "law" "law" (defArgs st_law) (defBody st_law) (defScope st_law) .none kV_law dc_law pm_law an_law cd_law ct_law, fun s v => .of_eq rfl, fun base _ _ => ok_law T⟩
theorem walk {l : PySem.W.OpenLaw} {q : Program} {loose : List Str} {XP : (Str → Option Value) → Heap → Prop} {YP : World → Heap → Prop} {d : DefRec} {K : Params → PySem.W.Frag} (hn : l.most = some 63) (hdf : d.params.defaults = [])
    (hY : ∀ (w : World) (h : Heap), YP w h → (K w.params).In h)
    (Fa : ∀ (w : World) (mg : Str → Option Value) (fa : Addr) (h : Heap), (K w.params).In h → h.Ns mainGlobals mg → mg d.name = some (.ref fa) →
      ∃ ad : Ad, ∃ fd : FuncData, (∀ (s : Shared) (u : Value), BindsTo s fd ⟨[u], []⟩ [("script", u)]) ∧ ∀ base : Heap, (K w.params).In base → base.Ns mainGlobals mg → FnG l.prog w (K w.params) mg base fa fd ["script"] (spF (K w.params) 1 (f_law ad))) :
    PySem.W.WalkO q loose XP YP l.row.toRowW d [] (fun f vs => PySem.call f vs) :=
  walk_ofG (n := 63) (x := "script") (sp := fun w => spL (K w.params)) hn (by decide) hdf hY (fun w mg fa h X G e => by
      obtain ⟨ad, fd, hb, hF⟩ := Fa w mg fa h X G e
      exact ⟨fd, hb, fun base h1 h2 => ⟨fun vs H Q E hs => (hF base h1 h2).len _ _ _ _ (spL_imp ad hs), fun s H args us vs Q E e0 b r hs => (hF base h1 h2).run s H args us vs Q E e0 b r (spL_imp ad hs)⟩⟩)
    fun _ _ a ns hl hb _ hS => ⟨a, ns, rfl, hS, hl, hb, fun _ => rfl⟩
end Lw
open PySem PySem.W PyProof.Rows
set_option maxRecDepth 100000 in
set_option maxHeartbeats 0 in
theorem PySem.Challenge.cw_weldmill_k23_members_drawn_holds : PySem.Challenge.rw_weldmill_k23_members_drawn.Holds := by
  w_on; o_law; k_head; (case hw => w_witness2)
  k_fill
  refine Lw.walk (l := PySem.Challenge.rw_weldmill_k23_members_drawn) rfl rfl (fun w h Y => PySem.W.kIn_of Y) ?F
  case F =>
    intro w mg fa h KX G hmg
    refine' Lw.all_mk KX G hmg ?hf_law_acell ?hl_law_acell ?hc_law_acell ?hk_law_acell ?hf_law_atape ?hl_law_atape ?hc_law_atape ?hk_law_atape ?hf_law_adigit ?hl_law_adigit ?hc_law_adigit ?hk_law_adigit ?hf_law_apool ?hl_law_apool ?hc_law_apool ?hk_law_apool ?hf_law_amember ?hl_law_amember ?hc_law_amember ?hk_law_amember ?hf_law_aarchives ?hl_law_aarchives ?hc_law_aarchives ?hk_law_aarchives ?hf_law_adefines ?hl_law_adefines ?hc_law_adefines ?hk_law_adefines ?hf_law_anamed ?hl_law_anamed ?hc_law_anamed ?hk_law_anamed ?hf_law_asymbol ?hl_law_asymbol ?hc_law_asymbol ?hk_law_asymbol ?hf_law_aasks ?hl_law_aasks ?hc_law_aasks ?hk_law_aasks ?hf_law_aopen ?hl_law_aopen ?hc_law_aopen ?hk_law_aopen ?hf_law_anext ?hl_law_anext ?hc_law_anext ?hk_law_anext ?hf_law_adraws ?hl_law_adraws ?hc_law_adraws ?hk_law_adraws ?hf_locals_of ?hl_locals_of ?hc_locals_of ?hk_locals_of ?hf_named ?hl_named ?hc_named ?hk_named ?hf_asked ?hl_asked ?hc_asked ?hk_asked ?hf_askers ?hl_askers ?hc_askers ?hk_askers ?hf_defined ?hl_defined ?hc_defined ?hk_defined ?hf_open_names ?hl_open_names ?hc_open_names ?hk_open_names ?hf_next_reason ?hl_next_reason ?hc_next_reason ?hk_next_reason ?hf_drawn ?hl_drawn ?hc_drawn ?hk_drawn ?hf_law ?hl_law ?hc_law ?hk_law ?hz_dict ?hz_enumerate ?hz_isinstance ?hz_len ?hz_list ?hz_max ?hz_min ?hz_range ?hz_repr ?hz_sorted ?hz_str ?hz_tuple ?hkd_drawn_group ?ht_DEFINING ?hT_DEFINING
    (case hf_law_acell => k_is)
    (case hl_law_acell => k_is)
    (case hc_law_acell => k_is)
    (case hk_law_acell => k_is)
    (case hf_law_atape => k_is)
    (case hl_law_atape => k_is)
    (case hc_law_atape => k_is)
    (case hk_law_atape => k_is)
    (case hf_law_adigit => k_is)
    (case hl_law_adigit => k_is)
    (case hc_law_adigit => k_is)
    (case hk_law_adigit => k_is)
    (case hf_law_apool => k_is)
    (case hl_law_apool => k_is)
    (case hc_law_apool => k_is)
    (case hk_law_apool => k_is)
    (case hf_law_amember => k_is)
    (case hl_law_amember => k_is)
    (case hc_law_amember => k_is)
    (case hk_law_amember => k_is)
    (case hf_law_aarchives => k_is)
    (case hl_law_aarchives => k_is)
    (case hc_law_aarchives => k_is)
    (case hk_law_aarchives => k_is)
    (case hf_law_adefines => k_is)
    (case hl_law_adefines => k_is)
    (case hc_law_adefines => k_is)
    (case hk_law_adefines => k_is)
    (case hf_law_anamed => k_is)
    (case hl_law_anamed => k_is)
    (case hc_law_anamed => k_is)
    (case hk_law_anamed => k_is)
    (case hf_law_asymbol => k_is)
    (case hl_law_asymbol => k_is)
    (case hc_law_asymbol => k_is)
    (case hk_law_asymbol => k_is)
    (case hf_law_aasks => k_is)
    (case hl_law_aasks => k_is)
    (case hc_law_aasks => k_is)
    (case hk_law_aasks => k_is)
    (case hf_law_aopen => k_is)
    (case hl_law_aopen => k_is)
    (case hc_law_aopen => k_is)
    (case hk_law_aopen => k_is)
    (case hf_law_anext => k_is)
    (case hl_law_anext => k_is)
    (case hc_law_anext => k_is)
    (case hk_law_anext => k_is)
    (case hf_law_adraws => k_is)
    (case hl_law_adraws => k_is)
    (case hc_law_adraws => k_is)
    (case hk_law_adraws => k_is)
    (case hf_locals_of => k_is)
    (case hl_locals_of => k_is)
    (case hc_locals_of => k_is)
    (case hk_locals_of => k_is)
    (case hf_named => k_is)
    (case hl_named => k_is)
    (case hc_named => k_is)
    (case hk_named => k_is)
    (case hf_asked => k_is)
    (case hl_asked => k_is)
    (case hc_asked => k_is)
    (case hk_asked => k_is)
    (case hf_askers => k_is)
    (case hl_askers => k_is)
    (case hc_askers => k_is)
    (case hk_askers => k_is)
    (case hf_defined => k_is)
    (case hl_defined => k_is)
    (case hc_defined => k_is)
    (case hk_defined => k_is)
    (case hf_open_names => k_is)
    (case hl_open_names => k_is)
    (case hc_open_names => k_is)
    (case hk_open_names => k_is)
    (case hf_next_reason => k_is)
    (case hl_next_reason => k_is)
    (case hc_next_reason => k_is)
    (case hk_next_reason => k_is)
    (case hf_drawn => k_is)
    (case hl_drawn => k_is)
    (case hc_drawn => k_is)
    (case hk_drawn => k_is)
    (case hf_law => k_is)
    (case hl_law => k_is)
    (case hc_law => k_is)
    (case hk_law => k_is)
    (case hz_dict => k_is)
    (case hz_enumerate => k_is)
    (case hz_isinstance => k_is)
    (case hz_len => k_is)
    (case hz_list => k_is)
    (case hz_max => k_is)
    (case hz_min => k_is)
    (case hz_range => k_is)
    (case hz_repr => k_is)
    (case hz_sorted => k_is)
    (case hz_str => k_is)
    (case hz_tuple => k_is)
    (case hkd_drawn_group => k_is)
    (case ht_DEFINING => k_is)
    (case hT_DEFINING => k_is)
