import PyProof.Rows.All
import Wide.All
import OpenK.AllK
import Wide.FinOn
import HandS.ForMost
import HandS.Exc
import HandS.ExcOwn
import HandS.CallSlots
import HandS.Walk
import HandS.HeadHook1
import HandS.Defaults
import HandS.HeadEnd
import HandS.TupAny
import HandS.TupMul
import HandS.TupLe
import HandS.IsInst
import HandS.Deep
import HandS.Small
import HandS.WideBits
import PyProof.StrOps2
import PyProof.ReprRoads
import HandS.Conv
import HandS.FStrTup
import HandS.StrSplit
import HandS.Iter
import HandS.Zip
import HandS.Style
import KE.GoesNew
import HandS.WordsExc
import KE.KStateDown
import Lean
import HandS.Base
import HandS.Call
import HandS.Ends
import HandS.More
import HandS.Words
import HandS.Head0
import HandS.Head1
import HandS.Head2
import HandS.HeadHook2
import PySem.Challenge.RW_platekin_k77_frames_and_bursts
set_option Elab.async false
set_option linter.all false
set_option maxRecDepth 100000
set_option maxHeartbeats 4000000
namespace Mv
open PySem PySem.Spec PyProof.Rows L2

/-! ### values as plain data -/
abbrev Tx := List Nat
abbrev PKy := Sum Int Tx
def mkS (s : Tx) : Str := ⟨s.toArray⟩
def toKey : PKy → Key
  | .inl i => .inl i
  | .inr s => .inr (mkS s)
inductive PV where
  | non | bl (b : Bool) | int (i : Int) | str (s : Tx) | tup (xs : List PV) | lst (xs : List PV) | dic (ks : List PKy) (vs : List PV) | scr (xs : List Int) | opq (v : V)
instance : Inhabited PV := ⟨.non⟩
/-- a tree that the def owns: its lists and dicts are held by nobody else -/
inductive MV where
  | fz (p : PV) | ml (xs : List MV) | md (ks : List PKy) (vs : List MV)
instance : Inhabited MV := ⟨.fz .non⟩
mutual
def MV.view : MV → PV
  | .fz p => p
  | .ml xs => .lst (MV.views xs)
  | .md ks vs => .dic ks (MV.views vs)
def MV.views : List MV → List PV
  | [] => []
  | x :: xs => MV.view x :: MV.views xs
end

/-! ### what stands for what -/
mutual
def RepF (K : PySem.W.Frag) (F : Hp) : PV → V → Prop
  | .non, v => v = .non
  | .bl b, v => v = .bl b
  | .int i, v => v = .int i
  | .str s, v => v = .str (mkS s)
  | .tup xs, v => ∃ a vs, v = .ref a ∧ SqT K F a vs ∧ RepFs K F xs vs
  | .lst xs, v => ∃ a vs, v = .ref a ∧ F a = some (.lst vs) ∧ RepFs K F xs vs
  | .dic ks xs, v => ∃ a kvs, v = .ref a ∧ F a = some (.dK kvs) ∧ kvs.map (·.1) = ks.map toKey ∧ RepFs K F xs (kvs.map (·.2))
  | .scr xs, v => ∃ a, v = .ref a ∧ SqL K F a (xs.map .int)
  | .opq v0, v => v = v0
def RepFs (K : PySem.W.Frag) (F : Hp) : List PV → List V → Prop
  | [], vs => vs = []
  | x :: xs, vs => ∃ v r, vs = v :: r ∧ RepF K F x v ∧ RepFs K F xs r
end
mutual
def RepM (K : PySem.W.Frag) (F H : Hp) : MV → V → List Addr → Prop
  | .fz p, v, f => f = [] ∧ RepF K F p v
  | .ml xs, v, f => ∃ a vs r, v = .ref a ∧ H a = some (.lst vs) ∧ f = a :: r ∧ RepMs K F H xs vs r
  | .md ks xs, v, f => ∃ a kvs r, v = .ref a ∧ H a = some (.dK kvs) ∧ kvs.map (·.1) = ks.map toKey ∧ f = a :: r ∧ RepMs K F H xs (kvs.map (·.2)) r
def RepMs (K : PySem.W.Frag) (F H : Hp) : List MV → List V → List Addr → Prop
  | [], vs, f => vs = [] ∧ f = []
  | x :: xs, vs, f => ∃ v r f1 f2, vs = v :: r ∧ f = f1 ++ f2 ∧ RepM K F H x v f1 ∧ RepMs K F H xs r f2
end

theorem same_rd {H H' : Hp} {a : Addr} {u : HO} (e : Same H H') (h : Rd H a u) : Rd H' a u := by
  rcases h with h | ⟨o, h⟩
  · exact .inl (e a _ h)
  · exact .inr ⟨o, e a _ h⟩
theorem same_l {K : PySem.W.Frag} {H H' : Hp} {a : Addr} {xs : List V} (e : Same H H') (h : SqL K H a xs) : SqL K H' a xs := e.seq h
theorem same_t {K : PySem.W.Frag} {H H' : Hp} {a : Addr} {xs : List V} (e : Same H H') (h : SqT K H a xs) : SqT K H' a xs := by
  rcases h with h | h
  · exact .inl (same_rd e h)
  · exact .inr h
mutual
theorem RepF.mono {K : PySem.W.Frag} {F F' : Hp} (e : Same F F') : ∀ (p : PV) (v : V), RepF K F p v → RepF K F' p v
  | .non, v, h => by rw [RepF] at h ⊢; exact h
  | .bl b, v, h => by rw [RepF] at h ⊢; exact h
  | .int i, v, h => by rw [RepF] at h ⊢; exact h
  | .str s, v, h => by rw [RepF] at h ⊢; exact h
  | .opq s, v, h => by rw [RepF] at h ⊢; exact h
  | .tup xs, v, h => by
    rw [RepF] at h ⊢
    obtain ⟨a, vs, e1, e2, e3⟩ := h
    exact ⟨a, vs, e1, same_t e e2, RepFs.mono e xs vs e3⟩
  | .lst xs, v, h => by
    rw [RepF] at h ⊢
    obtain ⟨a, vs, e1, e2, e3⟩ := h
    exact ⟨a, vs, e1, e a _ e2, RepFs.mono e xs vs e3⟩
  | .scr xs, v, h => by
    rw [RepF] at h ⊢
    obtain ⟨a, e1, e2⟩ := h
    exact ⟨a, e1, same_l e e2⟩
  | .dic ks xs, v, h => by
    rw [RepF] at h ⊢
    obtain ⟨a, kvs, e1, e2, e3, e4⟩ := h
    exact ⟨a, kvs, e1, e _ _ e2, e3, RepFs.mono e xs _ e4⟩
theorem RepFs.mono {K : PySem.W.Frag} {F F' : Hp} (e : Same F F') : ∀ (ps : List PV) (vs : List V), RepFs K F ps vs → RepFs K F' ps vs
  | [], vs, h => by rw [RepFs] at h ⊢; exact h
  | x :: xs, vs, h => by
    rw [RepFs] at h ⊢
    obtain ⟨v, r, e1, e2, e3⟩ := h
    exact ⟨v, r, e1, RepF.mono e x v e2, RepFs.mono e xs r e3⟩
end
mutual
theorem RepM.mono {K : PySem.W.Frag} {F F' H H' : Hp} (e : Same F F') : ∀ (m : MV) (v : V) (f : List Addr), (∀ a ∈ f, ∀ o, H a = some o → H' a = some o) → RepM K F H m v f → RepM K F' H' m v f
  | .fz p, v, f, k, h => by
    rw [RepM] at h ⊢
    exact ⟨h.1, RepF.mono e p v h.2⟩
  | .ml xs, v, f, k, h => by
    rw [RepM] at h ⊢
    obtain ⟨a, vs, r, e1, e2, e3, e4⟩ := h
    subst e3
    exact ⟨a, vs, r, e1, k a (List.mem_cons_self ..) _ e2, rfl, RepMs.mono e xs vs r (fun b hb => k b (List.mem_cons_of_mem _ hb)) e4⟩
  | .md ks xs, v, f, k, h => by
    rw [RepM] at h ⊢
    obtain ⟨a, kvs, r, e1, e2, e3, e4, e5⟩ := h
    subst e4
    exact ⟨a, kvs, r, e1, k a (List.mem_cons_self ..) _ e2, e3, rfl, RepMs.mono e xs _ r (fun b hb => k b (List.mem_cons_of_mem _ hb)) e5⟩
theorem RepMs.mono {K : PySem.W.Frag} {F F' H H' : Hp} (e : Same F F') : ∀ (ms : List MV) (vs : List V) (f : List Addr), (∀ a ∈ f, ∀ o, H a = some o → H' a = some o) → RepMs K F H ms vs f → RepMs K F' H' ms vs f
  | [], vs, f, k, h => by rw [RepMs] at h ⊢; exact h
  | x :: xs, vs, f, k, h => by
    rw [RepMs] at h ⊢
    obtain ⟨v, r, f1, f2, e1, e2, e3, e4⟩ := h
    subst e2
    exact ⟨v, r, f1, f2, e1, rfl, RepM.mono e x v f1 (fun b hb => k b (List.mem_append_left _ hb)) e3, RepMs.mono e xs r f2 (fun b hb => k b (List.mem_append_right _ hb)) e4⟩
end
theorem RepFs.length {K : PySem.W.Frag} {F : Hp} : ∀ {ps : List PV} {vs : List V}, RepFs K F ps vs → vs.length = ps.length
  | [], vs, h => by rw [RepFs] at h; rw [h]; rfl
  | x :: xs, vs, h => by
    rw [RepFs] at h
    obtain ⟨v, r, e1, e2, e3⟩ := h
    rw [e1, List.length_cons, List.length_cons, RepFs.length e3]
theorem RepFs.get {K : PySem.W.Frag} {F : Hp} : ∀ {ps : List PV} {vs : List V}, RepFs K F ps vs → ∀ {i : Nat} {p : PV}, ps[i]? = some p → ∃ v, vs[i]? = some v ∧ RepF K F p v
  | [], vs, h, i, p, hi => by simp at hi
  | x :: xs, vs, h, 0, p, hi => by
    rw [RepFs] at h
    obtain ⟨v, r, e1, e2, e3⟩ := h
    simp at hi
    subst hi e1
    exact ⟨v, rfl, e2⟩
  | x :: xs, vs, h, i + 1, p, hi => by
    rw [RepFs] at h
    obtain ⟨v, r, e1, e2, e3⟩ := h
    subst e1
    obtain ⟨w, q1, q2⟩ := RepFs.get e3 (i := i) (p := p) (by simpa using hi)
    exact ⟨w, by simpa using q1, q2⟩
theorem RepFs.append {K : PySem.W.Frag} {F : Hp} : ∀ {ps qs : List PV} {vs ws : List V}, RepFs K F ps vs → RepFs K F qs ws → RepFs K F (ps ++ qs) (vs ++ ws)
  | [], qs, vs, ws, h, h' => by rw [RepFs] at h; subst h; exact h'
  | x :: xs, qs, vs, ws, h, h' => by
    rw [RepFs] at h
    obtain ⟨v, r, e1, e2, e3⟩ := h
    subst e1
    rw [List.cons_append, List.cons_append, RepFs]
    exact ⟨v, _, rfl, e2, RepFs.append e3 h'⟩
theorem RepFs.take {K : PySem.W.Frag} {F : Hp} : ∀ {ps : List PV} {vs : List V} (n : Nat), RepFs K F ps vs → RepFs K F (ps.take n) (vs.take n)
  | ps, vs, 0, h => by rw [List.take_zero, List.take_zero, RepFs]
  | [], vs, n + 1, h => by rw [RepFs] at h; subst h; rw [List.take_nil, List.take_nil, RepFs]
  | x :: xs, vs, n + 1, h => by
    rw [RepFs] at h
    obtain ⟨v, r, e1, e2, e3⟩ := h
    subst e1
    rw [List.take_succ_cons, List.take_succ_cons, RepFs]
    exact ⟨v, _, rfl, e2, RepFs.take n e3⟩
theorem RepFs.drop {K : PySem.W.Frag} {F : Hp} : ∀ {ps : List PV} {vs : List V} (n : Nat), RepFs K F ps vs → RepFs K F (ps.drop n) (vs.drop n)
  | ps, vs, 0, h => h
  | [], vs, n + 1, h => by rw [RepFs] at h; subst h; rw [List.drop_nil, List.drop_nil, RepFs]
  | x :: xs, vs, n + 1, h => by
    rw [RepFs] at h
    obtain ⟨v, r, e1, e2, e3⟩ := h
    subst e1
    exact RepFs.drop n e3
theorem RepFs.reverse {K : PySem.W.Frag} {F : Hp} : ∀ {ps : List PV} {vs : List V}, RepFs K F ps vs → RepFs K F ps.reverse vs.reverse
  | [], vs, h => by rw [RepFs] at h; subst h; rw [List.reverse_nil, List.reverse_nil, RepFs]
  | x :: xs, vs, h => by
    rw [RepFs] at h
    obtain ⟨v, r, e1, e2, e3⟩ := h
    subst e1
    rw [List.reverse_cons, List.reverse_cons]
    exact RepFs.append (RepFs.reverse e3) (by rw [RepFs]; exact ⟨v, [], rfl, e2, by rw [RepFs]⟩)
theorem RepFs.single {K : PySem.W.Frag} {F : Hp} {p : PV} {v : V} (h : RepF K F p v) : RepFs K F [p] [v] := by
  rw [RepFs]
  exact ⟨v, [], rfl, h, by rw [RepFs]⟩
theorem RepFs.set {K : PySem.W.Frag} {F : Hp} {p : PV} {v : V} (hp : RepF K F p v) : ∀ {ps : List PV} {vs : List V} (i : Nat), RepFs K F ps vs → RepFs K F (ps.set i p) (vs.set i v)
  | [], vs, i, h => by rw [RepFs] at h; subst h; simp [RepFs]
  | x :: xs, vs, 0, h => by
    rw [RepFs] at h
    obtain ⟨w, r, e1, e2, e3⟩ := h
    subst e1
    rw [List.set_cons_zero, List.set_cons_zero, RepFs]
    exact ⟨v, r, rfl, hp, e3⟩
  | x :: xs, vs, i + 1, h => by
    rw [RepFs] at h
    obtain ⟨w, r, e1, e2, e3⟩ := h
    subst e1
    rw [List.set_cons_succ, List.set_cons_succ, RepFs]
    exact ⟨w, _, rfl, e2, RepFs.set hp i e3⟩
/-- a list of frozen leaves as a list of trees -/
theorem RepMs.fz {K : PySem.W.Frag} {F H : Hp} : ∀ {ps : List PV} {vs : List V}, RepFs K F ps vs → RepMs K F H (ps.map .fz) vs []
  | [], vs, h => by
    rw [RepFs] at h
    rw [List.map_nil, RepMs]
    exact ⟨h, rfl⟩
  | x :: xs, vs, h => by
    rw [RepFs] at h
    obtain ⟨v, r, e1, e2, e3⟩ := h
    rw [List.map_cons, RepMs]
    exact ⟨v, r, [], [], e1, rfl, by rw [RepM]; exact ⟨rfl, e2⟩, RepMs.fz e3⟩
theorem RepMs.length {K : PySem.W.Frag} {F H : Hp} : ∀ {ms : List MV} {vs : List V} {f : List Addr}, RepMs K F H ms vs f → vs.length = ms.length
  | [], vs, f, h => by rw [RepMs] at h; rw [h.1]; rfl
  | x :: xs, vs, f, h => by
    rw [RepMs] at h
    obtain ⟨v, r, f1, f2, e1, e2, e3, e4⟩ := h
    rw [e1, List.length_cons, List.length_cons, RepMs.length e4]
theorem RepMs.append {K : PySem.W.Frag} {F H : Hp} : ∀ {ms ns : List MV} {vs ws : List V} {f g : List Addr}, RepMs K F H ms vs f → RepMs K F H ns ws g → RepMs K F H (ms ++ ns) (vs ++ ws) (f ++ g)
  | [], ns, vs, ws, f, g, h, h' => by
    rw [RepMs] at h
    obtain ⟨rfl, rfl⟩ := h
    exact h'
  | x :: xs, ns, vs, ws, f, g, h, h' => by
    rw [RepMs] at h
    obtain ⟨v, r, f1, f2, e1, e2, e3, e4⟩ := h
    subst e1 e2
    rw [List.cons_append, List.cons_append, RepMs]
    exact ⟨v, r ++ ws, f1, f2 ++ g, rfl, by rw [List.append_assoc], e3, RepMs.append e4 h'⟩
/-- at a place of an owned list -/
theorem RepMs.at {K : PySem.W.Frag} {F H : Hp} : ∀ {ms : List MV} {vs : List V} {f : List Addr} {i : Nat} {m : MV}, RepMs K F H ms vs f → ms[i]? = some m →
    ∃ v f1 g f2, vs[i]? = some v ∧ f = f1 ++ g ++ f2 ∧ RepM K F H m v g ∧ ∀ (F' H' : Hp) (m' : MV) (v' : V) (g' : List Addr), Same F F' → (∀ a ∈ f1 ++ f2, ∀ o, H a = some o → H' a = some o) → RepM K F' H' m' v' g' → RepMs K F' H' (ms.set i m') (vs.set i v') (f1 ++ g' ++ f2)
  | [], vs, f, i, m, h, hi => by simp at hi
  | x :: xs, vs, f, 0, m, h, hi => by
    rw [RepMs] at h
    obtain ⟨v, r, f1, f2, e1, e2, e3, e4⟩ := h
    simp at hi
    subst hi e1 e2
    refine ⟨v, [], f1, f2, rfl, by simp, e3, fun F' H' m' v' g' e k hm => ?_⟩
    rw [List.set_cons_zero, List.set_cons_zero, RepMs]
    exact ⟨v', r, g', f2, rfl, by simp, hm, RepMs.mono e xs r f2 (fun a ha => k a (by simpa using ha)) e4⟩
  | x :: xs, vs, f, i + 1, m, h, hi => by
    rw [RepMs] at h
    obtain ⟨v, r, f1, f2, e1, e2, e3, e4⟩ := h
    subst e1 e2
    obtain ⟨w, g1, g, g2, q1, q2, q3, q4⟩ := RepMs.at e4 (i := i) (m := m) (by simpa using hi)
    subst q2
    refine ⟨w, f1 ++ g1, g, g2, by simpa using q1, by simp, q3, fun F' H' m' v' g' e k hm => ?_⟩
    rw [List.set_cons_succ, List.set_cons_succ, RepMs]
    refine ⟨v, r.set i v', f1, g1 ++ g' ++ g2, rfl, by simp, RepM.mono e x v f1 (fun a ha => k a (by simp [ha])) e3, q4 F' H' m' v' g' e (fun a ha => k a ?_) hm⟩
    rcases List.mem_append.mp ha with z | z <;> simp [z]

/-! ### freezing -/
/-- F with what H holds at f -/
def frz (F H : Hp) (f : List Addr) : Hp := fun b => if b ∈ f then H b else F b
theorem frz_nil (F H : Hp) : frz F H [] = F := by
  funext b
  unfold frz
  rw [if_neg (by simp)]
theorem frz_in {F H : Hp} {f : List Addr} {b : Addr} (h : b ∈ f) : frz F H f b = H b := if_pos h
theorem frz_out {F H : Hp} {f : List Addr} {b : Addr} (h : b ∉ f) : frz F H f b = F b := if_neg h
theorem frz_same {F H : Hp} {f : List Addr} (h : ∀ a ∈ f, F a = none) : Same F (frz F H f) := fun b o e => by
  rw [frz_out fun hb => by rw [h b hb] at e; cases e]
  exact e
theorem frz_sub {F H : Hp} {f : List Addr} (h : Same F H) : Same (frz F H f) H := fun b o e => by
  by_cases hb : b ∈ f
  · rw [frz_in hb] at e
    exact e
  · rw [frz_out hb] at e
    exact h b o e
theorem frz_le {F H : Hp} {f g : List Addr} (h : ∀ a ∈ g, F a = none) (s : ∀ a ∈ f, a ∈ g) : Same (frz F H f) (frz F H g) := fun b o e => by
  by_cases hb : b ∈ f
  · rw [frz_in hb] at e
    rw [frz_in (s b hb)]
    exact e
  · rw [frz_out hb] at e
    by_cases hg : b ∈ g
    · rw [h b hg] at e
      cases e
    · rw [frz_out hg]
      exact e
mutual
theorem RepM.freeze {K : PySem.W.Frag} {F H : Hp} : ∀ (m : MV) (v : V) (f : List Addr), (∀ a ∈ f, F a = none) → RepM K F H m v f → RepF K (frz F H f) m.view v
  | .fz p, v, f, hn, h => by
    rw [RepM] at h
    rw [MV.view, h.1, frz_nil]
    exact h.2
  | .ml xs, v, f, hn, h => by
    rw [RepM] at h
    obtain ⟨a, vs, r, e1, e2, e3, e4⟩ := h
    subst e3
    rw [MV.view, RepF]
    refine ⟨a, vs, e1, ?_, RepFs.mono (frz_le hn fun b hb => List.mem_cons_of_mem _ hb) _ _ (RepMs.freeze xs vs r (fun b hb => hn b (List.mem_cons_of_mem _ hb)) e4)⟩
    rw [frz_in (List.mem_cons_self ..)]
    exact e2
  | .md ks xs, v, f, hn, h => by
    rw [RepM] at h
    obtain ⟨a, kvs, r, e1, e2, e3, e4, e5⟩ := h
    subst e4
    rw [MV.view, RepF]
    refine ⟨a, kvs, e1, ?_, e3, RepFs.mono (frz_le hn fun b hb => List.mem_cons_of_mem _ hb) _ _ (RepMs.freeze xs _ r (fun b hb => hn b (List.mem_cons_of_mem _ hb)) e5)⟩
    rw [frz_in (List.mem_cons_self ..)]
    exact e2
theorem RepMs.freeze {K : PySem.W.Frag} {F H : Hp} : ∀ (ms : List MV) (vs : List V) (f : List Addr), (∀ a ∈ f, F a = none) → RepMs K F H ms vs f → RepFs K (frz F H f) (MV.views ms) vs
  | [], vs, f, hn, h => by
    rw [RepMs] at h
    rw [MV.views, RepFs]
    exact h.1
  | x :: xs, vs, f, hn, h => by
    rw [RepMs] at h
    obtain ⟨v, r, f1, f2, e1, e2, e3, e4⟩ := h
    subst e2
    rw [MV.views, RepFs]
    refine ⟨v, r, e1, RepF.mono (frz_le hn fun b hb => List.mem_append_left _ hb) _ _ (RepM.freeze x v f1 (fun b hb => hn b (List.mem_append_left _ hb)) e3), RepFs.mono (frz_le hn fun b hb => List.mem_append_right _ hb) _ _ (RepMs.freeze xs r f2 (fun b hb => hn b (List.mem_append_right _ hb)) e4)⟩
end
/-- a tree seen in the whole heap -/
theorem RepM.viewed {K : PySem.W.Frag} {F H : Hp} {m : MV} {v : V} {f : List Addr} (hs : Same F H) (hn : ∀ a ∈ f, F a = none) (h : RepM K F H m v f) : RepF K H m.view v :=
  RepF.mono (frz_sub hs) _ _ (RepM.freeze m v f hn h)
theorem MV.views_fz : ∀ ps : List PV, MV.views (ps.map .fz) = ps
  | [] => by rw [List.map_nil, MV.views]
  | p :: ps => by rw [List.map_cons, MV.views, MV.view, MV.views_fz ps]

/-! ### the slots -/
abbrev Env := List (Option MV)
def Slots (K : PySem.W.Frag) (F H : Hp) : Env → L2.St → List Addr → Prop
  | [], σ, A => σ = [] ∧ A = []
  | none :: ρ, σ, A => ∃ o r, σ = o :: r ∧ Slots K F H ρ r A
  | some m :: ρ, σ, A => ∃ v r f g, σ = some v :: r ∧ A = f ++ g ∧ RepM K F H m v f ∧ Slots K F H ρ r g
theorem Slots.length {K : PySem.W.Frag} {F H : Hp} : ∀ {ρ : Env} {σ : L2.St} {A : List Addr}, Slots K F H ρ σ A → σ.length = ρ.length
  | [], σ, A, h => by rw [h.1]; rfl
  | none :: ρ, σ, A, h => by
    obtain ⟨o, r, e, h⟩ := h
    rw [e, List.length_cons, List.length_cons, Slots.length h]
  | some m :: ρ, σ, A, h => by
    obtain ⟨v, r, f, g, e, e2, e3, h⟩ := h
    rw [e, List.length_cons, List.length_cons, Slots.length h]
theorem Slots.mono {K : PySem.W.Frag} {F F' H H' : Hp} (e : Same F F') : ∀ {ρ : Env} {σ : L2.St} {A : List Addr}, (∀ a ∈ A, ∀ o, H a = some o → H' a = some o) → Slots K F H ρ σ A → Slots K F' H' ρ σ A
  | [], σ, A, k, h => h
  | none :: ρ, σ, A, k, h => by
    obtain ⟨o, r, e1, h⟩ := h
    exact ⟨o, r, e1, Slots.mono e k h⟩
  | some m :: ρ, σ, A, k, h => by
    obtain ⟨v, r, f, g, e1, e2, e3, h⟩ := h
    subst e2
    exact ⟨v, r, f, g, e1, rfl, RepM.mono e m v f (fun a ha => k a (List.mem_append_left _ ha)) e3, Slots.mono e (fun a ha => k a (List.mem_append_right _ ha)) h⟩
/-- a slot taken out, and what may be put there -/
theorem Slots.take {K : PySem.W.Frag} {F H : Hp} : ∀ {ρ : Env} {σ : L2.St} {A : List Addr} {i : Nat} {m : MV}, Slots K F H ρ σ A → ρ[i]? = some (some m) →
    ∃ v f A', σ[i]? = some (some v) ∧ RepM K F H m v f ∧ A.Perm (f ++ A') ∧ Slots K F H (ρ.set i none) σ A'
  | [], σ, A, i, m, h, hi => by simp at hi
  | none :: ρ, σ, A, 0, m, h, hi => by simp at hi
  | some m0 :: ρ, σ, A, 0, m, h, hi => by
    obtain ⟨v, r, f, g, e1, e2, e3, h⟩ := h
    simp at hi
    subst hi e1 e2
    exact ⟨v, f, g, rfl, e3, .refl _, _, r, rfl, h⟩
  | none :: ρ, σ, A, i + 1, m, h, hi => by
    obtain ⟨o, r, e1, h⟩ := h
    subst e1
    obtain ⟨v, f, A', q1, q2, q3, q4⟩ := Slots.take h (i := i) (m := m) (by simpa using hi)
    exact ⟨v, f, A', by simpa using q1, q2, q3, o, r, rfl, q4⟩
  | some m0 :: ρ, σ, A, i + 1, m, h, hi => by
    obtain ⟨v0, r, f0, g, e1, e2, e3, h⟩ := h
    subst e1 e2
    obtain ⟨v, f, A', q1, q2, q3, q4⟩ := Slots.take h (i := i) (m := m) (by simpa using hi)
    refine ⟨v, f, f0 ++ A', by simpa using q1, q2, ?_, v0, r, f0, A', rfl, rfl, e3, q4⟩
    refine ((List.Perm.append_left f0 q3).trans ?_)
    rw [← List.append_assoc, ← List.append_assoc]
    exact List.Perm.append_right A' List.perm_append_comm
theorem Slots.put {K : PySem.W.Frag} {F H : Hp} {m : MV} {v : V} {f : List Addr} (hm : RepM K F H m v f) : ∀ {ρ : Env} {σ : L2.St} {A : List Addr} {i : Nat}, Slots K F H ρ σ A → ρ[i]? = some none →
    ∃ A', A'.Perm (f ++ A) ∧ Slots K F H (ρ.set i (some m)) (σ.set i (some v)) A'
  | [], σ, A, i, h, hi => by simp at hi
  | none :: ρ, σ, A, 0, h, hi => by
    obtain ⟨o, r, e1, h⟩ := h
    subst e1
    exact ⟨f ++ A, .refl _, v, r, f, A, rfl, rfl, hm, h⟩
  | some m0 :: ρ, σ, A, 0, h, hi => by simp at hi
  | none :: ρ, σ, A, i + 1, h, hi => by
    obtain ⟨o, r, e1, h⟩ := h
    subst e1
    obtain ⟨A', q1, q2⟩ := Slots.put hm h (i := i) (by simpa using hi)
    exact ⟨A', q1, o, _, rfl, q2⟩
  | some m0 :: ρ, σ, A, i + 1, h, hi => by
    obtain ⟨v0, r, f0, g, e1, e2, e3, h⟩ := h
    subst e1 e2
    obtain ⟨A', q1, q2⟩ := Slots.put hm h (i := i) (by simpa using hi)
    refine ⟨f0 ++ A', ?_, v0, _, f0, A', rfl, rfl, e3, q2⟩
    refine (List.Perm.append_left f0 q1).trans ?_
    rw [← List.append_assoc, ← List.append_assoc]
    exact List.Perm.append_right g List.perm_append_comm
/-- a slot forgotten -/
theorem Slots.drop {K : PySem.W.Frag} {F H : Hp} : ∀ {ρ : Env} {σ : L2.St} {A : List Addr} (i : Nat) (o : Option V), Slots K F H ρ σ A → ∃ A', A'.Sublist A ∧ Slots K F H (ρ.set i none) (σ.set i o) A'
  | [], σ, A, i, o, h => by
    obtain ⟨rfl, rfl⟩ := h
    exact ⟨[], .refl _, by simp [Slots]⟩
  | none :: ρ, σ, A, 0, o, h => by
    obtain ⟨o', r, e1, h⟩ := h
    subst e1
    exact ⟨A, .refl _, o, r, rfl, h⟩
  | some m0 :: ρ, σ, A, 0, o, h => by
    obtain ⟨v0, r, f0, g, e1, e2, e3, h⟩ := h
    subst e1 e2
    exact ⟨g, List.sublist_append_right _ _, o, r, rfl, h⟩
  | none :: ρ, σ, A, i + 1, o, h => by
    obtain ⟨o', r, e1, h⟩ := h
    subst e1
    obtain ⟨A', q1, q2⟩ := Slots.drop i o h
    exact ⟨A', q1, o', _, rfl, q2⟩
  | some m0 :: ρ, σ, A, i + 1, o, h => by
    obtain ⟨v0, r, f0, g, e1, e2, e3, h⟩ := h
    subst e1 e2
    obtain ⟨A', q1, q2⟩ := Slots.drop i o h
    exact ⟨f0 ++ A', List.Sublist.append_left q1 f0, v0, _, f0, A', rfl, rfl, e3, q2⟩

structure StOk (K : PySem.W.Frag) (ρ : Env) (σ : L2.St) (F H : Hp) (A : List Addr) : Prop where
  sub : Same F H
  nod : A.Nodup
  out : ∀ a ∈ A, F a = none
  sl : ∃ B, A.Perm B ∧ Slots K F H ρ σ B
structure Go (F H : Hp) (A : List Addr) (F' H' : Hp) (A' : List Addr) : Prop where
  f : Same F F'
  k : ∀ b o, H b = some o → b ∉ A → H' b = some o
  n : ∀ b, F b = none → F' b ≠ none → H b = none ∨ b ∈ A
  o : ∀ b ∈ A', H b = none ∨ b ∈ A
theorem Go.refl (F H : Hp) (A : List Addr) : Go F H A F H A := ⟨Same.refl F, fun _ _ e _ => e, fun _ e q => absurd e q, fun _ h => .inr h⟩
theorem Go.trans {F H F1 H1 F2 H2 : Hp} {A A1 A2 : List Addr} (a : Go F H A F1 H1 A1) (b : Go F1 H1 A1 F2 H2 A2) : Go F H A F2 H2 A2 := by
  have back : ∀ x, (H1 x = none ∨ x ∈ A1) → (H x = none ∨ x ∈ A) := fun x hx => by
    rcases hx with hx | hx
    · by_cases hA : x ∈ A
      · exact .inr hA
      · cases e : H x with
        | none => exact .inl rfl
        | some o =>
          rw [a.k x o e hA] at hx
          cases hx
    · exact a.o x hx
  refine ⟨a.f.trans b.f, fun x o e hx => b.k x o (a.k x o e hx) fun h1 => ?_, fun x e q => ?_, fun x hx => back x (b.o x hx)⟩
  · rcases a.o x h1 with z | z
    · rw [e] at z; cases z
    · exact hx z
  · by_cases h1 : F1 x = none
    · exact back x (b.n x h1 q)
    · exact a.n x e h1
theorem Go.weak {F H F1 H1 : Hp} {A A1 A2 : List Addr} (a : Go F H A F1 H1 A1) (s : ∀ x ∈ A2, x ∈ A1) : Go F H A F1 H1 A2 := ⟨a.f, a.k, a.n, fun b hb => a.o b (s b hb)⟩
theorem StOk.len {K : PySem.W.Frag} {ρ : Env} {σ : L2.St} {F H : Hp} {A : List Addr} (s : StOk K ρ σ F H A) : σ.length = ρ.length := by
  obtain ⟨B, _, h⟩ := s.sl
  exact h.length
theorem StOk.perm {K : PySem.W.Frag} {ρ : Env} {σ : L2.St} {F H : Hp} {A A' : List Addr} (s : StOk K ρ σ F H A) (p : A'.Perm A) : StOk K ρ σ F H A' := by
  obtain ⟨B, q, h⟩ := s.sl
  exact ⟨s.sub, p.nodup_iff.mpr s.nod, fun a ha => s.out a (p.mem_iff.mp ha), B, p.trans q, h⟩
/-- an owned address stands in the heap -/
theorem RepM.there {K : PySem.W.Frag} {F H : Hp} {m : MV} {v : V} {f : List Addr} (h : RepM K F H m v f) : ∀ a ∈ f, H a ≠ none := by
  have go : (∀ (m : MV) (v : V) (f : List Addr), RepM K F H m v f → ∀ a ∈ f, H a ≠ none) ∧ (∀ (ms : List MV) (vs : List V) (f : List Addr), RepMs K F H ms vs f → ∀ a ∈ f, H a ≠ none) := by
    refine ⟨MV.rec (motive_1 := fun m => ∀ (v : V) (f : List Addr), RepM K F H m v f → ∀ a ∈ f, H a ≠ none) (motive_2 := fun ms => ∀ (vs : List V) (f : List Addr), RepMs K F H ms vs f → ∀ a ∈ f, H a ≠ none) ?_ ?_ ?_ ?_ ?_,
      fun ms => MV.rec_1 (motive_1 := fun m => ∀ (v : V) (f : List Addr), RepM K F H m v f → ∀ a ∈ f, H a ≠ none) (motive_2 := fun ms => ∀ (vs : List V) (f : List Addr), RepMs K F H ms vs f → ∀ a ∈ f, H a ≠ none) ?_ ?_ ?_ ?_ ?_ ms⟩
    all_goals first
      | (intro p v f h a ha
         rw [RepM] at h
         rw [h.1] at ha
         cases ha)
      | (intro xs ih v f h a ha
         rw [RepM] at h
         obtain ⟨b, vs, r, e1, e2, e3, e4⟩ := h
         subst e3
         rcases List.mem_cons.mp ha with z | z
         · rw [z, e2]; simp
         · exact ih vs r e4 a z)
      | (intro ks xs ih v f h a ha
         rw [RepM] at h
         obtain ⟨b, vs, r, e1, e2, e3, e4, e5⟩ := h
         subst e4
         rcases List.mem_cons.mp ha with z | z
         · rw [z, e2]; simp
         · exact ih _ r e5 a z)
      | (intro vs f h a ha
         rw [RepMs] at h
         rw [h.2] at ha
         cases ha)
      | (intro x xs ih1 ih2 vs f h a ha
         rw [RepMs] at h
         obtain ⟨v, r, f1, f2, e1, e2, e3, e4⟩ := h
         subst e2
         rcases List.mem_append.mp ha with z | z
         · exact ih1 v f1 e3 a z
         · exact ih2 r f2 e4 a z)
  exact go.1 m v f h
theorem Slots.there {K : PySem.W.Frag} {F H : Hp} : ∀ {ρ : Env} {σ : L2.St} {A : List Addr}, Slots K F H ρ σ A → ∀ a ∈ A, H a ≠ none
  | [], σ, A, h, a, ha => by rw [h.2] at ha; cases ha
  | none :: ρ, σ, A, h, a, ha => by
    obtain ⟨o, r, e1, h⟩ := h
    exact Slots.there h a ha
  | some m :: ρ, σ, A, h, a, ha => by
    obtain ⟨v, r, f, g, e1, e2, e3, h⟩ := h
    subst e2
    rcases List.mem_append.mp ha with z | z
    · exact e3.there a z
    · exact Slots.there h a z
theorem StOk.there {K : PySem.W.Frag} {ρ : Env} {σ : L2.St} {F H : Hp} {A : List Addr} (s : StOk K ρ σ F H A) : ∀ a ∈ A, H a ≠ none := fun a ha => by
  obtain ⟨B, q, h⟩ := s.sl
  exact h.there a (q.mem_iff.mp ha)
/-- the heap and the frozen part grow, the owned part stays -/
theorem StOk.grow {K : PySem.W.Frag} {ρ : Env} {σ : L2.St} {F H F' H' : Hp} {A : List Addr} (s : StOk K ρ σ F H A) (e : Same F F') (e' : Same F' H') (k : ∀ a ∈ A, ∀ o, H a = some o → H' a = some o) (n : ∀ a ∈ A, F' a = none) : StOk K ρ σ F' H' A := by
  obtain ⟨B, q, h⟩ := s.sl
  exact ⟨e', s.nod, n, B, q, h.mono e fun a ha => k a (q.mem_iff.mpr ha)⟩
theorem StOk.take {K : PySem.W.Frag} {ρ : Env} {σ : L2.St} {F H : Hp} {A : List Addr} {i : Nat} {m : MV} (s : StOk K ρ σ F H A) (hi : ρ[i]? = some (some m)) :
    ∃ v f A', σ[i]? = some (some v) ∧ RepM K F H m v f ∧ A.Perm (f ++ A') ∧ StOk K (ρ.set i none) σ F H A' := by
  obtain ⟨B, q, h⟩ := s.sl
  obtain ⟨v, f, A', q1, q2, q3, q4⟩ := h.take hi
  have p := q.trans q3
  have nd := p.nodup_iff.mp s.nod
  exact ⟨v, f, A', q1, q2, p, s.sub, (List.nodup_append.mp nd).2.1, fun a ha => s.out a (p.mem_iff.mpr (List.mem_append_right _ ha)), A', .refl _, q4⟩
theorem StOk.put {K : PySem.W.Frag} {ρ : Env} {σ : L2.St} {F H : Hp} {A f : List Addr} {i : Nat} {m : MV} {v : V} (s : StOk K ρ σ F H A) (hi : ρ[i]? = some none) (hm : RepM K F H m v f) (nd : (f ++ A).Nodup) (hn : ∀ a ∈ f, F a = none) :
    StOk K (ρ.set i (some m)) (σ.set i (some v)) F H (f ++ A) := by
  obtain ⟨B, q, h⟩ := s.sl
  obtain ⟨A', q1, q2⟩ := h.put hm hi
  refine ⟨s.sub, nd, fun a ha => ?_, A', (List.Perm.append_left f q).trans q1.symm, q2⟩
  rcases List.mem_append.mp ha with z | z
  · exact hn a z
  · exact s.out a z
theorem StOk.drop {K : PySem.W.Frag} {ρ : Env} {σ : L2.St} {F H : Hp} {A : List Addr} (s : StOk K ρ σ F H A) (i : Nat) (o : Option V) : ∃ A', A'.Nodup ∧ (∀ a ∈ A', a ∈ A) ∧ StOk K (ρ.set i none) (σ.set i o) F H A' := by
  obtain ⟨B, q, h⟩ := s.sl
  obtain ⟨A', q1, q2⟩ := h.drop i o
  have nd : A'.Nodup := q1.nodup (q.nodup_iff.mp s.nod)
  have mm : ∀ a ∈ A', a ∈ A := fun a ha => q.mem_iff.mpr (q1.subset ha)
  exact ⟨A', nd, mm, s.sub, nd, fun a ha => s.out a (mm a ha), A', .refl _, q2⟩
/-- a slot stored: what stood there is dropped -/
theorem StOk.store {K : PySem.W.Frag} {ρ : Env} {σ : L2.St} {F H : Hp} {A f : List Addr} {i : Nat} {m : MV} {v : V} (s : StOk K ρ σ F H A) (hm : RepM K F H m v f) (nd : (f ++ A).Nodup) (hn : ∀ a ∈ f, F a = none) (hi : i < ρ.length) :
    ∃ A', (∀ a ∈ A', a ∈ f ++ A) ∧ StOk K (ρ.set i (some m)) (σ.set i (some v)) F H A' := by
  obtain ⟨A1, nd1, mm, s1⟩ := s.drop i none
  have s2 := s1.put (i := i) (by rw [List.getElem?_set_self hi]) hm (by
    rw [List.nodup_append] at nd ⊢
    exact ⟨nd.1, nd1, fun a ha b hb => nd.2.2 a ha b (mm b hb)⟩) hn
  rw [List.set_set, List.set_set] at s2
  exact ⟨f ++ A1, fun a ha => by
    rcases List.mem_append.mp ha with z | z
    · exact List.mem_append_left _ z
    · exact List.mem_append_right _ (mm a z), s2⟩
end Mv

set_option Elab.async false
set_option linter.all false
set_option maxRecDepth 100000
set_option maxHeartbeats 4000000
namespace Mv
open PySem PySem.Spec PyProof.Rows L2

/-! ### outcomes -/
/-- an exception: its class by name, its fields -/
structure PX where
  c : Str
  fs : List (Str × PV)
inductive R (α : Type) where
  | ok (a : α) (ρ : Env) | exc (x : PX) (ρ : Env) | bad
abbrev SE (α : Type) := Env → R α
def SE.bind {α β : Type} (s : SE α) (k : α → SE β) : SE β := fun ρ => match s ρ with
  | .ok a ρ' => k a ρ'
  | .exc x ρ' => .exc x ρ'
  | .bad => .bad
def SE.ret {α : Type} (a : α) : SE α := fun ρ => .ok a ρ
def ofO {α : Type} (o : Option α) : SE α := fun ρ => match o with
  | some a => .ok a ρ
  | none => .bad
def RepX (K : PySem.W.Frag) (F H : Hp) (x : PX) (cls : Value) (d : Option Addr) : Prop :=
  cls = .ref (He.ga K x.c) ∧ ∃ dx vs, d = some dx ∧ H dx = some (.xd vs) ∧ vs.map (·.1) = x.fs.map (·.1) ∧ RepFs K F (x.fs.map (·.2)) (vs.map (·.2))

/-! ### expressions -/
abbrev Rep (α β : Type) := Hp → Hp → α → β → List Addr → Prop
def Ev {α β : Type} (K : PySem.W.Frag) (B : Hp) (rep : Rep α β) (W : WX) (te : L2.St → Hp → (β → Hp → Prop) → Prop) (s : SE α) : Prop :=
  ∀ ρ σ F H A, Same B F → StOk K ρ σ F H A → ∀ Q : β → Hp → Prop, s ρ ≠ .bad →
    (∀ a ρ', s ρ = .ok a ρ' → ∀ b F' H' A' f, StOk K ρ' σ F' H' A' → rep F' H' a b f → (f ++ A').Nodup → (∀ x ∈ f, F' x = none) → Go F H A F' H' (f ++ A') → Q b H') →
    (∀ x ρ', s ρ = .exc x ρ' → ∀ cls d F' H' A', StOk K ρ' σ F' H' A' → Go F H A F' H' A' → RepX K F' H' x cls d → W cls d σ H') →
    te σ H Q
/-- what leans on the frozen part alone -/
def fr {α β : Type} (z : Hp → α → β → Prop) : Rep α β := fun F _ a b f => f = [] ∧ z F a b
def zB : Hp → Bool → Bool → Prop := fun _ a b => b = a
def zO : Hp → Option Int → Option Int → Prop := fun _ a b => b = a
section
variable {α β α' β' : Type} {K : PySem.W.Frag} {B : Hp} {W : WX} {s : SE α} {te : L2.St → Hp → (β → Hp → Prop) → Prop}
theorem Ev.le {B' : Hp} {rep : Rep α β} (h : Ev K B rep W te s) (e : Same B B') : Ev K B' rep W te s := fun ρ σ F H A sB => h ρ σ F H A (e.trans sB)
theorem Ev.bind {z : Hp → α → β → Prop} {rep : Rep α' β'} {k : α → SE α'} {tk : β → L2.St → Hp → (β' → Hp → Prop) → Prop} (h : Ev K B (fr z) W te s)
    (hk : ∀ a b B', Same B B' → z B' a b → Ev K B' rep W (tk b) (k a)) : Ev K B rep W (fun σ H Q => te σ H fun b H1 => tk b σ H1 Q) (s.bind k) := by
  intro ρ σ F H A sB st Q nb hok hex
  have eb : s.bind k ρ = match s ρ with
    | .ok a ρ' => k a ρ'
    | .exc x ρ' => .exc x ρ'
    | .bad => .bad := rfl
  refine h ρ σ F H A sB st _ (fun e => ?_) (fun a ρ' e b F' H' A' f st' hr nd hn go => ?_) (fun x ρ' e cls d F' H' A' st' go hx => ?_)
  · rw [e] at eb
    exact nb eb
  · rw [e] at eb
    obtain ⟨rfl, hz⟩ := hr
    refine hk a b F' (sB.trans go.f) hz ρ' σ F' H' A' (Same.refl _) st' Q (fun e2 => nb (eb.trans e2)) (fun a2 ρ2 e2 b2 F2 H2 A2 f2 st2 hr2 nd2 hn2 go2 => ?_) (fun x ρ2 e2 cls d F2 H2 A2 st2 go2 hx => ?_)
    · exact hok a2 ρ2 (eb.trans e2) b2 F2 H2 A2 f2 st2 hr2 nd2 hn2 (Go.trans go go2)
    · exact hex x ρ2 (eb.trans e2) cls d F2 H2 A2 st2 (Go.trans go go2) hx
  · rw [e] at eb
    exact hex x ρ' eb cls d F' H' A' st' go hx
theorem Ev.done {z : Hp → α → β → Prop} {a : α} {b : β} (h : z B a b) (mono : ∀ F F', Same F F' → z F a b → z F' a b) : Ev K B (fr z) W (fun _ H Q => Q b H) (SE.ret a) := by
  intro ρ σ F H A sB st Q nb hok hex
  exact hok a ρ rfl b F H A [] st ⟨rfl, mono _ _ sB h⟩ (by simpa using st.nod) (by simp) (by simpa using Go.refl F H A)
theorem Ev.doneF {p : PV} {v : V} (h : RepF K B p v) : Ev K B (fr (RepF K)) W (fun _ H Q => Q v H) (SE.ret p) := Ev.done h fun _ _ e => RepF.mono e p v
theorem Ev.ofO {rep : Rep α β} {o : Option α} (h : ∀ a, o = some a → Ev K B rep W te (SE.ret a)) : Ev K B rep W te (Mv.ofO o) := by
  cases o with
  | none => exact fun ρ σ F H A sB st Q nb => absurd rfl nb
  | some a => exact h a rfl
/-- a stronger reading -/
theorem Ev.imp {rep : Rep α β} {te' : L2.St → Hp → (β → Hp → Prop) → Prop} (h : Ev K B rep W te s) (i : ∀ σ H Q, te σ H Q → te' σ H Q) : Ev K B rep W te' s := fun ρ σ F H A sB st Q nb hok hex => i _ _ _ (h ρ σ F H A sB st Q nb hok hex)
/-- a new object that nobody owns -/
theorem Ev.newF {p : PV} {o : HO} (h : ∀ a F', Same B F' → F' a = some o → RepF K F' p (.ref a)) : Ev K B (fr (RepF K)) W (fun _ H Q => ∀ a, H a = none → Q (.ref a) (upd H a o)) (SE.ret p) := by
  intro ρ σ F H A sB st Q nb hok hex a ha
  have hFa : F a = none := by
    cases e : F a with
    | none => rfl
    | some u => rw [st.sub _ _ e] at ha; cases ha
  have sF : Same F (upd F a o) := fun b u e => by rw [upd_ne (ne_of_none e hFa)]; exact e
  have nA : ∀ b ∈ A, b ≠ a := fun b hb z => st.there b hb (z ▸ ha)
  refine hok p ρ rfl (.ref a) (upd F a o) (upd H a o) A [] (st.grow sF (fun b u e => ?_) (fun b hb u e => ?_) (fun b hb => ?_)) ⟨rfl, h a _ (sB.trans sF) upd_same⟩ (by simpa using st.nod) (by simp) ⟨sF, fun b u e _ => ?_, fun b e q => ?_, fun b hb => .inr (by simpa using hb)⟩
  · by_cases hb : b = a
    · subst hb; rw [upd_same] at e ⊢; exact e
    · rw [upd_ne hb] at e ⊢; exact st.sub _ _ e
  · rw [upd_ne (nA b hb)]; exact e
  · rw [upd_ne (nA b hb)]; exact st.out b hb
  · rw [upd_ne (ne_of_none e ha)]; exact e
  · by_cases hb : b = a
    · subst hb; exact .inl ha
    · rw [upd_ne hb] at q; exact absurd e q
/-- a new object that the def owns -/
theorem Ev.newM {m : MV} {o : HO} (h : ∀ a F' H', Same B F' → H' a = some o → RepM K F' H' m (.ref a) [a]) : Ev K B (RepM K) W (fun _ H Q => ∀ a, H a = none → Q (.ref a) (upd H a o)) (SE.ret m) := by
  intro ρ σ F H A sB st Q nb hok hex a ha
  have hFa : F a = none := by
    cases e : F a with
    | none => rfl
    | some u => rw [st.sub _ _ e] at ha; cases ha
  have nA : ∀ b ∈ A, b ≠ a := fun b hb z => st.there b hb (z ▸ ha)
  refine hok m ρ rfl (.ref a) F (upd H a o) A [a] (st.grow (Same.refl F) (fun b u e => ?_) (fun b hb u e => ?_) (fun b hb => st.out b hb)) (h a F _ sB upd_same) ?_ (fun x hx => ?_) ⟨Same.refl F, fun b u e _ => ?_, fun b e q => absurd e q, fun b hb => ?_⟩
  · rw [upd_ne (ne_of_none e hFa)]; exact st.sub _ _ e
  · rw [upd_ne (nA b hb)]; exact e
  · rw [List.singleton_append, List.nodup_cons]
    exact ⟨fun hm => nA a hm rfl, st.nod⟩
  · rw [List.mem_singleton.mp hx]; exact hFa
  · rw [upd_ne (ne_of_none e ha)]; exact e
  · rcases List.mem_append.mp hb with z | z
    · rw [List.mem_singleton.mp z]; exact .inl ha
    · exact .inr z
/-- what is owned is given away -/
def vw (s : SE MV) : SE PV := s.bind fun m => SE.ret m.view
theorem Ev.vw {te : TE} {s : SE MV} (h : Ev K B (RepM K) W te s) : Ev K B (fr (RepF K)) W te (Mv.vw s) := by
  intro ρ σ F H A sB st Q nb hok hex
  have eb : Mv.vw s ρ = match s ρ with
    | .ok a ρ' => .ok a.view ρ'
    | .exc x ρ' => .exc x ρ'
    | .bad => .bad := by
    unfold Mv.vw SE.bind
    cases s ρ <;> rfl
  refine h ρ σ F H A sB st Q (fun e => ?_) (fun m ρ' e v F' H' A' f st' hr nd hn go => ?_) (fun x ρ' e cls d F' H' A' st' go hx => ?_)
  · rw [e] at eb; exact nb eb
  · rw [e] at eb
    have hdis := (List.nodup_append.mp nd).2.2
    have nf : ∀ b ∈ A', b ∉ f := fun b hb hf => hdis b hf b hb rfl
    refine hok m.view ρ' eb v (frz F' H' f) H' A' [] (st'.grow (frz_same hn) (frz_sub st'.sub) (fun _ _ _ e => e) (fun b hb => by rw [frz_out (nf b hb)]; exact st'.out b hb)) ⟨rfl, RepM.freeze m v f hn hr⟩ (by simpa using st'.nod) (by simp) ⟨go.f.trans (frz_same hn), go.k, fun b e2 q => ?_, fun b hb => go.o b (List.mem_append_right _ (by simpa using hb))⟩
    by_cases hb : b ∈ f
    · exact go.o b (List.mem_append_left _ hb)
    · rw [frz_out hb] at q
      exact go.n b e2 q
  · rw [e] at eb
    exact hex x ρ' eb cls d F' H' A' st' go hx
def mv (s : SE PV) : SE MV := s.bind fun p => SE.ret (.fz p)
theorem Ev.mv {te : TE} {s : SE PV} (h : Ev K B (fr (RepF K)) W te s) : Ev K B (RepM K) W te (Mv.mv s) := by
  intro ρ σ F H A sB st Q nb hok hex
  have eb : Mv.mv s ρ = match s ρ with
    | .ok a ρ' => .ok (.fz a) ρ'
    | .exc x ρ' => .exc x ρ'
    | .bad => .bad := by
    unfold Mv.mv SE.bind
    cases s ρ <;> rfl
  refine h ρ σ F H A sB st Q (fun e => ?_) (fun m ρ' e v F' H' A' f st' hr nd hn go => ?_) (fun x ρ' e cls d F' H' A' st' go hx => ?_)
  · rw [e] at eb; exact nb eb
  · rw [e] at eb
    exact hok (.fz m) ρ' eb v F' H' A' f st' (by rw [RepM]; exact hr) nd hn go
  · rw [e] at eb
    exact hex x ρ' eb cls d F' H' A' st' go hx
end
def nob : Hp := fun _ => none
theorem nob_le (F : Hp) : Same nob F := fun _ _ e => nomatch e

/-! ### the judgements: an expression with its reading and its plain function -/
structure QE (X : Cx) (W : WX) (e : Expr) (te : TE) (s : SE PV) : Prop where
  pe : PE X e te
  ev : Ev X.K nob (fr (RepF X.K)) W te s
structure QM (X : Cx) (W : WX) (e : Expr) (te : TE) (s : SE MV) : Prop where
  pe : PE X e te
  ev : Ev X.K nob (RepM X.K) W te s
structure QT (X : Cx) (W : WX) (e : Expr) (tt : TT) (s : SE Bool) : Prop where
  pt : PT X e tt
  ev : Ev X.K nob (fr zB) W tt s
structure QW (X : Cx) (W : WX) (e : Expr) (tt : TT) (s : SE Bool) : Prop where
  pw : PW X e tt
  ev : Ev X.K nob (fr zB) W tt s
structure QA (X : Cx) (W : WX) (es : List Expr) (ta : TA) (s : SE (List PV)) : Prop where
  pa : PA X es ta
  ev : Ev X.K nob (fr (RepFs X.K)) W ta s
structure QO (X : Cx) (W : WX) (e : Option Expr) (to : TO) (s : SE (Option Int)) : Prop where
  po : PO X e to
  ev : Ev X.K nob (fr zO) W to s
section
variable {X : Cx} {W : WX} {e : Expr} {te : TE}
theorem QM.vw {s : SE MV} (h : QM X W e te s) : QE X W e te (Mv.vw s) := ⟨h.pe, h.ev.vw⟩
theorem QE.mv {s : SE PV} (h : QE X W e te s) : QM X W e te (Mv.mv s) := ⟨h.pe, h.ev.mv⟩
end

/-! ### statements -/
inductive Out where
  | nx | rt (m : MV) | bk | ct
def Fix (n : Nat) (σ σ' : L2.St) : Prop := ∀ i, i < n → σ'[i]? = σ[i]?
theorem Fix.refl (n : Nat) (σ : L2.St) : Fix n σ σ := fun _ _ => rfl
theorem Fix.trans {n : Nat} {σ σ1 σ2 : L2.St} (a : Fix n σ σ1) (b : Fix n σ1 σ2) : Fix n σ σ2 := fun i hi => (b i hi).trans (a i hi)
theorem Fix.set {n i : Nat} {σ : L2.St} {o : Option V} (h : n ≤ i) : Fix n σ (σ.set i o) := fun j hj => by rw [List.getElem?_set_ne (by omega)]
/-- what is wanted behind a statement of this outcome -/
structure Wants (K : PySem.W.Frag) (n : Nat) (W : WX) (r : R Out) (σ : L2.St) (F H : Hp) (A : List Addr) (D : Ends) : Prop where
  nb : r ≠ .bad
  nx : ∀ ρ', r = .ok .nx ρ' → ∀ σ' F' H' A', StOk K ρ' σ' F' H' A' → Go F H A F' H' A' → Fix n σ σ' → D.nx σ' H'
  rt : ∀ m ρ', r = .ok (.rt m) ρ' → ∀ v σ' F' H' A' f, StOk K ρ' σ' F' H' A' → RepM K F' H' m v f → (f ++ A').Nodup → (∀ x ∈ f, F' x = none) → Go F H A F' H' (f ++ A') → Fix n σ σ' → D.rt v H'
  bk : ∀ ρ', r = .ok .bk ρ' → ∀ σ' F' H' A', StOk K ρ' σ' F' H' A' → Go F H A F' H' A' → Fix n σ σ' → D.bk σ' H'
  ct : ∀ ρ', r = .ok .ct ρ' → ∀ σ' F' H' A', StOk K ρ' σ' F' H' A' → Go F H A F' H' A' → Fix n σ σ' → D.ct σ' H'
  xc : ∀ x ρ', r = .exc x ρ' → ∀ cls d σ' F' H' A', StOk K ρ' σ' F' H' A' → Go F H A F' H' A' → Fix n σ σ' → RepX K F' H' x cls d → W cls d σ' H'
theorem Wants.go {K : PySem.W.Frag} {n : Nat} {W : WX} {r : R Out} {σ σ1 : L2.St} {F H F1 H1 : Hp} {A A1 : List Addr} {D : Ends} (w : Wants K n W r σ F H A D) (g : Go F H A F1 H1 A1) (x : Fix n σ σ1) : Wants K n W r σ1 F1 H1 A1 D :=
  ⟨w.nb, fun ρ' e σ' F' H' A' st g' x' => w.nx ρ' e σ' F' H' A' st (g.trans g') (x.trans x'), fun m ρ' e v σ' F' H' A' f st hr nd hn g' x' => w.rt m ρ' e v σ' F' H' A' f st hr nd hn (g.trans g') (x.trans x'),
    fun ρ' e σ' F' H' A' st g' x' => w.bk ρ' e σ' F' H' A' st (g.trans g') (x.trans x'), fun ρ' e σ' F' H' A' st g' x' => w.ct ρ' e σ' F' H' A' st (g.trans g') (x.trans x'),
    fun y ρ' e cls d σ' F' H' A' st g' x' hx => w.xc y ρ' e cls d σ' F' H' A' st (g.trans g') (x.trans x') hx⟩
def EvS (K : PySem.W.Frag) (n : Nat) (W : WX) (ts : TS) (s : SE Out) : Prop :=
  ∀ ρ σ F H A, StOk K ρ σ F H A → ∀ D : Ends, Wants K n W (s ρ) σ F H A D → ts D σ H
structure QS (X : Cx) (n : Nat) (W : WX) (st : Stmt) (ts : TS) (s : SE Out) : Prop where
  ps : PS X st ts
  ev : EvS X.K n W ts s
structure QSs (X : Cx) (n : Nat) (W : WX) (st : List Stmt) (ts : TS) (s : SE Out) : Prop where
  ps : PSs X st ts
  ev : EvS X.K n W ts s
/-- none but these slots are stored -/
def Chg (ts : List Nat) (σ σ' : L2.St) : Prop := σ'.length = σ.length ∧ ∀ j, j ∉ ts → σ'[j]? = σ[j]?
theorem Chg.refl (ts : List Nat) (σ : L2.St) : Chg ts σ σ := ⟨rfl, fun _ _ => rfl⟩
theorem Chg.trans {ts us : List Nat} {σ σ1 σ2 : L2.St} (a : Chg ts σ σ1) (b : Chg us σ1 σ2) : Chg (ts ++ us) σ σ2 := ⟨b.1.trans a.1, fun j hj => by
  rw [List.mem_append, not_or] at hj
  exact (b.2 j hj.2).trans (a.2 j hj.1)⟩
theorem Chg.set {i : Nat} {σ : L2.St} {o : Option V} : Chg [i] σ (σ.set i o) := ⟨by rw [List.length_set], fun j hj => by rw [List.getElem?_set_ne (by intro e; subst e; simp at hj)]⟩
theorem Chg.fix {ts : List Nat} {n : Nat} {σ σ' : L2.St} (c : Chg ts σ σ') (h : ∀ j ∈ ts, n ≤ j) : Fix n σ σ' := fun i hi => c.2 i fun hm => absurd (h i hm) (by omega)
/-- a target of an assignment: what is stored is frozen -/
def EvG (K : PySem.W.Frag) (ts : List Nat) (g : TG) (s : PV → Env → Option Env) : Prop :=
  ∀ p v ρ σ F H A, RepF K F p v → StOk K ρ σ F H A → ∀ Q : L2.St → Hp → Prop, s p ρ ≠ none → (∀ ρ', s p ρ = some ρ' → ∀ σ' F' H' A', StOk K ρ' σ' F' H' A' → Go F H A F' H' A' → Chg ts σ σ' → Q σ' H') → g v σ H Q
def EvGs (K : PySem.W.Frag) (ts : List Nat) (g : TGs) (s : List PV → Env → Option Env) : Prop :=
  ∀ ps vs ρ σ F H A, RepFs K F ps vs → StOk K ρ σ F H A → ∀ Q : L2.St → Hp → Prop, s ps ρ ≠ none → (∀ ρ', s ps ρ = some ρ' → ∀ σ' F' H' A', StOk K ρ' σ' F' H' A' → Go F H A F' H' A' → Chg ts σ σ' → Q σ' H') → g vs σ H Q
structure QG (X : Cx) (ts : List Nat) (tg : Expr) (g : TG) (s : PV → Env → Option Env) : Prop where
  pg : PG X tg g
  ev : EvG X.K ts g s
structure QGs (X : Cx) (ts : List Nat) (tgs : List Expr) (g : TGs) (s : List PV → Env → Option Env) : Prop where
  pg : PGs X tgs g
  ev : EvGs X.K ts g s
/-- what a loop walks: its items, as they are told one by one -/
structure IsIt (K : PySem.W.Frag) (F0 : Hp) (items : List PV) (J : It) : Prop where
  goes : ∀ i H F, i < items.length → Same F0 F → Same F H → J.go i H
  stops : ∀ H F, Same F0 F → Same F H → J.stop items.length H
  yields : ∀ i p H F x H', items[i]? = some p → Same F0 F → Same F H → J.yld i H x H' →
    ∃ F', Same F F' ∧ Same F' H' ∧ Same H H' ∧ (∀ b, F b = none → F' b ≠ none → H b = none) ∧ RepF K F' p x
theorem IsIt.mono {K : PySem.W.Frag} {F0 F1 : Hp} {items : List PV} {J : It} (e : Same F0 F1) (h : IsIt K F0 items J) : IsIt K F1 items J :=
  ⟨fun i H F hi s => h.goes i H F hi (e.trans s), fun H F s => h.stops H F (e.trans s), fun i p H F x H' hi s => h.yields i p H F x H' hi (e.trans s)⟩
structure QI (X : Cx) (W : WX) (tg iter : Expr) (wi : TI) (s : SE (List PV)) : Prop where
  pi : PI X tg iter wi
  ev : Ev X.K nob (fr (IsIt X.K)) W wi s

/-! ### blocks, small statements -/
section
variable {X : Cx} {n : Nat} {W : WX} {st : Stmt} {rest : List Stmt} {t u : TS} {s s' : SE Out} {pos : Pos}
def sSeq (s t : SE Out) : SE Out := fun ρ => match s ρ with
  | .ok .nx ρ' => t ρ'
  | r => r
def sNil : SE Out := fun ρ => .ok .nx ρ
theorem EvS.seq {K : PySem.W.Frag} (h1 : EvS K n W t s) (h2 : EvS K n W u s') : EvS K n W (tSeq t u) (sSeq s s') := by
  intro ρ σ F H A st D w
  have eb : sSeq s s' ρ = match s ρ with
    | .ok .nx ρ' => s' ρ'
    | r => r := rfl
  refine h1 ρ σ F H A st _ ⟨fun e => ?_, fun ρ' e σ' F' H' A' st' g x => ?_, fun m ρ' e => ?_, fun ρ' e => ?_, fun ρ' e => ?_, fun y ρ' e => ?_⟩
  · rw [e] at eb; exact w.nb eb
  · rw [e] at eb
    rw [eb] at w
    exact h2 ρ' σ' F' H' A' st' D (w.go g x)
  · rw [e] at eb
    exact w.rt m ρ' eb
  · rw [e] at eb
    exact w.bk ρ' eb
  · rw [e] at eb
    exact w.ct ρ' eb
  · rw [e] at eb
    exact w.xc y ρ' eb
theorem qss_nil : QSs X n W [] tNext sNil := ⟨pss_nil, fun ρ σ F H A st D w => w.nx ρ rfl σ F H A st (Go.refl ..) (Fix.refl _ _)⟩
theorem qss_cons (h1 : QS X n W st t s) (h2 : QSs X n W rest u s') : QSs X n W (st :: rest) (tSeq t u) (sSeq s s') := ⟨pss_cons h1.ps h2.ps, h1.ev.seq h2.ev⟩
theorem qss_one (h1 : QS X n W st t s) : QSs X n W [st] t s := ⟨pss_one h1.ps, h1.ev⟩
theorem qs_pass : QS X n W (.Pass pos) tNext sNil := ⟨ps_pass, qss_nil.ev (X := X)⟩
def sBreak : SE Out := fun ρ => .ok .bk ρ
def sCont : SE Out := fun ρ => .ok .ct ρ
theorem qs_break : QS X n W (.Break pos) tBreak sBreak := ⟨ps_break, fun ρ σ F H A st D w => w.bk ρ rfl σ F H A st (Go.refl ..) (Fix.refl _ _)⟩
theorem qs_continue : QS X n W (.Continue pos) tCont sCont := ⟨ps_continue, fun ρ σ F H A st D w => w.ct ρ rfl σ F H A st (Go.refl ..) (Fix.refl _ _)⟩
/-- code that is never come to -/
def sNever : SE Out := fun _ => .bad
theorem qs_never : QS X n W st tNever sNever := ⟨ps_never, fun ρ σ F H A st D w => absurd rfl w.nb⟩
theorem qss_never : QSs X n W rest tNever sNever := ⟨pss_never, fun ρ σ F H A st D w => absurd rfl w.nb⟩
/-- an owned slot given away: nothing runs -/
def fzAt (i : Nat) (ρ : Env) : Env := match ρ[i]? with
  | some (some m) => ρ.set i (some (.fz m.view))
  | _ => ρ
theorem StOk.fzAt {K : PySem.W.Frag} {ρ : Env} {σ : L2.St} {F H : Hp} {A : List Addr} (s : StOk K ρ σ F H A) (i : Nat) : ∃ F' A', StOk K (Mv.fzAt i ρ) σ F' H A' ∧ Go F H A F' H A' := by
  unfold Mv.fzAt
  cases e : ρ[i]? with
  | none => exact ⟨F, A, s, Go.refl ..⟩
  | some o => cases o with
    | none => exact ⟨F, A, s, Go.refl ..⟩
    | some m =>
      obtain ⟨v, f, A', q1, q2, q3, q4⟩ := s.take e
      have nd := q3.nodup_iff.mp s.nod
      have hn : ∀ a ∈ f, F a = none := fun a ha => s.out a (q3.mem_iff.mpr (List.mem_append_left _ ha))
      have hdis := (List.nodup_append.mp nd).2.2
      have nf : ∀ b ∈ A', b ∉ f := fun b hb hf => hdis b hf b hb rfl
      have s1 := q4.grow (frz_same hn) (frz_sub s.sub) (fun _ _ _ e => e) (fun b hb => by rw [frz_out (nf b hb)]; exact q4.out b hb)
      have hi : i < ρ.length := (List.getElem?_eq_some_iff.mp e).1
      have s2 := s1.put (i := i) (m := .fz m.view) (v := v) (f := []) (by rw [List.getElem?_set_self hi]) (by rw [RepM]; exact ⟨rfl, RepM.freeze m v f hn q2⟩) (by simpa using s1.nod) (by simp)
      rw [List.set_set, List.nil_append] at s2
      have es : σ.set i (some v) = σ := by
        obtain ⟨h1, h2⟩ := List.getElem?_eq_some_iff.mp q1
        rw [← h2, List.set_getElem_self]
      rw [es] at s2
      refine ⟨frz F H f, A', s2, frz_same hn, fun b o e _ => e, fun b e2 q => ?_, fun b hb => .inr (q3.mem_iff.mpr (List.mem_append_right _ hb))⟩
      by_cases hb : b ∈ f
      · exact .inr (q3.mem_iff.mpr (List.mem_append_left _ hb))
      · rw [frz_out hb] at q
        exact absurd e2 q
def sFz (i : Nat) (s : SE Out) : SE Out := fun ρ => s (fzAt i ρ)
theorem EvS.fz {K : PySem.W.Frag} {i : Nat} (h : EvS K n W t s) : EvS K n W t (sFz i s) := fun ρ σ F H A st D w => by
  obtain ⟨F', A', st', g⟩ := st.fzAt i
  exact h _ σ F' H A' st' D (w.go g (Fix.refl _ _))
theorem QSs.fz (i : Nat) (h : QSs X n W rest t s) : QSs X n W rest t (sFz i s) := ⟨h.ps, h.ev.fz⟩
theorem QS.fz (i : Nat) (h : QS X n W st t s) : QS X n W st t (sFz i s) := ⟨h.ps, h.ev.fz⟩
/-- return -/
def sRet (e : SE MV) : SE Out := e.bind fun m => SE.ret (.rt m)
theorem bind_eq {α β : Type} (s : SE α) (k : α → SE β) (ρ : Env) : s.bind k ρ = match s ρ with
    | .ok a ρ' => k a ρ'
    | .exc x ρ' => .exc x ρ'
    | .bad => .bad := rfl
theorem qs_ret {e : Expr} {te : TE} {s : SE MV} (h : QM X W e te s) : QS X n W (.Return (some e) pos) (tRet te) (sRet s) := by
  refine ⟨ps_ret h.pe, fun ρ σ F H A st D w => ?_⟩
  have eb := bind_eq s (fun m => SE.ret (Out.rt m)) ρ
  refine h.ev ρ σ F H A (nob_le _) st D.rt (fun e => ?_) (fun m ρ' e v F' H' A' f st' hr nd hn g => ?_) (fun x ρ' e cls d F' H' A' st' g hx => ?_)
  · rw [e] at eb; exact w.nb eb
  · rw [e] at eb
    exact w.rt m ρ' eb v σ F' H' A' f st' hr nd hn g (Fix.refl _ _)
  · rw [e] at eb
    exact w.xc x ρ' eb cls d σ F' H' A' st' g (Fix.refl _ _) hx
def sRetN : SE Out := fun ρ => .ok (.rt (.fz .non)) ρ
theorem qs_retN : QS X n W (.Return none pos) tRetN sRetN := by
  refine ⟨ps_retN, fun ρ σ F H A st D w => ?_⟩
  exact w.rt (.fz .non) ρ rfl .non σ F H A [] st (by rw [RepM, RepF]; exact ⟨rfl, rfl⟩) (by simpa using st.nod) (by simp) (by simpa using Go.refl F H A) (Fix.refl _ _)
/-- an expression whose value is dropped -/
def sDrop (e : SE MV) : SE Out := e.bind fun _ => SE.ret .nx
theorem qs_expr {e : Expr} {te : TE} {s : SE MV} (h : QM X W e te s) (hs : swapsWith e none pos.line X.env = pure false := by rfl) : QS X n W (.Expr e pos) (tDrop te) (sDrop s) := by
  refine ⟨ps_expr h.pe hs, fun ρ σ F H A st D w => ?_⟩
  have eb := bind_eq s (fun _ => SE.ret Out.nx) ρ
  refine h.ev ρ σ F H A (nob_le _) st (fun _ H1 => D.nx σ H1) (fun e => ?_) (fun m ρ' e v F' H' A' f st' hr nd hn g => ?_) (fun x ρ' e cls d F' H' A' st' g hx => ?_)
  · rw [e] at eb; exact w.nb eb
  · rw [e] at eb
    exact w.nx ρ' eb σ F' H' A' st' (g.weak fun x hx => List.mem_append_right _ hx) (Fix.refl _ _)
  · rw [e] at eb
    exact w.xc x ρ' eb cls d σ F' H' A' st' g (Fix.refl _ _) hx
/-- if -/
def sIf (c : SE Bool) (a b : SE Out) : SE Out := c.bind fun k => if k = true then a else b
theorem qs_if {c : Expr} {a b : List Stmt} {tc : TT} {sc : SE Bool} {sa sb : SE Out} (hc : QT X W c tc sc) (ha : QSs X n W a t sa) (hb : QSs X n W b u sb) : QS X n W (.If c a b pos) (tIfS tc t u) (sIf sc sa sb) := by
  refine ⟨ps_if hc.pt ha.ps hb.ps, fun ρ σ F H A st D w => ?_⟩
  have eb := bind_eq sc (fun k => if k = true then sa else sb) ρ
  refine hc.ev ρ σ F H A (nob_le _) st _ (fun e => ?_) (fun m ρ' e v F' H' A' f st' hr nd hn g => ?_) (fun x ρ' e cls d F' H' A' st' g hx => ?_)
  · rw [e] at eb; exact w.nb eb
  · rw [e] at eb
    have w' : Wants X.K n W ((if m = true then sa else sb) ρ') σ F H A D := by
      have e2 : sIf sc sa sb ρ = (if m = true then sa else sb) ρ' := eb
      rw [e2] at w
      exact w
    obtain ⟨rfl, hv⟩ := hr
    have hv' : v = m := hv
    subst hv'
    cases v with
    | true => exact ha.ev ρ' σ F' H' A' st' D (w'.go g (Fix.refl _ _))
    | false => exact hb.ev ρ' σ F' H' A' st' D (w'.go g (Fix.refl _ _))
  · rw [e] at eb
    exact w.xc x ρ' eb cls d σ F' H' A' st' g (Fix.refl _ _) hx
/-- name = value -/
def sSet (i : Nat) (e : SE MV) : SE Out := e.bind fun m ρ => if i < ρ.length then .ok .nx (ρ.set i (some m)) else .bad
theorem EvS.set {K : PySem.W.Frag} {te : TE} {s : SE MV} {i : Nat} (hn : n ≤ i) (h : Ev K nob (RepM K) W te s) : EvS K n W (tAsg te (gName i)) (sSet i s) := fun ρ σ F H A st D w => by
  have eb := bind_eq s (fun m ρ => if i < ρ.length then .ok Out.nx (ρ.set i (some m)) else .bad) ρ
  refine h ρ σ F H A (nob_le _) st (fun v H1 => gName i v σ H1 D.nx) (fun e => ?_) (fun m ρ' e v F' H' A' f st' hr nd hnf g => ?_) (fun x ρ' e cls d F' H' A' st' g hx => ?_)
  · rw [e] at eb; exact w.nb eb
  · rw [e] at eb
    have e2 : sSet i s ρ = if i < ρ'.length then .ok Out.nx (ρ'.set i (some m)) else .bad := eb
    by_cases hi : i < ρ'.length
    · rw [if_pos hi] at e2
      obtain ⟨A2, q1, q2⟩ := st'.store hr nd hnf hi
      exact w.nx _ e2 _ F' H' A2 q2 (g.weak q1) (Fix.set hn)
    · rw [if_neg hi] at e2
      exact absurd e2 w.nb
  · rw [e] at eb
    exact w.xc x ρ' eb cls d σ F' H' A' st' g (Fix.refl _ _) hx
theorem qs_set {i : Nat} {x : Str} {e : Expr} {te : TE} {s : SE MV} {pos' : Pos} (hn : n ≤ i) (hN : X.N.Nodup) (hi : X.N[i]? = some x) (hx : Loc X.env.scope x) (he : QM X W e te s) (hs : swapsWith e (some (.Name x pos')) pos.line X.env = pure false := by rfl) (hf : X.fn x = true ∨ X.env.scope.names.lookup x = some .local := by first | exact .inl rfl | exact .inr rfl | assumption) :
    QS X n W (.Assign [.Name x pos'] e pos) (tAsg te (gName i)) (sSet i s) := ⟨ps_set hN hi hx he.pe hs hf, EvS.set hn he.ev⟩
/-- target = value -/
def sAsg (e : SE PV) (g : PV → Env → Option Env) : SE Out := e.bind fun p ρ => match g p ρ with
  | some ρ' => .ok .nx ρ'
  | none => .bad
theorem qs_asg {tg e : Expr} {te : TE} {g : TG} {s : SE PV} {sg : PV → Env → Option Env} {tl : List Nat} (he : QE X W e te s) (hg : QG X tl tg g sg) (ht : ∀ j ∈ tl, n ≤ j := by decide) (hs : swapsWithSole [tg] e pos.line X.env = pure false := by rfl) (hw : swappedStores [tg] e X.env = pure none := by rfl)
    (h1 : (assignEach [tg] X.env).map (·.2) = [assign tg X.env] := by rfl) : QS X n W (.Assign [tg] e pos) (tAsg te g) (sAsg s sg) := by
  refine ⟨ps_asg he.pe hg.pg hs hw h1, fun ρ σ F H A st D w => ?_⟩
  have eb := bind_eq s (fun p ρ => match sg p ρ with
    | some ρ' => .ok Out.nx ρ'
    | none => .bad) ρ
  refine he.ev ρ σ F H A (nob_le _) st (fun v H1 => g v σ H1 D.nx) (fun e => ?_) (fun m ρ' e v F' H' A' f st' hr nd hnf go => ?_) (fun x ρ' e cls d F' H' A' st' go hx => ?_)
  · rw [e] at eb; exact w.nb eb
  · rw [e] at eb
    have e2 : sAsg s sg ρ = match sg m ρ' with
      | some ρ' => .ok Out.nx ρ'
      | none => .bad := eb
    obtain ⟨rfl, hv⟩ := hr
    refine hg.ev m v ρ' σ F' H' A' hv st' D.nx (fun q => ?_) (fun ρ2 q σ2 F2 H2 A2 st2 g2 x2 => ?_)
    · rw [q] at e2; exact w.nb e2
    · rw [q] at e2
      exact w.nx ρ2 e2 σ2 F2 H2 A2 st2 (Go.trans go g2) (x2.fix ht)
  · rw [e] at eb
    exact w.xc x ρ' eb cls d σ F' H' A' st' go (Fix.refl _ _) hx
end

/-! ### targets -/
section
variable {X : Cx} {n : Nat} {pos : Pos}
def gN (i : Nat) : PV → Env → Option Env := fun p ρ => if i < ρ.length then some (ρ.set i (some (.fz p))) else none
theorem qg_name {i : Nat} {x : Str} (hN : X.N.Nodup) (hi : X.N[i]? = some x) (hx : Loc X.env.scope x) (hf : X.fn x = true ∨ X.env.scope.names.lookup x = some .local := by first | exact .inl rfl | exact .inr rfl | assumption) : QG X [i] (.Name x pos) (gName i) (gN i) := by
  refine ⟨pg_name hN hi hx hf, fun p v ρ σ F H A hp st Q nb hok => ?_⟩
  have eb : gN i p ρ = if i < ρ.length then some (ρ.set i (some (.fz p))) else none := rfl
  by_cases h : i < ρ.length
  · rw [if_pos h] at eb
    obtain ⟨A2, q1, q2⟩ := st.store (m := .fz p) (v := v) (f := []) (by rw [RepM]; exact ⟨rfl, hp⟩) (by simpa using st.nod) (by simp) h
    exact hok _ eb _ F H A2 q2 ((Go.refl F H A).weak (by simpa using q1)) Chg.set
  · rw [if_neg h] at eb
    exact absurd eb nb
def gNl : List PV → Env → Option Env := fun ps ρ => match ps with
  | [] => some ρ
  | _ :: _ => none
def gCn (g : PV → Env → Option Env) (r : List PV → Env → Option Env) : List PV → Env → Option Env := fun ps ρ => match ps with
  | [] => none
  | p :: ps => match g p ρ with
    | some ρ' => r ps ρ'
    | none => none
theorem qgs_nil : QGs X [] [] gNil gNl := by
  refine ⟨pgs_nil, fun ps vs ρ σ F H A hp st Q nb hok => ?_⟩
  cases ps with
  | nil =>
    rw [RepFs] at hp
    exact ⟨hp, hok ρ rfl σ F H A st (Go.refl ..) (Chg.refl _ _)⟩
  | cons p ps => exact absurd rfl nb
theorem qgs_cons {e : Expr} {es : List Expr} {t : TG} {u : TGs} {g : PV → Env → Option Env} {r : List PV → Env → Option Env} {t1 t2 : List Nat} (h1 : QG X t1 e t g) (h2 : QGs X t2 es u r)
    (hs : (assignEach (e :: es) X.env).map (·.2) = assign e X.env :: (assignEach es X.env).map (·.2) := by rfl) : QGs X (t1 ++ t2) (e :: es) (gCons t u) (gCn g r) := by
  refine ⟨pgs_cons h1.pg h2.pg hs, fun ps vs ρ σ F H A hp st Q nb hok => ?_⟩
  cases ps with
  | nil => exact absurd rfl nb
  | cons p ps =>
    rw [RepFs] at hp
    obtain ⟨v, vr, e1, e2, e3⟩ := hp
    refine ⟨v, vr, e1, h1.ev p v ρ σ F H A e2 st _ (fun q => ?_) (fun ρ' q σ' F' H' A' st' go x => ?_)⟩
    · exact nb (by show (match g p ρ with | some ρ' => r ps ρ' | none => none) = none; rw [q])
    · have eb : gCn g r (p :: ps) ρ = r ps ρ' := by show (match g p ρ with | some ρ' => r ps ρ' | none => none) = _; rw [q]
      refine h2.ev ps vr ρ' σ' F' H' A' (RepFs.mono go.f _ _ e3) st' Q (fun q2 => nb (eb.trans q2)) (fun ρ2 q2 σ2 F2 H2 A2 st2 go2 x2 => ?_)
      exact hok ρ2 (eb.trans q2) σ2 F2 H2 A2 st2 (go.trans go2) (x.trans x2)
/-- (a, b, ..) = a tuple -/
def gTp (k : Nat) (r : List PV → Env → Option Env) : PV → Env → Option Env := fun p ρ => match p with
  | .tup ps => if ps.length = k then r ps ρ else none
  | _ => none
theorem qg_tup {es : List Expr} {k : Nat} {t : TGs} {m : Nat} {r : List PV → Env → Option Env} {tl : List Nat} (hc : X.calm = true) (h : QGs X tl es t r)
    (hn : (assignEach es X.env).length = m := by rfl) (hst : (assignEach es X.env).findIdx? (·.1) = none := by rfl) : QG X tl (.Tuple es k pos) (gTup X.K m t) (gTp m r) := by
  refine ⟨pg_tup hc h.pg hn hst, fun p v ρ σ F H A hp st Q nb hok => ?_⟩
  cases p with
  | tup ps =>
    rw [RepF] at hp
    obtain ⟨a, vs, e1, e2, e3⟩ := hp
    have eb : gTp m r (.tup ps) ρ = if ps.length = m then r ps ρ else none := rfl
    by_cases hl : ps.length = m
    · rw [if_pos hl] at eb
      refine ⟨a, vs, e1, same_t st.sub e2, by rw [RepFs.length e3, hl], ?_⟩
      exact h.ev ps vs ρ σ F H A e3 st Q (fun q => nb (eb.trans q)) fun ρ' q => hok ρ' (eb.trans q)
    · rw [if_neg hl] at eb
      exact absurd eb nb
  | _ => exact absurd rfl nb
end
end Mv

set_option Elab.async false
set_option linter.all false
set_option maxRecDepth 100000
set_option maxHeartbeats 4000000
namespace Mv
open PySem PySem.Spec PyProof.Rows L2

/-! ### a def that is run where no repr is under way -/
structure FnG (P : Program) (w : World) (K : PySem.W.Frag) (mg : Str → Option Value) (base : Heap) (k : Nat) (f : Addr) (fd : FuncData) (ps : List Str) (sp : Sp) : Prop where
  len : ∀ vs H Q E, sp vs H Q E → vs.length = ps.length
  run : ∀ (A : Around), A.guards = some [] → Room k A → ∀ (outer : List PySem.Env) (s : Shared) (H : Hp), Env0 P w K mg base A outer s H →
    ∀ (args : Args) (us : List Value) (vs : List V), BindsTo s fd args (ps.zip us) → Vals vs us → ∀ (Q : VK) (E : XK), sp vs H Q E →
    codeAny (model P w) A (.call (.ref f) args) (CR (L2.CX P w) outer P w H s Q E) s
section
variable {P : Program} {w : World} {K : PySem.W.Frag} {mg : Str → Option Value} {base : Heap} {x qual : Str} {params : Arguments} {body : List Stmt} {scope : Scope} {dvs : List V} {kws : List (Str × V)} {f : Addr} {fd : FuncData} {N ps : List Str} {k : Nat} {sp : Sp}
theorem fnG_of (D : FunD K x qual params body scope dvs kws f fd) (S : FnScope N ps scope) (len : ∀ vs H Q E, sp vs H Q E → vs.length = ps.length)
    (hbody : ∀ (cdv : Value) (A : Around) (outer : List PySem.Env) (s : Shared) (H : Hp) (vs : List V) (Q : VK) (E : XK), A.guards = some [] →
      Room k (A.deeper (envOfC qual scope s.heap.objs.size f cdv)) → sp vs H Q E →
      ∃ t, PSs (cxOf (L2.CX P w) P w K mg base N qual scope f cdv A outer s H E) body t ∧ t { nx := fun _ H' => Q .non H', rt := Q } (L2.start N vs) H) :
    FnG P w K mg base (k + 1) f fd ps sp := by
  obtain ⟨oc, od, dV, kV, doc, pm, an, cdv, ct, osl, rfl, lk, hcd, _, _⟩ := D.ex
  refine ⟨len, ?_⟩
  intro A hg hr outer s H e0 args us vs hb r Q E hsp
  have keeps0 : ∀ b o, base.get? b = some o → s.heap.get? b = some o := fun b o e => (e0.bs b o e).1
  have inK : K.In s.heap := e0.mod.kin.keeps keeps0
  refine codeAny_call_function hr.depth (inK _ _ lk) rfl S.co S.gen rfl (PySem.W.codeRec_of inK hcd) (hb _ _ _ _ ?_)
  refine wpAny_newFunctionEnv_cells S.kind ?_ ?_
  · rintro ⟨n, v⟩ hy
    cases S.par n (List.of_mem_zip hy).1 with
    | inl q => exact Or.inl q
    | inr q => exact Or.inr ⟨q, PySem.W.cellsFrom_some _ _ _ (Or.inl q)⟩
  · rintro env rfl s1 x1
    refine ⟨(e0.mod.nolimit.keeps keeps0).keeps x1.toInCall.keep, codeAny_func ?_⟩
    obtain ⟨t, ht, hq⟩ := hbody cdv A outer s H vs Q E hg (hr.deeper _) hsp
    refine wpAny_mono (ht.run [] s1 (L2.start N vs) H _ (inv_start S hr.hd e0 (len _ _ _ _ hsp) r x1) hq) ?_ fun e s' hs => hs
    intro fl s' hs
    cases fl with
    | ret u => exact match hs with | ⟨v, _, H', J, rv, q⟩ => ⟨v, H', J.os, J.bare, J.base, J.hok, rv, q⟩
    | next => exact match hs with | ⟨_, H', J, q⟩ => ⟨V.non, H', J.os, J.bare, J.base, J.hok, rfl, q⟩
    | brk => exact match hs with | ⟨_, _, _, q⟩ => False.elim q
    | cont => exact match hs with | ⟨_, _, _, q⟩ => False.elim q
end

/-! ### calls: positional arguments, keywords, put into the parameters' order -/
structure KB (K : PySem.W.Frag) (fd : FuncData) (ps : List Str) (n : Nat) (ks : List Str) (g : {α : Type} → List α → List α → List α) : Prop where
  to : ∀ (s : Shared) (us ws : List Value), K.In s.heap → us.length = n → ws.length = ks.length → BindsTo s fd ⟨us, ks.zip ws⟩ (ps.zip (g us ws))
  rel : ∀ {vs : List V} {us : List Value} {zs : List V} {ws : List Value}, Vals vs us → Vals zs ws → Vals (g vs zs) (g us ws)
def tCallG (n m : Nat) (sp : Sp) (g : {α : Type} → List α → List α → List α) (E : L2.St → XK) (t tk : TA) : TE := fun σ H Q => t σ H fun vs H1 => tk σ H1 fun zs H2 => vs.length = n ∧ zs.length = m ∧ sp (g vs zs) H2 Q (E σ)
section
variable {X : Cx} {W : WX} {k n : Nat} {f : Addr} {fd : FuncData} {ps ks : List Str} {sp : Sp} {x : Str} {p pos : Pos} {e : Expr} {es : List Expr} {kws : List Keyword} {t tk : TA} {g : {α : Type} → List α → List α → List α}
theorem run_fnG {pins : List (Addr × Obj)} {σ : L2.St} {H : Hp} {s : Shared} {Q : VK} {us ws : List Value} {vs zs : List V} (F : FnG X.prog X.w X.K X.mg X.base k f fd ps sp) (hg : X.A.guards = some []) (hr : Room k X.A) (hb : KB X.K fd ps n ks g) (tk : Takes X W)
    (I : Inv X pins σ H s) (r : Vals vs us) (rz : Vals zs ws) (l1 : vs.length = n) (l2 : zs.length = ks.length) (h : sp (g vs zs) H Q (WE W σ)) : wpAny (model X.prog X.w) X.A (call (.ref f) us (ks.zip ws)) (EP X pins σ Q) X.xe s := by
  have b := hb.to s us ws I.kIn (r.length ▸ l1) (rz.length ▸ l2)
  refine wpAny_call (codeAny_mono (F.run X.A hg hr X.stack s H I.env0 ⟨us, ks.zip ws⟩ _ _ b (hb.rel r rz) Q (WE W σ) h) ?_)
  rintro (e | fl) s' hq
  · exact passAt tk σ pins H s e s' I hq
  · cases fl with
    | ret u => exact I.after hq
    | next => exact hq.elim
    | brk => exact hq.elim
    | cont => exact hq.elim
theorem pe_callG (F : FnG X.prog X.w X.K X.mg X.base k f fd ps sp) (hgd : X.A.guards = some []) (hr : Room k X.A) (hg : Gl X x) (hm : X.mg x = some (.ref f)) (hk : PySem.W.keepIn X.K (.ref f) = true) (hb : KB X.K fd ps n [] g) (tk : Takes X W)
    (ha : PA X (e :: es) t) (hdb : (x == ("__debug__" : Str)) = false := by decide) (he : starEach (e :: es) X.env = (false, eval e X.env) :: starEach es X.env := by rfl) (hpl : (backTo pos (starEach es X.env)).any (·.1) = false := by rfl) :
    PE X (.Call (.Name x p) (e :: es) [] pos) (tCallG n 0 sp g (WE W) t tNil) :=
  ⟨fun pins s σ H Q I h => wpAny_Call_Name_kw (ld_glob I hg hm (PySem.W.callWith_K (h₀ := X.base) I.ok.mod.kin hk
    (thn (ha.run pos pins s σ H _ I h) fun us s1 ⟨vs, H1, I1, r, l1, _, q⟩ => ⟨I1.kIn, run_fnG F hgd hr hb tk I1 r .nil l1 rfl q⟩) he hpl) hdb)⟩
theorem pe_callG0 (F : FnG X.prog X.w X.K X.mg X.base k f fd ps sp) (hgd : X.A.guards = some []) (hr : Room k X.A) (hg : Gl X x) (hm : X.mg x = some (.ref f)) (hk : PySem.W.keepIn X.K (.ref f) = true) (hb : KB X.K fd ps 0 [] g) (tk : Takes X W)
    (hdb : (x == ("__debug__" : Str)) = false := by decide) :
    PE X (.Call (.Name x p) [] [] pos) (tCallG 0 0 sp g (WE W) tNil tNil) :=
  ⟨fun pins s σ H Q I h => wpAny_Call_Name_kw (ld_glob I hg hm (PySem.W.callWith_K0 I.kIn hk (run_fnG (us := []) F hgd hr hb tk I .nil .nil rfl rfl h.2.2)) hdb)⟩
theorem pe_callGk (F : FnG X.prog X.w X.K X.mg X.base k f fd ps sp) (hgd : X.A.guards = some []) (hr : Room k X.A) (hg : Gl X x) (hm : X.mg x = some (.ref f)) (hk : PySem.W.keepIn X.K (.ref f) = true) (hb : KB X.K fd ps n ks g) (tx : Takes X W)
    (ha : PA X (e :: es) t) (hkw : PK X kws tk) (hall : (backToKw pos (keywordEach kws X.env)).all (·.1.isSome) = true := by rfl) (hks : (backToKw pos (keywordEach kws X.env)).filterMap (·.1) = ks := by rfl)
    (hdb : (x == ("__debug__" : Str)) = false := by decide) (he : starEach (e :: es) X.env = (false, eval e X.env) :: starEach es X.env := by rfl)
    (hpl : ((backTo pos (starEach (e :: es) X.env)).any (·.1) || (backToKw pos (keywordEach kws X.env)).any (·.1.isNone)) = false := by rfl) :
    PE X (.Call (.Name x p) (e :: es) kws pos) (tCallG n ks.length sp g (WE W) t tk) :=
  ⟨fun pins s σ H Q I h => wpAny_Call_Name_kw (ld_glob I hg hm (PySem.W.callWith_KW (h₀ := X.base) I.ok.mod.kin hk hall
    (thn (ha.run pos pins s σ H _ I h) fun us s1 ⟨vs, H1, I1, r, q⟩ => thn (hkw.run pos pins s1 σ H1 _ I1 q) fun ws s2 ⟨zs, H2, I2, rz, l1, l2, q2⟩ => ⟨I2.kIn, by
      rw [hks]
      exact run_fnG F hgd hr hb tx I2 r rz l1 l2 q2⟩) hpl he) hdb)⟩
theorem pe_callGk0 (F : FnG X.prog X.w X.K X.mg X.base k f fd ps sp) (hgd : X.A.guards = some []) (hr : Room k X.A) (hg : Gl X x) (hm : X.mg x = some (.ref f)) (hk : PySem.W.keepIn X.K (.ref f) = true) (hb : KB X.K fd ps 0 ks g) (tx : Takes X W)
    (hkw : PK X kws tk) (hall : (backToKw pos (keywordEach kws X.env)).all (·.1.isSome) = true := by rfl) (hks : (backToKw pos (keywordEach kws X.env)).filterMap (·.1) = ks := by rfl)
    (hdb : (x == ("__debug__" : Str)) = false := by decide)
    (hpl : ((backTo pos (starEach [] X.env)).any (·.1) || (backToKw pos (keywordEach kws X.env)).any (·.1.isNone)) = false := by rfl) :
    PE X (.Call (.Name x p) [] kws pos) (tCallG 0 ks.length sp g (WE W) tNil tk) :=
  ⟨fun pins s σ H Q I h => wpAny_Call_Name_kw (ld_glob I hg hm (PySem.W.callWith_KW0 (h₀ := X.base) I.ok.mod.kin hk hall
    (thn (hkw.run pos pins s σ H _ I h) fun ws s2 ⟨zs, H2, I2, rz, l1, l2, q2⟩ => ⟨I2.kIn, by
      rw [hks]
      exact run_fnG (us := []) F hgd hr hb tx I2 .nil rz rfl l2 q2⟩) hpl) hdb)⟩
end

/-! ### a def's plain function -/
inductive RF where
  | ok (m : MV) (outs : List MV) | exc (x : PX) (outs : List MV) | bad
def outsOf : Env → Option (List MV)
  | [] => some []
  | none :: _ => none
  | some m :: r => match outsOf r with
    | some l => some (m :: l)
    | none => none
theorem outsOf_eq : ∀ {ρ : Env} {l : List MV}, outsOf ρ = some l → ρ = l.map some
  | [], l, h => by cases h; rfl
  | none :: _, l, h => by cases h
  | some m :: r, l, h => by
    have h2 : (match outsOf r with
      | some l => some (m :: l)
      | none => none) = some l := h
    cases e : outsOf r with
    | none => rw [e] at h2; cases h2
    | some l2 =>
      rw [e] at h2
      cases h2
      rw [outsOf_eq e]
      rfl
/-- n: so many parameters keep their slots; np: the parameters; nl: the other slots -/
def runF (n np nl : Nat) (body : SE Out) (ms : List MV) : RF := if ms.length = np then
    match body (ms.map some ++ List.replicate nl none) with
    | .ok (.rt m) ρ' => (match outsOf (ρ'.take n) with
      | some outs => .ok m outs
      | none => .bad)
    | .ok .nx ρ' => (match outsOf (ρ'.take n) with
      | some outs => .ok (.fz .non) outs
      | none => .bad)
    | .ok .bk _ => .bad
    | .ok .ct _ => .bad
    | .exc x ρ' => (match outsOf (ρ'.take n) with
      | some outs => .exc x outs
      | none => .bad)
    | .bad => .bad
  else .bad
/-- what a def promises: its plain function -/
def spF (K : PySem.W.Frag) (n np : Nat) (m : List MV → RF) : Sp := fun vs H Q E => vs.length = np ∧ ∃ ms F A, StOk K (ms.map some) (vs.map some) F H A ∧ m ms ≠ .bad ∧
  (∀ r outs, m ms = .ok r outs → ∀ v F' H' A' f, StOk K (outs.map some) ((vs.take n).map some) F' H' A' → RepM K F' H' r v f → (f ++ A').Nodup → (∀ x ∈ f, F' x = none) → Go F H A F' H' (f ++ A') → Q v H') ∧
  (∀ x outs, m ms = .exc x outs → ∀ cls d F' H' A', StOk K (outs.map some) ((vs.take n).map some) F' H' A' → Go F H A F' H' A' → RepX K F' H' x cls d → E cls d H')
theorem Slots.takeN {K : PySem.W.Frag} {F H : Hp} : ∀ {ρ : Env} {σ : L2.St} {A : List Addr} (n : Nat), Slots K F H ρ σ A → ∃ A', A'.Sublist A ∧ Slots K F H (ρ.take n) (σ.take n) A'
  | ρ, σ, A, 0, h => ⟨[], List.nil_sublist _, by rw [List.take_zero, List.take_zero]; exact ⟨rfl, rfl⟩⟩
  | [], σ, A, n + 1, h => by
    obtain ⟨rfl, rfl⟩ := h
    exact ⟨[], .refl _, rfl, rfl⟩
  | none :: ρ, σ, A, n + 1, h => by
    obtain ⟨o, r, e1, h⟩ := h
    subst e1
    obtain ⟨A', q1, q2⟩ := Slots.takeN n h
    exact ⟨A', q1, o, _, rfl, q2⟩
  | some m :: ρ, σ, A, n + 1, h => by
    obtain ⟨v, r, f, g, e1, e2, e3, h⟩ := h
    subst e1 e2
    obtain ⟨A', q1, q2⟩ := Slots.takeN n h
    exact ⟨f ++ A', List.Sublist.append_left q1 f, v, _, f, A', rfl, rfl, e3, q2⟩
theorem StOk.takeN {K : PySem.W.Frag} {ρ : Env} {σ : L2.St} {F H : Hp} {A : List Addr} (s : StOk K ρ σ F H A) (n : Nat) : ∃ A', A'.Nodup ∧ (∀ a ∈ A', a ∈ A) ∧ StOk K (ρ.take n) (σ.take n) F H A' := by
  obtain ⟨B, q, h⟩ := s.sl
  obtain ⟨A', q1, q2⟩ := h.takeN n
  have nd : A'.Nodup := q1.nodup (q.nodup_iff.mp s.nod)
  have mm : ∀ a ∈ A', a ∈ A := fun a ha => q.mem_iff.mpr (q1.subset ha)
  exact ⟨A', nd, mm, s.sub, nd, fun a ha => s.out a (mm a ha), A', .refl _, q2⟩
theorem Slots.nones {K : PySem.W.Frag} {F H : Hp} {A : List Addr} : ∀ {ρ : Env} {σ : L2.St} (nl : Nat), Slots K F H ρ σ A → Slots K F H (ρ ++ List.replicate nl none) (σ ++ List.replicate nl none) A
  | [], σ, nl, h => by
    obtain ⟨rfl, rfl⟩ := h
    rw [List.nil_append, List.nil_append]
    induction nl with
    | zero => exact ⟨rfl, rfl⟩
    | succ n ih => exact ⟨none, _, rfl, ih⟩
  | none :: ρ, σ, nl, h => by
    obtain ⟨o, r, e1, h⟩ := h
    subst e1
    exact ⟨o, _, rfl, Slots.nones nl h⟩
  | some m :: ρ, σ, nl, h => by
    obtain ⟨v, r, f, g, e1, e2, e3, h⟩ := h
    subst e1
    exact ⟨v, _, f, g, rfl, e2, e3, Slots.nones nl h⟩
theorem fix_take {n np : Nat} {σ' σ0 : L2.St} {vs : List V} (hf : Fix n σ0 σ') (hs : ∀ i, i < n → σ0[i]? = (vs.map some)[i]?) (hn : n ≤ vs.length) : σ'.take n = (vs.take n).map some := by
  apply List.ext_getElem?
  intro i
  by_cases hi : i < n
  · rw [List.getElem?_take_of_lt hi, hf i hi, hs i hi, List.map_take, List.getElem?_take_of_lt hi]
  · rw [List.getElem?_eq_none (by rw [List.length_take]; omega), List.getElem?_eq_none (by rw [List.length_map, List.length_take]; omega)]
section
variable {P : Program} {w : World} {K : PySem.W.Frag} {mg : Str → Option Value} {base : Heap} {x qual : Str} {params : Arguments} {body : List Stmt} {scope : Scope} {dvs : List V} {kws : List (Str × V)} {f : Addr} {fd : FuncData} {N ps : List Str} {k : Nat}
theorem fn_ok (n np nl : Nat) (s : SE Out) (D : FunD K x qual params body scope dvs kws f fd) (S : FnScope N ps scope) (hnp : ps.length = np := by rfl) (hN : N.length = np + nl := by rfl) (hn : n ≤ np := by decide)
    (hb : ∀ (cdv : Value) (A : Around) (outer : List PySem.Env) (sh : Shared) (H : Hp) (E : XK), A.guards = some [] → Room k (A.deeper (envOfC qual scope sh.heap.objs.size f cdv)) →
      Takes (cxOf (L2.CX P w) P w K mg base N qual scope f cdv A outer sh H E) (fun cls d _ H => E cls d H) →
      ∃ t, QSs (cxOf (L2.CX P w) P w K mg base N qual scope f cdv A outer sh H E) n (fun cls d _ H => E cls d H) body t s) :
    FnG P w K mg base (k + 1) f fd ps (spF K n np (runF n np nl s)) := by
  refine fnG_of D S (fun vs H Q E h => h.1.trans hnp.symm) fun cdv A outer sh H vs Q E hg hr hsp => ?_
  obtain ⟨t, q⟩ := hb cdv A outer sh H E hg hr (takes_of rfl rfl rfl rfl)
  obtain ⟨hl, ms, F, Ad, st, nb, hok, hex⟩ := hsp
  have lms : ms.length = np := by
    have := st.len
    simp only [List.length_map] at this
    omega
  have er : runF n np nl s ms = match s (ms.map some ++ List.replicate nl none) with
    | .ok (.rt m) ρ' => (match outsOf (ρ'.take n) with
      | some outs => .ok m outs
      | none => .bad)
    | .ok .nx ρ' => (match outsOf (ρ'.take n) with
      | some outs => .ok (.fz .non) outs
      | none => .bad)
    | .ok .bk _ => .bad
    | .ok .ct _ => .bad
    | .exc x ρ' => (match outsOf (ρ'.take n) with
      | some outs => .exc x outs
      | none => .bad)
    | .bad => .bad := if_pos lms
  have es : L2.start N vs = vs.map some ++ List.replicate nl none := by
    unfold L2.start
    rw [hN, hl]
    congr 2
    omega
  have st0 : StOk K (ms.map some ++ List.replicate nl none) (L2.start N vs) F H Ad := by
    obtain ⟨B, q1, q2⟩ := st.sl
    rw [es]
    exact ⟨st.sub, st.nod, st.out, B, q1, q2.nones nl⟩
  have fx : ∀ {σ' : L2.St}, Fix n (L2.start N vs) σ' → σ'.take n = (vs.take n).map some := fun {σ'} h => fix_take (np := np) h (fun i hi => by rw [es, List.getElem?_append_left (by rw [List.length_map]; omega)]) (by omega)
  refine ⟨t, q.ps, q.ev _ _ F H Ad st0 _ ⟨fun e => ?_, fun ρ' e σ' F' H' A' st' g x => ?_, fun m ρ' e v σ' F' H' A' f st' hr' nd hn' g x => ?_, fun ρ' e => ?_, fun ρ' e => ?_, fun y ρ' e cls d σ' F' H' A' st' g x hx => ?_⟩⟩
  · rw [e] at er
    exact nb er
  · rw [e] at er
    cases eo : outsOf (ρ'.take n) with
    | none => simp only [eo] at er; exact absurd er nb
    | some outs =>
      simp only [eo] at er
      obtain ⟨A2, nd2, mm, st2⟩ := st'.takeN n
      rw [outsOf_eq eo, fx x] at st2
      exact hok (.fz .non) outs er .non F' H' A2 [] st2 (by rw [RepM, RepF]; exact ⟨rfl, rfl⟩) (by simpa using nd2) (by simp) (g.weak (by simpa using mm))
  · rw [e] at er
    cases eo : outsOf (ρ'.take n) with
    | none => simp only [eo] at er; exact absurd er nb
    | some outs =>
      simp only [eo] at er
      obtain ⟨A2, nd2, mm, st2⟩ := st'.takeN n
      rw [outsOf_eq eo, fx x] at st2
      rw [List.nodup_append] at nd
      refine hok m outs er v F' H' A2 f st2 hr' ?_ hn' (g.weak fun a ha => ?_)
      · rw [List.nodup_append]
        exact ⟨nd.1, nd2, fun a ha b hb => nd.2.2 a ha b (mm b hb)⟩
      · rcases List.mem_append.mp ha with z | z
        · exact List.mem_append_left _ z
        · exact List.mem_append_right _ (mm a z)
  · rw [e] at er
    exact absurd er nb
  · rw [e] at er
    exact absurd er nb
  · rw [e] at er
    cases eo : outsOf (ρ'.take n) with
    | none => simp only [eo] at er; exact absurd er nb
    | some outs =>
      simp only [eo] at er
      obtain ⟨A2, nd2, mm, st2⟩ := st'.takeN n
      rw [outsOf_eq eo, fx x] at st2
      exact hex y outs er cls d F' H' A2 st2 (g.weak mm) hx
end
end Mv

set_option Elab.async false
set_option linter.all false
set_option maxRecDepth 100000
set_option maxHeartbeats 4000000
namespace Mv
open PySem PySem.Spec PyProof.Rows L2

/-! ### plain data: equality, text -/
mutual
def PV.dat : PV → PyData
  | .non => .none | .bl b => .bool b | .int i => .int i | .str s => .str (mkS s) | .tup xs => .tuple (PV.dats xs) | .lst xs => .list (PV.dats xs)
  | .dic _ _ => .none | .scr _ => .none | .opq _ => .none
def PV.dats : List PV → List PyData
  | [] => []
  | x :: xs => PV.dat x :: PV.dats xs
end
mutual
def PV.isd : PV → Bool
  | .non => true | .bl _ => true | .int _ => true | .str _ => true | .tup xs => PV.isds xs | .lst xs => PV.isds xs
  | .dic _ _ => false | .scr _ => false | .opq _ => false
def PV.isds : List PV → Bool
  | [] => true
  | x :: xs => PV.isd x && PV.isds xs
end
mutual
def PV.chk : PV → Bool
  | .non => true | .bl _ => true | .int _ => true | .str s => s.all (· < 0x110000) | .tup xs => PV.chks xs | .lst xs => PV.chks xs
  | .dic _ _ => false | .scr _ => false | .opq _ => false
def PV.chks : List PV → Bool
  | [] => true
  | x :: xs => PV.chk x && PV.chks xs
end
mutual
def PV.dep : PV → Nat
  | .tup xs => PV.deps xs + 1 | .lst xs => PV.deps xs + 1
  | .non => 0 | .bl _ => 0 | .int _ => 0 | .str _ => 0 | .dic _ _ => 0 | .scr _ => 0 | .opq _ => 0
def PV.deps : List PV → Nat
  | [] => 0
  | x :: xs => max (PV.dep x) (PV.deps xs)
end
mutual
def PV.eqv : PV → PV → Bool
  | .non, q => (match q with | .non => true | _ => false)
  | .bl a, q => (match q with | .bl b => a == b | .int j => (if a then 1 else 0) == j | _ => false)
  | .int i, q => (match q with | .int j => i == j | .bl b => i == (if b then 1 else 0) | _ => false)
  | .str s, q => (match q with | .str t => decide (s = t) | _ => false)
  | .tup xs, q => (match q with | .tup ys => PV.eqvs xs ys | _ => false)
  | .lst xs, q => (match q with | .lst ys => PV.eqvs xs ys | _ => false)
  | .dic _ _, _ => false
  | .scr _, _ => false
  | .opq _, _ => false
def PV.eqvs : List PV → List PV → Bool
  | [], ys => (match ys with | [] => true | _ :: _ => false)
  | x :: xs, ys => (match ys with | [] => false | y :: ys => PV.eqv x y && PV.eqvs xs ys)
end
def PV.shp (p : PV) : Bool := p.chk && decide (p.dep ≤ 64)
theorem mkS_inj {s t : Tx} (h : mkS s = mkS t) : s = t := by
  have h2 : s.toArray = t.toArray := congrArg Str.cps h
  simpa using h2
theorem mkS_len (s : Tx) : (mkS s).length = s.length := by
  show s.toArray.size = s.length
  simp
mutual
theorem chk_isd : ∀ p : PV, p.chk = true → p.isd = true
  | .non, _ => by rw [PV.isd]
  | .bl _, _ => by rw [PV.isd]
  | .int _, _ => by rw [PV.isd]
  | .str _, _ => by rw [PV.isd]
  | .tup xs, h => by rw [PV.chk] at h; rw [PV.isd]; exact chks_isd xs h
  | .lst xs, h => by rw [PV.chk] at h; rw [PV.isd]; exact chks_isd xs h
  | .dic _ _, h => by rw [PV.chk] at h; cases h
  | .scr _, h => by rw [PV.chk] at h; cases h
  | .opq _, h => by rw [PV.chk] at h; cases h
theorem chks_isd : ∀ ps : List PV, PV.chks ps = true → PV.isds ps = true
  | [], _ => by rw [PV.isds]
  | x :: xs, h => by
    rw [PV.chks, Bool.and_eq_true] at h
    rw [PV.isds, chk_isd x h.1, chks_isd xs h.2]
    rfl
end
mutual
theorem dat_lay : ∀ p : PV, p.chk = true → p.dat.canLay0 = true
  | .non, _ => by rw [PV.dat, PyData.canLay0]
  | .bl _, _ => by rw [PV.dat, PyData.canLay0]
  | .int _, _ => by rw [PV.dat, PyData.canLay0]
  | .str s, h => by
    rw [PV.chk] at h
    rw [PV.dat, PyData.canLay0]
    show (s.toArray).all (· < 0x110000) = true
    simpa using h
  | .tup xs, h => by rw [PV.chk] at h; rw [PV.dat, PyData.canLay0]; exact dats_lay xs h
  | .lst xs, h => by rw [PV.chk] at h; rw [PV.dat, PyData.canLay0]; exact dats_lay xs h
  | .dic _ _, h => by rw [PV.chk] at h; cases h
  | .scr _, h => by rw [PV.chk] at h; cases h
  | .opq _, h => by rw [PV.chk] at h; cases h
theorem dats_lay : ∀ ps : List PV, PV.chks ps = true → PyData.canLayAll0 (PV.dats ps) = true
  | [], _ => by rw [PV.dats, PyData.canLayAll0]
  | x :: xs, h => by
    rw [PV.chks, Bool.and_eq_true] at h
    rw [PV.dats, PyData.canLayAll0, dat_lay x h.1, dats_lay xs h.2]
    rfl
end
mutual
theorem dat_dep : ∀ p : PV, p.isd = true → p.dat.depth = p.dep
  | .non, _ => by rw [PV.dat, PyData.depth, PV.dep]
  | .bl _, _ => by rw [PV.dat, PyData.depth, PV.dep]
  | .int _, _ => by rw [PV.dat, PyData.depth, PV.dep]
  | .str _, _ => by rw [PV.dat, PyData.depth, PV.dep]
  | .tup xs, h => by rw [PV.isd] at h; rw [PV.dat, PyData.depth, PV.dep, dats_dep xs h]
  | .lst xs, h => by rw [PV.isd] at h; rw [PV.dat, PyData.depth, PV.dep, dats_dep xs h]
  | .dic _ _, h => by rw [PV.isd] at h; cases h
  | .scr _, h => by rw [PV.isd] at h; cases h
  | .opq _, h => by rw [PV.isd] at h; cases h
theorem dats_dep : ∀ ps : List PV, PV.isds ps = true → PyData.depthAll (PV.dats ps) = PV.deps ps
  | [], _ => by rw [PV.dats, PyData.depthAll, PV.deps]
  | x :: xs, h => by
    rw [PV.isds, Bool.and_eq_true] at h
    rw [PV.dats, PyData.depthAll, PV.deps, dat_dep x h.1, dats_dep xs h.2]
end
theorem str_beq (s t : Tx) : (mkS s == mkS t) = decide (s = t) := by
  by_cases e : s = t
  · subst e; simp
  · rw [decide_eq_false e]
    exact beq_eq_false_iff_ne.mpr fun h => e (mkS_inj h)
mutual
theorem dat_eqv : ∀ p q : PV, p.isd = true → q.isd = true → PyData.eqv p.dat q.dat = PV.eqv p q
  | .non, q, _, h => by cases q <;> first | (simp only [PV.dat, PyData.eqv, PV.eqv]; done) | (rw [PV.isd] at h; cases h)
  | .bl _, q, _, h => by cases q <;> first | (simp only [PV.dat, PyData.eqv, PV.eqv]; done) | (rw [PV.isd] at h; cases h)
  | .int _, q, _, h => by cases q <;> first | (simp only [PV.dat, PyData.eqv, PV.eqv]; done) | (rw [PV.isd] at h; cases h)
  | .str _, q, _, h => by cases q <;> first | (simp only [PV.dat, PyData.eqv, PV.eqv, str_beq]; done) | (rw [PV.isd] at h; cases h)
  | .tup xs, q, h0, h => by
    cases q with
    | tup ys =>
      rw [PV.isd] at h h0
      simp only [PV.dat, PyData.eqv, PV.eqv]
      exact dats_eqv xs ys h0 h
    | _ => first | (simp only [PV.dat, PyData.eqv, PV.eqv]; done) | (rw [PV.isd] at h; cases h)
  | .lst xs, q, h0, h => by
    cases q with
    | lst ys =>
      rw [PV.isd] at h h0
      simp only [PV.dat, PyData.eqv, PV.eqv]
      exact dats_eqv xs ys h0 h
    | _ => first | (simp only [PV.dat, PyData.eqv, PV.eqv]; done) | (rw [PV.isd] at h; cases h)
  | .dic _ _, _, h, _ => by rw [PV.isd] at h; cases h
  | .scr _, _, h, _ => by rw [PV.isd] at h; cases h
  | .opq _, _, h, _ => by rw [PV.isd] at h; cases h
theorem dats_eqv : ∀ ps qs : List PV, PV.isds ps = true → PV.isds qs = true → PyData.eqvAll (PV.dats ps) (PV.dats qs) = PV.eqvs ps qs
  | [], qs, _, h => by cases qs <;> simp only [PV.dats, PyData.eqvAll, PV.eqvs]
  | x :: xs, qs, h0, h => by
    cases qs with
    | nil => simp only [PV.dats, PyData.eqvAll, PV.eqvs]
    | cons y ys =>
      rw [PV.isds, Bool.and_eq_true] at h h0
      simp only [PV.dats, PyData.eqvAll, PV.eqvs]
      rw [dat_eqv x y h0.1 h.1, dats_eqv xs ys h0.2 h.2]
end
mutual
theorem dp_of {K : PySem.W.Frag} {F : Hp} : ∀ (p : PV) (v : V), p.isd = true → RepF K F p v → Dp K F v p.dat
  | .non, v, _, h => by rw [RepF] at h; subst h; rw [PV.dat]; exact .non
  | .bl b, v, _, h => by rw [RepF] at h; subst h; rw [PV.dat]; exact .bl b
  | .int i, v, _, h => by rw [RepF] at h; subst h; rw [PV.dat]; exact .int i
  | .str s, v, _, h => by rw [RepF] at h; subst h; rw [PV.dat]; exact .str _
  | .tup xs, v, h0, h => by
    rw [RepF] at h
    rw [PV.isd] at h0
    obtain ⟨a, vs, rfl, e2, e3⟩ := h
    rw [PV.dat]
    exact .tup e2 (dps_of xs vs h0 e3)
  | .lst xs, v, h0, h => by
    rw [RepF] at h
    rw [PV.isd] at h0
    obtain ⟨a, vs, rfl, e2, e3⟩ := h
    rw [PV.dat]
    exact .lst (SqL.of e2) (dps_of xs vs h0 e3)
  | .dic _ _, _, h, _ => by rw [PV.isd] at h; cases h
  | .scr _, _, h, _ => by rw [PV.isd] at h; cases h
  | .opq _, _, h, _ => by rw [PV.isd] at h; cases h
theorem dps_of {K : PySem.W.Frag} {F : Hp} : ∀ (ps : List PV) (vs : List V), PV.isds ps = true → RepFs K F ps vs → DpAll K F vs (PV.dats ps)
  | [], vs, _, h => by rw [RepFs] at h; subst h; rw [PV.dats]; exact .nil
  | x :: xs, vs, h0, h => by
    rw [RepFs] at h
    rw [PV.isds, Bool.and_eq_true] at h0
    obtain ⟨v, r, rfl, e2, e3⟩ := h
    rw [PV.dats]
    exact .cons (dp_of x v h0.1 e2) (dps_of xs r h0.2 e3)
end
theorem shp_shaped {p : PV} (h : p.shp = true) : p.isd = true ∧ SeqAt.shaped p.dat = true := by
  unfold PV.shp at h
  rw [Bool.and_eq_true] at h
  have hi := chk_isd p h.1
  refine ⟨hi, ?_⟩
  unfold SeqAt.shaped
  rw [dat_lay p h.1, dat_dep p hi, h.2]
  rfl

/-! ### operators as plain functions -/
/-- the scalars that == tells apart without looking at signs -/
def PV.sc : PV → PV → Option Bool
  | .non, q => (match q with | .non => some true | .int _ => some false | .bl _ => some false | .str _ => some false | _ => none)
  | .int i, q => (match q with | .int j => some (decide (i = j)) | .non => some false | .str _ => some false | _ => none)
  | .bl i, q => (match q with | .bl j => some (decide (i = j)) | .non => some false | .str _ => some false | _ => none)
  | .str s, q => (match q with | .str t => some (decide (s = t)) | .non => some false | .int _ => some false | .bl _ => some false | _ => none)
  | _, _ => none
def pyEq (p q : PV) : Option Bool := match PV.sc p q with
  | some b => some b
  | none => if p.shp && q.shp then some (PV.eqv p q) else none
def pEq (p q : PV) : Option PV := (pyEq p q).map .bl
def pNe (p q : PV) : Option PV := (pyEq p q).map fun b => .bl (!b)
def POp (K : PySem.W.Frag) (r : R2) (op : PV → PV → Option PV) : Prop :=
  ∀ p q z x y, op p q = some z → ∀ (B : Hp) (W : WX), RepF K B p x → RepF K B q y → Ev K B (fr (RepF K)) W (fun _ H Q => r x y H Q) (SE.ret z)
def eOp (op : PV → PV → Option PV) (a b : SE PV) : SE PV := a.bind fun p => b.bind fun q => ofO (op p q)
section
variable {K : PySem.W.Frag} {W : WX} {ta tb : TE} {sa sb : SE PV} {B : Hp}
theorem ev_op {r : R2} {op : PV → PV → Option PV} (ho : POp K r op) (ha : Ev K B (fr (RepF K)) W ta sa) (hb : Ev K B (fr (RepF K)) W tb sb) : Ev K B (fr (RepF K)) W (tOp r ta tb) (eOp op sa sb) :=
  ha.bind fun p x B1 s1 hp => (hb.le s1).bind fun q y B2 s2 hq => Ev.ofO fun z hz => ho p q z x y hz B2 W (RepF.mono s2 _ _ hp) hq
/-- the value is there as it is -/
theorem ev_now {r : Hp → VK → Prop} {p : PV} {v : V} (hv : RepF K B p v) (h : ∀ F H, Same B F → Same F H → ∀ Q : VK, Q v H → r H Q) : Ev K B (fr (RepF K)) W (fun _ H Q => r H Q) (SE.ret p) := by
  intro ρ σ F H A sB st Q nb hok hex
  exact h F H sB st.sub Q (hok p ρ rfl v F H A [] st ⟨rfl, RepF.mono sB _ _ hv⟩ (by simpa using st.nod) (by simp) (by simpa using Go.refl F H A))
/-- a new object -/
theorem ev_new {r : Hp → VK → Prop} {p : PV} {o : HO} (hv : ∀ a F', Same B F' → F' a = some o → RepF K F' p (.ref a)) (h : ∀ F H, Same B F → Same F H → ∀ Q : VK, (∀ a, H a = none → Q (.ref a) (upd H a o)) → r H Q) : Ev K B (fr (RepF K)) W (fun _ H Q => r H Q) (SE.ret p) :=
  fun ρ σ F H A sB st Q nb hok hex => h F H sB st.sub Q (Ev.newF (W := W) hv ρ σ F H A sB st Q nb hok hex)
theorem ev_newM {r : Hp → VK → Prop} {m : MV} {o : HO} (hv : ∀ a F' H', Same B F' → H' a = some o → RepM K F' H' m (.ref a) [a]) (h : ∀ F H, Same B F → Same F H → ∀ Q : VK, (∀ a, H a = none → Q (.ref a) (upd H a o)) → r H Q) : Ev K B (RepM K) W (fun _ H Q => r H Q) (SE.ret m) :=
  fun ρ σ F H A sB st Q nb hok hex => h F H sB st.sub Q (Ev.newM (W := W) hv ρ σ F H A sB st Q nb hok hex)
theorem rep_tup {F : Hp} {a : Addr} {ps : List PV} {vs : List V} (e : F a = some (.tup vs)) (h : RepFs K F ps vs) : RepF K F (.tup ps) (.ref a) := by
  rw [RepF]
  exact ⟨a, vs, rfl, SqT.of e, h⟩
theorem rep_lst {F : Hp} {a : Addr} {ps : List PV} {vs : List V} (e : F a = some (.lst vs)) (h : RepFs K F ps vs) : RepF K F (.lst ps) (.ref a) := by
  rw [RepF]
  exact ⟨a, vs, rfl, e, h⟩
theorem rep_ml {F H : Hp} {a : Addr} {ps : List PV} {vs : List V} (e : H a = some (.lst vs)) (h : RepFs K F ps vs) : RepM K F H (.ml (ps.map .fz)) (.ref a) [a] := by
  rw [RepM]
  exact ⟨a, vs, [], rfl, e, rfl, RepMs.fz h⟩
end

/-! ### == and != -/
def rEqA (K : PySem.W.Frag) : R2 := fun x y H Q => rEq x y H Q ∨ rEqD K x y H Q
def rNeA (K : PySem.W.Frag) : R2 := fun x y H Q => rNe x y H Q ∨ rNeD K x y H Q
theorem sc_scal {K : PySem.W.Frag} {F : Hp} {p q : PV} {x y : V} {b : Bool} (h : PV.sc p q = some b) (hp : RepF K F p x) (hq : RepF K F q y) : scal x y = true ∧ decide (x = y) = b := by
  cases p <;> cases q <;> first
    | exact nomatch (show (none : Option Bool) = some b from h)
    | (simp only [RepF] at hp hq
       subst hp hq
       have e := Option.some.inj h
       subst e
       refine ⟨rfl, ?_⟩
       first
         | rfl
         | (simp; done)
         | exact decide_eq_decide.mpr ⟨fun e => mkS_inj (V.str.inj e), fun e => by rw [e]⟩)
theorem pop_eq {K : PySem.W.Frag} : POp K (rEqA K) pEq := by
  intro p q z x y hz B W hp hq
  unfold pEq pyEq at hz
  cases e : PV.sc p q with
  | some b =>
    rw [e] at hz
    cases hz
    obtain ⟨h1, h2⟩ := sc_scal e hp hq
    exact ev_now (v := .bl b) (by rw [RepF]) fun F H _ _ Q q => .inl ⟨h1, by rw [h2]; exact q⟩
  | none =>
    rw [e] at hz
    by_cases hs : (p.shp && q.shp) = true
    · rw [if_pos hs] at hz
      cases hz
      rw [Bool.and_eq_true] at hs
      obtain ⟨i1, s1⟩ := shp_shaped hs.1
      obtain ⟨i2, s2⟩ := shp_shaped hs.2
      refine ev_now (v := .bl _) (by rw [RepF]) fun F H sB sF Q k => .inr ⟨p.dat, q.dat, dp_of _ _ i1 (RepF.mono (sB.trans sF) _ _ hp), dp_of _ _ i2 (RepF.mono (sB.trans sF) _ _ hq), s1, s2, ?_⟩
      rw [dat_eqv p q i1 i2]
      exact k
    · rw [if_neg hs] at hz
      cases hz
theorem pop_ne {K : PySem.W.Frag} : POp K (rNeA K) pNe := by
  intro p q z x y hz B W hp hq
  unfold pNe pyEq at hz
  cases e : PV.sc p q with
  | some b =>
    rw [e] at hz
    cases hz
    obtain ⟨h1, h2⟩ := sc_scal e hp hq
    exact ev_now (v := .bl (!b)) (by rw [RepF]) fun F H _ _ Q q => .inl ⟨h1, by rw [h2]; exact q⟩
  | none =>
    rw [e] at hz
    by_cases hs : (p.shp && q.shp) = true
    · rw [if_pos hs] at hz
      cases hz
      rw [Bool.and_eq_true] at hs
      obtain ⟨i1, s1⟩ := shp_shaped hs.1
      obtain ⟨i2, s2⟩ := shp_shaped hs.2
      refine ev_now (v := .bl _) (by rw [RepF]) fun F H sB sF Q k => .inr ⟨p.dat, q.dat, dp_of _ _ i1 (RepF.mono (sB.trans sF) _ _ hp), dp_of _ _ i2 (RepF.mono (sB.trans sF) _ _ hq), s1, s2, ?_⟩
      rw [dat_eqv p q i1 i2]
      exact k
    · rw [if_neg hs] at hz
      cases hz

/-! ### + - * // % ** -/
def pAdd (p q : PV) : Option PV := match p with
  | .int i => (match q with | .int j => some (.int (i + j)) | _ => none)
  | .str s => (match q with | .str t => if s.length + t.length ≤ 16777216 then some (.str (s ++ t)) else none | _ => none)
  | .lst xs => (match q with | .lst ys => if xs.length + ys.length ≤ 16777216 then some (.lst (xs ++ ys)) else none | _ => none)
  | .tup xs => (match q with | .tup ys => if xs.length + ys.length ≤ 16777216 then some (.tup (xs ++ ys)) else none | _ => none)
  | _ => none
abbrev rAddS : R2 := fun x y H Q => ∃ i j, x = .str i ∧ y = .str j ∧ i.length + j.length ≤ sizeLine ∧ Q (.str (i ++ j)) H
def rAddA (K : PySem.W.Frag) : R2 := fun x y H Q => rI0 (fun i j => .int (i + j)) x y H Q ∨ rAddS x y H Q ∨ rCat x y H Q ∨ rCatA K x y H Q
theorem line_eq : (sizeLine : Nat) = 16777216 := sizeLine_eq
theorem mkS_app (s t : Tx) : mkS s ++ mkS t = mkS (s ++ t) := by
  apply TL.ext_tl
  rw [TL.tl_append]
  rfl
theorem pop_add {K : PySem.W.Frag} : POp K (rAddA K) pAdd := by
  intro p q z x y hz B W hp hq
  unfold pAdd at hz
  cases p with
  | int i =>
    cases q with
    | int j =>
      cases hz
      rw [RepF] at hp hq
      exact ev_now (v := .int (i + j)) (by rw [RepF]) fun F H _ _ Q k => .inl ⟨i, j, hp, hq, k⟩
    | _ => cases hz
  | str s =>
    cases q with
    | str t =>
      dsimp only at hz
      split at hz
      · rename_i hl
        cases hz
        rw [RepF] at hp hq
        refine ev_now (v := .str (mkS (s ++ t))) (by rw [RepF]) fun F H _ _ Q k => .inr (.inl ⟨mkS s, mkS t, hp, hq, by rw [mkS_len, mkS_len, line_eq]; exact hl, ?_⟩)
        rw [mkS_app]
        exact k
      · cases hz
    | _ => cases hz
  | lst xs =>
    cases q with
    | lst ys =>
      dsimp only at hz
      split at hz
      · rename_i hl
        cases hz
        rw [RepF] at hp hq
        obtain ⟨a, vs, e1, e2, e3⟩ := hp
        obtain ⟨b, ws, f1, f2, f3⟩ := hq
        refine ev_new (o := .lst (vs ++ ws)) (fun c F' s h => rep_lst h (RepFs.append (RepFs.mono s _ _ e3) (RepFs.mono s _ _ f3))) fun F H sB sF Q k => .inr (.inr (.inl ⟨a, b, vs, ws, e1, f1, sF _ _ (sB _ _ e2), sF _ _ (sB _ _ f2), by rw [e3.length, f3.length, line_eq]; exact hl, k⟩))
      · cases hz
    | _ => cases hz
  | tup xs =>
    cases q with
    | tup ys =>
      dsimp only at hz
      split at hz
      · rename_i hl
        cases hz
        rw [RepF] at hp hq
        obtain ⟨a, vs, e1, e2, e3⟩ := hp
        obtain ⟨b, ws, f1, f2, f3⟩ := hq
        intro ρ σ F H A sB st Q nb hok hex
        refine .inr (.inr (.inr ⟨a, b, vs, ws, e1, f1, same_t (sB.trans st.sub) e2, same_t (sB.trans st.sub) f2, by rw [e3.length, f3.length, line_eq]; exact hl, fun hv => ?_, fun hv hw => ?_, fun hv hw => ?_⟩))
        · subst hv
          have hx : xs = [] := List.length_eq_zero_iff.mp e3.length.symm
          subst hx
          exact hok _ ρ rfl (.ref b) F H A [] st ⟨rfl, by rw [RepF]; exact ⟨b, ws, rfl, same_t sB f2, by simpa using RepFs.mono sB _ _ f3⟩⟩ (by simpa using st.nod) (by simp) (by simpa using Go.refl F H A)
        · subst hw
          have hy : ys = [] := List.length_eq_zero_iff.mp f3.length.symm
          subst hy
          exact hok _ ρ rfl (.ref a) F H A [] st ⟨rfl, by rw [RepF]; exact ⟨a, vs, rfl, same_t sB e2, by simpa using RepFs.mono sB _ _ e3⟩⟩ (by simpa using st.nod) (by simp) (by simpa using Go.refl F H A)
        · exact Ev.newF (W := W) (o := .tup (vs ++ ws)) (B := B) (p := .tup (xs ++ ys)) (fun c F' s h => rep_tup h (RepFs.append (RepFs.mono s _ _ e3) (RepFs.mono s _ _ f3))) ρ σ F H A sB st Q nb hok hex
      · cases hz
    | _ => cases hz
  | _ => cases hz
def pSub (p q : PV) : Option PV := match p with
  | .int i => (match q with | .int j => some (.int (i - j)) | _ => none)
  | _ => none
theorem pop_sub {K : PySem.W.Frag} : POp K (rI0 fun i j => .int (i - j)) pSub := by
  intro p q z x y hz B W hp hq
  unfold pSub at hz
  cases p with
  | int i =>
    cases q with
    | int j =>
      cases hz
      rw [RepF] at hp hq
      exact ev_now (v := .int (i - j)) (by rw [RepF]) fun F H _ _ Q k => ⟨i, j, hp, hq, k⟩
    | _ => cases hz
  | _ => cases hz
instance (i j : Int) : Decidable (CMul i j) := by unfold CMul; infer_instance
instance (i j : Int) : Decidable (CPow i j) := by unfold CPow; infer_instance
/-- a text, a list, a tuple so many times -/
def pMul (p q : PV) : Option PV := match p with
  | .int i => (match q with | .int j => if CMul i j then some (.int (i * j)) else none | _ => none)
  | .str s => (match q with | .int k => if s.length * k.toNat ≤ 16777216 ∧ -1000000000 ≤ k ∧ k ≤ 1000000000 then some (.str (List.replicate k.toNat s).flatten) else none | _ => none)
  | .lst xs => (match q with | .int k => if xs.length * k.toNat ≤ 16777216 ∧ -1000000000 ≤ k ∧ k ≤ 1000000000 then some (.lst (List.replicate k.toNat xs).flatten) else none | _ => none)
  | _ => none
def rMulS : R2 := fun x y H Q => ∃ z k, x = .str z ∧ y = .int k ∧ z.length * k.toNat ≤ sizeLine ∧ -1000000000 ≤ k ∧ k ≤ 1000000000 ∧ Q (.str (mkS (List.replicate k.toNat z.cps.toList).flatten)) H
theorem foldl_rep_toList (x : Array Nat) : ∀ (n : Nat) (acc : Array Nat), ((List.replicate n x).foldl (· ++ ·) acc).toList = acc.toList ++ (List.replicate n x.toList).flatten
  | 0, acc => by simp
  | n + 1, acc => by
    rw [List.replicate_succ, List.foldl_cons, foldl_rep_toList x n (acc ++ x), List.replicate_succ, List.flatten_cons, Array.toList_append, List.append_assoc]
theorem op_mulS {X : Cx} : OpR X (binaryOp .Mult) rMulS := by
  intro pins s σ H x y v u Q I rx ry h
  obtain ⟨z, k, rfl, rfl, hz, h1, h2, q⟩ := h
  obtain ⟨t, rfl⟩ := rx
  obtain ⟨t', rfl⟩ := ry
  have hl := line_eq
  have ev : (if k < 1 then Made.str Str.empty else if (k == 1 || z.length == 0) = true then Made.val (.str z t) else Made.str ⟨(List.replicate k.toNat z.cps).foldl (· ++ ·) #[]⟩).post (EP X pins σ Q) s := by
    by_cases k1 : k < 1
    · rw [if_pos k1]
      have e0 : k.toNat = 0 := by omega
      rw [e0] at q
      exact ⟨by decide, ⟨.str Str.empty, H, I.tok _, ⟨_, rfl⟩, q⟩⟩
    · rw [if_neg k1]
      by_cases k2 : (k == 1 || z.length == 0) = true
      · rw [if_pos k2]
        have ez : mkS (List.replicate k.toNat z.cps.toList).flatten = z := by
          rcases Bool.or_eq_true_iff.mp k2 with k3 | k3
          · have : k = 1 := by simpa using k3
            subst this
            apply TL.ext_tl
            show (List.replicate 1 z.cps.toList).flatten = z.cps.toList
            simp
          · have k4 : z.length = 0 := by simpa using k3
            have k5 : z.cps.toList = [] := by
              have : z.cps.toList.length = 0 := by simpa [Str.length] using k4
              exact List.length_eq_zero_iff.mp this
            apply TL.ext_tl
            show (List.replicate k.toNat z.cps.toList).flatten = z.cps.toList
            rw [k5]
            simp
        rw [ez] at q
        exact ⟨.str z, H, I, ⟨t, rfl⟩, q⟩
      · rw [if_neg k2]
        have ee : (⟨(List.replicate k.toNat z.cps).foldl (· ++ ·) #[]⟩ : Str) = mkS (List.replicate k.toNat z.cps.toList).flatten := by
          apply TL.ext_tl
          show ((List.replicate k.toNat z.cps).foldl (· ++ ·) #[]).toList = _
          rw [foldl_rep_toList]
          rfl
        rw [ee]
        refine ⟨?_, ⟨.str _, H, I.tok _, ⟨_, rfl⟩, q⟩⟩
        rw [mkS_len]
        simp only [List.length_flatten, List.map_replicate, List.sum_replicate_nat]
        have : z.cps.toList.length = z.length := by simp [Str.length]
        rw [this, Nat.mul_comm]
        omega
  refine P.mul_str (by
    rw [Bool.or_eq_false_iff]
    exact ⟨decide_eq_false (by omega), decide_eq_false (by omega)⟩) (fun hk1 _ hgt => ?_) (fun hk1 _ => ?_) ev
  · have h3 : (16777216 : Int) ≤ (2 ^ 63 - 1) / k := (Int.le_ediv_iff_mul_le (by omega)).mpr (by omega)
    have h4 : z.length ≤ z.length * k.toNat := Nat.le_mul_of_pos_right _ (by omega)
    omega
  · have : (z.length * k.toNat) ≤ sizeLine := hz
    first | exact decide_eq_false (by omega) | (unfold tooLong; exact decide_eq_false (by omega))
end Mv

set_option Elab.async false
set_option linter.all false
set_option maxRecDepth 100000
set_option maxHeartbeats 4000000
namespace Mv
open PySem PySem.Spec PyProof.Rows L2

theorem repI {K : PySem.W.Frag} {F : Hp} {i : Int} {v : V} : RepF K F (.int i) v ↔ v = .int i := by rw [RepF]
theorem repB {K : PySem.W.Frag} {F : Hp} {b : Bool} {v : V} : RepF K F (.bl b) v ↔ v = .bl b := by rw [RepF]
theorem repS {K : PySem.W.Frag} {F : Hp} {s : Tx} {v : V} : RepF K F (.str s) v ↔ v = .str (mkS s) := by rw [RepF]
theorem repN {K : PySem.W.Frag} {F : Hp} {v : V} : RepF K F .non v ↔ v = .non := by rw [RepF]
theorem repFs1 {K : PySem.W.Frag} {F : Hp} {p : PV} {vs : List V} (h : RepFs K F [p] vs) : ∃ v, vs = [v] ∧ RepF K F p v := by
  rw [RepFs] at h
  obtain ⟨v, r, e1, e2, e3⟩ := h
  rw [RepFs] at e3
  subst e3
  exact ⟨v, e1, e2⟩
theorem repFs2 {K : PySem.W.Frag} {F : Hp} {p q : PV} {vs : List V} (h : RepFs K F [p, q] vs) : ∃ v w, vs = [v, w] ∧ RepF K F p v ∧ RepF K F q w := by
  rw [RepFs] at h
  obtain ⟨v, r, e1, e2, e3⟩ := h
  obtain ⟨w, f1, f2⟩ := repFs1 e3
  subst f1
  exact ⟨v, w, e1, e2, f2⟩

/-! ### numbers -/
def rMulA : R2 := fun x y H Q => rI CMul (fun i j => .int (i * j)) x y H Q ∨ rMulS x y H Q ∨ rRep x y H Q
theorem pop_mul {K : PySem.W.Frag} : POp K rMulA pMul := by
  intro p q z x y hz B W hp hq
  unfold pMul at hz
  cases p with
  | int i =>
    cases q with
    | int j =>
      dsimp only at hz
      split at hz
      · rename_i hl
        cases hz
        exact ev_now (v := .int (i * j)) (repI.mpr rfl) fun F H _ _ Q k => .inl ⟨i, j, repI.mp hp, repI.mp hq, hl, k⟩
      · cases hz
    | _ => cases hz
  | str s =>
    cases q with
    | int k =>
      dsimp only at hz
      split at hz
      · rename_i hl
        cases hz
        exact ev_now (v := .str (mkS _)) (repS.mpr rfl) fun F H _ _ Q q => .inr (.inl ⟨mkS s, k, repS.mp hp, repI.mp hq, by rw [mkS_len, line_eq]; exact hl.1, hl.2.1, hl.2.2, q⟩)
      · cases hz
    | _ => cases hz
  | lst xs =>
    cases q with
    | int k =>
      dsimp only at hz
      split at hz
      · rename_i hl
        cases hz
        rw [RepF] at hp
        obtain ⟨a, vs, e1, e2, e3⟩ := hp
        have hr : ∀ F' : Hp, Same B F' → ∀ n : Nat, RepFs K F' (List.replicate n xs).flatten (List.replicate n vs).flatten := fun F' s n => by
          induction n with
          | zero => rw [List.replicate_zero, List.replicate_zero]; simp [RepFs]
          | succ n ih =>
            rw [List.replicate_succ, List.replicate_succ, List.flatten_cons, List.flatten_cons]
            exact RepFs.append (RepFs.mono s _ _ e3) ih
        exact ev_new (o := .lst (List.replicate k.toNat vs).flatten) (fun c F' s h => rep_lst h (hr F' s _)) fun F H sB sF Q q => .inr (.inr ⟨a, k, vs, e1, repI.mp hq, sF _ _ (sB _ _ e2), by omega, by omega, by rw [e3.length, line_eq]; exact hl.1, q⟩)
      · cases hz
    | _ => cases hz
  | _ => cases hz
def pMod (p q : PV) : Option PV := match p with
  | .int i => (match q with | .int j => if 0 < j then some (.int (i % j)) else none | _ => none)
  | _ => none
theorem pop_mod {K : PySem.W.Frag} : POp K (rI (fun _ j => 0 < j) fun i j => .int (i % j)) pMod := by
  intro p q z x y hz B W hp hq
  unfold pMod at hz
  cases p with
  | int i =>
    cases q with
    | int j =>
      dsimp only at hz
      split at hz
      · rename_i hl
        cases hz
        exact ev_now (v := .int (i % j)) (repI.mpr rfl) fun F H _ _ Q k => ⟨i, j, repI.mp hp, repI.mp hq, hl, k⟩
      · cases hz
    | _ => cases hz
  | _ => cases hz
instance (i j : Int) : Decidable (CDiv i j) := by unfold CDiv; infer_instance
def pFdiv (p q : PV) : Option PV := match p with
  | .int i => (match q with | .int j => if CDiv i j then some (.int (i / j)) else none | _ => none)
  | _ => none
theorem pop_fdiv {K : PySem.W.Frag} : POp K (rI CDiv fun i j => .int (i / j)) pFdiv := by
  intro p q z x y hz B W hp hq
  unfold pFdiv at hz
  cases p with
  | int i =>
    cases q with
    | int j =>
      dsimp only at hz
      split at hz
      · rename_i hl
        cases hz
        exact ev_now (v := .int (i / j)) (repI.mpr rfl) fun F H _ _ Q k => ⟨i, j, repI.mp hp, repI.mp hq, hl, k⟩
      · cases hz
    | _ => cases hz
  | _ => cases hz
def pPow (p q : PV) : Option PV := match p with
  | .int i => (match q with | .int j => if CPow i j then some (.int (i ^ j.toNat)) else none | _ => none)
  | _ => none
theorem pop_pow {K : PySem.W.Frag} : POp K (rI CPow fun i j => .int (i ^ j.toNat)) pPow := by
  intro p q z x y hz B W hp hq
  unfold pPow at hz
  cases p with
  | int i =>
    cases q with
    | int j =>
      dsimp only at hz
      split at hz
      · rename_i hl
        cases hz
        exact ev_now (v := .int (i ^ j.toNat)) (repI.mpr rfl) fun F H _ _ Q k => ⟨i, j, repI.mp hp, repI.mp hq, hl, k⟩
      · cases hz
    | _ => cases hz
  | _ => cases hz

/-! ### < <= > >= -/
def pCmp (f : Int → Int → Bool) (g : Tx → Tx → Bool) (p q : PV) : Option PV := match p with
  | .int i => (match q with | .int j => some (.bl (f i j)) | _ => none)
  | .str s => (match q with | .str t => some (.bl (g s t)) | _ => none)
  | _ => none
abbrev pLt := pCmp (fun i j => decide (i < j)) fun s t => decide (s < t)
abbrev pLe := pCmp (fun i j => decide (i ≤ j)) fun s t => !decide (t < s)
abbrev pGt := pCmp (fun i j => decide (j < i)) fun s t => decide (t < s)
abbrev pGe := pCmp (fun i j => decide (j ≤ i)) fun s t => !decide (s < t)
def rCmpA (f : Int → Int → Bool) (g : Tx → Tx → Bool) : R2 := fun x y H Q => rI0 (fun i j => .bl (f i j)) x y H Q ∨ ∃ i j, x = .str i ∧ y = .str j ∧ Q (.bl (g i.cps.toList j.cps.toList)) H
theorem pop_cmp {K : PySem.W.Frag} {f : Int → Int → Bool} {g : Tx → Tx → Bool} : POp K (rCmpA f g) (pCmp f g) := by
  intro p q z x y hz B W hp hq
  unfold pCmp at hz
  cases p with
  | int i =>
    cases q with
    | int j =>
      cases hz
      exact ev_now (v := .bl (f i j)) (repB.mpr rfl) fun F H _ _ Q k => .inl ⟨i, j, repI.mp hp, repI.mp hq, k⟩
    | _ => cases hz
  | str i =>
    cases q with
    | str j =>
      cases hz
      exact ev_now (v := .bl (g i j)) (repB.mpr rfl) fun F H _ _ Q k => .inr ⟨mkS i, mkS j, repS.mp hp, repS.mp hq, k⟩
    | _ => cases hz
  | _ => cases hz
section
variable {X : Cx}
theorem op_ltA : OpR X (compareOp .Lt) (rCmpA (fun i j => decide (i < j)) fun s t => decide (s < t)) := op_lt.or op_lt_str
theorem op_leA : OpR X (compareOp .LtE) (rCmpA (fun i j => decide (i ≤ j)) fun s t => !decide (t < s)) := op_le.or op_le_str
theorem op_gtA : OpR X (compareOp .Gt) (rCmpA (fun i j => decide (j < i)) fun s t => decide (t < s)) := op_gt.or op_gt_str
theorem op_geA : OpR X (compareOp .GtE) (rCmpA (fun i j => decide (j ≤ i)) fun s t => !decide (s < t)) := op_ge.or op_ge_str
theorem op_addA : OpR X (binaryOp .Add) (rAddA X.K) := op_add.or (op_add_str.or (op_cat.or op_catA))
theorem op_mulA : OpR X (binaryOp .Mult) rMulA := op_mul.or (op_mulS.or op_rep)
theorem op_eqA (hr : ∃ k, Room k X.A) : OpR X (compareOp .Eq) (rEqA X.K) := op_eq.or (op_eqD (let ⟨_, r⟩ := hr; r.units))
theorem op_neA (hr : ∃ k, Room k X.A) : OpR X (compareOp .NotEq) (rNeA X.K) := op_ne.or (op_neD (let ⟨_, r⟩ := hr; r.units))
end
/-! ### is -/
def PV.nonQ : PV → Bool
  | .non => true
  | _ => false
def pIsN (p q : PV) : Option PV := match q with
  | .non => some (.bl p.nonQ)
  | .bl b => (match p with | .bl a => some (.bl (decide (a = b))) | _ => none)
  | _ => none
def pNotN (p q : PV) : Option PV := match q with
  | .non => some (.bl (!p.nonQ))
  | .bl b => (match p with | .bl a => some (.bl (!decide (a = b))) | _ => none)
  | _ => none
theorem nonQ_of {K : PySem.W.Frag} {F : Hp} {p : PV} {v : V} (h : RepF K F p v) (ho : ∀ u, p ≠ .opq u) : decide (v = .non) = p.nonQ := by
  cases p with
  | non => rw [repN.mp h]; rfl
  | bl b => rw [repB.mp h]; rfl
  | int i => rw [repI.mp h]; rfl
  | str s => rw [repS.mp h]; rfl
  | tup xs => rw [RepF] at h; obtain ⟨a, vs, rfl, _⟩ := h; rfl
  | lst xs => rw [RepF] at h; obtain ⟨a, vs, rfl, _⟩ := h; rfl
  | dic ks xs => rw [RepF] at h; obtain ⟨a, vs, rfl, _⟩ := h; rfl
  | scr xs => rw [RepF] at h; obtain ⟨a, rfl, _⟩ := h; rfl
  | opq u => exact absurd rfl (ho u)
def rIsA : R2 := fun x y H Q => (y = .non ∧ Q (.bl (decide (x = .non))) H) ∨ ∃ a b, x = .bl a ∧ y = .bl b ∧ Q (.bl (decide (a = b))) H
def rNotA : R2 := fun x y H Q => (y = .non ∧ Q (.bl (!decide (x = .non))) H) ∨ ∃ a b, x = .bl a ∧ y = .bl b ∧ Q (.bl (!decide (a = b))) H
theorem op_isA {X : Cx} : OpR X (compareOp .Is) rIsA := op_isN.or op_is_bl
theorem op_notA {X : Cx} : OpR X (compareOp .IsNot) rNotA := op_notN.or op_isnot_bl
def noOpq (f : PV → PV → Option PV) (p q : PV) : Option PV := match p with
  | .opq _ => none
  | p => f p q
theorem noOpq_some {f : PV → PV → Option PV} {p q z : PV} (h : noOpq f p q = some z) : f p q = some z ∧ ∀ u, p ≠ .opq u := by
  cases p <;> first
    | exact nomatch (show (none : Option PV) = some z from h)
    | exact ⟨h, fun u e => nomatch e⟩
theorem pop_is {K : PySem.W.Frag} : POp K rIsA (noOpq pIsN) := by
  intro p q z x y hz B W hp hq
  obtain ⟨hz, ho⟩ := noOpq_some hz
  unfold pIsN at hz
  cases q with
  | non =>
    cases hz
    exact ev_now (v := .bl _) (repB.mpr rfl) fun F H _ _ Q k => .inl ⟨repN.mp hq, by rw [nonQ_of hp ho]; exact k⟩
  | bl b =>
    cases p with
    | bl a =>
      cases hz
      exact ev_now (v := .bl _) (repB.mpr rfl) fun F H _ _ Q k => .inr ⟨a, b, repB.mp hp, repB.mp hq, k⟩
    | _ => cases hz
  | _ => cases hz
theorem pop_not {K : PySem.W.Frag} : POp K rNotA (noOpq pNotN) := by
  intro p q z x y hz B W hp hq
  obtain ⟨hz, ho⟩ := noOpq_some hz
  unfold pNotN at hz
  cases q with
  | non =>
    cases hz
    exact ev_now (v := .bl _) (repB.mpr rfl) fun F H _ _ Q k => .inl ⟨repN.mp hq, by rw [nonQ_of hp ho]; exact k⟩
  | bl b =>
    cases p with
    | bl a =>
      cases hz
      exact ev_now (v := .bl _) (repB.mpr rfl) fun F H _ _ Q k => .inr ⟨a, b, repB.mp hp, repB.mp hq, k⟩
    | _ => cases hz
  | _ => cases hz

/-! ### in -/
def PV.flat : PV → Bool
  | .non => true | .bl _ => true | .int _ => true | .str _ => true
  | .tup _ => false | .lst _ => false | .dic _ _ => false | .scr _ => false | .opq _ => false
def pyIn (p q : PV) : Option Bool := match q with
  | .str z => (match p with | .str [c] => some (decide (c ∈ z)) | _ => none)
  | .tup xs => if p.flat && xs.all PV.flat then some (xs.any fun y => PV.eqv y p) else none
  | .lst xs => if p.flat && xs.all PV.flat then some (xs.any fun y => PV.eqv y p) else
      if p.shp && (PV.lst xs).shp then some (xs.any fun y => PV.eqv y p) else none
  | _ => none
def pIn (p q : PV) : Option PV := (pyIn p q).map .bl
def pNotIn (p q : PV) : Option PV := (pyIn p q).map fun b => .bl (!b)
theorem flat_V {K : PySem.W.Frag} {F : Hp} {p : PV} {v : V} (h : RepF K F p v) (hf : p.flat = true) : flatV v = true := by
  cases p with
  | non => rw [repN.mp h]; rfl
  | bl b => rw [repB.mp h]; rfl
  | int i => rw [repI.mp h]; rfl
  | str s => rw [repS.mp h]; rfl
  | _ => cases hf
theorem flat_all {K : PySem.W.Frag} {F : Hp} : ∀ {ps : List PV} {vs : List V}, RepFs K F ps vs → ps.all PV.flat = true → vs.all flatV = true
  | [], vs, h, _ => by rw [RepFs] at h; subst h; rfl
  | x :: xs, vs, h, hf => by
    rw [RepFs] at h
    obtain ⟨v, r, rfl, e2, e3⟩ := h
    rw [List.all_cons, Bool.and_eq_true] at hf
    rw [List.all_cons, flat_V e2 hf.1, flat_all e3 hf.2]
    rfl
theorem eqV_of {K : PySem.W.Frag} {F : Hp} {p q : PV} {x y : V} (hp : RepF K F p x) (hq : RepF K F q y) (h1 : p.flat = true) (h2 : q.flat = true) : eqV x y = PV.eqv p q := by
  cases p <;> first
    | exact nomatch (show false = true from h1)
    | (cases q <;> first
        | exact nomatch (show false = true from h2)
        | (simp only [RepF] at hp hq
           subst hp hq
           simp only [PV.eqv, eqV]
           done)
        | (simp only [RepF] at hp hq
           subst hp hq
           simp only [PV.eqv, eqV, str_beq]))
theorem inV_of {K : PySem.W.Frag} {F : Hp} {p : PV} {x : V} (hp : RepF K F p x) (h1 : p.flat = true) : ∀ {ps : List PV} {vs : List V}, RepFs K F ps vs → ps.all PV.flat = true → inV x vs = ps.any fun y => PV.eqv y p
  | [], vs, h, _ => by rw [RepFs] at h; subst h; rfl
  | q :: ps, vs, h, hf => by
    rw [RepFs] at h
    obtain ⟨v, r, rfl, e2, e3⟩ := h
    rw [List.all_cons, Bool.and_eq_true] at hf
    have ih := inV_of hp h1 e3 hf.2
    unfold inV at ih ⊢
    rw [List.any_cons, List.any_cons, ih, eqV_of e2 hp hf.1 h1]
def rInS : R2 := fun x y H Q => ∃ (c : Nat) (z : Str), x = .str ⟨#[c]⟩ ∧ y = .str z ∧ Q (.bl (decide (c ∈ z.cps.toList))) H
def rNotInS : R2 := fun x y H Q => ∃ (c : Nat) (z : Str), x = .str ⟨#[c]⟩ ∧ y = .str z ∧ Q (.bl (!decide (c ∈ z.cps.toList))) H
def rInA (K : PySem.W.Frag) : R2 := fun x y H Q => rInS x y H Q ∨ rIn K false x y H Q ∨ rInD K x y H Q
def rNotInA (K : PySem.W.Frag) : R2 := fun x y H Q => rNotInS x y H Q ∨ rIn K true x y H Q ∨ rNotInD K x y H Q
theorem op_inA {X : Cx} (hr : ∃ k, Room k X.A) : OpR X (compareOp .In) (rInA X.K) := op_in_sign.or (op_in_seq.or (op_inD (let ⟨_, r⟩ := hr; by have := r.un; omega)))
theorem op_notInA {X : Cx} (hr : ∃ k, Room k X.A) : OpR X (compareOp .NotIn) (rNotInA X.K) := op_notIn_sign.or (op_notIn_seq.or (op_notInD (let ⟨_, r⟩ := hr; by have := r.un; omega)))
theorem dats_any {p : PV} (hp : p.isd = true) : ∀ {ps : List PV}, PV.isds ps = true → ((PV.dats ps).any fun z => PyData.eqv z p.dat) = ps.any fun y => PV.eqv y p
  | [], _ => by rw [PV.dats]; rfl
  | x :: xs, h => by
    rw [PV.isds, Bool.and_eq_true] at h
    rw [PV.dats, List.any_cons, List.any_cons, dat_eqv x p h.1 hp, dats_any hp h.2]
theorem pin_cases {K : PySem.W.Frag} {p q : PV} {b : Bool} (h : pyIn p q = some b) {B : Hp} {x y : V} (hp : RepF K B p x) (hq : RepF K B q y) :
    (∃ c z, x = .str ⟨#[c]⟩ ∧ y = .str z ∧ decide (c ∈ z.cps.toList) = b) ∨
    (∃ a xs, y = .ref a ∧ (∀ F, Same B F → SqL K F a xs ∨ SqT K F a xs) ∧ flatV x = true ∧ xs.all flatV = true ∧ inV x xs = b) ∨
    (∃ d ds, (∀ F, Same B F → Dp K F x d ∧ Dp K F y (.list ds)) ∧ SeqAt.shaped d = true ∧ SeqAt.shaped (.list ds) = true ∧ (ds.any fun z => PyData.eqv z d) = b) := by
  unfold pyIn at h
  cases q with
  | str z =>
    cases p with
    | str s =>
      match s, h with
      | [c], h =>
        cases h
        exact .inl ⟨c, mkS z, repS.mp hp, repS.mp hq, rfl⟩
    | _ => cases h
  | tup xs =>
    dsimp only at h
    split at h
    · rename_i hf
      rw [Bool.and_eq_true] at hf
      cases h
      rw [RepF] at hq
      obtain ⟨a, vs, e1, e2, e3⟩ := hq
      exact .inr (.inl ⟨a, vs, e1, fun F s => .inr (same_t s e2), flat_V hp hf.1, flat_all e3 hf.2, inV_of hp hf.1 e3 hf.2⟩)
    · cases h
  | lst xs =>
    dsimp only at h
    split at h
    · rename_i hf
      rw [Bool.and_eq_true] at hf
      cases h
      rw [RepF] at hq
      obtain ⟨a, vs, e1, e2, e3⟩ := hq
      exact .inr (.inl ⟨a, vs, e1, fun F s => .inl (SqL.of (s _ _ e2)), flat_V hp hf.1, flat_all e3 hf.2, inV_of hp hf.1 e3 hf.2⟩)
    · split at h
      · rename_i hs
        rw [Bool.and_eq_true] at hs
        cases h
        obtain ⟨i1, s1⟩ := shp_shaped hs.1
        obtain ⟨i2, s2⟩ := shp_shaped hs.2
        have e := dp_of (K := K) (F := B) (.lst xs) y i2 hq
        rw [PV.dat] at s2
        rw [PV.isd] at i2
        refine .inr (.inr ⟨p.dat, PV.dats xs, fun F s => ⟨dp_of _ _ i1 (RepF.mono s _ _ hp), ?_⟩, s1, s2, dats_any i1 i2⟩)
        have e := dp_of (K := K) (F := F) (.lst xs) y (by rw [PV.isd]; exact i2) (RepF.mono s _ _ hq)
        rw [PV.dat] at e
        exact e
      · cases h
  | _ => cases h
theorem pop_in {K : PySem.W.Frag} : POp K (rInA K) pIn := by
  intro p q z x y hz B W hp hq
  unfold pIn at hz
  cases e : pyIn p q with
  | none => rw [e] at hz; cases hz
  | some b =>
    rw [e] at hz
    cases hz
    refine ev_now (v := .bl b) (repB.mpr rfl) fun F H sB sF Q k => ?_
    rcases pin_cases e hp hq with ⟨c, z, h1, h2, h3⟩ | ⟨a, xs, h1, h2, h3, h4, h5⟩ | ⟨d, ds, h1, h2, h3, h4⟩
    · exact .inl ⟨c, z, h1, h2, by rw [h3]; exact k⟩
    · exact .inr (.inl ⟨a, xs, h1, h2 H (sB.trans sF), h3, h4, by rw [h5]; exact k⟩)
    · exact .inr (.inr ⟨d, ds, (h1 H (sB.trans sF)).1, (h1 H (sB.trans sF)).2, h2, h3, by rw [h4]; exact k⟩)
theorem pop_notIn {K : PySem.W.Frag} : POp K (rNotInA K) pNotIn := by
  intro p q z x y hz B W hp hq
  unfold pNotIn at hz
  cases e : pyIn p q with
  | none => rw [e] at hz; cases hz
  | some b =>
    rw [e] at hz
    cases hz
    refine ev_now (v := .bl (!b)) (repB.mpr rfl) fun F H sB sF Q k => ?_
    rcases pin_cases e hp hq with ⟨c, z, h1, h2, h3⟩ | ⟨a, xs, h1, h2, h3, h4, h5⟩ | ⟨d, ds, h1, h2, h3, h4⟩
    · exact .inl ⟨c, z, h1, h2, by rw [h3]; exact k⟩
    · exact .inr (.inl ⟨a, xs, h1, h2 H (sB.trans sF), h3, h4, by rw [h5]; exact k⟩)
    · exact .inr (.inr ⟨d, ds, (h1 H (sB.trans sF)).1, (h1 H (sB.trans sF)).2, h2, h3, by rw [h4]; exact k⟩)

/-! ### subscripts, slices -/
def pIx (p q : PV) : Option PV := match q with
  | .int i => (match p with
    | .tup xs => atI xs i
    | .lst xs => atI xs i
    | .scr xs => (atI xs i).map .int
    | .str s => if s.length ≤ 16777216 then (atI s i).map fun c => .str [c] else none
    | _ => none)
  | _ => none
theorem atI_rep {K : PySem.W.Frag} {F : Hp} {ps : List PV} {vs : List V} {i : Int} {p : PV} (h : RepFs K F ps vs) (hi : atI ps i = some p) : ∃ v, atI vs i = some v ∧ RepF K F p v := by
  unfold atI at hi ⊢
  rw [h.length]
  cases e : ixN ps.length i with
  | none => rw [e] at hi; cases hi
  | some j =>
    rw [e] at hi
    exact h.get hi
theorem pop_ix {K : PySem.W.Frag} : POp K (rIx K) pIx := by
  intro p q z x y hz B W hp hq
  unfold pIx at hz
  cases q with
  | int i =>
    cases p with
    | tup xs =>
      rw [RepF] at hp
      obtain ⟨a, vs, e1, e2, e3⟩ := hp
      obtain ⟨v, q1, q2⟩ := atI_rep e3 hz
      exact ev_now q2 fun F H sB sF Q k => .inr (.inl ⟨a, vs, i, v, e1, repI.mp hq, same_t (sB.trans sF) e2, q1, k⟩)
    | lst xs =>
      rw [RepF] at hp
      obtain ⟨a, vs, e1, e2, e3⟩ := hp
      obtain ⟨v, q1, q2⟩ := atI_rep e3 hz
      exact ev_now q2 fun F H sB sF Q k => .inl ⟨a, vs, i, v, e1, repI.mp hq, SqL.of (sF _ _ (sB _ _ e2)), q1, k⟩
    | scr xs =>
      rw [RepF] at hp
      obtain ⟨a, e1, e2⟩ := hp
      dsimp only at hz
      cases e : atI xs i with
      | none => rw [e] at hz; cases hz
      | some n =>
        rw [e] at hz
        cases hz
        have e3 : atI (xs.map V.int) i = some (.int n) := by
          unfold atI at e ⊢
          rw [List.length_map]
          cases e4 : ixN xs.length i with
          | none => rw [e4] at e; cases e
          | some j =>
            rw [e4] at e
            show (xs.map V.int)[j]? = _
            rw [List.getElem?_map, show xs[j]? = some n from e]
            rfl
        exact ev_now (v := .int n) (repI.mpr rfl) fun F H sB sF Q k => .inl ⟨a, _, i, .int n, e1, repI.mp hq, same_l (sB.trans sF) e2, e3, k⟩
    | str s =>
      dsimp only at hz
      split at hz
      · rename_i hl
        cases e : atI s i with
        | none => rw [e] at hz; cases hz
        | some c =>
          rw [e] at hz
          cases hz
          exact ev_now (v := .str ⟨#[c]⟩) (repS.mpr rfl) fun F H sB sF Q k => .inr (.inr ⟨mkS s, i, c, repS.mp hp, repI.mp hq, by rw [mkS_len, line_eq]; exact hl, e, k⟩)
      · cases hz
    | _ => cases hz
  | _ => cases hz
/-- lo and hi as places -/
def cutL {α : Type} (xs : List α) (lo hi : Option Int) : List α := (xs.drop (HT.sIx xs.length 0 lo)).take (HT.sIx xs.length xs.length hi - HT.sIx xs.length 0 lo)
theorem cutV_eq (xs : List V) (lo hi : Option Int) : cutV xs lo hi = cutL xs lo hi := rfl
theorem cutS_eq (s : Tx) (lo hi : Option Int) : cutS (mkS s) lo hi = mkS (cutL s lo hi) := by
  unfold cutS cutL
  rw [mkS_len]
  rfl
def pSl (p : PV) (lo hi : Option Int) : Option PV := match p with
  | .str s => if s.length ≤ 16777216 then some (.str (cutL s lo hi)) else none
  | .lst xs => some (.lst (cutL xs lo hi))
  | .tup xs => some (.tup (cutL xs lo hi))
  | _ => none
def rSlX (K : PySem.W.Frag) : V → Option Int → Option Int → Hp → VK → Prop := fun x lo hi H Q => rSlS x lo hi H Q ∨ rSlL K x lo hi H Q ∨ rSlA K x lo hi H Q
theorem sl_any {X : Cx} : SlR X (rSlX X.K) := sl_str.or (sl_list.or sl_tupA)
theorem cutL_whole {α : Type} (xs : List α) {lo hi : Option Int} (h : HT.sIx xs.length 0 lo = 0 ∧ HT.sIx xs.length xs.length hi = xs.length) : cutL xs lo hi = xs := by
  unfold cutL
  rw [h.1, h.2]
  simp
theorem cutL_rep {K : PySem.W.Frag} {F : Hp} {ps : List PV} {vs : List V} (h : RepFs K F ps vs) (lo hi : Option Int) : RepFs K F (cutL ps lo hi) (cutL vs lo hi) := by
  unfold cutL
  rw [h.length]
  exact RepFs.take _ (RepFs.drop _ h)
theorem psl_ok {K : PySem.W.Frag} {p z : PV} {lo hi : Option Int} {x : V} (hz : pSl p lo hi = some z) {B : Hp} {W : WX} (hp : RepF K B p x) : Ev K B (fr (RepF K)) W (fun _ H Q => rSlX K x lo hi H Q) (SE.ret z) := by
  unfold pSl at hz
  cases p with
  | str s =>
    dsimp only at hz
    split at hz
    · rename_i hl
      cases hz
      exact ev_now (v := .str (mkS _)) (repS.mpr rfl) fun F H sB sF Q k => .inl ⟨mkS s, repS.mp hp, by rw [mkS_len, line_eq]; exact hl, by rw [cutS_eq]; exact k⟩
    · cases hz
  | lst xs =>
    cases hz
    rw [RepF] at hp
    obtain ⟨a, vs, e1, e2, e3⟩ := hp
    exact ev_new (o := .lst (cutL vs lo hi)) (fun c F' s h => rep_lst h (RepFs.mono s _ _ (cutL_rep e3 lo hi))) fun F H sB sF Q q => .inr (.inl ⟨a, vs, e1, SqL.of (sF _ _ (sB _ _ e2)), q⟩)
  | tup xs =>
    cases hz
    rw [RepF] at hp
    obtain ⟨a, vs, e1, e2, e3⟩ := hp
    have hl := e3.length
    by_cases hw : HT.sIx vs.length 0 lo = 0 ∧ HT.sIx vs.length vs.length hi = vs.length
    · rw [cutL_whole xs (by rw [← hl]; exact hw)]
      exact ev_now (v := .ref a) (by rw [RepF]; exact ⟨a, vs, rfl, e2, e3⟩) fun F H sB sF Q k => .inr (.inr ⟨a, vs, e1, same_t (sB.trans sF) e2, fun _ => k, fun h => absurd hw h⟩)
    · exact ev_new (o := .tup (cutL vs lo hi)) (fun c F' s h => rep_tup h (RepFs.mono s _ _ (cutL_rep e3 lo hi))) fun F H sB sF Q q => .inr (.inr ⟨a, vs, e1, same_t (sB.trans sF) e2, fun h => absurd h hw, fun _ => q⟩)
  | _ => cases hz
/-! ### one operand -/
def PUn (K : PySem.W.Frag) (r : V → Hp → VK → Prop) (op : PV → Option PV) : Prop :=
  ∀ p z x, op p = some z → ∀ (B : Hp) (W : WX), RepF K B p x → Ev K B (fr (RepF K)) W (fun _ H Q => r x H Q) (SE.ret z)
def pNeg (p : PV) : Option PV := match p with
  | .int i => some (.int (-i))
  | _ => none
theorem pun_neg {K : PySem.W.Frag} : PUn K (rU fun i => .int (-i)) pNeg := by
  intro p z x hz B W hp
  unfold pNeg at hz
  cases p with
  | int i =>
    cases hz
    exact ev_now (v := .int (-i)) (repI.mpr rfl) fun F H _ _ Q k => ⟨i, repI.mp hp, k⟩
  | _ => cases hz
/-! ### truth -/
def pTru (p : PV) : Option Bool := match p with
  | .non => some false
  | .bl b => some b
  | .int i => some (decide (i ≠ 0))
  | .str s => if s.length ≤ 16777216 then some (!s.isEmpty) else none
  | .tup xs => some (!xs.isEmpty)
  | .lst xs => some (!xs.isEmpty)
  | _ => none
theorem ptru_ok {K : PySem.W.Frag} {p : PV} {x : V} {b : Bool} {F : Hp} (h : pTru p = some b) (hp : RepF K F p x) : TruV K x F b := by
  unfold pTru at h
  cases p with
  | non => cases h; rw [repN.mp hp]; rfl
  | bl k => cases h; rw [repB.mp hp]; rfl
  | int i =>
    cases h
    rw [repI.mp hp]
    show decide (i ≠ 0) = (i != 0)
    by_cases e : i = 0 <;> simp [e]
  | str s =>
    dsimp only at h
    split at h
    · rename_i hl
      cases h
      rw [repS.mp hp]
      refine ⟨by rw [mkS_len, line_eq]; exact hl, ?_⟩
      rw [mkS_len]
      cases s with
      | nil => rfl
      | cons c r =>
        show true = ((((c :: r).length : Nat) : Int) != 0)
        symm
        rw [bne_iff_ne, List.length_cons]
        omega
    · cases h
  | tup xs =>
    cases h
    rw [RepF] at hp
    obtain ⟨a, vs, e1, e2, e3⟩ := hp
    subst e1
    refine .inr (.inl ⟨vs, e2, ?_⟩)
    have := e3.length
    cases xs <;> cases vs <;> first | rfl | (simp at this)
  | lst xs =>
    cases h
    rw [RepF] at hp
    obtain ⟨a, vs, e1, e2, e3⟩ := hp
    subst e1
    refine .inl ⟨vs, SqL.of e2, ?_⟩
    have := e3.length
    cases xs <;> cases vs <;> first | rfl | (simp at this)
  | _ => cases h
theorem TruV.mono {K : PySem.W.Frag} {x : V} {H H' : Hp} {b : Bool} (s : Same H H') (h : TruV K x H b) : TruV K x H' b := by
  cases x with
  | ref p =>
    rcases h with ⟨xs, h1, h2⟩ | ⟨xs, h1, h2⟩ | ⟨kvs, h1, h2⟩
    · exact .inl ⟨xs, same_l s h1, h2⟩
    · exact .inr (.inl ⟨xs, same_t s h1, h2⟩)
    · exact .inr (.inr ⟨kvs, s _ _ h1, h2⟩)
  | _ => exact h
/-! ### calls of built-ins, by values -/
def PC (K : PySem.W.Frag) (r : List V → Hp → VK → Prop) (op : List PV → Option PV) : Prop :=
  ∀ ps z vs, op ps = some z → ∀ (B : Hp) (W : WX), RepFs K B ps vs → Ev K B (fr (RepF K)) W (fun _ H Q => r vs H Q) (SE.ret z)
def one (f : PV → Option PV) : List PV → Option PV := fun ps => match ps with
  | [p] => f p
  | _ => none
def two (f : PV → PV → Option PV) : List PV → Option PV := fun ps => match ps with
  | [p, q] => f p q
  | _ => none
theorem PC.one {K : PySem.W.Frag} {r : List V → Hp → VK → Prop} {f : PV → Option PV} (h : ∀ p z v, f p = some z → ∀ (B : Hp) (W : WX), RepF K B p v → Ev K B (fr (RepF K)) W (fun _ H Q => r [v] H Q) (SE.ret z)) : PC K r (Mv.one f) := by
  intro ps z vs hz B W hp
  match ps, hz with
  | [p], hz =>
    obtain ⟨v, rfl, e⟩ := repFs1 hp
    exact h p z v hz B W e
theorem PC.two {K : PySem.W.Frag} {r : List V → Hp → VK → Prop} {f : PV → PV → Option PV} (h : ∀ p q z v w, f p q = some z → ∀ (B : Hp) (W : WX), RepF K B p v → RepF K B q w → Ev K B (fr (RepF K)) W (fun _ H Q => r [v, w] H Q) (SE.ret z)) : PC K r (Mv.two f) := by
  intro ps z vs hz B W hp
  match ps, hz with
  | [p, q], hz =>
    obtain ⟨v, w, rfl, e1, e2⟩ := repFs2 hp
    exact h p q z v w hz B W e1 e2
def pLen (p : PV) : Option PV := match p with
  | .str s => if s.length ≤ 16777216 then some (.int s.length) else none
  | .lst xs => some (.int xs.length)
  | .tup xs => some (.int xs.length)
  | .scr xs => some (.int xs.length)
  | _ => none
abbrev rLenA (K : PySem.W.Frag) : List V → Hp → VK → Prop := fun xs H Q => ∃ x n, xs = [x] ∧ LenV K x H n ∧ Q (.int n) H
theorem pc_len {K : PySem.W.Frag} : PC K (rLenA K) (one pLen) := PC.one fun p z v hz B W hp => by
  unfold pLen at hz
  cases p with
  | str s =>
    dsimp only at hz
    split at hz
    · rename_i hl
      cases hz
      refine ev_now (v := .int s.length) (repI.mpr rfl) fun F H sB sF Q k => ⟨v, s.length, rfl, ?_, k⟩
      rw [repS.mp hp]
      exact ⟨by rw [mkS_len, line_eq]; exact hl, (mkS_len s).symm⟩
    · cases hz
  | lst xs =>
    cases hz
    rw [RepF] at hp
    obtain ⟨a, vs, e1, e2, e3⟩ := hp
    subst e1
    exact ev_now (v := .int xs.length) (repI.mpr rfl) fun F H sB sF Q k => ⟨_, xs.length, rfl, .inl ⟨vs, SqL.of (sF _ _ (sB _ _ e2)), e3.length.symm⟩, k⟩
  | tup xs =>
    cases hz
    rw [RepF] at hp
    obtain ⟨a, vs, e1, e2, e3⟩ := hp
    subst e1
    exact ev_now (v := .int xs.length) (repI.mpr rfl) fun F H sB sF Q k => ⟨_, xs.length, rfl, .inr ⟨vs, same_t (sB.trans sF) e2, e3.length.symm⟩, k⟩
  | scr xs =>
    cases hz
    rw [RepF] at hp
    obtain ⟨a, e1, e2⟩ := hp
    subst e1
    exact ev_now (v := .int xs.length) (repI.mpr rfl) fun F H sB sF Q k => ⟨_, xs.length, rfl, .inl ⟨_, same_l (sB.trans sF) e2, by rw [List.length_map]⟩, k⟩
  | _ => cases hz
def pAbs (p : PV) : Option PV := match p with
  | .int i => some (.int (if i < 0 then -i else i))
  | _ => none
theorem pc_abs {K : PySem.W.Frag} : PC K (fun xs H Q => ∃ i, xs = [.int i] ∧ Q (.int (if i < 0 then -i else i)) H) (one pAbs) := PC.one fun p z v hz B W hp => by
  unfold pAbs at hz
  cases p with
  | int i =>
    cases hz
    rw [repI.mp hp]
    exact ev_now (v := .int _) (repI.mpr rfl) fun F H sB sF Q k => ⟨i, rfl, k⟩
  | _ => cases hz
def pMax (p q : PV) : Option PV := match p with
  | .int i => (match q with | .int j => some (.int (if j > i then j else i)) | _ => none)
  | _ => none
def pMin (p q : PV) : Option PV := match p with
  | .int i => (match q with | .int j => some (.int (if j < i then j else i)) | _ => none)
  | _ => none
theorem pc_max {K : PySem.W.Frag} : PC K (fun xs H Q => ∃ i j, xs = [.int i, .int j] ∧ Q (.int (if j > i then j else i)) H) (two pMax) := PC.two fun p q z v w hz B W hp hq => by
  unfold pMax at hz
  cases p with
  | int i =>
    cases q with
    | int j =>
      cases hz
      rw [repI.mp hp, repI.mp hq]
      exact ev_now (v := .int _) (repI.mpr rfl) fun F H sB sF Q k => ⟨i, j, rfl, k⟩
    | _ => cases hz
  | _ => cases hz
theorem pc_min {K : PySem.W.Frag} : PC K (fun xs H Q => ∃ i j, xs = [.int i, .int j] ∧ Q (.int (if j < i then j else i)) H) (two pMin) := PC.two fun p q z v w hz B W hp hq => by
  unfold pMin at hz
  cases p with
  | int i =>
    cases q with
    | int j =>
      cases hz
      rw [repI.mp hp, repI.mp hq]
      exact ev_now (v := .int _) (repI.mpr rfl) fun F H sB sF Q k => ⟨i, j, rfl, k⟩
    | _ => cases hz
  | _ => cases hz
def pInt (p : PV) : Option PV := match p with
  | .int i => some (.int i)
  | .bl b => some (.int (if b then 1 else 0))
  | .str s => if s.length ≤ 640 then (PySem.intText? (mkS s)).map .int else none
  | _ => none
abbrev rIntA : List V → Hp → VK → Prop := fun xs H Q => ((∃ i, xs = [.int i] ∧ Q (.int i) H) ∨ ∃ k, xs = [.bl k] ∧ Q (.int (if k then 1 else 0)) H) ∨ ∃ a n, xs = [.str a] ∧ PySem.intText? a = some n ∧ a.length ≤ 640 ∧ Q (.int n) H
theorem call_intA {X : Cx} : CallR X (.type "int") rIntA := call_int1.or call_int_str
theorem pc_int {K : PySem.W.Frag} : PC K rIntA (one pInt) := PC.one fun p z v hz B W hp => by
  unfold pInt at hz
  cases p with
  | int i =>
    cases hz
    rw [repI.mp hp]
    exact ev_now (v := .int i) (repI.mpr rfl) fun F H sB sF Q k => .inl (.inl ⟨i, rfl, k⟩)
  | bl b =>
    cases hz
    rw [repB.mp hp]
    exact ev_now (v := .int _) (repI.mpr rfl) fun F H sB sF Q k => .inl (.inr ⟨b, rfl, k⟩)
  | str s =>
    dsimp only at hz
    split at hz
    · rename_i hl
      cases e : PySem.intText? (mkS s) with
      | none => rw [e] at hz; cases hz
      | some n =>
        rw [e] at hz
        cases hz
        rw [repS.mp hp]
        exact ev_now (v := .int n) (repI.mpr rfl) fun F H sB sF Q k => .inr ⟨mkS s, n, rfl, e, by rw [mkS_len]; exact hl, k⟩
    · cases hz
  | _ => cases hz
def numT (i : Int) : Tx := (Str.ofString (toString i)).cps.toList
def pStr (p : PV) : Option PV := match p with
  | .int i => if i.natAbs.log2 < 1920 then some (.str (numT i)) else none
  | _ => none
theorem pc_str {K : PySem.W.Frag} : PC K (fun xs H Q => ∃ i : Int, xs = [.int i] ∧ i.natAbs.log2 < 1920 ∧ Q (.str (toString i)) H) (one pStr) := PC.one fun p z v hz B W hp => by
  unfold pStr at hz
  cases p with
  | int i =>
    dsimp only at hz
    split at hz
    · rename_i hl
      cases hz
      rw [repI.mp hp]
      exact ev_now (v := .str _) (repS.mpr rfl) fun F H sB sF Q k => ⟨i, rfl, hl, k⟩
    · cases hz
  | _ => cases hz
def pOrd (p : PV) : Option PV := match p with
  | .str [c] => some (.int c)
  | _ => none
theorem pc_ord {K : PySem.W.Frag} : PC K (fun xs H Q => ∃ x, xs = [.str x] ∧ x.length = 1 ∧ Q (.int (x.cps.getD 0 0 : Nat)) H) (one pOrd) := PC.one fun p z v hz B W hp => by
  unfold pOrd at hz
  match p, hz with
  | .str [c], hz =>
    cases hz
    rw [repS.mp hp]
    exact ev_now (v := .int c) (repI.mpr rfl) fun F H sB sF Q k => ⟨_, rfl, rfl, k⟩
def pDivmod (p q : PV) : Option PV := match p with
  | .int i => (match q with | .int j => if CDiv i j then some (.tup [.int (i / j), .int (i % j)]) else none | _ => none)
  | _ => none
theorem pc_divmod {K : PySem.W.Frag} : PC K (fun xs H Q => ∃ i j, xs = [.int i, .int j] ∧ CDiv i j ∧ ∀ p, H p = none → Q (.ref p) (upd H p (.tup [.int (i / j), .int (i % j)]))) (two pDivmod) := PC.two fun p q z v w hz B W hp hq => by
  unfold pDivmod at hz
  cases p with
  | int i =>
    cases q with
    | int j =>
      dsimp only at hz
      split at hz
      · rename_i hl
        cases hz
        rw [repI.mp hp, repI.mp hq]
        refine ev_new (o := .tup [.int (i / j), .int (i % j)]) (fun a F' s h => rep_tup h ?_) fun F H sB sF Q k => ⟨i, j, rfl, hl, k⟩
        rw [RepFs]
        exact ⟨_, _, rfl, repI.mpr rfl, RepFs.single (repI.mpr rfl)⟩
      · cases hz
    | _ => cases hz
  | _ => cases hz
/-- all, any of a list of bools -/
def PV.bls : List PV → Option (List Bool)
  | [] => some []
  | .bl b :: r => (PV.bls r).map (b :: ·)
  | _ :: _ => none
theorem bls_rep {K : PySem.W.Frag} {F : Hp} : ∀ {ps : List PV} {vs : List V} {bs : List Bool}, PV.bls ps = some bs → RepFs K F ps vs → vs = bs.map V.bl
  | [], vs, bs, h, hr => by
    cases h
    rw [RepFs] at hr
    exact hr
  | .bl b :: r, vs, bs, h, hr => by
    have h2 : (PV.bls r).map (b :: ·) = some bs := h
    cases e : PV.bls r with
    | none => rw [e] at h2; cases h2
    | some bs2 =>
      rw [e] at h2
      cases h2
      rw [RepFs] at hr
      obtain ⟨v, r', e1, e2, e3⟩ := hr
      rw [e1, repB.mp e2, bls_rep e e3]
      rfl
  | .non :: r, vs, bs, h, hr => nomatch (show (none : Option (List Bool)) = some bs from h)
  | .int _ :: r, vs, bs, h, hr => nomatch (show (none : Option (List Bool)) = some bs from h)
  | .str _ :: r, vs, bs, h, hr => nomatch (show (none : Option (List Bool)) = some bs from h)
  | .tup _ :: r, vs, bs, h, hr => nomatch (show (none : Option (List Bool)) = some bs from h)
  | .lst _ :: r, vs, bs, h, hr => nomatch (show (none : Option (List Bool)) = some bs from h)
  | .dic _ _ :: r, vs, bs, h, hr => nomatch (show (none : Option (List Bool)) = some bs from h)
  | .scr _ :: r, vs, bs, h, hr => nomatch (show (none : Option (List Bool)) = some bs from h)
  | .opq _ :: r, vs, bs, h, hr => nomatch (show (none : Option (List Bool)) = some bs from h)
def pAll (p : PV) : Option PV := match p with
  | .lst xs => (PV.bls xs).map fun bs => .bl (bs.all id)
  | _ => none
def pAny (p : PV) : Option PV := match p with
  | .lst xs => (PV.bls xs).map fun bs => .bl (bs.any id)
  | _ => none
theorem pc_all {K : PySem.W.Frag} : PC K (rAll K) (one pAll) := PC.one fun p z v hz B W hp => by
  unfold pAll at hz
  cases p with
  | lst xs =>
    dsimp only at hz
    cases e : PV.bls xs with
    | none => rw [e] at hz; cases hz
    | some bs =>
      rw [e] at hz
      cases hz
      rw [RepF] at hp
      obtain ⟨a, vs, e1, e2, e3⟩ := hp
      subst e1
      exact ev_now (v := .bl _) (repB.mpr rfl) fun F H sB sF Q k => ⟨a, bs, rfl, SqL.of (by rw [← bls_rep e e3]; exact sF _ _ (sB _ _ e2)), k⟩
  | _ => cases hz
theorem pc_any {K : PySem.W.Frag} : PC K (rAny K) (one pAny) := PC.one fun p z v hz B W hp => by
  unfold pAny at hz
  cases p with
  | lst xs =>
    dsimp only at hz
    cases e : PV.bls xs with
    | none => rw [e] at hz; cases hz
    | some bs =>
      rw [e] at hz
      cases hz
      rw [RepF] at hp
      obtain ⟨a, vs, e1, e2, e3⟩ := hp
      subst e1
      exact ev_now (v := .bl _) (repB.mpr rfl) fun F H sB sF Q k => ⟨a, bs, rfl, SqL.of (by rw [← bls_rep e e3]; exact sF _ _ (sB _ _ e2)), k⟩
  | _ => cases hz
end Mv

set_option Elab.async false
set_option linter.all false
set_option maxRecDepth 100000
set_option maxHeartbeats 4000000
namespace Mv
open PySem PySem.Spec PyProof.Rows L2

/-! ### repr -/
mutual
def PV.cost : PV → Nat
  | .str s => 10 * s.length + 4
  | .tup xs => PV.costs xs + 5
  | .lst xs => PV.costs xs + 5
  | .int _ => 1925 | .non => 8 | .bl _ => 8 | .dic _ _ => 0 | .scr _ => 0 | .opq _ => 0
def PV.costs : List PV → Nat
  | [] => 0
  | x :: xs => PV.cost x + 2 + PV.costs xs
end
mutual
def PV.sho : PV → Bool
  | .int i => decide (i.natAbs.log2 < 1920)
  | .tup xs => PV.shos xs
  | .lst xs => PV.shos xs
  | .str _ => true | .non => true | .bl _ => true | .dic _ _ => false | .scr _ => false | .opq _ => false
def PV.shos : List PV → Bool
  | [] => true
  | x :: xs => PV.sho x && PV.shos xs
end
mutual
theorem dat_sho : ∀ p : PV, p.sho = true → p.dat.showable = true ∧ p.dat.hasDict = false
  | .non, _ => by rw [PV.dat, PyData.showable, PyData.hasDict]; exact ⟨rfl, rfl⟩
  | .bl _, _ => by rw [PV.dat, PyData.showable, PyData.hasDict]; exact ⟨rfl, rfl⟩
  | .int i, h => by rw [PV.sho] at h; rw [PV.dat, PyData.showable, PyData.hasDict]; exact ⟨h, rfl⟩
  | .str _, _ => by rw [PV.dat, PyData.showable, PyData.hasDict]; exact ⟨rfl, rfl⟩
  | .tup xs, h => by rw [PV.sho] at h; rw [PV.dat, PyData.showable, PyData.hasDict]; exact dats_sho xs h
  | .lst xs, h => by rw [PV.sho] at h; rw [PV.dat, PyData.showable, PyData.hasDict]; exact dats_sho xs h
  | .dic _ _, h => by rw [PV.sho] at h; cases h
  | .scr _, h => by rw [PV.sho] at h; cases h
  | .opq _, h => by rw [PV.sho] at h; cases h
theorem dats_sho : ∀ ps : List PV, PV.shos ps = true → PyData.showableAll (PV.dats ps) = true ∧ PyData.hasDictAll (PV.dats ps) = false
  | [], _ => by rw [PV.dats, PyData.showableAll, PyData.hasDictAll]; exact ⟨rfl, rfl⟩
  | x :: xs, h => by
    rw [PV.shos, Bool.and_eq_true] at h
    obtain ⟨a1, a2⟩ := dat_sho x h.1
    obtain ⟨b1, b2⟩ := dats_sho xs h.2
    rw [PV.dats, PyData.showableAll, PyData.hasDictAll, a1, a2, b1, b2]
    exact ⟨rfl, rfl⟩
end
theorem listText_le (ts : List Str) : (listText ts).length ≤ piled ts + 4 := by
  have e : (listText ts).length = (textFrom 0 "[" ts).length + 1 := by
    show (textFrom 0 "[" ts ++ "]").length = _
    rw [strLen_append]
    rfl
  cases ts with
  | nil =>
    rw [e]
    show (("[" : Str)).length + 1 ≤ _
    decide
  | cons t r =>
    have h := textFrom_length_pos r 1 (("[" : Str) ++ (if (0 : Nat) > 0 then ", " else "" : String) ++ t) (Nat.succ_pos 0)
    have e2 : ((("[" : Str) ++ (if (0 : Nat) > 0 then ", " else "" : String) ++ t)).length = 1 + t.length := by
      rw [strLen_append, strLen_append]
      rfl
    have h3 : (textFrom 0 "[" (t :: r)).length = (textFrom 1 (("[" : Str) ++ (if (0 : Nat) > 0 then ", " else "" : String) ++ t) r).length := rfl
    rw [e, h3, h, e2, piled_cons]
    omega
theorem int_len {i : Int} (h : i.natAbs.log2 < 1920) : ((toString i : String) : Str).length ≤ 1921 := by
  have h1 := int_text_length_le (a := i) (k := 1920) (by decide) h
  have h2 : ((toString i : String) : Str).length = (toString i).length := by
    show (Str.ofString (toString i)).cps.size = _
    have := TL.tl_ofString (toString i)
    have h3 : (Str.ofString (toString i)).cps.toList.length = ((toString i).toList.map Char.toNat).length := congrArg List.length this
    rw [List.length_map, String.length_toList] at h3
    simpa using h3
  omega
mutual
theorem dat_cost : ∀ p : PV, p.chk = true → p.sho = true → (p.dat.shown).length ≤ p.cost
  | .non, _, _ => by rw [PV.dat, PyData.shown, PV.cost]; decide
  | .bl b, _, _ => by rw [PV.dat, PyData.shown, PV.cost]; cases b <;> decide
  | .int i, _, h => by
    rw [PV.sho] at h
    rw [PV.dat, PyData.shown, PV.cost]
    have := int_len (of_decide_eq_true h)
    omega
  | .str s, hc, h => by
    rw [PV.chk] at hc
    rw [PV.dat, PyData.shown, PV.cost]
    have := StrLaws.reprText_len (mkS s) (fun c hm => by
      have h2 : c ∈ s := hm
      have h3 := List.all_eq_true.mp hc c h2
      have h4 : c < 0x110000 := of_decide_eq_true h3
      omega)
    rw [mkS_len] at this
    omega
  | .tup xs, hc, h => by
    rw [PV.chk] at hc
    rw [PV.sho] at h
    rw [PV.dat, PyData.shown, PV.cost]
    have h1 := dats_cost xs hc h
    have h2 := fmt_text (PyData.shownAll (PV.dats xs))
    omega
  | .lst xs, hc, h => by
    rw [PV.chk] at hc
    rw [PV.sho] at h
    rw [PV.dat, PyData.shown, PV.cost]
    have h1 := dats_cost xs hc h
    have h2 := listText_le (PyData.shownAll (PV.dats xs))
    omega
  | .dic _ _, h, _ => by rw [PV.chk] at h; cases h
  | .scr _, h, _ => by rw [PV.chk] at h; cases h
  | .opq _, h, _ => by rw [PV.chk] at h; cases h
theorem dats_cost : ∀ ps : List PV, PV.chks ps = true → PV.shos ps = true → piled (PyData.shownAll (PV.dats ps)) ≤ PV.costs ps
  | [], _, _ => by rw [PV.dats, PyData.shownAll, piled_nil]; exact Nat.zero_le _
  | x :: xs, hc, h => by
    rw [PV.chks, Bool.and_eq_true] at hc
    rw [PV.shos, Bool.and_eq_true] at h
    rw [PV.dats, PyData.shownAll, piled_cons, PV.costs]
    have h1 := dat_cost x hc.1 h.1
    have h2 := dats_cost xs hc.2 h.2
    omega
end
def PV.rp (p : PV) : Tx := p.dat.shown.cps.toList
def PV.disp : PV → Bool
  | .tup _ => true
  | .lst _ => true
  | _ => false
def PV.okRp (p : PV) : Bool := p.chk && p.sho && decide (p.cost ≤ 16777216) && decide (p.dep ≤ 64)
def pRepr (p : PV) : Option PV := if p.okRp then some (.str p.rp) else none
def rReprA (K : PySem.W.Frag) : List V → Hp → VK → Prop := fun xs H Q => ∃ (x : V) (d : PyData), xs = [x] ∧ Dp K H x d ∧ d.showable = true ∧ d.hasDict = false ∧ d.depth ≤ 64 ∧ d.shown.length ≤ sizeLine ∧ Q (.str d.shown) H
theorem call_reprA {X : Cx} (hg : X.A.guards = some []) (hr : ∃ k, Room k X.A) : CallR X (.builtin "repr") (rReprA X.K) := by
  intro pins s σ H xs us Q I r h
  obtain ⟨x, d, rfl, dp, hs, hd, hdp, hz, q⟩ := h
  obtain ⟨u, rfl, ru⟩ := vals1 r
  obtain ⟨k, hk⟩ := hr
  have hu := hk.un
  obtain ⟨as, rd⟩ := Dp.reads I d x u dp ru
  have big : ∀ a : Addr, u = .ref a → wpAny (model X.prog X.w) X.A (call (.builtin "repr") [u]) (EP X pins σ Q) X.xe s := fun a e => by
    subst e
    exact repr_of_reads' rd hs (PyData.noDict_hsm hd) hg (by omega) (fun _ _ e => e) (fun h' t tk hk => ⟨.str d.shown, H, I.kept (t' := tk) hk, ⟨t, rfl⟩, q⟩) hz
  cases dp with
  | non =>
    cases (show u = Value.none from ru)
    simp only [PyData.shown] at q
    exact PySem.P.repr_of_none ⟨.str _, H, I.tok _, ⟨_, rfl⟩, q⟩
  | bl b =>
    cases (show u = Value.bool b from ru)
    simp only [PyData.shown] at q
    exact PySem.P.repr_of_bool ⟨.str _, H, I.tok _, ⟨_, rfl⟩, q⟩
  | int i =>
    obtain ⟨t, rfl⟩ := (show ∃ t, u = Value.int i t from ru)
    simp only [PyData.showable, decide_eq_true_eq] at hs
    simp only [PyData.shown] at q
    exact PySem.P.repr_of_int hs ⟨.str _, H, I.tok _, ⟨_, rfl⟩, q⟩
  | str y =>
    obtain ⟨t, rfl⟩ := (show ∃ t, u = Value.str y t from ru)
    simp only [PyData.shown] at q hz
    exact PySem.P.repr_of_str ⟨.str _, H, I.tok _, ⟨_, rfl⟩, q⟩ hz
  | lst h1 h2 => exact big _ ru
  | tup h1 h2 => exact big _ ru
theorem pc_repr {K : PySem.W.Frag} : PC K (rReprA K) (one pRepr) := PC.one fun p z v hz B W hp => by
  unfold pRepr at hz
  split at hz
  · rename_i hk
    cases hz
    unfold PV.okRp at hk
    simp only [Bool.and_eq_true, decide_eq_true_eq] at hk
    obtain ⟨⟨⟨h1, h2⟩, h3⟩, h4⟩ := hk
    have hi := chk_isd p h1
    obtain ⟨s1, s2⟩ := dat_sho p h2
    have hc := dat_cost p h1 h2
    refine ev_now (v := .str p.dat.shown) (repS.mpr ?_) fun F H sB sF Q k => ⟨v, p.dat, rfl, dp_of _ _ hi (RepF.mono (sB.trans sF) _ _ hp), s1, s2, by rw [dat_dep p hi]; exact h4, by rw [line_eq]; omega, k⟩
    show V.str p.dat.shown = V.str (mkS p.dat.shown.cps.toList)
    rfl
  · cases hz
/-! ### isinstance of a built-in class -/
def PV.ty : PV → String
  | .non => "NoneType" | .bl _ => "bool" | .int _ => "int" | .str _ => "str" | .tup _ => "tuple" | .lst _ => "list" | .dic _ _ => "dict" | .scr _ => "list" | .opq _ => ""
def PV.tyOk : PV → Bool
  | .scr _ => false | .opq _ => false | _ => true
def pIsi (c : String) (p : PV) : Option PV := if p.tyOk then (kitB p.ty c).map .bl else none
theorem tyX_of {K : PySem.W.Frag} {F : Hp} {p : PV} {v : V} (h : RepF K F p v) (ho : p.tyOk = true) : TyX K F v (.type p.ty) := by
  cases p with
  | non => rw [repN.mp h]; exact .base .non
  | bl b => rw [repB.mp h]; exact .base (.bl b)
  | int i => rw [repI.mp h]; exact .base (.int i)
  | str s => rw [repS.mp h]; exact .base (.str _)
  | tup xs =>
    rw [RepF] at h
    obtain ⟨a, vs, rfl, e2, _⟩ := h
    rcases e2 with (e2 | ⟨o, e2⟩) | ⟨o, its, n, e, c, _⟩
    · exact .base (.tup e2)
    · exact .fTuple e2
    · exact .kTuple e c
  | lst xs =>
    rw [RepF] at h
    obtain ⟨a, vs, rfl, e2, _⟩ := h
    exact .base (.lst e2)
  | dic ks xs =>
    rw [RepF] at h
    obtain ⟨a, vs, rfl, e2, _⟩ := h
    exact .base (.dK e2)
  | scr xs => cases ho
  | opq u => cases ho
/-- isinstance(x, T): the second argument is the class by its name -/
def rIsiC (K : PySem.W.Frag) (c : String) : List V → Hp → VK → Prop := fun xs H Q => ∃ x, xs = [x, .ty c] ∧ rIsi K xs H Q
theorem pc_isi {K : PySem.W.Frag} {c : String} : PC K (rIsi K) (fun ps => match ps with
    | [p, .opq (.ty c)] => pIsi c p
    | _ => none) := by
  intro ps z vs hz B W hp
  match ps, hz with
  | [p, .opq (.ty c)], hz =>
    obtain ⟨v, w, rfl, e1, e2⟩ := repFs2 hp
    rw [RepF] at e2
    subst e2
    dsimp only at hz
    unfold pIsi at hz
    split at hz
    · rename_i ho
      cases e : kitB p.ty c with
      | none => rw [e] at hz; cases hz
      | some b =>
        rw [e] at hz
        cases hz
        exact ev_now (v := .bl b) (repB.mpr rfl) fun F H sB sF Q k => ⟨v, .ty c, .type p.ty, .type c, b, rfl, .ty c, tyX_of (RepF.mono (sB.trans sF) _ _ e1) ho, kit_ty e, k⟩
    · cases hz
def pIsiA : List PV → Option PV := fun ps => match ps with
  | [p, .opq (.ty c)] => pIsi c p
  | _ => none
theorem pc_isiA {K : PySem.W.Frag} : PC K (rIsi K) pIsiA := pc_isi (c := "")
/-! ### tuple(x), list(x) -/
def pTuple (p : PV) : Option PV := match p with
  | .lst xs => some (.tup xs)
  | .tup xs => some (.tup xs)
  | _ => none
theorem pc_tuple {K : PySem.W.Frag} : PC K (fun xs H Q => ∃ p ys, xs = [.ref p] ∧ ((SqL K H p ys ∧ ∀ l, H l = none → Q (.ref l) (upd H l (.tup ys))) ∨ (SqT K H p ys ∧ Q (.ref p) H))) (one pTuple) := PC.one fun p z v hz B W hp => by
  unfold pTuple at hz
  cases p with
  | lst xs =>
    cases hz
    rw [RepF] at hp
    obtain ⟨a, vs, e1, e2, e3⟩ := hp
    subst e1
    exact ev_new (o := .tup vs) (fun c F' s h => rep_tup h (RepFs.mono s _ _ e3)) fun F H sB sF Q k => ⟨a, vs, rfl, .inl ⟨SqL.of (sF _ _ (sB _ _ e2)), k⟩⟩
  | tup xs =>
    cases hz
    have hp' := hp
    rw [RepF] at hp
    obtain ⟨a, vs, e1, e2, e3⟩ := hp
    subst e1
    exact ev_now hp' fun F H sB sF Q k => ⟨a, vs, rfl, .inr ⟨same_t (sB.trans sF) e2, k⟩⟩
  | _ => cases hz
def pListM (p : PV) : Option MV := match p with
  | .lst xs => some (.ml (xs.map .fz))
  | .tup xs => some (.ml (xs.map .fz))
  | _ => none
end Mv

set_option Elab.async false
set_option linter.all false
set_option maxRecDepth 100000
set_option maxHeartbeats 4000000
namespace Mv
open PySem PySem.Spec PyProof.Rows L2

/-! ### names, constants -/
def eVar (i : Nat) : SE PV := fun ρ => match ρ[i]? with
  | some (some (.fz p)) => .ok p ρ
  | _ => .bad
def eMove (i : Nat) : SE MV := fun ρ => match ρ[i]? with
  | some (some m) => .ok m (ρ.set i none)
  | _ => .bad
theorem StOk.get {K : PySem.W.Frag} {ρ : Env} {σ : L2.St} {F H : Hp} {A : List Addr} {i : Nat} {m : MV} (s : StOk K ρ σ F H A) (hi : ρ[i]? = some (some m)) : ∃ v f, σ[i]? = some (some v) ∧ RepM K F H m v f ∧ ∀ a ∈ f, a ∈ A := by
  obtain ⟨v, f, A', q1, q2, q3, q4⟩ := s.take hi
  exact ⟨v, f, q1, q2, fun a ha => q3.mem_iff.mpr (List.mem_append_left _ ha)⟩
theorem StOk.getF {K : PySem.W.Frag} {ρ : Env} {σ : L2.St} {F H : Hp} {A : List Addr} {i : Nat} {p : PV} (s : StOk K ρ σ F H A) (hi : ρ[i]? = some (some (.fz p))) : ∃ v, σ[i]? = some (some v) ∧ RepF K F p v := by
  obtain ⟨v, f, q1, q2, _⟩ := s.get hi
  rw [RepM] at q2
  exact ⟨v, q1, q2.2⟩
section
variable {X : Cx} {W : WX} {pos : Pos}
theorem qe_var (i : Nat) {x : Str} (hN : X.N[i]? = some x := by rfl) (hv : Vis X.env.scope x := by first | exact Or.inl rfl | exact Or.inr (Or.inl rfl) | exact Or.inr (Or.inr rfl)) (hd : (x == ("__debug__" : Str)) = false := by decide)
    (hcd : (x == ("__classdict__" : Str)) = false := by decide) : QE X W (.Name x pos) (tVar i) (eVar i) := by
  refine ⟨pe_var hN hv hd hcd, fun ρ σ F H A sB st Q nb hok hex => ?_⟩
  unfold eVar at nb hok
  cases e : ρ[i]? with
  | none => simp only [e] at nb; exact absurd rfl nb
  | some o => cases o with
    | none => simp only [e] at nb; exact absurd rfl nb
    | some m => cases m with
      | fz p =>
        simp only [e] at hok
        obtain ⟨v, q1, q2⟩ := st.getF e
        exact ⟨v, q1, hok p ρ rfl v F H A [] st ⟨rfl, q2⟩ (by simpa using st.nod) (by simp) (by simpa using Go.refl F H A)⟩
      | _ => simp only [e] at nb; exact absurd rfl nb
theorem qm_move (i : Nat) {x : Str} (hN : X.N[i]? = some x := by rfl) (hv : Vis X.env.scope x := by first | exact Or.inl rfl | exact Or.inr (Or.inl rfl) | exact Or.inr (Or.inr rfl)) (hd : (x == ("__debug__" : Str)) = false := by decide)
    (hcd : (x == ("__classdict__" : Str)) = false := by decide) : QM X W (.Name x pos) (tVar i) (eMove i) := by
  refine ⟨pe_var hN hv hd hcd, fun ρ σ F H A sB st Q nb hok hex => ?_⟩
  unfold eMove at nb hok
  cases e : ρ[i]? with
  | none => simp only [e] at nb; exact absurd rfl nb
  | some o => cases o with
    | none => simp only [e] at nb; exact absurd rfl nb
    | some m =>
      simp only [e] at hok
      obtain ⟨v, f, A', q1, q2, q3, q4⟩ := st.take e
      have nd := q3.nodup_iff.mp st.nod
      exact ⟨v, q1, hok m _ rfl v F H A' f q4 q2 nd (fun a ha => st.out a (q3.mem_iff.mpr (List.mem_append_left _ ha))) ((Go.refl F H A).weak fun a ha => q3.mem_iff.mpr ha)⟩
theorem ev_c {K : PySem.W.Frag} {B : Hp} {p : PV} {v : V} (h : RepF K B p v) : Ev K B (fr (RepF K)) W (tC v) (SE.ret p) := Ev.doneF h
theorem qe_int {i : Int} {j : Nat} : QE X W (.Constant (.int i) j pos) (tC (.int i)) (SE.ret (.int i)) := ⟨pe_int, ev_c (repI.mpr rfl)⟩
theorem qe_bl {b : Bool} {j : Nat} : QE X W (.Constant (.bool b) j pos) (tC (.bl b)) (SE.ret (.bl b)) := ⟨pe_bl, ev_c (repB.mpr rfl)⟩
theorem qe_non {j : Nat} : QE X W (.Constant .none j pos) (tC .non) (SE.ret .non) := ⟨pe_non, ev_c (repN.mpr rfl)⟩
theorem qe_str (l : Tx) {x : Str} {j : Nat} (h : x = mkS l := by rfl) : QE X W (.Constant (.str x) j pos) (tC (.str x)) (SE.ret (.str l)) := ⟨pe_str, ev_c (repS.mpr (congrArg V.str h))⟩
/-- a constant of the module -/
theorem qe_gl {x : Str} {u : Value} {v : V} {p : PV} (hg : Gl X x) (hm : X.mg x = some u) (r : RelV v u) (h : RepF X.K nob p v) (hd : (x == ("__debug__" : Str)) = false := by decide) : QE X W (.Name x pos) (tC v) (SE.ret p) := ⟨pe_glob hg hm r hd, ev_c h⟩
theorem qe_glI {x : Str} {i : Int} (hm : ∃ t, X.mg x = some (.int i t)) (hg : Gl X x := by rfl) (hd : (x == ("__debug__" : Str)) = false := by decide) : QE X W (.Name x pos) (tC (.int i)) (SE.ret (.int i)) := by
  obtain ⟨t, e⟩ := hm
  exact qe_gl hg e ⟨t, rfl⟩ (repI.mpr rfl) hd
theorem qe_glS (l : Tx) {x z : Str} (hm : ∃ t, X.mg x = some (.str z t)) (h : z = mkS l := by rfl) (hg : Gl X x := by rfl) (hd : (x == ("__debug__" : Str)) = false := by decide) : QE X W (.Name x pos) (tC (.str z)) (SE.ret (.str l)) := by
  obtain ⟨t, e⟩ := hm
  exact qe_gl hg e ⟨t, rfl⟩ (repS.mpr (congrArg V.str h)) hd
theorem qe_glT {x : Str} {a : Addr} {p : PV} (hm : X.mg x = some (.ref a)) (h : RepF X.K nob p (.ref a)) (hg : Gl X x := by rfl) (hd : (x == ("__debug__" : Str)) = false := by decide) : QE X W (.Name x pos) (tC (.ref a)) (SE.ret p) := qe_gl hg hm rfl h hd
theorem qe_cls {x : Str} {n : String} (hm : X.mg x = none) (hv : bootBuiltins x = some (.type n)) (hg : Gl X x := by rfl) (hn : x ≠ "__name__" := by decide) (hd : (x == ("__debug__" : Str)) = false := by decide) : QE X W (.Name x pos) (tC (.ty n)) (SE.ret (.opq (.ty n))) :=
  ⟨pe_bltn hg hm hv rfl hn hd, ev_c (by rw [RepF])⟩

/-! ### operators -/
variable {a b c : Expr} {ta tb tc : TE} {sa sb sc : SE PV}
theorem qe_bin {op : Operator} {r : R2} {f : PV → PV → Option PV} (ho : OpR X (binaryOp op) r) (hp : POp X.K r f) (ha : QE X W a ta sa) (hb : QE X W b tb sb) : QE X W (.BinOp a op b pos) (tOp r ta tb) (eOp f sa sb) := ⟨pe_op ho ha.pe hb.pe, ev_op hp ha.ev hb.ev⟩
theorem qe_add (ha : QE X W a ta sa) (hb : QE X W b tb sb) : QE X W (.BinOp a .Add b pos) (tOp (rAddA X.K) ta tb) (eOp pAdd sa sb) := qe_bin op_addA pop_add ha hb
theorem qe_sub (ha : QE X W a ta sa) (hb : QE X W b tb sb) : QE X W (.BinOp a .Sub b pos) (tOp (rI0 fun i j => .int (i - j)) ta tb) (eOp pSub sa sb) := qe_bin op_sub pop_sub ha hb
theorem qe_mul (ha : QE X W a ta sa) (hb : QE X W b tb sb) : QE X W (.BinOp a .Mult b pos) (tOp rMulA ta tb) (eOp pMul sa sb) := qe_bin op_mulA pop_mul ha hb
theorem qe_mod (ha : QE X W a ta sa) (hb : QE X W b tb sb) : QE X W (.BinOp a .Mod b pos) (tOp (rI (fun _ j => 0 < j) fun i j => .int (i % j)) ta tb) (eOp pMod sa sb) := qe_bin op_mod pop_mod ha hb
theorem qe_fdiv (ha : QE X W a ta sa) (hb : QE X W b tb sb) : QE X W (.BinOp a .FloorDiv b pos) (tOp (rI CDiv fun i j => .int (i / j)) ta tb) (eOp pFdiv sa sb) := qe_bin op_fdiv pop_fdiv ha hb
theorem qe_pow (ha : QE X W a ta sa) (hb : QE X W b tb sb) : QE X W (.BinOp a .Pow b pos) (tOp (rI CPow fun i j => .int (i ^ j.toNat)) ta tb) (eOp pPow sa sb) := qe_bin op_pow pop_pow ha hb
/-- a comparison's rule and its plain function -/
structure CmpQ (X : Cx) (op : CmpOp) (r : R2) (f : PV → PV → Option PV) : Prop where
  op : OpR X (compareOp op) r
  pop : POp X.K r f
theorem cq_eq (hr : ∃ k, Room k X.A) : CmpQ X .Eq (rEqA X.K) pEq := ⟨op_eqA hr, pop_eq⟩
theorem cq_ne (hr : ∃ k, Room k X.A) : CmpQ X .NotEq (rNeA X.K) pNe := ⟨op_neA hr, pop_ne⟩
theorem cq_lt : CmpQ X .Lt (rCmpA (fun i j => decide (i < j)) fun s t => decide (s < t)) pLt := ⟨op_ltA, pop_cmp⟩
theorem cq_le : CmpQ X .LtE (rCmpA (fun i j => decide (i ≤ j)) fun s t => !decide (t < s)) pLe := ⟨op_leA, pop_cmp⟩
theorem cq_gt : CmpQ X .Gt (rCmpA (fun i j => decide (j < i)) fun s t => decide (t < s)) pGt := ⟨op_gtA, pop_cmp⟩
theorem cq_ge : CmpQ X .GtE (rCmpA (fun i j => decide (j ≤ i)) fun s t => !decide (s < t)) pGe := ⟨op_geA, pop_cmp⟩
theorem cq_is : CmpQ X .Is rIsA (noOpq pIsN) := ⟨op_isA, pop_is⟩
theorem cq_isnot : CmpQ X .IsNot rNotA (noOpq pNotN) := ⟨op_notA, pop_not⟩
theorem cq_in (hr : ∃ k, Room k X.A) : CmpQ X .In (rInA X.K) pIn := ⟨op_inA hr, pop_in⟩
theorem cq_notin (hr : ∃ k, Room k X.A) : CmpQ X .NotIn (rNotInA X.K) pNotIn := ⟨op_notInA hr, pop_notIn⟩
theorem qe_cmp {op : CmpOp} {r : R2} {f : PV → PV → Option PV} (ho : CmpQ X op r f) (ha : QE X W a ta sa) (hb : QE X W b tb sb) (hm : behindInMarks op b = false := by first | exact nomark _ (by decide) (by decide) | rfl) : QE X W (.Compare a [op] [b] pos) (tOp r ta tb) (eOp f sa sb) :=
  ⟨pe_cmpR ho.op ha.pe hb.pe hm, ev_op ho.pop ha.ev hb.ev⟩
def asB (p : PV) : Option Bool := match p with
  | .bl b => some b
  | _ => none
def eBool (s : SE PV) : SE Bool := s.bind fun p => ofO (asB p)
theorem asB_rep {K : PySem.W.Frag} {F : Hp} {p : PV} {v : V} {b : Bool} (h : asB p = some b) (hp : RepF K F p v) : v = .bl b := by
  cases p <;> first
    | exact nomatch (show (none : Option Bool) = some b from h)
    | (have e := Option.some.inj (show some _ = some b from h)
       subst e
       exact repB.mp hp)
theorem Ev.test {K : PySem.W.Frag} {B : Hp} {te : TE} {s : SE PV} (h : Ev K B (fr (RepF K)) W te s) : Ev K B (fr zB) W (fun σ H Q => te σ H fun x H1 => ∃ k, x = .bl k ∧ Q k H1) (eBool s) :=
  h.bind fun p v B1 _ hp => Ev.ofO fun k hk => by
    have e := asB_rep hk hp
    exact (Ev.done (z := zB) (a := k) (b := k) rfl fun _ _ _ e => e).imp fun _ H Q q => ⟨k, e, q⟩
theorem qt_cmp {op : CmpOp} {r : R2} {f : PV → PV → Option PV} (ho : CmpQ X op r f) (ha : QE X W a ta sa) (hb : QE X W b tb sb) (hm : behindInMarks op b = false := by first | exact nomark _ (by decide) (by decide) | rfl) : QT X W (.Compare a [op] [b] pos) (tTest (tOp r ta tb)) (eBool (eOp f sa sb)) :=
  ⟨pt_cmpR ho.op ha.pe hb.pe hm, (ev_op ho.pop ha.ev hb.ev).test⟩
/-- a op b op' c -/
def eChain (f g : PV → PV → Option PV) (sa sb sc : SE PV) : SE PV := sa.bind fun p => sb.bind fun q => (ofO ((f p q).bind asB)).bind fun k => if k = true then sc.bind fun u => ofO (g q u) else SE.ret (.bl false)
theorem ev_chain {K : PySem.W.Frag} {B : Hp} {r r' : R2} {f g : PV → PV → Option PV} (h1 : POp K r f) (h2 : POp K r' g) (ha : Ev K B (fr (RepF K)) W ta sa) (hb : Ev K B (fr (RepF K)) W tb sb) (hc : Ev K B (fr (RepF K)) W tc sc) : Ev K B (fr (RepF K)) W (tChain r r' ta tb tc) (eChain f g sa sb sc) := by
  refine ha.bind fun p x B1 s1 hp => (hb.le s1).bind fun q y B2 s2 hq => ?_
  refine Ev.bind (z := zB) (tk := fun k σ H Q => if k = true then tc σ H fun w' H4 => r' y w' H4 Q else Q (.bl false) H) (te := fun σ H Q => r x y H fun v H3 => ∃ k, v = .bl k ∧ Q k H3) ?_ fun k k' B3 s3 hk => ?_
  · refine Ev.ofO fun k hk => ?_
    cases e : f p q with
    | none => rw [e] at hk; cases hk
    | some zz =>
      rw [e] at hk
      have hk' : asB zz = some k := hk
      have t := Ev.test (h1 p q zz x y e B2 W (RepF.mono s2 _ _ hp) hq)
      have e2 : ∀ ρ : Env, eBool (SE.ret zz) ρ = .ok k ρ := fun ρ => by
        show ofO (asB zz) ρ = _
        rw [hk']
        rfl
      intro ρ σ F H A sB st Q nb hok hex
      refine t ρ σ F H A sB st Q (fun z => ?_) (fun a ρ' e1 => ?_) (fun x ρ' e1 => ?_)
      · rw [e2] at z
        cases z
      · rw [e2] at e1
        exact hok a ρ' e1
      · rw [e2] at e1
        cases e1
  · have e : k' = k := hk
    subst e
    cases k' with
    | true =>
      refine (hc.le ((s1.trans s2).trans s3)).bind fun u w' B4 s4 hu => Ev.ofO fun z hz => h2 q u z y w' hz B4 W (RepF.mono (s3.trans s4) _ _ hq) hu
    | false => exact Ev.doneF (repB.mpr rfl)
theorem qe_chain {op op' : CmpOp} {r r' : R2} {f g : PV → PV → Option PV} (ho : CmpQ X op r f) (ho' : CmpQ X op' r' g) (ha : QE X W a ta sa) (hb : QE X W b tb sb) (hc : QE X W c tc sc)
    (hm : lastMarks [op, op'] [b, c] = false := by with_unfolding_all rfl) : QE X W (.Compare a [op, op'] [b, c] pos) (tChain r r' ta tb tc) (eChain f g sa sb sc) := ⟨pe_chain ho.op ho'.op ha.pe hb.pe hc.pe hm, ev_chain ho.pop ho'.pop ha.ev hb.ev hc.ev⟩
theorem qt_chain {op op' : CmpOp} {r r' : R2} {f g : PV → PV → Option PV} (ho : CmpQ X op r f) (ho' : CmpQ X op' r' g) (ha : QE X W a ta sa) (hb : QE X W b tb sb) (hc : QE X W c tc sc)
    (hm : lastMarks [op, op'] [b, c] = false := by with_unfolding_all rfl) : QT X W (.Compare a [op, op'] [b, c] pos) (tTest (tChain r r' ta tb tc)) (eBool (eChain f g sa sb sc)) := ⟨pt_chain ho.op ho'.op ha.pe hb.pe hc.pe hm, (ev_chain ho.pop ho'.pop ha.ev hb.ev hc.ev).test⟩
/-- truth of a value -/
def eTru (s : SE PV) : SE Bool := s.bind fun p => ofO (pTru p)
theorem qt_tru (ha : QE X W a ta sa) (he : ∀ whole, isTrue a X.env whole = (do let v ← whole; standAt a.pos; holding [v] (truthy v)) := by intro _; rfl) : QT X W a (fun σ H Q => ta σ H fun x H' => ∃ k, TruV X.K x H' k ∧ Q k H') (eTru sa) := by
  refine ⟨pt_truth ha.pe he, ha.ev.bind fun p v B1 _ hp => Ev.ofO fun k hk => ?_⟩
  intro ρ σ F H A sB st Q nb hok hex
  exact ⟨k, TruV.mono (sB.trans st.sub) (ptru_ok hk hp), hok k ρ rfl k F H A [] st ⟨rfl, rfl⟩ (by simpa using st.nod) (by simp) (by simpa using Go.refl F H A)⟩
/-! ### and, or, not -/
section
variable {tA tB' : TT} {uA uB : SE Bool} {rest : List Expr}
def sAnd (s t : SE Bool) : SE Bool := s.bind fun k => if k = true then t else SE.ret false
def sOr (s t : SE Bool) : SE Bool := s.bind fun k => if k = true then SE.ret true else t
def sNot (s : SE Bool) : SE Bool := s.bind fun k => SE.ret (!k)
theorem qw_and1 (h : QT X W a tA uA) : QW X W (.BoolOp .And [a] pos) tA uA := ⟨pw_and1 h.pt, h.ev⟩
theorem qw_or1 (h : QT X W a tA uA) : QW X W (.BoolOp .Or [a] pos) tA uA := ⟨pw_or1 h.pt, h.ev⟩
theorem zb_done {K : PySem.W.Frag} {B : Hp} {k : Bool} : Ev K B (fr zB) W (fun _ H Q => Q k H) (SE.ret k) := Ev.done (z := zB) rfl fun _ _ _ e => e
theorem qw_and (h1 : QT X W a tA uA) (h2 : QW X W (.BoolOp .And (b :: rest) pos) tB' uB) : QW X W (.BoolOp .And (a :: b :: rest) pos) (tAnd tA tB') (sAnd uA uB) :=
  ⟨pw_and h1.pt h2.pw, h1.ev.bind fun k k' B1 s1 e => by
    have e' : k' = k := e
    subst e'
    cases k' with
    | true => exact h2.ev.le (nob_le _)
    | false => exact zb_done⟩
theorem qw_or (h1 : QT X W a tA uA) (h2 : QW X W (.BoolOp .Or (b :: rest) pos) tB' uB) : QW X W (.BoolOp .Or (a :: b :: rest) pos) (tOr tA tB') (sOr uA uB) :=
  ⟨pw_or h1.pt h2.pw, h1.ev.bind fun k k' B1 s1 e => by
    have e' : k' = k := e
    subst e'
    cases k' with
    | true => exact zb_done
    | false => exact h2.ev.le (nob_le _)⟩
theorem QW.qt (h : QW X W a tA uA) : QT X W a tA uA := ⟨h.pw.pt, h.ev⟩
theorem qt_not (h : QT X W a tA uA) : QT X W (.UnaryOp .Not a pos) (tNot tA) (sNot uA) :=
  ⟨pt_not h.pt, h.ev.bind fun k k' B1 s1 e => by
    have e' : k' = k := e
    subst e'
    exact zb_done⟩
/-- as values: all but the last one bools -/
def eAnd (s t : SE PV) : SE PV := (eBool s).bind fun k => if k = true then t else SE.ret (.bl false)
def eOr (s t : SE PV) : SE PV := (eBool s).bind fun k => if k = true then SE.ret (.bl true) else t
def eNot (s : SE PV) : SE PV := (eBool s).bind fun k => SE.ret (.bl (!k))
theorem qe_one {op : BoolOp} (h : QE X W a ta sa) : QE X W (.BoolOp op [a] pos) ta sa := ⟨pe_one h.pe, h.ev⟩
theorem ev_flat {K : PySem.W.Frag} {B : Hp} {te : TE} {tk : Bool → TE} {s : SE PV} {k : Bool → SE PV} (h : Ev K B (fr (RepF K)) W te s) (hk : ∀ b, Ev K nob (fr (RepF K)) W (tk b) (k b)) : Ev K B (fr (RepF K)) W (fun σ H Q => te σ H fun x H1 => ∃ c, x = .bl c ∧ tk c σ H1 Q) ((eBool s).bind k) :=
  (Ev.bind (β := Bool) (z := zB) (tk := tk) h.test fun b b' B1 s1 e => by
    have e' : b' = b := e
    subst e'
    exact (hk b').le (nob_le _))
theorem qe_and (ha : QE X W a ta sa) (hb : QE X W (.BoolOp .And (b :: rest) pos) tb sb) : QE X W (.BoolOp .And (a :: b :: rest) pos) (tAndV ta tb) (eAnd sa sb) :=
  ⟨pe_and ha.pe hb.pe, ev_flat (tk := fun c σ H1 Q => if c = true then tb σ H1 Q else Q (.bl false) H1) ha.ev fun k => by
    cases k with
    | true => exact hb.ev
    | false => exact Ev.doneF (repB.mpr rfl)⟩
theorem qe_or (ha : QE X W a ta sa) (hb : QE X W (.BoolOp .Or (b :: rest) pos) tb sb) : QE X W (.BoolOp .Or (a :: b :: rest) pos) (tOrV ta tb) (eOr sa sb) :=
  ⟨pe_or ha.pe hb.pe, ev_flat (tk := fun c σ H1 Q => if c = true then Q (.bl true) H1 else tb σ H1 Q) ha.ev fun k => by
    cases k with
    | true => exact Ev.doneF (repB.mpr rfl)
    | false => exact hb.ev⟩
theorem qe_not (ha : QE X W a ta sa) : QE X W (.UnaryOp .Not a pos) (tNotV ta) (eNot sa) :=
  ⟨pe_not ha.pe, ev_flat (tk := fun c σ H1 Q => Q (.bl (!c)) H1) ha.ev fun k => Ev.doneF (repB.mpr rfl)⟩
/-- a if t else b -/
def eIf (t : SE Bool) (s u : SE PV) : SE PV := t.bind fun k => if k = true then s else u
def mIf (t : SE Bool) (s u : SE MV) : SE MV := t.bind fun k => if k = true then s else u
theorem qe_if (ht : QT X W c tA uA) (ha : QE X W a ta sa) (hb : QE X W b tb sb) : QE X W (.IfExp c a b pos) (tIf tA ta tb) (eIf uA sa sb) :=
  ⟨pe_ifExp ht.pt ha.pe hb.pe, ht.ev.bind fun k k' B1 s1 e => by
    have e' : k' = k := e
    subst e'
    cases k' with
    | true => exact ha.ev.le (nob_le _)
    | false => exact hb.ev.le (nob_le _)⟩
theorem qm_if {ma mb : SE MV} (ht : QT X W c tA uA) (ha : QM X W a ta ma) (hb : QM X W b tb mb) : QM X W (.IfExp c a b pos) (tIf tA ta tb) (mIf uA ma mb) :=
  ⟨pe_ifExp ht.pt ha.pe hb.pe, ht.ev.bind fun k k' B1 s1 e => by
    have e' : k' = k := e
    subst e'
    cases k' with
    | true => exact ha.ev.le (nob_le _)
    | false => exact hb.ev.le (nob_le _)⟩
def eUn (f : PV → Option PV) (s : SE PV) : SE PV := s.bind fun p => ofO (f p)
theorem qe_neg (ha : QE X W a ta sa) : QE X W (.UnaryOp .USub a pos) (tUn (rU fun i => .int (-i)) ta) (eUn pNeg sa) :=
  ⟨pe_un un_neg ha.pe, ha.ev.bind fun p x B1 s1 hp => Ev.ofO fun z hz => pun_neg p z x hz B1 W hp⟩
end
/-! ### subscripts, slices -/
theorem qe_ix (ha : QE X W a ta sa) (hb : QE X W b tb sb) (hs : PlainIx b := by exact fun _ _ => rfl) : QE X W (.Subscript a b pos) (tOp (rIx X.K) ta tb) (eOp pIx sa sb) := ⟨pe_ix ix_seq ha.pe hb.pe hs, ev_op pop_ix ha.ev hb.ev⟩
def eNo : SE (Option Int) := SE.ret none
def ePart (s : SE PV) : SE (Option Int) := s.bind fun p => match p with
  | .int i => SE.ret (some i)
  | _ => ofO none
theorem qo_none : QO X W none tNoPart eNo := ⟨po_none, Ev.done (z := zO) rfl fun _ _ _ e => e⟩
theorem qo_some (ha : QE X W a ta sa) : QO X W (some a) (tPart ta) (ePart sa) := by
  refine ⟨po_some ha.pe, ha.ev.bind fun p x B1 s1 hp => ?_⟩
  cases p with
  | int i =>
    have e := repI.mp hp
    exact (Ev.done (z := zO) (a := some i) (b := some i) rfl fun _ _ _ e => e).imp fun _ H Q q => ⟨i, e, q⟩
  | _ => exact fun ρ σ F H A sB st Q nb => absurd rfl nb
def eSl (s : SE PV) (lo hi : SE (Option Int)) : SE PV := s.bind fun p => lo.bind fun l => hi.bind fun h => ofO (pSl p l h)
theorem qe_sl {lo hi : Option Expr} {tl th : TO} {sl sh : SE (Option Int)} {p2 : Pos} (ha : QE X W a ta sa) (hl : QO X W lo tl sl) (hh : QO X W hi th sh) : QE X W (.Subscript a (.Slice lo hi none p2) pos) (tSl (rSlX X.K) ta tl th) (eSl sa sl sh) :=
  ⟨pe_slice sl_any ha.pe hl.po hh.po, ha.ev.bind fun p x B1 s1 hp => (hl.ev.le (nob_le _)).bind fun l l' B2 s2 el => (hh.ev.le (nob_le _)).bind fun h h' B3 s3 eh => by
    have e1 : l' = l := el
    have e2 : h' = h := eh
    subst e1 e2
    exact Ev.ofO fun z hz => psl_ok hz (RepF.mono (s2.trans s3) _ _ hp)⟩
/-! ### argument lists, displays, calls of built-ins -/
section
variable {es : List Expr} {t : TA} {s : SE (List PV)}
def aNil : SE (List PV) := SE.ret []
def aCons (e : SE PV) (r : SE (List PV)) : SE (List PV) := e.bind fun p => r.bind fun ps => SE.ret (p :: ps)
theorem qa_nil : QA X W [] tNil aNil := ⟨pa_nil, Ev.done (z := RepFs X.K) (a := []) (b := []) (by rw [RepFs]) fun F F' e h => RepFs.mono e _ _ h⟩
theorem qa_cons (ha : QE X W a ta sa) (hr : QA X W es t s) (hs : starEach (a :: es) X.env = (false, eval a X.env) :: starEach es X.env := by rfl) : QA X W (a :: es) (tCons ta t) (aCons sa s) :=
  ⟨pa_cons ha.pe hr.pa hs, ha.ev.bind fun p x B1 s1 hp => (hr.ev.le (nob_le _)).bind fun ps xs B2 s2 hps => Ev.done (z := RepFs X.K) (by rw [RepFs]; exact ⟨x, xs, rfl, RepF.mono s2 _ _ hp, hps⟩) fun F F' e h => RepFs.mono e _ _ h⟩
def eTup (s : SE (List PV)) : SE PV := s.bind fun ps => if ps.length ≤ 16777216 then SE.ret (.tup ps) else ofO none
def eLst (s : SE (List PV)) : SE MV := s.bind fun ps => if ps.length ≤ 16777216 then SE.ret (.ml (ps.map .fz)) else ofO none
theorem qe_tup {x1 : Nat} (h : QA X W es t s) : QE X W (.Tuple es x1 pos) (tTup t) (eTup s) := by
  refine ⟨pe_tup h.pa, h.ev.bind fun ps xs B1 s1 hp => ?_⟩
  by_cases hl : ps.length ≤ 16777216
  · rw [if_pos hl]
    exact (Ev.newF (o := .tup xs) fun a F' sB e => rep_tup e (RepFs.mono sB _ _ hp)).imp fun σ H Q q => ⟨by rw [hp.length, line_eq]; exact hl, q⟩
  · rw [if_neg hl]
    exact fun ρ σ F H A sB st Q nb => absurd rfl nb
theorem qm_lst (h : QA X W es t s) : QM X W (.List es pos) (tLst t) (eLst s) := by
  refine ⟨pe_lst h.pa, h.ev.bind fun ps xs B1 s1 hp => ?_⟩
  by_cases hl : ps.length ≤ 16777216
  · rw [if_pos hl]
    exact (Ev.newM (o := .lst xs) fun a F' H' sB e => rep_ml e (RepFs.mono sB _ _ hp)).imp fun σ H Q q => ⟨by rw [hp.length, line_eq]; exact hl, q⟩
  · rw [if_neg hl]
    exact fun ρ σ F H A sB st Q nb => absurd rfl nb
theorem qe_lst (h : QA X W es t s) : QE X W (.List es pos) (tLst t) (vw (eLst s)) := (qm_lst h).vw
def eCB (f : List PV → Option PV) (s : SE (List PV)) : SE PV := s.bind fun ps => ofO (f ps)
theorem ev_cb {K : PySem.W.Frag} {B : Hp} {r : List V → Hp → VK → Prop} {f : List PV → Option PV} (hp : PC K r f) (h : Ev K B (fr (RepFs K)) W t s) : Ev K B (fr (RepF K)) W (tCB r t) (eCB f s) :=
  h.bind fun ps vs B1 s1 e => Ev.ofO fun z hz => hp ps z vs hz B1 W e
theorem qe_callB {x : Str} {id : String} {p : Pos} {r : List V → Hp → VK → Prop} {f : List PV → Option PV} (hc : CallR X (.builtin id) r) (hf : PC X.K r f) (hm : X.mg x = none) (hv : bootBuiltins x = some (.builtin id)) (ha : QA X W (a :: es) t s) (hg : Gl X x := by rfl) (hn : x ≠ "__name__" := by decide) (hdb : (x == ("__debug__" : Str)) = false := by decide)
    (he : starEach (a :: es) X.env = (false, eval a X.env) :: starEach es X.env := by rfl) (hpl : (backTo pos (starEach es X.env)).any (·.1) = false := by rfl) : QE X W (.Call (.Name x p) (a :: es) [] pos) (tCB r t) (eCB f s) := ⟨pe_callB hc hg hm hv ha.pa hn hdb he hpl, ev_cb hf ha.ev⟩
theorem qe_callT {x : Str} {T : String} {p : Pos} {r : List V → Hp → VK → Prop} {f : List PV → Option PV} (hc : CallR X (.type T) r) (hf : PC X.K r f) (hm : X.mg x = none) (hv : bootBuiltins x = some (.type T)) (ha : QA X W (a :: es) t s) (hg : Gl X x := by rfl) (hn : x ≠ "__name__" := by decide) (hdb : (x == ("__debug__" : Str)) = false := by decide)
    (he : starEach (a :: es) X.env = (false, eval a X.env) :: starEach es X.env := by rfl) (hpl : (backTo pos (starEach es X.env)).any (·.1) = false := by rfl) : QE X W (.Call (.Name x p) (a :: es) [] pos) (tCB r t) (eCB f s) := ⟨pe_callTy hc hg hm hv ha.pa hn hdb he hpl, ev_cb hf ha.ev⟩
end
/-! ### methods of texts -/
def pStrs : List PV → Option (List Tx)
  | [] => some []
  | .str s :: r => (pStrs r).map (s :: ·)
  | _ :: _ => none
theorem pStrs_rep {K : PySem.W.Frag} {F : Hp} : ∀ {ps : List PV} {vs : List V} {ss : List Tx}, pStrs ps = some ss → RepFs K F ps vs → vs = (ss.map mkS).map V.str
  | [], vs, ss, h, hr => by
    cases h
    rw [RepFs] at hr
    exact hr
  | p :: r, vs, ss, h, hr => by
    cases p with
    | str s =>
      have h2 : (pStrs r).map (s :: ·) = some ss := h
      cases e : pStrs r with
      | none => rw [e] at h2; cases h2
      | some s2 =>
        rw [e] at h2
        cases h2
        rw [RepFs] at hr
        obtain ⟨v, r', e1, e2, e3⟩ := hr
        rw [e1, repS.mp e2, pStrs_rep e e3]
        rfl
    | _ => exact nomatch (show (none : Option (List Tx)) = some ss from h)
def joinT (sep : Tx) (l : List Tx) : Tx := TL.joinL sep l
def pJoin (p q : PV) : Option PV := match p with
  | .str sep => (match q with
    | .lst xs => (pStrs xs).bind fun ss => if (ss.map List.length).sum + ss.length * sep.length ≤ 16777216 then some (.str (joinT sep ss)) else none
    | _ => none)
  | _ => none
def eM1 (f : PV → PV → Option PV) (s u : SE PV) : SE PV := s.bind fun p => match p with
  | .str z => u.bind fun q => ofO (f (.str z) q)
  | _ => ofO none
theorem ev_m1 {K : PySem.W.Frag} {B : Hp} {r : V → List V → Hp → VK → Prop} {f : PV → PV → Option PV} (hp : ∀ z q w x y, f (.str z) q = some w → ∀ (B : Hp) (W : WX), RepF K B (.str z) x → RepF K B q y → Ev K B (fr (RepF K)) W (fun _ H Q => r x [y] H Q) (SE.ret w)) (ha : Ev K B (fr (RepF K)) W ta sa) (hb : Ev K B (fr (RepF K)) W tb sb) :
    Ev K B (fr (RepF K)) W (tM1 r ta tb) (eM1 f sa sb) := ha.bind fun p x B1 s1 hpx => by
  cases p with
  | str z =>
    have e := repS.mp hpx
    refine Ev.imp (te := fun σ H Q => tb σ H fun y H2 => r x [y] H2 Q) ?_ fun σ H Q q => ⟨⟨_, e⟩, q⟩
    exact (hb.le s1).bind fun q y B2 s2 hq => Ev.ofO fun w hw => hp z q w x y hw B2 W (RepF.mono s2 _ _ hpx) hq
  | _ => exact fun ρ σ F H A sB st Q nb => absurd rfl nb
theorem join_mk (sep : Tx) (ss : List Tx) : Txt.join (mkS sep) (ss.map mkS) = mkS (joinT sep ss) := by
  rw [TL.join_eq]
  apply TL.ext_tl
  rw [TL.tl_join]
  unfold joinT
  congr 1
  rw [List.map_map]
  conv => rhs; rw [← List.map_id ss]
  exact List.map_congr_left fun s _ => rfl
theorem qe_join {apos : Pos} (ha : QE X W a ta sa) (hb : QE X W b tb sb) (hs : starEach [b] X.env = [(false, eval b X.env)] := by rfl) (hbase : attributeBase a "join" X.env (eval a X.env) = eval a X.env := by rfl) (hline : (apos.endLine == pos.line) = true := by rfl) :
    QE X W (.Call (.Attribute a "join" apos) [b] [] pos) (tM1 (fun x xs H Q => ∃ a p, ∃ ys : List Str, x = .str a ∧ xs = [.ref p] ∧ (SqL X.K H p (ys.map V.str) ∨ SqT X.K H p (ys.map V.str)) ∧ (ys.map (·.length)).sum + ys.length * a.length ≤ 16777216 ∧ Q (.str (Txt.join a ys)) H) ta tb) (eM1 pJoin sa sb) := by
  refine ⟨pe_m1 PySem.F.slot_str_join PySem.F.type_str_join mt_join ha.pe hb.pe hs hbase hline, ev_m1 (fun z q w x y hw B W hx hy => ?_) ha.ev hb.ev⟩
  unfold pJoin at hw
  cases q with
  | lst xs =>
    dsimp only at hw
    cases e : pStrs xs with
    | none => rw [e] at hw; cases hw
    | some ss =>
      rw [e] at hw
      have hw2 : (if (ss.map List.length).sum + ss.length * z.length ≤ 16777216 then some (PV.str (joinT z ss)) else none) = some w := hw
      split at hw2
      · rename_i hl
        cases hw2
        rw [RepF] at hy
        obtain ⟨a, vs, e1, e2, e3⟩ := hy
        have ev := pStrs_rep e e3
        refine ev_now (v := .str (mkS (joinT z ss))) (repS.mpr rfl) fun F H sB sF Q k => ⟨mkS z, a, ss.map mkS, repS.mp hx, by rw [e1], .inl (SqL.of (by rw [← ev]; exact sF _ _ (sB _ _ e2))), ?_, by rw [join_mk]; exact k⟩
        rw [List.map_map, List.length_map, mkS_len]
        have : (ss.map ((fun x : Str => x.length) ∘ mkS)) = ss.map List.length := List.map_congr_left fun s _ => mkS_len s
        rw [this]
        exact hl
      · cases hw2
  | _ => cases hw
end
end Mv

set_option Elab.async false
set_option linter.all false
set_option maxRecDepth 100000
set_option maxHeartbeats 4000000
namespace Mv
open PySem PySem.Spec PyProof.Rows L2

/-! ### calls of defs: arguments by value, or slots that the callee may change -/
inductive Ar where
  | v (p : PV) | pl (i : Nat)
def ArOk (K : PySem.W.Frag) (F : Hp) (σ : L2.St) : Ar → V → Prop
  | .v p, x => RepF K F p x
  | .pl i, x => σ[i]? = some (some x)
abbrev ArRep (K : PySem.W.Frag) (F : Hp) (σ : L2.St) : List Ar → List V → Prop := Paired (ArOk K F σ)
theorem ArRep.mono {K : PySem.W.Frag} {F F' : Hp} {σ : L2.St} (e : Same F F') : ∀ {as : List Ar} {vs : List V}, ArRep K F σ as vs → ArRep K F' σ as vs
  | _, _, .nil => .nil
  | .v p :: _, _, .cons h r => .cons (RepF.mono e p _ h) (ArRep.mono e r)
  | .pl i :: _, _, .cons h r => .cons (show σ[i]? = some (some _) from h) (ArRep.mono e r)
def EvAr (K : PySem.W.Frag) (W : WX) (ta : TA) (s : SE (List Ar)) : Prop :=
  ∀ ρ σ F H A, StOk K ρ σ F H A → ∀ Q : List V → Hp → Prop, s ρ ≠ .bad →
    (∀ as ρ', s ρ = .ok as ρ' → ∀ vs F' H' A', StOk K ρ' σ F' H' A' → ArRep K F' σ as vs → Go F H A F' H' A' → Q vs H') →
    (∀ x ρ', s ρ = .exc x ρ' → ∀ cls d F' H' A', StOk K ρ' σ F' H' A' → Go F H A F' H' A' → RepX K F' H' x cls d → W cls d σ H') →
    ta σ H Q
structure QAr (X : Cx) (W : WX) (es : List Expr) (ta : TA) (s : SE (List Ar)) : Prop where
  pa : PA X es ta
  ev : EvAr X.K W ta s
structure QKr (X : Cx) (W : WX) (kws : List Keyword) (ta : TA) (s : SE (List Ar)) : Prop where
  pk : L2.PK X kws ta
  ev : EvAr X.K W ta s
def rNil : SE (List Ar) := SE.ret []
def rV (e : SE PV) (r : SE (List Ar)) : SE (List Ar) := e.bind fun p => r.bind fun as => SE.ret (.v p :: as)
def rP (i : Nat) (r : SE (List Ar)) : SE (List Ar) := fun ρ => match ρ[i]? with
  | some (some _) => r.bind (fun as => SE.ret (.pl i :: as)) ρ
  | _ => .bad
section
variable {K : PySem.W.Frag} {W : WX} {te : TE} {t : TA} {s : SE (List Ar)}
theorem ear_nil : EvAr K W tNil rNil := fun ρ σ F H A st Q nb hok hex => hok [] ρ rfl [] F H A st .nil (Go.refl ..)
theorem ear_v {e : SE PV} (he : Ev K nob (fr (RepF K)) W te e) (hr : EvAr K W t s) : EvAr K W (tCons te t) (rV e s) := by
  intro ρ σ F H A st Q nb hok hex
  have eb := bind_eq e (fun p => s.bind fun as => SE.ret (Ar.v p :: as)) ρ
  refine he ρ σ F H A (nob_le _) st (fun x H1 => t σ H1 fun xs H2 => Q (x :: xs) H2) (fun z => ?_) (fun p ρ1 e1 x F1 H1 A1 f st1 hx _ _ g1 => ?_) (fun x ρ1 e1 cls d F1 H1 A1 st1 g1 hx => ?_)
  · rw [z] at eb; exact nb eb
  · rw [e1] at eb
    obtain ⟨rfl, hx⟩ := hx
    have eb2 := bind_eq s (fun as => SE.ret (Ar.v p :: as)) ρ1
    refine hr ρ1 σ F1 H1 A1 st1 _ (fun z => ?_) (fun as ρ2 e2 vs F2 H2 A2 st2 ha g2 => ?_) (fun y ρ2 e2 cls d F2 H2 A2 st2 g2 hy => ?_)
    · rw [z] at eb2; exact nb (eb.trans eb2)
    · rw [e2] at eb2
      exact hok _ ρ2 (eb.trans eb2) (x :: vs) F2 H2 A2 st2 (.cons (RepF.mono g2.f _ _ hx) ha) (Go.trans g1 g2)
    · rw [e2] at eb2
      exact hex y ρ2 (eb.trans eb2) cls d F2 H2 A2 st2 (Go.trans g1 g2) hy
  · rw [e1] at eb
    exact hex x ρ1 eb cls d F1 H1 A1 st1 g1 hx
theorem ear_p {i : Nat} (hr : EvAr K W t s) : EvAr K W (tCons (tVar i) t) (rP i s) := by
  intro ρ σ F H A st Q nb hok hex
  unfold rP at nb hok hex
  cases e : ρ[i]? with
  | none => simp only [e] at nb; exact absurd rfl nb
  | some o => cases o with
    | none => simp only [e] at nb; exact absurd rfl nb
    | some m =>
      simp only [e] at nb hok hex
      obtain ⟨v, f, q1, q2, q3⟩ := st.get e
      have eb2 := bind_eq s (fun as => SE.ret (Ar.pl i :: as)) ρ
      refine ⟨v, q1, hr ρ σ F H A st _ (fun z => ?_) (fun as ρ2 e2 vs F2 H2 A2 st2 ha g2 => ?_) (fun y ρ2 e2 cls d F2 H2 A2 st2 g2 hy => ?_)⟩
      · rw [z] at eb2; exact nb eb2
      · rw [e2] at eb2
        exact hok _ ρ2 eb2 (v :: vs) F2 H2 A2 st2 (.cons (show σ[i]? = some (some v) from q1) ha) g2
      · rw [e2] at eb2
        exact hex y ρ2 eb2 cls d F2 H2 A2 st2 g2 hy
end
/-- the arguments as the callee gets them; slots that are owned are taken out -/
def gather : List Ar → Env → Option (List MV × Env)
  | [], ρ => some ([], ρ)
  | .v p :: r, ρ => (gather r ρ).map fun z => (.fz p :: z.1, z.2)
  | .pl i :: r, ρ => match ρ[i]? with
    | some (some (.fz p)) => (gather r ρ).map fun z => (.fz p :: z.1, z.2)
    | some (some m) => (gather r (ρ.set i none)).map fun z => (m :: z.1, z.2)
    | _ => none
/-- what the callee leaves of them is put back -/
def putB : List Ar → List MV → Env → Env
  | .pl i :: r, m :: ms, ρ => putB r ms (match ρ[i]? with
    | some none => ρ.set i (some m)
    | _ => ρ)
  | .v _ :: r, _ :: ms, ρ => putB r ms ρ
  | _, _, ρ => ρ
theorem slots_some {K : PySem.W.Frag} {F H : Hp} {m : MV} {ms : List MV} {v : V} {vs : List V} {f g : List Addr} (h : RepM K F H m v f) (h2 : Slots K F H (ms.map some) (vs.map some) g) : Slots K F H ((m :: ms).map some) ((v :: vs).map some) (f ++ g) :=
  ⟨v, vs.map some, f, g, rfl, rfl, h, h2⟩
theorem gather_ok {K : PySem.W.Frag} {F H : Hp} {σ : L2.St} : ∀ {as : List Ar} {vs : List V} {ρ ρ1 : Env} {A : List Addr} {ms : List MV}, ArRep K F σ as vs → Slots K F H ρ σ A → gather as ρ = some (ms, ρ1) →
    ∃ Aa A1, A.Perm (Aa ++ A1) ∧ Slots K F H (ms.map some) (vs.map some) Aa ∧ Slots K F H ρ1 σ A1
  | [], _, ρ, ρ1, A, ms, .nil, h, e => by
    cases e
    exact ⟨[], A, .refl _, ⟨rfl, rfl⟩, h⟩
  | .v p :: r, _, ρ, ρ1, A, ms, .cons hx hr, h, e => by
    have e' : (gather r ρ).map (fun z => (MV.fz p :: z.1, z.2)) = some (ms, ρ1) := e
    cases e2 : gather r ρ with
    | none => rw [e2] at e'; cases e'
    | some z =>
      rw [e2] at e'
      cases e'
      obtain ⟨Aa, A1, q1, q2, q3⟩ := gather_ok hr h e2
      exact ⟨Aa, A1, q1, slots_some (f := []) (by rw [RepM]; exact ⟨rfl, hx⟩) q2, q3⟩
  | .pl i :: r, _, ρ, ρ1, A, ms, .cons (b := v) hx hr, h, e => by
    have hx' : σ[i]? = some (some v) := hx
    unfold gather at e
    cases e0 : ρ[i]? with
    | none => simp only [e0] at e; cases e
    | some o => cases o with
      | none => simp only [e0] at e; cases e
      | some m =>
        obtain ⟨v', f, A', q1, q2, q3, q4⟩ := h.take e0
        rw [hx'] at q1
        cases q1
        have own : (gather r (ρ.set i none)).map (fun z => (m :: z.1, z.2)) = some (ms, ρ1) → ∃ Aa A1, A.Perm (Aa ++ A1) ∧ Slots K F H (ms.map some) ((v :: _).map some) Aa ∧ Slots K F H ρ1 σ A1 := fun e' => by
          cases e2 : gather r (ρ.set i none) with
          | none => rw [e2] at e'; cases e'
          | some z =>
            rw [e2] at e'
            cases e'
            obtain ⟨Aa, A1, p1, p2, p3⟩ := gather_ok hr q4 e2
            exact ⟨f ++ Aa, A1, (q3.trans (List.Perm.append_left f p1)).trans (by rw [List.append_assoc]), slots_some q2 p2, p3⟩
        cases m with
        | fz p =>
          simp only [e0] at e
          rw [RepM] at q2
          cases e2 : gather r ρ with
          | none => rw [e2] at e; cases e
          | some z =>
            rw [e2] at e
            cases e
            obtain ⟨Aa, A1, p1, p2, p3⟩ := gather_ok hr h e2
            exact ⟨Aa, A1, p1, slots_some (f := []) (by rw [RepM]; exact ⟨rfl, q2.2⟩) p2, p3⟩
        | ml xs => simp only [e0] at e; exact own e
        | md ks xs => simp only [e0] at e; exact own e
theorem putB_ok {K : PySem.W.Frag} {F H : Hp} {σ : L2.St} : ∀ {as : List Ar} {outs : List MV} {vs ws : List V} {ρ : Env} {A Ao : List Addr}, Paired (fun a v => ∀ i, a = Ar.pl i → σ[i]? = some (some v)) as vs → ws = vs.take outs.length → Slots K F H (outs.map some) (ws.map some) Ao → Slots K F H ρ σ A →
    ∃ A2 D, (Ao ++ A).Perm (A2 ++ D) ∧ Slots K F H (putB as outs ρ) σ A2
  | [], outs, vs, ws, ρ, A, Ao, h, ew, ho, hr => ⟨A, Ao, List.perm_append_comm, by unfold putB; exact hr⟩
  | a :: r, [], vs, ws, ρ, A, Ao, h, ew, ho, hr => ⟨A, Ao, List.perm_append_comm, by cases a <;> (unfold putB; exact hr)⟩
  | a :: r, m :: ms, v :: vs, ws, ρ, A, Ao, .cons hx ht, ew, ho, hr => by
    subst ew
    obtain ⟨v', rest, f, g, e1, e2, e3, e4⟩ := ho
    have e1' : some v = some v' ∧ (vs.take ms.length).map some = rest := List.cons.inj e1
    obtain ⟨e5, rfl⟩ := e1'
    cases e5
    subst e2
    cases a with
    | v p =>
      obtain ⟨A2, D, q1, q2⟩ := putB_ok ht rfl e4 hr
      refine ⟨A2, f ++ D, ?_, q2⟩
      rw [List.append_assoc]
      refine (List.Perm.append_left f q1).trans ?_
      rw [← List.append_assoc, ← List.append_assoc]
      exact List.Perm.append_right D List.perm_append_comm
    | pl i =>
      have hi := hx i rfl
      have keep : ∀ ρ', ρ' = ρ → ∃ A2 D, (f ++ g ++ A).Perm (A2 ++ D) ∧ Slots K F H (putB r ms ρ') σ A2 := fun ρ' z => by
        subst z
        obtain ⟨A2, D, q1, q2⟩ := putB_ok ht rfl e4 hr
        refine ⟨A2, f ++ D, ?_, q2⟩
        rw [List.append_assoc]
        refine (List.Perm.append_left f q1).trans ?_
        rw [← List.append_assoc, ← List.append_assoc]
        exact List.Perm.append_right D List.perm_append_comm
      unfold putB
      cases e0 : ρ[i]? with
      | none => exact keep _ rfl
      | some o => cases o with
        | some m0 => exact keep _ rfl
        | none =>
          obtain ⟨A', p1, p2⟩ := Slots.put e3 hr e0
          have es : σ.set i (some v) = σ := by
            obtain ⟨h1, h2⟩ := List.getElem?_eq_some_iff.mp hi
            rw [← h2, List.set_getElem_self]
          rw [es] at p2
          obtain ⟨A2, D, q1, q2⟩ := putB_ok ht rfl e4 p2
          refine ⟨A2, D, ?_, q2⟩
          refine List.Perm.trans ?_ q1
          refine List.Perm.trans ?_ (List.Perm.append_left g p1.symm)
          rw [← List.append_assoc]
          exact List.Perm.append_right A List.perm_append_comm
def callR (m : List MV → RF) (all : List Ar) : SE MV := fun ρ => match gather all ρ with
  | none => .bad
  | some z => match m z.1 with
    | .ok r outs => .ok r (putB all outs z.2)
    | .exc x outs => .exc x (putB all outs z.2)
    | .bad => .bad
theorem ar_idx {K : PySem.W.Frag} {F : Hp} {σ : L2.St} : ∀ {as : List Ar} {vs : List V}, ArRep K F σ as vs → Paired (fun a v => ∀ i, a = Ar.pl i → σ[i]? = some (some v)) as vs
  | _, _, .nil => .nil
  | _, _, .cons h r => .cons (fun i e => by subst e; exact h) (ar_idx r)
theorem callR_ok {K : PySem.W.Frag} {W : WX} {n np : Nat} {m : List MV → RF} {as : List Ar} {vs : List V} {ρ : Env} {σ : L2.St} {F H : Hp} {A : List Addr} {Q : VK} (ha : ArRep K F σ as vs) (hl : vs.length = np) (st : StOk K ρ σ F H A)
    (nb : callR m as ρ ≠ .bad)
    (hok : ∀ r ρ', callR m as ρ = .ok r ρ' → ∀ v F' H' A' f, StOk K ρ' σ F' H' A' → RepM K F' H' r v f → (f ++ A').Nodup → (∀ x ∈ f, F' x = none) → Go F H A F' H' (f ++ A') → Q v H')
    (hex : ∀ x ρ', callR m as ρ = .exc x ρ' → ∀ cls d F' H' A', StOk K ρ' σ F' H' A' → Go F H A F' H' A' → RepX K F' H' x cls d → W cls d σ H') : spF K n np m vs H Q (WE W σ) := by
  obtain ⟨B, pB, hs⟩ := st.sl
  unfold callR at nb hok hex
  cases e : gather as ρ with
  | none => simp only [e] at nb; exact absurd rfl nb
  | some z =>
    obtain ⟨ms, ρ1⟩ := z
    simp only [e] at nb hok hex
    obtain ⟨Aa, A1, q1, q2, q3⟩ := gather_ok ha hs e
    have pA : A.Perm (Aa ++ A1) := pB.trans q1
    have nd := pA.nodup_iff.mp st.nod
    have ndp := List.nodup_append.mp nd
    have memA : ∀ a ∈ Aa, a ∈ A := fun a h => pA.mem_iff.mpr (List.mem_append_left _ h)
    have memA1 : ∀ a ∈ A1, a ∈ A := fun a h => pA.mem_iff.mpr (List.mem_append_right _ h)
    have sta : StOk K (ms.map some) (vs.map some) F H Aa := ⟨st.sub, ndp.1, fun a h => st.out a (memA a h), Aa, .refl _, q2⟩
    have sl : vs.length = ms.length := by
      have := sta.len
      simpa using this
    have there1 : ∀ a ∈ A1, H a ≠ none := fun a h => st.there a (memA1 a h)
    -- behind the callee: what it left, and the rest as it was
    have back : ∀ {F' H' : Hp} {Ao f : List Addr} {outs : List MV}, StOk K (outs.map some) ((vs.take n).map some) F' H' Ao → Go F H Aa F' H' (f ++ Ao) → (f ++ Ao).Nodup → (∀ x ∈ f, F' x = none) →
        ∃ A', StOk K (putB as outs ρ1) σ F' H' A' ∧ (f ++ A').Nodup ∧ Go F H A F' H' (f ++ A') := fun {F' H' Ao f outs} so g ndf hf => by
      obtain ⟨Bo, pBo, hso⟩ := so.sl
      have dis1 : ∀ a ∈ A1, a ∉ Aa := fun a h1 h2 => ndp.2.2 a h2 a h1 rfl
      have k1 : ∀ a ∈ A1, ∀ o, H a = some o → H' a = some o := fun a h1 o eo => g.k a o eo (dis1 a h1)
      have hr' : Slots K F' H' ρ1 σ A1 := q3.mono g.f k1
      have hlv : vs.take n = vs.take outs.length := by
        have hl2 := so.len
        simp only [List.length_map, List.length_take] at hl2
        rw [← hl2]
        by_cases hn : n ≤ vs.length
        · rw [Nat.min_eq_left hn]
        · rw [Nat.min_eq_right (by omega), List.take_of_length_le (by omega), List.take_of_length_le (by omega)]
      obtain ⟨A2, D, p1, p2⟩ := putB_ok (ar_idx ha) hlv hso hr'
      have out1 : ∀ a ∈ A1, F' a = none := fun a h1 => by
        cases eq : F' a with
        | none => rfl
        | some o =>
          rcases g.n a (st.out a (memA1 a h1)) (by rw [eq]; simp) with z | z
          · exact absurd z (there1 a h1)
          · exact absurd z (dis1 a h1)
      have ndall : (f ++ Ao ++ A1).Nodup := by
        rw [List.nodup_append]
        refine ⟨ndf, ndp.2.1, fun a h1 b h2 e => ?_⟩
        subst e
        rcases g.o a h1 with z | z
        · exact there1 a h2 z
        · exact dis1 a h2 z
      have perm2 : (f ++ Ao ++ A1).Perm (f ++ A2 ++ D) := by
        rw [List.append_assoc, List.append_assoc]
        exact List.Perm.append_left f ((List.Perm.append_right A1 pBo).trans p1)
      have nd2 := perm2.nodup_iff.mp ndall
      have nd3 := (List.nodup_append.mp nd2).1
      have mem2 : ∀ a ∈ A2, a ∈ Ao ∨ a ∈ A1 := fun a h => by
        have : a ∈ Bo ++ A1 := p1.mem_iff.mpr (List.mem_append_left _ h)
        rcases List.mem_append.mp this with z | z
        · exact .inl (pBo.mem_iff.mpr z)
        · exact .inr z
      refine ⟨A2, ⟨so.sub, (List.nodup_append.mp nd3).2.1, fun a h => ?_, A2, .refl _, p2⟩, nd3, ⟨g.f, fun b o eo hb => g.k b o eo fun h => hb (memA b h), fun b eb q => ?_, fun b hb => ?_⟩⟩
      · rcases mem2 a h with z | z
        · exact so.out a z
        · exact out1 a z
      · rcases g.n b eb q with z | z
        · exact .inl z
        · exact .inr (memA b z)
      · rcases List.mem_append.mp hb with z | z
        · rcases g.o b (List.mem_append_left _ z) with y | y
          · exact .inl y
          · exact .inr (memA b y)
        · rcases mem2 b z with y | y
          · rcases g.o b (List.mem_append_right _ y) with x | x
            · exact .inl x
            · exact .inr (memA b x)
          · exact .inr (memA1 b y)
    refine ⟨hl, ms, F, Aa, sta, fun z => ?_, fun r outs e2 v F' H' A' f so hr ndf hf g => ?_, fun x outs e2 cls d F' H' A' so g hx => ?_⟩
    · simp only [z] at nb; exact nb rfl
    · simp only [e2] at hok
      obtain ⟨A2, s2, nd2, g2⟩ := back so g ndf hf
      exact hok r _ rfl v F' H' A2 f s2 hr nd2 hf g2
    · simp only [e2] at hex
      obtain ⟨A2, s2, nd2, g2⟩ := back (f := []) so (by simpa using g) (by simpa using so.nod) (by simp)
      exact hex x _ rfl cls d F' H' A2 s2 (by simpa using g2) hx
theorem outsOf_len : ∀ {ρ : Env} {l : List MV}, outsOf ρ = some l → l.length = ρ.length := fun {ρ l} e => by
  rw [outsOf_eq e, List.length_map]
/-- the arguments' order -/
def GOk (g : {α : Type} → List α → List α → List α) : Prop := ∀ {α β : Type} (R : α → β → Prop) {xs ys : List α} {us ws : List β}, Paired R xs us → Paired R ys ws → Paired R (g xs ys) (g us ws)
def gPos {α : Type} (xs _ys : List α) : List α := xs
theorem gOk_pos : GOk @gPos := fun {_ _} _ {_ _ _ _} h _ => h
theorem Paired.app {α β : Type} {R : α → β → Prop} : ∀ {xs ys : List α} {us ws : List β}, Paired R xs us → Paired R ys ws → Paired R (xs ++ ys) (us ++ ws)
  | _, _, _, _, .nil, h => h
  | _, _, _, _, .cons a r, h => .cons a (Paired.app r h)
theorem Paired.pick {α β : Type} {R : α → β → Prop} : ∀ {xs : List α} {us : List β} (i : Nat), Paired R xs us → (xs[i]? = none ∧ us[i]? = none) ∨ ∃ a b, xs[i]? = some a ∧ us[i]? = some b ∧ R a b
  | _, _, _, .nil => .inl (by simp)
  | _, _, 0, .cons h _ => .inr ⟨_, _, rfl, rfl, h⟩
  | _, _, i + 1, .cons _ r => by
    rcases Paired.pick i r with h | ⟨a, b, h1, h2, h3⟩
    · exact .inl (by simpa using h)
    · exact .inr ⟨a, b, by simpa using h1, by simpa using h2, h3⟩
/-- positional values, then keywords: by these places -/
def gKw (idx : List Nat) {α : Type} (xs ys : List α) : List α := idx.filterMap fun i => (xs ++ ys)[i]?
theorem gOk_kw (idx : List Nat) : GOk (fun {α} => gKw (α := α) idx) := fun {α β} R {xs ys us ws} h1 h2 => by
  have h := Paired.app h1 h2
  show Paired R (idx.filterMap fun i => (xs ++ ys)[i]?) (idx.filterMap fun i => (us ++ ws)[i]?)
  induction idx with
  | nil => exact .nil
  | cons i r ih =>
    rcases Paired.pick i h with ⟨e1, e2⟩ | ⟨a, b, e1, e2, e3⟩
    · rw [List.filterMap_cons, List.filterMap_cons, e1, e2]
      exact ih
    · rw [List.filterMap_cons, List.filterMap_cons, e1, e2]
      exact .cons e3 ih
def eCall (m : List MV → RF) (g : {α : Type} → List α → List α → List α) (sa sk : SE (List Ar)) : SE MV := sa.bind fun as => sk.bind fun bs => callR m (g as bs)
theorem ev_call {K : PySem.W.Frag} {W : WX} {n np kn km : Nat} {m : List MV → RF} {g : {α : Type} → List α → List α → List α} {ta tk : TA} {sa sk : SE (List Ar)} (hg : GOk @g) (ha : EvAr K W ta sa) (hk : EvAr K W tk sk)
    (hla : ∀ ρ as ρ', sa ρ = .ok as ρ' → as.length = kn) (hlk : ∀ ρ as ρ', sk ρ = .ok as ρ' → as.length = km) (hlg : ∀ (as bs : List V), as.length = kn → bs.length = km → (g as bs).length = np) :
    Ev K nob (RepM K) W (tCallG kn km (spF K n np m) @g (WE W) ta tk) (eCall m @g sa sk) := by
  intro ρ σ F H A sB st Q nb hok hex
  have eb := bind_eq sa (fun as => sk.bind fun bs => callR m (g as bs)) ρ
  refine ha ρ σ F H A st _ (fun z => ?_) (fun as ρ1 e1 vs F1 H1 A1 st1 h1 g1 => ?_) (fun x ρ1 e1 cls d F1 H1 A1 st1 g1 hx => ?_)
  · rw [z] at eb; exact nb eb
  · rw [e1] at eb
    have eb2 := bind_eq sk (fun bs => callR m (g as bs)) ρ1
    refine hk ρ1 σ F1 H1 A1 st1 _ (fun z => ?_) (fun bs ρ2 e2 zs F2 H2 A2 st2 h2 g2 => ?_) (fun y ρ2 e2 cls d F2 H2 A2 st2 g2 hy => ?_)
    · rw [z] at eb2; exact nb (eb.trans eb2)
    · rw [e2] at eb2
      have l1 : vs.length = kn := by rw [← Paired.length h1]; exact hla ρ as ρ1 e1
      have l2 : zs.length = km := by rw [← Paired.length h2]; exact hlk ρ1 bs ρ2 e2
      have e3 : eCall m @g sa sk ρ = callR m (g as bs) ρ2 := eb.trans eb2
      refine ⟨l1, l2, callR_ok (hg _ (ArRep.mono g2.f h1) h2) (hlg vs zs l1 l2) st2 (fun z => nb (e3.trans z)) (fun r ρ' e4 v F' H' A' f so hr ndf hf g' => ?_) (fun x ρ' e4 cls d F' H' A' so g' hx => ?_)⟩
      · exact hok r ρ' (e3.trans e4) v F' H' A' f so hr ndf hf (Go.trans (Go.trans g1 g2) g')
      · exact hex x ρ' (e3.trans e4) cls d F' H' A' so (Go.trans (Go.trans g1 g2) g') hx
    · rw [e2] at eb2
      exact hex y ρ2 (eb.trans eb2) cls d F2 H2 A2 st2 (Go.trans g1 g2) hy
  · rw [e1] at eb
    exact hex x ρ1 eb cls d F1 H1 A1 st1 g1 hx
theorem runF_outs (n np nl : Nat) (hn : n ≤ np) (body : SE Out) : ∀ ms r outs, runF n np nl body ms = .ok r outs ∨ (∃ x, runF n np nl body ms = .exc x outs) → outs.length ≤ n := by
  intro ms r outs h
  have lt : ∀ {ρ' : Env} {l : List MV}, outsOf (ρ'.take n) = some l → l.length ≤ n := fun {ρ' l} e => by
    rw [outsOf_len e, List.length_take]
    omega
  unfold runF at h
  split at h
  · cases e : body (ms.map some ++ List.replicate nl none) with
    | bad => simp only [e] at h; rcases h with h | ⟨x, h⟩ <;> cases h
    | exc x ρ' =>
      simp only [e] at h
      cases eo : outsOf (ρ'.take n) with
      | none => simp only [eo] at h; rcases h with h | ⟨x, h⟩ <;> cases h
      | some l =>
        simp only [eo] at h
        rcases h with h | ⟨x, h⟩
        · cases h
        · cases h; exact lt eo
    | ok o ρ' =>
      cases o with
      | nx =>
        simp only [e] at h
        cases eo : outsOf (ρ'.take n) with
        | none => simp only [eo] at h; rcases h with h | ⟨x, h⟩ <;> cases h
        | some l =>
          simp only [eo] at h
          rcases h with h | ⟨x, h⟩
          · cases h; exact lt eo
          · cases h
      | rt m =>
        simp only [e] at h
        cases eo : outsOf (ρ'.take n) with
        | none => simp only [eo] at h; rcases h with h | ⟨x, h⟩ <;> cases h
        | some l =>
          simp only [eo] at h
          rcases h with h | ⟨x, h⟩
          · cases h; exact lt eo
          · cases h
      | bk => simp only [e] at h; rcases h with h | ⟨x, h⟩ <;> cases h
      | ct => simp only [e] at h; rcases h with h | ⟨x, h⟩ <;> cases h
  · rcases h with h | ⟨x, h⟩ <;> cases h
end Mv

set_option Elab.async false
set_option linter.all false
set_option maxRecDepth 100000
set_option maxHeartbeats 4000000
namespace Mv
open PySem PySem.Spec PyProof.Rows L2

/-! ### a scope in which all that is owned is only read -/
def flat : PV → Bool
  | .non => true
  | .bl _ => true
  | .int _ => true
  | .str _ => true
  | _ => false
def fzAll (ρ : Env) : Env := ρ.map fun o => o.map fun m => .fz m.view
def eScope (s : SE PV) : SE PV := fun ρ => match s (fzAll ρ) with
  | .ok p _ => if flat p = true then .ok p ρ else .bad
  | _ => .bad
def tScope (s : SE Bool) : SE Bool := fun ρ => match s (fzAll ρ) with
  | .ok b _ => .ok b ρ
  | _ => .bad
theorem Slots.fzAll {K : PySem.W.Frag} {F H : Hp} {A : List Addr} (hn : ∀ a ∈ A, F a = none) : ∀ {ρ : Env} {σ : L2.St} {B : List Addr}, (∀ a ∈ B, a ∈ A) → Slots K F H ρ σ B → Slots K (frz F H A) H (Mv.fzAll ρ) σ []
  | [], σ, B, hB, h => ⟨h.1, rfl⟩
  | none :: ρ, σ, B, hB, h => by
    obtain ⟨o, r, e, h⟩ := h
    exact ⟨o, r, e, Slots.fzAll hn hB h⟩
  | some m :: ρ, σ, B, hB, h => by
    obtain ⟨v, r, f, g, e, e2, e3, h⟩ := h
    subst e2
    refine ⟨v, r, [], [], e, rfl, ?_, Slots.fzAll hn (fun a ha => hB a (List.mem_append_right _ ha)) h⟩
    rw [RepM]
    exact ⟨rfl, RepF.mono (frz_le hn fun b hb => hB b (List.mem_append_left _ hb)) _ _ (RepM.freeze m v f (fun a ha => hn a (hB a (List.mem_append_left _ ha))) e3)⟩
theorem StOk.fzAll {K : PySem.W.Frag} {ρ : Env} {σ : L2.St} {F H : Hp} {A : List Addr} (s : StOk K ρ σ F H A) : StOk K (Mv.fzAll ρ) σ (frz F H A) H [] := by
  obtain ⟨B, q, h⟩ := s.sl
  exact ⟨frz_sub s.sub, by simp, by simp, [], .refl _, h.fzAll s.out fun a ha => q.mem_iff.mpr ha⟩
theorem flat_rep {K : PySem.W.Frag} {F F' : Hp} {p : PV} {v : V} (h : flat p = true) (hp : RepF K F p v) : RepF K F' p v := by
  cases p <;> first
    | exact nomatch (show false = true from h)
    | (rw [RepF] at hp ⊢; exact hp)
theorem Ev.scope {K : PySem.W.Frag} {W : WX} {te : TE} {s : SE PV} (h : Ev K nob (fr (RepF K)) W te s) : Ev K nob (fr (RepF K)) W te (eScope s) := by
  intro ρ σ F H A sB st Q nb hok hex
  have eb : eScope s ρ = match s (Mv.fzAll ρ) with
    | .ok p _ => if flat p = true then .ok p ρ else .bad
    | _ => .bad := rfl
  refine h (Mv.fzAll ρ) σ (frz F H A) H [] (nob_le _) st.fzAll Q (fun e => ?_) (fun p ρ' e b F' H' A' f st' hr nd hn go => ?_) (fun x ρ' e => ?_)
  · rw [e] at eb; exact absurd eb nb
  · rw [e] at eb
    have eb' : eScope s ρ = if flat p = true then .ok p ρ else .bad := eb
    by_cases hp : flat p = true
    · rw [if_pos hp] at eb'
      have kp : Same H H' := fun b o e => go.k b o e (by simp)
      refine hok p ρ eb' b F H' A [] (st.grow (Same.refl F) (fun b o e => kp b o (st.sub b o e)) (fun a _ o e => kp a o e) st.out) ⟨rfl, flat_rep hp hr.2⟩ (by simpa using st.nod) (by simp) ⟨Same.refl F, fun b o e _ => kp b o e, fun b e q => absurd e q, fun b hb => .inr (by simpa using hb)⟩
    · rw [if_neg hp] at eb'
      exact absurd eb' nb
  · rw [e] at eb; exact absurd eb nb
theorem Ev.scopeT {K : PySem.W.Frag} {W : WX} {te : TT} {s : SE Bool} (h : Ev K nob (fr zB) W te s) : Ev K nob (fr zB) W te (tScope s) := by
  intro ρ σ F H A sB st Q nb hok hex
  have eb : tScope s ρ = match s (Mv.fzAll ρ) with
    | .ok b _ => .ok b ρ
    | _ => .bad := rfl
  refine h (Mv.fzAll ρ) σ (frz F H A) H [] (nob_le _) st.fzAll Q (fun e => ?_) (fun p ρ' e b F' H' A' f st' hr nd hn go => ?_) (fun x ρ' e => ?_)
  · rw [e] at eb; exact absurd eb nb
  · rw [e] at eb
    have kp : Same H H' := fun b o e => go.k b o e (by simp)
    exact hok p ρ eb b F H' A [] (st.grow (Same.refl F) (fun b o e => kp b o (st.sub b o e)) (fun a _ o e => kp a o e) st.out) ⟨rfl, hr.2⟩ (by simpa using st.nod) (by simp) ⟨Same.refl F, fun b o e _ => kp b o e, fun b e q => absurd e q, fun b hb => .inr (by simpa using hb)⟩
  · rw [e] at eb; exact absurd eb nb
theorem QE.scope {X : Cx} {W : WX} {e : Expr} {te : TE} {s : SE PV} (h : QE X W e te s) : QE X W e te (eScope s) := ⟨h.pe, h.ev.scope⟩
theorem QT.scope {X : Cx} {W : WX} {e : Expr} {te : TT} {s : SE Bool} (h : QT X W e te s) : QT X W e te (tScope s) := ⟨h.pt, h.ev.scopeT⟩

/-! ### slots forgotten, and back -/
def wipeE (ρ : Env) : List Nat → Env
  | [] => ρ
  | v :: vs => (wipeE ρ vs).set v none
theorem wipeE_length (ρ : Env) : ∀ vs : List Nat, (wipeE ρ vs).length = ρ.length
  | [] => rfl
  | v :: vs => by rw [wipeE, List.length_set, wipeE_length ρ vs]
theorem wipeE_none {ρ : Env} {i : Nat} : ∀ {vs : List Nat}, i ∈ vs → i < ρ.length → (wipeE ρ vs)[i]? = some none
  | v :: vs, h, hl => by
    rw [wipeE]
    by_cases e : v = i
    · subst e
      rw [List.getElem?_set_self (by rw [wipeE_length]; exact hl)]
    · rw [List.getElem?_set_ne e]
      exact wipeE_none (by rcases List.mem_cons.mp h with z | z; exact absurd z.symm e; exact z) hl
def backE : List Nat → Env → Env → Env
  | [], _, ρ => ρ
  | v :: vs, ρ1, ρ => backE vs ρ1 (ρ.set v (match ρ1[v]? with
    | some (some (.fz p)) => some (.fz p)
    | _ => none))
theorem StOk.wipe {K : PySem.W.Frag} {ρ : Env} {σ : L2.St} {F H : Hp} {A : List Addr} (s : StOk K ρ σ F H A) : ∀ vs : List Nat, ∃ A', (∀ a ∈ A', a ∈ A) ∧ StOk K (wipeE ρ vs) (L2.wipe σ vs) F H A'
  | [] => ⟨A, fun _ h => h, s⟩
  | v :: vs => by
    obtain ⟨A1, m1, s1⟩ := StOk.wipe s vs
    obtain ⟨A2, nd, m2, s2⟩ := s1.drop v none
    exact ⟨A2, fun a h => m1 a (m2 a h), s2⟩
theorem Slots.anyAt {K : PySem.W.Frag} {F H : Hp} (o : Option V) : ∀ {ρ : Env} {σ : L2.St} {A : List Addr} {i : Nat}, Slots K F H ρ σ A → ρ[i]? = some none → Slots K F H ρ (σ.set i o) A
  | [], σ, A, i, h, e => by simp at e
  | none :: ρ, σ, A, 0, h, e => by
    obtain ⟨o', r, e1, h⟩ := h
    subst e1
    exact ⟨o, r, rfl, h⟩
  | some m :: ρ, σ, A, 0, h, e => by simp at e
  | none :: ρ, σ, A, i + 1, h, e => by
    obtain ⟨o', r, e1, h⟩ := h
    subst e1
    exact ⟨o', _, rfl, Slots.anyAt o h (by simpa using e)⟩
  | some m :: ρ, σ, A, i + 1, h, e => by
    obtain ⟨v, r, f, g, e1, e2, e3, h⟩ := h
    subst e1
    exact ⟨v, _, f, g, rfl, e2, e3, Slots.anyAt o h (by simpa using e)⟩
theorem wipe_notin {σ : L2.St} {i : Nat} : ∀ {vs : List Nat}, i ∉ vs → (L2.wipe σ vs)[i]? = σ[i]?
  | [], h => rfl
  | v :: vs, h => by
    rw [L2.wipe, List.getElem?_set_ne (by intro e; subst e; exact h (List.mem_cons_self ..))]
    exact wipe_notin fun z => h (List.mem_cons_of_mem _ z)
theorem StOk.back {K : PySem.W.Frag} {ρ1 : Env} {σ : L2.St} {F1 H1 F H : Hp} {A1 : List Addr} (s1 : StOk K ρ1 σ F1 H1 A1) (e : Same F1 F) : ∀ {vs : List Nat} {ρ : Env} {A : List Addr}, vs.Nodup → (∀ i ∈ vs, i < ρ.length → ρ[i]? = some none) → StOk K ρ (L2.wipe σ vs) F H A → StOk K (backE vs ρ1 ρ) σ F H A
  | [], ρ, A, nd, hv, s => s
  | v :: vs, ρ, A, nd, hv, s => by
    rw [backE]
    obtain ⟨nv, nd'⟩ := List.nodup_cons.mp nd
    refine StOk.back s1 e nd' (fun i hi hl => ?_) ?_
    · rw [List.getElem?_set_ne (by intro z; subst z; exact nv hi)]
      exact hv i (List.mem_cons_of_mem _ hi) (by simpa using hl)
    · by_cases hl : v < ρ.length
      · have hz := hv v (List.mem_cons_self ..) hl
        have hsl : (L2.wipe σ (v :: vs)).length = ρ.length := s.len
        have hw : (L2.wipe σ vs)[v]? = σ[v]? := wipe_notin nv
        have ew : L2.wipe σ (v :: vs) = (L2.wipe σ vs).set v none := rfl
        have lw : (L2.wipe σ vs).length = ρ.length := by rw [ew, List.length_set] at hsl; exact hsl
        have key : ∀ x, σ[v]? = some x → ((L2.wipe σ vs).set v none).set v x = L2.wipe σ vs := fun x hx => by
          rw [List.set_set]
          rw [hx] at hw
          obtain ⟨h1, h2⟩ := List.getElem?_eq_some_iff.mp hw
          rw [← h2, List.set_getElem_self]
        have drop : StOk K (ρ.set v none) (L2.wipe σ vs) F H A := by
          have e1 : ρ.set v none = ρ := by
            obtain ⟨h1, h2⟩ := List.getElem?_eq_some_iff.mp hz
            rw [← h2, List.set_getElem_self]
          rw [e1]
          have hx : ∃ x, σ[v]? = some x := by
            rw [← hw]
            exact ⟨_, List.getElem?_eq_getElem (by omega)⟩
          obtain ⟨x, hx⟩ := hx
          obtain ⟨B, q, h⟩ := s.sl
          rw [ew] at h
          have h2 := h.anyAt x hz
          rw [key x hx] at h2
          exact ⟨s.sub, s.nod, s.out, B, q, h2⟩
        cases e0 : ρ1[v]? with
        | none => exact drop
        | some o => cases o with
          | none => exact drop
          | some m => cases m with
            | fz p =>
              obtain ⟨x, q1, q2⟩ := s1.getF e0
              have s2 := s.put (i := v) (m := .fz p) (v := x) (f := []) hz (by rw [RepM]; exact ⟨rfl, RepF.mono e _ _ q2⟩) (by simpa using s.nod) (by simp)
              rw [ew, key _ q1] at s2
              exact s2
            | ml xs => exact drop
            | md ks xs => exact drop
      · have hsl : (L2.wipe σ (v :: vs)).length = ρ.length := s.len
        have ew : L2.wipe σ (v :: vs) = (L2.wipe σ vs).set v none := rfl
        rw [ew, List.length_set] at hsl
        have e1 : (L2.wipe σ vs).set v none = L2.wipe σ vs := List.set_eq_of_length_le (by omega)
        rw [List.set_eq_of_length_le (by omega)]
        rw [ew, e1] at s
        exact s
theorem Chg.wipe {tl vs : List Nat} {σ σ2 : L2.St} (c : Chg tl (L2.wipe σ vs) σ2) (h : ∀ j ∈ tl, j ∈ vs) : L2.wipe σ2 vs = L2.wipe σ vs := by
  have lens : (L2.wipe σ2 vs).length = (L2.wipe σ vs).length := by rw [wipe_length, c.1]
  apply List.ext_getElem?
  intro i
  by_cases hi : i ∈ vs
  · by_cases hl : i < (L2.wipe σ vs).length
    · have wn : ∀ (τ : L2.St) (us : List Nat), i ∈ us → i < τ.length → (L2.wipe τ us)[i]? = some none := by
        intro τ us
        induction us with
        | nil => intro h; cases h
        | cons v r ih =>
          intro h hl
          rw [L2.wipe]
          by_cases e : v = i
          · subst e
            rw [List.getElem?_set_self (by rw [wipe_length]; exact hl)]
          · rw [List.getElem?_set_ne e]
            exact ih (by rcases List.mem_cons.mp h with z | z; exact absurd z.symm e; exact z) hl
      rw [wn σ2 vs hi (by rw [c.1]; exact hl), wn σ vs hi (by rw [wipe_length] at hl; exact hl)]
    · rw [List.getElem?_eq_none (by omega), List.getElem?_eq_none (by omega)]
  · rw [wipe_notin hi, c.2 i fun z => hi (h i z)]

/-! ### a list in the making -/
structure Dk (D : Addr) (xs : List V) (F H : Hp) (A : List Addr) : Prop where
  h : H D = some (.lst xs)
  f : F D = none
  a : D ∉ A
theorem Go.dk {F H F' H' : Hp} {A A' : List Addr} {D : Addr} {xs : List V} (g : Go F H A F' H' A') (d : Dk D xs F H A) : Dk D xs F' H' A' := by
  refine ⟨g.k D _ d.h d.a, ?_, fun hm => ?_⟩
  · cases e : F' D with
    | none => rfl
    | some o =>
      rcases g.n D d.f (by rw [e]; simp) with z | z
      · rw [d.h] at z; cases z
      · exact absurd z d.a
  · rcases g.o D hm with z | z
    · rw [d.h] at z; cases z
    · exact d.a z
theorem Go.side {F H F' H' : Hp} {A A' : List Addr} {D : Addr} (g : Go F H A F' H' A') : Go F H (D :: A) F' H' (D :: A') :=
  ⟨g.f, fun b o e hb => g.k b o e fun z => hb (List.mem_cons_of_mem _ z), fun b e q => (g.n b e q).imp id fun z => List.mem_cons_of_mem _ z, fun b hb => by
    rcases List.mem_cons.mp hb with z | z
    · exact .inr (z ▸ List.mem_cons_self ..)
    · exact (g.o b z).imp id fun y => List.mem_cons_of_mem _ y⟩
theorem Go.upd {F H F' H' : Hp} {A A' : List Addr} {D : Addr} {u : HO} (g : Go F H A F' H' (D :: A')) (hD : D ∈ A) : Go F H A F' (L2.upd H' D u) (D :: A') :=
  ⟨g.f, fun b o e hb => by rw [upd_ne (by intro z; subst z; exact hb hD)]; exact g.k b o e hb, g.n, g.o⟩
theorem StOk.upd {K : PySem.W.Frag} {ρ : Env} {σ : L2.St} {F H : Hp} {A : List Addr} {D : Addr} {xs : List V} {u : HO} (s : StOk K ρ σ F H A) (d : Dk D xs F H A) : StOk K ρ σ F (L2.upd H D u) A :=
  s.grow (Same.refl F) (fun b o e => by rw [upd_ne (ne_of_none e d.f)]; exact s.sub b o e) (fun a ha o e => by rw [upd_ne (by intro z; subst z; exact d.a ha)]; exact e) s.out

/-! ### comprehensions -/
def W0 : WX := fun _ _ _ _ => False
def lcGo (g : PV → Env → Option Env) (tt : SE Bool) (te : SE PV) (vs : List Nat) : List PV → List PV → Env → Option (List PV × Env)
  | [], acc, ρ => some (acc, ρ)
  | p :: r, acc, ρ => match g p ρ with
    | none => none
    | some ρ1 => match tt ρ1 with
      | .ok true ρ2 => (match te ρ2 with
        | .ok y ρ3 => lcGo g tt te vs r (acc ++ [y]) (wipeE ρ3 vs)
        | _ => none)
      | .ok false ρ2 => lcGo g tt te vs r acc (wipeE ρ2 vs)
      | _ => none
def sLc (it : SE (List PV)) (g : PV → Env → Option Env) (tt : SE Bool) (te : SE PV) (vs : List Nat) : SE MV := it.bind fun items ρ =>
  if items.length ≤ 16777216 then match lcGo g tt te vs items [] (wipeE ρ vs) with
    | some z => .ok (.ml (z.1.map .fz)) (backE vs ρ z.2)
    | none => .bad
  else .bad
theorem lcGo_cons {g : PV → Env → Option Env} {tt : SE Bool} {te : SE PV} {vs : List Nat} {p : PV} {r acc : List PV} {ρ : Env} : lcGo g tt te vs (p :: r) acc ρ = match g p ρ with
    | none => none
    | some ρ1 => match tt ρ1 with
      | .ok true ρ2 => (match te ρ2 with
        | .ok y ρ3 => lcGo g tt te vs r (acc ++ [y]) (wipeE ρ3 vs)
        | _ => none)
      | .ok false ρ2 => lcGo g tt te vs r acc (wipeE ρ2 vs)
      | _ => none := by rw [lcGo]
theorem ev_lc {K : PySem.W.Frag} {W : WX} {wi : TI} {g : TG} {tt : TT} {te : TE} {si : SE (List PV)} {sg : PV → Env → Option Env} {st : SE Bool} {se : SE PV} {tl vs : List Nat} (hi : Ev K nob (fr (IsIt K)) W wi si) (hg : EvG K tl g sg) (ht : Ev K nob (fr zB) W0 tt st) (he : Ev K nob (fr (RepF K)) W0 te se)
    (hs : ∀ j ∈ tl, j ∈ vs) (hnd : vs.Nodup) : Ev K nob (RepM K) W (tLc wi g tt te vs) (sLc si sg st se vs) := by
  intro ρ σ F H A sB sok Q nb hok hex
  have eb := bind_eq si (fun items ρ => if items.length ≤ 16777216 then match lcGo sg st se vs items [] (wipeE ρ vs) with
    | some z => .ok (MV.ml (z.1.map .fz)) (backE vs ρ z.2)
    | none => .bad
  else .bad) ρ
  refine hi ρ σ F H A sB sok _ (fun e => ?_) (fun items ρ1 e J F1 H1 A1 f st1 hr _ _ g1 => ?_) (fun x ρ' e cls d F' H' A' st' go hx => ?_)
  · rw [e] at eb; exact nb eb
  · rw [e] at eb
    obtain ⟨rfl, hJ⟩ := hr
    have eb2 : sLc si sg st se vs ρ = if items.length ≤ 16777216 then match lcGo sg st se vs items [] (wipeE ρ1 vs) with
      | some z => .ok (MV.ml (z.1.map .fz)) (backE vs ρ1 z.2)
      | none => .bad
    else .bad := eb
    by_cases hlen : items.length ≤ 16777216
    · rw [if_pos hlen] at eb2
      cases eg : lcGo sg st se vs items [] (wipeE ρ1 vs) with
      | none => rw [eg] at eb2; exact absurd eb2 nb
      | some z =>
        rw [eg] at eb2
        have eb3 : sLc si sg st se vs ρ = .ok (MV.ml (z.1.map .fz)) (backE vs ρ1 z.2) := eb2
        intro D hD
        have hF1 : F1 D = none := by
          cases q : F1 D with
          | none => rfl
          | some u => rw [st1.sub _ _ q] at hD; cases hD
        have hA1 : D ∉ A1 := fun hm => st1.there D hm hD
        obtain ⟨Aw, mw, stw⟩ := st1.wipe vs
        have dk0 : Dk D [] F1 (L2.upd H1 D (.lst [])) Aw := ⟨upd_same, hF1, fun hm => hA1 (mw D hm)⟩
        have stw0 : StOk K (wipeE ρ1 vs) (L2.wipe σ vs) F1 (L2.upd H1 D (.lst [])) Aw := stw.grow (Same.refl F1) (fun b o q => by rw [upd_ne (ne_of_none q hF1)]; exact stw.sub b o q) (fun a ha o q => by rw [upd_ne (by intro y; subst y; exact hA1 (mw a ha))]; exact q) stw.out
        have go0 : Go F1 H1 A1 F1 (L2.upd H1 D (.lst [])) (D :: Aw) := ⟨Same.refl _, fun b o q _ => by rw [upd_ne (ne_of_none q hD)]; exact q, fun b q y => absurd q y, fun b hb => by
          rcases List.mem_cons.mp hb with y | y
          · rw [y]; exact .inl hD
          · exact .inr (mw b y)⟩
        refine ⟨fun i m H' => m = items.length - i ∧ i ≤ items.length ∧ ∃ ρ' F' A' acc xs, StOk K ρ' (L2.wipe σ vs) F' H' A' ∧ Dk D xs F' H' A' ∧ RepFs K F' acc xs ∧ xs.length ≤ i ∧ Go F1 H1 A1 F' H' (D :: A') ∧ (∀ i ∈ vs, i < ρ'.length → ρ'[i]? = some none) ∧ lcGo sg st se vs (items.drop i) acc ρ' = some z,
          ⟨items.length, by simp, Nat.zero_le _, wipeE ρ1 vs, F1, Aw, [], [], stw0, dk0, by rw [RepFs], Nat.zero_le _, go0, fun i hi hl => wipeE_none hi (by rwa [wipeE_length] at hl), by rw [List.drop_zero]; exact eg⟩, ?_⟩
        rintro i m H2 ⟨rfl, hi2, ρ2, F2, A2, acc, xs, st2, dk2, ra2, hl2, g2, w2, eg2⟩
        by_cases hlt : i < items.length
        · rw [List.drop_eq_getElem_cons hlt, lcGo_cons] at eg2
          refine .inr ⟨hJ.goes i H2 F2 hlt g2.f st2.sub, fun H' => items.length - (i + 1) = items.length - (i + 1) ∧ i + 1 ≤ items.length ∧ ∃ ρ' F' A' acc xs, StOk K ρ' (L2.wipe σ vs) F' H' A' ∧ Dk D xs F' H' A' ∧ RepFs K F' acc xs ∧ xs.length ≤ i + 1 ∧ Go F1 H1 A1 F' H' (D :: A') ∧ (∀ i ∈ vs, i < ρ'.length → ρ'[i]? = some none) ∧ lcGo sg st se vs (items.drop (i + 1)) acc ρ' = some z,
            fun H' h' => ⟨items.length - (i + 1), by omega, h'⟩, fun x H3 y3 => ?_⟩
          obtain ⟨F3, s23, s33, sH, nw3, rp3⟩ := hJ.yields i items[i] H2 F2 x H3 (by rw [List.getElem?_eq_getElem hlt]) g2.f st2.sub y3
          have o3 : ∀ a, H2 a ≠ none → F2 a = none → F3 a = none := fun a h1 h2 => by
            cases q : F3 a with
            | none => rfl
            | some u => exact absurd (nw3 a h2 (by rw [q]; simp)) h1
          have st3 : StOk K ρ2 (L2.wipe σ vs) F3 H3 A2 := st2.grow s23 s33 (fun a _ o q => sH a o q) (fun a ha => o3 a (st2.there a ha) (st2.out a ha))
          have g23 : Go F2 H2 A2 F3 H3 A2 := ⟨s23, fun b o q _ => sH b o q, fun b q y => .inl (nw3 b q y), fun b hb => .inr hb⟩
          have dk3 := g23.dk dk2
          refine hg items[i] x ρ2 (L2.wipe σ vs) F3 H3 A2 rp3 st3 _ (fun q => ?_) (fun ρ4 q4 σ4 F4 H4 A4 st4 g4 ch4 => ⟨ch4.wipe hs, ?_⟩)
          · rw [q] at eg2; cases eg2
          · rw [q4] at eg2
            have g24 := g23.trans g4
            refine ht ρ4 σ4 F4 H4 A4 (nob_le _) st4 _ (fun q => ?_) (fun b ρ5 q5 b' F5 H5 A5 f5 st5 hr5 _ _ g5 => ?_) (fun y ρ5 q5 => ?_)
            · simp only [q] at eg2; cases eg2
            · obtain ⟨rfl, hb⟩ := hr5
              have hb' : b' = b := hb
              subst hb'
              have g25 := g24.trans g5
              have back : ∀ {σ6 : L2.St} {ρ6 : Env} {F6 H6 : Hp} {A6 : List Addr}, StOk K ρ6 σ6 F6 H6 A6 → L2.wipe σ6 vs = L2.wipe σ vs → ∃ A7, (∀ a ∈ A7, a ∈ A6) ∧ StOk K (wipeE ρ6 vs) (L2.wipe σ vs) F6 H6 A7 := fun {σ6 ρ6 F6 H6 A6} s6 e6 => by
                obtain ⟨A7, m7, s7⟩ := s6.wipe vs
                rw [e6] at s7
                exact ⟨A7, m7, s7⟩
              cases b' with
              | true =>
                simp only [q5] at eg2
                rw [if_pos rfl]
                refine he ρ5 σ4 F5 H5 A5 (nob_le _) st5 _ (fun q => ?_) (fun p ρ6 q6 v F6 H6 A6 f6 st6 hr6 _ _ g6 => ?_) (fun y ρ6 q6 => ?_)
                · simp only [q] at eg2; cases eg2
                · obtain ⟨rfl, hv⟩ := hr6
                  simp only [q6] at eg2
                  have g26 := g25.trans g6
                  have dk6 := g26.dk dk2
                  have l6 : xs.length < sizeLine := by rw [line_eq]; omega
                  refine ⟨xs, dk6.h, l6, rfl, hlt, ?_⟩
                  obtain ⟨A7, m7, s7⟩ := back st6 (ch4.wipe hs)
                  have dk7 : Dk D xs F6 H6 A7 := ⟨dk6.h, dk6.f, fun hm => dk6.a (m7 D hm)⟩
                  refine ⟨wipeE ρ6 vs, F6, A7, acc ++ [p], xs ++ [v], s7.upd dk7, ⟨upd_same, dk7.f, dk7.a⟩, RepFs.append (RepFs.mono g26.f _ _ ra2) (RepFs.single hv), by rw [List.length_append]; simp; omega, ?_, fun i hi hl => wipeE_none hi (by rwa [wipeE_length] at hl), eg2⟩
                  refine Go.trans g2 (Go.upd ((Go.side g26).weak fun a ha => ?_) (List.mem_cons_self ..))
                  rcases List.mem_cons.mp ha with y | y
                  · rw [y]; exact List.mem_cons_self ..
                  · exact List.mem_cons_of_mem _ (m7 a (by simpa using y))
                · simp only [q6] at eg2; cases eg2
              | false =>
                simp only [q5] at eg2
                rw [if_neg Bool.false_ne_true]
                have dk5 := g25.dk dk2
                obtain ⟨A7, m7, s7⟩ := back st5 (ch4.wipe hs)
                refine ⟨rfl, hlt, wipeE ρ5 vs, F5, A7, acc, xs, s7, ⟨dk5.h, dk5.f, fun hm => dk5.a (m7 D hm)⟩, RepFs.mono g25.f _ _ ra2, by omega, ?_, fun i hi hl => wipeE_none hi (by rwa [wipeE_length] at hl), eg2⟩
                refine Go.trans g2 ((Go.side g25).weak fun a ha => ?_)
                rcases List.mem_cons.mp ha with y | y
                · rw [y]; exact List.mem_cons_self ..
                · exact List.mem_cons_of_mem _ (m7 a (by simpa using y))
            · simp only [q5] at eg2; cases eg2
        · have ei : i = items.length := by omega
          subst ei
          rw [List.drop_length, lcGo] at eg2
          cases eg2
          refine .inl ⟨hJ.stops H2 F2 g2.f st2.sub, ?_⟩
          have st6 := st1.back g2.f hnd w2 st2
          refine hok _ _ eb3 (.ref D) F2 H2 A2 [D] st6 ?_ ?_ (fun x hx => ?_) (Go.trans g1 (by simpa using g2))
          · rw [RepM]
            exact ⟨D, xs, [], rfl, dk2.h, rfl, RepMs.fz ra2⟩
          · rw [List.singleton_append, List.nodup_cons]
            exact ⟨dk2.a, st2.nod⟩
          · rw [List.mem_singleton.mp hx]; exact dk2.f
    · rw [if_neg hlen] at eb2
      exact absurd eb2 nb
  · rw [e] at eb
    exact hex x ρ' eb cls d F' H' A' st' go hx
end Mv

set_option Elab.async false
set_option linter.all false
set_option maxRecDepth 100000
set_option maxHeartbeats 4000000
namespace Mv
open PySem PySem.Spec PyProof.Rows L2

/-! ### loops -/
def forL (g : PV → Env → Option Env) (b : SE Out) : List PV → SE Out
  | [] => fun ρ => .ok .nx ρ
  | p :: r => fun ρ => match g p ρ with
    | none => .bad
    | some ρ1 => match b ρ1 with
      | .ok .nx ρ2 => forL g b r ρ2
      | .ok .ct ρ2 => forL g b r ρ2
      | .ok .bk ρ2 => .ok .nx ρ2
      | .ok (.rt m) ρ2 => .ok (.rt m) ρ2
      | .exc x ρ2 => .exc x ρ2
      | .bad => .bad
def sFor (it : SE (List PV)) (g : PV → Env → Option Env) (b : SE Out) : SE Out := it.bind fun items => forL g b items
theorem forL_cons {g : PV → Env → Option Env} {b : SE Out} {p : PV} {r : List PV} {ρ : Env} : forL g b (p :: r) ρ = match g p ρ with
    | none => .bad
    | some ρ1 => match b ρ1 with
      | .ok .nx ρ2 => forL g b r ρ2
      | .ok .ct ρ2 => forL g b r ρ2
      | .ok .bk ρ2 => .ok .nx ρ2
      | .ok (.rt m) ρ2 => .ok (.rt m) ρ2
      | .exc x ρ2 => .exc x ρ2
      | .bad => .bad := by rw [forL]
theorem ev_for {K : PySem.W.Frag} {n : Nat} {W : WX} {wi : TI} {g : TG} {tb : TS} {si : SE (List PV)} {sg : PV → Env → Option Env} {sb : SE Out} {tl : List Nat} (hi : Ev K nob (fr (IsIt K)) W wi si) (hg : EvG K tl g sg) (hb : EvS K n W tb sb) (hn : ∀ j ∈ tl, n ≤ j) : EvS K n W (tFor wi g tb) (sFor si sg sb) := by
  intro ρ σ F H A st D w
  have eb := bind_eq si (fun items => forL sg sb items) ρ
  refine hi ρ σ F H A (nob_le _) st _ (fun e => ?_) (fun items ρ1 e J F1 H1 A1 f st1 hr _ _ g1 => ?_) (fun x ρ' e cls d F' H' A' st' go hx => ?_)
  · rw [e] at eb; exact w.nb eb
  · rw [e] at eb
    obtain ⟨rfl, hJ⟩ := hr
    have w1 : Wants K n W (forL sg sb items ρ1) σ F1 H1 A1 D := by
      have e2 : sFor si sg sb ρ = forL sg sb items ρ1 := eb
      rw [e2] at w
      exact w.go g1 (Fix.refl _ _)
    refine ⟨fun i m σ' H' => m = items.length - i ∧ i ≤ items.length ∧ ∃ ρ' F' A', StOk K ρ' σ' F' H' A' ∧ Go F1 H1 A1 F' H' A' ∧ Fix n σ σ' ∧ forL sg sb (items.drop i) ρ' = forL sg sb items ρ1,
      ⟨items.length, by simp, Nat.zero_le _, ρ1, F1, A1, st1, Go.refl .., Fix.refl _ _, by rw [List.drop_zero]⟩, ?_⟩
    rintro i m σ2 H2 ⟨rfl, hi2, ρ2, F2, A2, st2, g2, x2, e2⟩
    have w2 : Wants K n W (forL sg sb (items.drop i) ρ2) σ2 F2 H2 A2 D := by
      rw [e2]
      exact w1.go g2 x2
    by_cases hlt : i < items.length
    · have ed : items.drop i = items[i] :: items.drop (i + 1) := List.drop_eq_getElem_cons hlt
      rw [ed, forL_cons] at w2 e2
      refine .inr ⟨hJ.goes i H2 F2 hlt g2.f st2.sub, fun σ' H' => items.length - (i + 1) = items.length - (i + 1) ∧ i + 1 ≤ items.length ∧ ∃ ρ' F' A', StOk K ρ' σ' F' H' A' ∧ Go F1 H1 A1 F' H' A' ∧ Fix n σ σ' ∧ forL sg sb (items.drop (i + 1)) ρ' = forL sg sb items ρ1,
        fun σ' H' h' => ⟨items.length - (i + 1), by omega, h'⟩, fun x H3 y3 => ?_⟩
      obtain ⟨F3, s23, s33, sH, nw3, rp3⟩ := hJ.yields i items[i] H2 F2 x H3 (by rw [List.getElem?_eq_getElem hlt]) g2.f st2.sub y3
      have o3 : ∀ a, H2 a ≠ none → F2 a = none → F3 a = none := fun a h1 h2 => by
        cases q : F3 a with
        | none => rfl
        | some u => exact absurd (nw3 a h2 (by rw [q]; simp)) h1
      have st3 : StOk K ρ2 σ2 F3 H3 A2 := st2.grow s23 s33 (fun a _ o q => sH a o q) (fun a ha => o3 a (st2.there a ha) (st2.out a ha))
      have g23 : Go F2 H2 A2 F3 H3 A2 := ⟨s23, fun b o q _ => sH b o q, fun b q y => .inl (nw3 b q y), fun b hb => .inr hb⟩
      refine hg items[i] x ρ2 σ2 F3 H3 A2 rp3 st3 _ (fun q => ?_) (fun ρ4 q4 σ4 F4 H4 A4 st4 g4 ch4 => ?_)
      · rw [q] at w2; exact absurd rfl w2.nb
      · rw [q4] at w2 e2
        have x4 : Fix n σ2 σ4 := ch4.fix hn
        have g24 := g23.trans g4
        have w4 := w2.go g24 x4
        refine hb ρ4 σ4 F4 H4 A4 st4 _ ⟨fun q => ?_, fun ρ5 q σ5 F5 H5 A5 st5 g5 x5 => ?_, fun m ρ5 q => ?_, fun ρ5 q => ?_, fun ρ5 q σ5 F5 H5 A5 st5 g5 x5 => ?_, fun y ρ5 q => ?_⟩
        · simp only [q] at w4; exact absurd rfl w4.nb
        · simp only [q] at e2
          exact ⟨rfl, hlt, ρ5, F5, A5, st5, (g2.trans g24).trans g5, (x2.trans x4).trans x5, e2⟩
        · simp only [q] at w4
          exact w4.rt m ρ5 rfl
        · simp only [q] at w4
          exact w4.nx ρ5 rfl
        · simp only [q] at e2
          exact ⟨rfl, hlt, ρ5, F5, A5, st5, (g2.trans g24).trans g5, (x2.trans x4).trans x5, e2⟩
        · simp only [q] at w4
          exact w4.xc y ρ5 rfl
    · have ei : i = items.length := by omega
      subst ei
      rw [List.drop_length, forL] at w2
      exact .inl ⟨hJ.stops H2 F2 g2.f st2.sub, w2.nx ρ2 rfl σ2 F2 H2 A2 st2 (Go.refl ..) (Fix.refl _ _)⟩
  · rw [e] at eb
    exact w.xc x ρ' eb cls d σ F' H' A' st' go (Fix.refl _ _) hx
/-- while, k turns at most -/
def whileL (c : SE Bool) (b : SE Out) : Nat → SE Out
  | 0 => fun _ => .bad
  | k + 1 => fun ρ => match c ρ with
    | .ok true ρ1 => (match b ρ1 with
      | .ok .nx ρ2 => whileL c b k ρ2
      | .ok .ct ρ2 => whileL c b k ρ2
      | .ok .bk ρ2 => .ok .nx ρ2
      | .ok (.rt m) ρ2 => .ok (.rt m) ρ2
      | .exc x ρ2 => .exc x ρ2
      | .bad => .bad)
    | .ok false ρ1 => .ok .nx ρ1
    | .exc x ρ1 => .exc x ρ1
    | .bad => .bad
theorem whileL_succ {c : SE Bool} {b : SE Out} {k : Nat} {ρ : Env} : whileL c b (k + 1) ρ = match c ρ with
    | .ok true ρ1 => (match b ρ1 with
      | .ok .nx ρ2 => whileL c b k ρ2
      | .ok .ct ρ2 => whileL c b k ρ2
      | .ok .bk ρ2 => .ok .nx ρ2
      | .ok (.rt m) ρ2 => .ok (.rt m) ρ2
      | .exc x ρ2 => .exc x ρ2
      | .bad => .bad)
    | .ok false ρ1 => .ok .nx ρ1
    | .exc x ρ1 => .exc x ρ1
    | .bad => .bad := by rw [whileL]
theorem ev_while {K : PySem.W.Frag} {n : Nat} {W : WX} {tc : TT} {tb : TS} {sc : SE Bool} {sb : SE Out} (fuel : Nat) (hc : Ev K nob (fr zB) W tc sc) (hb : EvS K n W tb sb) : EvS K n W (tWhile tc tb) (whileL sc sb fuel) := by
  intro ρ σ F H A st D w
  refine ⟨fun m σ' H' => ∃ ρ' F' A', StOk K ρ' σ' F' H' A' ∧ Wants K n W (whileL sc sb m ρ') σ' F' H' A' D, ⟨fuel, ρ, F, A, st, w⟩, ?_⟩
  rintro m σ2 H2 ⟨ρ2, F2, A2, st2, w2⟩
  cases m with
  | zero => rw [whileL] at w2; exact absurd rfl w2.nb
  | succ m =>
    rw [whileL_succ] at w2
    refine hc ρ2 σ2 F2 H2 A2 (nob_le _) st2 _ (fun q => ?_) (fun b ρ3 q b' F3 H3 A3 f st3 hr _ _ g3 => ?_) (fun x ρ3 q cls d F3 H3 A3 st3 g3 hx => ?_)
    · simp only [q] at w2; exact absurd rfl w2.nb
    · obtain ⟨rfl, hb'⟩ := hr
      have e : b' = b := hb'
      subst e
      have g3' : Go F2 H2 A2 F3 H3 A3 := by simpa using g3
      cases b' with
      | true =>
        rw [if_pos rfl]
        simp only [q] at w2
        have w3 := w2.go g3' (Fix.refl n σ2)
        refine ⟨fun σ' H' => ∃ ρ' F' A', StOk K ρ' σ' F' H' A' ∧ Wants K n W (whileL sc sb m ρ') σ' F' H' A' D, fun σ' H' h => ⟨m, Nat.lt_succ_self m, h⟩, ?_⟩
        refine hb ρ3 σ2 F3 H3 A3 st3 _ ⟨fun q => ?_, fun ρ5 q σ5 F5 H5 A5 st5 g5 x5 => ?_, fun v ρ5 q => ?_, fun ρ5 q => ?_, fun ρ5 q σ5 F5 H5 A5 st5 g5 x5 => ?_, fun y ρ5 q => ?_⟩
        · simp only [q] at w3; exact absurd rfl w3.nb
        · simp only [q] at w3
          exact ⟨ρ5, F5, A5, st5, w3.go g5 x5⟩
        · simp only [q] at w3
          exact w3.rt v ρ5 rfl
        · simp only [q] at w3
          exact w3.nx ρ5 rfl
        · simp only [q] at w3
          exact ⟨ρ5, F5, A5, st5, w3.go g5 x5⟩
        · simp only [q] at w3
          exact w3.xc y ρ5 rfl
      | false =>
        rw [if_neg Bool.false_ne_true]
        simp only [q] at w2
        exact w2.nx ρ3 rfl σ2 F3 H3 A3 st3 g3' (Fix.refl _ _)
    · simp only [q] at w2
      exact w2.xc x ρ3 rfl cls d σ2 F3 H3 A3 st3 g3 (Fix.refl _ _) hx
section
variable {X : Cx} {n : Nat} {W : WX} {pos : Pos}
theorem qs_for {tg iter : Expr} {body : List Stmt} {wi : TI} {g : TG} {tb : TS} {si : SE (List PV)} {sg : PV → Env → Option Env} {sb : SE Out} {tl : List Nat} (hp : PassesOwn (model X.prog X.w) X.A X.env X.xe) (hc : X.calm = true) (hi : QI X W tg iter wi si) (hg : QG X tl tg g sg) (hb : QSs X n W body tb sb) (hn : ∀ j ∈ tl, n ≤ j := by decide)
    (hs : ∀ x, foldedSetIterable iter X.env x = pure x := by intro _; rfl) : QS X n W (.For tg iter body [] pos) (tFor wi g tb) (sFor si sg sb) := ⟨ps_for hp hc hi.pi hg.pg hb.ps hs, ev_for hi.ev hg.ev hb.ev hn⟩
theorem qs_while {c : Expr} {body : List Stmt} {tc : TT} {tb : TS} {sc : SE Bool} {sb : SE Out} (fuel : Nat) (hp : PassesOwn (model X.prog X.w) X.A X.env X.xe) (hc : QT X W c tc sc) (hb : QSs X n W body tb sb) : QS X n W (.While c body [] pos) (tWhile tc tb) (whileL sc sb fuel) := ⟨ps_while hp hc.pt hb.ps, ev_while fuel hc.ev hb.ev⟩
end

/-! ### several owned values -/
theorem Ev.consM {K : PySem.W.Frag} {W : WX} {te : TE} {t : TA} {e : SE MV} {r : SE (List MV)} (he : Ev K nob (RepM K) W te e) (hr : Ev K nob (RepMs K) W t r) : Ev K nob (RepMs K) W (tCons te t) (e.bind fun m => r.bind fun ms => SE.ret (m :: ms)) := by
  intro ρ σ F H A sB st Q nb hok hex
  have eb := bind_eq e (fun m => r.bind fun ms => SE.ret (m :: ms)) ρ
  refine he ρ σ F H A sB st (fun x H1 => t σ H1 fun xs H2 => Q (x :: xs) H2) (fun z => ?_) (fun m ρ1 e1 v F1 H1 A1 f st1 h1 nd1 hn1 g1 => ?_) (fun x ρ1 e1 cls d F1 H1 A1 st1 g1 hx => ?_)
  · rw [z] at eb; exact nb eb
  · rw [e1] at eb
    have eb2 := bind_eq r (fun ms => SE.ret (m :: ms)) ρ1
    have dis := (List.nodup_append.mp nd1).2.2
    have ndf := (List.nodup_append.mp nd1).1
    have thF := h1.there
    refine hr ρ1 σ F1 H1 A1 (nob_le _) st1 _ (fun z => ?_) (fun ms ρ2 e2 vs F2 H2 A2 f2 st2 h2 nd2 hn2 g2 => ?_) (fun y ρ2 e2 cls d F2 H2 A2 st2 g2 hy => ?_)
    · rw [z] at eb2; exact nb (eb.trans eb2)
    · rw [e2] at eb2
      have nA : ∀ a ∈ f, a ∉ A1 := fun a ha h => dis a ha a h rfl
      have keep : ∀ a ∈ f, ∀ o, H1 a = some o → H2 a = some o := fun a ha o q => g2.k a o q (nA a ha)
      have out : ∀ a ∈ f, F2 a = none := fun a ha => by
        cases q : F2 a with
        | none => rfl
        | some u =>
          rcases g2.n a (hn1 a ha) (by rw [q]; simp) with z | z
          · exact absurd z (thF a ha)
          · exact absurd z (nA a ha)
      have dis2 : ∀ a ∈ f, ∀ b ∈ f2 ++ A2, a ≠ b := fun a ha b hb q => by
        subst q
        rcases g2.o a hb with z | z
        · exact thF a ha z
        · exact nA a ha z
      refine hok (m :: ms) ρ2 (eb.trans eb2) (v :: vs) F2 H2 A2 (f ++ f2) st2 ?_ ?_ (fun a ha => ?_) ⟨g1.f.trans g2.f, ?_, ?_, ?_⟩
      · rw [RepMs]
        exact ⟨v, vs, f, f2, rfl, rfl, RepM.mono g2.f m v f keep h1, h2⟩
      · rw [List.append_assoc, List.nodup_append]
        exact ⟨ndf, nd2, dis2⟩
      · rcases List.mem_append.mp ha with z | z
        · exact out a z
        · exact hn2 a z
      · intro b o q hb
        refine g2.k b o (g1.k b o q hb) fun hm => ?_
        rcases g1.o b (List.mem_append_right _ hm) with z | z
        · rw [q] at z; cases z
        · exact hb z
      · intro b q y
        by_cases h : F1 b = none
        · rcases g2.n b h y with z | z
          · by_cases hA : b ∈ A
            · exact .inr hA
            · cases eH : H b with
              | none => exact .inl rfl
              | some o => rw [g1.k b o eH hA] at z; cases z
          · exact g1.o b (List.mem_append_right _ z)
        · exact g1.n b q h
      · intro b hb
        rw [List.append_assoc] at hb
        rcases List.mem_append.mp hb with z | z
        · exact g1.o b (List.mem_append_left _ z)
        · rcases g2.o b z with y | y
          · by_cases hA : b ∈ A
            · exact .inr hA
            · cases eH : H b with
              | none => exact .inl rfl
              | some o => rw [g1.k b o eH hA] at y; cases y
          · exact g1.o b (List.mem_append_right _ y)
    · rw [e2] at eb2
      exact hex y ρ2 (eb.trans eb2) cls d F2 H2 A2 st2 (Go.trans (g1.weak fun a ha => List.mem_append_right _ ha) g2) hy
  · rw [e1] at eb
    exact hex x ρ1 eb cls d F1 H1 A1 st1 g1 hx
structure QMs (X : Cx) (W : WX) (es : List Expr) (ta : TA) (s : SE (List MV)) : Prop where
  pa : PA X es ta
  ev : Ev X.K nob (RepMs X.K) W ta s
def mNil : SE (List MV) := SE.ret []
def mCons (e : SE MV) (r : SE (List MV)) : SE (List MV) := e.bind fun m => r.bind fun ms => SE.ret (m :: ms)
section
variable {X : Cx} {n : Nat} {W : WX} {pos : Pos} {a : Expr} {es : List Expr} {te : TE} {t : TA} {e : SE MV} {r : SE (List MV)}
theorem qms_nil : QMs X W [] tNil mNil := ⟨pa_nil, fun ρ σ F H A sB st Q nb hok hex => hok [] ρ rfl [] F H A [] st (by rw [RepMs]; exact ⟨rfl, rfl⟩) (by simpa using st.nod) (by simp) (by simpa using Go.refl F H A)⟩
theorem qms_cons (ha : QM X W a te e) (hr : QMs X W es t r) (hs : starEach (a :: es) X.env = (false, eval a X.env) :: starEach es X.env := by rfl) : QMs X W (a :: es) (tCons te t) (mCons e r) := ⟨pa_cons ha.pe hr.pa hs, Ev.consM ha.ev hr.ev⟩
/-- several names stored at once -/
def setAll : List Nat → List MV → Env → Env
  | i :: is, m :: ms, ρ => setAll is ms (ρ.set i (some m))
  | _, _, ρ => ρ
def setAllV : List Nat → List V → L2.St → L2.St
  | i :: is, v :: vs, σ => setAllV is vs (σ.set i (some v))
  | _, _, σ => σ
theorem setAll_length : ∀ (is : List Nat) (ms : List MV) (ρ : Env), (setAll is ms ρ).length = ρ.length
  | i :: is, m :: ms, ρ => by rw [setAll, setAll_length, List.length_set]
  | [], ms, ρ => by rw [setAll]; simp
  | _ :: _, [], ρ => by rw [setAll]; simp
theorem StOk.setAll {K : PySem.W.Frag} {F H : Hp} : ∀ {is : List Nat} {ms : List MV} {vs : List V} {ρ : Env} {σ : L2.St} {A f : List Addr}, StOk K ρ σ F H A → RepMs K F H ms vs f → (f ++ A).Nodup → (∀ a ∈ f, F a = none) → (∀ i ∈ is, i < ρ.length) →
    ∃ A', (∀ a ∈ A', a ∈ f ++ A) ∧ StOk K (Mv.setAll is ms ρ) (setAllV is vs σ) F H A'
  | [], ms, vs, ρ, σ, A, f, st, hr, nd, hn, hi => ⟨A, fun a h => List.mem_append_right _ h, by simpa [Mv.setAll, setAllV] using st⟩
  | i :: is, [], vs, ρ, σ, A, f, st, hr, nd, hn, hi => by
    rw [RepMs] at hr
    obtain ⟨rfl, rfl⟩ := hr
    exact ⟨A, fun a h => List.mem_append_right _ h, by simpa [Mv.setAll, setAllV] using st⟩
  | i :: is, m :: ms, vs, ρ, σ, A, f, st, hr, nd, hn, hi => by
    rw [RepMs] at hr
    obtain ⟨v, vr, f1, f2, rfl, rfl, h1, h2⟩ := hr
    rw [List.append_assoc, List.nodup_append] at nd
    obtain ⟨nd1, nd2, d12⟩ := nd
    have nd2' := List.nodup_append.mp nd2
    obtain ⟨A1, m1, s1⟩ := st.store (i := i) h1 (by
      rw [List.nodup_append]
      exact ⟨nd1, nd2'.2.1, fun a ha b hb => d12 a ha b (List.mem_append_right _ hb)⟩) (fun a ha => hn a (List.mem_append_left _ ha)) (hi i (List.mem_cons_self ..))
    obtain ⟨A2, m2, s2⟩ := StOk.setAll (is := is) (ms := ms) s1 h2 (by
      rw [List.nodup_append]
      refine ⟨nd2'.1, s1.nod, fun a ha b hb q => ?_⟩
      subst q
      rcases List.mem_append.mp (m1 a hb) with z | z
      · exact d12 a z a (List.mem_append_left _ ha) rfl
      · exact nd2'.2.2 a ha a z rfl) (fun a ha => hn a (List.mem_append_right _ ha)) (fun j hj => by rw [List.length_set]; exact hi j (List.mem_cons_of_mem _ hj))
    refine ⟨A2, fun a ha => ?_, by simpa [Mv.setAll, setAllV] using s2⟩
    rw [List.append_assoc]
    rcases List.mem_append.mp (m2 a ha) with z | z
    · exact List.mem_append_right _ (List.mem_append_left _ z)
    · rcases List.mem_append.mp (m1 a z) with y | y
      · exact List.mem_append_left _ y
      · exact List.mem_append_right _ (List.mem_append_right _ y)
theorem setAllV_fix {n : Nat} : ∀ {is : List Nat} (vs : List V) (σ : L2.St), (∀ i ∈ is, n ≤ i) → Fix n σ (setAllV is vs σ)
  | [], vs, σ, h => by simpa [setAllV] using Fix.refl n σ
  | i :: is, [], σ, h => by simpa [setAllV] using Fix.refl n σ
  | i :: is, v :: vs, σ, h => by
    rw [setAllV]
    exact (Fix.set (h i (List.mem_cons_self ..))).trans (setAllV_fix vs _ fun j hj => h j (List.mem_cons_of_mem _ hj))
def sPar (is : List Nat) (s : SE (List MV)) : SE Out := s.bind fun ms ρ => if ms.length = is.length ∧ is.all (fun i => decide (i < ρ.length)) = true then .ok .nx (setAll is ms ρ) else .bad
/-- the reading of several stores -/
theorem ev_par {K : PySem.W.Frag} {ta : TA} {s : SE (List MV)} {is : List Nat} (Qf : Ends → L2.St → List V → Hp → Prop) (h : Ev K nob (RepMs K) W ta s) (hn : ∀ i ∈ is, n ≤ i)
    (hq : ∀ (D : Ends) σ vs H1, vs.length = is.length → (∀ H2 : Hp, (∀ b o, H1 b = some o → H2 b = some o) → D.nx (setAllV is vs σ) H2) → Qf D σ vs H1) : EvS K n W (fun D σ H => ta σ H (Qf D σ)) (sPar is s) := by
  intro ρ σ F H A st D w
  have eb := bind_eq s (fun ms ρ => if ms.length = is.length ∧ is.all (fun i => decide (i < ρ.length)) = true then .ok Out.nx (Mv.setAll is ms ρ) else .bad) ρ
  refine h ρ σ F H A (nob_le _) st _ (fun e => ?_) (fun ms ρ' e vs F' H' A' f st' hr nd hnf g => ?_) (fun x ρ' e cls d F' H' A' st' g hx => ?_)
  · rw [e] at eb; exact w.nb eb
  · rw [e] at eb
    have e2 : sPar is s ρ = if ms.length = is.length ∧ is.all (fun i => decide (i < ρ'.length)) = true then .ok Out.nx (Mv.setAll is ms ρ') else .bad := eb
    split at e2
    · rename_i hc
      refine hq D σ vs H' (by rw [RepMs.length hr]; exact hc.1) fun H2 k => ?_
      have hall : ∀ i ∈ is, i < ρ'.length := fun i hi => by simpa using List.all_eq_true.mp hc.2 i hi
      obtain ⟨A2, m2, s2⟩ := st'.setAll hr nd hnf hall
      refine w.nx _ e2 _ F' H2 A2 (s2.grow (Same.refl _) (fun b o q => k b o (s2.sub b o q)) (fun b _ o q => k b o q) s2.out) (Go.trans (g.weak m2) ⟨Same.refl _, fun b o q _ => k b o q, fun b q y => absurd q y, fun b hb => .inr hb⟩) (setAllV_fix vs σ hn)
    · exact absurd e2 w.nb
  · rw [e] at eb
    exact w.xc x ρ' eb cls d σ F' H' A' st' g (Fix.refl _ _) hx
theorem qs_par {i j : Nat} {x y : Str} {a b : Expr} {ta : TA} {s : SE (List MV)} {px py pt : Pos} {kt k2 pt2} (hc : X.calm = true) (hN : X.N.Nodup) (hi : X.N[i]? = some x) (hj : X.N[j]? = some y) (ha : QMs X W [a, b] ta s)
    (hw : swappedStores [.Tuple [.Name x px, .Name y py] kt pt] (.Tuple [a, b] k2 pt2) X.env = pure (some [x, y])) (hij : i ≠ j := by decide)
    (hx : X.env.scope.names.lookup x = some .local := by rfl) (hy : X.env.scope.names.lookup y = some .local := by rfl) (hn : ∀ k ∈ [i, j], n ≤ k := by decide)
    (hs : swapsWithSole [.Tuple [.Name x px, .Name y py] kt pt] (.Tuple [a, b] k2 pt2) pos.line X.env = pure false := by rfl) :
    QS X n W (.Assign [.Tuple [.Name x px, .Name y py] kt pt] (.Tuple [a, b] k2 pt2) pos) (tPar i j ta) (sPar [i, j] s) :=
  ⟨ps_par hc hN hi hj hij hx hy ha.pa hw hs, ev_par (fun D σ vs H1 => ∃ v w, vs = [v, w] ∧ D.nx ((σ.set i (some v)).set j (some w)) H1) ha.ev hn fun D σ vs H1 hl k => by
    match vs, hl with
    | [v, w], _ => exact ⟨v, w, rfl, k H1 fun _ _ e => e⟩⟩
theorem qs_par3 {i j l : Nat} {x y z : Str} {a b c : Expr} {ta : TA} {s : SE (List MV)} {px py pz pt : Pos} {kt k2 pt2} (hc : X.calm = true) (hN : X.N.Nodup) (hi : X.N[i]? = some x) (hj : X.N[j]? = some y) (hl : X.N[l]? = some z) (ha : QMs X W [a, b, c] ta s)
    (hw : swappedStores [.Tuple [.Name x px, .Name y py, .Name z pz] kt pt] (.Tuple [a, b, c] k2 pt2) X.env = pure (some [x, y, z])) (hij : i ≠ j := by decide) (hil : i ≠ l := by decide) (hjl : j ≠ l := by decide)
    (hx : X.env.scope.names.lookup x = some .local := by rfl) (hy : X.env.scope.names.lookup y = some .local := by rfl) (hz : X.env.scope.names.lookup z = some .local := by rfl) (hn : ∀ k ∈ [i, j, l], n ≤ k := by decide)
    (hs : swapsWithSole [.Tuple [.Name x px, .Name y py, .Name z pz] kt pt] (.Tuple [a, b, c] k2 pt2) pos.line X.env = pure false := by rfl) :
    QS X n W (.Assign [.Tuple [.Name x px, .Name y py, .Name z pz] kt pt] (.Tuple [a, b, c] k2 pt2) pos) (tPar3 i j l ta) (sPar [i, j, l] s) :=
  ⟨ps_par3 hc hN hi hj hl hij hil hjl hx hy hz ha.pa hw hs, ev_par (fun D σ vs H1 => ∃ u v w, vs = [u, v, w] ∧ D.nx (((σ.set i (some u)).set j (some v)).set l (some w)) H1) ha.ev hn fun D σ vs H1 hl k => by
    match vs, hl with
    | [u, v, w], _ => exact ⟨u, v, w, rfl, k H1 fun _ _ e => e⟩⟩
/-- the targets of a display: names -/
inductive PGN (X : Cx) : List Nat → List Expr → TGs → Prop where
  | nil : PGN X [] [] gNil
  | cons {i : Nat} {x : Str} {p : Pos} {is : List Nat} {es : List Expr} {t : TGs} (hN : X.N.Nodup) (hi : X.N[i]? = some x) (hx : Loc X.env.scope x) (hf : X.fn x = true ∨ X.env.scope.names.lookup x = some .local) (h : PGN X is es t)
      (hs : (assignEach (.Name x p :: es) X.env).map (·.2) = assign (.Name x p) X.env :: (assignEach es X.env).map (·.2)) : PGN X (i :: is) (.Name x p :: es) (gCons (gName i) t)
theorem PGN.pg {is : List Nat} {es : List Expr} {t : TGs} (h : PGN X is es t) : PGs X es t := by
  induction h with
  | nil => exact pgs_nil
  | cons hN hi hx hf h hs ih => exact pgs_cons (pg_name hN hi hx hf) ih hs
theorem PGN.all {is : List Nat} {es : List Expr} {t : TGs} (h : PGN X is es t) : ∀ (vs : List V) (σ : L2.St) (H : Hp) (Q : L2.St → Hp → Prop), vs.length = is.length → Q (setAllV is vs σ) H → t vs σ H Q := by
  induction h with
  | nil =>
    intro vs σ H Q hl q
    match vs, hl with
    | [], _ => exact ⟨rfl, by simpa [setAllV] using q⟩
  | cons hN hi hx hf h hs ih =>
    intro vs σ H Q hl q
    match vs, hl with
    | v :: r, hl => exact ⟨v, r, rfl, ih r _ H Q (by simpa using hl) (by simpa [setAllV] using q)⟩
theorem pgn_cons {i : Nat} {x : Str} {p : Pos} {is : List Nat} {es : List Expr} {t : TGs} (hN : X.N.Nodup) (hi : X.N[i]? = some x) (hx : Loc X.env.scope x) (h : PGN X is es t) (hf : X.fn x = true ∨ X.env.scope.names.lookup x = some .local := by first | exact .inl rfl | exact .inr rfl | assumption)
    (hs : (assignEach (.Name x p :: es) X.env).map (·.2) = assign (.Name x p) X.env :: (assignEach es X.env).map (·.2) := by rfl) : PGN X (i :: is) (.Name x p :: es) (gCons (gName i) t) := .cons hN hi hx hf h hs
/-- (x, y, ..) = a display: a tuple is made, then taken apart -/
theorem qs_parT {tes es : List Expr} {is : List Nat} {ta : TA} {t : TGs} {s : SE (List MV)} {pt : Pos} {kt k2 pt2} {m : Nat} (hc : X.calm = true) (ha : QMs X W es ta s) (hg : PGN X is tes t) (hn : ∀ k ∈ is, n ≤ k := by decide) (hm : is.length = m := by rfl) (hm2 : m ≤ sizeLine := by decide)
    (hw : swappedStores [.Tuple tes kt pt] (.Tuple es k2 pt2) X.env = pure none := by rfl) (hs : swapsWithSole [.Tuple tes kt pt] (.Tuple es k2 pt2) pos.line X.env = pure false := by rfl)
    (h1 : (assignEach [.Tuple tes kt pt] X.env).map (·.2) = [assign (.Tuple tes kt pt) X.env] := by rfl)
    (hl : (assignEach tes X.env).length = m := by rfl) (hst : (assignEach tes X.env).findIdx? (·.1) = none := by rfl) :
    QS X n W (.Assign [.Tuple tes kt pt] (.Tuple es k2 pt2) pos) (tAsg (tTup ta) (gTup X.K m t)) (sPar is s) :=
  ⟨ps_asg (pe_tup ha.pa) (pg_tup hc hg.pg hl hst) hs hw h1, ev_par (fun D σ xs H1 => xs.length ≤ sizeLine ∧ ∀ a, H1 a = none → gTup X.K m t (.ref a) σ (upd H1 a (.tup xs)) D.nx) ha.ev hn fun D σ vs H1 hl k => by
    refine ⟨by rw [hl, hm]; exact hm2, fun a ha => ⟨a, vs, rfl, .inl (.inl upd_same), by rw [hl, hm], hg.all vs σ _ D.nx hl (k _ fun b o e => by rw [upd_ne (ne_of_none e ha)]; exact e)⟩⟩⟩
end
end Mv

set_option Elab.async false
set_option linter.all false
set_option maxRecDepth 100000
set_option maxHeartbeats 4000000
namespace Mv
open PySem PySem.Spec PyProof.Rows L2

/-! ### an owned list, written in place -/
theorem StOk.write {K : PySem.W.Frag} {ρ : Env} {σ : L2.St} {F H : Hp} {A : List Addr} {i : Nat} {xs : List MV} (s : StOk K ρ σ F H A) (hi : ρ[i]? = some (some (.ml xs))) :
    ∃ a vs r, σ[i]? = some (some (.ref a)) ∧ H a = some (.lst vs) ∧ RepMs K F H xs vs r ∧ F a = none ∧ a ∉ r ∧ r.Nodup ∧
      ∀ ys us r', r'.Nodup → (∀ b ∈ r', b ∈ r) → RepMs K F (L2.upd H a (.lst us)) ys us r' → ∃ A2, StOk K (ρ.set i (some (.ml ys))) σ F (L2.upd H a (.lst us)) A2 ∧ Go F H A F (L2.upd H a (.lst us)) A2 := by
  obtain ⟨v, f, A', q1, q2, q3, q4⟩ := s.take hi
  rw [RepM] at q2
  obtain ⟨a, vs, r, rfl, e2, rfl, e4⟩ := q2
  have nd := q3.nodup_iff.mp s.nod
  have hF : F a = none := s.out a (q3.mem_iff.mpr (by simp))
  rw [List.cons_append, List.nodup_cons, List.nodup_append] at nd
  obtain ⟨na, ndr, ndA, dis⟩ := nd
  refine ⟨a, vs, r, q1, e2, e4, hF, fun h => na (List.mem_append_left _ h), ndr, fun ys us r' ndr' sub hr => ?_⟩
  have keep : ∀ b, b ≠ a → (L2.upd H a (.lst us)) b = H b := fun b h => upd_ne h
  have s1 : StOk K (ρ.set i none) σ F (L2.upd H a (.lst us)) A' := q4.grow (Same.refl F) (fun b o e => by rw [upd_ne (ne_of_none e hF)]; exact s.sub b o e) (fun b hb o e => by rw [upd_ne (by intro z; subst z; exact na (List.mem_append_right _ hb))]; exact e) q4.out
  have hl : i < ρ.length := (List.getElem?_eq_some_iff.mp hi).1
  have s2 := s1.put (i := i) (m := .ml ys) (v := .ref a) (f := a :: r') (by rw [List.getElem?_set_self hl]) (by rw [RepM]; exact ⟨a, us, r', rfl, upd_same, rfl, hr⟩) (by
    rw [List.cons_append, List.nodup_cons, List.nodup_append]
    exact ⟨fun h => na (by
      rcases List.mem_append.mp h with z | z
      · exact List.mem_append_left _ (sub a z)
      · exact List.mem_append_right _ z), ndr', ndA, fun x hx y hy => dis x (sub x hx) y hy⟩) (fun b hb => by
    rcases List.mem_cons.mp hb with z | z
    · rw [z]; exact hF
    · exact s.out b (q3.mem_iff.mpr (by simp [sub b z])))
  have es : σ.set i (some (.ref a)) = σ := by
    obtain ⟨h1, h2⟩ := List.getElem?_eq_some_iff.mp q1
    rw [← h2, List.set_getElem_self]
  rw [List.set_set, es] at s2
  refine ⟨_, s2, Same.refl F, fun b o e hb => ?_, fun b e q => absurd e q, fun b hb => .inr ?_⟩
  · rw [upd_ne (by intro z; subst z; exact hb (q3.mem_iff.mpr (by simp)))]; exact e
  · refine q3.mem_iff.mpr ?_
    rcases List.mem_append.mp hb with z | z
    · rcases List.mem_cons.mp z with y | y
      · rw [y]; simp
      · simp [sub b y]
    · simp [z]
def mlAt (i : Nat) (ρ : Env) : Option (List MV) := match ρ[i]? with
  | some (some (.ml xs)) => some xs
  | _ => none
theorem mlAt_eq {i : Nat} {ρ : Env} {xs : List MV} (h : mlAt i ρ = some xs) : ρ[i]? = some (some (.ml xs)) := by
  unfold mlAt at h
  split at h
  · rename_i q
    cases h
    exact q
  · cases h
/-- name.append(e) -/
def sApp (i : Nat) (e : SE PV) : SE Out := fun ρ => match mlAt i ρ with
  | none => .bad
  | some _ => (e.bind fun p ρ => match mlAt i ρ with
    | none => .bad
    | some xs => if xs.length < 16777216 then .ok .nx (ρ.set i (some (.ml (xs ++ [.fz p])))) else .bad) ρ
theorem upd_away {K : PySem.W.Frag} {F H : Hp} {a : Addr} {o : HO} {ms : List MV} {vs : List V} {r : List Addr} (h : RepMs K F H ms vs r) (ha : a ∉ r) : RepMs K F (L2.upd H a o) ms vs r :=
  RepMs.mono (Same.refl F) ms vs r (fun b hb u e => by rw [upd_ne (by intro z; subst z; exact ha hb)]; exact e) h
section
variable {X : Cx} {n : Nat} {W : WX} {pos : Pos}
theorem ev_app {K : PySem.W.Frag} {i : Nat} {te : TE} {e : SE PV} (he : Ev K nob (fr (RepF K)) W te e) : EvS K n W (tDrop (tBM K "list" rAppend (tVar i) (tCons te tNil))) (sApp i e) := by
  intro ρ σ F H A st D w
  have e0 : sApp i e ρ = match mlAt i ρ with
    | none => .bad
    | some _ => (e.bind fun p ρ => match mlAt i ρ with
      | none => .bad
      | some xs => if xs.length < 16777216 then .ok .nx (ρ.set i (some (.ml (xs ++ [.fz p])))) else .bad) ρ := rfl
  cases h0 : mlAt i ρ with
  | none => rw [h0] at e0; exact absurd e0 w.nb
  | some ys =>
    rw [h0] at e0
    obtain ⟨a0, vs0, r0, z1, z2, z3, z4, z5, z6, _⟩ := st.write (mlAt_eq h0)
    have eb := bind_eq e (fun p ρ => match mlAt i ρ with
      | none => .bad
      | some xs => if xs.length < 16777216 then .ok Out.nx (ρ.set i (some (.ml (xs ++ [.fz p])))) else .bad) ρ
    have eb := e0.trans eb
    refine ⟨.ref a0, z1, .inl ⟨rfl, vs0, SqL.of z2⟩, he ρ σ F H A (nob_le _) st _ (fun q => ?_) (fun p ρ' q v F' H' A' f st' hr nd hn go => ?_) (fun x ρ' q cls d F' H' A' st' go hx => ?_)⟩
    · rw [q] at eb; exact w.nb eb
    · rw [q] at eb
      obtain ⟨rfl, hp⟩ := hr
      have eb2 : sApp i e ρ = match mlAt i ρ' with
        | none => .bad
        | some xs => if xs.length < 16777216 then .ok Out.nx (ρ'.set i (some (.ml (xs ++ [.fz p])))) else .bad := eb
      cases h1 : mlAt i ρ' with
      | none => rw [h1] at eb2; exact absurd eb2 w.nb
      | some xs =>
        rw [h1] at eb2
        have eb3 : sApp i e ρ = if xs.length < 16777216 then .ok Out.nx (ρ'.set i (some (.ml (xs ++ [.fz p])))) else .bad := eb2
        by_cases hl : xs.length < 16777216
        · rw [if_pos hl] at eb3
          obtain ⟨a, vs, r, y1, y2, y3, y4, y5, y6, wr⟩ := st'.write (mlAt_eq h1)
          rw [z1] at y1
          cases y1
          obtain ⟨A2, s2, g2⟩ := wr (xs ++ [.fz p]) (vs ++ [v]) (r ++ []) (by simpa using y6) (by simp) (RepMs.append (upd_away y3 y5) (RepMs.fz (ps := [p]) (RepFs.single hp)))
          refine ⟨a0, vs, v, rfl, rfl, y2, ?_, ?_⟩
          · rw [RepMs.length y3, line_eq]; exact hl
          · exact w.nx _ eb3 σ F' _ A2 s2 (Go.trans go g2) (Fix.refl _ _)
        · rw [if_neg hl] at eb3; exact absurd eb3 w.nb
    · rw [q] at eb
      exact w.xc x ρ' eb cls d σ F' H' A' st' go (Fix.refl _ _) hx
theorem qs_app (i : Nat) {x : Str} {e : Expr} {te : TE} {s : SE PV} {px apos cpos : Pos} (he : QE X W e te s) (hN : X.N[i]? = some x := by rfl) (hv : Vis X.env.scope x := by first | exact Or.inl rfl | exact Or.inr (Or.inl rfl) | exact Or.inr (Or.inr rfl)) (hd : (x == ("__debug__" : Str)) = false := by decide)
    (hcd : (x == ("__classdict__" : Str)) = false := by decide)
    (hbase : attributeBase (.Name x px) "append" X.env (eval (.Name x px) X.env) = eval (.Name x px) X.env := by rfl)
    (hfew : ((backTo cpos (starEach [e] X.env)).all (fun x => !x.1) && (backToKw cpos (keywordEach [] X.env)).all (fun x => x.1.isSome)
      && decide ([e].length + ([] : List Keyword).length + (if ([] : List Keyword).isEmpty then 0 else 1) < 30)) = true := by rfl)
    (hline : (apos.endLine == cpos.line) = true := by rfl) (hs1 : starEach [e] X.env = (false, eval e X.env) :: starEach [] X.env := by rfl) (hplain : (backTo cpos (starEach [] X.env)).any (·.1) = false := by rfl)
    (hs : swapsWith (.Call (.Attribute (.Name x px) "append" apos) [e] [] cpos) none pos.line X.env = pure false := by rfl) :
    QS X n W (.Expr (.Call (.Attribute (.Name x px) "append" apos) [e] [] cpos) pos) (tDrop (tBM X.K "list" rAppend (tVar i) (tCons te tNil))) (sApp i s) :=
  ⟨ps_expr (pe_bm PySem.F.plainAttrs_list PySem.F.slot_list_append PySem.F.type_list_append mt_append (pe_var hN hv hd hcd) (pa_cons he.pe pa_nil hs1) hbase hfew hline hs1 hplain) hs, ev_app he.ev⟩

/-! ### name[k] = a value -/
def asI (p : PV) : Option Int := match p with
  | .int i => some i
  | _ => none
theorem asI_eq {p : PV} {i : Int} (h : asI p = some i) : p = .int i := by
  cases p <;> first
    | (cases h; rfl)
    | exact nomatch (show (none : Option Int) = some i from h)
def putAt (i : Nat) (k : Int) (p : PV) (ρ : Env) : Option Env := match mlAt i ρ with
  | none => none
  | some xs => match ixN xs.length k with
    | none => none
    | some j => some (ρ.set i (some (.ml (xs.set j (.fz p)))))
theorem StOk.putAt {K : PySem.W.Frag} {ρ ρ' : Env} {σ : L2.St} {F H : Hp} {A : List Addr} {i : Nat} {k : Int} {p : PV} {v : V} (s : StOk K ρ σ F H A) (hp : RepF K F p v) (h : Mv.putAt i k p ρ = some ρ') :
    ∃ a vs j, σ[i]? = some (some (.ref a)) ∧ H a = some (.lst vs) ∧ ixN vs.length k = some j ∧ ∃ A2, StOk K ρ' σ F (L2.upd H a (.lst (vs.set j v))) A2 ∧ Go F H A F (L2.upd H a (.lst (vs.set j v))) A2 := by
  unfold Mv.putAt at h
  cases e : mlAt i ρ with
  | none => rw [e] at h; cases h
  | some xs =>
    rw [e] at h
    have h' : (match ixN xs.length k with
      | none => none
      | some j => some (ρ.set i (some (.ml (xs.set j (.fz p)))))) = some ρ' := h
    cases ej : ixN xs.length k with
    | none => rw [ej] at h'; cases h'
    | some j =>
      rw [ej] at h'
      cases h'
      obtain ⟨a, vs, r, y1, y2, y3, y4, y5, y6, wr⟩ := s.write (mlAt_eq e)
      have hl := RepMs.length y3
      have hj := (ixN_seq ej).2.1
      obtain ⟨w, f1, g, f2, q1, q2, q3, q4⟩ := RepMs.at y3 (i := j) (m := xs[j]) (by rw [List.getElem?_eq_getElem hj])
      subst q2
      have nd := y6
      rw [List.append_assoc, List.nodup_append] at nd
      have hh := q4 F (L2.upd H a (.lst (vs.set j v))) (.fz p) v [] (Same.refl F) (fun b hb o eo => by
        rw [upd_ne (by intro z; subst z; exact y5 (by
          rcases List.mem_append.mp hb with z | z
          · simp [z]
          · simp [z]))]; exact eo) (by rw [RepM]; exact ⟨rfl, hp⟩)
      rw [List.append_nil] at hh
      obtain ⟨A2, s2, g2⟩ := wr _ _ _ (by
        rw [List.nodup_append]
        exact ⟨nd.1, (List.nodup_append.mp nd.2.1).2.1, fun x hx y hy => nd.2.2 x hx y (List.mem_append_right _ hy)⟩) (fun b hb => by
        rcases List.mem_append.mp hb with z | z
        · simp [z]
        · simp [z]) hh
      exact ⟨a, vs, j, y1, y2, by rw [hl]; exact ej, A2, s2, g2⟩
/-- as a target -/
def gIxL (i : Nat) (ix : SE PV) : PV → Env → Option Env := fun p ρ => match mlAt i ρ with
  | none => none
  | some _ => match ix ρ with
    | .ok q ρ' => (asI q).bind fun k => putAt i k p ρ'
    | _ => none
theorem qg_ix (i : Nat) {x : Str} {ix : Expr} {ti : TE} {si : SE PV} {px : Pos} (hx : QE X W ix ti si) (hN : X.N[i]? = some x := by rfl) (hv : Vis X.env.scope x := by first | exact Or.inl rfl | exact Or.inr (Or.inl rfl) | exact Or.inr (Or.inr rfl)) (hd : (x == ("__debug__" : Str)) = false := by decide)
    (hcd : (x == ("__classdict__" : Str)) = false := by decide) (hps : PG X (.Subscript (.Name x px) ix pos) (gSub (tVar i) ti rSetL) := by exact pg_sub (pe_var (by rfl) (by first | exact Or.inl rfl | exact Or.inr (Or.inl rfl) | exact Or.inr (Or.inr rfl)) (by decide) (by decide)) (by assumption) set_list) : QG X [] (.Subscript (.Name x px) ix pos) (gSub (tVar i) ti rSetL) (gIxL i si) := by
  refine ⟨hps, fun p v ρ σ F H A hp st Q nb hok => ?_⟩
  have e0 : gIxL i si p ρ = match mlAt i ρ with
    | none => none
    | some _ => match si ρ with
      | .ok q ρ' => (asI q).bind fun k => Mv.putAt i k p ρ'
      | _ => none := rfl
  cases h0 : mlAt i ρ with
  | none => rw [h0] at e0; exact absurd e0 nb
  | some ys =>
    rw [h0] at e0
    have e1 : gIxL i si p ρ = match si ρ with
      | .ok q ρ' => (asI q).bind fun k => Mv.putAt i k p ρ'
      | _ => none := e0
    obtain ⟨a0, vs0, r0, z1, z2, z3, z4, z5, z6, _⟩ := st.write (mlAt_eq h0)
    refine ⟨.ref a0, z1, hx.ev ρ σ F H A (nob_le _) st _ (fun q => ?_) (fun k ρ' q kv F' H' A' f st' hr nd hn go => ?_) (fun x ρ' q => ?_)⟩
    · rw [q] at e1; exact absurd e1 nb
    · rw [q] at e1
      obtain ⟨rfl, hk⟩ := hr
      have e2 : gIxL i si p ρ = (asI k).bind fun k => Mv.putAt i k p ρ' := e1
      cases ek : asI k with
      | none => rw [ek] at e2; exact absurd e2 nb
      | some kk =>
        rw [ek] at e2
        have e3 : gIxL i si p ρ = Mv.putAt i kk p ρ' := e2
        cases eq : Mv.putAt i kk p ρ' with
        | none => rw [eq] at e3; exact absurd e3 nb
        | some ρ2 =>
          rw [eq] at e3
          rw [asI_eq ek] at hk
          have hk' := repI.mp hk
          obtain ⟨a, vs, j, y1, y2, y3, A2, s2, g2⟩ := st'.putAt (RepF.mono go.f _ _ hp) eq
          rw [z1] at y1
          cases y1
          exact ⟨a0, vs, kk, j, rfl, hk', y2, y3, hok ρ2 e3 σ F' _ A2 s2 (Go.trans go g2) (Chg.refl _ _)⟩
    · rw [q] at e1; exact absurd e1 nb

/-! ### name[k] op= a value -/
def getAt (i : Nat) (k : Int) (ρ : Env) : Option PV := match mlAt i ρ with
  | none => none
  | some xs => match atI xs k with
    | some (.fz p) => some p
    | _ => none
def pIAdd (p q : PV) : Option PV := match p with
  | .int i => (match q with
    | .int j => some (.int (i + j))
    | _ => none)
  | .str s => (match q with
    | .str t => if s.length + t.length ≤ 16777216 then some (.str (s ++ t)) else none
    | _ => none)
  | _ => none
def pISub (p q : PV) : Option PV := match p with
  | .int i => (match q with
    | .int j => some (.int (i - j))
    | _ => none)
  | _ => none
def rIAdd : R2 := fun x y H Q => rI0 (fun i j => .int (i + j)) x y H Q ∨ (∃ i j, x = .str i ∧ y = .str j ∧ i.length + j.length ≤ sizeLine ∧ Q (.str (i ++ j)) H)
theorem pop_iadd {K : PySem.W.Frag} : POp K rIAdd pIAdd := by
  intro p q z x y hz B W hp hq
  unfold pIAdd at hz
  cases p with
  | int i =>
    cases q with
    | int j =>
      cases hz
      exact ev_now (v := .int (i + j)) (repI.mpr rfl) fun F H _ _ Q k => .inl ⟨i, j, repI.mp hp, repI.mp hq, k⟩
    | _ => cases hz
  | str s =>
    cases q with
    | str t =>
      dsimp only at hz
      split at hz
      · rename_i hl
        cases hz
        refine ev_now (v := .str (mkS (s ++ t))) (repS.mpr rfl) fun F H _ _ Q k => .inr ⟨mkS s, mkS t, repS.mp hp, repS.mp hq, by rw [mkS_len, mkS_len, line_eq]; exact hl, ?_⟩
        rw [mkS_app]
        exact k
      · cases hz
    | _ => cases hz
  | _ => cases hz
theorem pop_isub {K : PySem.W.Frag} : POp K (rI0 fun i j => .int (i - j)) pISub := by
  intro p q z x y hz B W hp hq
  unfold pISub at hz
  cases p with
  | int i =>
    cases q with
    | int j =>
      cases hz
      exact ev_now (v := .int (i - j)) (repI.mpr rfl) fun F H _ _ Q k => ⟨i, j, repI.mp hp, repI.mp hq, k⟩
    | _ => cases hz
  | _ => cases hz
/-- an in-place operator's rule and its plain function -/
structure IpQ (X : Cx) (op : Operator) (r : R2) (f : PV → PV → Option PV) : Prop where
  ip : PIp X op r
  pop : POp X.K r f
theorem ip_iadd : IpQ X .Add rIAdd pIAdd := ⟨fun pins s σ H x y v u Q I rx ry q => by
  rcases q with q | q
  · exact iop_add pins s σ H x y v u Q I rx ry q
  · exact iop_add_str pins s σ H x y v u Q I rx ry q, pop_iadd⟩
theorem ip_isub : IpQ X .Sub (rI0 fun i j => .int (i - j)) pISub := ⟨fun pins s σ H x y v u Q I rx ry q => iop_sub pins s σ H x y v u Q I rx ry q, pop_isub⟩
def sAug (i : Nat) (e : SE PV) (f : PV → PV → Option PV) : SE Out := fun ρ => match eVar i ρ with
  | .ok p _ => (e.bind fun q ρ => match f p q with
    | some z => if i < ρ.length then .ok .nx (ρ.set i (some (.fz z))) else .bad
    | none => .bad) ρ
  | _ => .bad
theorem qs_aug {i : Nat} {x : Str} {e : Expr} {te : TE} {s : SE PV} {op : Operator} {r : R2} {f : PV → PV → Option PV} {pos' : Pos} (hN : X.N.Nodup) (hi : X.N[i]? = some x) (hx : Loc X.env.scope x) (ho : IpQ X op r f) (he : QE X W e te s) (hn : n ≤ i := by decide) (hf : X.fn x = true ∨ X.env.scope.names.lookup x = some .local := by first | exact .inl rfl | exact .inr rfl | assumption) :
    QS X n W (.AugAssign (.Name x pos') op e pos) (tAug i te r) (sAug i s f) := by
  refine ⟨ps_aug hN hi hx he.pe ho.ip hf, fun ρ σ F H A st D w => ?_⟩
  have e0 : sAug i s f ρ = match eVar i ρ with
    | .ok p _ => (s.bind fun q ρ => match f p q with
      | some z => if i < ρ.length then .ok .nx (ρ.set i (some (.fz z))) else .bad
      | none => .bad) ρ
    | _ => .bad := rfl
  cases h0 : eVar i ρ with
  | bad => rw [h0] at e0; exact absurd e0 w.nb
  | exc x ρ' => rw [h0] at e0; exact absurd e0 w.nb
  | ok p ρ' =>
    rw [h0] at e0
    have hρ : ρ[i]? = some (some (.fz p)) := by
      unfold eVar at h0
      split at h0
      · rename_i q
        cases h0
        exact q
      · cases h0
    obtain ⟨xv, q1, q2⟩ := st.getF hρ
    have eb := e0.trans (bind_eq s (fun q ρ => match f p q with
      | some z => if i < ρ.length then .ok Out.nx (ρ.set i (some (.fz z))) else .bad
      | none => .bad) ρ)
    refine ⟨xv, q1, he.ev ρ σ F H A (nob_le _) st _ (fun q => ?_) (fun q ρ1 hq yv F1 H1 A1 f1 st1 hr nd hn1 go => ?_) (fun x ρ1 q cls d F1 H1 A1 st1 go hx => ?_)⟩
    · rw [q] at eb; exact w.nb eb
    · rw [hq] at eb
      obtain ⟨rfl, hy⟩ := hr
      have eb2 : sAug i s f ρ = match f p q with
        | some z => if i < ρ1.length then .ok Out.nx (ρ1.set i (some (.fz z))) else .bad
        | none => .bad := eb
      cases ez : f p q with
      | none => rw [ez] at eb2; exact absurd eb2 w.nb
      | some z =>
        rw [ez] at eb2
        have eb3 : sAug i s f ρ = if i < ρ1.length then .ok Out.nx (ρ1.set i (some (.fz z))) else .bad := eb2
        by_cases hl : i < ρ1.length
        · rw [if_pos hl] at eb3
          refine ho.pop p q z xv yv ez F1 W (RepF.mono go.f _ _ q2) hy ρ1 σ F1 H1 A1 (Same.refl _) st1 (fun zv H2 => D.nx (σ.set i (some zv)) H2) (fun h => nomatch h) (fun z' ρ2 hz zv F2 H2 A2 f2 st2 hr2 nd2 hn2 go2 => ?_) (fun x ρ2 h => nomatch h)
          cases hz
          obtain ⟨rfl, hzv⟩ := hr2
          obtain ⟨A3, m3, s3⟩ := st2.store (i := i) (m := .fz z) (v := zv) (f := []) (by rw [RepM]; exact ⟨rfl, hzv⟩) (by simpa using st2.nod) (by simp) hl
          exact w.nx _ eb3 _ F2 H2 A3 s3 (Go.trans go (Go.trans go2 ((Go.refl F2 H2 A2).weak (by simpa using m3)))) (Fix.set hn)
        · rw [if_neg hl] at eb3; exact absurd eb3 w.nb
    · rw [q] at eb
      exact w.xc x ρ1 eb cls d σ F1 H1 A1 st1 go (Fix.refl _ _) hx
/-- name[k] op= e -/
def sAugIx (i : Nat) (ix e : SE PV) (f : PV → PV → Option PV) : SE Out := fun ρ => match mlAt i ρ with
  | none => .bad
  | some _ => (ix.bind fun kq ρ1 => match (asI kq).bind fun k => (getAt i k ρ1).map fun p => (k, p) with
    | none => .bad
    | some z => (e.bind fun q ρ2 => match f z.2 q with
      | none => .bad
      | some y => match putAt i z.1 y ρ2 with
        | none => .bad
        | some ρ3 => .ok .nx ρ3) ρ1) ρ
theorem get_list : PGet X (rIxL X.K) := by
  intro pins s σ H o i ov iv Q I ro ri h
  obtain ⟨p, xs, k, z, rfl, rfl, hq, he, q⟩ := h
  cases ro
  obtain ⟨t, rfl⟩ := ri
  obtain ⟨its, r, pl, hz⟩ := I.list hq
  obtain ⟨j, h1, h2, h3, h4, h5⟩ := atI_get he
  obtain ⟨w, ew, rw'⟩ := r.get h2
  have hl := r.length
  have hn := line63
  have fin : EP X pins σ Q w s := ⟨z, H, I, rw', q⟩
  by_cases h0 : 0 ≤ k
  · have hj : k.toNat = j := by
      rw [seqIndex_of h0 h5] at h1
      exact Option.some.inj h1
    exact wpAny_getItem_list pl.isList h0 (by omega) (by rw [hj]; simpa using ew) fin
  · have hj : (k + (its.toArray.size : Int)).toNat = j := by
      rw [seqIndex_neg (by omega) h4] at h1
      rw [List.size_toArray, ← hl]
      exact Option.some.inj h1
    exact wpAny_getItem_list_neg pl.isList (by omega) (by rw [List.size_toArray] <;> omega) (by omega) (by rw [hj]; simpa using ew) fin
end
end Mv

set_option Elab.async false
set_option linter.all false
set_option maxRecDepth 100000
set_option maxHeartbeats 4000000
namespace Mv
open PySem PySem.Spec PyProof.Rows L2

section
variable {X : Cx} {n : Nat} {W : WX} {pos : Pos}
theorem getAt_rep {K : PySem.W.Frag} {ρ : Env} {σ : L2.St} {F H : Hp} {A : List Addr} {i : Nat} {k : Int} {p : PV} (s : StOk K ρ σ F H A) (h : getAt i k ρ = some p) :
    ∃ a vs v, σ[i]? = some (some (.ref a)) ∧ H a = some (.lst vs) ∧ atI vs k = some v ∧ RepF K F p v := by
  unfold getAt at h
  cases e : mlAt i ρ with
  | none => rw [e] at h; cases h
  | some xs =>
    rw [e] at h
    have h' : (match atI xs k with
      | some (.fz p) => some p
      | _ => none) = some p := h
    obtain ⟨a, vs, r, y1, y2, y3, y4, y5, y6, _⟩ := s.write (mlAt_eq e)
    have hl := RepMs.length y3
    unfold atI at h' ⊢
    cases ej : ixN xs.length k with
    | none => rw [ej] at h'; cases h'
    | some j =>
      rw [ej] at h'
      have h2 : (match xs[j]? with
        | some (.fz p) => some p
        | _ => none) = some p := h'
      cases em : xs[j]? with
      | none => rw [em] at h2; cases h2
      | some m =>
        rw [em] at h2
        cases m with
        | fz p' =>
          cases h2
          obtain ⟨w, f1, g, f2, q1, q2, q3, q4⟩ := RepMs.at y3 em
          rw [RepM] at q3
          refine ⟨a, vs, w, y1, y2, ?_, q3.2⟩
          rw [hl, ej]
          exact q1
        | _ => cases h2
theorem qs_augIx (i : Nat) {x : Str} {ix e : Expr} {ti te : TE} {si se : SE PV} {op : Operator} {r : R2} {f : PV → PV → Option PV} {px tpos : Pos} (ho : IpQ X op r f) (hx : QE X W ix ti si) (he : QE X W e te se) (hN : X.N[i]? = some x := by rfl) (hv : Vis X.env.scope x := by first | exact Or.inl rfl | exact Or.inr (Or.inl rfl) | exact Or.inr (Or.inr rfl)) (hd : (x == ("__debug__" : Str)) = false := by decide)
    (hcd : (x == ("__classdict__" : Str)) = false := by decide) (ha : ∀ ov iv new, augStore ix ov iv new = (do holding [new, ov, iv] (setItem ov iv new); release [new, ov, iv] []; pure .next) := by intros; rfl) :
    QS X n W (.AugAssign (.Subscript (.Name x px) ix tpos) op e pos) (tAugS (tVar i) ti te (rIxL X.K) r rSetL) (sAugIx i si se f) := by
  refine ⟨ps_augS (pe_var hN hv hd hcd) hx.pe get_list he.pe ho.ip set_list ha, fun ρ σ F H A st D w => ?_⟩
  have e0 : sAugIx i si se f ρ = match mlAt i ρ with
    | none => .bad
    | some _ => (si.bind fun kq ρ1 => match (asI kq).bind fun k => (getAt i k ρ1).map fun p => (k, p) with
      | none => .bad
      | some z => (se.bind fun q ρ2 => match f z.2 q with
        | none => .bad
        | some y => match putAt i z.1 y ρ2 with
          | none => .bad
          | some ρ3 => .ok .nx ρ3) ρ1) ρ := rfl
  cases h0 : mlAt i ρ with
  | none => rw [h0] at e0; exact absurd e0 w.nb
  | some ys =>
    rw [h0] at e0
    obtain ⟨a0, vs0, r0, z1, z2, z3, z4, z5, z6, _⟩ := st.write (mlAt_eq h0)
    have eb := e0.trans (bind_eq si (fun kq ρ1 => match (asI kq).bind fun k => (getAt i k ρ1).map fun p => (k, p) with
      | none => .bad
      | some z => (se.bind fun q ρ2 => match f z.2 q with
        | none => .bad
        | some y => match putAt i z.1 y ρ2 with
          | none => .bad
          | some ρ3 => .ok Out.nx ρ3) ρ1) ρ)
    refine ⟨.ref a0, z1, hx.ev ρ σ F H A (nob_le _) st _ (fun q => ?_) (fun kq ρ1 q1 kv F1 H1 A1 f1 st1 hr1 _ _ g1 => ?_) (fun x ρ1 q cls d F1 H1 A1 st1 g1 hx => ?_)⟩
    · rw [q] at eb; exact w.nb eb
    · rw [q1] at eb
      obtain ⟨rfl, hk⟩ := hr1
      have eb2 : sAugIx i si se f ρ = match (asI kq).bind fun k => (getAt i k ρ1).map fun p => (k, p) with
        | none => .bad
        | some z => (se.bind fun q ρ2 => match f z.2 q with
          | none => .bad
          | some y => match putAt i z.1 y ρ2 with
            | none => .bad
            | some ρ3 => .ok Out.nx ρ3) ρ1 := eb
      cases ez : (asI kq).bind fun k => (getAt i k ρ1).map fun p => (k, p) with
      | none => rw [ez] at eb2; exact absurd eb2 w.nb
      | some z =>
        rw [ez] at eb2
        cases ek : asI kq with
        | none => rw [ek] at ez; cases ez
        | some k =>
          rw [ek] at ez
          have ez2 : (getAt i k ρ1).map (fun p => (k, p)) = some z := ez
          cases ep : getAt i k ρ1 with
          | none => rw [ep] at ez2; cases ez2
          | some p =>
            rw [ep] at ez2
            cases ez2
            rw [asI_eq ek] at hk
            have hk' := repI.mp hk
            obtain ⟨a, vs, v, y1, y2, y3, y4⟩ := getAt_rep st1 ep
            rw [z1] at y1
            cases y1
            have eb3 := eb2.trans (bind_eq se (fun q ρ2 => match f p q with
              | none => .bad
              | some y => match putAt i k y ρ2 with
                | none => .bad
                | some ρ3 => .ok Out.nx ρ3) ρ1)
            refine ⟨a0, vs, k, v, rfl, hk', SqL.of y2, y3, he.ev ρ1 σ F1 H1 A1 (nob_le _) st1 _ (fun q => ?_) (fun q ρ2 q2 qv F2 H2 A2 f2 st2 hr2 _ _ g2 => ?_) (fun x ρ2 q cls d F2 H2 A2 st2 g2 hx => ?_)⟩
            · rw [q] at eb3; exact w.nb eb3
            · rw [q2] at eb3
              obtain ⟨rfl, hq⟩ := hr2
              have eb4 : sAugIx i si se f ρ = match f p q with
                | none => .bad
                | some y => match putAt i k y ρ2 with
                  | none => .bad
                  | some ρ3 => .ok Out.nx ρ3 := eb3
              cases ey : f p q with
              | none => rw [ey] at eb4; exact absurd eb4 w.nb
              | some y =>
                rw [ey] at eb4
                have eb5 : sAugIx i si se f ρ = match putAt i k y ρ2 with
                  | none => .bad
                  | some ρ3 => .ok Out.nx ρ3 := eb4
                cases eu : putAt i k y ρ2 with
                | none => rw [eu] at eb5; exact absurd eb5 w.nb
                | some ρ3 =>
                  rw [eu] at eb5
                  refine ho.pop p q y v qv ey F2 W (RepF.mono g2.f _ _ y4) hq ρ2 σ F2 H2 A2 (Same.refl _) st2 _ (fun h => nomatch h) (fun z' ρ4 hz zv F4 H4 A4 f4 st4 hr4 nd4 hn4 go4 => ?_) (fun x ρ4 h => nomatch h)
                  cases hz
                  obtain ⟨rfl, hzv⟩ := hr4
                  obtain ⟨a, us, j, x1, x2, x3, A5, s5, g5⟩ := st4.putAt hzv eu
                  rw [z1] at x1
                  cases x1
                  exact ⟨a0, us, k, j, rfl, hk', x2, x3, w.nx _ eb5 σ F4 _ A5 s5 (Go.trans g1 (Go.trans g2 (Go.trans go4 g5))) (Fix.refl _ _)⟩
            · rw [q] at eb3
              exact w.xc x ρ2 eb3 cls d σ F2 H2 A2 st2 (Go.trans g1 g2) (Fix.refl _ _) hx
    · rw [q] at eb
      exact w.xc x ρ1 eb cls d σ F1 H1 A1 st1 g1 (Fix.refl _ _) hx
end

/-! ### what is walked -/
def itL (p : PV) : Option (List PV) := match p with
  | .lst xs => some xs
  | .tup xs => some xs
  | .str s => some (s.map fun c => .str [c])
  | _ => none
theorem isIt_l {K : PySem.W.Frag} {F : Hp} {xs : List PV} {a : Addr} {vs : List V} (h : F a = some (.lst vs)) (r : RepFs K F xs vs) : IsIt K F xs (Itl K a) where
  goes := fun i H F1 hi s1 s2 => ⟨vs, vs[i]'(by rw [r.length]; exact hi), SqL.of (s2 _ _ (s1 _ _ h)), List.getElem?_eq_getElem _⟩
  stops := fun H F1 s1 s2 => ⟨vs, SqL.of (s2 _ _ (s1 _ _ h)), by rw [r.length]; exact Nat.le_refl _⟩
  yields := fun i p H F1 x H' hp s1 s2 y => by
    obtain ⟨rfl, y⟩ := y
    obtain ⟨v, q1, q2⟩ := r.get hp
    have e := y vs (SqL.of (s2 _ _ (s1 _ _ h)))
    rw [q1] at e
    cases e
    exact ⟨F1, Same.refl _, s2, Same.refl _, fun b e q => absurd e q, RepF.mono s1 _ _ q2⟩
theorem isIt_t {K : PySem.W.Frag} {F : Hp} {xs : List PV} {a : Addr} {vs : List V} (h : SqT K F a vs) (r : RepFs K F xs vs) : IsIt K F xs (Itt K a) where
  goes := fun i H F1 hi s1 s2 => ⟨vs, vs[i]'(by rw [r.length]; exact hi), same_t s2 (same_t s1 h), List.getElem?_eq_getElem _⟩
  stops := fun H F1 s1 s2 => ⟨vs, same_t s2 (same_t s1 h), by rw [r.length]; exact Nat.le_refl _⟩
  yields := fun i p H F1 x H' hp s1 s2 y => by
    obtain ⟨rfl, y⟩ := y
    obtain ⟨v, q1, q2⟩ := r.get hp
    have e := y vs (same_t s2 (same_t s1 h))
    rw [q1] at e
    cases e
    exact ⟨F1, Same.refl _, s2, Same.refl _, fun b e q => absurd e q, RepF.mono s1 _ _ q2⟩
theorem isIt_s {K : PySem.W.Frag} {F : Hp} {s : Tx} : IsIt K F (s.map fun c => .str [c]) (Its (mkS s)) where
  goes := fun i H F1 hi s1 s2 => by
    show i < s.toArray.size
    rw [List.size_toArray]
    simpa using hi
  stops := fun H F1 s1 s2 => by
    show s.toArray.size ≤ _
    rw [List.size_toArray, List.length_map]
    exact Nat.le_refl _
  yields := fun i p H F1 x H' hp s1 s2 y => by
    obtain ⟨rfl, c, y1, rfl⟩ := y
    have y2 : s[i]? = some c := by
      have : s.toArray[i]? = some c := y1
      simpa using this
    rw [List.getElem?_map, y2] at hp
    cases hp
    exact ⟨F1, Same.refl _, s2, Same.refl _, fun b e q => absurd e q, repS.mpr rfl⟩
theorem isIt_r {K : PySem.W.Frag} {F : Hp} {lo : Int} {n : Nat} : IsIt K F ((List.range n).map fun (i : Nat) => PV.int (lo + i)) (Itr lo n) where
  goes := fun i H F1 hi s1 s2 => by
    show i < n
    simpa using hi
  stops := fun H F1 s1 s2 => by
    show n ≤ _
    rw [List.length_map, List.length_range]
    exact Nat.le_refl _
  yields := fun i p H F1 x H' hp s1 s2 y => by
    obtain ⟨rfl, rfl⟩ := y
    rw [List.getElem?_map] at hp
    by_cases hi : i < n
    · rw [List.getElem?_range hi] at hp
      cases hp
      exact ⟨F1, Same.refl _, s2, Same.refl _, fun b e q => absurd e q, repI.mpr rfl⟩
    · rw [List.getElem?_eq_none (by rw [List.length_range]; omega)] at hp
      cases hp
theorem pair_rep {K : PySem.W.Frag} {F : Hp} {T : Addr} {p q : PV} {x y : V} (e : F T = some (.tup [x, y])) (hp : RepF K F p x) (hq : RepF K F q y) : RepF K F (.tup [p, q]) (.ref T) := by
  refine rep_tup e ?_
  rw [RepFs]
  exact ⟨x, [y], rfl, hp, RepFs.single hq⟩
/-- a new thing that nobody owns, laid by an iterator -/
theorem laid_new {F H : Hp} {T : Addr} {o : HO} (s : Same F H) (hT : H T = none) : Same F (upd F T o) ∧ Same (upd F T o) (upd H T o) ∧ Same H (upd H T o) ∧ (∀ b, F b = none → (upd F T o) b ≠ none → H b = none) := by
  have hF : F T = none := by
    cases e : F T with
    | none => rfl
    | some u => rw [s _ _ e] at hT; cases hT
  refine ⟨fun b u e => by rw [upd_ne (ne_of_none e hF)]; exact e, fun b u e => ?_, fun b u e => by rw [upd_ne (ne_of_none e hT)]; exact e, fun b e q => ?_⟩
  · by_cases hb : b = T
    · subst hb; rw [upd_same] at e ⊢; exact e
    · rw [upd_ne hb] at e ⊢; exact s _ _ e
  · by_cases hb : b = T
    · subst hb; exact hT
    · rw [upd_ne hb] at q; exact absurd e q
theorem isIt_e {K : PySem.W.Frag} {F : Hp} {xs : List PV} {a : Addr} {vs : List V} (h : F a = some (.lst vs)) (r : RepFs K F xs vs) : IsIt K F (xs.mapIdx fun i p => .tup [.int i, p]) (Ite K a) where
  goes := fun i H F1 hi s1 s2 => ⟨vs, vs[i]'(by rw [r.length]; simpa using hi), SqL.of (s2 _ _ (s1 _ _ h)), List.getElem?_eq_getElem _⟩
  stops := fun H F1 s1 s2 => ⟨vs, SqL.of (s2 _ _ (s1 _ _ h)), by rw [r.length]; simp⟩
  yields := fun i p H F1 x H' hp s1 s2 y => by
    obtain ⟨T, w, rfl, hT, rfl, y⟩ := y
    rw [List.getElem?_mapIdx] at hp
    cases ex : xs[i]? with
    | none => rw [ex] at hp; cases hp
    | some p0 =>
      rw [ex] at hp
      cases hp
      obtain ⟨v, q1, q2⟩ := r.get ex
      have e := y vs (SqL.of (s2 _ _ (s1 _ _ h)))
      rw [q1] at e
      cases e
      obtain ⟨n1, n2, n3, n4⟩ := laid_new (o := .tup [.int (i : Nat), w]) s2 hT
      exact ⟨_, n1, n2, n3, n4, pair_rep upd_same (repI.mpr rfl) (RepF.mono (s1.trans n1) _ _ q2)⟩
theorem isIt_z {K : PySem.W.Frag} {F : Hp} {xs ys : List PV} {a b : Addr} {vs us : List V} (h : F a = some (.lst vs)) (r : RepFs K F xs vs) (h' : F b = some (.lst us)) (r' : RepFs K F ys us) : IsIt K F (List.zipWith (fun p q => .tup [p, q]) xs ys) (Itz K a b) where
  goes := fun i H F1 hi s1 s2 => by
    rw [List.length_zipWith] at hi
    exact ⟨vs, us, vs[i]'(by rw [r.length]; omega), us[i]'(by rw [r'.length]; omega), SqL.of (s2 _ _ (s1 _ _ h)), SqL.of (s2 _ _ (s1 _ _ h')), List.getElem?_eq_getElem _, List.getElem?_eq_getElem _⟩
  stops := fun H F1 s1 s2 => ⟨vs, us, SqL.of (s2 _ _ (s1 _ _ h)), SqL.of (s2 _ _ (s1 _ _ h')), by rw [r.length, r'.length, List.length_zipWith]; omega⟩
  yields := fun i p H F1 x H' hp s1 s2 y => by
    obtain ⟨T, w, w', rfl, hT, rfl, y, y'⟩ := y
    rw [List.getElem?_zipWith] at hp
    cases ex : xs[i]? with
    | none => rw [ex] at hp; cases hp
    | some p0 =>
      cases ey : ys[i]? with
      | none => rw [ex, ey] at hp; cases hp
      | some p1 =>
        rw [ex, ey] at hp
        cases hp
        obtain ⟨v, q1, q2⟩ := r.get ex
        obtain ⟨v', q1', q2'⟩ := r'.get ey
        have e := y vs (SqL.of (s2 _ _ (s1 _ _ h)))
        have e' := y' us (SqL.of (s2 _ _ (s1 _ _ h')))
        rw [q1] at e
        rw [q1'] at e'
        cases e
        cases e'
        obtain ⟨n1, n2, n3, n4⟩ := laid_new (o := .tup [w, w']) s2 hT
        exact ⟨_, n1, n2, n3, n4, pair_rep upd_same (RepF.mono (s1.trans n1) _ _ q2) (RepF.mono (s1.trans n1) _ _ q2')⟩
theorem isIt_zT {K : PySem.W.Frag} {F : Hp} {xs ys : List PV} {a b : Addr} {vs us : List V} (h : SqT K F a vs) (r : RepFs K F xs vs) (h' : SqT K F b us) (r' : RepFs K F ys us) : IsIt K F (List.zipWith (fun p q => .tup [p, q]) xs ys) (RZ.ItzT K a b) where
  goes := fun i H F1 hi s1 s2 => by
    rw [List.length_zipWith] at hi
    exact ⟨vs, us, vs[i]'(by rw [r.length]; omega), us[i]'(by rw [r'.length]; omega), same_t s2 (same_t s1 h), same_t s2 (same_t s1 h'), List.getElem?_eq_getElem _, List.getElem?_eq_getElem _⟩
  stops := fun H F1 s1 s2 => ⟨vs, us, same_t s2 (same_t s1 h), same_t s2 (same_t s1 h'), by rw [r.length, r'.length, List.length_zipWith]; omega⟩
  yields := fun i p H F1 x H' hp s1 s2 y => by
    obtain ⟨T, w, w', rfl, hT, rfl, y, y'⟩ := y
    rw [List.getElem?_zipWith] at hp
    cases ex : xs[i]? with
    | none => rw [ex] at hp; cases hp
    | some p0 =>
      cases ey : ys[i]? with
      | none => rw [ex, ey] at hp; cases hp
      | some p1 =>
        rw [ex, ey] at hp
        cases hp
        obtain ⟨v, q1, q2⟩ := r.get ex
        obtain ⟨v', q1', q2'⟩ := r'.get ey
        have e := y vs (same_t s2 (same_t s1 h))
        have e' := y' us (same_t s2 (same_t s1 h'))
        rw [q1] at e
        rw [q1'] at e'
        cases e
        cases e'
        obtain ⟨n1, n2, n3, n4⟩ := laid_new (o := .tup [w, w']) s2 hT
        exact ⟨_, n1, n2, n3, n4, pair_rep upd_same (RepF.mono (s1.trans n1) _ _ q2) (RepF.mono (s1.trans n1) _ _ q2')⟩
/-- a list, a tuple, a text -/
def iAny (K : PySem.W.Frag) (te : TE) : TI := fun σ H R => te σ H fun x H1 => (∃ a, x = .ref a ∧ (∃ xs, SqL K H1 a xs) ∧ R (Itl K a) H1) ∨ (∃ a, x = .ref a ∧ (∃ xs, SqT K H1 a xs) ∧ R (Itt K a) H1) ∨ ∃ s, x = .str s ∧ R (Its s) H1
section
variable {X : Cx} {W : WX} {tg : Expr}
theorem pi_any {e : Expr} {te : TE} (he : PE X e te) : PI X tg e (iAny X.K te) := by
  refine ⟨fun pins s σ H R I h => ?_⟩
  refine thn (he.run pins s σ H _ I h) fun v s1 ⟨x, H1, I1, r1, q1⟩ => ?_
  rcases q1 with ⟨a, e, ⟨xs, hq⟩, q⟩ | ⟨a, e, ⟨xs, hq⟩, q⟩ | ⟨x, ex, q⟩
  · subst e
    cases r1
    obtain ⟨its, rv, p, hz⟩ := I1.list hq
    refine wpAny_pyIter_list p.isList ?_
    refine ⟨s1.heap.objs.size, [s1.heap.objs.size], _, _, H1, rfl, I1.kept (t' := s1.toks) fun b o e => Heap.get?_push_of_some _ e, turn_list a _, ⟨_, Heap.get?_push_size _ rfl, rfl, rfl⟩, fun b hb => ?_, q⟩
    have e : b = s1.heap.objs.size := by simpa using hb
    subst e
    exact I1.fpOk (Nat.le_refl _) (I1.hok.fresh (Nat.le_refl _))
  · subst e
    cases r1
    obtain ⟨its, rv, p, hz⟩ := I1.tuple hq
    refine wpAny_pyIter_tuple (show s1.heap.IsTuple a its.toArray from p) ?_
    refine ⟨s1.heap.objs.size, [s1.heap.objs.size], _, _, H1, rfl, I1.kept (t' := s1.toks) fun b o e => Heap.get?_push_of_some _ e, turn_tuple a _, ⟨_, Heap.get?_push_size _ rfl, rfl, rfl⟩, fun b hb => ?_, q⟩
    have e : b = s1.heap.objs.size := by simpa using hb
    subst e
    exact I1.fpOk (Nat.le_refl _) (I1.hok.fresh (Nat.le_refl _))
  · subst ex
    obtain ⟨t, rfl⟩ := r1
    cases ha : x.cps.all (· < 128)
    · exact wpAny_pyIter_wide ha (pi_one (tk := s1.toks) I1 _ (turn_str _ x t "str_iterator" (.inr rfl)) ⟨_, Heap.get?_push_size _ rfl, rfl, rfl⟩ q)
    · exact wpAny_pyIter_ascii ha (pi_one (tk := s1.toks) I1 _ (turn_str _ x t "str_ascii_iterator" (.inl rfl)) ⟨_, Heap.get?_push_size _ rfl, rfl, rfl⟩ q)
def sIt (s : SE PV) : SE (List PV) := s.bind fun p => ofO (itL p)
theorem ev_it {K : PySem.W.Frag} {B : Hp} {wi : TI} {items : List PV} {J : It} (h : IsIt K B items J) (hw : ∀ σ F H R, Same B F → Same F H → R J H → wi σ H R) : Ev K B (fr (IsIt K)) W wi (SE.ret items) := fun ρ σ F H A sB st Q nb hok hex =>
  hw σ F H Q sB st.sub (hok items ρ rfl J F H A [] st ⟨rfl, h.mono sB⟩ (by simpa using st.nod) (by simp) (by simpa using Go.refl F H A))
theorem qi_any {e : Expr} {te : TE} {s : SE PV} (he : QE X W e te s) : QI X W tg e (iAny X.K te) (sIt s) := by
  refine ⟨pi_any he.pe, he.ev.bind fun p x B1 s1 hp => Ev.ofO fun items hi => ?_⟩
  cases p with
  | lst xs =>
    cases hi
    rw [RepF] at hp
    obtain ⟨a, vs, rfl, e2, e3⟩ := hp
    exact ev_it (isIt_l e2 e3) fun σ F H R sB sF r => .inl ⟨a, rfl, ⟨vs, SqL.of (sF _ _ (sB _ _ e2))⟩, r⟩
  | tup xs =>
    cases hi
    rw [RepF] at hp
    obtain ⟨a, vs, rfl, e2, e3⟩ := hp
    exact ev_it (isIt_t e2 e3) fun σ F H R sB sF r => .inr (.inl ⟨a, rfl, ⟨vs, same_t sF (same_t sB e2)⟩, r⟩)
  | str s =>
    cases hi
    rw [repS.mp hp]
    exact ev_it isIt_s fun σ F H R sB sF r => .inr (.inr ⟨_, rfl, r⟩)
  | _ => cases hi
/-- range(n), range(a, b) -/
def rngL (lo hi : Int) : List PV := (List.range (hi - lo).toNat).map fun (i : Nat) => PV.int (lo + i)
def rngOf : List PV → Option (List PV)
  | [.int j] => if -(2 ^ 62) ≤ j ∧ j < 2 ^ 62 then some (rngL 0 j) else none
  | [.int i, .int j] => if (-(2 ^ 62) ≤ i ∧ i < 2 ^ 62) ∧ -(2 ^ 62) ≤ j ∧ j < 2 ^ 62 then some (rngL i j) else none
  | _ => none
def sRng (s : SE (List PV)) : SE (List PV) := s.bind fun ps => ofO (rngOf ps)
theorem rngOf1 {a : PV} {items : List PV} (h : rngOf [a] = some items) : ∃ j, a = .int j ∧ (-(2 ^ 62) ≤ j ∧ j < 2 ^ 62) ∧ items = rngL 0 j := by
  unfold rngOf at h
  split at h
  · rename_i j e
    split at h
    · rename_i hc
      cases e
      cases h
      exact ⟨j, rfl, hc, rfl⟩
    · cases h
  · rename_i e
    cases e
  · cases h
theorem rngOf2 {a b : PV} {items : List PV} (h : rngOf [a, b] = some items) : ∃ i j, a = .int i ∧ b = .int j ∧ ((-(2 ^ 62) ≤ i ∧ i < 2 ^ 62) ∧ -(2 ^ 62) ≤ j ∧ j < 2 ^ 62) ∧ items = rngL i j := by
  unfold rngOf at h
  split at h
  · rename_i e
    cases e
  · rename_i i j e
    split at h
    · rename_i hc
      cases e
      cases h
      exact ⟨i, j, rfl, rfl, hc, rfl⟩
    · cases h
  · cases h
theorem qi_range1 {a : Expr} {ta : TA} {s : SE (List PV)} {p pos : Pos} (ha : QA X W [a] ta s) (hm : X.mg "range" = none) (hl : ∀ ρ ps ρ', s ρ = .ok ps ρ' → ps.length = 1) (hg : Gl X "range" := by rfl) (hs : starEach [a] X.env = [(false, eval a X.env)] := by rfl) : QI X W tg (.Call (.Name "range" p) [a] [] pos) (iRng1 ta) (sRng s) := by
  refine ⟨pi_range1 hg hm ha.pa hs, fun ρ σ F H A sB st Q nb hok hex => ?_⟩
  have eb := bind_eq s (fun ps => ofO (rngOf ps)) ρ
  refine ha.ev ρ σ F H A sB st _ (fun e => ?_) (fun ps ρ1 e1 vs F1 H1 A1 f st1 hr _ _ g1 => ?_) (fun x ρ1 e1 cls d F1 H1 A1 st1 g1 hx => ?_)
  · rw [e] at eb; exact nb eb
  · have hps := hl ρ ps ρ1 e1
    rw [e1] at eb
    obtain ⟨rfl, hr⟩ := hr
    match ps, hps with
    | [a0], _ =>
      cases eo : rngOf [a0] with
      | none =>
        have : sRng s ρ = ofO (rngOf [a0]) ρ1 := eb
        rw [eo] at this
        exact absurd this nb
      | some items =>
        have e2 : sRng s ρ = ofO (rngOf [a0]) ρ1 := eb
        rw [eo] at e2
        obtain ⟨j, rfl, hc, rfl⟩ := rngOf1 eo
        rw [RepFs] at hr
        obtain ⟨v, r, rfl, h1, h2⟩ := hr
        rw [RepFs] at h2
        subst h2
        refine ⟨j, by rw [repI.mp h1], hc.1, hc.2, hok _ ρ1 e2 (Itr 0 j.toNat) F1 H1 A1 [] st1 ⟨rfl, ?_⟩ (by simpa using st1.nod) (by simp) g1⟩
        have := isIt_r (K := X.K) (F := F1) (lo := 0) (n := (j - 0).toNat)
        rw [Int.sub_zero] at this
        unfold rngL
        rw [Int.sub_zero]
        exact this
  · rw [e1] at eb
    exact hex x ρ1 eb cls d F1 H1 A1 st1 g1 hx
theorem qi_range2 {a b : Expr} {ta : TA} {s : SE (List PV)} {p pos : Pos} (ha : QA X W [a, b] ta s) (hm : X.mg "range" = none) (hl : ∀ ρ ps ρ', s ρ = .ok ps ρ' → ps.length = 2) (hg : Gl X "range" := by rfl) (hs : starEach [a, b] X.env = [(false, eval a X.env), (false, eval b X.env)] := by rfl) (hs2 : starEach [b] X.env = [(false, eval b X.env)] := by rfl) : QI X W tg (.Call (.Name "range" p) [a, b] [] pos) (iRng2 ta) (sRng s) := by
  refine ⟨pi_range2 hg hm ha.pa hs hs2, fun ρ σ F H A sB st Q nb hok hex => ?_⟩
  have eb := bind_eq s (fun ps => ofO (rngOf ps)) ρ
  refine ha.ev ρ σ F H A sB st _ (fun e => ?_) (fun ps ρ1 e1 vs F1 H1 A1 f st1 hr _ _ g1 => ?_) (fun x ρ1 e1 cls d F1 H1 A1 st1 g1 hx => ?_)
  · rw [e] at eb; exact nb eb
  · have hps := hl ρ ps ρ1 e1
    rw [e1] at eb
    obtain ⟨rfl, hr⟩ := hr
    match ps, hps with
    | [a0, b0], _ =>
      have e2 : sRng s ρ = ofO (rngOf [a0, b0]) ρ1 := eb
      cases eo : rngOf [a0, b0] with
      | none =>
        rw [eo] at e2
        exact absurd e2 nb
      | some items =>
        rw [eo] at e2
        obtain ⟨i, j, rfl, rfl, hc, rfl⟩ := rngOf2 eo
        rw [RepFs] at hr
        obtain ⟨v, r, rfl, h1, h2⟩ := hr
        rw [RepFs] at h2
        obtain ⟨u, r, rfl, h3, h4⟩ := h2
        rw [RepFs] at h4
        subst h4
        exact ⟨i, j, by rw [repI.mp h1, repI.mp h3], ⟨hc.1.1, hc.1.2, hc.2.1, hc.2.2⟩, hok _ ρ1 e2 (Itr i (j - i).toNat) F1 H1 A1 [] st1 ⟨rfl, isIt_r⟩ (by simpa using st1.nod) (by simp) g1⟩
  · rw [e1] at eb
    exact hex x ρ1 eb cls d F1 H1 A1 st1 g1 hx
theorem len_nil : ∀ ρ ps ρ', aNil ρ = .ok ps ρ' → ps.length = 0 := fun ρ ps ρ' h => by
  cases h
  rfl
theorem len_cons {e : SE PV} {r : SE (List PV)} {k : Nat} (h : ∀ ρ ps ρ', r ρ = .ok ps ρ' → ps.length = k) : ∀ ρ ps ρ', aCons e r ρ = .ok ps ρ' → ps.length = k + 1 := fun ρ ps ρ' q => by
  have e1 := bind_eq e (fun p => r.bind fun ps => SE.ret (p :: ps)) ρ
  have q' : e.bind (fun p => r.bind fun ps => SE.ret (p :: ps)) ρ = .ok ps ρ' := q
  rw [q'] at e1
  cases h1 : e ρ with
  | bad => rw [h1] at e1; cases e1
  | exc x ρ1 => rw [h1] at e1; cases e1
  | ok p ρ1 =>
    rw [h1] at e1
    have e2 := e1.trans (bind_eq r (fun ps => SE.ret (p :: ps)) ρ1)
    cases h2 : r ρ1 with
    | bad => rw [h2] at e2; cases e2
    | exc x ρ1 => rw [h2] at e2; cases e2
    | ok qs ρ2 =>
      rw [h2] at e2
      cases e2
      rw [List.length_cons, h ρ1 qs ρ' h2]
/-- zip(a, b) -/
def zipOf : List PV → Option (List PV)
  | [.lst xs, .lst ys] => some (List.zipWith (fun p q => .tup [p, q]) xs ys)
  | [.tup xs, .tup ys] => some (List.zipWith (fun p q => .tup [p, q]) xs ys)
  | _ => none
def sZip (s : SE (List PV)) : SE (List PV) := s.bind fun ps => ofO (zipOf ps)
theorem qi_zip {e e2 : Expr} {ta : TA} {s : SE (List PV)} {p pos tpos : Pos} {elts : List Expr} {kk : Nat} (ha : QA X W [e, e2] ta s) (hm : X.mg "zip" = none) (hg : Gl X "zip" := by rfl) (hs : starEach [e, e2] X.env = (false, eval e X.env) :: starEach [e2] X.env := by rfl) (hpl : (backTo pos (starEach [e2] X.env)).any (·.1) = false := by rfl) :
    QI X W (.Tuple elts kk tpos) (.Call (.Name "zip" p) [e, e2] [] pos) (RZ.iZipA X.K ta) (sZip s) := by
  refine ⟨RZ.pi_zipA hg hm ha.pa hs hpl, ha.ev.bind fun ps vs B1 s1 hp => Ev.ofO fun items hi => ?_⟩
  unfold zipOf at hi
  split at hi
  · rename_i xs ys
    cases hi
    rw [RepFs] at hp
    obtain ⟨v, r, rfl, h1, h2⟩ := hp
    rw [RepFs] at h2
    obtain ⟨u, r, rfl, h3, h4⟩ := h2
    rw [RepFs] at h4
    subst h4
    rw [RepF] at h1 h3
    obtain ⟨a, vs, rfl, x2, x3⟩ := h1
    obtain ⟨b, us, rfl, y2, y3⟩ := h3
    exact ev_it (isIt_z x2 x3 y2 y3) fun σ F H R sB sF r => ⟨a, b, vs, us, rfl, .inl ⟨SqL.of (sF _ _ (sB _ _ x2)), SqL.of (sF _ _ (sB _ _ y2)), r⟩⟩
  · rename_i xs ys
    cases hi
    rw [RepFs] at hp
    obtain ⟨v, r, rfl, h1, h2⟩ := hp
    rw [RepFs] at h2
    obtain ⟨u, r, rfl, h3, h4⟩ := h2
    rw [RepFs] at h4
    subst h4
    rw [RepF] at h1 h3
    obtain ⟨a, vs, rfl, x2, x3⟩ := h1
    obtain ⟨b, us, rfl, y2, y3⟩ := h3
    exact ev_it (isIt_zT x2 x3 y2 y3) fun σ F H R sB sF r => ⟨a, b, vs, us, rfl, .inr ⟨same_t sF (same_t sB x2), same_t sF (same_t sB y2), r⟩⟩
  · cases hi
end
end Mv

set_option Elab.async false
set_option linter.all false
set_option maxRecDepth 100000
set_option maxHeartbeats 4000000
namespace Mv
open PySem PySem.Spec PyProof.Rows L2

/-! ### enumerate -/
def Ies (x : Str) : It := ⟨fun i _ => i < x.cps.size, fun i H v H' => ∃ T c, x.cps[i]? = some c ∧ v = .ref T ∧ H T = none ∧ H' = upd H T (.tup [.int (i : Nat), .str ⟨#[c]⟩]), fun i _ => x.cps.size ≤ i⟩
theorem turn_enumS {P : Program} {w : World} {K : PySem.W.Frag} {elts : List Expr} {kk : Nat} {tpos : Pos} (x : Str) (t : Tok) (e it : Addr) :
    Turn P w K (.Tuple elts kk tpos) (Ies x) [e, it] e (fun i h => i ≤ x.cps.size ∧ (∃ old, IsEnum h e it ((i : Nat) : Int) old) ∧ h.IsStrIter it (strIterType x) x t i ∧ e ≠ it) where
  mem := by simp
  obj := fun i h st b hb => by
    obtain ⟨_, ⟨old, he⟩, ⟨o, ho, hc, hd⟩, _⟩ := st
    have e' : b = e ∨ b = it := by simpa using hb
    rcases e' with z | z
    · rw [z]; exact ⟨_, he, fun v q => nomatch q⟩
    · rw [z]; exact ⟨o, ho, fun v q => by rw [hd] at q; cases q⟩
  keep := fun i h h' st k => let ⟨hl, ⟨old, he⟩, ⟨o, ho, r⟩, hne⟩ := st; ⟨hl, ⟨old, k e (by simp) _ he⟩, ⟨o, k it (by simp) o ho, r⟩, hne⟩
  item := by
    intro X hP hw hK hc i pins s σ H E I hf st hg
    subst hP hw hK
    obtain ⟨hl, ⟨old, he⟩, hit, hne⟩ := st
    have hel : e < s.heap.objs.size := Heap.lt_size he
    have hil : it < s.heap.objs.size := by obtain ⟨_, q, _⟩ := hit; exact Heap.lt_size q
    have D := Draws.text (prog := X.prog) (w := X.w) (A := X.A.in1) (by exact I.ok.hd hc) it x t
    refine wpAny_pyNext_enum_itemD D he hit hg hne (by simpa using hne) fun u h' tk hP ho hit' hT hsz hk => ?_
    obtain ⟨c, tu, hcx, rfl⟩ := hP
    refine ⟨_, rfl, wpAny_letOwnedTupleGo_enum (s := { s with heap := h', toks := tk + 1 }) ho fun h'' he' sb => ?_⟩
    have hT2 : h''.get? s.heap.objs.size = some { cls := .type "tuple", data := .seq #[.int i tk, .str ⟨#[c]⟩ tu] } := (sb.2 _ (Nat.ne_of_gt hel)).trans hT
    have new : ObjOk X.prog X.w (upd H s.heap.objs.size (.tup [.int (i : Nat), .str ⟨#[c]⟩])) h'' s.heap.objs.size (.tup [.int (i : Nat), .str ⟨#[c]⟩]) :=
      ⟨by show 2 ≤ sizeLine; decide, [.int i tk, .str ⟨#[c]⟩ tu], .cons ⟨_, rfl⟩ (.cons ⟨_, rfl⟩ .nil), ⟨_, hT2, rfl, _, rfl⟩⟩
    have I1 : Inv X pins σ (upd H s.heap.objs.size (.tup [.int (i : Nat), .str ⟨#[c]⟩])) { s with heap := h'', toks := tk + 1 } :=
      I.turnedNew (ch := [e, it]) (fun b ob hb q => (sb.2 b (fun z => hb (by simp [z]))).trans (hk b ob (fun z => hb (by simp [z])) (fun z => hb (by simp [z])) q)) hf (Nat.le_refl _) new
    refine ⟨.ref s.heap.objs.size, _, I1, rfl, ⟨_, c, hcx, rfl, I.hok.fresh (Nat.le_refl _), rfl⟩, ⟨hg, ⟨.str ⟨#[c]⟩ tu, ?_⟩, ?_, hne⟩, fun b hb => ?_⟩
    · have e1 : ((i + 1 : Nat) : Int) = (i : Int) + 1 := by omega
      rw [e1]; exact he'
    · obtain ⟨o, ho2, r⟩ := hit'
      exact ⟨o, (sb.2 it (Ne.symm hne)).trans ho2, r⟩
    · have hb' : b < s.heap.objs.size := by
        have e' : b = e ∨ b = it := by simpa using hb
        rcases e' with z | z
        · rw [z]; exact hel
        · rw [z]; exact hil
      rw [upd_ne (Nat.ne_of_lt hb')]
      exact (hf b hb).1
  done := by
    intro X hP hw hK hc i pins s σ H E I hf st hg
    subst hP hw hK
    obtain ⟨hl, ⟨old, he⟩, hit, hne⟩ := st
    obtain ⟨f0, f1, f2, f3, f4, f5⟩ := hf it (by simp)
    have e1 : i = x.cps.size := Nat.le_antisymm hl hg
    subst e1
    have D := Draws.text (prog := X.prog) (w := X.w) (A := X.A.in1) (by exact I.ok.hd hc) it x t
    exact wpAny_pyNext_enum_endD D he hit fun h' eb => ⟨rfl, I.turned (t' := s.toks) (fun b o hb q => eb b o hb q) f0 f1 f3 f4 f5⟩
  self := fun A i s Q E st h => let ⟨_, ⟨_, he⟩, _⟩ := st; wpAny_pyIter_enum he h
def iEnA (K : PySem.W.Frag) (ta : TA) : TI := fun σ H R => ta σ H fun vs H1 => (∃ a xs, vs = [.ref a] ∧ SqL K H1 a xs ∧ R (Ite K a) H1) ∨ ∃ x, vs = [.str x] ∧ R (Ies x) H1
section
variable {X : Cx} {W : WX} {tg : Expr}
theorem pi_enumA {e : Expr} {ta : TA} {p pos tpos : Pos} {elts : List Expr} {kk : Nat} (hg : Gl X "enumerate") (hm : X.mg "enumerate" = none) (ha : PA X [e] ta) (hs : starEach [e] X.env = [(false, eval e X.env)] := by rfl) :
    PI X (.Tuple elts kk tpos) (.Call (.Name "enumerate" p) [e] [] pos) (iEnA X.K ta) := by
  refine ⟨fun pins s σ H R I h => ?_⟩
  refine Call_ (ld_blt I hg hm boot_enumerate (PyProof.Rows.callWith_type1 (thn (ha.run pos pins s σ H _ I h) fun us s1 ⟨vs, H1, I1, r1, q1⟩ => ?_) hs rfl))
  have fp : ∀ b, b ∈ [s1.heap.objs.size + 1, s1.heap.objs.size] → FpOk X pins H1 b := fun b hb => by
    have e' : b = s1.heap.objs.size + 1 ∨ b = s1.heap.objs.size := by simpa using hb
    have hle : s1.heap.objs.size ≤ b := by
      rcases e' with z | z
      · rw [z]; exact Nat.le_add_right _ _
      · rw [z]; exact Nat.le_refl _
    exact I1.fpOk hle (I1.hok.fresh hle)
  rcases q1 with ⟨a, xs, ex, hq, q⟩ | ⟨x, ex, q⟩
  · subst ex
    cases r1 with
    | cons r rr =>
      cases rr
      cases r
      obtain ⟨its, rv, p', hz⟩ := I1.list hq
      refine call_enumerate_list p'.isList fun h' he hit hsz hk => wpAny_pyIter_enum he ?_
      have I2 : Inv X pins σ H1 { s1 with heap := h' } := I1.kept (t' := s1.toks) hk
      exact ⟨s1.heap.objs.size + 1, [s1.heap.objs.size + 1, s1.heap.objs.size], _, _, H1, rfl, I2, turn_enum a (s1.heap.objs.size + 1) s1.heap.objs.size, ⟨⟨.none, he⟩, hit, Nat.succ_ne_self _⟩, fp, q⟩
  · subst ex
    cases r1 with
    | cons r rr =>
      cases rr
      obtain ⟨t, rfl⟩ := r
      refine call_enumerate_str fun h' he hit hsz hk => wpAny_pyIter_enum he ?_
      have I2 : Inv X pins σ H1 { s1 with heap := h' } := I1.kept (t' := s1.toks) hk
      exact ⟨s1.heap.objs.size + 1, [s1.heap.objs.size + 1, s1.heap.objs.size], _, _, H1, rfl, I2, turn_enumS x t (s1.heap.objs.size + 1) s1.heap.objs.size, ⟨Nat.zero_le _, ⟨.none, he⟩, hit, Nat.succ_ne_self _⟩, fp, q⟩
theorem isIt_es {K : PySem.W.Frag} {F : Hp} {s : Tx} : IsIt K F (s.mapIdx fun i c => .tup [.int i, .str [c]]) (Ies (mkS s)) where
  goes := fun i H F1 hi s1 s2 => by
    show i < s.toArray.size
    rw [List.size_toArray]
    simpa using hi
  stops := fun H F1 s1 s2 => by
    show s.toArray.size ≤ _
    rw [List.size_toArray]
    simp
  yields := fun i p H F1 x H' hp s1 s2 y => by
    obtain ⟨T, c, y1, rfl, hT, rfl⟩ := y
    have y2 : s[i]? = some c := by
      have : s.toArray[i]? = some c := y1
      simpa using this
    rw [List.getElem?_mapIdx, y2] at hp
    cases hp
    obtain ⟨n1, n2, n3, n4⟩ := laid_new (o := .tup [.int (i : Nat), .str ⟨#[c]⟩]) s2 hT
    exact ⟨_, n1, n2, n3, n4, pair_rep upd_same (repI.mpr rfl) (repS.mpr rfl)⟩
def enumOf : List PV → Option (List PV)
  | [.lst xs] => some (xs.mapIdx fun i p => .tup [.int i, p])
  | [.str s] => some (s.mapIdx fun i c => .tup [.int i, .str [c]])
  | _ => none
def sEnum (s : SE (List PV)) : SE (List PV) := s.bind fun ps => ofO (enumOf ps)
theorem qi_enum {e : Expr} {ta : TA} {s : SE (List PV)} {p pos tpos : Pos} {elts : List Expr} {kk : Nat} (ha : QA X W [e] ta s) (hm : X.mg "enumerate" = none) (hg : Gl X "enumerate" := by rfl) (hs : starEach [e] X.env = [(false, eval e X.env)] := by rfl) :
    QI X W (.Tuple elts kk tpos) (.Call (.Name "enumerate" p) [e] [] pos) (iEnA X.K ta) (sEnum s) := by
  refine ⟨pi_enumA hg hm ha.pa hs, ha.ev.bind fun ps vs B1 s1 hp => Ev.ofO fun items hi => ?_⟩
  unfold enumOf at hi
  split at hi
  · rename_i xs
    cases hi
    rw [RepFs] at hp
    obtain ⟨v, r, rfl, h1, h2⟩ := hp
    rw [RepFs] at h2
    subst h2
    rw [RepF] at h1
    obtain ⟨a, vs, rfl, x2, x3⟩ := h1
    exact ev_it (isIt_e x2 x3) fun σ F H R sB sF r => .inl ⟨a, vs, rfl, SqL.of (sF _ _ (sB _ _ x2)), r⟩
  · rename_i s
    cases hi
    rw [RepFs] at hp
    obtain ⟨v, r, rfl, h1, h2⟩ := hp
    rw [RepFs] at h2
    subst h2
    exact ev_it isIt_es fun σ F H R sB sF r => .inr ⟨mkS s, by rw [repS.mp h1], r⟩
  · cases hi

/-! ### comprehensions, as expressions -/
structure QTs (X : Cx) (W : WX) (ifs : List Expr) (tt : TT) (s : SE Bool) : Prop where
  pt : PTs X ifs tt
  ev : Ev X.K nob (fr zB) W tt s
def sYes : SE Bool := SE.ret true
theorem qts_nil : QTs X W [] tYes sYes := ⟨pts_nil, zb_done⟩
theorem qts_one {c : Expr} {t : TT} {s : SE Bool} (h : QT X W c t s) : QTs X W [c] t s := ⟨pts_one h.pt, h.ev⟩
theorem qm_lc {elt iter : Expr} {ifs : List Expr} {scope : Scope} {own : List (Str × Nat)} {pos : Pos} {wi : TI} {g : TG} {tt : TT} {te : TE} {si : SE (List PV)} {sg : PV → Env → Option Env} {st : SE Bool} {se : SE PV} {tl : List Nat} (hc : X.calm = true) (hN : X.N.Nodup) (hi : QI X W tg iter wi si) (ok : blkC X.N X.env.scope scope own = true)
    (hg : ∀ (s : Shared) (H : Hp) (C : Addr) (cl : List (Str × Addr)) (fp : List Addr), QG (X.blk s H scope (compEnvC scope cl C X.env) fp) tl tg g sg) (ht : ∀ (s : Shared) (H : Hp) (C : Addr) (cl : List (Str × Addr)) (fp : List Addr), QTs (X.blk s H scope (compEnvC scope cl C X.env) fp) W0 ifs tt st)
    (he : ∀ (s : Shared) (H : Hp) (C : Addr) (cl : List (Str × Addr)) (fp : List Addr), QE (X.blk s H scope (compEnvC scope cl C X.env) fp) W0 elt te se) (hsub : ∀ j ∈ tl, j ∈ own.map (·.2) := by decide) (hnd : (own.map (·.2)).Nodup := by decide)
    (hs : ∀ x, foldedSetIterable iter X.env x = pure x := by intro _; rfl) : QM X W (.ListComp elt [⟨tg, iter, ifs, 0⟩] scope pos) (tLc wi g tt te (own.map (·.2))) (sLc si sg st se (own.map (·.2))) :=
  ⟨pe_lc hc hN hi.pi (blkOk_by ok) (fun s H C cl fp => (hg s H C cl fp).pg) (fun s H C cl fp => (ht s H C cl fp).pt) (fun s H C cl fp => (he s H C cl fp).pe) hs,
    ev_lc hi.ev (hg {} nob 0 [] []).ev (ht {} nob 0 [] []).ev (he {} nob 0 [] []).ev hsub hnd⟩
theorem qs_setLc {n i : Nat} {y : Str} {py : Pos} {elt iter : Expr} {ifs : List Expr} {scope : Scope} {own : List (Str × Nat)} {pos spos : Pos} {wi : TI} {g : TG} {tt : TT} {te : TE} {si : SE (List PV)} {sg : PV → Env → Option Env} {st : SE Bool} {se : SE PV} {tl : List Nat} (hc : X.calm = true) (hN : X.N.Nodup) (hy : X.N[i]? = some y) (hyl : X.env.scope.names.lookup y = some .local) (hi : QI X W tg iter wi si) (ok : blkC X.N X.env.scope scope own = true)
    (hg : ∀ (s : Shared) (H : Hp) (C : Addr) (cl : List (Str × Addr)) (fp : List Addr), QG (X.blk s H scope (compEnvC scope cl C X.env) fp) tl tg g sg) (ht : ∀ (s : Shared) (H : Hp) (C : Addr) (cl : List (Str × Addr)) (fp : List Addr), QTs (X.blk s H scope (compEnvC scope cl C X.env) fp) W0 ifs tt st)
    (he : ∀ (s : Shared) (H : Hp) (C : Addr) (cl : List (Str × Addr)) (fp : List Addr), QE (X.blk s H scope (compEnvC scope cl C X.env) fp) W0 elt te se) (hn : n ≤ i := by decide) (hsub : ∀ j ∈ tl, j ∈ own.map (·.2) := by decide) (hnd : (own.map (·.2)).Nodup := by decide)
    (hk : X.env.scope.kind = .function := by rfl) (hl : (py.line == pos.line) = true := by rfl) (hany : (scope.names.any fun (n, k) => n == y && (k == .local || k == .cell)) = false := by rfl)
    (hs : ∀ x, foldedSetIterable iter X.env x = pure x := by intro _; rfl) : QS X n W (.Assign [.Name y py] (.ListComp elt [⟨tg, iter, ifs, 0⟩] scope pos) spos) (tAsg (tLc wi g tt te (own.map (·.2))) (gName i)) (sSet i (sLc si sg st se (own.map (·.2)))) :=
  ⟨ps_setLc hc hN hy hyl (sw_true hk hyl hl hany) hi.pi (blkOk_by ok) (fun s H C cl fp => (hg s H C cl fp).pg) (fun s H C cl fp => (ht s H C cl fp).pt) (fun s H C cl fp => (he s H C cl fp).pe) hs,
    EvS.set hn (ev_lc hi.ev (hg {} nob 0 [] []).ev (ht {} nob 0 [] []).ev (he {} nob 0 [] []).ev hsub hnd)⟩
/-- .. given away at once -/
def sSetF (i : Nat) (e : SE MV) : SE Out := sSet i (Mv.mv (Mv.vw e))
theorem qs_setLcF {n i : Nat} {y : Str} {py : Pos} {elt iter : Expr} {ifs : List Expr} {scope : Scope} {own : List (Str × Nat)} {pos spos : Pos} {wi : TI} {g : TG} {tt : TT} {te : TE} {si : SE (List PV)} {sg : PV → Env → Option Env} {st : SE Bool} {se : SE PV} {tl : List Nat} (hc : X.calm = true) (hN : X.N.Nodup) (hy : X.N[i]? = some y) (hyl : X.env.scope.names.lookup y = some .local) (hi : QI X W tg iter wi si) (ok : blkC X.N X.env.scope scope own = true)
    (hg : ∀ (s : Shared) (H : Hp) (C : Addr) (cl : List (Str × Addr)) (fp : List Addr), QG (X.blk s H scope (compEnvC scope cl C X.env) fp) tl tg g sg) (ht : ∀ (s : Shared) (H : Hp) (C : Addr) (cl : List (Str × Addr)) (fp : List Addr), QTs (X.blk s H scope (compEnvC scope cl C X.env) fp) W0 ifs tt st)
    (he : ∀ (s : Shared) (H : Hp) (C : Addr) (cl : List (Str × Addr)) (fp : List Addr), QE (X.blk s H scope (compEnvC scope cl C X.env) fp) W0 elt te se) (hn : n ≤ i := by decide) (hsub : ∀ j ∈ tl, j ∈ own.map (·.2) := by decide) (hnd : (own.map (·.2)).Nodup := by decide)
    (hk : X.env.scope.kind = .function := by rfl) (hl : (py.line == pos.line) = true := by rfl) (hany : (scope.names.any fun (n, k) => n == y && (k == .local || k == .cell)) = false := by rfl)
    (hs : ∀ x, foldedSetIterable iter X.env x = pure x := by intro _; rfl) : QS X n W (.Assign [.Name y py] (.ListComp elt [⟨tg, iter, ifs, 0⟩] scope pos) spos) (tAsg (tLc wi g tt te (own.map (·.2))) (gName i)) (sSetF i (sLc si sg st se (own.map (·.2)))) :=
  ⟨ps_setLc hc hN hy hyl (sw_true hk hyl hl hany) hi.pi (blkOk_by ok) (fun s H C cl fp => (hg s H C cl fp).pg) (fun s H C cl fp => (ht s H C cl fp).pt) (fun s H C cl fp => (he s H C cl fp).pe) hs,
    EvS.set hn (ev_lc hi.ev (hg {} nob 0 [] []).ev (ht {} nob 0 [] []).ev (he {} nob 0 [] []).ev hsub hnd).vw.mv⟩

/-! ### calls of defs -/
theorem qm_call {k np n : Nat} {f : Addr} {fd : FuncData} {ps : List Str} {x : Str} {p pos : Pos} {e : Expr} {es : List Expr} {ta : TA} {sa : SE (List Ar)} {m : List MV → RF} (F : FnG X.prog X.w X.K X.mg X.base k f fd ps (spF X.K n np m)) (hgd : X.A.guards = some []) (hr : Room k X.A) (hm : X.mg x = some (.ref f)) (hk : PySem.W.keepIn X.K (.ref f) = true) (hb : KB X.K fd ps np [] @gPos) (tk : Takes X W)
    (ha : QAr X W (e :: es) ta sa) (hla : ∀ ρ as ρ', sa ρ = .ok as ρ' → as.length = np) (hg : Gl X x := by rfl) (hdb : (x == ("__debug__" : Str)) = false := by decide) (he : starEach (e :: es) X.env = (false, eval e X.env) :: starEach es X.env := by rfl) (hpl : (backTo pos (starEach es X.env)).any (·.1) = false := by rfl) :
    QM X W (.Call (.Name x p) (e :: es) [] pos) (tCallG np 0 (spF X.K n np m) @gPos (WE W) ta tNil) (eCall m @gPos sa rNil) :=
  ⟨pe_callG F hgd hr hg hm hk hb tk ha.pa hdb he hpl, ev_call (km := 0) gOk_pos ha.ev ear_nil hla (fun ρ as ρ' h => by cases h; rfl) fun as bs h1 _ => h1⟩
theorem qm_call0 {k n : Nat} {f : Addr} {fd : FuncData} {ps : List Str} {x : Str} {p pos : Pos} {m : List MV → RF} (F : FnG X.prog X.w X.K X.mg X.base k f fd ps (spF X.K n 0 m)) (hgd : X.A.guards = some []) (hr : Room k X.A) (hm : X.mg x = some (.ref f)) (hk : PySem.W.keepIn X.K (.ref f) = true) (hb : KB X.K fd ps 0 [] @gPos) (tk : Takes X W)
    (hg : Gl X x := by rfl) (hdb : (x == ("__debug__" : Str)) = false := by decide) :
    QM X W (.Call (.Name x p) [] [] pos) (tCallG 0 0 (spF X.K n 0 m) @gPos (WE W) tNil tNil) (eCall m @gPos rNil rNil) :=
  ⟨pe_callG0 F hgd hr hg hm hk hb tk hdb, ev_call (km := 0) gOk_pos ear_nil ear_nil (fun ρ as ρ' h => by cases h; rfl) (fun ρ as ρ' h => by cases h; rfl) fun as bs h1 _ => h1⟩
theorem qm_callk {k kn np n : Nat} {f : Addr} {fd : FuncData} {ps ks : List Str} {x : Str} {p pos : Pos} {e : Expr} {es : List Expr} {kws : List Keyword} {ta tb : TA} {sa sk : SE (List Ar)} {m : List MV → RF} (idx : List Nat) (F : FnG X.prog X.w X.K X.mg X.base k f fd ps (spF X.K n np m)) (hgd : X.A.guards = some []) (hr : Room k X.A) (hm : X.mg x = some (.ref f)) (hk : PySem.W.keepIn X.K (.ref f) = true) (hb : KB X.K fd ps kn ks (fun {α} => gKw (α := α) idx)) (tk : Takes X W)
    (ha : QAr X W (e :: es) ta sa) (hkw : QKr X W kws tb sk) (hla : ∀ ρ as ρ', sa ρ = .ok as ρ' → as.length = kn) (hlk : ∀ ρ as ρ', sk ρ = .ok as ρ' → as.length = ks.length) (hlen : ∀ (as bs : List V), as.length = kn → bs.length = ks.length → (gKw idx as bs).length = np) (hg : Gl X x := by rfl)
    (hall : (backToKw pos (keywordEach kws X.env)).all (·.1.isSome) = true := by rfl) (hks : (backToKw pos (keywordEach kws X.env)).filterMap (·.1) = ks := by rfl)
    (hdb : (x == ("__debug__" : Str)) = false := by decide) (he : starEach (e :: es) X.env = (false, eval e X.env) :: starEach es X.env := by rfl)
    (hpl : ((backTo pos (starEach (e :: es) X.env)).any (·.1) || (backToKw pos (keywordEach kws X.env)).any (·.1.isNone)) = false := by rfl) :
    QM X W (.Call (.Name x p) (e :: es) kws pos) (tCallG kn ks.length (spF X.K n np m) (fun {α} => gKw (α := α) idx) (WE W) ta tb) (eCall m (fun {α} => gKw (α := α) idx) sa sk) :=
  ⟨pe_callGk F hgd hr hg hm hk hb tk ha.pa hkw.pk hall hks hdb he hpl, ev_call (gOk_kw idx) ha.ev hkw.ev hla hlk hlen⟩
theorem qm_callk0 {k np n : Nat} {f : Addr} {fd : FuncData} {ps ks : List Str} {x : Str} {p pos : Pos} {kws : List Keyword} {tb : TA} {sk : SE (List Ar)} {m : List MV → RF} (idx : List Nat) (F : FnG X.prog X.w X.K X.mg X.base k f fd ps (spF X.K n np m)) (hgd : X.A.guards = some []) (hr : Room k X.A) (hm : X.mg x = some (.ref f)) (hk : PySem.W.keepIn X.K (.ref f) = true) (hb : KB X.K fd ps 0 ks (fun {α} => gKw (α := α) idx)) (tk : Takes X W)
    (hkw : QKr X W kws tb sk) (hlk : ∀ ρ as ρ', sk ρ = .ok as ρ' → as.length = ks.length) (hlen : ∀ (as bs : List V), as.length = 0 → bs.length = ks.length → (gKw idx as bs).length = np) (hg : Gl X x := by rfl)
    (hall : (backToKw pos (keywordEach kws X.env)).all (·.1.isSome) = true := by rfl) (hks : (backToKw pos (keywordEach kws X.env)).filterMap (·.1) = ks := by rfl)
    (hdb : (x == ("__debug__" : Str)) = false := by decide)
    (hpl : ((backTo pos (starEach [] X.env)).any (·.1) || (backToKw pos (keywordEach kws X.env)).any (·.1.isNone)) = false := by rfl) :
    QM X W (.Call (.Name x p) [] kws pos) (tCallG 0 ks.length (spF X.K n np m) (fun {α} => gKw (α := α) idx) (WE W) tNil tb) (eCall m (fun {α} => gKw (α := α) idx) rNil sk) :=
  ⟨pe_callGk0 F hgd hr hg hm hk hb tk hkw.pk hall hks hdb hpl, ev_call (gOk_kw idx) ear_nil hkw.ev (fun ρ as ρ' h => by cases h; rfl) hlk hlen⟩
theorem qar_nil : QAr X W [] tNil rNil := ⟨pa_nil, ear_nil⟩
theorem qar_v {e : Expr} {es : List Expr} {te : TE} {t : TA} {se : SE PV} {sr : SE (List Ar)} (he : QE X W e te se) (hr : QAr X W es t sr) (hs : starEach (e :: es) X.env = (false, eval e X.env) :: starEach es X.env := by rfl) : QAr X W (e :: es) (tCons te t) (rV se sr) := ⟨pa_cons he.pe hr.pa hs, ear_v he.ev hr.ev⟩
theorem qar_p (i : Nat) {x : Str} {px : Pos} {es : List Expr} {t : TA} {sr : SE (List Ar)} (hr : QAr X W es t sr) (hN : X.N[i]? = some x := by rfl) (hv : Vis X.env.scope x := by first | exact Or.inl rfl | exact Or.inr (Or.inl rfl) | exact Or.inr (Or.inr rfl)) (hd : (x == ("__debug__" : Str)) = false := by decide)
    (hcd : (x == ("__classdict__" : Str)) = false := by decide) (hs : starEach (.Name x px :: es) X.env = (false, eval (.Name x px) X.env) :: starEach es X.env := by rfl) : QAr X W (.Name x px :: es) (tCons (tVar i) t) (rP i sr) := ⟨pa_cons (pe_var hN hv hd hcd) hr.pa hs, ear_p hr.ev⟩
theorem rlen_nil : ∀ ρ as ρ', rNil ρ = .ok as ρ' → as.length = 0 := fun ρ as ρ' h => by cases h; rfl
theorem rlen_v {e : SE PV} {r : SE (List Ar)} {k : Nat} (h : ∀ ρ as ρ', r ρ = .ok as ρ' → as.length = k) : ∀ ρ as ρ', rV e r ρ = .ok as ρ' → as.length = k + 1 := fun ρ ps ρ' q => by
  have e1 := bind_eq e (fun p => r.bind fun ps => SE.ret (Ar.v p :: ps)) ρ
  have q' : e.bind (fun p => r.bind fun ps => SE.ret (Ar.v p :: ps)) ρ = .ok ps ρ' := q
  rw [q'] at e1
  cases h1 : e ρ with
  | bad => rw [h1] at e1; cases e1
  | exc x ρ1 => rw [h1] at e1; cases e1
  | ok p ρ1 =>
    rw [h1] at e1
    have e2 := e1.trans (bind_eq r (fun ps => SE.ret (Ar.v p :: ps)) ρ1)
    cases h2 : r ρ1 with
    | bad => rw [h2] at e2; cases e2
    | exc x ρ1 => rw [h2] at e2; cases e2
    | ok qs ρ2 =>
      rw [h2] at e2
      cases e2
      rw [List.length_cons, h ρ1 qs ρ' h2]
theorem rlen_p {i : Nat} {r : SE (List Ar)} {k : Nat} (h : ∀ ρ as ρ', r ρ = .ok as ρ' → as.length = k) : ∀ ρ as ρ', rP i r ρ = .ok as ρ' → as.length = k + 1 := fun ρ ps ρ' q => by
  unfold rP at q
  split at q
  · have e2 := bind_eq r (fun ps => SE.ret (Ar.pl i :: ps)) ρ
    rw [q] at e2
    cases h2 : r ρ with
    | bad => rw [h2] at e2; cases e2
    | exc x ρ1 => rw [h2] at e2; cases e2
    | ok qs ρ2 =>
      rw [h2] at e2
      cases e2
      rw [List.length_cons, h ρ qs ρ' h2]
  · cases q
/-- keywords -/
theorem qkr_nil : QKr X W [] tNil rNil := ⟨pk_nil, ear_nil⟩
/-! ### a list times a number, owned -/
def eRep (a b : SE PV) : SE MV := a.bind fun p => b.bind fun q => ofO (match p with
  | .lst xs => (match q with
    | .int k => if (-(2 ^ 63) ≤ k ∧ k < 2 ^ 63) ∧ xs.length * k.toNat ≤ 16777216 then some (.ml ((List.replicate k.toNat xs).flatten.map .fz)) else none
    | _ => none)
  | _ => none)
theorem RepFs.rep {K : PySem.W.Frag} {F : Hp} {ps : List PV} {vs : List V} (h : RepFs K F ps vs) : ∀ k : Nat, RepFs K F (List.replicate k ps).flatten (List.replicate k vs).flatten
  | 0 => by simp [RepFs]
  | k + 1 => by
    rw [List.replicate_succ, List.replicate_succ, List.flatten_cons, List.flatten_cons]
    exact RepFs.append h (RepFs.rep h k)
theorem qm_rep {a b : Expr} {ta tb : TE} {sa sb : SE PV} {pos : Pos} (ha : QE X W a ta sa) (hb : QE X W b tb sb) : QM X W (.BinOp a .Mult b pos) (tOp rRep ta tb) (eRep sa sb) := by
  refine ⟨pe_op op_rep ha.pe hb.pe, ha.ev.bind fun p x B1 s1 hp => (hb.ev.le (nob_le _)).bind fun q y B2 s2 hq => Ev.ofO fun z hz => ?_⟩
  cases p with
  | lst xs =>
    cases q with
    | int k =>
      dsimp only at hz
      split at hz
      · rename_i hc
        cases hz
        rw [RepF] at hp
        obtain ⟨l, vs, rfl, e2, e3⟩ := hp
        refine ev_newM (o := .lst (List.replicate k.toNat vs).flatten) (fun c F' H' sB e => ?_) fun F H sB sF Q kk => ⟨l, k, vs, rfl, repI.mp hq, sF _ _ (sB _ _ (s2 _ _ e2)), hc.1.1, hc.1.2, by rw [e3.length, line_eq]; exact hc.2, kk⟩
        rw [RepM]
        exact ⟨c, _, [], rfl, e, rfl, RepMs.fz (RepFs.rep (RepFs.mono (s2.trans sB) _ _ e3) k.toNat)⟩
      · cases hz
    | _ => cases hz
  | _ => cases hz
end
end Mv

set_option Elab.async false
set_option linter.all false
set_option maxRecDepth 100000
set_option maxHeartbeats 4000000
namespace Mv
open PySem PySem.Spec PyProof.Rows L2

/-! ### calls of built-ins -/
section
variable {X : Cx} {W : WX} {e e2 : Expr} {t : TA} {s : SE (List PV)} {p pos : Pos}
theorem qe_len (hm : X.mg "len" = none) (ha : QA X W [e] t s) (hg : Gl X "len" := by rfl) (he : starEach [e] X.env = (false, eval e X.env) :: starEach [] X.env := by rfl) (hpl : (backTo pos (starEach [] X.env)).any (·.1) = false := by rfl) :
    QE X W (.Call (.Name "len" p) [e] [] pos) (tCB (rLenA X.K) t) (eCB (one pLen) s) := qe_callB call_len pc_len hm boot_len ha hg (by decide) (by decide) he hpl
theorem qe_abs (hm : X.mg "abs" = none) (ha : QA X W [e] t s) (hg : Gl X "abs" := by rfl) (he : starEach [e] X.env = (false, eval e X.env) :: starEach [] X.env := by rfl) (hpl : (backTo pos (starEach [] X.env)).any (·.1) = false := by rfl) :
    QE X W (.Call (.Name "abs" p) [e] [] pos) (tCB (fun xs H Q => ∃ i, xs = [.int i] ∧ Q (.int (if i < 0 then -i else i)) H) t) (eCB (one pAbs) s) := qe_callB call_abs pc_abs hm boot_abs ha hg (by decide) (by decide) he hpl
theorem qe_ord (hm : X.mg "ord" = none) (ha : QA X W [e] t s) (hg : Gl X "ord" := by rfl) (he : starEach [e] X.env = (false, eval e X.env) :: starEach [] X.env := by rfl) (hpl : (backTo pos (starEach [] X.env)).any (·.1) = false := by rfl) :
    QE X W (.Call (.Name "ord" p) [e] [] pos) (tCB (fun xs H Q => ∃ x, xs = [.str x] ∧ x.length = 1 ∧ Q (.int (x.cps.getD 0 0 : Nat)) H) t) (eCB (one pOrd) s) := qe_callB call_ord pc_ord hm boot_ord ha hg (by decide) (by decide) he hpl
theorem qe_all (hm : X.mg "all" = none) (ha : QA X W [e] t s) (hc : X.calm = true := by rfl) (hg : Gl X "all" := by rfl) (he : starEach [e] X.env = (false, eval e X.env) :: starEach [] X.env := by rfl) (hpl : (backTo pos (starEach [] X.env)).any (·.1) = false := by rfl) :
    QE X W (.Call (.Name "all" p) [e] [] pos) (tCB (rAll X.K) t) (eCB (one pAll) s) := qe_callB (cr_all hc) pc_all hm boot_all ha hg (by decide) (by decide) he hpl
theorem qe_any (hm : X.mg "any" = none) (ha : QA X W [e] t s) (hc : X.calm = true := by rfl) (hg : Gl X "any" := by rfl) (he : starEach [e] X.env = (false, eval e X.env) :: starEach [] X.env := by rfl) (hpl : (backTo pos (starEach [] X.env)).any (·.1) = false := by rfl) :
    QE X W (.Call (.Name "any" p) [e] [] pos) (tCB (rAny X.K) t) (eCB (one pAny) s) := qe_callB (cr_any hc) pc_any hm boot_any ha hg (by decide) (by decide) he hpl
theorem qe_max (hm : X.mg "max" = none) (ha : QA X W [e, e2] t s) (hc : X.calm = true := by rfl) (hg : Gl X "max" := by rfl) (he : starEach [e, e2] X.env = (false, eval e X.env) :: starEach [e2] X.env := by rfl) (hpl : (backTo pos (starEach [e2] X.env)).any (·.1) = false := by rfl) :
    QE X W (.Call (.Name "max" p) [e, e2] [] pos) (tCB (fun xs H Q => ∃ i j, xs = [.int i, .int j] ∧ Q (.int (if j > i then j else i)) H) t) (eCB (two pMax) s) := qe_callB (call_max2 hc) pc_max hm boot_max ha hg (by decide) (by decide) he hpl
theorem qe_min (hm : X.mg "min" = none) (ha : QA X W [e, e2] t s) (hc : X.calm = true := by rfl) (hg : Gl X "min" := by rfl) (he : starEach [e, e2] X.env = (false, eval e X.env) :: starEach [e2] X.env := by rfl) (hpl : (backTo pos (starEach [e2] X.env)).any (·.1) = false := by rfl) :
    QE X W (.Call (.Name "min" p) [e, e2] [] pos) (tCB (fun xs H Q => ∃ i j, xs = [.int i, .int j] ∧ Q (.int (if j < i then j else i)) H) t) (eCB (two pMin) s) := qe_callB (call_min2 hc) pc_min hm boot_min ha hg (by decide) (by decide) he hpl
theorem qe_divmod (hm : X.mg "divmod" = none) (ha : QA X W [e, e2] t s) (hg : Gl X "divmod" := by rfl) (he : starEach [e, e2] X.env = (false, eval e X.env) :: starEach [e2] X.env := by rfl) (hpl : (backTo pos (starEach [e2] X.env)).any (·.1) = false := by rfl) :
    QE X W (.Call (.Name "divmod" p) [e, e2] [] pos) (tCB (fun xs H Q => ∃ i j, xs = [.int i, .int j] ∧ CDiv i j ∧ ∀ p, H p = none → Q (.ref p) (upd H p (.tup [.int (i / j), .int (i % j)]))) t) (eCB (two pDivmod) s) := qe_callB call_divmod pc_divmod hm boot_divmod ha hg (by decide) (by decide) he hpl
theorem qe_int_of (hm : X.mg "int" = none) (ha : QA X W [e] t s) (hg : Gl X "int" := by rfl) (he : starEach [e] X.env = (false, eval e X.env) :: starEach [] X.env := by rfl) (hpl : (backTo pos (starEach [] X.env)).any (·.1) = false := by rfl) :
    QE X W (.Call (.Name "int" p) [e] [] pos) (tCB rIntA t) (eCB (one pInt) s) := qe_callT call_intA pc_int hm PyProof.Rows.boot_int ha hg (by decide) (by decide) he hpl
theorem qe_str_of (hm : X.mg "str" = none) (ha : QA X W [e] t s) (hg : Gl X "str" := by rfl) (he : starEach [e] X.env = (false, eval e X.env) :: starEach [] X.env := by rfl) (hpl : (backTo pos (starEach [] X.env)).any (·.1) = false := by rfl) :
    QE X W (.Call (.Name "str" p) [e] [] pos) (tCB (fun xs H Q => ∃ i : Int, xs = [.int i] ∧ i.natAbs.log2 < 1920 ∧ Q (.str (toString i)) H) t) (eCB (one pStr) s) := qe_callT call_str_int pc_str hm PyProof.Rows.boot_str ha hg (by decide) (by decide) he hpl
theorem qe_tuple_of (hm : X.mg "tuple" = none) (ha : QA X W [e] t s) (hg : Gl X "tuple" := by rfl) (he : starEach [e] X.env = (false, eval e X.env) :: starEach [] X.env := by rfl) (hpl : (backTo pos (starEach [] X.env)).any (·.1) = false := by rfl) :
    QE X W (.Call (.Name "tuple" p) [e] [] pos) (tCB (fun xs H Q => ∃ p ys, xs = [.ref p] ∧ ((SqL X.K H p ys ∧ ∀ l, H l = none → Q (.ref l) (upd H l (.tup ys))) ∨ (SqT X.K H p ys ∧ Q (.ref p) H))) t) (eCB (one pTuple) s) := qe_callT call_tuple_of pc_tuple hm PyProof.Rows.boot_tuple ha hg (by decide) (by decide) he hpl
theorem qe_repr (hgd : X.A.guards = some []) (hr : ∃ k, Room k X.A) (hm : X.mg "repr" = none) (ha : QA X W [e] t s) (hg : Gl X "repr" := by rfl) (he : starEach [e] X.env = (false, eval e X.env) :: starEach [] X.env := by rfl) (hpl : (backTo pos (starEach [] X.env)).any (·.1) = false := by rfl) :
    QE X W (.Call (.Name "repr" p) [e] [] pos) (tCB (rReprA X.K) t) (eCB (one pRepr) s) := qe_callB (call_reprA hgd hr) pc_repr hm PyProof.Rows.boot_repr ha hg (by decide) (by decide) he hpl
theorem qe_isi (hm : X.mg "isinstance" = none) (ha : QA X W [e, e2] t s) (hg : Gl X "isinstance" := by rfl) (he : starEach [e, e2] X.env = (false, eval e X.env) :: starEach [e2] X.env := by rfl) (hpl : (backTo pos (starEach [e2] X.env)).any (·.1) = false := by rfl) :
    QE X W (.Call (.Name "isinstance" p) [e, e2] [] pos) (tCB (rIsi X.K) t) (eCB pIsiA s) := qe_callB call_isi pc_isiA hm PyProof.Rows.boot_isinstance ha hg (by decide) (by decide) he hpl
theorem qkr_v {nm : Option Str} {kpos : Pos} {kws : List Keyword} {te : TE} {se : SE PV} {sr : SE (List Ar)} (he : QE X W e te se) (hr : QKr X W kws t sr) : QKr X W (⟨nm, e, kpos⟩ :: kws) (tCons te t) (rV se sr) := ⟨pk_cons he.pe hr.pk, ear_v he.ev hr.ev⟩
theorem qkr_p (i : Nat) {nm : Option Str} {kpos px : Pos} {x : Str} {kws : List Keyword} {sr : SE (List Ar)} (hr : QKr X W kws t sr) (hN : X.N[i]? = some x := by rfl) (hv : Vis X.env.scope x := by first | exact Or.inl rfl | exact Or.inr (Or.inl rfl) | exact Or.inr (Or.inr rfl)) (hd : (x == ("__debug__" : Str)) = false := by decide)
    (hcd : (x == ("__classdict__" : Str)) = false := by decide) : QKr X W (⟨nm, .Name x px, kpos⟩ :: kws) (tCons (tVar i) t) (rP i sr) := ⟨pk_cons (pe_var hN hv hd hcd) hr.pk, ear_p hr.ev⟩
end

/-! ### a def as calls meet it -/
def Callee (P : Program) (w : World) (base : Heap) (K : PySem.W.Frag) (mg : Str → Option Value) (x : Str) (st : Stmt) (ps : List Str) (n np k : Nat) (m : List MV → RF) : Prop :=
  ∃ f fd, FunD K x x (defArgs st) (defBody st) (defScope st) [] [] f fd ∧ mg x = some (.ref f) ∧ FnG P w K mg base k f fd ps (spF K n np m)
theorem kb_pos {K : PySem.W.Frag} {x qual : Str} {params : Arguments} {body : List Stmt} {scope : Scope} {kws : List (Str × V)} {f : Addr} {fd : FuncData} {ps : List Str} {np : Nat} (F : FunD K x qual params body scope [] kws f fd)
    (h : ∀ (kV doc pm : Value) (an : Option Addr) (cdv ct : Value) (us : List Value), us.length = np → bindArgs (PySem.W.fnOf x qual params body scope .none kV doc pm an cdv ct) ⟨us, []⟩ = pure (ps.zip us)) : KB K fd ps np [] @gPos := by
  obtain ⟨oc, od, dV, kV, doc, pm, an, cdv, ct, osl, rfl, lk, hcd, hD, hK⟩ := F.ex
  refine ⟨fun s us ws _ h1 h2 => ?_, fun h _ => h⟩
  rcases hD with ⟨_, rfl⟩ | ⟨e, _⟩
  · exact .of_eq (h kV doc pm an cdv ct us h1)
  · exact absurd rfl e
theorem gKw_vals (idx : List Nat) {vs : List V} {us : List Value} {zs : List V} {ws : List Value} (h1 : Vals vs us) (h2 : Vals zs ws) : Vals (gKw idx vs zs) (gKw idx us ws) := gOk_kw idx _ h1 h2
theorem kb_kw {K : PySem.W.Frag} {x qual : Str} {params : Arguments} {body : List Stmt} {scope : Scope} {kws : List (Str × V)} {f : Addr} {fd : FuncData} {ps ks : List Str} {kn : Nat} (idx : List Nat) (F : FunD K x qual params body scope [] kws f fd)
    (h : ∀ (kV doc pm : Value) (an : Option Addr) (cdv ct : Value) (us ws : List Value), us.length = kn → ws.length = ks.length → bindArgs (PySem.W.fnOf x qual params body scope .none kV doc pm an cdv ct) ⟨us, ks.zip ws⟩ = pure (ps.zip (gKw idx us ws))) : KB K fd ps kn ks (fun {α} => gKw (α := α) idx) := by
  obtain ⟨oc, od, dV, kV, doc, pm, an, cdv, ct, osl, rfl, lk, hcd, hD, hK⟩ := F.ex
  refine ⟨fun s us ws _ h1 h2 => ?_, fun h1 h2 => gKw_vals idx h1 h2⟩
  rcases hD with ⟨_, rfl⟩ | ⟨e, _⟩
  · exact .of_eq (h kV doc pm an cdv ct us ws h1 h2)
  · exact absurd rfl e

/-! ### the law's end -/
/-- the heap at the law's call: nothing is told but the script -/
theorem end_core {P : Program} {w : World} {K : PySem.W.Frag} {mg mb : Str → Option Value} {k : Nat} {fa a : Addr} {fd : FuncData} {x : Str} {m : List MV → RF} {s₁ : Shared} {vs : List Value} {ns : List Int} {H : Hp}
    (KX : K.In s₁.heap) (hns : s₁.heap.Ns mainGlobals mg) (hb : s₁.heap.Ns builtinsNs mb) (hbb : ∀ x : Str, x ≠ "__name__" → mb x = bootBuiltins x) (hlim : s₁.heap.NoLimit) (hg : s₁.gens = #[])
    (ha : s₁.heap.get? a = some { cls := .type "list", data := .seq vs.toArray }) (hr : Room k callerA)
    (F : ∀ base : Heap, K.In base → base.Ns mainGlobals mg → FnG P w K mg base k fa fd [x] (spF K 0 1 m)) (hbind : ∀ (s : Shared) (u : Value), BindsTo s fd ⟨[u], []⟩ [(x, u)])
    (hm : ∃ outs, m [.fz (.scr ns)] = .ok (.fz (.bl true)) outs)
    (hO : Only H) (hS : SqL K H a (ns.map V.int)) (hok : HOk P w H s₁.heap) (hA : ∀ b, H b ≠ none → b = a) (hK : H a ≠ none → K.lookup a = none) :
    codeAny (model P w) callerA (.call (.ref fa) ⟨[.ref a], []⟩) (fun r s' => r = .ok (.ret (.bool true)) ∧ OldK s₁.heap s'.heap ∧ s'.os = s₁.os ∧ AllBare s'.gens) s₁ := by
  have dictNo : ∀ {b : Addr} {o : Obj} {es : Array DictEntry} {ep : Nat}, s₁.heap.get? b = some o → o.data = .dict es ep → H b = none := fun {b o es ep} e d => by
    cases q : H b with
    | none => rfl
    | some u =>
      cases hA b (by rw [q]; simp)
      rw [ha] at e
      cases e
      exact nomatch (show Data.seq vs.toArray _ = Data.dict es ep from d)
  have nsK : ∀ {b : Addr} {m : Str → Option Value}, s₁.heap.Ns b m → (hidT s₁.heap H).Ns b m := fun {b m} z => by
    obtain ⟨o, es, ep, e, d, r⟩ := z
    exact ⟨o, es, ep, hidT_get e (dictNo e d), d, r⟩
  have inB : K.In (hidT s₁.heap H) := fun b o e => by
    refine hidT_get (KX b o e) ?_
    cases q : H b with
    | none => rfl
    | some u =>
      cases hA b (by rw [q]; simp)
      rw [hK (by rw [q]; simp)] at e
      cases e
  obtain ⟨mc, l1, l2⟩ := hlim
  have e0 : Env0 P w K mg (hidT s₁.heap H) callerA [] s₁ H := ⟨rfl, ⟨inB, nsK hns, ⟨mb, nsK hb, hbb⟩, ⟨mc, nsK l1, l2⟩⟩, fun b o e => of_hidT e, Nat.le_of_eq (hidT_size _ _), trivial, fun b hb => absurd (show b ∈ ([] : List Addr) from hb) (by simp), hok, .of_eq hg⟩
  obtain ⟨outs, hm⟩ := hm
  have nb : m [.fz (.scr ns)] ≠ .bad := fun z => by
    rw [hm] at z
    cases z
  have sp : spF K 0 1 m [.ref a] H (fun v _ => v = .bl true) fun _ _ _ => False := by
    refine ⟨rfl, [.fz (.scr ns)], H, [], ⟨Same.refl H, by simp, by simp, [], .refl _, ?_⟩, nb, fun r o e v F' H' A' f so hr nd hn g => ?_, fun y o e => ?_⟩
    · refine ⟨.ref a, [], [], [], rfl, rfl, ?_, rfl, rfl⟩
      rw [RepM, RepF]
      exact ⟨rfl, a, rfl, hS⟩
    · rw [hm] at e
      cases e
      rw [RepM] at hr
      exact repB.mp hr.2
    · rw [hm] at e
      cases e
  refine codeAny_mono ((F _ inB (nsK hns)).run callerA rfl hr [] s₁ H e0 ⟨[.ref a], []⟩ [.ref a] [.ref a] (hbind s₁ (.ref a)) (.cons rfl .nil) _ _ sp) fun r s' h => ?_
  cases r with
  | error e =>
    obtain ⟨_, _, _, _, _, _, _, _, _, _, _, _, z⟩ := h
    exact False.elim z
  | ok fl =>
    cases fl with
    | ret u =>
      obtain ⟨v, H', os, bare, un, hok', r', q⟩ := h
      cases (show v = .bl true from q)
      obtain rfl : u = Value.bool true := r'
      refine ⟨rfl, OldK.of_keep fun b o e => ?_, os, bare⟩
      cases q : H b with
      | none => exact un.keep b o e q (by intro z; exact absurd (show b ∈ ([] : List Addr) from z) (by simp)) (by simp)
      | some u =>
        rcases hO b with z | ⟨ob, xs, z⟩
        · rw [q] at z; cases z
        · have z2 := un.frzs b ob _ z
          obtain ⟨e1, _⟩ := hok b _ z
          obtain ⟨e2, _⟩ := hok' b _ z2
          rw [e] at e1; cases e1
          exact e2
    | next => exact False.elim h
    | brk => exact False.elim h
    | cont => exact False.elim h
theorem law_end {P : Program} {w : World} {K : PySem.W.Frag} {mg mb : Str → Option Value} {k : Nat} {fa a : Addr} {fd : FuncData} {x : Str} {m : List MV → RF} {s₁ : Shared} {vs : List Value} {ns : List Int}
    (KX : K.In s₁.heap) (hns : s₁.heap.Ns mainGlobals mg) (hb : s₁.heap.Ns builtinsNs mb) (hbb : ∀ x : Str, x ≠ "__name__" → mb x = bootBuiltins x) (hlim : s₁.heap.NoLimit) (hg : s₁.gens = #[])
    (ha : s₁.heap.get? a = some { cls := .type "list", data := .seq vs.toArray }) (hi : IntsAre vs ns) (hl : ns.length ≤ sizeLine) (hr : Room k callerA)
    (F : ∀ base : Heap, K.In base → base.Ns mainGlobals mg → FnG P w K mg base k fa fd [x] (spF K 0 1 m)) (hbind : ∀ (s : Shared) (u : Value), BindsTo s fd ⟨[u], []⟩ [(x, u)])
    (hm : ∃ outs, m [.fz (.scr ns)] = .ok (.fz (.bl true)) outs) :
    codeAny (model P w) callerA (.call (.ref fa) ⟨[.ref a], []⟩) (fun r s' => r = .ok (.ret (.bool true)) ∧ OldK s₁.heap s'.heap ∧ s'.os = s₁.os ∧ AllBare s'.gens) s₁ := by
  have rv := vals_ints hi
  have lv := hi.length
  cases hk : K.lookup a with
  | some o =>
    have e := KX a o hk
    rw [ha] at e
    cases e
    exact end_core (H := fun _ => none) KX hns hb hbb hlim hg ha hr F hbind hm (fun _ => .inl rfl) (.inr ⟨_, vs.toArray, _, hk, rfl, rfl, rfl, by rw [List.size_toArray, lv]; exact hl, by simpa using rv⟩) (fun b u z => nomatch (show (none : Option HO) = some u from z)) (fun b z => absurd rfl z) fun z => absurd rfl z
  | none =>
    have self : ∀ b u, (if b = a then some (HO.frz { cls := .type "list", data := .seq vs.toArray } (.lst (ns.map V.int))) else none) = some u → b = a ∧ u = .frz { cls := .type "list", data := .seq vs.toArray } (.lst (ns.map V.int)) := fun b u z => by
      split at z
      · rename_i h
        cases z
        exact ⟨h, rfl⟩
      · cases z
    refine end_core (H := fun b => if b = a then some (.frz { cls := .type "list", data := .seq vs.toArray } (.lst (ns.map V.int))) else none) KX hns hb hbb hlim hg ha hr F hbind hm (fun b => ?_) (.inl (.inr ⟨{ cls := .type "list", data := .seq vs.toArray }, if_pos rfl⟩)) (fun b u z => ?_) (fun b z => ?_) fun _ => hk
    · by_cases hb : b = a
      · exact .inr ⟨_, _, if_pos hb⟩
      · exact .inl (if_neg hb)
    · obtain ⟨rfl, rfl⟩ := self b u z
      exact ⟨ha, by rw [List.length_map]; exact hl, vs, _, rv, ha⟩
    · cases q : (if b = a then some (HO.frz { cls := .type "list", data := .seq vs.toArray } (.lst (ns.map V.int))) else none) with
      | none => exact absurd q z
      | some u => exact (self b u q).1
theorem walkG {l : PySem.W.OpenLaw} {n k : Nat} {q : Program} {loose : List Str} {XP : (Str → Option Value) → Heap → Prop} {YP : World → Heap → Prop} {d : DefRec} {x : Str}
    (hn : l.most = some n) (hn2 : n ≤ sizeLine) (hdf : d.params.defaults = []) (hr : Room k callerA)
    (F : ∀ (w : World) (mg : Str → Option Value) (fa : Addr) (h : Heap), YP w h → h.Ns mainGlobals mg → mg d.name = some (.ref fa) →
      ∃ (K : PySem.W.Frag) (fd : FuncData) (m : List MV → RF), K.In h ∧ (∀ (s : Shared) (u : Value), BindsTo s fd ⟨[u], []⟩ [(x, u)]) ∧
        (∀ ns : List Int, ns.length ≤ n → ∃ outs, m [.fz (.scr ns)] = .ok (.fz (.bl true)) outs) ∧
        ∀ base : Heap, K.In base → base.Ns mainGlobals mg → FnG l.prog w K mg base k fa fd [x] (spF K 0 1 m)) :
    PySem.W.WalkO q loose XP YP l.row.toRowW d [] (fun f vs => PySem.call f vs) := by
  refine Att.attach_call hn hdf fun w s₀ s₁ mg mb fa o pm cd doc a vs ns G Y ho hd hcd hmg hobj hints hlen hg => ?_
  obtain ⟨K, fd, m, KX, hb, hm, hF⟩ := F w mg fa _ Y G.T.g hmg
  exact law_end KX G.T.g G.T.b G.T.builtins G.T.nolimit hg hobj hints (Nat.le_trans hlen hn2) hr hF hb (hm ns hlen)
end Mv

set_option Elab.async false
set_option linter.all false
set_option maxRecDepth 100000
set_option maxHeartbeats 4000000
namespace Mv
open PySem PySem.Spec PyProof.Rows L2
theorem qg_ix2 {X : Cx} {W : WX} {pos : Pos} (i : Nat) {x : Str} {ix : Expr} {ti : TE} {si : SE PV} {px : Pos} (hx : QE X W ix ti si) (hN : X.N[i]? = some x := by rfl) (hv : Vis X.env.scope x := by first | exact Or.inl rfl | exact Or.inr (Or.inl rfl) | exact Or.inr (Or.inr rfl)) (hd : (x == ("__debug__" : Str)) = false := by decide)
    (hcd : (x == ("__classdict__" : Str)) = false := by decide)
    (ha : ∀ v, assign (.Subscript (.Name x px) ix pos) X.env v = (do
      let o ← holding [v] (eval (.Name x px) X.env)
      let k ← holding [v, o] (eval ix X.env)
      standAt pos
      holding [v, o, k] (setItem o k v)
      release [v, o, k] []) := by intro _; rfl) : QG X [] (.Subscript (.Name x px) ix pos) (gSub (tVar i) ti rSetL) (gIxL i si) := qg_ix i hx hN hv hd hcd (pg_sub (pe_var hN hv hd hcd) hx.pe set_list ha)

/-! ### the same rules, the written part by its name -/
section
variable {X : Cx} {K : PySem.W.Frag} {W : WX} {a b : Expr} {ta tb : TE} {sa sb : SE PV} {pos p : Pos} {t : TA} {s : SE (List PV)} {e e2 tg : Expr}
theorem ke_add (ha : QE X W a ta sa) (hb : QE X W b tb sb) (hK : X.K = K := by rfl) : QE X W (.BinOp a .Add b pos) (tOp (rAddA K) ta tb) (eOp pAdd sa sb) := hK ▸ qe_add ha hb
theorem kq_eq (hr : ∃ k, Room k X.A) (hK : X.K = K := by rfl) : CmpQ X .Eq (rEqA K) pEq := hK ▸ cq_eq hr
theorem kq_ne (hr : ∃ k, Room k X.A) (hK : X.K = K := by rfl) : CmpQ X .NotEq (rNeA K) pNe := hK ▸ cq_ne hr
theorem kq_in (hr : ∃ k, Room k X.A) (hK : X.K = K := by rfl) : CmpQ X .In (rInA K) pIn := hK ▸ cq_in hr
theorem kq_notin (hr : ∃ k, Room k X.A) (hK : X.K = K := by rfl) : CmpQ X .NotIn (rNotInA K) pNotIn := hK ▸ cq_notin hr
theorem ke_ix (ha : QE X W a ta sa) (hb : QE X W b tb sb) (hs : PlainIx b := by exact fun _ _ => rfl) (hK : X.K = K := by rfl) : QE X W (.Subscript a b pos) (tOp (rIx K) ta tb) (eOp pIx sa sb) := hK ▸ qe_ix ha hb hs
theorem ke_sl {lo hi : Option Expr} {tl th : TO} {sl sh : SE (Option Int)} {p2 : Pos} (ha : QE X W a ta sa) (hl : QO X W lo tl sl) (hh : QO X W hi th sh) (hK : X.K = K := by rfl) : QE X W (.Subscript a (.Slice lo hi none p2) pos) (tSl (rSlX K) ta tl th) (eSl sa sl sh) := hK ▸ qe_sl ha hl hh
theorem ke_len (hm : X.mg "len" = none) (ha : QA X W [e] t s) (hK : X.K = K := by rfl) (hg : Gl X "len" := by rfl) (he : starEach [e] X.env = (false, eval e X.env) :: starEach [] X.env := by rfl) (hpl : (backTo pos (starEach [] X.env)).any (·.1) = false := by rfl) : QE X W (.Call (.Name "len" p) [e] [] pos) (tCB (rLenA K) t) (eCB (one pLen) s) := hK ▸ qe_len hm ha hg he hpl
theorem ke_all (hm : X.mg "all" = none) (ha : QA X W [e] t s) (hK : X.K = K := by rfl) (hc : X.calm = true := by rfl) (hg : Gl X "all" := by rfl) (he : starEach [e] X.env = (false, eval e X.env) :: starEach [] X.env := by rfl) (hpl : (backTo pos (starEach [] X.env)).any (·.1) = false := by rfl) : QE X W (.Call (.Name "all" p) [e] [] pos) (tCB (rAll K) t) (eCB (one pAll) s) := hK ▸ qe_all hm ha hc hg he hpl
theorem ke_any (hm : X.mg "any" = none) (ha : QA X W [e] t s) (hK : X.K = K := by rfl) (hc : X.calm = true := by rfl) (hg : Gl X "any" := by rfl) (he : starEach [e] X.env = (false, eval e X.env) :: starEach [] X.env := by rfl) (hpl : (backTo pos (starEach [] X.env)).any (·.1) = false := by rfl) : QE X W (.Call (.Name "any" p) [e] [] pos) (tCB (rAny K) t) (eCB (one pAny) s) := hK ▸ qe_any hm ha hc hg he hpl
theorem ke_repr (hgd : X.A.guards = some []) (hr : ∃ k, Room k X.A) (hm : X.mg "repr" = none) (ha : QA X W [e] t s) (hK : X.K = K := by rfl) (hg : Gl X "repr" := by rfl) (he : starEach [e] X.env = (false, eval e X.env) :: starEach [] X.env := by rfl) (hpl : (backTo pos (starEach [] X.env)).any (·.1) = false := by rfl) : QE X W (.Call (.Name "repr" p) [e] [] pos) (tCB (rReprA K) t) (eCB (one pRepr) s) := hK ▸ qe_repr hgd hr hm ha hg he hpl
theorem ke_isi (hm : X.mg "isinstance" = none) (ha : QA X W [e, e2] t s) (hK : X.K = K := by rfl) (hg : Gl X "isinstance" := by rfl) (he : starEach [e, e2] X.env = (false, eval e X.env) :: starEach [e2] X.env := by rfl) (hpl : (backTo pos (starEach [e2] X.env)).any (·.1) = false := by rfl) : QE X W (.Call (.Name "isinstance" p) [e, e2] [] pos) (tCB (rIsi K) t) (eCB pIsiA s) := hK ▸ qe_isi hm ha hg he hpl
theorem ke_tuple_of (hm : X.mg "tuple" = none) (ha : QA X W [e] t s) (hK : X.K = K := by rfl) (hg : Gl X "tuple" := by rfl) (he : starEach [e] X.env = (false, eval e X.env) :: starEach [] X.env := by rfl) (hpl : (backTo pos (starEach [] X.env)).any (·.1) = false := by rfl) :
    QE X W (.Call (.Name "tuple" p) [e] [] pos) (tCB (fun xs H Q => ∃ p ys, xs = [.ref p] ∧ ((SqL K H p ys ∧ ∀ l, H l = none → Q (.ref l) (upd H l (.tup ys))) ∨ (SqT K H p ys ∧ Q (.ref p) H))) t) (eCB (one pTuple) s) := hK ▸ qe_tuple_of hm ha hg he hpl
theorem ke_join {apos : Pos} (ha : QE X W a ta sa) (hb : QE X W b tb sb) (hK : X.K = K := by rfl) (hs : starEach [b] X.env = [(false, eval b X.env)] := by rfl) (hbase : attributeBase a "join" X.env (eval a X.env) = eval a X.env := by rfl) (hline : (apos.endLine == pos.line) = true := by rfl) :
    QE X W (.Call (.Attribute a "join" apos) [b] [] pos) (tM1 (fun x xs H Q => ∃ a p, ∃ ys : List Str, x = .str a ∧ xs = [.ref p] ∧ (SqL K H p (ys.map V.str) ∨ SqT K H p (ys.map V.str)) ∧ (ys.map (·.length)).sum + ys.length * a.length ≤ 16777216 ∧ Q (.str (Txt.join a ys)) H) ta tb) (eM1 pJoin sa sb) := hK ▸ qe_join ha hb hs hbase hline
theorem ki_any {te : TE} {u : SE PV} (he : QE X W e te u) (hK : X.K = K := by rfl) : QI X W tg e (iAny K te) (sIt u) := hK ▸ qi_any he
theorem ki_zip {tpos : Pos} {elts : List Expr} {kk : Nat} (ha : QA X W [e, e2] t s) (hm : X.mg "zip" = none) (hK : X.K = K := by rfl) (hg : Gl X "zip" := by rfl) (hs : starEach [e, e2] X.env = (false, eval e X.env) :: starEach [e2] X.env := by rfl) (hpl : (backTo pos (starEach [e2] X.env)).any (·.1) = false := by rfl) :
    QI X W (.Tuple elts kk tpos) (.Call (.Name "zip" p) [e, e2] [] pos) (RZ.iZipA K t) (sZip s) := hK ▸ qi_zip ha hm hg hs hpl
theorem ki_enum {tpos : Pos} {elts : List Expr} {kk : Nat} (ha : QA X W [e] t s) (hm : X.mg "enumerate" = none) (hK : X.K = K := by rfl) (hg : Gl X "enumerate" := by rfl) (hs : starEach [e] X.env = [(false, eval e X.env)] := by rfl) :
    QI X W (.Tuple elts kk tpos) (.Call (.Name "enumerate" p) [e] [] pos) (iEnA K t) (sEnum s) := hK ▸ qi_enum ha hm hg hs
theorem kt_tru (ha : QE X W a ta sa) (hK : X.K = K := by rfl) (he : ∀ whole, isTrue a X.env whole = (do let v ← whole; standAt a.pos; holding [v] (truthy v)) := by intro _; rfl) : QT X W a (fun σ H Q => ta σ H fun x H' => ∃ k, TruV K x H' k ∧ Q k H') (eTru sa) := hK ▸ qt_tru ha he
theorem kg_tup {es : List Expr} {k : Nat} {t : TGs} {m : Nat} {r : List PV → Env → Option Env} {tl : List Nat} (hc : X.calm = true) (h : QGs X tl es t r) (hK : X.K = K := by rfl)
    (hn : (assignEach es X.env).length = m := by rfl) (hst : (assignEach es X.env).findIdx? (·.1) = none := by rfl) : QG X tl (.Tuple es k pos) (gTup K m t) (gTp m r) := hK ▸ qg_tup hc h hn hst
end
section
variable {X : Cx} {K : PySem.W.Frag} {mg : Str → Option Value} {P : Program} {w : World} {base : Heap} {W : WX}
theorem km_call {k np n : Nat} {f : Addr} {fd : FuncData} {ps : List Str} {x : Str} {p pos : Pos} {e : Expr} {es : List Expr} {ta : TA} {sa : SE (List Ar)} {m : List MV → RF} (F : FnG P w K mg base k f fd ps (spF K n np m)) (hgd : X.A.guards = some []) (hr : Room k X.A) (hm : mg x = some (.ref f)) (hk : PySem.W.keepIn K (.ref f) = true) (hb : KB K fd ps np [] @gPos) (tk : Takes X W)
    (ha : QAr X W (e :: es) ta sa) (hla : ∀ ρ as ρ', sa ρ = .ok as ρ' → as.length = np) (hX : X.prog = P ∧ X.w = w ∧ X.K = K ∧ X.mg = mg ∧ X.base = base := by exact ⟨rfl, rfl, rfl, rfl, rfl⟩) (hg : Gl X x := by rfl) (hdb : (x == ("__debug__" : Str)) = false := by decide) (he : starEach (e :: es) X.env = (false, eval e X.env) :: starEach es X.env := by rfl) (hpl : (backTo pos (starEach es X.env)).any (·.1) = false := by rfl) :
    QM X W (.Call (.Name x p) (e :: es) [] pos) (tCallG np 0 (spF K n np m) @gPos (WE W) ta tNil) (eCall m @gPos sa rNil) := by
  obtain ⟨rfl, rfl, rfl, rfl, rfl⟩ := hX
  exact qm_call F hgd hr hm hk hb tk ha hla hg hdb he hpl
theorem km_call0 {k n : Nat} {f : Addr} {fd : FuncData} {ps : List Str} {x : Str} {p pos : Pos} {m : List MV → RF} (F : FnG P w K mg base k f fd ps (spF K n 0 m)) (hgd : X.A.guards = some []) (hr : Room k X.A) (hm : mg x = some (.ref f)) (hk : PySem.W.keepIn K (.ref f) = true) (hb : KB K fd ps 0 [] @gPos) (tk : Takes X W)
    (hX : X.prog = P ∧ X.w = w ∧ X.K = K ∧ X.mg = mg ∧ X.base = base := by exact ⟨rfl, rfl, rfl, rfl, rfl⟩) (hg : Gl X x := by rfl) (hdb : (x == ("__debug__" : Str)) = false := by decide) :
    QM X W (.Call (.Name x p) [] [] pos) (tCallG 0 0 (spF K n 0 m) @gPos (WE W) tNil tNil) (eCall m @gPos rNil rNil) := by
  obtain ⟨rfl, rfl, rfl, rfl, rfl⟩ := hX
  exact qm_call0 F hgd hr hm hk hb tk hg hdb
theorem km_callk {k kn np n : Nat} {f : Addr} {fd : FuncData} {ps ks : List Str} {x : Str} {p pos : Pos} {e : Expr} {es : List Expr} {kws : List Keyword} {ta tb : TA} {sa sk : SE (List Ar)} {m : List MV → RF} (idx : List Nat) (F : FnG P w K mg base k f fd ps (spF K n np m)) (hgd : X.A.guards = some []) (hr : Room k X.A) (hm : mg x = some (.ref f)) (hk : PySem.W.keepIn K (.ref f) = true) (hb : KB K fd ps kn ks (fun {α} => gKw (α := α) idx)) (tk : Takes X W)
    (ha : QAr X W (e :: es) ta sa) (hkw : QKr X W kws tb sk) (hla : ∀ ρ as ρ', sa ρ = .ok as ρ' → as.length = kn) (hlk : ∀ ρ as ρ', sk ρ = .ok as ρ' → as.length = ks.length) (hlen : ∀ (as bs : List V), as.length = kn → bs.length = ks.length → (gKw idx as bs).length = np) (hX : X.prog = P ∧ X.w = w ∧ X.K = K ∧ X.mg = mg ∧ X.base = base := by exact ⟨rfl, rfl, rfl, rfl, rfl⟩) (hg : Gl X x := by rfl)
    (hall : (backToKw pos (keywordEach kws X.env)).all (·.1.isSome) = true := by rfl) (hks : (backToKw pos (keywordEach kws X.env)).filterMap (·.1) = ks := by rfl)
    (hdb : (x == ("__debug__" : Str)) = false := by decide) (he : starEach (e :: es) X.env = (false, eval e X.env) :: starEach es X.env := by rfl)
    (hpl : ((backTo pos (starEach (e :: es) X.env)).any (·.1) || (backToKw pos (keywordEach kws X.env)).any (·.1.isNone)) = false := by rfl) :
    QM X W (.Call (.Name x p) (e :: es) kws pos) (tCallG kn ks.length (spF K n np m) (fun {α} => gKw (α := α) idx) (WE W) ta tb) (eCall m (fun {α} => gKw (α := α) idx) sa sk) := by
  obtain ⟨rfl, rfl, rfl, rfl, rfl⟩ := hX
  exact qm_callk idx F hgd hr hm hk hb tk ha hkw hla hlk hlen hg hall hks hdb he hpl
theorem km_callk0 {k np n : Nat} {f : Addr} {fd : FuncData} {ps ks : List Str} {x : Str} {p pos : Pos} {kws : List Keyword} {tb : TA} {sk : SE (List Ar)} {m : List MV → RF} (idx : List Nat) (F : FnG P w K mg base k f fd ps (spF K n np m)) (hgd : X.A.guards = some []) (hr : Room k X.A) (hm : mg x = some (.ref f)) (hk : PySem.W.keepIn K (.ref f) = true) (hb : KB K fd ps 0 ks (fun {α} => gKw (α := α) idx)) (tk : Takes X W)
    (hkw : QKr X W kws tb sk) (hlk : ∀ ρ as ρ', sk ρ = .ok as ρ' → as.length = ks.length) (hlen : ∀ (as bs : List V), as.length = 0 → bs.length = ks.length → (gKw idx as bs).length = np) (hX : X.prog = P ∧ X.w = w ∧ X.K = K ∧ X.mg = mg ∧ X.base = base := by exact ⟨rfl, rfl, rfl, rfl, rfl⟩) (hg : Gl X x := by rfl)
    (hall : (backToKw pos (keywordEach kws X.env)).all (·.1.isSome) = true := by rfl) (hks : (backToKw pos (keywordEach kws X.env)).filterMap (·.1) = ks := by rfl)
    (hdb : (x == ("__debug__" : Str)) = false := by decide)
    (hpl : ((backTo pos (starEach [] X.env)).any (·.1) || (backToKw pos (keywordEach kws X.env)).any (·.1.isNone)) = false := by rfl) :
    QM X W (.Call (.Name x p) [] kws pos) (tCallG 0 ks.length (spF K n np m) (fun {α} => gKw (α := α) idx) (WE W) tNil tb) (eCall m (fun {α} => gKw (α := α) idx) rNil sk) := by
  obtain ⟨rfl, rfl, rfl, rfl, rfl⟩ := hX
  exact qm_callk0 idx F hgd hr hm hk hb tk hkw hlk hlen hg hall hks hdb hpl
end
end Mv

set_option Elab.async false
set_option linter.all false
set_option maxRecDepth 100000
namespace Mv
open PySem PySem.Spec PyProof.Rows L2
theorem funD_inj {K : PySem.W.Frag} {x qual : Str} {params : Arguments} {body : List Stmt} {scope : Scope} {dvs : List V} {kws : List (Str × V)} {f : Addr} {fd fd' : FuncData} (D : FunD K x qual params body scope dvs kws f fd) (D' : FunD K x qual params body scope dvs kws f fd') : fd = fd' := by
  obtain ⟨_, _, _, _, _, _, _, _, _, _, _, lk, _⟩ := D.ex
  obtain ⟨_, _, _, _, _, _, _, _, _, _, _, lk', _⟩ := D'.ex
  rw [lk] at lk'
  injection lk' with q
  injection q with _ _ q _
  injection q
end Mv

set_option Elab.async false
set_option linter.all false
set_option maxRecDepth 100000
set_option maxHeartbeats 4000000
/-! Plain laws of the plain functions: how they are worked out. -/
namespace Mv
open PySem PySem.Spec PyProof.Rows L2
def R.th {α β : Type} (r : R α) (k : α → Env → R β) : R β := match r with
  | .ok a ρ => k a ρ
  | .exc x ρ => .exc x ρ
  | .bad => .bad
/-- the same, an exception is bad -/
def R.tb {α β : Type} (r : R α) (k : α → R β) : R β := match r with
  | .ok a _ => k a
  | .exc _ _ => .bad
  | .bad => .bad
def R.opt {α β : Type} (r : R α) (k : α → Env → Option β) : Option β := match r with
  | .ok a ρ => k a ρ
  | .exc _ _ => none
  | .bad => none
/-- an option's value, else bad -/
def oth {α β : Type} (o : Option α) (k : α → R β) : R β := match o with
  | some a => k a
  | none => .bad
/-- behind a statement that ends as it should -/
def nxt (r : R Out) (k : Env → R Out) : R Out := match r with
  | .ok .nx ρ => k ρ
  | r => r
section
variable {α β : Type} {ρ : Env}
@[simp] theorem th_ok (a : α) (k : α → Env → R β) : (R.ok a ρ).th k = k a ρ := rfl
@[simp] theorem th_exc (x : PX) (k : α → Env → R β) : (R.exc x ρ : R α).th k = .exc x ρ := rfl
@[simp] theorem th_bad (k : α → Env → R β) : (R.bad : R α).th k = .bad := rfl
@[simp] theorem tb_ok (a : α) (k : α → R β) : (R.ok a ρ).tb k = k a := rfl
@[simp] theorem opt_ok (a : α) (k : α → Env → Option β) : (R.ok a ρ).opt k = k a ρ := rfl
@[simp] theorem oth_some (a : α) (k : α → R β) : oth (some a) k = k a := rfl
@[simp] theorem oth_none (k : α → R β) : oth none k = .bad := rfl
@[simp] theorem nxt_nx (k : Env → R Out) : nxt (.ok .nx ρ) k = k ρ := rfl
@[simp] theorem nxt_rt (m : MV) (k : Env → R Out) : nxt (.ok (.rt m) ρ) k = .ok (.rt m) ρ := rfl
@[simp] theorem nxt_bk (k : Env → R Out) : nxt (.ok .bk ρ) k = .ok .bk ρ := rfl
@[simp] theorem nxt_ct (k : Env → R Out) : nxt (.ok .ct ρ) k = .ok .ct ρ := rfl
@[simp] theorem nxt_exc (x : PX) (k : Env → R Out) : nxt (.exc x ρ) k = .exc x ρ := rfl
@[simp] theorem nxt_bad (k : Env → R Out) : nxt .bad k = .bad := rfl
@[simp] theorem bind_ap (s : SE α) (k : α → SE β) : s.bind k ρ = (s ρ).th fun a ρ1 => k a ρ1 := by
  unfold SE.bind
  cases s ρ <;> rfl
@[simp] theorem ret_ap (a : α) : SE.ret a ρ = .ok a ρ := rfl
@[simp] theorem ofO_some (a : α) : ofO (some a) ρ = .ok a ρ := rfl
@[simp] theorem ofO_none : ofO (none : Option α) ρ = .bad := rfl
/-- the slot's value -/
def slotF (o : Option (Option MV)) : Option PV := match o with
  | some (some (.fz p)) => some p
  | _ => none
@[simp] theorem slotF_fz (p : PV) : slotF (some (some (.fz p))) = some p := rfl
@[simp] theorem eVar_ap (i : Nat) : eVar i ρ = oth (slotF ρ[i]?) fun p => .ok p ρ := by
  unfold eVar
  cases ρ[i]? with
  | none => rfl
  | some o => cases o with
    | none => rfl
    | some m => cases m <;> rfl
def slotM (o : Option (Option MV)) : Option MV := match o with
  | some (some m) => some m
  | _ => none
@[simp] theorem slotM_some (m : MV) : slotM (some (some m)) = some m := rfl
@[simp] theorem slotM_none : slotM (some none) = none := rfl
@[simp] theorem eMove_ap (i : Nat) : eMove i ρ = oth (slotM ρ[i]?) fun m => .ok m (ρ.set i none) := by
  unfold eMove
  cases ρ[i]? with
  | none => rfl
  | some o => cases o <;> rfl
@[simp] theorem eOp_ap (f : PV → PV → Option PV) (a b : SE PV) : eOp f a b ρ = (a ρ).th fun p ρ1 => (b ρ1).th fun q ρ2 => ofO (f p q) ρ2 := by simp [eOp]
@[simp] theorem vw_ap (s : SE MV) : vw s ρ = (s ρ).th fun a ρ' => .ok a.view ρ' := by simp [vw]
@[simp] theorem mv_ap (s : SE PV) : Mv.mv s ρ = (s ρ).th fun a ρ' => .ok (.fz a) ρ' := by simp [Mv.mv]
@[simp] theorem aNil_ap : aNil ρ = .ok [] ρ := rfl
@[simp] theorem aCons_ap (e : SE PV) (r : SE (List PV)) : aCons e r ρ = (e ρ).th fun p ρ1 => (r ρ1).th fun ps ρ2 => .ok (p :: ps) ρ2 := by simp [aCons]
@[simp] theorem mNil_ap : mNil ρ = .ok [] ρ := rfl
@[simp] theorem mCons_ap (e : SE MV) (r : SE (List MV)) : mCons e r ρ = (e ρ).th fun p ρ1 => (r ρ1).th fun ps ρ2 => .ok (p :: ps) ρ2 := by simp [mCons]
@[simp] theorem eCB_ap (f : List PV → Option PV) (s : SE (List PV)) : eCB f s ρ = (s ρ).th fun ps ρ1 => ofO (f ps) ρ1 := by simp [eCB]
@[simp] theorem one_ap (f : PV → Option PV) (p : PV) : one f [p] = f p := rfl
@[simp] theorem two_ap (f : PV → PV → Option PV) (p q : PV) : two f [p, q] = f p q := rfl
@[simp] theorem eLst_ap (s : SE (List PV)) : eLst s ρ = (s ρ).th fun ps ρ1 => if ps.length ≤ 16777216 then .ok (MV.ml (ps.map .fz)) ρ1 else .bad := by
  simp only [eLst, bind_ap]
  congr 1
  funext ps ρ1
  split <;> rfl
@[simp] theorem eTup_ap (s : SE (List PV)) : eTup s ρ = (s ρ).th fun ps ρ1 => if ps.length ≤ 16777216 then .ok (PV.tup ps) ρ1 else .bad := by
  simp only [eTup, bind_ap]
  congr 1
  funext ps ρ1
  split <;> rfl
@[simp] theorem eNo_ap : eNo ρ = .ok none ρ := rfl
@[simp] theorem ePart_ap (s : SE PV) : ePart s ρ = (s ρ).th fun p ρ1 => oth (asI p) fun i => .ok (some i) ρ1 := by
  simp only [ePart, bind_ap]
  congr 1
  funext p ρ1
  cases p <;> rfl
@[simp] theorem eSl_ap (s : SE PV) (lo hi : SE (Option Int)) : eSl s lo hi ρ = (s ρ).th fun p ρ1 => (lo ρ1).th fun l ρ2 => (hi ρ2).th fun h ρ3 => ofO (pSl p l h) ρ3 := by simp [eSl]
@[simp] theorem eUn_ap (f : PV → Option PV) (s : SE PV) : eUn f s ρ = (s ρ).th fun p ρ1 => ofO (f p) ρ1 := by simp [eUn]
@[simp] theorem eBool_ap (s : SE PV) : eBool s ρ = (s ρ).th fun p ρ1 => ofO (asB p) ρ1 := by simp [eBool]
@[simp] theorem asB_bl (b : Bool) : asB (.bl b) = some b := rfl
@[simp] theorem eTru_ap (s : SE PV) : eTru s ρ = (s ρ).th fun p ρ1 => ofO (pTru p) ρ1 := by simp [eTru]
@[simp] theorem pTru_bl (b : Bool) : pTru (.bl b) = some b := rfl
@[simp] theorem eChain_ap (f g : PV → PV → Option PV) (a b c : SE PV) : eChain f g a b c ρ = (a ρ).th fun p ρ1 => (b ρ1).th fun q ρ2 => oth ((f p q).bind asB) fun k => if k = true then (c ρ2).th fun u ρ3 => ofO (g q u) ρ3 else .ok (.bl false) ρ2 := by
  simp only [eChain, bind_ap]
  congr 1
  funext p ρ1
  congr 1
  funext q ρ2
  cases (f p q).bind asB with
  | none => rfl
  | some k => cases k <;> simp
@[simp] theorem sAnd_ap (s t : SE Bool) : sAnd s t ρ = (s ρ).th fun k ρ1 => if k = true then t ρ1 else .ok false ρ1 := by
  simp only [sAnd, bind_ap]
  congr 1
  funext k ρ1
  cases k <;> rfl
@[simp] theorem sOr_ap (s t : SE Bool) : sOr s t ρ = (s ρ).th fun k ρ1 => if k = true then .ok true ρ1 else t ρ1 := by
  simp only [sOr, bind_ap]
  congr 1
  funext k ρ1
  cases k <;> rfl
@[simp] theorem sNot_ap (s : SE Bool) : sNot s ρ = (s ρ).th fun k ρ1 => .ok (!k) ρ1 := by simp [sNot]
@[simp] theorem eAnd_ap (s t : SE PV) : eAnd s t ρ = (eBool s ρ).th fun k ρ1 => if k = true then t ρ1 else .ok (.bl false) ρ1 := by
  simp only [eAnd, bind_ap]
  congr 1
  funext k ρ1
  cases k <;> rfl
@[simp] theorem eOr_ap (s t : SE PV) : eOr s t ρ = (eBool s ρ).th fun k ρ1 => if k = true then .ok (.bl true) ρ1 else t ρ1 := by
  simp only [eOr, bind_ap]
  congr 1
  funext k ρ1
  cases k <;> rfl
@[simp] theorem eNot_ap (s : SE PV) : eNot s ρ = (eBool s ρ).th fun k ρ1 => .ok (.bl (!k)) ρ1 := by simp [eNot]
@[simp] theorem eIf_ap (t : SE Bool) (s u : SE PV) : eIf t s u ρ = (t ρ).th fun k ρ1 => if k = true then s ρ1 else u ρ1 := by
  simp only [eIf, bind_ap]
  congr 1
  funext k ρ1
  cases k <;> rfl
def asS (p : PV) : Option Tx := match p with
  | .str z => some z
  | _ => none
@[simp] theorem asS_str (z : Tx) : asS (.str z) = some z := rfl
@[simp] theorem eM1_ap (f : PV → PV → Option PV) (s u : SE PV) : eM1 f s u ρ = (s ρ).th fun p ρ1 => oth (asS p) fun z => (u ρ1).th fun q ρ2 => ofO (f (.str z) q) ρ2 := by
  simp only [eM1, bind_ap]
  congr 1
  funext p ρ1
  cases p <;> first | rfl | simp
@[simp] theorem eScope_ap (s : SE PV) : eScope s ρ = (s (fzAll ρ)).tb fun p => if flat p = true then .ok p ρ else .bad := by
  unfold eScope
  cases s (fzAll ρ) <;> rfl
@[simp] theorem tScope_ap (s : SE Bool) : tScope s ρ = (s (fzAll ρ)).tb fun b => .ok b ρ := by
  unfold tScope
  cases s (fzAll ρ) <;> rfl
@[simp] theorem fzAll_nil : fzAll [] = [] := rfl
@[simp] theorem fzAll_none (r : Env) : fzAll (none :: r) = none :: fzAll r := rfl
@[simp] theorem fzAll_some (m : MV) (r : Env) : fzAll (some m :: r) = some (.fz m.view) :: fzAll r := rfl
@[simp] theorem view_fz (p : PV) : (MV.fz p).view = p := by rw [MV.view]
@[simp] theorem view_ml (xs : List MV) : (MV.ml xs).view = .lst (MV.views xs) := by rw [MV.view]
@[simp] theorem views_nil : MV.views [] = [] := by rw [MV.views]
@[simp] theorem views_cons (m : MV) (r : List MV) : MV.views (m :: r) = m.view :: MV.views r := by rw [MV.views]
@[simp] theorem views_map (ps : List PV) : MV.views (ps.map .fz) = ps := MV.views_fz ps
@[simp] theorem views_comp {γ : Type} (f : γ → PV) (l : List γ) : MV.views (l.map (MV.fz ∘ f)) = l.map f := by
  rw [← List.map_map]
  exact MV.views_fz _
theorem views_app (a b : List MV) : MV.views (a ++ b) = MV.views a ++ MV.views b := by
  induction a with
  | nil => simp
  | cons x r ih => simp [ih]
@[simp] theorem flat_int (i : Int) : flat (.int i) = true := rfl
@[simp] theorem flat_str (s : Tx) : flat (.str s) = true := rfl
@[simp] theorem flat_bl (b : Bool) : flat (.bl b) = true := rfl
@[simp] theorem flat_non : flat .non = true := rfl
@[simp] theorem sSeq_ap (s t : SE Out) : sSeq s t ρ = nxt (s ρ) fun ρ' => t ρ' := by
  unfold sSeq
  cases s ρ with
  | ok o ρ' => cases o <;> rfl
  | exc x ρ' => rfl
  | bad => rfl
@[simp] theorem sNil_ap : sNil ρ = .ok .nx ρ := rfl
@[simp] theorem sRet_ap (e : SE MV) : sRet e ρ = (e ρ).th fun m ρ' => .ok (.rt m) ρ' := by simp [sRet]
@[simp] theorem sRetN_ap : sRetN ρ = .ok (.rt (.fz .non)) ρ := rfl
@[simp] theorem sBreak_ap : sBreak ρ = .ok .bk ρ := rfl
@[simp] theorem sCont_ap : sCont ρ = .ok .ct ρ := rfl
@[simp] theorem sIf_ap (c : SE Bool) (a b : SE Out) : sIf c a b ρ = (c ρ).th fun k ρ' => if k = true then a ρ' else b ρ' := by
  simp only [sIf, bind_ap]
  congr 1
  funext k ρ1
  cases k <;> rfl
@[simp] theorem sSet_ap (i : Nat) (e : SE MV) : sSet i e ρ = (e ρ).th fun m ρ' => if i < ρ'.length then .ok .nx (ρ'.set i (some m)) else .bad := by simp [sSet]
@[simp] theorem sSetF_ap (i : Nat) (e : SE MV) : sSetF i e ρ = (e ρ).th fun m ρ' => if i < ρ'.length then .ok .nx (ρ'.set i (some (.fz m.view))) else .bad := by
  simp only [sSetF, sSet_ap, mv_ap, vw_ap]
  cases e ρ <;> rfl
@[simp] theorem sPar_ap (is : List Nat) (s : SE (List MV)) : sPar is s ρ = (s ρ).th fun ms ρ' => if ms.length = is.length ∧ is.all (fun i => decide (i < ρ'.length)) = true then .ok .nx (setAll is ms ρ') else .bad := by simp only [sPar, bind_ap]
@[simp] theorem setAll_cons (i : Nat) (is : List Nat) (m : MV) (ms : List MV) : setAll (i :: is) (m :: ms) ρ = setAll is ms (ρ.set i (some m)) := by rw [setAll]
@[simp] theorem setAll_nil : setAll [] [] ρ = ρ := by simp [setAll]
@[simp] theorem sAsg_ap (e : SE PV) (g : PV → Env → Option Env) : sAsg e g ρ = (e ρ).th fun p ρ' => oth (g p ρ') fun ρ2 => .ok .nx ρ2 := by
  simp only [sAsg, bind_ap]
  congr 1
  funext p ρ1
  cases g p ρ1 <;> rfl
@[simp] theorem gN_ap (i : Nat) (p : PV) : gN i p ρ = if i < ρ.length then some (ρ.set i (some (.fz p))) else none := rfl
@[simp] theorem gNl_ap : gNl [] ρ = some ρ := rfl
@[simp] theorem gCn_ap (g : PV → Env → Option Env) (r : List PV → Env → Option Env) (p : PV) (ps : List PV) : gCn g r (p :: ps) ρ = (g p ρ).bind fun ρ' => r ps ρ' := by
  show (match g p ρ with
    | some ρ' => r ps ρ'
    | none => none) = _
  cases g p ρ <;> rfl
@[simp] theorem gTp_ap (k : Nat) (r : List PV → Env → Option Env) (ps : List PV) : gTp k r (.tup ps) ρ = if ps.length = k then r ps ρ else none := rfl
@[simp] theorem sFz_ap (i : Nat) (s : SE Out) : sFz i s ρ = s (fzAt i ρ) := rfl
def fzO (o : Option (Option MV)) (ρ : Env) (i : Nat) : Env := match o with
  | some (some m) => ρ.set i (some (.fz m.view))
  | _ => ρ
@[simp] theorem fzO_some (m : MV) (i : Nat) : fzO (some (some m)) ρ i = ρ.set i (some (.fz m.view)) := rfl
@[simp] theorem fzO_none (i : Nat) : fzO (some none) ρ i = ρ := rfl
@[simp] theorem fzAt_ap (i : Nat) : fzAt i ρ = fzO ρ[i]? ρ i := by
  unfold fzAt fzO
  cases ρ[i]? with
  | none => rfl
  | some o => cases o <;> rfl
@[simp] theorem sDrop_ap (e : SE MV) : sDrop e ρ = (e ρ).th fun m ρ' => .ok .nx ρ' := by simp [sDrop]
def slotL (o : Option (Option MV)) : Option (List MV) := match o with
  | some (some (.ml xs)) => some xs
  | _ => none
@[simp] theorem slotL_ml (xs : List MV) : slotL (some (some (.ml xs))) = some xs := rfl
@[simp] theorem mlAt_ap (i : Nat) : mlAt i ρ = slotL ρ[i]? := by
  unfold mlAt slotL
  cases ρ[i]? with
  | none => rfl
  | some o => cases o with
    | none => rfl
    | some m => cases m <;> rfl
@[simp] theorem sApp_ap (i : Nat) (e : SE PV) : sApp i e ρ = oth (mlAt i ρ) fun _ => (e ρ).th fun p ρ' => oth (mlAt i ρ') fun xs => if xs.length < 16777216 then .ok .nx (ρ'.set i (some (.ml (xs ++ [.fz p])))) else .bad := by
  unfold sApp
  cases mlAt i ρ with
  | none => rfl
  | some ys =>
    simp only [bind_ap, oth_some]
    congr 1
    funext p ρ1
    cases mlAt i ρ1 <;> rfl
@[simp] theorem sAug_ap (i : Nat) (e : SE PV) (f : PV → PV → Option PV) : sAug i e f ρ = oth (slotF ρ[i]?) fun p => (e ρ).th fun q ρ' => oth (f p q) fun z => if i < ρ'.length then .ok .nx (ρ'.set i (some (.fz z))) else .bad := by
  unfold sAug
  rw [eVar_ap]
  cases slotF ρ[i]? with
  | none => rfl
  | some p =>
    simp only [oth_some, bind_ap]
    congr 1
    funext q ρ1
    cases f p q <;> rfl
@[simp] theorem sAugIx_ap (i : Nat) (ix e : SE PV) (f : PV → PV → Option PV) : sAugIx i ix e f ρ = oth (mlAt i ρ) fun _ => (ix ρ).th fun kq ρ1 => oth (asI kq) fun k => oth (getAt i k ρ1) fun p => (e ρ1).th fun q ρ2 => oth (f p q) fun y => oth (putAt i k y ρ2) fun ρ3 => .ok .nx ρ3 := by
  unfold sAugIx
  cases mlAt i ρ with
  | none => rfl
  | some ys =>
    simp only [bind_ap, oth_some]
    congr 1
    funext kq ρ1
    cases asI kq with
    | none => rfl
    | some k =>
      simp only [Option.bind_some, oth_some]
      cases getAt i k ρ1 with
      | none => rfl
      | some p =>
        simp only [Option.map_some, bind_ap, oth_some]
        congr 1
        funext q ρ2
        cases f p q with
        | none => rfl
        | some y =>
          simp only [oth_some]
          cases putAt i k y ρ2 <;> rfl
@[simp] theorem asI_int (i : Int) : asI (.int i) = some i := rfl
def fzM (o : Option MV) : Option PV := match o with
  | some (.fz p) => some p
  | _ => none
@[simp] theorem fzM_fz (p : PV) : fzM (some (.fz p)) = some p := rfl
@[simp] theorem getAt_ap (i : Nat) (k : Int) : getAt i k ρ = (mlAt i ρ).bind fun xs => fzM (atI xs k) := by
  unfold getAt
  cases mlAt i ρ with
  | none => rfl
  | some xs =>
    simp only [Option.bind_some]
    cases atI xs k with
    | none => rfl
    | some m => cases m <;> rfl
@[simp] theorem putAt_ap (i : Nat) (k : Int) (p : PV) : putAt i k p ρ = (mlAt i ρ).bind fun xs => (ixN xs.length k).bind fun j => some (ρ.set i (some (.ml (xs.set j (.fz p))))) := by
  unfold putAt
  cases mlAt i ρ with
  | none => rfl
  | some xs =>
    simp only [Option.bind_some]
    cases ixN xs.length k <;> rfl
@[simp] theorem gIxL_ap (i : Nat) (ix : SE PV) (p : PV) : gIxL i ix p ρ = (mlAt i ρ).bind fun _ => (ix ρ).opt fun q ρ' => (asI q).bind fun k => putAt i k p ρ' := by
  unfold gIxL
  cases mlAt i ρ with
  | none => rfl
  | some xs =>
    simp only [Option.bind_some]
    cases ix ρ <;> rfl
@[simp] theorem sIt_ap (s : SE PV) : sIt s ρ = (s ρ).th fun p ρ1 => ofO (itL p) ρ1 := by simp [sIt]
@[simp] theorem itL_lst (xs : List PV) : itL (.lst xs) = some xs := rfl
@[simp] theorem itL_tup (xs : List PV) : itL (.tup xs) = some xs := rfl
@[simp] theorem itL_str (s : Tx) : itL (.str s) = some (s.map fun c => .str [c]) := rfl
@[simp] theorem sRng_ap (s : SE (List PV)) : sRng s ρ = (s ρ).th fun ps ρ1 => ofO (rngOf ps) ρ1 := by simp [sRng]
@[simp] theorem rngOf_1 (j : Int) : rngOf [.int j] = if -(2 ^ 62) ≤ j ∧ j < 2 ^ 62 then some (rngL 0 j) else none := rfl
@[simp] theorem rngOf_2 (i j : Int) : rngOf [.int i, .int j] = if (-(2 ^ 62) ≤ i ∧ i < 2 ^ 62) ∧ -(2 ^ 62) ≤ j ∧ j < 2 ^ 62 then some (rngL i j) else none := rfl
@[simp] theorem sZip_ap (s : SE (List PV)) : sZip s ρ = (s ρ).th fun ps ρ1 => ofO (zipOf ps) ρ1 := by simp [sZip]
@[simp] theorem zipOf_l (xs ys : List PV) : zipOf [.lst xs, .lst ys] = some (List.zipWith (fun p q => .tup [p, q]) xs ys) := rfl
@[simp] theorem sEnum_ap (s : SE (List PV)) : sEnum s ρ = (s ρ).th fun ps ρ1 => ofO (enumOf ps) ρ1 := by simp [sEnum]
@[simp] theorem enumOf_l (xs : List PV) : enumOf [.lst xs] = some (xs.mapIdx fun i p => .tup [.int i, p]) := rfl
@[simp] theorem enumOf_s (s : Tx) : enumOf [.str s] = some (s.mapIdx fun i c => .tup [.int i, .str [c]]) := rfl
@[simp] theorem sFor_ap (it : SE (List PV)) (g : PV → Env → Option Env) (b : SE Out) : sFor it g b ρ = (it ρ).th fun items ρ1 => forL g b items ρ1 := by simp [sFor]
@[simp] theorem sLc_ap (it : SE (List PV)) (g : PV → Env → Option Env) (tt : SE Bool) (te : SE PV) (vs : List Nat) : sLc it g tt te vs ρ = (it ρ).th fun items ρ1 => if items.length ≤ 16777216 then oth (lcGo g tt te vs items [] (wipeE ρ1 vs)) fun z => .ok (.ml (z.1.map .fz)) (backE vs ρ1 z.2) else .bad := by
  simp only [sLc, bind_ap]
  congr 1
  funext items ρ1
  split
  · cases lcGo g tt te vs items [] (wipeE ρ1 vs) <;> rfl
  · rfl
@[simp] theorem sYes_ap : sYes ρ = .ok true ρ := rfl
@[simp] theorem wipeE_nil : wipeE ρ [] = ρ := rfl
@[simp] theorem wipeE_cons (v : Nat) (vs : List Nat) : wipeE ρ (v :: vs) = (wipeE ρ vs).set v none := rfl
@[simp] theorem backE_nil (ρ1 : Env) : backE [] ρ1 ρ = ρ := rfl
@[simp] theorem backE_cons (v : Nat) (vs : List Nat) (ρ1 : Env) : backE (v :: vs) ρ1 ρ = backE vs ρ1 (ρ.set v ((slotF ρ1[v]?).map .fz)) := by
  rw [backE]
  congr 2
  cases ρ1[v]? with
  | none => rfl
  | some o => cases o with
    | none => rfl
    | some m => cases m <;> rfl
@[simp] theorem slotF_none : slotF (some none) = none := rfl
@[simp] theorem slotF_ml (xs : List MV) : slotF (some (some (.ml xs))) = none := rfl
@[simp] theorem rNil_ap : rNil ρ = .ok [] ρ := rfl
@[simp] theorem rV_ap (e : SE PV) (r : SE (List Ar)) : rV e r ρ = (e ρ).th fun p ρ1 => (r ρ1).th fun as ρ2 => .ok (.v p :: as) ρ2 := by simp [rV]
@[simp] theorem rP_ap (i : Nat) (r : SE (List Ar)) : rP i r ρ = oth (slotM ρ[i]?) fun _ => (r ρ).th fun as ρ2 => .ok (.pl i :: as) ρ2 := by
  unfold rP
  cases ρ[i]? with
  | none => rfl
  | some o => cases o with
    | none => rfl
    | some m => simp
/-- the call's end -/
def RF.th (r : RF) (k : List MV → Env) : R MV := match r with
  | .ok m outs => .ok m (k outs)
  | .exc x outs => .exc x (k outs)
  | .bad => .bad
@[simp] theorem rf_ok (m : MV) (outs : List MV) (k : List MV → Env) : (RF.ok m outs).th k = .ok m (k outs) := rfl
@[simp] theorem rf_exc (x : PX) (outs : List MV) (k : List MV → Env) : (RF.exc x outs).th k = .exc x (k outs) := rfl
@[simp] theorem eCall_ap (m : List MV → RF) (g : {α : Type} → List α → List α → List α) (sa sk : SE (List Ar)) : eCall m @g sa sk ρ = (sa ρ).th fun as ρ1 => (sk ρ1).th fun bs ρ2 => oth (gather (g as bs) ρ2) fun z => (m z.1).th fun outs => putB (g as bs) outs z.2 := by
  simp only [eCall, bind_ap]
  congr 1
  funext as ρ1
  congr 1
  funext bs ρ2
  unfold callR
  cases gather (g as bs) ρ2 with
  | none => rfl
  | some z =>
    simp only [oth_some]
    cases m z.1 <;> rfl
@[simp] theorem gPos_ap (xs ys : List α) : gPos xs ys = xs := rfl
@[simp] theorem gather_nil : gather [] ρ = some ([], ρ) := rfl
@[simp] theorem gather_v (p : PV) (r : List Ar) : gather (.v p :: r) ρ = (gather r ρ).map fun z => (.fz p :: z.1, z.2) := rfl
/-- how an owned slot is handed over -/
def gthO (o : Option (Option MV)) (r : List Ar) (ρ : Env) (i : Nat) : Option (List MV × Env) := match o with
  | some (some (.fz p)) => (gather r ρ).map fun z => (.fz p :: z.1, z.2)
  | some (some m) => (gather r (ρ.set i none)).map fun z => (m :: z.1, z.2)
  | _ => none
@[simp] theorem gather_p (i : Nat) (r : List Ar) : gather (.pl i :: r) ρ = gthO ρ[i]? r ρ i := by
  rw [gather]
  unfold gthO
  cases ρ[i]? with
  | none => rfl
  | some o => cases o with
    | none => rfl
    | some m => cases m <;> rfl
@[simp] theorem gthO_fz (p : PV) (r : List Ar) (i : Nat) : gthO (some (some (.fz p))) r ρ i = (gather r ρ).map fun z => (.fz p :: z.1, z.2) := rfl
@[simp] theorem gthO_ml (xs : List MV) (r : List Ar) (i : Nat) : gthO (some (some (.ml xs))) r ρ i = (gather r (ρ.set i none)).map fun z => (.ml xs :: z.1, z.2) := rfl
@[simp] theorem putB_nil (outs : List MV) : putB [] outs ρ = ρ := by cases outs <;> rfl
@[simp] theorem putB_nil2 (as : List Ar) : putB as [] ρ = ρ := by cases as with
  | nil => rfl
  | cons a r => cases a <;> rfl
@[simp] theorem putB_v (p : PV) (r : List Ar) (m : MV) (ms : List MV) : putB (.v p :: r) (m :: ms) ρ = putB r ms ρ := rfl
def pbO (o : Option (Option MV)) (ρ : Env) (i : Nat) (m : MV) : Env := match o with
  | some none => ρ.set i (some m)
  | _ => ρ
@[simp] theorem pbO_none (i : Nat) (m : MV) : pbO (some none) ρ i m = ρ.set i (some m) := rfl
@[simp] theorem pbO_some (i : Nat) (m m' : MV) : pbO (some (some m')) ρ i m = ρ := rfl
@[simp] theorem putB_p (i : Nat) (r : List Ar) (m : MV) (ms : List MV) : putB (.pl i :: r) (m :: ms) ρ = putB r ms (pbO ρ[i]? ρ i m) := by
  rw [putB]
  congr 1
/-- a frozen list told many times, owned -/
def repM (p q : PV) : Option MV := match p with
  | .lst xs => (match q with
    | .int k => if (-(2 ^ 63) ≤ k ∧ k < 2 ^ 63) ∧ xs.length * k.toNat ≤ 16777216 then some (MV.ml ((List.replicate k.toNat xs).flatten.map .fz)) else none
    | _ => none)
  | _ => none
@[simp] theorem repM_lst (xs : List PV) (k : Int) : repM (.lst xs) (.int k) = if (-(2 ^ 63) ≤ k ∧ k < 2 ^ 63) ∧ xs.length * k.toNat ≤ 16777216 then some (MV.ml ((List.replicate k.toNat xs).flatten.map .fz)) else none := rfl
@[simp] theorem eRep_ap (a b : SE PV) : eRep a b ρ = (a ρ).th fun p ρ1 => (b ρ1).th fun q ρ2 => ofO (repM p q) ρ2 := by
  simp only [eRep, bind_ap]
  rfl
end
/-- a def's end -/
def fin (n : Nat) (r : R Out) : RF := match r with
  | .ok (.rt m) ρ' => (match outsOf (ρ'.take n) with
    | some outs => .ok m outs
    | none => .bad)
  | .ok .nx ρ' => (match outsOf (ρ'.take n) with
    | some outs => .ok (.fz .non) outs
    | none => .bad)
  | .ok .bk _ => .bad
  | .ok .ct _ => .bad
  | .exc x ρ' => (match outsOf (ρ'.take n) with
    | some outs => .exc x outs
    | none => .bad)
  | .bad => .bad
theorem runF_fin {n np nl : Nat} {body : SE Out} {ms : List MV} (h : ms.length = np) : runF n np nl body ms = fin n (body (ms.map some ++ List.replicate nl none)) := by
  unfold runF fin
  rw [if_pos h] <;>
  (generalize body (ms.map some ++ List.replicate nl none) = r
   rcases r with ⟨o, ρ'⟩ | ⟨x, ρ'⟩ | _
   · cases o <;> rfl
   · rfl
   · rfl)
def othF (o : Option (List MV)) (k : List MV → RF) : RF := match o with
  | some l => k l
  | none => .bad
@[simp] theorem othF_some (l : List MV) (k : List MV → RF) : othF (some l) k = k l := rfl
@[simp] theorem fin_rt (n : Nat) (m : MV) (ρ : Env) : fin n (.ok (.rt m) ρ) = othF (outsOf (ρ.take n)) fun outs => .ok m outs := by
  show (match outsOf (ρ.take n) with
    | some outs => RF.ok m outs
    | none => .bad) = _
  cases outsOf (ρ.take n) <;> rfl
@[simp] theorem fin_nx (n : Nat) (ρ : Env) : fin n (.ok .nx ρ) = othF (outsOf (ρ.take n)) fun outs => .ok (.fz .non) outs := by
  show (match outsOf (ρ.take n) with
    | some outs => RF.ok (.fz .non) outs
    | none => .bad) = _
  cases outsOf (ρ.take n) <;> rfl
@[simp] theorem fin_exc (n : Nat) (x : PX) (ρ : Env) : fin n (.exc x ρ) = othF (outsOf (ρ.take n)) fun outs => .exc x outs := by
  show (match outsOf (ρ.take n) with
    | some outs => RF.exc x outs
    | none => .bad) = _
  cases outsOf (ρ.take n) <;> rfl
@[simp] theorem outsOf_nil : outsOf [] = some [] := rfl
@[simp] theorem outsOf_cons (m : MV) (r : Env) : outsOf (some m :: r) = (outsOf r).map fun l => m :: l := by
  show (match outsOf r with
    | some l => some (m :: l)
    | none => none) = _
  cases outsOf r <;> rfl

/-! ### operators at values -/
@[simp] theorem pAdd_int (i j : Int) : pAdd (.int i) (.int j) = some (.int (i + j)) := rfl
@[simp] theorem pAdd_str (s t : Tx) : pAdd (.str s) (.str t) = if s.length + t.length ≤ 16777216 then some (.str (s ++ t)) else none := rfl
@[simp] theorem pSub_int (i j : Int) : pSub (.int i) (.int j) = some (.int (i - j)) := rfl
@[simp] theorem pIAdd_int (i j : Int) : pIAdd (.int i) (.int j) = some (.int (i + j)) := rfl
@[simp] theorem pMul_int (i j : Int) : pMul (.int i) (.int j) = if CMul i j then some (.int (i * j)) else none := rfl
@[simp] theorem pMul_str (s : Tx) (k : Int) : pMul (.str s) (.int k) = if s.length * k.toNat ≤ 16777216 ∧ -1000000000 ≤ k ∧ k ≤ 1000000000 then some (.str (List.replicate k.toNat s).flatten) else none := rfl
@[simp] theorem pMod_int (i j : Int) : pMod (.int i) (.int j) = if 0 < j then some (.int (i % j)) else none := rfl
@[simp] theorem pFdiv_int (i j : Int) : pFdiv (.int i) (.int j) = if CDiv i j then some (.int (i / j)) else none := rfl
@[simp] theorem pDivmod_int (i j : Int) : pDivmod (.int i) (.int j) = if CDiv i j then some (.tup [.int (i / j), .int (i % j)]) else none := rfl
@[simp] theorem pLen_str (s : Tx) : pLen (.str s) = if s.length ≤ 16777216 then some (.int s.length) else none := rfl
@[simp] theorem pLen_lst (s : List PV) : pLen (.lst s) = some (.int s.length) := rfl
@[simp] theorem pLen_tup (s : List PV) : pLen (.tup s) = some (.int s.length) := rfl
@[simp] theorem pLen_scr (s : List Int) : pLen (.scr s) = some (.int s.length) := rfl
@[simp] theorem pLt_int (i j : Int) : pLt (.int i) (.int j) = some (.bl (decide (i < j))) := rfl
@[simp] theorem pLe_int (i j : Int) : pLe (.int i) (.int j) = some (.bl (decide (i ≤ j))) := rfl
@[simp] theorem pGt_int (i j : Int) : pGt (.int i) (.int j) = some (.bl (decide (j < i))) := rfl
@[simp] theorem pGe_int (i j : Int) : pGe (.int i) (.int j) = some (.bl (decide (j ≤ i))) := rfl
@[simp] theorem pLt_str (i j : Tx) : pLt (.str i) (.str j) = some (.bl (decide (i < j))) := rfl
@[simp] theorem pLe_str (i j : Tx) : pLe (.str i) (.str j) = some (.bl (!decide (j < i))) := rfl
@[simp] theorem pEq_int (i j : Int) : pEq (.int i) (.int j) = some (.bl (decide (i = j))) := rfl
@[simp] theorem pEq_str (i j : Tx) : pEq (.str i) (.str j) = some (.bl (decide (i = j))) := rfl
@[simp] theorem pEq_bl (i j : Bool) : pEq (.bl i) (.bl j) = some (.bl (decide (i = j))) := rfl
@[simp] theorem pNe_int (i j : Int) : pNe (.int i) (.int j) = some (.bl (!decide (i = j))) := rfl
@[simp] theorem pNe_str (i j : Tx) : pNe (.str i) (.str j) = some (.bl (!decide (i = j))) := rfl
@[simp] theorem pIx_lst (xs : List PV) (i : Int) : pIx (.lst xs) (.int i) = atI xs i := rfl
@[simp] theorem pIx_tup (xs : List PV) (i : Int) : pIx (.tup xs) (.int i) = atI xs i := rfl
@[simp] theorem pIx_scr (xs : List Int) (i : Int) : pIx (.scr xs) (.int i) = (atI xs i).map .int := rfl
@[simp] theorem pIx_str (s : Tx) (i : Int) : pIx (.str s) (.int i) = if s.length ≤ 16777216 then (atI s i).map fun c => .str [c] else none := rfl
@[simp] theorem pSl_str (s : Tx) (l h : Option Int) : pSl (.str s) l h = if s.length ≤ 16777216 then some (.str (cutL s l h)) else none := rfl
@[simp] theorem pSl_lst (s : List PV) (l h : Option Int) : pSl (.lst s) l h = some (.lst (cutL s l h)) := rfl
@[simp] theorem pNeg_int (i : Int) : pNeg (.int i) = some (.int (-i)) := rfl
@[simp] theorem pInt_int (i : Int) : pInt (.int i) = some (.int i) := rfl
@[simp] theorem pInt_str (s : Tx) : pInt (.str s) = if s.length ≤ 640 then (PySem.intText? (mkS s)).map .int else none := rfl
@[simp] theorem pStr_int (i : Int) : pStr (.int i) = if i.natAbs.log2 < 1920 then some (.str (numT i)) else none := rfl
@[simp] theorem pOrd_1 (c : Nat) : pOrd (.str [c]) = some (.int c) := rfl
@[simp] theorem pMax_int (i j : Int) : pMax (.int i) (.int j) = some (.int (if j > i then j else i)) := rfl
@[simp] theorem pMin_int (i j : Int) : pMin (.int i) (.int j) = some (.int (if j < i then j else i)) := rfl
@[simp] theorem pAbs_int (i : Int) : pAbs (.int i) = some (.int (if i < 0 then -i else i)) := rfl
@[simp] theorem pIsi_str (s : Tx) : pIsiA [.str s, .opq (.ty "str")] = some (.bl true) := by rfl
@[simp] theorem pIn_str (c : Nat) (z : Tx) : pIn (.str [c]) (.str z) = some (.bl (decide (c ∈ z))) := rfl
@[simp] theorem pNotN_int (i : Int) : noOpq pNotN (.int i) .non = some (.bl true) := rfl
@[simp] theorem pNotN_non : noOpq pNotN .non .non = some (.bl false) := rfl
@[simp] theorem pIsN_int (i : Int) : noOpq pIsN (.int i) .non = some (.bl false) := rfl
@[simp] theorem pIsN_non : noOpq pIsN .non .non = some (.bl true) := rfl
theorem bls_map {α : Type} (f : α → Bool) (xs : List α) : PV.bls (xs.map fun x => .bl (f x)) = some (xs.map f) := by
  induction xs with
  | nil => rfl
  | cons x r ih => rw [List.map_cons, PV.bls, ih]; rfl
theorem pAll_map {α : Type} (f : α → Bool) (xs : List α) : pAll (.lst (xs.map fun x => .bl (f x))) = some (.bl (xs.all f)) := by
  show (PV.bls (xs.map fun x => .bl (f x))).map (fun bs => PV.bl (bs.all id)) = _
  rw [bls_map]
  simp [Function.comp_def]
theorem pAny_map {α : Type} (f : α → Bool) (xs : List α) : pAny (.lst (xs.map fun x => .bl (f x))) = some (.bl (xs.any f)) := by
  show (PV.bls (xs.map fun x => .bl (f x))).map (fun bs => PV.bl (bs.any id)) = _
  rw [bls_map]
  simp [Function.comp_def]
theorem pStrs_map (ss : List Tx) : pStrs (ss.map .str) = some ss := by
  induction ss with
  | nil => rfl
  | cons x r ih => rw [List.map_cons, pStrs, ih]; rfl
theorem joinT_nil (ss : List Tx) : joinT [] ss = ss.flatten := by
  unfold joinT
  induction ss with
  | nil => rfl
  | cons p r ih => cases r with
    | nil => simp [TL.joinL]
    | cons q r => rw [TL.joinL, ih]; simp
theorem pJoin_map (sep : Tx) (ss : List Tx) : pJoin (.str sep) (.lst (ss.map .str)) = if (ss.map List.length).sum + ss.length * sep.length ≤ 16777216 then some (.str (joinT sep ss)) else none := by
  show (pStrs (ss.map .str)).bind _ = _
  rw [pStrs_map]
  rfl
theorem pJoin_mapf {α : Type} (sep : Tx) (f : α → Tx) (xs : List α) : pJoin (.str sep) (.lst (xs.map fun x => .str (f x))) = if ((xs.map f).map List.length).sum + xs.length * sep.length ≤ 16777216 then some (.str (joinT sep (xs.map f))) else none := by
  have := pJoin_map sep (xs.map f)
  rw [List.map_map, List.length_map] at this
  exact this
theorem flat1 {α : Type} (g : α → Nat) (xs : List α) : (xs.map fun x => [g x]).flatten = xs.map g := by
  induction xs with
  | nil => rfl
  | cons x r ih => simp [ih]
theorem sum1 {α : Type} (g : α → Nat) (xs : List α) : ((xs.map fun x => [g x]).map List.length).sum = xs.length := by
  induction xs with
  | nil => rfl
  | cons x r ih => simp at ih ⊢; omega
/-! ### comprehensions -/
theorem lcGo_pure {g : PV → Env → Option Env} {tt : SE Bool} {te : SE PV} {vs : List Nat} {ρ : Env} {f : PV → PV} : ∀ {items acc : List PV}, (∀ p ∈ items, ∃ ρ1 ρ2 ρ3, g p ρ = some ρ1 ∧ tt ρ1 = .ok true ρ2 ∧ te ρ2 = .ok (f p) ρ3 ∧ wipeE ρ3 vs = ρ) → lcGo g tt te vs items acc ρ = some (acc ++ items.map f, ρ)
  | [], acc, h => by rw [lcGo]; simp
  | p :: r, acc, h => by
    obtain ⟨ρ1, ρ2, ρ3, e1, e2, e3, e4⟩ := h p (List.mem_cons_self ..)
    rw [lcGo_cons, e1]
    simp only [e2, e3, e4]
    rw [lcGo_pure fun q hq => h q (List.mem_cons_of_mem _ hq)]
    simp
/-- with a test -/
theorem lcGo_filter {g : PV → Env → Option Env} {tt : SE Bool} {te : SE PV} {vs : List Nat} {ρ : Env} {f : PV → PV} {b : PV → Bool} : ∀ {items acc : List PV}, (∀ p ∈ items, ∃ ρ1 ρ2 ρ3, g p ρ = some ρ1 ∧ tt ρ1 = .ok (b p) ρ2 ∧ (b p = true → te ρ2 = .ok (f p) ρ3) ∧ (b p = false → ρ3 = ρ2) ∧ wipeE ρ3 vs = ρ) → lcGo g tt te vs items acc ρ = some (acc ++ (items.filter b).map f, ρ)
  | [], acc, h => by rw [lcGo]; simp
  | p :: r, acc, h => by
    obtain ⟨ρ1, ρ2, ρ3, e1, e2, e3, e5, e4⟩ := h p (List.mem_cons_self ..)
    have ih := fun acc => lcGo_filter (items := r) (acc := acc) fun q hq => h q (List.mem_cons_of_mem _ hq)
    rw [lcGo_cons, e1]
    cases hb : b p with
    | true =>
      rw [hb] at e2
      simp only [e2, e3 hb, e4, ih]
      simp [hb]
    | false =>
      rw [hb] at e2
      rw [e5 hb] at e4
      simp only [e2, e4, ih]
      simp [hb]
/-- drawing as they go -/
theorem lcGo_rel {I : Env → Prop} {Rl : PV → PV → Prop} {g : PV → Env → Option Env} {tt : SE Bool} {te : SE PV} {vs : List Nat} : ∀ {items acc : List PV} {ρ : Env}, I ρ → (∀ p ∈ items, ∀ ρ, I ρ → ∃ ρ1 ρ2 ρ3 y, g p ρ = some ρ1 ∧ tt ρ1 = .ok true ρ2 ∧ te ρ2 = .ok y ρ3 ∧ Rl p y ∧ I (wipeE ρ3 vs)) →
    ∃ ys ρ', lcGo g tt te vs items acc ρ = some (acc ++ ys, ρ') ∧ I ρ' ∧ Paired Rl items ys
  | [], acc, ρ, hI, h => ⟨[], ρ, by rw [lcGo]; simp, hI, .nil⟩
  | p :: r, acc, ρ, hI, h => by
    obtain ⟨ρ1, ρ2, ρ3, y, e1, e2, e3, e4, e5⟩ := h p (List.mem_cons_self ..) ρ hI
    obtain ⟨ys, ρ', q1, q2, q3⟩ := lcGo_rel (acc := acc ++ [y]) e5 fun q hq => h q (List.mem_cons_of_mem _ hq)
    refine ⟨y :: ys, ρ', ?_, q2, .cons e4 q3⟩
    rw [lcGo_cons, e1]
    simp only [e2, e3, q1]
    simp
/-! ### loops -/
def lpO (r : R Out) (k : Env → R Out) : R Out := match r with
  | .ok .nx ρ => k ρ
  | .ok .ct ρ => k ρ
  | .ok .bk ρ => .ok .nx ρ
  | .ok (.rt m) ρ => .ok (.rt m) ρ
  | .exc x ρ => .exc x ρ
  | .bad => .bad
@[simp] theorem lpO_nx (ρ : Env) (k : Env → R Out) : lpO (.ok .nx ρ) k = k ρ := rfl
@[simp] theorem lpO_ct (ρ : Env) (k : Env → R Out) : lpO (.ok .ct ρ) k = k ρ := rfl
@[simp] theorem lpO_bk (ρ : Env) (k : Env → R Out) : lpO (.ok .bk ρ) k = .ok .nx ρ := rfl
@[simp] theorem lpO_rt (m : MV) (ρ : Env) (k : Env → R Out) : lpO (.ok (.rt m) ρ) k = .ok (.rt m) ρ := rfl
@[simp] theorem lpO_exc (x : PX) (ρ : Env) (k : Env → R Out) : lpO (.exc x ρ) k = .exc x ρ := rfl
@[simp] theorem lpO_bad (k : Env → R Out) : lpO .bad k = .bad := rfl
@[simp] theorem forL_nil (g : PV → Env → Option Env) (b : SE Out) (ρ : Env) : forL g b [] ρ = .ok .nx ρ := by rw [forL]
theorem forL_ap (g : PV → Env → Option Env) (b : SE Out) (p : PV) (r : List PV) (ρ : Env) : forL g b (p :: r) ρ = oth (g p ρ) fun ρ1 => lpO (b ρ1) (forL g b r) := by
  rw [forL_cons]
  cases g p ρ with
  | none => rfl
  | some ρ1 =>
    simp only [oth_some]
    cases b ρ1 with
    | ok o ρ2 => cases o <;> rfl
    | exc x ρ2 => rfl
    | bad => rfl
theorem whileL_ap (c : SE Bool) (b : SE Out) (k : Nat) (ρ : Env) : whileL c b (k + 1) ρ = (c ρ).th fun t ρ1 => if t = true then lpO (b ρ1) (whileL c b k) else .ok .nx ρ1 := by
  rw [whileL_succ]
  cases c ρ with
  | ok t ρ1 =>
    simp only [th_ok]
    cases t with
    | true =>
      rw [if_pos rfl]
      dsimp only
      cases b ρ1 with
      | ok o ρ2 => cases o <;> rfl
      | exc x ρ2 => rfl
      | bad => rfl
    | false => rfl
  | exc x ρ1 => rfl
  | bad => rfl
/-- range, from p on, n items -/
def rngP (p n : Nat) : List PV := (List.range n).map fun i => .int ((p + i : Nat) : Int)
theorem rngP_zero (p : Nat) : rngP p 0 = [] := rfl
theorem rngP_succ (p n : Nat) : rngP p (n + 1) = .int (p : Int) :: rngP (p + 1) n := by
  unfold rngP
  rw [List.range_succ_eq_map, List.map_cons, List.map_map]
  congr 1
  apply List.map_congr_left
  intro i _
  show PV.int _ = PV.int _
  congr 1
  show ((p + (i + 1) : Nat) : Int) = _
  omega
theorem rngL_P (p n : Nat) : rngL (p : Int) (n : Int) = rngP p (n - p) := by
  unfold rngL rngP
  have e : ((n : Int) - (p : Int)).toNat = n - p := by omega
  rw [e]
  apply List.map_congr_left
  intro i _
  congr 1
theorem rngL_0 (n : Nat) : rngL 0 (n : Int) = rngP 0 n := rngL_P 0 n
/-- enumerate of a text, from p on -/
def enumP (p : Nat) (s : Tx) : List PV := s.mapIdx fun i c => .tup [.int ((p + i : Nat) : Int), .str [c]]
theorem enumP_nil (p : Nat) : enumP p [] = [] := rfl
theorem enumP_cons (p : Nat) (c : Nat) (s : Tx) : enumP p (c :: s) = .tup [.int (p : Int), .str [c]] :: enumP (p + 1) s := by
  unfold enumP
  rw [List.mapIdx_cons]
  congr 1
  congr 1
  funext i c
  congr 3
  omega
theorem enum_0 (s : Tx) : (s.mapIdx fun i c => PV.tup [.int i, .str [c]]) = enumP 0 s := by
  unfold enumP
  congr 1
  funext i c
  congr 3
  omega
/-! ### slices -/
theorem sIx_pos {n d : Nat} {i : Int} (h : 0 ≤ i) : HT.sIx n d (some i) = min i.toNat n := by
  show (if i < 0 then (i + (n : Int)).toNat else min i.toNat n) = _
  rw [if_neg (by omega)]
theorem sIx_neg {n d : Nat} {i : Int} (h : i < 0) : HT.sIx n d (some i) = (i + n).toNat := by
  show (if i < 0 then (i + (n : Int)).toNat else min i.toNat n) = _
  rw [if_pos h]
theorem cutL_pp {α : Type} (xs : List α) {i j : Int} (hi : 0 ≤ i) (hj : 0 ≤ j) : cutL xs (some i) (some j) = (xs.drop i.toNat).take (j.toNat - i.toNat) := by
  unfold cutL
  rw [sIx_pos hi, sIx_pos hj]
  apply List.ext_getElem?
  intro k
  simp only [List.getElem?_take, List.getElem?_drop]
  by_cases h1 : i.toNat ≤ xs.length
  · rw [Nat.min_eq_left h1]
    by_cases h3 : i.toNat + k < xs.length
    · by_cases h4 : k < j.toNat - i.toNat
      · rw [if_pos (by omega), if_pos h4]
      · rw [if_neg (by omega), if_neg h4]
    · rw [List.getElem?_eq_none (by omega)]
      split <;> split <;> rfl
  · rw [List.getElem?_eq_none (show xs.length ≤ min i.toNat xs.length + k by omega), List.getElem?_eq_none (show xs.length ≤ i.toNat + k by omega)]
    split <;> split <;> rfl
theorem cutL_np {α : Type} (xs : List α) {j : Int} (hj : 0 ≤ j) : cutL xs none (some j) = xs.take j.toNat := by
  unfold cutL
  rw [sIx_pos hj]
  show (xs.drop 0).take (min j.toNat xs.length - 0) = _
  rw [List.drop_zero, Nat.sub_zero]
  by_cases h2 : j.toNat ≤ xs.length
  · rw [Nat.min_eq_left h2]
  · rw [Nat.min_eq_right (by omega), List.take_of_length_le (by omega), List.take_of_length_le (by omega)]
theorem cutL_pn {α : Type} (xs : List α) {i : Int} (hi : 0 ≤ i) : cutL xs (some i) none = xs.drop i.toNat := by
  unfold cutL
  rw [sIx_pos hi]
  show (xs.drop _).take (xs.length - _) = _
  by_cases h1 : i.toNat ≤ xs.length
  · rw [Nat.min_eq_left h1, List.take_of_length_le (by rw [List.length_drop]; omega)]
  · rw [Nat.min_eq_right (by omega), List.drop_of_length_le (by omega), List.drop_of_length_le (by omega)]
    simp
theorem cutL_nm {α : Type} (xs : List α) (k : Nat) (hk : 0 < k) : cutL xs none (some (-(k : Int))) = xs.take (xs.length - k) := by
  unfold cutL
  rw [sIx_neg (by omega)]
  show (xs.drop 0).take (_ - 0) = _
  rw [List.drop_zero, Nat.sub_zero]
  congr 1
  omega
theorem cutL_pm {α : Type} (xs : List α) (a k : Nat) (hk : 0 < k) : cutL xs (some (a : Int)) (some (-(k : Int))) = (xs.drop a).take (xs.length - k - a) := by
  unfold cutL
  rw [sIx_neg (by omega), sIx_pos (by omega), Int.toNat_natCast]
  have e : (-(k : Int) + (xs.length : Int)).toNat = xs.length - k := by omega
  rw [e]
  by_cases h1 : a ≤ xs.length
  · rw [Nat.min_eq_left h1]
  · rw [Nat.min_eq_right (by omega), List.drop_of_length_le (by omega), List.drop_of_length_le (by omega)]
    simp
theorem at_nat {α : Type} (xs : List α) (k : Nat) (h : k < xs.length) : atI xs (k : Int) = some xs[k] := by
  unfold atI ixN
  rw [if_pos (by omega), if_pos (by omega)]
  simp [h]
theorem atI_pos {α : Type} (xs : List α) {i : Int} (h0 : 0 ≤ i) (h : i.toNat < xs.length) : atI xs i = some xs[i.toNat] := by
  unfold atI ixN
  rw [if_pos h0, if_pos (by omega)]
  simp [h]
theorem atI_m1 {α : Type} (xs : List α) (x : α) : atI (xs ++ [x]) (-1) = some x := by
  have hl : (xs ++ [x]).length = xs.length + 1 := by simp
  unfold atI ixN
  rw [hl, if_neg (by omega), if_pos (by omega)]
  have e : ((-1 : Int) + ((xs.length + 1 : Nat) : Int)).toNat = xs.length := by omega
  rw [e]
  simp
theorem ixN_nat {n k : Nat} (h : k < n) : ixN n (k : Int) = some k := by
  unfold ixN
  rw [if_pos (by omega), if_pos (by omega)]
  simp
theorem lt1 (a b : Nat) : ([a] : Tx) < [b] ↔ a < b := by
  constructor
  · intro h
    cases h with
    | rel h => exact h
    | cons h => cases h
  · intro h
    exact .rel h
theorem numT_nat (n : Nat) : numT (n : Int) = TL.numL n := TL.tl_num n
end Mv

set_option Elab.async false
set_option linter.all false
set_option maxRecDepth 100000
set_option maxHeartbeats 0
namespace K77
open PySem PySem.Spec PyProof.Rows L2
def top (i : Nat) : Stmt := PySem.Challenge.pw_platekin_k77_frames_and_bursts.main.body.getD i (.Pass ⟨0, 0, 0, 0⟩)
abbrev s_are_signs : Stmt := top 11
abbrev s_number_of : Stmt := top 12
abbrev s_is_body : Stmt := top 13
abbrev s_head_of : Stmt := top 14
abbrev s_tail_of : Stmt := top 15
abbrev s_frame_by : Stmt := top 16
abbrev s_size_at : Stmt := top 17
abbrev s_frames_in : Stmt := top 18
abbrev s_frame : Stmt := top 19
abbrev s_bodies_of : Stmt := top 20
abbrev s__law_pot : Stmt := top 22
abbrev s__law_draw : Stmt := top 23
abbrev s__law_pick : Stmt := top 24
abbrev s__law_number : Stmt := top 25
abbrev s__law_is_frame : Stmt := top 26
abbrev s__law_read : Stmt := top 27
abbrev s__law_other_sign : Stmt := top 28
abbrev s__law_burst : Stmt := top 29
abbrev s__law_body : Stmt := top 30
abbrev s__law_right : Stmt := top 31
abbrev s_law : Stmt := top 32
def d_are_signs : He.DefD := ⟨("are_signs", none), "are_signs", "are_signs", defArgs s_are_signs, defBody s_are_signs, defScope s_are_signs, [], []⟩
def d_number_of : He.DefD := ⟨("number_of", none), "number_of", "number_of", defArgs s_number_of, defBody s_number_of, defScope s_number_of, [], []⟩
def d_is_body : He.DefD := ⟨("is_body", none), "is_body", "is_body", defArgs s_is_body, defBody s_is_body, defScope s_is_body, [], []⟩
def d_head_of : He.DefD := ⟨("head_of", none), "head_of", "head_of", defArgs s_head_of, defBody s_head_of, defScope s_head_of, [], []⟩
def d_tail_of : He.DefD := ⟨("tail_of", none), "tail_of", "tail_of", defArgs s_tail_of, defBody s_tail_of, defScope s_tail_of, [], []⟩
def d_frame_by : He.DefD := ⟨("frame_by", none), "frame_by", "frame_by", defArgs s_frame_by, defBody s_frame_by, defScope s_frame_by, [], []⟩
def d_size_at : He.DefD := ⟨("size_at", none), "size_at", "size_at", defArgs s_size_at, defBody s_size_at, defScope s_size_at, [], []⟩
def d_frames_in : He.DefD := ⟨("frames_in", none), "frames_in", "frames_in", defArgs s_frames_in, defBody s_frames_in, defScope s_frames_in, [], []⟩
def d_frame : He.DefD := ⟨("frame", none), "frame", "frame", defArgs s_frame, defBody s_frame, defScope s_frame, [], []⟩
def d_bodies_of : He.DefD := ⟨("bodies_of", none), "bodies_of", "bodies_of", defArgs s_bodies_of, defBody s_bodies_of, defScope s_bodies_of, [], []⟩
def d__law_pot : He.DefD := ⟨("_law_pot", none), "_law_pot", "_law_pot", defArgs s__law_pot, defBody s__law_pot, defScope s__law_pot, [], []⟩
def d__law_draw : He.DefD := ⟨("_law_draw", none), "_law_draw", "_law_draw", defArgs s__law_draw, defBody s__law_draw, defScope s__law_draw, [], []⟩
def d__law_pick : He.DefD := ⟨("_law_pick", none), "_law_pick", "_law_pick", defArgs s__law_pick, defBody s__law_pick, defScope s__law_pick, [], []⟩
def d__law_number : He.DefD := ⟨("_law_number", none), "_law_number", "_law_number", defArgs s__law_number, defBody s__law_number, defScope s__law_number, [], []⟩
def d__law_is_frame : He.DefD := ⟨("_law_is_frame", none), "_law_is_frame", "_law_is_frame", defArgs s__law_is_frame, defBody s__law_is_frame, defScope s__law_is_frame, [], []⟩
def d__law_read : He.DefD := ⟨("_law_read", none), "_law_read", "_law_read", defArgs s__law_read, defBody s__law_read, defScope s__law_read, [], []⟩
def d__law_other_sign : He.DefD := ⟨("_law_other_sign", none), "_law_other_sign", "_law_other_sign", defArgs s__law_other_sign, defBody s__law_other_sign, defScope s__law_other_sign, [], []⟩
def d__law_burst : He.DefD := ⟨("_law_burst", none), "_law_burst", "_law_burst", defArgs s__law_burst, defBody s__law_burst, defScope s__law_burst, [], []⟩
def d__law_body : He.DefD := ⟨("_law_body", none), "_law_body", "_law_body", defArgs s__law_body, defBody s__law_body, defScope s__law_body, [], []⟩
def d__law_right : He.DefD := ⟨("_law_right", none), "_law_right", "_law_right", defArgs s__law_right, defBody s__law_right, defScope s__law_right, [], []⟩
def d_law : He.DefD := ⟨("law", none), "law", "law", defArgs s_law, defBody s_law, defScope s_law, [], []⟩
def fn : List He.DefD := [d_are_signs, d_number_of, d_is_body, d_head_of, d_tail_of, d_frame_by, d_size_at, d_frames_in, d_frame, d_bodies_of, d__law_pot, d__law_draw, d__law_pick, d__law_number, d__law_is_frame, d__law_read, d__law_other_sign, d__law_burst, d__law_body, d__law_right, d_law]
def fa : List He.Fa := [.glo "are_signs", .glo "number_of", .glo "is_body", .glo "head_of", .glo "tail_of", .glo "frame_by", .glo "size_at", .glo "frames_in", .glo "frame", .glo "bodies_of", .glo "_law_pot", .glo "_law_draw", .glo "_law_pick", .glo "_law_number", .glo "_law_is_frame", .glo "_law_read", .glo "_law_other_sign", .glo "_law_burst", .glo "_law_body", .glo "_law_right", .glo "law", .free "ValueError", .free "abs", .free "all", .free "any", .free "divmod", .free "enumerate", .free "int", .free "isinstance", .free "len", .free "max", .free "min", .free "ord", .free "range", .free "repr", .free "str", .free "zip", .str "SIGNS" " !\"#$%&'()*+,-./0123456789:;<=>?@ABCDEFGHIJKLMNOPQRSTUVWXYZ[\\]^_`abcdefghijklmnopqrstuvwxyz{|}~", .str "FIGURES" "0123456789", .int "MOST_BODY" 5000, .int "HEAD" 8, .int "TAIL" 4, .int "MANY" 96]
def loose : List Str := ["PlateError", "InvalidBody", "InvalidString", "SIGNS", "FIGURES", "MOST_BODY", "HEAD", "TAIL", "MANY", "are_signs", "number_of", "is_body", "head_of", "tail_of", "frame_by", "size_at", "frames_in", "frame", "bodies_of", "_law_pot", "_law_draw", "_law_pick", "_law_number", "_law_is_frame", "_law_read", "_law_other_sign", "_law_burst", "_law_body", "_law_right"]
abbrev R : PySem.W.OpenRow := PySem.W.OpenLaw.row PySem.Challenge.rw_platekin_k77_frames_and_bursts
abbrev hk : PySem.W.Hook := He.hookD 4 fa fn
def ob (s : PySem.W.SharedT) : He.AlD := He.obsDG 4 fa fn (HandSHeadRun.getT s)
theorem ob_eq (s : PySem.W.SharedT) : ob s = hk.obs s.abs := He.obsDG_eq (HandSHeadRun.getT_eq s)
theorem run (w : World) : HandSHeadRun.RunEq R (PySem.W.view R.prog [32]) hk ob 4000 loose w := by
  intro os
  kernel_rfl
end K77

set_option Elab.async false
set_option linter.all false
set_option maxRecDepth 100000
namespace K77
open PySem PySem.Spec PyProof.Rows L2 Mv
/- are_signs(value): 0 value, 1 sign -/
def e_are_signs : SE Out :=
  (sSeq (sRet (Mv.mv (eAnd (eCB pIsiA (aCons (eVar 0) (aCons (SE.ret (.opq (.ty "str"))) aNil))) (eCB (one pAll) (aCons (vw (sLc (sIt (eVar 0)) (gN 1) sYes (eOr (eOp pEq (eVar 1) (SE.ret (.str [10]))) (eChain pLe pLe (SE.ret (.str [32])) (eVar 1) (SE.ret (.str [126])))) [1])) aNil))))) sNil)
def f_are_signs : List MV → RF := runF 0 1 1 e_are_signs
theorem r_are_signs (a0 : MV) : f_are_signs [a0] = fin 0 (e_are_signs [some a0, none]) := runF_fin (np := 1) rfl
/- number_of(sign): 0 sign -/
def e_number_of : SE Out :=
  (sSeq (sRet (Mv.mv (eIf (eBool (eOp pEq (eVar 0) (SE.ret (.str [10])))) (eOp pSub (SE.ret (.int 96)) (SE.ret (.int 1))) (eOp pSub (eCB (one pOrd) (aCons (eVar 0) aNil)) (eCB (one pOrd) (aCons (SE.ret (.str [32])) aNil)))))) sNil)
def f_number_of : List MV → RF := runF 0 1 0 e_number_of
theorem r_number_of (a0 : MV) : f_number_of [a0] = fin 0 (e_number_of [some a0]) := runF_fin (np := 1) rfl
/- head_of(many): 0 many, 1 size, 2 digit -/
def e_head_of : SE Out :=
  (sSeq (sSet 1 (Mv.mv (eOp pAdd (eOp pMul (SE.ret (.str [48])) (eOp pSub (SE.ret (.int 4)) (eCB (one pLen) (aCons (eCB (one pStr) (aCons (eVar 0) aNil)) aNil)))) (eCB (one pStr) (aCons (eVar 0) aNil))))) (sSeq (sRet (Mv.mv (eOp pAdd (eVar 1) (eM1 pJoin (SE.ret (.str [])) (vw (sLc (sIt (eVar 1)) (gN 2) sYes (eOp pIx (SE.ret (.str [48, 49, 50, 51, 52, 53, 54, 55, 56, 57])) (eOp pSub (SE.ret (.int 9)) (eCB (one pInt) (aCons (eVar 2) aNil)))) [2])))))) sNil))
def f_head_of : List MV → RF := runF 0 1 2 e_head_of
theorem r_head_of (a0 : MV) : f_head_of [a0] = fin 0 (e_head_of [some a0, none, none]) := runF_fin (np := 1) rfl
/- _law_pot(script, k): 0 script, 1 k, 2 cell -/
def e__law_pot : SE Out :=
  (sSeq (sSet 2 (Mv.mv (eIf (eBool (eOp pLt (eVar 1) (eCB (one pLen) (aCons (eVar 0) aNil)))) (eCB (one pAbs) (aCons (eOp pIx (eVar 0) (eVar 1)) aNil)) (eOp pAdd (eOp pMul (SE.ret (.int 4547)) (eVar 1)) (SE.ret (.int 3677)))))) (sSeq (sRet (eLst (aCons (eCB (two pMax) (aCons (SE.ret (.int 0)) (aCons (eOp pSub (eVar 2) (eOp pPow (SE.ret (.int 10)) (SE.ret (.int 18)))) aNil))) (aCons (eOp pAdd (eOp pMod (eCB (one pInt) (aCons (eOp pAdd (eOp pAdd (eOp pMul (eOp pMod (eCB (one pInt) (aCons (eVar 2) aNil)) (SE.ret (.int 2147483549))) (SE.ret (.int 40014))) (eOp pMul (SE.ret (.int 9539)) (eVar 1))) (SE.ret (.int 3187))) aNil)) (SE.ret (.int 2147483563))) (SE.ret (.int 1))) aNil)))) sNil))
def f__law_pot : List MV → RF := runF 0 2 1 e__law_pot
theorem r__law_pot (a0 a1 : MV) : f__law_pot [a0, a1] = fin 0 (e__law_pot [some a0, some a1, none]) := runF_fin (np := 2) rfl
/- _law_draw(pot, many): 0 pot, 1 many, 2 digit -/
def e__law_draw : SE Out :=
  (sSeq (sIf (eBool (eOp pGt (eScope (eOp pIx (eVar 0) (SE.ret (.int 0)))) (SE.ret (.int 0)))) (sSeq (sAsg (eCB (two pDivmod) (aCons (eScope (eOp pIx (eVar 0) (SE.ret (.int 0)))) (aCons (eVar 1) aNil))) (gTp 2 (gCn (gIxL 0 (SE.ret (.int 0))) (gCn (gN 2) gNl)))) (sSeq (sRet (Mv.mv (eVar 2))) sNil)) sNil) (sSeq (sAsg (eOp pMod (eCB (one pInt) (aCons (eOp pAdd (eOp pMul (eScope (eOp pIx (eVar 0) (SE.ret (.int 1)))) (SE.ret (.int 40692))) (SE.ret (.int 12713))) aNil)) (SE.ret (.int 2147483587))) (gIxL 0 (SE.ret (.int 1)))) (sSeq (sRet (Mv.mv (eOp pMod (eCB (one pInt) (aCons (eOp pFdiv (eOp pMod (eCB (one pInt) (aCons (eOp pMul (eScope (eOp pIx (eVar 0) (SE.ret (.int 1)))) (eScope (eOp pIx (eVar 0) (SE.ret (.int 1))))) aNil)) (SE.ret (.int 2147483549))) (SE.ret (.int 19))) aNil)) (eVar 1)))) sNil)))
def f__law_draw : List MV → RF := runF 1 2 1 e__law_draw
theorem r__law_draw (a0 a1 : MV) : f__law_draw [a0, a1] = fin 1 (e__law_draw [some a0, some a1, none]) := runF_fin (np := 2) rfl
/- _law_number(sign): 0 sign -/
def e__law_number : SE Out :=
  (sSeq (sRet (Mv.mv (eIf (eBool (eOp pEq (eVar 0) (SE.ret (.str [10])))) (SE.ret (.int 95)) (eOp pSub (eCB (one pOrd) (aCons (eVar 0) aNil)) (SE.ret (.int 32)))))) sNil)
def f__law_number : List MV → RF := runF 0 1 0 e__law_number
theorem r__law_number (a0 : MV) : f__law_number [a0] = fin 0 (e__law_number [some a0]) := runF_fin (np := 1) rfl
/- is_body(value): 0 value -/
def e_is_body : SE Out :=
  (sSeq (sRet (Mv.mv (eAnd (eCB pIsiA (aCons (eVar 0) (aCons (SE.ret (.opq (.ty "str"))) aNil))) (eAnd (eChain pLe pLe (SE.ret (.int 1)) (eCB (one pLen) (aCons (eVar 0) aNil)) (SE.ret (.int 5000))) (vw (eCall f_are_signs @gPos (rV (eVar 0) rNil) rNil)))))) sNil)
def f_is_body : List MV → RF := runF 0 1 0 e_is_body
theorem r_is_body (a0 : MV) : f_is_body [a0] = fin 0 (e_is_body [some a0]) := runF_fin (np := 1) rfl
/- tail_of(body): 0 body, 1 sums, 2 found, 3 at, 4 sign, 5 much, 6 number -/
def e_tail_of : SE Out :=
  (sSeq (sPar [1, 2] (mCons (eRep (vw (eLst (aCons (SE.ret (.int 0)) aNil))) (SE.ret (.int 4))) (mCons (Mv.mv (SE.ret (.str []))) mNil))) (sSeq (sFor (sEnum (aCons (eVar 0) aNil)) (gTp 2 (gCn (gN 3) (gCn (gN 4) gNl))) (sSeq (sAugIx 1 (eOp pMod (eCB (one pInt) (aCons (eOp pAdd (SE.ret (.int 8)) (eVar 3)) aNil)) (SE.ret (.int 4))) (vw (eCall f_number_of @gPos (rV (eVar 4) rNil) rNil)) pIAdd) sNil)) (sSeq (sFor (sRng (aCons (SE.ret (.int 4)) aNil)) (gN 3) (sSeq (sFz 1 (sSet 5 (Mv.mv (eOp pIx (eVar 1) (eOp pMod (eCB (one pInt) (aCons (eOp pAdd (eOp pAdd (SE.ret (.int 8)) (eCB (one pLen) (aCons (eVar 0) aNil))) (eVar 3)) aNil)) (SE.ret (.int 4))))))) (sSeq (sSet 6 (Mv.mv (eOp pMod (eCB (one pInt) (aCons (eOp pSub (SE.ret (.int 0)) (eVar 5)) aNil)) (SE.ret (.int 96))))) (sSeq (sSet 2 (Mv.mv (eOp pAdd (eVar 2) (eIf (eBool (eOp pEq (eVar 6) (eOp pSub (SE.ret (.int 96)) (SE.ret (.int 1))))) (SE.ret (.str [10])) (eOp pIx (SE.ret (.str [32, 33, 34, 35, 36, 37, 38, 39, 40, 41, 42, 43, 44, 45, 46, 47, 48, 49, 50, 51, 52, 53, 54, 55, 56, 57, 58, 59, 60, 61, 62, 63, 64, 65, 66, 67, 68, 69, 70, 71, 72, 73, 74, 75, 76, 77, 78, 79, 80, 81, 82, 83, 84, 85, 86, 87, 88, 89, 90, 91, 92, 93, 94, 95, 96, 97, 98, 99, 100, 101, 102, 103, 104, 105, 106, 107, 108, 109, 110, 111, 112, 113, 114, 115, 116, 117, 118, 119, 120, 121, 122, 123, 124, 125, 126])) (eVar 6)))))) sNil)))) (sSeq (sRet (Mv.mv (eVar 2))) sNil))))
def f_tail_of : List MV → RF := runF 0 1 6 e_tail_of
theorem r_tail_of (a0 : MV) : f_tail_of [a0] = fin 0 (e_tail_of [some a0, none, none, none, none, none, none]) := runF_fin (np := 1) rfl
/- size_at(string, at): 0 string, 1 at, 2 head, 3 many, 4 sign -/
def e_size_at : SE Out :=
  (sSeq (sSet 2 (Mv.mv (eSl (eVar 0) (ePart (eVar 1)) (ePart (eOp pAdd (eVar 1) (SE.ret (.int 8))))))) (sSeq (sIf (sOr (eBool (eOp pLt (eCB (one pLen) (aCons (eVar 2) aNil)) (SE.ret (.int 8)))) (sNot (eTru (eCB (one pAll) (aCons (vw (sLc (sIt (eVar 2)) (gN 4) sYes (eOp pIn (eVar 4) (SE.ret (.str [48, 49, 50, 51, 52, 53, 54, 55, 56, 57]))) [4])) aNil))))) (sSeq (sRet (Mv.mv (SE.ret .non))) sNil) sNil) (sSeq (sSet 3 (Mv.mv (eCB (one pInt) (aCons (eSl (eVar 2) eNo (ePart (SE.ret (.int 4)))) aNil)))) (sSeq (sRet (Mv.mv (eIf (sAnd (eBool (eOp pEq (eVar 2) (vw (eCall f_head_of @gPos (rV (eVar 3) rNil) rNil)))) (eBool (eChain pLe pLe (SE.ret (.int 1)) (eVar 3) (SE.ret (.int 5000))))) (eVar 3) (SE.ret .non)))) sNil))))
def f_size_at : List MV → RF := runF 0 2 3 e_size_at
theorem r_size_at (a0 a1 : MV) : f_size_at [a0, a1] = fin 0 (e_size_at [some a0, some a1, none, none, none]) := runF_fin (np := 2) rfl
/- _law_pick(pot, some): 0 pot, 1 some -/
def e__law_pick : SE Out :=
  (sSeq (sRet (Mv.mv (eOp pIx (eVar 1) (vw (eCall f__law_draw @gPos (rP 0 (rV (eCB (one pLen) (aCons (eVar 1) aNil)) rNil)) rNil))))) sNil)
def f__law_pick : List MV → RF := runF 1 2 0 e__law_pick
theorem r__law_pick (a0 a1 : MV) : f__law_pick [a0, a1] = fin 1 (e__law_pick [some a0, some a1]) := runF_fin (np := 2) rfl
/- _law_is_frame(string, body): 0 string*, 1 body, 2 digits*, 3 sums, 4 at, 5 rest, 6 digit, 7 much -/
def e__law_is_frame : SE Out :=
  (sSeq (sIf (sOr (eBool (eOp pNe (eCB (one pLen) (aCons (eVar 0) aNil)) (eOp pAdd (eCB (one pLen) (aCons (eVar 1) aNil)) (SE.ret (.int 12))))) (eBool (eOp pNe (eSl (eVar 0) (ePart (SE.ret (.int 8))) (ePart (eUn pNeg (SE.ret (.int 4))))) (eVar 1)))) (sSeq (sRet (Mv.mv (SE.ret (.bl false)))) sNil) sNil) (sSeq (sSet 2 (Mv.mv (vw (sLc (sRng (aCons (SE.ret (.int 8)) aNil)) (gN 4) sYes (eSl (eVar 0) (ePart (eVar 4)) (ePart (eOp pAdd (eVar 4) (SE.ret (.int 1))))) [4])))) (sSeq (sIf (sOr (eTru (eCB (one pAny) (aCons (vw (sLc (sIt (eVar 2)) (gN 6) sYes (eNot (eChain pLe pLe (SE.ret (.str [48])) (eVar 6) (SE.ret (.str [57])))) [6])) aNil))) (eTru (eCB (one pAny) (aCons (vw (sLc (sRng (aCons (SE.ret (.int 4)) aNil)) (gN 4) sYes (eOp pNe (eOp pAdd (eCB (one pInt) (aCons (eOp pIx (eVar 2) (eVar 4)) aNil)) (eCB (one pInt) (aCons (eOp pIx (eVar 2) (eOp pAdd (eVar 4) (SE.ret (.int 4)))) aNil))) (SE.ret (.int 9))) [4])) aNil)))) (sSeq (sRet (Mv.mv (SE.ret (.bl false)))) sNil) sNil) (sSeq (sSet 3 (eLst (aCons (SE.ret (.int 0)) (aCons (SE.ret (.int 0)) (aCons (SE.ret (.int 0)) (aCons (SE.ret (.int 0)) aNil)))))) (sSeq (sFor (sRng (aCons (SE.ret (.int 8)) (aCons (eCB (one pLen) (aCons (eVar 0) aNil)) aNil))) (gN 4) (sSeq (sSet 5 (Mv.mv (eOp pMod (eCB (one pInt) (aCons (eVar 4) aNil)) (SE.ret (.int 4))))) (sSeq (sAugIx 3 (eVar 5) (vw (eCall f__law_number @gPos (rV (eOp pIx (eVar 0) (eVar 4)) rNil) rNil)) pIAdd) sNil))) (sSeq (sFz 3 (sRet (Mv.mv (eAnd (eOp pEq (eCB (one pInt) (aCons (eSl (eVar 0) eNo (ePart (SE.ret (.int 4)))) aNil)) (eCB (one pLen) (aCons (eVar 1) aNil))) (eCB (one pAll) (aCons (vw (sLc (sIt (eVar 3)) (gN 7) sYes (eOp pEq (eOp pMod (eCB (one pInt) (aCons (eVar 7) aNil)) (SE.ret (.int 96))) (SE.ret (.int 0))) [7])) aNil)))))) sNil))))))
def f__law_is_frame : List MV → RF := runF 0 2 6 e__law_is_frame
theorem r__law_is_frame (a0 a1 : MV) : f__law_is_frame [a0, a1] = fin 0 (e__law_is_frame [some a0, some a1, none, none, none, none, none, none]) := runF_fin (np := 2) rfl
/- frame_by(body): 0 body -/
def e_frame_by : SE Out :=
  (sSeq (sRet (Mv.mv (eOp pAdd (eOp pAdd (vw (eCall f_head_of @gPos (rV (eCB (one pLen) (aCons (eVar 0) aNil)) rNil) rNil)) (eVar 0)) (vw (eCall f_tail_of @gPos (rV (eVar 0) rNil) rNil))))) sNil)
def f_frame_by : List MV → RF := runF 0 1 0 e_frame_by
theorem r_frame_by (a0 : MV) : f_frame_by [a0] = fin 0 (e_frame_by [some a0]) := runF_fin (np := 1) rfl
/- frames_in(string): 0 string, 1 found, 2 at, 3 goes_on, 4 many, 5 body -/
def e_frames_in : SE Out :=
  (sSeq (sPar [1, 2, 3] (mCons (eLst aNil) (mCons (Mv.mv (SE.ret (.int 0))) (mCons (Mv.mv (SE.ret (.bl true))) mNil)))) (sSeq (whileL (eTru (eVar 3)) (sSeq (sSet 4 (Mv.mv (vw (eCall f_size_at @gPos (rV (eVar 0) (rV (eVar 2) rNil)) rNil)))) (sSeq (sSet 5 (Mv.mv (eIf (eBool (eOp (noOpq pNotN) (eVar 4) (SE.ret .non))) (eSl (eVar 0) (ePart (eOp pAdd (eVar 2) (SE.ret (.int 8)))) (ePart (eOp pAdd (eOp pAdd (eVar 2) (SE.ret (.int 8))) (eVar 4)))) (SE.ret (.str []))))) (sSeq (sSet 3 (Mv.mv (eAnd (eOp (noOpq pNotN) (eVar 4) (SE.ret .non)) (eAnd (eOp pEq (eCB (one pLen) (aCons (eVar 5) aNil)) (eVar 4)) (vw (eCall f_are_signs @gPos (rV (eVar 5) rNil) rNil)))))) (sSeq (sSet 3 (Mv.mv (eAnd (eVar 3) (eOp pEq (eSl (eVar 0) (ePart (eOp pAdd (eOp pAdd (eVar 2) (SE.ret (.int 8))) (eVar 4))) (ePart (eOp pAdd (eOp pAdd (eOp pAdd (eVar 2) (SE.ret (.int 8))) (eVar 4)) (SE.ret (.int 4))))) (vw (eCall f_tail_of @gPos (rV (eVar 5) rNil) rNil)))))) (sSeq (sIf (eTru (eVar 3)) (sSeq (sSet 2 (Mv.mv (eOp pAdd (eOp pAdd (eOp pAdd (eVar 2) (SE.ret (.int 8))) (eVar 4)) (SE.ret (.int 4))))) (sSeq (sApp 1 (eTup (aCons (eVar 5) (aCons (eVar 2) aNil)))) sNil)) sNil) sNil))))) 1000000) (sSeq (sRet (eMove 1)) sNil)))
def f_frames_in : List MV → RF := runF 0 1 5 e_frames_in
theorem r_frames_in (a0 : MV) : f_frames_in [a0] = fin 0 (e_frames_in [some a0, none, none, none, none, none]) := runF_fin (np := 1) rfl
/- _law_read(string): 0 string, 1 bodies, 2 ends, 3 at, 4 head, 5 size, 6 frame_told, 7 sign -/
def e__law_read : SE Out :=
  (sSeq (sPar [1, 2, 3] (mCons (eLst aNil) (mCons (eLst aNil) (mCons (Mv.mv (SE.ret (.int 0))) mNil)))) (sSeq (whileL (eBool (eOp pLe (eOp pAdd (eVar 3) (SE.ret (.int 13))) (eCB (one pLen) (aCons (eVar 0) aNil)))) (sSeq (sSet 4 (Mv.mv (eSl (eVar 0) (ePart (eVar 3)) (ePart (eOp pAdd (eVar 3) (SE.ret (.int 4))))))) (sSeq (sSet 5 (Mv.mv (eIf (eTru (eCB (one pAll) (aCons (vw (sLc (sIt (eVar 4)) (gN 7) sYes (eChain pLe pLe (SE.ret (.str [48])) (eVar 7) (SE.ret (.str [57]))) [7])) aNil))) (eCB (one pInt) (aCons (eVar 4) aNil)) (SE.ret (.int 0))))) (sSeq (sSet 6 (Mv.mv (eSl (eVar 0) (ePart (eVar 3)) (ePart (eOp pAdd (eOp pAdd (eVar 3) (eVar 5)) (SE.ret (.int 12))))))) (sSeq (sIf (sOr (sNot (eBool (eChain pLe pLe (SE.ret (.int 1)) (eVar 5) (SE.ret (.int 5000))))) (sNot (eTru (vw (eCall f__law_is_frame @gPos (rV (eVar 6) (rV (eSl (eVar 6) (ePart (SE.ret (.int 8))) (ePart (eUn pNeg (SE.ret (.int 4))))) rNil)) rNil))))) (sSeq (sFz 1 (sFz 2 (sRet (Mv.mv (eTup (aCons (eVar 1) (aCons (eVar 2) aNil))))))) sNil) sNil) (sSeq (sSet 3 (Mv.mv (eOp pAdd (eOp pAdd (eVar 3) (eVar 5)) (SE.ret (.int 12))))) (sSeq (sApp 1 (eSl (eVar 6) (ePart (SE.ret (.int 8))) (ePart (eUn pNeg (SE.ret (.int 4)))))) (sSeq (sApp 2 (eVar 3)) sNil))))))) 1000000) (sSeq (sFz 1 (sFz 2 (sRet (Mv.mv (eTup (aCons (eVar 1) (aCons (eVar 2) aNil))))))) sNil)))
def f__law_read : List MV → RF := runF 0 1 7 e__law_read
theorem r__law_read (a0 : MV) : f__law_read [a0] = fin 0 (e__law_read [some a0, none, none, none, none, none, none, none]) := runF_fin (np := 1) rfl
/- _law_other_sign(pot, sign): 0 pot, 1 sign*, 2 some, 3 one -/
def e__law_other_sign : SE Out :=
  (sSeq (sSetF 2 (sLc (sIt (vw (eLst (aCons (SE.ret (.str [48])) (aCons (SE.ret (.str [57])) (aCons (SE.ret (.str [53])) (aCons (SE.ret (.str [97])) (aCons (SE.ret (.str [32])) (aCons (SE.ret (.str [126])) (aCons (SE.ret (.str [10])) (aCons (SE.ret (.str [33])) (aCons (SE.ret (.str [90])) aNil)))))))))))) (gN 3) (eBool (eOp pNe (eVar 3) (eVar 1))) (eVar 3) [3])) (sSeq (sRet (eCall f__law_pick @gPos (rP 0 (rV (eVar 2) rNil)) rNil)) sNil))
def f__law_other_sign : List MV → RF := runF 1 2 2 e__law_other_sign
theorem r__law_other_sign (a0 a1 : MV) : f__law_other_sign [a0, a1] = fin 1 (e__law_other_sign [some a0, some a1, none, none]) := runF_fin (np := 2) rfl
/- _law_body(pot): 0 pot*, 1 signs*, 2 turn -/
def e__law_body : SE Out :=
  (sSeq (sSet 1 (Mv.mv (vw (eLst (aCons (SE.ret (.str [97])) (aCons (SE.ret (.str [48])) (aCons (SE.ret (.str [57])) (aCons (SE.ret (.str [32])) (aCons (SE.ret (.str [126])) (aCons (SE.ret (.str [10])) (aCons (SE.ret (.str [33])) (aCons (SE.ret (.str [101, 112, 111, 99, 104])) (aCons (SE.ret (.str [97, 115, 107, 32, 48, 32, 48])) (aCons (SE.ret (.str [48, 48, 49, 51, 57, 57, 56, 54])) aNil)))))))))))))) (sSeq (sRet (Mv.mv (eM1 pJoin (SE.ret (.str [])) (vw (sLc (sRng (aCons (eOp pAdd (SE.ret (.int 1)) (vw (eCall f__law_draw @gPos (rP 0 (rV (SE.ret (.int 9)) rNil)) rNil))) aNil)) (gN 2) sYes (vw (eCall f__law_pick @gPos (rP 0 (rV (eVar 1) rNil)) rNil)) [2]))))) sNil))
def f__law_body : List MV → RF := runF 1 1 2 e__law_body
theorem r__law_body (a0 : MV) : f__law_body [a0] = fin 1 (e__law_body [some a0, none, none]) := runF_fin (np := 1) rfl
/- frame(body): 0 body -/
def e_frame : SE Out :=
  (sSeq (sIf (sNot (eTru (vw (eCall f_is_body @gPos (rV (eVar 0) rNil) rNil)))) (sSeq sNever sNil) sNil) (sSeq (sRet (eCall f_frame_by @gPos (rV (eVar 0) rNil) rNil)) sNil))
def f_frame : List MV → RF := runF 0 1 0 e_frame
theorem r_frame (a0 : MV) : f_frame [a0] = fin 0 (e_frame [some a0]) := runF_fin (np := 1) rfl
/- bodies_of(string): 0 string, 1 body, 2 end -/
def e_bodies_of : SE Out :=
  (sSeq (sIf (sNot (eTru (eCB pIsiA (aCons (eVar 0) (aCons (SE.ret (.opq (.ty "str"))) aNil))))) (sSeq sNever sNil) sNil) (sSeq (sRet (sLc (sIt (vw (eCall f_frames_in @gPos (rV (eVar 0) rNil) rNil))) (gTp 2 (gCn (gN 1) (gCn (gN 2) gNl))) sYes (eVar 1) [1, 2])) sNil))
def f_bodies_of : List MV → RF := runF 0 1 2 e_bodies_of
theorem r_bodies_of (a0 : MV) : f_bodies_of [a0] = fin 0 (e_bodies_of [some a0, none, none]) := runF_fin (np := 1) rfl
/- _law_burst(pot, string, at): 0 pot*, 1 string, 2 at, 3 many, 4 sign -/
def e__law_burst : SE Out :=
  (sSeq (sSet 3 (Mv.mv (eCB (two pMin) (aCons (eOp pSub (eCB (one pLen) (aCons (eVar 1) aNil)) (eVar 2)) (aCons (eOp pAdd (SE.ret (.int 1)) (vw (eCall f__law_draw @gPos (rP 0 (rV (SE.ret (.int 4)) rNil)) rNil))) aNil))))) (sSeq (sRet (Mv.mv (eOp pAdd (eOp pAdd (eSl (eVar 1) eNo (ePart (eVar 2))) (eM1 pJoin (SE.ret (.str [])) (vw (sLc (sIt (eSl (eVar 1) (ePart (eVar 2)) (ePart (eOp pAdd (eVar 2) (eVar 3))))) (gN 4) sYes (vw (eCall f__law_other_sign @gPos (rP 0 (rV (eVar 4) rNil)) rNil)) [4])))) (eSl (eVar 1) (ePart (eOp pAdd (eVar 2) (eVar 3))) eNo)))) sNil))
def f__law_burst : List MV → RF := runF 1 3 2 e__law_burst
theorem r__law_burst (a0 a1 a2 : MV) : f__law_burst [a0, a1, a2] = fin 1 (e__law_burst [some a0, some a1, some a2, none, none]) := runF_fin (np := 3) rfl
/- _law_right(pot, late): 0 pot*, 1 late, 2 bodies, 3 frames, 4 string, 5 ends, 6 one, 7 told, 8 turn, 9 at*, 10 burst, 11 whole, 12 cut*, 13 both, 14 kept, 15 some, 16 body, 17 end -/
def e__law_right : SE Out :=
  (sSeq (sSetF 2 (sLc (sRng (aCons (eOp pAdd (SE.ret (.int 1)) (vw (eCall f__law_draw @gPos (rP 0 (rV (SE.ret (.int 6)) rNil)) rNil))) aNil)) (gN 8) sYes (vw (eCall f__law_body @gPos (rP 0 rNil) rNil)) [8])) (sSeq (sSetF 3 (sLc (sIt (eVar 2)) (gN 16) sYes (vw (eCall f_frame @gPos (rV (eVar 16) rNil) rNil)) [16])) (sSeq (sIf (sOr (sNot (eTru (eCB (one pAll) (aCons (vw (sLc (sZip (aCons (eVar 3) (aCons (eVar 2) aNil))) (gTp 2 (gCn (gN 6) (gCn (gN 16) gNl))) sYes (vw (eCall f__law_is_frame @gPos (rV (eVar 6) (rV (eVar 16) rNil)) rNil)) [6, 16])) aNil)))) (eBool (eOp pNe (vw (eCall f_frame (fun {α} => gKw (α := α) [0]) rNil (rV (eOp pIx (eVar 2) (SE.ret (.int 0))) rNil))) (eOp pIx (eVar 3) (SE.ret (.int 0)))))) (sSeq (sRet (Mv.mv (SE.ret (.bl false)))) sNil) sNil) (sSeq (sPar [4, 5] (mCons (Mv.mv (eM1 pJoin (SE.ret (.str [])) (eVar 3))) (mCons (eLst (aCons (SE.ret (.int 0)) aNil)) mNil))) (sSeq (sFor (sIt (eVar 3)) (gN 6) (sSeq (sApp 5 (eOp pAdd (eScope (eOp pIx (eVar 5) (eUn pNeg (SE.ret (.int 1))))) (eCB (one pLen) (aCons (eVar 6) aNil)))) sNil)) (sSeq (sSet 7 (eCall f_bodies_of @gPos (rV (eVar 4) rNil) rNil)) (sSeq (sIf (eBool (eOp pNe (eScope (eCB (one pRepr) (aCons (vw (eLst (aCons (eVar 7) (aCons (vw (eCall f_bodies_of (fun {α} => gKw (α := α) [0]) rNil (rV (eVar 4) rNil))) aNil)))) aNil))) (eCB (one pRepr) (aCons (vw (eLst (aCons (eVar 2) (aCons (eVar 2) aNil)))) aNil)))) (sSeq (sRet (Mv.mv (SE.ret (.bl false)))) sNil) sNil) (sSeq (sApp 7 (SE.ret .non)) (sSeq (sFor (sRng (aCons (SE.ret (.int 4)) aNil)) (gN 8) (sSeq (sSet 9 (Mv.mv (vw (eCall f__law_draw @gPos (rP 1 (rV (eCB (one pLen) (aCons (eVar 4) aNil)) rNil)) rNil)))) (sSeq (sFz 5 (sPar [10, 11] (mCons (Mv.mv (vw (eCall f__law_burst @gPos (rP 1 (rV (eVar 4) (rV (eVar 9) rNil))) rNil))) (mCons (Mv.mv (eCB (one pLen) (aCons (vw (sLc (sIt (eSl (eVar 5) (ePart (SE.ret (.int 1))) eNo)) (gN 17) (eBool (eOp pLe (eVar 17) (eVar 9))) (eVar 17) [17])) aNil))) mNil)))) (sSeq (sSet 12 (Mv.mv (vw (eCall f__law_draw @gPos (rP 1 (rV (eOp pAdd (eCB (one pLen) (aCons (eVar 4) aNil)) (SE.ret (.int 1))) rNil)) rNil)))) (sSeq (sSet 13 (Mv.mv (eSl (eVar 10) eNo (ePart (eVar 12))))) (sSeq (sSet 14 (Mv.mv (eCB (one pLen) (aCons (vw (sLc (sIt (eSl (eVar 5) (ePart (SE.ret (.int 1))) eNo)) (gN 17) (eBool (eOp pLe (eVar 17) (eCB (two pMin) (aCons (eVar 9) (aCons (eVar 12) aNil))))) (eVar 17) [17])) aNil)))) (sSeq (sIf (eBool (eOp pNe (eCB (one pRepr) (aCons (vw (eLst (aCons (vw (eCall f_bodies_of @gPos (rV (eVar 10) rNil) rNil)) (aCons (vw (eCall f_bodies_of @gPos (rV (eSl (eVar 4) eNo (ePart (eVar 12))) rNil) rNil)) aNil)))) aNil)) (eCB (one pRepr) (aCons (vw (eLst (aCons (eSl (eVar 2) eNo (ePart (eVar 11))) (aCons (eSl (eVar 2) eNo (ePart (eCB (one pLen) (aCons (vw (sLc (sIt (eSl (eVar 5) (ePart (SE.ret (.int 1))) eNo)) (gN 17) (eBool (eOp pLe (eVar 17) (eVar 12))) (eVar 17) [17])) aNil)))) aNil)))) aNil)))) (sSeq (sRet (Mv.mv (SE.ret (.bl false)))) sNil) sNil) (sSeq (sIf (eBool (eOp pNe (eCB (one pRepr) (aCons (vw (eCall f_bodies_of @gPos (rV (eVar 13) rNil) rNil)) aNil)) (eCB (one pRepr) (aCons (eSl (eVar 2) eNo (ePart (eVar 14))) aNil)))) (sSeq (sRet (Mv.mv (SE.ret (.bl false)))) sNil) sNil) sNil)))))))) (sSeq (sFor (sIt (vw (eLst (aCons (eOp pAdd (eVar 4) (vw (eCall f__law_body @gPos (rP 1 rNil) rNil))) (aCons (eOp pAdd (vw (eCall f__law_body @gPos (rP 1 rNil) rNil)) (eVar 4)) (aCons (eSl (eVar 4) (ePart (vw (eCall f__law_draw @gPos (rP 1 (rV (SE.ret (.int 30)) rNil)) rNil))) eNo) (aCons (eOp pAdd (eOp pIx (eVar 3) (SE.ret (.int 0))) (eSl (eOp pIx (eVar 3) (SE.ret (.int 0))) eNo (ePart (eUn pNeg (SE.ret (.int 1)))))) (aCons (SE.ret (.str [])) aNil)))))))) (gN 15) (sSeq (sIf (eBool (eOp pNe (eCB (one pRepr) (aCons (vw (eCall f_bodies_of @gPos (rV (eVar 15) rNil) rNil)) aNil)) (eCB (one pRepr) (aCons (eOp pIx (vw (eCall f__law_read @gPos (rV (eVar 15) rNil) rNil)) (SE.ret (.int 0))) aNil)))) (sSeq (sRet (Mv.mv (SE.ret (.bl false)))) sNil) sNil) sNil)) (sSeq (sRet (Mv.mv (eOp pEq (eCB (one pRepr) (aCons (vw (eCall f_bodies_of @gPos (rV (eVar 4) rNil) rNil)) aNil)) (eCB (one pRepr) (aCons (eVar 2) aNil))))) sNil)))))))))))
def f__law_right : List MV → RF := runF 2 2 16 e__law_right
theorem r__law_right (a0 a1 : MV) : f__law_right [a0, a1] = fin 2 (e__law_right [some a0, some a1, none, none, none, none, none, none, none, none, none, none, none, none, none, none, none, none]) := runF_fin (np := 2) rfl
/- law(script): 0 script, 1 pot*, 2 late*, 3 great, 4 turn -/
def e_law : SE Out :=
  (sSeq (sPar [1, 2] (mCons (eCall f__law_pot @gPos (rV (eVar 0) (rV (SE.ret (.int 0)) rNil)) rNil) (mCons (eCall f__law_pot @gPos (rV (eVar 0) (rV (SE.ret (.int 1)) rNil)) rNil) mNil))) (sSeq (sSet 3 (Mv.mv (eOp pMul (vw (eCall f__law_pick @gPos (rP 1 (rV (vw (eLst (aCons (SE.ret (.str [97])) (aCons (SE.ret (.str [126])) (aCons (SE.ret (.str [10])) aNil))))) rNil)) rNil)) (SE.ret (.int 5000))))) (sSeq (sIf (sOr (sNot (eTru (vw (eCall f__law_is_frame @gPos (rV (vw (eCall f_frame @gPos (rV (eVar 3) rNil) rNil)) (rV (eVar 3) rNil)) rNil)))) (eBool (eOp pNe (vw (eCall f_bodies_of @gPos (rV (eOp pAdd (vw (eCall f_frame @gPos (rV (eVar 3) rNil) rNil)) (vw (eCall f_frame @gPos (rV (SE.ret (.str [98])) rNil) rNil))) rNil) rNil)) (vw (eLst (aCons (eVar 3) (aCons (SE.ret (.str [98])) aNil))))))) (sSeq (sRet (Mv.mv (SE.ret (.bl false)))) sNil) sNil) (sSeq (sRet (Mv.mv (eCB (one pAll) (aCons (vw (sLc (sRng (aCons (SE.ret (.int 3)) aNil)) (gN 4) sYes (vw (eCall f__law_right @gPos (rP 1 (rP 2 rNil)) rNil)) [4])) aNil)))) sNil))))
def f_law : List MV → RF := runF 0 1 4 e_law
theorem r_law (a0 : MV) : f_law [a0] = fin 0 (e_law [some a0, none, none, none, none]) := runF_fin (np := 1) rfl
end K77

set_option Elab.async false
set_option linter.all false
set_option maxRecDepth 100000
set_option maxHeartbeats 0
namespace K77
open PySem PySem.Spec PyProof.Rows L2 Mv
structure Fx (K : PySem.W.Frag) (mg : Str → Option Value) : Prop where
  d_are_signs : ∃ f fd, FunD K "are_signs" "are_signs" (defArgs s_are_signs) (defBody s_are_signs) (defScope s_are_signs) [] [] f fd ∧ mg "are_signs" = some (.ref f)
  d_number_of : ∃ f fd, FunD K "number_of" "number_of" (defArgs s_number_of) (defBody s_number_of) (defScope s_number_of) [] [] f fd ∧ mg "number_of" = some (.ref f)
  d_is_body : ∃ f fd, FunD K "is_body" "is_body" (defArgs s_is_body) (defBody s_is_body) (defScope s_is_body) [] [] f fd ∧ mg "is_body" = some (.ref f)
  d_head_of : ∃ f fd, FunD K "head_of" "head_of" (defArgs s_head_of) (defBody s_head_of) (defScope s_head_of) [] [] f fd ∧ mg "head_of" = some (.ref f)
  d_tail_of : ∃ f fd, FunD K "tail_of" "tail_of" (defArgs s_tail_of) (defBody s_tail_of) (defScope s_tail_of) [] [] f fd ∧ mg "tail_of" = some (.ref f)
  d_frame_by : ∃ f fd, FunD K "frame_by" "frame_by" (defArgs s_frame_by) (defBody s_frame_by) (defScope s_frame_by) [] [] f fd ∧ mg "frame_by" = some (.ref f)
  d_size_at : ∃ f fd, FunD K "size_at" "size_at" (defArgs s_size_at) (defBody s_size_at) (defScope s_size_at) [] [] f fd ∧ mg "size_at" = some (.ref f)
  d_frames_in : ∃ f fd, FunD K "frames_in" "frames_in" (defArgs s_frames_in) (defBody s_frames_in) (defScope s_frames_in) [] [] f fd ∧ mg "frames_in" = some (.ref f)
  d_frame : ∃ f fd, FunD K "frame" "frame" (defArgs s_frame) (defBody s_frame) (defScope s_frame) [] [] f fd ∧ mg "frame" = some (.ref f)
  d_bodies_of : ∃ f fd, FunD K "bodies_of" "bodies_of" (defArgs s_bodies_of) (defBody s_bodies_of) (defScope s_bodies_of) [] [] f fd ∧ mg "bodies_of" = some (.ref f)
  d__law_pot : ∃ f fd, FunD K "_law_pot" "_law_pot" (defArgs s__law_pot) (defBody s__law_pot) (defScope s__law_pot) [] [] f fd ∧ mg "_law_pot" = some (.ref f)
  d__law_draw : ∃ f fd, FunD K "_law_draw" "_law_draw" (defArgs s__law_draw) (defBody s__law_draw) (defScope s__law_draw) [] [] f fd ∧ mg "_law_draw" = some (.ref f)
  d__law_pick : ∃ f fd, FunD K "_law_pick" "_law_pick" (defArgs s__law_pick) (defBody s__law_pick) (defScope s__law_pick) [] [] f fd ∧ mg "_law_pick" = some (.ref f)
  d__law_number : ∃ f fd, FunD K "_law_number" "_law_number" (defArgs s__law_number) (defBody s__law_number) (defScope s__law_number) [] [] f fd ∧ mg "_law_number" = some (.ref f)
  d__law_is_frame : ∃ f fd, FunD K "_law_is_frame" "_law_is_frame" (defArgs s__law_is_frame) (defBody s__law_is_frame) (defScope s__law_is_frame) [] [] f fd ∧ mg "_law_is_frame" = some (.ref f)
  d__law_read : ∃ f fd, FunD K "_law_read" "_law_read" (defArgs s__law_read) (defBody s__law_read) (defScope s__law_read) [] [] f fd ∧ mg "_law_read" = some (.ref f)
  d__law_other_sign : ∃ f fd, FunD K "_law_other_sign" "_law_other_sign" (defArgs s__law_other_sign) (defBody s__law_other_sign) (defScope s__law_other_sign) [] [] f fd ∧ mg "_law_other_sign" = some (.ref f)
  d__law_burst : ∃ f fd, FunD K "_law_burst" "_law_burst" (defArgs s__law_burst) (defBody s__law_burst) (defScope s__law_burst) [] [] f fd ∧ mg "_law_burst" = some (.ref f)
  d__law_body : ∃ f fd, FunD K "_law_body" "_law_body" (defArgs s__law_body) (defBody s__law_body) (defScope s__law_body) [] [] f fd ∧ mg "_law_body" = some (.ref f)
  d__law_right : ∃ f fd, FunD K "_law_right" "_law_right" (defArgs s__law_right) (defBody s__law_right) (defScope s__law_right) [] [] f fd ∧ mg "_law_right" = some (.ref f)
  d_law : ∃ f fd, FunD K "law" "law" (defArgs s_law) (defBody s_law) (defScope s_law) [] [] f fd ∧ mg "law" = some (.ref f)
  c_SIGNS : ∃ t, mg "SIGNS" = some (.str " !\"#$%&'()*+,-./0123456789:;<=>?@ABCDEFGHIJKLMNOPQRSTUVWXYZ[\\]^_`abcdefghijklmnopqrstuvwxyz{|}~" t)
  c_FIGURES : ∃ t, mg "FIGURES" = some (.str "0123456789" t)
  c_MOST_BODY : ∃ t, mg "MOST_BODY" = some (.int 5000 t)
  c_HEAD : ∃ t, mg "HEAD" = some (.int 8 t)
  c_TAIL : ∃ t, mg "TAIL" = some (.int 4 t)
  c_MANY : ∃ t, mg "MANY" = some (.int 96 t)
  b_abs : mg "abs" = none
  b_all : mg "all" = none
  b_any : mg "any" = none
  b_divmod : mg "divmod" = none
  b_enumerate : mg "enumerate" = none
  b_int : mg "int" = none
  b_isinstance : mg "isinstance" = none
  b_len : mg "len" = none
  b_max : mg "max" = none
  b_min : mg "min" = none
  b_ord : mg "ord" = none
  b_range : mg "range" = none
  b_repr : mg "repr" = none
  b_str : mg "str" = none
  b_zip : mg "zip" = none
theorem sc_are_signs : FnScope ["value", "sign"] ["value"] (defScope s_are_signs) := ⟨rfl, rfl, rfl, by decide +kernel, rfl, by decide +kernel, by decide +kernel⟩
theorem nd_are_signs : List.Nodup (["value", "sign"] : List Str) := sc_are_signs.nd
theorem kb_are_signs {K : PySem.W.Frag} {f : Addr} {fd : FuncData} (D : FunD K "are_signs" "are_signs" (defArgs s_are_signs) (defBody s_are_signs) (defScope s_are_signs) [] [] f fd) : KB K fd ["value"] 1 [] @gPos := kb_pos D fun _ _ _ _ _ _ us hl => match us, hl with | [_], _ => rfl
theorem sc_number_of : FnScope ["sign"] ["sign"] (defScope s_number_of) := ⟨rfl, rfl, rfl, by decide +kernel, rfl, by decide +kernel, by decide +kernel⟩
theorem nd_number_of : List.Nodup (["sign"] : List Str) := sc_number_of.nd
theorem kb_number_of {K : PySem.W.Frag} {f : Addr} {fd : FuncData} (D : FunD K "number_of" "number_of" (defArgs s_number_of) (defBody s_number_of) (defScope s_number_of) [] [] f fd) : KB K fd ["sign"] 1 [] @gPos := kb_pos D fun _ _ _ _ _ _ us hl => match us, hl with | [_], _ => rfl
theorem sc_head_of : FnScope ["many", "size", "digit"] ["many"] (defScope s_head_of) := ⟨rfl, rfl, rfl, by decide +kernel, rfl, by decide +kernel, by decide +kernel⟩
theorem nd_head_of : List.Nodup (["many", "size", "digit"] : List Str) := sc_head_of.nd
theorem kb_head_of {K : PySem.W.Frag} {f : Addr} {fd : FuncData} (D : FunD K "head_of" "head_of" (defArgs s_head_of) (defBody s_head_of) (defScope s_head_of) [] [] f fd) : KB K fd ["many"] 1 [] @gPos := kb_pos D fun _ _ _ _ _ _ us hl => match us, hl with | [_], _ => rfl
theorem sc__law_pot : FnScope ["script", "k", "cell"] ["script", "k"] (defScope s__law_pot) := ⟨rfl, rfl, rfl, by decide +kernel, rfl, by decide +kernel, by decide +kernel⟩
theorem nd__law_pot : List.Nodup (["script", "k", "cell"] : List Str) := sc__law_pot.nd
theorem kb__law_pot {K : PySem.W.Frag} {f : Addr} {fd : FuncData} (D : FunD K "_law_pot" "_law_pot" (defArgs s__law_pot) (defBody s__law_pot) (defScope s__law_pot) [] [] f fd) : KB K fd ["script", "k"] 2 [] @gPos := kb_pos D fun _ _ _ _ _ _ us hl => match us, hl with | [_, _], _ => rfl
theorem sc__law_draw : FnScope ["pot", "many", "digit"] ["pot", "many"] (defScope s__law_draw) := ⟨rfl, rfl, rfl, by decide +kernel, rfl, by decide +kernel, by decide +kernel⟩
theorem nd__law_draw : List.Nodup (["pot", "many", "digit"] : List Str) := sc__law_draw.nd
theorem kb__law_draw {K : PySem.W.Frag} {f : Addr} {fd : FuncData} (D : FunD K "_law_draw" "_law_draw" (defArgs s__law_draw) (defBody s__law_draw) (defScope s__law_draw) [] [] f fd) : KB K fd ["pot", "many"] 2 [] @gPos := kb_pos D fun _ _ _ _ _ _ us hl => match us, hl with | [_, _], _ => rfl
theorem sc__law_number : FnScope ["sign"] ["sign"] (defScope s__law_number) := ⟨rfl, rfl, rfl, by decide +kernel, rfl, by decide +kernel, by decide +kernel⟩
theorem nd__law_number : List.Nodup (["sign"] : List Str) := sc__law_number.nd
theorem kb__law_number {K : PySem.W.Frag} {f : Addr} {fd : FuncData} (D : FunD K "_law_number" "_law_number" (defArgs s__law_number) (defBody s__law_number) (defScope s__law_number) [] [] f fd) : KB K fd ["sign"] 1 [] @gPos := kb_pos D fun _ _ _ _ _ _ us hl => match us, hl with | [_], _ => rfl
theorem sc_is_body : FnScope ["value"] ["value"] (defScope s_is_body) := ⟨rfl, rfl, rfl, by decide +kernel, rfl, by decide +kernel, by decide +kernel⟩
theorem nd_is_body : List.Nodup (["value"] : List Str) := sc_is_body.nd
theorem kb_is_body {K : PySem.W.Frag} {f : Addr} {fd : FuncData} (D : FunD K "is_body" "is_body" (defArgs s_is_body) (defBody s_is_body) (defScope s_is_body) [] [] f fd) : KB K fd ["value"] 1 [] @gPos := kb_pos D fun _ _ _ _ _ _ us hl => match us, hl with | [_], _ => rfl
theorem sc_tail_of : FnScope ["body", "sums", "found", "at", "sign", "much", "number"] ["body"] (defScope s_tail_of) := ⟨rfl, rfl, rfl, by decide +kernel, rfl, by decide +kernel, by decide +kernel⟩
theorem nd_tail_of : List.Nodup (["body", "sums", "found", "at", "sign", "much", "number"] : List Str) := sc_tail_of.nd
theorem kb_tail_of {K : PySem.W.Frag} {f : Addr} {fd : FuncData} (D : FunD K "tail_of" "tail_of" (defArgs s_tail_of) (defBody s_tail_of) (defScope s_tail_of) [] [] f fd) : KB K fd ["body"] 1 [] @gPos := kb_pos D fun _ _ _ _ _ _ us hl => match us, hl with | [_], _ => rfl
theorem sc_size_at : FnScope ["string", "at", "head", "many", "sign"] ["string", "at"] (defScope s_size_at) := ⟨rfl, rfl, rfl, by decide +kernel, rfl, by decide +kernel, by decide +kernel⟩
theorem nd_size_at : List.Nodup (["string", "at", "head", "many", "sign"] : List Str) := sc_size_at.nd
theorem kb_size_at {K : PySem.W.Frag} {f : Addr} {fd : FuncData} (D : FunD K "size_at" "size_at" (defArgs s_size_at) (defBody s_size_at) (defScope s_size_at) [] [] f fd) : KB K fd ["string", "at"] 2 [] @gPos := kb_pos D fun _ _ _ _ _ _ us hl => match us, hl with | [_, _], _ => rfl
theorem sc__law_pick : FnScope ["pot", "some"] ["pot", "some"] (defScope s__law_pick) := ⟨rfl, rfl, rfl, by decide +kernel, rfl, by decide +kernel, by decide +kernel⟩
theorem nd__law_pick : List.Nodup (["pot", "some"] : List Str) := sc__law_pick.nd
theorem kb__law_pick {K : PySem.W.Frag} {f : Addr} {fd : FuncData} (D : FunD K "_law_pick" "_law_pick" (defArgs s__law_pick) (defBody s__law_pick) (defScope s__law_pick) [] [] f fd) : KB K fd ["pot", "some"] 2 [] @gPos := kb_pos D fun _ _ _ _ _ _ us hl => match us, hl with | [_, _], _ => rfl
theorem sc__law_is_frame : FnScope ["string", "body", "digits", "sums", "at", "rest", "digit", "much"] ["string", "body"] (defScope s__law_is_frame) := ⟨rfl, rfl, rfl, by decide +kernel, rfl, by decide +kernel, by decide +kernel⟩
theorem nd__law_is_frame : List.Nodup (["string", "body", "digits", "sums", "at", "rest", "digit", "much"] : List Str) := sc__law_is_frame.nd
theorem kb__law_is_frame {K : PySem.W.Frag} {f : Addr} {fd : FuncData} (D : FunD K "_law_is_frame" "_law_is_frame" (defArgs s__law_is_frame) (defBody s__law_is_frame) (defScope s__law_is_frame) [] [] f fd) : KB K fd ["string", "body"] 2 [] @gPos := kb_pos D fun _ _ _ _ _ _ us hl => match us, hl with | [_, _], _ => rfl
theorem sc_frame_by : FnScope ["body"] ["body"] (defScope s_frame_by) := ⟨rfl, rfl, rfl, by decide +kernel, rfl, by decide +kernel, by decide +kernel⟩
theorem nd_frame_by : List.Nodup (["body"] : List Str) := sc_frame_by.nd
theorem kb_frame_by {K : PySem.W.Frag} {f : Addr} {fd : FuncData} (D : FunD K "frame_by" "frame_by" (defArgs s_frame_by) (defBody s_frame_by) (defScope s_frame_by) [] [] f fd) : KB K fd ["body"] 1 [] @gPos := kb_pos D fun _ _ _ _ _ _ us hl => match us, hl with | [_], _ => rfl
theorem sc_frames_in : FnScope ["string", "found", "at", "goes_on", "many", "body"] ["string"] (defScope s_frames_in) := ⟨rfl, rfl, rfl, by decide +kernel, rfl, by decide +kernel, by decide +kernel⟩
theorem nd_frames_in : List.Nodup (["string", "found", "at", "goes_on", "many", "body"] : List Str) := sc_frames_in.nd
theorem kb_frames_in {K : PySem.W.Frag} {f : Addr} {fd : FuncData} (D : FunD K "frames_in" "frames_in" (defArgs s_frames_in) (defBody s_frames_in) (defScope s_frames_in) [] [] f fd) : KB K fd ["string"] 1 [] @gPos := kb_pos D fun _ _ _ _ _ _ us hl => match us, hl with | [_], _ => rfl
theorem sc__law_read : FnScope ["string", "bodies", "ends", "at", "head", "size", "frame_told", "sign"] ["string"] (defScope s__law_read) := ⟨rfl, rfl, rfl, by decide +kernel, rfl, by decide +kernel, by decide +kernel⟩
theorem nd__law_read : List.Nodup (["string", "bodies", "ends", "at", "head", "size", "frame_told", "sign"] : List Str) := sc__law_read.nd
theorem kb__law_read {K : PySem.W.Frag} {f : Addr} {fd : FuncData} (D : FunD K "_law_read" "_law_read" (defArgs s__law_read) (defBody s__law_read) (defScope s__law_read) [] [] f fd) : KB K fd ["string"] 1 [] @gPos := kb_pos D fun _ _ _ _ _ _ us hl => match us, hl with | [_], _ => rfl
theorem sc__law_other_sign : FnScope ["pot", "sign", "some", "one"] ["pot", "sign"] (defScope s__law_other_sign) := ⟨rfl, rfl, rfl, by decide +kernel, rfl, by decide +kernel, by decide +kernel⟩
theorem nd__law_other_sign : List.Nodup (["pot", "sign", "some", "one"] : List Str) := sc__law_other_sign.nd
theorem kb__law_other_sign {K : PySem.W.Frag} {f : Addr} {fd : FuncData} (D : FunD K "_law_other_sign" "_law_other_sign" (defArgs s__law_other_sign) (defBody s__law_other_sign) (defScope s__law_other_sign) [] [] f fd) : KB K fd ["pot", "sign"] 2 [] @gPos := kb_pos D fun _ _ _ _ _ _ us hl => match us, hl with | [_, _], _ => rfl
theorem sc__law_body : FnScope ["pot", "signs", "turn"] ["pot"] (defScope s__law_body) := ⟨rfl, rfl, rfl, by decide +kernel, rfl, by decide +kernel, by decide +kernel⟩
theorem nd__law_body : List.Nodup (["pot", "signs", "turn"] : List Str) := sc__law_body.nd
theorem kb__law_body {K : PySem.W.Frag} {f : Addr} {fd : FuncData} (D : FunD K "_law_body" "_law_body" (defArgs s__law_body) (defBody s__law_body) (defScope s__law_body) [] [] f fd) : KB K fd ["pot"] 1 [] @gPos := kb_pos D fun _ _ _ _ _ _ us hl => match us, hl with | [_], _ => rfl
theorem sc_frame : FnScope ["body"] ["body"] (defScope s_frame) := ⟨rfl, rfl, rfl, by decide +kernel, rfl, by decide +kernel, by decide +kernel⟩
theorem nd_frame : List.Nodup (["body"] : List Str) := sc_frame.nd
theorem kb_frame {K : PySem.W.Frag} {f : Addr} {fd : FuncData} (D : FunD K "frame" "frame" (defArgs s_frame) (defBody s_frame) (defScope s_frame) [] [] f fd) : KB K fd ["body"] 1 [] @gPos := kb_pos D fun _ _ _ _ _ _ us hl => match us, hl with | [_], _ => rfl
theorem sc_bodies_of : FnScope ["string", "body", "end"] ["string"] (defScope s_bodies_of) := ⟨rfl, rfl, rfl, by decide +kernel, rfl, by decide +kernel, by decide +kernel⟩
theorem nd_bodies_of : List.Nodup (["string", "body", "end"] : List Str) := sc_bodies_of.nd
theorem kb_bodies_of {K : PySem.W.Frag} {f : Addr} {fd : FuncData} (D : FunD K "bodies_of" "bodies_of" (defArgs s_bodies_of) (defBody s_bodies_of) (defScope s_bodies_of) [] [] f fd) : KB K fd ["string"] 1 [] @gPos := kb_pos D fun _ _ _ _ _ _ us hl => match us, hl with | [_], _ => rfl
theorem sc__law_burst : FnScope ["pot", "string", "at", "many", "sign"] ["pot", "string", "at"] (defScope s__law_burst) := ⟨rfl, rfl, rfl, by decide +kernel, rfl, by decide +kernel, by decide +kernel⟩
theorem nd__law_burst : List.Nodup (["pot", "string", "at", "many", "sign"] : List Str) := sc__law_burst.nd
theorem kb__law_burst {K : PySem.W.Frag} {f : Addr} {fd : FuncData} (D : FunD K "_law_burst" "_law_burst" (defArgs s__law_burst) (defBody s__law_burst) (defScope s__law_burst) [] [] f fd) : KB K fd ["pot", "string", "at"] 3 [] @gPos := kb_pos D fun _ _ _ _ _ _ us hl => match us, hl with | [_, _, _], _ => rfl
theorem sc__law_right : FnScope ["pot", "late", "bodies", "frames", "string", "ends", "one", "told", "turn", "at", "burst", "whole", "cut", "both", "kept", "some", "body", "end"] ["pot", "late"] (defScope s__law_right) := ⟨rfl, rfl, rfl, by decide +kernel, rfl, by decide +kernel, by decide +kernel⟩
theorem nd__law_right : List.Nodup (["pot", "late", "bodies", "frames", "string", "ends", "one", "told", "turn", "at", "burst", "whole", "cut", "both", "kept", "some", "body", "end"] : List Str) := sc__law_right.nd
theorem kb__law_right {K : PySem.W.Frag} {f : Addr} {fd : FuncData} (D : FunD K "_law_right" "_law_right" (defArgs s__law_right) (defBody s__law_right) (defScope s__law_right) [] [] f fd) : KB K fd ["pot", "late"] 2 [] @gPos := kb_pos D fun _ _ _ _ _ _ us hl => match us, hl with | [_, _], _ => rfl
theorem sc_law : FnScope ["script", "pot", "late", "great", "turn"] ["script"] (defScope s_law) := ⟨rfl, rfl, rfl, by decide +kernel, rfl, by decide +kernel, by decide +kernel⟩
theorem nd_law : List.Nodup (["script", "pot", "late", "great", "turn"] : List Str) := sc_law.nd
theorem kb_law {K : PySem.W.Frag} {f : Addr} {fd : FuncData} (D : FunD K "law" "law" (defArgs s_law) (defBody s_law) (defScope s_law) [] [] f fd) : KB K fd ["script"] 1 [] @gPos := kb_pos D fun _ _ _ _ _ _ us hl => match us, hl with | [_], _ => rfl
theorem kbk0_frame {K : PySem.W.Frag} {f : Addr} {fd : FuncData} (D : FunD K "frame" "frame" (defArgs s_frame) (defBody s_frame) (defScope s_frame) [] [] f fd) : KB K fd ["body"] 0 ["body"] (fun {α} => gKw (α := α) [0]) := kb_kw [0] D fun _ _ _ _ _ _ us ws h1 h2 => match us, ws, h1, h2 with | [], [_], _, _ => rfl
theorem lk_kbk0_frame (as bs : List V) (h1 : as.length = 0) (h2 : bs.length = 1) : (gKw [0] as bs).length = 1 := match as, bs, h1, h2 with | [], [_], _, _ => rfl
theorem kbk1_bodies_of {K : PySem.W.Frag} {f : Addr} {fd : FuncData} (D : FunD K "bodies_of" "bodies_of" (defArgs s_bodies_of) (defBody s_bodies_of) (defScope s_bodies_of) [] [] f fd) : KB K fd ["string"] 0 ["string"] (fun {α} => gKw (α := α) [0]) := kb_kw [0] D fun _ _ _ _ _ _ us ws h1 h2 => match us, ws, h1, h2 with | [], [_], _, _ => rfl
theorem lk_kbk1_bodies_of (as bs : List V) (h1 : as.length = 0) (h2 : bs.length = 1) : (gKw [0] as bs).length = 1 := match as, bs, h1, h2 with | [], [_], _, _ => rfl
theorem g_are_signs {P : Program} {w : World} {base : Heap} {K : PySem.W.Frag} {mg : Str → Option Value} (E : Fx K mg) : Callee P w base K mg "are_signs" s_are_signs ["value"] 0 1 1 f_are_signs := by
  obtain ⟨f, fd, D, hm⟩ := E.d_are_signs
  refine ⟨f, fd, D, hm, fn_ok 0 1 1 e_are_signs D sc_are_signs rfl rfl (by decide) fun cdv A outer sh H Ex hg hr tk => ?_⟩
  have hrx : ∃ k, Room k (A.deeper (envOfC "are_signs" (defScope s_are_signs) sh.heap.objs.size f cdv)) := ⟨_, hr⟩
  exact ⟨_, (qss_cons (qs_ret (QE.mv (qe_and (ke_isi (K := K) E.b_isinstance (qa_cons (qe_var 0) (qa_cons (qe_cls E.b_str PyProof.Rows.boot_str) qa_nil))) (qe_one (ke_all (K := K) E.b_all (qa_cons (QM.vw (qm_lc (own := [("sign", 1)]) rfl nd_are_signs (ki_any (K := K) (qe_var 0)) rfl (fun _ _ _ _ _ => (qg_name nd_are_signs rfl (by first | exact Or.inl rfl | exact Or.inr rfl))) (fun _ _ _ _ _ => qts_nil) (fun _ _ _ _ _ => (qe_or (qe_cmp (kq_eq (K := K) hrx) (qe_var 1) (qe_str [10])) (qe_one (qe_chain cq_le cq_le (qe_str [32]) (qe_var 1) (qe_str [126]))))))) qa_nil)))))) qss_nil)⟩
theorem g_number_of {P : Program} {w : World} {base : Heap} {K : PySem.W.Frag} {mg : Str → Option Value} (E : Fx K mg) : Callee P w base K mg "number_of" s_number_of ["sign"] 0 1 1 f_number_of := by
  obtain ⟨f, fd, D, hm⟩ := E.d_number_of
  refine ⟨f, fd, D, hm, fn_ok 0 1 0 e_number_of D sc_number_of rfl rfl (by decide) fun cdv A outer sh H Ex hg hr tk => ?_⟩
  have hrx : ∃ k, Room k (A.deeper (envOfC "number_of" (defScope s_number_of) sh.heap.objs.size f cdv)) := ⟨_, hr⟩
  exact ⟨_, (qss_cons (qs_ret (QE.mv (qe_if (qt_cmp (kq_eq (K := K) hrx) (qe_var 0) (qe_str [10])) (qe_sub (qe_glI E.c_MANY) qe_int) (qe_sub (qe_ord E.b_ord (qa_cons (qe_var 0) qa_nil)) (qe_ord E.b_ord (qa_cons (qe_str [32]) qa_nil)))))) qss_nil)⟩
theorem g_head_of {P : Program} {w : World} {base : Heap} {K : PySem.W.Frag} {mg : Str → Option Value} (E : Fx K mg) : Callee P w base K mg "head_of" s_head_of ["many"] 0 1 1 f_head_of := by
  obtain ⟨f, fd, D, hm⟩ := E.d_head_of
  refine ⟨f, fd, D, hm, fn_ok 0 1 2 e_head_of D sc_head_of rfl rfl (by decide) fun cdv A outer sh H Ex hg hr tk => ?_⟩
  have hrx : ∃ k, Room k (A.deeper (envOfC "head_of" (defScope s_head_of) sh.heap.objs.size f cdv)) := ⟨_, hr⟩
  exact ⟨_, (qss_cons (qs_set (by decide) nd_head_of rfl (Or.inl rfl) (QE.mv (ke_add (K := K) (qe_mul (qe_str [48]) (qe_sub qe_int (ke_len (K := K) E.b_len (qa_cons (qe_str_of E.b_str (qa_cons (qe_var 0) qa_nil)) qa_nil)))) (qe_str_of E.b_str (qa_cons (qe_var 0) qa_nil))))) (qss_cons (qs_ret (QE.mv (ke_add (K := K) (qe_var 1) (ke_join (K := K) (qe_str []) (QM.vw (qm_lc (own := [("digit", 2)]) rfl nd_head_of (ki_any (K := K) (qe_var 1)) rfl (fun _ _ _ _ _ => (qg_name nd_head_of rfl (by first | exact Or.inl rfl | exact Or.inr rfl))) (fun _ _ _ _ _ => qts_nil) (fun _ _ _ _ _ => (ke_ix (K := K) (qe_glS [48, 49, 50, 51, 52, 53, 54, 55, 56, 57] E.c_FIGURES) (qe_sub qe_int (qe_int_of E.b_int (qa_cons (qe_var 2) qa_nil))))))))))) qss_nil))⟩
theorem g__law_pot {P : Program} {w : World} {base : Heap} {K : PySem.W.Frag} {mg : Str → Option Value} (E : Fx K mg) : Callee P w base K mg "_law_pot" s__law_pot ["script", "k"] 0 2 1 f__law_pot := by
  obtain ⟨f, fd, D, hm⟩ := E.d__law_pot
  refine ⟨f, fd, D, hm, fn_ok 0 2 1 e__law_pot D sc__law_pot rfl rfl (by decide) fun cdv A outer sh H Ex hg hr tk => ?_⟩
  have hrx : ∃ k, Room k (A.deeper (envOfC "_law_pot" (defScope s__law_pot) sh.heap.objs.size f cdv)) := ⟨_, hr⟩
  exact ⟨_, (qss_cons (qs_set (by decide) nd__law_pot rfl (Or.inl rfl) (QE.mv (qe_if (qt_cmp cq_lt (qe_var 1) (ke_len (K := K) E.b_len (qa_cons (qe_var 0) qa_nil))) (qe_abs E.b_abs (qa_cons (ke_ix (K := K) (qe_var 0) (qe_var 1)) qa_nil)) (ke_add (K := K) (qe_mul qe_int (qe_var 1)) qe_int)))) (qss_cons (qs_ret (qm_lst (qa_cons (qe_max E.b_max (qa_cons qe_int (qa_cons (qe_sub (qe_var 2) (qe_pow qe_int qe_int)) qa_nil))) (qa_cons (ke_add (K := K) (qe_mod (qe_int_of E.b_int (qa_cons (ke_add (K := K) (ke_add (K := K) (qe_mul (qe_mod (qe_int_of E.b_int (qa_cons (qe_var 2) qa_nil)) qe_int) qe_int) (qe_mul qe_int (qe_var 1))) qe_int) qa_nil)) qe_int) qe_int) qa_nil)))) qss_nil))⟩
theorem g__law_draw {P : Program} {w : World} {base : Heap} {K : PySem.W.Frag} {mg : Str → Option Value} (E : Fx K mg) : Callee P w base K mg "_law_draw" s__law_draw ["pot", "many"] 1 2 1 f__law_draw := by
  obtain ⟨f, fd, D, hm⟩ := E.d__law_draw
  refine ⟨f, fd, D, hm, fn_ok 1 2 1 e__law_draw D sc__law_draw rfl rfl (by decide) fun cdv A outer sh H Ex hg hr tk => ?_⟩
  have hrx : ∃ k, Room k (A.deeper (envOfC "_law_draw" (defScope s__law_draw) sh.heap.objs.size f cdv)) := ⟨_, hr⟩
  exact ⟨_, (qss_cons (qs_if (qt_cmp cq_gt (QE.scope (ke_ix (K := K) (qe_var 0) qe_int)) qe_int) (qss_cons (qs_asg (qe_divmod E.b_divmod (qa_cons (QE.scope (ke_ix (K := K) (qe_var 0) qe_int)) (qa_cons (qe_var 1) qa_nil))) (kg_tup (K := K) rfl (qgs_cons (qg_ix2 (W := W0) 0 qe_int) (qgs_cons (qg_name nd__law_draw rfl (Or.inl rfl)) qgs_nil)))) (qss_cons (qs_ret (QE.mv (qe_var 2))) qss_nil)) qss_nil) (qss_cons (qs_asg (qe_mod (qe_int_of E.b_int (qa_cons (ke_add (K := K) (qe_mul (QE.scope (ke_ix (K := K) (qe_var 0) qe_int)) qe_int) qe_int) qa_nil)) qe_int) (qg_ix2 (W := W0) 0 qe_int)) (qss_cons (qs_ret (QE.mv (qe_mod (qe_int_of E.b_int (qa_cons (qe_fdiv (qe_mod (qe_int_of E.b_int (qa_cons (qe_mul (QE.scope (ke_ix (K := K) (qe_var 0) qe_int)) (QE.scope (ke_ix (K := K) (qe_var 0) qe_int))) qa_nil)) qe_int) qe_int) qa_nil)) (qe_var 1)))) qss_nil)))⟩
theorem g__law_number {P : Program} {w : World} {base : Heap} {K : PySem.W.Frag} {mg : Str → Option Value} (E : Fx K mg) : Callee P w base K mg "_law_number" s__law_number ["sign"] 0 1 1 f__law_number := by
  obtain ⟨f, fd, D, hm⟩ := E.d__law_number
  refine ⟨f, fd, D, hm, fn_ok 0 1 0 e__law_number D sc__law_number rfl rfl (by decide) fun cdv A outer sh H Ex hg hr tk => ?_⟩
  have hrx : ∃ k, Room k (A.deeper (envOfC "_law_number" (defScope s__law_number) sh.heap.objs.size f cdv)) := ⟨_, hr⟩
  exact ⟨_, (qss_cons (qs_ret (QE.mv (qe_if (qt_cmp (kq_eq (K := K) hrx) (qe_var 0) (qe_str [10])) qe_int (qe_sub (qe_ord E.b_ord (qa_cons (qe_var 0) qa_nil)) qe_int)))) qss_nil)⟩
theorem g_is_body {P : Program} {w : World} {base : Heap} {K : PySem.W.Frag} {mg : Str → Option Value} (E : Fx K mg) : Callee P w base K mg "is_body" s_is_body ["value"] 0 1 2 f_is_body := by
  obtain ⟨f, fd, D, hm⟩ := E.d_is_body
  obtain ⟨_, _, D_are_signs, h_are_signs, G_are_signs⟩ := g_are_signs (P := P) (w := w) (base := base) E
  refine ⟨f, fd, D, hm, fn_ok 0 1 0 e_is_body D sc_is_body rfl rfl (by decide) fun cdv A outer sh H Ex hg hr tk => ?_⟩
  have hrx : ∃ k, Room k (A.deeper (envOfC "is_body" (defScope s_is_body) sh.heap.objs.size f cdv)) := ⟨_, hr⟩
  exact ⟨_, (qss_cons (qs_ret (QE.mv (qe_and (ke_isi (K := K) E.b_isinstance (qa_cons (qe_var 0) (qa_cons (qe_cls E.b_str PyProof.Rows.boot_str) qa_nil))) (qe_and (qe_chain cq_le cq_le qe_int (ke_len (K := K) E.b_len (qa_cons (qe_var 0) qa_nil)) (qe_glI E.c_MOST_BODY)) (qe_one (QM.vw (km_call G_are_signs hg (hr.mono (by decide)) h_are_signs D_are_signs.kp (kb_are_signs D_are_signs) tk (qar_v (qe_var 0) qar_nil) (rlen_v rlen_nil)))))))) qss_nil)⟩
theorem g_tail_of {P : Program} {w : World} {base : Heap} {K : PySem.W.Frag} {mg : Str → Option Value} (E : Fx K mg) : Callee P w base K mg "tail_of" s_tail_of ["body"] 0 1 2 f_tail_of := by
  obtain ⟨f, fd, D, hm⟩ := E.d_tail_of
  obtain ⟨_, _, D_number_of, h_number_of, G_number_of⟩ := g_number_of (P := P) (w := w) (base := base) E
  refine ⟨f, fd, D, hm, fn_ok 0 1 6 e_tail_of D sc_tail_of rfl rfl (by decide) fun cdv A outer sh H Ex hg hr tk => ?_⟩
  have hrx : ∃ k, Room k (A.deeper (envOfC "tail_of" (defScope s_tail_of) sh.heap.objs.size f cdv)) := ⟨_, hr⟩
  exact ⟨_, (qss_cons (qs_par rfl nd_tail_of rfl rfl (qms_cons (qm_rep (QM.vw (qm_lst (qa_cons qe_int qa_nil))) (qe_glI E.c_TAIL)) (qms_cons (QE.mv (qe_str [])) qms_nil)) rfl) (qss_cons (qs_for (passes_of rfl) rfl (ki_enum (K := K) (qa_cons (qe_var 0) qa_nil) E.b_enumerate) (kg_tup (K := K) rfl (qgs_cons (qg_name nd_tail_of rfl (Or.inl rfl)) (qgs_cons (qg_name nd_tail_of rfl (Or.inl rfl)) qgs_nil))) (qss_cons (qs_augIx 1 ip_iadd (qe_mod (qe_int_of E.b_int (qa_cons (ke_add (K := K) (qe_glI E.c_HEAD) (qe_var 3)) qa_nil)) (qe_glI E.c_TAIL)) (QM.vw (km_call G_number_of hg (hr.mono (by decide)) h_number_of D_number_of.kp (kb_number_of D_number_of) tk (qar_v (qe_var 4) qar_nil) (rlen_v rlen_nil)))) qss_nil)) (qss_cons (qs_for (passes_of rfl) rfl (qi_range1 (qa_cons (qe_glI E.c_TAIL) qa_nil) E.b_range (len_cons len_nil)) (qg_name nd_tail_of rfl (Or.inl rfl)) (qss_cons (QS.fz 1 (qs_set (by decide) nd_tail_of rfl (Or.inl rfl) (QE.mv (ke_ix (K := K) (qe_var 1) (qe_mod (qe_int_of E.b_int (qa_cons (ke_add (K := K) (ke_add (K := K) (qe_glI E.c_HEAD) (ke_len (K := K) E.b_len (qa_cons (qe_var 0) qa_nil))) (qe_var 3)) qa_nil)) (qe_glI E.c_TAIL)))))) (qss_cons (qs_set (by decide) nd_tail_of rfl (Or.inl rfl) (QE.mv (qe_mod (qe_int_of E.b_int (qa_cons (qe_sub qe_int (qe_var 5)) qa_nil)) (qe_glI E.c_MANY)))) (qss_cons (qs_set (by decide) nd_tail_of rfl (Or.inl rfl) (QE.mv (ke_add (K := K) (qe_var 2) (qe_if (qt_cmp (kq_eq (K := K) hrx) (qe_var 6) (qe_sub (qe_glI E.c_MANY) qe_int)) (qe_str [10]) (ke_ix (K := K) (qe_glS [32, 33, 34, 35, 36, 37, 38, 39, 40, 41, 42, 43, 44, 45, 46, 47, 48, 49, 50, 51, 52, 53, 54, 55, 56, 57, 58, 59, 60, 61, 62, 63, 64, 65, 66, 67, 68, 69, 70, 71, 72, 73, 74, 75, 76, 77, 78, 79, 80, 81, 82, 83, 84, 85, 86, 87, 88, 89, 90, 91, 92, 93, 94, 95, 96, 97, 98, 99, 100, 101, 102, 103, 104, 105, 106, 107, 108, 109, 110, 111, 112, 113, 114, 115, 116, 117, 118, 119, 120, 121, 122, 123, 124, 125, 126] E.c_SIGNS) (qe_var 6)))))) qss_nil)))) (qss_cons (qs_ret (QE.mv (qe_var 2))) qss_nil))))⟩
theorem g_size_at {P : Program} {w : World} {base : Heap} {K : PySem.W.Frag} {mg : Str → Option Value} (E : Fx K mg) : Callee P w base K mg "size_at" s_size_at ["string", "at"] 0 2 2 f_size_at := by
  obtain ⟨f, fd, D, hm⟩ := E.d_size_at
  obtain ⟨_, _, D_head_of, h_head_of, G_head_of⟩ := g_head_of (P := P) (w := w) (base := base) E
  refine ⟨f, fd, D, hm, fn_ok 0 2 3 e_size_at D sc_size_at rfl rfl (by decide) fun cdv A outer sh H Ex hg hr tk => ?_⟩
  have hrx : ∃ k, Room k (A.deeper (envOfC "size_at" (defScope s_size_at) sh.heap.objs.size f cdv)) := ⟨_, hr⟩
  exact ⟨_, (qss_cons (qs_set (by decide) nd_size_at rfl (Or.inl rfl) (QE.mv (ke_sl (K := K) (qe_var 0) (qo_some (qe_var 1)) (qo_some (ke_add (K := K) (qe_var 1) (qe_glI E.c_HEAD)))))) (qss_cons (qs_if (QW.qt (qw_or (qt_cmp cq_lt (ke_len (K := K) E.b_len (qa_cons (qe_var 2) qa_nil)) (qe_glI E.c_HEAD)) (qw_or1 (qt_not (kt_tru (K := K) (ke_all (K := K) E.b_all (qa_cons (QM.vw (qm_lc (own := [("sign", 4)]) rfl nd_size_at (ki_any (K := K) (qe_var 2)) rfl (fun _ _ _ _ _ => (qg_name nd_size_at rfl (by first | exact Or.inl rfl | exact Or.inr rfl))) (fun _ _ _ _ _ => qts_nil) (fun _ _ _ _ _ => (qe_cmp (kq_in (K := K) hrx) (qe_var 4) (qe_glS [48, 49, 50, 51, 52, 53, 54, 55, 56, 57] E.c_FIGURES))))) qa_nil))))))) (qss_cons (qs_ret (QE.mv qe_non)) qss_nil) qss_nil) (qss_cons (qs_set (by decide) nd_size_at rfl (Or.inl rfl) (QE.mv (qe_int_of E.b_int (qa_cons (ke_sl (K := K) (qe_var 2) qo_none (qo_some qe_int)) qa_nil)))) (qss_cons (qs_ret (QE.mv (qe_if (QW.qt (qw_and (qt_cmp (kq_eq (K := K) hrx) (qe_var 2) (QM.vw (km_call G_head_of hg (hr.mono (by decide)) h_head_of D_head_of.kp (kb_head_of D_head_of) tk (qar_v (qe_var 3) qar_nil) (rlen_v rlen_nil)))) (qw_and1 (qt_chain cq_le cq_le qe_int (qe_var 3) (qe_glI E.c_MOST_BODY))))) (qe_var 3) qe_non))) qss_nil))))⟩
theorem g__law_pick {P : Program} {w : World} {base : Heap} {K : PySem.W.Frag} {mg : Str → Option Value} (E : Fx K mg) : Callee P w base K mg "_law_pick" s__law_pick ["pot", "some"] 1 2 2 f__law_pick := by
  obtain ⟨f, fd, D, hm⟩ := E.d__law_pick
  obtain ⟨_, _, D__law_draw, h__law_draw, G__law_draw⟩ := g__law_draw (P := P) (w := w) (base := base) E
  refine ⟨f, fd, D, hm, fn_ok 1 2 0 e__law_pick D sc__law_pick rfl rfl (by decide) fun cdv A outer sh H Ex hg hr tk => ?_⟩
  have hrx : ∃ k, Room k (A.deeper (envOfC "_law_pick" (defScope s__law_pick) sh.heap.objs.size f cdv)) := ⟨_, hr⟩
  exact ⟨_, (qss_cons (qs_ret (QE.mv (ke_ix (K := K) (qe_var 1) (QM.vw (km_call G__law_draw hg (hr.mono (by decide)) h__law_draw D__law_draw.kp (kb__law_draw D__law_draw) tk (qar_p 0 (qar_v (ke_len (K := K) E.b_len (qa_cons (qe_var 1) qa_nil)) qar_nil)) (rlen_p (rlen_v rlen_nil))))))) qss_nil)⟩
theorem g__law_is_frame {P : Program} {w : World} {base : Heap} {K : PySem.W.Frag} {mg : Str → Option Value} (E : Fx K mg) : Callee P w base K mg "_law_is_frame" s__law_is_frame ["string", "body"] 0 2 2 f__law_is_frame := by
  obtain ⟨f, fd, D, hm⟩ := E.d__law_is_frame
  obtain ⟨_, _, D__law_number, h__law_number, G__law_number⟩ := g__law_number (P := P) (w := w) (base := base) E
  refine ⟨f, fd, D, hm, fn_ok 0 2 6 e__law_is_frame D sc__law_is_frame rfl rfl (by decide) fun cdv A outer sh H Ex hg hr tk => ?_⟩
  have hrx : ∃ k, Room k (A.deeper (envOfC "_law_is_frame" (defScope s__law_is_frame) sh.heap.objs.size f cdv)) := ⟨_, hr⟩
  exact ⟨_, (qss_cons (qs_if (QW.qt (qw_or (qt_cmp (kq_ne (K := K) hrx) (ke_len (K := K) E.b_len (qa_cons (qe_var 0) qa_nil)) (ke_add (K := K) (ke_len (K := K) E.b_len (qa_cons (qe_var 1) qa_nil)) qe_int)) (qw_or1 (qt_cmp (kq_ne (K := K) hrx) (ke_sl (K := K) (qe_var 0) (qo_some qe_int) (qo_some (qe_neg qe_int))) (qe_var 1))))) (qss_cons (qs_ret (QE.mv qe_bl)) qss_nil) qss_nil) (qss_cons (qs_set (by decide) nd__law_is_frame rfl (Or.inr rfl) (QE.mv (QM.vw (qm_lc (own := [("at", 4)]) rfl nd__law_is_frame (qi_range1 (qa_cons qe_int qa_nil) E.b_range (len_cons len_nil)) rfl (fun _ _ _ _ _ => (qg_name nd__law_is_frame rfl (by first | exact Or.inl rfl | exact Or.inr rfl))) (fun _ _ _ _ _ => qts_nil) (fun _ _ _ _ _ => (ke_sl (K := K) (qe_var 0) (qo_some (qe_var 4)) (qo_some (ke_add (K := K) (qe_var 4) qe_int)))))))) (qss_cons (qs_if (QW.qt (qw_or (kt_tru (K := K) (ke_any (K := K) E.b_any (qa_cons (QM.vw (qm_lc (own := [("digit", 6)]) rfl nd__law_is_frame (ki_any (K := K) (qe_var 2)) rfl (fun _ _ _ _ _ => (qg_name nd__law_is_frame rfl (by first | exact Or.inl rfl | exact Or.inr rfl))) (fun _ _ _ _ _ => qts_nil) (fun _ _ _ _ _ => (qe_not (qe_chain cq_le cq_le (qe_str [48]) (qe_var 6) (qe_str [57])))))) qa_nil))) (qw_or1 (kt_tru (K := K) (ke_any (K := K) E.b_any (qa_cons (QM.vw (qm_lc (own := [("at", 4)]) rfl nd__law_is_frame (qi_range1 (qa_cons qe_int qa_nil) E.b_range (len_cons len_nil)) rfl (fun _ _ _ _ _ => (qg_name nd__law_is_frame rfl (by first | exact Or.inl rfl | exact Or.inr rfl))) (fun _ _ _ _ _ => qts_nil) (fun _ _ _ _ _ => (qe_cmp (kq_ne (K := K) hrx) (ke_add (K := K) (qe_int_of E.b_int (qa_cons (ke_ix (K := K) (qe_var 2) (qe_var 4)) qa_nil)) (qe_int_of E.b_int (qa_cons (ke_ix (K := K) (qe_var 2) (ke_add (K := K) (qe_var 4) qe_int)) qa_nil))) qe_int)))) qa_nil)))))) (qss_cons (qs_ret (QE.mv qe_bl)) qss_nil) qss_nil) (qss_cons (qs_set (by decide) nd__law_is_frame rfl (Or.inl rfl) (qm_lst (qa_cons qe_int (qa_cons qe_int (qa_cons qe_int (qa_cons qe_int qa_nil)))))) (qss_cons (qs_for (passes_of rfl) rfl (qi_range2 (qa_cons qe_int (qa_cons (ke_len (K := K) E.b_len (qa_cons (qe_var 0) qa_nil)) qa_nil)) E.b_range (len_cons (len_cons len_nil))) (qg_name nd__law_is_frame rfl (Or.inl rfl)) (qss_cons (qs_set (by decide) nd__law_is_frame rfl (Or.inl rfl) (QE.mv (qe_mod (qe_int_of E.b_int (qa_cons (qe_var 4) qa_nil)) qe_int))) (qss_cons (qs_augIx 3 ip_iadd (qe_var 5) (QM.vw (km_call G__law_number hg (hr.mono (by decide)) h__law_number D__law_number.kp (kb__law_number D__law_number) tk (qar_v (ke_ix (K := K) (qe_var 0) (qe_var 4)) qar_nil) (rlen_v rlen_nil)))) qss_nil))) (qss_cons (QS.fz 3 (qs_ret (QE.mv (qe_and (qe_cmp (kq_eq (K := K) hrx) (qe_int_of E.b_int (qa_cons (ke_sl (K := K) (qe_var 0) qo_none (qo_some qe_int)) qa_nil)) (ke_len (K := K) E.b_len (qa_cons (qe_var 1) qa_nil))) (qe_one (ke_all (K := K) E.b_all (qa_cons (QM.vw (qm_lc (own := [("much", 7)]) rfl nd__law_is_frame (ki_any (K := K) (qe_var 3)) rfl (fun _ _ _ _ _ => (qg_name nd__law_is_frame rfl (by first | exact Or.inl rfl | exact Or.inr rfl))) (fun _ _ _ _ _ => qts_nil) (fun _ _ _ _ _ => (qe_cmp (kq_eq (K := K) hrx) (qe_mod (qe_int_of E.b_int (qa_cons (qe_var 7) qa_nil)) qe_int) qe_int)))) qa_nil))))))) qss_nil))))))⟩
theorem g_frame_by {P : Program} {w : World} {base : Heap} {K : PySem.W.Frag} {mg : Str → Option Value} (E : Fx K mg) : Callee P w base K mg "frame_by" s_frame_by ["body"] 0 1 3 f_frame_by := by
  obtain ⟨f, fd, D, hm⟩ := E.d_frame_by
  obtain ⟨_, _, D_head_of, h_head_of, G_head_of⟩ := g_head_of (P := P) (w := w) (base := base) E
  obtain ⟨_, _, D_tail_of, h_tail_of, G_tail_of⟩ := g_tail_of (P := P) (w := w) (base := base) E
  refine ⟨f, fd, D, hm, fn_ok 0 1 0 e_frame_by D sc_frame_by rfl rfl (by decide) fun cdv A outer sh H Ex hg hr tk => ?_⟩
  have hrx : ∃ k, Room k (A.deeper (envOfC "frame_by" (defScope s_frame_by) sh.heap.objs.size f cdv)) := ⟨_, hr⟩
  exact ⟨_, (qss_cons (qs_ret (QE.mv (ke_add (K := K) (ke_add (K := K) (QM.vw (km_call G_head_of hg (hr.mono (by decide)) h_head_of D_head_of.kp (kb_head_of D_head_of) tk (qar_v (ke_len (K := K) E.b_len (qa_cons (qe_var 0) qa_nil)) qar_nil) (rlen_v rlen_nil))) (qe_var 0)) (QM.vw (km_call G_tail_of hg (hr.mono (by decide)) h_tail_of D_tail_of.kp (kb_tail_of D_tail_of) tk (qar_v (qe_var 0) qar_nil) (rlen_v rlen_nil)))))) qss_nil)⟩
theorem g_frames_in {P : Program} {w : World} {base : Heap} {K : PySem.W.Frag} {mg : Str → Option Value} (E : Fx K mg) : Callee P w base K mg "frames_in" s_frames_in ["string"] 0 1 3 f_frames_in := by
  obtain ⟨f, fd, D, hm⟩ := E.d_frames_in
  obtain ⟨_, _, D_are_signs, h_are_signs, G_are_signs⟩ := g_are_signs (P := P) (w := w) (base := base) E
  obtain ⟨_, _, D_size_at, h_size_at, G_size_at⟩ := g_size_at (P := P) (w := w) (base := base) E
  obtain ⟨_, _, D_tail_of, h_tail_of, G_tail_of⟩ := g_tail_of (P := P) (w := w) (base := base) E
  refine ⟨f, fd, D, hm, fn_ok 0 1 5 e_frames_in D sc_frames_in rfl rfl (by decide) fun cdv A outer sh H Ex hg hr tk => ?_⟩
  have hrx : ∃ k, Room k (A.deeper (envOfC "frames_in" (defScope s_frames_in) sh.heap.objs.size f cdv)) := ⟨_, hr⟩
  exact ⟨_, (qss_cons (qs_par3 rfl nd_frames_in rfl rfl rfl (qms_cons (qm_lst qa_nil) (qms_cons (QE.mv qe_int) (qms_cons (QE.mv qe_bl) qms_nil))) rfl) (qss_cons (qs_while 1000000 (passes_of rfl) (kt_tru (K := K) (qe_var 3)) (qss_cons (qs_set (by decide) nd_frames_in rfl (Or.inl rfl) (QE.mv (QM.vw (km_call G_size_at hg (hr.mono (by decide)) h_size_at D_size_at.kp (kb_size_at D_size_at) tk (qar_v (qe_var 0) (qar_v (qe_var 2) qar_nil)) (rlen_v (rlen_v rlen_nil)))))) (qss_cons (qs_set (by decide) nd_frames_in rfl (Or.inl rfl) (QE.mv (qe_if (qt_cmp cq_isnot (qe_var 4) qe_non) (ke_sl (K := K) (qe_var 0) (qo_some (ke_add (K := K) (qe_var 2) (qe_glI E.c_HEAD))) (qo_some (ke_add (K := K) (ke_add (K := K) (qe_var 2) (qe_glI E.c_HEAD)) (qe_var 4)))) (qe_str [])))) (qss_cons (qs_set (by decide) nd_frames_in rfl (Or.inl rfl) (QE.mv (qe_and (qe_cmp cq_isnot (qe_var 4) qe_non) (qe_and (qe_cmp (kq_eq (K := K) hrx) (ke_len (K := K) E.b_len (qa_cons (qe_var 5) qa_nil)) (qe_var 4)) (qe_one (QM.vw (km_call G_are_signs hg (hr.mono (by decide)) h_are_signs D_are_signs.kp (kb_are_signs D_are_signs) tk (qar_v (qe_var 5) qar_nil) (rlen_v rlen_nil)))))))) (qss_cons (qs_set (by decide) nd_frames_in rfl (Or.inl rfl) (QE.mv (qe_and (qe_var 3) (qe_one (qe_cmp (kq_eq (K := K) hrx) (ke_sl (K := K) (qe_var 0) (qo_some (ke_add (K := K) (ke_add (K := K) (qe_var 2) (qe_glI E.c_HEAD)) (qe_var 4))) (qo_some (ke_add (K := K) (ke_add (K := K) (ke_add (K := K) (qe_var 2) (qe_glI E.c_HEAD)) (qe_var 4)) (qe_glI E.c_TAIL)))) (QM.vw (km_call G_tail_of hg (hr.mono (by decide)) h_tail_of D_tail_of.kp (kb_tail_of D_tail_of) tk (qar_v (qe_var 5) qar_nil) (rlen_v rlen_nil)))))))) (qss_cons (qs_if (kt_tru (K := K) (qe_var 3)) (qss_cons (qs_set (by decide) nd_frames_in rfl (Or.inl rfl) (QE.mv (ke_add (K := K) (ke_add (K := K) (ke_add (K := K) (qe_var 2) (qe_glI E.c_HEAD)) (qe_var 4)) (qe_glI E.c_TAIL)))) (qss_cons (qs_app 1 (qe_tup (qa_cons (qe_var 5) (qa_cons (qe_var 2) qa_nil)))) qss_nil)) qss_nil) qss_nil)))))) (qss_cons (qs_ret (qm_move 1)) qss_nil)))⟩
theorem g__law_read {P : Program} {w : World} {base : Heap} {K : PySem.W.Frag} {mg : Str → Option Value} (E : Fx K mg) : Callee P w base K mg "_law_read" s__law_read ["string"] 0 1 3 f__law_read := by
  obtain ⟨f, fd, D, hm⟩ := E.d__law_read
  obtain ⟨_, _, D__law_is_frame, h__law_is_frame, G__law_is_frame⟩ := g__law_is_frame (P := P) (w := w) (base := base) E
  refine ⟨f, fd, D, hm, fn_ok 0 1 7 e__law_read D sc__law_read rfl rfl (by decide) fun cdv A outer sh H Ex hg hr tk => ?_⟩
  have hrx : ∃ k, Room k (A.deeper (envOfC "_law_read" (defScope s__law_read) sh.heap.objs.size f cdv)) := ⟨_, hr⟩
  exact ⟨_, (qss_cons (qs_par3 rfl nd__law_read rfl rfl rfl (qms_cons (qm_lst qa_nil) (qms_cons (qm_lst qa_nil) (qms_cons (QE.mv qe_int) qms_nil))) rfl) (qss_cons (qs_while 1000000 (passes_of rfl) (qt_cmp cq_le (ke_add (K := K) (qe_var 3) qe_int) (ke_len (K := K) E.b_len (qa_cons (qe_var 0) qa_nil))) (qss_cons (qs_set (by decide) nd__law_read rfl (Or.inl rfl) (QE.mv (ke_sl (K := K) (qe_var 0) (qo_some (qe_var 3)) (qo_some (ke_add (K := K) (qe_var 3) qe_int))))) (qss_cons (qs_set (by decide) nd__law_read rfl (Or.inl rfl) (QE.mv (qe_if (kt_tru (K := K) (ke_all (K := K) E.b_all (qa_cons (QM.vw (qm_lc (own := [("sign", 7)]) rfl nd__law_read (ki_any (K := K) (qe_var 4)) rfl (fun _ _ _ _ _ => (qg_name nd__law_read rfl (by first | exact Or.inl rfl | exact Or.inr rfl))) (fun _ _ _ _ _ => qts_nil) (fun _ _ _ _ _ => (qe_chain cq_le cq_le (qe_str [48]) (qe_var 7) (qe_str [57]))))) qa_nil))) (qe_int_of E.b_int (qa_cons (qe_var 4) qa_nil)) qe_int))) (qss_cons (qs_set (by decide) nd__law_read rfl (Or.inl rfl) (QE.mv (ke_sl (K := K) (qe_var 0) (qo_some (qe_var 3)) (qo_some (ke_add (K := K) (ke_add (K := K) (qe_var 3) (qe_var 5)) qe_int))))) (qss_cons (qs_if (QW.qt (qw_or (qt_not (qt_chain cq_le cq_le qe_int (qe_var 5) qe_int)) (qw_or1 (qt_not (kt_tru (K := K) (QM.vw (km_call G__law_is_frame hg (hr.mono (by decide)) h__law_is_frame D__law_is_frame.kp (kb__law_is_frame D__law_is_frame) tk (qar_v (qe_var 6) (qar_v (ke_sl (K := K) (qe_var 6) (qo_some qe_int) (qo_some (qe_neg qe_int))) qar_nil)) (rlen_v (rlen_v rlen_nil))))))))) (qss_cons (QS.fz 1 (QS.fz 2 (qs_ret (QE.mv (qe_tup (qa_cons (qe_var 1) (qa_cons (qe_var 2) qa_nil))))))) qss_nil) qss_nil) (qss_cons (qs_set (by decide) nd__law_read rfl (Or.inl rfl) (QE.mv (ke_add (K := K) (ke_add (K := K) (qe_var 3) (qe_var 5)) qe_int))) (qss_cons (qs_app 1 (ke_sl (K := K) (qe_var 6) (qo_some qe_int) (qo_some (qe_neg qe_int)))) (qss_cons (qs_app 2 (qe_var 3)) qss_nil)))))))) (qss_cons (QS.fz 1 (QS.fz 2 (qs_ret (QE.mv (qe_tup (qa_cons (qe_var 1) (qa_cons (qe_var 2) qa_nil))))))) qss_nil)))⟩
theorem g__law_other_sign {P : Program} {w : World} {base : Heap} {K : PySem.W.Frag} {mg : Str → Option Value} (E : Fx K mg) : Callee P w base K mg "_law_other_sign" s__law_other_sign ["pot", "sign"] 1 2 3 f__law_other_sign := by
  obtain ⟨f, fd, D, hm⟩ := E.d__law_other_sign
  obtain ⟨_, _, D__law_pick, h__law_pick, G__law_pick⟩ := g__law_pick (P := P) (w := w) (base := base) E
  refine ⟨f, fd, D, hm, fn_ok 1 2 2 e__law_other_sign D sc__law_other_sign rfl rfl (by decide) fun cdv A outer sh H Ex hg hr tk => ?_⟩
  have hrx : ∃ k, Room k (A.deeper (envOfC "_law_other_sign" (defScope s__law_other_sign) sh.heap.objs.size f cdv)) := ⟨_, hr⟩
  exact ⟨_, (qss_cons (qs_setLcF (own := [("one", 3)]) rfl nd__law_other_sign rfl rfl (ki_any (K := K) (QM.vw (qm_lst (qa_cons (qe_str [48]) (qa_cons (qe_str [57]) (qa_cons (qe_str [53]) (qa_cons (qe_str [97]) (qa_cons (qe_str [32]) (qa_cons (qe_str [126]) (qa_cons (qe_str [10]) (qa_cons (qe_str [33]) (qa_cons (qe_str [90]) qa_nil)))))))))))) rfl (fun _ _ _ _ _ => (qg_name nd__law_other_sign rfl (by first | exact Or.inl rfl | exact Or.inr rfl))) (fun _ _ _ _ _ => (qts_one (qt_cmp (kq_ne (K := K) hrx) (qe_var 3) (qe_var 1)))) (fun _ _ _ _ _ => (qe_var 3))) (qss_cons (qs_ret (km_call G__law_pick hg (hr.mono (by decide)) h__law_pick D__law_pick.kp (kb__law_pick D__law_pick) tk (qar_p 0 (qar_v (qe_var 2) qar_nil)) (rlen_p (rlen_v rlen_nil)))) qss_nil))⟩
theorem g__law_body {P : Program} {w : World} {base : Heap} {K : PySem.W.Frag} {mg : Str → Option Value} (E : Fx K mg) : Callee P w base K mg "_law_body" s__law_body ["pot"] 1 1 3 f__law_body := by
  obtain ⟨f, fd, D, hm⟩ := E.d__law_body
  obtain ⟨_, _, D__law_draw, h__law_draw, G__law_draw⟩ := g__law_draw (P := P) (w := w) (base := base) E
  obtain ⟨_, _, D__law_pick, h__law_pick, G__law_pick⟩ := g__law_pick (P := P) (w := w) (base := base) E
  refine ⟨f, fd, D, hm, fn_ok 1 1 2 e__law_body D sc__law_body rfl rfl (by decide) fun cdv A outer sh H Ex hg hr tk => ?_⟩
  have hrx : ∃ k, Room k (A.deeper (envOfC "_law_body" (defScope s__law_body) sh.heap.objs.size f cdv)) := ⟨_, hr⟩
  exact ⟨_, (qss_cons (qs_set (by decide) nd__law_body rfl (Or.inr rfl) (QE.mv (QM.vw (qm_lst (qa_cons (qe_str [97]) (qa_cons (qe_str [48]) (qa_cons (qe_str [57]) (qa_cons (qe_str [32]) (qa_cons (qe_str [126]) (qa_cons (qe_str [10]) (qa_cons (qe_str [33]) (qa_cons (qe_str [101, 112, 111, 99, 104]) (qa_cons (qe_str [97, 115, 107, 32, 48, 32, 48]) (qa_cons (qe_str [48, 48, 49, 51, 57, 57, 56, 54]) qa_nil)))))))))))))) (qss_cons (qs_ret (QE.mv (ke_join (K := K) (qe_str []) (QM.vw (qm_lc (own := [("turn", 2)]) rfl nd__law_body (qi_range1 (qa_cons (ke_add (K := K) qe_int (QM.vw (km_call G__law_draw hg (hr.mono (by decide)) h__law_draw D__law_draw.kp (kb__law_draw D__law_draw) tk (qar_p 0 (qar_v qe_int qar_nil)) (rlen_p (rlen_v rlen_nil))))) qa_nil) E.b_range (len_cons len_nil)) rfl (fun _ _ _ _ _ => (qg_name nd__law_body rfl (by first | exact Or.inl rfl | exact Or.inr rfl))) (fun _ _ _ _ _ => qts_nil) (fun _ _ _ _ _ => (QM.vw (km_call G__law_pick hg (hr.mono (by decide)) h__law_pick D__law_pick.kp (kb__law_pick D__law_pick) takes0 (qar_p 0 (qar_v (qe_var 1) qar_nil)) (rlen_p (rlen_v rlen_nil)))))))))) qss_nil))⟩
theorem g_frame {P : Program} {w : World} {base : Heap} {K : PySem.W.Frag} {mg : Str → Option Value} (E : Fx K mg) : Callee P w base K mg "frame" s_frame ["body"] 0 1 4 f_frame := by
  obtain ⟨f, fd, D, hm⟩ := E.d_frame
  obtain ⟨_, _, D_frame_by, h_frame_by, G_frame_by⟩ := g_frame_by (P := P) (w := w) (base := base) E
  obtain ⟨_, _, D_is_body, h_is_body, G_is_body⟩ := g_is_body (P := P) (w := w) (base := base) E
  refine ⟨f, fd, D, hm, fn_ok 0 1 0 e_frame D sc_frame rfl rfl (by decide) fun cdv A outer sh H Ex hg hr tk => ?_⟩
  have hrx : ∃ k, Room k (A.deeper (envOfC "frame" (defScope s_frame) sh.heap.objs.size f cdv)) := ⟨_, hr⟩
  exact ⟨_, (qss_cons (qs_if (qt_not (kt_tru (K := K) (QM.vw (km_call G_is_body hg (hr.mono (by decide)) h_is_body D_is_body.kp (kb_is_body D_is_body) tk (qar_v (qe_var 0) qar_nil) (rlen_v rlen_nil))))) (qss_cons qs_never qss_nil) qss_nil) (qss_cons (qs_ret (km_call G_frame_by hg (hr.mono (by decide)) h_frame_by D_frame_by.kp (kb_frame_by D_frame_by) tk (qar_v (qe_var 0) qar_nil) (rlen_v rlen_nil))) qss_nil))⟩
theorem g_bodies_of {P : Program} {w : World} {base : Heap} {K : PySem.W.Frag} {mg : Str → Option Value} (E : Fx K mg) : Callee P w base K mg "bodies_of" s_bodies_of ["string"] 0 1 4 f_bodies_of := by
  obtain ⟨f, fd, D, hm⟩ := E.d_bodies_of
  obtain ⟨_, _, D_frames_in, h_frames_in, G_frames_in⟩ := g_frames_in (P := P) (w := w) (base := base) E
  refine ⟨f, fd, D, hm, fn_ok 0 1 2 e_bodies_of D sc_bodies_of rfl rfl (by decide) fun cdv A outer sh H Ex hg hr tk => ?_⟩
  have hrx : ∃ k, Room k (A.deeper (envOfC "bodies_of" (defScope s_bodies_of) sh.heap.objs.size f cdv)) := ⟨_, hr⟩
  exact ⟨_, (qss_cons (qs_if (qt_not (kt_tru (K := K) (ke_isi (K := K) E.b_isinstance (qa_cons (qe_var 0) (qa_cons (qe_cls E.b_str PyProof.Rows.boot_str) qa_nil))))) (qss_cons qs_never qss_nil) qss_nil) (qss_cons (qs_ret (qm_lc (own := [("body", 1), ("end", 2)]) rfl nd_bodies_of (ki_any (K := K) (QM.vw (km_call G_frames_in hg (hr.mono (by decide)) h_frames_in D_frames_in.kp (kb_frames_in D_frames_in) tk (qar_v (qe_var 0) qar_nil) (rlen_v rlen_nil)))) rfl (fun _ _ _ _ _ => (kg_tup (K := K) rfl (qgs_cons (qg_name nd_bodies_of rfl (by first | exact Or.inl rfl | exact Or.inr rfl)) (qgs_cons (qg_name nd_bodies_of rfl (by first | exact Or.inl rfl | exact Or.inr rfl)) qgs_nil)))) (fun _ _ _ _ _ => qts_nil) (fun _ _ _ _ _ => (qe_var 1)))) qss_nil))⟩
theorem g__law_burst {P : Program} {w : World} {base : Heap} {K : PySem.W.Frag} {mg : Str → Option Value} (E : Fx K mg) : Callee P w base K mg "_law_burst" s__law_burst ["pot", "string", "at"] 1 3 4 f__law_burst := by
  obtain ⟨f, fd, D, hm⟩ := E.d__law_burst
  obtain ⟨_, _, D__law_draw, h__law_draw, G__law_draw⟩ := g__law_draw (P := P) (w := w) (base := base) E
  obtain ⟨_, _, D__law_other_sign, h__law_other_sign, G__law_other_sign⟩ := g__law_other_sign (P := P) (w := w) (base := base) E
  refine ⟨f, fd, D, hm, fn_ok 1 3 2 e__law_burst D sc__law_burst rfl rfl (by decide) fun cdv A outer sh H Ex hg hr tk => ?_⟩
  have hrx : ∃ k, Room k (A.deeper (envOfC "_law_burst" (defScope s__law_burst) sh.heap.objs.size f cdv)) := ⟨_, hr⟩
  exact ⟨_, (qss_cons (qs_set (by decide) nd__law_burst rfl (Or.inl rfl) (QE.mv (qe_min E.b_min (qa_cons (qe_sub (ke_len (K := K) E.b_len (qa_cons (qe_var 1) qa_nil)) (qe_var 2)) (qa_cons (ke_add (K := K) qe_int (QM.vw (km_call G__law_draw hg (hr.mono (by decide)) h__law_draw D__law_draw.kp (kb__law_draw D__law_draw) tk (qar_p 0 (qar_v qe_int qar_nil)) (rlen_p (rlen_v rlen_nil))))) qa_nil))))) (qss_cons (qs_ret (QE.mv (ke_add (K := K) (ke_add (K := K) (ke_sl (K := K) (qe_var 1) qo_none (qo_some (qe_var 2))) (ke_join (K := K) (qe_str []) (QM.vw (qm_lc (own := [("sign", 4)]) rfl nd__law_burst (ki_any (K := K) (ke_sl (K := K) (qe_var 1) (qo_some (qe_var 2)) (qo_some (ke_add (K := K) (qe_var 2) (qe_var 3))))) rfl (fun _ _ _ _ _ => (qg_name nd__law_burst rfl (by first | exact Or.inl rfl | exact Or.inr rfl))) (fun _ _ _ _ _ => qts_nil) (fun _ _ _ _ _ => (QM.vw (km_call G__law_other_sign hg (hr.mono (by decide)) h__law_other_sign D__law_other_sign.kp (kb__law_other_sign D__law_other_sign) takes0 (qar_p 0 (qar_v (qe_var 4) qar_nil)) (rlen_p (rlen_v rlen_nil))))))))) (ke_sl (K := K) (qe_var 1) (qo_some (ke_add (K := K) (qe_var 2) (qe_var 3))) qo_none)))) qss_nil))⟩
theorem g__law_right {P : Program} {w : World} {base : Heap} {K : PySem.W.Frag} {mg : Str → Option Value} (E : Fx K mg) : Callee P w base K mg "_law_right" s__law_right ["pot", "late"] 2 2 5 f__law_right := by
  obtain ⟨f, fd, D, hm⟩ := E.d__law_right
  obtain ⟨_, _, D__law_body, h__law_body, G__law_body⟩ := g__law_body (P := P) (w := w) (base := base) E
  obtain ⟨_, _, D__law_burst, h__law_burst, G__law_burst⟩ := g__law_burst (P := P) (w := w) (base := base) E
  obtain ⟨_, _, D__law_draw, h__law_draw, G__law_draw⟩ := g__law_draw (P := P) (w := w) (base := base) E
  obtain ⟨_, _, D__law_is_frame, h__law_is_frame, G__law_is_frame⟩ := g__law_is_frame (P := P) (w := w) (base := base) E
  obtain ⟨_, _, D__law_read, h__law_read, G__law_read⟩ := g__law_read (P := P) (w := w) (base := base) E
  obtain ⟨_, _, D_bodies_of, h_bodies_of, G_bodies_of⟩ := g_bodies_of (P := P) (w := w) (base := base) E
  obtain ⟨_, _, D_frame, h_frame, G_frame⟩ := g_frame (P := P) (w := w) (base := base) E
  refine ⟨f, fd, D, hm, fn_ok 2 2 16 e__law_right D sc__law_right rfl rfl (by decide) fun cdv A outer sh H Ex hg hr tk => ?_⟩
  have hrx : ∃ k, Room k (A.deeper (envOfC "_law_right" (defScope s__law_right) sh.heap.objs.size f cdv)) := ⟨_, hr⟩
  exact ⟨_, (qss_cons (qs_setLcF (own := [("turn", 8)]) rfl nd__law_right rfl rfl (qi_range1 (qa_cons (ke_add (K := K) qe_int (QM.vw (km_call G__law_draw hg (hr.mono (by decide)) h__law_draw D__law_draw.kp (kb__law_draw D__law_draw) tk (qar_p 0 (qar_v qe_int qar_nil)) (rlen_p (rlen_v rlen_nil))))) qa_nil) E.b_range (len_cons len_nil)) rfl (fun _ _ _ _ _ => (qg_name nd__law_right rfl (by first | exact Or.inl rfl | exact Or.inr rfl))) (fun _ _ _ _ _ => qts_nil) (fun _ _ _ _ _ => (QM.vw (km_call G__law_body hg (hr.mono (by decide)) h__law_body D__law_body.kp (kb__law_body D__law_body) takes0 (qar_p 0 qar_nil) (rlen_p rlen_nil))))) (qss_cons (qs_setLcF (own := [("body", 16)]) rfl nd__law_right rfl rfl (ki_any (K := K) (qe_var 2)) rfl (fun _ _ _ _ _ => (qg_name nd__law_right rfl (by first | exact Or.inl rfl | exact Or.inr rfl))) (fun _ _ _ _ _ => qts_nil) (fun _ _ _ _ _ => (QM.vw (km_call G_frame hg (hr.mono (by decide)) h_frame D_frame.kp (kb_frame D_frame) takes0 (qar_v (qe_var 16) qar_nil) (rlen_v rlen_nil))))) (qss_cons (qs_if (QW.qt (qw_or (qt_not (kt_tru (K := K) (ke_all (K := K) E.b_all (qa_cons (QM.vw (qm_lc (own := [("one", 6), ("body", 16)]) rfl nd__law_right (ki_zip (K := K) (qa_cons (qe_var 3) (qa_cons (qe_var 2) qa_nil)) E.b_zip) rfl (fun _ _ _ _ _ => (kg_tup (K := K) rfl (qgs_cons (qg_name nd__law_right rfl (by first | exact Or.inl rfl | exact Or.inr rfl)) (qgs_cons (qg_name nd__law_right rfl (by first | exact Or.inl rfl | exact Or.inr rfl)) qgs_nil)))) (fun _ _ _ _ _ => qts_nil) (fun _ _ _ _ _ => (QM.vw (km_call G__law_is_frame hg (hr.mono (by decide)) h__law_is_frame D__law_is_frame.kp (kb__law_is_frame D__law_is_frame) takes0 (qar_v (qe_var 6) (qar_v (qe_var 16) qar_nil)) (rlen_v (rlen_v rlen_nil))))))) qa_nil)))) (qw_or1 (qt_cmp (kq_ne (K := K) hrx) (QM.vw (km_callk0 [0] G_frame hg (hr.mono (by decide)) h_frame D_frame.kp (kbk0_frame D_frame) tk (qkr_v (ke_ix (K := K) (qe_var 2) qe_int) qkr_nil) (rlen_v rlen_nil) (lk_kbk0_frame))) (ke_ix (K := K) (qe_var 3) qe_int))))) (qss_cons (qs_ret (QE.mv qe_bl)) qss_nil) qss_nil) (qss_cons (qs_par rfl nd__law_right rfl rfl (qms_cons (QE.mv (ke_join (K := K) (qe_str []) (qe_var 3))) (qms_cons (qm_lst (qa_cons qe_int qa_nil)) qms_nil)) rfl) (qss_cons (qs_for (passes_of rfl) rfl (ki_any (K := K) (qe_var 3)) (qg_name nd__law_right rfl (Or.inl rfl)) (qss_cons (qs_app 5 (ke_add (K := K) (QE.scope (ke_ix (K := K) (qe_var 5) (qe_neg qe_int))) (ke_len (K := K) E.b_len (qa_cons (qe_var 6) qa_nil)))) qss_nil)) (qss_cons (qs_set (by decide) nd__law_right rfl (Or.inl rfl) (km_call G_bodies_of hg (hr.mono (by decide)) h_bodies_of D_bodies_of.kp (kb_bodies_of D_bodies_of) tk (qar_v (qe_var 4) qar_nil) (rlen_v rlen_nil))) (qss_cons (qs_if (qt_cmp (kq_ne (K := K) hrx) (QE.scope (ke_repr (K := K) hg hrx E.b_repr (qa_cons (QM.vw (qm_lst (qa_cons (qe_var 7) (qa_cons (QM.vw (km_callk0 [0] G_bodies_of hg (hr.mono (by decide)) h_bodies_of D_bodies_of.kp (kbk1_bodies_of D_bodies_of) tk (qkr_v (qe_var 4) qkr_nil) (rlen_v rlen_nil) (lk_kbk1_bodies_of))) qa_nil)))) qa_nil))) (ke_repr (K := K) hg hrx E.b_repr (qa_cons (QM.vw (qm_lst (qa_cons (qe_var 2) (qa_cons (qe_var 2) qa_nil)))) qa_nil))) (qss_cons (qs_ret (QE.mv qe_bl)) qss_nil) qss_nil) (qss_cons (qs_app 7 qe_non) (qss_cons (qs_for (passes_of rfl) rfl (qi_range1 (qa_cons qe_int qa_nil) E.b_range (len_cons len_nil)) (qg_name nd__law_right rfl (Or.inl rfl)) (qss_cons (qs_set (by decide) nd__law_right rfl (Or.inr rfl) (QE.mv (QM.vw (km_call G__law_draw hg (hr.mono (by decide)) h__law_draw D__law_draw.kp (kb__law_draw D__law_draw) tk (qar_p 1 (qar_v (ke_len (K := K) E.b_len (qa_cons (qe_var 4) qa_nil)) qar_nil)) (rlen_p (rlen_v rlen_nil)))))) (qss_cons (QS.fz 5 (qs_par rfl nd__law_right rfl rfl (qms_cons (QE.mv (QM.vw (km_call G__law_burst hg (hr.mono (by decide)) h__law_burst D__law_burst.kp (kb__law_burst D__law_burst) tk (qar_p 1 (qar_v (qe_var 4) (qar_v (qe_var 9) qar_nil))) (rlen_p (rlen_v (rlen_v rlen_nil)))))) (qms_cons (QE.mv (ke_len (K := K) E.b_len (qa_cons (QM.vw (qm_lc (own := [("end", 17)]) rfl nd__law_right (ki_any (K := K) (ke_sl (K := K) (qe_var 5) (qo_some qe_int) qo_none)) rfl (fun _ _ _ _ _ => (qg_name nd__law_right rfl (by first | exact Or.inl rfl | exact Or.inr rfl))) (fun _ _ _ _ _ => (qts_one (qt_cmp cq_le (qe_var 17) (qe_var 9)))) (fun _ _ _ _ _ => (qe_var 17)))) qa_nil))) qms_nil)) rfl)) (qss_cons (qs_set (by decide) nd__law_right rfl (Or.inr rfl) (QE.mv (QM.vw (km_call G__law_draw hg (hr.mono (by decide)) h__law_draw D__law_draw.kp (kb__law_draw D__law_draw) tk (qar_p 1 (qar_v (ke_add (K := K) (ke_len (K := K) E.b_len (qa_cons (qe_var 4) qa_nil)) qe_int) qar_nil)) (rlen_p (rlen_v rlen_nil)))))) (qss_cons (qs_set (by decide) nd__law_right rfl (Or.inl rfl) (QE.mv (ke_sl (K := K) (qe_var 10) qo_none (qo_some (qe_var 12))))) (qss_cons (qs_set (by decide) nd__law_right rfl (Or.inl rfl) (QE.mv (ke_len (K := K) E.b_len (qa_cons (QM.vw (qm_lc (own := [("end", 17)]) rfl nd__law_right (ki_any (K := K) (ke_sl (K := K) (qe_var 5) (qo_some qe_int) qo_none)) rfl (fun _ _ _ _ _ => (qg_name nd__law_right rfl (by first | exact Or.inl rfl | exact Or.inr rfl))) (fun _ _ _ _ _ => (qts_one (qt_cmp cq_le (qe_var 17) (qe_min E.b_min (qa_cons (qe_var 9) (qa_cons (qe_var 12) qa_nil)))))) (fun _ _ _ _ _ => (qe_var 17)))) qa_nil)))) (qss_cons (qs_if (qt_cmp (kq_ne (K := K) hrx) (ke_repr (K := K) hg hrx E.b_repr (qa_cons (QM.vw (qm_lst (qa_cons (QM.vw (km_call G_bodies_of hg (hr.mono (by decide)) h_bodies_of D_bodies_of.kp (kb_bodies_of D_bodies_of) tk (qar_v (qe_var 10) qar_nil) (rlen_v rlen_nil))) (qa_cons (QM.vw (km_call G_bodies_of hg (hr.mono (by decide)) h_bodies_of D_bodies_of.kp (kb_bodies_of D_bodies_of) tk (qar_v (ke_sl (K := K) (qe_var 4) qo_none (qo_some (qe_var 12))) qar_nil) (rlen_v rlen_nil))) qa_nil)))) qa_nil)) (ke_repr (K := K) hg hrx E.b_repr (qa_cons (QM.vw (qm_lst (qa_cons (ke_sl (K := K) (qe_var 2) qo_none (qo_some (qe_var 11))) (qa_cons (ke_sl (K := K) (qe_var 2) qo_none (qo_some (ke_len (K := K) E.b_len (qa_cons (QM.vw (qm_lc (own := [("end", 17)]) rfl nd__law_right (ki_any (K := K) (ke_sl (K := K) (qe_var 5) (qo_some qe_int) qo_none)) rfl (fun _ _ _ _ _ => (qg_name nd__law_right rfl (by first | exact Or.inl rfl | exact Or.inr rfl))) (fun _ _ _ _ _ => (qts_one (qt_cmp cq_le (qe_var 17) (qe_var 12)))) (fun _ _ _ _ _ => (qe_var 17)))) qa_nil)))) qa_nil)))) qa_nil))) (qss_cons (qs_ret (QE.mv qe_bl)) qss_nil) qss_nil) (qss_cons (qs_if (qt_cmp (kq_ne (K := K) hrx) (ke_repr (K := K) hg hrx E.b_repr (qa_cons (QM.vw (km_call G_bodies_of hg (hr.mono (by decide)) h_bodies_of D_bodies_of.kp (kb_bodies_of D_bodies_of) tk (qar_v (qe_var 13) qar_nil) (rlen_v rlen_nil))) qa_nil)) (ke_repr (K := K) hg hrx E.b_repr (qa_cons (ke_sl (K := K) (qe_var 2) qo_none (qo_some (qe_var 14))) qa_nil))) (qss_cons (qs_ret (QE.mv qe_bl)) qss_nil) qss_nil) qss_nil)))))))) (qss_cons (qs_for (passes_of rfl) rfl (ki_any (K := K) (QM.vw (qm_lst (qa_cons (ke_add (K := K) (qe_var 4) (QM.vw (km_call G__law_body hg (hr.mono (by decide)) h__law_body D__law_body.kp (kb__law_body D__law_body) tk (qar_p 1 qar_nil) (rlen_p rlen_nil)))) (qa_cons (ke_add (K := K) (QM.vw (km_call G__law_body hg (hr.mono (by decide)) h__law_body D__law_body.kp (kb__law_body D__law_body) tk (qar_p 1 qar_nil) (rlen_p rlen_nil))) (qe_var 4)) (qa_cons (ke_sl (K := K) (qe_var 4) (qo_some (QM.vw (km_call G__law_draw hg (hr.mono (by decide)) h__law_draw D__law_draw.kp (kb__law_draw D__law_draw) tk (qar_p 1 (qar_v qe_int qar_nil)) (rlen_p (rlen_v rlen_nil))))) qo_none) (qa_cons (ke_add (K := K) (ke_ix (K := K) (qe_var 3) qe_int) (ke_sl (K := K) (ke_ix (K := K) (qe_var 3) qe_int) qo_none (qo_some (qe_neg qe_int)))) (qa_cons (qe_str []) qa_nil)))))))) (qg_name nd__law_right rfl (Or.inl rfl)) (qss_cons (qs_if (qt_cmp (kq_ne (K := K) hrx) (ke_repr (K := K) hg hrx E.b_repr (qa_cons (QM.vw (km_call G_bodies_of hg (hr.mono (by decide)) h_bodies_of D_bodies_of.kp (kb_bodies_of D_bodies_of) tk (qar_v (qe_var 15) qar_nil) (rlen_v rlen_nil))) qa_nil)) (ke_repr (K := K) hg hrx E.b_repr (qa_cons (ke_ix (K := K) (QM.vw (km_call G__law_read hg (hr.mono (by decide)) h__law_read D__law_read.kp (kb__law_read D__law_read) tk (qar_v (qe_var 15) qar_nil) (rlen_v rlen_nil))) qe_int) qa_nil))) (qss_cons (qs_ret (QE.mv qe_bl)) qss_nil) qss_nil) qss_nil)) (qss_cons (qs_ret (QE.mv (qe_cmp (kq_eq (K := K) hrx) (ke_repr (K := K) hg hrx E.b_repr (qa_cons (QM.vw (km_call G_bodies_of hg (hr.mono (by decide)) h_bodies_of D_bodies_of.kp (kb_bodies_of D_bodies_of) tk (qar_v (qe_var 4) qar_nil) (rlen_v rlen_nil))) qa_nil)) (ke_repr (K := K) hg hrx E.b_repr (qa_cons (qe_var 2) qa_nil))))) qss_nil)))))))))))⟩
theorem g_law {P : Program} {w : World} {base : Heap} {K : PySem.W.Frag} {mg : Str → Option Value} (E : Fx K mg) : Callee P w base K mg "law" s_law ["script"] 0 1 6 f_law := by
  obtain ⟨f, fd, D, hm⟩ := E.d_law
  obtain ⟨_, _, D__law_is_frame, h__law_is_frame, G__law_is_frame⟩ := g__law_is_frame (P := P) (w := w) (base := base) E
  obtain ⟨_, _, D__law_pick, h__law_pick, G__law_pick⟩ := g__law_pick (P := P) (w := w) (base := base) E
  obtain ⟨_, _, D__law_pot, h__law_pot, G__law_pot⟩ := g__law_pot (P := P) (w := w) (base := base) E
  obtain ⟨_, _, D__law_right, h__law_right, G__law_right⟩ := g__law_right (P := P) (w := w) (base := base) E
  obtain ⟨_, _, D_bodies_of, h_bodies_of, G_bodies_of⟩ := g_bodies_of (P := P) (w := w) (base := base) E
  obtain ⟨_, _, D_frame, h_frame, G_frame⟩ := g_frame (P := P) (w := w) (base := base) E
  refine ⟨f, fd, D, hm, fn_ok 0 1 4 e_law D sc_law rfl rfl (by decide) fun cdv A outer sh H Ex hg hr tk => ?_⟩
  have hrx : ∃ k, Room k (A.deeper (envOfC "law" (defScope s_law) sh.heap.objs.size f cdv)) := ⟨_, hr⟩
  exact ⟨_, (qss_cons (qs_parT rfl (qms_cons (km_call G__law_pot hg (hr.mono (by decide)) h__law_pot D__law_pot.kp (kb__law_pot D__law_pot) tk (qar_v (qe_var 0) (qar_v qe_int qar_nil)) (rlen_v (rlen_v rlen_nil))) (qms_cons (km_call G__law_pot hg (hr.mono (by decide)) h__law_pot D__law_pot.kp (kb__law_pot D__law_pot) tk (qar_v (qe_var 0) (qar_v qe_int qar_nil)) (rlen_v (rlen_v rlen_nil))) qms_nil)) (pgn_cons nd_law rfl (Or.inr rfl) (pgn_cons nd_law rfl (Or.inr rfl) PGN.nil))) (qss_cons (qs_set (by decide) nd_law rfl (Or.inl rfl) (QE.mv (qe_mul (QM.vw (km_call G__law_pick hg (hr.mono (by decide)) h__law_pick D__law_pick.kp (kb__law_pick D__law_pick) tk (qar_p 1 (qar_v (QM.vw (qm_lst (qa_cons (qe_str [97]) (qa_cons (qe_str [126]) (qa_cons (qe_str [10]) qa_nil))))) qar_nil)) (rlen_p (rlen_v rlen_nil)))) qe_int))) (qss_cons (qs_if (QW.qt (qw_or (qt_not (kt_tru (K := K) (QM.vw (km_call G__law_is_frame hg (hr.mono (by decide)) h__law_is_frame D__law_is_frame.kp (kb__law_is_frame D__law_is_frame) tk (qar_v (QM.vw (km_call G_frame hg (hr.mono (by decide)) h_frame D_frame.kp (kb_frame D_frame) tk (qar_v (qe_var 3) qar_nil) (rlen_v rlen_nil))) (qar_v (qe_var 3) qar_nil)) (rlen_v (rlen_v rlen_nil)))))) (qw_or1 (qt_cmp (kq_ne (K := K) hrx) (QM.vw (km_call G_bodies_of hg (hr.mono (by decide)) h_bodies_of D_bodies_of.kp (kb_bodies_of D_bodies_of) tk (qar_v (ke_add (K := K) (QM.vw (km_call G_frame hg (hr.mono (by decide)) h_frame D_frame.kp (kb_frame D_frame) tk (qar_v (qe_var 3) qar_nil) (rlen_v rlen_nil))) (QM.vw (km_call G_frame hg (hr.mono (by decide)) h_frame D_frame.kp (kb_frame D_frame) tk (qar_v (qe_str [98]) qar_nil) (rlen_v rlen_nil)))) qar_nil) (rlen_v rlen_nil))) (QM.vw (qm_lst (qa_cons (qe_var 3) (qa_cons (qe_str [98]) qa_nil)))))))) (qss_cons (qs_ret (QE.mv qe_bl)) qss_nil) qss_nil) (qss_cons (qs_ret (QE.mv (ke_all (K := K) E.b_all (qa_cons (QM.vw (qm_lc (own := [("turn", 4)]) rfl nd_law (qi_range1 (qa_cons qe_int qa_nil) E.b_range (len_cons len_nil)) rfl (fun _ _ _ _ _ => (qg_name nd_law rfl (by first | exact Or.inl rfl | exact Or.inr rfl))) (fun _ _ _ _ _ => qts_nil) (fun _ _ _ _ _ => (QM.vw (km_call G__law_right hg (hr.mono (by decide)) h__law_right D__law_right.kp (kb__law_right D__law_right) takes0 (qar_p 1 (qar_p 2 qar_nil)) (rlen_p (rlen_p rlen_nil))))))) qa_nil)))) qss_nil))))⟩
end K77

set_option Elab.async false
set_option linter.all false
set_option maxRecDepth 100000
set_option maxHeartbeats 4000000
namespace K77
open PySem PySem.Spec PyProof.Rows L2 Mv

/-! ### signs and their numbers -/
def sg (c : Nat) : Bool := c == 10 || (decide (32 ≤ c) && decide (c ≤ 126))
def num (c : Nat) : Int := if c = 10 then 95 else (c : Int) - 32
theorem num_lt {c : Nat} (h : sg c = true) : 0 ≤ num c ∧ num c < 96 := by
  unfold sg at h
  unfold num
  simp at h
  split <;> omega
theorem num_inj {c d : Nat} (hc : sg c = true) (hd : sg d = true) (h : num c = num d) : c = d := by
  unfold sg at hc hd
  unfold num at h
  simp at hc hd
  split at h <;> split at h <;> omega
theorem f_number_of_eq (c : Nat) : f_number_of [.fz (.str [c])] = .ok (.fz (.int (num c))) [] := by
  rw [r_number_of]
  unfold e_number_of num
  by_cases h : c = 10
  · subst h; simp
  · simp [h]
theorem f_law_number_eq (c : Nat) : f__law_number [.fz (.str [c])] = .ok (.fz (.int (num c))) [] := by
  rw [r__law_number]
  unfold e__law_number num
  by_cases h : c = 10
  · subst h; simp
  · simp [h]
theorem f_are_signs_eq (s : Tx) (hl : s.length ≤ 16777216) : f_are_signs [.fz (.str s)] = .ok (.fz (.bl (s.all sg))) [] := by
  rw [r_are_signs]
  unfold e_are_signs
  have h : ∀ acc, lcGo (gN 1) sYes (eOr (eOp pEq (eVar 1) (SE.ret (.str [10]))) (eChain pLe pLe (SE.ret (.str [32])) (eVar 1) (SE.ret (.str [126])))) [1] (s.map fun c => .str [c]) acc [some (.fz (.str s)), none] = some (acc ++ s.map (fun c => .bl (sg c)), [some (.fz (.str s)), none]) := fun acc => by
    have := lcGo_pure (g := gN 1) (tt := sYes) (te := eOr (eOp pEq (eVar 1) (SE.ret (.str [10]))) (eChain pLe pLe (SE.ret (.str [32])) (eVar 1) (SE.ret (.str [126])))) (vs := [1]) (ρ := [some (.fz (.str s)), none]) (f := fun p => match p with | .str [c] => .bl (sg c) | _ => .non) (items := s.map fun c => .str [c]) (acc := acc) (fun p hp => by
      obtain ⟨c, _, rfl⟩ := List.mem_map.mp hp
      refine ⟨[some (.fz (.str s)), some (.fz (.str [c]))], [some (.fz (.str s)), some (.fz (.str [c]))], [some (.fz (.str s)), some (.fz (.str [c]))], by simp, by simp, ?_, by simp⟩
      simp only [eOr_ap, eBool_ap, eOp_ap, eVar_ap, ret_ap, pEq_str, eChain_ap, pLe_str]
      by_cases h : c = 10
      · subst h; simp [sg]
      · by_cases h2 : c < 32
        · simp [sg, h, lt1, h2]; omega
        · have h3 : 32 ≤ c := by omega
          by_cases h4 : 126 < c
          · simp [sg, h, lt1, h2, h4, h3]
          · simp [sg, h, lt1, h2, h4, h3]; omega)
    rw [this, List.map_map]
    rfl
  simp [hl, h, pAll_map]
/-! ### the head: a size in four figures, and what each lacks to nine -/
def pad4 (n : Nat) : Tx := [48 + n / 1000 % 10, 48 + n / 100 % 10, 48 + n / 10 % 10, 48 + n % 10]
def headT (n : Nat) : Tx := pad4 n ++ (pad4 n).map fun d => 105 - d
theorem pad_num (n : Nat) (h : n < 10000) : (TL.numL n).length ≤ 4 ∧ 1 ≤ (TL.numL n).length ∧ (List.replicate (4 - (TL.numL n).length) 48) ++ TL.numL n = pad4 n := by
  unfold pad4
  by_cases h1 : n < 10
  · rw [TL.numL_lt h1]
    refine ⟨by simp, by simp, ?_⟩
    simp [List.replicate]
    omega
  · rw [TL.numL_step (by omega)]
    by_cases h2 : n < 100
    · rw [TL.numL_lt (show n / 10 < 10 by omega)]
      refine ⟨by simp, by simp, ?_⟩
      simp [List.replicate]
      omega
    · rw [TL.numL_step (show 10 ≤ n / 10 by omega)]
      by_cases h3 : n < 1000
      · rw [TL.numL_lt (show n / 10 / 10 < 10 by omega)]
        refine ⟨by simp, by simp, ?_⟩
        simp [List.replicate]
        omega
      · rw [TL.numL_step (show 10 ≤ n / 10 / 10 by omega), TL.numL_lt (show n / 10 / 10 / 10 < 10 by omega)]
        refine ⟨by simp, by simp, ?_⟩
        simp [List.replicate]
        omega
theorem int_digit (d : Nat) (h : d < 10) : PySem.intText? (mkS [48 + d]) = some (d : Int) := by
  have := PySem.intText_digits (x := mkS [48 + d]) (fun c hc => by
    have : c ∈ [48 + d] := hc
    simp at this
    omega) (by simp [mkS]) (by show [48 + d].toArray.size ≤ 4300; simp)
  rw [this]
  simp [mkS, PySem.NumText.digitsVal]
theorem log_small (n : Nat) (h : n < 10000) : Nat.log2 n < 1920 := by
  by_cases h0 : n = 0
  · subst h0; decide
  · exact Nat.lt_of_lt_of_le ((Nat.log2_lt h0).mpr (show n < 2 ^ 14 by omega)) (by decide)
theorem f_head_of_eq (n : Nat) (h : n < 10000) : f_head_of [.fz (.int n)] = .ok (.fz (.str (headT n))) [] := by
  rw [r_head_of]
  unfold e_head_of
  obtain ⟨h1, h2, h3⟩ := pad_num n h
  have hlog := log_small n h
  have ec : ∀ acc, lcGo (gN 2) sYes (eOp pIx (SE.ret (.str [48, 49, 50, 51, 52, 53, 54, 55, 56, 57])) (eOp pSub (SE.ret (.int 9)) (eCB (one pInt) (aCons (eVar 2) aNil)))) [2] ((pad4 n).map fun c => .str [c]) acc [some (.fz (.int n)), some (.fz (.str (pad4 n))), none] = some (acc ++ (pad4 n).map (fun d => .str [105 - d]), [some (.fz (.int n)), some (.fz (.str (pad4 n))), none]) := fun acc => by
    have := lcGo_pure (g := gN 2) (tt := sYes) (te := eOp pIx (SE.ret (.str [48, 49, 50, 51, 52, 53, 54, 55, 56, 57])) (eOp pSub (SE.ret (.int 9)) (eCB (one pInt) (aCons (eVar 2) aNil)))) (vs := [2]) (ρ := [some (.fz (.int n)), some (.fz (.str (pad4 n))), none]) (f := fun p => match p with | .str [c] => .str [105 - c] | _ => .non) (items := (pad4 n).map fun c => .str [c]) (acc := acc) (fun p hp => by
      obtain ⟨c, hc, rfl⟩ := List.mem_map.mp hp
      have hd : ∃ d, c = 48 + d ∧ d < 10 := by
        unfold pad4 at hc
        simp at hc
        rcases hc with rfl | rfl | rfl | rfl
        · exact ⟨_, rfl, by omega⟩
        · exact ⟨_, rfl, by omega⟩
        · exact ⟨_, rfl, by omega⟩
        · exact ⟨_, rfl, by omega⟩
      obtain ⟨d, rfl, hd⟩ := hd
      refine ⟨[some (.fz (.int n)), some (.fz (.str (pad4 n))), some (.fz (.str [48 + d]))], [some (.fz (.int n)), some (.fz (.str (pad4 n))), some (.fz (.str [48 + d]))], [some (.fz (.int n)), some (.fz (.str (pad4 n))), some (.fz (.str [48 + d]))], by simp, by simp, ?_, by simp⟩
      have e9 : (9 : Int) - (d : Int) = ((9 - d : Nat) : Int) := by omega
      simp [int_digit d hd, e9]
      rw [at_nat _ _ (by simp; omega)]
      have : ∀ d < 10, [48, 49, 50, 51, 52, 53, 54, 55, 56, 57][9 - d]? = some (105 - (48 + d)) := by decide
      have q := this d hd
      rw [List.getElem?_eq_getElem (by simp; omega)] at q
      simp at q
      simp [q])
    rw [this, List.map_map]
    rfl
  have e1 : ((4 : Int) - ((TL.numL n).length : Int)).toNat = 4 - (TL.numL n).length := by omega
  have hp : (pad4 n).length = 4 := rfl
  have e2 : (List.replicate (4 - (TL.numL n).length) [48]).flatten = List.replicate (4 - (TL.numL n).length) 48 := by
    generalize 4 - (TL.numL n).length = k
    induction k with
    | zero => rfl
    | succ k ih => rw [List.replicate_succ, List.flatten_cons, ih, List.replicate_succ]; rfl
  have hl : (TL.numL n).length ≤ 16777216 := by omega
  have c1 : (4 - (TL.numL n).length : Nat) ≤ 16777216 := by omega
  have c2 : (-1000000000 : Int) ≤ 4 - ((TL.numL n).length : Int) ∧ (4 : Int) - ((TL.numL n).length : Int) ≤ 1000000000 := by omega
  have c3 : 4 - (TL.numL n).length + (TL.numL n).length ≤ 16777216 := by omega
  have s1 := sum1 (fun d => 105 - d) (pad4 n)
  have s2 := flat1 (fun d => 105 - d) (pad4 n)
  rw [hp] at s1
  simp [hlog, numT_nat, hl, e1, c1, c2, e2, c3, h3, ec, hp, pJoin_mapf (f := fun d => [105 - d]), joinT_nil, s1, s2, headT, -List.map_map]
end K77

set_option Elab.async false
set_option linter.all false
set_option maxRecDepth 100000
set_option maxHeartbeats 4000000
namespace K77
open PySem PySem.Spec PyProof.Rows L2 Mv
/-- the sum of the numbers at the places that are k of four; p: the first one's place -/
def sumF : Nat → Tx → Nat → Int
  | _, [], _ => 0
  | p, c :: r, k => (if p % 4 = k then num c else 0) + sumF (p + 1) r k
def chN (m : Int) : Nat := if (m % 96).toNat = 95 then 10 else 32 + (m % 96).toNat
def tailT (b : Tx) : Tx := [chN (-sumF 0 b (b.length % 4)), chN (-sumF 0 b ((b.length + 1) % 4)), chN (-sumF 0 b ((b.length + 2) % 4)), chN (-sumF 0 b ((b.length + 3) % 4))]
/-- four sums -/
def ml4 (f : Nat → Int) : MV := .ml [.fz (.int (f 0)), .fz (.int (f 1)), .fz (.int (f 2)), .fz (.int (f 3))]
def bodyT1 : SE Out := (sSeq (sAugIx 1 (eOp pMod (eCB (one pInt) (aCons (eOp pAdd (SE.ret (.int 8)) (eVar 3)) aNil)) (SE.ret (.int 4))) (vw (eCall f_number_of @gPos (rV (eVar 4) rNil) rNil)) pIAdd) sNil)
def tgT1 : PV → Mv.Env → Option Mv.Env := (gTp 2 (gCn (gN 3) (gCn (gN 4) gNl)))
theorem turnT1 (B fnd : Option MV) (f : Nat → Int) (p c : Nat) (j5 j6 : Option MV) :
    bodyT1 [B, some (ml4 f), fnd, some (.fz (.int p)), some (.fz (.str [c])), j5, j6] = .ok .nx [B, some (ml4 fun k => f k + if p % 4 = k then num c else 0), fnd, some (.fz (.int p)), some (.fz (.str [c])), j5, j6] := by
  have e : ((8 : Int) + (p : Int)) % 4 = ((p % 4 : Nat) : Int) := by omega
  have h4 : p % 4 = 0 ∨ p % 4 = 1 ∨ p % 4 = 2 ∨ p % 4 = 3 := by omega
  unfold bodyT1 ml4
  rcases h4 with h | h | h | h <;> simp [e, h, f_number_of_eq, atI, ixN]
theorem loopT1 (B fnd : Option MV) : ∀ (s : Tx) (p : Nat) (f : Nat → Int) (j3 j4 j5 j6 : Option MV), ∃ j3' j4', forL tgT1 bodyT1 (enumP p s) [B, some (ml4 f), fnd, j3, j4, j5, j6] = .ok .nx [B, some (ml4 fun k => f k + sumF p s k), fnd, j3', j4', j5, j6]
  | [], p, f, j3, j4, j5, j6 => ⟨j3, j4, by simp [enumP_nil, sumF]⟩
  | c :: s, p, f, j3, j4, j5, j6 => by
    obtain ⟨j3', j4', ih⟩ := loopT1 B fnd s (p + 1) (fun k => f k + if p % 4 = k then num c else 0) (some (.fz (.int p))) (some (.fz (.str [c]))) j5 j6
    refine ⟨j3', j4', ?_⟩
    rw [enumP_cons, forL_ap]
    have e : tgT1 (.tup [.int (p : Int), .str [c]]) [B, some (ml4 f), fnd, j3, j4, j5, j6] = some [B, some (ml4 f), fnd, some (.fz (.int p)), some (.fz (.str [c])), j5, j6] := by
      unfold tgT1
      simp
    rw [e, oth_some, turnT1, lpO_nx, ih]
    have ek : (fun k => (f k + if p % 4 = k then num c else 0) + sumF (p + 1) s k) = fun k => f k + sumF p (c :: s) k := by
      funext k
      rw [sumF]
      omega
    rw [ek]
theorem at4 {α : Type} (a b c d : α) : atI [a, b, c, d] 0 = some a ∧ atI [a, b, c, d] 1 = some b ∧ atI [a, b, c, d] 2 = some c ∧ atI [a, b, c, d] 3 = some d := ⟨rfl, rfl, rfl, rfl⟩
theorem ix_signs : ∀ m : Nat, m < 95 → ([32, 33, 34, 35, 36, 37, 38, 39, 40, 41, 42, 43, 44, 45, 46, 47, 48, 49, 50, 51, 52, 53, 54, 55, 56, 57, 58, 59, 60, 61, 62, 63, 64, 65, 66, 67, 68, 69, 70, 71, 72, 73, 74, 75, 76, 77, 78, 79, 80, 81, 82, 83, 84, 85, 86, 87, 88, 89, 90, 91, 92, 93, 94, 95, 96, 97, 98, 99, 100, 101, 102, 103, 104, 105, 106, 107, 108, 109, 110, 111, 112, 113, 114, 115, 116, 117, 118, 119, 120, 121, 122, 123, 124, 125, 126] : List Nat)[m]? = some (32 + m) := by decide
def signsL : Tx := [32, 33, 34, 35, 36, 37, 38, 39, 40, 41, 42, 43, 44, 45, 46, 47, 48, 49, 50, 51, 52, 53, 54, 55, 56, 57, 58, 59, 60, 61, 62, 63, 64, 65, 66, 67, 68, 69, 70, 71, 72, 73, 74, 75, 76, 77, 78, 79, 80, 81, 82, 83, 84, 85, 86, 87, 88, 89, 90, 91, 92, 93, 94, 95, 96, 97, 98, 99, 100, 101, 102, 103, 104, 105, 106, 107, 108, 109, 110, 111, 112, 113, 114, 115, 116, 117, 118, 119, 120, 121, 122, 123, 124, 125, 126]
theorem signsL_len : signsL.length = 95 := rfl
theorem ix_signsL (m : Int) (h0 : 0 ≤ m) (h : m < 95) : atI signsL m = some (32 + m.toNat) := by
  rw [atI_pos _ h0 (by rw [signsL_len]; omega)]
  have := ix_signs m.toNat (by omega)
  have e := List.getElem?_eq_getElem (l := signsL) (i := m.toNat) (by rw [signsL_len]; omega)
  rw [← e]
  exact this
def bodyT2 : SE Out := (sSeq (sFz 1 (sSet 5 (Mv.mv (eOp pIx (eVar 1) (eOp pMod (eCB (one pInt) (aCons (eOp pAdd (eOp pAdd (SE.ret (.int 8)) (eCB (one pLen) (aCons (eVar 0) aNil))) (eVar 3)) aNil)) (SE.ret (.int 4))))))) (sSeq (sSet 6 (Mv.mv (eOp pMod (eCB (one pInt) (aCons (eOp pSub (SE.ret (.int 0)) (eVar 5)) aNil)) (SE.ret (.int 96))))) (sSeq (sSet 2 (Mv.mv (eOp pAdd (eVar 2) (eIf (eBool (eOp pEq (eVar 6) (eOp pSub (SE.ret (.int 96)) (SE.ret (.int 1))))) (SE.ret (.str [10])) (eOp pIx (SE.ret (.str signsL)) (eVar 6)))))) sNil)))
theorem e_tail_of_eq : e_tail_of = sSeq (sPar [1, 2] (mCons (eRep (vw (eLst (aCons (SE.ret (.int 0)) aNil))) (SE.ret (.int 4))) (mCons (Mv.mv (SE.ret (.str []))) mNil))) (sSeq (sFor (sEnum (aCons (eVar 0) aNil)) tgT1 bodyT1) (sSeq (sFor (sRng (aCons (SE.ret (.int 4)) aNil)) (gN 3) bodyT2) (sSeq (sRet (Mv.mv (eVar 2))) sNil))) := rfl
theorem turnT2 (b fnd : Tx) (f : Nat → Int) (X : MV) (hX : X.view = (ml4 f).view) (hb : b.length ≤ 16777216) (hf : fnd.length ≤ 10) (p : Nat) (j4 j5 j6 : Option MV) :
    ∃ j5' j6', bodyT2 [some (.fz (.str b)), some X, some (.fz (.str fnd)), some (.fz (.int p)), j4, j5, j6] = .ok .nx [some (.fz (.str b)), some (.fz (ml4 f).view), some (.fz (.str (fnd ++ [chN (-f ((b.length + p) % 4))]))), some (.fz (.int p)), j4, j5', j6'] := by
  have e : ((8 : Int) + (b.length : Int) + (p : Int)) % 4 = (((b.length + p) % 4 : Nat) : Int) := by omega
  have h4 : (b.length + p) % 4 = 0 ∨ (b.length + p) % 4 = 1 ∨ (b.length + p) % 4 = 2 ∨ (b.length + p) % 4 = 3 := by omega
  have hf2 : fnd.length + 1 ≤ 16777216 := by omega
  refine ⟨some (.fz (.int (f ((b.length + p) % 4)))), some (.fz (.int (-f ((b.length + p) % 4) % 96))), ?_⟩
  have key : ∀ m : Int, chN (-m) = if -m % 96 = 95 then 10 else 32 + (-m % 96).toNat := fun m => by
    unfold chN
    by_cases h : -m % 96 = 95
    · rw [if_pos (by rw [h]; rfl), if_pos h]
    · rw [if_neg (by omega), if_neg h]
  have step : ∀ m : Int, -m % 96 ≠ 95 → atI signsL (-m % 96) = some (32 + (-m % 96).toNat) := fun m h => ix_signsL _ (by omega) (by omega)
  unfold bodyT2
  rcases h4 with h | h | h | h <;>
  · simp only [h] at e
    simp [hX, e, h, hb, ml4, at4]
    rw [key]
    first
      | by_cases h95 : -f 0 % 96 = 95
        · simp [h95, hf2]
          done
        · simp [h95, hf2, signsL_len, step _ h95]
          done
      | by_cases h95 : -f 1 % 96 = 95
        · simp [h95, hf2]
          done
        · simp [h95, hf2, signsL_len, step _ h95]
          done
      | by_cases h95 : -f 2 % 96 = 95
        · simp [h95, hf2]
          done
        · simp [h95, hf2, signsL_len, step _ h95]
          done
      | by_cases h95 : -f 3 % 96 = 95
        · simp [h95, hf2]
          done
        · simp [h95, hf2, signsL_len, step _ h95]
          done
theorem f_tail_of_eq (b : Tx) (hb : b.length ≤ 16777216) : f_tail_of [.fz (.str b)] = .ok (.fz (.str (tailT b))) [] := by
  rw [r_tail_of, e_tail_of_eq]
  obtain ⟨j3, j4, e1⟩ := loopT1 (some (.fz (.str b))) (some (.fz (.str []))) b 0 (fun _ => 0) none none none none
  have ez : (fun k => (0 : Int) + sumF 0 b k) = fun k => sumF 0 b k := funext fun k => by omega
  rw [ez] at e1
  have er : rngL 0 4 = [.int ((0 : Nat) : Int), .int ((1 : Nat) : Int), .int ((2 : Nat) : Int), .int ((3 : Nat) : Int)] := by rfl
  have s1 : (sPar [1, 2] (mCons (eRep (vw (eLst (aCons (SE.ret (.int 0)) aNil))) (SE.ret (.int 4))) (mCons (Mv.mv (SE.ret (.str []))) mNil))) [some (.fz (.str b)), none, none, none, none, none, none] = .ok .nx [some (.fz (.str b)), some (ml4 fun _ => 0), some (.fz (.str [])), none, none, none, none] := by
    simp [ml4, List.replicate]
  have s2 : (sFor (sEnum (aCons (eVar 0) aNil)) tgT1 bodyT1) [some (.fz (.str b)), some (ml4 fun _ => 0), some (.fz (.str [])), none, none, none, none] = .ok .nx [some (.fz (.str b)), some (ml4 fun k => sumF 0 b k), some (.fz (.str [])), j3, j4, none, none] := by
    rw [← e1]
    simp [enum_0]
  obtain ⟨a5, a6, t0⟩ := turnT2 b [] (fun k => sumF 0 b k) (ml4 fun k => sumF 0 b k) rfl hb (by simp) 0 j4 none none
  obtain ⟨b5, b6, t1⟩ := turnT2 b [chN (-sumF 0 b ((b.length + 0) % 4))] (fun k => sumF 0 b k) (.fz (ml4 fun k => sumF 0 b k).view) (by simp) hb (by simp) 1 j4 a5 a6
  obtain ⟨c5, c6, t2⟩ := turnT2 b [chN (-sumF 0 b ((b.length + 0) % 4)), chN (-sumF 0 b ((b.length + 1) % 4))] (fun k => sumF 0 b k) (.fz (ml4 fun k => sumF 0 b k).view) (by simp) hb (by simp) 2 j4 b5 b6
  obtain ⟨d5, d6, t3⟩ := turnT2 b [chN (-sumF 0 b ((b.length + 0) % 4)), chN (-sumF 0 b ((b.length + 1) % 4)), chN (-sumF 0 b ((b.length + 2) % 4))] (fun k => sumF 0 b k) (.fz (ml4 fun k => sumF 0 b k).view) (by simp) hb (by simp) 3 j4 c5 c6
  have s3 : (sFor (sRng (aCons (SE.ret (.int 4)) aNil)) (gN 3) bodyT2) [some (.fz (.str b)), some (ml4 fun k => sumF 0 b k), some (.fz (.str [])), j3, j4, none, none] = .ok .nx [some (.fz (.str b)), some (.fz (ml4 fun k => sumF 0 b k).view), some (.fz (.str (tailT b))), some (.fz (.int ((3 : Nat) : Int))), j4, d5, d6] := by
    simp only [List.nil_append, List.cons_append] at t0 t1 t2 t3
    have hr : -(2 ^ 62 : Int) ≤ 4 ∧ (4 : Int) < 2 ^ 62 := by decide
    simp only [sFor_ap, sRng_ap, aCons_ap, ret_ap, aNil_ap, th_ok, rngOf_1, er, hr, and_self, if_true, ofO_some, forL_ap, gN_ap, List.length_cons, List.length_nil, List.set_cons_succ, List.set_cons_zero, forL_nil, oth_some, t0, lpO_nx, t1, t2, t3, Nat.reduceLT, Nat.reduceAdd]
    rfl
  rw [sSeq_ap, s1, nxt_nx, sSeq_ap, s2, nxt_nx, sSeq_ap, s3, nxt_nx]
  simp
end K77

set_option Elab.async false
set_option linter.all false
set_option maxRecDepth 100000
set_option maxHeartbeats 4000000
namespace K77
open PySem PySem.Spec PyProof.Rows L2 Mv
def okB (b : Tx) : Prop := 1 ≤ b.length ∧ b.length ≤ 5000 ∧ b.all sg = true
def frT (b : Tx) : Tx := headT b.length ++ b ++ tailT b
theorem headT_len (n : Nat) : (headT n).length = 8 := rfl
theorem tailT_len (b : Tx) : (tailT b).length = 4 := rfl
theorem frT_len (b : Tx) : (frT b).length = b.length + 12 := by
  unfold frT
  rw [List.length_append, List.length_append, headT_len, tailT_len]
  omega
theorem f_frame_by_eq (b : Tx) (h : b.length ≤ 5000) : f_frame_by [.fz (.str b)] = .ok (.fz (.str (frT b))) [] := by
  rw [r_frame_by]
  unfold e_frame_by
  have h1 : b.length ≤ 16777216 := by omega
  have h2 := f_head_of_eq b.length (by omega)
  have h3 := f_tail_of_eq b h1
  have h4 : 8 + b.length ≤ 16777216 := by omega
  have h5 : 8 + b.length + 4 ≤ 16777216 := by omega
  simp [h1, h2, h3, headT_len, tailT_len, h4, h5, frT]
theorem f_is_body_eq (b : Tx) (h : okB b) : f_is_body [.fz (.str b)] = .ok (.fz (.bl true)) [] := by
  rw [r_is_body]
  unfold e_is_body
  obtain ⟨h1, h2, h3⟩ := h
  have hl : b.length ≤ 16777216 := by omega
  have h4 := f_are_signs_eq b hl
  rw [h3] at h4
  have h5 : (1 : Int) ≤ (b.length : Int) := by omega
  have h6 : (b.length : Int) ≤ 5000 := by omega
  simp [hl, h4, h5, h6]
theorem f_frame_eq (b : Tx) (h : okB b) : f_frame [.fz (.str b)] = .ok (.fz (.str (frT b))) [] := by
  rw [r_frame]
  unfold e_frame
  have h1 := f_is_body_eq b h
  have h2 := f_frame_by_eq b h.2.1
  simp [h1, h2]
/-! ### a size -/
def dig (c : Nat) : Bool := decide (48 ≤ c) && decide (c ≤ 57)
def val4 (l : Tx) : Nat := PySem.NumText.digitsVal l
def sizeA (t : Tx) : Option Nat :=
  if t.length < 8 ∨ (t.take 8).all dig = false then none
  else if t.take 8 = headT (val4 (t.take 4)) ∧ 1 ≤ val4 (t.take 4) ∧ val4 (t.take 4) ≤ 5000 then some (val4 (t.take 4)) else none
theorem int_digs (l : Tx) (h : l.all dig = true) (hne : l ≠ []) (hl : l.length ≤ 640) : PySem.intText? (mkS l) = some (val4 l : Int) := by
  have := PySem.intText_digits (x := mkS l) (fun c hc => by
    have h1 : c ∈ l := hc
    have h2 := List.all_eq_true.mp h c h1
    unfold dig at h2
    simpa using h2) (by
    intro q
    exact hne q) (by
    show l.toArray.size ≤ 4300
    simp
    omega)
  exact this
theorem val4_lt (l : Tx) (hl : l.length = 4) (h : l.all dig = true) : val4 l < 10000 := by
  match l, hl with
  | [a, b, c, d], _ =>
    simp [dig] at h
    unfold val4 PySem.NumText.digitsVal
    simp
    omega
theorem fig_dig (c : Nat) : decide (c ∈ ([48, 49, 50, 51, 52, 53, 54, 55, 56, 57] : List Nat)) = dig c := by
  unfold dig
  by_cases h : 48 ≤ c ∧ c ≤ 57
  · have : c = 48 ∨ c = 49 ∨ c = 50 ∨ c = 51 ∨ c = 52 ∨ c = 53 ∨ c = 54 ∨ c = 55 ∨ c = 56 ∨ c = 57 := by omega
    rcases this with rfl | rfl | rfl | rfl | rfl | rfl | rfl | rfl | rfl | rfl <;> rfl
  · rw [decide_eq_false (by simp; omega)]
    symm
    rw [Bool.and_eq_false_iff]
    simp
    omega
def sizeR (o : Option Nat) : PV := match o with
  | none => .non
  | some n => .int n
theorem f_size_at_eq (s : Tx) (a : Nat) (hs : s.length ≤ 16777216) : f_size_at [.fz (.str s), .fz (.int a)] = .ok (.fz (sizeR (sizeA (s.drop a)))) [] := by
  rw [r_size_at]
  unfold e_size_at
  have hc : cutL s (some (a : Int)) (some ((a : Int) + 8)) = (s.drop a).take 8 := by
    rw [cutL_pp s (by omega) (by omega)]
    congr 1
    omega
  generalize hh : (s.drop a).take 8 = h at hc
  have hl8 : h.length ≤ 8 := by rw [← hh, List.length_take]; omega
  have hl : h.length ≤ 16777216 := by omega
  have hlen : h.length < 8 ↔ (s.drop a).length < 8 := by rw [← hh, List.length_take]; omega
  have ec : ∀ acc, lcGo (gN 4) sYes (eOp pIn (eVar 4) (SE.ret (.str [48, 49, 50, 51, 52, 53, 54, 55, 56, 57]))) [4] (h.map fun c => .str [c]) acc [some (.fz (.str s)), some (.fz (.int a)), some (.fz (.str h)), none, none] = some (acc ++ h.map (fun c => .bl (dig c)), [some (.fz (.str s)), some (.fz (.int a)), some (.fz (.str h)), none, none]) := fun acc => by
    have := lcGo_pure (g := gN 4) (tt := sYes) (te := eOp pIn (eVar 4) (SE.ret (.str [48, 49, 50, 51, 52, 53, 54, 55, 56, 57]))) (vs := [4]) (ρ := [some (.fz (.str s)), some (.fz (.int a)), some (.fz (.str h)), none, none]) (f := fun p => match p with | .str [c] => .bl (dig c) | _ => .non) (items := h.map fun c => .str [c]) (acc := acc) (fun p hp => by
      obtain ⟨c, hc, rfl⟩ := List.mem_map.mp hp
      refine ⟨[some (.fz (.str s)), some (.fz (.int a)), some (.fz (.str h)), none, some (.fz (.str [c]))], [some (.fz (.str s)), some (.fz (.int a)), some (.fz (.str h)), none, some (.fz (.str [c]))], [some (.fz (.str s)), some (.fz (.int a)), some (.fz (.str h)), none, some (.fz (.str [c]))], by simp, by simp, ?_, by simp⟩
      simp only [eOp_ap, eVar_ap, ret_ap, List.getElem?_cons_succ, List.getElem?_cons_zero, slotF_fz, oth_some, th_ok, pIn_str, fig_dig, ofO_some])
    rw [this, List.map_map]
    rfl
  unfold sizeA
  rw [hh]
  by_cases h1 : h.length < 8
  · have h1' : (h.length : Int) < 8 := by omega
    rw [if_pos (.inl (hlen.mp h1))]
    simp [hs, hc, hl, h1', sizeR]
  · have h1' : ¬ (h.length : Int) < 8 := by omega
    have h1n : ¬ (s.drop a).length < 8 := fun q => h1 (hlen.mpr q)
    cases h2 : h.all dig with
    | false =>
      rw [if_pos (.inr rfl)]
      simp [hs, hc, hl, h1', sizeR, ec, pAll_map, h2, -List.all_eq_true, -List.all_eq_false]
    | true =>
      rw [if_neg (fun q => by rcases q with q | q; exact h1n q; cases q)]
      have h4 : h.take 4 = (s.drop a).take 4 := by rw [← hh, List.take_take]; rfl
      have h4l : (h.take 4).length = 4 := by rw [List.length_take]; omega
      have h4d : (h.take 4).all dig = true := List.all_eq_true.mpr fun c hc => List.all_eq_true.mp h2 c (List.mem_of_mem_take hc)
      have hv := val4_lt _ h4l h4d
      have hi := int_digs _ h4d (by intro q; rw [q] at h4l; cases h4l) (by omega)
      have hf := f_head_of_eq _ hv
      have hc4 : cutL h none (some 4) = h.take 4 := cutL_np h (by omega)
      rw [← h4]
      by_cases h5 : h = headT (val4 (h.take 4))
      · by_cases h6 : 1 ≤ val4 (h.take 4) ∧ val4 (h.take 4) ≤ 5000
        · rw [if_pos ⟨h5, h6⟩]
          have h6a : (1 : Int) ≤ (val4 (h.take 4) : Int) := by omega
          have h6b : (val4 (h.take 4) : Int) ≤ 5000 := by omega
          simp [hs, hc, hl, h1', sizeR, ec, pAll_map, h2, hc4, h4l, hi, hf, ← h5, h6a, h6b, -List.all_eq_true, -List.all_eq_false, -List.length_take]
        · rw [if_neg (fun q => h6 q.2)]
          by_cases h6a : (1 : Int) ≤ (val4 (h.take 4) : Int)
          · have h6b : ¬ (val4 (h.take 4) : Int) ≤ 5000 := by omega
            simp [hs, hc, hl, h1', sizeR, ec, pAll_map, h2, hc4, h4l, hi, hf, ← h5, h6a, h6b, -List.all_eq_true, -List.all_eq_false, -List.length_take]
          · simp [hs, hc, hl, h1', sizeR, ec, pAll_map, h2, hc4, h4l, hi, hf, ← h5, h6a, -List.all_eq_true, -List.all_eq_false, -List.length_take]
      · rw [if_neg (fun q => h5 q.1)]
        simp [hs, hc, hl, h1', sizeR, ec, pAll_map, h2, hc4, h4l, hi, hf, h5, -List.all_eq_true, -List.all_eq_false, -List.length_take]
end K77

set_option Elab.async false
set_option linter.all false
set_option maxRecDepth 100000
set_option maxHeartbeats 4000000
namespace K77
open PySem PySem.Spec PyProof.Rows L2 Mv
/-! ### reading frames -/
/-- the size of the frame that t begins with -/
def parse (t : Tx) : Option Nat := (sizeA t).bind fun n =>
  if ((t.drop 8).take n).length = n ∧ ((t.drop 8).take n).all sg = true ∧ (t.drop (8 + n)).take 4 = tailT ((t.drop 8).take n) then some n else none
theorem parse_bound {t : Tx} {n : Nat} (h : parse t = some n) : n + 12 ≤ t.length ∧ 1 ≤ n ∧ n ≤ 5000 := by
  unfold parse at h
  cases e : sizeA t with
  | none => rw [e] at h; cases h
  | some m =>
    rw [e, Option.bind_some] at h
    split at h
    · rename_i hc
      cases h
      unfold sizeA at e
      split at e
      · cases e
      · split at e
        · rename_i h1 h2
          cases e
          have q := congrArg List.length hc.2.2
          rw [tailT_len, List.length_take, List.length_drop] at q
          omega
        · cases e
    · cases h
def readP : Nat → Nat → Tx → List (Tx × Nat)
  | 0, _, _ => []
  | k + 1, a, t => match parse t with
    | none => []
    | some n => ((t.drop 8).take n, a + 8 + n + 4) :: readP k (a + 8 + n + 4) (t.drop (n + 12))
/-- the bodies -/
def readB : Nat → Tx → List Tx
  | 0, _ => []
  | k + 1, t => match parse t with
    | none => []
    | some n => (t.drop 8).take n :: readB k (t.drop (n + 12))
theorem readP_map : ∀ (k a : Nat) (t : Tx), (readP k a t).map (·.1) = readB k t
  | 0, a, t => rfl
  | k + 1, a, t => by
    rw [readP, readB]
    cases parse t with
    | none => rfl
    | some n => rw [List.map_cons, readP_map k]
theorem readB_more : ∀ (k j : Nat) (t : Tx), t.length ≤ k → t.length ≤ j → readB (k + 1) t = readB (j + 1) t
  | k, j, t, h1, h2 => by
    rw [readB, readB]
    cases e : parse t with
    | none => rfl
    | some n =>
      have hb := parse_bound e
      have l : (t.drop (n + 12)).length < t.length := by rw [List.length_drop]; omega
      obtain ⟨k', rfl⟩ : ∃ k', k = k' + 1 := ⟨k - 1, by omega⟩
      obtain ⟨j', rfl⟩ : ∃ j', j = j' + 1 := ⟨j - 1, by omega⟩
      show _ :: _ = _ :: _
      rw [readB_more k' j' _ (by omega) (by omega)]
termination_by k => k
def rdB (t : Tx) : List Tx := readB (t.length + 1) t
theorem rdB_eq (t : Tx) : rdB t = match parse t with
    | none => []
    | some n => (t.drop 8).take n :: rdB (t.drop (n + 12)) := by
  unfold rdB
  rw [readB]
  cases e : parse t with
  | none => rfl
  | some n =>
    have hb := parse_bound e
    have l : (t.drop (n + 12)).length < t.length := by rw [List.length_drop]; omega
    show _ :: _ = _ :: _
    obtain ⟨k', hk⟩ : ∃ k', t.length = k' + 1 := ⟨t.length - 1, by omega⟩
    rw [hk, readB_more k' (t.drop (n + 12)).length _ (by omega) (Nat.le_refl _)]
theorem cut_at (s : Tx) (a p m : Nat) {i j : Int} (hi : i = ((a + p : Nat) : Int)) (hj : j = ((a + p + m : Nat) : Int)) : cutL s (some i) (some j) = ((s.drop a).drop p).take m := by
  rw [cutL_pp s (by omega) (by omega), List.drop_drop, hi, hj, Int.toNat_natCast, Int.toNat_natCast]
  have e : a + p + m - (a + p) = m := by omega
  rw [e]
def bodyW : SE Out := (sSeq (sSet 4 (Mv.mv (vw (eCall f_size_at @gPos (rV (eVar 0) (rV (eVar 2) rNil)) rNil)))) (sSeq (sSet 5 (Mv.mv (eIf (eBool (eOp (noOpq pNotN) (eVar 4) (SE.ret .non))) (eSl (eVar 0) (ePart (eOp pAdd (eVar 2) (SE.ret (.int 8)))) (ePart (eOp pAdd (eOp pAdd (eVar 2) (SE.ret (.int 8))) (eVar 4)))) (SE.ret (.str []))))) (sSeq (sSet 3 (Mv.mv (eAnd (eOp (noOpq pNotN) (eVar 4) (SE.ret .non)) (eAnd (eOp pEq (eCB (one pLen) (aCons (eVar 5) aNil)) (eVar 4)) (vw (eCall f_are_signs @gPos (rV (eVar 5) rNil) rNil)))))) (sSeq (sSet 3 (Mv.mv (eAnd (eVar 3) (eOp pEq (eSl (eVar 0) (ePart (eOp pAdd (eOp pAdd (eVar 2) (SE.ret (.int 8))) (eVar 4))) (ePart (eOp pAdd (eOp pAdd (eOp pAdd (eVar 2) (SE.ret (.int 8))) (eVar 4)) (SE.ret (.int 4))))) (vw (eCall f_tail_of @gPos (rV (eVar 5) rNil) rNil)))))) (sSeq (sIf (eTru (eVar 3)) (sSeq (sSet 2 (Mv.mv (eOp pAdd (eOp pAdd (eOp pAdd (eVar 2) (SE.ret (.int 8))) (eVar 4)) (SE.ret (.int 4))))) (sSeq (sApp 1 (eTup (aCons (eVar 5) (aCons (eVar 2) aNil)))) sNil)) sNil) sNil)))))
theorem e_frames_in_eq : e_frames_in = sSeq (sPar [1, 2, 3] (mCons (eLst aNil) (mCons (Mv.mv (SE.ret (.int 0))) (mCons (Mv.mv (SE.ret (.bl true))) mNil)))) (sSeq (whileL (eTru (eVar 3)) bodyW 1000000) (sSeq (sRet (eMove 1)) sNil)) := rfl
def pairP (z : Tx × Nat) : PV := .tup [.str z.1, .int z.2]
theorem turnW_none (s : Tx) (a : Nat) (found : List MV) (j4 j5 : Option MV) (hs : s.length ≤ 16777216) (h : parse (s.drop a) = none) :
    ∃ j4' j5', bodyW [some (.fz (.str s)), some (.ml found), some (.fz (.int a)), some (.fz (.bl true)), j4, j5] = .ok .nx [some (.fz (.str s)), some (.ml found), some (.fz (.int a)), some (.fz (.bl false)), j4', j5'] := by
  have hsz := f_size_at_eq s a hs
  cases e : sizeA (s.drop a) with
  | none =>
    rw [e] at hsz
    refine ⟨some (.fz .non), some (.fz (.str [])), ?_⟩
    unfold bodyW
    simp [hsz, sizeR]
  | some n =>
    rw [e] at hsz
    have hn5 : n ≤ 5000 := by
      unfold sizeA at e
      split at e
      · cases e
      · split at e
        · rename_i h1 h2
          cases e
          exact h2.2.2
        · cases e
    have hc : cutL s (some ((a : Int) + 8)) (some ((a : Int) + 8 + n)) = ((s.drop a).drop 8).take n := cut_at s a 8 n (by omega) (by omega)
    have ht : cutL s (some ((a : Int) + 8 + n)) (some ((a : Int) + 8 + n + 4)) = ((s.drop a).drop (8 + n)).take 4 := cut_at s a (8 + n) 4 (by omega) (by omega)
    generalize hb : ((s.drop a).drop 8).take n = b at hc
    generalize ht0 : ((s.drop a).drop (8 + n)).take 4 = tl at ht
    have hbl : b.length ≤ 16777216 := by rw [← hb, List.length_take]; omega
    have hsg := f_are_signs_eq b hbl
    have htl := f_tail_of_eq b hbl
    have hno : ¬ (b.length = n ∧ b.all sg = true ∧ tl = tailT b) := fun q => by
      unfold parse at h
      rw [e, Option.bind_some, hb, ht0, if_pos q] at h
      cases h
    refine ⟨some (.fz (.int n)), some (.fz (.str b)), ?_⟩
    unfold bodyW
    by_cases q1 : b.length = n
    · have q1' : (b.length : Int) = (n : Int) := by omega
      cases q2 : b.all sg with
      | true =>
        rw [q2] at hsg
        have q3 : ¬ tl = tailT b := fun q => hno ⟨q1, q2, q⟩
        simp [hsz, sizeR, hs, hc, ht, hbl, q1', hsg, htl, q3]
      | false =>
        rw [q2] at hsg
        simp [hsz, sizeR, hs, hc, ht, hbl, q1', hsg, htl]
    · have q1' : ¬ (b.length : Int) = (n : Int) := by omega
      simp [hsz, sizeR, hs, hc, ht, hbl, q1', hsg, htl]
theorem turnW_some (s : Tx) (a n : Nat) (found : List MV) (j4 j5 : Option MV) (hs : s.length ≤ 16777216) (hf : found.length < 16777216) (h : parse (s.drop a) = some n) :
    ∃ j4' j5', bodyW [some (.fz (.str s)), some (.ml found), some (.fz (.int a)), some (.fz (.bl true)), j4, j5] = .ok .nx [some (.fz (.str s)), some (.ml (found ++ [.fz (pairP (((s.drop a).drop 8).take n, a + 8 + n + 4))])), some (.fz (.int ((a + 8 + n + 4 : Nat) : Int))), some (.fz (.bl true)), j4', j5'] := by
  have hsz := f_size_at_eq s a hs
  cases e : sizeA (s.drop a) with
  | none =>
    unfold parse at h
    rw [e] at h
    cases h
  | some m =>
    rw [e] at hsz
    unfold parse at h
    rw [e, Option.bind_some] at h
    split at h
    · rename_i hc0
      cases h
      have hc : cutL s (some ((a : Int) + 8)) (some ((a : Int) + 8 + n)) = ((s.drop a).drop 8).take n := cut_at s a 8 n (by omega) (by omega)
      have ht : cutL s (some ((a : Int) + 8 + n)) (some ((a : Int) + 8 + n + 4)) = ((s.drop a).drop (8 + n)).take 4 := cut_at s a (8 + n) 4 (by omega) (by omega)
      generalize hb : ((s.drop a).drop 8).take n = b at hc hc0
      generalize ht0 : ((s.drop a).drop (8 + n)).take 4 = tl at ht hc0
      have hbl : b.length ≤ 16777216 := by rw [← hb, List.length_take, List.length_drop, List.length_drop]; omega
      have hsg := f_are_signs_eq b hbl
      have htl := f_tail_of_eq b hbl
      obtain ⟨q1, q2, q3⟩ := hc0
      rw [q2] at hsg
      have q1' : (b.length : Int) = (n : Int) := by omega
      refine ⟨some (.fz (.int n)), some (.fz (.str b)), ?_⟩
      unfold bodyW pairP
      simp [hsz, sizeR, hs, hc, ht, hbl, q1', hsg, htl, q3, hf]
    · cases h
theorem loopW (s : Tx) (hs : s.length ≤ 900000) : ∀ (k a : Nat) (found : List MV) (j4 j5 : Option MV), (s.drop a).length < k → found.length + (s.drop a).length ≤ 1000000 →
    ∃ j2 j3 j4' j5', whileL (eTru (eVar 3)) bodyW (k + 1) [some (.fz (.str s)), some (.ml found), some (.fz (.int a)), some (.fz (.bl true)), j4, j5] = .ok .nx [some (.fz (.str s)), some (.ml (found ++ (readP k a (s.drop a)).map fun z => .fz (pairP z))), j2, j3, j4', j5']
  | 0, a, found, j4, j5, h, hf => by omega
  | k + 1, a, found, j4, j5, h, hf => by
    rw [whileL_ap]
    have ec : eTru (eVar 3) [some (.fz (.str s)), some (.ml found), some (.fz (.int a)), some (.fz (.bl true)), j4, j5] = .ok true [some (.fz (.str s)), some (.ml found), some (.fz (.int a)), some (.fz (.bl true)), j4, j5] := by simp
    rw [ec, th_ok, if_pos rfl]
    cases e : parse (s.drop a) with
    | none =>
      obtain ⟨j4', j5', t⟩ := turnW_none s a found j4 j5 (by omega) e
      rw [t, lpO_nx, whileL_ap]
      refine ⟨some (.fz (.int a)), some (.fz (.bl false)), j4', j5', ?_⟩
      rw [readP, e]
      simp
    | some n =>
      have hb := parse_bound e
      have hd : s.drop (a + 8 + n + 4) = (s.drop a).drop (n + 12) := by rw [List.drop_drop]; congr 1; omega
      obtain ⟨j4', j5', t⟩ := turnW_some s a n found j4 j5 (by omega) (by omega) e
      rw [t, lpO_nx]
      obtain ⟨j2, j3, i4, i5, ih⟩ := loopW s hs k (a + 8 + n + 4) (found ++ [.fz (pairP (((s.drop a).drop 8).take n, a + 8 + n + 4))]) j4' j5' (by rw [hd, List.length_drop]; omega) (by rw [hd, List.length_drop, List.length_append, List.length_singleton]; omega)
      refine ⟨j2, j3, i4, i5, ?_⟩
      rw [ih, readP, e]
      dsimp only
      rw [hd]
      simp
theorem f_frames_in_eq (s : Tx) (hs : s.length ≤ 900000) : f_frames_in [.fz (.str s)] = .ok (.ml ((readP 999999 0 s).map fun z => .fz (pairP z))) [] := by
  rw [r_frames_in, e_frames_in_eq]
  obtain ⟨j2, j3, j4, j5, e⟩ := loopW s hs 999999 0 [] none none (by rw [List.drop_zero]; omega) (by rw [List.drop_zero]; simp; omega)
  rw [List.drop_zero, List.nil_append] at e
  have e2 : (999999 + 1 : Nat) = 1000000 := rfl
  rw [e2] at e
  have e0 : ((0 : Nat) : Int) = 0 := rfl
  rw [e0] at e
  simp [e]
theorem f_bodies_of_eq (s : Tx) (hs : s.length ≤ 900000) : f_bodies_of [.fz (.str s)] = .ok (.ml ((rdB s).map fun b => .fz (.str b))) [] := by
  rw [r_bodies_of]
  unfold e_bodies_of
  have hf := f_frames_in_eq s hs
  have e1 : rdB s = (readP 999999 0 s).map (·.1) := by
    rw [readP_map]
    unfold rdB
    rw [readB_more s.length 999998 s (Nat.le_refl _) (by omega)]
  have hl : (readP 999999 0 s).length ≤ 16777216 := by
    have : ∀ k a t, (readP k a t).length ≤ k := fun k => by
      induction k with
      | zero => intro a t; exact Nat.le_refl _
      | succ k ih =>
        intro a t
        rw [readP]
        cases parse t with
        | none => simp
        | some n => simpa using ih _ _
    have := this 999999 0 s
    omega
  have ec : ∀ acc, lcGo (gTp 2 (gCn (gN 1) (gCn (gN 2) gNl))) sYes (eVar 1) [1, 2] ((readP 999999 0 s).map pairP) acc [some (.fz (.str s)), none, none] = some (acc ++ (readP 999999 0 s).map (fun z => .str z.1), [some (.fz (.str s)), none, none]) := fun acc => by
    have := lcGo_pure (g := gTp 2 (gCn (gN 1) (gCn (gN 2) gNl))) (tt := sYes) (te := eVar 1) (vs := [1, 2]) (ρ := [some (.fz (.str s)), none, none]) (f := fun p => match p with | .tup [x, _] => x | _ => .non) (items := (readP 999999 0 s).map pairP) (acc := acc) (fun p hp => by
      obtain ⟨z, _, rfl⟩ := List.mem_map.mp hp
      refine ⟨[some (.fz (.str s)), some (.fz (.str z.1)), some (.fz (.int z.2))], [some (.fz (.str s)), some (.fz (.str z.1)), some (.fz (.int z.2))], [some (.fz (.str s)), some (.fz (.str z.1)), some (.fz (.int z.2))], by simp [pairP], by simp, by simp [pairP], by simp⟩)
    rw [this, List.map_map]
    rfl
  have em : MV.views ((readP 999999 0 s).map fun z => .fz (pairP z)) = (readP 999999 0 s).map pairP := by
    have := MV.views_fz ((readP 999999 0 s).map pairP)
    rw [List.map_map] at this
    exact this
  rw [e1]
  simp [hf, em, hl, ec]
end K77

set_option Elab.async false
set_option linter.all false
set_option maxRecDepth 100000
set_option maxHeartbeats 4000000
namespace K77
open PySem PySem.Spec PyProof.Rows L2 Mv
/-! ### the law's own look at a frame -/
def isF (s b : Tx) : Bool := decide (s.length = b.length + 12 ∧ (s.drop 8).take (s.length - 12) = b ∧ (s.take 8).all dig = true ∧ s.take 8 = headT (val4 (s.take 4)) ∧ val4 (s.take 4) = b.length ∧ sumF 8 (s.drop 8) 0 % 96 = 0 ∧ sumF 8 (s.drop 8) 1 % 96 = 0 ∧ sumF 8 (s.drop 8) 2 % 96 = 0 ∧ sumF 8 (s.drop 8) 3 % 96 = 0)
theorem sIf_f {ρ : Mv.Env} {c : SE Bool} {a b : SE Out} {ρ' : Mv.Env} (h : c ρ = .ok false ρ') : sIf c a b ρ = b ρ' := by rw [sIf_ap, h]; rfl
theorem sIf_t {ρ : Mv.Env} {c : SE Bool} {a b : SE Out} {ρ' : Mv.Env} (h : c ρ = .ok true ρ') : sIf c a b ρ = a ρ' := by rw [sIf_ap, h]; rfl
theorem sSeq_nx {ρ ρ' : Mv.Env} {s t : SE Out} (h : s ρ = .ok .nx ρ') : sSeq s t ρ = t ρ' := by rw [sSeq_ap, h]; rfl
theorem sSeq_rt {ρ ρ' : Mv.Env} {s t : SE Out} {m : MV} (h : s ρ = .ok (.rt m) ρ') : sSeq s t ρ = .ok (.rt m) ρ' := by rw [sSeq_ap, h]; rfl
def bodyF : SE Out := (sSeq (sSet 5 (Mv.mv (eOp pMod (eCB (one pInt) (aCons (eVar 4) aNil)) (SE.ret (.int 4))))) (sSeq (sAugIx 3 (eVar 5) (vw (eCall f__law_number @gPos (rV (eOp pIx (eVar 0) (eVar 4)) rNil) rNil)) pIAdd) sNil))
def tF1 : SE Bool := sOr (eBool (eOp pNe (eCB (one pLen) (aCons (eVar 0) aNil)) (eOp pAdd (eCB (one pLen) (aCons (eVar 1) aNil)) (SE.ret (.int 12))))) (eBool (eOp pNe (eSl (eVar 0) (ePart (SE.ret (.int 8))) (ePart (eUn pNeg (SE.ret (.int 4))))) (eVar 1)))
def cF2 : SE MV := sLc (sRng (aCons (SE.ret (.int 8)) aNil)) (gN 4) sYes (eSl (eVar 0) (ePart (eVar 4)) (ePart (eOp pAdd (eVar 4) (SE.ret (.int 1))))) [4]
def tF3 : SE PV := eNot (eChain pLe pLe (SE.ret (.str [48])) (eVar 6) (SE.ret (.str [57])))
def tF4 : SE PV := eOp pNe (eOp pAdd (eCB (one pInt) (aCons (eOp pIx (eVar 2) (eVar 4)) aNil)) (eCB (one pInt) (aCons (eOp pIx (eVar 2) (eOp pAdd (eVar 4) (SE.ret (.int 4)))) aNil))) (SE.ret (.int 9))
def tF5 : SE PV := eOp pEq (eOp pMod (eCB (one pInt) (aCons (eVar 7) aNil)) (SE.ret (.int 96))) (SE.ret (.int 0))
def rF : SE Out := sSeq (sRet (Mv.mv (SE.ret (.bl false)))) sNil
theorem e_is_frame_eq : e__law_is_frame = sSeq (sIf tF1 rF sNil) (sSeq (sSet 2 (Mv.mv (vw cF2))) (sSeq (sIf (sOr (eTru (eCB (one pAny) (aCons (vw (sLc (sIt (eVar 2)) (gN 6) sYes tF3 [6])) aNil))) (eTru (eCB (one pAny) (aCons (vw (sLc (sRng (aCons (SE.ret (.int 4)) aNil)) (gN 4) sYes tF4 [4])) aNil)))) rF sNil) (sSeq (sSet 3 (eLst (aCons (SE.ret (.int 0)) (aCons (SE.ret (.int 0)) (aCons (SE.ret (.int 0)) (aCons (SE.ret (.int 0)) aNil)))))) (sSeq (sFor (sRng (aCons (SE.ret (.int 8)) (aCons (eCB (one pLen) (aCons (eVar 0) aNil)) aNil))) (gN 4) bodyF) (sSeq (sFz 3 (sRet (Mv.mv (eAnd (eOp pEq (eCB (one pInt) (aCons (eSl (eVar 0) eNo (ePart (SE.ret (.int 4)))) aNil)) (eCB (one pLen) (aCons (eVar 1) aNil))) (eCB (one pAll) (aCons (vw (sLc (sIt (eVar 3)) (gN 7) sYes tF5 [7])) aNil)))))) sNil))))) := rfl
theorem turnF (s : Tx) (hs : s.length ≤ 900000) (B D : Option MV) (f : Nat → Int) (p c : Nat) (hc : s[p]? = some c) (j5 j6 j7 : Option MV) :
    ∃ j5', bodyF [some (.fz (.str s)), B, D, some (ml4 f), some (.fz (.int p)), j5, j6, j7] = .ok .nx [some (.fz (.str s)), B, D, some (ml4 fun k => f k + if p % 4 = k then num c else 0), some (.fz (.int p)), j5', j6, j7] := by
  have e : (p : Int) % 4 = ((p % 4 : Nat) : Int) := by omega
  have hp : p < s.length := (List.getElem?_eq_some_iff.mp hc).1
  have ha : atI s (p : Int) = some c := by
    rw [at_nat s p hp, ← hc, List.getElem?_eq_getElem hp]
  have h4 : p % 4 = 0 ∨ p % 4 = 1 ∨ p % 4 = 2 ∨ p % 4 = 3 := by omega
  have hl : s.length ≤ 16777216 := by omega
  refine ⟨some (.fz (.int ((p % 4 : Nat) : Int))), ?_⟩
  unfold bodyF ml4
  rcases h4 with h | h | h | h <;> simp [e, h, hl, ha, f_law_number_eq, at4, ixN]
theorem loopF (s : Tx) (hs : s.length ≤ 900000) (B D : Option MV) : ∀ (r : Tx) (p : Nat) (f : Nat → Int) (j4 j5 j6 j7 : Option MV), s.drop p = r → ∃ j4' j5', forL (gN 4) bodyF (rngP p r.length) [some (.fz (.str s)), B, D, some (ml4 f), j4, j5, j6, j7] = .ok .nx [some (.fz (.str s)), B, D, some (ml4 fun k => f k + sumF p r k), j4', j5', j6, j7]
  | [], p, f, j4, j5, j6, j7, h => ⟨j4, j5, by simp [rngP_zero, sumF]⟩
  | c :: r, p, f, j4, j5, j6, j7, h => by
    have hc : s[p]? = some c := by
      have := congrArg (·[0]?) h
      simpa using this
    have hd : s.drop (p + 1) = r := by
      have := congrArg (List.drop 1) h
      rw [List.drop_drop] at this
      simpa using this
    obtain ⟨i5, t⟩ := turnF s hs B D f p c hc j5 j6 j7
    obtain ⟨j4', j5', ih⟩ := loopF s hs B D r (p + 1) (fun k => f k + if p % 4 = k then num c else 0) (some (.fz (.int p))) i5 j6 j7 hd
    refine ⟨j4', j5', ?_⟩
    rw [List.length_cons, rngP_succ, forL_ap]
    have e : gN 4 (.int (p : Int)) [some (.fz (.str s)), B, D, some (ml4 f), j4, j5, j6, j7] = some [some (.fz (.str s)), B, D, some (ml4 f), some (.fz (.int p)), j5, j6, j7] := by simp
    rw [e, oth_some, t, lpO_nx, ih]
    have ek : (fun k => (f k + if p % 4 = k then num c else 0) + sumF (p + 1) r k) = fun k => f k + sumF p (c :: r) k := by
      funext k
      rw [sumF]
      omega
    rw [ek]
theorem pad_val (a b c d : Nat) (h : [a, b, c, d].all dig = true) : pad4 (val4 [a, b, c, d]) = [a, b, c, d] := by
  simp [dig] at h
  unfold pad4 val4 PySem.NumText.digitsVal
  simp
  omega
theorem mem_rngP {p : PV} {q n : Nat} (h : p ∈ rngP q n) : ∃ i, i < n ∧ p = .int ((q + i : Nat) : Int) := by
  unfold rngP at h
  obtain ⟨i, hi, rfl⟩ := List.mem_map.mp h
  exact ⟨i, by simpa using hi, rfl⟩
def restF : SE Out := (sSeq (sSet 2 (Mv.mv (vw cF2))) (sSeq (sIf (sOr (eTru (eCB (one pAny) (aCons (vw (sLc (sIt (eVar 2)) (gN 6) sYes tF3 [6])) aNil))) (eTru (eCB (one pAny) (aCons (vw (sLc (sRng (aCons (SE.ret (.int 4)) aNil)) (gN 4) sYes tF4 [4])) aNil)))) rF sNil) (sSeq (sSet 3 (eLst (aCons (SE.ret (.int 0)) (aCons (SE.ret (.int 0)) (aCons (SE.ret (.int 0)) (aCons (SE.ret (.int 0)) aNil)))))) (sSeq (sFor (sRng (aCons (SE.ret (.int 8)) (aCons (eCB (one pLen) (aCons (eVar 0) aNil)) aNil))) (gN 4) bodyF) (sSeq (sFz 3 (sRet (Mv.mv (eAnd (eOp pEq (eCB (one pInt) (aCons (eSl (eVar 0) eNo (ePart (SE.ret (.int 4)))) aNil)) (eCB (one pLen) (aCons (eVar 1) aNil))) (eCB (one pAll) (aCons (vw (sLc (sIt (eVar 3)) (gN 7) sYes tF5 [7])) aNil)))))) sNil)))))
theorem any_not {α : Type} (p : α → Bool) (l : List α) : (l.any fun c => !p c) = !l.all p := by
  induction l with
  | nil => rfl
  | cons x r ih => rw [List.any_cons, List.all_cons, ih]; cases p x <;> rfl
theorem at8 {α : Type} (a b c d e f g h : α) : atI [a, b, c, d, e, f, g, h] 0 = some a ∧ atI [a, b, c, d, e, f, g, h] 1 = some b ∧ atI [a, b, c, d, e, f, g, h] 2 = some c ∧ atI [a, b, c, d, e, f, g, h] 3 = some d ∧ atI [a, b, c, d, e, f, g, h] 4 = some e ∧ atI [a, b, c, d, e, f, g, h] 5 = some f ∧ atI [a, b, c, d, e, f, g, h] 6 = some g ∧ atI [a, b, c, d, e, f, g, h] 7 = some h := ⟨rfl, rfl, rfl, rfl, rfl, rfl, rfl, rfl⟩
theorem int_d1 (d : Nat) (h : dig d = true) : PySem.intText? (mkS [d]) = some ((d : Int) - 48) := by
  rw [int_digs [d] (by simp [h]) (by simp) (by simp)]
  unfold dig at h
  simp at h
  have : val4 [d] = d - 48 := by simp [val4, PySem.NumText.digitsVal]
  rw [this]
  congr 1
  omega
theorem rngP_len (p n : Nat) : (rngP p n).length = n := by
  unfold rngP
  rw [List.length_map, List.length_range]
def s1L (ds : Tx) : PV := .lst (ds.map fun c => .str [c])
theorem rF_ap (ρ : Mv.Env) : rF ρ = .ok (.rt (.fz (.bl false))) ρ := by simp [rF]
theorem c2_ok (s : Tx) (B : Option MV) (hsl : s.length ≤ 16777216) (h8 : 8 ≤ s.length) : cF2 [some (.fz (.str s)), B, none, none, none, none, none, none] = .ok (.ml ((s.take 8).map fun c => .fz (.str [c]))) [some (.fz (.str s)), B, none, none, none, none, none, none] := by
  unfold cF2
  have hr8 : -(2 ^ 62 : Int) ≤ 8 ∧ (8 : Int) < 2 ^ 62 := by omega
  have e8 : rngL 0 8 = rngP 0 8 := rngL_0 8
  have := lcGo_pure (g := gN 4) (tt := sYes) (te := eSl (eVar 0) (ePart (eVar 4)) (ePart (eOp pAdd (eVar 4) (SE.ret (.int 1))))) (vs := [4]) (ρ := [some (.fz (.str s)), B, none, none, none, none, none, none]) (f := fun p => match p with | .int i => .str ((s.drop i.toNat).take 1) | _ => .non) (items := rngP 0 8) (acc := []) (fun p hp => by
    obtain ⟨i, hi, rfl⟩ := mem_rngP hp
    have hc := cut_at s (0 + i) 0 1 (i := ((0 + i : Nat) : Int)) (j := ((0 + i : Nat) : Int) + 1) (by omega) (by omega)
    rw [List.drop_zero] at hc
    refine ⟨[some (.fz (.str s)), B, none, none, some (.fz (.int ((0 + i : Nat) : Int))), none, none, none], [some (.fz (.str s)), B, none, none, some (.fz (.int ((0 + i : Nat) : Int))), none, none, none], [some (.fz (.str s)), B, none, none, some (.fz (.int ((0 + i : Nat) : Int))), none, none, none], by simp, by simp, ?_, by simp⟩
    simp only [eSl_ap, eVar_ap, ePart_ap, eOp_ap, ret_ap, List.getElem?_cons_succ, List.getElem?_cons_zero, slotF_fz, oth_some, th_ok, asI_int, pAdd_int, ofO_some, pSl_str, hsl, if_true, hc, Int.toNat_natCast])
  have em : (rngP 0 8).map (fun p => match p with | .int i => PV.str ((s.drop i.toNat).take 1) | _ => .non) = (s.take 8).map fun c => .str [c] := by
    unfold rngP
    rw [List.map_map]
    apply List.ext_getElem?
    intro i
    rw [List.getElem?_map, List.getElem?_map]
    by_cases hi : i < 8
    · rw [List.getElem?_range hi, List.getElem?_take_of_lt hi, List.getElem?_eq_getElem (show i < s.length by omega)]
      show some (PV.str ((s.drop (0 + i)).take 1)) = _
      rw [Nat.zero_add, List.drop_eq_getElem_cons (show i < s.length by omega)]
      rfl
    · rw [List.getElem?_eq_none (by rw [List.length_range]; omega), List.getElem?_eq_none (by rw [List.length_take]; omega)]
      rfl
  rw [em, List.nil_append] at this
  have hl : (rngP 0 8).length ≤ 16777216 := by
    exact Nat.le_trans (Nat.le_of_eq (rngP_len _ _)) (Nat.le_of_ble_eq_true rfl)
  simp only [sLc_ap, sRng_ap, aCons_ap, ret_ap, aNil_ap, th_ok, rngOf_1, hr8, and_self, if_true, ofO_some, e8, wipeE_cons, wipeE_nil, List.set_cons_succ, List.set_cons_zero, this, oth_some, hl, backE_cons, backE_nil, List.getElem?_cons_succ, List.getElem?_cons_zero, slotF_none, Option.map_none, List.map_map]
  rfl
theorem a3_ok (S B : Option MV) (ds : Tx) (hdl : ds.length ≤ 16777216) : eTru (eCB (one pAny) (aCons (vw (sLc (sIt (eVar 2)) (gN 6) sYes tF3 [6])) aNil)) [S, B, some (.fz (s1L ds)), none, none, none, none, none] = .ok (!ds.all dig) [S, B, some (.fz (s1L ds)), none, none, none, none, none] := by
  have t3 : ∀ acc, lcGo (gN 6) sYes tF3 [6] (ds.map fun c => .str [c]) acc [S, B, some (.fz (s1L ds)), none, none, none, none, none] = some (acc ++ ds.map (fun c => .bl (!dig c)), [S, B, some (.fz (s1L ds)), none, none, none, none, none]) := fun acc => by
    generalize some (MV.fz (s1L ds)) = D
    have := lcGo_pure (g := gN 6) (tt := sYes) (te := tF3) (vs := [6]) (ρ := [S, B, D, none, none, none, none, none]) (f := fun p => match p with | .str [c] => .bl (!dig c) | _ => .non) (items := ds.map fun c => .str [c]) (acc := acc) (fun p hp => by
      obtain ⟨c, _, rfl⟩ := List.mem_map.mp hp
      refine ⟨[S, B, D, none, none, none, some (.fz (.str [c])), none], [S, B, D, none, none, none, some (.fz (.str [c])), none], [S, B, D, none, none, none, some (.fz (.str [c])), none], by simp, by simp, ?_, by simp⟩
      unfold tF3
      by_cases q1 : c < 48
      · simp [q1, lt1, dig]
      · have q1' : 48 ≤ c := by omega
        by_cases q2 : 57 < c
        · have q2' : ¬ c ≤ 57 := by omega
          simp [q1, q1', lt1, dig, q2]
        · have q2' : c ≤ 57 := by omega
          simp [q1, q1', lt1, dig, q2, q2'])
    rw [this, List.map_map]
    rfl
  have hp : pAny (.lst (ds.map fun c => .bl (!dig c))) = some (.bl (!ds.all dig)) := by rw [pAny_map, any_not]
  unfold s1L at t3 ⊢
  simp [t3, hdl, hp, -List.any_eq_true, -List.all_eq_true]
theorem a4_ok (S B : Option MV) (d0 d1 d2 d3 d4 d5 d6 d7 : Nat) (hd : [d0, d1, d2, d3, d4, d5, d6, d7].all dig = true) : eTru (eCB (one pAny) (aCons (vw (sLc (sRng (aCons (SE.ret (.int 4)) aNil)) (gN 4) sYes tF4 [4])) aNil)) [S, B, some (.fz (s1L [d0, d1, d2, d3, d4, d5, d6, d7])), none, none, none, none, none] =
    .ok (!decide ((d0 : Int) - 48 + ((d4 : Int) - 48) = 9 ∧ (d1 : Int) - 48 + ((d5 : Int) - 48) = 9 ∧ (d2 : Int) - 48 + ((d6 : Int) - 48) = 9 ∧ (d3 : Int) - 48 + ((d7 : Int) - 48) = 9)) [S, B, some (.fz (s1L [d0, d1, d2, d3, d4, d5, d6, d7])), none, none, none, none, none] := by
  simp only [List.all_cons, List.all_nil, Bool.and_eq_true, and_true] at hd
  obtain ⟨g0, g1, g2, g3, g4, g5, g6, g7⟩ := hd
  have hr4 : -(2 ^ 62 : Int) ≤ 4 ∧ (4 : Int) < 2 ^ 62 := by omega
  have e4 : rngL 0 4 = rngP 0 4 := rngL_0 4
  have hD : s1L [d0, d1, d2, d3, d4, d5, d6, d7] = .lst [.str [d0], .str [d1], .str [d2], .str [d3], .str [d4], .str [d5], .str [d6], .str [d7]] := rfl
  rw [hD]
  generalize hp : PV.lst [.str [d0], .str [d1], .str [d2], .str [d3], .str [d4], .str [d5], .str [d6], .str [d7]] = dp
  have ix : ∀ i, pIx dp (.int i) = atI [PV.str [d0], .str [d1], .str [d2], .str [d3], .str [d4], .str [d5], .str [d6], .str [d7]] i := fun i => by rw [← hp]; rfl
  have t4 : lcGo (gN 4) sYes tF4 [4] (rngP 0 4) [] [S, B, some (.fz dp), none, none, none, none, none] = some ([.bl (!decide ((d0 : Int) - 48 + ((d4 : Int) - 48) = 9)), .bl (!decide ((d1 : Int) - 48 + ((d5 : Int) - 48) = 9)), .bl (!decide ((d2 : Int) - 48 + ((d6 : Int) - 48) = 9)), .bl (!decide ((d3 : Int) - 48 + ((d7 : Int) - 48) = 9))], [S, B, some (.fz dp), none, none, none, none, none]) := by
    have := lcGo_pure (g := gN 4) (tt := sYes) (te := tF4) (vs := [4]) (ρ := [S, B, some (.fz dp), none, none, none, none, none]) (f := fun p => match p with | .int 0 => .bl (!decide ((d0 : Int) - 48 + ((d4 : Int) - 48) = 9)) | .int 1 => .bl (!decide ((d1 : Int) - 48 + ((d5 : Int) - 48) = 9)) | .int 2 => .bl (!decide ((d2 : Int) - 48 + ((d6 : Int) - 48) = 9)) | .int 3 => .bl (!decide ((d3 : Int) - 48 + ((d7 : Int) - 48) = 9)) | _ => .non) (items := rngP 0 4) (acc := []) (fun p hp => by
      obtain ⟨i, hi, rfl⟩ := mem_rngP hp
      have hi4 : i = 0 ∨ i = 1 ∨ i = 2 ∨ i = 3 := by omega
      refine ⟨[S, B, some (.fz dp), none, some (.fz (.int ((0 + i : Nat) : Int))), none, none, none], [S, B, some (.fz dp), none, some (.fz (.int ((0 + i : Nat) : Int))), none, none, none], [S, B, some (.fz dp), none, some (.fz (.int ((0 + i : Nat) : Int))), none, none, none], by simp, by simp, ?_, by simp⟩
      unfold tF4
      rcases hi4 with rfl | rfl | rfl | rfl <;> simp [ix, at8, int_d1, g0, g1, g2, g3, g4, g5, g6, g7])
    rw [this]
    rfl
  have hpa : ∀ b0 b1 b2 b3 : Bool, pAny (.lst [.bl b0, .bl b1, .bl b2, .bl b3]) = some (.bl (b0 || (b1 || (b2 || (b3 || false))))) := fun _ _ _ _ => rfl
  have hrl : (rngP 0 4).length ≤ 16777216 := by
    exact Nat.le_trans (Nat.le_of_eq (rngP_len _ _)) (Nat.le_of_ble_eq_true rfl)
  simp only [eTru_ap, eCB_ap, aCons_ap, vw_ap, sLc_ap, sRng_ap, ret_ap, aNil_ap, th_ok, rngOf_1, hr4, and_self, if_true, ofO_some, e4, hrl, wipeE_cons, wipeE_nil, List.set_cons_succ, List.set_cons_zero, t4, oth_some, view_ml, views_map, one_ap, hpa, pTru_bl, backE_cons, backE_nil, List.getElem?_cons_succ, List.getElem?_cons_zero, slotF_none, Option.map_none]
  congr 1
  rw [Bool.eq_iff_iff]
  simp only [Bool.or_eq_true, Bool.not_eq_true', decide_eq_false_iff_not, Bool.false_eq_true, or_false]
  omega
def retF : SE Out := (sSeq (sFz 3 (sRet (Mv.mv (eAnd (eOp pEq (eCB (one pInt) (aCons (eSl (eVar 0) eNo (ePart (SE.ret (.int 4)))) aNil)) (eCB (one pLen) (aCons (eVar 1) aNil))) (eCB (one pAll) (aCons (vw (sLc (sIt (eVar 3)) (gN 7) sYes tF5 [7])) aNil)))))) sNil)
theorem ret_ok (s b : Tx) (D j4 j5 : Option MV) (f : Nat → Int) (v : Nat) (hsl : s.length ≤ 16777216) (hbl : b.length ≤ 16777216) (hv : PySem.intText? (mkS (s.take 4)) = some (v : Int)) :
    ∃ ρ', retF [some (.fz (.str s)), some (.fz (.str b)), D, some (ml4 f), j4, j5, none, none] = .ok (.rt (.fz (.bl (decide (v = b.length ∧ f 0 % 96 = 0 ∧ f 1 % 96 = 0 ∧ f 2 % 96 = 0 ∧ f 3 % 96 = 0))))) ρ' := by
  have hc4 : cutL s none (some 4) = s.take 4 := cutL_np s (by omega)
  generalize hU : [PV.int (f 0), .int (f 1), .int (f 2), .int (f 3)] = U
  have hv4 : (ml4 f).view = .lst U := by rw [← hU]; simp [ml4]
  have t5 : lcGo (gN 7) sYes tF5 [7] U [] [some (.fz (.str s)), some (.fz (.str b)), D, some (.fz (.lst U)), j4, j5, none, none] = some ([.bl (decide (f 0 % 96 = 0)), .bl (decide (f 1 % 96 = 0)), .bl (decide (f 2 % 96 = 0)), .bl (decide (f 3 % 96 = 0))], [some (.fz (.str s)), some (.fz (.str b)), D, some (.fz (.lst U)), j4, j5, none, none]) := by
    have := lcGo_pure (g := gN 7) (tt := sYes) (te := tF5) (vs := [7]) (ρ := [some (.fz (.str s)), some (.fz (.str b)), D, some (.fz (.lst U)), j4, j5, none, none]) (f := fun p => match p with | .int i => .bl (decide (i % 96 = 0)) | _ => .non) (items := U) (acc := []) (fun p hp => by
      obtain ⟨i, rfl⟩ : ∃ i, p = .int i := by
        rw [← hU] at hp
        simp at hp
        rcases hp with h | h | h | h <;> exact ⟨_, h⟩
      refine ⟨[some (.fz (.str s)), some (.fz (.str b)), D, some (.fz (.lst U)), j4, j5, none, some (.fz (.int i))], [some (.fz (.str s)), some (.fz (.str b)), D, some (.fz (.lst U)), j4, j5, none, some (.fz (.int i))], [some (.fz (.str s)), some (.fz (.str b)), D, some (.fz (.lst U)), j4, j5, none, some (.fz (.int i))], by simp, by simp, ?_, by simp⟩
      simp [tF5])
    rw [this, ← hU]
    rfl
  have hUl : U.length ≤ 16777216 := by
    rw [← hU]
    exact Nat.le_of_ble_eq_true rfl
  have hl4 : (s.take 4).length ≤ 640 := by rw [List.length_take]; omega
  have hpa : ∀ b0 b1 b2 b3 : Bool, pAll (.lst [.bl b0, .bl b1, .bl b2, .bl b3]) = some (.bl (b0 && (b1 && (b2 && (b3 && true))))) := fun _ _ _ _ => rfl
  have t : retF [some (.fz (.str s)), some (.fz (.str b)), D, some (ml4 f), j4, j5, none, none] = .ok (.rt (.fz (.bl (decide ((v : Int) = (b.length : Int)) && (decide (f 0 % 96 = 0) && (decide (f 1 % 96 = 0) && (decide (f 2 % 96 = 0) && (decide (f 3 % 96 = 0) && true)))))))) [some (.fz (.str s)), some (.fz (.str b)), D, some (.fz (.lst U)), j4, j5, none, none] := by
    unfold retF
    refine sSeq_rt ?_
    have e1 : eBool (eOp pEq (eCB (one pInt) (aCons (eSl (eVar 0) eNo (ePart (SE.ret (.int 4)))) aNil)) (eCB (one pLen) (aCons (eVar 1) aNil))) [some (.fz (.str s)), some (.fz (.str b)), D, some (.fz (.lst U)), j4, j5, none, none] = .ok (decide ((v : Int) = (b.length : Int))) [some (.fz (.str s)), some (.fz (.str b)), D, some (.fz (.lst U)), j4, j5, none, none] := by
      simp only [eBool_ap, eOp_ap, eCB_ap, aCons_ap, aNil_ap, eSl_ap, eNo_ap, ePart_ap, ret_ap, eVar_ap, List.getElem?_cons_succ, List.getElem?_cons_zero, slotF_fz, oth_some, th_ok, asI_int, pSl_str, hsl, hbl, if_true, ofO_some, hc4, one_ap, pInt_str, hl4, hv, Option.map_some, pLen_str, pEq_int, asB_bl]
    have e2 : eCB (one pAll) (aCons (vw (sLc (sIt (eVar 3)) (gN 7) sYes tF5 [7])) aNil) [some (.fz (.str s)), some (.fz (.str b)), D, some (.fz (.lst U)), j4, j5, none, none] = .ok (.bl (decide (f 0 % 96 = 0) && (decide (f 1 % 96 = 0) && (decide (f 2 % 96 = 0) && (decide (f 3 % 96 = 0) && true))))) [some (.fz (.str s)), some (.fz (.str b)), D, some (.fz (.lst U)), j4, j5, none, none] := by
      simp only [eCB_ap, aCons_ap, vw_ap, sLc_ap, sIt_ap, eVar_ap, aNil_ap, th_ok, List.getElem?_cons_succ, List.getElem?_cons_zero, slotF_fz, oth_some, itL_lst, ofO_some, hUl, if_true, wipeE_cons, wipeE_nil, List.set_cons_succ, List.set_cons_zero, t5, view_ml, views_map, one_ap, hpa, backE_cons, backE_nil, slotF_none, Option.map_none]
    rw [sFz_ap, fzAt_ap]
    show sRet _ (List.set _ 3 (some (.fz (ml4 f).view))) = _
    rw [hv4, sRet_ap, mv_ap, eAnd_ap]
    simp only [List.set_cons_succ, List.set_cons_zero]
    rw [e1, th_ok]
    by_cases h : (v : Int) = (b.length : Int)
    · rw [decide_eq_true h, if_pos rfl, e2, Bool.true_and]
      rfl
    · rw [decide_eq_false h, if_neg Bool.false_ne_true, Bool.false_and]
      rfl
  have eb : (decide ((v : Int) = (b.length : Int)) && (decide (f 0 % 96 = 0) && (decide (f 1 % 96 = 0) && (decide (f 2 % 96 = 0) && (decide (f 3 % 96 = 0) && true))))) = decide (v = b.length ∧ f 0 % 96 = 0 ∧ f 1 % 96 = 0 ∧ f 2 % 96 = 0 ∧ f 3 % 96 = 0) := by
    rw [Bool.eq_iff_iff]
    simp only [Bool.and_eq_true, decide_eq_true_eq, and_true]
    omega
  rw [eb] at t
  exact ⟨_, t⟩
end K77

set_option Elab.async false
set_option linter.all false
set_option maxRecDepth 100000
set_option maxHeartbeats 4000000
namespace K77
open PySem PySem.Spec PyProof.Rows L2 Mv
theorem restF_ok (s b : Tx) (hs : s.length ≤ 900000) (hb : b.length ≤ 900000) (h1 : s.length = b.length + 12) (h2 : (s.drop 8).take (s.length - 12) = b) :
    ∃ ρ', restF [some (.fz (.str s)), some (.fz (.str b)), none, none, none, none, none, none] = .ok (.rt (.fz (.bl (isF s b)))) ρ' := by
  have hsl : s.length ≤ 16777216 := by omega
  have hbl : b.length ≤ 16777216 := by omega
  have l8 : (s.take 8).length = 8 := by rw [List.length_take]; omega
  unfold restF
  rw [sSeq_nx (ρ' := [some (.fz (.str s)), some (.fz (.str b)), some (.fz (s1L (s.take 8))), none, none, none, none, none]) (by
    rw [sSet_ap, mv_ap, vw_ap, c2_ok s _ hsl (by omega)]
    have e : MV.views ((s.take 8).map fun c => .fz (.str [c])) = (s.take 8).map fun c => .str [c] := views_comp (fun c => PV.str [c]) (s.take 8)
    simp only [th_ok, view_ml, e]
    rfl)]
  have a3 := a3_ok (some (.fz (.str s))) (some (.fz (.str b))) (s.take 8) (by omega)
  cases hd : (s.take 8).all dig with
  | false =>
    have : isF s b = false := decide_eq_false fun q => by
      have := q.2.2.1
      rw [hd] at this
      cases this
    rw [this]
    rw [hd, Bool.not_false] at a3
    exact ⟨_, sSeq_rt (by rw [sIf_t (by rw [sOr_ap, a3, th_ok, if_pos rfl]), rF_ap])⟩
  | true =>
    rw [hd, Bool.not_true] at a3
    have k4 : s.take 4 = (s.take 8).take 4 := by rw [List.take_take]; rfl
    have hdd : (s.take 4).all dig = true := by
      rw [k4]
      exact List.all_eq_true.mpr fun c hc => List.all_eq_true.mp hd c (List.mem_of_mem_take hc)
    have hi := int_digs (s.take 4) hdd (by intro q; rw [k4] at q; have := congrArg List.length q; rw [List.length_take, l8] at this; cases this) (by rw [List.length_take]; omega)
    have hC : ∃ B : Bool, eTru (eCB (one pAny) (aCons (vw (sLc (sRng (aCons (SE.ret (.int 4)) aNil)) (gN 4) sYes tF4 [4])) aNil)) [some (.fz (.str s)), some (.fz (.str b)), some (.fz (s1L (s.take 8))), none, none, none, none, none] = .ok (!B) [some (.fz (.str s)), some (.fz (.str b)), some (.fz (s1L (s.take 8))), none, none, none, none, none] ∧ (B = true ↔ s.take 8 = headT (val4 (s.take 4))) := by
      rw [k4]
      generalize hT : s.take 8 = T at l8 hd
      match T, l8, hd with
      | [d0, d1, d2, d3, d4, d5, d6, d7], _, hd =>
        refine ⟨_, a4_ok _ _ d0 d1 d2 d3 d4 d5 d6 d7 hd, ?_⟩
        simp only [List.all_cons, List.all_nil, Bool.and_eq_true, and_true] at hd
        obtain ⟨g0, g1, g2, g3, g4, g5, g6, g7⟩ := hd
        have hpv := pad_val d0 d1 d2 d3 (by simp [g0, g1, g2, g3])
        have et : ([d0, d1, d2, d3, d4, d5, d6, d7] : Tx).take 4 = [d0, d1, d2, d3] := rfl
        rw [et]
        unfold headT
        rw [hpv]
        simp [dig] at g0 g1 g2 g3 g4 g5 g6 g7
        simp
        omega
    obtain ⟨B, a4, hB⟩ := hC
    cases B with
    | true =>
      have hh := hB.mp rfl
      rw [Bool.not_true] at a4
      rw [sSeq_nx (by rw [sIf_f (by rw [sOr_ap, a3, th_ok, if_neg Bool.false_ne_true, a4]), sNil_ap])]
      rw [sSeq_nx (ρ' := [some (.fz (.str s)), some (.fz (.str b)), some (.fz (s1L (s.take 8))), some (ml4 fun _ => 0), none, none, none, none]) (by simp [ml4])]
      obtain ⟨j4, j5, lf⟩ := loopF s hs (some (.fz (.str b))) (some (.fz (s1L (s.take 8)))) (s.drop 8) 8 (fun _ => 0) none none none none rfl
      have hrl : rngL 8 (s.length : Int) = rngP 8 (s.drop 8).length := by
        rw [List.length_drop]
        exact rngL_P 8 s.length
      have hr : (-(2 ^ 62 : Int) ≤ 8 ∧ (8 : Int) < 2 ^ 62) ∧ -(2 ^ 62 : Int) ≤ (s.length : Int) ∧ (s.length : Int) < 2 ^ 62 := by omega
      have ha : ∀ D U : Option MV, aCons (SE.ret (.int 8)) (aCons (eCB (one pLen) (aCons (eVar 0) aNil)) aNil) [some (.fz (.str s)), some (.fz (.str b)), D, U, none, none, none, none] = .ok [.int 8, .int s.length] [some (.fz (.str s)), some (.fz (.str b)), D, U, none, none, none, none] := fun D U => by simp [hsl]
      have hfor := (show sFor (sRng (aCons (SE.ret (.int 8)) (aCons (eCB (one pLen) (aCons (eVar 0) aNil)) aNil))) (gN 4) bodyF [some (.fz (.str s)), some (.fz (.str b)), some (.fz (s1L (s.take 8))), some (ml4 fun _ => 0), none, none, none, none] = .ok .nx [some (.fz (.str s)), some (.fz (.str b)), some (.fz (s1L (s.take 8))), some (ml4 fun k => 0 + sumF 8 (s.drop 8) k), j4, j5, none, none] from by
        rw [sFor_ap, sRng_ap, ha, th_ok, rngOf_2, if_pos hr, hrl, ofO_some, th_ok]
        exact lf)
      rw [sSeq_nx hfor]
      have ez : (fun k => (0 : Int) + sumF 8 (s.drop 8) k) = fun k => sumF 8 (s.drop 8) k := funext fun k => by omega
      rw [ez]
      obtain ⟨ρ', e⟩ := ret_ok s b (some (.fz (s1L (s.take 8)))) j4 j5 (fun k => sumF 8 (s.drop 8) k) (val4 (s.take 4)) hsl hbl hi
      have eb : decide (val4 (s.take 4) = b.length ∧ sumF 8 (s.drop 8) 0 % 96 = 0 ∧ sumF 8 (s.drop 8) 1 % 96 = 0 ∧ sumF 8 (s.drop 8) 2 % 96 = 0 ∧ sumF 8 (s.drop 8) 3 % 96 = 0) = isF s b := by
        unfold isF
        rw [Bool.eq_iff_iff]
        simp only [decide_eq_true_eq]
        exact ⟨fun ⟨v, x0, x1, x2, x3⟩ => ⟨h1, h2, hd, hh, v, x0, x1, x2, x3⟩, fun ⟨_, _, _, _, v, x0, x1, x2, x3⟩ => ⟨v, x0, x1, x2, x3⟩⟩
      rw [eb] at e
      exact ⟨ρ', e⟩
    | false =>
      rw [Bool.not_false] at a4
      have : isF s b = false := decide_eq_false fun q => nomatch hB.mpr q.2.2.2.1
      rw [this]
      exact ⟨_, sSeq_rt (by rw [sIf_t (by rw [sOr_ap, a3, th_ok, if_neg Bool.false_ne_true, a4]), rF_ap])⟩
theorem f_is_frame_eq (s b : Tx) (hs : s.length ≤ 900000) (hb : b.length ≤ 900000) : f__law_is_frame [.fz (.str s), .fz (.str b)] = .ok (.fz (.bl (isF s b))) [] := by
  rw [r__law_is_frame, e_is_frame_eq]
  have hsl : s.length ≤ 16777216 := by omega
  have hbl : b.length ≤ 16777216 := by omega
  have rf : ∀ ρ, rF ρ = .ok (.rt (.fz (.bl false))) ρ := fun ρ => by simp [rF]
  have hcut : cutL s (some 8) (some (-4)) = (s.drop 8).take (s.length - 12) := by
    have := cutL_pm s 8 4 (by omega)
    have e : s.length - 4 - 8 = s.length - 12 := by omega
    rw [e] at this
    exact this
  by_cases h1 : s.length = b.length + 12
  · have h1' : (s.length : Int) = (b.length : Int) + 12 := by omega
    by_cases h2 : (s.drop 8).take (s.length - 12) = b
    · have t1 : tF1 [some (.fz (.str s)), some (.fz (.str b)), none, none, none, none, none, none] = .ok false [some (.fz (.str s)), some (.fz (.str b)), none, none, none, none, none, none] := by
        unfold tF1
        simp [hsl, hbl, h1', hcut, h2]
      rw [sSeq_nx (ρ' := [some (.fz (.str s)), some (.fz (.str b)), none, none, none, none, none, none]) (by rw [sIf_f t1, sNil_ap])]
      obtain ⟨ρ', e⟩ := restF_ok s b hs hb h1 h2
      have e' : fin 0 (restF [some (.fz (.str s)), some (.fz (.str b)), none, none, none, none, none, none]) = .ok (.fz (.bl (isF s b))) [] := by rw [e]; simp
      exact e'
    · have t1 : tF1 [some (.fz (.str s)), some (.fz (.str b)), none, none, none, none, none, none] = .ok true [some (.fz (.str s)), some (.fz (.str b)), none, none, none, none, none, none] := by
        unfold tF1
        simp [hsl, hbl, h1', hcut, h2]
      rw [sSeq_rt (by rw [sIf_t t1, rf])]
      have : isF s b = false := decide_eq_false fun q => h2 q.2.1
      rw [this]
      simp
  · have h1' : ¬ (s.length : Int) = (b.length : Int) + 12 := by omega
    have t1 : tF1 [some (.fz (.str s)), some (.fz (.str b)), none, none, none, none, none, none] = .ok true [some (.fz (.str s)), some (.fz (.str b)), none, none, none, none, none, none] := by
      unfold tF1
      simp [hsl, hbl, h1']
    rw [sSeq_rt (by rw [sIf_t t1, rf])]
    have : isF s b = false := decide_eq_false fun q => h1 q.1
    rw [this]
    simp
end K77

set_option Elab.async false
set_option linter.all false
set_option maxRecDepth 100000
set_option maxHeartbeats 4000000
namespace K77
open PySem PySem.Spec PyProof.Rows L2 Mv
/-! ### sums -/
theorem sumF_app : ∀ (x y : Tx) (p k : Nat), sumF p (x ++ y) k = sumF p x k + sumF (p + x.length) y k
  | [], y, p, k => by simp [sumF]
  | c :: x, y, p, k => by
    rw [List.cons_append, sumF, sumF, sumF_app x y (p + 1) k, List.length_cons]
    have e : p + 1 + x.length = p + (x.length + 1) := by omega
    rw [e]
    omega
theorem sumF_4 : ∀ (x : Tx) (p k : Nat), sumF (p + 4) x k = sumF p x k
  | [], p, k => rfl
  | c :: x, p, k => by
    rw [sumF, sumF]
    have e : p + 4 + 1 = p + 1 + 4 := by omega
    have e2 : (p + 4) % 4 = p % 4 := by omega
    rw [e, e2, sumF_4 x (p + 1) k]
theorem sumF_8 (x : Tx) (k : Nat) : sumF 8 x k = sumF 0 x k := by rw [sumF_4 x 4 k, sumF_4 x 0 k]
theorem num_chN (m : Int) : num (chN m) = m % 96 := by
  unfold num chN
  by_cases h : (m % 96).toNat = 95
  · rw [if_pos h, if_pos rfl]
    omega
  · rw [if_neg h, if_neg (by omega)]
    omega
theorem sg_chN (m : Int) : sg (chN m) = true := by
  unfold sg chN
  split
  · rfl
  · simp
    omega
theorem fit_chN {t : Nat} (h : sg t = true) (S : Int) : (S + num t) % 96 = 0 ↔ t = chN (-S) := by
  constructor
  · intro e
    apply num_inj h (sg_chN _)
    have := num_lt h
    rw [num_chN]
    omega
  · intro e
    rw [e, num_chN]
    omega
theorem tail_iff (b : Tx) (t0 t1 t2 t3 : Nat) (h0 : sg t0 = true) (h1 : sg t1 = true) (h2 : sg t2 = true) (h3 : sg t3 = true) :
    (sumF 8 (b ++ [t0, t1, t2, t3]) 0 % 96 = 0 ∧ sumF 8 (b ++ [t0, t1, t2, t3]) 1 % 96 = 0 ∧ sumF 8 (b ++ [t0, t1, t2, t3]) 2 % 96 = 0 ∧ sumF 8 (b ++ [t0, t1, t2, t3]) 3 % 96 = 0) ↔ [t0, t1, t2, t3] = tailT b := by
  have hk : ∀ k, sumF 8 (b ++ [t0, t1, t2, t3]) k = sumF 0 b k + sumF b.length [t0, t1, t2, t3] k := fun k => by rw [sumF_8, sumF_app, Nat.zero_add]
  have f0 := fit_chN h0
  have f1 := fit_chN h1
  have f2 := fit_chN h2
  have f3 := fit_chN h3
  have h4 : b.length % 4 = 0 ∨ b.length % 4 = 1 ∨ b.length % 4 = 2 ∨ b.length % 4 = 3 := by omega
  unfold tailT
  simp only [hk, sumF, List.cons.injEq, and_true]
  rcases h4 with h | h | h | h
  · have e1 : (b.length + 1) % 4 = 1 := by omega
    have e2 : (b.length + 2) % 4 = 2 := by omega
    have e3 : (b.length + 3) % 4 = 3 := by omega
    have e2' : (b.length + 1 + 1) % 4 = 2 := by omega
    have e3' : (b.length + 1 + 1 + 1) % 4 = 3 := by omega
    simp only [h, e1, e2, e3, e2', e3', ← f0, ← f1, ← f2, ← f3]
    simp
  · have e1 : (b.length + 1) % 4 = 2 := by omega
    have e2 : (b.length + 2) % 4 = 3 := by omega
    have e3 : (b.length + 3) % 4 = 0 := by omega
    have e2' : (b.length + 1 + 1) % 4 = 3 := by omega
    have e3' : (b.length + 1 + 1 + 1) % 4 = 0 := by omega
    simp only [h, e1, e2, e3, e2', e3', ← f0, ← f1, ← f2, ← f3]
    simp
    constructor
    · rintro ⟨a, b, c, d⟩; exact ⟨b, c, d, a⟩
    · rintro ⟨b, c, d, a⟩; exact ⟨a, b, c, d⟩
  · have e1 : (b.length + 1) % 4 = 3 := by omega
    have e2 : (b.length + 2) % 4 = 0 := by omega
    have e3 : (b.length + 3) % 4 = 1 := by omega
    have e2' : (b.length + 1 + 1) % 4 = 0 := by omega
    have e3' : (b.length + 1 + 1 + 1) % 4 = 1 := by omega
    simp only [h, e1, e2, e3, e2', e3', ← f0, ← f1, ← f2, ← f3]
    simp
    constructor
    · rintro ⟨a, b, c, d⟩; exact ⟨c, d, a, b⟩
    · rintro ⟨c, d, a, b⟩; exact ⟨a, b, c, d⟩
  · have e1 : (b.length + 1) % 4 = 0 := by omega
    have e2 : (b.length + 2) % 4 = 1 := by omega
    have e3 : (b.length + 3) % 4 = 2 := by omega
    have e2' : (b.length + 1 + 1) % 4 = 1 := by omega
    have e3' : (b.length + 1 + 1 + 1) % 4 = 2 := by omega
    simp only [h, e1, e2, e3, e2', e3', ← f0, ← f1, ← f2, ← f3]
    simp
    constructor
    · rintro ⟨a, b, c, d⟩; exact ⟨d, a, b, c⟩
    · rintro ⟨d, a, b, c⟩; exact ⟨a, b, c, d⟩
theorem tail_iff' (b tl : Tx) (hl : tl.length = 4) (hs : tl.all sg = true) :
    (sumF 8 (b ++ tl) 0 % 96 = 0 ∧ sumF 8 (b ++ tl) 1 % 96 = 0 ∧ sumF 8 (b ++ tl) 2 % 96 = 0 ∧ sumF 8 (b ++ tl) 3 % 96 = 0) ↔ tl = tailT b := by
  match tl, hl, hs with
  | [t0, t1, t2, t3], _, hs =>
    simp at hs
    exact tail_iff b t0 t1 t2 t3 hs.1 hs.2.1 hs.2.2.1 hs.2.2.2
theorem tailT_sg (b : Tx) : (tailT b).all sg = true := by
  unfold tailT
  simp [sg_chN]
/-! ### the head -/
theorem headT_dig (n : Nat) : (headT n).all dig = true := by
  unfold headT pad4 dig
  simp
  omega
theorem dig_sg {c : Nat} (h : dig c = true) : sg c = true := by
  unfold dig at h
  unfold sg
  simp at h ⊢
  omega
theorem headT_val (n : Nat) (h : n < 10000) : val4 ((headT n).take 4) = n := by
  show val4 (pad4 n) = n
  unfold pad4 val4 PySem.NumText.digitsVal
  simp
  omega
/-- the law's step -/
def sizeL (t : Tx) : Nat := if (t.take 4).all dig = true then val4 (t.take 4) else 0
def cutF (t : Tx) : Tx := (t.drop 8).take (t.length - 12)
theorem step_iff (t : Tx) (ht : t.all sg = true) (h13 : 13 ≤ t.length) (n : Nat) : (sizeL t = n ∧ 1 ≤ n ∧ n ≤ 5000 ∧ isF (t.take (n + 12)) (cutF (t.take (n + 12))) = true) ↔ parse t = some n := by
  have hsg : ∀ l : Tx, (∀ c ∈ l, c ∈ t) → l.all sg = true := fun l h => List.all_eq_true.mpr fun c hc => List.all_eq_true.mp ht c (h c hc)
  constructor
  · rintro ⟨e1, e2, e3, e4⟩
    unfold isF at e4
    rw [decide_eq_true_eq] at e4
    obtain ⟨q1, q2, q3, q4, q5, q6⟩ := e4
    have hl : (cutF (t.take (n + 12))).length = min (n + 12) t.length - 12 := by
      unfold cutF
      rw [List.length_take, List.length_drop, List.length_take]
      omega
    have k4 : (t.take (n + 12)).take 4 = t.take 4 := by rw [List.take_take, Nat.min_eq_left (by omega)]
    have k8 : (t.take (n + 12)).take 8 = t.take 8 := by rw [List.take_take, Nat.min_eq_left (by omega)]
    rw [k4] at q4 q5
    rw [k8] at q3 q4
    have hd4 : (t.take 4).all dig = true := by
      have : t.take 4 = (t.take 8).take 4 := by rw [List.take_take]; rfl
      rw [this]
      exact List.all_eq_true.mpr fun c hc => List.all_eq_true.mp q3 c (List.mem_of_mem_take hc)
    have hn : val4 (t.take 4) = n := by
      unfold sizeL at e1
      rw [if_pos hd4] at e1
      exact e1
    rw [hn] at q4 q5
    have hlen : n + 12 ≤ t.length := by omega
    have hd8 : (t.take (n + 12)).drop 8 = (t.drop 8).take (n + 4) := by
      rw [List.drop_take]
      congr 1
    have hb : cutF (t.take (n + 12)) = (t.drop 8).take n := by
      unfold cutF
      rw [hd8, List.take_take, List.length_take]
      congr 1
      omega
    unfold parse sizeA
    rw [if_neg (fun q => by rcases q with q | q; omega; rw [q3] at q; cases q), hn, if_pos ⟨q4, e2, e3⟩, Option.bind_some]
    have hsp : (t.drop 8).take (n + 4) = (t.drop 8).take n ++ (t.drop (8 + n)).take 4 := by
      rw [List.take_add, List.drop_drop]
    have htl : ((t.drop (8 + n)).take 4).length = 4 := by rw [List.length_take, List.length_drop]; omega
    rw [hd8, hsp] at q6
    have := (tail_iff' ((t.drop 8).take n) ((t.drop (8 + n)).take 4) htl (hsg _ fun c hc => List.mem_of_mem_drop (List.mem_of_mem_take hc))).mp q6
    rw [if_pos ⟨by rw [List.length_take, List.length_drop]; omega, hsg _ fun c hc => List.mem_of_mem_drop (List.mem_of_mem_take hc), this⟩]
  · intro e
    have hb := parse_bound e
    unfold parse at e
    cases ea : sizeA t with
    | none => rw [ea] at e; cases e
    | some m =>
      rw [ea, Option.bind_some] at e
      split at e
      · rename_i hc
        cases e
        unfold sizeA at ea
        split at ea
        · cases ea
        · rename_i g1
          split at ea
          · rename_i g2
            have hn : val4 (t.take 4) = n := Option.some.inj ea
            rw [hn] at g2
            have hd8' : (t.take 8).all dig = true := by
              cases q : (t.take 8).all dig with
              | true => rfl
              | false => exact absurd (.inr q) g1
            have hd4 : (t.take 4).all dig = true := by
              have : t.take 4 = (t.take 8).take 4 := by rw [List.take_take]; rfl
              rw [this]
              exact List.all_eq_true.mpr fun c hc => List.all_eq_true.mp hd8' c (List.mem_of_mem_take hc)
            have k4 : (t.take (n + 12)).take 4 = t.take 4 := by rw [List.take_take, Nat.min_eq_left (by omega)]
            have k8 : (t.take (n + 12)).take 8 = t.take 8 := by rw [List.take_take, Nat.min_eq_left (by omega)]
            have hd8 : (t.take (n + 12)).drop 8 = (t.drop 8).take (n + 4) := by
              rw [List.drop_take]
              congr 1
            have hcf : cutF (t.take (n + 12)) = (t.drop 8).take n := by
              unfold cutF
              rw [hd8, List.take_take, List.length_take]
              congr 1
              omega
            have hsp : (t.drop 8).take (n + 4) = (t.drop 8).take n ++ (t.drop (8 + n)).take 4 := by
              rw [List.take_add, List.drop_drop]
            have htl : ((t.drop (8 + n)).take 4).length = 4 := by rw [List.length_take, List.length_drop]; omega
            refine ⟨by unfold sizeL; rw [if_pos hd4]; exact hn, hb.2.1, hb.2.2, ?_⟩
            unfold isF
            rw [decide_eq_true_eq, k4, k8, hcf, hn, hd8, hsp]
            refine ⟨by rw [List.length_take, hc.1]; omega, ?_, hd8', g2.1, hc.1.symm, (tail_iff' _ _ htl (hsg _ fun c hc => List.mem_of_mem_drop (List.mem_of_mem_take hc))).mpr hc.2.2⟩
            rw [← hsp, List.take_take, List.length_take]
            congr 1
            omega
          · cases ea
      · cases e
end K77

set_option Elab.async false
set_option linter.all false
set_option maxRecDepth 100000
set_option maxHeartbeats 4000000
namespace K77
open PySem PySem.Spec PyProof.Rows L2 Mv
/-! ### the law's own reading -/
def condR : SE Bool := (eBool (eOp pLe (eOp pAdd (eVar 3) (SE.ret (.int 13))) (eCB (one pLen) (aCons (eVar 0) aNil))))
def sizeE : SE PV := (eIf (eTru (eCB (one pAll) (aCons (vw (sLc (sIt (eVar 4)) (gN 7) sYes (eChain pLe pLe (SE.ret (.str [48])) (eVar 7) (SE.ret (.str [57]))) [7])) aNil))) (eCB (one pInt) (aCons (eVar 4) aNil)) (SE.ret (.int 0)))
def ifR : SE Bool := (sOr (sNot (eBool (eChain pLe pLe (SE.ret (.int 1)) (eVar 5) (SE.ret (.int 5000))))) (sNot (eTru (vw (eCall f__law_is_frame @gPos (rV (eVar 6) (rV (eSl (eVar 6) (ePart (SE.ret (.int 8))) (ePart (eUn pNeg (SE.ret (.int 4))))) rNil)) rNil)))))
def retR : SE Out := (sSeq (sFz 1 (sFz 2 (sRet (Mv.mv (eTup (aCons (eVar 1) (aCons (eVar 2) aNil))))))) sNil)
def appR : SE Out := (sSeq (sSet 3 (Mv.mv (eOp pAdd (eOp pAdd (eVar 3) (eVar 5)) (SE.ret (.int 12))))) (sSeq (sApp 1 (eSl (eVar 6) (ePart (SE.ret (.int 8))) (ePart (eUn pNeg (SE.ret (.int 4)))))) (sSeq (sApp 2 (eVar 3)) sNil)))
def bodyR : SE Out := (sSeq (sSet 4 (Mv.mv (eSl (eVar 0) (ePart (eVar 3)) (ePart (eOp pAdd (eVar 3) (SE.ret (.int 4))))))) (sSeq (sSet 5 (Mv.mv sizeE)) (sSeq (sSet 6 (Mv.mv (eSl (eVar 0) (ePart (eVar 3)) (ePart (eOp pAdd (eOp pAdd (eVar 3) (eVar 5)) (SE.ret (.int 12))))))) (sSeq (sIf ifR retR sNil) appR))))
theorem e_law_read_eq : e__law_read = sSeq (sPar [1, 2, 3] (mCons (eLst aNil) (mCons (eLst aNil) (mCons (Mv.mv (SE.ret (.int 0))) mNil)))) (sSeq (whileL condR bodyR 1000000) retR) := rfl
def bsM (bs : List Tx) : MV := .ml (bs.map fun b => .fz (.str b))
def esM (es : List Int) : MV := .ml (es.map fun i => .fz (.int i))
theorem bsM_view (bs : List Tx) : (bsM bs).view = .lst (bs.map .str) := by
  unfold bsM
  rw [view_ml]
  exact congrArg PV.lst (views_comp (fun b => PV.str b) bs)
theorem esM_view (es : List Int) : (esM es).view = .lst (es.map .int) := by
  unfold esM
  rw [view_ml]
  exact congrArg PV.lst (views_comp (fun b => PV.int b) es)
theorem retR_ok (s : Option MV) (bs : List Tx) (es : List Int) (j3 j4 j5 j6 j7 : Option MV) : ∃ ρ', retR [s, some (bsM bs), some (esM es), j3, j4, j5, j6, j7] = .ok (.rt (.fz (.tup [.lst (bs.map .str), .lst (es.map .int)]))) ρ' := by
  refine ⟨[s, some (.fz (.lst (bs.map .str))), some (.fz (.lst (es.map .int))), j3, j4, j5, j6, j7], ?_⟩
  unfold retR
  simp [bsM_view, esM_view]
theorem size_ok (s B U A j5 j6 : Option MV) (h : Tx) (hl : h.length = 4) : sizeE [s, B, U, A, some (.fz (.str h)), j5, j6, none] = .ok (.int ((if h.all dig = true then val4 h else 0 : Nat) : Int)) [s, B, U, A, some (.fz (.str h)), j5, j6, none] := by
  have hl2 : h.length ≤ 16777216 := by omega
  have hl3 : h.length ≤ 640 := by omega
  have t : ∀ acc, lcGo (gN 7) sYes (eChain pLe pLe (SE.ret (.str [48])) (eVar 7) (SE.ret (.str [57]))) [7] (h.map fun c => .str [c]) acc [s, B, U, A, some (.fz (.str h)), j5, j6, none] = some (acc ++ h.map (fun c => .bl (dig c)), [s, B, U, A, some (.fz (.str h)), j5, j6, none]) := fun acc => by
    generalize some (MV.fz (PV.str h)) = D
    have := lcGo_pure (g := gN 7) (tt := sYes) (te := eChain pLe pLe (SE.ret (.str [48])) (eVar 7) (SE.ret (.str [57]))) (vs := [7]) (ρ := [s, B, U, A, D, j5, j6, none]) (f := fun p => match p with | .str [c] => .bl (dig c) | _ => .non) (items := h.map fun c => .str [c]) (acc := acc) (fun p hp => by
      obtain ⟨c, _, rfl⟩ := List.mem_map.mp hp
      refine ⟨[s, B, U, A, D, j5, j6, some (.fz (.str [c]))], [s, B, U, A, D, j5, j6, some (.fz (.str [c]))], [s, B, U, A, D, j5, j6, some (.fz (.str [c]))], by simp, by simp, ?_, by simp⟩
      by_cases q1 : c < 48
      · simp [q1, lt1, dig]; omega
      · have q1' : 48 ≤ c := by omega
        by_cases q2 : 57 < c
        · have q2' : ¬ c ≤ 57 := by omega
          simp [q1, q1', lt1, dig, q2]
        · have q2' : c ≤ 57 := by omega
          simp [q1, q1', lt1, dig, q2, q2'])
    rw [this, List.map_map]
    rfl
  have hp : pAll (.lst (h.map fun c => .bl (dig c))) = some (.bl (h.all dig)) := pAll_map dig h
  unfold sizeE
  cases hd : h.all dig with
  | true =>
    have hi := int_digs h hd (by intro q; rw [q] at hl; cases hl) hl3
    rw [hd] at hp
    simp [t, hl2, hl3, hp, hi, -List.all_eq_true]
  | false =>
    rw [hd] at hp
    simp [t, hl2, hp, -List.all_eq_true]
theorem turnR (s : Tx) (hs : s.length ≤ 900000) (hsg : s.all sg = true) (a : Nat) (ha : a + 13 ≤ s.length) (bs : List Tx) (es : List Int) (hbs : bs.length ≤ 1000000) (hes : es.length ≤ 1000000) (j4 j5 j6 : Option MV) :
    (parse (s.drop a) = none ∧ ∃ ρ', bodyR [some (.fz (.str s)), some (bsM bs), some (esM es), some (.fz (.int a)), j4, j5, j6, none] = .ok (.rt (.fz (.tup [.lst (bs.map .str), .lst (es.map .int)]))) ρ') ∨
    ∃ n j4' j5' j6', parse (s.drop a) = some n ∧ bodyR [some (.fz (.str s)), some (bsM bs), some (esM es), some (.fz (.int a)), j4, j5, j6, none] = .ok .nx [some (.fz (.str s)), some (bsM (bs ++ [((s.drop a).drop 8).take n])), some (esM (es ++ [((a + n + 12 : Nat) : Int)])), some (.fz (.int ((a + n + 12 : Nat) : Int))), j4', j5', j6', none] := by
  have hsl : s.length ≤ 16777216 := by omega
  have hdl : (s.drop a).length = s.length - a := List.length_drop ..
  have hds : (s.drop a).all sg = true := List.all_eq_true.mpr fun c hc => List.all_eq_true.mp hsg c (List.mem_of_mem_drop hc)
  generalize ht : s.drop a = t at *
  have c4 : cutL s (some (a : Int)) (some ((a : Int) + 4)) = t.take 4 := by
    have := cut_at s a 0 4 (i := (a : Int)) (j := (a : Int) + 4) (by omega) (by omega)
    rw [this, List.drop_zero, ht]
  have s1 : ∀ (B U A j5 j6 j7), sSet 4 (Mv.mv (eSl (eVar 0) (ePart (eVar 3)) (ePart (eOp pAdd (eVar 3) (SE.ret (.int 4)))))) [some (.fz (.str s)), B, U, some (.fz (.int a)), A, j5, j6, j7] = .ok .nx [some (.fz (.str s)), B, U, some (.fz (.int a)), some (.fz (.str (t.take 4))), j5, j6, j7] := fun B U A j5 j6 j7 => by simp [hsl, c4]
  have h4 : (t.take 4).length = 4 := by rw [List.length_take]; omega
  have hz : (if (t.take 4).all dig = true then val4 (t.take 4) else 0) = sizeL t := rfl
  generalize hn : sizeL t = n at hz
  have s2 : ∀ (B U j5 j6), sSet 5 (Mv.mv sizeE) [some (.fz (.str s)), B, U, some (.fz (.int a)), some (.fz (.str (t.take 4))), j5, j6, none] = .ok .nx [some (.fz (.str s)), B, U, some (.fz (.int a)), some (.fz (.str (t.take 4))), some (.fz (.int n)), j6, none] := fun B U j5 j6 => by
    rw [sSet_ap, mv_ap, size_ok _ _ _ _ _ _ _ h4, hz]
    simp
  have ct : cutL s (some (a : Int)) (some ((a : Int) + n + 12)) = t.take (n + 12) := by
    have := cut_at s a 0 (n + 12) (i := (a : Int)) (j := (a : Int) + n + 12) (by omega) (by omega)
    rw [this, List.drop_zero, ht]
  have s3 : ∀ (B U D j6), sSet 6 (Mv.mv (eSl (eVar 0) (ePart (eVar 3)) (ePart (eOp pAdd (eOp pAdd (eVar 3) (eVar 5)) (SE.ret (.int 12)))))) [some (.fz (.str s)), B, U, some (.fz (.int a)), D, some (.fz (.int n)), j6, none] = .ok .nx [some (.fz (.str s)), B, U, some (.fz (.int a)), D, some (.fz (.int n)), some (.fz (.str (t.take (n + 12)))), none] := fun B U D j6 => by simp [hsl, ct]
  generalize hT : t.take (n + 12) = T at *
  have hTl : T.length ≤ 900000 := by rw [← hT, List.length_take]; omega
  have hTl2 : T.length ≤ 16777216 := by omega
  have cT : cutL T (some 8) (some (-4)) = cutF T := by
    have := cutL_pm T 8 4 (by omega)
    have e : T.length - 4 - 8 = T.length - 12 := by omega
    rw [e] at this
    exact this
  have hcl : (cutF T).length ≤ 900000 := by unfold cutF; rw [List.length_take, List.length_drop]; omega
  have hF := f_is_frame_eq T (cutF T) hTl hcl
  have s4 : ∀ (S B U A D : Option MV), ifR [S, B, U, A, D, some (.fz (.int n)), some (.fz (.str T)), none] = .ok (!(decide (1 ≤ n ∧ n ≤ 5000) && isF T (cutF T))) [S, B, U, A, D, some (.fz (.int n)), some (.fz (.str T)), none] := fun S B U A D => by
    unfold ifR
    by_cases q1 : 1 ≤ n
    · have q1' : (1 : Int) ≤ (n : Int) := by omega
      by_cases q2 : n ≤ 5000
      · have q2' : (n : Int) ≤ 5000 := by omega
        simp [q1, q1', q2, q2', hTl2, cT, hF]
      · have q2' : ¬ (n : Int) ≤ 5000 := by omega
        simp [q1, q1', q2, q2']
    · have q1' : ¬ (1 : Int) ≤ (n : Int) := by omega
      simp [q1, q1']
  have hst := step_iff t hds (by omega) n
  rw [hT] at hst
  unfold bodyR
  rw [sSeq_nx (s1 _ _ _ _ _ _), sSeq_nx (s2 _ _ _ _), sSeq_nx (s3 _ _ _ _)]
  by_cases hg : (1 ≤ n ∧ n ≤ 5000) ∧ isF T (cutF T) = true
  · right
    have hp := hst.mp ⟨hn, hg.1.1, hg.1.2, hg.2⟩
    have hc : cutF T = (t.drop 8).take n := by
      have hb := parse_bound hp
      unfold cutF
      rw [← hT, List.drop_take, List.take_take, List.length_take]
      congr 1
      omega
    refine ⟨n, some (.fz (.str (t.take 4))), some (.fz (.int n)), some (.fz (.str T)), hp, ?_⟩
    have hB := s4 (some (.fz (.str s))) (some (bsM bs)) (some (esM es)) (some (.fz (.int a))) (some (.fz (.str (t.take 4))))
    rw [decide_eq_true hg.1, hg.2] at hB
    rw [sSeq_nx (by rw [sIf_f hB, sNil_ap]), ← hc]
    unfold appR
    have e1 : bs.length < 16777216 := by omega
    have e2 : es.length < 16777216 := by omega
    have e3 : (a : Int) + (n : Int) + 12 = ((a + n + 12 : Nat) : Int) := by omega
    have a1 : ∀ (S B U D X : Option MV), sSet 3 (Mv.mv (eOp pAdd (eOp pAdd (eVar 3) (eVar 5)) (SE.ret (.int 12)))) [S, B, U, some (.fz (.int a)), D, some (.fz (.int n)), X, none] = .ok .nx [S, B, U, some (.fz (.int ((a + n + 12 : Nat) : Int))), D, some (.fz (.int n)), X, none] := fun S B U D X => by
      rw [← e3]
      simp
    have a2 : ∀ (S U A D N : Option MV), sApp 1 (eSl (eVar 6) (ePart (SE.ret (.int 8))) (ePart (eUn pNeg (SE.ret (.int 4))))) [S, some (bsM bs), U, A, D, N, some (.fz (.str T)), none] = .ok .nx [S, some (bsM (bs ++ [cutF T])), U, A, D, N, some (.fz (.str T)), none] := fun S U A D N => by
      have hl : (bs.map fun b => MV.fz (.str b)).length < 16777216 := by rw [List.length_map]; exact e1
      unfold bsM
      rw [List.map_append]
      simp [hTl2, cT, e1]
    have a3 : ∀ (S B D N X : Option MV) (k : Int), sApp 2 (eVar 3) [S, B, some (esM es), some (.fz (.int k)), D, N, X, none] = .ok .nx [S, B, some (esM (es ++ [k])), some (.fz (.int k)), D, N, X, none] := fun S B D N X k => by
      unfold esM
      rw [List.map_append]
      simp [e2]
    rw [sSeq_nx (a1 _ _ _ _ _), sSeq_nx (a2 _ _ _ _ _), sSeq_nx (a3 _ _ _ _ _ _), sNil_ap]
  · left
    have hB := s4 (some (.fz (.str s))) (some (bsM bs)) (some (esM es)) (some (.fz (.int a))) (some (.fz (.str (t.take 4))))
    have hf : (decide (1 ≤ n ∧ n ≤ 5000) && isF T (cutF T)) = false := by
      cases q : (decide (1 ≤ n ∧ n ≤ 5000) && isF T (cutF T)) with
      | false => rfl
      | true =>
        rw [Bool.and_eq_true, decide_eq_true_eq] at q
        exact absurd q hg
    rw [hf] at hB
    obtain ⟨ρ', e⟩ := retR_ok (some (.fz (.str s))) bs es (some (.fz (.int a))) (some (.fz (.str (t.take 4)))) (some (.fz (.int n))) (some (.fz (.str T))) none
    refine ⟨?_, ρ', sSeq_rt (by rw [sIf_t hB, e])⟩
    cases hq : parse t with
    | none => rfl
    | some m =>
      have := (step_iff t hds (by omega) m).mpr hq
      rw [hn] at this
      obtain ⟨rfl, x1, x2, x3⟩ := this
      rw [hT] at x3
      exact absurd ⟨⟨x1, x2⟩, x3⟩ hg
theorem condR_ok (s : Tx) (hs : s.length ≤ 900000) (a : Nat) (B U j4 j5 j6 j7 : Option MV) : condR [some (.fz (.str s)), B, U, some (.fz (.int a)), j4, j5, j6, j7] = .ok (decide (a + 13 ≤ s.length)) [some (.fz (.str s)), B, U, some (.fz (.int a)), j4, j5, j6, j7] := by
  have hsl : s.length ≤ 16777216 := by omega
  unfold condR
  simp [hsl]
  omega
theorem loopR (s : Tx) (hs : s.length ≤ 900000) (hsg : s.all sg = true) : ∀ (k a : Nat) (bs : List Tx) (es : List Int) (j4 j5 j6 : Option MV), (s.drop a).length < k → bs.length + (s.drop a).length ≤ 1000000 → es.length + (s.drop a).length ≤ 1000000 →
    ∃ E ρ', nxt (whileL condR bodyR (k + 1) [some (.fz (.str s)), some (bsM bs), some (esM es), some (.fz (.int a)), j4, j5, j6, none]) (fun ρ' => retR ρ') = .ok (.rt (.fz (.tup [.lst ((bs ++ rdB (s.drop a)).map .str), .lst E]))) ρ'
  | 0, a, bs, es, j4, j5, j6, h, _, _ => by omega
  | k + 1, a, bs, es, j4, j5, j6, h, hb, he => by
    rw [whileL_ap, condR_ok s hs, th_ok]
    by_cases hc : a + 13 ≤ s.length
    · rw [decide_eq_true hc, if_pos rfl]
      rcases turnR s hs hsg a hc bs es (by omega) (by omega) j4 j5 j6 with ⟨hp, ρ', e⟩ | ⟨n, j4', j5', j6', hp, e⟩
      · refine ⟨es.map .int, ρ', ?_⟩
        rw [e, lpO_rt, nxt_rt, rdB_eq, hp]
        simp
      · have hbd := parse_bound hp
        have hd : s.drop (a + n + 12) = (s.drop a).drop (n + 12) := by rw [List.drop_drop]; congr 1
        have hll : ((s.drop a).drop (n + 12)).length = (s.drop a).length - (n + 12) := List.length_drop ..
        obtain ⟨E, ρ', ih⟩ := loopR s hs hsg k (a + n + 12) (bs ++ [((s.drop a).drop 8).take n]) (es ++ [((a + n + 12 : Nat) : Int)]) j4' j5' j6' (by rw [hd]; omega) (by rw [hd, List.length_append, List.length_singleton]; omega) (by rw [hd, List.length_append, List.length_singleton]; omega)
        refine ⟨E, ρ', ?_⟩
        rw [e, lpO_nx, ih, hd]
        conv => rhs; rw [rdB_eq, hp]
        simp
    · rw [decide_eq_false hc, if_neg Bool.false_ne_true, nxt_nx]
      obtain ⟨ρ', e⟩ := retR_ok (some (.fz (.str s))) bs es (some (.fz (.int a))) j4 j5 j6 none
      refine ⟨es.map .int, ρ', ?_⟩
      have hp : parse (s.drop a) = none := by
        cases q : parse (s.drop a) with
        | none => rfl
        | some n =>
          have := parse_bound q
          rw [List.length_drop] at this
          omega
      rw [e, rdB_eq, hp]
      simp
theorem f_law_read_eq (s : Tx) (hs : s.length ≤ 900000) (hsg : s.all sg = true) : ∃ E, f__law_read [.fz (.str s)] = .ok (.fz (.tup [.lst ((rdB s).map .str), .lst E])) [] := by
  rw [r__law_read, e_law_read_eq]
  obtain ⟨E, ρ', e⟩ := loopR s hs hsg 999999 0 [] [] none none none (by rw [List.drop_zero]; omega) (by rw [List.drop_zero]; simp; omega) (by rw [List.drop_zero]; simp; omega)
  rw [List.drop_zero, List.nil_append] at e
  have e2 : (999999 + 1 : Nat) = 1000000 := rfl
  rw [e2] at e
  refine ⟨E, ?_⟩
  have s1 : sPar [1, 2, 3] (mCons (eLst aNil) (mCons (eLst aNil) (mCons (Mv.mv (SE.ret (.int 0))) mNil))) [some (.fz (.str s)), none, none, none, none, none, none, none] = .ok .nx [some (.fz (.str s)), some (bsM []), some (esM []), some (.fz (.int ((0 : Nat) : Int))), none, none, none, none] := by
    simp [bsM, esM]
  rw [sSeq_nx s1, sSeq_ap, e]
  simp
end K77

set_option Elab.async false
set_option linter.all false
set_option maxRecDepth 100000
set_option maxHeartbeats 4000000
namespace K77
open PySem PySem.Spec PyProof.Rows L2 Mv
/-! ### draws -/
def potM (a b : Int) : MV := .ml [.fz (.int a), .fz (.int b)]
def okP (m : MV) : Prop := ∃ a b : Int, m = potM a b ∧ 0 ≤ b ∧ b < 4294967296
theorem pPow_int (i j : Int) : pPow (.int i) (.int j) = if CPow i j then some (.int (i ^ j.toNat)) else none := rfl
theorem cmul_r {i j : Int} (h : -(2 ^ 64) < j ∧ j < 2 ^ 64) : CMul i j := .inr h
theorem cmul_l {i j : Int} (h : -(2 ^ 64) < i ∧ i < 2 ^ 64) : CMul i j := .inl h
def cellE : SE PV := (eIf (eBool (eOp pLt (eVar 1) (eCB (one pLen) (aCons (eVar 0) aNil)))) (eCB (one pAbs) (aCons (eOp pIx (eVar 0) (eVar 1)) aNil)) (eOp pAdd (eOp pMul (SE.ret (.int 4547)) (eVar 1)) (SE.ret (.int 3677))))
def potE : SE MV := (eLst (aCons (eCB (two pMax) (aCons (SE.ret (.int 0)) (aCons (eOp pSub (eVar 2) (eOp pPow (SE.ret (.int 10)) (SE.ret (.int 18)))) aNil))) (aCons (eOp pAdd (eOp pMod (eCB (one pInt) (aCons (eOp pAdd (eOp pAdd (eOp pMul (eOp pMod (eCB (one pInt) (aCons (eVar 2) aNil)) (SE.ret (.int 2147483549))) (SE.ret (.int 40014))) (eOp pMul (SE.ret (.int 9539)) (eVar 1))) (SE.ret (.int 3187))) aNil)) (SE.ret (.int 2147483563))) (SE.ret (.int 1))) aNil)))
theorem e_law_pot_eq : e__law_pot = sSeq (sSet 2 (Mv.mv cellE)) (sSeq (sRet potE) sNil) := rfl
theorem cell_ok (ns : List Int) (k : Nat) (hk : k < 100) (j : Option MV) : ∃ c : Int, cellE [some (.fz (.scr ns)), some (.fz (.int k)), j] = .ok (.int c) [some (.fz (.scr ns)), some (.fz (.int k)), j] := by
  have hc : CMul 4547 (k : Int) := cmul_l (by omega)
  unfold cellE
  by_cases h : k < ns.length
  · have e := at_nat ns k h
    refine ⟨if ns[k] < 0 then -ns[k] else ns[k], ?_⟩
    simp [h, e]
  · refine ⟨4547 * k + 3677, ?_⟩
    simp [h, hc]
theorem pot_ok (S : Option MV) (k : Nat) (hk : k < 100) (c : Int) : ∃ m, potE [S, some (.fz (.int k)), some (.fz (.int c))] = .ok m [S, some (.fz (.int k)), some (.fz (.int c))] ∧ okP m := by
  have h1 : CPow 10 18 := by unfold CPow; omega
  have h2 : CMul (c % 2147483549) 40014 := cmul_r (by omega)
  have h3 : CMul 9539 (k : Int) := cmul_l (by omega)
  refine ⟨potM (if c - 10 ^ (18 : Int).toNat > 0 then c - 10 ^ (18 : Int).toNat else 0) ((c % 2147483549 * 40014 + 9539 * k + 3187) % 2147483563 + 1), ?_, _, _, rfl, by omega, by omega⟩
  unfold potE
  have z1 : (0 : Int) < 2147483549 := by omega
  have z2 : (0 : Int) < 2147483563 := by omega
  have z3 : (0 + 1 + 1 : Nat) ≤ 16777216 := Nat.le_of_ble_eq_true rfl
  simp only [eLst_ap, aCons_ap, eCB_ap, ret_ap, th_ok, eOp_ap, eVar_ap, List.getElem?_cons_succ, List.getElem?_cons_zero, slotF_fz, oth_some, pPow_int, h1, if_true, ofO_some, pSub_int, aNil_ap, two_ap, one_ap, pMax_int, pInt_int, pMod_int, pMul_int, h2, h3, pAdd_int, z1, z2, List.length_cons, List.length_nil, z3, List.map_cons, List.map_nil]
  rfl
theorem f_law_pot_eq (ns : List Int) (k : Nat) (hk : k < 100) : ∃ m, f__law_pot [.fz (.scr ns), .fz (.int k)] = .ok m [] ∧ okP m := by
  rw [r__law_pot, e_law_pot_eq]
  obtain ⟨c, hc⟩ := cell_ok ns k hk none
  obtain ⟨m, hm, hp⟩ := pot_ok (some (.fz (.scr ns))) k hk c
  refine ⟨m, ?_, hp⟩
  rw [sSeq_nx (ρ' := [some (.fz (.scr ns)), some (.fz (.int k)), some (.fz (.int c))]) (by rw [sSet_ap, mv_ap, hc]; simp)]
  rw [sSeq_rt (by rw [sRet_ap, hm, th_ok])]
  simp
theorem at2 {α : Type} (a b : α) : atI [a, b] 0 = some a ∧ atI [a, b] 1 = some b := ⟨rfl, rfl⟩
theorem ix2 : ixN 2 0 = some 0 ∧ ixN 2 1 = some 1 := ⟨rfl, rfl⟩
theorem f_law_draw_eq (m : MV) (hp : okP m) (many : Int) (h0 : 0 < many) (h1 : many < 1073741824) : ∃ d m', f__law_draw [m, .fz (.int many)] = .ok (.fz (.int d)) [m'] ∧ okP m' ∧ 0 ≤ d ∧ d < many := by
  rw [r__law_draw]
  obtain ⟨a, b, rfl, hb0, hb1⟩ := hp
  have hd : CDiv a many := ⟨h0, h1⟩
  unfold e__law_draw potM
  by_cases ha : 0 < a
  · refine ⟨a % many, potM (a / many) b, ?_, ⟨_, _, rfl, hb0, hb1⟩, Int.emod_nonneg _ (by omega), Int.emod_lt_of_pos _ h0⟩
    simp [ha, at2, ix2, hd, potM]
  · have c1 : CMul b 40692 := cmul_r (by omega)
    have c2 : CMul ((b * 40692 + 12713) % 2147483587) ((b * 40692 + 12713) % 2147483587) := cmul_l (by omega)
    have c3 : CDiv ((b * 40692 + 12713) % 2147483587 * ((b * 40692 + 12713) % 2147483587) % 2147483549) 19 := ⟨by omega, by omega⟩
    refine ⟨(b * 40692 + 12713) % 2147483587 * ((b * 40692 + 12713) % 2147483587) % 2147483549 / 19 % many, potM a ((b * 40692 + 12713) % 2147483587), ?_, ⟨_, _, rfl, by omega, by omega⟩, Int.emod_nonneg _ (by omega), Int.emod_lt_of_pos _ h0⟩
    simp [ha, at2, ix2, c1, c2, c3, h0, potM]
theorem okP_ml {m : MV} (h : okP m) : ∃ xs, m = .ml xs := by
  obtain ⟨a, b, rfl, _⟩ := h
  exact ⟨_, rfl⟩
theorem f_law_pick_eq (m : MV) (hp : okP m) (xs : List PV) (h0 : xs ≠ []) (h1 : xs.length < 1000000) : ∃ x m', f__law_pick [m, .fz (.lst xs)] = .ok (.fz x) [m'] ∧ okP m' ∧ x ∈ xs := by
  rw [r__law_pick]
  have hl : 0 < xs.length := List.length_pos_iff.mpr h0
  obtain ⟨d, m', e, hp', d0, d1⟩ := f_law_draw_eq m hp xs.length (by omega) (by omega)
  obtain ⟨ys, rfl⟩ := okP_ml hp
  have ha := atI_pos xs d0 (by omega)
  refine ⟨xs[d.toNat]'(by omega), m', ?_, hp', List.getElem_mem _⟩
  unfold e__law_pick
  simp [e, ha]
end K77

set_option Elab.async false
set_option linter.all false
set_option maxRecDepth 100000
set_option maxHeartbeats 4000000
namespace K77
open PySem PySem.Spec PyProof.Rows L2 Mv
def nine : List Nat := [48, 57, 53, 97, 32, 126, 10, 33, 90]
theorem f_other_eq (m : MV) (hp : okP m) (c : Nat) : ∃ d m', f__law_other_sign [m, .fz (.str [c])] = .ok (.fz (.str [d])) [m'] ∧ okP m' ∧ d ≠ c ∧ sg d = true := by
  rw [r__law_other_sign]
  have hF : ∀ (S : Option MV), lcGo (gN 3) (eBool (eOp pNe (eVar 3) (eVar 1))) (eVar 3) [3] (nine.map fun d => .str [d]) [] [S, some (.fz (.str [c])), none, none] = some (((nine.map fun d => PV.str [d]).filter (fun p => match p with | .str [d] => !decide (d = c) | _ => false)).map (fun p => p), [S, some (.fz (.str [c])), none, none]) := fun S => by
    have := lcGo_filter (g := gN 3) (tt := eBool (eOp pNe (eVar 3) (eVar 1))) (te := eVar 3) (vs := [3]) (ρ := [S, some (.fz (.str [c])), none, none]) (f := fun p => p) (b := fun p => match p with | .str [d] => !decide (d = c) | _ => false) (items := nine.map fun d => PV.str [d]) (acc := []) (fun p hq => by
      obtain ⟨d, _, rfl⟩ := List.mem_map.mp hq
      exact ⟨[S, some (.fz (.str [c])), none, some (.fz (.str [d]))], [S, some (.fz (.str [c])), none, some (.fz (.str [d]))], [S, some (.fz (.str [c])), none, some (.fz (.str [d]))], by simp, by simp, fun _ => by simp, fun _ => rfl, by simp⟩)
    rw [this, List.nil_append]
  rw [List.map_id'] at hF
  generalize hL : (nine.map fun d => PV.str [d]).filter (fun p => match p with | .str [d] => !decide (d = c) | _ => false) = L at hF
  have hne : L ≠ [] := by
    by_cases h : c = 48
    · subst h
      rw [← hL]
      decide
    · intro q
      have : PV.str [48] ∈ L := by
        rw [← hL, List.mem_filter]
        refine ⟨by unfold nine; simp, ?_⟩
        simp
        omega
      rw [q] at this
      cases this
  have hll : L.length ≤ 9 := by
    rw [← hL]
    exact Nat.le_trans (List.length_filter_le ..) (by rw [List.length_map]; exact Nat.le_refl 9)
  have hmem : ∀ x ∈ L, ∃ d, x = .str [d] ∧ d ≠ c ∧ sg d = true := fun x hx => by
    rw [← hL, List.mem_filter] at hx
    obtain ⟨h1, h2⟩ := hx
    obtain ⟨d, hd, rfl⟩ := List.mem_map.mp h1
    refine ⟨d, rfl, by simpa using h2, ?_⟩
    unfold nine at hd
    simp at hd
    rcases hd with rfl | rfl | rfl | rfl | rfl | rfl | rfl | rfl | rfl <;> rfl
  obtain ⟨x, m', e, hp', hx⟩ := f_law_pick_eq m hp L hne (by omega)
  obtain ⟨d, rfl, hd1, hd2⟩ := hmem x hx
  obtain ⟨ys, rfl⟩ := okP_ml hp
  refine ⟨d, m', ?_, hp', hd1, hd2⟩
  have en : [PV.str [48], .str [57], .str [53], .str [97], .str [32], .str [126], .str [10], .str [33], .str [90]] = nine.map fun d => .str [d] := rfl
  have s1 : sSetF 2 (sLc (sIt (vw (eLst (aCons (SE.ret (.str [48])) (aCons (SE.ret (.str [57])) (aCons (SE.ret (.str [53])) (aCons (SE.ret (.str [97])) (aCons (SE.ret (.str [32])) (aCons (SE.ret (.str [126])) (aCons (SE.ret (.str [10])) (aCons (SE.ret (.str [33])) (aCons (SE.ret (.str [90])) aNil)))))))))))) (gN 3) (eBool (eOp pNe (eVar 3) (eVar 1))) (eVar 3) [3]) [some (.ml ys), some (.fz (.str [c])), none, none] = .ok .nx [some (.ml ys), some (.fz (.str [c])), some (.fz (.lst L)), none] := by
    have hi : sIt (vw (eLst (aCons (SE.ret (.str [48])) (aCons (SE.ret (.str [57])) (aCons (SE.ret (.str [53])) (aCons (SE.ret (.str [97])) (aCons (SE.ret (.str [32])) (aCons (SE.ret (.str [126])) (aCons (SE.ret (.str [10])) (aCons (SE.ret (.str [33])) (aCons (SE.ret (.str [90])) aNil))))))))))) [some (.ml ys), some (.fz (.str [c])), none, none] = .ok (nine.map fun d => PV.str [d]) [some (.ml ys), some (.fz (.str [c])), none, none] := by
      rw [← en]
      simp
    have hln : (nine.map fun d => PV.str [d]).length ≤ 16777216 := by rw [List.length_map]; exact Nat.le_of_ble_eq_true rfl
    rw [sSetF_ap, sLc_ap, hi, th_ok, if_pos hln]
    simp [hF]
  unfold e__law_other_sign
  rw [sSeq_nx s1]
  simp [e]
/-! ### bodies -/
def wordsL : List Tx := [[97], [48], [57], [32], [126], [10], [33], [101, 112, 111, 99, 104], [97, 115, 107, 32, 48, 32, 48], [48, 48, 49, 51, 57, 57, 56, 54]]
theorem words_ok : ∀ w ∈ wordsL, 1 ≤ w.length ∧ w.length ≤ 8 ∧ w.all sg = true := by decide
theorem flatten_words : ∀ (ts : List Tx), (∀ t ∈ ts, t ∈ wordsL) → ts.length ≤ ts.flatten.length ∧ ts.flatten.length ≤ 8 * ts.length ∧ ts.flatten.all sg = true
  | [], h => by simp
  | t :: ts, h => by
    obtain ⟨h1, h2, h3⟩ := words_ok t (h t (List.mem_cons_self ..))
    obtain ⟨i1, i2, i3⟩ := flatten_words ts fun u hu => h u (List.mem_cons_of_mem _ hu)
    rw [List.flatten_cons, List.length_append, List.length_cons, List.all_append, h3, i3]
    refine ⟨by omega, by omega, rfl⟩
theorem paired_strs {P : Tx → Prop} : ∀ {xs ys : List PV}, Paired (fun _ y => ∃ t, P t ∧ y = PV.str t) xs ys → ∃ ts : List Tx, ys = ts.map .str ∧ ts.length = xs.length ∧ ∀ t ∈ ts, P t
  | _, _, .nil => ⟨[], rfl, rfl, fun t h => by cases h⟩
  | _, _, .cons ⟨t, ht, e⟩ r => by
    obtain ⟨ts, e1, e2, e3⟩ := paired_strs r
    refine ⟨t :: ts, by rw [e, e1]; rfl, by rw [List.length_cons, List.length_cons, e2], fun u hu => ?_⟩
    rcases List.mem_cons.mp hu with z | z
    · rw [z]; exact ht
    · exact e3 u z
theorem sum_len (ts : List Tx) : (ts.map List.length).sum = ts.flatten.length := by
  induction ts with
  | nil => rfl
  | cons t r ih => rw [List.map_cons, List.sum_cons, List.flatten_cons, List.length_append, ih]
theorem f_body_eq (m : MV) (hp : okP m) : ∃ b m', f__law_body [m] = .ok (.fz (.str b)) [m'] ∧ okP m' ∧ okB b ∧ b.length ≤ 72 := by
  rw [r__law_body]
  obtain ⟨d, m1, e1, hp1, d0, d1⟩ := f_law_draw_eq m hp 9 (by omega) (by omega)
  obtain ⟨ys, rfl⟩ := okP_ml hp
  have hn : (1 : Int) + d = ((d.toNat + 1 : Nat) : Int) := by omega
  have hrl : rngL 0 (1 + d) = rngP 0 (d.toNat + 1) := by rw [hn]; exact rngL_0 _
  have hr : -(4611686018427387904 : Int) ≤ 1 + d ∧ 1 + d < 4611686018427387904 := by omega
  obtain ⟨vs, ρ', q1, q2, q3⟩ := lcGo_rel (I := fun ρ => ∃ m, ρ = [some m, some (.fz (.lst (wordsL.map .str))), none] ∧ okP m) (Rl := fun _ y => ∃ t, t ∈ wordsL ∧ y = PV.str t) (g := gN 2) (tt := sYes) (te := vw (eCall f__law_pick @gPos (rP 0 (rV (eVar 1) rNil)) rNil)) (vs := [2]) (items := rngP 0 (d.toNat + 1)) (acc := []) (ρ := [some m1, some (.fz (.lst (wordsL.map .str))), none]) ⟨m1, rfl, hp1⟩ (fun p _ ρ hI => by
    obtain ⟨m, rfl, hm⟩ := hI
    obtain ⟨x, m', e, hm', hx⟩ := f_law_pick_eq m hm (wordsL.map .str) (by decide) (by decide)
    obtain ⟨t, ht, rfl⟩ := List.mem_map.mp hx
    obtain ⟨zs, rfl⟩ := okP_ml hm
    refine ⟨[some (.ml zs), some (.fz (.lst (wordsL.map .str))), some (.fz p)], [some (.ml zs), some (.fz (.lst (wordsL.map .str))), some (.fz p)], [some m', some (.fz (.lst (wordsL.map .str))), some (.fz p)], .str t, by simp, by simp, ?_, ⟨t, ht, rfl⟩, m', by simp, hm'⟩
    generalize PV.lst (wordsL.map .str) = W at *
    simp [e])
  rw [List.nil_append] at q1
  obtain ⟨m2, rfl, hp2⟩ := q2
  obtain ⟨ts, rfl, hl, hts⟩ := paired_strs q3
  rw [rngP_len] at hl
  obtain ⟨f1, f2, f3⟩ := flatten_words ts hts
  refine ⟨ts.flatten, m2, ?_, hp2, ⟨by omega, by omega, f3⟩, by omega⟩
  have s1 : sSet 1 (Mv.mv (vw (eLst (aCons (SE.ret (.str [97])) (aCons (SE.ret (.str [48])) (aCons (SE.ret (.str [57])) (aCons (SE.ret (.str [32])) (aCons (SE.ret (.str [126])) (aCons (SE.ret (.str [10])) (aCons (SE.ret (.str [33])) (aCons (SE.ret (.str [101, 112, 111, 99, 104])) (aCons (SE.ret (.str [97, 115, 107, 32, 48, 32, 48])) (aCons (SE.ret (.str [48, 48, 49, 51, 57, 57, 56, 54])) aNil))))))))))))) [some (.ml ys), none, none] = .ok .nx [some (.ml ys), some (.fz (.lst (wordsL.map .str))), none] := by
    simp [wordsL]
  unfold e__law_body
  rw [sSeq_nx s1]
  generalize PV.lst (wordsL.map .str) = W at *
  have hlen : (rngP 0 (d.toNat + 1)).length ≤ 16777216 := by rw [rngP_len]; omega
  have hj := pJoin_map [] ts
  rw [sum_len, if_pos (by rw [List.length_nil]; omega), joinT_nil] at hj
  simp [e1, hr, hrl, hlen, q1, hj]
end K77

set_option Elab.async false
set_option linter.all false
set_option maxRecDepth 100000
set_option maxHeartbeats 4000000
namespace K77
open PySem PySem.Spec PyProof.Rows L2 Mv
abbrev Oth : Tx → Tx → Prop := Paired fun c d => d ≠ c ∧ sg d = true
theorem paired_signs : ∀ {v : Tx} {ys : List PV}, Paired (fun x y => ∃ c d, x = PV.str [c] ∧ y = PV.str [d] ∧ d ≠ c ∧ sg d = true) (v.map fun c => .str [c]) ys → ∃ u : Tx, ys = u.map (fun d => .str [d]) ∧ Oth v u
  | [], ys, h => by
    cases h
    exact ⟨[], rfl, .nil⟩
  | c :: v, ys, h => by
    rw [List.map_cons] at h
    cases h with
    | cons h r =>
      obtain ⟨c', d, e1, e2, h1, h2⟩ := h
      cases e1
      obtain ⟨u, e3, h3⟩ := paired_signs r
      exact ⟨d :: u, by rw [e2, e3]; rfl, .cons ⟨h1, h2⟩ h3⟩
theorem f_burst_eq (m : MV) (hp : okP m) (s : Tx) (hs : s.length ≤ 900000) (a : Nat) (ha : a < s.length) :
    ∃ k u m', f__law_burst [m, .fz (.str s), .fz (.int a)] = .ok (.fz (.str (s.take a ++ u ++ s.drop (a + k)))) [m'] ∧ okP m' ∧ 1 ≤ k ∧ k ≤ 4 ∧ a + k ≤ s.length ∧ Oth ((s.drop a).take k) u := by
  rw [r__law_burst]
  have hsl : s.length ≤ 16777216 := by omega
  obtain ⟨d, m1, e1, hp1, d0, d1⟩ := f_law_draw_eq m hp 4 (by omega) (by omega)
  obtain ⟨ys, rfl⟩ := okP_ml hp
  obtain ⟨k, hk⟩ : ∃ k : Nat, (if 1 + d < (s.length : Int) - (a : Int) then 1 + d else (s.length : Int) - (a : Int)) = (k : Int) ∧ 1 ≤ k ∧ k ≤ 4 ∧ a + k ≤ s.length := by
    by_cases h : 1 + d < (s.length : Int) - (a : Int)
    · rw [if_pos h]
      exact ⟨(1 + d).toNat, by omega, by omega, by omega, by omega⟩
    · rw [if_neg h]
      exact ⟨s.length - a, by omega, by omega, by omega, by omega⟩
  obtain ⟨hk, k1, k4, kl⟩ := hk
  have s1 : sSet 3 (Mv.mv (eCB (two pMin) (aCons (eOp pSub (eCB (one pLen) (aCons (eVar 1) aNil)) (eVar 2)) (aCons (eOp pAdd (SE.ret (.int 1)) (vw (eCall f__law_draw @gPos (rP 0 (rV (SE.ret (.int 4)) rNil)) rNil))) aNil)))) [some (.ml ys), some (.fz (.str s)), some (.fz (.int a)), none, none] = .ok .nx [some m1, some (.fz (.str s)), some (.fz (.int a)), some (.fz (.int k)), none] := by
    simp [hsl, e1, hk]
  have hv : cutL s (some (a : Int)) (some ((a : Int) + (k : Int))) = (s.drop a).take k := by
    have := cut_at s a 0 k (i := (a : Int)) (j := (a : Int) + k) (by omega) (by omega)
    rw [this, List.drop_zero]
  have h0 : cutL s none (some (a : Int)) = s.take a := by
    have := cutL_np s (j := (a : Int)) (by omega)
    simpa using this
  have h2 : cutL s (some ((a : Int) + (k : Int))) none = s.drop (a + k) := by
    have := cutL_pn s (i := (a : Int) + (k : Int)) (by omega)
    rw [this]
    congr 1
  generalize hV : (s.drop a).take k = v at *
  have hvl : v.length = k := by rw [← hV, List.length_take, List.length_drop]; omega
  obtain ⟨vs, ρ', q1, q2, q3⟩ := lcGo_rel (I := fun ρ => ∃ m, ρ = [some m, some (.fz (.str s)), some (.fz (.int a)), some (.fz (.int k)), none] ∧ okP m) (Rl := fun x y => ∃ c d, x = PV.str [c] ∧ y = PV.str [d] ∧ d ≠ c ∧ sg d = true) (g := gN 4) (tt := sYes) (te := vw (eCall f__law_other_sign @gPos (rP 0 (rV (eVar 4) rNil)) rNil)) (vs := [4]) (items := v.map fun c => .str [c]) (acc := []) (ρ := [some m1, some (.fz (.str s)), some (.fz (.int a)), some (.fz (.int k)), none]) ⟨m1, rfl, hp1⟩ (fun p hpm ρ hI => by
    obtain ⟨m, rfl, hm⟩ := hI
    obtain ⟨c, _, rfl⟩ := List.mem_map.mp hpm
    obtain ⟨d, m', e, hm', hd1, hd2⟩ := f_other_eq m hm c
    obtain ⟨zs, rfl⟩ := okP_ml hm
    exact ⟨[some (.ml zs), some (.fz (.str s)), some (.fz (.int a)), some (.fz (.int k)), some (.fz (.str [c]))], [some (.ml zs), some (.fz (.str s)), some (.fz (.int a)), some (.fz (.int k)), some (.fz (.str [c]))], [some m', some (.fz (.str s)), some (.fz (.int a)), some (.fz (.int k)), some (.fz (.str [c]))], .str [d], by simp, by simp, by simp [e], ⟨c, d, rfl, rfl, hd1, hd2⟩, m', by simp, hm'⟩)
  rw [List.nil_append] at q1
  obtain ⟨m2, rfl, hp2⟩ := q2
  obtain ⟨u, rfl, hu⟩ := paired_signs q3
  have hul : u.length = k := by rw [← Paired.length hu, hvl]
  refine ⟨k, u, m2, ?_, hp2, k1, k4, kl, by rw [hV]; exact hu⟩
  have hvm : (v.map fun c => PV.str [c]).length ≤ 16777216 := by rw [List.length_map]; omega
  have hj : pJoin (.str []) (.lst (u.map fun d => .str [d])) = some (.str u) := by
    have := pJoin_mapf [] (fun d : Nat => [d]) u
    have s2 := sum1 (fun d => d) u
    have f2 := flat1 (fun d => d) u
    rw [this, s2, joinT_nil, f2, List.map_id', if_pos (by rw [List.length_nil]; omega)]
  have t1 : (s.take a).length + u.length ≤ 16777216 := by rw [List.length_take]; omega
  have t2 : (s.take a ++ u).length + (s.drop (a + k)).length ≤ 16777216 := by rw [List.length_append, List.length_take, List.length_drop]; omega
  unfold e__law_burst
  rw [sSeq_nx s1]
  have ej : eM1 pJoin (SE.ret (.str [])) (vw (sLc (sIt (eSl (eVar 1) (ePart (eVar 2)) (ePart (eOp pAdd (eVar 2) (eVar 3))))) (gN 4) sYes (vw (eCall f__law_other_sign @gPos (rP 0 (rV (eVar 4) rNil)) rNil)) [4])) [some m1, some (.fz (.str s)), some (.fz (.int a)), some (.fz (.int k)), none] = .ok (.str u) [some m2, some (.fz (.str s)), some (.fz (.int a)), some (.fz (.int k)), none] := by
    have hit : sIt (eSl (eVar 1) (ePart (eVar 2)) (ePart (eOp pAdd (eVar 2) (eVar 3)))) [some m1, some (.fz (.str s)), some (.fz (.int a)), some (.fz (.int k)), none] = .ok (v.map fun c => .str [c]) [some m1, some (.fz (.str s)), some (.fz (.int a)), some (.fz (.int k)), none] := by
      simp [hsl, hv]
    rw [eM1_ap, ret_ap, th_ok, asS_str, oth_some, vw_ap, sLc_ap, hit, th_ok, if_pos hvm]
    simp only [wipeE_cons, wipeE_nil, List.set_cons_succ, List.set_cons_zero, q1, oth_some, th_ok, view_ml, views_map, hj, ofO_some, backE_cons, backE_nil, List.getElem?_cons_succ, List.getElem?_cons_zero, slotF_none, Option.map_none]
  have e0 : eSl (eVar 1) eNo (ePart (eVar 2)) [some m1, some (.fz (.str s)), some (.fz (.int a)), some (.fz (.int k)), none] = .ok (.str (s.take a)) [some m1, some (.fz (.str s)), some (.fz (.int a)), some (.fz (.int k)), none] := by
    simp [hsl, h0]
  have e2 : eSl (eVar 1) (ePart (eOp pAdd (eVar 2) (eVar 3))) eNo [some m2, some (.fz (.str s)), some (.fz (.int a)), some (.fz (.int k)), none] = .ok (.str (s.drop (a + k))) [some m2, some (.fz (.str s)), some (.fz (.int a)), some (.fz (.int k)), none] := by
    simp [hsl, h2]
  have er : eOp pAdd (eOp pAdd (eSl (eVar 1) eNo (ePart (eVar 2))) (eM1 pJoin (SE.ret (.str [])) (vw (sLc (sIt (eSl (eVar 1) (ePart (eVar 2)) (ePart (eOp pAdd (eVar 2) (eVar 3))))) (gN 4) sYes (vw (eCall f__law_other_sign @gPos (rP 0 (rV (eVar 4) rNil)) rNil)) [4])))) (eSl (eVar 1) (ePart (eOp pAdd (eVar 2) (eVar 3))) eNo) [some m1, some (.fz (.str s)), some (.fz (.int a)), some (.fz (.int k)), none] = .ok (.str (s.take a ++ u ++ s.drop (a + k))) [some m2, some (.fz (.str s)), some (.fz (.int a)), some (.fz (.int k)), none] := by
    rw [eOp_ap, eOp_ap, e0, th_ok, ej, th_ok, pAdd_str, if_pos t1, ofO_some, th_ok, e2, th_ok, pAdd_str, if_pos t2, ofO_some]
  rw [sSeq_ap, sRet_ap, mv_ap, er]
  rfl
end K77

set_option Elab.async false
set_option linter.all false
set_option maxRecDepth 100000
set_option maxHeartbeats 4000000
namespace K77
open PySem PySem.Spec PyProof.Rows L2 Mv
/-! ### frames read back -/
theorem parse_frame (b r : Tx) (h : okB b) : parse (frT b ++ r) = some b.length := by
  obtain ⟨h1, h2, h3⟩ := h
  have t8 : (frT b ++ r).take 8 = headT b.length := by
    unfold frT
    rw [List.append_assoc, List.append_assoc, List.take_append_of_le_length (by rw [headT_len]; exact Nat.le_refl _), List.take_of_length_le (by rw [headT_len]; exact Nat.le_refl _)]
  have d8 : (frT b ++ r).drop 8 = b ++ (tailT b ++ r) := by
    unfold frT
    rw [List.append_assoc, List.append_assoc, List.drop_append_of_le_length (by rw [headT_len]; exact Nat.le_refl _), List.drop_of_length_le (by rw [headT_len]; exact Nat.le_refl _), List.nil_append]
  have t4 : (frT b ++ r).take 4 = (headT b.length).take 4 := by
    rw [← t8, List.take_take]
    rfl
  have hv := headT_val b.length (by omega)
  have hl : ¬ (frT b ++ r).length < 8 := by rw [List.length_append, frT_len]; omega
  unfold parse sizeA
  rw [t8, headT_dig, if_neg (fun q => by rcases q with q | q; exact hl q; cases q), t4, hv, if_pos ⟨rfl, h1, h2⟩, Option.bind_some, d8]
  have tb : (b ++ (tailT b ++ r)).take b.length = b := by
    rw [List.take_append_of_le_length (Nat.le_refl _), List.take_of_length_le (Nat.le_refl _)]
  have dt : (frT b ++ r).drop (8 + b.length) = tailT b ++ r := by
    rw [← List.drop_drop, d8, List.drop_append_of_le_length (Nat.le_refl _), List.drop_of_length_le (Nat.le_refl _), List.nil_append]
  have tt : (tailT b ++ r).take 4 = tailT b := by
    rw [List.take_append_of_le_length (by rw [tailT_len]; exact Nat.le_refl _), List.take_of_length_le (by rw [tailT_len]; exact Nat.le_refl _)]
  rw [tb, dt, tt, if_pos ⟨rfl, h3, rfl⟩]
theorem rdB_frame (b r : Tx) (h : okB b) : rdB (frT b ++ r) = b :: rdB r := by
  rw [rdB_eq, parse_frame b r h]
  have d8 : (frT b ++ r).drop 8 = b ++ (tailT b ++ r) := by
    unfold frT
    rw [List.append_assoc, List.append_assoc, List.drop_append_of_le_length (by rw [headT_len]; exact Nat.le_refl _), List.drop_of_length_le (by rw [headT_len]; exact Nat.le_refl _), List.nil_append]
  have dd : (frT b ++ r).drop (b.length + 12) = r := by
    rw [List.drop_append_of_le_length (by rw [frT_len]; exact Nat.le_refl _), List.drop_of_length_le (by rw [frT_len]; exact Nat.le_refl _), List.nil_append]
  show _ :: _ = _
  rw [dd, d8, List.take_append_of_le_length (Nat.le_refl _), List.take_of_length_le (Nat.le_refl _)]
def joinF (bs : List Tx) : Tx := (bs.map frT).flatten
theorem joinF_cons (b : Tx) (bs : List Tx) : joinF (b :: bs) = frT b ++ joinF bs := by
  unfold joinF
  rw [List.map_cons, List.flatten_cons]
theorem joinF_app (bs cs : List Tx) : joinF (bs ++ cs) = joinF bs ++ joinF cs := by
  unfold joinF
  rw [List.map_append, List.flatten_append]
theorem rdB_join : ∀ (bs : List Tx) (r : Tx), (∀ b ∈ bs, okB b) → rdB (joinF bs ++ r) = bs ++ rdB r
  | [], r, h => by rfl
  | b :: bs, r, h => by
    rw [joinF_cons, List.append_assoc, rdB_frame b _ (h b (List.mem_cons_self ..)), rdB_join bs r fun c hc => h c (List.mem_cons_of_mem _ hc)]
    rfl
theorem rdB_nil : rdB [] = [] := by
  rw [rdB_eq]
  rfl
theorem rdB_none {t : Tx} (h : parse t = none) : rdB t = [] := by rw [rdB_eq, h]
theorem sumF_diff : ∀ (x y : Tx) (p k j u v : Nat), x.length = y.length → (∀ i, i ≠ j → (p + i) % 4 = k → x[i]? = y[i]?) → (p + j) % 4 = k → x[j]? = some u → y[j]? = some v → sumF p x k - sumF p y k = num u - num v
  | [], y, p, k, j, u, v, hl, h, hk, hu, hv => by simp at hu
  | c :: x, [], p, k, j, u, v, hl, h, hk, hu, hv => by simp at hv
  | c :: x, d :: y, p, k, 0, u, v, hl, h, hk, hu, hv => by
    simp at hu hv
    subst hu hv
    have e : p % 4 = k := by simpa using hk
    rw [sumF, sumF, if_pos e, if_pos e]
    have : sumF (p + 1) x k = sumF (p + 1) y k := by
      have same : ∀ (x y : Tx) (p : Nat), x.length = y.length → (∀ i, (p + i) % 4 = k → x[i]? = y[i]?) → sumF p x k = sumF p y k := by
        intro x
        induction x with
        | nil =>
          intro y p hl _
          cases y with
          | nil => rfl
          | cons d y => cases hl
        | cons c x ih =>
          intro y p hl h
          cases y with
          | nil => cases hl
          | cons d y =>
            rw [sumF, sumF, ih y (p + 1) (by simpa using hl) fun i hi => by
              have := h (i + 1) (by rw [← hi]; congr 1; omega)
              simpa using this]
            by_cases q : p % 4 = k
            · have := h 0 (by simpa using q)
              simp at this
              rw [this]
            · rw [if_neg q, if_neg q]
      refine same x y (p + 1) (by simpa using hl) fun i hi => ?_
      have := h (i + 1) (by omega) (by rw [← hi]; congr 1; omega)
      simpa using this
    rw [this]
    omega
  | c :: x, d :: y, p, k, j + 1, u, v, hl, h, hk, hu, hv => by
    have ih := sumF_diff x y (p + 1) k j u v (by simpa using hl) (fun i hi hi2 => by
      have := h (i + 1) (by omega) (by rw [← hi2]; congr 1; omega)
      simpa using this) (by rw [← hk]; congr 1; omega) (by simpa using hu) (by simpa using hv)
    rw [sumF, sumF]
    by_cases q : p % 4 = k
    · have := h 0 (by omega) (by simpa using q)
      simp at this
      rw [this]
      omega
    · rw [if_neg q, if_neg q]
      omega
theorem headT_pair (n i : Nat) (hi : i < 4) : ∃ x, (headT n)[i]? = some x ∧ (headT n)[i + 4]? = some (105 - x) ∧ x ≤ 57 := by
  have h : i = 0 ∨ i = 1 ∨ i = 2 ∨ i = 3 := by omega
  rcases h with rfl | rfl | rfl | rfl
  · exact ⟨_, rfl, rfl, by omega⟩
  · exact ⟨_, rfl, rfl, by omega⟩
  · exact ⟨_, rfl, rfl, by omega⟩
  · exact ⟨_, rfl, rfl, by omega⟩
/-- a frame with a sign otherwise, and up to three behind it; or cut -/
theorem spoilt (b r w : Tx) (a : Nat) (hb : okB b) (ha : a < b.length + 12) (h1 : ∀ i, i < a → w[i]? = (frT b ++ r)[i]?) (h2 : w[a]? ≠ (frT b ++ r)[a]?) (h2s : ∀ x, w[a]? = some x → sg x = true)
    (h3 : ∀ i, a + 4 ≤ i → i < b.length + 12 → w[i]? = (frT b ++ r)[i]? ∨ w[i]? = none) : parse w = none := by
  cases hp : parse w with
  | none => rfl
  | some n' =>
    exfalso
    have hbd := parse_bound hp
    obtain ⟨k1, k2, k3⟩ := hb
    have hp0 := hp
    unfold parse at hp
    cases ea : sizeA w with
    | none => rw [ea] at hp; cases hp
    | some m =>
      rw [ea, Option.bind_some] at hp
      split at hp
      · rename_i hc
        cases hp
        unfold sizeA at ea
        split at ea
        · cases ea
        · rename_i g1
          split at ea
          · rename_i g2
            have hn : val4 (w.take 4) = n' := Option.some.inj ea
            rw [hn] at g2
            have w8 : ∀ i, i < 8 → w[i]? = (headT n')[i]? := fun i hi => by
              rw [← g2.1, List.getElem?_take_of_lt hi]
            have t8 : ∀ i, i < 8 → (frT b ++ r)[i]? = (headT b.length)[i]? := fun i hi => by
              unfold frT
              rw [List.append_assoc, List.append_assoc, List.getElem?_append_left (by rw [headT_len]; exact hi)]
            have some_of : ∀ i, i < n' + 12 → w[i]? ≠ none := fun i hi q => by
              rw [List.getElem?_eq_none_iff] at q
              omega
            by_cases ha8 : a < 8
            · -- in the head
              have hj : ∃ j, j < 8 ∧ w[j]? = (frT b ++ r)[j]? ∧ ((a < 4 ∧ j = a + 4) ∨ (4 ≤ a ∧ a = j + 4)) := by
                by_cases h4 : a < 4
                · rcases h3 (a + 4) (by omega) (by omega) with q | q
                  · exact ⟨a + 4, by omega, q, .inl ⟨h4, rfl⟩⟩
                  · exact absurd q (some_of _ (by omega))
                · exact ⟨a - 4, by omega, h1 _ (by omega), .inr ⟨by omega, by omega⟩⟩
              obtain ⟨j, hj8, hj, hja⟩ := hj
              rw [w8 j hj8, t8 j hj8] at hj
              rw [w8 a ha8, t8 a ha8] at h2
              rcases hja with ⟨h4, rfl⟩ | ⟨h4, rfl⟩
              · obtain ⟨x, x1, x2, x3⟩ := headT_pair n' a h4
                obtain ⟨y, y1, y2, y3⟩ := headT_pair b.length a h4
                rw [x2, y2] at hj
                have : x = y := by have := Option.some.inj hj; omega
                rw [x1, y1, this] at h2
                exact h2 rfl
              · obtain ⟨x, x1, x2, x3⟩ := headT_pair n' j (by omega)
                obtain ⟨y, y1, y2, y3⟩ := headT_pair b.length j (by omega)
                rw [x1, y1] at hj
                have : x = y := Option.some.inj hj
                rw [x2, y2, this] at h2
                exact h2 rfl
            · -- behind it
              have hh : headT n' = headT b.length := by
                apply List.ext_getElem?
                intro i
                by_cases hi : i < 8
                · rw [← w8 i hi, ← t8 i hi]
                  exact h1 i (by omega)
                · rw [List.getElem?_eq_none (by rw [headT_len]; omega), List.getElem?_eq_none (by rw [headT_len]; omega)]
              have hnn : n' = b.length := by
                rw [← headT_val n' (by omega), ← headT_val b.length (by omega), hh]
              subst hnn
              have tp := parse_frame b r ⟨k1, k2, k3⟩
              have wa : ∃ x, w[a]? = some x := by
                cases q : w[a]? with
                | none => exact absurd q (some_of a ha)
                | some x => exact ⟨x, rfl⟩
              obtain ⟨x, hx⟩ := wa
              have hxs := h2s x hx
              have dT : ∀ i, ((frT b ++ r).drop 8)[i]? = (frT b ++ r)[8 + i]? := fun i => by rw [List.getElem?_drop]
              have hT : ((frT b ++ r).drop 8).take (b.length + 4) = b ++ tailT b := by
                unfold frT
                rw [List.append_assoc, List.append_assoc, List.drop_append_of_le_length (by rw [headT_len]; exact Nat.le_refl _), List.drop_of_length_le (by rw [headT_len]; exact Nat.le_refl _), List.nil_append, ← List.append_assoc, List.take_append_of_le_length (by rw [List.length_append, tailT_len]; exact Nat.le_refl _), List.take_of_length_le (by rw [List.length_append, tailT_len]; exact Nat.le_refl _)]
              have ya : ∃ y, (b ++ tailT b)[a - 8]? = some y ∧ (frT b ++ r)[a]? = some y := by
                have : a - 8 < (b ++ tailT b).length := by rw [List.length_append, tailT_len]; omega
                refine ⟨_, List.getElem?_eq_getElem this, ?_⟩
                rw [← List.getElem?_eq_getElem this, ← hT, List.getElem?_take_of_lt (by omega), dT]
                congr 1
                omega
              obtain ⟨y, hy1, hy2⟩ := ya
              have hys : sg y = true := by
                have hall : (b ++ tailT b).all sg = true := by rw [List.all_append, k3, tailT_sg]; rfl
                exact List.all_eq_true.mp hall y (List.mem_of_getElem? hy1)
              have hsp : (w.drop 8).take (b.length + 4) = (w.drop 8).take b.length ++ (w.drop (8 + b.length)).take 4 := by
                rw [List.take_add, List.drop_drop]
              have hW := (tail_iff' ((w.drop 8).take b.length) ((w.drop (8 + b.length)).take 4) (by rw [hc.2.2]; rfl) (by rw [hc.2.2]; exact tailT_sg _)).mpr hc.2.2
              have hV := (tail_iff' b (tailT b) rfl (tailT_sg b)).mpr rfl
              rw [← hsp] at hW
              have hWl : ((w.drop 8).take (b.length + 4)).length = (b ++ tailT b).length := by
                rw [List.length_take, List.length_drop, List.length_append, tailT_len]
                omega
              have hd := sumF_diff ((w.drop 8).take (b.length + 4)) (b ++ tailT b) 8 (a % 4) (a - 8) x y hWl (fun i hi hk => by
                by_cases hin : i < b.length + 4
                · rw [← hT, List.getElem?_take_of_lt hin, List.getElem?_take_of_lt hin, List.getElem?_drop, List.getElem?_drop]
                  by_cases hlt : 8 + i < a
                  · exact h1 _ hlt
                  · rcases h3 (8 + i) (by omega) (by omega) with q | q
                    · exact q
                    · exact absurd q (some_of _ (by omega))
                · rw [List.getElem?_eq_none (by rw [hWl, List.length_append, tailT_len]; omega), List.getElem?_eq_none (by rw [List.length_append, tailT_len]; omega)]) (by omega) (by
                rw [List.getElem?_take_of_lt (by omega), List.getElem?_drop, ← hx]
                congr 1
                omega) hy1
              have ex := num_lt hxs
              have ey := num_lt hys
              have hz : num x = num y := by
                have h4 : a % 4 = 0 ∨ a % 4 = 1 ∨ a % 4 = 2 ∨ a % 4 = 3 := by omega
                obtain ⟨w0, w1, w2, w3⟩ := hW
                obtain ⟨v0, v1, v2, v3⟩ := hV
                rcases h4 with q | q | q | q <;> (rw [q] at hd; omega)
              rw [hx, hy2, num_inj hxs hys hz] at h2
              exact h2 rfl
          · cases ea
      · cases hp
end K77

set_option Elab.async false
set_option linter.all false
set_option maxRecDepth 100000
set_option maxHeartbeats 4000000
namespace K77
open PySem PySem.Spec PyProof.Rows L2 Mv
/-! ### bursts and cuts -/
def endsL : Nat → List Tx → List Nat
  | _, [] => []
  | p, b :: r => (p + (frT b).length) :: endsL (p + (frT b).length) r
def cntE (p : Nat) (bs : List Tx) (at_ : Nat) : Nat := ((endsL p bs).filter fun e => decide (e ≤ at_)).length
theorem endsL_gt : ∀ (bs : List Tx) (p e : Nat), e ∈ endsL p bs → p ≤ e
  | [], p, e, h => by cases h
  | b :: r, p, e, h => by
    rw [endsL] at h
    rcases List.mem_cons.mp h with z | z
    · omega
    · have := endsL_gt r _ e z
      omega
theorem split_at : ∀ (bs : List Tx) (p at_ : Nat), p ≤ at_ → ∃ bs1 bs2, bs = bs1 ++ bs2 ∧ cntE p bs at_ = bs1.length ∧ p + (joinF bs1).length ≤ at_ ∧ (bs2 = [] ∨ ∃ b r, bs2 = b :: r ∧ at_ < p + (joinF bs1).length + (frT b).length)
  | [], p, at_, h => ⟨[], [], rfl, rfl, by simpa [joinF] using h, .inl rfl⟩
  | b :: r, p, at_, h => by
    by_cases hc : p + (frT b).length ≤ at_
    · obtain ⟨bs1, bs2, e1, e2, e3, e4⟩ := split_at r (p + (frT b).length) at_ hc
      refine ⟨b :: bs1, bs2, by rw [e1]; rfl, ?_, by rw [joinF_cons, List.length_append]; omega, ?_⟩
      · unfold cntE at e2 ⊢
        rw [endsL, List.filter_cons_of_pos (by simpa using hc), List.length_cons, e2, List.length_cons]
      · rcases e4 with z | ⟨c, q, z, z2⟩
        · exact .inl z
        · exact .inr ⟨c, q, z, by rw [joinF_cons, List.length_append]; omega⟩
    · refine ⟨[], b :: r, rfl, ?_, by simpa [joinF] using h, .inr ⟨b, r, rfl, by simp [joinF]; omega⟩⟩
      unfold cntE
      have : (endsL p (b :: r)).filter (fun e => decide (e ≤ at_)) = [] := by
        rw [List.filter_eq_nil_iff]
        intro e he
        rw [endsL] at he
        have : p + (frT b).length ≤ e := by
          rcases List.mem_cons.mp he with z | z
          · omega
          · exact endsL_gt r _ e z
        simp
        omega
      rw [this]
      rfl
theorem read_part (bs1 : List Tx) (w : Tx) (h : ∀ b ∈ bs1, okB b) (hw : parse w = none) : rdB (joinF bs1 ++ w) = bs1 := by
  rw [rdB_join bs1 w h, rdB_none hw, List.append_nil]
theorem take_cnt {bs bs1 bs2 : List Tx} {n : Nat} (h : bs = bs1 ++ bs2) (hn : n = bs1.length) : bs.take n = bs1 := by
  rw [h, hn, List.take_append_of_le_length (Nat.le_refl _), List.take_of_length_le (Nat.le_refl _)]
theorem read_cut (bs : List Tx) (h : ∀ b ∈ bs, okB b) (cut : Nat) : rdB ((joinF bs).take cut) = bs.take (cntE 0 bs cut) := by
  obtain ⟨bs1, bs2, e1, e2, e3, e4⟩ := split_at bs 0 cut (Nat.zero_le _)
  rw [take_cnt e1 e2]
  rw [Nat.zero_add] at e3
  have hb1 : ∀ b ∈ bs1, okB b := fun b hb => h b (by rw [e1]; exact List.mem_append_left _ hb)
  have es : (joinF bs).take cut = joinF bs1 ++ (joinF bs2).take (cut - (joinF bs1).length) := by
    rw [e1, joinF_app, List.take_append]
    congr 1
    exact List.take_of_length_le e3
  rw [es]
  refine read_part bs1 _ hb1 ?_
  rcases e4 with rfl | ⟨b, r, rfl, hlt⟩
  · have : joinF [] = [] := rfl
    rw [this, List.take_nil]
    rfl
  · rw [joinF_cons]
    have hfl := frT_len b
    refine spoilt b (joinF r) _ (cut - (joinF bs1).length) (h b (by rw [e1]; simp)) (by omega) (fun i hi => List.getElem?_take_of_lt hi) ?_ (fun x hx => ?_) fun i hi _ => .inr ?_
    · rw [List.getElem?_eq_none (by rw [List.length_take]; omega), List.getElem?_eq_getElem (by rw [List.length_append]; omega)]
      exact fun q => nomatch q
    · rw [List.getElem?_eq_none (by rw [List.length_take]; omega)] at hx
      cases hx
    · rw [List.getElem?_eq_none (by rw [List.length_take]; omega)]
theorem read_burst (bs : List Tx) (h : ∀ b ∈ bs, okB b) (a k : Nat) (u : Tx) (ha : a < (joinF bs).length) (k1 : 1 ≤ k) (k4 : k ≤ 4) (hak : a + k ≤ (joinF bs).length) (hu : Oth (((joinF bs).drop a).take k) u) (cut : Nat) :
    rdB (((joinF bs).take a ++ u ++ (joinF bs).drop (a + k)).take cut) = bs.take (cntE 0 bs (min a cut)) := by
  have hul : u.length = k := by rw [← Paired.length hu, List.length_take, List.length_drop]; omega
  have hal : ((joinF bs).take a).length = a := by rw [List.length_take]; omega
  generalize hz : (joinF bs).take a ++ u ++ (joinF bs).drop (a + k) = z
  have z1 : ∀ i, i < a → z[i]? = (joinF bs)[i]? := fun i hi => by
    rw [← hz, List.append_assoc, List.getElem?_append_left (by omega), List.getElem?_take_of_lt hi]
  have z2 : z[a]? ≠ (joinF bs)[a]? ∧ ∀ x, z[a]? = some x → sg x = true := by
    have e : z[a]? = u[0]? := by
      rw [← hz, List.append_assoc, List.getElem?_append_right (by omega), List.getElem?_append_left (by omega), hal, Nat.sub_self]
    have e2 : (joinF bs)[a]? = (((joinF bs).drop a).take k)[0]? := by
      rw [List.getElem?_take_of_lt (by omega), List.getElem?_drop, Nat.add_zero]
    rw [e, e2]
    generalize ((joinF bs).drop a).take k = v at hu
    cases hu with
    | nil => rw [← hul] at k1; simp at k1
    | cons q r =>
      refine ⟨fun q2 => q.1 (Option.some.inj q2), fun x hx => ?_⟩
      have := Option.some.inj hx
      rw [← this]
      exact q.2
  have z3 : ∀ i, a + 4 ≤ i → z[i]? = (joinF bs)[i]? := fun i hi => by
    rw [← hz, List.getElem?_append_right (by rw [List.length_append]; omega), List.getElem?_drop, List.length_append, hal, hul]
    congr 1
    omega
  by_cases hc : cut ≤ a
  · rw [Nat.min_eq_right hc, ← read_cut bs h cut]
    congr 1
    apply List.ext_getElem?
    intro i
    by_cases hi : i < cut
    · rw [List.getElem?_take_of_lt hi, List.getElem?_take_of_lt hi, z1 i (by omega)]
    · rw [List.getElem?_eq_none (by rw [List.length_take]; omega), List.getElem?_eq_none (by rw [List.length_take]; omega)]
  · rw [Nat.min_eq_left (by omega)]
    obtain ⟨bs1, bs2, e1, e2, e3, e4⟩ := split_at bs 0 a (Nat.zero_le _)
    rw [take_cnt e1 e2]
    rw [Nat.zero_add] at e3
    have hb1 : ∀ b ∈ bs1, okB b := fun b hb => h b (by rw [e1]; exact List.mem_append_left _ hb)
    rcases e4 with rfl | ⟨b, r, rfl, hlt⟩
    · rw [List.append_nil] at e1
      rw [e1] at ha
      omega
    · have hfl := frT_len b
      have hj : joinF bs = joinF bs1 ++ (frT b ++ joinF r) := by rw [e1, joinF_app, joinF_cons]
      have ht : (z.take cut).take (joinF bs1).length = joinF bs1 := by
        apply List.ext_getElem?
        intro i
        by_cases hi : i < (joinF bs1).length
        · rw [List.getElem?_take_of_lt hi, List.getElem?_take_of_lt (by omega), z1 i (by omega), hj, List.getElem?_append_left hi]
        · rw [List.getElem?_eq_none (by rw [List.length_take]; omega), List.getElem?_eq_none (by omega)]
      have es : z.take cut = joinF bs1 ++ (z.take cut).drop (joinF bs1).length := by
        have := List.take_append_drop (joinF bs1).length (z.take cut)
        rw [ht] at this
        exact this.symm
      rw [es]
      refine read_part bs1 _ hb1 ?_
      have hw : ∀ i, (joinF bs1).length + i < cut → ((z.take cut).drop (joinF bs1).length)[i]? = z[(joinF bs1).length + i]? := fun i hi => by
        rw [List.getElem?_drop, List.getElem?_take_of_lt hi]
      have hs : ∀ i, (joinF bs)[(joinF bs1).length + i]? = (frT b ++ joinF r)[i]? := fun i => by
        rw [hj, List.getElem?_append_right (by omega)]
        congr 1
        omega
      have ea : (joinF bs1).length + (a - (joinF bs1).length) = a := by omega
      refine spoilt b (joinF r) _ (a - (joinF bs1).length) (h b (by rw [e1]; simp)) (by omega) (fun i hi => ?_) ?_ (fun x hx => ?_) fun i hi _ => ?_
      · rw [hw i (by omega), z1 _ (by omega), hs]
      · rw [hw _ (by omega), ← hs, ea]
        exact z2.1
      · rw [hw _ (by omega), ea] at hx
        exact z2.2 x hx
      · by_cases hin : (joinF bs1).length + i < cut
        · left
          rw [hw i hin, z3 _ (by omega), hs]
        · right
          rw [List.getElem?_eq_none (by rw [List.length_drop, List.length_take]; omega)]
end K77

set_option Elab.async false
set_option linter.all false
set_option maxRecDepth 100000
set_option maxHeartbeats 4000000
namespace K77
open PySem PySem.Spec PyProof.Rows L2 Mv
/-! ### what is shown -/
theorem costs_strs (bs : List Tx) : PV.costs (bs.map .str) = 10 * bs.flatten.length + 6 * bs.length := by
  induction bs with
  | nil => rw [List.map_nil, PV.costs]; rfl
  | cons b r ih =>
    rw [List.map_cons, PV.costs, PV.cost, ih, List.flatten_cons, List.length_append, List.length_cons]
    omega
theorem shos_strs (bs : List Tx) : PV.shos (bs.map .str) = true := by
  induction bs with
  | nil => rw [List.map_nil, PV.shos]
  | cons b r ih => rw [List.map_cons, PV.shos, PV.sho, ih]; rfl
theorem deps_strs (bs : List Tx) : PV.deps (bs.map .str) = 0 := by
  induction bs with
  | nil => rw [List.map_nil, PV.deps]
  | cons b r ih => rw [List.map_cons, PV.deps, PV.dep, ih]; rfl
theorem chks_strs (bs : List Tx) (h : ∀ b ∈ bs, b.all sg = true) : PV.chks (bs.map .str) = true := by
  induction bs with
  | nil => rw [List.map_nil, PV.chks]
  | cons b r ih =>
    have hb : b.all (fun c => decide (c < 0x110000)) = true := by
      rw [List.all_eq_true]
      intro c hc
      have := List.all_eq_true.mp (h b (List.mem_cons_self ..)) c hc
      unfold sg at this
      simp at this
      simp
      omega
    rw [List.map_cons, PV.chks, PV.chk, ih fun c hc => h c (List.mem_cons_of_mem _ hc), hb]
    rfl
/-- a list of texts that can be shown -/
structure OkL (bs : List Tx) : Prop where
  s : ∀ b ∈ bs, b.all sg = true
  t : bs.flatten.length ≤ 100000
  n : bs.length ≤ 100000
def lsP (bs : List Tx) : PV := .lst (bs.map .str)
theorem repr1 (bs : List Tx) (h : OkL bs) : ∃ x, pRepr (lsP bs) = some (.str x) := by
  refine ⟨(lsP bs).rp, ?_⟩
  have hc := costs_strs bs
  have h1 := h.t
  have h2 := h.n
  have : (lsP bs).okRp = true := by
    unfold PV.okRp lsP
    rw [PV.chk, PV.sho, PV.cost, PV.dep, chks_strs bs h.s, shos_strs, deps_strs, hc]
    simp [-List.length_flatten]
    omega
  unfold pRepr
  rw [if_pos this]
theorem repr2 (as bs : List Tx) (ha : OkL as) (hb : OkL bs) : ∃ x, pRepr (.lst [lsP as, lsP bs]) = some (.str x) := by
  refine ⟨(PV.lst [lsP as, lsP bs]).rp, ?_⟩
  have hc := costs_strs as
  have hc2 := costs_strs bs
  have h1 := ha.t
  have h2 := ha.n
  have h3 := hb.t
  have h4 := hb.n
  have : (PV.lst [lsP as, lsP bs]).okRp = true := by
    unfold PV.okRp lsP
    rw [PV.chk, PV.sho, PV.cost, PV.dep, PV.chks, PV.chks, PV.chks, PV.shos, PV.shos, PV.shos, PV.costs, PV.costs, PV.costs, PV.deps, PV.deps, PV.deps, PV.chk, PV.sho, PV.cost, PV.dep, PV.chk, PV.sho, PV.cost, PV.dep, chks_strs as ha.s, chks_strs bs hb.s, shos_strs, shos_strs, deps_strs, deps_strs, hc, hc2]
    simp [-List.length_flatten]
    omega
  unfold pRepr
  rw [if_pos this]
theorem OkL.take {bs : List Tx} (h : OkL bs) (n : Nat) : OkL (bs.take n) := by
  have e : bs.flatten = (bs.take n).flatten ++ (bs.drop n).flatten := by rw [← List.flatten_append, List.take_append_drop]
  have l := congrArg List.length e
  rw [List.length_append] at l
  have := h.t
  have := h.n
  exact ⟨fun b hb => h.s b (List.mem_of_mem_take hb), by omega, by rw [List.length_take]; omega⟩
theorem rdB_ok : ∀ (k : Nat) (t : Tx), t.length ≤ k → t.all sg = true → (∀ b ∈ rdB t, b.all sg = true) ∧ (rdB t).flatten.length ≤ t.length ∧ (rdB t).length ≤ t.length
  | 0, t, h, hs => by
    have : t = [] := List.eq_nil_of_length_eq_zero (by omega)
    subst this
    rw [rdB_nil]
    exact ⟨fun b hb => (by cases hb), Nat.le_refl _, Nat.le_refl _⟩
  | k + 1, t, h, hs => by
    rw [rdB_eq]
    cases e : parse t with
    | none => exact ⟨fun b hb => (by cases hb), by simp, by simp⟩
    | some n =>
      have hb := parse_bound e
      have ld : (t.drop (n + 12)).length = t.length - (n + 12) := List.length_drop ..
      obtain ⟨i1, i2, i3⟩ := rdB_ok k (t.drop (n + 12)) (by omega) (List.all_eq_true.mpr fun c hc => List.all_eq_true.mp hs c (List.mem_of_mem_drop hc))
      refine ⟨fun b hb => ?_, ?_, ?_⟩
      · rcases List.mem_cons.mp hb with z | z
        · rw [z]
          exact List.all_eq_true.mpr fun c hc => List.all_eq_true.mp hs c (List.mem_of_mem_drop (List.mem_of_mem_take hc))
        · exact i1 b z
      · show (_ :: _ : List Tx).flatten.length ≤ _
        rw [List.flatten_cons, List.length_append, List.length_take, List.length_drop]
        omega
      · show (_ :: _ : List Tx).length ≤ _
        rw [List.length_cons]
        omega
theorem rdB_okL (t : Tx) (h : t.length ≤ 100000) (hs : t.all sg = true) : OkL (rdB t) := by
  obtain ⟨a, b, c⟩ := rdB_ok t.length t (Nat.le_refl _) hs
  exact ⟨a, by omega, by omega⟩
theorem frT_sg (b : Tx) (h : okB b) : (frT b).all sg = true := by
  unfold frT
  rw [List.all_append, List.all_append, h.2.2, tailT_sg, List.all_eq_true.mpr fun c hc => dig_sg (List.all_eq_true.mp (headT_dig b.length) c hc)]
  rfl
theorem isF_frame (b : Tx) (h : okB b) : isF (frT b) b = true := by
  have hp := parse_frame b [] h
  rw [List.append_nil] at hp
  have hl := frT_len b
  obtain ⟨h1, h2, h3⟩ := h
  have := (step_iff (frT b) (frT_sg b ⟨h1, h2, h3⟩) (by omega) b.length).mpr hp
  have ht : (frT b).take (b.length + 12) = frT b := List.take_of_length_le (by omega)
  have hc : cutF (frT b) = b := by
    unfold cutF frT
    rw [List.append_assoc, List.drop_append_of_le_length (by rw [headT_len]; exact Nat.le_refl _), List.drop_of_length_le (by rw [headT_len]; exact Nat.le_refl _), List.nil_append, List.length_append, List.length_append, headT_len, tailT_len, List.take_append_of_le_length (by omega), List.take_of_length_le (by omega)]
  rw [ht, hc] at this
  exact this.2.2.2
theorem joinF_sg (bs : List Tx) (h : ∀ b ∈ bs, okB b) : (joinF bs).all sg = true := by
  induction bs with
  | nil => rfl
  | cons b r ih =>
    rw [joinF_cons, List.all_append, frT_sg b (h b (List.mem_cons_self ..)), ih fun c hc => h c (List.mem_cons_of_mem _ hc)]
    rfl
theorem joinF_len (bs : List Tx) (h : ∀ b ∈ bs, b.length ≤ 72) : (joinF bs).length ≤ 84 * bs.length ∧ 12 * bs.length ≤ (joinF bs).length ∧ bs.flatten.length ≤ 72 * bs.length := by
  induction bs with
  | nil => exact ⟨Nat.le_refl _, Nat.le_refl _, Nat.le_refl _⟩
  | cons b r ih =>
    obtain ⟨i1, i2, i3⟩ := ih fun c hc => h c (List.mem_cons_of_mem _ hc)
    have hb := h b (List.mem_cons_self ..)
    rw [joinF_cons, List.length_append, frT_len, List.length_cons, List.flatten_cons, List.length_append]
    omega
end K77

set_option Elab.async false
set_option linter.all false
set_option maxRecDepth 100000
set_option maxHeartbeats 4000000
namespace K77
open PySem PySem.Spec PyProof.Rows L2 Mv
def q__law_right_1 : SE Out := (sSetF 2 (sLc (sRng (aCons (eOp pAdd (SE.ret (.int 1)) (vw (eCall f__law_draw @gPos (rP 0 (rV (SE.ret (.int 6)) rNil)) rNil))) aNil)) (gN 8) sYes (vw (eCall f__law_body @gPos (rP 0 rNil) rNil)) [8]))
def q__law_right_2 : SE Out := (sSetF 3 (sLc (sIt (eVar 2)) (gN 16) sYes (vw (eCall f_frame @gPos (rV (eVar 16) rNil) rNil)) [16]))
def q__law_right_3 : SE Out := (sIf (sOr (sNot (eTru (eCB (one pAll) (aCons (vw (sLc (sZip (aCons (eVar 3) (aCons (eVar 2) aNil))) (gTp 2 (gCn (gN 6) (gCn (gN 16) gNl))) sYes (vw (eCall f__law_is_frame @gPos (rV (eVar 6) (rV (eVar 16) rNil)) rNil)) [6, 16])) aNil)))) (eBool (eOp pNe (vw (eCall f_frame (fun {α} => gKw (α := α) [0]) rNil (rV (eOp pIx (eVar 2) (SE.ret (.int 0))) rNil))) (eOp pIx (eVar 3) (SE.ret (.int 0)))))) (sSeq (sRet (Mv.mv (SE.ret (.bl false)))) sNil) sNil)
def q__law_right_4 : SE Out := (sPar [4, 5] (mCons (Mv.mv (eM1 pJoin (SE.ret (.str [])) (eVar 3))) (mCons (eLst (aCons (SE.ret (.int 0)) aNil)) mNil)))
def q__law_right_5b__1 : SE Out := (sApp 5 (eOp pAdd (eScope (eOp pIx (eVar 5) (eUn pNeg (SE.ret (.int 1))))) (eCB (one pLen) (aCons (eVar 6) aNil))))
def q__law_right_5b : SE Out := (sSeq q__law_right_5b__1 sNil)
def q__law_right_5 : SE Out := (sFor (sIt (eVar 3)) (gN 6) q__law_right_5b)
def q__law_right_6 : SE Out := (sSet 7 (eCall f_bodies_of @gPos (rV (eVar 4) rNil) rNil))
def q__law_right_7 : SE Out := (sIf (eBool (eOp pNe (eScope (eCB (one pRepr) (aCons (vw (eLst (aCons (eVar 7) (aCons (vw (eCall f_bodies_of (fun {α} => gKw (α := α) [0]) rNil (rV (eVar 4) rNil))) aNil)))) aNil))) (eCB (one pRepr) (aCons (vw (eLst (aCons (eVar 2) (aCons (eVar 2) aNil)))) aNil)))) (sSeq (sRet (Mv.mv (SE.ret (.bl false)))) sNil) sNil)
def q__law_right_8 : SE Out := (sApp 7 (SE.ret .non))
def q__law_right_9b__1 : SE Out := (sSet 9 (Mv.mv (vw (eCall f__law_draw @gPos (rP 1 (rV (eCB (one pLen) (aCons (eVar 4) aNil)) rNil)) rNil))))
def q__law_right_9b__2 : SE Out := (sFz 5 (sPar [10, 11] (mCons (Mv.mv (vw (eCall f__law_burst @gPos (rP 1 (rV (eVar 4) (rV (eVar 9) rNil))) rNil))) (mCons (Mv.mv (eCB (one pLen) (aCons (vw (sLc (sIt (eSl (eVar 5) (ePart (SE.ret (.int 1))) eNo)) (gN 17) (eBool (eOp pLe (eVar 17) (eVar 9))) (eVar 17) [17])) aNil))) mNil))))
def q__law_right_9b__3 : SE Out := (sSet 12 (Mv.mv (vw (eCall f__law_draw @gPos (rP 1 (rV (eOp pAdd (eCB (one pLen) (aCons (eVar 4) aNil)) (SE.ret (.int 1))) rNil)) rNil))))
def q__law_right_9b__4 : SE Out := (sSet 13 (Mv.mv (eSl (eVar 10) eNo (ePart (eVar 12)))))
def q__law_right_9b__5 : SE Out := (sSet 14 (Mv.mv (eCB (one pLen) (aCons (vw (sLc (sIt (eSl (eVar 5) (ePart (SE.ret (.int 1))) eNo)) (gN 17) (eBool (eOp pLe (eVar 17) (eCB (two pMin) (aCons (eVar 9) (aCons (eVar 12) aNil))))) (eVar 17) [17])) aNil))))
def q__law_right_9b__6 : SE Out := (sIf (eBool (eOp pNe (eCB (one pRepr) (aCons (vw (eLst (aCons (vw (eCall f_bodies_of @gPos (rV (eVar 10) rNil) rNil)) (aCons (vw (eCall f_bodies_of @gPos (rV (eSl (eVar 4) eNo (ePart (eVar 12))) rNil) rNil)) aNil)))) aNil)) (eCB (one pRepr) (aCons (vw (eLst (aCons (eSl (eVar 2) eNo (ePart (eVar 11))) (aCons (eSl (eVar 2) eNo (ePart (eCB (one pLen) (aCons (vw (sLc (sIt (eSl (eVar 5) (ePart (SE.ret (.int 1))) eNo)) (gN 17) (eBool (eOp pLe (eVar 17) (eVar 12))) (eVar 17) [17])) aNil)))) aNil)))) aNil)))) (sSeq (sRet (Mv.mv (SE.ret (.bl false)))) sNil) sNil)
def q__law_right_9b__7 : SE Out := (sIf (eBool (eOp pNe (eCB (one pRepr) (aCons (vw (eCall f_bodies_of @gPos (rV (eVar 13) rNil) rNil)) aNil)) (eCB (one pRepr) (aCons (eSl (eVar 2) eNo (ePart (eVar 14))) aNil)))) (sSeq (sRet (Mv.mv (SE.ret (.bl false)))) sNil) sNil)
def q__law_right_9b : SE Out := (sSeq q__law_right_9b__1 (sSeq q__law_right_9b__2 (sSeq q__law_right_9b__3 (sSeq q__law_right_9b__4 (sSeq q__law_right_9b__5 (sSeq q__law_right_9b__6 (sSeq q__law_right_9b__7 sNil)))))))
def q__law_right_9 : SE Out := (sFor (sRng (aCons (SE.ret (.int 4)) aNil)) (gN 8) q__law_right_9b)
def q__law_right_10b__1 : SE Out := (sIf (eBool (eOp pNe (eCB (one pRepr) (aCons (vw (eCall f_bodies_of @gPos (rV (eVar 15) rNil) rNil)) aNil)) (eCB (one pRepr) (aCons (eOp pIx (vw (eCall f__law_read @gPos (rV (eVar 15) rNil) rNil)) (SE.ret (.int 0))) aNil)))) (sSeq (sRet (Mv.mv (SE.ret (.bl false)))) sNil) sNil)
def q__law_right_10b : SE Out := (sSeq q__law_right_10b__1 sNil)
def q__law_right_10 : SE Out := (sFor (sIt (vw (eLst (aCons (eOp pAdd (eVar 4) (vw (eCall f__law_body @gPos (rP 1 rNil) rNil))) (aCons (eOp pAdd (vw (eCall f__law_body @gPos (rP 1 rNil) rNil)) (eVar 4)) (aCons (eSl (eVar 4) (ePart (vw (eCall f__law_draw @gPos (rP 1 (rV (SE.ret (.int 30)) rNil)) rNil))) eNo) (aCons (eOp pAdd (eOp pIx (eVar 3) (SE.ret (.int 0))) (eSl (eOp pIx (eVar 3) (SE.ret (.int 0))) eNo (ePart (eUn pNeg (SE.ret (.int 1)))))) (aCons (SE.ret (.str [])) aNil)))))))) (gN 15) q__law_right_10b)
def q__law_right_11 : SE Out := (sRet (Mv.mv (eOp pEq (eCB (one pRepr) (aCons (vw (eCall f_bodies_of @gPos (rV (eVar 4) rNil) rNil)) aNil)) (eCB (one pRepr) (aCons (eVar 2) aNil)))))
theorem e__law_right_eq : e__law_right = (sSeq q__law_right_1 (sSeq q__law_right_2 (sSeq q__law_right_3 (sSeq q__law_right_4 (sSeq q__law_right_5 (sSeq q__law_right_6 (sSeq q__law_right_7 (sSeq q__law_right_8 (sSeq q__law_right_9 (sSeq q__law_right_10 (sSeq q__law_right_11 sNil))))))))))) := rfl
theorem part1 (p : MV) (hp : okP p) (l : MV) : ∃ bs p', q__law_right_1 [some p, some l, none, none, none, none, none, none, none, none, none, none, none, none, none, none, none, none] = .ok .nx [some p', some l, some (.fz (lsP bs)), none, none, none, none, none, none, none, none, none, none, none, none, none, none, none] ∧ okP p' ∧ (∀ b ∈ bs, okB b ∧ b.length ≤ 72) ∧ 1 ≤ bs.length ∧ bs.length ≤ 6 := by
  obtain ⟨d, m1, e1, hp1, d0, d1⟩ := f_law_draw_eq p hp 6 (by omega) (by omega)
  obtain ⟨ys, rfl⟩ := okP_ml hp
  have hn : (1 : Int) + d = ((d.toNat + 1 : Nat) : Int) := by omega
  have hrl : rngL 0 (1 + d) = rngP 0 (d.toNat + 1) := by rw [hn]; exact rngL_0 _
  have hr : -(4611686018427387904 : Int) ≤ 1 + d ∧ 1 + d < 4611686018427387904 := by omega
  obtain ⟨vs, ρ', q1, q2, q3⟩ := lcGo_rel (I := fun ρ => ∃ m, ρ = [some m, some l, none, none, none, none, none, none, none, none, none, none, none, none, none, none, none, none] ∧ okP m) (Rl := fun _ y => ∃ b, (okB b ∧ b.length ≤ 72) ∧ y = PV.str b) (g := gN 8) (tt := sYes) (te := vw (eCall f__law_body @gPos (rP 0 rNil) rNil)) (vs := [8]) (items := rngP 0 (d.toNat + 1)) (acc := []) (ρ := [some m1, some l, none, none, none, none, none, none, none, none, none, none, none, none, none, none, none, none]) ⟨m1, rfl, hp1⟩ (fun x _ ρ hI => by
    obtain ⟨m, rfl, hm⟩ := hI
    obtain ⟨b, m', e, hm', hb, hb2⟩ := f_body_eq m hm
    obtain ⟨zs, rfl⟩ := okP_ml hm
    exact ⟨[some (.ml zs), some l, none, none, none, none, none, none, some (.fz x), none, none, none, none, none, none, none, none, none], [some (.ml zs), some l, none, none, none, none, none, none, some (.fz x), none, none, none, none, none, none, none, none, none], [some m', some l, none, none, none, none, none, none, some (.fz x), none, none, none, none, none, none, none, none, none], .str b, by simp, by simp, by simp [e], ⟨b, ⟨hb, hb2⟩, rfl⟩, m', by simp, hm'⟩)
  rw [List.nil_append] at q1
  obtain ⟨m2, rfl, hp2⟩ := q2
  obtain ⟨bs, rfl, hl, hbs⟩ := paired_strs q3
  rw [rngP_len] at hl
  have hlen : (rngP 0 (d.toNat + 1)).length ≤ 16777216 := by rw [rngP_len]; omega
  refine ⟨bs, m2, ?_, hp2, hbs, by omega, by omega⟩
  unfold q__law_right_1 lsP
  simp [e1, hr, hrl, hlen, q1]
theorem part2 (p l : Option MV) (bs : List Tx) (h : ∀ b ∈ bs, okB b) (hn : bs.length ≤ 100) : q__law_right_2 [p, l, some (.fz (lsP bs)), none, none, none, none, none, none, none, none, none, none, none, none, none, none, none] = .ok .nx [p, l, some (.fz (lsP bs)), some (.fz (lsP (bs.map frT))), none, none, none, none, none, none, none, none, none, none, none, none, none, none] := by
  have hL : lcGo (gN 16) sYes (vw (eCall f_frame @gPos (rV (eVar 16) rNil) rNil)) [16] (bs.map .str) [] [p, l, some (.fz (lsP bs)), none, none, none, none, none, none, none, none, none, none, none, none, none, none, none] = some ((bs.map frT).map .str, [p, l, some (.fz (lsP bs)), none, none, none, none, none, none, none, none, none, none, none, none, none, none, none]) := by
    generalize some (MV.fz (lsP bs)) = B
    have := lcGo_pure (g := gN 16) (tt := sYes) (te := vw (eCall f_frame @gPos (rV (eVar 16) rNil) rNil)) (vs := [16]) (ρ := [p, l, B, none, none, none, none, none, none, none, none, none, none, none, none, none, none, none]) (f := fun x => match x with | .str b => .str (frT b) | _ => .non) (items := bs.map .str) (acc := []) (fun x hx => by
      obtain ⟨b, hb, rfl⟩ := List.mem_map.mp hx
      have e := f_frame_eq b (h b hb)
      exact ⟨[p, l, B, none, none, none, none, none, none, none, none, none, none, none, none, none, some (.fz (.str b)), none], [p, l, B, none, none, none, none, none, none, none, none, none, none, none, none, none, some (.fz (.str b)), none], [p, l, B, none, none, none, none, none, none, none, none, none, none, none, none, none, some (.fz (.str b)), none], by simp, by simp, by simp [e], by simp⟩)
    rw [this, List.map_map, List.map_map]
    rfl
  have hl : (bs.map PV.str).length ≤ 16777216 := by rw [List.length_map]; omega
  unfold q__law_right_2
  have hit : sIt (eVar 2) [p, l, some (.fz (lsP bs)), none, none, none, none, none, none, none, none, none, none, none, none, none, none, none] = .ok (bs.map .str) [p, l, some (.fz (lsP bs)), none, none, none, none, none, none, none, none, none, none, none, none, none, none, none] := by simp [lsP]
  rw [sSetF_ap, sLc_ap, hit, th_ok, if_pos hl]
  simp only [wipeE_cons, wipeE_nil, List.set_cons_succ, List.set_cons_zero, hL, oth_some, th_ok, view_ml, views_map, backE_cons, backE_nil, List.getElem?_cons_succ, List.getElem?_cons_zero, slotF_none, Option.map_none]
  rfl
theorem part3 (p l : Option MV) (bs : List Tx) (h : ∀ b ∈ bs, okB b ∧ b.length ≤ 72) (h1 : 1 ≤ bs.length) (hn : bs.length ≤ 100) : q__law_right_3 [p, l, some (.fz (lsP bs)), some (.fz (lsP (bs.map frT))), none, none, none, none, none, none, none, none, none, none, none, none, none, none] = .ok .nx [p, l, some (.fz (lsP bs)), some (.fz (lsP (bs.map frT))), none, none, none, none, none, none, none, none, none, none, none, none, none, none] := by
  have hZ : List.zipWith (fun p q => PV.tup [p, q]) ((bs.map frT).map .str) (bs.map .str) = bs.map fun b => .tup [.str (frT b), .str b] := by
    rw [List.map_map, List.zipWith_map_left, List.zipWith_map_right, List.zipWith_self]
    rfl
  have hL : lcGo (gTp 2 (gCn (gN 6) (gCn (gN 16) gNl))) sYes (vw (eCall f__law_is_frame @gPos (rV (eVar 6) (rV (eVar 16) rNil)) rNil)) [6, 16] (bs.map fun b => .tup [.str (frT b), .str b]) [] [p, l, some (.fz (lsP bs)), some (.fz (lsP (bs.map frT))), none, none, none, none, none, none, none, none, none, none, none, none, none, none] = some (bs.map fun b => .bl true, [p, l, some (.fz (lsP bs)), some (.fz (lsP (bs.map frT))), none, none, none, none, none, none, none, none, none, none, none, none, none, none]) := by
    generalize some (MV.fz (lsP bs)) = B
    generalize some (MV.fz (lsP (bs.map frT))) = C
    have := lcGo_pure (g := gTp 2 (gCn (gN 6) (gCn (gN 16) gNl))) (tt := sYes) (te := vw (eCall f__law_is_frame @gPos (rV (eVar 6) (rV (eVar 16) rNil)) rNil)) (vs := [6, 16]) (ρ := [p, l, B, C, none, none, none, none, none, none, none, none, none, none, none, none, none, none]) (f := fun _ => .bl true) (items := bs.map fun b => .tup [.str (frT b), .str b]) (acc := []) (fun x hx => by
      obtain ⟨b, hb, rfl⟩ := List.mem_map.mp hx
      have hb2 := (h b hb).2
      have hfl := frT_len b
      have e := f_is_frame_eq (frT b) b (by omega) (by omega)
      rw [isF_frame b (h b hb).1] at e
      exact ⟨[p, l, B, C, none, none, some (.fz (.str (frT b))), none, none, none, none, none, none, none, none, none, some (.fz (.str b)), none], [p, l, B, C, none, none, some (.fz (.str (frT b))), none, none, none, none, none, none, none, none, none, some (.fz (.str b)), none], [p, l, B, C, none, none, some (.fz (.str (frT b))), none, none, none, none, none, none, none, none, none, some (.fz (.str b)), none], by simp, by simp, by simp [e], by simp⟩)
    rw [this, List.map_map]
    rfl
  have hl : (bs.map fun b => PV.tup [.str (frT b), .str b]).length ≤ 16777216 := by rw [List.length_map]; omega
  have ha : pAll (.lst (bs.map fun b => .bl true)) = some (.bl true) := by
    rw [pAll_map (fun _ => true) bs]
    simp
  obtain ⟨b, r, hbs⟩ : ∃ b r, bs = b :: r := by
    cases bs with
    | nil => simp at h1
    | cons b r => exact ⟨b, r, rfl⟩
  have e := f_frame_eq b (h b (by rw [hbs]; exact List.mem_cons_self ..)).1
  have i0 : ∀ (x : PV) (xs : List PV), atI (x :: xs) 0 = some x := fun x xs => by simp [atI, ixN]
  have eb : lsP (bs.map frT) = .lst (.str (frT b) :: (r.map frT).map .str) := by rw [hbs]; rfl
  have eb2 : lsP bs = .lst (.str b :: r.map .str) := by rw [hbs]; rfl
  have hz2 : ∀ (S : Option MV), sZip (aCons (eVar 3) (aCons (eVar 2) aNil)) [p, l, some (.fz (lsP bs)), some (.fz (lsP (bs.map frT))), none, none, none, none, none, none, none, none, none, none, none, none, none, none] = .ok (bs.map fun b => .tup [.str (frT b), .str b]) [p, l, some (.fz (lsP bs)), some (.fz (lsP (bs.map frT))), none, none, none, none, none, none, none, none, none, none, none, none, none, none] := fun S => by
    rw [← hZ]
    simp [lsP]
  have hc1 : eTru (eCB (one pAll) (aCons (vw (sLc (sZip (aCons (eVar 3) (aCons (eVar 2) aNil))) (gTp 2 (gCn (gN 6) (gCn (gN 16) gNl))) sYes (vw (eCall f__law_is_frame @gPos (rV (eVar 6) (rV (eVar 16) rNil)) rNil)) [6, 16])) aNil)) [p, l, some (.fz (lsP bs)), some (.fz (lsP (bs.map frT))), none, none, none, none, none, none, none, none, none, none, none, none, none, none] = .ok true [p, l, some (.fz (lsP bs)), some (.fz (lsP (bs.map frT))), none, none, none, none, none, none, none, none, none, none, none, none, none, none] := by
    rw [eTru_ap, eCB_ap, aCons_ap, vw_ap, sLc_ap, hz2 none, th_ok, if_pos hl]
    simp only [wipeE_cons, wipeE_nil, List.set_cons_succ, List.set_cons_zero, hL, oth_some, th_ok, view_ml, views_map, backE_cons, backE_nil, List.getElem?_cons_succ, List.getElem?_cons_zero, slotF_none, Option.map_none, aNil_ap, one_ap, ha, ofO_some, pTru_bl]
  have hc2 : eBool (eOp pNe (vw (eCall f_frame (fun {α} => gKw (α := α) [0]) rNil (rV (eOp pIx (eVar 2) (SE.ret (.int 0))) rNil))) (eOp pIx (eVar 3) (SE.ret (.int 0)))) [p, l, some (.fz (lsP bs)), some (.fz (lsP (bs.map frT))), none, none, none, none, none, none, none, none, none, none, none, none, none, none] = .ok false [p, l, some (.fz (lsP bs)), some (.fz (lsP (bs.map frT))), none, none, none, none, none, none, none, none, none, none, none, none, none, none] := by
    rw [eb, eb2]
    simp [i0, gKw, e]
  unfold q__law_right_3
  rw [sIf_f (ρ' := [p, l, some (.fz (lsP bs)), some (.fz (lsP (bs.map frT))), none, none, none, none, none, none, none, none, none, none, none, none, none, none]) (by rw [sOr_ap, sNot_ap, hc1, th_ok, th_ok, Bool.not_true, if_neg Bool.false_ne_true, hc2]), sNil_ap]
theorem flatten_frT (bs : List Tx) : (bs.map frT).flatten = joinF bs := rfl
theorem part4 (p l B : Option MV) (bs : List Tx) (h : ∀ b ∈ bs, okB b ∧ b.length ≤ 72) (hn : bs.length ≤ 100) : q__law_right_4 [p, l, B, some (.fz (lsP (bs.map frT))), none, none, none, none, none, none, none, none, none, none, none, none, none, none] = .ok .nx [p, l, B, some (.fz (lsP (bs.map frT))), some (.fz (.str (joinF bs))), some (.ml [.fz (.int 0)]), none, none, none, none, none, none, none, none, none, none, none, none] := by
  have hj := pJoin_map [] (bs.map frT)
  have hl := joinF_len bs fun b hb => (h b hb).2
  rw [sum_len, flatten_frT, if_pos (by rw [List.length_nil]; omega), joinT_nil, flatten_frT] at hj
  unfold q__law_right_4 lsP
  simp [hj, -List.map_map]
def nI (n : Nat) : MV := .fz (.int n)
theorem turn5 (p l B C S : Option MV) (es : List Nat) (e : Nat) (f : Tx) (he : es.length ≤ 1000) (hf : f.length ≤ 1000) (j7 j8 j9 j10 j11 j12 j13 j14 j15 j16 j17 : Option MV) : q__law_right_5b [p, l, B, C, S, some (.ml ((es ++ [e]).map nI)), some (.fz (.str f)), j7, j8, j9, j10, j11, j12, j13, j14, j15, j16, j17] = .ok .nx [p, l, B, C, S, some (.ml ((es ++ [e] ++ [e + f.length]).map nI)), some (.fz (.str f)), j7, j8, j9, j10, j11, j12, j13, j14, j15, j16, j17] := by
  have hm : ((es ++ [e]).map nI).length < 16777216 := by rw [List.length_map, List.length_append, List.length_singleton]; omega
  have hv : MV.views ((es ++ [e]).map nI) = es.map (fun n : Nat => PV.int n) ++ [.int e] := by
    exact (views_comp (fun n : Nat => PV.int (n : Int)) (es ++ [e])).trans (by simp)
  have hx := atI_m1 (es.map fun n : Nat => PV.int n) (.int e)
  have hfl : f.length ≤ 16777216 := by omega
  have hadd : (e : Int) + (f.length : Int) = ((e + f.length : Nat) : Int) := by omega
  have hsc : eOp pAdd (eScope (eOp pIx (eVar 5) (eUn pNeg (SE.ret (.int 1))))) (eCB (one pLen) (aCons (eVar 6) aNil)) [p, l, B, C, S, some (.ml ((es ++ [e]).map nI)), some (.fz (.str f)), j7, j8, j9, j10, j11, j12, j13, j14, j15, j16, j17] = .ok (.int ((e + f.length : Nat) : Int)) [p, l, B, C, S, some (.ml ((es ++ [e]).map nI)), some (.fz (.str f)), j7, j8, j9, j10, j11, j12, j13, j14, j15, j16, j17] := by
    have hfz : (fzAll [p, l, B, C, S, some (.ml ((es ++ [e]).map nI)), some (.fz (.str f)), j7, j8, j9, j10, j11, j12, j13, j14, j15, j16, j17])[5]? = some (some (.fz (.lst (es.map (fun n : Nat => PV.int n) ++ [.int e])))) := by
      rw [← hv, ← view_ml]
      rfl
    rw [eOp_ap, eScope_ap, eOp_ap, eVar_ap, hfz, slotF_fz, oth_some, th_ok, eUn_ap, ret_ap, th_ok, pNeg_int, ofO_some, th_ok, pIx_lst, hx, ofO_some, tb_ok, flat_int, if_pos rfl, th_ok]
    rw [← hadd]
    simp [hfl]
  unfold q__law_right_5b q__law_right_5b__1
  rw [sSeq_ap, sApp_ap, mlAt_ap]
  simp only [List.getElem?_cons_succ, List.getElem?_cons_zero, slotL_ml, oth_some]
  rw [hsc, th_ok, mlAt_ap]
  simp only [List.getElem?_cons_succ, List.getElem?_cons_zero, slotL_ml, oth_some]
  rw [if_pos hm, nxt_nx, sNil_ap]
  simp [nI]
theorem loop5 (p l B C S : Option MV) (j7 j8 j9 j10 j11 j12 j13 j14 j15 j16 j17 : Option MV) : ∀ (cs : List Tx) (es : List Nat) (e : Nat) (j6 : Option MV), es.length + cs.length ≤ 1000 → (∀ b ∈ cs, b.length ≤ 72) → ∃ j6', forL (gN 6) q__law_right_5b ((cs.map frT).map .str) [p, l, B, C, S, some (.ml ((es ++ [e]).map nI)), j6, j7, j8, j9, j10, j11, j12, j13, j14, j15, j16, j17] = .ok .nx [p, l, B, C, S, some (.ml ((es ++ [e] ++ endsL e cs).map nI)), j6', j7, j8, j9, j10, j11, j12, j13, j14, j15, j16, j17]
  | [], es, e, j6, h, hb => ⟨j6, by simp [endsL]⟩
  | b :: cs, es, e, j6, h, hb => by
    have hfl := frT_len b
    have hb72 := hb b (List.mem_cons_self ..)
    rw [List.length_cons] at h
    obtain ⟨j6', ih⟩ := loop5 p l B C S j7 j8 j9 j10 j11 j12 j13 j14 j15 j16 j17 cs (es ++ [e]) (e + (frT b).length) (some (.fz (.str (frT b)))) (by rw [List.length_append, List.length_singleton]; omega) fun c hc => hb c (List.mem_cons_of_mem _ hc)
    refine ⟨j6', ?_⟩
    rw [List.map_cons, List.map_cons, forL_ap, gN_ap]
    simp only [List.length_cons, List.length_nil, List.set_cons_succ, List.set_cons_zero]
    rw [if_pos (by omega), oth_some, turn5 p l B C S es e (frT b) (by omega) (by omega), lpO_nx, ih, endsL]
    simp
theorem part5 (p l B : Option MV) (bs : List Tx) (h : ∀ b ∈ bs, b.length ≤ 72) (hn : bs.length ≤ 100) (S : Option MV) : ∃ j6, q__law_right_5 [p, l, B, some (.fz (lsP (bs.map frT))), S, some (.ml [.fz (.int 0)]), none, none, none, none, none, none, none, none, none, none, none, none] = .ok .nx [p, l, B, some (.fz (lsP (bs.map frT))), S, some (.ml ((0 :: endsL 0 bs).map nI)), j6, none, none, none, none, none, none, none, none, none, none, none] := by
  obtain ⟨j6, e⟩ := loop5 p l B (some (.fz (lsP (bs.map frT)))) S none none none none none none none none none none none bs [] 0 none (by simp; omega) h
  refine ⟨j6, ?_⟩
  unfold q__law_right_5
  have hi : sIt (eVar 3) [p, l, B, some (.fz (lsP (bs.map frT))), S, some (.ml [.fz (.int 0)]), none, none, none, none, none, none, none, none, none, none, none, none] = .ok ((bs.map frT).map .str) [p, l, B, some (.fz (lsP (bs.map frT))), S, some (.ml [.fz (.int 0)]), none, none, none, none, none, none, none, none, none, none, none, none] := by simp [lsP]
  rw [sFor_ap, hi, th_ok]
  exact e
end K77

set_option Elab.async false
set_option linter.all false
set_option maxRecDepth 100000
set_option maxHeartbeats 4000000
namespace K77
open PySem PySem.Spec PyProof.Rows L2 Mv
theorem bsM_view2 (bs : List Tx) : (MV.ml (bs.map fun b => .fz (.str b))).view = lsP bs := bsM_view bs
theorem part6 (p l B C E : Option MV) (j6 : Option MV) (bs : List Tx) (h : ∀ b ∈ bs, okB b ∧ b.length ≤ 72) (hn : bs.length ≤ 100) : q__law_right_6 [p, l, B, C, some (.fz (.str (joinF bs))), E, j6, none, none, none, none, none, none, none, none, none, none, none] = .ok .nx [p, l, B, C, some (.fz (.str (joinF bs))), E, j6, some (.ml (bs.map fun b => .fz (.str b))), none, none, none, none, none, none, none, none, none, none] := by
  have hl := joinF_len bs fun b hb => (h b hb).2
  have e := f_bodies_of_eq (joinF bs) (by omega)
  have hr := rdB_join bs [] fun b hb => (h b hb).1
  rw [List.append_nil, rdB_nil, List.append_nil] at hr
  rw [hr] at e
  unfold q__law_right_6
  simp [e]
theorem okL_of (bs : List Tx) (h : ∀ b ∈ bs, okB b ∧ b.length ≤ 72) (hn : bs.length ≤ 100) : OkL bs := by
  have hl := joinF_len bs fun b hb => (h b hb).2
  exact ⟨fun b hb => (h b hb).1.2.2, by omega, by omega⟩
theorem part7 (p l C E : Option MV) (j6 : Option MV) (bs : List Tx) (h : ∀ b ∈ bs, okB b ∧ b.length ≤ 72) (hn : bs.length ≤ 100) : q__law_right_7 [p, l, some (.fz (lsP bs)), C, some (.fz (.str (joinF bs))), E, j6, some (.ml (bs.map fun b => .fz (.str b))), none, none, none, none, none, none, none, none, none, none] = .ok .nx [p, l, some (.fz (lsP bs)), C, some (.fz (.str (joinF bs))), E, j6, some (.ml (bs.map fun b => .fz (.str b))), none, none, none, none, none, none, none, none, none, none] := by
  have hl := joinF_len bs fun b hb => (h b hb).2
  have e := f_bodies_of_eq (joinF bs) (by omega)
  have hr := rdB_join bs [] fun b hb => (h b hb).1
  rw [List.append_nil, rdB_nil, List.append_nil] at hr
  rw [hr] at e
  obtain ⟨x, hx⟩ := repr2 bs bs (okL_of bs h hn) (okL_of bs h hn)
  have c1 : eCB (one pRepr) (aCons (vw (eLst (aCons (eVar 7) (aCons (vw (eCall f_bodies_of (fun {α} => gKw (α := α) [0]) rNil (rV (eVar 4) rNil))) aNil)))) aNil) (fzAll [p, l, some (.fz (lsP bs)), C, some (.fz (.str (joinF bs))), E, j6, some (.ml (bs.map fun b => .fz (.str b))), none, none, none, none, none, none, none, none, none, none]) = .ok (.str x) (fzAll [p, l, some (.fz (lsP bs)), C, some (.fz (.str (joinF bs))), E, j6, some (.ml (bs.map fun b => .fz (.str b))), none, none, none, none, none, none, none, none, none, none]) := by
    have i7 : (fzAll [p, l, some (.fz (lsP bs)), C, some (.fz (.str (joinF bs))), E, j6, some (.ml (bs.map fun b => .fz (.str b))), none, none, none, none, none, none, none, none, none, none])[7]? = some (some (.fz (lsP bs))) := by
      rw [← bsM_view2]
      rfl
    have i4 : (fzAll [p, l, some (.fz (lsP bs)), C, some (.fz (.str (joinF bs))), E, j6, some (.ml (bs.map fun b => .fz (.str b))), none, none, none, none, none, none, none, none, none, none])[4]? = some (some (.fz (.str (joinF bs)))) := by
      have : (MV.fz (PV.str (joinF bs))).view = .str (joinF bs) := view_fz _
      show some (some (MV.fz (MV.fz (PV.str (joinF bs))).view)) = _
      rw [this]
    generalize fzAll [p, l, some (.fz (lsP bs)), C, some (.fz (.str (joinF bs))), E, j6, some (.ml (bs.map fun b => .fz (.str b))), none, none, none, none, none, none, none, none, none, none] = ρ at *
    have hcall : vw (eCall f_bodies_of (fun {α} => gKw (α := α) [0]) rNil (rV (eVar 4) rNil)) ρ = .ok (lsP bs) ρ := by
      have e2 : eCall f_bodies_of (fun {α} => gKw (α := α) [0]) rNil (rV (eVar 4) rNil) ρ = .ok (.ml (bs.map fun b => .fz (.str b))) ρ := by
        rw [eCall_ap, rNil_ap, th_ok, rV_ap, eVar_ap, i4]
        simp [gKw, e]
      rw [vw_ap, e2, th_ok, bsM_view2]
    have z3 : ([lsP bs, lsP bs] : List PV).length ≤ 16777216 := Nat.le_of_ble_eq_true rfl
    rw [eCB_ap, aCons_ap, vw_ap, eLst_ap, aCons_ap, eVar_ap, i7, slotF_fz, oth_some, th_ok, aCons_ap, hcall, th_ok, aNil_ap, th_ok, th_ok, th_ok, if_pos z3, th_ok, view_ml, views_map, th_ok, aNil_ap, th_ok, th_ok, one_ap, hx, ofO_some]
  have c2 : eCB (one pRepr) (aCons (vw (eLst (aCons (eVar 2) (aCons (eVar 2) aNil)))) aNil) [p, l, some (.fz (lsP bs)), C, some (.fz (.str (joinF bs))), E, j6, some (.ml (bs.map fun b => .fz (.str b))), none, none, none, none, none, none, none, none, none, none] = .ok (.str x) [p, l, some (.fz (lsP bs)), C, some (.fz (.str (joinF bs))), E, j6, some (.ml (bs.map fun b => .fz (.str b))), none, none, none, none, none, none, none, none, none, none] := by
    generalize some (MV.ml (bs.map fun b => .fz (.str b))) = T
    generalize lsP bs = L at *
    simp [hx]
  unfold q__law_right_7
  rw [sIf_f (ρ' := [p, l, some (.fz (lsP bs)), C, some (.fz (.str (joinF bs))), E, j6, some (.ml (bs.map fun b => .fz (.str b))), none, none, none, none, none, none, none, none, none, none]) (by rw [eBool_ap, eOp_ap, eScope_ap, c1, tb_ok, flat_str, if_pos rfl, th_ok, c2, th_ok, pNe_str, decide_eq_true rfl, ofO_some, th_ok, Bool.not_true, asB_bl, ofO_some]), sNil_ap]
theorem part8 (p l B C S E : Option MV) (j6 : Option MV) (xs : List MV) (hx : xs.length ≤ 1000) : ∃ T, q__law_right_8 [p, l, B, C, S, E, j6, some (.ml xs), none, none, none, none, none, none, none, none, none, none] = .ok .nx [p, l, B, C, S, E, j6, some T, none, none, none, none, none, none, none, none, none, none] := by
  have hl : xs.length < 16777216 := by omega
  refine ⟨.ml (xs ++ [.fz .non]), ?_⟩
  unfold q__law_right_8
  simp [hl]
/-! ### a turn of bursts -/
def enP (bs : List Tx) : PV := .lst ((0 :: endsL 0 bs).map fun n : Nat => PV.int n)
theorem cnt_ok (a0 a1 a2 a3 a4 a6 a7 a8 a9 a10 a11 a12 a13 a14 a15 a16 : Option MV) (bs : List Tx) (hn : bs.length ≤ 100) (xe : SE PV) (X : Nat)
    (hx : ∀ q : PV, xe [a0, a1, a2, a3, a4, some (.fz (enP bs)), a6, a7, a8, a9, a10, a11, a12, a13, a14, a15, a16, some (.fz q)] = .ok (.int X) [a0, a1, a2, a3, a4, some (.fz (enP bs)), a6, a7, a8, a9, a10, a11, a12, a13, a14, a15, a16, some (.fz q)]) :
    eCB (one pLen) (aCons (vw (sLc (sIt (eSl (eVar 5) (ePart (SE.ret (.int 1))) eNo)) (gN 17) (eBool (eOp pLe (eVar 17) xe)) (eVar 17) [17])) aNil) [a0, a1, a2, a3, a4, some (.fz (enP bs)), a6, a7, a8, a9, a10, a11, a12, a13, a14, a15, a16, none] = .ok (.int (cntE 0 bs X)) [a0, a1, a2, a3, a4, some (.fz (enP bs)), a6, a7, a8, a9, a10, a11, a12, a13, a14, a15, a16, none] := by
  have hcut : cutL ((0 :: endsL 0 bs).map fun n : Nat => PV.int n) (some 1) none = (endsL 0 bs).map fun n : Nat => PV.int n := by
    rw [cutL_pn _ (by omega)]
    rfl
  have hit : sIt (eSl (eVar 5) (ePart (SE.ret (.int 1))) eNo) [a0, a1, a2, a3, a4, some (.fz (enP bs)), a6, a7, a8, a9, a10, a11, a12, a13, a14, a15, a16, none] = .ok ((endsL 0 bs).map fun n : Nat => PV.int n) [a0, a1, a2, a3, a4, some (.fz (enP bs)), a6, a7, a8, a9, a10, a11, a12, a13, a14, a15, a16, none] := by
    rw [← hcut]
    simp [enP]
  have hel : ∀ (cs : List Tx) (p : Nat), (endsL p cs).length = cs.length := fun cs => by
    induction cs with
    | nil => intro p; rfl
    | cons c r ih => intro p; rw [endsL, List.length_cons, List.length_cons, ih]
  have hl : ((endsL 0 bs).map fun n : Nat => PV.int n).length ≤ 16777216 := by rw [List.length_map, hel]; omega
  have hL : lcGo (gN 17) (eBool (eOp pLe (eVar 17) xe)) (eVar 17) [17] ((endsL 0 bs).map fun n : Nat => PV.int n) [] [a0, a1, a2, a3, a4, some (.fz (enP bs)), a6, a7, a8, a9, a10, a11, a12, a13, a14, a15, a16, none] = some (((endsL 0 bs).filter fun e => decide (e ≤ X)).map fun n : Nat => PV.int n, [a0, a1, a2, a3, a4, some (.fz (enP bs)), a6, a7, a8, a9, a10, a11, a12, a13, a14, a15, a16, none]) := by
    generalize some (MV.fz (enP bs)) = E at *
    have := lcGo_filter (g := gN 17) (tt := eBool (eOp pLe (eVar 17) xe)) (te := eVar 17) (vs := [17]) (ρ := [a0, a1, a2, a3, a4, E, a6, a7, a8, a9, a10, a11, a12, a13, a14, a15, a16, none]) (f := fun p => p) (b := fun p => match p with | .int i => decide (i ≤ (X : Int)) | _ => false) (items := (endsL 0 bs).map fun n : Nat => PV.int n) (acc := []) (fun p hq => by
      obtain ⟨n, _, rfl⟩ := List.mem_map.mp hq
      refine ⟨[a0, a1, a2, a3, a4, E, a6, a7, a8, a9, a10, a11, a12, a13, a14, a15, a16, some (.fz (.int n))], [a0, a1, a2, a3, a4, E, a6, a7, a8, a9, a10, a11, a12, a13, a14, a15, a16, some (.fz (.int n))], [a0, a1, a2, a3, a4, E, a6, a7, a8, a9, a10, a11, a12, a13, a14, a15, a16, some (.fz (.int n))], by simp, ?_, fun _ => by simp, fun _ => rfl, by simp⟩
      rw [eBool_ap, eOp_ap, eVar_ap]
      simp only [List.getElem?_cons_succ, List.getElem?_cons_zero, slotF_fz, oth_some, th_ok, hx, pLe_int, ofO_some, asB_bl])
    rw [this, List.map_id', List.nil_append, List.filter_map]
    congr 2
    congr 1
    apply List.filter_congr
    intro x _
    show decide ((x : Int) ≤ (X : Int)) = decide (x ≤ X)
    rw [Bool.eq_iff_iff]
    simp
  rw [eCB_ap, aCons_ap, vw_ap, sLc_ap, hit, th_ok, if_pos hl]
  simp only [wipeE_cons, wipeE_nil, List.set_cons_succ, List.set_cons_zero, hL, oth_some, th_ok, view_ml, views_map, backE_cons, backE_nil, List.getElem?_cons_succ, List.getElem?_cons_zero, slotF_none, Option.map_none, aNil_ap, one_ap, pLen_lst, ofO_some, List.length_map]
  rfl
end K77

set_option Elab.async false
set_option linter.all false
set_option maxRecDepth 100000
set_option maxHeartbeats 4000000
namespace K77
open PySem PySem.Spec PyProof.Rows L2 Mv
theorem lsP_cut (bs : List Tx) (n : Nat) : pSl (lsP bs) none (some (n : Int)) = some (lsP (bs.take n)) := by
  unfold lsP
  rw [pSl_lst, cutL_np _ (by omega), Int.toNat_natCast, List.map_take]
theorem endsL_len : ∀ (cs : List Tx) (p : Nat), (endsL p cs).length = cs.length
  | [], p => rfl
  | c :: r, p => by rw [endsL, List.length_cons, List.length_cons, endsL_len r]
theorem bod_ok (s : Tx) (hs : s.length ≤ 900000) (ρ : Mv.Env) (e : SE PV) (ρ' : Mv.Env) (he : e ρ = .ok (.str s) ρ') : vw (eCall f_bodies_of @gPos (rV e rNil) rNil) ρ = .ok (lsP (rdB s)) ρ' := by
  have h := f_bodies_of_eq s hs
  have e2 : eCall f_bodies_of @gPos (rV e rNil) rNil ρ = .ok (.ml ((rdB s).map fun b => .fz (.str b))) ρ' := by
    rw [eCall_ap, rV_ap, he]
    simp [h]
  rw [vw_ap, e2, th_ok, bsM_view2]
theorem turn9 (p : Option MV) (l : MV) (hl : okP l) (bs : List Tx) (h : ∀ b ∈ bs, okB b ∧ b.length ≤ 72) (h1 : 1 ≤ bs.length) (hn : bs.length ≤ 100) (E : MV) (hE : E.view = enP bs) (C j6 T tn j9 j10 j11 j12 j13 j14 j15 : Option MV) :
    ∃ l' j9' j10' j11' j12' j13' j14', q__law_right_9b [p, some l, some (.fz (lsP bs)), C, some (.fz (.str (joinF bs))), some E, j6, T, tn, j9, j10, j11, j12, j13, j14, j15, none, none] = .ok .nx [p, some l', some (.fz (lsP bs)), C, some (.fz (.str (joinF bs))), some (.fz (enP bs)), j6, T, tn, j9', j10', j11', j12', j13', j14', j15, none, none] ∧ okP l' := by
  have hjl := joinF_len bs fun b hb => (h b hb).2
  have hok := fun b hb => (h b hb).1
  have hsl : (joinF bs).length ≤ 16777216 := by omega
  have hsg := joinF_sg bs hok
  have hbs := okL_of bs h hn
  -- where the burst is
  obtain ⟨d, l1, e1, hl1, d0, d1⟩ := f_law_draw_eq l hl (joinF bs).length (by omega) (by omega)
  obtain ⟨a, rfl⟩ : ∃ a : Nat, d = (a : Int) := ⟨d.toNat, by omega⟩
  obtain ⟨k, u, l2, e2, hl2, k1, k4, hak, hu⟩ := f_burst_eq l1 hl1 (joinF bs) (by omega) a (by omega)
  obtain ⟨d2, l3, e3, hl3, d20, d21⟩ := f_law_draw_eq l2 hl2 ((joinF bs).length + 1) (by omega) (by omega)
  obtain ⟨c, rfl⟩ : ∃ c : Nat, d2 = (c : Int) := ⟨d2.toNat, by omega⟩
  have hrb := read_burst bs hok a k u (by omega) k1 k4 hak hu
  have hul : u.length = k := by rw [← Paired.length hu, List.length_take, List.length_drop]; omega
  have hzl : ((joinF bs).take a ++ u ++ (joinF bs).drop (a + k)).length = (joinF bs).length := by
    rw [List.length_append, List.length_append, List.length_take, List.length_drop]
    omega
  have hzs : ((joinF bs).take a ++ u ++ (joinF bs).drop (a + k)).all sg = true := by
    have hus : u.all sg = true := by
      have : ∀ {v u : Tx}, Oth v u → u.all sg = true := fun {v u} q => by
        induction q with
        | nil => rfl
        | cons q _ ih => rw [List.all_cons, q.2, ih]; rfl
      exact this hu
    rw [List.all_append, List.all_append, hus, List.all_eq_true.mpr fun c hc => List.all_eq_true.mp hsg c (List.mem_of_mem_take hc), List.all_eq_true.mpr fun c hc => List.all_eq_true.mp hsg c (List.mem_of_mem_drop hc)]
    rfl
  generalize hz : (joinF bs).take a ++ u ++ (joinF bs).drop (a + k) = z at *
  have r1 : rdB z = bs.take (cntE 0 bs a) := by
    have := hrb z.length
    rw [List.take_of_length_le (Nat.le_refl _), Nat.min_eq_left (by omega)] at this
    exact this
  have r2 := read_cut bs hok c
  have r3 := hrb c
  generalize hS : joinF bs = S at *
  obtain ⟨zs, rfl⟩ := okP_ml hl
  have s1 : q__law_right_9b__1 [p, some (.ml zs), some (.fz (lsP bs)), C, some (.fz (.str S)), some E, j6, T, tn, j9, j10, j11, j12, j13, j14, j15, none, none] = .ok .nx [p, some l1, some (.fz (lsP bs)), C, some (.fz (.str S)), some E, j6, T, tn, some (.fz (.int a)), j10, j11, j12, j13, j14, j15, none, none] := by
    unfold q__law_right_9b__1
    simp [hsl, e1]
  obtain ⟨z1, rfl⟩ := okP_ml hl1
  have s2 : q__law_right_9b__2 [p, some (.ml z1), some (.fz (lsP bs)), C, some (.fz (.str S)), some E, j6, T, tn, some (.fz (.int a)), j10, j11, j12, j13, j14, j15, none, none] = .ok .nx [p, some l2, some (.fz (lsP bs)), C, some (.fz (.str S)), some (.fz (enP bs)), j6, T, tn, some (.fz (.int a)), some (.fz (.str z)), some (.fz (.int (cntE 0 bs a))), j12, j13, j14, j15, none, none] := by
    have hb : vw (eCall f__law_burst @gPos (rP 1 (rV (eVar 4) (rV (eVar 9) rNil))) rNil) [p, some (.ml z1), some (.fz (lsP bs)), C, some (.fz (.str S)), some (.fz (enP bs)), j6, T, tn, some (.fz (.int a)), j10, j11, j12, j13, j14, j15, none, none] = .ok (.str z) [p, some l2, some (.fz (lsP bs)), C, some (.fz (.str S)), some (.fz (enP bs)), j6, T, tn, some (.fz (.int a)), j10, j11, j12, j13, j14, j15, none, none] := by
      generalize enP bs = X
      simp [e2]
    have hc := cnt_ok p (some l2) (some (.fz (lsP bs))) C (some (.fz (.str S))) j6 T tn (some (.fz (.int a))) j10 j11 j12 j13 j14 j15 none bs hn (eVar 9) a (fun q => by
      generalize enP bs = X
      simp)
    unfold q__law_right_9b__2
    rw [sFz_ap, fzAt_ap]
    simp only [List.getElem?_cons_succ, List.getElem?_cons_zero, fzO_some, List.set_cons_succ, List.set_cons_zero, hE]
    rw [sPar_ap, mCons_ap, mv_ap, hb, th_ok, th_ok, mCons_ap, mv_ap, hc, th_ok, th_ok, mNil_ap, th_ok, th_ok, th_ok]
    generalize enP bs = X
    simp
  obtain ⟨z2, rfl⟩ := okP_ml hl2
  have s3 : q__law_right_9b__3 [p, some (.ml z2), some (.fz (lsP bs)), C, some (.fz (.str S)), some (.fz (enP bs)), j6, T, tn, some (.fz (.int a)), some (.fz (.str z)), some (.fz (.int (cntE 0 bs a))), j12, j13, j14, j15, none, none] = .ok .nx [p, some l3, some (.fz (lsP bs)), C, some (.fz (.str S)), some (.fz (enP bs)), j6, T, tn, some (.fz (.int a)), some (.fz (.str z)), some (.fz (.int (cntE 0 bs a))), some (.fz (.int c)), j13, j14, j15, none, none] := by
    unfold q__law_right_9b__3
    generalize enP bs = X
    simp [hsl, e3]
  have hc0 : cutL z none (some (c : Int)) = z.take c := by
    have := cutL_np z (j := (c : Int)) (by omega)
    simpa using this
  have hzl2 : z.length ≤ 16777216 := by omega
  have s4 : q__law_right_9b__4 [p, some l3, some (.fz (lsP bs)), C, some (.fz (.str S)), some (.fz (enP bs)), j6, T, tn, some (.fz (.int a)), some (.fz (.str z)), some (.fz (.int (cntE 0 bs a))), some (.fz (.int c)), j13, j14, j15, none, none] = .ok .nx [p, some l3, some (.fz (lsP bs)), C, some (.fz (.str S)), some (.fz (enP bs)), j6, T, tn, some (.fz (.int a)), some (.fz (.str z)), some (.fz (.int (cntE 0 bs a))), some (.fz (.int c)), some (.fz (.str (z.take c))), j14, j15, none, none] := by
    unfold q__law_right_9b__4
    generalize enP bs = X
    simp [hzl2, hc0]
  have s5 : q__law_right_9b__5 [p, some l3, some (.fz (lsP bs)), C, some (.fz (.str S)), some (.fz (enP bs)), j6, T, tn, some (.fz (.int a)), some (.fz (.str z)), some (.fz (.int (cntE 0 bs a))), some (.fz (.int c)), some (.fz (.str (z.take c))), j14, j15, none, none] = .ok .nx [p, some l3, some (.fz (lsP bs)), C, some (.fz (.str S)), some (.fz (enP bs)), j6, T, tn, some (.fz (.int a)), some (.fz (.str z)), some (.fz (.int (cntE 0 bs a))), some (.fz (.int c)), some (.fz (.str (z.take c))), some (.fz (.int (cntE 0 bs (min a c)))), j15, none, none] := by
    have hmin : (if (c : Int) < (a : Int) then (c : Int) else (a : Int)) = ((min a c : Nat) : Int) := by
      by_cases q : c < a
      · rw [if_pos (by omega), Nat.min_eq_right (by omega)]
      · rw [if_neg (by omega), Nat.min_eq_left (by omega)]
    have hc := cnt_ok p (some l3) (some (.fz (lsP bs))) C (some (.fz (.str S))) j6 T tn (some (.fz (.int a))) (some (.fz (.str z))) (some (.fz (.int (cntE 0 bs a)))) (some (.fz (.int c))) (some (.fz (.str (z.take c)))) j14 j15 none bs hn (eCB (two pMin) (aCons (eVar 9) (aCons (eVar 12) aNil))) (min a c) (fun q => by
      generalize enP bs = X
      rw [eCB_ap]
      simp only [aCons_ap, eVar_ap, List.getElem?_cons_succ, List.getElem?_cons_zero, slotF_fz, oth_some, th_ok, aNil_ap, two_ap, pMin_int, hmin, ofO_some])
    unfold q__law_right_9b__5
    rw [sSet_ap, mv_ap, hc, th_ok, th_ok]
    rfl
  have s6 : q__law_right_9b__6 [p, some l3, some (.fz (lsP bs)), C, some (.fz (.str S)), some (.fz (enP bs)), j6, T, tn, some (.fz (.int a)), some (.fz (.str z)), some (.fz (.int (cntE 0 bs a))), some (.fz (.int c)), some (.fz (.str (z.take c))), some (.fz (.int (cntE 0 bs (min a c)))), j15, none, none] = .ok .nx [p, some l3, some (.fz (lsP bs)), C, some (.fz (.str S)), some (.fz (enP bs)), j6, T, tn, some (.fz (.int a)), some (.fz (.str z)), some (.fz (.int (cntE 0 bs a))), some (.fz (.int c)), some (.fz (.str (z.take c))), some (.fz (.int (cntE 0 bs (min a c)))), j15, none, none] := by
    have hc := cnt_ok p (some l3) (some (.fz (lsP bs))) C (some (.fz (.str S))) j6 T tn (some (.fz (.int a))) (some (.fz (.str z))) (some (.fz (.int (cntE 0 bs a)))) (some (.fz (.int c))) (some (.fz (.str (z.take c)))) (some (.fz (.int (cntE 0 bs (min a c))))) j15 none bs hn (eVar 12) c (fun q => by
      generalize enP bs = X
      simp)
    have hcS : cutL S none (some (c : Int)) = S.take c := by
      have := cutL_np S (j := (c : Int)) (by omega)
      simpa using this
    generalize hρ : [p, some l3, some (.fz (lsP bs)), C, some (.fz (.str S)), some (.fz (enP bs)), j6, T, tn, some (.fz (.int a)), some (.fz (.str z)), some (.fz (.int (cntE 0 bs a))), some (.fz (.int c)), some (.fz (.str (z.take c))), some (.fz (.int (cntE 0 bs (min a c)))), j15, none, none] = ρ at hc ⊢
    have v2 : eVar 2 ρ = .ok (lsP bs) ρ := by rw [← hρ, eVar_ap]; rfl
    have v4 : eVar 4 ρ = .ok (.str S) ρ := by rw [← hρ, eVar_ap]; rfl
    have v10 : eVar 10 ρ = .ok (.str z) ρ := by rw [← hρ, eVar_ap]; rfl
    have v11 : eVar 11 ρ = .ok (.int (cntE 0 bs a)) ρ := by rw [← hρ, eVar_ap]; rfl
    have v12 : eVar 12 ρ = .ok (.int c) ρ := by rw [← hρ, eVar_ap]; rfl
    have b1 := bod_ok z (by omega) ρ (eVar 10) ρ v10
    have hsl4 : eSl (eVar 4) eNo (ePart (eVar 12)) ρ = .ok (.str (S.take c)) ρ := by
      rw [eSl_ap, v4, th_ok, eNo_ap, th_ok, ePart_ap, v12, th_ok, asI_int, oth_some, th_ok, pSl_str, if_pos hsl, ofO_some, hcS]
    have b2 := bod_ok (S.take c) (by rw [List.length_take]; omega) ρ _ ρ hsl4
    rw [r1] at b1
    rw [r2] at b2
    obtain ⟨x, hx⟩ := repr2 _ _ (hbs.take (cntE 0 bs a)) (hbs.take (cntE 0 bs c))
    have z3 : ([lsP (bs.take (cntE 0 bs a)), lsP (bs.take (cntE 0 bs c))] : List PV).length ≤ 16777216 := Nat.le_of_ble_eq_true rfl
    have w1 : eSl (eVar 2) eNo (ePart (eVar 11)) ρ = .ok (lsP (bs.take (cntE 0 bs a))) ρ := by
      rw [eSl_ap, v2, th_ok, eNo_ap, th_ok, ePart_ap, v11, th_ok, asI_int, oth_some, th_ok, lsP_cut, ofO_some]
    unfold q__law_right_9b__6
    rw [sIf_f (ρ' := ρ) (by
      rw [eBool_ap, eOp_ap, eCB_ap, aCons_ap, vw_ap, eLst_ap, aCons_ap, b1, th_ok, aCons_ap, b2, th_ok, aNil_ap, th_ok, th_ok, th_ok, if_pos z3, th_ok, view_ml, views_map, th_ok, aNil_ap, th_ok, th_ok, one_ap, hx, ofO_some, th_ok]
      rw [eCB_ap, aCons_ap, vw_ap, eLst_ap, aCons_ap, w1, th_ok, aCons_ap, eSl_ap, v2, th_ok, eNo_ap, th_ok, ePart_ap, hc, th_ok, asI_int, oth_some, th_ok, lsP_cut, ofO_some, th_ok, aNil_ap, th_ok, th_ok, th_ok, if_pos z3, th_ok, view_ml, views_map, th_ok, aNil_ap, th_ok, th_ok, one_ap, hx, ofO_some, th_ok, pNe_str, decide_eq_true rfl, Bool.not_true, ofO_some, th_ok, asB_bl, ofO_some]), sNil_ap]
  have s7 : q__law_right_9b__7 [p, some l3, some (.fz (lsP bs)), C, some (.fz (.str S)), some (.fz (enP bs)), j6, T, tn, some (.fz (.int a)), some (.fz (.str z)), some (.fz (.int (cntE 0 bs a))), some (.fz (.int c)), some (.fz (.str (z.take c))), some (.fz (.int (cntE 0 bs (min a c)))), j15, none, none] = .ok .nx [p, some l3, some (.fz (lsP bs)), C, some (.fz (.str S)), some (.fz (enP bs)), j6, T, tn, some (.fz (.int a)), some (.fz (.str z)), some (.fz (.int (cntE 0 bs a))), some (.fz (.int c)), some (.fz (.str (z.take c))), some (.fz (.int (cntE 0 bs (min a c)))), j15, none, none] := by
    generalize hρ : [p, some l3, some (.fz (lsP bs)), C, some (.fz (.str S)), some (.fz (enP bs)), j6, T, tn, some (.fz (.int a)), some (.fz (.str z)), some (.fz (.int (cntE 0 bs a))), some (.fz (.int c)), some (.fz (.str (z.take c))), some (.fz (.int (cntE 0 bs (min a c)))), j15, none, none] = ρ
    have v2 : eVar 2 ρ = .ok (lsP bs) ρ := by rw [← hρ, eVar_ap]; rfl
    have v13 : eVar 13 ρ = .ok (.str (z.take c)) ρ := by rw [← hρ, eVar_ap]; rfl
    have v14 : eVar 14 ρ = .ok (.int (cntE 0 bs (min a c))) ρ := by rw [← hρ, eVar_ap]; rfl
    have b1 := bod_ok (z.take c) (by rw [List.length_take]; omega) ρ (eVar 13) ρ v13
    rw [r3] at b1
    obtain ⟨x, hx⟩ := repr1 _ (hbs.take (cntE 0 bs (min a c)))
    unfold q__law_right_9b__7
    rw [sIf_f (ρ' := ρ) (by
      rw [eBool_ap, eOp_ap, eCB_ap, aCons_ap, b1, th_ok, aNil_ap, th_ok, th_ok, one_ap, hx, ofO_some, th_ok]
      rw [eCB_ap, aCons_ap, eSl_ap, v2, th_ok, eNo_ap, th_ok, ePart_ap, v14, th_ok, asI_int, oth_some, th_ok, lsP_cut, ofO_some, th_ok, aNil_ap, th_ok, th_ok, one_ap, hx, ofO_some, th_ok, pNe_str, decide_eq_true rfl, Bool.not_true, ofO_some, th_ok, asB_bl, ofO_some]), sNil_ap]
  refine ⟨l3, some (.fz (.int a)), some (.fz (.str z)), some (.fz (.int (cntE 0 bs a))), some (.fz (.int c)), some (.fz (.str (z.take c))), some (.fz (.int (cntE 0 bs (min a c)))), ?_, hl3⟩
  unfold q__law_right_9b
  rw [sSeq_nx s1, sSeq_nx s2, sSeq_nx s3, sSeq_nx s4, sSeq_nx s5, sSeq_nx s6, sSeq_nx s7, sNil_ap]
theorem loop9 (p : Option MV) (bs : List Tx) (h : ∀ b ∈ bs, okB b ∧ b.length ≤ 72) (h1 : 1 ≤ bs.length) (hn : bs.length ≤ 100) (C j6 T : Option MV) : ∀ (items : List PV) (l : MV) (E : MV) (j8 j9 j10 j11 j12 j13 j14 j15 : Option MV), okP l → E.view = enP bs →
    ∃ l' E' j8' j9' j10' j11' j12' j13' j14', forL (gN 8) q__law_right_9b items [p, some l, some (.fz (lsP bs)), C, some (.fz (.str (joinF bs))), some E, j6, T, j8, j9, j10, j11, j12, j13, j14, j15, none, none] = .ok .nx [p, some l', some (.fz (lsP bs)), C, some (.fz (.str (joinF bs))), some E', j6, T, j8', j9', j10', j11', j12', j13', j14', j15, none, none] ∧ okP l' ∧ E'.view = enP bs
  | [], l, E, j8, j9, j10, j11, j12, j13, j14, j15, hl, hE => ⟨l, E, j8, j9, j10, j11, j12, j13, j14, by rw [forL_nil], hl, hE⟩
  | x :: r, l, E, j8, j9, j10, j11, j12, j13, j14, j15, hl, hE => by
    obtain ⟨l1, i9, i10, i11, i12, i13, i14, e, hl1⟩ := turn9 p l hl bs h h1 hn E hE C j6 T (some (.fz x)) j9 j10 j11 j12 j13 j14 j15
    obtain ⟨l2, E2, k8, k9, k10, k11, k12, k13, k14, e2, hl2, hE2⟩ := loop9 p bs h h1 hn C j6 T r l1 (.fz (enP bs)) (some (.fz x)) i9 i10 i11 i12 i13 i14 j15 hl1 (view_fz _)
    refine ⟨l2, E2, k8, k9, k10, k11, k12, k13, k14, ?_, hl2, hE2⟩
    rw [forL_ap, gN_ap]
    simp only [List.length_cons, List.length_nil, List.set_cons_succ, List.set_cons_zero]
    rw [if_pos (by omega), oth_some, e, lpO_nx, e2]
theorem part9 (p : Option MV) (bs : List Tx) (h : ∀ b ∈ bs, okB b ∧ b.length ≤ 72) (h1 : 1 ≤ bs.length) (hn : bs.length ≤ 100) (C j6 T : Option MV) (l : MV) (E : MV) (hl : okP l) (hE : E.view = enP bs) :
    ∃ l' E' j8' j9' j10' j11' j12' j13' j14', q__law_right_9 [p, some l, some (.fz (lsP bs)), C, some (.fz (.str (joinF bs))), some E, j6, T, none, none, none, none, none, none, none, none, none, none] = .ok .nx [p, some l', some (.fz (lsP bs)), C, some (.fz (.str (joinF bs))), some E', j6, T, j8', j9', j10', j11', j12', j13', j14', none, none, none] ∧ okP l' := by
  obtain ⟨l2, E2, k8, k9, k10, k11, k12, k13, k14, e2, hl2, hE2⟩ := loop9 p bs h h1 hn C j6 T (rngL 0 4) l E none none none none none none none none hl hE
  refine ⟨l2, E2, k8, k9, k10, k11, k12, k13, k14, ?_, hl2⟩
  have hr : -(2 ^ 62 : Int) ≤ 4 ∧ (4 : Int) < 2 ^ 62 := by omega
  unfold q__law_right_9
  rw [sFor_ap, sRng_ap, aCons_ap, ret_ap, th_ok, aNil_ap, th_ok, th_ok, rngOf_1, if_pos hr, ofO_some, th_ok]
  exact e2
end K77

set_option Elab.async false
set_option linter.all false
set_option maxRecDepth 100000
set_option maxHeartbeats 4000000
namespace K77
open PySem PySem.Spec PyProof.Rows L2 Mv
theorem turn10 (t : Tx) (ht : t.all sg = true) (hl : t.length ≤ 5000) (ρ : Mv.Env) (h15 : ρ[15]? = some (some (.fz (.str t)))) : q__law_right_10b ρ = .ok .nx ρ := by
  have v : eVar 15 ρ = .ok (.str t) ρ := by rw [eVar_ap, h15]; rfl
  have b := bod_ok t (by omega) ρ (eVar 15) ρ v
  obtain ⟨E, e⟩ := f_law_read_eq t (by omega) ht
  obtain ⟨x, hx⟩ := repr1 _ (rdB_okL t (by omega) ht)
  have hc : vw (eCall f__law_read @gPos (rV (eVar 15) rNil) rNil) ρ = .ok (.tup [lsP (rdB t), .lst E]) ρ := by
    have e2 : eCall f__law_read @gPos (rV (eVar 15) rNil) rNil ρ = .ok (.fz (.tup [lsP (rdB t), .lst E])) ρ := by
      rw [eCall_ap, rV_ap, v]
      simp [e, lsP]
    rw [vw_ap, e2, th_ok, view_fz]
  have i0 : ∀ (x : PV) (xs : List PV), atI (x :: xs) 0 = some x := fun x xs => by simp [atI, ixN]
  unfold q__law_right_10b q__law_right_10b__1
  rw [sSeq_nx (ρ' := ρ) (by
    rw [sIf_f (ρ' := ρ) (by
      rw [eBool_ap, eOp_ap, eCB_ap, aCons_ap, b, th_ok, aNil_ap, th_ok, th_ok, one_ap, hx, ofO_some, th_ok]
      rw [eCB_ap, aCons_ap, eOp_ap, hc, th_ok, ret_ap, th_ok, pIx_tup, i0, ofO_some, th_ok, aNil_ap, th_ok, th_ok, one_ap, hx, ofO_some, th_ok, pNe_str, decide_eq_true rfl, Bool.not_true, ofO_some, th_ok, asB_bl, ofO_some]), sNil_ap]), sNil_ap]
theorem loop10 (a0 a1 a2 a3 a4 a5 a6 a7 a8 a9 a10 a11 a12 a13 a14 a16 a17 : Option MV) : ∀ (ts : List Tx) (j15 : Option MV), (∀ t ∈ ts, t.all sg = true ∧ t.length ≤ 5000) → ∃ j15', forL (gN 15) q__law_right_10b (ts.map .str) [a0, a1, a2, a3, a4, a5, a6, a7, a8, a9, a10, a11, a12, a13, a14, j15, a16, a17] = .ok .nx [a0, a1, a2, a3, a4, a5, a6, a7, a8, a9, a10, a11, a12, a13, a14, j15', a16, a17]
  | [], j15, h => ⟨j15, by rw [List.map_nil, forL_nil]⟩
  | t :: r, j15, h => by
    obtain ⟨h1, h2⟩ := h t (List.mem_cons_self ..)
    obtain ⟨j15', e⟩ := loop10 a0 a1 a2 a3 a4 a5 a6 a7 a8 a9 a10 a11 a12 a13 a14 a16 a17 r (some (.fz (.str t))) fun u hu => h u (List.mem_cons_of_mem _ hu)
    refine ⟨j15', ?_⟩
    rw [List.map_cons, forL_ap, gN_ap]
    simp only [List.length_cons, List.length_nil, List.set_cons_succ, List.set_cons_zero]
    rw [if_pos (by omega), oth_some, turn10 t h1 h2 _ rfl, lpO_nx, e]
theorem part10 (a0 a2 a5 a6 a7 a8 a9 a10 a11 a12 a13 a14 a15 a16 a17 : Option MV) (l : MV) (hl : okP l) (bs : List Tx) (h : ∀ b ∈ bs, okB b ∧ b.length ≤ 72) (h1 : 1 ≤ bs.length) (hn : bs.length ≤ 6) :
    ∃ l' j15', q__law_right_10 [a0, some l, a2, some (.fz (lsP (bs.map frT))), some (.fz (.str (joinF bs))), a5, a6, a7, a8, a9, a10, a11, a12, a13, a14, a15, a16, a17] = .ok .nx [a0, some l', a2, some (.fz (lsP (bs.map frT))), some (.fz (.str (joinF bs))), a5, a6, a7, a8, a9, a10, a11, a12, a13, a14, j15', a16, a17] ∧ okP l' := by
  have hjl := joinF_len bs fun b hb => (h b hb).2
  have hsg := joinF_sg bs fun b hb => (h b hb).1
  obtain ⟨b1, l1, e1, hl1, ok1, n1⟩ := f_body_eq l hl
  obtain ⟨b2, l2, e2, hl2, ok2, n2⟩ := f_body_eq l1 hl1
  obtain ⟨d, l3, e3, hl3, d0, d1⟩ := f_law_draw_eq l2 hl2 30 (by omega) (by omega)
  obtain ⟨z0, rfl⟩ := okP_ml hl
  obtain ⟨z1, rfl⟩ := okP_ml hl1
  obtain ⟨z2, rfl⟩ := okP_ml hl2
  obtain ⟨b, r, hbs⟩ : ∃ b r, bs = b :: r := by
    cases bs with
    | nil => simp at h1
    | cons b r => exact ⟨b, r, rfl⟩
  have hb := h b (by rw [hbs]; exact List.mem_cons_self ..)
  have hfl := frT_len b
  have hfs := frT_sg b hb.1
  have i0 : ∀ (x : PV) (xs : List PV), atI (x :: xs) 0 = some x := fun x xs => by simp [atI, ixN]
  have ef : lsP (bs.map frT) = .lst (.str (frT b) :: (r.map frT).map .str) := by rw [hbs]; rfl
  have hm1 : cutL (frT b) none (some (-1)) = (frT b).take ((frT b).length - 1) := cutL_nm (frT b) 1 (by omega)
  have hdr : cutL (joinF bs) (some d) none = (joinF bs).drop d.toNat := cutL_pn _ d0
  generalize hS : joinF bs = S at *
  have hSl : S.length ≤ 16777216 := by omega
  obtain ⟨j15', lp⟩ := loop10 a0 (some l3) a2 (some (.fz (lsP (bs.map frT)))) (some (.fz (.str S))) a5 a6 a7 a8 a9 a10 a11 a12 a13 a14 a16 a17 [S ++ b1, b2 ++ S, S.drop d.toNat, frT b ++ (frT b).take ((frT b).length - 1), []] a15 (fun t ht => by
    simp only [List.mem_cons, List.not_mem_nil, or_false] at ht
    rcases ht with rfl | rfl | rfl | rfl | rfl
    · exact ⟨by rw [List.all_append, hsg, ok1.2.2]; rfl, by rw [List.length_append]; omega⟩
    · exact ⟨by rw [List.all_append, hsg, ok2.2.2]; rfl, by rw [List.length_append]; omega⟩
    · exact ⟨List.all_eq_true.mpr fun c hc => List.all_eq_true.mp hsg c (List.mem_of_mem_drop hc), by rw [List.length_drop]; omega⟩
    · exact ⟨by rw [List.all_append, hfs, List.all_eq_true.mpr fun c hc => List.all_eq_true.mp hfs c (List.mem_of_mem_take hc)]; rfl, by rw [List.length_append, List.length_take]; omega⟩
    · exact ⟨rfl, by simp⟩)
  refine ⟨l3, j15', ?_, hl3⟩
  have p1 : S.length + b1.length ≤ 16777216 := by omega
  have p2 : b2.length + S.length ≤ 16777216 := by omega
  have p3 : (frT b).length + ((frT b).take ((frT b).length - 1)).length ≤ 16777216 := by rw [List.length_take]; omega
  have p4 : (frT b).length ≤ 16777216 := by omega
  have q1 : eOp pAdd (eVar 4) (vw (eCall f__law_body @gPos (rP 1 rNil) rNil)) [a0, some (.ml z0), a2, some (.fz (lsP (bs.map frT))), some (.fz (.str S)), a5, a6, a7, a8, a9, a10, a11, a12, a13, a14, a15, a16, a17] = .ok (.str (S ++ b1)) [a0, some (.ml z1), a2, some (.fz (lsP (bs.map frT))), some (.fz (.str S)), a5, a6, a7, a8, a9, a10, a11, a12, a13, a14, a15, a16, a17] := by
    generalize lsP (bs.map frT) = F
    simp [e1, p1]
  have q2 : eOp pAdd (vw (eCall f__law_body @gPos (rP 1 rNil) rNil)) (eVar 4) [a0, some (.ml z1), a2, some (.fz (lsP (bs.map frT))), some (.fz (.str S)), a5, a6, a7, a8, a9, a10, a11, a12, a13, a14, a15, a16, a17] = .ok (.str (b2 ++ S)) [a0, some (.ml z2), a2, some (.fz (lsP (bs.map frT))), some (.fz (.str S)), a5, a6, a7, a8, a9, a10, a11, a12, a13, a14, a15, a16, a17] := by
    generalize lsP (bs.map frT) = F
    simp [e2, p2]
  have q3 : eSl (eVar 4) (ePart (vw (eCall f__law_draw @gPos (rP 1 (rV (SE.ret (.int 30)) rNil)) rNil))) eNo [a0, some (.ml z2), a2, some (.fz (lsP (bs.map frT))), some (.fz (.str S)), a5, a6, a7, a8, a9, a10, a11, a12, a13, a14, a15, a16, a17] = .ok (.str (S.drop d.toNat)) [a0, some l3, a2, some (.fz (lsP (bs.map frT))), some (.fz (.str S)), a5, a6, a7, a8, a9, a10, a11, a12, a13, a14, a15, a16, a17] := by
    generalize lsP (bs.map frT) = F
    simp [e3, hSl, hdr]
  have q4 : eOp pAdd (eOp pIx (eVar 3) (SE.ret (.int 0))) (eSl (eOp pIx (eVar 3) (SE.ret (.int 0))) eNo (ePart (eUn pNeg (SE.ret (.int 1))))) [a0, some l3, a2, some (.fz (lsP (bs.map frT))), some (.fz (.str S)), a5, a6, a7, a8, a9, a10, a11, a12, a13, a14, a15, a16, a17] = .ok (.str (frT b ++ (frT b).take ((frT b).length - 1))) [a0, some l3, a2, some (.fz (lsP (bs.map frT))), some (.fz (.str S)), a5, a6, a7, a8, a9, a10, a11, a12, a13, a14, a15, a16, a17] := by
    have hix : pIx (lsP (bs.map frT)) (.int 0) = some (.str (frT b)) := by rw [ef, pIx_lst, i0]
    generalize lsP (bs.map frT) = F at *
    rw [eOp_ap, eOp_ap, eVar_ap]
    simp only [List.getElem?_cons_succ, List.getElem?_cons_zero, slotF_fz, oth_some, th_ok, ret_ap, hix, ofO_some, eSl_ap, eOp_ap, eVar_ap, eNo_ap, ePart_ap, eUn_ap, pNeg_int, asI_int, pSl_str, p4, if_true, hm1, pAdd_str, p3]
  have z3 : ([PV.str (S ++ b1), .str (b2 ++ S), .str (S.drop d.toNat), .str (frT b ++ (frT b).take ((frT b).length - 1)), .str []] : List PV).length ≤ 16777216 := Nat.le_of_ble_eq_true rfl
  unfold q__law_right_10
  rw [sFor_ap, sIt_ap, vw_ap, eLst_ap, aCons_ap, q1, th_ok, aCons_ap, q2, th_ok, aCons_ap, q3, th_ok, aCons_ap, q4, th_ok, aCons_ap, ret_ap, th_ok, aNil_ap, th_ok, th_ok, th_ok, th_ok, th_ok, th_ok, if_pos z3, th_ok, view_ml, views_map, th_ok, itL_lst, ofO_some, th_ok]
  exact lp
theorem f_right_eq (p l : MV) (hp : okP p) (hl : okP l) : ∃ p' l', f__law_right [p, l] = .ok (.fz (.bl true)) [p', l'] ∧ okP p' ∧ okP l' := by
  rw [r__law_right, e__law_right_eq]
  obtain ⟨bs, p1, e1, hp1, h, h1, h6⟩ := part1 p hp l
  have hok := fun b hb => (h b hb).1
  have hjl := joinF_len bs fun b hb => (h b hb).2
  obtain ⟨j6, e5⟩ := part5 (some p1) (some l) (some (.fz (lsP bs))) bs (fun b hb => (h b hb).2) (by omega) (some (.fz (.str (joinF bs))))
  obtain ⟨T, e8⟩ := part8 (some p1) (some l) (some (.fz (lsP bs))) (some (.fz (lsP (bs.map frT)))) (some (.fz (.str (joinF bs)))) (some (.ml ((0 :: endsL 0 bs).map nI))) j6 (bs.map fun b => .fz (.str b)) (by rw [List.length_map]; omega)
  have hE : (MV.ml ((0 :: endsL 0 bs).map nI)).view = enP bs := by
    rw [view_ml]
    exact congrArg PV.lst (views_comp (fun n : Nat => PV.int (n : Int)) (0 :: endsL 0 bs))
  obtain ⟨l9, E9, j8, j9, j10, j11, j12, j13, j14, e9, hl9⟩ := part9 (some p1) bs h h1 (by omega) (some (.fz (lsP (bs.map frT)))) j6 (some T) l _ hl hE
  obtain ⟨l10, j15, e10, hl10⟩ := part10 (some p1) (some (.fz (lsP bs))) (some E9) j6 (some T) j8 j9 j10 j11 j12 j13 j14 none none none l9 hl9 bs h h1 h6
  refine ⟨p1, l10, ?_, hp1, hl10⟩
  rw [sSeq_nx e1, sSeq_nx (part2 _ _ bs hok (by omega)), sSeq_nx (part3 _ _ bs h h1 (by omega)), sSeq_nx (part4 _ _ _ bs h (by omega)), sSeq_nx e5, sSeq_nx (part6 _ _ _ _ _ _ bs h (by omega)), sSeq_nx (part7 _ _ _ _ _ bs h (by omega)), sSeq_nx e8, sSeq_nx e9, sSeq_nx e10]
  have hr := rdB_join bs [] hok
  rw [List.append_nil, rdB_nil, List.append_nil] at hr
  obtain ⟨x, hx⟩ := repr1 bs (okL_of bs h (by omega))
  generalize hρ : [some p1, some l10, some (.fz (lsP bs)), some (.fz (lsP (bs.map frT))), some (.fz (.str (joinF bs))), some E9, j6, some T, j8, j9, j10, j11, j12, j13, j14, j15, none, none] = ρ
  have v2 : eVar 2 ρ = .ok (lsP bs) ρ := by rw [← hρ, eVar_ap]; rfl
  have v4 : eVar 4 ρ = .ok (.str (joinF bs)) ρ := by rw [← hρ, eVar_ap]; rfl
  have b := bod_ok (joinF bs) (by omega) ρ (eVar 4) ρ v4
  rw [hr] at b
  rw [sSeq_rt (ρ' := ρ) (m := .fz (.bl true)) (by
    unfold q__law_right_11
    rw [sRet_ap, mv_ap, eOp_ap, eCB_ap, aCons_ap, b, th_ok, aNil_ap, th_ok, th_ok, one_ap, hx, ofO_some, th_ok, eCB_ap, aCons_ap, v2, th_ok, aNil_ap, th_ok, th_ok, one_ap, hx, ofO_some, th_ok, pEq_str, decide_eq_true rfl, ofO_some, th_ok, th_ok])]
  rw [← hρ]
  simp
end K77

set_option Elab.async false
set_option linter.all false
set_option maxRecDepth 100000
set_option maxHeartbeats 4000000
namespace K77
open PySem PySem.Spec PyProof.Rows L2 Mv
theorem eqvs_refl (bs : List Tx) : PV.eqvs (bs.map .str) (bs.map .str) = true := by
  induction bs with
  | nil => rw [List.map_nil, PV.eqvs]
  | cons b r ih =>
    rw [List.map_cons, PV.eqvs, PV.eqv, ih]
    simp
theorem ne_refl (bs : List Tx) (h : ∀ b ∈ bs, b.all sg = true) : pNe (lsP bs) (lsP bs) = some (.bl false) := by
  have hs : (lsP bs).shp = true := by
    unfold PV.shp lsP
    rw [PV.chk, PV.dep, chks_strs bs h, deps_strs]
    rfl
  have he : PV.eqv (lsP bs) (lsP bs) = true := by
    unfold lsP
    rw [PV.eqv, eqvs_refl]
  have hsc : PV.sc (lsP bs) (lsP bs) = none := rfl
  unfold pNe pyEq
  rw [hsc]
  show Option.map _ (if (lsP bs).shp && (lsP bs).shp then some (PV.eqv (lsP bs) (lsP bs)) else none) = _
  rw [hs, he]
  rfl
theorem paired_true {xs ys : List PV} (h : Paired (fun _ y => y = PV.bl true) xs ys) : ∃ zs : List Nat, ys = zs.map fun _ => .bl true := by
  induction h with
  | nil => exact ⟨[], rfl⟩
  | cons q _ ih =>
    obtain ⟨zs, e⟩ := ih
    exact ⟨0 :: zs, by rw [q, e]; rfl⟩
def q_law_1 : SE Out := (sPar [1, 2] (mCons (eCall f__law_pot @gPos (rV (eVar 0) (rV (SE.ret (.int 0)) rNil)) rNil) (mCons (eCall f__law_pot @gPos (rV (eVar 0) (rV (SE.ret (.int 1)) rNil)) rNil) mNil)))
def q_law_2 : SE Out := (sSet 3 (Mv.mv (eOp pMul (vw (eCall f__law_pick @gPos (rP 1 (rV (vw (eLst (aCons (SE.ret (.str [97])) (aCons (SE.ret (.str [126])) (aCons (SE.ret (.str [10])) aNil))))) rNil)) rNil)) (SE.ret (.int 5000)))))
def q_law_3 : SE Out := (sIf (sOr (sNot (eTru (vw (eCall f__law_is_frame @gPos (rV (vw (eCall f_frame @gPos (rV (eVar 3) rNil) rNil)) (rV (eVar 3) rNil)) rNil)))) (eBool (eOp pNe (vw (eCall f_bodies_of @gPos (rV (eOp pAdd (vw (eCall f_frame @gPos (rV (eVar 3) rNil) rNil)) (vw (eCall f_frame @gPos (rV (SE.ret (.str [98])) rNil) rNil))) rNil) rNil)) (vw (eLst (aCons (eVar 3) (aCons (SE.ret (.str [98])) aNil))))))) (sSeq (sRet (Mv.mv (SE.ret (.bl false)))) sNil) sNil)
def q_law_4 : SE Out := (sRet (Mv.mv (eCB (one pAll) (aCons (vw (sLc (sRng (aCons (SE.ret (.int 3)) aNil)) (gN 4) sYes (vw (eCall f__law_right @gPos (rP 1 (rP 2 rNil)) rNil)) [4])) aNil))))
theorem e_law_eq : e_law = (sSeq q_law_1 (sSeq q_law_2 (sSeq q_law_3 (sSeq q_law_4 sNil)))) := rfl
theorem great_ok (c : Nat) (hc : sg c = true) : okB (List.replicate 5000 [c]).flatten := by
  have e : (List.replicate 5000 [c]).flatten = List.replicate 5000 c := by
    have : ∀ n, (List.replicate n [c]).flatten = List.replicate n c := fun n => by
      induction n with
      | zero => rfl
      | succ n ih => rw [List.replicate_succ, List.flatten_cons, ih, List.replicate_succ]; rfl
    exact this 5000
  rw [e]
  refine ⟨by rw [List.length_replicate]; omega, by rw [List.length_replicate]; omega, ?_⟩
  rw [List.all_eq_true]
  intro x hx
  rw [(List.mem_replicate.mp hx).2]
  exact hc
theorem law_true (ns : List Int) : ∃ outs, f_law [.fz (.scr ns)] = .ok (.fz (.bl true)) outs := by
  rw [r_law, e_law_eq]
  obtain ⟨p, ep, hp⟩ := f_law_pot_eq ns 0 (by omega)
  obtain ⟨l, el, hl⟩ := f_law_pot_eq ns 1 (by omega)
  have s1 : q_law_1 [some (.fz (.scr ns)), none, none, none, none] = .ok .nx [some (.fz (.scr ns)), some p, some l, none, none] := by
    have ep' : f__law_pot [.fz (.scr ns), .fz (.int 0)] = .ok p [] := ep
    have el' : f__law_pot [.fz (.scr ns), .fz (.int 1)] = .ok l [] := el
    unfold q_law_1
    simp [ep', el']
  obtain ⟨x, p1, e1, hp1, hx⟩ := f_law_pick_eq p hp [.str [97], .str [126], .str [10]] (by simp) (by simp)
  obtain ⟨c, rfl, hc⟩ : ∃ c, x = .str [c] ∧ sg c = true := by
    simp at hx
    rcases hx with rfl | rfl | rfl
    · exact ⟨97, rfl, rfl⟩
    · exact ⟨126, rfl, rfl⟩
    · exact ⟨10, rfl, rfl⟩
  have hg := great_ok c hc
  have hm : pMul (.str [c]) (.int 5000) = some (.str (List.replicate 5000 [c]).flatten) := by
    rw [pMul_str, if_pos ⟨Nat.le_of_ble_eq_true rfl, by omega, by omega⟩]
    rfl
  generalize (List.replicate 5000 [c]).flatten = g at hg hm
  obtain ⟨z, rfl⟩ := okP_ml hp
  have s2 : q_law_2 [some (.fz (.scr ns)), some (.ml z), some l, none, none] = .ok .nx [some (.fz (.scr ns)), some p1, some l, some (.fz (.str g)), none] := by
    have ecall : vw (eCall f__law_pick @gPos (rP 1 (rV (vw (eLst (aCons (SE.ret (.str [97])) (aCons (SE.ret (.str [126])) (aCons (SE.ret (.str [10])) aNil))))) rNil)) rNil) [some (.fz (.scr ns)), some (.ml z), some l, none, none] = .ok (.str [c]) [some (.fz (.scr ns)), some p1, some l, none, none] := by
      simp [e1]
    unfold q_law_2
    rw [sSet_ap, mv_ap, eOp_ap, ecall, th_ok, ret_ap, th_ok, hm, ofO_some, th_ok, th_ok]
    rfl
  have hgl := frT_len g
  have h5 := hg.2.1
  have ef := f_frame_eq g hg
  have hb98 : okB [98] := ⟨by simp, by simp, rfl⟩
  have ef2 := f_frame_eq [98] hb98
  have ei := f_is_frame_eq (frT g) g (by omega) (by omega)
  rw [isF_frame g hg] at ei
  have hl98 := frT_len [98]
  have hsum : (frT g).length + (frT [98]).length ≤ 16777216 := by
    rw [hl98]
    simp only [List.length_cons, List.length_nil]
    omega
  have s3 : q_law_3 [some (.fz (.scr ns)), some p1, some l, some (.fz (.str g)), none] = .ok .nx [some (.fz (.scr ns)), some p1, some l, some (.fz (.str g)), none] := by
    generalize hρ : [some (.fz (.scr ns)), some p1, some l, some (.fz (.str g)), none] = ρ
    have v3 : eVar 3 ρ = .ok (.str g) ρ := by rw [← hρ, eVar_ap]; rfl
    have c1 : vw (eCall f_frame @gPos (rV (eVar 3) rNil) rNil) ρ = .ok (.str (frT g)) ρ := by
      have : eCall f_frame @gPos (rV (eVar 3) rNil) rNil ρ = .ok (.fz (.str (frT g))) ρ := by
        rw [eCall_ap, rV_ap, v3]
        simp [ef]
      rw [vw_ap, this, th_ok, view_fz]
    have c2 : vw (eCall f_frame @gPos (rV (SE.ret (.str [98])) rNil) rNil) ρ = .ok (.str (frT [98])) ρ := by
      have : eCall f_frame @gPos (rV (SE.ret (.str [98])) rNil) rNil ρ = .ok (.fz (.str (frT [98]))) ρ := by
        rw [eCall_ap, rV_ap, ret_ap]
        simp [ef2]
      rw [vw_ap, this, th_ok, view_fz]
    have c3 : vw (eCall f__law_is_frame @gPos (rV (vw (eCall f_frame @gPos (rV (eVar 3) rNil) rNil)) (rV (eVar 3) rNil)) rNil) ρ = .ok (.bl true) ρ := by
      have : eCall f__law_is_frame @gPos (rV (vw (eCall f_frame @gPos (rV (eVar 3) rNil) rNil)) (rV (eVar 3) rNil)) rNil ρ = .ok (.fz (.bl true)) ρ := by
        rw [eCall_ap, rV_ap, c1, th_ok, rV_ap, v3]
        simp [ei]
      rw [vw_ap, this, th_ok, view_fz]
    have c4 : eOp pAdd (vw (eCall f_frame @gPos (rV (eVar 3) rNil) rNil)) (vw (eCall f_frame @gPos (rV (SE.ret (.str [98])) rNil) rNil)) ρ = .ok (.str (frT g ++ frT [98])) ρ := by
      rw [eOp_ap, c1, th_ok, c2, th_ok, pAdd_str, if_pos hsum, ofO_some]
    have c5 := bod_ok (frT g ++ frT [98]) (by rw [List.length_append, hl98]; simp only [List.length_cons, List.length_nil]; omega) ρ _ ρ c4
    have hrd : rdB (frT g ++ frT [98]) = [g, [98]] := by
      have := rdB_join [g, [98]] [] (fun b hb => by
        simp at hb
        rcases hb with rfl | rfl
        · exact hg
        · exact hb98)
      rw [joinF_cons, joinF_cons, rdB_nil] at this
      have ej : joinF [] = [] := rfl
      rw [ej, List.append_nil, List.append_nil, List.append_nil] at this
      exact this
    rw [hrd] at c5
    have c6 : vw (eLst (aCons (eVar 3) (aCons (SE.ret (.str [98])) aNil))) ρ = .ok (lsP [g, [98]]) ρ := by
      have z3 : ([PV.str g, .str [98]] : List PV).length ≤ 16777216 := Nat.le_of_ble_eq_true rfl
      rw [vw_ap, eLst_ap, aCons_ap, v3, th_ok, aCons_ap, ret_ap, th_ok, aNil_ap, th_ok, th_ok, th_ok, if_pos z3, th_ok, view_ml, views_map]
      rfl
    have hne := ne_refl [g, [98]] (fun b hb => by
      simp at hb
      rcases hb with rfl | rfl
      · exact hg.2.2
      · rfl)
    unfold q_law_3
    rw [sIf_f (ρ' := ρ) (by
      rw [sOr_ap, sNot_ap, eTru_ap, c3, th_ok, pTru_bl, ofO_some, th_ok, Bool.not_true, th_ok, if_neg Bool.false_ne_true]
      rw [eBool_ap, eOp_ap, c5, th_ok, c6, th_ok, hne, ofO_some, th_ok, asB_bl, ofO_some]), sNil_ap]
  rw [sSeq_nx s1, sSeq_nx s2, sSeq_nx s3]
  have hr : -(2 ^ 62 : Int) ≤ 3 ∧ (3 : Int) < 2 ^ 62 := by omega
  have e3 : rngL 0 3 = rngP 0 3 := rngL_0 3
  obtain ⟨vs, ρ', q1, q2, q3⟩ := lcGo_rel (I := fun ρ => ∃ p l, ρ = [some (.fz (.scr ns)), some p, some l, some (.fz (.str g)), none] ∧ okP p ∧ okP l) (Rl := fun _ y => y = PV.bl true) (g := gN 4) (tt := sYes) (te := vw (eCall f__law_right @gPos (rP 1 (rP 2 rNil)) rNil)) (vs := [4]) (items := rngP 0 3) (acc := []) (ρ := [some (.fz (.scr ns)), some p1, some l, some (.fz (.str g)), none]) ⟨p1, l, rfl, hp1, hl⟩ (fun x _ ρ hI => by
    obtain ⟨p, l, rfl, hp, hl⟩ := hI
    obtain ⟨p', l', e, hp', hl'⟩ := f_right_eq p l hp hl
    obtain ⟨y1, rfl⟩ := okP_ml hp
    obtain ⟨y2, rfl⟩ := okP_ml hl
    exact ⟨[some (.fz (.scr ns)), some (.ml y1), some (.ml y2), some (.fz (.str g)), some (.fz x)], [some (.fz (.scr ns)), some (.ml y1), some (.ml y2), some (.fz (.str g)), some (.fz x)], [some (.fz (.scr ns)), some p', some l', some (.fz (.str g)), some (.fz x)], .bl true, by simp, by simp, by simp [e], rfl, p', l', by simp, hp', hl'⟩)
  rw [List.nil_append] at q1
  obtain ⟨p2, l2, rfl, _, _⟩ := q2
  obtain ⟨zs, rfl⟩ := paired_true q3
  have ha : pAll (.lst (zs.map fun _ => .bl true)) = some (.bl true) := by
    rw [pAll_map (fun _ => true) zs]
    simp
  have hlen : (rngP 0 3).length ≤ 16777216 := Nat.le_trans (Nat.le_of_eq (rngP_len _ _)) (Nat.le_of_ble_eq_true rfl)
  refine ⟨[], ?_⟩
  rw [sSeq_rt (ρ' := [some (.fz (.scr ns)), some p2, some l2, some (.fz (.str g)), none]) (m := .fz (.bl true)) (by
    unfold q_law_4
    rw [sRet_ap, mv_ap, eCB_ap, aCons_ap, vw_ap, sLc_ap, sRng_ap, aCons_ap, ret_ap, th_ok, aNil_ap, th_ok, th_ok, rngOf_1, if_pos hr, ofO_some, th_ok, e3, if_pos hlen]
    simp only [wipeE_cons, wipeE_nil, List.set_cons_succ, List.set_cons_zero, q1, oth_some, th_ok, view_ml, views_map, backE_cons, backE_nil, List.getElem?_cons_succ, List.getElem?_cons_zero, slotF_none, Option.map_none, aNil_ap, one_ap, ha, ofO_some])]
  simp
end K77

namespace K77
open PySem PySem.Spec PyProof.Rows L2 Mv
theorem fx_of {K : PySem.W.Frag} {h : Heap} {mg : Str → Option Value} (X : K.In h) (G : h.Ns mainGlobals mg) (c : He.SaysD fa fn K) : Fx K mg where
  d_are_signs := by
    obtain ⟨fd, D⟩ := c.def_ 0 (d := d_are_signs) rfl
    exact ⟨_, fd, D, He.glo_ok X G (c.fact 0 (f := .glo "are_signs") rfl)⟩
  d_number_of := by
    obtain ⟨fd, D⟩ := c.def_ 1 (d := d_number_of) rfl
    exact ⟨_, fd, D, He.glo_ok X G (c.fact 1 (f := .glo "number_of") rfl)⟩
  d_is_body := by
    obtain ⟨fd, D⟩ := c.def_ 2 (d := d_is_body) rfl
    exact ⟨_, fd, D, He.glo_ok X G (c.fact 2 (f := .glo "is_body") rfl)⟩
  d_head_of := by
    obtain ⟨fd, D⟩ := c.def_ 3 (d := d_head_of) rfl
    exact ⟨_, fd, D, He.glo_ok X G (c.fact 3 (f := .glo "head_of") rfl)⟩
  d_tail_of := by
    obtain ⟨fd, D⟩ := c.def_ 4 (d := d_tail_of) rfl
    exact ⟨_, fd, D, He.glo_ok X G (c.fact 4 (f := .glo "tail_of") rfl)⟩
  d_frame_by := by
    obtain ⟨fd, D⟩ := c.def_ 5 (d := d_frame_by) rfl
    exact ⟨_, fd, D, He.glo_ok X G (c.fact 5 (f := .glo "frame_by") rfl)⟩
  d_size_at := by
    obtain ⟨fd, D⟩ := c.def_ 6 (d := d_size_at) rfl
    exact ⟨_, fd, D, He.glo_ok X G (c.fact 6 (f := .glo "size_at") rfl)⟩
  d_frames_in := by
    obtain ⟨fd, D⟩ := c.def_ 7 (d := d_frames_in) rfl
    exact ⟨_, fd, D, He.glo_ok X G (c.fact 7 (f := .glo "frames_in") rfl)⟩
  d_frame := by
    obtain ⟨fd, D⟩ := c.def_ 8 (d := d_frame) rfl
    exact ⟨_, fd, D, He.glo_ok X G (c.fact 8 (f := .glo "frame") rfl)⟩
  d_bodies_of := by
    obtain ⟨fd, D⟩ := c.def_ 9 (d := d_bodies_of) rfl
    exact ⟨_, fd, D, He.glo_ok X G (c.fact 9 (f := .glo "bodies_of") rfl)⟩
  d__law_pot := by
    obtain ⟨fd, D⟩ := c.def_ 10 (d := d__law_pot) rfl
    exact ⟨_, fd, D, He.glo_ok X G (c.fact 10 (f := .glo "_law_pot") rfl)⟩
  d__law_draw := by
    obtain ⟨fd, D⟩ := c.def_ 11 (d := d__law_draw) rfl
    exact ⟨_, fd, D, He.glo_ok X G (c.fact 11 (f := .glo "_law_draw") rfl)⟩
  d__law_pick := by
    obtain ⟨fd, D⟩ := c.def_ 12 (d := d__law_pick) rfl
    exact ⟨_, fd, D, He.glo_ok X G (c.fact 12 (f := .glo "_law_pick") rfl)⟩
  d__law_number := by
    obtain ⟨fd, D⟩ := c.def_ 13 (d := d__law_number) rfl
    exact ⟨_, fd, D, He.glo_ok X G (c.fact 13 (f := .glo "_law_number") rfl)⟩
  d__law_is_frame := by
    obtain ⟨fd, D⟩ := c.def_ 14 (d := d__law_is_frame) rfl
    exact ⟨_, fd, D, He.glo_ok X G (c.fact 14 (f := .glo "_law_is_frame") rfl)⟩
  d__law_read := by
    obtain ⟨fd, D⟩ := c.def_ 15 (d := d__law_read) rfl
    exact ⟨_, fd, D, He.glo_ok X G (c.fact 15 (f := .glo "_law_read") rfl)⟩
  d__law_other_sign := by
    obtain ⟨fd, D⟩ := c.def_ 16 (d := d__law_other_sign) rfl
    exact ⟨_, fd, D, He.glo_ok X G (c.fact 16 (f := .glo "_law_other_sign") rfl)⟩
  d__law_burst := by
    obtain ⟨fd, D⟩ := c.def_ 17 (d := d__law_burst) rfl
    exact ⟨_, fd, D, He.glo_ok X G (c.fact 17 (f := .glo "_law_burst") rfl)⟩
  d__law_body := by
    obtain ⟨fd, D⟩ := c.def_ 18 (d := d__law_body) rfl
    exact ⟨_, fd, D, He.glo_ok X G (c.fact 18 (f := .glo "_law_body") rfl)⟩
  d__law_right := by
    obtain ⟨fd, D⟩ := c.def_ 19 (d := d__law_right) rfl
    exact ⟨_, fd, D, He.glo_ok X G (c.fact 19 (f := .glo "_law_right") rfl)⟩
  d_law := by
    obtain ⟨fd, D⟩ := c.def_ 20 (d := d_law) rfl
    exact ⟨_, fd, D, He.glo_ok X G (c.fact 20 (f := .glo "law") rfl)⟩
  c_SIGNS := He.str_ok X G (c.fact 37 (f := .str "SIGNS" " !\"#$%&'()*+,-./0123456789:;<=>?@ABCDEFGHIJKLMNOPQRSTUVWXYZ[\\]^_`abcdefghijklmnopqrstuvwxyz{|}~") rfl)
  c_FIGURES := He.str_ok X G (c.fact 38 (f := .str "FIGURES" "0123456789") rfl)
  c_MOST_BODY := He.int_ok X G (c.fact 39 (f := .int "MOST_BODY" 5000) rfl)
  c_HEAD := He.int_ok X G (c.fact 40 (f := .int "HEAD" 8) rfl)
  c_TAIL := He.int_ok X G (c.fact 41 (f := .int "TAIL" 4) rfl)
  c_MANY := He.int_ok X G (c.fact 42 (f := .int "MANY" 96) rfl)
  b_abs := He.free_ok X G (c.fact 22 (f := .free "abs") rfl)
  b_all := He.free_ok X G (c.fact 23 (f := .free "all") rfl)
  b_any := He.free_ok X G (c.fact 24 (f := .free "any") rfl)
  b_divmod := He.free_ok X G (c.fact 25 (f := .free "divmod") rfl)
  b_enumerate := He.free_ok X G (c.fact 26 (f := .free "enumerate") rfl)
  b_int := He.free_ok X G (c.fact 27 (f := .free "int") rfl)
  b_isinstance := He.free_ok X G (c.fact 28 (f := .free "isinstance") rfl)
  b_len := He.free_ok X G (c.fact 29 (f := .free "len") rfl)
  b_max := He.free_ok X G (c.fact 30 (f := .free "max") rfl)
  b_min := He.free_ok X G (c.fact 31 (f := .free "min") rfl)
  b_ord := He.free_ok X G (c.fact 32 (f := .free "ord") rfl)
  b_range := He.free_ok X G (c.fact 33 (f := .free "range") rfl)
  b_repr := He.free_ok X G (c.fact 34 (f := .free "repr") rfl)
  b_str := He.free_ok X G (c.fact 35 (f := .free "str") rfl)
  b_zip := He.free_ok X G (c.fact 36 (f := .free "zip") rfl)
end K77
open PySem PySem.W PySem.Calls PyProof.Rows
theorem PySem.Challenge.cw_platekin_k77_frames_and_bursts_holds : PySem.Challenge.rw_platekin_k77_frames_and_bursts.Holds := by
  w_on; o_law
  refine HandSHeadRun.head_any (r := OpenLaw.row PySem.Challenge.rw_platekin_k77_frames_and_bursts) (q := view (OpenLaw.row PySem.Challenge.rw_platekin_k77_frames_and_bursts).prog [32]) (H := K77.hk) (ob := K77.ob) (M := 4000) (loose := K77.loose) (d := HandSHeadRun.topDef (OpenLaw.row PySem.Challenge.rw_platekin_k77_frames_and_bursts).prog 32) (kwd := []) K77.ob_eq
    (by kernel_rfl) (fun s => by kernel_rfl) K77.run (by kernel_rfl) (by kernel_rfl) (by kernel_rfl) (by rfl) (by first | assumption | decide +kernel) (by decide +kernel) ⟨rfl, rfl, rfl, rfl, rfl, by decide +kernel⟩ ?hw ?hc
  case hw => w_witness2
  case hc =>
    refine Mv.walkG (l := PySem.Challenge.rw_platekin_k77_frames_and_bursts) (n := 63) (k := 6) (x := "script") rfl (by decide) (by kernel_rfl) ⟨rfl, by decide, by decide⟩ ?F
    intro w mg fa h Y G hmg0
    obtain ⟨K, KX, c⟩ := Y
    have hmg : mg ("law" : PySem.Str) = some (.ref fa) := by
      have e : (HandSHeadRun.topDef (OpenLaw.row PySem.Challenge.rw_platekin_k77_frames_and_bursts).prog 32).name = ("law" : PySem.Str) := by kernel_rfl
      rw [← e]
      exact hmg0
    have X := K77.fx_of KX G c
    obtain ⟨f0, fd, D, hm0⟩ := X.d_law
    have e0 := hmg.symm.trans hm0
    cases e0
    refine ⟨K, fd, K77.f_law, KX, fun s u => ?_, fun ns _ => K77.law_true ns, fun base _ _ => ?_⟩
    · have b := L2.FunD.bindsA (ps := ["script"]) D (fun _ _ _ _ _ _ us hl => match us, hl with | [_], _ => rfl) s [u] rfl
      exact b
    · obtain ⟨f1, fd1, D1, hm1, G1⟩ := K77.g_law (P := PySem.Challenge.rw_platekin_k77_frames_and_bursts.prog) (w := w) (base := base) X
      have e1 := hm0.symm.trans hm1
      cases e1
      have e2 := Mv.funD_inj D D1
      subst e2
      exact G1
