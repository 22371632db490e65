import PyProof.Rows.All
import Wide.All
import OpenK.AllK
import Wide.FinOn
import HandS.ForMost
import HandS.Exc
import HandS.ExcOwn
import HandS.CallSlots
import HandS.Walk
import HandS.HeadHook1
import HandS.Defaults
import HandS.HeadEnd
import HandS.TupAny
import HandS.TupMul
import HandS.TupLe
import HandS.IsInst
import HandS.Deep
import HandS.Small
import HandS.WideBits
import PyProof.StrOps2
import PyProof.ReprRoads
import HandS.Conv
import HandS.FStrTup
import HandS.StrSplit
import HandS.Iter
import HandS.Zip
import HandS.Style
import KE.GoesNew
import HandS.WordsExc
import HandS.Dict
import HandS.List
import KE.GoesEnum
import HandS.Replace
import HandS.ReplaceLit
import HandS.HeadHook2
import HandS.RaiseMore
import HandS.ReplaceList
import PyProof.StrLawsTight
import PyProof.StrLawsReplace
import KE.KStateDown
import Lean
import HandS.Base
import HandS.Call
import HandS.Ends
import HandS.More
import HandS.Words
import HandS.Head0
import HandS.Head1
import HandS.Head2
import PySem.Challenge.RW_platekin_k78_deeds_and_journals
set_option Elab.async false
set_option linter.all false
set_option maxRecDepth 100000
set_option maxHeartbeats 4000000
namespace Mv
open PySem PySem.Spec PyProof.Rows L2

/-! ### values as plain data -/
abbrev Tx := List Nat
abbrev PKy := Sum Int Tx
def mkS (s : Tx) : Str := ⟨s.toArray⟩
def toKey : PKy → Key
  | .inl i => .inl i
  | .inr s => .inr (mkS s)
inductive PV where
  | non | bl (b : Bool) | int (i : Int) | str (s : Tx) | tup (xs : List PV) | lst (xs : List PV) | dic (ks : List PKy) (vs : List PV) | scr (xs : List Int) | opq (v : V)
instance : Inhabited PV := ⟨.non⟩
/-- a tree that the def owns: its lists and dicts are held by nobody else -/
inductive MV where
  | fz (p : PV) | ml (xs : List MV) | md (ks : List PKy) (vs : List MV)
instance : Inhabited MV := ⟨.fz .non⟩
mutual
def MV.view : MV → PV
  | .fz p => p
  | .ml xs => .lst (MV.views xs)
  | .md ks vs => .dic ks (MV.views vs)
def MV.views : List MV → List PV
  | [] => []
  | x :: xs => MV.view x :: MV.views xs
end

/-! ### what stands for what -/
mutual
def RepF (K : PySem.W.Frag) (F : Hp) : PV → V → Prop
  | .non, v => v = .non
  | .bl b, v => v = .bl b
  | .int i, v => v = .int i
  | .str s, v => v = .str (mkS s)
  | .tup xs, v => ∃ a vs, v = .ref a ∧ SqT K F a vs ∧ RepFs K F xs vs
  | .lst xs, v => ∃ a vs, v = .ref a ∧ F a = some (.lst vs) ∧ RepFs K F xs vs
  | .dic ks xs, v => ∃ a kvs, v = .ref a ∧ F a = some (.dK kvs) ∧ kvs.map (·.1) = ks.map toKey ∧ RepFs K F xs (kvs.map (·.2))
  | .scr xs, v => ∃ a, v = .ref a ∧ SqL K F a (xs.map .int)
  | .opq v0, v => v = v0
def RepFs (K : PySem.W.Frag) (F : Hp) : List PV → List V → Prop
  | [], vs => vs = []
  | x :: xs, vs => ∃ v r, vs = v :: r ∧ RepF K F x v ∧ RepFs K F xs r
end
mutual
def RepM (K : PySem.W.Frag) (F H : Hp) : MV → V → List Addr → Prop
  | .fz p, v, f => f = [] ∧ RepF K F p v
  | .ml xs, v, f => ∃ a vs r, v = .ref a ∧ H a = some (.lst vs) ∧ f = a :: r ∧ RepMs K F H xs vs r
  | .md ks xs, v, f => ∃ a kvs r, v = .ref a ∧ H a = some (.dK kvs) ∧ kvs.map (·.1) = ks.map toKey ∧ f = a :: r ∧ RepMs K F H xs (kvs.map (·.2)) r
def RepMs (K : PySem.W.Frag) (F H : Hp) : List MV → List V → List Addr → Prop
  | [], vs, f => vs = [] ∧ f = []
  | x :: xs, vs, f => ∃ v r f1 f2, vs = v :: r ∧ f = f1 ++ f2 ∧ RepM K F H x v f1 ∧ RepMs K F H xs r f2
end

theorem same_rd {H H' : Hp} {a : Addr} {u : HO} (e : Same H H') (h : Rd H a u) : Rd H' a u := by
  rcases h with h | ⟨o, h⟩
  · exact .inl (e a _ h)
  · exact .inr ⟨o, e a _ h⟩
theorem same_l {K : PySem.W.Frag} {H H' : Hp} {a : Addr} {xs : List V} (e : Same H H') (h : SqL K H a xs) : SqL K H' a xs := e.seq h
theorem same_t {K : PySem.W.Frag} {H H' : Hp} {a : Addr} {xs : List V} (e : Same H H') (h : SqT K H a xs) : SqT K H' a xs := by
  rcases h with h | h
  · exact .inl (same_rd e h)
  · exact .inr h
mutual
theorem RepF.mono {K : PySem.W.Frag} {F F' : Hp} (e : Same F F') : ∀ (p : PV) (v : V), RepF K F p v → RepF K F' p v
  | .non, v, h => by rw [RepF] at h ⊢; exact h
  | .bl b, v, h => by rw [RepF] at h ⊢; exact h
  | .int i, v, h => by rw [RepF] at h ⊢; exact h
  | .str s, v, h => by rw [RepF] at h ⊢; exact h
  | .opq s, v, h => by rw [RepF] at h ⊢; exact h
  | .tup xs, v, h => by
    rw [RepF] at h ⊢
    obtain ⟨a, vs, e1, e2, e3⟩ := h
    exact ⟨a, vs, e1, same_t e e2, RepFs.mono e xs vs e3⟩
  | .lst xs, v, h => by
    rw [RepF] at h ⊢
    obtain ⟨a, vs, e1, e2, e3⟩ := h
    exact ⟨a, vs, e1, e a _ e2, RepFs.mono e xs vs e3⟩
  | .scr xs, v, h => by
    rw [RepF] at h ⊢
    obtain ⟨a, e1, e2⟩ := h
    exact ⟨a, e1, same_l e e2⟩
  | .dic ks xs, v, h => by
    rw [RepF] at h ⊢
    obtain ⟨a, kvs, e1, e2, e3, e4⟩ := h
    exact ⟨a, kvs, e1, e _ _ e2, e3, RepFs.mono e xs _ e4⟩
theorem RepFs.mono {K : PySem.W.Frag} {F F' : Hp} (e : Same F F') : ∀ (ps : List PV) (vs : List V), RepFs K F ps vs → RepFs K F' ps vs
  | [], vs, h => by rw [RepFs] at h ⊢; exact h
  | x :: xs, vs, h => by
    rw [RepFs] at h ⊢
    obtain ⟨v, r, e1, e2, e3⟩ := h
    exact ⟨v, r, e1, RepF.mono e x v e2, RepFs.mono e xs r e3⟩
end
mutual
theorem RepM.mono {K : PySem.W.Frag} {F F' H H' : Hp} (e : Same F F') : ∀ (m : MV) (v : V) (f : List Addr), (∀ a ∈ f, ∀ o, H a = some o → H' a = some o) → RepM K F H m v f → RepM K F' H' m v f
  | .fz p, v, f, k, h => by
    rw [RepM] at h ⊢
    exact ⟨h.1, RepF.mono e p v h.2⟩
  | .ml xs, v, f, k, h => by
    rw [RepM] at h ⊢
    obtain ⟨a, vs, r, e1, e2, e3, e4⟩ := h
    subst e3
    exact ⟨a, vs, r, e1, k a (List.mem_cons_self ..) _ e2, rfl, RepMs.mono e xs vs r (fun b hb => k b (List.mem_cons_of_mem _ hb)) e4⟩
  | .md ks xs, v, f, k, h => by
    rw [RepM] at h ⊢
    obtain ⟨a, kvs, r, e1, e2, e3, e4, e5⟩ := h
    subst e4
    exact ⟨a, kvs, r, e1, k a (List.mem_cons_self ..) _ e2, e3, rfl, RepMs.mono e xs _ r (fun b hb => k b (List.mem_cons_of_mem _ hb)) e5⟩
theorem RepMs.mono {K : PySem.W.Frag} {F F' H H' : Hp} (e : Same F F') : ∀ (ms : List MV) (vs : List V) (f : List Addr), (∀ a ∈ f, ∀ o, H a = some o → H' a = some o) → RepMs K F H ms vs f → RepMs K F' H' ms vs f
  | [], vs, f, k, h => by rw [RepMs] at h ⊢; exact h
  | x :: xs, vs, f, k, h => by
    rw [RepMs] at h ⊢
    obtain ⟨v, r, f1, f2, e1, e2, e3, e4⟩ := h
    subst e2
    exact ⟨v, r, f1, f2, e1, rfl, RepM.mono e x v f1 (fun b hb => k b (List.mem_append_left _ hb)) e3, RepMs.mono e xs r f2 (fun b hb => k b (List.mem_append_right _ hb)) e4⟩
end
theorem RepFs.length {K : PySem.W.Frag} {F : Hp} : ∀ {ps : List PV} {vs : List V}, RepFs K F ps vs → vs.length = ps.length
  | [], vs, h => by rw [RepFs] at h; rw [h]; rfl
  | x :: xs, vs, h => by
    rw [RepFs] at h
    obtain ⟨v, r, e1, e2, e3⟩ := h
    rw [e1, List.length_cons, List.length_cons, RepFs.length e3]
theorem RepFs.get {K : PySem.W.Frag} {F : Hp} : ∀ {ps : List PV} {vs : List V}, RepFs K F ps vs → ∀ {i : Nat} {p : PV}, ps[i]? = some p → ∃ v, vs[i]? = some v ∧ RepF K F p v
  | [], vs, h, i, p, hi => by simp at hi
  | x :: xs, vs, h, 0, p, hi => by
    rw [RepFs] at h
    obtain ⟨v, r, e1, e2, e3⟩ := h
    simp at hi
    subst hi e1
    exact ⟨v, rfl, e2⟩
  | x :: xs, vs, h, i + 1, p, hi => by
    rw [RepFs] at h
    obtain ⟨v, r, e1, e2, e3⟩ := h
    subst e1
    obtain ⟨w, q1, q2⟩ := RepFs.get e3 (i := i) (p := p) (by simpa using hi)
    exact ⟨w, by simpa using q1, q2⟩
theorem RepFs.append {K : PySem.W.Frag} {F : Hp} : ∀ {ps qs : List PV} {vs ws : List V}, RepFs K F ps vs → RepFs K F qs ws → RepFs K F (ps ++ qs) (vs ++ ws)
  | [], qs, vs, ws, h, h' => by rw [RepFs] at h; subst h; exact h'
  | x :: xs, qs, vs, ws, h, h' => by
    rw [RepFs] at h
    obtain ⟨v, r, e1, e2, e3⟩ := h
    subst e1
    rw [List.cons_append, List.cons_append, RepFs]
    exact ⟨v, _, rfl, e2, RepFs.append e3 h'⟩
theorem RepFs.take {K : PySem.W.Frag} {F : Hp} : ∀ {ps : List PV} {vs : List V} (n : Nat), RepFs K F ps vs → RepFs K F (ps.take n) (vs.take n)
  | ps, vs, 0, h => by rw [List.take_zero, List.take_zero, RepFs]
  | [], vs, n + 1, h => by rw [RepFs] at h; subst h; rw [List.take_nil, List.take_nil, RepFs]
  | x :: xs, vs, n + 1, h => by
    rw [RepFs] at h
    obtain ⟨v, r, e1, e2, e3⟩ := h
    subst e1
    rw [List.take_succ_cons, List.take_succ_cons, RepFs]
    exact ⟨v, _, rfl, e2, RepFs.take n e3⟩
theorem RepFs.drop {K : PySem.W.Frag} {F : Hp} : ∀ {ps : List PV} {vs : List V} (n : Nat), RepFs K F ps vs → RepFs K F (ps.drop n) (vs.drop n)
  | ps, vs, 0, h => h
  | [], vs, n + 1, h => by rw [RepFs] at h; subst h; rw [List.drop_nil, List.drop_nil, RepFs]
  | x :: xs, vs, n + 1, h => by
    rw [RepFs] at h
    obtain ⟨v, r, e1, e2, e3⟩ := h
    subst e1
    exact RepFs.drop n e3
theorem RepFs.reverse {K : PySem.W.Frag} {F : Hp} : ∀ {ps : List PV} {vs : List V}, RepFs K F ps vs → RepFs K F ps.reverse vs.reverse
  | [], vs, h => by rw [RepFs] at h; subst h; rw [List.reverse_nil, List.reverse_nil, RepFs]
  | x :: xs, vs, h => by
    rw [RepFs] at h
    obtain ⟨v, r, e1, e2, e3⟩ := h
    subst e1
    rw [List.reverse_cons, List.reverse_cons]
    exact RepFs.append (RepFs.reverse e3) (by rw [RepFs]; exact ⟨v, [], rfl, e2, by rw [RepFs]⟩)
theorem RepFs.single {K : PySem.W.Frag} {F : Hp} {p : PV} {v : V} (h : RepF K F p v) : RepFs K F [p] [v] := by
  rw [RepFs]
  exact ⟨v, [], rfl, h, by rw [RepFs]⟩
theorem RepFs.set {K : PySem.W.Frag} {F : Hp} {p : PV} {v : V} (hp : RepF K F p v) : ∀ {ps : List PV} {vs : List V} (i : Nat), RepFs K F ps vs → RepFs K F (ps.set i p) (vs.set i v)
  | [], vs, i, h => by rw [RepFs] at h; subst h; simp [RepFs]
  | x :: xs, vs, 0, h => by
    rw [RepFs] at h
    obtain ⟨w, r, e1, e2, e3⟩ := h
    subst e1
    rw [List.set_cons_zero, List.set_cons_zero, RepFs]
    exact ⟨v, r, rfl, hp, e3⟩
  | x :: xs, vs, i + 1, h => by
    rw [RepFs] at h
    obtain ⟨w, r, e1, e2, e3⟩ := h
    subst e1
    rw [List.set_cons_succ, List.set_cons_succ, RepFs]
    exact ⟨w, _, rfl, e2, RepFs.set hp i e3⟩
/-- a list of frozen leaves as a list of trees -/
theorem RepMs.fz {K : PySem.W.Frag} {F H : Hp} : ∀ {ps : List PV} {vs : List V}, RepFs K F ps vs → RepMs K F H (ps.map .fz) vs []
  | [], vs, h => by
    rw [RepFs] at h
    rw [List.map_nil, RepMs]
    exact ⟨h, rfl⟩
  | x :: xs, vs, h => by
    rw [RepFs] at h
    obtain ⟨v, r, e1, e2, e3⟩ := h
    rw [List.map_cons, RepMs]
    exact ⟨v, r, [], [], e1, rfl, by rw [RepM]; exact ⟨rfl, e2⟩, RepMs.fz e3⟩
theorem RepMs.length {K : PySem.W.Frag} {F H : Hp} : ∀ {ms : List MV} {vs : List V} {f : List Addr}, RepMs K F H ms vs f → vs.length = ms.length
  | [], vs, f, h => by rw [RepMs] at h; rw [h.1]; rfl
  | x :: xs, vs, f, h => by
    rw [RepMs] at h
    obtain ⟨v, r, f1, f2, e1, e2, e3, e4⟩ := h
    rw [e1, List.length_cons, List.length_cons, RepMs.length e4]
theorem RepMs.append {K : PySem.W.Frag} {F H : Hp} : ∀ {ms ns : List MV} {vs ws : List V} {f g : List Addr}, RepMs K F H ms vs f → RepMs K F H ns ws g → RepMs K F H (ms ++ ns) (vs ++ ws) (f ++ g)
  | [], ns, vs, ws, f, g, h, h' => by
    rw [RepMs] at h
    obtain ⟨rfl, rfl⟩ := h
    exact h'
  | x :: xs, ns, vs, ws, f, g, h, h' => by
    rw [RepMs] at h
    obtain ⟨v, r, f1, f2, e1, e2, e3, e4⟩ := h
    subst e1 e2
    rw [List.cons_append, List.cons_append, RepMs]
    exact ⟨v, r ++ ws, f1, f2 ++ g, rfl, by rw [List.append_assoc], e3, RepMs.append e4 h'⟩
/-- at a place of an owned list -/
theorem RepMs.at {K : PySem.W.Frag} {F H : Hp} : ∀ {ms : List MV} {vs : List V} {f : List Addr} {i : Nat} {m : MV}, RepMs K F H ms vs f → ms[i]? = some m →
    ∃ v f1 g f2, vs[i]? = some v ∧ f = f1 ++ g ++ f2 ∧ RepM K F H m v g ∧ ∀ (F' H' : Hp) (m' : MV) (v' : V) (g' : List Addr), Same F F' → (∀ a ∈ f1 ++ f2, ∀ o, H a = some o → H' a = some o) → RepM K F' H' m' v' g' → RepMs K F' H' (ms.set i m') (vs.set i v') (f1 ++ g' ++ f2)
  | [], vs, f, i, m, h, hi => by simp at hi
  | x :: xs, vs, f, 0, m, h, hi => by
    rw [RepMs] at h
    obtain ⟨v, r, f1, f2, e1, e2, e3, e4⟩ := h
    simp at hi
    subst hi e1 e2
    refine ⟨v, [], f1, f2, rfl, by simp, e3, fun F' H' m' v' g' e k hm => ?_⟩
    rw [List.set_cons_zero, List.set_cons_zero, RepMs]
    exact ⟨v', r, g', f2, rfl, by simp, hm, RepMs.mono e xs r f2 (fun a ha => k a (by simpa using ha)) e4⟩
  | x :: xs, vs, f, i + 1, m, h, hi => by
    rw [RepMs] at h
    obtain ⟨v, r, f1, f2, e1, e2, e3, e4⟩ := h
    subst e1 e2
    obtain ⟨w, g1, g, g2, q1, q2, q3, q4⟩ := RepMs.at e4 (i := i) (m := m) (by simpa using hi)
    subst q2
    refine ⟨w, f1 ++ g1, g, g2, by simpa using q1, by simp, q3, fun F' H' m' v' g' e k hm => ?_⟩
    rw [List.set_cons_succ, List.set_cons_succ, RepMs]
    refine ⟨v, r.set i v', f1, g1 ++ g' ++ g2, rfl, by simp, RepM.mono e x v f1 (fun a ha => k a (by simp [ha])) e3, q4 F' H' m' v' g' e (fun a ha => k a ?_) hm⟩
    rcases List.mem_append.mp ha with z | z <;> simp [z]

/-! ### freezing -/
/-- F with what H holds at f -/
def frz (F H : Hp) (f : List Addr) : Hp := fun b => if b ∈ f then H b else F b
theorem frz_nil (F H : Hp) : frz F H [] = F := by
  funext b
  unfold frz
  rw [if_neg (by simp)]
theorem frz_in {F H : Hp} {f : List Addr} {b : Addr} (h : b ∈ f) : frz F H f b = H b := if_pos h
theorem frz_out {F H : Hp} {f : List Addr} {b : Addr} (h : b ∉ f) : frz F H f b = F b := if_neg h
theorem frz_same {F H : Hp} {f : List Addr} (h : ∀ a ∈ f, F a = none) : Same F (frz F H f) := fun b o e => by
  rw [frz_out fun hb => by rw [h b hb] at e; cases e]
  exact e
theorem frz_sub {F H : Hp} {f : List Addr} (h : Same F H) : Same (frz F H f) H := fun b o e => by
  by_cases hb : b ∈ f
  · rw [frz_in hb] at e
    exact e
  · rw [frz_out hb] at e
    exact h b o e
theorem frz_le {F H : Hp} {f g : List Addr} (h : ∀ a ∈ g, F a = none) (s : ∀ a ∈ f, a ∈ g) : Same (frz F H f) (frz F H g) := fun b o e => by
  by_cases hb : b ∈ f
  · rw [frz_in hb] at e
    rw [frz_in (s b hb)]
    exact e
  · rw [frz_out hb] at e
    by_cases hg : b ∈ g
    · rw [h b hg] at e
      cases e
    · rw [frz_out hg]
      exact e
mutual
theorem RepM.freeze {K : PySem.W.Frag} {F H : Hp} : ∀ (m : MV) (v : V) (f : List Addr), (∀ a ∈ f, F a = none) → RepM K F H m v f → RepF K (frz F H f) m.view v
  | .fz p, v, f, hn, h => by
    rw [RepM] at h
    rw [MV.view, h.1, frz_nil]
    exact h.2
  | .ml xs, v, f, hn, h => by
    rw [RepM] at h
    obtain ⟨a, vs, r, e1, e2, e3, e4⟩ := h
    subst e3
    rw [MV.view, RepF]
    refine ⟨a, vs, e1, ?_, RepFs.mono (frz_le hn fun b hb => List.mem_cons_of_mem _ hb) _ _ (RepMs.freeze xs vs r (fun b hb => hn b (List.mem_cons_of_mem _ hb)) e4)⟩
    rw [frz_in (List.mem_cons_self ..)]
    exact e2
  | .md ks xs, v, f, hn, h => by
    rw [RepM] at h
    obtain ⟨a, kvs, r, e1, e2, e3, e4, e5⟩ := h
    subst e4
    rw [MV.view, RepF]
    refine ⟨a, kvs, e1, ?_, e3, RepFs.mono (frz_le hn fun b hb => List.mem_cons_of_mem _ hb) _ _ (RepMs.freeze xs _ r (fun b hb => hn b (List.mem_cons_of_mem _ hb)) e5)⟩
    rw [frz_in (List.mem_cons_self ..)]
    exact e2
theorem RepMs.freeze {K : PySem.W.Frag} {F H : Hp} : ∀ (ms : List MV) (vs : List V) (f : List Addr), (∀ a ∈ f, F a = none) → RepMs K F H ms vs f → RepFs K (frz F H f) (MV.views ms) vs
  | [], vs, f, hn, h => by
    rw [RepMs] at h
    rw [MV.views, RepFs]
    exact h.1
  | x :: xs, vs, f, hn, h => by
    rw [RepMs] at h
    obtain ⟨v, r, f1, f2, e1, e2, e3, e4⟩ := h
    subst e2
    rw [MV.views, RepFs]
    refine ⟨v, r, e1, RepF.mono (frz_le hn fun b hb => List.mem_append_left _ hb) _ _ (RepM.freeze x v f1 (fun b hb => hn b (List.mem_append_left _ hb)) e3), RepFs.mono (frz_le hn fun b hb => List.mem_append_right _ hb) _ _ (RepMs.freeze xs r f2 (fun b hb => hn b (List.mem_append_right _ hb)) e4)⟩
end
/-- a tree seen in the whole heap -/
theorem RepM.viewed {K : PySem.W.Frag} {F H : Hp} {m : MV} {v : V} {f : List Addr} (hs : Same F H) (hn : ∀ a ∈ f, F a = none) (h : RepM K F H m v f) : RepF K H m.view v :=
  RepF.mono (frz_sub hs) _ _ (RepM.freeze m v f hn h)
theorem MV.views_fz : ∀ ps : List PV, MV.views (ps.map .fz) = ps
  | [] => by rw [List.map_nil, MV.views]
  | p :: ps => by rw [List.map_cons, MV.views, MV.view, MV.views_fz ps]

/-! ### the slots -/
abbrev Env := List (Option MV)
def Slots (K : PySem.W.Frag) (F H : Hp) : Env → L2.St → List Addr → Prop
  | [], σ, A => σ = [] ∧ A = []
  | none :: ρ, σ, A => ∃ o r, σ = o :: r ∧ Slots K F H ρ r A
  | some m :: ρ, σ, A => ∃ v r f g, σ = some v :: r ∧ A = f ++ g ∧ RepM K F H m v f ∧ Slots K F H ρ r g
theorem Slots.length {K : PySem.W.Frag} {F H : Hp} : ∀ {ρ : Env} {σ : L2.St} {A : List Addr}, Slots K F H ρ σ A → σ.length = ρ.length
  | [], σ, A, h => by rw [h.1]; rfl
  | none :: ρ, σ, A, h => by
    obtain ⟨o, r, e, h⟩ := h
    rw [e, List.length_cons, List.length_cons, Slots.length h]
  | some m :: ρ, σ, A, h => by
    obtain ⟨v, r, f, g, e, e2, e3, h⟩ := h
    rw [e, List.length_cons, List.length_cons, Slots.length h]
theorem Slots.mono {K : PySem.W.Frag} {F F' H H' : Hp} (e : Same F F') : ∀ {ρ : Env} {σ : L2.St} {A : List Addr}, (∀ a ∈ A, ∀ o, H a = some o → H' a = some o) → Slots K F H ρ σ A → Slots K F' H' ρ σ A
  | [], σ, A, k, h => h
  | none :: ρ, σ, A, k, h => by
    obtain ⟨o, r, e1, h⟩ := h
    exact ⟨o, r, e1, Slots.mono e k h⟩
  | some m :: ρ, σ, A, k, h => by
    obtain ⟨v, r, f, g, e1, e2, e3, h⟩ := h
    subst e2
    exact ⟨v, r, f, g, e1, rfl, RepM.mono e m v f (fun a ha => k a (List.mem_append_left _ ha)) e3, Slots.mono e (fun a ha => k a (List.mem_append_right _ ha)) h⟩
/-- a slot taken out, and what may be put there -/
theorem Slots.take {K : PySem.W.Frag} {F H : Hp} : ∀ {ρ : Env} {σ : L2.St} {A : List Addr} {i : Nat} {m : MV}, Slots K F H ρ σ A → ρ[i]? = some (some m) →
    ∃ v f A', σ[i]? = some (some v) ∧ RepM K F H m v f ∧ A.Perm (f ++ A') ∧ Slots K F H (ρ.set i none) σ A'
  | [], σ, A, i, m, h, hi => by simp at hi
  | none :: ρ, σ, A, 0, m, h, hi => by simp at hi
  | some m0 :: ρ, σ, A, 0, m, h, hi => by
    obtain ⟨v, r, f, g, e1, e2, e3, h⟩ := h
    simp at hi
    subst hi e1 e2
    exact ⟨v, f, g, rfl, e3, .refl _, _, r, rfl, h⟩
  | none :: ρ, σ, A, i + 1, m, h, hi => by
    obtain ⟨o, r, e1, h⟩ := h
    subst e1
    obtain ⟨v, f, A', q1, q2, q3, q4⟩ := Slots.take h (i := i) (m := m) (by simpa using hi)
    exact ⟨v, f, A', by simpa using q1, q2, q3, o, r, rfl, q4⟩
  | some m0 :: ρ, σ, A, i + 1, m, h, hi => by
    obtain ⟨v0, r, f0, g, e1, e2, e3, h⟩ := h
    subst e1 e2
    obtain ⟨v, f, A', q1, q2, q3, q4⟩ := Slots.take h (i := i) (m := m) (by simpa using hi)
    refine ⟨v, f, f0 ++ A', by simpa using q1, q2, ?_, v0, r, f0, A', rfl, rfl, e3, q4⟩
    refine ((List.Perm.append_left f0 q3).trans ?_)
    rw [← List.append_assoc, ← List.append_assoc]
    exact List.Perm.append_right A' List.perm_append_comm
theorem Slots.put {K : PySem.W.Frag} {F H : Hp} {m : MV} {v : V} {f : List Addr} (hm : RepM K F H m v f) : ∀ {ρ : Env} {σ : L2.St} {A : List Addr} {i : Nat}, Slots K F H ρ σ A → ρ[i]? = some none →
    ∃ A', A'.Perm (f ++ A) ∧ Slots K F H (ρ.set i (some m)) (σ.set i (some v)) A'
  | [], σ, A, i, h, hi => by simp at hi
  | none :: ρ, σ, A, 0, h, hi => by
    obtain ⟨o, r, e1, h⟩ := h
    subst e1
    exact ⟨f ++ A, .refl _, v, r, f, A, rfl, rfl, hm, h⟩
  | some m0 :: ρ, σ, A, 0, h, hi => by simp at hi
  | none :: ρ, σ, A, i + 1, h, hi => by
    obtain ⟨o, r, e1, h⟩ := h
    subst e1
    obtain ⟨A', q1, q2⟩ := Slots.put hm h (i := i) (by simpa using hi)
    exact ⟨A', q1, o, _, rfl, q2⟩
  | some m0 :: ρ, σ, A, i + 1, h, hi => by
    obtain ⟨v0, r, f0, g, e1, e2, e3, h⟩ := h
    subst e1 e2
    obtain ⟨A', q1, q2⟩ := Slots.put hm h (i := i) (by simpa using hi)
    refine ⟨f0 ++ A', ?_, v0, _, f0, A', rfl, rfl, e3, q2⟩
    refine (List.Perm.append_left f0 q1).trans ?_
    rw [← List.append_assoc, ← List.append_assoc]
    exact List.Perm.append_right g List.perm_append_comm
/-- a slot forgotten -/
theorem Slots.drop {K : PySem.W.Frag} {F H : Hp} : ∀ {ρ : Env} {σ : L2.St} {A : List Addr} (i : Nat) (o : Option V), Slots K F H ρ σ A → ∃ A', A'.Sublist A ∧ Slots K F H (ρ.set i none) (σ.set i o) A'
  | [], σ, A, i, o, h => by
    obtain ⟨rfl, rfl⟩ := h
    exact ⟨[], .refl _, by simp [Slots]⟩
  | none :: ρ, σ, A, 0, o, h => by
    obtain ⟨o', r, e1, h⟩ := h
    subst e1
    exact ⟨A, .refl _, o, r, rfl, h⟩
  | some m0 :: ρ, σ, A, 0, o, h => by
    obtain ⟨v0, r, f0, g, e1, e2, e3, h⟩ := h
    subst e1 e2
    exact ⟨g, List.sublist_append_right _ _, o, r, rfl, h⟩
  | none :: ρ, σ, A, i + 1, o, h => by
    obtain ⟨o', r, e1, h⟩ := h
    subst e1
    obtain ⟨A', q1, q2⟩ := Slots.drop i o h
    exact ⟨A', q1, o', _, rfl, q2⟩
  | some m0 :: ρ, σ, A, i + 1, o, h => by
    obtain ⟨v0, r, f0, g, e1, e2, e3, h⟩ := h
    subst e1 e2
    obtain ⟨A', q1, q2⟩ := Slots.drop i o h
    exact ⟨f0 ++ A', List.Sublist.append_left q1 f0, v0, _, f0, A', rfl, rfl, e3, q2⟩

structure StOk (K : PySem.W.Frag) (ρ : Env) (σ : L2.St) (F H : Hp) (A : List Addr) : Prop where
  sub : Same F H
  nod : A.Nodup
  out : ∀ a ∈ A, F a = none
  sl : ∃ B, A.Perm B ∧ Slots K F H ρ σ B
structure Go (F H : Hp) (A : List Addr) (F' H' : Hp) (A' : List Addr) : Prop where
  f : Same F F'
  k : ∀ b o, H b = some o → b ∉ A → H' b = some o
  n : ∀ b, F b = none → F' b ≠ none → H b = none ∨ b ∈ A
  o : ∀ b ∈ A', H b = none ∨ b ∈ A
theorem Go.refl (F H : Hp) (A : List Addr) : Go F H A F H A := ⟨Same.refl F, fun _ _ e _ => e, fun _ e q => absurd e q, fun _ h => .inr h⟩
theorem Go.trans {F H F1 H1 F2 H2 : Hp} {A A1 A2 : List Addr} (a : Go F H A F1 H1 A1) (b : Go F1 H1 A1 F2 H2 A2) : Go F H A F2 H2 A2 := by
  have back : ∀ x, (H1 x = none ∨ x ∈ A1) → (H x = none ∨ x ∈ A) := fun x hx => by
    rcases hx with hx | hx
    · by_cases hA : x ∈ A
      · exact .inr hA
      · cases e : H x with
        | none => exact .inl rfl
        | some o =>
          rw [a.k x o e hA] at hx
          cases hx
    · exact a.o x hx
  refine ⟨a.f.trans b.f, fun x o e hx => b.k x o (a.k x o e hx) fun h1 => ?_, fun x e q => ?_, fun x hx => back x (b.o x hx)⟩
  · rcases a.o x h1 with z | z
    · rw [e] at z; cases z
    · exact hx z
  · by_cases h1 : F1 x = none
    · exact back x (b.n x h1 q)
    · exact a.n x e h1
theorem Go.weak {F H F1 H1 : Hp} {A A1 A2 : List Addr} (a : Go F H A F1 H1 A1) (s : ∀ x ∈ A2, x ∈ A1) : Go F H A F1 H1 A2 := ⟨a.f, a.k, a.n, fun b hb => a.o b (s b hb)⟩
theorem StOk.len {K : PySem.W.Frag} {ρ : Env} {σ : L2.St} {F H : Hp} {A : List Addr} (s : StOk K ρ σ F H A) : σ.length = ρ.length := by
  obtain ⟨B, _, h⟩ := s.sl
  exact h.length
theorem StOk.perm {K : PySem.W.Frag} {ρ : Env} {σ : L2.St} {F H : Hp} {A A' : List Addr} (s : StOk K ρ σ F H A) (p : A'.Perm A) : StOk K ρ σ F H A' := by
  obtain ⟨B, q, h⟩ := s.sl
  exact ⟨s.sub, p.nodup_iff.mpr s.nod, fun a ha => s.out a (p.mem_iff.mp ha), B, p.trans q, h⟩
/-- an owned address stands in the heap -/
theorem RepM.there {K : PySem.W.Frag} {F H : Hp} {m : MV} {v : V} {f : List Addr} (h : RepM K F H m v f) : ∀ a ∈ f, H a ≠ none := by
  have go : (∀ (m : MV) (v : V) (f : List Addr), RepM K F H m v f → ∀ a ∈ f, H a ≠ none) ∧ (∀ (ms : List MV) (vs : List V) (f : List Addr), RepMs K F H ms vs f → ∀ a ∈ f, H a ≠ none) := by
    refine ⟨MV.rec (motive_1 := fun m => ∀ (v : V) (f : List Addr), RepM K F H m v f → ∀ a ∈ f, H a ≠ none) (motive_2 := fun ms => ∀ (vs : List V) (f : List Addr), RepMs K F H ms vs f → ∀ a ∈ f, H a ≠ none) ?_ ?_ ?_ ?_ ?_,
      fun ms => MV.rec_1 (motive_1 := fun m => ∀ (v : V) (f : List Addr), RepM K F H m v f → ∀ a ∈ f, H a ≠ none) (motive_2 := fun ms => ∀ (vs : List V) (f : List Addr), RepMs K F H ms vs f → ∀ a ∈ f, H a ≠ none) ?_ ?_ ?_ ?_ ?_ ms⟩
    all_goals first
      | (intro p v f h a ha
         rw [RepM] at h
         rw [h.1] at ha
         cases ha)
      | (intro xs ih v f h a ha
         rw [RepM] at h
         obtain ⟨b, vs, r, e1, e2, e3, e4⟩ := h
         subst e3
         rcases List.mem_cons.mp ha with z | z
         · rw [z, e2]; simp
         · exact ih vs r e4 a z)
      | (intro ks xs ih v f h a ha
         rw [RepM] at h
         obtain ⟨b, vs, r, e1, e2, e3, e4, e5⟩ := h
         subst e4
         rcases List.mem_cons.mp ha with z | z
         · rw [z, e2]; simp
         · exact ih _ r e5 a z)
      | (intro vs f h a ha
         rw [RepMs] at h
         rw [h.2] at ha
         cases ha)
      | (intro x xs ih1 ih2 vs f h a ha
         rw [RepMs] at h
         obtain ⟨v, r, f1, f2, e1, e2, e3, e4⟩ := h
         subst e2
         rcases List.mem_append.mp ha with z | z
         · exact ih1 v f1 e3 a z
         · exact ih2 r f2 e4 a z)
  exact go.1 m v f h
theorem Slots.there {K : PySem.W.Frag} {F H : Hp} : ∀ {ρ : Env} {σ : L2.St} {A : List Addr}, Slots K F H ρ σ A → ∀ a ∈ A, H a ≠ none
  | [], σ, A, h, a, ha => by rw [h.2] at ha; cases ha
  | none :: ρ, σ, A, h, a, ha => by
    obtain ⟨o, r, e1, h⟩ := h
    exact Slots.there h a ha
  | some m :: ρ, σ, A, h, a, ha => by
    obtain ⟨v, r, f, g, e1, e2, e3, h⟩ := h
    subst e2
    rcases List.mem_append.mp ha with z | z
    · exact e3.there a z
    · exact Slots.there h a z
theorem StOk.there {K : PySem.W.Frag} {ρ : Env} {σ : L2.St} {F H : Hp} {A : List Addr} (s : StOk K ρ σ F H A) : ∀ a ∈ A, H a ≠ none := fun a ha => by
  obtain ⟨B, q, h⟩ := s.sl
  exact h.there a (q.mem_iff.mp ha)
/-- the heap and the frozen part grow, the owned part stays -/
theorem StOk.grow {K : PySem.W.Frag} {ρ : Env} {σ : L2.St} {F H F' H' : Hp} {A : List Addr} (s : StOk K ρ σ F H A) (e : Same F F') (e' : Same F' H') (k : ∀ a ∈ A, ∀ o, H a = some o → H' a = some o) (n : ∀ a ∈ A, F' a = none) : StOk K ρ σ F' H' A := by
  obtain ⟨B, q, h⟩ := s.sl
  exact ⟨e', s.nod, n, B, q, h.mono e fun a ha => k a (q.mem_iff.mpr ha)⟩
theorem StOk.take {K : PySem.W.Frag} {ρ : Env} {σ : L2.St} {F H : Hp} {A : List Addr} {i : Nat} {m : MV} (s : StOk K ρ σ F H A) (hi : ρ[i]? = some (some m)) :
    ∃ v f A', σ[i]? = some (some v) ∧ RepM K F H m v f ∧ A.Perm (f ++ A') ∧ StOk K (ρ.set i none) σ F H A' := by
  obtain ⟨B, q, h⟩ := s.sl
  obtain ⟨v, f, A', q1, q2, q3, q4⟩ := h.take hi
  have p := q.trans q3
  have nd := p.nodup_iff.mp s.nod
  exact ⟨v, f, A', q1, q2, p, s.sub, (List.nodup_append.mp nd).2.1, fun a ha => s.out a (p.mem_iff.mpr (List.mem_append_right _ ha)), A', .refl _, q4⟩
theorem StOk.put {K : PySem.W.Frag} {ρ : Env} {σ : L2.St} {F H : Hp} {A f : List Addr} {i : Nat} {m : MV} {v : V} (s : StOk K ρ σ F H A) (hi : ρ[i]? = some none) (hm : RepM K F H m v f) (nd : (f ++ A).Nodup) (hn : ∀ a ∈ f, F a = none) :
    StOk K (ρ.set i (some m)) (σ.set i (some v)) F H (f ++ A) := by
  obtain ⟨B, q, h⟩ := s.sl
  obtain ⟨A', q1, q2⟩ := h.put hm hi
  refine ⟨s.sub, nd, fun a ha => ?_, A', (List.Perm.append_left f q).trans q1.symm, q2⟩
  rcases List.mem_append.mp ha with z | z
  · exact hn a z
  · exact s.out a z
theorem StOk.drop {K : PySem.W.Frag} {ρ : Env} {σ : L2.St} {F H : Hp} {A : List Addr} (s : StOk K ρ σ F H A) (i : Nat) (o : Option V) : ∃ A', A'.Nodup ∧ (∀ a ∈ A', a ∈ A) ∧ StOk K (ρ.set i none) (σ.set i o) F H A' := by
  obtain ⟨B, q, h⟩ := s.sl
  obtain ⟨A', q1, q2⟩ := h.drop i o
  have nd : A'.Nodup := q1.nodup (q.nodup_iff.mp s.nod)
  have mm : ∀ a ∈ A', a ∈ A := fun a ha => q.mem_iff.mpr (q1.subset ha)
  exact ⟨A', nd, mm, s.sub, nd, fun a ha => s.out a (mm a ha), A', .refl _, q2⟩
/-- a slot stored: what stood there is dropped -/
theorem StOk.store {K : PySem.W.Frag} {ρ : Env} {σ : L2.St} {F H : Hp} {A f : List Addr} {i : Nat} {m : MV} {v : V} (s : StOk K ρ σ F H A) (hm : RepM K F H m v f) (nd : (f ++ A).Nodup) (hn : ∀ a ∈ f, F a = none) (hi : i < ρ.length) :
    ∃ A', (∀ a ∈ A', a ∈ f ++ A) ∧ StOk K (ρ.set i (some m)) (σ.set i (some v)) F H A' := by
  obtain ⟨A1, nd1, mm, s1⟩ := s.drop i none
  have s2 := s1.put (i := i) (by rw [List.getElem?_set_self hi]) hm (by
    rw [List.nodup_append] at nd ⊢
    exact ⟨nd.1, nd1, fun a ha b hb => nd.2.2 a ha b (mm b hb)⟩) hn
  rw [List.set_set, List.set_set] at s2
  exact ⟨f ++ A1, fun a ha => by
    rcases List.mem_append.mp ha with z | z
    · exact List.mem_append_left _ z
    · exact List.mem_append_right _ (mm a z), s2⟩
end Mv

set_option Elab.async false
set_option linter.all false
set_option maxRecDepth 100000
set_option maxHeartbeats 4000000
namespace Mv
open PySem PySem.Spec PyProof.Rows L2

/-! ### outcomes -/
/-- an exception: its class by name, its fields -/
structure PX where
  c : Str
  fs : List (Str × PV)
inductive R (α : Type) where
  | ok (a : α) (ρ : Env) | exc (x : PX) (ρ : Env) | bad
abbrev SE (α : Type) := Env → R α
def SE.bind {α β : Type} (s : SE α) (k : α → SE β) : SE β := fun ρ => match s ρ with
  | .ok a ρ' => k a ρ'
  | .exc x ρ' => .exc x ρ'
  | .bad => .bad
def SE.ret {α : Type} (a : α) : SE α := fun ρ => .ok a ρ
def ofO {α : Type} (o : Option α) : SE α := fun ρ => match o with
  | some a => .ok a ρ
  | none => .bad
def RepX (K : PySem.W.Frag) (F H : Hp) (x : PX) (cls : Value) (d : Option Addr) : Prop :=
  cls = .ref (He.ga K x.c) ∧ ∃ dx vs, d = some dx ∧ H dx = some (.xd vs) ∧ vs.map (·.1) = x.fs.map (·.1) ∧ RepFs K F (x.fs.map (·.2)) (vs.map (·.2))

/-! ### expressions -/
abbrev Rep (α β : Type) := Hp → Hp → α → β → List Addr → Prop
def Ev {α β : Type} (K : PySem.W.Frag) (B : Hp) (rep : Rep α β) (W : WX) (te : L2.St → Hp → (β → Hp → Prop) → Prop) (s : SE α) : Prop :=
  ∀ ρ σ F H A, Same B F → StOk K ρ σ F H A → ∀ Q : β → Hp → Prop, s ρ ≠ .bad →
    (∀ a ρ', s ρ = .ok a ρ' → ∀ b F' H' A' f, StOk K ρ' σ F' H' A' → rep F' H' a b f → (f ++ A').Nodup → (∀ x ∈ f, F' x = none) → Go F H A F' H' (f ++ A') → Q b H') →
    (∀ x ρ', s ρ = .exc x ρ' → ∀ cls d F' H' A', StOk K ρ' σ F' H' A' → Go F H A F' H' A' → RepX K F' H' x cls d → W cls d σ H') →
    te σ H Q
/-- what leans on the frozen part alone -/
def fr {α β : Type} (z : Hp → α → β → Prop) : Rep α β := fun F _ a b f => f = [] ∧ z F a b
def zB : Hp → Bool → Bool → Prop := fun _ a b => b = a
def zO : Hp → Option Int → Option Int → Prop := fun _ a b => b = a
section
variable {α β α' β' : Type} {K : PySem.W.Frag} {B : Hp} {W : WX} {s : SE α} {te : L2.St → Hp → (β → Hp → Prop) → Prop}
theorem Ev.le {B' : Hp} {rep : Rep α β} (h : Ev K B rep W te s) (e : Same B B') : Ev K B' rep W te s := fun ρ σ F H A sB => h ρ σ F H A (e.trans sB)
theorem Ev.bind {z : Hp → α → β → Prop} {rep : Rep α' β'} {k : α → SE α'} {tk : β → L2.St → Hp → (β' → Hp → Prop) → Prop} (h : Ev K B (fr z) W te s)
    (hk : ∀ a b B', Same B B' → z B' a b → Ev K B' rep W (tk b) (k a)) : Ev K B rep W (fun σ H Q => te σ H fun b H1 => tk b σ H1 Q) (s.bind k) := by
  intro ρ σ F H A sB st Q nb hok hex
  have eb : s.bind k ρ = match s ρ with
    | .ok a ρ' => k a ρ'
    | .exc x ρ' => .exc x ρ'
    | .bad => .bad := rfl
  refine h ρ σ F H A sB st _ (fun e => ?_) (fun a ρ' e b F' H' A' f st' hr nd hn go => ?_) (fun x ρ' e cls d F' H' A' st' go hx => ?_)
  · rw [e] at eb
    exact nb eb
  · rw [e] at eb
    obtain ⟨rfl, hz⟩ := hr
    refine hk a b F' (sB.trans go.f) hz ρ' σ F' H' A' (Same.refl _) st' Q (fun e2 => nb (eb.trans e2)) (fun a2 ρ2 e2 b2 F2 H2 A2 f2 st2 hr2 nd2 hn2 go2 => ?_) (fun x ρ2 e2 cls d F2 H2 A2 st2 go2 hx => ?_)
    · exact hok a2 ρ2 (eb.trans e2) b2 F2 H2 A2 f2 st2 hr2 nd2 hn2 (Go.trans go go2)
    · exact hex x ρ2 (eb.trans e2) cls d F2 H2 A2 st2 (Go.trans go go2) hx
  · rw [e] at eb
    exact hex x ρ' eb cls d F' H' A' st' go hx
theorem Ev.done {z : Hp → α → β → Prop} {a : α} {b : β} (h : z B a b) (mono : ∀ F F', Same F F' → z F a b → z F' a b) : Ev K B (fr z) W (fun _ H Q => Q b H) (SE.ret a) := by
  intro ρ σ F H A sB st Q nb hok hex
  exact hok a ρ rfl b F H A [] st ⟨rfl, mono _ _ sB h⟩ (by simpa using st.nod) (by simp) (by simpa using Go.refl F H A)
theorem Ev.doneF {p : PV} {v : V} (h : RepF K B p v) : Ev K B (fr (RepF K)) W (fun _ H Q => Q v H) (SE.ret p) := Ev.done h fun _ _ e => RepF.mono e p v
theorem Ev.ofO {rep : Rep α β} {o : Option α} (h : ∀ a, o = some a → Ev K B rep W te (SE.ret a)) : Ev K B rep W te (Mv.ofO o) := by
  cases o with
  | none => exact fun ρ σ F H A sB st Q nb => absurd rfl nb
  | some a => exact h a rfl
/-- a stronger reading -/
theorem Ev.imp {rep : Rep α β} {te' : L2.St → Hp → (β → Hp → Prop) → Prop} (h : Ev K B rep W te s) (i : ∀ σ H Q, te σ H Q → te' σ H Q) : Ev K B rep W te' s := fun ρ σ F H A sB st Q nb hok hex => i _ _ _ (h ρ σ F H A sB st Q nb hok hex)
/-- a new object that nobody owns -/
theorem Ev.newF {p : PV} {o : HO} (h : ∀ a F', Same B F' → F' a = some o → RepF K F' p (.ref a)) : Ev K B (fr (RepF K)) W (fun _ H Q => ∀ a, H a = none → Q (.ref a) (upd H a o)) (SE.ret p) := by
  intro ρ σ F H A sB st Q nb hok hex a ha
  have hFa : F a = none := by
    cases e : F a with
    | none => rfl
    | some u => rw [st.sub _ _ e] at ha; cases ha
  have sF : Same F (upd F a o) := fun b u e => by rw [upd_ne (ne_of_none e hFa)]; exact e
  have nA : ∀ b ∈ A, b ≠ a := fun b hb z => st.there b hb (z ▸ ha)
  refine hok p ρ rfl (.ref a) (upd F a o) (upd H a o) A [] (st.grow sF (fun b u e => ?_) (fun b hb u e => ?_) (fun b hb => ?_)) ⟨rfl, h a _ (sB.trans sF) upd_same⟩ (by simpa using st.nod) (by simp) ⟨sF, fun b u e _ => ?_, fun b e q => ?_, fun b hb => .inr (by simpa using hb)⟩
  · by_cases hb : b = a
    · subst hb; rw [upd_same] at e ⊢; exact e
    · rw [upd_ne hb] at e ⊢; exact st.sub _ _ e
  · rw [upd_ne (nA b hb)]; exact e
  · rw [upd_ne (nA b hb)]; exact st.out b hb
  · rw [upd_ne (ne_of_none e ha)]; exact e
  · by_cases hb : b = a
    · subst hb; exact .inl ha
    · rw [upd_ne hb] at q; exact absurd e q
/-- a new object that the def owns -/
theorem Ev.newM {m : MV} {o : HO} (h : ∀ a F' H', Same B F' → H' a = some o → RepM K F' H' m (.ref a) [a]) : Ev K B (RepM K) W (fun _ H Q => ∀ a, H a = none → Q (.ref a) (upd H a o)) (SE.ret m) := by
  intro ρ σ F H A sB st Q nb hok hex a ha
  have hFa : F a = none := by
    cases e : F a with
    | none => rfl
    | some u => rw [st.sub _ _ e] at ha; cases ha
  have nA : ∀ b ∈ A, b ≠ a := fun b hb z => st.there b hb (z ▸ ha)
  refine hok m ρ rfl (.ref a) F (upd H a o) A [a] (st.grow (Same.refl F) (fun b u e => ?_) (fun b hb u e => ?_) (fun b hb => st.out b hb)) (h a F _ sB upd_same) ?_ (fun x hx => ?_) ⟨Same.refl F, fun b u e _ => ?_, fun b e q => absurd e q, fun b hb => ?_⟩
  · rw [upd_ne (ne_of_none e hFa)]; exact st.sub _ _ e
  · rw [upd_ne (nA b hb)]; exact e
  · rw [List.singleton_append, List.nodup_cons]
    exact ⟨fun hm => nA a hm rfl, st.nod⟩
  · rw [List.mem_singleton.mp hx]; exact hFa
  · rw [upd_ne (ne_of_none e ha)]; exact e
  · rcases List.mem_append.mp hb with z | z
    · rw [List.mem_singleton.mp z]; exact .inl ha
    · exact .inr z
/-- what is owned is given away -/
def vw (s : SE MV) : SE PV := s.bind fun m => SE.ret m.view
theorem Ev.vw {te : TE} {s : SE MV} (h : Ev K B (RepM K) W te s) : Ev K B (fr (RepF K)) W te (Mv.vw s) := by
  intro ρ σ F H A sB st Q nb hok hex
  have eb : Mv.vw s ρ = match s ρ with
    | .ok a ρ' => .ok a.view ρ'
    | .exc x ρ' => .exc x ρ'
    | .bad => .bad := by
    unfold Mv.vw SE.bind
    cases s ρ <;> rfl
  refine h ρ σ F H A sB st Q (fun e => ?_) (fun m ρ' e v F' H' A' f st' hr nd hn go => ?_) (fun x ρ' e cls d F' H' A' st' go hx => ?_)
  · rw [e] at eb; exact nb eb
  · rw [e] at eb
    have hdis := (List.nodup_append.mp nd).2.2
    have nf : ∀ b ∈ A', b ∉ f := fun b hb hf => hdis b hf b hb rfl
    refine hok m.view ρ' eb v (frz F' H' f) H' A' [] (st'.grow (frz_same hn) (frz_sub st'.sub) (fun _ _ _ e => e) (fun b hb => by rw [frz_out (nf b hb)]; exact st'.out b hb)) ⟨rfl, RepM.freeze m v f hn hr⟩ (by simpa using st'.nod) (by simp) ⟨go.f.trans (frz_same hn), go.k, fun b e2 q => ?_, fun b hb => go.o b (List.mem_append_right _ (by simpa using hb))⟩
    by_cases hb : b ∈ f
    · exact go.o b (List.mem_append_left _ hb)
    · rw [frz_out hb] at q
      exact go.n b e2 q
  · rw [e] at eb
    exact hex x ρ' eb cls d F' H' A' st' go hx
def mv (s : SE PV) : SE MV := s.bind fun p => SE.ret (.fz p)
theorem Ev.mv {te : TE} {s : SE PV} (h : Ev K B (fr (RepF K)) W te s) : Ev K B (RepM K) W te (Mv.mv s) := by
  intro ρ σ F H A sB st Q nb hok hex
  have eb : Mv.mv s ρ = match s ρ with
    | .ok a ρ' => .ok (.fz a) ρ'
    | .exc x ρ' => .exc x ρ'
    | .bad => .bad := by
    unfold Mv.mv SE.bind
    cases s ρ <;> rfl
  refine h ρ σ F H A sB st Q (fun e => ?_) (fun m ρ' e v F' H' A' f st' hr nd hn go => ?_) (fun x ρ' e cls d F' H' A' st' go hx => ?_)
  · rw [e] at eb; exact nb eb
  · rw [e] at eb
    exact hok (.fz m) ρ' eb v F' H' A' f st' (by rw [RepM]; exact hr) nd hn go
  · rw [e] at eb
    exact hex x ρ' eb cls d F' H' A' st' go hx
end
def nob : Hp := fun _ => none
theorem nob_le (F : Hp) : Same nob F := fun _ _ e => nomatch e

/-! ### the judgements: an expression with its reading and its plain function -/
structure QE (X : Cx) (W : WX) (e : Expr) (te : TE) (s : SE PV) : Prop where
  pe : PE X e te
  ev : Ev X.K nob (fr (RepF X.K)) W te s
structure QM (X : Cx) (W : WX) (e : Expr) (te : TE) (s : SE MV) : Prop where
  pe : PE X e te
  ev : Ev X.K nob (RepM X.K) W te s
structure QT (X : Cx) (W : WX) (e : Expr) (tt : TT) (s : SE Bool) : Prop where
  pt : PT X e tt
  ev : Ev X.K nob (fr zB) W tt s
structure QW (X : Cx) (W : WX) (e : Expr) (tt : TT) (s : SE Bool) : Prop where
  pw : PW X e tt
  ev : Ev X.K nob (fr zB) W tt s
structure QA (X : Cx) (W : WX) (es : List Expr) (ta : TA) (s : SE (List PV)) : Prop where
  pa : PA X es ta
  ev : Ev X.K nob (fr (RepFs X.K)) W ta s
structure QO (X : Cx) (W : WX) (e : Option Expr) (to : TO) (s : SE (Option Int)) : Prop where
  po : PO X e to
  ev : Ev X.K nob (fr zO) W to s
section
variable {X : Cx} {W : WX} {e : Expr} {te : TE}
theorem QM.vw {s : SE MV} (h : QM X W e te s) : QE X W e te (Mv.vw s) := ⟨h.pe, h.ev.vw⟩
theorem QE.mv {s : SE PV} (h : QE X W e te s) : QM X W e te (Mv.mv s) := ⟨h.pe, h.ev.mv⟩
end

/-! ### statements -/
inductive Out where
  | nx | rt (m : MV) | bk | ct
def Fix (n : Nat) (σ σ' : L2.St) : Prop := ∀ i, i < n → σ'[i]? = σ[i]?
theorem Fix.refl (n : Nat) (σ : L2.St) : Fix n σ σ := fun _ _ => rfl
theorem Fix.trans {n : Nat} {σ σ1 σ2 : L2.St} (a : Fix n σ σ1) (b : Fix n σ1 σ2) : Fix n σ σ2 := fun i hi => (b i hi).trans (a i hi)
theorem Fix.set {n i : Nat} {σ : L2.St} {o : Option V} (h : n ≤ i) : Fix n σ (σ.set i o) := fun j hj => by rw [List.getElem?_set_ne (by omega)]
/-- what is wanted behind a statement of this outcome -/
structure Wants (K : PySem.W.Frag) (n : Nat) (W : WX) (r : R Out) (σ : L2.St) (F H : Hp) (A : List Addr) (D : Ends) : Prop where
  nb : r ≠ .bad
  nx : ∀ ρ', r = .ok .nx ρ' → ∀ σ' F' H' A', StOk K ρ' σ' F' H' A' → Go F H A F' H' A' → Fix n σ σ' → D.nx σ' H'
  rt : ∀ m ρ', r = .ok (.rt m) ρ' → ∀ v σ' F' H' A' f, StOk K ρ' σ' F' H' A' → RepM K F' H' m v f → (f ++ A').Nodup → (∀ x ∈ f, F' x = none) → Go F H A F' H' (f ++ A') → Fix n σ σ' → D.rt v H'
  bk : ∀ ρ', r = .ok .bk ρ' → ∀ σ' F' H' A', StOk K ρ' σ' F' H' A' → Go F H A F' H' A' → Fix n σ σ' → D.bk σ' H'
  ct : ∀ ρ', r = .ok .ct ρ' → ∀ σ' F' H' A', StOk K ρ' σ' F' H' A' → Go F H A F' H' A' → Fix n σ σ' → D.ct σ' H'
  xc : ∀ x ρ', r = .exc x ρ' → ∀ cls d σ' F' H' A', StOk K ρ' σ' F' H' A' → Go F H A F' H' A' → Fix n σ σ' → RepX K F' H' x cls d → W cls d σ' H'
theorem Wants.go {K : PySem.W.Frag} {n : Nat} {W : WX} {r : R Out} {σ σ1 : L2.St} {F H F1 H1 : Hp} {A A1 : List Addr} {D : Ends} (w : Wants K n W r σ F H A D) (g : Go F H A F1 H1 A1) (x : Fix n σ σ1) : Wants K n W r σ1 F1 H1 A1 D :=
  ⟨w.nb, fun ρ' e σ' F' H' A' st g' x' => w.nx ρ' e σ' F' H' A' st (g.trans g') (x.trans x'), fun m ρ' e v σ' F' H' A' f st hr nd hn g' x' => w.rt m ρ' e v σ' F' H' A' f st hr nd hn (g.trans g') (x.trans x'),
    fun ρ' e σ' F' H' A' st g' x' => w.bk ρ' e σ' F' H' A' st (g.trans g') (x.trans x'), fun ρ' e σ' F' H' A' st g' x' => w.ct ρ' e σ' F' H' A' st (g.trans g') (x.trans x'),
    fun y ρ' e cls d σ' F' H' A' st g' x' hx => w.xc y ρ' e cls d σ' F' H' A' st (g.trans g') (x.trans x') hx⟩
def EvS (K : PySem.W.Frag) (n : Nat) (W : WX) (ts : TS) (s : SE Out) : Prop :=
  ∀ ρ σ F H A, StOk K ρ σ F H A → ∀ D : Ends, Wants K n W (s ρ) σ F H A D → ts D σ H
structure QS (X : Cx) (n : Nat) (W : WX) (st : Stmt) (ts : TS) (s : SE Out) : Prop where
  ps : PS X st ts
  ev : EvS X.K n W ts s
structure QSs (X : Cx) (n : Nat) (W : WX) (st : List Stmt) (ts : TS) (s : SE Out) : Prop where
  ps : PSs X st ts
  ev : EvS X.K n W ts s
/-- none but these slots are stored -/
def Chg (ts : List Nat) (σ σ' : L2.St) : Prop := σ'.length = σ.length ∧ ∀ j, j ∉ ts → σ'[j]? = σ[j]?
theorem Chg.refl (ts : List Nat) (σ : L2.St) : Chg ts σ σ := ⟨rfl, fun _ _ => rfl⟩
theorem Chg.trans {ts us : List Nat} {σ σ1 σ2 : L2.St} (a : Chg ts σ σ1) (b : Chg us σ1 σ2) : Chg (ts ++ us) σ σ2 := ⟨b.1.trans a.1, fun j hj => by
  rw [List.mem_append, not_or] at hj
  exact (b.2 j hj.2).trans (a.2 j hj.1)⟩
theorem Chg.set {i : Nat} {σ : L2.St} {o : Option V} : Chg [i] σ (σ.set i o) := ⟨by rw [List.length_set], fun j hj => by rw [List.getElem?_set_ne (by intro e; subst e; simp at hj)]⟩
theorem Chg.fix {ts : List Nat} {n : Nat} {σ σ' : L2.St} (c : Chg ts σ σ') (h : ∀ j ∈ ts, n ≤ j) : Fix n σ σ' := fun i hi => c.2 i fun hm => absurd (h i hm) (by omega)
/-- a target of an assignment: what is stored is frozen -/
def EvG (K : PySem.W.Frag) (ts : List Nat) (g : TG) (s : PV → Env → Option Env) : Prop :=
  ∀ p v ρ σ F H A, RepF K F p v → StOk K ρ σ F H A → ∀ Q : L2.St → Hp → Prop, s p ρ ≠ none → (∀ ρ', s p ρ = some ρ' → ∀ σ' F' H' A', StOk K ρ' σ' F' H' A' → Go F H A F' H' A' → Chg ts σ σ' → Q σ' H') → g v σ H Q
def EvGs (K : PySem.W.Frag) (ts : List Nat) (g : TGs) (s : List PV → Env → Option Env) : Prop :=
  ∀ ps vs ρ σ F H A, RepFs K F ps vs → StOk K ρ σ F H A → ∀ Q : L2.St → Hp → Prop, s ps ρ ≠ none → (∀ ρ', s ps ρ = some ρ' → ∀ σ' F' H' A', StOk K ρ' σ' F' H' A' → Go F H A F' H' A' → Chg ts σ σ' → Q σ' H') → g vs σ H Q
structure QG (X : Cx) (ts : List Nat) (tg : Expr) (g : TG) (s : PV → Env → Option Env) : Prop where
  pg : PG X tg g
  ev : EvG X.K ts g s
structure QGs (X : Cx) (ts : List Nat) (tgs : List Expr) (g : TGs) (s : List PV → Env → Option Env) : Prop where
  pg : PGs X tgs g
  ev : EvGs X.K ts g s
/-- what a loop walks: its items, as they are told one by one -/
structure IsIt (K : PySem.W.Frag) (F0 : Hp) (items : List PV) (J : It) : Prop where
  goes : ∀ i H F, i < items.length → Same F0 F → Same F H → J.go i H
  stops : ∀ H F, Same F0 F → Same F H → J.stop items.length H
  yields : ∀ i p H F x H', items[i]? = some p → Same F0 F → Same F H → J.yld i H x H' →
    ∃ F', Same F F' ∧ Same F' H' ∧ Same H H' ∧ (∀ b, F b = none → F' b ≠ none → H b = none) ∧ RepF K F' p x
theorem IsIt.mono {K : PySem.W.Frag} {F0 F1 : Hp} {items : List PV} {J : It} (e : Same F0 F1) (h : IsIt K F0 items J) : IsIt K F1 items J :=
  ⟨fun i H F hi s => h.goes i H F hi (e.trans s), fun H F s => h.stops H F (e.trans s), fun i p H F x H' hi s => h.yields i p H F x H' hi (e.trans s)⟩
structure QI (X : Cx) (W : WX) (tg iter : Expr) (wi : TI) (s : SE (List PV)) : Prop where
  pi : PI X tg iter wi
  ev : Ev X.K nob (fr (IsIt X.K)) W wi s

/-! ### blocks, small statements -/
section
variable {X : Cx} {n : Nat} {W : WX} {st : Stmt} {rest : List Stmt} {t u : TS} {s s' : SE Out} {pos : Pos}
def sSeq (s t : SE Out) : SE Out := fun ρ => match s ρ with
  | .ok .nx ρ' => t ρ'
  | r => r
def sNil : SE Out := fun ρ => .ok .nx ρ
theorem EvS.seq {K : PySem.W.Frag} (h1 : EvS K n W t s) (h2 : EvS K n W u s') : EvS K n W (tSeq t u) (sSeq s s') := by
  intro ρ σ F H A st D w
  have eb : sSeq s s' ρ = match s ρ with
    | .ok .nx ρ' => s' ρ'
    | r => r := rfl
  refine h1 ρ σ F H A st _ ⟨fun e => ?_, fun ρ' e σ' F' H' A' st' g x => ?_, fun m ρ' e => ?_, fun ρ' e => ?_, fun ρ' e => ?_, fun y ρ' e => ?_⟩
  · rw [e] at eb; exact w.nb eb
  · rw [e] at eb
    rw [eb] at w
    exact h2 ρ' σ' F' H' A' st' D (w.go g x)
  · rw [e] at eb
    exact w.rt m ρ' eb
  · rw [e] at eb
    exact w.bk ρ' eb
  · rw [e] at eb
    exact w.ct ρ' eb
  · rw [e] at eb
    exact w.xc y ρ' eb
theorem qss_nil : QSs X n W [] tNext sNil := ⟨pss_nil, fun ρ σ F H A st D w => w.nx ρ rfl σ F H A st (Go.refl ..) (Fix.refl _ _)⟩
theorem qss_cons (h1 : QS X n W st t s) (h2 : QSs X n W rest u s') : QSs X n W (st :: rest) (tSeq t u) (sSeq s s') := ⟨pss_cons h1.ps h2.ps, h1.ev.seq h2.ev⟩
theorem qss_one (h1 : QS X n W st t s) : QSs X n W [st] t s := ⟨pss_one h1.ps, h1.ev⟩
theorem qs_pass : QS X n W (.Pass pos) tNext sNil := ⟨ps_pass, qss_nil.ev (X := X)⟩
def sBreak : SE Out := fun ρ => .ok .bk ρ
def sCont : SE Out := fun ρ => .ok .ct ρ
theorem qs_break : QS X n W (.Break pos) tBreak sBreak := ⟨ps_break, fun ρ σ F H A st D w => w.bk ρ rfl σ F H A st (Go.refl ..) (Fix.refl _ _)⟩
theorem qs_continue : QS X n W (.Continue pos) tCont sCont := ⟨ps_continue, fun ρ σ F H A st D w => w.ct ρ rfl σ F H A st (Go.refl ..) (Fix.refl _ _)⟩
/-- code that is never come to -/
def sNever : SE Out := fun _ => .bad
theorem qs_never : QS X n W st tNever sNever := ⟨ps_never, fun ρ σ F H A st D w => absurd rfl w.nb⟩
theorem qss_never : QSs X n W rest tNever sNever := ⟨pss_never, fun ρ σ F H A st D w => absurd rfl w.nb⟩
/-- an owned slot given away: nothing runs -/
def fzAt (i : Nat) (ρ : Env) : Env := match ρ[i]? with
  | some (some m) => ρ.set i (some (.fz m.view))
  | _ => ρ
theorem StOk.fzAt {K : PySem.W.Frag} {ρ : Env} {σ : L2.St} {F H : Hp} {A : List Addr} (s : StOk K ρ σ F H A) (i : Nat) : ∃ F' A', StOk K (Mv.fzAt i ρ) σ F' H A' ∧ Go F H A F' H A' := by
  unfold Mv.fzAt
  cases e : ρ[i]? with
  | none => exact ⟨F, A, s, Go.refl ..⟩
  | some o => cases o with
    | none => exact ⟨F, A, s, Go.refl ..⟩
    | some m =>
      obtain ⟨v, f, A', q1, q2, q3, q4⟩ := s.take e
      have nd := q3.nodup_iff.mp s.nod
      have hn : ∀ a ∈ f, F a = none := fun a ha => s.out a (q3.mem_iff.mpr (List.mem_append_left _ ha))
      have hdis := (List.nodup_append.mp nd).2.2
      have nf : ∀ b ∈ A', b ∉ f := fun b hb hf => hdis b hf b hb rfl
      have s1 := q4.grow (frz_same hn) (frz_sub s.sub) (fun _ _ _ e => e) (fun b hb => by rw [frz_out (nf b hb)]; exact q4.out b hb)
      have hi : i < ρ.length := (List.getElem?_eq_some_iff.mp e).1
      have s2 := s1.put (i := i) (m := .fz m.view) (v := v) (f := []) (by rw [List.getElem?_set_self hi]) (by rw [RepM]; exact ⟨rfl, RepM.freeze m v f hn q2⟩) (by simpa using s1.nod) (by simp)
      rw [List.set_set, List.nil_append] at s2
      have es : σ.set i (some v) = σ := by
        obtain ⟨h1, h2⟩ := List.getElem?_eq_some_iff.mp q1
        rw [← h2, List.set_getElem_self]
      rw [es] at s2
      refine ⟨frz F H f, A', s2, frz_same hn, fun b o e _ => e, fun b e2 q => ?_, fun b hb => .inr (q3.mem_iff.mpr (List.mem_append_right _ hb))⟩
      by_cases hb : b ∈ f
      · exact .inr (q3.mem_iff.mpr (List.mem_append_left _ hb))
      · rw [frz_out hb] at q
        exact absurd e2 q
def sFz (i : Nat) (s : SE Out) : SE Out := fun ρ => s (fzAt i ρ)
theorem EvS.fz {K : PySem.W.Frag} {i : Nat} (h : EvS K n W t s) : EvS K n W t (sFz i s) := fun ρ σ F H A st D w => by
  obtain ⟨F', A', st', g⟩ := st.fzAt i
  exact h _ σ F' H A' st' D (w.go g (Fix.refl _ _))
theorem QSs.fz (i : Nat) (h : QSs X n W rest t s) : QSs X n W rest t (sFz i s) := ⟨h.ps, h.ev.fz⟩
theorem QS.fz (i : Nat) (h : QS X n W st t s) : QS X n W st t (sFz i s) := ⟨h.ps, h.ev.fz⟩
/-- return -/
def sRet (e : SE MV) : SE Out := e.bind fun m => SE.ret (.rt m)
theorem bind_eq {α β : Type} (s : SE α) (k : α → SE β) (ρ : Env) : s.bind k ρ = match s ρ with
    | .ok a ρ' => k a ρ'
    | .exc x ρ' => .exc x ρ'
    | .bad => .bad := rfl
theorem qs_ret {e : Expr} {te : TE} {s : SE MV} (h : QM X W e te s) : QS X n W (.Return (some e) pos) (tRet te) (sRet s) := by
  refine ⟨ps_ret h.pe, fun ρ σ F H A st D w => ?_⟩
  have eb := bind_eq s (fun m => SE.ret (Out.rt m)) ρ
  refine h.ev ρ σ F H A (nob_le _) st D.rt (fun e => ?_) (fun m ρ' e v F' H' A' f st' hr nd hn g => ?_) (fun x ρ' e cls d F' H' A' st' g hx => ?_)
  · rw [e] at eb; exact w.nb eb
  · rw [e] at eb
    exact w.rt m ρ' eb v σ F' H' A' f st' hr nd hn g (Fix.refl _ _)
  · rw [e] at eb
    exact w.xc x ρ' eb cls d σ F' H' A' st' g (Fix.refl _ _) hx
def sRetN : SE Out := fun ρ => .ok (.rt (.fz .non)) ρ
theorem qs_retN : QS X n W (.Return none pos) tRetN sRetN := by
  refine ⟨ps_retN, fun ρ σ F H A st D w => ?_⟩
  exact w.rt (.fz .non) ρ rfl .non σ F H A [] st (by rw [RepM, RepF]; exact ⟨rfl, rfl⟩) (by simpa using st.nod) (by simp) (by simpa using Go.refl F H A) (Fix.refl _ _)
/-- an expression whose value is dropped -/
def sDrop (e : SE MV) : SE Out := e.bind fun _ => SE.ret .nx
theorem qs_expr {e : Expr} {te : TE} {s : SE MV} (h : QM X W e te s) (hs : swapsWith e none pos.line X.env = pure false := by rfl) : QS X n W (.Expr e pos) (tDrop te) (sDrop s) := by
  refine ⟨ps_expr h.pe hs, fun ρ σ F H A st D w => ?_⟩
  have eb := bind_eq s (fun _ => SE.ret Out.nx) ρ
  refine h.ev ρ σ F H A (nob_le _) st (fun _ H1 => D.nx σ H1) (fun e => ?_) (fun m ρ' e v F' H' A' f st' hr nd hn g => ?_) (fun x ρ' e cls d F' H' A' st' g hx => ?_)
  · rw [e] at eb; exact w.nb eb
  · rw [e] at eb
    exact w.nx ρ' eb σ F' H' A' st' (g.weak fun x hx => List.mem_append_right _ hx) (Fix.refl _ _)
  · rw [e] at eb
    exact w.xc x ρ' eb cls d σ F' H' A' st' g (Fix.refl _ _) hx
/-- if -/
def sIf (c : SE Bool) (a b : SE Out) : SE Out := c.bind fun k => if k = true then a else b
theorem qs_if {c : Expr} {a b : List Stmt} {tc : TT} {sc : SE Bool} {sa sb : SE Out} (hc : QT X W c tc sc) (ha : QSs X n W a t sa) (hb : QSs X n W b u sb) : QS X n W (.If c a b pos) (tIfS tc t u) (sIf sc sa sb) := by
  refine ⟨ps_if hc.pt ha.ps hb.ps, fun ρ σ F H A st D w => ?_⟩
  have eb := bind_eq sc (fun k => if k = true then sa else sb) ρ
  refine hc.ev ρ σ F H A (nob_le _) st _ (fun e => ?_) (fun m ρ' e v F' H' A' f st' hr nd hn g => ?_) (fun x ρ' e cls d F' H' A' st' g hx => ?_)
  · rw [e] at eb; exact w.nb eb
  · rw [e] at eb
    have w' : Wants X.K n W ((if m = true then sa else sb) ρ') σ F H A D := by
      have e2 : sIf sc sa sb ρ = (if m = true then sa else sb) ρ' := eb
      rw [e2] at w
      exact w
    obtain ⟨rfl, hv⟩ := hr
    have hv' : v = m := hv
    subst hv'
    cases v with
    | true => exact ha.ev ρ' σ F' H' A' st' D (w'.go g (Fix.refl _ _))
    | false => exact hb.ev ρ' σ F' H' A' st' D (w'.go g (Fix.refl _ _))
  · rw [e] at eb
    exact w.xc x ρ' eb cls d σ F' H' A' st' g (Fix.refl _ _) hx
/-- name = value -/
def sSet (i : Nat) (e : SE MV) : SE Out := e.bind fun m ρ => if i < ρ.length then .ok .nx (ρ.set i (some m)) else .bad
theorem EvS.set {K : PySem.W.Frag} {te : TE} {s : SE MV} {i : Nat} (hn : n ≤ i) (h : Ev K nob (RepM K) W te s) : EvS K n W (tAsg te (gName i)) (sSet i s) := fun ρ σ F H A st D w => by
  have eb := bind_eq s (fun m ρ => if i < ρ.length then .ok Out.nx (ρ.set i (some m)) else .bad) ρ
  refine h ρ σ F H A (nob_le _) st (fun v H1 => gName i v σ H1 D.nx) (fun e => ?_) (fun m ρ' e v F' H' A' f st' hr nd hnf g => ?_) (fun x ρ' e cls d F' H' A' st' g hx => ?_)
  · rw [e] at eb; exact w.nb eb
  · rw [e] at eb
    have e2 : sSet i s ρ = if i < ρ'.length then .ok Out.nx (ρ'.set i (some m)) else .bad := eb
    by_cases hi : i < ρ'.length
    · rw [if_pos hi] at e2
      obtain ⟨A2, q1, q2⟩ := st'.store hr nd hnf hi
      exact w.nx _ e2 _ F' H' A2 q2 (g.weak q1) (Fix.set hn)
    · rw [if_neg hi] at e2
      exact absurd e2 w.nb
  · rw [e] at eb
    exact w.xc x ρ' eb cls d σ F' H' A' st' g (Fix.refl _ _) hx
theorem qs_set {i : Nat} {x : Str} {e : Expr} {te : TE} {s : SE MV} {pos' : Pos} (hn : n ≤ i) (hN : X.N.Nodup) (hi : X.N[i]? = some x) (hx : Loc X.env.scope x) (he : QM X W e te s) (hs : swapsWith e (some (.Name x pos')) pos.line X.env = pure false := by rfl) (hf : X.fn x = true ∨ X.env.scope.names.lookup x = some .local := by first | exact .inl rfl | exact .inr rfl | assumption) :
    QS X n W (.Assign [.Name x pos'] e pos) (tAsg te (gName i)) (sSet i s) := ⟨ps_set hN hi hx he.pe hs hf, EvS.set hn he.ev⟩
/-- target = value -/
def sAsg (e : SE PV) (g : PV → Env → Option Env) : SE Out := e.bind fun p ρ => match g p ρ with
  | some ρ' => .ok .nx ρ'
  | none => .bad
theorem qs_asg {tg e : Expr} {te : TE} {g : TG} {s : SE PV} {sg : PV → Env → Option Env} {tl : List Nat} (he : QE X W e te s) (hg : QG X tl tg g sg) (ht : ∀ j ∈ tl, n ≤ j := by decide) (hs : swapsWithSole [tg] e pos.line X.env = pure false := by rfl) (hw : swappedStores [tg] e X.env = pure none := by rfl)
    (h1 : (assignEach [tg] X.env).map (·.2) = [assign tg X.env] := by rfl) : QS X n W (.Assign [tg] e pos) (tAsg te g) (sAsg s sg) := by
  refine ⟨ps_asg he.pe hg.pg hs hw h1, fun ρ σ F H A st D w => ?_⟩
  have eb := bind_eq s (fun p ρ => match sg p ρ with
    | some ρ' => .ok Out.nx ρ'
    | none => .bad) ρ
  refine he.ev ρ σ F H A (nob_le _) st (fun v H1 => g v σ H1 D.nx) (fun e => ?_) (fun m ρ' e v F' H' A' f st' hr nd hnf go => ?_) (fun x ρ' e cls d F' H' A' st' go hx => ?_)
  · rw [e] at eb; exact w.nb eb
  · rw [e] at eb
    have e2 : sAsg s sg ρ = match sg m ρ' with
      | some ρ' => .ok Out.nx ρ'
      | none => .bad := eb
    obtain ⟨rfl, hv⟩ := hr
    refine hg.ev m v ρ' σ F' H' A' hv st' D.nx (fun q => ?_) (fun ρ2 q σ2 F2 H2 A2 st2 g2 x2 => ?_)
    · rw [q] at e2; exact w.nb e2
    · rw [q] at e2
      exact w.nx ρ2 e2 σ2 F2 H2 A2 st2 (Go.trans go g2) (x2.fix ht)
  · rw [e] at eb
    exact w.xc x ρ' eb cls d σ F' H' A' st' go (Fix.refl _ _) hx
end

/-! ### targets -/
section
variable {X : Cx} {n : Nat} {pos : Pos}
def gN (i : Nat) : PV → Env → Option Env := fun p ρ => if i < ρ.length then some (ρ.set i (some (.fz p))) else none
theorem qg_name {i : Nat} {x : Str} (hN : X.N.Nodup) (hi : X.N[i]? = some x) (hx : Loc X.env.scope x) (hf : X.fn x = true ∨ X.env.scope.names.lookup x = some .local := by first | exact .inl rfl | exact .inr rfl | assumption) : QG X [i] (.Name x pos) (gName i) (gN i) := by
  refine ⟨pg_name hN hi hx hf, fun p v ρ σ F H A hp st Q nb hok => ?_⟩
  have eb : gN i p ρ = if i < ρ.length then some (ρ.set i (some (.fz p))) else none := rfl
  by_cases h : i < ρ.length
  · rw [if_pos h] at eb
    obtain ⟨A2, q1, q2⟩ := st.store (m := .fz p) (v := v) (f := []) (by rw [RepM]; exact ⟨rfl, hp⟩) (by simpa using st.nod) (by simp) h
    exact hok _ eb _ F H A2 q2 ((Go.refl F H A).weak (by simpa using q1)) Chg.set
  · rw [if_neg h] at eb
    exact absurd eb nb
def gNl : List PV → Env → Option Env := fun ps ρ => match ps with
  | [] => some ρ
  | _ :: _ => none
def gCn (g : PV → Env → Option Env) (r : List PV → Env → Option Env) : List PV → Env → Option Env := fun ps ρ => match ps with
  | [] => none
  | p :: ps => match g p ρ with
    | some ρ' => r ps ρ'
    | none => none
theorem qgs_nil : QGs X [] [] gNil gNl := by
  refine ⟨pgs_nil, fun ps vs ρ σ F H A hp st Q nb hok => ?_⟩
  cases ps with
  | nil =>
    rw [RepFs] at hp
    exact ⟨hp, hok ρ rfl σ F H A st (Go.refl ..) (Chg.refl _ _)⟩
  | cons p ps => exact absurd rfl nb
theorem qgs_cons {e : Expr} {es : List Expr} {t : TG} {u : TGs} {g : PV → Env → Option Env} {r : List PV → Env → Option Env} {t1 t2 : List Nat} (h1 : QG X t1 e t g) (h2 : QGs X t2 es u r)
    (hs : (assignEach (e :: es) X.env).map (·.2) = assign e X.env :: (assignEach es X.env).map (·.2) := by rfl) : QGs X (t1 ++ t2) (e :: es) (gCons t u) (gCn g r) := by
  refine ⟨pgs_cons h1.pg h2.pg hs, fun ps vs ρ σ F H A hp st Q nb hok => ?_⟩
  cases ps with
  | nil => exact absurd rfl nb
  | cons p ps =>
    rw [RepFs] at hp
    obtain ⟨v, vr, e1, e2, e3⟩ := hp
    refine ⟨v, vr, e1, h1.ev p v ρ σ F H A e2 st _ (fun q => ?_) (fun ρ' q σ' F' H' A' st' go x => ?_)⟩
    · exact nb (by show (match g p ρ with | some ρ' => r ps ρ' | none => none) = none; rw [q])
    · have eb : gCn g r (p :: ps) ρ = r ps ρ' := by show (match g p ρ with | some ρ' => r ps ρ' | none => none) = _; rw [q]
      refine h2.ev ps vr ρ' σ' F' H' A' (RepFs.mono go.f _ _ e3) st' Q (fun q2 => nb (eb.trans q2)) (fun ρ2 q2 σ2 F2 H2 A2 st2 go2 x2 => ?_)
      exact hok ρ2 (eb.trans q2) σ2 F2 H2 A2 st2 (go.trans go2) (x.trans x2)
/-- (a, b, ..) = a tuple -/
def gTp (k : Nat) (r : List PV → Env → Option Env) : PV → Env → Option Env := fun p ρ => match p with
  | .tup ps => if ps.length = k then r ps ρ else none
  | _ => none
theorem qg_tup {es : List Expr} {k : Nat} {t : TGs} {m : Nat} {r : List PV → Env → Option Env} {tl : List Nat} (hc : X.calm = true) (h : QGs X tl es t r)
    (hn : (assignEach es X.env).length = m := by rfl) (hst : (assignEach es X.env).findIdx? (·.1) = none := by rfl) : QG X tl (.Tuple es k pos) (gTup X.K m t) (gTp m r) := by
  refine ⟨pg_tup hc h.pg hn hst, fun p v ρ σ F H A hp st Q nb hok => ?_⟩
  cases p with
  | tup ps =>
    rw [RepF] at hp
    obtain ⟨a, vs, e1, e2, e3⟩ := hp
    have eb : gTp m r (.tup ps) ρ = if ps.length = m then r ps ρ else none := rfl
    by_cases hl : ps.length = m
    · rw [if_pos hl] at eb
      refine ⟨a, vs, e1, same_t st.sub e2, by rw [RepFs.length e3, hl], ?_⟩
      exact h.ev ps vs ρ σ F H A e3 st Q (fun q => nb (eb.trans q)) fun ρ' q => hok ρ' (eb.trans q)
    · rw [if_neg hl] at eb
      exact absurd eb nb
  | _ => exact absurd rfl nb
end
end Mv

set_option Elab.async false
set_option linter.all false
set_option maxRecDepth 100000
set_option maxHeartbeats 4000000
namespace Mv
open PySem PySem.Spec PyProof.Rows L2

/-! ### a def that is run where no repr is under way -/
structure FnG (P : Program) (w : World) (K : PySem.W.Frag) (mg : Str → Option Value) (base : Heap) (k : Nat) (f : Addr) (fd : FuncData) (ps : List Str) (sp : Sp) : Prop where
  len : ∀ vs H Q E, sp vs H Q E → vs.length = ps.length
  run : ∀ (A : Around), A.guards = some [] → Room k A → ∀ (outer : List PySem.Env) (s : Shared) (H : Hp), Env0 P w K mg base A outer s H →
    ∀ (args : Args) (us : List Value) (vs : List V), BindsTo s fd args (ps.zip us) → Vals vs us → ∀ (Q : VK) (E : XK), sp vs H Q E →
    codeAny (model P w) A (.call (.ref f) args) (CR (L2.CX P w) outer P w H s Q E) s
section
variable {P : Program} {w : World} {K : PySem.W.Frag} {mg : Str → Option Value} {base : Heap} {x qual : Str} {params : Arguments} {body : List Stmt} {scope : Scope} {dvs : List V} {kws : List (Str × V)} {f : Addr} {fd : FuncData} {N ps : List Str} {k : Nat} {sp : Sp}
theorem fnG_of (D : FunD K x qual params body scope dvs kws f fd) (S : FnScope N ps scope) (len : ∀ vs H Q E, sp vs H Q E → vs.length = ps.length)
    (hbody : ∀ (cdv : Value) (A : Around) (outer : List PySem.Env) (s : Shared) (H : Hp) (vs : List V) (Q : VK) (E : XK), A.guards = some [] →
      Room k (A.deeper (envOfC qual scope s.heap.objs.size f cdv)) → sp vs H Q E →
      ∃ t, PSs (cxOf (L2.CX P w) P w K mg base N qual scope f cdv A outer s H E) body t ∧ t { nx := fun _ H' => Q .non H', rt := Q } (L2.start N vs) H) :
    FnG P w K mg base (k + 1) f fd ps sp := by
  obtain ⟨oc, od, dV, kV, doc, pm, an, cdv, ct, osl, rfl, lk, hcd, _, _⟩ := D.ex
  refine ⟨len, ?_⟩
  intro A hg hr outer s H e0 args us vs hb r Q E hsp
  have keeps0 : ∀ b o, base.get? b = some o → s.heap.get? b = some o := fun b o e => (e0.bs b o e).1
  have inK : K.In s.heap := e0.mod.kin.keeps keeps0
  refine codeAny_call_function hr.depth (inK _ _ lk) rfl S.co S.gen rfl (PySem.W.codeRec_of inK hcd) (hb _ _ _ _ ?_)
  refine wpAny_newFunctionEnv_cells S.kind ?_ ?_
  · rintro ⟨n, v⟩ hy
    cases S.par n (List.of_mem_zip hy).1 with
    | inl q => exact Or.inl q
    | inr q => exact Or.inr ⟨q, PySem.W.cellsFrom_some _ _ _ (Or.inl q)⟩
  · rintro env rfl s1 x1
    refine ⟨(e0.mod.nolimit.keeps keeps0).keeps x1.toInCall.keep, codeAny_func ?_⟩
    obtain ⟨t, ht, hq⟩ := hbody cdv A outer s H vs Q E hg (hr.deeper _) hsp
    refine wpAny_mono (ht.run [] s1 (L2.start N vs) H _ (inv_start S hr.hd e0 (len _ _ _ _ hsp) r x1) hq) ?_ fun e s' hs => hs
    intro fl s' hs
    cases fl with
    | ret u => exact match hs with | ⟨v, _, H', J, rv, q⟩ => ⟨v, H', J.os, J.bare, J.base, J.hok, rv, q⟩
    | next => exact match hs with | ⟨_, H', J, q⟩ => ⟨V.non, H', J.os, J.bare, J.base, J.hok, rfl, q⟩
    | brk => exact match hs with | ⟨_, _, _, q⟩ => False.elim q
    | cont => exact match hs with | ⟨_, _, _, q⟩ => False.elim q
end

/-! ### calls: positional arguments, keywords, put into the parameters' order -/
structure KB (K : PySem.W.Frag) (fd : FuncData) (ps : List Str) (n : Nat) (ks : List Str) (g : {α : Type} → List α → List α → List α) : Prop where
  to : ∀ (s : Shared) (us ws : List Value), K.In s.heap → us.length = n → ws.length = ks.length → BindsTo s fd ⟨us, ks.zip ws⟩ (ps.zip (g us ws))
  rel : ∀ {vs : List V} {us : List Value} {zs : List V} {ws : List Value}, Vals vs us → Vals zs ws → Vals (g vs zs) (g us ws)
def tCallG (n m : Nat) (sp : Sp) (g : {α : Type} → List α → List α → List α) (E : L2.St → XK) (t tk : TA) : TE := fun σ H Q => t σ H fun vs H1 => tk σ H1 fun zs H2 => vs.length = n ∧ zs.length = m ∧ sp (g vs zs) H2 Q (E σ)
section
variable {X : Cx} {W : WX} {k n : Nat} {f : Addr} {fd : FuncData} {ps ks : List Str} {sp : Sp} {x : Str} {p pos : Pos} {e : Expr} {es : List Expr} {kws : List Keyword} {t tk : TA} {g : {α : Type} → List α → List α → List α}
theorem run_fnG {pins : List (Addr × Obj)} {σ : L2.St} {H : Hp} {s : Shared} {Q : VK} {us ws : List Value} {vs zs : List V} (F : FnG X.prog X.w X.K X.mg X.base k f fd ps sp) (hg : X.A.guards = some []) (hr : Room k X.A) (hb : KB X.K fd ps n ks g) (tk : Takes X W)
    (I : Inv X pins σ H s) (r : Vals vs us) (rz : Vals zs ws) (l1 : vs.length = n) (l2 : zs.length = ks.length) (h : sp (g vs zs) H Q (WE W σ)) : wpAny (model X.prog X.w) X.A (call (.ref f) us (ks.zip ws)) (EP X pins σ Q) X.xe s := by
  have b := hb.to s us ws I.kIn (r.length ▸ l1) (rz.length ▸ l2)
  refine wpAny_call (codeAny_mono (F.run X.A hg hr X.stack s H I.env0 ⟨us, ks.zip ws⟩ _ _ b (hb.rel r rz) Q (WE W σ) h) ?_)
  rintro (e | fl) s' hq
  · exact passAt tk σ pins H s e s' I hq
  · cases fl with
    | ret u => exact I.after hq
    | next => exact hq.elim
    | brk => exact hq.elim
    | cont => exact hq.elim
theorem pe_callG (F : FnG X.prog X.w X.K X.mg X.base k f fd ps sp) (hgd : X.A.guards = some []) (hr : Room k X.A) (hg : Gl X x) (hm : X.mg x = some (.ref f)) (hk : PySem.W.keepIn X.K (.ref f) = true) (hb : KB X.K fd ps n [] g) (tk : Takes X W)
    (ha : PA X (e :: es) t) (hdb : (x == ("__debug__" : Str)) = false := by decide) (he : starEach (e :: es) X.env = (false, eval e X.env) :: starEach es X.env := by rfl) (hpl : (backTo pos (starEach es X.env)).any (·.1) = false := by rfl) :
    PE X (.Call (.Name x p) (e :: es) [] pos) (tCallG n 0 sp g (WE W) t tNil) :=
  ⟨fun pins s σ H Q I h => wpAny_Call_Name_kw (ld_glob I hg hm (PySem.W.callWith_K (h₀ := X.base) I.ok.mod.kin hk
    (thn (ha.run pos pins s σ H _ I h) fun us s1 ⟨vs, H1, I1, r, l1, _, q⟩ => ⟨I1.kIn, run_fnG F hgd hr hb tk I1 r .nil l1 rfl q⟩) he hpl) hdb)⟩
theorem pe_callG0 (F : FnG X.prog X.w X.K X.mg X.base k f fd ps sp) (hgd : X.A.guards = some []) (hr : Room k X.A) (hg : Gl X x) (hm : X.mg x = some (.ref f)) (hk : PySem.W.keepIn X.K (.ref f) = true) (hb : KB X.K fd ps 0 [] g) (tk : Takes X W)
    (hdb : (x == ("__debug__" : Str)) = false := by decide) :
    PE X (.Call (.Name x p) [] [] pos) (tCallG 0 0 sp g (WE W) tNil tNil) :=
  ⟨fun pins s σ H Q I h => wpAny_Call_Name_kw (ld_glob I hg hm (PySem.W.callWith_K0 I.kIn hk (run_fnG (us := []) F hgd hr hb tk I .nil .nil rfl rfl h.2.2)) hdb)⟩
theorem pe_callGk (F : FnG X.prog X.w X.K X.mg X.base k f fd ps sp) (hgd : X.A.guards = some []) (hr : Room k X.A) (hg : Gl X x) (hm : X.mg x = some (.ref f)) (hk : PySem.W.keepIn X.K (.ref f) = true) (hb : KB X.K fd ps n ks g) (tx : Takes X W)
    (ha : PA X (e :: es) t) (hkw : PK X kws tk) (hall : (backToKw pos (keywordEach kws X.env)).all (·.1.isSome) = true := by rfl) (hks : (backToKw pos (keywordEach kws X.env)).filterMap (·.1) = ks := by rfl)
    (hdb : (x == ("__debug__" : Str)) = false := by decide) (he : starEach (e :: es) X.env = (false, eval e X.env) :: starEach es X.env := by rfl)
    (hpl : ((backTo pos (starEach (e :: es) X.env)).any (·.1) || (backToKw pos (keywordEach kws X.env)).any (·.1.isNone)) = false := by rfl) :
    PE X (.Call (.Name x p) (e :: es) kws pos) (tCallG n ks.length sp g (WE W) t tk) :=
  ⟨fun pins s σ H Q I h => wpAny_Call_Name_kw (ld_glob I hg hm (PySem.W.callWith_KW (h₀ := X.base) I.ok.mod.kin hk hall
    (thn (ha.run pos pins s σ H _ I h) fun us s1 ⟨vs, H1, I1, r, q⟩ => thn (hkw.run pos pins s1 σ H1 _ I1 q) fun ws s2 ⟨zs, H2, I2, rz, l1, l2, q2⟩ => ⟨I2.kIn, by
      rw [hks]
      exact run_fnG F hgd hr hb tx I2 r rz l1 l2 q2⟩) hpl he) hdb)⟩
theorem pe_callGk0 (F : FnG X.prog X.w X.K X.mg X.base k f fd ps sp) (hgd : X.A.guards = some []) (hr : Room k X.A) (hg : Gl X x) (hm : X.mg x = some (.ref f)) (hk : PySem.W.keepIn X.K (.ref f) = true) (hb : KB X.K fd ps 0 ks g) (tx : Takes X W)
    (hkw : PK X kws tk) (hall : (backToKw pos (keywordEach kws X.env)).all (·.1.isSome) = true := by rfl) (hks : (backToKw pos (keywordEach kws X.env)).filterMap (·.1) = ks := by rfl)
    (hdb : (x == ("__debug__" : Str)) = false := by decide)
    (hpl : ((backTo pos (starEach [] X.env)).any (·.1) || (backToKw pos (keywordEach kws X.env)).any (·.1.isNone)) = false := by rfl) :
    PE X (.Call (.Name x p) [] kws pos) (tCallG 0 ks.length sp g (WE W) tNil tk) :=
  ⟨fun pins s σ H Q I h => wpAny_Call_Name_kw (ld_glob I hg hm (PySem.W.callWith_KW0 (h₀ := X.base) I.ok.mod.kin hk hall
    (thn (hkw.run pos pins s σ H _ I h) fun ws s2 ⟨zs, H2, I2, rz, l1, l2, q2⟩ => ⟨I2.kIn, by
      rw [hks]
      exact run_fnG (us := []) F hgd hr hb tx I2 .nil rz rfl l2 q2⟩) hpl) hdb)⟩
end

/-! ### a def's plain function -/
inductive RF where
  | ok (m : MV) (outs : List MV) | exc (x : PX) (outs : List MV) | bad
def outsOf : Env → Option (List MV)
  | [] => some []
  | none :: _ => none
  | some m :: r => match outsOf r with
    | some l => some (m :: l)
    | none => none
theorem outsOf_eq : ∀ {ρ : Env} {l : List MV}, outsOf ρ = some l → ρ = l.map some
  | [], l, h => by cases h; rfl
  | none :: _, l, h => by cases h
  | some m :: r, l, h => by
    have h2 : (match outsOf r with
      | some l => some (m :: l)
      | none => none) = some l := h
    cases e : outsOf r with
    | none => rw [e] at h2; cases h2
    | some l2 =>
      rw [e] at h2
      cases h2
      rw [outsOf_eq e]
      rfl
/-- n: so many parameters keep their slots; np: the parameters; nl: the other slots -/
def runF (n np nl : Nat) (body : SE Out) (ms : List MV) : RF := if ms.length = np then
    match body (ms.map some ++ List.replicate nl none) with
    | .ok (.rt m) ρ' => (match outsOf (ρ'.take n) with
      | some outs => .ok m outs
      | none => .bad)
    | .ok .nx ρ' => (match outsOf (ρ'.take n) with
      | some outs => .ok (.fz .non) outs
      | none => .bad)
    | .ok .bk _ => .bad
    | .ok .ct _ => .bad
    | .exc x ρ' => (match outsOf (ρ'.take n) with
      | some outs => .exc x outs
      | none => .bad)
    | .bad => .bad
  else .bad
/-- what a def promises: its plain function -/
def spF (K : PySem.W.Frag) (n np : Nat) (m : List MV → RF) : Sp := fun vs H Q E => vs.length = np ∧ ∃ ms F A, StOk K (ms.map some) (vs.map some) F H A ∧ m ms ≠ .bad ∧
  (∀ r outs, m ms = .ok r outs → ∀ v F' H' A' f, StOk K (outs.map some) ((vs.take n).map some) F' H' A' → RepM K F' H' r v f → (f ++ A').Nodup → (∀ x ∈ f, F' x = none) → Go F H A F' H' (f ++ A') → Q v H') ∧
  (∀ x outs, m ms = .exc x outs → ∀ cls d F' H' A', StOk K (outs.map some) ((vs.take n).map some) F' H' A' → Go F H A F' H' A' → RepX K F' H' x cls d → E cls d H')
theorem Slots.takeN {K : PySem.W.Frag} {F H : Hp} : ∀ {ρ : Env} {σ : L2.St} {A : List Addr} (n : Nat), Slots K F H ρ σ A → ∃ A', A'.Sublist A ∧ Slots K F H (ρ.take n) (σ.take n) A'
  | ρ, σ, A, 0, h => ⟨[], List.nil_sublist _, by rw [List.take_zero, List.take_zero]; exact ⟨rfl, rfl⟩⟩
  | [], σ, A, n + 1, h => by
    obtain ⟨rfl, rfl⟩ := h
    exact ⟨[], .refl _, rfl, rfl⟩
  | none :: ρ, σ, A, n + 1, h => by
    obtain ⟨o, r, e1, h⟩ := h
    subst e1
    obtain ⟨A', q1, q2⟩ := Slots.takeN n h
    exact ⟨A', q1, o, _, rfl, q2⟩
  | some m :: ρ, σ, A, n + 1, h => by
    obtain ⟨v, r, f, g, e1, e2, e3, h⟩ := h
    subst e1 e2
    obtain ⟨A', q1, q2⟩ := Slots.takeN n h
    exact ⟨f ++ A', List.Sublist.append_left q1 f, v, _, f, A', rfl, rfl, e3, q2⟩
theorem StOk.takeN {K : PySem.W.Frag} {ρ : Env} {σ : L2.St} {F H : Hp} {A : List Addr} (s : StOk K ρ σ F H A) (n : Nat) : ∃ A', A'.Nodup ∧ (∀ a ∈ A', a ∈ A) ∧ StOk K (ρ.take n) (σ.take n) F H A' := by
  obtain ⟨B, q, h⟩ := s.sl
  obtain ⟨A', q1, q2⟩ := h.takeN n
  have nd : A'.Nodup := q1.nodup (q.nodup_iff.mp s.nod)
  have mm : ∀ a ∈ A', a ∈ A := fun a ha => q.mem_iff.mpr (q1.subset ha)
  exact ⟨A', nd, mm, s.sub, nd, fun a ha => s.out a (mm a ha), A', .refl _, q2⟩
theorem Slots.nones {K : PySem.W.Frag} {F H : Hp} {A : List Addr} : ∀ {ρ : Env} {σ : L2.St} (nl : Nat), Slots K F H ρ σ A → Slots K F H (ρ ++ List.replicate nl none) (σ ++ List.replicate nl none) A
  | [], σ, nl, h => by
    obtain ⟨rfl, rfl⟩ := h
    rw [List.nil_append, List.nil_append]
    induction nl with
    | zero => exact ⟨rfl, rfl⟩
    | succ n ih => exact ⟨none, _, rfl, ih⟩
  | none :: ρ, σ, nl, h => by
    obtain ⟨o, r, e1, h⟩ := h
    subst e1
    exact ⟨o, _, rfl, Slots.nones nl h⟩
  | some m :: ρ, σ, nl, h => by
    obtain ⟨v, r, f, g, e1, e2, e3, h⟩ := h
    subst e1
    exact ⟨v, _, f, g, rfl, e2, e3, Slots.nones nl h⟩
theorem fix_take {n np : Nat} {σ' σ0 : L2.St} {vs : List V} (hf : Fix n σ0 σ') (hs : ∀ i, i < n → σ0[i]? = (vs.map some)[i]?) (hn : n ≤ vs.length) : σ'.take n = (vs.take n).map some := by
  apply List.ext_getElem?
  intro i
  by_cases hi : i < n
  · rw [List.getElem?_take_of_lt hi, hf i hi, hs i hi, List.map_take, List.getElem?_take_of_lt hi]
  · rw [List.getElem?_eq_none (by rw [List.length_take]; omega), List.getElem?_eq_none (by rw [List.length_map, List.length_take]; omega)]
section
variable {P : Program} {w : World} {K : PySem.W.Frag} {mg : Str → Option Value} {base : Heap} {x qual : Str} {params : Arguments} {body : List Stmt} {scope : Scope} {dvs : List V} {kws : List (Str × V)} {f : Addr} {fd : FuncData} {N ps : List Str} {k : Nat}
theorem fn_ok (n np nl : Nat) (s : SE Out) (D : FunD K x qual params body scope dvs kws f fd) (S : FnScope N ps scope) (hnp : ps.length = np := by rfl) (hN : N.length = np + nl := by rfl) (hn : n ≤ np := by decide)
    (hb : ∀ (cdv : Value) (A : Around) (outer : List PySem.Env) (sh : Shared) (H : Hp) (E : XK), A.guards = some [] → Room k (A.deeper (envOfC qual scope sh.heap.objs.size f cdv)) →
      Takes (cxOf (L2.CX P w) P w K mg base N qual scope f cdv A outer sh H E) (fun cls d _ H => E cls d H) →
      ∃ t, QSs (cxOf (L2.CX P w) P w K mg base N qual scope f cdv A outer sh H E) n (fun cls d _ H => E cls d H) body t s) :
    FnG P w K mg base (k + 1) f fd ps (spF K n np (runF n np nl s)) := by
  refine fnG_of D S (fun vs H Q E h => h.1.trans hnp.symm) fun cdv A outer sh H vs Q E hg hr hsp => ?_
  obtain ⟨t, q⟩ := hb cdv A outer sh H E hg hr (takes_of rfl rfl rfl rfl)
  obtain ⟨hl, ms, F, Ad, st, nb, hok, hex⟩ := hsp
  have lms : ms.length = np := by
    have := st.len
    simp only [List.length_map] at this
    omega
  have er : runF n np nl s ms = match s (ms.map some ++ List.replicate nl none) with
    | .ok (.rt m) ρ' => (match outsOf (ρ'.take n) with
      | some outs => .ok m outs
      | none => .bad)
    | .ok .nx ρ' => (match outsOf (ρ'.take n) with
      | some outs => .ok (.fz .non) outs
      | none => .bad)
    | .ok .bk _ => .bad
    | .ok .ct _ => .bad
    | .exc x ρ' => (match outsOf (ρ'.take n) with
      | some outs => .exc x outs
      | none => .bad)
    | .bad => .bad := if_pos lms
  have es : L2.start N vs = vs.map some ++ List.replicate nl none := by
    unfold L2.start
    rw [hN, hl]
    congr 2
    omega
  have st0 : StOk K (ms.map some ++ List.replicate nl none) (L2.start N vs) F H Ad := by
    obtain ⟨B, q1, q2⟩ := st.sl
    rw [es]
    exact ⟨st.sub, st.nod, st.out, B, q1, q2.nones nl⟩
  have fx : ∀ {σ' : L2.St}, Fix n (L2.start N vs) σ' → σ'.take n = (vs.take n).map some := fun {σ'} h => fix_take (np := np) h (fun i hi => by rw [es, List.getElem?_append_left (by rw [List.length_map]; omega)]) (by omega)
  refine ⟨t, q.ps, q.ev _ _ F H Ad st0 _ ⟨fun e => ?_, fun ρ' e σ' F' H' A' st' g x => ?_, fun m ρ' e v σ' F' H' A' f st' hr' nd hn' g x => ?_, fun ρ' e => ?_, fun ρ' e => ?_, fun y ρ' e cls d σ' F' H' A' st' g x hx => ?_⟩⟩
  · rw [e] at er
    exact nb er
  · rw [e] at er
    cases eo : outsOf (ρ'.take n) with
    | none => simp only [eo] at er; exact absurd er nb
    | some outs =>
      simp only [eo] at er
      obtain ⟨A2, nd2, mm, st2⟩ := st'.takeN n
      rw [outsOf_eq eo, fx x] at st2
      exact hok (.fz .non) outs er .non F' H' A2 [] st2 (by rw [RepM, RepF]; exact ⟨rfl, rfl⟩) (by simpa using nd2) (by simp) (g.weak (by simpa using mm))
  · rw [e] at er
    cases eo : outsOf (ρ'.take n) with
    | none => simp only [eo] at er; exact absurd er nb
    | some outs =>
      simp only [eo] at er
      obtain ⟨A2, nd2, mm, st2⟩ := st'.takeN n
      rw [outsOf_eq eo, fx x] at st2
      rw [List.nodup_append] at nd
      refine hok m outs er v F' H' A2 f st2 hr' ?_ hn' (g.weak fun a ha => ?_)
      · rw [List.nodup_append]
        exact ⟨nd.1, nd2, fun a ha b hb => nd.2.2 a ha b (mm b hb)⟩
      · rcases List.mem_append.mp ha with z | z
        · exact List.mem_append_left _ z
        · exact List.mem_append_right _ (mm a z)
  · rw [e] at er
    exact absurd er nb
  · rw [e] at er
    exact absurd er nb
  · rw [e] at er
    cases eo : outsOf (ρ'.take n) with
    | none => simp only [eo] at er; exact absurd er nb
    | some outs =>
      simp only [eo] at er
      obtain ⟨A2, nd2, mm, st2⟩ := st'.takeN n
      rw [outsOf_eq eo, fx x] at st2
      exact hex y outs er cls d F' H' A2 st2 (g.weak mm) hx
end
end Mv

set_option Elab.async false
set_option linter.all false
set_option maxRecDepth 100000
set_option maxHeartbeats 4000000
namespace Mv
open PySem PySem.Spec PyProof.Rows L2

/-! ### plain data: equality, text -/
mutual
def PV.dat : PV → PyData
  | .non => .none | .bl b => .bool b | .int i => .int i | .str s => .str (mkS s) | .tup xs => .tuple (PV.dats xs) | .lst xs => .list (PV.dats xs)
  | .dic _ _ => .none | .scr _ => .none | .opq _ => .none
def PV.dats : List PV → List PyData
  | [] => []
  | x :: xs => PV.dat x :: PV.dats xs
end
mutual
def PV.isd : PV → Bool
  | .non => true | .bl _ => true | .int _ => true | .str _ => true | .tup xs => PV.isds xs | .lst xs => PV.isds xs
  | .dic _ _ => false | .scr _ => false | .opq _ => false
def PV.isds : List PV → Bool
  | [] => true
  | x :: xs => PV.isd x && PV.isds xs
end
mutual
def PV.chk : PV → Bool
  | .non => true | .bl _ => true | .int _ => true | .str s => s.all (· < 0x110000) | .tup xs => PV.chks xs | .lst xs => PV.chks xs
  | .dic _ _ => false | .scr _ => false | .opq _ => false
def PV.chks : List PV → Bool
  | [] => true
  | x :: xs => PV.chk x && PV.chks xs
end
mutual
def PV.dep : PV → Nat
  | .tup xs => PV.deps xs + 1 | .lst xs => PV.deps xs + 1
  | .non => 0 | .bl _ => 0 | .int _ => 0 | .str _ => 0 | .dic _ _ => 0 | .scr _ => 0 | .opq _ => 0
def PV.deps : List PV → Nat
  | [] => 0
  | x :: xs => max (PV.dep x) (PV.deps xs)
end
mutual
def PV.eqv : PV → PV → Bool
  | .non, q => (match q with | .non => true | _ => false)
  | .bl a, q => (match q with | .bl b => a == b | .int j => (if a then 1 else 0) == j | _ => false)
  | .int i, q => (match q with | .int j => i == j | .bl b => i == (if b then 1 else 0) | _ => false)
  | .str s, q => (match q with | .str t => decide (s = t) | _ => false)
  | .tup xs, q => (match q with | .tup ys => PV.eqvs xs ys | _ => false)
  | .lst xs, q => (match q with | .lst ys => PV.eqvs xs ys | _ => false)
  | .dic _ _, _ => false
  | .scr _, _ => false
  | .opq _, _ => false
def PV.eqvs : List PV → List PV → Bool
  | [], ys => (match ys with | [] => true | _ :: _ => false)
  | x :: xs, ys => (match ys with | [] => false | y :: ys => PV.eqv x y && PV.eqvs xs ys)
end
def PV.shp (p : PV) : Bool := p.chk && decide (p.dep ≤ 64)
theorem mkS_inj {s t : Tx} (h : mkS s = mkS t) : s = t := by
  have h2 : s.toArray = t.toArray := congrArg Str.cps h
  simpa using h2
theorem mkS_len (s : Tx) : (mkS s).length = s.length := by
  show s.toArray.size = s.length
  simp
mutual
theorem chk_isd : ∀ p : PV, p.chk = true → p.isd = true
  | .non, _ => by rw [PV.isd]
  | .bl _, _ => by rw [PV.isd]
  | .int _, _ => by rw [PV.isd]
  | .str _, _ => by rw [PV.isd]
  | .tup xs, h => by rw [PV.chk] at h; rw [PV.isd]; exact chks_isd xs h
  | .lst xs, h => by rw [PV.chk] at h; rw [PV.isd]; exact chks_isd xs h
  | .dic _ _, h => by rw [PV.chk] at h; cases h
  | .scr _, h => by rw [PV.chk] at h; cases h
  | .opq _, h => by rw [PV.chk] at h; cases h
theorem chks_isd : ∀ ps : List PV, PV.chks ps = true → PV.isds ps = true
  | [], _ => by rw [PV.isds]
  | x :: xs, h => by
    rw [PV.chks, Bool.and_eq_true] at h
    rw [PV.isds, chk_isd x h.1, chks_isd xs h.2]
    rfl
end
mutual
theorem dat_lay : ∀ p : PV, p.chk = true → p.dat.canLay0 = true
  | .non, _ => by rw [PV.dat, PyData.canLay0]
  | .bl _, _ => by rw [PV.dat, PyData.canLay0]
  | .int _, _ => by rw [PV.dat, PyData.canLay0]
  | .str s, h => by
    rw [PV.chk] at h
    rw [PV.dat, PyData.canLay0]
    show (s.toArray).all (· < 0x110000) = true
    simpa using h
  | .tup xs, h => by rw [PV.chk] at h; rw [PV.dat, PyData.canLay0]; exact dats_lay xs h
  | .lst xs, h => by rw [PV.chk] at h; rw [PV.dat, PyData.canLay0]; exact dats_lay xs h
  | .dic _ _, h => by rw [PV.chk] at h; cases h
  | .scr _, h => by rw [PV.chk] at h; cases h
  | .opq _, h => by rw [PV.chk] at h; cases h
theorem dats_lay : ∀ ps : List PV, PV.chks ps = true → PyData.canLayAll0 (PV.dats ps) = true
  | [], _ => by rw [PV.dats, PyData.canLayAll0]
  | x :: xs, h => by
    rw [PV.chks, Bool.and_eq_true] at h
    rw [PV.dats, PyData.canLayAll0, dat_lay x h.1, dats_lay xs h.2]
    rfl
end
mutual
theorem dat_dep : ∀ p : PV, p.isd = true → p.dat.depth = p.dep
  | .non, _ => by rw [PV.dat, PyData.depth, PV.dep]
  | .bl _, _ => by rw [PV.dat, PyData.depth, PV.dep]
  | .int _, _ => by rw [PV.dat, PyData.depth, PV.dep]
  | .str _, _ => by rw [PV.dat, PyData.depth, PV.dep]
  | .tup xs, h => by rw [PV.isd] at h; rw [PV.dat, PyData.depth, PV.dep, dats_dep xs h]
  | .lst xs, h => by rw [PV.isd] at h; rw [PV.dat, PyData.depth, PV.dep, dats_dep xs h]
  | .dic _ _, h => by rw [PV.isd] at h; cases h
  | .scr _, h => by rw [PV.isd] at h; cases h
  | .opq _, h => by rw [PV.isd] at h; cases h
theorem dats_dep : ∀ ps : List PV, PV.isds ps = true → PyData.depthAll (PV.dats ps) = PV.deps ps
  | [], _ => by rw [PV.dats, PyData.depthAll, PV.deps]
  | x :: xs, h => by
    rw [PV.isds, Bool.and_eq_true] at h
    rw [PV.dats, PyData.depthAll, PV.deps, dat_dep x h.1, dats_dep xs h.2]
end
theorem str_beq (s t : Tx) : (mkS s == mkS t) = decide (s = t) := by
  by_cases e : s = t
  · subst e; simp
  · rw [decide_eq_false e]
    exact beq_eq_false_iff_ne.mpr fun h => e (mkS_inj h)
mutual
theorem dat_eqv : ∀ p q : PV, p.isd = true → q.isd = true → PyData.eqv p.dat q.dat = PV.eqv p q
  | .non, q, _, h => by cases q <;> first | (simp only [PV.dat, PyData.eqv, PV.eqv]; done) | (rw [PV.isd] at h; cases h)
  | .bl _, q, _, h => by cases q <;> first | (simp only [PV.dat, PyData.eqv, PV.eqv]; done) | (rw [PV.isd] at h; cases h)
  | .int _, q, _, h => by cases q <;> first | (simp only [PV.dat, PyData.eqv, PV.eqv]; done) | (rw [PV.isd] at h; cases h)
  | .str _, q, _, h => by cases q <;> first | (simp only [PV.dat, PyData.eqv, PV.eqv, str_beq]; done) | (rw [PV.isd] at h; cases h)
  | .tup xs, q, h0, h => by
    cases q with
    | tup ys =>
      rw [PV.isd] at h h0
      simp only [PV.dat, PyData.eqv, PV.eqv]
      exact dats_eqv xs ys h0 h
    | _ => first | (simp only [PV.dat, PyData.eqv, PV.eqv]; done) | (rw [PV.isd] at h; cases h)
  | .lst xs, q, h0, h => by
    cases q with
    | lst ys =>
      rw [PV.isd] at h h0
      simp only [PV.dat, PyData.eqv, PV.eqv]
      exact dats_eqv xs ys h0 h
    | _ => first | (simp only [PV.dat, PyData.eqv, PV.eqv]; done) | (rw [PV.isd] at h; cases h)
  | .dic _ _, _, h, _ => by rw [PV.isd] at h; cases h
  | .scr _, _, h, _ => by rw [PV.isd] at h; cases h
  | .opq _, _, h, _ => by rw [PV.isd] at h; cases h
theorem dats_eqv : ∀ ps qs : List PV, PV.isds ps = true → PV.isds qs = true → PyData.eqvAll (PV.dats ps) (PV.dats qs) = PV.eqvs ps qs
  | [], qs, _, h => by cases qs <;> simp only [PV.dats, PyData.eqvAll, PV.eqvs]
  | x :: xs, qs, h0, h => by
    cases qs with
    | nil => simp only [PV.dats, PyData.eqvAll, PV.eqvs]
    | cons y ys =>
      rw [PV.isds, Bool.and_eq_true] at h h0
      simp only [PV.dats, PyData.eqvAll, PV.eqvs]
      rw [dat_eqv x y h0.1 h.1, dats_eqv xs ys h0.2 h.2]
end
mutual
theorem dp_of {K : PySem.W.Frag} {F : Hp} : ∀ (p : PV) (v : V), p.isd = true → RepF K F p v → Dp K F v p.dat
  | .non, v, _, h => by rw [RepF] at h; subst h; rw [PV.dat]; exact .non
  | .bl b, v, _, h => by rw [RepF] at h; subst h; rw [PV.dat]; exact .bl b
  | .int i, v, _, h => by rw [RepF] at h; subst h; rw [PV.dat]; exact .int i
  | .str s, v, _, h => by rw [RepF] at h; subst h; rw [PV.dat]; exact .str _
  | .tup xs, v, h0, h => by
    rw [RepF] at h
    rw [PV.isd] at h0
    obtain ⟨a, vs, rfl, e2, e3⟩ := h
    rw [PV.dat]
    exact .tup e2 (dps_of xs vs h0 e3)
  | .lst xs, v, h0, h => by
    rw [RepF] at h
    rw [PV.isd] at h0
    obtain ⟨a, vs, rfl, e2, e3⟩ := h
    rw [PV.dat]
    exact .lst (SqL.of e2) (dps_of xs vs h0 e3)
  | .dic _ _, _, h, _ => by rw [PV.isd] at h; cases h
  | .scr _, _, h, _ => by rw [PV.isd] at h; cases h
  | .opq _, _, h, _ => by rw [PV.isd] at h; cases h
theorem dps_of {K : PySem.W.Frag} {F : Hp} : ∀ (ps : List PV) (vs : List V), PV.isds ps = true → RepFs K F ps vs → DpAll K F vs (PV.dats ps)
  | [], vs, _, h => by rw [RepFs] at h; subst h; rw [PV.dats]; exact .nil
  | x :: xs, vs, h0, h => by
    rw [RepFs] at h
    rw [PV.isds, Bool.and_eq_true] at h0
    obtain ⟨v, r, rfl, e2, e3⟩ := h
    rw [PV.dats]
    exact .cons (dp_of x v h0.1 e2) (dps_of xs r h0.2 e3)
end
theorem shp_shaped {p : PV} (h : p.shp = true) : p.isd = true ∧ SeqAt.shaped p.dat = true := by
  unfold PV.shp at h
  rw [Bool.and_eq_true] at h
  have hi := chk_isd p h.1
  refine ⟨hi, ?_⟩
  unfold SeqAt.shaped
  rw [dat_lay p h.1, dat_dep p hi, h.2]
  rfl

/-! ### operators as plain functions -/
/-- the scalars that == tells apart without looking at signs -/
def PV.sc : PV → PV → Option Bool
  | .non, q => (match q with | .non => some true | .int _ => some false | .bl _ => some false | .str _ => some false | _ => none)
  | .int i, q => (match q with | .int j => some (decide (i = j)) | .non => some false | .str _ => some false | _ => none)
  | .bl i, q => (match q with | .bl j => some (decide (i = j)) | .non => some false | .str _ => some false | _ => none)
  | .str s, q => (match q with | .str t => some (decide (s = t)) | .non => some false | .int _ => some false | .bl _ => some false | _ => none)
  | _, _ => none
def pyEq (p q : PV) : Option Bool := match PV.sc p q with
  | some b => some b
  | none => if p.shp && q.shp then some (PV.eqv p q) else none
def pEq (p q : PV) : Option PV := (pyEq p q).map .bl
def pNe (p q : PV) : Option PV := (pyEq p q).map fun b => .bl (!b)
def POp (K : PySem.W.Frag) (r : R2) (op : PV → PV → Option PV) : Prop :=
  ∀ p q z x y, op p q = some z → ∀ (B : Hp) (W : WX), RepF K B p x → RepF K B q y → Ev K B (fr (RepF K)) W (fun _ H Q => r x y H Q) (SE.ret z)
def eOp (op : PV → PV → Option PV) (a b : SE PV) : SE PV := a.bind fun p => b.bind fun q => ofO (op p q)
section
variable {K : PySem.W.Frag} {W : WX} {ta tb : TE} {sa sb : SE PV} {B : Hp}
theorem ev_op {r : R2} {op : PV → PV → Option PV} (ho : POp K r op) (ha : Ev K B (fr (RepF K)) W ta sa) (hb : Ev K B (fr (RepF K)) W tb sb) : Ev K B (fr (RepF K)) W (tOp r ta tb) (eOp op sa sb) :=
  ha.bind fun p x B1 s1 hp => (hb.le s1).bind fun q y B2 s2 hq => Ev.ofO fun z hz => ho p q z x y hz B2 W (RepF.mono s2 _ _ hp) hq
/-- the value is there as it is -/
theorem ev_now {r : Hp → VK → Prop} {p : PV} {v : V} (hv : RepF K B p v) (h : ∀ F H, Same B F → Same F H → ∀ Q : VK, Q v H → r H Q) : Ev K B (fr (RepF K)) W (fun _ H Q => r H Q) (SE.ret p) := by
  intro ρ σ F H A sB st Q nb hok hex
  exact h F H sB st.sub Q (hok p ρ rfl v F H A [] st ⟨rfl, RepF.mono sB _ _ hv⟩ (by simpa using st.nod) (by simp) (by simpa using Go.refl F H A))
/-- a new object -/
theorem ev_new {r : Hp → VK → Prop} {p : PV} {o : HO} (hv : ∀ a F', Same B F' → F' a = some o → RepF K F' p (.ref a)) (h : ∀ F H, Same B F → Same F H → ∀ Q : VK, (∀ a, H a = none → Q (.ref a) (upd H a o)) → r H Q) : Ev K B (fr (RepF K)) W (fun _ H Q => r H Q) (SE.ret p) :=
  fun ρ σ F H A sB st Q nb hok hex => h F H sB st.sub Q (Ev.newF (W := W) hv ρ σ F H A sB st Q nb hok hex)
theorem ev_newM {r : Hp → VK → Prop} {m : MV} {o : HO} (hv : ∀ a F' H', Same B F' → H' a = some o → RepM K F' H' m (.ref a) [a]) (h : ∀ F H, Same B F → Same F H → ∀ Q : VK, (∀ a, H a = none → Q (.ref a) (upd H a o)) → r H Q) : Ev K B (RepM K) W (fun _ H Q => r H Q) (SE.ret m) :=
  fun ρ σ F H A sB st Q nb hok hex => h F H sB st.sub Q (Ev.newM (W := W) hv ρ σ F H A sB st Q nb hok hex)
theorem rep_tup {F : Hp} {a : Addr} {ps : List PV} {vs : List V} (e : F a = some (.tup vs)) (h : RepFs K F ps vs) : RepF K F (.tup ps) (.ref a) := by
  rw [RepF]
  exact ⟨a, vs, rfl, SqT.of e, h⟩
theorem rep_lst {F : Hp} {a : Addr} {ps : List PV} {vs : List V} (e : F a = some (.lst vs)) (h : RepFs K F ps vs) : RepF K F (.lst ps) (.ref a) := by
  rw [RepF]
  exact ⟨a, vs, rfl, e, h⟩
theorem rep_ml {F H : Hp} {a : Addr} {ps : List PV} {vs : List V} (e : H a = some (.lst vs)) (h : RepFs K F ps vs) : RepM K F H (.ml (ps.map .fz)) (.ref a) [a] := by
  rw [RepM]
  exact ⟨a, vs, [], rfl, e, rfl, RepMs.fz h⟩
end

/-! ### == and != -/
def rEqA (K : PySem.W.Frag) : R2 := fun x y H Q => rEq x y H Q ∨ rEqD K x y H Q
def rNeA (K : PySem.W.Frag) : R2 := fun x y H Q => rNe x y H Q ∨ rNeD K x y H Q
theorem sc_scal {K : PySem.W.Frag} {F : Hp} {p q : PV} {x y : V} {b : Bool} (h : PV.sc p q = some b) (hp : RepF K F p x) (hq : RepF K F q y) : scal x y = true ∧ decide (x = y) = b := by
  cases p <;> cases q <;> first
    | exact nomatch (show (none : Option Bool) = some b from h)
    | (simp only [RepF] at hp hq
       subst hp hq
       have e := Option.some.inj h
       subst e
       refine ⟨rfl, ?_⟩
       first
         | rfl
         | (simp; done)
         | exact decide_eq_decide.mpr ⟨fun e => mkS_inj (V.str.inj e), fun e => by rw [e]⟩)
theorem pop_eq {K : PySem.W.Frag} : POp K (rEqA K) pEq := by
  intro p q z x y hz B W hp hq
  unfold pEq pyEq at hz
  cases e : PV.sc p q with
  | some b =>
    rw [e] at hz
    cases hz
    obtain ⟨h1, h2⟩ := sc_scal e hp hq
    exact ev_now (v := .bl b) (by rw [RepF]) fun F H _ _ Q q => .inl ⟨h1, by rw [h2]; exact q⟩
  | none =>
    rw [e] at hz
    by_cases hs : (p.shp && q.shp) = true
    · rw [if_pos hs] at hz
      cases hz
      rw [Bool.and_eq_true] at hs
      obtain ⟨i1, s1⟩ := shp_shaped hs.1
      obtain ⟨i2, s2⟩ := shp_shaped hs.2
      refine ev_now (v := .bl _) (by rw [RepF]) fun F H sB sF Q k => .inr ⟨p.dat, q.dat, dp_of _ _ i1 (RepF.mono (sB.trans sF) _ _ hp), dp_of _ _ i2 (RepF.mono (sB.trans sF) _ _ hq), s1, s2, ?_⟩
      rw [dat_eqv p q i1 i2]
      exact k
    · rw [if_neg hs] at hz
      cases hz
theorem pop_ne {K : PySem.W.Frag} : POp K (rNeA K) pNe := by
  intro p q z x y hz B W hp hq
  unfold pNe pyEq at hz
  cases e : PV.sc p q with
  | some b =>
    rw [e] at hz
    cases hz
    obtain ⟨h1, h2⟩ := sc_scal e hp hq
    exact ev_now (v := .bl (!b)) (by rw [RepF]) fun F H _ _ Q q => .inl ⟨h1, by rw [h2]; exact q⟩
  | none =>
    rw [e] at hz
    by_cases hs : (p.shp && q.shp) = true
    · rw [if_pos hs] at hz
      cases hz
      rw [Bool.and_eq_true] at hs
      obtain ⟨i1, s1⟩ := shp_shaped hs.1
      obtain ⟨i2, s2⟩ := shp_shaped hs.2
      refine ev_now (v := .bl _) (by rw [RepF]) fun F H sB sF Q k => .inr ⟨p.dat, q.dat, dp_of _ _ i1 (RepF.mono (sB.trans sF) _ _ hp), dp_of _ _ i2 (RepF.mono (sB.trans sF) _ _ hq), s1, s2, ?_⟩
      rw [dat_eqv p q i1 i2]
      exact k
    · rw [if_neg hs] at hz
      cases hz

/-! ### + - * // % ** -/
def pAdd (p q : PV) : Option PV := match p with
  | .int i => (match q with | .int j => some (.int (i + j)) | _ => none)
  | .str s => (match q with | .str t => if s.length + t.length ≤ 16777216 then some (.str (s ++ t)) else none | _ => none)
  | .lst xs => (match q with | .lst ys => if xs.length + ys.length ≤ 16777216 then some (.lst (xs ++ ys)) else none | _ => none)
  | .tup xs => (match q with | .tup ys => if xs.length + ys.length ≤ 16777216 then some (.tup (xs ++ ys)) else none | _ => none)
  | _ => none
abbrev rAddS : R2 := fun x y H Q => ∃ i j, x = .str i ∧ y = .str j ∧ i.length + j.length ≤ sizeLine ∧ Q (.str (i ++ j)) H
def rAddA (K : PySem.W.Frag) : R2 := fun x y H Q => rI0 (fun i j => .int (i + j)) x y H Q ∨ rAddS x y H Q ∨ rCat x y H Q ∨ rCatA K x y H Q
theorem line_eq : (sizeLine : Nat) = 16777216 := sizeLine_eq
theorem mkS_app (s t : Tx) : mkS s ++ mkS t = mkS (s ++ t) := by
  apply TL.ext_tl
  rw [TL.tl_append]
  rfl
theorem pop_add {K : PySem.W.Frag} : POp K (rAddA K) pAdd := by
  intro p q z x y hz B W hp hq
  unfold pAdd at hz
  cases p with
  | int i =>
    cases q with
    | int j =>
      cases hz
      rw [RepF] at hp hq
      exact ev_now (v := .int (i + j)) (by rw [RepF]) fun F H _ _ Q k => .inl ⟨i, j, hp, hq, k⟩
    | _ => cases hz
  | str s =>
    cases q with
    | str t =>
      dsimp only at hz
      split at hz
      · rename_i hl
        cases hz
        rw [RepF] at hp hq
        refine ev_now (v := .str (mkS (s ++ t))) (by rw [RepF]) fun F H _ _ Q k => .inr (.inl ⟨mkS s, mkS t, hp, hq, by rw [mkS_len, mkS_len, line_eq]; exact hl, ?_⟩)
        rw [mkS_app]
        exact k
      · cases hz
    | _ => cases hz
  | lst xs =>
    cases q with
    | lst ys =>
      dsimp only at hz
      split at hz
      · rename_i hl
        cases hz
        rw [RepF] at hp hq
        obtain ⟨a, vs, e1, e2, e3⟩ := hp
        obtain ⟨b, ws, f1, f2, f3⟩ := hq
        refine ev_new (o := .lst (vs ++ ws)) (fun c F' s h => rep_lst h (RepFs.append (RepFs.mono s _ _ e3) (RepFs.mono s _ _ f3))) fun F H sB sF Q k => .inr (.inr (.inl ⟨a, b, vs, ws, e1, f1, sF _ _ (sB _ _ e2), sF _ _ (sB _ _ f2), by rw [e3.length, f3.length, line_eq]; exact hl, k⟩))
      · cases hz
    | _ => cases hz
  | tup xs =>
    cases q with
    | tup ys =>
      dsimp only at hz
      split at hz
      · rename_i hl
        cases hz
        rw [RepF] at hp hq
        obtain ⟨a, vs, e1, e2, e3⟩ := hp
        obtain ⟨b, ws, f1, f2, f3⟩ := hq
        intro ρ σ F H A sB st Q nb hok hex
        refine .inr (.inr (.inr ⟨a, b, vs, ws, e1, f1, same_t (sB.trans st.sub) e2, same_t (sB.trans st.sub) f2, by rw [e3.length, f3.length, line_eq]; exact hl, fun hv => ?_, fun hv hw => ?_, fun hv hw => ?_⟩))
        · subst hv
          have hx : xs = [] := List.length_eq_zero_iff.mp e3.length.symm
          subst hx
          exact hok _ ρ rfl (.ref b) F H A [] st ⟨rfl, by rw [RepF]; exact ⟨b, ws, rfl, same_t sB f2, by simpa using RepFs.mono sB _ _ f3⟩⟩ (by simpa using st.nod) (by simp) (by simpa using Go.refl F H A)
        · subst hw
          have hy : ys = [] := List.length_eq_zero_iff.mp f3.length.symm
          subst hy
          exact hok _ ρ rfl (.ref a) F H A [] st ⟨rfl, by rw [RepF]; exact ⟨a, vs, rfl, same_t sB e2, by simpa using RepFs.mono sB _ _ e3⟩⟩ (by simpa using st.nod) (by simp) (by simpa using Go.refl F H A)
        · exact Ev.newF (W := W) (o := .tup (vs ++ ws)) (B := B) (p := .tup (xs ++ ys)) (fun c F' s h => rep_tup h (RepFs.append (RepFs.mono s _ _ e3) (RepFs.mono s _ _ f3))) ρ σ F H A sB st Q nb hok hex
      · cases hz
    | _ => cases hz
  | _ => cases hz
def pSub (p q : PV) : Option PV := match p with
  | .int i => (match q with | .int j => some (.int (i - j)) | _ => none)
  | _ => none
theorem pop_sub {K : PySem.W.Frag} : POp K (rI0 fun i j => .int (i - j)) pSub := by
  intro p q z x y hz B W hp hq
  unfold pSub at hz
  cases p with
  | int i =>
    cases q with
    | int j =>
      cases hz
      rw [RepF] at hp hq
      exact ev_now (v := .int (i - j)) (by rw [RepF]) fun F H _ _ Q k => ⟨i, j, hp, hq, k⟩
    | _ => cases hz
  | _ => cases hz
instance (i j : Int) : Decidable (CMul i j) := by unfold CMul; infer_instance
instance (i j : Int) : Decidable (CPow i j) := by unfold CPow; infer_instance
/-- a text, a list, a tuple so many times -/
def pMul (p q : PV) : Option PV := match p with
  | .int i => (match q with | .int j => if CMul i j then some (.int (i * j)) else none | _ => none)
  | .str s => (match q with | .int k => if s.length * k.toNat ≤ 16777216 ∧ -1000000000 ≤ k ∧ k ≤ 1000000000 then some (.str (List.replicate k.toNat s).flatten) else none | _ => none)
  | .lst xs => (match q with | .int k => if xs.length * k.toNat ≤ 16777216 ∧ -1000000000 ≤ k ∧ k ≤ 1000000000 then some (.lst (List.replicate k.toNat xs).flatten) else none | _ => none)
  | _ => none
def rMulS : R2 := fun x y H Q => ∃ z k, x = .str z ∧ y = .int k ∧ z.length * k.toNat ≤ sizeLine ∧ -1000000000 ≤ k ∧ k ≤ 1000000000 ∧ Q (.str (mkS (List.replicate k.toNat z.cps.toList).flatten)) H
theorem foldl_rep_toList (x : Array Nat) : ∀ (n : Nat) (acc : Array Nat), ((List.replicate n x).foldl (· ++ ·) acc).toList = acc.toList ++ (List.replicate n x.toList).flatten
  | 0, acc => by simp
  | n + 1, acc => by
    rw [List.replicate_succ, List.foldl_cons, foldl_rep_toList x n (acc ++ x), List.replicate_succ, List.flatten_cons, Array.toList_append, List.append_assoc]
theorem op_mulS {X : Cx} : OpR X (binaryOp .Mult) rMulS := by
  intro pins s σ H x y v u Q I rx ry h
  obtain ⟨z, k, rfl, rfl, hz, h1, h2, q⟩ := h
  obtain ⟨t, rfl⟩ := rx
  obtain ⟨t', rfl⟩ := ry
  have hl := line_eq
  have ev : (if k < 1 then Made.str Str.empty else if (k == 1 || z.length == 0) = true then Made.val (.str z t) else Made.str ⟨(List.replicate k.toNat z.cps).foldl (· ++ ·) #[]⟩).post (EP X pins σ Q) s := by
    by_cases k1 : k < 1
    · rw [if_pos k1]
      have e0 : k.toNat = 0 := by omega
      rw [e0] at q
      exact ⟨by decide, ⟨.str Str.empty, H, I.tok _, ⟨_, rfl⟩, q⟩⟩
    · rw [if_neg k1]
      by_cases k2 : (k == 1 || z.length == 0) = true
      · rw [if_pos k2]
        have ez : mkS (List.replicate k.toNat z.cps.toList).flatten = z := by
          rcases Bool.or_eq_true_iff.mp k2 with k3 | k3
          · have : k = 1 := by simpa using k3
            subst this
            apply TL.ext_tl
            show (List.replicate 1 z.cps.toList).flatten = z.cps.toList
            simp
          · have k4 : z.length = 0 := by simpa using k3
            have k5 : z.cps.toList = [] := by
              have : z.cps.toList.length = 0 := by simpa [Str.length] using k4
              exact List.length_eq_zero_iff.mp this
            apply TL.ext_tl
            show (List.replicate k.toNat z.cps.toList).flatten = z.cps.toList
            rw [k5]
            simp
        rw [ez] at q
        exact ⟨.str z, H, I, ⟨t, rfl⟩, q⟩
      · rw [if_neg k2]
        have ee : (⟨(List.replicate k.toNat z.cps).foldl (· ++ ·) #[]⟩ : Str) = mkS (List.replicate k.toNat z.cps.toList).flatten := by
          apply TL.ext_tl
          show ((List.replicate k.toNat z.cps).foldl (· ++ ·) #[]).toList = _
          rw [foldl_rep_toList]
          rfl
        rw [ee]
        refine ⟨?_, ⟨.str _, H, I.tok _, ⟨_, rfl⟩, q⟩⟩
        rw [mkS_len]
        simp only [List.length_flatten, List.map_replicate, List.sum_replicate_nat]
        have : z.cps.toList.length = z.length := by simp [Str.length]
        rw [this, Nat.mul_comm]
        omega
  refine P.mul_str (by
    rw [Bool.or_eq_false_iff]
    exact ⟨decide_eq_false (by omega), decide_eq_false (by omega)⟩) (fun hk1 _ hgt => ?_) (fun hk1 _ => ?_) ev
  · have h3 : (16777216 : Int) ≤ (2 ^ 63 - 1) / k := (Int.le_ediv_iff_mul_le (by omega)).mpr (by omega)
    have h4 : z.length ≤ z.length * k.toNat := Nat.le_mul_of_pos_right _ (by omega)
    omega
  · have : (z.length * k.toNat) ≤ sizeLine := hz
    first | exact decide_eq_false (by omega) | (unfold tooLong; exact decide_eq_false (by omega))
end Mv

set_option Elab.async false
set_option linter.all false
set_option maxRecDepth 100000
set_option maxHeartbeats 4000000
namespace Mv
open PySem PySem.Spec PyProof.Rows L2

theorem repI {K : PySem.W.Frag} {F : Hp} {i : Int} {v : V} : RepF K F (.int i) v ↔ v = .int i := by rw [RepF]
theorem repB {K : PySem.W.Frag} {F : Hp} {b : Bool} {v : V} : RepF K F (.bl b) v ↔ v = .bl b := by rw [RepF]
theorem repS {K : PySem.W.Frag} {F : Hp} {s : Tx} {v : V} : RepF K F (.str s) v ↔ v = .str (mkS s) := by rw [RepF]
theorem repN {K : PySem.W.Frag} {F : Hp} {v : V} : RepF K F .non v ↔ v = .non := by rw [RepF]
theorem repFs1 {K : PySem.W.Frag} {F : Hp} {p : PV} {vs : List V} (h : RepFs K F [p] vs) : ∃ v, vs = [v] ∧ RepF K F p v := by
  rw [RepFs] at h
  obtain ⟨v, r, e1, e2, e3⟩ := h
  rw [RepFs] at e3
  subst e3
  exact ⟨v, e1, e2⟩
theorem repFs2 {K : PySem.W.Frag} {F : Hp} {p q : PV} {vs : List V} (h : RepFs K F [p, q] vs) : ∃ v w, vs = [v, w] ∧ RepF K F p v ∧ RepF K F q w := by
  rw [RepFs] at h
  obtain ⟨v, r, e1, e2, e3⟩ := h
  obtain ⟨w, f1, f2⟩ := repFs1 e3
  subst f1
  exact ⟨v, w, e1, e2, f2⟩

/-! ### numbers -/
def rMulA : R2 := fun x y H Q => rI CMul (fun i j => .int (i * j)) x y H Q ∨ rMulS x y H Q ∨ rRep x y H Q
theorem pop_mul {K : PySem.W.Frag} : POp K rMulA pMul := by
  intro p q z x y hz B W hp hq
  unfold pMul at hz
  cases p with
  | int i =>
    cases q with
    | int j =>
      dsimp only at hz
      split at hz
      · rename_i hl
        cases hz
        exact ev_now (v := .int (i * j)) (repI.mpr rfl) fun F H _ _ Q k => .inl ⟨i, j, repI.mp hp, repI.mp hq, hl, k⟩
      · cases hz
    | _ => cases hz
  | str s =>
    cases q with
    | int k =>
      dsimp only at hz
      split at hz
      · rename_i hl
        cases hz
        exact ev_now (v := .str (mkS _)) (repS.mpr rfl) fun F H _ _ Q q => .inr (.inl ⟨mkS s, k, repS.mp hp, repI.mp hq, by rw [mkS_len, line_eq]; exact hl.1, hl.2.1, hl.2.2, q⟩)
      · cases hz
    | _ => cases hz
  | lst xs =>
    cases q with
    | int k =>
      dsimp only at hz
      split at hz
      · rename_i hl
        cases hz
        rw [RepF] at hp
        obtain ⟨a, vs, e1, e2, e3⟩ := hp
        have hr : ∀ F' : Hp, Same B F' → ∀ n : Nat, RepFs K F' (List.replicate n xs).flatten (List.replicate n vs).flatten := fun F' s n => by
          induction n with
          | zero => rw [List.replicate_zero, List.replicate_zero]; simp [RepFs]
          | succ n ih =>
            rw [List.replicate_succ, List.replicate_succ, List.flatten_cons, List.flatten_cons]
            exact RepFs.append (RepFs.mono s _ _ e3) ih
        exact ev_new (o := .lst (List.replicate k.toNat vs).flatten) (fun c F' s h => rep_lst h (hr F' s _)) fun F H sB sF Q q => .inr (.inr ⟨a, k, vs, e1, repI.mp hq, sF _ _ (sB _ _ e2), by omega, by omega, by rw [e3.length, line_eq]; exact hl.1, q⟩)
      · cases hz
    | _ => cases hz
  | _ => cases hz
def pMod (p q : PV) : Option PV := match p with
  | .int i => (match q with | .int j => if 0 < j then some (.int (i % j)) else none | _ => none)
  | _ => none
theorem pop_mod {K : PySem.W.Frag} : POp K (rI (fun _ j => 0 < j) fun i j => .int (i % j)) pMod := by
  intro p q z x y hz B W hp hq
  unfold pMod at hz
  cases p with
  | int i =>
    cases q with
    | int j =>
      dsimp only at hz
      split at hz
      · rename_i hl
        cases hz
        exact ev_now (v := .int (i % j)) (repI.mpr rfl) fun F H _ _ Q k => ⟨i, j, repI.mp hp, repI.mp hq, hl, k⟩
      · cases hz
    | _ => cases hz
  | _ => cases hz
instance (i j : Int) : Decidable (CDiv i j) := by unfold CDiv; infer_instance
def pFdiv (p q : PV) : Option PV := match p with
  | .int i => (match q with | .int j => if CDiv i j then some (.int (i / j)) else none | _ => none)
  | _ => none
theorem pop_fdiv {K : PySem.W.Frag} : POp K (rI CDiv fun i j => .int (i / j)) pFdiv := by
  intro p q z x y hz B W hp hq
  unfold pFdiv at hz
  cases p with
  | int i =>
    cases q with
    | int j =>
      dsimp only at hz
      split at hz
      · rename_i hl
        cases hz
        exact ev_now (v := .int (i / j)) (repI.mpr rfl) fun F H _ _ Q k => ⟨i, j, repI.mp hp, repI.mp hq, hl, k⟩
      · cases hz
    | _ => cases hz
  | _ => cases hz
def pPow (p q : PV) : Option PV := match p with
  | .int i => (match q with | .int j => if CPow i j then some (.int (i ^ j.toNat)) else none | _ => none)
  | _ => none
theorem pop_pow {K : PySem.W.Frag} : POp K (rI CPow fun i j => .int (i ^ j.toNat)) pPow := by
  intro p q z x y hz B W hp hq
  unfold pPow at hz
  cases p with
  | int i =>
    cases q with
    | int j =>
      dsimp only at hz
      split at hz
      · rename_i hl
        cases hz
        exact ev_now (v := .int (i ^ j.toNat)) (repI.mpr rfl) fun F H _ _ Q k => ⟨i, j, repI.mp hp, repI.mp hq, hl, k⟩
      · cases hz
    | _ => cases hz
  | _ => cases hz

/-! ### < <= > >= -/
def pCmp (f : Int → Int → Bool) (g : Tx → Tx → Bool) (p q : PV) : Option PV := match p with
  | .int i => (match q with | .int j => some (.bl (f i j)) | _ => none)
  | .str s => (match q with | .str t => some (.bl (g s t)) | _ => none)
  | _ => none
abbrev pLt := pCmp (fun i j => decide (i < j)) fun s t => decide (s < t)
abbrev pLe := pCmp (fun i j => decide (i ≤ j)) fun s t => !decide (t < s)
abbrev pGt := pCmp (fun i j => decide (j < i)) fun s t => decide (t < s)
abbrev pGe := pCmp (fun i j => decide (j ≤ i)) fun s t => !decide (s < t)
def rCmpA (f : Int → Int → Bool) (g : Tx → Tx → Bool) : R2 := fun x y H Q => rI0 (fun i j => .bl (f i j)) x y H Q ∨ ∃ i j, x = .str i ∧ y = .str j ∧ Q (.bl (g i.cps.toList j.cps.toList)) H
theorem pop_cmp {K : PySem.W.Frag} {f : Int → Int → Bool} {g : Tx → Tx → Bool} : POp K (rCmpA f g) (pCmp f g) := by
  intro p q z x y hz B W hp hq
  unfold pCmp at hz
  cases p with
  | int i =>
    cases q with
    | int j =>
      cases hz
      exact ev_now (v := .bl (f i j)) (repB.mpr rfl) fun F H _ _ Q k => .inl ⟨i, j, repI.mp hp, repI.mp hq, k⟩
    | _ => cases hz
  | str i =>
    cases q with
    | str j =>
      cases hz
      exact ev_now (v := .bl (g i j)) (repB.mpr rfl) fun F H _ _ Q k => .inr ⟨mkS i, mkS j, repS.mp hp, repS.mp hq, k⟩
    | _ => cases hz
  | _ => cases hz
section
variable {X : Cx}
theorem op_ltA : OpR X (compareOp .Lt) (rCmpA (fun i j => decide (i < j)) fun s t => decide (s < t)) := op_lt.or op_lt_str
theorem op_leA : OpR X (compareOp .LtE) (rCmpA (fun i j => decide (i ≤ j)) fun s t => !decide (t < s)) := op_le.or op_le_str
theorem op_gtA : OpR X (compareOp .Gt) (rCmpA (fun i j => decide (j < i)) fun s t => decide (t < s)) := op_gt.or op_gt_str
theorem op_geA : OpR X (compareOp .GtE) (rCmpA (fun i j => decide (j ≤ i)) fun s t => !decide (s < t)) := op_ge.or op_ge_str
theorem op_addA : OpR X (binaryOp .Add) (rAddA X.K) := op_add.or (op_add_str.or (op_cat.or op_catA))
theorem op_mulA : OpR X (binaryOp .Mult) rMulA := op_mul.or (op_mulS.or op_rep)
theorem op_eqA (hr : ∃ k, Room k X.A) : OpR X (compareOp .Eq) (rEqA X.K) := op_eq.or (op_eqD (let ⟨_, r⟩ := hr; r.units))
theorem op_neA (hr : ∃ k, Room k X.A) : OpR X (compareOp .NotEq) (rNeA X.K) := op_ne.or (op_neD (let ⟨_, r⟩ := hr; r.units))
end
/-! ### is -/
def PV.nonQ : PV → Bool
  | .non => true
  | _ => false
def pIsN (p q : PV) : Option PV := match q with
  | .non => some (.bl p.nonQ)
  | .bl b => (match p with | .bl a => some (.bl (decide (a = b))) | _ => none)
  | _ => none
def pNotN (p q : PV) : Option PV := match q with
  | .non => some (.bl (!p.nonQ))
  | .bl b => (match p with | .bl a => some (.bl (!decide (a = b))) | _ => none)
  | _ => none
theorem nonQ_of {K : PySem.W.Frag} {F : Hp} {p : PV} {v : V} (h : RepF K F p v) (ho : ∀ u, p ≠ .opq u) : decide (v = .non) = p.nonQ := by
  cases p with
  | non => rw [repN.mp h]; rfl
  | bl b => rw [repB.mp h]; rfl
  | int i => rw [repI.mp h]; rfl
  | str s => rw [repS.mp h]; rfl
  | tup xs => rw [RepF] at h; obtain ⟨a, vs, rfl, _⟩ := h; rfl
  | lst xs => rw [RepF] at h; obtain ⟨a, vs, rfl, _⟩ := h; rfl
  | dic ks xs => rw [RepF] at h; obtain ⟨a, vs, rfl, _⟩ := h; rfl
  | scr xs => rw [RepF] at h; obtain ⟨a, rfl, _⟩ := h; rfl
  | opq u => exact absurd rfl (ho u)
def rIsA : R2 := fun x y H Q => (y = .non ∧ Q (.bl (decide (x = .non))) H) ∨ ∃ a b, x = .bl a ∧ y = .bl b ∧ Q (.bl (decide (a = b))) H
def rNotA : R2 := fun x y H Q => (y = .non ∧ Q (.bl (!decide (x = .non))) H) ∨ ∃ a b, x = .bl a ∧ y = .bl b ∧ Q (.bl (!decide (a = b))) H
theorem op_isA {X : Cx} : OpR X (compareOp .Is) rIsA := op_isN.or op_is_bl
theorem op_notA {X : Cx} : OpR X (compareOp .IsNot) rNotA := op_notN.or op_isnot_bl
def noOpq (f : PV → PV → Option PV) (p q : PV) : Option PV := match p with
  | .opq _ => none
  | p => f p q
theorem noOpq_some {f : PV → PV → Option PV} {p q z : PV} (h : noOpq f p q = some z) : f p q = some z ∧ ∀ u, p ≠ .opq u := by
  cases p <;> first
    | exact nomatch (show (none : Option PV) = some z from h)
    | exact ⟨h, fun u e => nomatch e⟩
theorem pop_is {K : PySem.W.Frag} : POp K rIsA (noOpq pIsN) := by
  intro p q z x y hz B W hp hq
  obtain ⟨hz, ho⟩ := noOpq_some hz
  unfold pIsN at hz
  cases q with
  | non =>
    cases hz
    exact ev_now (v := .bl _) (repB.mpr rfl) fun F H _ _ Q k => .inl ⟨repN.mp hq, by rw [nonQ_of hp ho]; exact k⟩
  | bl b =>
    cases p with
    | bl a =>
      cases hz
      exact ev_now (v := .bl _) (repB.mpr rfl) fun F H _ _ Q k => .inr ⟨a, b, repB.mp hp, repB.mp hq, k⟩
    | _ => cases hz
  | _ => cases hz
theorem pop_not {K : PySem.W.Frag} : POp K rNotA (noOpq pNotN) := by
  intro p q z x y hz B W hp hq
  obtain ⟨hz, ho⟩ := noOpq_some hz
  unfold pNotN at hz
  cases q with
  | non =>
    cases hz
    exact ev_now (v := .bl _) (repB.mpr rfl) fun F H _ _ Q k => .inl ⟨repN.mp hq, by rw [nonQ_of hp ho]; exact k⟩
  | bl b =>
    cases p with
    | bl a =>
      cases hz
      exact ev_now (v := .bl _) (repB.mpr rfl) fun F H _ _ Q k => .inr ⟨a, b, repB.mp hp, repB.mp hq, k⟩
    | _ => cases hz
  | _ => cases hz

/-! ### in -/
def PV.flat : PV → Bool
  | .non => true | .bl _ => true | .int _ => true | .str _ => true
  | .tup _ => false | .lst _ => false | .dic _ _ => false | .scr _ => false | .opq _ => false
def pyIn (p q : PV) : Option Bool := match q with
  | .str z => (match p with | .str [c] => some (decide (c ∈ z)) | _ => none)
  | .tup xs => if p.flat && xs.all PV.flat then some (xs.any fun y => PV.eqv y p) else none
  | .lst xs => if p.flat && xs.all PV.flat then some (xs.any fun y => PV.eqv y p) else
      if p.shp && (PV.lst xs).shp then some (xs.any fun y => PV.eqv y p) else none
  | _ => none
def pIn (p q : PV) : Option PV := (pyIn p q).map .bl
def pNotIn (p q : PV) : Option PV := (pyIn p q).map fun b => .bl (!b)
theorem flat_V {K : PySem.W.Frag} {F : Hp} {p : PV} {v : V} (h : RepF K F p v) (hf : p.flat = true) : flatV v = true := by
  cases p with
  | non => rw [repN.mp h]; rfl
  | bl b => rw [repB.mp h]; rfl
  | int i => rw [repI.mp h]; rfl
  | str s => rw [repS.mp h]; rfl
  | _ => cases hf
theorem flat_all {K : PySem.W.Frag} {F : Hp} : ∀ {ps : List PV} {vs : List V}, RepFs K F ps vs → ps.all PV.flat = true → vs.all flatV = true
  | [], vs, h, _ => by rw [RepFs] at h; subst h; rfl
  | x :: xs, vs, h, hf => by
    rw [RepFs] at h
    obtain ⟨v, r, rfl, e2, e3⟩ := h
    rw [List.all_cons, Bool.and_eq_true] at hf
    rw [List.all_cons, flat_V e2 hf.1, flat_all e3 hf.2]
    rfl
theorem eqV_of {K : PySem.W.Frag} {F : Hp} {p q : PV} {x y : V} (hp : RepF K F p x) (hq : RepF K F q y) (h1 : p.flat = true) (h2 : q.flat = true) : eqV x y = PV.eqv p q := by
  cases p <;> first
    | exact nomatch (show false = true from h1)
    | (cases q <;> first
        | exact nomatch (show false = true from h2)
        | (simp only [RepF] at hp hq
           subst hp hq
           simp only [PV.eqv, eqV]
           done)
        | (simp only [RepF] at hp hq
           subst hp hq
           simp only [PV.eqv, eqV, str_beq]))
theorem inV_of {K : PySem.W.Frag} {F : Hp} {p : PV} {x : V} (hp : RepF K F p x) (h1 : p.flat = true) : ∀ {ps : List PV} {vs : List V}, RepFs K F ps vs → ps.all PV.flat = true → inV x vs = ps.any fun y => PV.eqv y p
  | [], vs, h, _ => by rw [RepFs] at h; subst h; rfl
  | q :: ps, vs, h, hf => by
    rw [RepFs] at h
    obtain ⟨v, r, rfl, e2, e3⟩ := h
    rw [List.all_cons, Bool.and_eq_true] at hf
    have ih := inV_of hp h1 e3 hf.2
    unfold inV at ih ⊢
    rw [List.any_cons, List.any_cons, ih, eqV_of e2 hp hf.1 h1]
def rInS : R2 := fun x y H Q => ∃ (c : Nat) (z : Str), x = .str ⟨#[c]⟩ ∧ y = .str z ∧ Q (.bl (decide (c ∈ z.cps.toList))) H
def rNotInS : R2 := fun x y H Q => ∃ (c : Nat) (z : Str), x = .str ⟨#[c]⟩ ∧ y = .str z ∧ Q (.bl (!decide (c ∈ z.cps.toList))) H
def rInA (K : PySem.W.Frag) : R2 := fun x y H Q => rInS x y H Q ∨ rIn K false x y H Q ∨ rInD K x y H Q
def rNotInA (K : PySem.W.Frag) : R2 := fun x y H Q => rNotInS x y H Q ∨ rIn K true x y H Q ∨ rNotInD K x y H Q
theorem op_inA {X : Cx} (hr : ∃ k, Room k X.A) : OpR X (compareOp .In) (rInA X.K) := op_in_sign.or (op_in_seq.or (op_inD (let ⟨_, r⟩ := hr; by have := r.un; omega)))
theorem op_notInA {X : Cx} (hr : ∃ k, Room k X.A) : OpR X (compareOp .NotIn) (rNotInA X.K) := op_notIn_sign.or (op_notIn_seq.or (op_notInD (let ⟨_, r⟩ := hr; by have := r.un; omega)))
theorem dats_any {p : PV} (hp : p.isd = true) : ∀ {ps : List PV}, PV.isds ps = true → ((PV.dats ps).any fun z => PyData.eqv z p.dat) = ps.any fun y => PV.eqv y p
  | [], _ => by rw [PV.dats]; rfl
  | x :: xs, h => by
    rw [PV.isds, Bool.and_eq_true] at h
    rw [PV.dats, List.any_cons, List.any_cons, dat_eqv x p h.1 hp, dats_any hp h.2]
theorem pin_cases {K : PySem.W.Frag} {p q : PV} {b : Bool} (h : pyIn p q = some b) {B : Hp} {x y : V} (hp : RepF K B p x) (hq : RepF K B q y) :
    (∃ c z, x = .str ⟨#[c]⟩ ∧ y = .str z ∧ decide (c ∈ z.cps.toList) = b) ∨
    (∃ a xs, y = .ref a ∧ (∀ F, Same B F → SqL K F a xs ∨ SqT K F a xs) ∧ flatV x = true ∧ xs.all flatV = true ∧ inV x xs = b) ∨
    (∃ d ds, (∀ F, Same B F → Dp K F x d ∧ Dp K F y (.list ds)) ∧ SeqAt.shaped d = true ∧ SeqAt.shaped (.list ds) = true ∧ (ds.any fun z => PyData.eqv z d) = b) := by
  unfold pyIn at h
  cases q with
  | str z =>
    cases p with
    | str s =>
      match s, h with
      | [c], h =>
        cases h
        exact .inl ⟨c, mkS z, repS.mp hp, repS.mp hq, rfl⟩
    | _ => cases h
  | tup xs =>
    dsimp only at h
    split at h
    · rename_i hf
      rw [Bool.and_eq_true] at hf
      cases h
      rw [RepF] at hq
      obtain ⟨a, vs, e1, e2, e3⟩ := hq
      exact .inr (.inl ⟨a, vs, e1, fun F s => .inr (same_t s e2), flat_V hp hf.1, flat_all e3 hf.2, inV_of hp hf.1 e3 hf.2⟩)
    · cases h
  | lst xs =>
    dsimp only at h
    split at h
    · rename_i hf
      rw [Bool.and_eq_true] at hf
      cases h
      rw [RepF] at hq
      obtain ⟨a, vs, e1, e2, e3⟩ := hq
      exact .inr (.inl ⟨a, vs, e1, fun F s => .inl (SqL.of (s _ _ e2)), flat_V hp hf.1, flat_all e3 hf.2, inV_of hp hf.1 e3 hf.2⟩)
    · split at h
      · rename_i hs
        rw [Bool.and_eq_true] at hs
        cases h
        obtain ⟨i1, s1⟩ := shp_shaped hs.1
        obtain ⟨i2, s2⟩ := shp_shaped hs.2
        have e := dp_of (K := K) (F := B) (.lst xs) y i2 hq
        rw [PV.dat] at s2
        rw [PV.isd] at i2
        refine .inr (.inr ⟨p.dat, PV.dats xs, fun F s => ⟨dp_of _ _ i1 (RepF.mono s _ _ hp), ?_⟩, s1, s2, dats_any i1 i2⟩)
        have e := dp_of (K := K) (F := F) (.lst xs) y (by rw [PV.isd]; exact i2) (RepF.mono s _ _ hq)
        rw [PV.dat] at e
        exact e
      · cases h
  | _ => cases h
theorem pop_in {K : PySem.W.Frag} : POp K (rInA K) pIn := by
  intro p q z x y hz B W hp hq
  unfold pIn at hz
  cases e : pyIn p q with
  | none => rw [e] at hz; cases hz
  | some b =>
    rw [e] at hz
    cases hz
    refine ev_now (v := .bl b) (repB.mpr rfl) fun F H sB sF Q k => ?_
    rcases pin_cases e hp hq with ⟨c, z, h1, h2, h3⟩ | ⟨a, xs, h1, h2, h3, h4, h5⟩ | ⟨d, ds, h1, h2, h3, h4⟩
    · exact .inl ⟨c, z, h1, h2, by rw [h3]; exact k⟩
    · exact .inr (.inl ⟨a, xs, h1, h2 H (sB.trans sF), h3, h4, by rw [h5]; exact k⟩)
    · exact .inr (.inr ⟨d, ds, (h1 H (sB.trans sF)).1, (h1 H (sB.trans sF)).2, h2, h3, by rw [h4]; exact k⟩)
theorem pop_notIn {K : PySem.W.Frag} : POp K (rNotInA K) pNotIn := by
  intro p q z x y hz B W hp hq
  unfold pNotIn at hz
  cases e : pyIn p q with
  | none => rw [e] at hz; cases hz
  | some b =>
    rw [e] at hz
    cases hz
    refine ev_now (v := .bl (!b)) (repB.mpr rfl) fun F H sB sF Q k => ?_
    rcases pin_cases e hp hq with ⟨c, z, h1, h2, h3⟩ | ⟨a, xs, h1, h2, h3, h4, h5⟩ | ⟨d, ds, h1, h2, h3, h4⟩
    · exact .inl ⟨c, z, h1, h2, by rw [h3]; exact k⟩
    · exact .inr (.inl ⟨a, xs, h1, h2 H (sB.trans sF), h3, h4, by rw [h5]; exact k⟩)
    · exact .inr (.inr ⟨d, ds, (h1 H (sB.trans sF)).1, (h1 H (sB.trans sF)).2, h2, h3, by rw [h4]; exact k⟩)

/-! ### subscripts, slices -/
def pIx (p q : PV) : Option PV := match q with
  | .int i => (match p with
    | .tup xs => atI xs i
    | .lst xs => atI xs i
    | .scr xs => (atI xs i).map .int
    | .str s => if s.length ≤ 16777216 then (atI s i).map fun c => .str [c] else none
    | _ => none)
  | _ => none
theorem atI_rep {K : PySem.W.Frag} {F : Hp} {ps : List PV} {vs : List V} {i : Int} {p : PV} (h : RepFs K F ps vs) (hi : atI ps i = some p) : ∃ v, atI vs i = some v ∧ RepF K F p v := by
  unfold atI at hi ⊢
  rw [h.length]
  cases e : ixN ps.length i with
  | none => rw [e] at hi; cases hi
  | some j =>
    rw [e] at hi
    exact h.get hi
theorem pop_ix {K : PySem.W.Frag} : POp K (rIx K) pIx := by
  intro p q z x y hz B W hp hq
  unfold pIx at hz
  cases q with
  | int i =>
    cases p with
    | tup xs =>
      rw [RepF] at hp
      obtain ⟨a, vs, e1, e2, e3⟩ := hp
      obtain ⟨v, q1, q2⟩ := atI_rep e3 hz
      exact ev_now q2 fun F H sB sF Q k => .inr (.inl ⟨a, vs, i, v, e1, repI.mp hq, same_t (sB.trans sF) e2, q1, k⟩)
    | lst xs =>
      rw [RepF] at hp
      obtain ⟨a, vs, e1, e2, e3⟩ := hp
      obtain ⟨v, q1, q2⟩ := atI_rep e3 hz
      exact ev_now q2 fun F H sB sF Q k => .inl ⟨a, vs, i, v, e1, repI.mp hq, SqL.of (sF _ _ (sB _ _ e2)), q1, k⟩
    | scr xs =>
      rw [RepF] at hp
      obtain ⟨a, e1, e2⟩ := hp
      dsimp only at hz
      cases e : atI xs i with
      | none => rw [e] at hz; cases hz
      | some n =>
        rw [e] at hz
        cases hz
        have e3 : atI (xs.map V.int) i = some (.int n) := by
          unfold atI at e ⊢
          rw [List.length_map]
          cases e4 : ixN xs.length i with
          | none => rw [e4] at e; cases e
          | some j =>
            rw [e4] at e
            show (xs.map V.int)[j]? = _
            rw [List.getElem?_map, show xs[j]? = some n from e]
            rfl
        exact ev_now (v := .int n) (repI.mpr rfl) fun F H sB sF Q k => .inl ⟨a, _, i, .int n, e1, repI.mp hq, same_l (sB.trans sF) e2, e3, k⟩
    | str s =>
      dsimp only at hz
      split at hz
      · rename_i hl
        cases e : atI s i with
        | none => rw [e] at hz; cases hz
        | some c =>
          rw [e] at hz
          cases hz
          exact ev_now (v := .str ⟨#[c]⟩) (repS.mpr rfl) fun F H sB sF Q k => .inr (.inr ⟨mkS s, i, c, repS.mp hp, repI.mp hq, by rw [mkS_len, line_eq]; exact hl, e, k⟩)
      · cases hz
    | _ => cases hz
  | _ => cases hz
/-- lo and hi as places -/
def cutL {α : Type} (xs : List α) (lo hi : Option Int) : List α := (xs.drop (HT.sIx xs.length 0 lo)).take (HT.sIx xs.length xs.length hi - HT.sIx xs.length 0 lo)
theorem cutV_eq (xs : List V) (lo hi : Option Int) : cutV xs lo hi = cutL xs lo hi := rfl
theorem cutS_eq (s : Tx) (lo hi : Option Int) : cutS (mkS s) lo hi = mkS (cutL s lo hi) := by
  unfold cutS cutL
  rw [mkS_len]
  rfl
def pSl (p : PV) (lo hi : Option Int) : Option PV := match p with
  | .str s => if s.length ≤ 16777216 then some (.str (cutL s lo hi)) else none
  | .lst xs => some (.lst (cutL xs lo hi))
  | .tup xs => some (.tup (cutL xs lo hi))
  | _ => none
def rSlX (K : PySem.W.Frag) : V → Option Int → Option Int → Hp → VK → Prop := fun x lo hi H Q => rSlS x lo hi H Q ∨ rSlL K x lo hi H Q ∨ rSlA K x lo hi H Q
theorem sl_any {X : Cx} : SlR X (rSlX X.K) := sl_str.or (sl_list.or sl_tupA)
theorem cutL_whole {α : Type} (xs : List α) {lo hi : Option Int} (h : HT.sIx xs.length 0 lo = 0 ∧ HT.sIx xs.length xs.length hi = xs.length) : cutL xs lo hi = xs := by
  unfold cutL
  rw [h.1, h.2]
  simp
theorem cutL_rep {K : PySem.W.Frag} {F : Hp} {ps : List PV} {vs : List V} (h : RepFs K F ps vs) (lo hi : Option Int) : RepFs K F (cutL ps lo hi) (cutL vs lo hi) := by
  unfold cutL
  rw [h.length]
  exact RepFs.take _ (RepFs.drop _ h)
theorem psl_ok {K : PySem.W.Frag} {p z : PV} {lo hi : Option Int} {x : V} (hz : pSl p lo hi = some z) {B : Hp} {W : WX} (hp : RepF K B p x) : Ev K B (fr (RepF K)) W (fun _ H Q => rSlX K x lo hi H Q) (SE.ret z) := by
  unfold pSl at hz
  cases p with
  | str s =>
    dsimp only at hz
    split at hz
    · rename_i hl
      cases hz
      exact ev_now (v := .str (mkS _)) (repS.mpr rfl) fun F H sB sF Q k => .inl ⟨mkS s, repS.mp hp, by rw [mkS_len, line_eq]; exact hl, by rw [cutS_eq]; exact k⟩
    · cases hz
  | lst xs =>
    cases hz
    rw [RepF] at hp
    obtain ⟨a, vs, e1, e2, e3⟩ := hp
    exact ev_new (o := .lst (cutL vs lo hi)) (fun c F' s h => rep_lst h (RepFs.mono s _ _ (cutL_rep e3 lo hi))) fun F H sB sF Q q => .inr (.inl ⟨a, vs, e1, SqL.of (sF _ _ (sB _ _ e2)), q⟩)
  | tup xs =>
    cases hz
    rw [RepF] at hp
    obtain ⟨a, vs, e1, e2, e3⟩ := hp
    have hl := e3.length
    by_cases hw : HT.sIx vs.length 0 lo = 0 ∧ HT.sIx vs.length vs.length hi = vs.length
    · rw [cutL_whole xs (by rw [← hl]; exact hw)]
      exact ev_now (v := .ref a) (by rw [RepF]; exact ⟨a, vs, rfl, e2, e3⟩) fun F H sB sF Q k => .inr (.inr ⟨a, vs, e1, same_t (sB.trans sF) e2, fun _ => k, fun h => absurd hw h⟩)
    · exact ev_new (o := .tup (cutL vs lo hi)) (fun c F' s h => rep_tup h (RepFs.mono s _ _ (cutL_rep e3 lo hi))) fun F H sB sF Q q => .inr (.inr ⟨a, vs, e1, same_t (sB.trans sF) e2, fun h => absurd h hw, fun _ => q⟩)
  | _ => cases hz
/-! ### one operand -/
def PUn (K : PySem.W.Frag) (r : V → Hp → VK → Prop) (op : PV → Option PV) : Prop :=
  ∀ p z x, op p = some z → ∀ (B : Hp) (W : WX), RepF K B p x → Ev K B (fr (RepF K)) W (fun _ H Q => r x H Q) (SE.ret z)
def pNeg (p : PV) : Option PV := match p with
  | .int i => some (.int (-i))
  | _ => none
theorem pun_neg {K : PySem.W.Frag} : PUn K (rU fun i => .int (-i)) pNeg := by
  intro p z x hz B W hp
  unfold pNeg at hz
  cases p with
  | int i =>
    cases hz
    exact ev_now (v := .int (-i)) (repI.mpr rfl) fun F H _ _ Q k => ⟨i, repI.mp hp, k⟩
  | _ => cases hz
/-! ### truth -/
def pTru (p : PV) : Option Bool := match p with
  | .non => some false
  | .bl b => some b
  | .int i => some (decide (i ≠ 0))
  | .str s => if s.length ≤ 16777216 then some (!s.isEmpty) else none
  | .tup xs => some (!xs.isEmpty)
  | .lst xs => some (!xs.isEmpty)
  | _ => none
theorem ptru_ok {K : PySem.W.Frag} {p : PV} {x : V} {b : Bool} {F : Hp} (h : pTru p = some b) (hp : RepF K F p x) : TruV K x F b := by
  unfold pTru at h
  cases p with
  | non => cases h; rw [repN.mp hp]; rfl
  | bl k => cases h; rw [repB.mp hp]; rfl
  | int i =>
    cases h
    rw [repI.mp hp]
    show decide (i ≠ 0) = (i != 0)
    by_cases e : i = 0 <;> simp [e]
  | str s =>
    dsimp only at h
    split at h
    · rename_i hl
      cases h
      rw [repS.mp hp]
      refine ⟨by rw [mkS_len, line_eq]; exact hl, ?_⟩
      rw [mkS_len]
      cases s with
      | nil => rfl
      | cons c r =>
        show true = ((((c :: r).length : Nat) : Int) != 0)
        symm
        rw [bne_iff_ne, List.length_cons]
        omega
    · cases h
  | tup xs =>
    cases h
    rw [RepF] at hp
    obtain ⟨a, vs, e1, e2, e3⟩ := hp
    subst e1
    refine .inr (.inl ⟨vs, e2, ?_⟩)
    have := e3.length
    cases xs <;> cases vs <;> first | rfl | (simp at this)
  | lst xs =>
    cases h
    rw [RepF] at hp
    obtain ⟨a, vs, e1, e2, e3⟩ := hp
    subst e1
    refine .inl ⟨vs, SqL.of e2, ?_⟩
    have := e3.length
    cases xs <;> cases vs <;> first | rfl | (simp at this)
  | _ => cases h
theorem TruV.mono {K : PySem.W.Frag} {x : V} {H H' : Hp} {b : Bool} (s : Same H H') (h : TruV K x H b) : TruV K x H' b := by
  cases x with
  | ref p =>
    rcases h with ⟨xs, h1, h2⟩ | ⟨xs, h1, h2⟩ | ⟨kvs, h1, h2⟩
    · exact .inl ⟨xs, same_l s h1, h2⟩
    · exact .inr (.inl ⟨xs, same_t s h1, h2⟩)
    · exact .inr (.inr ⟨kvs, s _ _ h1, h2⟩)
  | _ => exact h
/-! ### calls of built-ins, by values -/
def PC (K : PySem.W.Frag) (r : List V → Hp → VK → Prop) (op : List PV → Option PV) : Prop :=
  ∀ ps z vs, op ps = some z → ∀ (B : Hp) (W : WX), RepFs K B ps vs → Ev K B (fr (RepF K)) W (fun _ H Q => r vs H Q) (SE.ret z)
def one (f : PV → Option PV) : List PV → Option PV := fun ps => match ps with
  | [p] => f p
  | _ => none
def two (f : PV → PV → Option PV) : List PV → Option PV := fun ps => match ps with
  | [p, q] => f p q
  | _ => none
theorem PC.one {K : PySem.W.Frag} {r : List V → Hp → VK → Prop} {f : PV → Option PV} (h : ∀ p z v, f p = some z → ∀ (B : Hp) (W : WX), RepF K B p v → Ev K B (fr (RepF K)) W (fun _ H Q => r [v] H Q) (SE.ret z)) : PC K r (Mv.one f) := by
  intro ps z vs hz B W hp
  match ps, hz with
  | [p], hz =>
    obtain ⟨v, rfl, e⟩ := repFs1 hp
    exact h p z v hz B W e
theorem PC.two {K : PySem.W.Frag} {r : List V → Hp → VK → Prop} {f : PV → PV → Option PV} (h : ∀ p q z v w, f p q = some z → ∀ (B : Hp) (W : WX), RepF K B p v → RepF K B q w → Ev K B (fr (RepF K)) W (fun _ H Q => r [v, w] H Q) (SE.ret z)) : PC K r (Mv.two f) := by
  intro ps z vs hz B W hp
  match ps, hz with
  | [p, q], hz =>
    obtain ⟨v, w, rfl, e1, e2⟩ := repFs2 hp
    exact h p q z v w hz B W e1 e2
def pLen (p : PV) : Option PV := match p with
  | .str s => if s.length ≤ 16777216 then some (.int s.length) else none
  | .lst xs => some (.int xs.length)
  | .tup xs => some (.int xs.length)
  | .scr xs => some (.int xs.length)
  | _ => none
abbrev rLenA (K : PySem.W.Frag) : List V → Hp → VK → Prop := fun xs H Q => ∃ x n, xs = [x] ∧ LenV K x H n ∧ Q (.int n) H
theorem pc_len {K : PySem.W.Frag} : PC K (rLenA K) (one pLen) := PC.one fun p z v hz B W hp => by
  unfold pLen at hz
  cases p with
  | str s =>
    dsimp only at hz
    split at hz
    · rename_i hl
      cases hz
      refine ev_now (v := .int s.length) (repI.mpr rfl) fun F H sB sF Q k => ⟨v, s.length, rfl, ?_, k⟩
      rw [repS.mp hp]
      exact ⟨by rw [mkS_len, line_eq]; exact hl, (mkS_len s).symm⟩
    · cases hz
  | lst xs =>
    cases hz
    rw [RepF] at hp
    obtain ⟨a, vs, e1, e2, e3⟩ := hp
    subst e1
    exact ev_now (v := .int xs.length) (repI.mpr rfl) fun F H sB sF Q k => ⟨_, xs.length, rfl, .inl ⟨vs, SqL.of (sF _ _ (sB _ _ e2)), e3.length.symm⟩, k⟩
  | tup xs =>
    cases hz
    rw [RepF] at hp
    obtain ⟨a, vs, e1, e2, e3⟩ := hp
    subst e1
    exact ev_now (v := .int xs.length) (repI.mpr rfl) fun F H sB sF Q k => ⟨_, xs.length, rfl, .inr ⟨vs, same_t (sB.trans sF) e2, e3.length.symm⟩, k⟩
  | scr xs =>
    cases hz
    rw [RepF] at hp
    obtain ⟨a, e1, e2⟩ := hp
    subst e1
    exact ev_now (v := .int xs.length) (repI.mpr rfl) fun F H sB sF Q k => ⟨_, xs.length, rfl, .inl ⟨_, same_l (sB.trans sF) e2, by rw [List.length_map]⟩, k⟩
  | _ => cases hz
def pAbs (p : PV) : Option PV := match p with
  | .int i => some (.int (if i < 0 then -i else i))
  | _ => none
theorem pc_abs {K : PySem.W.Frag} : PC K (fun xs H Q => ∃ i, xs = [.int i] ∧ Q (.int (if i < 0 then -i else i)) H) (one pAbs) := PC.one fun p z v hz B W hp => by
  unfold pAbs at hz
  cases p with
  | int i =>
    cases hz
    rw [repI.mp hp]
    exact ev_now (v := .int _) (repI.mpr rfl) fun F H sB sF Q k => ⟨i, rfl, k⟩
  | _ => cases hz
def pMax (p q : PV) : Option PV := match p with
  | .int i => (match q with | .int j => some (.int (if j > i then j else i)) | _ => none)
  | _ => none
def pMin (p q : PV) : Option PV := match p with
  | .int i => (match q with | .int j => some (.int (if j < i then j else i)) | _ => none)
  | _ => none
theorem pc_max {K : PySem.W.Frag} : PC K (fun xs H Q => ∃ i j, xs = [.int i, .int j] ∧ Q (.int (if j > i then j else i)) H) (two pMax) := PC.two fun p q z v w hz B W hp hq => by
  unfold pMax at hz
  cases p with
  | int i =>
    cases q with
    | int j =>
      cases hz
      rw [repI.mp hp, repI.mp hq]
      exact ev_now (v := .int _) (repI.mpr rfl) fun F H sB sF Q k => ⟨i, j, rfl, k⟩
    | _ => cases hz
  | _ => cases hz
theorem pc_min {K : PySem.W.Frag} : PC K (fun xs H Q => ∃ i j, xs = [.int i, .int j] ∧ Q (.int (if j < i then j else i)) H) (two pMin) := PC.two fun p q z v w hz B W hp hq => by
  unfold pMin at hz
  cases p with
  | int i =>
    cases q with
    | int j =>
      cases hz
      rw [repI.mp hp, repI.mp hq]
      exact ev_now (v := .int _) (repI.mpr rfl) fun F H sB sF Q k => ⟨i, j, rfl, k⟩
    | _ => cases hz
  | _ => cases hz
def pInt (p : PV) : Option PV := match p with
  | .int i => some (.int i)
  | .bl b => some (.int (if b then 1 else 0))
  | .str s => if s.length ≤ 640 then (PySem.intText? (mkS s)).map .int else none
  | _ => none
abbrev rIntA : List V → Hp → VK → Prop := fun xs H Q => ((∃ i, xs = [.int i] ∧ Q (.int i) H) ∨ ∃ k, xs = [.bl k] ∧ Q (.int (if k then 1 else 0)) H) ∨ ∃ a n, xs = [.str a] ∧ PySem.intText? a = some n ∧ a.length ≤ 640 ∧ Q (.int n) H
theorem call_intA {X : Cx} : CallR X (.type "int") rIntA := call_int1.or call_int_str
theorem pc_int {K : PySem.W.Frag} : PC K rIntA (one pInt) := PC.one fun p z v hz B W hp => by
  unfold pInt at hz
  cases p with
  | int i =>
    cases hz
    rw [repI.mp hp]
    exact ev_now (v := .int i) (repI.mpr rfl) fun F H sB sF Q k => .inl (.inl ⟨i, rfl, k⟩)
  | bl b =>
    cases hz
    rw [repB.mp hp]
    exact ev_now (v := .int _) (repI.mpr rfl) fun F H sB sF Q k => .inl (.inr ⟨b, rfl, k⟩)
  | str s =>
    dsimp only at hz
    split at hz
    · rename_i hl
      cases e : PySem.intText? (mkS s) with
      | none => rw [e] at hz; cases hz
      | some n =>
        rw [e] at hz
        cases hz
        rw [repS.mp hp]
        exact ev_now (v := .int n) (repI.mpr rfl) fun F H sB sF Q k => .inr ⟨mkS s, n, rfl, e, by rw [mkS_len]; exact hl, k⟩
    · cases hz
  | _ => cases hz
def numT (i : Int) : Tx := (Str.ofString (toString i)).cps.toList
def pStr (p : PV) : Option PV := match p with
  | .int i => if i.natAbs.log2 < 1920 then some (.str (numT i)) else none
  | _ => none
theorem pc_str {K : PySem.W.Frag} : PC K (fun xs H Q => ∃ i : Int, xs = [.int i] ∧ i.natAbs.log2 < 1920 ∧ Q (.str (toString i)) H) (one pStr) := PC.one fun p z v hz B W hp => by
  unfold pStr at hz
  cases p with
  | int i =>
    dsimp only at hz
    split at hz
    · rename_i hl
      cases hz
      rw [repI.mp hp]
      exact ev_now (v := .str _) (repS.mpr rfl) fun F H sB sF Q k => ⟨i, rfl, hl, k⟩
    · cases hz
  | _ => cases hz
def pOrd (p : PV) : Option PV := match p with
  | .str [c] => some (.int c)
  | _ => none
theorem pc_ord {K : PySem.W.Frag} : PC K (fun xs H Q => ∃ x, xs = [.str x] ∧ x.length = 1 ∧ Q (.int (x.cps.getD 0 0 : Nat)) H) (one pOrd) := PC.one fun p z v hz B W hp => by
  unfold pOrd at hz
  match p, hz with
  | .str [c], hz =>
    cases hz
    rw [repS.mp hp]
    exact ev_now (v := .int c) (repI.mpr rfl) fun F H sB sF Q k => ⟨_, rfl, rfl, k⟩
def pDivmod (p q : PV) : Option PV := match p with
  | .int i => (match q with | .int j => if CDiv i j then some (.tup [.int (i / j), .int (i % j)]) else none | _ => none)
  | _ => none
theorem pc_divmod {K : PySem.W.Frag} : PC K (fun xs H Q => ∃ i j, xs = [.int i, .int j] ∧ CDiv i j ∧ ∀ p, H p = none → Q (.ref p) (upd H p (.tup [.int (i / j), .int (i % j)]))) (two pDivmod) := PC.two fun p q z v w hz B W hp hq => by
  unfold pDivmod at hz
  cases p with
  | int i =>
    cases q with
    | int j =>
      dsimp only at hz
      split at hz
      · rename_i hl
        cases hz
        rw [repI.mp hp, repI.mp hq]
        refine ev_new (o := .tup [.int (i / j), .int (i % j)]) (fun a F' s h => rep_tup h ?_) fun F H sB sF Q k => ⟨i, j, rfl, hl, k⟩
        rw [RepFs]
        exact ⟨_, _, rfl, repI.mpr rfl, RepFs.single (repI.mpr rfl)⟩
      · cases hz
    | _ => cases hz
  | _ => cases hz
/-- all, any of a list of bools -/
def PV.bls : List PV → Option (List Bool)
  | [] => some []
  | .bl b :: r => (PV.bls r).map (b :: ·)
  | _ :: _ => none
theorem bls_rep {K : PySem.W.Frag} {F : Hp} : ∀ {ps : List PV} {vs : List V} {bs : List Bool}, PV.bls ps = some bs → RepFs K F ps vs → vs = bs.map V.bl
  | [], vs, bs, h, hr => by
    cases h
    rw [RepFs] at hr
    exact hr
  | .bl b :: r, vs, bs, h, hr => by
    have h2 : (PV.bls r).map (b :: ·) = some bs := h
    cases e : PV.bls r with
    | none => rw [e] at h2; cases h2
    | some bs2 =>
      rw [e] at h2
      cases h2
      rw [RepFs] at hr
      obtain ⟨v, r', e1, e2, e3⟩ := hr
      rw [e1, repB.mp e2, bls_rep e e3]
      rfl
  | .non :: r, vs, bs, h, hr => nomatch (show (none : Option (List Bool)) = some bs from h)
  | .int _ :: r, vs, bs, h, hr => nomatch (show (none : Option (List Bool)) = some bs from h)
  | .str _ :: r, vs, bs, h, hr => nomatch (show (none : Option (List Bool)) = some bs from h)
  | .tup _ :: r, vs, bs, h, hr => nomatch (show (none : Option (List Bool)) = some bs from h)
  | .lst _ :: r, vs, bs, h, hr => nomatch (show (none : Option (List Bool)) = some bs from h)
  | .dic _ _ :: r, vs, bs, h, hr => nomatch (show (none : Option (List Bool)) = some bs from h)
  | .scr _ :: r, vs, bs, h, hr => nomatch (show (none : Option (List Bool)) = some bs from h)
  | .opq _ :: r, vs, bs, h, hr => nomatch (show (none : Option (List Bool)) = some bs from h)
def pAll (p : PV) : Option PV := match p with
  | .lst xs => (PV.bls xs).map fun bs => .bl (bs.all id)
  | _ => none
def pAny (p : PV) : Option PV := match p with
  | .lst xs => (PV.bls xs).map fun bs => .bl (bs.any id)
  | _ => none
theorem pc_all {K : PySem.W.Frag} : PC K (rAll K) (one pAll) := PC.one fun p z v hz B W hp => by
  unfold pAll at hz
  cases p with
  | lst xs =>
    dsimp only at hz
    cases e : PV.bls xs with
    | none => rw [e] at hz; cases hz
    | some bs =>
      rw [e] at hz
      cases hz
      rw [RepF] at hp
      obtain ⟨a, vs, e1, e2, e3⟩ := hp
      subst e1
      exact ev_now (v := .bl _) (repB.mpr rfl) fun F H sB sF Q k => ⟨a, bs, rfl, SqL.of (by rw [← bls_rep e e3]; exact sF _ _ (sB _ _ e2)), k⟩
  | _ => cases hz
theorem pc_any {K : PySem.W.Frag} : PC K (rAny K) (one pAny) := PC.one fun p z v hz B W hp => by
  unfold pAny at hz
  cases p with
  | lst xs =>
    dsimp only at hz
    cases e : PV.bls xs with
    | none => rw [e] at hz; cases hz
    | some bs =>
      rw [e] at hz
      cases hz
      rw [RepF] at hp
      obtain ⟨a, vs, e1, e2, e3⟩ := hp
      subst e1
      exact ev_now (v := .bl _) (repB.mpr rfl) fun F H sB sF Q k => ⟨a, bs, rfl, SqL.of (by rw [← bls_rep e e3]; exact sF _ _ (sB _ _ e2)), k⟩
  | _ => cases hz
end Mv

set_option Elab.async false
set_option linter.all false
set_option maxRecDepth 100000
set_option maxHeartbeats 4000000
namespace Mv
open PySem PySem.Spec PyProof.Rows L2

/-! ### repr -/
mutual
def PV.cost : PV → Nat
  | .str s => 10 * s.length + 4
  | .tup xs => PV.costs xs + 5
  | .lst xs => PV.costs xs + 5
  | .int _ => 1925 | .non => 8 | .bl _ => 8 | .dic _ _ => 0 | .scr _ => 0 | .opq _ => 0
def PV.costs : List PV → Nat
  | [] => 0
  | x :: xs => PV.cost x + 2 + PV.costs xs
end
mutual
def PV.sho : PV → Bool
  | .int i => decide (i.natAbs.log2 < 1920)
  | .tup xs => PV.shos xs
  | .lst xs => PV.shos xs
  | .str _ => true | .non => true | .bl _ => true | .dic _ _ => false | .scr _ => false | .opq _ => false
def PV.shos : List PV → Bool
  | [] => true
  | x :: xs => PV.sho x && PV.shos xs
end
mutual
theorem dat_sho : ∀ p : PV, p.sho = true → p.dat.showable = true ∧ p.dat.hasDict = false
  | .non, _ => by rw [PV.dat, PyData.showable, PyData.hasDict]; exact ⟨rfl, rfl⟩
  | .bl _, _ => by rw [PV.dat, PyData.showable, PyData.hasDict]; exact ⟨rfl, rfl⟩
  | .int i, h => by rw [PV.sho] at h; rw [PV.dat, PyData.showable, PyData.hasDict]; exact ⟨h, rfl⟩
  | .str _, _ => by rw [PV.dat, PyData.showable, PyData.hasDict]; exact ⟨rfl, rfl⟩
  | .tup xs, h => by rw [PV.sho] at h; rw [PV.dat, PyData.showable, PyData.hasDict]; exact dats_sho xs h
  | .lst xs, h => by rw [PV.sho] at h; rw [PV.dat, PyData.showable, PyData.hasDict]; exact dats_sho xs h
  | .dic _ _, h => by rw [PV.sho] at h; cases h
  | .scr _, h => by rw [PV.sho] at h; cases h
  | .opq _, h => by rw [PV.sho] at h; cases h
theorem dats_sho : ∀ ps : List PV, PV.shos ps = true → PyData.showableAll (PV.dats ps) = true ∧ PyData.hasDictAll (PV.dats ps) = false
  | [], _ => by rw [PV.dats, PyData.showableAll, PyData.hasDictAll]; exact ⟨rfl, rfl⟩
  | x :: xs, h => by
    rw [PV.shos, Bool.and_eq_true] at h
    obtain ⟨a1, a2⟩ := dat_sho x h.1
    obtain ⟨b1, b2⟩ := dats_sho xs h.2
    rw [PV.dats, PyData.showableAll, PyData.hasDictAll, a1, a2, b1, b2]
    exact ⟨rfl, rfl⟩
end
theorem listText_le (ts : List Str) : (listText ts).length ≤ piled ts + 4 := by
  have e : (listText ts).length = (textFrom 0 "[" ts).length + 1 := by
    show (textFrom 0 "[" ts ++ "]").length = _
    rw [strLen_append]
    rfl
  cases ts with
  | nil =>
    rw [e]
    show (("[" : Str)).length + 1 ≤ _
    decide
  | cons t r =>
    have h := textFrom_length_pos r 1 (("[" : Str) ++ (if (0 : Nat) > 0 then ", " else "" : String) ++ t) (Nat.succ_pos 0)
    have e2 : ((("[" : Str) ++ (if (0 : Nat) > 0 then ", " else "" : String) ++ t)).length = 1 + t.length := by
      rw [strLen_append, strLen_append]
      rfl
    have h3 : (textFrom 0 "[" (t :: r)).length = (textFrom 1 (("[" : Str) ++ (if (0 : Nat) > 0 then ", " else "" : String) ++ t) r).length := rfl
    rw [e, h3, h, e2, piled_cons]
    omega
theorem int_len {i : Int} (h : i.natAbs.log2 < 1920) : ((toString i : String) : Str).length ≤ 1921 := by
  have h1 := int_text_length_le (a := i) (k := 1920) (by decide) h
  have h2 : ((toString i : String) : Str).length = (toString i).length := by
    show (Str.ofString (toString i)).cps.size = _
    have := TL.tl_ofString (toString i)
    have h3 : (Str.ofString (toString i)).cps.toList.length = ((toString i).toList.map Char.toNat).length := congrArg List.length this
    rw [List.length_map, String.length_toList] at h3
    simpa using h3
  omega
mutual
theorem dat_cost : ∀ p : PV, p.chk = true → p.sho = true → (p.dat.shown).length ≤ p.cost
  | .non, _, _ => by rw [PV.dat, PyData.shown, PV.cost]; decide
  | .bl b, _, _ => by rw [PV.dat, PyData.shown, PV.cost]; cases b <;> decide
  | .int i, _, h => by
    rw [PV.sho] at h
    rw [PV.dat, PyData.shown, PV.cost]
    have := int_len (of_decide_eq_true h)
    omega
  | .str s, hc, h => by
    rw [PV.chk] at hc
    rw [PV.dat, PyData.shown, PV.cost]
    have := StrLaws.reprText_len (mkS s) (fun c hm => by
      have h2 : c ∈ s := hm
      have h3 := List.all_eq_true.mp hc c h2
      have h4 : c < 0x110000 := of_decide_eq_true h3
      omega)
    rw [mkS_len] at this
    omega
  | .tup xs, hc, h => by
    rw [PV.chk] at hc
    rw [PV.sho] at h
    rw [PV.dat, PyData.shown, PV.cost]
    have h1 := dats_cost xs hc h
    have h2 := fmt_text (PyData.shownAll (PV.dats xs))
    omega
  | .lst xs, hc, h => by
    rw [PV.chk] at hc
    rw [PV.sho] at h
    rw [PV.dat, PyData.shown, PV.cost]
    have h1 := dats_cost xs hc h
    have h2 := listText_le (PyData.shownAll (PV.dats xs))
    omega
  | .dic _ _, h, _ => by rw [PV.chk] at h; cases h
  | .scr _, h, _ => by rw [PV.chk] at h; cases h
  | .opq _, h, _ => by rw [PV.chk] at h; cases h
theorem dats_cost : ∀ ps : List PV, PV.chks ps = true → PV.shos ps = true → piled (PyData.shownAll (PV.dats ps)) ≤ PV.costs ps
  | [], _, _ => by rw [PV.dats, PyData.shownAll, piled_nil]; exact Nat.zero_le _
  | x :: xs, hc, h => by
    rw [PV.chks, Bool.and_eq_true] at hc
    rw [PV.shos, Bool.and_eq_true] at h
    rw [PV.dats, PyData.shownAll, piled_cons, PV.costs]
    have h1 := dat_cost x hc.1 h.1
    have h2 := dats_cost xs hc.2 h.2
    omega
end
def PV.rp (p : PV) : Tx := p.dat.shown.cps.toList
def PV.disp : PV → Bool
  | .tup _ => true
  | .lst _ => true
  | _ => false
def PV.okRp (p : PV) : Bool := p.chk && p.sho && decide (p.cost ≤ 16777216) && decide (p.dep ≤ 64)
def pRepr (p : PV) : Option PV := if p.okRp then some (.str p.rp) else none
def rReprA (K : PySem.W.Frag) : List V → Hp → VK → Prop := fun xs H Q => ∃ (x : V) (d : PyData), xs = [x] ∧ Dp K H x d ∧ d.showable = true ∧ d.hasDict = false ∧ d.depth ≤ 64 ∧ d.shown.length ≤ sizeLine ∧ Q (.str d.shown) H
theorem call_reprA {X : Cx} (hg : X.A.guards = some []) (hr : ∃ k, Room k X.A) : CallR X (.builtin "repr") (rReprA X.K) := by
  intro pins s σ H xs us Q I r h
  obtain ⟨x, d, rfl, dp, hs, hd, hdp, hz, q⟩ := h
  obtain ⟨u, rfl, ru⟩ := vals1 r
  obtain ⟨k, hk⟩ := hr
  have hu := hk.un
  obtain ⟨as, rd⟩ := Dp.reads I d x u dp ru
  have big : ∀ a : Addr, u = .ref a → wpAny (model X.prog X.w) X.A (call (.builtin "repr") [u]) (EP X pins σ Q) X.xe s := fun a e => by
    subst e
    exact repr_of_reads' rd hs (PyData.noDict_hsm hd) hg (by omega) (fun _ _ e => e) (fun h' t tk hk => ⟨.str d.shown, H, I.kept (t' := tk) hk, ⟨t, rfl⟩, q⟩) hz
  cases dp with
  | non =>
    cases (show u = Value.none from ru)
    simp only [PyData.shown] at q
    exact PySem.P.repr_of_none ⟨.str _, H, I.tok _, ⟨_, rfl⟩, q⟩
  | bl b =>
    cases (show u = Value.bool b from ru)
    simp only [PyData.shown] at q
    exact PySem.P.repr_of_bool ⟨.str _, H, I.tok _, ⟨_, rfl⟩, q⟩
  | int i =>
    obtain ⟨t, rfl⟩ := (show ∃ t, u = Value.int i t from ru)
    simp only [PyData.showable, decide_eq_true_eq] at hs
    simp only [PyData.shown] at q
    exact PySem.P.repr_of_int hs ⟨.str _, H, I.tok _, ⟨_, rfl⟩, q⟩
  | str y =>
    obtain ⟨t, rfl⟩ := (show ∃ t, u = Value.str y t from ru)
    simp only [PyData.shown] at q hz
    exact PySem.P.repr_of_str ⟨.str _, H, I.tok _, ⟨_, rfl⟩, q⟩ hz
  | lst h1 h2 => exact big _ ru
  | tup h1 h2 => exact big _ ru
theorem pc_repr {K : PySem.W.Frag} : PC K (rReprA K) (one pRepr) := PC.one fun p z v hz B W hp => by
  unfold pRepr at hz
  split at hz
  · rename_i hk
    cases hz
    unfold PV.okRp at hk
    simp only [Bool.and_eq_true, decide_eq_true_eq] at hk
    obtain ⟨⟨⟨h1, h2⟩, h3⟩, h4⟩ := hk
    have hi := chk_isd p h1
    obtain ⟨s1, s2⟩ := dat_sho p h2
    have hc := dat_cost p h1 h2
    refine ev_now (v := .str p.dat.shown) (repS.mpr ?_) fun F H sB sF Q k => ⟨v, p.dat, rfl, dp_of _ _ hi (RepF.mono (sB.trans sF) _ _ hp), s1, s2, by rw [dat_dep p hi]; exact h4, by rw [line_eq]; omega, k⟩
    show V.str p.dat.shown = V.str (mkS p.dat.shown.cps.toList)
    rfl
  · cases hz
/-! ### isinstance of a built-in class -/
def PV.ty : PV → String
  | .non => "NoneType" | .bl _ => "bool" | .int _ => "int" | .str _ => "str" | .tup _ => "tuple" | .lst _ => "list" | .dic _ _ => "dict" | .scr _ => "list" | .opq _ => ""
def PV.tyOk : PV → Bool
  | .scr _ => false | .opq _ => false | _ => true
def pIsi (c : String) (p : PV) : Option PV := if p.tyOk then (kitB p.ty c).map .bl else none
theorem tyX_of {K : PySem.W.Frag} {F : Hp} {p : PV} {v : V} (h : RepF K F p v) (ho : p.tyOk = true) : TyX K F v (.type p.ty) := by
  cases p with
  | non => rw [repN.mp h]; exact .base .non
  | bl b => rw [repB.mp h]; exact .base (.bl b)
  | int i => rw [repI.mp h]; exact .base (.int i)
  | str s => rw [repS.mp h]; exact .base (.str _)
  | tup xs =>
    rw [RepF] at h
    obtain ⟨a, vs, rfl, e2, _⟩ := h
    rcases e2 with (e2 | ⟨o, e2⟩) | ⟨o, its, n, e, c, _⟩
    · exact .base (.tup e2)
    · exact .fTuple e2
    · exact .kTuple e c
  | lst xs =>
    rw [RepF] at h
    obtain ⟨a, vs, rfl, e2, _⟩ := h
    exact .base (.lst e2)
  | dic ks xs =>
    rw [RepF] at h
    obtain ⟨a, vs, rfl, e2, _⟩ := h
    exact .base (.dK e2)
  | scr xs => cases ho
  | opq u => cases ho
/-- isinstance(x, T): the second argument is the class by its name -/
def rIsiC (K : PySem.W.Frag) (c : String) : List V → Hp → VK → Prop := fun xs H Q => ∃ x, xs = [x, .ty c] ∧ rIsi K xs H Q
theorem pc_isi {K : PySem.W.Frag} {c : String} : PC K (rIsi K) (fun ps => match ps with
    | [p, .opq (.ty c)] => pIsi c p
    | _ => none) := by
  intro ps z vs hz B W hp
  match ps, hz with
  | [p, .opq (.ty c)], hz =>
    obtain ⟨v, w, rfl, e1, e2⟩ := repFs2 hp
    rw [RepF] at e2
    subst e2
    dsimp only at hz
    unfold pIsi at hz
    split at hz
    · rename_i ho
      cases e : kitB p.ty c with
      | none => rw [e] at hz; cases hz
      | some b =>
        rw [e] at hz
        cases hz
        exact ev_now (v := .bl b) (repB.mpr rfl) fun F H sB sF Q k => ⟨v, .ty c, .type p.ty, .type c, b, rfl, .ty c, tyX_of (RepF.mono (sB.trans sF) _ _ e1) ho, kit_ty e, k⟩
    · cases hz
def pIsiA : List PV → Option PV := fun ps => match ps with
  | [p, .opq (.ty c)] => pIsi c p
  | _ => none
theorem pc_isiA {K : PySem.W.Frag} : PC K (rIsi K) pIsiA := pc_isi (c := "")
/-! ### tuple(x), list(x) -/
def pTuple (p : PV) : Option PV := match p with
  | .lst xs => some (.tup xs)
  | .tup xs => some (.tup xs)
  | _ => none
theorem pc_tuple {K : PySem.W.Frag} : PC K (fun xs H Q => ∃ p ys, xs = [.ref p] ∧ ((SqL K H p ys ∧ ∀ l, H l = none → Q (.ref l) (upd H l (.tup ys))) ∨ (SqT K H p ys ∧ Q (.ref p) H))) (one pTuple) := PC.one fun p z v hz B W hp => by
  unfold pTuple at hz
  cases p with
  | lst xs =>
    cases hz
    rw [RepF] at hp
    obtain ⟨a, vs, e1, e2, e3⟩ := hp
    subst e1
    exact ev_new (o := .tup vs) (fun c F' s h => rep_tup h (RepFs.mono s _ _ e3)) fun F H sB sF Q k => ⟨a, vs, rfl, .inl ⟨SqL.of (sF _ _ (sB _ _ e2)), k⟩⟩
  | tup xs =>
    cases hz
    have hp' := hp
    rw [RepF] at hp
    obtain ⟨a, vs, e1, e2, e3⟩ := hp
    subst e1
    exact ev_now hp' fun F H sB sF Q k => ⟨a, vs, rfl, .inr ⟨same_t (sB.trans sF) e2, k⟩⟩
  | _ => cases hz
def pListM (p : PV) : Option MV := match p with
  | .lst xs => some (.ml (xs.map .fz))
  | .tup xs => some (.ml (xs.map .fz))
  | _ => none
end Mv

set_option Elab.async false
set_option linter.all false
set_option maxRecDepth 100000
set_option maxHeartbeats 4000000
namespace Mv
open PySem PySem.Spec PyProof.Rows L2

/-! ### names, constants -/
def eVar (i : Nat) : SE PV := fun ρ => match ρ[i]? with
  | some (some (.fz p)) => .ok p ρ
  | _ => .bad
def eMove (i : Nat) : SE MV := fun ρ => match ρ[i]? with
  | some (some m) => .ok m (ρ.set i none)
  | _ => .bad
theorem StOk.get {K : PySem.W.Frag} {ρ : Env} {σ : L2.St} {F H : Hp} {A : List Addr} {i : Nat} {m : MV} (s : StOk K ρ σ F H A) (hi : ρ[i]? = some (some m)) : ∃ v f, σ[i]? = some (some v) ∧ RepM K F H m v f ∧ ∀ a ∈ f, a ∈ A := by
  obtain ⟨v, f, A', q1, q2, q3, q4⟩ := s.take hi
  exact ⟨v, f, q1, q2, fun a ha => q3.mem_iff.mpr (List.mem_append_left _ ha)⟩
theorem StOk.getF {K : PySem.W.Frag} {ρ : Env} {σ : L2.St} {F H : Hp} {A : List Addr} {i : Nat} {p : PV} (s : StOk K ρ σ F H A) (hi : ρ[i]? = some (some (.fz p))) : ∃ v, σ[i]? = some (some v) ∧ RepF K F p v := by
  obtain ⟨v, f, q1, q2, _⟩ := s.get hi
  rw [RepM] at q2
  exact ⟨v, q1, q2.2⟩
section
variable {X : Cx} {W : WX} {pos : Pos}
theorem qe_var (i : Nat) {x : Str} (hN : X.N[i]? = some x := by rfl) (hv : Vis X.env.scope x := by first | exact Or.inl rfl | exact Or.inr (Or.inl rfl) | exact Or.inr (Or.inr rfl)) (hd : (x == ("__debug__" : Str)) = false := by decide)
    (hcd : (x == ("__classdict__" : Str)) = false := by decide) : QE X W (.Name x pos) (tVar i) (eVar i) := by
  refine ⟨pe_var hN hv hd hcd, fun ρ σ F H A sB st Q nb hok hex => ?_⟩
  unfold eVar at nb hok
  cases e : ρ[i]? with
  | none => simp only [e] at nb; exact absurd rfl nb
  | some o => cases o with
    | none => simp only [e] at nb; exact absurd rfl nb
    | some m => cases m with
      | fz p =>
        simp only [e] at hok
        obtain ⟨v, q1, q2⟩ := st.getF e
        exact ⟨v, q1, hok p ρ rfl v F H A [] st ⟨rfl, q2⟩ (by simpa using st.nod) (by simp) (by simpa using Go.refl F H A)⟩
      | _ => simp only [e] at nb; exact absurd rfl nb
theorem qm_move (i : Nat) {x : Str} (hN : X.N[i]? = some x := by rfl) (hv : Vis X.env.scope x := by first | exact Or.inl rfl | exact Or.inr (Or.inl rfl) | exact Or.inr (Or.inr rfl)) (hd : (x == ("__debug__" : Str)) = false := by decide)
    (hcd : (x == ("__classdict__" : Str)) = false := by decide) : QM X W (.Name x pos) (tVar i) (eMove i) := by
  refine ⟨pe_var hN hv hd hcd, fun ρ σ F H A sB st Q nb hok hex => ?_⟩
  unfold eMove at nb hok
  cases e : ρ[i]? with
  | none => simp only [e] at nb; exact absurd rfl nb
  | some o => cases o with
    | none => simp only [e] at nb; exact absurd rfl nb
    | some m =>
      simp only [e] at hok
      obtain ⟨v, f, A', q1, q2, q3, q4⟩ := st.take e
      have nd := q3.nodup_iff.mp st.nod
      exact ⟨v, q1, hok m _ rfl v F H A' f q4 q2 nd (fun a ha => st.out a (q3.mem_iff.mpr (List.mem_append_left _ ha))) ((Go.refl F H A).weak fun a ha => q3.mem_iff.mpr ha)⟩
theorem ev_c {K : PySem.W.Frag} {B : Hp} {p : PV} {v : V} (h : RepF K B p v) : Ev K B (fr (RepF K)) W (tC v) (SE.ret p) := Ev.doneF h
theorem qe_int {i : Int} {j : Nat} : QE X W (.Constant (.int i) j pos) (tC (.int i)) (SE.ret (.int i)) := ⟨pe_int, ev_c (repI.mpr rfl)⟩
theorem qe_bl {b : Bool} {j : Nat} : QE X W (.Constant (.bool b) j pos) (tC (.bl b)) (SE.ret (.bl b)) := ⟨pe_bl, ev_c (repB.mpr rfl)⟩
theorem qe_non {j : Nat} : QE X W (.Constant .none j pos) (tC .non) (SE.ret .non) := ⟨pe_non, ev_c (repN.mpr rfl)⟩
theorem qe_str (l : Tx) {x : Str} {j : Nat} (h : x = mkS l := by rfl) : QE X W (.Constant (.str x) j pos) (tC (.str x)) (SE.ret (.str l)) := ⟨pe_str, ev_c (repS.mpr (congrArg V.str h))⟩
/-- a constant of the module -/
theorem qe_gl {x : Str} {u : Value} {v : V} {p : PV} (hg : Gl X x) (hm : X.mg x = some u) (r : RelV v u) (h : RepF X.K nob p v) (hd : (x == ("__debug__" : Str)) = false := by decide) : QE X W (.Name x pos) (tC v) (SE.ret p) := ⟨pe_glob hg hm r hd, ev_c h⟩
theorem qe_glI {x : Str} {i : Int} (hm : ∃ t, X.mg x = some (.int i t)) (hg : Gl X x := by rfl) (hd : (x == ("__debug__" : Str)) = false := by decide) : QE X W (.Name x pos) (tC (.int i)) (SE.ret (.int i)) := by
  obtain ⟨t, e⟩ := hm
  exact qe_gl hg e ⟨t, rfl⟩ (repI.mpr rfl) hd
theorem qe_glS (l : Tx) {x z : Str} (hm : ∃ t, X.mg x = some (.str z t)) (h : z = mkS l := by rfl) (hg : Gl X x := by rfl) (hd : (x == ("__debug__" : Str)) = false := by decide) : QE X W (.Name x pos) (tC (.str z)) (SE.ret (.str l)) := by
  obtain ⟨t, e⟩ := hm
  exact qe_gl hg e ⟨t, rfl⟩ (repS.mpr (congrArg V.str h)) hd
theorem qe_glT {x : Str} {a : Addr} {p : PV} (hm : X.mg x = some (.ref a)) (h : RepF X.K nob p (.ref a)) (hg : Gl X x := by rfl) (hd : (x == ("__debug__" : Str)) = false := by decide) : QE X W (.Name x pos) (tC (.ref a)) (SE.ret p) := qe_gl hg hm rfl h hd
theorem qe_cls {x : Str} {n : String} (hm : X.mg x = none) (hv : bootBuiltins x = some (.type n)) (hg : Gl X x := by rfl) (hn : x ≠ "__name__" := by decide) (hd : (x == ("__debug__" : Str)) = false := by decide) : QE X W (.Name x pos) (tC (.ty n)) (SE.ret (.opq (.ty n))) :=
  ⟨pe_bltn hg hm hv rfl hn hd, ev_c (by rw [RepF])⟩

/-! ### operators -/
variable {a b c : Expr} {ta tb tc : TE} {sa sb sc : SE PV}
theorem qe_bin {op : Operator} {r : R2} {f : PV → PV → Option PV} (ho : OpR X (binaryOp op) r) (hp : POp X.K r f) (ha : QE X W a ta sa) (hb : QE X W b tb sb) : QE X W (.BinOp a op b pos) (tOp r ta tb) (eOp f sa sb) := ⟨pe_op ho ha.pe hb.pe, ev_op hp ha.ev hb.ev⟩
theorem qe_add (ha : QE X W a ta sa) (hb : QE X W b tb sb) : QE X W (.BinOp a .Add b pos) (tOp (rAddA X.K) ta tb) (eOp pAdd sa sb) := qe_bin op_addA pop_add ha hb
theorem qe_sub (ha : QE X W a ta sa) (hb : QE X W b tb sb) : QE X W (.BinOp a .Sub b pos) (tOp (rI0 fun i j => .int (i - j)) ta tb) (eOp pSub sa sb) := qe_bin op_sub pop_sub ha hb
theorem qe_mul (ha : QE X W a ta sa) (hb : QE X W b tb sb) : QE X W (.BinOp a .Mult b pos) (tOp rMulA ta tb) (eOp pMul sa sb) := qe_bin op_mulA pop_mul ha hb
theorem qe_mod (ha : QE X W a ta sa) (hb : QE X W b tb sb) : QE X W (.BinOp a .Mod b pos) (tOp (rI (fun _ j => 0 < j) fun i j => .int (i % j)) ta tb) (eOp pMod sa sb) := qe_bin op_mod pop_mod ha hb
theorem qe_fdiv (ha : QE X W a ta sa) (hb : QE X W b tb sb) : QE X W (.BinOp a .FloorDiv b pos) (tOp (rI CDiv fun i j => .int (i / j)) ta tb) (eOp pFdiv sa sb) := qe_bin op_fdiv pop_fdiv ha hb
theorem qe_pow (ha : QE X W a ta sa) (hb : QE X W b tb sb) : QE X W (.BinOp a .Pow b pos) (tOp (rI CPow fun i j => .int (i ^ j.toNat)) ta tb) (eOp pPow sa sb) := qe_bin op_pow pop_pow ha hb
/-- a comparison's rule and its plain function -/
structure CmpQ (X : Cx) (op : CmpOp) (r : R2) (f : PV → PV → Option PV) : Prop where
  op : OpR X (compareOp op) r
  pop : POp X.K r f
theorem cq_eq (hr : ∃ k, Room k X.A) : CmpQ X .Eq (rEqA X.K) pEq := ⟨op_eqA hr, pop_eq⟩
theorem cq_ne (hr : ∃ k, Room k X.A) : CmpQ X .NotEq (rNeA X.K) pNe := ⟨op_neA hr, pop_ne⟩
theorem cq_lt : CmpQ X .Lt (rCmpA (fun i j => decide (i < j)) fun s t => decide (s < t)) pLt := ⟨op_ltA, pop_cmp⟩
theorem cq_le : CmpQ X .LtE (rCmpA (fun i j => decide (i ≤ j)) fun s t => !decide (t < s)) pLe := ⟨op_leA, pop_cmp⟩
theorem cq_gt : CmpQ X .Gt (rCmpA (fun i j => decide (j < i)) fun s t => decide (t < s)) pGt := ⟨op_gtA, pop_cmp⟩
theorem cq_ge : CmpQ X .GtE (rCmpA (fun i j => decide (j ≤ i)) fun s t => !decide (s < t)) pGe := ⟨op_geA, pop_cmp⟩
theorem cq_is : CmpQ X .Is rIsA (noOpq pIsN) := ⟨op_isA, pop_is⟩
theorem cq_isnot : CmpQ X .IsNot rNotA (noOpq pNotN) := ⟨op_notA, pop_not⟩
theorem cq_in (hr : ∃ k, Room k X.A) : CmpQ X .In (rInA X.K) pIn := ⟨op_inA hr, pop_in⟩
theorem cq_notin (hr : ∃ k, Room k X.A) : CmpQ X .NotIn (rNotInA X.K) pNotIn := ⟨op_notInA hr, pop_notIn⟩
theorem qe_cmp {op : CmpOp} {r : R2} {f : PV → PV → Option PV} (ho : CmpQ X op r f) (ha : QE X W a ta sa) (hb : QE X W b tb sb) (hm : behindInMarks op b = false := by first | exact nomark _ (by decide) (by decide) | rfl) : QE X W (.Compare a [op] [b] pos) (tOp r ta tb) (eOp f sa sb) :=
  ⟨pe_cmpR ho.op ha.pe hb.pe hm, ev_op ho.pop ha.ev hb.ev⟩
def asB (p : PV) : Option Bool := match p with
  | .bl b => some b
  | _ => none
def eBool (s : SE PV) : SE Bool := s.bind fun p => ofO (asB p)
theorem asB_rep {K : PySem.W.Frag} {F : Hp} {p : PV} {v : V} {b : Bool} (h : asB p = some b) (hp : RepF K F p v) : v = .bl b := by
  cases p <;> first
    | exact nomatch (show (none : Option Bool) = some b from h)
    | (have e := Option.some.inj (show some _ = some b from h)
       subst e
       exact repB.mp hp)
theorem Ev.test {K : PySem.W.Frag} {B : Hp} {te : TE} {s : SE PV} (h : Ev K B (fr (RepF K)) W te s) : Ev K B (fr zB) W (fun σ H Q => te σ H fun x H1 => ∃ k, x = .bl k ∧ Q k H1) (eBool s) :=
  h.bind fun p v B1 _ hp => Ev.ofO fun k hk => by
    have e := asB_rep hk hp
    exact (Ev.done (z := zB) (a := k) (b := k) rfl fun _ _ _ e => e).imp fun _ H Q q => ⟨k, e, q⟩
theorem qt_cmp {op : CmpOp} {r : R2} {f : PV → PV → Option PV} (ho : CmpQ X op r f) (ha : QE X W a ta sa) (hb : QE X W b tb sb) (hm : behindInMarks op b = false := by first | exact nomark _ (by decide) (by decide) | rfl) : QT X W (.Compare a [op] [b] pos) (tTest (tOp r ta tb)) (eBool (eOp f sa sb)) :=
  ⟨pt_cmpR ho.op ha.pe hb.pe hm, (ev_op ho.pop ha.ev hb.ev).test⟩
/-- a op b op' c -/
def eChain (f g : PV → PV → Option PV) (sa sb sc : SE PV) : SE PV := sa.bind fun p => sb.bind fun q => (ofO ((f p q).bind asB)).bind fun k => if k = true then sc.bind fun u => ofO (g q u) else SE.ret (.bl false)
theorem ev_chain {K : PySem.W.Frag} {B : Hp} {r r' : R2} {f g : PV → PV → Option PV} (h1 : POp K r f) (h2 : POp K r' g) (ha : Ev K B (fr (RepF K)) W ta sa) (hb : Ev K B (fr (RepF K)) W tb sb) (hc : Ev K B (fr (RepF K)) W tc sc) : Ev K B (fr (RepF K)) W (tChain r r' ta tb tc) (eChain f g sa sb sc) := by
  refine ha.bind fun p x B1 s1 hp => (hb.le s1).bind fun q y B2 s2 hq => ?_
  refine Ev.bind (z := zB) (tk := fun k σ H Q => if k = true then tc σ H fun w' H4 => r' y w' H4 Q else Q (.bl false) H) (te := fun σ H Q => r x y H fun v H3 => ∃ k, v = .bl k ∧ Q k H3) ?_ fun k k' B3 s3 hk => ?_
  · refine Ev.ofO fun k hk => ?_
    cases e : f p q with
    | none => rw [e] at hk; cases hk
    | some zz =>
      rw [e] at hk
      have hk' : asB zz = some k := hk
      have t := Ev.test (h1 p q zz x y e B2 W (RepF.mono s2 _ _ hp) hq)
      have e2 : ∀ ρ : Env, eBool (SE.ret zz) ρ = .ok k ρ := fun ρ => by
        show ofO (asB zz) ρ = _
        rw [hk']
        rfl
      intro ρ σ F H A sB st Q nb hok hex
      refine t ρ σ F H A sB st Q (fun z => ?_) (fun a ρ' e1 => ?_) (fun x ρ' e1 => ?_)
      · rw [e2] at z
        cases z
      · rw [e2] at e1
        exact hok a ρ' e1
      · rw [e2] at e1
        cases e1
  · have e : k' = k := hk
    subst e
    cases k' with
    | true =>
      refine (hc.le ((s1.trans s2).trans s3)).bind fun u w' B4 s4 hu => Ev.ofO fun z hz => h2 q u z y w' hz B4 W (RepF.mono (s3.trans s4) _ _ hq) hu
    | false => exact Ev.doneF (repB.mpr rfl)
theorem qe_chain {op op' : CmpOp} {r r' : R2} {f g : PV → PV → Option PV} (ho : CmpQ X op r f) (ho' : CmpQ X op' r' g) (ha : QE X W a ta sa) (hb : QE X W b tb sb) (hc : QE X W c tc sc)
    (hm : lastMarks [op, op'] [b, c] = false := by with_unfolding_all rfl) : QE X W (.Compare a [op, op'] [b, c] pos) (tChain r r' ta tb tc) (eChain f g sa sb sc) := ⟨pe_chain ho.op ho'.op ha.pe hb.pe hc.pe hm, ev_chain ho.pop ho'.pop ha.ev hb.ev hc.ev⟩
theorem qt_chain {op op' : CmpOp} {r r' : R2} {f g : PV → PV → Option PV} (ho : CmpQ X op r f) (ho' : CmpQ X op' r' g) (ha : QE X W a ta sa) (hb : QE X W b tb sb) (hc : QE X W c tc sc)
    (hm : lastMarks [op, op'] [b, c] = false := by with_unfolding_all rfl) : QT X W (.Compare a [op, op'] [b, c] pos) (tTest (tChain r r' ta tb tc)) (eBool (eChain f g sa sb sc)) := ⟨pt_chain ho.op ho'.op ha.pe hb.pe hc.pe hm, (ev_chain ho.pop ho'.pop ha.ev hb.ev hc.ev).test⟩
/-- truth of a value -/
def eTru (s : SE PV) : SE Bool := s.bind fun p => ofO (pTru p)
theorem qt_tru (ha : QE X W a ta sa) (he : ∀ whole, isTrue a X.env whole = (do let v ← whole; standAt a.pos; holding [v] (truthy v)) := by intro _; rfl) : QT X W a (fun σ H Q => ta σ H fun x H' => ∃ k, TruV X.K x H' k ∧ Q k H') (eTru sa) := by
  refine ⟨pt_truth ha.pe he, ha.ev.bind fun p v B1 _ hp => Ev.ofO fun k hk => ?_⟩
  intro ρ σ F H A sB st Q nb hok hex
  exact ⟨k, TruV.mono (sB.trans st.sub) (ptru_ok hk hp), hok k ρ rfl k F H A [] st ⟨rfl, rfl⟩ (by simpa using st.nod) (by simp) (by simpa using Go.refl F H A)⟩
/-! ### and, or, not -/
section
variable {tA tB' : TT} {uA uB : SE Bool} {rest : List Expr}
def sAnd (s t : SE Bool) : SE Bool := s.bind fun k => if k = true then t else SE.ret false
def sOr (s t : SE Bool) : SE Bool := s.bind fun k => if k = true then SE.ret true else t
def sNot (s : SE Bool) : SE Bool := s.bind fun k => SE.ret (!k)
theorem qw_and1 (h : QT X W a tA uA) : QW X W (.BoolOp .And [a] pos) tA uA := ⟨pw_and1 h.pt, h.ev⟩
theorem qw_or1 (h : QT X W a tA uA) : QW X W (.BoolOp .Or [a] pos) tA uA := ⟨pw_or1 h.pt, h.ev⟩
theorem zb_done {K : PySem.W.Frag} {B : Hp} {k : Bool} : Ev K B (fr zB) W (fun _ H Q => Q k H) (SE.ret k) := Ev.done (z := zB) rfl fun _ _ _ e => e
theorem qw_and (h1 : QT X W a tA uA) (h2 : QW X W (.BoolOp .And (b :: rest) pos) tB' uB) : QW X W (.BoolOp .And (a :: b :: rest) pos) (tAnd tA tB') (sAnd uA uB) :=
  ⟨pw_and h1.pt h2.pw, h1.ev.bind fun k k' B1 s1 e => by
    have e' : k' = k := e
    subst e'
    cases k' with
    | true => exact h2.ev.le (nob_le _)
    | false => exact zb_done⟩
theorem qw_or (h1 : QT X W a tA uA) (h2 : QW X W (.BoolOp .Or (b :: rest) pos) tB' uB) : QW X W (.BoolOp .Or (a :: b :: rest) pos) (tOr tA tB') (sOr uA uB) :=
  ⟨pw_or h1.pt h2.pw, h1.ev.bind fun k k' B1 s1 e => by
    have e' : k' = k := e
    subst e'
    cases k' with
    | true => exact zb_done
    | false => exact h2.ev.le (nob_le _)⟩
theorem QW.qt (h : QW X W a tA uA) : QT X W a tA uA := ⟨h.pw.pt, h.ev⟩
theorem qt_not (h : QT X W a tA uA) : QT X W (.UnaryOp .Not a pos) (tNot tA) (sNot uA) :=
  ⟨pt_not h.pt, h.ev.bind fun k k' B1 s1 e => by
    have e' : k' = k := e
    subst e'
    exact zb_done⟩
/-- as values: all but the last one bools -/
def eAnd (s t : SE PV) : SE PV := (eBool s).bind fun k => if k = true then t else SE.ret (.bl false)
def eOr (s t : SE PV) : SE PV := (eBool s).bind fun k => if k = true then SE.ret (.bl true) else t
def eNot (s : SE PV) : SE PV := (eBool s).bind fun k => SE.ret (.bl (!k))
theorem qe_one {op : BoolOp} (h : QE X W a ta sa) : QE X W (.BoolOp op [a] pos) ta sa := ⟨pe_one h.pe, h.ev⟩
theorem ev_flat {K : PySem.W.Frag} {B : Hp} {te : TE} {tk : Bool → TE} {s : SE PV} {k : Bool → SE PV} (h : Ev K B (fr (RepF K)) W te s) (hk : ∀ b, Ev K nob (fr (RepF K)) W (tk b) (k b)) : Ev K B (fr (RepF K)) W (fun σ H Q => te σ H fun x H1 => ∃ c, x = .bl c ∧ tk c σ H1 Q) ((eBool s).bind k) :=
  (Ev.bind (β := Bool) (z := zB) (tk := tk) h.test fun b b' B1 s1 e => by
    have e' : b' = b := e
    subst e'
    exact (hk b').le (nob_le _))
theorem qe_and (ha : QE X W a ta sa) (hb : QE X W (.BoolOp .And (b :: rest) pos) tb sb) : QE X W (.BoolOp .And (a :: b :: rest) pos) (tAndV ta tb) (eAnd sa sb) :=
  ⟨pe_and ha.pe hb.pe, ev_flat (tk := fun c σ H1 Q => if c = true then tb σ H1 Q else Q (.bl false) H1) ha.ev fun k => by
    cases k with
    | true => exact hb.ev
    | false => exact Ev.doneF (repB.mpr rfl)⟩
theorem qe_or (ha : QE X W a ta sa) (hb : QE X W (.BoolOp .Or (b :: rest) pos) tb sb) : QE X W (.BoolOp .Or (a :: b :: rest) pos) (tOrV ta tb) (eOr sa sb) :=
  ⟨pe_or ha.pe hb.pe, ev_flat (tk := fun c σ H1 Q => if c = true then Q (.bl true) H1 else tb σ H1 Q) ha.ev fun k => by
    cases k with
    | true => exact Ev.doneF (repB.mpr rfl)
    | false => exact hb.ev⟩
theorem qe_not (ha : QE X W a ta sa) : QE X W (.UnaryOp .Not a pos) (tNotV ta) (eNot sa) :=
  ⟨pe_not ha.pe, ev_flat (tk := fun c σ H1 Q => Q (.bl (!c)) H1) ha.ev fun k => Ev.doneF (repB.mpr rfl)⟩
/-- a if t else b -/
def eIf (t : SE Bool) (s u : SE PV) : SE PV := t.bind fun k => if k = true then s else u
def mIf (t : SE Bool) (s u : SE MV) : SE MV := t.bind fun k => if k = true then s else u
theorem qe_if (ht : QT X W c tA uA) (ha : QE X W a ta sa) (hb : QE X W b tb sb) : QE X W (.IfExp c a b pos) (tIf tA ta tb) (eIf uA sa sb) :=
  ⟨pe_ifExp ht.pt ha.pe hb.pe, ht.ev.bind fun k k' B1 s1 e => by
    have e' : k' = k := e
    subst e'
    cases k' with
    | true => exact ha.ev.le (nob_le _)
    | false => exact hb.ev.le (nob_le _)⟩
theorem qm_if {ma mb : SE MV} (ht : QT X W c tA uA) (ha : QM X W a ta ma) (hb : QM X W b tb mb) : QM X W (.IfExp c a b pos) (tIf tA ta tb) (mIf uA ma mb) :=
  ⟨pe_ifExp ht.pt ha.pe hb.pe, ht.ev.bind fun k k' B1 s1 e => by
    have e' : k' = k := e
    subst e'
    cases k' with
    | true => exact ha.ev.le (nob_le _)
    | false => exact hb.ev.le (nob_le _)⟩
def eUn (f : PV → Option PV) (s : SE PV) : SE PV := s.bind fun p => ofO (f p)
theorem qe_neg (ha : QE X W a ta sa) : QE X W (.UnaryOp .USub a pos) (tUn (rU fun i => .int (-i)) ta) (eUn pNeg sa) :=
  ⟨pe_un un_neg ha.pe, ha.ev.bind fun p x B1 s1 hp => Ev.ofO fun z hz => pun_neg p z x hz B1 W hp⟩
end
/-! ### subscripts, slices -/
theorem qe_ix (ha : QE X W a ta sa) (hb : QE X W b tb sb) (hs : PlainIx b := by exact fun _ _ => rfl) : QE X W (.Subscript a b pos) (tOp (rIx X.K) ta tb) (eOp pIx sa sb) := ⟨pe_ix ix_seq ha.pe hb.pe hs, ev_op pop_ix ha.ev hb.ev⟩
def eNo : SE (Option Int) := SE.ret none
def ePart (s : SE PV) : SE (Option Int) := s.bind fun p => match p with
  | .int i => SE.ret (some i)
  | _ => ofO none
theorem qo_none : QO X W none tNoPart eNo := ⟨po_none, Ev.done (z := zO) rfl fun _ _ _ e => e⟩
theorem qo_some (ha : QE X W a ta sa) : QO X W (some a) (tPart ta) (ePart sa) := by
  refine ⟨po_some ha.pe, ha.ev.bind fun p x B1 s1 hp => ?_⟩
  cases p with
  | int i =>
    have e := repI.mp hp
    exact (Ev.done (z := zO) (a := some i) (b := some i) rfl fun _ _ _ e => e).imp fun _ H Q q => ⟨i, e, q⟩
  | _ => exact fun ρ σ F H A sB st Q nb => absurd rfl nb
def eSl (s : SE PV) (lo hi : SE (Option Int)) : SE PV := s.bind fun p => lo.bind fun l => hi.bind fun h => ofO (pSl p l h)
theorem qe_sl {lo hi : Option Expr} {tl th : TO} {sl sh : SE (Option Int)} {p2 : Pos} (ha : QE X W a ta sa) (hl : QO X W lo tl sl) (hh : QO X W hi th sh) : QE X W (.Subscript a (.Slice lo hi none p2) pos) (tSl (rSlX X.K) ta tl th) (eSl sa sl sh) :=
  ⟨pe_slice sl_any ha.pe hl.po hh.po, ha.ev.bind fun p x B1 s1 hp => (hl.ev.le (nob_le _)).bind fun l l' B2 s2 el => (hh.ev.le (nob_le _)).bind fun h h' B3 s3 eh => by
    have e1 : l' = l := el
    have e2 : h' = h := eh
    subst e1 e2
    exact Ev.ofO fun z hz => psl_ok hz (RepF.mono (s2.trans s3) _ _ hp)⟩
/-! ### argument lists, displays, calls of built-ins -/
section
variable {es : List Expr} {t : TA} {s : SE (List PV)}
def aNil : SE (List PV) := SE.ret []
def aCons (e : SE PV) (r : SE (List PV)) : SE (List PV) := e.bind fun p => r.bind fun ps => SE.ret (p :: ps)
theorem qa_nil : QA X W [] tNil aNil := ⟨pa_nil, Ev.done (z := RepFs X.K) (a := []) (b := []) (by rw [RepFs]) fun F F' e h => RepFs.mono e _ _ h⟩
theorem qa_cons (ha : QE X W a ta sa) (hr : QA X W es t s) (hs : starEach (a :: es) X.env = (false, eval a X.env) :: starEach es X.env := by rfl) : QA X W (a :: es) (tCons ta t) (aCons sa s) :=
  ⟨pa_cons ha.pe hr.pa hs, ha.ev.bind fun p x B1 s1 hp => (hr.ev.le (nob_le _)).bind fun ps xs B2 s2 hps => Ev.done (z := RepFs X.K) (by rw [RepFs]; exact ⟨x, xs, rfl, RepF.mono s2 _ _ hp, hps⟩) fun F F' e h => RepFs.mono e _ _ h⟩
def eTup (s : SE (List PV)) : SE PV := s.bind fun ps => if ps.length ≤ 16777216 then SE.ret (.tup ps) else ofO none
def eLst (s : SE (List PV)) : SE MV := s.bind fun ps => if ps.length ≤ 16777216 then SE.ret (.ml (ps.map .fz)) else ofO none
theorem qe_tup {x1 : Nat} (h : QA X W es t s) : QE X W (.Tuple es x1 pos) (tTup t) (eTup s) := by
  refine ⟨pe_tup h.pa, h.ev.bind fun ps xs B1 s1 hp => ?_⟩
  by_cases hl : ps.length ≤ 16777216
  · rw [if_pos hl]
    exact (Ev.newF (o := .tup xs) fun a F' sB e => rep_tup e (RepFs.mono sB _ _ hp)).imp fun σ H Q q => ⟨by rw [hp.length, line_eq]; exact hl, q⟩
  · rw [if_neg hl]
    exact fun ρ σ F H A sB st Q nb => absurd rfl nb
theorem qm_lst (h : QA X W es t s) : QM X W (.List es pos) (tLst t) (eLst s) := by
  refine ⟨pe_lst h.pa, h.ev.bind fun ps xs B1 s1 hp => ?_⟩
  by_cases hl : ps.length ≤ 16777216
  · rw [if_pos hl]
    exact (Ev.newM (o := .lst xs) fun a F' H' sB e => rep_ml e (RepFs.mono sB _ _ hp)).imp fun σ H Q q => ⟨by rw [hp.length, line_eq]; exact hl, q⟩
  · rw [if_neg hl]
    exact fun ρ σ F H A sB st Q nb => absurd rfl nb
theorem qe_lst (h : QA X W es t s) : QE X W (.List es pos) (tLst t) (vw (eLst s)) := (qm_lst h).vw
def eCB (f : List PV → Option PV) (s : SE (List PV)) : SE PV := s.bind fun ps => ofO (f ps)
theorem ev_cb {K : PySem.W.Frag} {B : Hp} {r : List V → Hp → VK → Prop} {f : List PV → Option PV} (hp : PC K r f) (h : Ev K B (fr (RepFs K)) W t s) : Ev K B (fr (RepF K)) W (tCB r t) (eCB f s) :=
  h.bind fun ps vs B1 s1 e => Ev.ofO fun z hz => hp ps z vs hz B1 W e
theorem qe_callB {x : Str} {id : String} {p : Pos} {r : List V → Hp → VK → Prop} {f : List PV → Option PV} (hc : CallR X (.builtin id) r) (hf : PC X.K r f) (hm : X.mg x = none) (hv : bootBuiltins x = some (.builtin id)) (ha : QA X W (a :: es) t s) (hg : Gl X x := by rfl) (hn : x ≠ "__name__" := by decide) (hdb : (x == ("__debug__" : Str)) = false := by decide)
    (he : starEach (a :: es) X.env = (false, eval a X.env) :: starEach es X.env := by rfl) (hpl : (backTo pos (starEach es X.env)).any (·.1) = false := by rfl) : QE X W (.Call (.Name x p) (a :: es) [] pos) (tCB r t) (eCB f s) := ⟨pe_callB hc hg hm hv ha.pa hn hdb he hpl, ev_cb hf ha.ev⟩
theorem qe_callT {x : Str} {T : String} {p : Pos} {r : List V → Hp → VK → Prop} {f : List PV → Option PV} (hc : CallR X (.type T) r) (hf : PC X.K r f) (hm : X.mg x = none) (hv : bootBuiltins x = some (.type T)) (ha : QA X W (a :: es) t s) (hg : Gl X x := by rfl) (hn : x ≠ "__name__" := by decide) (hdb : (x == ("__debug__" : Str)) = false := by decide)
    (he : starEach (a :: es) X.env = (false, eval a X.env) :: starEach es X.env := by rfl) (hpl : (backTo pos (starEach es X.env)).any (·.1) = false := by rfl) : QE X W (.Call (.Name x p) (a :: es) [] pos) (tCB r t) (eCB f s) := ⟨pe_callTy hc hg hm hv ha.pa hn hdb he hpl, ev_cb hf ha.ev⟩
end
/-! ### methods of texts -/
def pStrs : List PV → Option (List Tx)
  | [] => some []
  | .str s :: r => (pStrs r).map (s :: ·)
  | _ :: _ => none
theorem pStrs_rep {K : PySem.W.Frag} {F : Hp} : ∀ {ps : List PV} {vs : List V} {ss : List Tx}, pStrs ps = some ss → RepFs K F ps vs → vs = (ss.map mkS).map V.str
  | [], vs, ss, h, hr => by
    cases h
    rw [RepFs] at hr
    exact hr
  | p :: r, vs, ss, h, hr => by
    cases p with
    | str s =>
      have h2 : (pStrs r).map (s :: ·) = some ss := h
      cases e : pStrs r with
      | none => rw [e] at h2; cases h2
      | some s2 =>
        rw [e] at h2
        cases h2
        rw [RepFs] at hr
        obtain ⟨v, r', e1, e2, e3⟩ := hr
        rw [e1, repS.mp e2, pStrs_rep e e3]
        rfl
    | _ => exact nomatch (show (none : Option (List Tx)) = some ss from h)
def joinT (sep : Tx) (l : List Tx) : Tx := TL.joinL sep l
def pJoin (p q : PV) : Option PV := match p with
  | .str sep => (match q with
    | .lst xs => (pStrs xs).bind fun ss => if (ss.map List.length).sum + ss.length * sep.length ≤ 16777216 then some (.str (joinT sep ss)) else none
    | _ => none)
  | _ => none
def eM1 (f : PV → PV → Option PV) (s u : SE PV) : SE PV := s.bind fun p => match p with
  | .str z => u.bind fun q => ofO (f (.str z) q)
  | _ => ofO none
theorem ev_m1 {K : PySem.W.Frag} {B : Hp} {r : V → List V → Hp → VK → Prop} {f : PV → PV → Option PV} (hp : ∀ z q w x y, f (.str z) q = some w → ∀ (B : Hp) (W : WX), RepF K B (.str z) x → RepF K B q y → Ev K B (fr (RepF K)) W (fun _ H Q => r x [y] H Q) (SE.ret w)) (ha : Ev K B (fr (RepF K)) W ta sa) (hb : Ev K B (fr (RepF K)) W tb sb) :
    Ev K B (fr (RepF K)) W (tM1 r ta tb) (eM1 f sa sb) := ha.bind fun p x B1 s1 hpx => by
  cases p with
  | str z =>
    have e := repS.mp hpx
    refine Ev.imp (te := fun σ H Q => tb σ H fun y H2 => r x [y] H2 Q) ?_ fun σ H Q q => ⟨⟨_, e⟩, q⟩
    exact (hb.le s1).bind fun q y B2 s2 hq => Ev.ofO fun w hw => hp z q w x y hw B2 W (RepF.mono s2 _ _ hpx) hq
  | _ => exact fun ρ σ F H A sB st Q nb => absurd rfl nb
theorem join_mk (sep : Tx) (ss : List Tx) : Txt.join (mkS sep) (ss.map mkS) = mkS (joinT sep ss) := by
  rw [TL.join_eq]
  apply TL.ext_tl
  rw [TL.tl_join]
  unfold joinT
  congr 1
  rw [List.map_map]
  conv => rhs; rw [← List.map_id ss]
  exact List.map_congr_left fun s _ => rfl
theorem qe_join {apos : Pos} (ha : QE X W a ta sa) (hb : QE X W b tb sb) (hs : starEach [b] X.env = [(false, eval b X.env)] := by rfl) (hbase : attributeBase a "join" X.env (eval a X.env) = eval a X.env := by rfl) (hline : (apos.endLine == pos.line) = true := by rfl) :
    QE X W (.Call (.Attribute a "join" apos) [b] [] pos) (tM1 (fun x xs H Q => ∃ a p, ∃ ys : List Str, x = .str a ∧ xs = [.ref p] ∧ (SqL X.K H p (ys.map V.str) ∨ SqT X.K H p (ys.map V.str)) ∧ (ys.map (·.length)).sum + ys.length * a.length ≤ 16777216 ∧ Q (.str (Txt.join a ys)) H) ta tb) (eM1 pJoin sa sb) := by
  refine ⟨pe_m1 PySem.F.slot_str_join PySem.F.type_str_join mt_join ha.pe hb.pe hs hbase hline, ev_m1 (fun z q w x y hw B W hx hy => ?_) ha.ev hb.ev⟩
  unfold pJoin at hw
  cases q with
  | lst xs =>
    dsimp only at hw
    cases e : pStrs xs with
    | none => rw [e] at hw; cases hw
    | some ss =>
      rw [e] at hw
      have hw2 : (if (ss.map List.length).sum + ss.length * z.length ≤ 16777216 then some (PV.str (joinT z ss)) else none) = some w := hw
      split at hw2
      · rename_i hl
        cases hw2
        rw [RepF] at hy
        obtain ⟨a, vs, e1, e2, e3⟩ := hy
        have ev := pStrs_rep e e3
        refine ev_now (v := .str (mkS (joinT z ss))) (repS.mpr rfl) fun F H sB sF Q k => ⟨mkS z, a, ss.map mkS, repS.mp hx, by rw [e1], .inl (SqL.of (by rw [← ev]; exact sF _ _ (sB _ _ e2))), ?_, by rw [join_mk]; exact k⟩
        rw [List.map_map, List.length_map, mkS_len]
        have : (ss.map ((fun x : Str => x.length) ∘ mkS)) = ss.map List.length := List.map_congr_left fun s _ => mkS_len s
        rw [this]
        exact hl
      · cases hw2
  | _ => cases hw
end
end Mv

set_option Elab.async false
set_option linter.all false
set_option maxRecDepth 100000
set_option maxHeartbeats 4000000
namespace Mv
open PySem PySem.Spec PyProof.Rows L2

/-! ### calls of defs: arguments by value, or slots that the callee may change -/
inductive Ar where
  | v (p : PV) | pl (i : Nat)
def ArOk (K : PySem.W.Frag) (F : Hp) (σ : L2.St) : Ar → V → Prop
  | .v p, x => RepF K F p x
  | .pl i, x => σ[i]? = some (some x)
abbrev ArRep (K : PySem.W.Frag) (F : Hp) (σ : L2.St) : List Ar → List V → Prop := Paired (ArOk K F σ)
theorem ArRep.mono {K : PySem.W.Frag} {F F' : Hp} {σ : L2.St} (e : Same F F') : ∀ {as : List Ar} {vs : List V}, ArRep K F σ as vs → ArRep K F' σ as vs
  | _, _, .nil => .nil
  | .v p :: _, _, .cons h r => .cons (RepF.mono e p _ h) (ArRep.mono e r)
  | .pl i :: _, _, .cons h r => .cons (show σ[i]? = some (some _) from h) (ArRep.mono e r)
def EvAr (K : PySem.W.Frag) (W : WX) (ta : TA) (s : SE (List Ar)) : Prop :=
  ∀ ρ σ F H A, StOk K ρ σ F H A → ∀ Q : List V → Hp → Prop, s ρ ≠ .bad →
    (∀ as ρ', s ρ = .ok as ρ' → ∀ vs F' H' A', StOk K ρ' σ F' H' A' → ArRep K F' σ as vs → Go F H A F' H' A' → Q vs H') →
    (∀ x ρ', s ρ = .exc x ρ' → ∀ cls d F' H' A', StOk K ρ' σ F' H' A' → Go F H A F' H' A' → RepX K F' H' x cls d → W cls d σ H') →
    ta σ H Q
structure QAr (X : Cx) (W : WX) (es : List Expr) (ta : TA) (s : SE (List Ar)) : Prop where
  pa : PA X es ta
  ev : EvAr X.K W ta s
structure QKr (X : Cx) (W : WX) (kws : List Keyword) (ta : TA) (s : SE (List Ar)) : Prop where
  pk : L2.PK X kws ta
  ev : EvAr X.K W ta s
def rNil : SE (List Ar) := SE.ret []
def rV (e : SE PV) (r : SE (List Ar)) : SE (List Ar) := e.bind fun p => r.bind fun as => SE.ret (.v p :: as)
def rP (i : Nat) (r : SE (List Ar)) : SE (List Ar) := fun ρ => match ρ[i]? with
  | some (some _) => r.bind (fun as => SE.ret (.pl i :: as)) ρ
  | _ => .bad
section
variable {K : PySem.W.Frag} {W : WX} {te : TE} {t : TA} {s : SE (List Ar)}
theorem ear_nil : EvAr K W tNil rNil := fun ρ σ F H A st Q nb hok hex => hok [] ρ rfl [] F H A st .nil (Go.refl ..)
theorem ear_v {e : SE PV} (he : Ev K nob (fr (RepF K)) W te e) (hr : EvAr K W t s) : EvAr K W (tCons te t) (rV e s) := by
  intro ρ σ F H A st Q nb hok hex
  have eb := bind_eq e (fun p => s.bind fun as => SE.ret (Ar.v p :: as)) ρ
  refine he ρ σ F H A (nob_le _) st (fun x H1 => t σ H1 fun xs H2 => Q (x :: xs) H2) (fun z => ?_) (fun p ρ1 e1 x F1 H1 A1 f st1 hx _ _ g1 => ?_) (fun x ρ1 e1 cls d F1 H1 A1 st1 g1 hx => ?_)
  · rw [z] at eb; exact nb eb
  · rw [e1] at eb
    obtain ⟨rfl, hx⟩ := hx
    have eb2 := bind_eq s (fun as => SE.ret (Ar.v p :: as)) ρ1
    refine hr ρ1 σ F1 H1 A1 st1 _ (fun z => ?_) (fun as ρ2 e2 vs F2 H2 A2 st2 ha g2 => ?_) (fun y ρ2 e2 cls d F2 H2 A2 st2 g2 hy => ?_)
    · rw [z] at eb2; exact nb (eb.trans eb2)
    · rw [e2] at eb2
      exact hok _ ρ2 (eb.trans eb2) (x :: vs) F2 H2 A2 st2 (.cons (RepF.mono g2.f _ _ hx) ha) (Go.trans g1 g2)
    · rw [e2] at eb2
      exact hex y ρ2 (eb.trans eb2) cls d F2 H2 A2 st2 (Go.trans g1 g2) hy
  · rw [e1] at eb
    exact hex x ρ1 eb cls d F1 H1 A1 st1 g1 hx
theorem ear_p {i : Nat} (hr : EvAr K W t s) : EvAr K W (tCons (tVar i) t) (rP i s) := by
  intro ρ σ F H A st Q nb hok hex
  unfold rP at nb hok hex
  cases e : ρ[i]? with
  | none => simp only [e] at nb; exact absurd rfl nb
  | some o => cases o with
    | none => simp only [e] at nb; exact absurd rfl nb
    | some m =>
      simp only [e] at nb hok hex
      obtain ⟨v, f, q1, q2, q3⟩ := st.get e
      have eb2 := bind_eq s (fun as => SE.ret (Ar.pl i :: as)) ρ
      refine ⟨v, q1, hr ρ σ F H A st _ (fun z => ?_) (fun as ρ2 e2 vs F2 H2 A2 st2 ha g2 => ?_) (fun y ρ2 e2 cls d F2 H2 A2 st2 g2 hy => ?_)⟩
      · rw [z] at eb2; exact nb eb2
      · rw [e2] at eb2
        exact hok _ ρ2 eb2 (v :: vs) F2 H2 A2 st2 (.cons (show σ[i]? = some (some v) from q1) ha) g2
      · rw [e2] at eb2
        exact hex y ρ2 eb2 cls d F2 H2 A2 st2 g2 hy
end
/-- the arguments as the callee gets them; slots that are owned are taken out -/
def gather : List Ar → Env → Option (List MV × Env)
  | [], ρ => some ([], ρ)
  | .v p :: r, ρ => (gather r ρ).map fun z => (.fz p :: z.1, z.2)
  | .pl i :: r, ρ => match ρ[i]? with
    | some (some (.fz p)) => (gather r ρ).map fun z => (.fz p :: z.1, z.2)
    | some (some m) => (gather r (ρ.set i none)).map fun z => (m :: z.1, z.2)
    | _ => none
/-- what the callee leaves of them is put back -/
def putB : List Ar → List MV → Env → Env
  | .pl i :: r, m :: ms, ρ => putB r ms (match ρ[i]? with
    | some none => ρ.set i (some m)
    | _ => ρ)
  | .v _ :: r, _ :: ms, ρ => putB r ms ρ
  | _, _, ρ => ρ
theorem slots_some {K : PySem.W.Frag} {F H : Hp} {m : MV} {ms : List MV} {v : V} {vs : List V} {f g : List Addr} (h : RepM K F H m v f) (h2 : Slots K F H (ms.map some) (vs.map some) g) : Slots K F H ((m :: ms).map some) ((v :: vs).map some) (f ++ g) :=
  ⟨v, vs.map some, f, g, rfl, rfl, h, h2⟩
theorem gather_ok {K : PySem.W.Frag} {F H : Hp} {σ : L2.St} : ∀ {as : List Ar} {vs : List V} {ρ ρ1 : Env} {A : List Addr} {ms : List MV}, ArRep K F σ as vs → Slots K F H ρ σ A → gather as ρ = some (ms, ρ1) →
    ∃ Aa A1, A.Perm (Aa ++ A1) ∧ Slots K F H (ms.map some) (vs.map some) Aa ∧ Slots K F H ρ1 σ A1
  | [], _, ρ, ρ1, A, ms, .nil, h, e => by
    cases e
    exact ⟨[], A, .refl _, ⟨rfl, rfl⟩, h⟩
  | .v p :: r, _, ρ, ρ1, A, ms, .cons hx hr, h, e => by
    have e' : (gather r ρ).map (fun z => (MV.fz p :: z.1, z.2)) = some (ms, ρ1) := e
    cases e2 : gather r ρ with
    | none => rw [e2] at e'; cases e'
    | some z =>
      rw [e2] at e'
      cases e'
      obtain ⟨Aa, A1, q1, q2, q3⟩ := gather_ok hr h e2
      exact ⟨Aa, A1, q1, slots_some (f := []) (by rw [RepM]; exact ⟨rfl, hx⟩) q2, q3⟩
  | .pl i :: r, _, ρ, ρ1, A, ms, .cons (b := v) hx hr, h, e => by
    have hx' : σ[i]? = some (some v) := hx
    unfold gather at e
    cases e0 : ρ[i]? with
    | none => simp only [e0] at e; cases e
    | some o => cases o with
      | none => simp only [e0] at e; cases e
      | some m =>
        obtain ⟨v', f, A', q1, q2, q3, q4⟩ := h.take e0
        rw [hx'] at q1
        cases q1
        have own : (gather r (ρ.set i none)).map (fun z => (m :: z.1, z.2)) = some (ms, ρ1) → ∃ Aa A1, A.Perm (Aa ++ A1) ∧ Slots K F H (ms.map some) ((v :: _).map some) Aa ∧ Slots K F H ρ1 σ A1 := fun e' => by
          cases e2 : gather r (ρ.set i none) with
          | none => rw [e2] at e'; cases e'
          | some z =>
            rw [e2] at e'
            cases e'
            obtain ⟨Aa, A1, p1, p2, p3⟩ := gather_ok hr q4 e2
            exact ⟨f ++ Aa, A1, (q3.trans (List.Perm.append_left f p1)).trans (by rw [List.append_assoc]), slots_some q2 p2, p3⟩
        cases m with
        | fz p =>
          simp only [e0] at e
          rw [RepM] at q2
          cases e2 : gather r ρ with
          | none => rw [e2] at e; cases e
          | some z =>
            rw [e2] at e
            cases e
            obtain ⟨Aa, A1, p1, p2, p3⟩ := gather_ok hr h e2
            exact ⟨Aa, A1, p1, slots_some (f := []) (by rw [RepM]; exact ⟨rfl, q2.2⟩) p2, p3⟩
        | ml xs => simp only [e0] at e; exact own e
        | md ks xs => simp only [e0] at e; exact own e
theorem putB_ok {K : PySem.W.Frag} {F H : Hp} {σ : L2.St} : ∀ {as : List Ar} {outs : List MV} {vs ws : List V} {ρ : Env} {A Ao : List Addr}, Paired (fun a v => ∀ i, a = Ar.pl i → σ[i]? = some (some v)) as vs → ws = vs.take outs.length → Slots K F H (outs.map some) (ws.map some) Ao → Slots K F H ρ σ A →
    ∃ A2 D, (Ao ++ A).Perm (A2 ++ D) ∧ Slots K F H (putB as outs ρ) σ A2
  | [], outs, vs, ws, ρ, A, Ao, h, ew, ho, hr => ⟨A, Ao, List.perm_append_comm, by unfold putB; exact hr⟩
  | a :: r, [], vs, ws, ρ, A, Ao, h, ew, ho, hr => ⟨A, Ao, List.perm_append_comm, by cases a <;> (unfold putB; exact hr)⟩
  | a :: r, m :: ms, v :: vs, ws, ρ, A, Ao, .cons hx ht, ew, ho, hr => by
    subst ew
    obtain ⟨v', rest, f, g, e1, e2, e3, e4⟩ := ho
    have e1' : some v = some v' ∧ (vs.take ms.length).map some = rest := List.cons.inj e1
    obtain ⟨e5, rfl⟩ := e1'
    cases e5
    subst e2
    cases a with
    | v p =>
      obtain ⟨A2, D, q1, q2⟩ := putB_ok ht rfl e4 hr
      refine ⟨A2, f ++ D, ?_, q2⟩
      rw [List.append_assoc]
      refine (List.Perm.append_left f q1).trans ?_
      rw [← List.append_assoc, ← List.append_assoc]
      exact List.Perm.append_right D List.perm_append_comm
    | pl i =>
      have hi := hx i rfl
      have keep : ∀ ρ', ρ' = ρ → ∃ A2 D, (f ++ g ++ A).Perm (A2 ++ D) ∧ Slots K F H (putB r ms ρ') σ A2 := fun ρ' z => by
        subst z
        obtain ⟨A2, D, q1, q2⟩ := putB_ok ht rfl e4 hr
        refine ⟨A2, f ++ D, ?_, q2⟩
        rw [List.append_assoc]
        refine (List.Perm.append_left f q1).trans ?_
        rw [← List.append_assoc, ← List.append_assoc]
        exact List.Perm.append_right D List.perm_append_comm
      unfold putB
      cases e0 : ρ[i]? with
      | none => exact keep _ rfl
      | some o => cases o with
        | some m0 => exact keep _ rfl
        | none =>
          obtain ⟨A', p1, p2⟩ := Slots.put e3 hr e0
          have es : σ.set i (some v) = σ := by
            obtain ⟨h1, h2⟩ := List.getElem?_eq_some_iff.mp hi
            rw [← h2, List.set_getElem_self]
          rw [es] at p2
          obtain ⟨A2, D, q1, q2⟩ := putB_ok ht rfl e4 p2
          refine ⟨A2, D, ?_, q2⟩
          refine List.Perm.trans ?_ q1
          refine List.Perm.trans ?_ (List.Perm.append_left g p1.symm)
          rw [← List.append_assoc]
          exact List.Perm.append_right A List.perm_append_comm
def callR (m : List MV → RF) (all : List Ar) : SE MV := fun ρ => match gather all ρ with
  | none => .bad
  | some z => match m z.1 with
    | .ok r outs => .ok r (putB all outs z.2)
    | .exc x outs => .exc x (putB all outs z.2)
    | .bad => .bad
theorem ar_idx {K : PySem.W.Frag} {F : Hp} {σ : L2.St} : ∀ {as : List Ar} {vs : List V}, ArRep K F σ as vs → Paired (fun a v => ∀ i, a = Ar.pl i → σ[i]? = some (some v)) as vs
  | _, _, .nil => .nil
  | _, _, .cons h r => .cons (fun i e => by subst e; exact h) (ar_idx r)
theorem callR_ok {K : PySem.W.Frag} {W : WX} {n np : Nat} {m : List MV → RF} {as : List Ar} {vs : List V} {ρ : Env} {σ : L2.St} {F H : Hp} {A : List Addr} {Q : VK} (ha : ArRep K F σ as vs) (hl : vs.length = np) (st : StOk K ρ σ F H A)
    (nb : callR m as ρ ≠ .bad)
    (hok : ∀ r ρ', callR m as ρ = .ok r ρ' → ∀ v F' H' A' f, StOk K ρ' σ F' H' A' → RepM K F' H' r v f → (f ++ A').Nodup → (∀ x ∈ f, F' x = none) → Go F H A F' H' (f ++ A') → Q v H')
    (hex : ∀ x ρ', callR m as ρ = .exc x ρ' → ∀ cls d F' H' A', StOk K ρ' σ F' H' A' → Go F H A F' H' A' → RepX K F' H' x cls d → W cls d σ H') : spF K n np m vs H Q (WE W σ) := by
  obtain ⟨B, pB, hs⟩ := st.sl
  unfold callR at nb hok hex
  cases e : gather as ρ with
  | none => simp only [e] at nb; exact absurd rfl nb
  | some z =>
    obtain ⟨ms, ρ1⟩ := z
    simp only [e] at nb hok hex
    obtain ⟨Aa, A1, q1, q2, q3⟩ := gather_ok ha hs e
    have pA : A.Perm (Aa ++ A1) := pB.trans q1
    have nd := pA.nodup_iff.mp st.nod
    have ndp := List.nodup_append.mp nd
    have memA : ∀ a ∈ Aa, a ∈ A := fun a h => pA.mem_iff.mpr (List.mem_append_left _ h)
    have memA1 : ∀ a ∈ A1, a ∈ A := fun a h => pA.mem_iff.mpr (List.mem_append_right _ h)
    have sta : StOk K (ms.map some) (vs.map some) F H Aa := ⟨st.sub, ndp.1, fun a h => st.out a (memA a h), Aa, .refl _, q2⟩
    have sl : vs.length = ms.length := by
      have := sta.len
      simpa using this
    have there1 : ∀ a ∈ A1, H a ≠ none := fun a h => st.there a (memA1 a h)
    -- behind the callee: what it left, and the rest as it was
    have back : ∀ {F' H' : Hp} {Ao f : List Addr} {outs : List MV}, StOk K (outs.map some) ((vs.take n).map some) F' H' Ao → Go F H Aa F' H' (f ++ Ao) → (f ++ Ao).Nodup → (∀ x ∈ f, F' x = none) →
        ∃ A', StOk K (putB as outs ρ1) σ F' H' A' ∧ (f ++ A').Nodup ∧ Go F H A F' H' (f ++ A') := fun {F' H' Ao f outs} so g ndf hf => by
      obtain ⟨Bo, pBo, hso⟩ := so.sl
      have dis1 : ∀ a ∈ A1, a ∉ Aa := fun a h1 h2 => ndp.2.2 a h2 a h1 rfl
      have k1 : ∀ a ∈ A1, ∀ o, H a = some o → H' a = some o := fun a h1 o eo => g.k a o eo (dis1 a h1)
      have hr' : Slots K F' H' ρ1 σ A1 := q3.mono g.f k1
      have hlv : vs.take n = vs.take outs.length := by
        have hl2 := so.len
        simp only [List.length_map, List.length_take] at hl2
        rw [← hl2]
        by_cases hn : n ≤ vs.length
        · rw [Nat.min_eq_left hn]
        · rw [Nat.min_eq_right (by omega), List.take_of_length_le (by omega), List.take_of_length_le (by omega)]
      obtain ⟨A2, D, p1, p2⟩ := putB_ok (ar_idx ha) hlv hso hr'
      have out1 : ∀ a ∈ A1, F' a = none := fun a h1 => by
        cases eq : F' a with
        | none => rfl
        | some o =>
          rcases g.n a (st.out a (memA1 a h1)) (by rw [eq]; simp) with z | z
          · exact absurd z (there1 a h1)
          · exact absurd z (dis1 a h1)
      have ndall : (f ++ Ao ++ A1).Nodup := by
        rw [List.nodup_append]
        refine ⟨ndf, ndp.2.1, fun a h1 b h2 e => ?_⟩
        subst e
        rcases g.o a h1 with z | z
        · exact there1 a h2 z
        · exact dis1 a h2 z
      have perm2 : (f ++ Ao ++ A1).Perm (f ++ A2 ++ D) := by
        rw [List.append_assoc, List.append_assoc]
        exact List.Perm.append_left f ((List.Perm.append_right A1 pBo).trans p1)
      have nd2 := perm2.nodup_iff.mp ndall
      have nd3 := (List.nodup_append.mp nd2).1
      have mem2 : ∀ a ∈ A2, a ∈ Ao ∨ a ∈ A1 := fun a h => by
        have : a ∈ Bo ++ A1 := p1.mem_iff.mpr (List.mem_append_left _ h)
        rcases List.mem_append.mp this with z | z
        · exact .inl (pBo.mem_iff.mpr z)
        · exact .inr z
      refine ⟨A2, ⟨so.sub, (List.nodup_append.mp nd3).2.1, fun a h => ?_, A2, .refl _, p2⟩, nd3, ⟨g.f, fun b o eo hb => g.k b o eo fun h => hb (memA b h), fun b eb q => ?_, fun b hb => ?_⟩⟩
      · rcases mem2 a h with z | z
        · exact so.out a z
        · exact out1 a z
      · rcases g.n b eb q with z | z
        · exact .inl z
        · exact .inr (memA b z)
      · rcases List.mem_append.mp hb with z | z
        · rcases g.o b (List.mem_append_left _ z) with y | y
          · exact .inl y
          · exact .inr (memA b y)
        · rcases mem2 b z with y | y
          · rcases g.o b (List.mem_append_right _ y) with x | x
            · exact .inl x
            · exact .inr (memA b x)
          · exact .inr (memA1 b y)
    refine ⟨hl, ms, F, Aa, sta, fun z => ?_, fun r outs e2 v F' H' A' f so hr ndf hf g => ?_, fun x outs e2 cls d F' H' A' so g hx => ?_⟩
    · simp only [z] at nb; exact nb rfl
    · simp only [e2] at hok
      obtain ⟨A2, s2, nd2, g2⟩ := back so g ndf hf
      exact hok r _ rfl v F' H' A2 f s2 hr nd2 hf g2
    · simp only [e2] at hex
      obtain ⟨A2, s2, nd2, g2⟩ := back (f := []) so (by simpa using g) (by simpa using so.nod) (by simp)
      exact hex x _ rfl cls d F' H' A2 s2 (by simpa using g2) hx
theorem outsOf_len : ∀ {ρ : Env} {l : List MV}, outsOf ρ = some l → l.length = ρ.length := fun {ρ l} e => by
  rw [outsOf_eq e, List.length_map]
/-- the arguments' order -/
def GOk (g : {α : Type} → List α → List α → List α) : Prop := ∀ {α β : Type} (R : α → β → Prop) {xs ys : List α} {us ws : List β}, Paired R xs us → Paired R ys ws → Paired R (g xs ys) (g us ws)
def gPos {α : Type} (xs _ys : List α) : List α := xs
theorem gOk_pos : GOk @gPos := fun {_ _} _ {_ _ _ _} h _ => h
theorem Paired.app {α β : Type} {R : α → β → Prop} : ∀ {xs ys : List α} {us ws : List β}, Paired R xs us → Paired R ys ws → Paired R (xs ++ ys) (us ++ ws)
  | _, _, _, _, .nil, h => h
  | _, _, _, _, .cons a r, h => .cons a (Paired.app r h)
theorem Paired.pick {α β : Type} {R : α → β → Prop} : ∀ {xs : List α} {us : List β} (i : Nat), Paired R xs us → (xs[i]? = none ∧ us[i]? = none) ∨ ∃ a b, xs[i]? = some a ∧ us[i]? = some b ∧ R a b
  | _, _, _, .nil => .inl (by simp)
  | _, _, 0, .cons h _ => .inr ⟨_, _, rfl, rfl, h⟩
  | _, _, i + 1, .cons _ r => by
    rcases Paired.pick i r with h | ⟨a, b, h1, h2, h3⟩
    · exact .inl (by simpa using h)
    · exact .inr ⟨a, b, by simpa using h1, by simpa using h2, h3⟩
/-- positional values, then keywords: by these places -/
def gKw (idx : List Nat) {α : Type} (xs ys : List α) : List α := idx.filterMap fun i => (xs ++ ys)[i]?
theorem gOk_kw (idx : List Nat) : GOk (fun {α} => gKw (α := α) idx) := fun {α β} R {xs ys us ws} h1 h2 => by
  have h := Paired.app h1 h2
  show Paired R (idx.filterMap fun i => (xs ++ ys)[i]?) (idx.filterMap fun i => (us ++ ws)[i]?)
  induction idx with
  | nil => exact .nil
  | cons i r ih =>
    rcases Paired.pick i h with ⟨e1, e2⟩ | ⟨a, b, e1, e2, e3⟩
    · rw [List.filterMap_cons, List.filterMap_cons, e1, e2]
      exact ih
    · rw [List.filterMap_cons, List.filterMap_cons, e1, e2]
      exact .cons e3 ih
def eCall (m : List MV → RF) (g : {α : Type} → List α → List α → List α) (sa sk : SE (List Ar)) : SE MV := sa.bind fun as => sk.bind fun bs => callR m (g as bs)
theorem ev_call {K : PySem.W.Frag} {W : WX} {n np kn km : Nat} {m : List MV → RF} {g : {α : Type} → List α → List α → List α} {ta tk : TA} {sa sk : SE (List Ar)} (hg : GOk @g) (ha : EvAr K W ta sa) (hk : EvAr K W tk sk)
    (hla : ∀ ρ as ρ', sa ρ = .ok as ρ' → as.length = kn) (hlk : ∀ ρ as ρ', sk ρ = .ok as ρ' → as.length = km) (hlg : ∀ (as bs : List V), as.length = kn → bs.length = km → (g as bs).length = np) :
    Ev K nob (RepM K) W (tCallG kn km (spF K n np m) @g (WE W) ta tk) (eCall m @g sa sk) := by
  intro ρ σ F H A sB st Q nb hok hex
  have eb := bind_eq sa (fun as => sk.bind fun bs => callR m (g as bs)) ρ
  refine ha ρ σ F H A st _ (fun z => ?_) (fun as ρ1 e1 vs F1 H1 A1 st1 h1 g1 => ?_) (fun x ρ1 e1 cls d F1 H1 A1 st1 g1 hx => ?_)
  · rw [z] at eb; exact nb eb
  · rw [e1] at eb
    have eb2 := bind_eq sk (fun bs => callR m (g as bs)) ρ1
    refine hk ρ1 σ F1 H1 A1 st1 _ (fun z => ?_) (fun bs ρ2 e2 zs F2 H2 A2 st2 h2 g2 => ?_) (fun y ρ2 e2 cls d F2 H2 A2 st2 g2 hy => ?_)
    · rw [z] at eb2; exact nb (eb.trans eb2)
    · rw [e2] at eb2
      have l1 : vs.length = kn := by rw [← Paired.length h1]; exact hla ρ as ρ1 e1
      have l2 : zs.length = km := by rw [← Paired.length h2]; exact hlk ρ1 bs ρ2 e2
      have e3 : eCall m @g sa sk ρ = callR m (g as bs) ρ2 := eb.trans eb2
      refine ⟨l1, l2, callR_ok (hg _ (ArRep.mono g2.f h1) h2) (hlg vs zs l1 l2) st2 (fun z => nb (e3.trans z)) (fun r ρ' e4 v F' H' A' f so hr ndf hf g' => ?_) (fun x ρ' e4 cls d F' H' A' so g' hx => ?_)⟩
      · exact hok r ρ' (e3.trans e4) v F' H' A' f so hr ndf hf (Go.trans (Go.trans g1 g2) g')
      · exact hex x ρ' (e3.trans e4) cls d F' H' A' so (Go.trans (Go.trans g1 g2) g') hx
    · rw [e2] at eb2
      exact hex y ρ2 (eb.trans eb2) cls d F2 H2 A2 st2 (Go.trans g1 g2) hy
  · rw [e1] at eb
    exact hex x ρ1 eb cls d F1 H1 A1 st1 g1 hx
theorem runF_outs (n np nl : Nat) (hn : n ≤ np) (body : SE Out) : ∀ ms r outs, runF n np nl body ms = .ok r outs ∨ (∃ x, runF n np nl body ms = .exc x outs) → outs.length ≤ n := by
  intro ms r outs h
  have lt : ∀ {ρ' : Env} {l : List MV}, outsOf (ρ'.take n) = some l → l.length ≤ n := fun {ρ' l} e => by
    rw [outsOf_len e, List.length_take]
    omega
  unfold runF at h
  split at h
  · cases e : body (ms.map some ++ List.replicate nl none) with
    | bad => simp only [e] at h; rcases h with h | ⟨x, h⟩ <;> cases h
    | exc x ρ' =>
      simp only [e] at h
      cases eo : outsOf (ρ'.take n) with
      | none => simp only [eo] at h; rcases h with h | ⟨x, h⟩ <;> cases h
      | some l =>
        simp only [eo] at h
        rcases h with h | ⟨x, h⟩
        · cases h
        · cases h; exact lt eo
    | ok o ρ' =>
      cases o with
      | nx =>
        simp only [e] at h
        cases eo : outsOf (ρ'.take n) with
        | none => simp only [eo] at h; rcases h with h | ⟨x, h⟩ <;> cases h
        | some l =>
          simp only [eo] at h
          rcases h with h | ⟨x, h⟩
          · cases h; exact lt eo
          · cases h
      | rt m =>
        simp only [e] at h
        cases eo : outsOf (ρ'.take n) with
        | none => simp only [eo] at h; rcases h with h | ⟨x, h⟩ <;> cases h
        | some l =>
          simp only [eo] at h
          rcases h with h | ⟨x, h⟩
          · cases h; exact lt eo
          · cases h
      | bk => simp only [e] at h; rcases h with h | ⟨x, h⟩ <;> cases h
      | ct => simp only [e] at h; rcases h with h | ⟨x, h⟩ <;> cases h
  · rcases h with h | ⟨x, h⟩ <;> cases h
end Mv

set_option Elab.async false
set_option linter.all false
set_option maxRecDepth 100000
set_option maxHeartbeats 4000000
namespace Mv
open PySem PySem.Spec PyProof.Rows L2

/-! ### a scope in which all that is owned is only read -/
def flat : PV → Bool
  | .non => true
  | .bl _ => true
  | .int _ => true
  | .str _ => true
  | _ => false
def fzAll (ρ : Env) : Env := ρ.map fun o => o.map fun m => .fz m.view
def eScope (s : SE PV) : SE PV := fun ρ => match s (fzAll ρ) with
  | .ok p _ => if flat p = true then .ok p ρ else .bad
  | _ => .bad
def tScope (s : SE Bool) : SE Bool := fun ρ => match s (fzAll ρ) with
  | .ok b _ => .ok b ρ
  | _ => .bad
theorem Slots.fzAll {K : PySem.W.Frag} {F H : Hp} {A : List Addr} (hn : ∀ a ∈ A, F a = none) : ∀ {ρ : Env} {σ : L2.St} {B : List Addr}, (∀ a ∈ B, a ∈ A) → Slots K F H ρ σ B → Slots K (frz F H A) H (Mv.fzAll ρ) σ []
  | [], σ, B, hB, h => ⟨h.1, rfl⟩
  | none :: ρ, σ, B, hB, h => by
    obtain ⟨o, r, e, h⟩ := h
    exact ⟨o, r, e, Slots.fzAll hn hB h⟩
  | some m :: ρ, σ, B, hB, h => by
    obtain ⟨v, r, f, g, e, e2, e3, h⟩ := h
    subst e2
    refine ⟨v, r, [], [], e, rfl, ?_, Slots.fzAll hn (fun a ha => hB a (List.mem_append_right _ ha)) h⟩
    rw [RepM]
    exact ⟨rfl, RepF.mono (frz_le hn fun b hb => hB b (List.mem_append_left _ hb)) _ _ (RepM.freeze m v f (fun a ha => hn a (hB a (List.mem_append_left _ ha))) e3)⟩
theorem StOk.fzAll {K : PySem.W.Frag} {ρ : Env} {σ : L2.St} {F H : Hp} {A : List Addr} (s : StOk K ρ σ F H A) : StOk K (Mv.fzAll ρ) σ (frz F H A) H [] := by
  obtain ⟨B, q, h⟩ := s.sl
  exact ⟨frz_sub s.sub, by simp, by simp, [], .refl _, h.fzAll s.out fun a ha => q.mem_iff.mpr ha⟩
theorem flat_rep {K : PySem.W.Frag} {F F' : Hp} {p : PV} {v : V} (h : flat p = true) (hp : RepF K F p v) : RepF K F' p v := by
  cases p <;> first
    | exact nomatch (show false = true from h)
    | (rw [RepF] at hp ⊢; exact hp)
theorem Ev.scope {K : PySem.W.Frag} {W : WX} {te : TE} {s : SE PV} (h : Ev K nob (fr (RepF K)) W te s) : Ev K nob (fr (RepF K)) W te (eScope s) := by
  intro ρ σ F H A sB st Q nb hok hex
  have eb : eScope s ρ = match s (Mv.fzAll ρ) with
    | .ok p _ => if flat p = true then .ok p ρ else .bad
    | _ => .bad := rfl
  refine h (Mv.fzAll ρ) σ (frz F H A) H [] (nob_le _) st.fzAll Q (fun e => ?_) (fun p ρ' e b F' H' A' f st' hr nd hn go => ?_) (fun x ρ' e => ?_)
  · rw [e] at eb; exact absurd eb nb
  · rw [e] at eb
    have eb' : eScope s ρ = if flat p = true then .ok p ρ else .bad := eb
    by_cases hp : flat p = true
    · rw [if_pos hp] at eb'
      have kp : Same H H' := fun b o e => go.k b o e (by simp)
      refine hok p ρ eb' b F H' A [] (st.grow (Same.refl F) (fun b o e => kp b o (st.sub b o e)) (fun a _ o e => kp a o e) st.out) ⟨rfl, flat_rep hp hr.2⟩ (by simpa using st.nod) (by simp) ⟨Same.refl F, fun b o e _ => kp b o e, fun b e q => absurd e q, fun b hb => .inr (by simpa using hb)⟩
    · rw [if_neg hp] at eb'
      exact absurd eb' nb
  · rw [e] at eb; exact absurd eb nb
theorem Ev.scopeT {K : PySem.W.Frag} {W : WX} {te : TT} {s : SE Bool} (h : Ev K nob (fr zB) W te s) : Ev K nob (fr zB) W te (tScope s) := by
  intro ρ σ F H A sB st Q nb hok hex
  have eb : tScope s ρ = match s (Mv.fzAll ρ) with
    | .ok b _ => .ok b ρ
    | _ => .bad := rfl
  refine h (Mv.fzAll ρ) σ (frz F H A) H [] (nob_le _) st.fzAll Q (fun e => ?_) (fun p ρ' e b F' H' A' f st' hr nd hn go => ?_) (fun x ρ' e => ?_)
  · rw [e] at eb; exact absurd eb nb
  · rw [e] at eb
    have kp : Same H H' := fun b o e => go.k b o e (by simp)
    exact hok p ρ eb b F H' A [] (st.grow (Same.refl F) (fun b o e => kp b o (st.sub b o e)) (fun a _ o e => kp a o e) st.out) ⟨rfl, hr.2⟩ (by simpa using st.nod) (by simp) ⟨Same.refl F, fun b o e _ => kp b o e, fun b e q => absurd e q, fun b hb => .inr (by simpa using hb)⟩
  · rw [e] at eb; exact absurd eb nb
theorem QE.scope {X : Cx} {W : WX} {e : Expr} {te : TE} {s : SE PV} (h : QE X W e te s) : QE X W e te (eScope s) := ⟨h.pe, h.ev.scope⟩
theorem QT.scope {X : Cx} {W : WX} {e : Expr} {te : TT} {s : SE Bool} (h : QT X W e te s) : QT X W e te (tScope s) := ⟨h.pt, h.ev.scopeT⟩

/-! ### slots forgotten, and back -/
def wipeE (ρ : Env) : List Nat → Env
  | [] => ρ
  | v :: vs => (wipeE ρ vs).set v none
theorem wipeE_length (ρ : Env) : ∀ vs : List Nat, (wipeE ρ vs).length = ρ.length
  | [] => rfl
  | v :: vs => by rw [wipeE, List.length_set, wipeE_length ρ vs]
theorem wipeE_none {ρ : Env} {i : Nat} : ∀ {vs : List Nat}, i ∈ vs → i < ρ.length → (wipeE ρ vs)[i]? = some none
  | v :: vs, h, hl => by
    rw [wipeE]
    by_cases e : v = i
    · subst e
      rw [List.getElem?_set_self (by rw [wipeE_length]; exact hl)]
    · rw [List.getElem?_set_ne e]
      exact wipeE_none (by rcases List.mem_cons.mp h with z | z; exact absurd z.symm e; exact z) hl
def backE : List Nat → Env → Env → Env
  | [], _, ρ => ρ
  | v :: vs, ρ1, ρ => backE vs ρ1 (ρ.set v (match ρ1[v]? with
    | some (some (.fz p)) => some (.fz p)
    | _ => none))
theorem StOk.wipe {K : PySem.W.Frag} {ρ : Env} {σ : L2.St} {F H : Hp} {A : List Addr} (s : StOk K ρ σ F H A) : ∀ vs : List Nat, ∃ A', (∀ a ∈ A', a ∈ A) ∧ StOk K (wipeE ρ vs) (L2.wipe σ vs) F H A'
  | [] => ⟨A, fun _ h => h, s⟩
  | v :: vs => by
    obtain ⟨A1, m1, s1⟩ := StOk.wipe s vs
    obtain ⟨A2, nd, m2, s2⟩ := s1.drop v none
    exact ⟨A2, fun a h => m1 a (m2 a h), s2⟩
theorem Slots.anyAt {K : PySem.W.Frag} {F H : Hp} (o : Option V) : ∀ {ρ : Env} {σ : L2.St} {A : List Addr} {i : Nat}, Slots K F H ρ σ A → ρ[i]? = some none → Slots K F H ρ (σ.set i o) A
  | [], σ, A, i, h, e => by simp at e
  | none :: ρ, σ, A, 0, h, e => by
    obtain ⟨o', r, e1, h⟩ := h
    subst e1
    exact ⟨o, r, rfl, h⟩
  | some m :: ρ, σ, A, 0, h, e => by simp at e
  | none :: ρ, σ, A, i + 1, h, e => by
    obtain ⟨o', r, e1, h⟩ := h
    subst e1
    exact ⟨o', _, rfl, Slots.anyAt o h (by simpa using e)⟩
  | some m :: ρ, σ, A, i + 1, h, e => by
    obtain ⟨v, r, f, g, e1, e2, e3, h⟩ := h
    subst e1
    exact ⟨v, _, f, g, rfl, e2, e3, Slots.anyAt o h (by simpa using e)⟩
theorem wipe_notin {σ : L2.St} {i : Nat} : ∀ {vs : List Nat}, i ∉ vs → (L2.wipe σ vs)[i]? = σ[i]?
  | [], h => rfl
  | v :: vs, h => by
    rw [L2.wipe, List.getElem?_set_ne (by intro e; subst e; exact h (List.mem_cons_self ..))]
    exact wipe_notin fun z => h (List.mem_cons_of_mem _ z)
theorem StOk.back {K : PySem.W.Frag} {ρ1 : Env} {σ : L2.St} {F1 H1 F H : Hp} {A1 : List Addr} (s1 : StOk K ρ1 σ F1 H1 A1) (e : Same F1 F) : ∀ {vs : List Nat} {ρ : Env} {A : List Addr}, vs.Nodup → (∀ i ∈ vs, i < ρ.length → ρ[i]? = some none) → StOk K ρ (L2.wipe σ vs) F H A → StOk K (backE vs ρ1 ρ) σ F H A
  | [], ρ, A, nd, hv, s => s
  | v :: vs, ρ, A, nd, hv, s => by
    rw [backE]
    obtain ⟨nv, nd'⟩ := List.nodup_cons.mp nd
    refine StOk.back s1 e nd' (fun i hi hl => ?_) ?_
    · rw [List.getElem?_set_ne (by intro z; subst z; exact nv hi)]
      exact hv i (List.mem_cons_of_mem _ hi) (by simpa using hl)
    · by_cases hl : v < ρ.length
      · have hz := hv v (List.mem_cons_self ..) hl
        have hsl : (L2.wipe σ (v :: vs)).length = ρ.length := s.len
        have hw : (L2.wipe σ vs)[v]? = σ[v]? := wipe_notin nv
        have ew : L2.wipe σ (v :: vs) = (L2.wipe σ vs).set v none := rfl
        have lw : (L2.wipe σ vs).length = ρ.length := by rw [ew, List.length_set] at hsl; exact hsl
        have key : ∀ x, σ[v]? = some x → ((L2.wipe σ vs).set v none).set v x = L2.wipe σ vs := fun x hx => by
          rw [List.set_set]
          rw [hx] at hw
          obtain ⟨h1, h2⟩ := List.getElem?_eq_some_iff.mp hw
          rw [← h2, List.set_getElem_self]
        have drop : StOk K (ρ.set v none) (L2.wipe σ vs) F H A := by
          have e1 : ρ.set v none = ρ := by
            obtain ⟨h1, h2⟩ := List.getElem?_eq_some_iff.mp hz
            rw [← h2, List.set_getElem_self]
          rw [e1]
          have hx : ∃ x, σ[v]? = some x := by
            rw [← hw]
            exact ⟨_, List.getElem?_eq_getElem (by omega)⟩
          obtain ⟨x, hx⟩ := hx
          obtain ⟨B, q, h⟩ := s.sl
          rw [ew] at h
          have h2 := h.anyAt x hz
          rw [key x hx] at h2
          exact ⟨s.sub, s.nod, s.out, B, q, h2⟩
        cases e0 : ρ1[v]? with
        | none => exact drop
        | some o => cases o with
          | none => exact drop
          | some m => cases m with
            | fz p =>
              obtain ⟨x, q1, q2⟩ := s1.getF e0
              have s2 := s.put (i := v) (m := .fz p) (v := x) (f := []) hz (by rw [RepM]; exact ⟨rfl, RepF.mono e _ _ q2⟩) (by simpa using s.nod) (by simp)
              rw [ew, key _ q1] at s2
              exact s2
            | ml xs => exact drop
            | md ks xs => exact drop
      · have hsl : (L2.wipe σ (v :: vs)).length = ρ.length := s.len
        have ew : L2.wipe σ (v :: vs) = (L2.wipe σ vs).set v none := rfl
        rw [ew, List.length_set] at hsl
        have e1 : (L2.wipe σ vs).set v none = L2.wipe σ vs := List.set_eq_of_length_le (by omega)
        rw [List.set_eq_of_length_le (by omega)]
        rw [ew, e1] at s
        exact s
theorem Chg.wipe {tl vs : List Nat} {σ σ2 : L2.St} (c : Chg tl (L2.wipe σ vs) σ2) (h : ∀ j ∈ tl, j ∈ vs) : L2.wipe σ2 vs = L2.wipe σ vs := by
  have lens : (L2.wipe σ2 vs).length = (L2.wipe σ vs).length := by rw [wipe_length, c.1]
  apply List.ext_getElem?
  intro i
  by_cases hi : i ∈ vs
  · by_cases hl : i < (L2.wipe σ vs).length
    · have wn : ∀ (τ : L2.St) (us : List Nat), i ∈ us → i < τ.length → (L2.wipe τ us)[i]? = some none := by
        intro τ us
        induction us with
        | nil => intro h; cases h
        | cons v r ih =>
          intro h hl
          rw [L2.wipe]
          by_cases e : v = i
          · subst e
            rw [List.getElem?_set_self (by rw [wipe_length]; exact hl)]
          · rw [List.getElem?_set_ne e]
            exact ih (by rcases List.mem_cons.mp h with z | z; exact absurd z.symm e; exact z) hl
      rw [wn σ2 vs hi (by rw [c.1]; exact hl), wn σ vs hi (by rw [wipe_length] at hl; exact hl)]
    · rw [List.getElem?_eq_none (by omega), List.getElem?_eq_none (by omega)]
  · rw [wipe_notin hi, c.2 i fun z => hi (h i z)]

/-! ### a list in the making -/
structure Dk (D : Addr) (xs : List V) (F H : Hp) (A : List Addr) : Prop where
  h : H D = some (.lst xs)
  f : F D = none
  a : D ∉ A
theorem Go.dk {F H F' H' : Hp} {A A' : List Addr} {D : Addr} {xs : List V} (g : Go F H A F' H' A') (d : Dk D xs F H A) : Dk D xs F' H' A' := by
  refine ⟨g.k D _ d.h d.a, ?_, fun hm => ?_⟩
  · cases e : F' D with
    | none => rfl
    | some o =>
      rcases g.n D d.f (by rw [e]; simp) with z | z
      · rw [d.h] at z; cases z
      · exact absurd z d.a
  · rcases g.o D hm with z | z
    · rw [d.h] at z; cases z
    · exact d.a z
theorem Go.side {F H F' H' : Hp} {A A' : List Addr} {D : Addr} (g : Go F H A F' H' A') : Go F H (D :: A) F' H' (D :: A') :=
  ⟨g.f, fun b o e hb => g.k b o e fun z => hb (List.mem_cons_of_mem _ z), fun b e q => (g.n b e q).imp id fun z => List.mem_cons_of_mem _ z, fun b hb => by
    rcases List.mem_cons.mp hb with z | z
    · exact .inr (z ▸ List.mem_cons_self ..)
    · exact (g.o b z).imp id fun y => List.mem_cons_of_mem _ y⟩
theorem Go.upd {F H F' H' : Hp} {A A' : List Addr} {D : Addr} {u : HO} (g : Go F H A F' H' (D :: A')) (hD : D ∈ A) : Go F H A F' (L2.upd H' D u) (D :: A') :=
  ⟨g.f, fun b o e hb => by rw [upd_ne (by intro z; subst z; exact hb hD)]; exact g.k b o e hb, g.n, g.o⟩
theorem StOk.upd {K : PySem.W.Frag} {ρ : Env} {σ : L2.St} {F H : Hp} {A : List Addr} {D : Addr} {xs : List V} {u : HO} (s : StOk K ρ σ F H A) (d : Dk D xs F H A) : StOk K ρ σ F (L2.upd H D u) A :=
  s.grow (Same.refl F) (fun b o e => by rw [upd_ne (ne_of_none e d.f)]; exact s.sub b o e) (fun a ha o e => by rw [upd_ne (by intro z; subst z; exact d.a ha)]; exact e) s.out

/-! ### comprehensions -/
def W0 : WX := fun _ _ _ _ => False
def lcGo (g : PV → Env → Option Env) (tt : SE Bool) (te : SE PV) (vs : List Nat) : List PV → List PV → Env → Option (List PV × Env)
  | [], acc, ρ => some (acc, ρ)
  | p :: r, acc, ρ => match g p ρ with
    | none => none
    | some ρ1 => match tt ρ1 with
      | .ok true ρ2 => (match te ρ2 with
        | .ok y ρ3 => lcGo g tt te vs r (acc ++ [y]) (wipeE ρ3 vs)
        | _ => none)
      | .ok false ρ2 => lcGo g tt te vs r acc (wipeE ρ2 vs)
      | _ => none
def sLc (it : SE (List PV)) (g : PV → Env → Option Env) (tt : SE Bool) (te : SE PV) (vs : List Nat) : SE MV := it.bind fun items ρ =>
  if items.length ≤ 16777216 then match lcGo g tt te vs items [] (wipeE ρ vs) with
    | some z => .ok (.ml (z.1.map .fz)) (backE vs ρ z.2)
    | none => .bad
  else .bad
theorem lcGo_cons {g : PV → Env → Option Env} {tt : SE Bool} {te : SE PV} {vs : List Nat} {p : PV} {r acc : List PV} {ρ : Env} : lcGo g tt te vs (p :: r) acc ρ = match g p ρ with
    | none => none
    | some ρ1 => match tt ρ1 with
      | .ok true ρ2 => (match te ρ2 with
        | .ok y ρ3 => lcGo g tt te vs r (acc ++ [y]) (wipeE ρ3 vs)
        | _ => none)
      | .ok false ρ2 => lcGo g tt te vs r acc (wipeE ρ2 vs)
      | _ => none := by rw [lcGo]
theorem ev_lc {K : PySem.W.Frag} {W : WX} {wi : TI} {g : TG} {tt : TT} {te : TE} {si : SE (List PV)} {sg : PV → Env → Option Env} {st : SE Bool} {se : SE PV} {tl vs : List Nat} (hi : Ev K nob (fr (IsIt K)) W wi si) (hg : EvG K tl g sg) (ht : Ev K nob (fr zB) W0 tt st) (he : Ev K nob (fr (RepF K)) W0 te se)
    (hs : ∀ j ∈ tl, j ∈ vs) (hnd : vs.Nodup) : Ev K nob (RepM K) W (tLc wi g tt te vs) (sLc si sg st se vs) := by
  intro ρ σ F H A sB sok Q nb hok hex
  have eb := bind_eq si (fun items ρ => if items.length ≤ 16777216 then match lcGo sg st se vs items [] (wipeE ρ vs) with
    | some z => .ok (MV.ml (z.1.map .fz)) (backE vs ρ z.2)
    | none => .bad
  else .bad) ρ
  refine hi ρ σ F H A sB sok _ (fun e => ?_) (fun items ρ1 e J F1 H1 A1 f st1 hr _ _ g1 => ?_) (fun x ρ' e cls d F' H' A' st' go hx => ?_)
  · rw [e] at eb; exact nb eb
  · rw [e] at eb
    obtain ⟨rfl, hJ⟩ := hr
    have eb2 : sLc si sg st se vs ρ = if items.length ≤ 16777216 then match lcGo sg st se vs items [] (wipeE ρ1 vs) with
      | some z => .ok (MV.ml (z.1.map .fz)) (backE vs ρ1 z.2)
      | none => .bad
    else .bad := eb
    by_cases hlen : items.length ≤ 16777216
    · rw [if_pos hlen] at eb2
      cases eg : lcGo sg st se vs items [] (wipeE ρ1 vs) with
      | none => rw [eg] at eb2; exact absurd eb2 nb
      | some z =>
        rw [eg] at eb2
        have eb3 : sLc si sg st se vs ρ = .ok (MV.ml (z.1.map .fz)) (backE vs ρ1 z.2) := eb2
        intro D hD
        have hF1 : F1 D = none := by
          cases q : F1 D with
          | none => rfl
          | some u => rw [st1.sub _ _ q] at hD; cases hD
        have hA1 : D ∉ A1 := fun hm => st1.there D hm hD
        obtain ⟨Aw, mw, stw⟩ := st1.wipe vs
        have dk0 : Dk D [] F1 (L2.upd H1 D (.lst [])) Aw := ⟨upd_same, hF1, fun hm => hA1 (mw D hm)⟩
        have stw0 : StOk K (wipeE ρ1 vs) (L2.wipe σ vs) F1 (L2.upd H1 D (.lst [])) Aw := stw.grow (Same.refl F1) (fun b o q => by rw [upd_ne (ne_of_none q hF1)]; exact stw.sub b o q) (fun a ha o q => by rw [upd_ne (by intro y; subst y; exact hA1 (mw a ha))]; exact q) stw.out
        have go0 : Go F1 H1 A1 F1 (L2.upd H1 D (.lst [])) (D :: Aw) := ⟨Same.refl _, fun b o q _ => by rw [upd_ne (ne_of_none q hD)]; exact q, fun b q y => absurd q y, fun b hb => by
          rcases List.mem_cons.mp hb with y | y
          · rw [y]; exact .inl hD
          · exact .inr (mw b y)⟩
        refine ⟨fun i m H' => m = items.length - i ∧ i ≤ items.length ∧ ∃ ρ' F' A' acc xs, StOk K ρ' (L2.wipe σ vs) F' H' A' ∧ Dk D xs F' H' A' ∧ RepFs K F' acc xs ∧ xs.length ≤ i ∧ Go F1 H1 A1 F' H' (D :: A') ∧ (∀ i ∈ vs, i < ρ'.length → ρ'[i]? = some none) ∧ lcGo sg st se vs (items.drop i) acc ρ' = some z,
          ⟨items.length, by simp, Nat.zero_le _, wipeE ρ1 vs, F1, Aw, [], [], stw0, dk0, by rw [RepFs], Nat.zero_le _, go0, fun i hi hl => wipeE_none hi (by rwa [wipeE_length] at hl), by rw [List.drop_zero]; exact eg⟩, ?_⟩
        rintro i m H2 ⟨rfl, hi2, ρ2, F2, A2, acc, xs, st2, dk2, ra2, hl2, g2, w2, eg2⟩
        by_cases hlt : i < items.length
        · rw [List.drop_eq_getElem_cons hlt, lcGo_cons] at eg2
          refine .inr ⟨hJ.goes i H2 F2 hlt g2.f st2.sub, fun H' => items.length - (i + 1) = items.length - (i + 1) ∧ i + 1 ≤ items.length ∧ ∃ ρ' F' A' acc xs, StOk K ρ' (L2.wipe σ vs) F' H' A' ∧ Dk D xs F' H' A' ∧ RepFs K F' acc xs ∧ xs.length ≤ i + 1 ∧ Go F1 H1 A1 F' H' (D :: A') ∧ (∀ i ∈ vs, i < ρ'.length → ρ'[i]? = some none) ∧ lcGo sg st se vs (items.drop (i + 1)) acc ρ' = some z,
            fun H' h' => ⟨items.length - (i + 1), by omega, h'⟩, fun x H3 y3 => ?_⟩
          obtain ⟨F3, s23, s33, sH, nw3, rp3⟩ := hJ.yields i items[i] H2 F2 x H3 (by rw [List.getElem?_eq_getElem hlt]) g2.f st2.sub y3
          have o3 : ∀ a, H2 a ≠ none → F2 a = none → F3 a = none := fun a h1 h2 => by
            cases q : F3 a with
            | none => rfl
            | some u => exact absurd (nw3 a h2 (by rw [q]; simp)) h1
          have st3 : StOk K ρ2 (L2.wipe σ vs) F3 H3 A2 := st2.grow s23 s33 (fun a _ o q => sH a o q) (fun a ha => o3 a (st2.there a ha) (st2.out a ha))
          have g23 : Go F2 H2 A2 F3 H3 A2 := ⟨s23, fun b o q _ => sH b o q, fun b q y => .inl (nw3 b q y), fun b hb => .inr hb⟩
          have dk3 := g23.dk dk2
          refine hg items[i] x ρ2 (L2.wipe σ vs) F3 H3 A2 rp3 st3 _ (fun q => ?_) (fun ρ4 q4 σ4 F4 H4 A4 st4 g4 ch4 => ⟨ch4.wipe hs, ?_⟩)
          · rw [q] at eg2; cases eg2
          · rw [q4] at eg2
            have g24 := g23.trans g4
            refine ht ρ4 σ4 F4 H4 A4 (nob_le _) st4 _ (fun q => ?_) (fun b ρ5 q5 b' F5 H5 A5 f5 st5 hr5 _ _ g5 => ?_) (fun y ρ5 q5 => ?_)
            · simp only [q] at eg2; cases eg2
            · obtain ⟨rfl, hb⟩ := hr5
              have hb' : b' = b := hb
              subst hb'
              have g25 := g24.trans g5
              have back : ∀ {σ6 : L2.St} {ρ6 : Env} {F6 H6 : Hp} {A6 : List Addr}, StOk K ρ6 σ6 F6 H6 A6 → L2.wipe σ6 vs = L2.wipe σ vs → ∃ A7, (∀ a ∈ A7, a ∈ A6) ∧ StOk K (wipeE ρ6 vs) (L2.wipe σ vs) F6 H6 A7 := fun {σ6 ρ6 F6 H6 A6} s6 e6 => by
                obtain ⟨A7, m7, s7⟩ := s6.wipe vs
                rw [e6] at s7
                exact ⟨A7, m7, s7⟩
              cases b' with
              | true =>
                simp only [q5] at eg2
                rw [if_pos rfl]
                refine he ρ5 σ4 F5 H5 A5 (nob_le _) st5 _ (fun q => ?_) (fun p ρ6 q6 v F6 H6 A6 f6 st6 hr6 _ _ g6 => ?_) (fun y ρ6 q6 => ?_)
                · simp only [q] at eg2; cases eg2
                · obtain ⟨rfl, hv⟩ := hr6
                  simp only [q6] at eg2
                  have g26 := g25.trans g6
                  have dk6 := g26.dk dk2
                  have l6 : xs.length < sizeLine := by rw [line_eq]; omega
                  refine ⟨xs, dk6.h, l6, rfl, hlt, ?_⟩
                  obtain ⟨A7, m7, s7⟩ := back st6 (ch4.wipe hs)
                  have dk7 : Dk D xs F6 H6 A7 := ⟨dk6.h, dk6.f, fun hm => dk6.a (m7 D hm)⟩
                  refine ⟨wipeE ρ6 vs, F6, A7, acc ++ [p], xs ++ [v], s7.upd dk7, ⟨upd_same, dk7.f, dk7.a⟩, RepFs.append (RepFs.mono g26.f _ _ ra2) (RepFs.single hv), by rw [List.length_append]; simp; omega, ?_, fun i hi hl => wipeE_none hi (by rwa [wipeE_length] at hl), eg2⟩
                  refine Go.trans g2 (Go.upd ((Go.side g26).weak fun a ha => ?_) (List.mem_cons_self ..))
                  rcases List.mem_cons.mp ha with y | y
                  · rw [y]; exact List.mem_cons_self ..
                  · exact List.mem_cons_of_mem _ (m7 a (by simpa using y))
                · simp only [q6] at eg2; cases eg2
              | false =>
                simp only [q5] at eg2
                rw [if_neg Bool.false_ne_true]
                have dk5 := g25.dk dk2
                obtain ⟨A7, m7, s7⟩ := back st5 (ch4.wipe hs)
                refine ⟨rfl, hlt, wipeE ρ5 vs, F5, A7, acc, xs, s7, ⟨dk5.h, dk5.f, fun hm => dk5.a (m7 D hm)⟩, RepFs.mono g25.f _ _ ra2, by omega, ?_, fun i hi hl => wipeE_none hi (by rwa [wipeE_length] at hl), eg2⟩
                refine Go.trans g2 ((Go.side g25).weak fun a ha => ?_)
                rcases List.mem_cons.mp ha with y | y
                · rw [y]; exact List.mem_cons_self ..
                · exact List.mem_cons_of_mem _ (m7 a (by simpa using y))
            · simp only [q5] at eg2; cases eg2
        · have ei : i = items.length := by omega
          subst ei
          rw [List.drop_length, lcGo] at eg2
          cases eg2
          refine .inl ⟨hJ.stops H2 F2 g2.f st2.sub, ?_⟩
          have st6 := st1.back g2.f hnd w2 st2
          refine hok _ _ eb3 (.ref D) F2 H2 A2 [D] st6 ?_ ?_ (fun x hx => ?_) (Go.trans g1 (by simpa using g2))
          · rw [RepM]
            exact ⟨D, xs, [], rfl, dk2.h, rfl, RepMs.fz ra2⟩
          · rw [List.singleton_append, List.nodup_cons]
            exact ⟨dk2.a, st2.nod⟩
          · rw [List.mem_singleton.mp hx]; exact dk2.f
    · rw [if_neg hlen] at eb2
      exact absurd eb2 nb
  · rw [e] at eb
    exact hex x ρ' eb cls d F' H' A' st' go hx
end Mv

set_option Elab.async false
set_option linter.all false
set_option maxRecDepth 100000
set_option maxHeartbeats 4000000
namespace Mv
open PySem PySem.Spec PyProof.Rows L2

/-! ### loops -/
def forL (g : PV → Env → Option Env) (b : SE Out) : List PV → SE Out
  | [] => fun ρ => .ok .nx ρ
  | p :: r => fun ρ => match g p ρ with
    | none => .bad
    | some ρ1 => match b ρ1 with
      | .ok .nx ρ2 => forL g b r ρ2
      | .ok .ct ρ2 => forL g b r ρ2
      | .ok .bk ρ2 => .ok .nx ρ2
      | .ok (.rt m) ρ2 => .ok (.rt m) ρ2
      | .exc x ρ2 => .exc x ρ2
      | .bad => .bad
def sFor (it : SE (List PV)) (g : PV → Env → Option Env) (b : SE Out) : SE Out := it.bind fun items => forL g b items
theorem forL_cons {g : PV → Env → Option Env} {b : SE Out} {p : PV} {r : List PV} {ρ : Env} : forL g b (p :: r) ρ = match g p ρ with
    | none => .bad
    | some ρ1 => match b ρ1 with
      | .ok .nx ρ2 => forL g b r ρ2
      | .ok .ct ρ2 => forL g b r ρ2
      | .ok .bk ρ2 => .ok .nx ρ2
      | .ok (.rt m) ρ2 => .ok (.rt m) ρ2
      | .exc x ρ2 => .exc x ρ2
      | .bad => .bad := by rw [forL]
theorem ev_for {K : PySem.W.Frag} {n : Nat} {W : WX} {wi : TI} {g : TG} {tb : TS} {si : SE (List PV)} {sg : PV → Env → Option Env} {sb : SE Out} {tl : List Nat} (hi : Ev K nob (fr (IsIt K)) W wi si) (hg : EvG K tl g sg) (hb : EvS K n W tb sb) (hn : ∀ j ∈ tl, n ≤ j) : EvS K n W (tFor wi g tb) (sFor si sg sb) := by
  intro ρ σ F H A st D w
  have eb := bind_eq si (fun items => forL sg sb items) ρ
  refine hi ρ σ F H A (nob_le _) st _ (fun e => ?_) (fun items ρ1 e J F1 H1 A1 f st1 hr _ _ g1 => ?_) (fun x ρ' e cls d F' H' A' st' go hx => ?_)
  · rw [e] at eb; exact w.nb eb
  · rw [e] at eb
    obtain ⟨rfl, hJ⟩ := hr
    have w1 : Wants K n W (forL sg sb items ρ1) σ F1 H1 A1 D := by
      have e2 : sFor si sg sb ρ = forL sg sb items ρ1 := eb
      rw [e2] at w
      exact w.go g1 (Fix.refl _ _)
    refine ⟨fun i m σ' H' => m = items.length - i ∧ i ≤ items.length ∧ ∃ ρ' F' A', StOk K ρ' σ' F' H' A' ∧ Go F1 H1 A1 F' H' A' ∧ Fix n σ σ' ∧ forL sg sb (items.drop i) ρ' = forL sg sb items ρ1,
      ⟨items.length, by simp, Nat.zero_le _, ρ1, F1, A1, st1, Go.refl .., Fix.refl _ _, by rw [List.drop_zero]⟩, ?_⟩
    rintro i m σ2 H2 ⟨rfl, hi2, ρ2, F2, A2, st2, g2, x2, e2⟩
    have w2 : Wants K n W (forL sg sb (items.drop i) ρ2) σ2 F2 H2 A2 D := by
      rw [e2]
      exact w1.go g2 x2
    by_cases hlt : i < items.length
    · have ed : items.drop i = items[i] :: items.drop (i + 1) := List.drop_eq_getElem_cons hlt
      rw [ed, forL_cons] at w2 e2
      refine .inr ⟨hJ.goes i H2 F2 hlt g2.f st2.sub, fun σ' H' => items.length - (i + 1) = items.length - (i + 1) ∧ i + 1 ≤ items.length ∧ ∃ ρ' F' A', StOk K ρ' σ' F' H' A' ∧ Go F1 H1 A1 F' H' A' ∧ Fix n σ σ' ∧ forL sg sb (items.drop (i + 1)) ρ' = forL sg sb items ρ1,
        fun σ' H' h' => ⟨items.length - (i + 1), by omega, h'⟩, fun x H3 y3 => ?_⟩
      obtain ⟨F3, s23, s33, sH, nw3, rp3⟩ := hJ.yields i items[i] H2 F2 x H3 (by rw [List.getElem?_eq_getElem hlt]) g2.f st2.sub y3
      have o3 : ∀ a, H2 a ≠ none → F2 a = none → F3 a = none := fun a h1 h2 => by
        cases q : F3 a with
        | none => rfl
        | some u => exact absurd (nw3 a h2 (by rw [q]; simp)) h1
      have st3 : StOk K ρ2 σ2 F3 H3 A2 := st2.grow s23 s33 (fun a _ o q => sH a o q) (fun a ha => o3 a (st2.there a ha) (st2.out a ha))
      have g23 : Go F2 H2 A2 F3 H3 A2 := ⟨s23, fun b o q _ => sH b o q, fun b q y => .inl (nw3 b q y), fun b hb => .inr hb⟩
      refine hg items[i] x ρ2 σ2 F3 H3 A2 rp3 st3 _ (fun q => ?_) (fun ρ4 q4 σ4 F4 H4 A4 st4 g4 ch4 => ?_)
      · rw [q] at w2; exact absurd rfl w2.nb
      · rw [q4] at w2 e2
        have x4 : Fix n σ2 σ4 := ch4.fix hn
        have g24 := g23.trans g4
        have w4 := w2.go g24 x4
        refine hb ρ4 σ4 F4 H4 A4 st4 _ ⟨fun q => ?_, fun ρ5 q σ5 F5 H5 A5 st5 g5 x5 => ?_, fun m ρ5 q => ?_, fun ρ5 q => ?_, fun ρ5 q σ5 F5 H5 A5 st5 g5 x5 => ?_, fun y ρ5 q => ?_⟩
        · simp only [q] at w4; exact absurd rfl w4.nb
        · simp only [q] at e2
          exact ⟨rfl, hlt, ρ5, F5, A5, st5, (g2.trans g24).trans g5, (x2.trans x4).trans x5, e2⟩
        · simp only [q] at w4
          exact w4.rt m ρ5 rfl
        · simp only [q] at w4
          exact w4.nx ρ5 rfl
        · simp only [q] at e2
          exact ⟨rfl, hlt, ρ5, F5, A5, st5, (g2.trans g24).trans g5, (x2.trans x4).trans x5, e2⟩
        · simp only [q] at w4
          exact w4.xc y ρ5 rfl
    · have ei : i = items.length := by omega
      subst ei
      rw [List.drop_length, forL] at w2
      exact .inl ⟨hJ.stops H2 F2 g2.f st2.sub, w2.nx ρ2 rfl σ2 F2 H2 A2 st2 (Go.refl ..) (Fix.refl _ _)⟩
  · rw [e] at eb
    exact w.xc x ρ' eb cls d σ F' H' A' st' go (Fix.refl _ _) hx
/-- while, k turns at most -/
def whileL (c : SE Bool) (b : SE Out) : Nat → SE Out
  | 0 => fun _ => .bad
  | k + 1 => fun ρ => match c ρ with
    | .ok true ρ1 => (match b ρ1 with
      | .ok .nx ρ2 => whileL c b k ρ2
      | .ok .ct ρ2 => whileL c b k ρ2
      | .ok .bk ρ2 => .ok .nx ρ2
      | .ok (.rt m) ρ2 => .ok (.rt m) ρ2
      | .exc x ρ2 => .exc x ρ2
      | .bad => .bad)
    | .ok false ρ1 => .ok .nx ρ1
    | .exc x ρ1 => .exc x ρ1
    | .bad => .bad
theorem whileL_succ {c : SE Bool} {b : SE Out} {k : Nat} {ρ : Env} : whileL c b (k + 1) ρ = match c ρ with
    | .ok true ρ1 => (match b ρ1 with
      | .ok .nx ρ2 => whileL c b k ρ2
      | .ok .ct ρ2 => whileL c b k ρ2
      | .ok .bk ρ2 => .ok .nx ρ2
      | .ok (.rt m) ρ2 => .ok (.rt m) ρ2
      | .exc x ρ2 => .exc x ρ2
      | .bad => .bad)
    | .ok false ρ1 => .ok .nx ρ1
    | .exc x ρ1 => .exc x ρ1
    | .bad => .bad := by rw [whileL]
theorem ev_while {K : PySem.W.Frag} {n : Nat} {W : WX} {tc : TT} {tb : TS} {sc : SE Bool} {sb : SE Out} (fuel : Nat) (hc : Ev K nob (fr zB) W tc sc) (hb : EvS K n W tb sb) : EvS K n W (tWhile tc tb) (whileL sc sb fuel) := by
  intro ρ σ F H A st D w
  refine ⟨fun m σ' H' => ∃ ρ' F' A', StOk K ρ' σ' F' H' A' ∧ Wants K n W (whileL sc sb m ρ') σ' F' H' A' D, ⟨fuel, ρ, F, A, st, w⟩, ?_⟩
  rintro m σ2 H2 ⟨ρ2, F2, A2, st2, w2⟩
  cases m with
  | zero => rw [whileL] at w2; exact absurd rfl w2.nb
  | succ m =>
    rw [whileL_succ] at w2
    refine hc ρ2 σ2 F2 H2 A2 (nob_le _) st2 _ (fun q => ?_) (fun b ρ3 q b' F3 H3 A3 f st3 hr _ _ g3 => ?_) (fun x ρ3 q cls d F3 H3 A3 st3 g3 hx => ?_)
    · simp only [q] at w2; exact absurd rfl w2.nb
    · obtain ⟨rfl, hb'⟩ := hr
      have e : b' = b := hb'
      subst e
      have g3' : Go F2 H2 A2 F3 H3 A3 := by simpa using g3
      cases b' with
      | true =>
        rw [if_pos rfl]
        simp only [q] at w2
        have w3 := w2.go g3' (Fix.refl n σ2)
        refine ⟨fun σ' H' => ∃ ρ' F' A', StOk K ρ' σ' F' H' A' ∧ Wants K n W (whileL sc sb m ρ') σ' F' H' A' D, fun σ' H' h => ⟨m, Nat.lt_succ_self m, h⟩, ?_⟩
        refine hb ρ3 σ2 F3 H3 A3 st3 _ ⟨fun q => ?_, fun ρ5 q σ5 F5 H5 A5 st5 g5 x5 => ?_, fun v ρ5 q => ?_, fun ρ5 q => ?_, fun ρ5 q σ5 F5 H5 A5 st5 g5 x5 => ?_, fun y ρ5 q => ?_⟩
        · simp only [q] at w3; exact absurd rfl w3.nb
        · simp only [q] at w3
          exact ⟨ρ5, F5, A5, st5, w3.go g5 x5⟩
        · simp only [q] at w3
          exact w3.rt v ρ5 rfl
        · simp only [q] at w3
          exact w3.nx ρ5 rfl
        · simp only [q] at w3
          exact ⟨ρ5, F5, A5, st5, w3.go g5 x5⟩
        · simp only [q] at w3
          exact w3.xc y ρ5 rfl
      | false =>
        rw [if_neg Bool.false_ne_true]
        simp only [q] at w2
        exact w2.nx ρ3 rfl σ2 F3 H3 A3 st3 g3' (Fix.refl _ _)
    · simp only [q] at w2
      exact w2.xc x ρ3 rfl cls d σ2 F3 H3 A3 st3 g3 (Fix.refl _ _) hx
section
variable {X : Cx} {n : Nat} {W : WX} {pos : Pos}
theorem qs_for {tg iter : Expr} {body : List Stmt} {wi : TI} {g : TG} {tb : TS} {si : SE (List PV)} {sg : PV → Env → Option Env} {sb : SE Out} {tl : List Nat} (hp : PassesOwn (model X.prog X.w) X.A X.env X.xe) (hc : X.calm = true) (hi : QI X W tg iter wi si) (hg : QG X tl tg g sg) (hb : QSs X n W body tb sb) (hn : ∀ j ∈ tl, n ≤ j := by decide)
    (hs : ∀ x, foldedSetIterable iter X.env x = pure x := by intro _; rfl) : QS X n W (.For tg iter body [] pos) (tFor wi g tb) (sFor si sg sb) := ⟨ps_for hp hc hi.pi hg.pg hb.ps hs, ev_for hi.ev hg.ev hb.ev hn⟩
theorem qs_while {c : Expr} {body : List Stmt} {tc : TT} {tb : TS} {sc : SE Bool} {sb : SE Out} (fuel : Nat) (hp : PassesOwn (model X.prog X.w) X.A X.env X.xe) (hc : QT X W c tc sc) (hb : QSs X n W body tb sb) : QS X n W (.While c body [] pos) (tWhile tc tb) (whileL sc sb fuel) := ⟨ps_while hp hc.pt hb.ps, ev_while fuel hc.ev hb.ev⟩
end

/-! ### several owned values -/
theorem Ev.consM {K : PySem.W.Frag} {W : WX} {te : TE} {t : TA} {e : SE MV} {r : SE (List MV)} (he : Ev K nob (RepM K) W te e) (hr : Ev K nob (RepMs K) W t r) : Ev K nob (RepMs K) W (tCons te t) (e.bind fun m => r.bind fun ms => SE.ret (m :: ms)) := by
  intro ρ σ F H A sB st Q nb hok hex
  have eb := bind_eq e (fun m => r.bind fun ms => SE.ret (m :: ms)) ρ
  refine he ρ σ F H A sB st (fun x H1 => t σ H1 fun xs H2 => Q (x :: xs) H2) (fun z => ?_) (fun m ρ1 e1 v F1 H1 A1 f st1 h1 nd1 hn1 g1 => ?_) (fun x ρ1 e1 cls d F1 H1 A1 st1 g1 hx => ?_)
  · rw [z] at eb; exact nb eb
  · rw [e1] at eb
    have eb2 := bind_eq r (fun ms => SE.ret (m :: ms)) ρ1
    have dis := (List.nodup_append.mp nd1).2.2
    have ndf := (List.nodup_append.mp nd1).1
    have thF := h1.there
    refine hr ρ1 σ F1 H1 A1 (nob_le _) st1 _ (fun z => ?_) (fun ms ρ2 e2 vs F2 H2 A2 f2 st2 h2 nd2 hn2 g2 => ?_) (fun y ρ2 e2 cls d F2 H2 A2 st2 g2 hy => ?_)
    · rw [z] at eb2; exact nb (eb.trans eb2)
    · rw [e2] at eb2
      have nA : ∀ a ∈ f, a ∉ A1 := fun a ha h => dis a ha a h rfl
      have keep : ∀ a ∈ f, ∀ o, H1 a = some o → H2 a = some o := fun a ha o q => g2.k a o q (nA a ha)
      have out : ∀ a ∈ f, F2 a = none := fun a ha => by
        cases q : F2 a with
        | none => rfl
        | some u =>
          rcases g2.n a (hn1 a ha) (by rw [q]; simp) with z | z
          · exact absurd z (thF a ha)
          · exact absurd z (nA a ha)
      have dis2 : ∀ a ∈ f, ∀ b ∈ f2 ++ A2, a ≠ b := fun a ha b hb q => by
        subst q
        rcases g2.o a hb with z | z
        · exact thF a ha z
        · exact nA a ha z
      refine hok (m :: ms) ρ2 (eb.trans eb2) (v :: vs) F2 H2 A2 (f ++ f2) st2 ?_ ?_ (fun a ha => ?_) ⟨g1.f.trans g2.f, ?_, ?_, ?_⟩
      · rw [RepMs]
        exact ⟨v, vs, f, f2, rfl, rfl, RepM.mono g2.f m v f keep h1, h2⟩
      · rw [List.append_assoc, List.nodup_append]
        exact ⟨ndf, nd2, dis2⟩
      · rcases List.mem_append.mp ha with z | z
        · exact out a z
        · exact hn2 a z
      · intro b o q hb
        refine g2.k b o (g1.k b o q hb) fun hm => ?_
        rcases g1.o b (List.mem_append_right _ hm) with z | z
        · rw [q] at z; cases z
        · exact hb z
      · intro b q y
        by_cases h : F1 b = none
        · rcases g2.n b h y with z | z
          · by_cases hA : b ∈ A
            · exact .inr hA
            · cases eH : H b with
              | none => exact .inl rfl
              | some o => rw [g1.k b o eH hA] at z; cases z
          · exact g1.o b (List.mem_append_right _ z)
        · exact g1.n b q h
      · intro b hb
        rw [List.append_assoc] at hb
        rcases List.mem_append.mp hb with z | z
        · exact g1.o b (List.mem_append_left _ z)
        · rcases g2.o b z with y | y
          · by_cases hA : b ∈ A
            · exact .inr hA
            · cases eH : H b with
              | none => exact .inl rfl
              | some o => rw [g1.k b o eH hA] at y; cases y
          · exact g1.o b (List.mem_append_right _ y)
    · rw [e2] at eb2
      exact hex y ρ2 (eb.trans eb2) cls d F2 H2 A2 st2 (Go.trans (g1.weak fun a ha => List.mem_append_right _ ha) g2) hy
  · rw [e1] at eb
    exact hex x ρ1 eb cls d F1 H1 A1 st1 g1 hx
structure QMs (X : Cx) (W : WX) (es : List Expr) (ta : TA) (s : SE (List MV)) : Prop where
  pa : PA X es ta
  ev : Ev X.K nob (RepMs X.K) W ta s
def mNil : SE (List MV) := SE.ret []
def mCons (e : SE MV) (r : SE (List MV)) : SE (List MV) := e.bind fun m => r.bind fun ms => SE.ret (m :: ms)
section
variable {X : Cx} {n : Nat} {W : WX} {pos : Pos} {a : Expr} {es : List Expr} {te : TE} {t : TA} {e : SE MV} {r : SE (List MV)}
theorem qms_nil : QMs X W [] tNil mNil := ⟨pa_nil, fun ρ σ F H A sB st Q nb hok hex => hok [] ρ rfl [] F H A [] st (by rw [RepMs]; exact ⟨rfl, rfl⟩) (by simpa using st.nod) (by simp) (by simpa using Go.refl F H A)⟩
theorem qms_cons (ha : QM X W a te e) (hr : QMs X W es t r) (hs : starEach (a :: es) X.env = (false, eval a X.env) :: starEach es X.env := by rfl) : QMs X W (a :: es) (tCons te t) (mCons e r) := ⟨pa_cons ha.pe hr.pa hs, Ev.consM ha.ev hr.ev⟩
/-- several names stored at once -/
def setAll : List Nat → List MV → Env → Env
  | i :: is, m :: ms, ρ => setAll is ms (ρ.set i (some m))
  | _, _, ρ => ρ
def setAllV : List Nat → List V → L2.St → L2.St
  | i :: is, v :: vs, σ => setAllV is vs (σ.set i (some v))
  | _, _, σ => σ
theorem setAll_length : ∀ (is : List Nat) (ms : List MV) (ρ : Env), (setAll is ms ρ).length = ρ.length
  | i :: is, m :: ms, ρ => by rw [setAll, setAll_length, List.length_set]
  | [], ms, ρ => by rw [setAll]; simp
  | _ :: _, [], ρ => by rw [setAll]; simp
theorem StOk.setAll {K : PySem.W.Frag} {F H : Hp} : ∀ {is : List Nat} {ms : List MV} {vs : List V} {ρ : Env} {σ : L2.St} {A f : List Addr}, StOk K ρ σ F H A → RepMs K F H ms vs f → (f ++ A).Nodup → (∀ a ∈ f, F a = none) → (∀ i ∈ is, i < ρ.length) →
    ∃ A', (∀ a ∈ A', a ∈ f ++ A) ∧ StOk K (Mv.setAll is ms ρ) (setAllV is vs σ) F H A'
  | [], ms, vs, ρ, σ, A, f, st, hr, nd, hn, hi => ⟨A, fun a h => List.mem_append_right _ h, by simpa [Mv.setAll, setAllV] using st⟩
  | i :: is, [], vs, ρ, σ, A, f, st, hr, nd, hn, hi => by
    rw [RepMs] at hr
    obtain ⟨rfl, rfl⟩ := hr
    exact ⟨A, fun a h => List.mem_append_right _ h, by simpa [Mv.setAll, setAllV] using st⟩
  | i :: is, m :: ms, vs, ρ, σ, A, f, st, hr, nd, hn, hi => by
    rw [RepMs] at hr
    obtain ⟨v, vr, f1, f2, rfl, rfl, h1, h2⟩ := hr
    rw [List.append_assoc, List.nodup_append] at nd
    obtain ⟨nd1, nd2, d12⟩ := nd
    have nd2' := List.nodup_append.mp nd2
    obtain ⟨A1, m1, s1⟩ := st.store (i := i) h1 (by
      rw [List.nodup_append]
      exact ⟨nd1, nd2'.2.1, fun a ha b hb => d12 a ha b (List.mem_append_right _ hb)⟩) (fun a ha => hn a (List.mem_append_left _ ha)) (hi i (List.mem_cons_self ..))
    obtain ⟨A2, m2, s2⟩ := StOk.setAll (is := is) (ms := ms) s1 h2 (by
      rw [List.nodup_append]
      refine ⟨nd2'.1, s1.nod, fun a ha b hb q => ?_⟩
      subst q
      rcases List.mem_append.mp (m1 a hb) with z | z
      · exact d12 a z a (List.mem_append_left _ ha) rfl
      · exact nd2'.2.2 a ha a z rfl) (fun a ha => hn a (List.mem_append_right _ ha)) (fun j hj => by rw [List.length_set]; exact hi j (List.mem_cons_of_mem _ hj))
    refine ⟨A2, fun a ha => ?_, by simpa [Mv.setAll, setAllV] using s2⟩
    rw [List.append_assoc]
    rcases List.mem_append.mp (m2 a ha) with z | z
    · exact List.mem_append_right _ (List.mem_append_left _ z)
    · rcases List.mem_append.mp (m1 a z) with y | y
      · exact List.mem_append_left _ y
      · exact List.mem_append_right _ (List.mem_append_right _ y)
theorem setAllV_fix {n : Nat} : ∀ {is : List Nat} (vs : List V) (σ : L2.St), (∀ i ∈ is, n ≤ i) → Fix n σ (setAllV is vs σ)
  | [], vs, σ, h => by simpa [setAllV] using Fix.refl n σ
  | i :: is, [], σ, h => by simpa [setAllV] using Fix.refl n σ
  | i :: is, v :: vs, σ, h => by
    rw [setAllV]
    exact (Fix.set (h i (List.mem_cons_self ..))).trans (setAllV_fix vs _ fun j hj => h j (List.mem_cons_of_mem _ hj))
def sPar (is : List Nat) (s : SE (List MV)) : SE Out := s.bind fun ms ρ => if ms.length = is.length ∧ is.all (fun i => decide (i < ρ.length)) = true then .ok .nx (setAll is ms ρ) else .bad
/-- the reading of several stores -/
theorem ev_par {K : PySem.W.Frag} {ta : TA} {s : SE (List MV)} {is : List Nat} (Qf : Ends → L2.St → List V → Hp → Prop) (h : Ev K nob (RepMs K) W ta s) (hn : ∀ i ∈ is, n ≤ i)
    (hq : ∀ (D : Ends) σ vs H1, vs.length = is.length → (∀ H2 : Hp, (∀ b o, H1 b = some o → H2 b = some o) → D.nx (setAllV is vs σ) H2) → Qf D σ vs H1) : EvS K n W (fun D σ H => ta σ H (Qf D σ)) (sPar is s) := by
  intro ρ σ F H A st D w
  have eb := bind_eq s (fun ms ρ => if ms.length = is.length ∧ is.all (fun i => decide (i < ρ.length)) = true then .ok Out.nx (Mv.setAll is ms ρ) else .bad) ρ
  refine h ρ σ F H A (nob_le _) st _ (fun e => ?_) (fun ms ρ' e vs F' H' A' f st' hr nd hnf g => ?_) (fun x ρ' e cls d F' H' A' st' g hx => ?_)
  · rw [e] at eb; exact w.nb eb
  · rw [e] at eb
    have e2 : sPar is s ρ = if ms.length = is.length ∧ is.all (fun i => decide (i < ρ'.length)) = true then .ok Out.nx (Mv.setAll is ms ρ') else .bad := eb
    split at e2
    · rename_i hc
      refine hq D σ vs H' (by rw [RepMs.length hr]; exact hc.1) fun H2 k => ?_
      have hall : ∀ i ∈ is, i < ρ'.length := fun i hi => by simpa using List.all_eq_true.mp hc.2 i hi
      obtain ⟨A2, m2, s2⟩ := st'.setAll hr nd hnf hall
      refine w.nx _ e2 _ F' H2 A2 (s2.grow (Same.refl _) (fun b o q => k b o (s2.sub b o q)) (fun b _ o q => k b o q) s2.out) (Go.trans (g.weak m2) ⟨Same.refl _, fun b o q _ => k b o q, fun b q y => absurd q y, fun b hb => .inr hb⟩) (setAllV_fix vs σ hn)
    · exact absurd e2 w.nb
  · rw [e] at eb
    exact w.xc x ρ' eb cls d σ F' H' A' st' g (Fix.refl _ _) hx
theorem qs_par {i j : Nat} {x y : Str} {a b : Expr} {ta : TA} {s : SE (List MV)} {px py pt : Pos} {kt k2 pt2} (hc : X.calm = true) (hN : X.N.Nodup) (hi : X.N[i]? = some x) (hj : X.N[j]? = some y) (ha : QMs X W [a, b] ta s)
    (hw : swappedStores [.Tuple [.Name x px, .Name y py] kt pt] (.Tuple [a, b] k2 pt2) X.env = pure (some [x, y])) (hij : i ≠ j := by decide)
    (hx : X.env.scope.names.lookup x = some .local := by rfl) (hy : X.env.scope.names.lookup y = some .local := by rfl) (hn : ∀ k ∈ [i, j], n ≤ k := by decide)
    (hs : swapsWithSole [.Tuple [.Name x px, .Name y py] kt pt] (.Tuple [a, b] k2 pt2) pos.line X.env = pure false := by rfl) :
    QS X n W (.Assign [.Tuple [.Name x px, .Name y py] kt pt] (.Tuple [a, b] k2 pt2) pos) (tPar i j ta) (sPar [i, j] s) :=
  ⟨ps_par hc hN hi hj hij hx hy ha.pa hw hs, ev_par (fun D σ vs H1 => ∃ v w, vs = [v, w] ∧ D.nx ((σ.set i (some v)).set j (some w)) H1) ha.ev hn fun D σ vs H1 hl k => by
    match vs, hl with
    | [v, w], _ => exact ⟨v, w, rfl, k H1 fun _ _ e => e⟩⟩
theorem qs_par3 {i j l : Nat} {x y z : Str} {a b c : Expr} {ta : TA} {s : SE (List MV)} {px py pz pt : Pos} {kt k2 pt2} (hc : X.calm = true) (hN : X.N.Nodup) (hi : X.N[i]? = some x) (hj : X.N[j]? = some y) (hl : X.N[l]? = some z) (ha : QMs X W [a, b, c] ta s)
    (hw : swappedStores [.Tuple [.Name x px, .Name y py, .Name z pz] kt pt] (.Tuple [a, b, c] k2 pt2) X.env = pure (some [x, y, z])) (hij : i ≠ j := by decide) (hil : i ≠ l := by decide) (hjl : j ≠ l := by decide)
    (hx : X.env.scope.names.lookup x = some .local := by rfl) (hy : X.env.scope.names.lookup y = some .local := by rfl) (hz : X.env.scope.names.lookup z = some .local := by rfl) (hn : ∀ k ∈ [i, j, l], n ≤ k := by decide)
    (hs : swapsWithSole [.Tuple [.Name x px, .Name y py, .Name z pz] kt pt] (.Tuple [a, b, c] k2 pt2) pos.line X.env = pure false := by rfl) :
    QS X n W (.Assign [.Tuple [.Name x px, .Name y py, .Name z pz] kt pt] (.Tuple [a, b, c] k2 pt2) pos) (tPar3 i j l ta) (sPar [i, j, l] s) :=
  ⟨ps_par3 hc hN hi hj hl hij hil hjl hx hy hz ha.pa hw hs, ev_par (fun D σ vs H1 => ∃ u v w, vs = [u, v, w] ∧ D.nx (((σ.set i (some u)).set j (some v)).set l (some w)) H1) ha.ev hn fun D σ vs H1 hl k => by
    match vs, hl with
    | [u, v, w], _ => exact ⟨u, v, w, rfl, k H1 fun _ _ e => e⟩⟩
/-- the targets of a display: names -/
inductive PGN (X : Cx) : List Nat → List Expr → TGs → Prop where
  | nil : PGN X [] [] gNil
  | cons {i : Nat} {x : Str} {p : Pos} {is : List Nat} {es : List Expr} {t : TGs} (hN : X.N.Nodup) (hi : X.N[i]? = some x) (hx : Loc X.env.scope x) (hf : X.fn x = true ∨ X.env.scope.names.lookup x = some .local) (h : PGN X is es t)
      (hs : (assignEach (.Name x p :: es) X.env).map (·.2) = assign (.Name x p) X.env :: (assignEach es X.env).map (·.2)) : PGN X (i :: is) (.Name x p :: es) (gCons (gName i) t)
theorem PGN.pg {is : List Nat} {es : List Expr} {t : TGs} (h : PGN X is es t) : PGs X es t := by
  induction h with
  | nil => exact pgs_nil
  | cons hN hi hx hf h hs ih => exact pgs_cons (pg_name hN hi hx hf) ih hs
theorem PGN.all {is : List Nat} {es : List Expr} {t : TGs} (h : PGN X is es t) : ∀ (vs : List V) (σ : L2.St) (H : Hp) (Q : L2.St → Hp → Prop), vs.length = is.length → Q (setAllV is vs σ) H → t vs σ H Q := by
  induction h with
  | nil =>
    intro vs σ H Q hl q
    match vs, hl with
    | [], _ => exact ⟨rfl, by simpa [setAllV] using q⟩
  | cons hN hi hx hf h hs ih =>
    intro vs σ H Q hl q
    match vs, hl with
    | v :: r, hl => exact ⟨v, r, rfl, ih r _ H Q (by simpa using hl) (by simpa [setAllV] using q)⟩
theorem pgn_cons {i : Nat} {x : Str} {p : Pos} {is : List Nat} {es : List Expr} {t : TGs} (hN : X.N.Nodup) (hi : X.N[i]? = some x) (hx : Loc X.env.scope x) (h : PGN X is es t) (hf : X.fn x = true ∨ X.env.scope.names.lookup x = some .local := by first | exact .inl rfl | exact .inr rfl | assumption)
    (hs : (assignEach (.Name x p :: es) X.env).map (·.2) = assign (.Name x p) X.env :: (assignEach es X.env).map (·.2) := by rfl) : PGN X (i :: is) (.Name x p :: es) (gCons (gName i) t) := .cons hN hi hx hf h hs
/-- (x, y, ..) = a display: a tuple is made, then taken apart -/
theorem qs_parT {tes es : List Expr} {is : List Nat} {ta : TA} {t : TGs} {s : SE (List MV)} {pt : Pos} {kt k2 pt2} {m : Nat} (hc : X.calm = true) (ha : QMs X W es ta s) (hg : PGN X is tes t) (hn : ∀ k ∈ is, n ≤ k := by decide) (hm : is.length = m := by rfl) (hm2 : m ≤ sizeLine := by decide)
    (hw : swappedStores [.Tuple tes kt pt] (.Tuple es k2 pt2) X.env = pure none := by rfl) (hs : swapsWithSole [.Tuple tes kt pt] (.Tuple es k2 pt2) pos.line X.env = pure false := by rfl)
    (h1 : (assignEach [.Tuple tes kt pt] X.env).map (·.2) = [assign (.Tuple tes kt pt) X.env] := by rfl)
    (hl : (assignEach tes X.env).length = m := by rfl) (hst : (assignEach tes X.env).findIdx? (·.1) = none := by rfl) :
    QS X n W (.Assign [.Tuple tes kt pt] (.Tuple es k2 pt2) pos) (tAsg (tTup ta) (gTup X.K m t)) (sPar is s) :=
  ⟨ps_asg (pe_tup ha.pa) (pg_tup hc hg.pg hl hst) hs hw h1, ev_par (fun D σ xs H1 => xs.length ≤ sizeLine ∧ ∀ a, H1 a = none → gTup X.K m t (.ref a) σ (upd H1 a (.tup xs)) D.nx) ha.ev hn fun D σ vs H1 hl k => by
    refine ⟨by rw [hl, hm]; exact hm2, fun a ha => ⟨a, vs, rfl, .inl (.inl upd_same), by rw [hl, hm], hg.all vs σ _ D.nx hl (k _ fun b o e => by rw [upd_ne (ne_of_none e ha)]; exact e)⟩⟩⟩
end
end Mv

set_option Elab.async false
set_option linter.all false
set_option maxRecDepth 100000
set_option maxHeartbeats 4000000
namespace Mv
open PySem PySem.Spec PyProof.Rows L2

/-! ### an owned list, written in place -/
theorem StOk.write {K : PySem.W.Frag} {ρ : Env} {σ : L2.St} {F H : Hp} {A : List Addr} {i : Nat} {xs : List MV} (s : StOk K ρ σ F H A) (hi : ρ[i]? = some (some (.ml xs))) :
    ∃ a vs r, σ[i]? = some (some (.ref a)) ∧ H a = some (.lst vs) ∧ RepMs K F H xs vs r ∧ F a = none ∧ a ∉ r ∧ r.Nodup ∧
      ∀ ys us r', r'.Nodup → (∀ b ∈ r', b ∈ r) → RepMs K F (L2.upd H a (.lst us)) ys us r' → ∃ A2, StOk K (ρ.set i (some (.ml ys))) σ F (L2.upd H a (.lst us)) A2 ∧ Go F H A F (L2.upd H a (.lst us)) A2 := by
  obtain ⟨v, f, A', q1, q2, q3, q4⟩ := s.take hi
  rw [RepM] at q2
  obtain ⟨a, vs, r, rfl, e2, rfl, e4⟩ := q2
  have nd := q3.nodup_iff.mp s.nod
  have hF : F a = none := s.out a (q3.mem_iff.mpr (by simp))
  rw [List.cons_append, List.nodup_cons, List.nodup_append] at nd
  obtain ⟨na, ndr, ndA, dis⟩ := nd
  refine ⟨a, vs, r, q1, e2, e4, hF, fun h => na (List.mem_append_left _ h), ndr, fun ys us r' ndr' sub hr => ?_⟩
  have keep : ∀ b, b ≠ a → (L2.upd H a (.lst us)) b = H b := fun b h => upd_ne h
  have s1 : StOk K (ρ.set i none) σ F (L2.upd H a (.lst us)) A' := q4.grow (Same.refl F) (fun b o e => by rw [upd_ne (ne_of_none e hF)]; exact s.sub b o e) (fun b hb o e => by rw [upd_ne (by intro z; subst z; exact na (List.mem_append_right _ hb))]; exact e) q4.out
  have hl : i < ρ.length := (List.getElem?_eq_some_iff.mp hi).1
  have s2 := s1.put (i := i) (m := .ml ys) (v := .ref a) (f := a :: r') (by rw [List.getElem?_set_self hl]) (by rw [RepM]; exact ⟨a, us, r', rfl, upd_same, rfl, hr⟩) (by
    rw [List.cons_append, List.nodup_cons, List.nodup_append]
    exact ⟨fun h => na (by
      rcases List.mem_append.mp h with z | z
      · exact List.mem_append_left _ (sub a z)
      · exact List.mem_append_right _ z), ndr', ndA, fun x hx y hy => dis x (sub x hx) y hy⟩) (fun b hb => by
    rcases List.mem_cons.mp hb with z | z
    · rw [z]; exact hF
    · exact s.out b (q3.mem_iff.mpr (by simp [sub b z])))
  have es : σ.set i (some (.ref a)) = σ := by
    obtain ⟨h1, h2⟩ := List.getElem?_eq_some_iff.mp q1
    rw [← h2, List.set_getElem_self]
  rw [List.set_set, es] at s2
  refine ⟨_, s2, Same.refl F, fun b o e hb => ?_, fun b e q => absurd e q, fun b hb => .inr ?_⟩
  · rw [upd_ne (by intro z; subst z; exact hb (q3.mem_iff.mpr (by simp)))]; exact e
  · refine q3.mem_iff.mpr ?_
    rcases List.mem_append.mp hb with z | z
    · rcases List.mem_cons.mp z with y | y
      · rw [y]; simp
      · simp [sub b y]
    · simp [z]
def mlAt (i : Nat) (ρ : Env) : Option (List MV) := match ρ[i]? with
  | some (some (.ml xs)) => some xs
  | _ => none
theorem mlAt_eq {i : Nat} {ρ : Env} {xs : List MV} (h : mlAt i ρ = some xs) : ρ[i]? = some (some (.ml xs)) := by
  unfold mlAt at h
  split at h
  · rename_i q
    cases h
    exact q
  · cases h
/-- name.append(e) -/
def sApp (i : Nat) (e : SE PV) : SE Out := fun ρ => match mlAt i ρ with
  | none => .bad
  | some _ => (e.bind fun p ρ => match mlAt i ρ with
    | none => .bad
    | some xs => if xs.length < 16777216 then .ok .nx (ρ.set i (some (.ml (xs ++ [.fz p])))) else .bad) ρ
theorem upd_away {K : PySem.W.Frag} {F H : Hp} {a : Addr} {o : HO} {ms : List MV} {vs : List V} {r : List Addr} (h : RepMs K F H ms vs r) (ha : a ∉ r) : RepMs K F (L2.upd H a o) ms vs r :=
  RepMs.mono (Same.refl F) ms vs r (fun b hb u e => by rw [upd_ne (by intro z; subst z; exact ha hb)]; exact e) h
section
variable {X : Cx} {n : Nat} {W : WX} {pos : Pos}
theorem ev_app {K : PySem.W.Frag} {i : Nat} {te : TE} {e : SE PV} (he : Ev K nob (fr (RepF K)) W te e) : EvS K n W (tDrop (tBM K "list" rAppend (tVar i) (tCons te tNil))) (sApp i e) := by
  intro ρ σ F H A st D w
  have e0 : sApp i e ρ = match mlAt i ρ with
    | none => .bad
    | some _ => (e.bind fun p ρ => match mlAt i ρ with
      | none => .bad
      | some xs => if xs.length < 16777216 then .ok .nx (ρ.set i (some (.ml (xs ++ [.fz p])))) else .bad) ρ := rfl
  cases h0 : mlAt i ρ with
  | none => rw [h0] at e0; exact absurd e0 w.nb
  | some ys =>
    rw [h0] at e0
    obtain ⟨a0, vs0, r0, z1, z2, z3, z4, z5, z6, _⟩ := st.write (mlAt_eq h0)
    have eb := bind_eq e (fun p ρ => match mlAt i ρ with
      | none => .bad
      | some xs => if xs.length < 16777216 then .ok Out.nx (ρ.set i (some (.ml (xs ++ [.fz p])))) else .bad) ρ
    have eb := e0.trans eb
    refine ⟨.ref a0, z1, .inl ⟨rfl, vs0, SqL.of z2⟩, he ρ σ F H A (nob_le _) st _ (fun q => ?_) (fun p ρ' q v F' H' A' f st' hr nd hn go => ?_) (fun x ρ' q cls d F' H' A' st' go hx => ?_)⟩
    · rw [q] at eb; exact w.nb eb
    · rw [q] at eb
      obtain ⟨rfl, hp⟩ := hr
      have eb2 : sApp i e ρ = match mlAt i ρ' with
        | none => .bad
        | some xs => if xs.length < 16777216 then .ok Out.nx (ρ'.set i (some (.ml (xs ++ [.fz p])))) else .bad := eb
      cases h1 : mlAt i ρ' with
      | none => rw [h1] at eb2; exact absurd eb2 w.nb
      | some xs =>
        rw [h1] at eb2
        have eb3 : sApp i e ρ = if xs.length < 16777216 then .ok Out.nx (ρ'.set i (some (.ml (xs ++ [.fz p])))) else .bad := eb2
        by_cases hl : xs.length < 16777216
        · rw [if_pos hl] at eb3
          obtain ⟨a, vs, r, y1, y2, y3, y4, y5, y6, wr⟩ := st'.write (mlAt_eq h1)
          rw [z1] at y1
          cases y1
          obtain ⟨A2, s2, g2⟩ := wr (xs ++ [.fz p]) (vs ++ [v]) (r ++ []) (by simpa using y6) (by simp) (RepMs.append (upd_away y3 y5) (RepMs.fz (ps := [p]) (RepFs.single hp)))
          refine ⟨a0, vs, v, rfl, rfl, y2, ?_, ?_⟩
          · rw [RepMs.length y3, line_eq]; exact hl
          · exact w.nx _ eb3 σ F' _ A2 s2 (Go.trans go g2) (Fix.refl _ _)
        · rw [if_neg hl] at eb3; exact absurd eb3 w.nb
    · rw [q] at eb
      exact w.xc x ρ' eb cls d σ F' H' A' st' go (Fix.refl _ _) hx
theorem qs_app (i : Nat) {x : Str} {e : Expr} {te : TE} {s : SE PV} {px apos cpos : Pos} (he : QE X W e te s) (hN : X.N[i]? = some x := by rfl) (hv : Vis X.env.scope x := by first | exact Or.inl rfl | exact Or.inr (Or.inl rfl) | exact Or.inr (Or.inr rfl)) (hd : (x == ("__debug__" : Str)) = false := by decide)
    (hcd : (x == ("__classdict__" : Str)) = false := by decide)
    (hbase : attributeBase (.Name x px) "append" X.env (eval (.Name x px) X.env) = eval (.Name x px) X.env := by rfl)
    (hfew : ((backTo cpos (starEach [e] X.env)).all (fun x => !x.1) && (backToKw cpos (keywordEach [] X.env)).all (fun x => x.1.isSome)
      && decide ([e].length + ([] : List Keyword).length + (if ([] : List Keyword).isEmpty then 0 else 1) < 30)) = true := by rfl)
    (hline : (apos.endLine == cpos.line) = true := by rfl) (hs1 : starEach [e] X.env = (false, eval e X.env) :: starEach [] X.env := by rfl) (hplain : (backTo cpos (starEach [] X.env)).any (·.1) = false := by rfl)
    (hs : swapsWith (.Call (.Attribute (.Name x px) "append" apos) [e] [] cpos) none pos.line X.env = pure false := by rfl) :
    QS X n W (.Expr (.Call (.Attribute (.Name x px) "append" apos) [e] [] cpos) pos) (tDrop (tBM X.K "list" rAppend (tVar i) (tCons te tNil))) (sApp i s) :=
  ⟨ps_expr (pe_bm PySem.F.plainAttrs_list PySem.F.slot_list_append PySem.F.type_list_append mt_append (pe_var hN hv hd hcd) (pa_cons he.pe pa_nil hs1) hbase hfew hline hs1 hplain) hs, ev_app he.ev⟩

/-! ### name[k] = a value -/
def asI (p : PV) : Option Int := match p with
  | .int i => some i
  | _ => none
theorem asI_eq {p : PV} {i : Int} (h : asI p = some i) : p = .int i := by
  cases p <;> first
    | (cases h; rfl)
    | exact nomatch (show (none : Option Int) = some i from h)
def putAt (i : Nat) (k : Int) (p : PV) (ρ : Env) : Option Env := match mlAt i ρ with
  | none => none
  | some xs => match ixN xs.length k with
    | none => none
    | some j => some (ρ.set i (some (.ml (xs.set j (.fz p)))))
theorem StOk.putAt {K : PySem.W.Frag} {ρ ρ' : Env} {σ : L2.St} {F H : Hp} {A : List Addr} {i : Nat} {k : Int} {p : PV} {v : V} (s : StOk K ρ σ F H A) (hp : RepF K F p v) (h : Mv.putAt i k p ρ = some ρ') :
    ∃ a vs j, σ[i]? = some (some (.ref a)) ∧ H a = some (.lst vs) ∧ ixN vs.length k = some j ∧ ∃ A2, StOk K ρ' σ F (L2.upd H a (.lst (vs.set j v))) A2 ∧ Go F H A F (L2.upd H a (.lst (vs.set j v))) A2 := by
  unfold Mv.putAt at h
  cases e : mlAt i ρ with
  | none => rw [e] at h; cases h
  | some xs =>
    rw [e] at h
    have h' : (match ixN xs.length k with
      | none => none
      | some j => some (ρ.set i (some (.ml (xs.set j (.fz p)))))) = some ρ' := h
    cases ej : ixN xs.length k with
    | none => rw [ej] at h'; cases h'
    | some j =>
      rw [ej] at h'
      cases h'
      obtain ⟨a, vs, r, y1, y2, y3, y4, y5, y6, wr⟩ := s.write (mlAt_eq e)
      have hl := RepMs.length y3
      have hj := (ixN_seq ej).2.1
      obtain ⟨w, f1, g, f2, q1, q2, q3, q4⟩ := RepMs.at y3 (i := j) (m := xs[j]) (by rw [List.getElem?_eq_getElem hj])
      subst q2
      have nd := y6
      rw [List.append_assoc, List.nodup_append] at nd
      have hh := q4 F (L2.upd H a (.lst (vs.set j v))) (.fz p) v [] (Same.refl F) (fun b hb o eo => by
        rw [upd_ne (by intro z; subst z; exact y5 (by
          rcases List.mem_append.mp hb with z | z
          · simp [z]
          · simp [z]))]; exact eo) (by rw [RepM]; exact ⟨rfl, hp⟩)
      rw [List.append_nil] at hh
      obtain ⟨A2, s2, g2⟩ := wr _ _ _ (by
        rw [List.nodup_append]
        exact ⟨nd.1, (List.nodup_append.mp nd.2.1).2.1, fun x hx y hy => nd.2.2 x hx y (List.mem_append_right _ hy)⟩) (fun b hb => by
        rcases List.mem_append.mp hb with z | z
        · simp [z]
        · simp [z]) hh
      exact ⟨a, vs, j, y1, y2, by rw [hl]; exact ej, A2, s2, g2⟩
/-- as a target -/
def gIxL (i : Nat) (ix : SE PV) : PV → Env → Option Env := fun p ρ => match mlAt i ρ with
  | none => none
  | some _ => match ix ρ with
    | .ok q ρ' => (asI q).bind fun k => putAt i k p ρ'
    | _ => none
theorem qg_ix (i : Nat) {x : Str} {ix : Expr} {ti : TE} {si : SE PV} {px : Pos} (hx : QE X W ix ti si) (hN : X.N[i]? = some x := by rfl) (hv : Vis X.env.scope x := by first | exact Or.inl rfl | exact Or.inr (Or.inl rfl) | exact Or.inr (Or.inr rfl)) (hd : (x == ("__debug__" : Str)) = false := by decide)
    (hcd : (x == ("__classdict__" : Str)) = false := by decide) (hps : PG X (.Subscript (.Name x px) ix pos) (gSub (tVar i) ti rSetL) := by exact pg_sub (pe_var (by rfl) (by first | exact Or.inl rfl | exact Or.inr (Or.inl rfl) | exact Or.inr (Or.inr rfl)) (by decide) (by decide)) (by assumption) set_list) : QG X [] (.Subscript (.Name x px) ix pos) (gSub (tVar i) ti rSetL) (gIxL i si) := by
  refine ⟨hps, fun p v ρ σ F H A hp st Q nb hok => ?_⟩
  have e0 : gIxL i si p ρ = match mlAt i ρ with
    | none => none
    | some _ => match si ρ with
      | .ok q ρ' => (asI q).bind fun k => Mv.putAt i k p ρ'
      | _ => none := rfl
  cases h0 : mlAt i ρ with
  | none => rw [h0] at e0; exact absurd e0 nb
  | some ys =>
    rw [h0] at e0
    have e1 : gIxL i si p ρ = match si ρ with
      | .ok q ρ' => (asI q).bind fun k => Mv.putAt i k p ρ'
      | _ => none := e0
    obtain ⟨a0, vs0, r0, z1, z2, z3, z4, z5, z6, _⟩ := st.write (mlAt_eq h0)
    refine ⟨.ref a0, z1, hx.ev ρ σ F H A (nob_le _) st _ (fun q => ?_) (fun k ρ' q kv F' H' A' f st' hr nd hn go => ?_) (fun x ρ' q => ?_)⟩
    · rw [q] at e1; exact absurd e1 nb
    · rw [q] at e1
      obtain ⟨rfl, hk⟩ := hr
      have e2 : gIxL i si p ρ = (asI k).bind fun k => Mv.putAt i k p ρ' := e1
      cases ek : asI k with
      | none => rw [ek] at e2; exact absurd e2 nb
      | some kk =>
        rw [ek] at e2
        have e3 : gIxL i si p ρ = Mv.putAt i kk p ρ' := e2
        cases eq : Mv.putAt i kk p ρ' with
        | none => rw [eq] at e3; exact absurd e3 nb
        | some ρ2 =>
          rw [eq] at e3
          rw [asI_eq ek] at hk
          have hk' := repI.mp hk
          obtain ⟨a, vs, j, y1, y2, y3, A2, s2, g2⟩ := st'.putAt (RepF.mono go.f _ _ hp) eq
          rw [z1] at y1
          cases y1
          exact ⟨a0, vs, kk, j, rfl, hk', y2, y3, hok ρ2 e3 σ F' _ A2 s2 (Go.trans go g2) (Chg.refl _ _)⟩
    · rw [q] at e1; exact absurd e1 nb

/-! ### name[k] op= a value -/
def getAt (i : Nat) (k : Int) (ρ : Env) : Option PV := match mlAt i ρ with
  | none => none
  | some xs => match atI xs k with
    | some (.fz p) => some p
    | _ => none
def pIAdd (p q : PV) : Option PV := match p with
  | .int i => (match q with
    | .int j => some (.int (i + j))
    | _ => none)
  | .str s => (match q with
    | .str t => if s.length + t.length ≤ 16777216 then some (.str (s ++ t)) else none
    | _ => none)
  | _ => none
def pISub (p q : PV) : Option PV := match p with
  | .int i => (match q with
    | .int j => some (.int (i - j))
    | _ => none)
  | _ => none
def rIAdd : R2 := fun x y H Q => rI0 (fun i j => .int (i + j)) x y H Q ∨ (∃ i j, x = .str i ∧ y = .str j ∧ i.length + j.length ≤ sizeLine ∧ Q (.str (i ++ j)) H)
theorem pop_iadd {K : PySem.W.Frag} : POp K rIAdd pIAdd := by
  intro p q z x y hz B W hp hq
  unfold pIAdd at hz
  cases p with
  | int i =>
    cases q with
    | int j =>
      cases hz
      exact ev_now (v := .int (i + j)) (repI.mpr rfl) fun F H _ _ Q k => .inl ⟨i, j, repI.mp hp, repI.mp hq, k⟩
    | _ => cases hz
  | str s =>
    cases q with
    | str t =>
      dsimp only at hz
      split at hz
      · rename_i hl
        cases hz
        refine ev_now (v := .str (mkS (s ++ t))) (repS.mpr rfl) fun F H _ _ Q k => .inr ⟨mkS s, mkS t, repS.mp hp, repS.mp hq, by rw [mkS_len, mkS_len, line_eq]; exact hl, ?_⟩
        rw [mkS_app]
        exact k
      · cases hz
    | _ => cases hz
  | _ => cases hz
theorem pop_isub {K : PySem.W.Frag} : POp K (rI0 fun i j => .int (i - j)) pISub := by
  intro p q z x y hz B W hp hq
  unfold pISub at hz
  cases p with
  | int i =>
    cases q with
    | int j =>
      cases hz
      exact ev_now (v := .int (i - j)) (repI.mpr rfl) fun F H _ _ Q k => ⟨i, j, repI.mp hp, repI.mp hq, k⟩
    | _ => cases hz
  | _ => cases hz
/-- an in-place operator's rule and its plain function -/
structure IpQ (X : Cx) (op : Operator) (r : R2) (f : PV → PV → Option PV) : Prop where
  ip : PIp X op r
  pop : POp X.K r f
theorem ip_iadd : IpQ X .Add rIAdd pIAdd := ⟨fun pins s σ H x y v u Q I rx ry q => by
  rcases q with q | q
  · exact iop_add pins s σ H x y v u Q I rx ry q
  · exact iop_add_str pins s σ H x y v u Q I rx ry q, pop_iadd⟩
theorem ip_isub : IpQ X .Sub (rI0 fun i j => .int (i - j)) pISub := ⟨fun pins s σ H x y v u Q I rx ry q => iop_sub pins s σ H x y v u Q I rx ry q, pop_isub⟩
def sAug (i : Nat) (e : SE PV) (f : PV → PV → Option PV) : SE Out := fun ρ => match eVar i ρ with
  | .ok p _ => (e.bind fun q ρ => match f p q with
    | some z => if i < ρ.length then .ok .nx (ρ.set i (some (.fz z))) else .bad
    | none => .bad) ρ
  | _ => .bad
theorem qs_aug {i : Nat} {x : Str} {e : Expr} {te : TE} {s : SE PV} {op : Operator} {r : R2} {f : PV → PV → Option PV} {pos' : Pos} (hN : X.N.Nodup) (hi : X.N[i]? = some x) (hx : Loc X.env.scope x) (ho : IpQ X op r f) (he : QE X W e te s) (hn : n ≤ i := by decide) (hf : X.fn x = true ∨ X.env.scope.names.lookup x = some .local := by first | exact .inl rfl | exact .inr rfl | assumption) :
    QS X n W (.AugAssign (.Name x pos') op e pos) (tAug i te r) (sAug i s f) := by
  refine ⟨ps_aug hN hi hx he.pe ho.ip hf, fun ρ σ F H A st D w => ?_⟩
  have e0 : sAug i s f ρ = match eVar i ρ with
    | .ok p _ => (s.bind fun q ρ => match f p q with
      | some z => if i < ρ.length then .ok .nx (ρ.set i (some (.fz z))) else .bad
      | none => .bad) ρ
    | _ => .bad := rfl
  cases h0 : eVar i ρ with
  | bad => rw [h0] at e0; exact absurd e0 w.nb
  | exc x ρ' => rw [h0] at e0; exact absurd e0 w.nb
  | ok p ρ' =>
    rw [h0] at e0
    have hρ : ρ[i]? = some (some (.fz p)) := by
      unfold eVar at h0
      split at h0
      · rename_i q
        cases h0
        exact q
      · cases h0
    obtain ⟨xv, q1, q2⟩ := st.getF hρ
    have eb := e0.trans (bind_eq s (fun q ρ => match f p q with
      | some z => if i < ρ.length then .ok Out.nx (ρ.set i (some (.fz z))) else .bad
      | none => .bad) ρ)
    refine ⟨xv, q1, he.ev ρ σ F H A (nob_le _) st _ (fun q => ?_) (fun q ρ1 hq yv F1 H1 A1 f1 st1 hr nd hn1 go => ?_) (fun x ρ1 q cls d F1 H1 A1 st1 go hx => ?_)⟩
    · rw [q] at eb; exact w.nb eb
    · rw [hq] at eb
      obtain ⟨rfl, hy⟩ := hr
      have eb2 : sAug i s f ρ = match f p q with
        | some z => if i < ρ1.length then .ok Out.nx (ρ1.set i (some (.fz z))) else .bad
        | none => .bad := eb
      cases ez : f p q with
      | none => rw [ez] at eb2; exact absurd eb2 w.nb
      | some z =>
        rw [ez] at eb2
        have eb3 : sAug i s f ρ = if i < ρ1.length then .ok Out.nx (ρ1.set i (some (.fz z))) else .bad := eb2
        by_cases hl : i < ρ1.length
        · rw [if_pos hl] at eb3
          refine ho.pop p q z xv yv ez F1 W (RepF.mono go.f _ _ q2) hy ρ1 σ F1 H1 A1 (Same.refl _) st1 (fun zv H2 => D.nx (σ.set i (some zv)) H2) (fun h => nomatch h) (fun z' ρ2 hz zv F2 H2 A2 f2 st2 hr2 nd2 hn2 go2 => ?_) (fun x ρ2 h => nomatch h)
          cases hz
          obtain ⟨rfl, hzv⟩ := hr2
          obtain ⟨A3, m3, s3⟩ := st2.store (i := i) (m := .fz z) (v := zv) (f := []) (by rw [RepM]; exact ⟨rfl, hzv⟩) (by simpa using st2.nod) (by simp) hl
          exact w.nx _ eb3 _ F2 H2 A3 s3 (Go.trans go (Go.trans go2 ((Go.refl F2 H2 A2).weak (by simpa using m3)))) (Fix.set hn)
        · rw [if_neg hl] at eb3; exact absurd eb3 w.nb
    · rw [q] at eb
      exact w.xc x ρ1 eb cls d σ F1 H1 A1 st1 go (Fix.refl _ _) hx
/-- name[k] op= e -/
def sAugIx (i : Nat) (ix e : SE PV) (f : PV → PV → Option PV) : SE Out := fun ρ => match mlAt i ρ with
  | none => .bad
  | some _ => (ix.bind fun kq ρ1 => match (asI kq).bind fun k => (getAt i k ρ1).map fun p => (k, p) with
    | none => .bad
    | some z => (e.bind fun q ρ2 => match f z.2 q with
      | none => .bad
      | some y => match putAt i z.1 y ρ2 with
        | none => .bad
        | some ρ3 => .ok .nx ρ3) ρ1) ρ
theorem get_list : PGet X (rIxL X.K) := by
  intro pins s σ H o i ov iv Q I ro ri h
  obtain ⟨p, xs, k, z, rfl, rfl, hq, he, q⟩ := h
  cases ro
  obtain ⟨t, rfl⟩ := ri
  obtain ⟨its, r, pl, hz⟩ := I.list hq
  obtain ⟨j, h1, h2, h3, h4, h5⟩ := atI_get he
  obtain ⟨w, ew, rw'⟩ := r.get h2
  have hl := r.length
  have hn := line63
  have fin : EP X pins σ Q w s := ⟨z, H, I, rw', q⟩
  by_cases h0 : 0 ≤ k
  · have hj : k.toNat = j := by
      rw [seqIndex_of h0 h5] at h1
      exact Option.some.inj h1
    exact wpAny_getItem_list pl.isList h0 (by omega) (by rw [hj]; simpa using ew) fin
  · have hj : (k + (its.toArray.size : Int)).toNat = j := by
      rw [seqIndex_neg (by omega) h4] at h1
      rw [List.size_toArray, ← hl]
      exact Option.some.inj h1
    exact wpAny_getItem_list_neg pl.isList (by omega) (by rw [List.size_toArray] <;> omega) (by omega) (by rw [hj]; simpa using ew) fin
end
end Mv

set_option Elab.async false
set_option linter.all false
set_option maxRecDepth 100000
set_option maxHeartbeats 4000000
namespace Mv
open PySem PySem.Spec PyProof.Rows L2

section
variable {X : Cx} {n : Nat} {W : WX} {pos : Pos}
theorem getAt_rep {K : PySem.W.Frag} {ρ : Env} {σ : L2.St} {F H : Hp} {A : List Addr} {i : Nat} {k : Int} {p : PV} (s : StOk K ρ σ F H A) (h : getAt i k ρ = some p) :
    ∃ a vs v, σ[i]? = some (some (.ref a)) ∧ H a = some (.lst vs) ∧ atI vs k = some v ∧ RepF K F p v := by
  unfold getAt at h
  cases e : mlAt i ρ with
  | none => rw [e] at h; cases h
  | some xs =>
    rw [e] at h
    have h' : (match atI xs k with
      | some (.fz p) => some p
      | _ => none) = some p := h
    obtain ⟨a, vs, r, y1, y2, y3, y4, y5, y6, _⟩ := s.write (mlAt_eq e)
    have hl := RepMs.length y3
    unfold atI at h' ⊢
    cases ej : ixN xs.length k with
    | none => rw [ej] at h'; cases h'
    | some j =>
      rw [ej] at h'
      have h2 : (match xs[j]? with
        | some (.fz p) => some p
        | _ => none) = some p := h'
      cases em : xs[j]? with
      | none => rw [em] at h2; cases h2
      | some m =>
        rw [em] at h2
        cases m with
        | fz p' =>
          cases h2
          obtain ⟨w, f1, g, f2, q1, q2, q3, q4⟩ := RepMs.at y3 em
          rw [RepM] at q3
          refine ⟨a, vs, w, y1, y2, ?_, q3.2⟩
          rw [hl, ej]
          exact q1
        | _ => cases h2
theorem qs_augIx (i : Nat) {x : Str} {ix e : Expr} {ti te : TE} {si se : SE PV} {op : Operator} {r : R2} {f : PV → PV → Option PV} {px tpos : Pos} (ho : IpQ X op r f) (hx : QE X W ix ti si) (he : QE X W e te se) (hN : X.N[i]? = some x := by rfl) (hv : Vis X.env.scope x := by first | exact Or.inl rfl | exact Or.inr (Or.inl rfl) | exact Or.inr (Or.inr rfl)) (hd : (x == ("__debug__" : Str)) = false := by decide)
    (hcd : (x == ("__classdict__" : Str)) = false := by decide) (ha : ∀ ov iv new, augStore ix ov iv new = (do holding [new, ov, iv] (setItem ov iv new); release [new, ov, iv] []; pure .next) := by intros; rfl) :
    QS X n W (.AugAssign (.Subscript (.Name x px) ix tpos) op e pos) (tAugS (tVar i) ti te (rIxL X.K) r rSetL) (sAugIx i si se f) := by
  refine ⟨ps_augS (pe_var hN hv hd hcd) hx.pe get_list he.pe ho.ip set_list ha, fun ρ σ F H A st D w => ?_⟩
  have e0 : sAugIx i si se f ρ = match mlAt i ρ with
    | none => .bad
    | some _ => (si.bind fun kq ρ1 => match (asI kq).bind fun k => (getAt i k ρ1).map fun p => (k, p) with
      | none => .bad
      | some z => (se.bind fun q ρ2 => match f z.2 q with
        | none => .bad
        | some y => match putAt i z.1 y ρ2 with
          | none => .bad
          | some ρ3 => .ok .nx ρ3) ρ1) ρ := rfl
  cases h0 : mlAt i ρ with
  | none => rw [h0] at e0; exact absurd e0 w.nb
  | some ys =>
    rw [h0] at e0
    obtain ⟨a0, vs0, r0, z1, z2, z3, z4, z5, z6, _⟩ := st.write (mlAt_eq h0)
    have eb := e0.trans (bind_eq si (fun kq ρ1 => match (asI kq).bind fun k => (getAt i k ρ1).map fun p => (k, p) with
      | none => .bad
      | some z => (se.bind fun q ρ2 => match f z.2 q with
        | none => .bad
        | some y => match putAt i z.1 y ρ2 with
          | none => .bad
          | some ρ3 => .ok Out.nx ρ3) ρ1) ρ)
    refine ⟨.ref a0, z1, hx.ev ρ σ F H A (nob_le _) st _ (fun q => ?_) (fun kq ρ1 q1 kv F1 H1 A1 f1 st1 hr1 _ _ g1 => ?_) (fun x ρ1 q cls d F1 H1 A1 st1 g1 hx => ?_)⟩
    · rw [q] at eb; exact w.nb eb
    · rw [q1] at eb
      obtain ⟨rfl, hk⟩ := hr1
      have eb2 : sAugIx i si se f ρ = match (asI kq).bind fun k => (getAt i k ρ1).map fun p => (k, p) with
        | none => .bad
        | some z => (se.bind fun q ρ2 => match f z.2 q with
          | none => .bad
          | some y => match putAt i z.1 y ρ2 with
            | none => .bad
            | some ρ3 => .ok Out.nx ρ3) ρ1 := eb
      cases ez : (asI kq).bind fun k => (getAt i k ρ1).map fun p => (k, p) with
      | none => rw [ez] at eb2; exact absurd eb2 w.nb
      | some z =>
        rw [ez] at eb2
        cases ek : asI kq with
        | none => rw [ek] at ez; cases ez
        | some k =>
          rw [ek] at ez
          have ez2 : (getAt i k ρ1).map (fun p => (k, p)) = some z := ez
          cases ep : getAt i k ρ1 with
          | none => rw [ep] at ez2; cases ez2
          | some p =>
            rw [ep] at ez2
            cases ez2
            rw [asI_eq ek] at hk
            have hk' := repI.mp hk
            obtain ⟨a, vs, v, y1, y2, y3, y4⟩ := getAt_rep st1 ep
            rw [z1] at y1
            cases y1
            have eb3 := eb2.trans (bind_eq se (fun q ρ2 => match f p q with
              | none => .bad
              | some y => match putAt i k y ρ2 with
                | none => .bad
                | some ρ3 => .ok Out.nx ρ3) ρ1)
            refine ⟨a0, vs, k, v, rfl, hk', SqL.of y2, y3, he.ev ρ1 σ F1 H1 A1 (nob_le _) st1 _ (fun q => ?_) (fun q ρ2 q2 qv F2 H2 A2 f2 st2 hr2 _ _ g2 => ?_) (fun x ρ2 q cls d F2 H2 A2 st2 g2 hx => ?_)⟩
            · rw [q] at eb3; exact w.nb eb3
            · rw [q2] at eb3
              obtain ⟨rfl, hq⟩ := hr2
              have eb4 : sAugIx i si se f ρ = match f p q with
                | none => .bad
                | some y => match putAt i k y ρ2 with
                  | none => .bad
                  | some ρ3 => .ok Out.nx ρ3 := eb3
              cases ey : f p q with
              | none => rw [ey] at eb4; exact absurd eb4 w.nb
              | some y =>
                rw [ey] at eb4
                have eb5 : sAugIx i si se f ρ = match putAt i k y ρ2 with
                  | none => .bad
                  | some ρ3 => .ok Out.nx ρ3 := eb4
                cases eu : putAt i k y ρ2 with
                | none => rw [eu] at eb5; exact absurd eb5 w.nb
                | some ρ3 =>
                  rw [eu] at eb5
                  refine ho.pop p q y v qv ey F2 W (RepF.mono g2.f _ _ y4) hq ρ2 σ F2 H2 A2 (Same.refl _) st2 _ (fun h => nomatch h) (fun z' ρ4 hz zv F4 H4 A4 f4 st4 hr4 nd4 hn4 go4 => ?_) (fun x ρ4 h => nomatch h)
                  cases hz
                  obtain ⟨rfl, hzv⟩ := hr4
                  obtain ⟨a, us, j, x1, x2, x3, A5, s5, g5⟩ := st4.putAt hzv eu
                  rw [z1] at x1
                  cases x1
                  exact ⟨a0, us, k, j, rfl, hk', x2, x3, w.nx _ eb5 σ F4 _ A5 s5 (Go.trans g1 (Go.trans g2 (Go.trans go4 g5))) (Fix.refl _ _)⟩
            · rw [q] at eb3
              exact w.xc x ρ2 eb3 cls d σ F2 H2 A2 st2 (Go.trans g1 g2) (Fix.refl _ _) hx
    · rw [q] at eb
      exact w.xc x ρ1 eb cls d σ F1 H1 A1 st1 g1 (Fix.refl _ _) hx
end

/-! ### what is walked -/
def itL (p : PV) : Option (List PV) := match p with
  | .lst xs => some xs
  | .tup xs => some xs
  | .str s => some (s.map fun c => .str [c])
  | _ => none
theorem isIt_l {K : PySem.W.Frag} {F : Hp} {xs : List PV} {a : Addr} {vs : List V} (h : F a = some (.lst vs)) (r : RepFs K F xs vs) : IsIt K F xs (Itl K a) where
  goes := fun i H F1 hi s1 s2 => ⟨vs, vs[i]'(by rw [r.length]; exact hi), SqL.of (s2 _ _ (s1 _ _ h)), List.getElem?_eq_getElem _⟩
  stops := fun H F1 s1 s2 => ⟨vs, SqL.of (s2 _ _ (s1 _ _ h)), by rw [r.length]; exact Nat.le_refl _⟩
  yields := fun i p H F1 x H' hp s1 s2 y => by
    obtain ⟨rfl, y⟩ := y
    obtain ⟨v, q1, q2⟩ := r.get hp
    have e := y vs (SqL.of (s2 _ _ (s1 _ _ h)))
    rw [q1] at e
    cases e
    exact ⟨F1, Same.refl _, s2, Same.refl _, fun b e q => absurd e q, RepF.mono s1 _ _ q2⟩
theorem isIt_t {K : PySem.W.Frag} {F : Hp} {xs : List PV} {a : Addr} {vs : List V} (h : SqT K F a vs) (r : RepFs K F xs vs) : IsIt K F xs (Itt K a) where
  goes := fun i H F1 hi s1 s2 => ⟨vs, vs[i]'(by rw [r.length]; exact hi), same_t s2 (same_t s1 h), List.getElem?_eq_getElem _⟩
  stops := fun H F1 s1 s2 => ⟨vs, same_t s2 (same_t s1 h), by rw [r.length]; exact Nat.le_refl _⟩
  yields := fun i p H F1 x H' hp s1 s2 y => by
    obtain ⟨rfl, y⟩ := y
    obtain ⟨v, q1, q2⟩ := r.get hp
    have e := y vs (same_t s2 (same_t s1 h))
    rw [q1] at e
    cases e
    exact ⟨F1, Same.refl _, s2, Same.refl _, fun b e q => absurd e q, RepF.mono s1 _ _ q2⟩
theorem isIt_s {K : PySem.W.Frag} {F : Hp} {s : Tx} : IsIt K F (s.map fun c => .str [c]) (Its (mkS s)) where
  goes := fun i H F1 hi s1 s2 => by
    show i < s.toArray.size
    rw [List.size_toArray]
    simpa using hi
  stops := fun H F1 s1 s2 => by
    show s.toArray.size ≤ _
    rw [List.size_toArray, List.length_map]
    exact Nat.le_refl _
  yields := fun i p H F1 x H' hp s1 s2 y => by
    obtain ⟨rfl, c, y1, rfl⟩ := y
    have y2 : s[i]? = some c := by
      have : s.toArray[i]? = some c := y1
      simpa using this
    rw [List.getElem?_map, y2] at hp
    cases hp
    exact ⟨F1, Same.refl _, s2, Same.refl _, fun b e q => absurd e q, repS.mpr rfl⟩
theorem isIt_r {K : PySem.W.Frag} {F : Hp} {lo : Int} {n : Nat} : IsIt K F ((List.range n).map fun (i : Nat) => PV.int (lo + i)) (Itr lo n) where
  goes := fun i H F1 hi s1 s2 => by
    show i < n
    simpa using hi
  stops := fun H F1 s1 s2 => by
    show n ≤ _
    rw [List.length_map, List.length_range]
    exact Nat.le_refl _
  yields := fun i p H F1 x H' hp s1 s2 y => by
    obtain ⟨rfl, rfl⟩ := y
    rw [List.getElem?_map] at hp
    by_cases hi : i < n
    · rw [List.getElem?_range hi] at hp
      cases hp
      exact ⟨F1, Same.refl _, s2, Same.refl _, fun b e q => absurd e q, repI.mpr rfl⟩
    · rw [List.getElem?_eq_none (by rw [List.length_range]; omega)] at hp
      cases hp
theorem pair_rep {K : PySem.W.Frag} {F : Hp} {T : Addr} {p q : PV} {x y : V} (e : F T = some (.tup [x, y])) (hp : RepF K F p x) (hq : RepF K F q y) : RepF K F (.tup [p, q]) (.ref T) := by
  refine rep_tup e ?_
  rw [RepFs]
  exact ⟨x, [y], rfl, hp, RepFs.single hq⟩
/-- a new thing that nobody owns, laid by an iterator -/
theorem laid_new {F H : Hp} {T : Addr} {o : HO} (s : Same F H) (hT : H T = none) : Same F (upd F T o) ∧ Same (upd F T o) (upd H T o) ∧ Same H (upd H T o) ∧ (∀ b, F b = none → (upd F T o) b ≠ none → H b = none) := by
  have hF : F T = none := by
    cases e : F T with
    | none => rfl
    | some u => rw [s _ _ e] at hT; cases hT
  refine ⟨fun b u e => by rw [upd_ne (ne_of_none e hF)]; exact e, fun b u e => ?_, fun b u e => by rw [upd_ne (ne_of_none e hT)]; exact e, fun b e q => ?_⟩
  · by_cases hb : b = T
    · subst hb; rw [upd_same] at e ⊢; exact e
    · rw [upd_ne hb] at e ⊢; exact s _ _ e
  · by_cases hb : b = T
    · subst hb; exact hT
    · rw [upd_ne hb] at q; exact absurd e q
theorem isIt_e {K : PySem.W.Frag} {F : Hp} {xs : List PV} {a : Addr} {vs : List V} (h : F a = some (.lst vs)) (r : RepFs K F xs vs) : IsIt K F (xs.mapIdx fun i p => .tup [.int i, p]) (Ite K a) where
  goes := fun i H F1 hi s1 s2 => ⟨vs, vs[i]'(by rw [r.length]; simpa using hi), SqL.of (s2 _ _ (s1 _ _ h)), List.getElem?_eq_getElem _⟩
  stops := fun H F1 s1 s2 => ⟨vs, SqL.of (s2 _ _ (s1 _ _ h)), by rw [r.length]; simp⟩
  yields := fun i p H F1 x H' hp s1 s2 y => by
    obtain ⟨T, w, rfl, hT, rfl, y⟩ := y
    rw [List.getElem?_mapIdx] at hp
    cases ex : xs[i]? with
    | none => rw [ex] at hp; cases hp
    | some p0 =>
      rw [ex] at hp
      cases hp
      obtain ⟨v, q1, q2⟩ := r.get ex
      have e := y vs (SqL.of (s2 _ _ (s1 _ _ h)))
      rw [q1] at e
      cases e
      obtain ⟨n1, n2, n3, n4⟩ := laid_new (o := .tup [.int (i : Nat), w]) s2 hT
      exact ⟨_, n1, n2, n3, n4, pair_rep upd_same (repI.mpr rfl) (RepF.mono (s1.trans n1) _ _ q2)⟩
theorem isIt_z {K : PySem.W.Frag} {F : Hp} {xs ys : List PV} {a b : Addr} {vs us : List V} (h : F a = some (.lst vs)) (r : RepFs K F xs vs) (h' : F b = some (.lst us)) (r' : RepFs K F ys us) : IsIt K F (List.zipWith (fun p q => .tup [p, q]) xs ys) (Itz K a b) where
  goes := fun i H F1 hi s1 s2 => by
    rw [List.length_zipWith] at hi
    exact ⟨vs, us, vs[i]'(by rw [r.length]; omega), us[i]'(by rw [r'.length]; omega), SqL.of (s2 _ _ (s1 _ _ h)), SqL.of (s2 _ _ (s1 _ _ h')), List.getElem?_eq_getElem _, List.getElem?_eq_getElem _⟩
  stops := fun H F1 s1 s2 => ⟨vs, us, SqL.of (s2 _ _ (s1 _ _ h)), SqL.of (s2 _ _ (s1 _ _ h')), by rw [r.length, r'.length, List.length_zipWith]; omega⟩
  yields := fun i p H F1 x H' hp s1 s2 y => by
    obtain ⟨T, w, w', rfl, hT, rfl, y, y'⟩ := y
    rw [List.getElem?_zipWith] at hp
    cases ex : xs[i]? with
    | none => rw [ex] at hp; cases hp
    | some p0 =>
      cases ey : ys[i]? with
      | none => rw [ex, ey] at hp; cases hp
      | some p1 =>
        rw [ex, ey] at hp
        cases hp
        obtain ⟨v, q1, q2⟩ := r.get ex
        obtain ⟨v', q1', q2'⟩ := r'.get ey
        have e := y vs (SqL.of (s2 _ _ (s1 _ _ h)))
        have e' := y' us (SqL.of (s2 _ _ (s1 _ _ h')))
        rw [q1] at e
        rw [q1'] at e'
        cases e
        cases e'
        obtain ⟨n1, n2, n3, n4⟩ := laid_new (o := .tup [w, w']) s2 hT
        exact ⟨_, n1, n2, n3, n4, pair_rep upd_same (RepF.mono (s1.trans n1) _ _ q2) (RepF.mono (s1.trans n1) _ _ q2')⟩
theorem isIt_zT {K : PySem.W.Frag} {F : Hp} {xs ys : List PV} {a b : Addr} {vs us : List V} (h : SqT K F a vs) (r : RepFs K F xs vs) (h' : SqT K F b us) (r' : RepFs K F ys us) : IsIt K F (List.zipWith (fun p q => .tup [p, q]) xs ys) (RZ.ItzT K a b) where
  goes := fun i H F1 hi s1 s2 => by
    rw [List.length_zipWith] at hi
    exact ⟨vs, us, vs[i]'(by rw [r.length]; omega), us[i]'(by rw [r'.length]; omega), same_t s2 (same_t s1 h), same_t s2 (same_t s1 h'), List.getElem?_eq_getElem _, List.getElem?_eq_getElem _⟩
  stops := fun H F1 s1 s2 => ⟨vs, us, same_t s2 (same_t s1 h), same_t s2 (same_t s1 h'), by rw [r.length, r'.length, List.length_zipWith]; omega⟩
  yields := fun i p H F1 x H' hp s1 s2 y => by
    obtain ⟨T, w, w', rfl, hT, rfl, y, y'⟩ := y
    rw [List.getElem?_zipWith] at hp
    cases ex : xs[i]? with
    | none => rw [ex] at hp; cases hp
    | some p0 =>
      cases ey : ys[i]? with
      | none => rw [ex, ey] at hp; cases hp
      | some p1 =>
        rw [ex, ey] at hp
        cases hp
        obtain ⟨v, q1, q2⟩ := r.get ex
        obtain ⟨v', q1', q2'⟩ := r'.get ey
        have e := y vs (same_t s2 (same_t s1 h))
        have e' := y' us (same_t s2 (same_t s1 h'))
        rw [q1] at e
        rw [q1'] at e'
        cases e
        cases e'
        obtain ⟨n1, n2, n3, n4⟩ := laid_new (o := .tup [w, w']) s2 hT
        exact ⟨_, n1, n2, n3, n4, pair_rep upd_same (RepF.mono (s1.trans n1) _ _ q2) (RepF.mono (s1.trans n1) _ _ q2')⟩
/-- a list, a tuple, a text -/
def iAny (K : PySem.W.Frag) (te : TE) : TI := fun σ H R => te σ H fun x H1 => (∃ a, x = .ref a ∧ (∃ xs, SqL K H1 a xs) ∧ R (Itl K a) H1) ∨ (∃ a, x = .ref a ∧ (∃ xs, SqT K H1 a xs) ∧ R (Itt K a) H1) ∨ ∃ s, x = .str s ∧ R (Its s) H1
section
variable {X : Cx} {W : WX} {tg : Expr}
theorem pi_any {e : Expr} {te : TE} (he : PE X e te) : PI X tg e (iAny X.K te) := by
  refine ⟨fun pins s σ H R I h => ?_⟩
  refine thn (he.run pins s σ H _ I h) fun v s1 ⟨x, H1, I1, r1, q1⟩ => ?_
  rcases q1 with ⟨a, e, ⟨xs, hq⟩, q⟩ | ⟨a, e, ⟨xs, hq⟩, q⟩ | ⟨x, ex, q⟩
  · subst e
    cases r1
    obtain ⟨its, rv, p, hz⟩ := I1.list hq
    refine wpAny_pyIter_list p.isList ?_
    refine ⟨s1.heap.objs.size, [s1.heap.objs.size], _, _, H1, rfl, I1.kept (t' := s1.toks) fun b o e => Heap.get?_push_of_some _ e, turn_list a _, ⟨_, Heap.get?_push_size _ rfl, rfl, rfl⟩, fun b hb => ?_, q⟩
    have e : b = s1.heap.objs.size := by simpa using hb
    subst e
    exact I1.fpOk (Nat.le_refl _) (I1.hok.fresh (Nat.le_refl _))
  · subst e
    cases r1
    obtain ⟨its, rv, p, hz⟩ := I1.tuple hq
    refine wpAny_pyIter_tuple (show s1.heap.IsTuple a its.toArray from p) ?_
    refine ⟨s1.heap.objs.size, [s1.heap.objs.size], _, _, H1, rfl, I1.kept (t' := s1.toks) fun b o e => Heap.get?_push_of_some _ e, turn_tuple a _, ⟨_, Heap.get?_push_size _ rfl, rfl, rfl⟩, fun b hb => ?_, q⟩
    have e : b = s1.heap.objs.size := by simpa using hb
    subst e
    exact I1.fpOk (Nat.le_refl _) (I1.hok.fresh (Nat.le_refl _))
  · subst ex
    obtain ⟨t, rfl⟩ := r1
    cases ha : x.cps.all (· < 128)
    · exact wpAny_pyIter_wide ha (pi_one (tk := s1.toks) I1 _ (turn_str _ x t "str_iterator" (.inr rfl)) ⟨_, Heap.get?_push_size _ rfl, rfl, rfl⟩ q)
    · exact wpAny_pyIter_ascii ha (pi_one (tk := s1.toks) I1 _ (turn_str _ x t "str_ascii_iterator" (.inl rfl)) ⟨_, Heap.get?_push_size _ rfl, rfl, rfl⟩ q)
def sIt (s : SE PV) : SE (List PV) := s.bind fun p => ofO (itL p)
theorem ev_it {K : PySem.W.Frag} {B : Hp} {wi : TI} {items : List PV} {J : It} (h : IsIt K B items J) (hw : ∀ σ F H R, Same B F → Same F H → R J H → wi σ H R) : Ev K B (fr (IsIt K)) W wi (SE.ret items) := fun ρ σ F H A sB st Q nb hok hex =>
  hw σ F H Q sB st.sub (hok items ρ rfl J F H A [] st ⟨rfl, h.mono sB⟩ (by simpa using st.nod) (by simp) (by simpa using Go.refl F H A))
theorem qi_any {e : Expr} {te : TE} {s : SE PV} (he : QE X W e te s) : QI X W tg e (iAny X.K te) (sIt s) := by
  refine ⟨pi_any he.pe, he.ev.bind fun p x B1 s1 hp => Ev.ofO fun items hi => ?_⟩
  cases p with
  | lst xs =>
    cases hi
    rw [RepF] at hp
    obtain ⟨a, vs, rfl, e2, e3⟩ := hp
    exact ev_it (isIt_l e2 e3) fun σ F H R sB sF r => .inl ⟨a, rfl, ⟨vs, SqL.of (sF _ _ (sB _ _ e2))⟩, r⟩
  | tup xs =>
    cases hi
    rw [RepF] at hp
    obtain ⟨a, vs, rfl, e2, e3⟩ := hp
    exact ev_it (isIt_t e2 e3) fun σ F H R sB sF r => .inr (.inl ⟨a, rfl, ⟨vs, same_t sF (same_t sB e2)⟩, r⟩)
  | str s =>
    cases hi
    rw [repS.mp hp]
    exact ev_it isIt_s fun σ F H R sB sF r => .inr (.inr ⟨_, rfl, r⟩)
  | _ => cases hi
/-- range(n), range(a, b) -/
def rngL (lo hi : Int) : List PV := (List.range (hi - lo).toNat).map fun (i : Nat) => PV.int (lo + i)
def rngOf : List PV → Option (List PV)
  | [.int j] => if -(2 ^ 62) ≤ j ∧ j < 2 ^ 62 then some (rngL 0 j) else none
  | [.int i, .int j] => if (-(2 ^ 62) ≤ i ∧ i < 2 ^ 62) ∧ -(2 ^ 62) ≤ j ∧ j < 2 ^ 62 then some (rngL i j) else none
  | _ => none
def sRng (s : SE (List PV)) : SE (List PV) := s.bind fun ps => ofO (rngOf ps)
theorem rngOf1 {a : PV} {items : List PV} (h : rngOf [a] = some items) : ∃ j, a = .int j ∧ (-(2 ^ 62) ≤ j ∧ j < 2 ^ 62) ∧ items = rngL 0 j := by
  unfold rngOf at h
  split at h
  · rename_i j e
    split at h
    · rename_i hc
      cases e
      cases h
      exact ⟨j, rfl, hc, rfl⟩
    · cases h
  · rename_i e
    cases e
  · cases h
theorem rngOf2 {a b : PV} {items : List PV} (h : rngOf [a, b] = some items) : ∃ i j, a = .int i ∧ b = .int j ∧ ((-(2 ^ 62) ≤ i ∧ i < 2 ^ 62) ∧ -(2 ^ 62) ≤ j ∧ j < 2 ^ 62) ∧ items = rngL i j := by
  unfold rngOf at h
  split at h
  · rename_i e
    cases e
  · rename_i i j e
    split at h
    · rename_i hc
      cases e
      cases h
      exact ⟨i, j, rfl, rfl, hc, rfl⟩
    · cases h
  · cases h
theorem qi_range1 {a : Expr} {ta : TA} {s : SE (List PV)} {p pos : Pos} (ha : QA X W [a] ta s) (hm : X.mg "range" = none) (hl : ∀ ρ ps ρ', s ρ = .ok ps ρ' → ps.length = 1) (hg : Gl X "range" := by rfl) (hs : starEach [a] X.env = [(false, eval a X.env)] := by rfl) : QI X W tg (.Call (.Name "range" p) [a] [] pos) (iRng1 ta) (sRng s) := by
  refine ⟨pi_range1 hg hm ha.pa hs, fun ρ σ F H A sB st Q nb hok hex => ?_⟩
  have eb := bind_eq s (fun ps => ofO (rngOf ps)) ρ
  refine ha.ev ρ σ F H A sB st _ (fun e => ?_) (fun ps ρ1 e1 vs F1 H1 A1 f st1 hr _ _ g1 => ?_) (fun x ρ1 e1 cls d F1 H1 A1 st1 g1 hx => ?_)
  · rw [e] at eb; exact nb eb
  · have hps := hl ρ ps ρ1 e1
    rw [e1] at eb
    obtain ⟨rfl, hr⟩ := hr
    match ps, hps with
    | [a0], _ =>
      cases eo : rngOf [a0] with
      | none =>
        have : sRng s ρ = ofO (rngOf [a0]) ρ1 := eb
        rw [eo] at this
        exact absurd this nb
      | some items =>
        have e2 : sRng s ρ = ofO (rngOf [a0]) ρ1 := eb
        rw [eo] at e2
        obtain ⟨j, rfl, hc, rfl⟩ := rngOf1 eo
        rw [RepFs] at hr
        obtain ⟨v, r, rfl, h1, h2⟩ := hr
        rw [RepFs] at h2
        subst h2
        refine ⟨j, by rw [repI.mp h1], hc.1, hc.2, hok _ ρ1 e2 (Itr 0 j.toNat) F1 H1 A1 [] st1 ⟨rfl, ?_⟩ (by simpa using st1.nod) (by simp) g1⟩
        have := isIt_r (K := X.K) (F := F1) (lo := 0) (n := (j - 0).toNat)
        rw [Int.sub_zero] at this
        unfold rngL
        rw [Int.sub_zero]
        exact this
  · rw [e1] at eb
    exact hex x ρ1 eb cls d F1 H1 A1 st1 g1 hx
theorem qi_range2 {a b : Expr} {ta : TA} {s : SE (List PV)} {p pos : Pos} (ha : QA X W [a, b] ta s) (hm : X.mg "range" = none) (hl : ∀ ρ ps ρ', s ρ = .ok ps ρ' → ps.length = 2) (hg : Gl X "range" := by rfl) (hs : starEach [a, b] X.env = [(false, eval a X.env), (false, eval b X.env)] := by rfl) (hs2 : starEach [b] X.env = [(false, eval b X.env)] := by rfl) : QI X W tg (.Call (.Name "range" p) [a, b] [] pos) (iRng2 ta) (sRng s) := by
  refine ⟨pi_range2 hg hm ha.pa hs hs2, fun ρ σ F H A sB st Q nb hok hex => ?_⟩
  have eb := bind_eq s (fun ps => ofO (rngOf ps)) ρ
  refine ha.ev ρ σ F H A sB st _ (fun e => ?_) (fun ps ρ1 e1 vs F1 H1 A1 f st1 hr _ _ g1 => ?_) (fun x ρ1 e1 cls d F1 H1 A1 st1 g1 hx => ?_)
  · rw [e] at eb; exact nb eb
  · have hps := hl ρ ps ρ1 e1
    rw [e1] at eb
    obtain ⟨rfl, hr⟩ := hr
    match ps, hps with
    | [a0, b0], _ =>
      have e2 : sRng s ρ = ofO (rngOf [a0, b0]) ρ1 := eb
      cases eo : rngOf [a0, b0] with
      | none =>
        rw [eo] at e2
        exact absurd e2 nb
      | some items =>
        rw [eo] at e2
        obtain ⟨i, j, rfl, rfl, hc, rfl⟩ := rngOf2 eo
        rw [RepFs] at hr
        obtain ⟨v, r, rfl, h1, h2⟩ := hr
        rw [RepFs] at h2
        obtain ⟨u, r, rfl, h3, h4⟩ := h2
        rw [RepFs] at h4
        subst h4
        exact ⟨i, j, by rw [repI.mp h1, repI.mp h3], ⟨hc.1.1, hc.1.2, hc.2.1, hc.2.2⟩, hok _ ρ1 e2 (Itr i (j - i).toNat) F1 H1 A1 [] st1 ⟨rfl, isIt_r⟩ (by simpa using st1.nod) (by simp) g1⟩
  · rw [e1] at eb
    exact hex x ρ1 eb cls d F1 H1 A1 st1 g1 hx
theorem len_nil : ∀ ρ ps ρ', aNil ρ = .ok ps ρ' → ps.length = 0 := fun ρ ps ρ' h => by
  cases h
  rfl
theorem len_cons {e : SE PV} {r : SE (List PV)} {k : Nat} (h : ∀ ρ ps ρ', r ρ = .ok ps ρ' → ps.length = k) : ∀ ρ ps ρ', aCons e r ρ = .ok ps ρ' → ps.length = k + 1 := fun ρ ps ρ' q => by
  have e1 := bind_eq e (fun p => r.bind fun ps => SE.ret (p :: ps)) ρ
  have q' : e.bind (fun p => r.bind fun ps => SE.ret (p :: ps)) ρ = .ok ps ρ' := q
  rw [q'] at e1
  cases h1 : e ρ with
  | bad => rw [h1] at e1; cases e1
  | exc x ρ1 => rw [h1] at e1; cases e1
  | ok p ρ1 =>
    rw [h1] at e1
    have e2 := e1.trans (bind_eq r (fun ps => SE.ret (p :: ps)) ρ1)
    cases h2 : r ρ1 with
    | bad => rw [h2] at e2; cases e2
    | exc x ρ1 => rw [h2] at e2; cases e2
    | ok qs ρ2 =>
      rw [h2] at e2
      cases e2
      rw [List.length_cons, h ρ1 qs ρ' h2]
/-- zip(a, b) -/
def zipOf : List PV → Option (List PV)
  | [.lst xs, .lst ys] => some (List.zipWith (fun p q => .tup [p, q]) xs ys)
  | [.tup xs, .tup ys] => some (List.zipWith (fun p q => .tup [p, q]) xs ys)
  | _ => none
def sZip (s : SE (List PV)) : SE (List PV) := s.bind fun ps => ofO (zipOf ps)
theorem qi_zip {e e2 : Expr} {ta : TA} {s : SE (List PV)} {p pos tpos : Pos} {elts : List Expr} {kk : Nat} (ha : QA X W [e, e2] ta s) (hm : X.mg "zip" = none) (hg : Gl X "zip" := by rfl) (hs : starEach [e, e2] X.env = (false, eval e X.env) :: starEach [e2] X.env := by rfl) (hpl : (backTo pos (starEach [e2] X.env)).any (·.1) = false := by rfl) :
    QI X W (.Tuple elts kk tpos) (.Call (.Name "zip" p) [e, e2] [] pos) (RZ.iZipA X.K ta) (sZip s) := by
  refine ⟨RZ.pi_zipA hg hm ha.pa hs hpl, ha.ev.bind fun ps vs B1 s1 hp => Ev.ofO fun items hi => ?_⟩
  unfold zipOf at hi
  split at hi
  · rename_i xs ys
    cases hi
    rw [RepFs] at hp
    obtain ⟨v, r, rfl, h1, h2⟩ := hp
    rw [RepFs] at h2
    obtain ⟨u, r, rfl, h3, h4⟩ := h2
    rw [RepFs] at h4
    subst h4
    rw [RepF] at h1 h3
    obtain ⟨a, vs, rfl, x2, x3⟩ := h1
    obtain ⟨b, us, rfl, y2, y3⟩ := h3
    exact ev_it (isIt_z x2 x3 y2 y3) fun σ F H R sB sF r => ⟨a, b, vs, us, rfl, .inl ⟨SqL.of (sF _ _ (sB _ _ x2)), SqL.of (sF _ _ (sB _ _ y2)), r⟩⟩
  · rename_i xs ys
    cases hi
    rw [RepFs] at hp
    obtain ⟨v, r, rfl, h1, h2⟩ := hp
    rw [RepFs] at h2
    obtain ⟨u, r, rfl, h3, h4⟩ := h2
    rw [RepFs] at h4
    subst h4
    rw [RepF] at h1 h3
    obtain ⟨a, vs, rfl, x2, x3⟩ := h1
    obtain ⟨b, us, rfl, y2, y3⟩ := h3
    exact ev_it (isIt_zT x2 x3 y2 y3) fun σ F H R sB sF r => ⟨a, b, vs, us, rfl, .inr ⟨same_t sF (same_t sB x2), same_t sF (same_t sB y2), r⟩⟩
  · cases hi
end
end Mv

set_option Elab.async false
set_option linter.all false
set_option maxRecDepth 100000
set_option maxHeartbeats 4000000
namespace Mv
open PySem PySem.Spec PyProof.Rows L2

/-! ### enumerate -/
def Ies (x : Str) : It := ⟨fun i _ => i < x.cps.size, fun i H v H' => ∃ T c, x.cps[i]? = some c ∧ v = .ref T ∧ H T = none ∧ H' = upd H T (.tup [.int (i : Nat), .str ⟨#[c]⟩]), fun i _ => x.cps.size ≤ i⟩
theorem turn_enumS {P : Program} {w : World} {K : PySem.W.Frag} {elts : List Expr} {kk : Nat} {tpos : Pos} (x : Str) (t : Tok) (e it : Addr) :
    Turn P w K (.Tuple elts kk tpos) (Ies x) [e, it] e (fun i h => i ≤ x.cps.size ∧ (∃ old, IsEnum h e it ((i : Nat) : Int) old) ∧ h.IsStrIter it (strIterType x) x t i ∧ e ≠ it) where
  mem := by simp
  obj := fun i h st b hb => by
    obtain ⟨_, ⟨old, he⟩, ⟨o, ho, hc, hd⟩, _⟩ := st
    have e' : b = e ∨ b = it := by simpa using hb
    rcases e' with z | z
    · rw [z]; exact ⟨_, he, fun v q => nomatch q⟩
    · rw [z]; exact ⟨o, ho, fun v q => by rw [hd] at q; cases q⟩
  keep := fun i h h' st k => let ⟨hl, ⟨old, he⟩, ⟨o, ho, r⟩, hne⟩ := st; ⟨hl, ⟨old, k e (by simp) _ he⟩, ⟨o, k it (by simp) o ho, r⟩, hne⟩
  item := by
    intro X hP hw hK hc i pins s σ H E I hf st hg
    subst hP hw hK
    obtain ⟨hl, ⟨old, he⟩, hit, hne⟩ := st
    have hel : e < s.heap.objs.size := Heap.lt_size he
    have hil : it < s.heap.objs.size := by obtain ⟨_, q, _⟩ := hit; exact Heap.lt_size q
    have D := Draws.text (prog := X.prog) (w := X.w) (A := X.A.in1) (by exact I.ok.hd hc) it x t
    refine wpAny_pyNext_enum_itemD D he hit hg hne (by simpa using hne) fun u h' tk hP ho hit' hT hsz hk => ?_
    obtain ⟨c, tu, hcx, rfl⟩ := hP
    refine ⟨_, rfl, wpAny_letOwnedTupleGo_enum (s := { s with heap := h', toks := tk + 1 }) ho fun h'' he' sb => ?_⟩
    have hT2 : h''.get? s.heap.objs.size = some { cls := .type "tuple", data := .seq #[.int i tk, .str ⟨#[c]⟩ tu] } := (sb.2 _ (Nat.ne_of_gt hel)).trans hT
    have new : ObjOk X.prog X.w (upd H s.heap.objs.size (.tup [.int (i : Nat), .str ⟨#[c]⟩])) h'' s.heap.objs.size (.tup [.int (i : Nat), .str ⟨#[c]⟩]) :=
      ⟨by show 2 ≤ sizeLine; decide, [.int i tk, .str ⟨#[c]⟩ tu], .cons ⟨_, rfl⟩ (.cons ⟨_, rfl⟩ .nil), ⟨_, hT2, rfl, _, rfl⟩⟩
    have I1 : Inv X pins σ (upd H s.heap.objs.size (.tup [.int (i : Nat), .str ⟨#[c]⟩])) { s with heap := h'', toks := tk + 1 } :=
      I.turnedNew (ch := [e, it]) (fun b ob hb q => (sb.2 b (fun z => hb (by simp [z]))).trans (hk b ob (fun z => hb (by simp [z])) (fun z => hb (by simp [z])) q)) hf (Nat.le_refl _) new
    refine ⟨.ref s.heap.objs.size, _, I1, rfl, ⟨_, c, hcx, rfl, I.hok.fresh (Nat.le_refl _), rfl⟩, ⟨hg, ⟨.str ⟨#[c]⟩ tu, ?_⟩, ?_, hne⟩, fun b hb => ?_⟩
    · have e1 : ((i + 1 : Nat) : Int) = (i : Int) + 1 := by omega
      rw [e1]; exact he'
    · obtain ⟨o, ho2, r⟩ := hit'
      exact ⟨o, (sb.2 it (Ne.symm hne)).trans ho2, r⟩
    · have hb' : b < s.heap.objs.size := by
        have e' : b = e ∨ b = it := by simpa using hb
        rcases e' with z | z
        · rw [z]; exact hel
        · rw [z]; exact hil
      rw [upd_ne (Nat.ne_of_lt hb')]
      exact (hf b hb).1
  done := by
    intro X hP hw hK hc i pins s σ H E I hf st hg
    subst hP hw hK
    obtain ⟨hl, ⟨old, he⟩, hit, hne⟩ := st
    obtain ⟨f0, f1, f2, f3, f4, f5⟩ := hf it (by simp)
    have e1 : i = x.cps.size := Nat.le_antisymm hl hg
    subst e1
    have D := Draws.text (prog := X.prog) (w := X.w) (A := X.A.in1) (by exact I.ok.hd hc) it x t
    exact wpAny_pyNext_enum_endD D he hit fun h' eb => ⟨rfl, I.turned (t' := s.toks) (fun b o hb q => eb b o hb q) f0 f1 f3 f4 f5⟩
  self := fun A i s Q E st h => let ⟨_, ⟨_, he⟩, _⟩ := st; wpAny_pyIter_enum he h
def iEnA (K : PySem.W.Frag) (ta : TA) : TI := fun σ H R => ta σ H fun vs H1 => (∃ a xs, vs = [.ref a] ∧ SqL K H1 a xs ∧ R (Ite K a) H1) ∨ ∃ x, vs = [.str x] ∧ R (Ies x) H1
section
variable {X : Cx} {W : WX} {tg : Expr}
theorem pi_enumA {e : Expr} {ta : TA} {p pos tpos : Pos} {elts : List Expr} {kk : Nat} (hg : Gl X "enumerate") (hm : X.mg "enumerate" = none) (ha : PA X [e] ta) (hs : starEach [e] X.env = [(false, eval e X.env)] := by rfl) :
    PI X (.Tuple elts kk tpos) (.Call (.Name "enumerate" p) [e] [] pos) (iEnA X.K ta) := by
  refine ⟨fun pins s σ H R I h => ?_⟩
  refine Call_ (ld_blt I hg hm boot_enumerate (PyProof.Rows.callWith_type1 (thn (ha.run pos pins s σ H _ I h) fun us s1 ⟨vs, H1, I1, r1, q1⟩ => ?_) hs rfl))
  have fp : ∀ b, b ∈ [s1.heap.objs.size + 1, s1.heap.objs.size] → FpOk X pins H1 b := fun b hb => by
    have e' : b = s1.heap.objs.size + 1 ∨ b = s1.heap.objs.size := by simpa using hb
    have hle : s1.heap.objs.size ≤ b := by
      rcases e' with z | z
      · rw [z]; exact Nat.le_add_right _ _
      · rw [z]; exact Nat.le_refl _
    exact I1.fpOk hle (I1.hok.fresh hle)
  rcases q1 with ⟨a, xs, ex, hq, q⟩ | ⟨x, ex, q⟩
  · subst ex
    cases r1 with
    | cons r rr =>
      cases rr
      cases r
      obtain ⟨its, rv, p', hz⟩ := I1.list hq
      refine call_enumerate_list p'.isList fun h' he hit hsz hk => wpAny_pyIter_enum he ?_
      have I2 : Inv X pins σ H1 { s1 with heap := h' } := I1.kept (t' := s1.toks) hk
      exact ⟨s1.heap.objs.size + 1, [s1.heap.objs.size + 1, s1.heap.objs.size], _, _, H1, rfl, I2, turn_enum a (s1.heap.objs.size + 1) s1.heap.objs.size, ⟨⟨.none, he⟩, hit, Nat.succ_ne_self _⟩, fp, q⟩
  · subst ex
    cases r1 with
    | cons r rr =>
      cases rr
      obtain ⟨t, rfl⟩ := r
      refine call_enumerate_str fun h' he hit hsz hk => wpAny_pyIter_enum he ?_
      have I2 : Inv X pins σ H1 { s1 with heap := h' } := I1.kept (t' := s1.toks) hk
      exact ⟨s1.heap.objs.size + 1, [s1.heap.objs.size + 1, s1.heap.objs.size], _, _, H1, rfl, I2, turn_enumS x t (s1.heap.objs.size + 1) s1.heap.objs.size, ⟨Nat.zero_le _, ⟨.none, he⟩, hit, Nat.succ_ne_self _⟩, fp, q⟩
theorem isIt_es {K : PySem.W.Frag} {F : Hp} {s : Tx} : IsIt K F (s.mapIdx fun i c => .tup [.int i, .str [c]]) (Ies (mkS s)) where
  goes := fun i H F1 hi s1 s2 => by
    show i < s.toArray.size
    rw [List.size_toArray]
    simpa using hi
  stops := fun H F1 s1 s2 => by
    show s.toArray.size ≤ _
    rw [List.size_toArray]
    simp
  yields := fun i p H F1 x H' hp s1 s2 y => by
    obtain ⟨T, c, y1, rfl, hT, rfl⟩ := y
    have y2 : s[i]? = some c := by
      have : s.toArray[i]? = some c := y1
      simpa using this
    rw [List.getElem?_mapIdx, y2] at hp
    cases hp
    obtain ⟨n1, n2, n3, n4⟩ := laid_new (o := .tup [.int (i : Nat), .str ⟨#[c]⟩]) s2 hT
    exact ⟨_, n1, n2, n3, n4, pair_rep upd_same (repI.mpr rfl) (repS.mpr rfl)⟩
def enumOf : List PV → Option (List PV)
  | [.lst xs] => some (xs.mapIdx fun i p => .tup [.int i, p])
  | [.str s] => some (s.mapIdx fun i c => .tup [.int i, .str [c]])
  | _ => none
def sEnum (s : SE (List PV)) : SE (List PV) := s.bind fun ps => ofO (enumOf ps)
theorem qi_enum {e : Expr} {ta : TA} {s : SE (List PV)} {p pos tpos : Pos} {elts : List Expr} {kk : Nat} (ha : QA X W [e] ta s) (hm : X.mg "enumerate" = none) (hg : Gl X "enumerate" := by rfl) (hs : starEach [e] X.env = [(false, eval e X.env)] := by rfl) :
    QI X W (.Tuple elts kk tpos) (.Call (.Name "enumerate" p) [e] [] pos) (iEnA X.K ta) (sEnum s) := by
  refine ⟨pi_enumA hg hm ha.pa hs, ha.ev.bind fun ps vs B1 s1 hp => Ev.ofO fun items hi => ?_⟩
  unfold enumOf at hi
  split at hi
  · rename_i xs
    cases hi
    rw [RepFs] at hp
    obtain ⟨v, r, rfl, h1, h2⟩ := hp
    rw [RepFs] at h2
    subst h2
    rw [RepF] at h1
    obtain ⟨a, vs, rfl, x2, x3⟩ := h1
    exact ev_it (isIt_e x2 x3) fun σ F H R sB sF r => .inl ⟨a, vs, rfl, SqL.of (sF _ _ (sB _ _ x2)), r⟩
  · rename_i s
    cases hi
    rw [RepFs] at hp
    obtain ⟨v, r, rfl, h1, h2⟩ := hp
    rw [RepFs] at h2
    subst h2
    exact ev_it isIt_es fun σ F H R sB sF r => .inr ⟨mkS s, by rw [repS.mp h1], r⟩
  · cases hi

/-! ### comprehensions, as expressions -/
structure QTs (X : Cx) (W : WX) (ifs : List Expr) (tt : TT) (s : SE Bool) : Prop where
  pt : PTs X ifs tt
  ev : Ev X.K nob (fr zB) W tt s
def sYes : SE Bool := SE.ret true
theorem qts_nil : QTs X W [] tYes sYes := ⟨pts_nil, zb_done⟩
theorem qts_one {c : Expr} {t : TT} {s : SE Bool} (h : QT X W c t s) : QTs X W [c] t s := ⟨pts_one h.pt, h.ev⟩
theorem qm_lc {elt iter : Expr} {ifs : List Expr} {scope : Scope} {own : List (Str × Nat)} {pos : Pos} {wi : TI} {g : TG} {tt : TT} {te : TE} {si : SE (List PV)} {sg : PV → Env → Option Env} {st : SE Bool} {se : SE PV} {tl : List Nat} (hc : X.calm = true) (hN : X.N.Nodup) (hi : QI X W tg iter wi si) (ok : blkC X.N X.env.scope scope own = true)
    (hg : ∀ (s : Shared) (H : Hp) (C : Addr) (cl : List (Str × Addr)) (fp : List Addr), QG (X.blk s H scope (compEnvC scope cl C X.env) fp) tl tg g sg) (ht : ∀ (s : Shared) (H : Hp) (C : Addr) (cl : List (Str × Addr)) (fp : List Addr), QTs (X.blk s H scope (compEnvC scope cl C X.env) fp) W0 ifs tt st)
    (he : ∀ (s : Shared) (H : Hp) (C : Addr) (cl : List (Str × Addr)) (fp : List Addr), QE (X.blk s H scope (compEnvC scope cl C X.env) fp) W0 elt te se) (hsub : ∀ j ∈ tl, j ∈ own.map (·.2) := by decide) (hnd : (own.map (·.2)).Nodup := by decide)
    (hs : ∀ x, foldedSetIterable iter X.env x = pure x := by intro _; rfl) : QM X W (.ListComp elt [⟨tg, iter, ifs, 0⟩] scope pos) (tLc wi g tt te (own.map (·.2))) (sLc si sg st se (own.map (·.2))) :=
  ⟨pe_lc hc hN hi.pi (blkOk_by ok) (fun s H C cl fp => (hg s H C cl fp).pg) (fun s H C cl fp => (ht s H C cl fp).pt) (fun s H C cl fp => (he s H C cl fp).pe) hs,
    ev_lc hi.ev (hg {} nob 0 [] []).ev (ht {} nob 0 [] []).ev (he {} nob 0 [] []).ev hsub hnd⟩
theorem qs_setLc {n i : Nat} {y : Str} {py : Pos} {elt iter : Expr} {ifs : List Expr} {scope : Scope} {own : List (Str × Nat)} {pos spos : Pos} {wi : TI} {g : TG} {tt : TT} {te : TE} {si : SE (List PV)} {sg : PV → Env → Option Env} {st : SE Bool} {se : SE PV} {tl : List Nat} (hc : X.calm = true) (hN : X.N.Nodup) (hy : X.N[i]? = some y) (hyl : X.env.scope.names.lookup y = some .local) (hi : QI X W tg iter wi si) (ok : blkC X.N X.env.scope scope own = true)
    (hg : ∀ (s : Shared) (H : Hp) (C : Addr) (cl : List (Str × Addr)) (fp : List Addr), QG (X.blk s H scope (compEnvC scope cl C X.env) fp) tl tg g sg) (ht : ∀ (s : Shared) (H : Hp) (C : Addr) (cl : List (Str × Addr)) (fp : List Addr), QTs (X.blk s H scope (compEnvC scope cl C X.env) fp) W0 ifs tt st)
    (he : ∀ (s : Shared) (H : Hp) (C : Addr) (cl : List (Str × Addr)) (fp : List Addr), QE (X.blk s H scope (compEnvC scope cl C X.env) fp) W0 elt te se) (hn : n ≤ i := by decide) (hsub : ∀ j ∈ tl, j ∈ own.map (·.2) := by decide) (hnd : (own.map (·.2)).Nodup := by decide)
    (hk : X.env.scope.kind = .function := by rfl) (hl : (py.line == pos.line) = true := by rfl) (hany : (scope.names.any fun (n, k) => n == y && (k == .local || k == .cell)) = false := by rfl)
    (hs : ∀ x, foldedSetIterable iter X.env x = pure x := by intro _; rfl) : QS X n W (.Assign [.Name y py] (.ListComp elt [⟨tg, iter, ifs, 0⟩] scope pos) spos) (tAsg (tLc wi g tt te (own.map (·.2))) (gName i)) (sSet i (sLc si sg st se (own.map (·.2)))) :=
  ⟨ps_setLc hc hN hy hyl (sw_true hk hyl hl hany) hi.pi (blkOk_by ok) (fun s H C cl fp => (hg s H C cl fp).pg) (fun s H C cl fp => (ht s H C cl fp).pt) (fun s H C cl fp => (he s H C cl fp).pe) hs,
    EvS.set hn (ev_lc hi.ev (hg {} nob 0 [] []).ev (ht {} nob 0 [] []).ev (he {} nob 0 [] []).ev hsub hnd)⟩
/-- .. given away at once -/
def sSetF (i : Nat) (e : SE MV) : SE Out := sSet i (Mv.mv (Mv.vw e))
theorem qs_setLcF {n i : Nat} {y : Str} {py : Pos} {elt iter : Expr} {ifs : List Expr} {scope : Scope} {own : List (Str × Nat)} {pos spos : Pos} {wi : TI} {g : TG} {tt : TT} {te : TE} {si : SE (List PV)} {sg : PV → Env → Option Env} {st : SE Bool} {se : SE PV} {tl : List Nat} (hc : X.calm = true) (hN : X.N.Nodup) (hy : X.N[i]? = some y) (hyl : X.env.scope.names.lookup y = some .local) (hi : QI X W tg iter wi si) (ok : blkC X.N X.env.scope scope own = true)
    (hg : ∀ (s : Shared) (H : Hp) (C : Addr) (cl : List (Str × Addr)) (fp : List Addr), QG (X.blk s H scope (compEnvC scope cl C X.env) fp) tl tg g sg) (ht : ∀ (s : Shared) (H : Hp) (C : Addr) (cl : List (Str × Addr)) (fp : List Addr), QTs (X.blk s H scope (compEnvC scope cl C X.env) fp) W0 ifs tt st)
    (he : ∀ (s : Shared) (H : Hp) (C : Addr) (cl : List (Str × Addr)) (fp : List Addr), QE (X.blk s H scope (compEnvC scope cl C X.env) fp) W0 elt te se) (hn : n ≤ i := by decide) (hsub : ∀ j ∈ tl, j ∈ own.map (·.2) := by decide) (hnd : (own.map (·.2)).Nodup := by decide)
    (hk : X.env.scope.kind = .function := by rfl) (hl : (py.line == pos.line) = true := by rfl) (hany : (scope.names.any fun (n, k) => n == y && (k == .local || k == .cell)) = false := by rfl)
    (hs : ∀ x, foldedSetIterable iter X.env x = pure x := by intro _; rfl) : QS X n W (.Assign [.Name y py] (.ListComp elt [⟨tg, iter, ifs, 0⟩] scope pos) spos) (tAsg (tLc wi g tt te (own.map (·.2))) (gName i)) (sSetF i (sLc si sg st se (own.map (·.2)))) :=
  ⟨ps_setLc hc hN hy hyl (sw_true hk hyl hl hany) hi.pi (blkOk_by ok) (fun s H C cl fp => (hg s H C cl fp).pg) (fun s H C cl fp => (ht s H C cl fp).pt) (fun s H C cl fp => (he s H C cl fp).pe) hs,
    EvS.set hn (ev_lc hi.ev (hg {} nob 0 [] []).ev (ht {} nob 0 [] []).ev (he {} nob 0 [] []).ev hsub hnd).vw.mv⟩

/-! ### calls of defs -/
theorem qm_call {k np n : Nat} {f : Addr} {fd : FuncData} {ps : List Str} {x : Str} {p pos : Pos} {e : Expr} {es : List Expr} {ta : TA} {sa : SE (List Ar)} {m : List MV → RF} (F : FnG X.prog X.w X.K X.mg X.base k f fd ps (spF X.K n np m)) (hgd : X.A.guards = some []) (hr : Room k X.A) (hm : X.mg x = some (.ref f)) (hk : PySem.W.keepIn X.K (.ref f) = true) (hb : KB X.K fd ps np [] @gPos) (tk : Takes X W)
    (ha : QAr X W (e :: es) ta sa) (hla : ∀ ρ as ρ', sa ρ = .ok as ρ' → as.length = np) (hg : Gl X x := by rfl) (hdb : (x == ("__debug__" : Str)) = false := by decide) (he : starEach (e :: es) X.env = (false, eval e X.env) :: starEach es X.env := by rfl) (hpl : (backTo pos (starEach es X.env)).any (·.1) = false := by rfl) :
    QM X W (.Call (.Name x p) (e :: es) [] pos) (tCallG np 0 (spF X.K n np m) @gPos (WE W) ta tNil) (eCall m @gPos sa rNil) :=
  ⟨pe_callG F hgd hr hg hm hk hb tk ha.pa hdb he hpl, ev_call (km := 0) gOk_pos ha.ev ear_nil hla (fun ρ as ρ' h => by cases h; rfl) fun as bs h1 _ => h1⟩
theorem qm_call0 {k n : Nat} {f : Addr} {fd : FuncData} {ps : List Str} {x : Str} {p pos : Pos} {m : List MV → RF} (F : FnG X.prog X.w X.K X.mg X.base k f fd ps (spF X.K n 0 m)) (hgd : X.A.guards = some []) (hr : Room k X.A) (hm : X.mg x = some (.ref f)) (hk : PySem.W.keepIn X.K (.ref f) = true) (hb : KB X.K fd ps 0 [] @gPos) (tk : Takes X W)
    (hg : Gl X x := by rfl) (hdb : (x == ("__debug__" : Str)) = false := by decide) :
    QM X W (.Call (.Name x p) [] [] pos) (tCallG 0 0 (spF X.K n 0 m) @gPos (WE W) tNil tNil) (eCall m @gPos rNil rNil) :=
  ⟨pe_callG0 F hgd hr hg hm hk hb tk hdb, ev_call (km := 0) gOk_pos ear_nil ear_nil (fun ρ as ρ' h => by cases h; rfl) (fun ρ as ρ' h => by cases h; rfl) fun as bs h1 _ => h1⟩
theorem qm_callk {k kn np n : Nat} {f : Addr} {fd : FuncData} {ps ks : List Str} {x : Str} {p pos : Pos} {e : Expr} {es : List Expr} {kws : List Keyword} {ta tb : TA} {sa sk : SE (List Ar)} {m : List MV → RF} (idx : List Nat) (F : FnG X.prog X.w X.K X.mg X.base k f fd ps (spF X.K n np m)) (hgd : X.A.guards = some []) (hr : Room k X.A) (hm : X.mg x = some (.ref f)) (hk : PySem.W.keepIn X.K (.ref f) = true) (hb : KB X.K fd ps kn ks (fun {α} => gKw (α := α) idx)) (tk : Takes X W)
    (ha : QAr X W (e :: es) ta sa) (hkw : QKr X W kws tb sk) (hla : ∀ ρ as ρ', sa ρ = .ok as ρ' → as.length = kn) (hlk : ∀ ρ as ρ', sk ρ = .ok as ρ' → as.length = ks.length) (hlen : ∀ (as bs : List V), as.length = kn → bs.length = ks.length → (gKw idx as bs).length = np) (hg : Gl X x := by rfl)
    (hall : (backToKw pos (keywordEach kws X.env)).all (·.1.isSome) = true := by rfl) (hks : (backToKw pos (keywordEach kws X.env)).filterMap (·.1) = ks := by rfl)
    (hdb : (x == ("__debug__" : Str)) = false := by decide) (he : starEach (e :: es) X.env = (false, eval e X.env) :: starEach es X.env := by rfl)
    (hpl : ((backTo pos (starEach (e :: es) X.env)).any (·.1) || (backToKw pos (keywordEach kws X.env)).any (·.1.isNone)) = false := by rfl) :
    QM X W (.Call (.Name x p) (e :: es) kws pos) (tCallG kn ks.length (spF X.K n np m) (fun {α} => gKw (α := α) idx) (WE W) ta tb) (eCall m (fun {α} => gKw (α := α) idx) sa sk) :=
  ⟨pe_callGk F hgd hr hg hm hk hb tk ha.pa hkw.pk hall hks hdb he hpl, ev_call (gOk_kw idx) ha.ev hkw.ev hla hlk hlen⟩
theorem qm_callk0 {k np n : Nat} {f : Addr} {fd : FuncData} {ps ks : List Str} {x : Str} {p pos : Pos} {kws : List Keyword} {tb : TA} {sk : SE (List Ar)} {m : List MV → RF} (idx : List Nat) (F : FnG X.prog X.w X.K X.mg X.base k f fd ps (spF X.K n np m)) (hgd : X.A.guards = some []) (hr : Room k X.A) (hm : X.mg x = some (.ref f)) (hk : PySem.W.keepIn X.K (.ref f) = true) (hb : KB X.K fd ps 0 ks (fun {α} => gKw (α := α) idx)) (tk : Takes X W)
    (hkw : QKr X W kws tb sk) (hlk : ∀ ρ as ρ', sk ρ = .ok as ρ' → as.length = ks.length) (hlen : ∀ (as bs : List V), as.length = 0 → bs.length = ks.length → (gKw idx as bs).length = np) (hg : Gl X x := by rfl)
    (hall : (backToKw pos (keywordEach kws X.env)).all (·.1.isSome) = true := by rfl) (hks : (backToKw pos (keywordEach kws X.env)).filterMap (·.1) = ks := by rfl)
    (hdb : (x == ("__debug__" : Str)) = false := by decide)
    (hpl : ((backTo pos (starEach [] X.env)).any (·.1) || (backToKw pos (keywordEach kws X.env)).any (·.1.isNone)) = false := by rfl) :
    QM X W (.Call (.Name x p) [] kws pos) (tCallG 0 ks.length (spF X.K n np m) (fun {α} => gKw (α := α) idx) (WE W) tNil tb) (eCall m (fun {α} => gKw (α := α) idx) rNil sk) :=
  ⟨pe_callGk0 F hgd hr hg hm hk hb tk hkw.pk hall hks hdb hpl, ev_call (gOk_kw idx) ear_nil hkw.ev (fun ρ as ρ' h => by cases h; rfl) hlk hlen⟩
theorem qar_nil : QAr X W [] tNil rNil := ⟨pa_nil, ear_nil⟩
theorem qar_v {e : Expr} {es : List Expr} {te : TE} {t : TA} {se : SE PV} {sr : SE (List Ar)} (he : QE X W e te se) (hr : QAr X W es t sr) (hs : starEach (e :: es) X.env = (false, eval e X.env) :: starEach es X.env := by rfl) : QAr X W (e :: es) (tCons te t) (rV se sr) := ⟨pa_cons he.pe hr.pa hs, ear_v he.ev hr.ev⟩
theorem qar_p (i : Nat) {x : Str} {px : Pos} {es : List Expr} {t : TA} {sr : SE (List Ar)} (hr : QAr X W es t sr) (hN : X.N[i]? = some x := by rfl) (hv : Vis X.env.scope x := by first | exact Or.inl rfl | exact Or.inr (Or.inl rfl) | exact Or.inr (Or.inr rfl)) (hd : (x == ("__debug__" : Str)) = false := by decide)
    (hcd : (x == ("__classdict__" : Str)) = false := by decide) (hs : starEach (.Name x px :: es) X.env = (false, eval (.Name x px) X.env) :: starEach es X.env := by rfl) : QAr X W (.Name x px :: es) (tCons (tVar i) t) (rP i sr) := ⟨pa_cons (pe_var hN hv hd hcd) hr.pa hs, ear_p hr.ev⟩
theorem rlen_nil : ∀ ρ as ρ', rNil ρ = .ok as ρ' → as.length = 0 := fun ρ as ρ' h => by cases h; rfl
theorem rlen_v {e : SE PV} {r : SE (List Ar)} {k : Nat} (h : ∀ ρ as ρ', r ρ = .ok as ρ' → as.length = k) : ∀ ρ as ρ', rV e r ρ = .ok as ρ' → as.length = k + 1 := fun ρ ps ρ' q => by
  have e1 := bind_eq e (fun p => r.bind fun ps => SE.ret (Ar.v p :: ps)) ρ
  have q' : e.bind (fun p => r.bind fun ps => SE.ret (Ar.v p :: ps)) ρ = .ok ps ρ' := q
  rw [q'] at e1
  cases h1 : e ρ with
  | bad => rw [h1] at e1; cases e1
  | exc x ρ1 => rw [h1] at e1; cases e1
  | ok p ρ1 =>
    rw [h1] at e1
    have e2 := e1.trans (bind_eq r (fun ps => SE.ret (Ar.v p :: ps)) ρ1)
    cases h2 : r ρ1 with
    | bad => rw [h2] at e2; cases e2
    | exc x ρ1 => rw [h2] at e2; cases e2
    | ok qs ρ2 =>
      rw [h2] at e2
      cases e2
      rw [List.length_cons, h ρ1 qs ρ' h2]
theorem rlen_p {i : Nat} {r : SE (List Ar)} {k : Nat} (h : ∀ ρ as ρ', r ρ = .ok as ρ' → as.length = k) : ∀ ρ as ρ', rP i r ρ = .ok as ρ' → as.length = k + 1 := fun ρ ps ρ' q => by
  unfold rP at q
  split at q
  · have e2 := bind_eq r (fun ps => SE.ret (Ar.pl i :: ps)) ρ
    rw [q] at e2
    cases h2 : r ρ with
    | bad => rw [h2] at e2; cases e2
    | exc x ρ1 => rw [h2] at e2; cases e2
    | ok qs ρ2 =>
      rw [h2] at e2
      cases e2
      rw [List.length_cons, h ρ qs ρ' h2]
  · cases q
/-- keywords -/
theorem qkr_nil : QKr X W [] tNil rNil := ⟨pk_nil, ear_nil⟩
/-! ### a list times a number, owned -/
def eRep (a b : SE PV) : SE MV := a.bind fun p => b.bind fun q => ofO (match p with
  | .lst xs => (match q with
    | .int k => if (-(2 ^ 63) ≤ k ∧ k < 2 ^ 63) ∧ xs.length * k.toNat ≤ 16777216 then some (.ml ((List.replicate k.toNat xs).flatten.map .fz)) else none
    | _ => none)
  | _ => none)
theorem RepFs.rep {K : PySem.W.Frag} {F : Hp} {ps : List PV} {vs : List V} (h : RepFs K F ps vs) : ∀ k : Nat, RepFs K F (List.replicate k ps).flatten (List.replicate k vs).flatten
  | 0 => by simp [RepFs]
  | k + 1 => by
    rw [List.replicate_succ, List.replicate_succ, List.flatten_cons, List.flatten_cons]
    exact RepFs.append h (RepFs.rep h k)
theorem qm_rep {a b : Expr} {ta tb : TE} {sa sb : SE PV} {pos : Pos} (ha : QE X W a ta sa) (hb : QE X W b tb sb) : QM X W (.BinOp a .Mult b pos) (tOp rRep ta tb) (eRep sa sb) := by
  refine ⟨pe_op op_rep ha.pe hb.pe, ha.ev.bind fun p x B1 s1 hp => (hb.ev.le (nob_le _)).bind fun q y B2 s2 hq => Ev.ofO fun z hz => ?_⟩
  cases p with
  | lst xs =>
    cases q with
    | int k =>
      dsimp only at hz
      split at hz
      · rename_i hc
        cases hz
        rw [RepF] at hp
        obtain ⟨l, vs, rfl, e2, e3⟩ := hp
        refine ev_newM (o := .lst (List.replicate k.toNat vs).flatten) (fun c F' H' sB e => ?_) fun F H sB sF Q kk => ⟨l, k, vs, rfl, repI.mp hq, sF _ _ (sB _ _ (s2 _ _ e2)), hc.1.1, hc.1.2, by rw [e3.length, line_eq]; exact hc.2, kk⟩
        rw [RepM]
        exact ⟨c, _, [], rfl, e, rfl, RepMs.fz (RepFs.rep (RepFs.mono (s2.trans sB) _ _ e3) k.toNat)⟩
      · cases hz
    | _ => cases hz
  | _ => cases hz
end
end Mv

set_option Elab.async false
set_option linter.all false
set_option maxRecDepth 100000
set_option maxHeartbeats 4000000
namespace Mv
open PySem PySem.Spec PyProof.Rows L2

/-! ### calls of built-ins -/
section
variable {X : Cx} {W : WX} {e e2 : Expr} {t : TA} {s : SE (List PV)} {p pos : Pos}
theorem qe_len (hm : X.mg "len" = none) (ha : QA X W [e] t s) (hg : Gl X "len" := by rfl) (he : starEach [e] X.env = (false, eval e X.env) :: starEach [] X.env := by rfl) (hpl : (backTo pos (starEach [] X.env)).any (·.1) = false := by rfl) :
    QE X W (.Call (.Name "len" p) [e] [] pos) (tCB (rLenA X.K) t) (eCB (one pLen) s) := qe_callB call_len pc_len hm boot_len ha hg (by decide) (by decide) he hpl
theorem qe_abs (hm : X.mg "abs" = none) (ha : QA X W [e] t s) (hg : Gl X "abs" := by rfl) (he : starEach [e] X.env = (false, eval e X.env) :: starEach [] X.env := by rfl) (hpl : (backTo pos (starEach [] X.env)).any (·.1) = false := by rfl) :
    QE X W (.Call (.Name "abs" p) [e] [] pos) (tCB (fun xs H Q => ∃ i, xs = [.int i] ∧ Q (.int (if i < 0 then -i else i)) H) t) (eCB (one pAbs) s) := qe_callB call_abs pc_abs hm boot_abs ha hg (by decide) (by decide) he hpl
theorem qe_ord (hm : X.mg "ord" = none) (ha : QA X W [e] t s) (hg : Gl X "ord" := by rfl) (he : starEach [e] X.env = (false, eval e X.env) :: starEach [] X.env := by rfl) (hpl : (backTo pos (starEach [] X.env)).any (·.1) = false := by rfl) :
    QE X W (.Call (.Name "ord" p) [e] [] pos) (tCB (fun xs H Q => ∃ x, xs = [.str x] ∧ x.length = 1 ∧ Q (.int (x.cps.getD 0 0 : Nat)) H) t) (eCB (one pOrd) s) := qe_callB call_ord pc_ord hm boot_ord ha hg (by decide) (by decide) he hpl
theorem qe_all (hm : X.mg "all" = none) (ha : QA X W [e] t s) (hc : X.calm = true := by rfl) (hg : Gl X "all" := by rfl) (he : starEach [e] X.env = (false, eval e X.env) :: starEach [] X.env := by rfl) (hpl : (backTo pos (starEach [] X.env)).any (·.1) = false := by rfl) :
    QE X W (.Call (.Name "all" p) [e] [] pos) (tCB (rAll X.K) t) (eCB (one pAll) s) := qe_callB (cr_all hc) pc_all hm boot_all ha hg (by decide) (by decide) he hpl
theorem qe_any (hm : X.mg "any" = none) (ha : QA X W [e] t s) (hc : X.calm = true := by rfl) (hg : Gl X "any" := by rfl) (he : starEach [e] X.env = (false, eval e X.env) :: starEach [] X.env := by rfl) (hpl : (backTo pos (starEach [] X.env)).any (·.1) = false := by rfl) :
    QE X W (.Call (.Name "any" p) [e] [] pos) (tCB (rAny X.K) t) (eCB (one pAny) s) := qe_callB (cr_any hc) pc_any hm boot_any ha hg (by decide) (by decide) he hpl
theorem qe_max (hm : X.mg "max" = none) (ha : QA X W [e, e2] t s) (hc : X.calm = true := by rfl) (hg : Gl X "max" := by rfl) (he : starEach [e, e2] X.env = (false, eval e X.env) :: starEach [e2] X.env := by rfl) (hpl : (backTo pos (starEach [e2] X.env)).any (·.1) = false := by rfl) :
    QE X W (.Call (.Name "max" p) [e, e2] [] pos) (tCB (fun xs H Q => ∃ i j, xs = [.int i, .int j] ∧ Q (.int (if j > i then j else i)) H) t) (eCB (two pMax) s) := qe_callB (call_max2 hc) pc_max hm boot_max ha hg (by decide) (by decide) he hpl
theorem qe_min (hm : X.mg "min" = none) (ha : QA X W [e, e2] t s) (hc : X.calm = true := by rfl) (hg : Gl X "min" := by rfl) (he : starEach [e, e2] X.env = (false, eval e X.env) :: starEach [e2] X.env := by rfl) (hpl : (backTo pos (starEach [e2] X.env)).any (·.1) = false := by rfl) :
    QE X W (.Call (.Name "min" p) [e, e2] [] pos) (tCB (fun xs H Q => ∃ i j, xs = [.int i, .int j] ∧ Q (.int (if j < i then j else i)) H) t) (eCB (two pMin) s) := qe_callB (call_min2 hc) pc_min hm boot_min ha hg (by decide) (by decide) he hpl
theorem qe_divmod (hm : X.mg "divmod" = none) (ha : QA X W [e, e2] t s) (hg : Gl X "divmod" := by rfl) (he : starEach [e, e2] X.env = (false, eval e X.env) :: starEach [e2] X.env := by rfl) (hpl : (backTo pos (starEach [e2] X.env)).any (·.1) = false := by rfl) :
    QE X W (.Call (.Name "divmod" p) [e, e2] [] pos) (tCB (fun xs H Q => ∃ i j, xs = [.int i, .int j] ∧ CDiv i j ∧ ∀ p, H p = none → Q (.ref p) (upd H p (.tup [.int (i / j), .int (i % j)]))) t) (eCB (two pDivmod) s) := qe_callB call_divmod pc_divmod hm boot_divmod ha hg (by decide) (by decide) he hpl
theorem qe_int_of (hm : X.mg "int" = none) (ha : QA X W [e] t s) (hg : Gl X "int" := by rfl) (he : starEach [e] X.env = (false, eval e X.env) :: starEach [] X.env := by rfl) (hpl : (backTo pos (starEach [] X.env)).any (·.1) = false := by rfl) :
    QE X W (.Call (.Name "int" p) [e] [] pos) (tCB rIntA t) (eCB (one pInt) s) := qe_callT call_intA pc_int hm PyProof.Rows.boot_int ha hg (by decide) (by decide) he hpl
theorem qe_str_of (hm : X.mg "str" = none) (ha : QA X W [e] t s) (hg : Gl X "str" := by rfl) (he : starEach [e] X.env = (false, eval e X.env) :: starEach [] X.env := by rfl) (hpl : (backTo pos (starEach [] X.env)).any (·.1) = false := by rfl) :
    QE X W (.Call (.Name "str" p) [e] [] pos) (tCB (fun xs H Q => ∃ i : Int, xs = [.int i] ∧ i.natAbs.log2 < 1920 ∧ Q (.str (toString i)) H) t) (eCB (one pStr) s) := qe_callT call_str_int pc_str hm PyProof.Rows.boot_str ha hg (by decide) (by decide) he hpl
theorem qe_tuple_of (hm : X.mg "tuple" = none) (ha : QA X W [e] t s) (hg : Gl X "tuple" := by rfl) (he : starEach [e] X.env = (false, eval e X.env) :: starEach [] X.env := by rfl) (hpl : (backTo pos (starEach [] X.env)).any (·.1) = false := by rfl) :
    QE X W (.Call (.Name "tuple" p) [e] [] pos) (tCB (fun xs H Q => ∃ p ys, xs = [.ref p] ∧ ((SqL X.K H p ys ∧ ∀ l, H l = none → Q (.ref l) (upd H l (.tup ys))) ∨ (SqT X.K H p ys ∧ Q (.ref p) H))) t) (eCB (one pTuple) s) := qe_callT call_tuple_of pc_tuple hm PyProof.Rows.boot_tuple ha hg (by decide) (by decide) he hpl
theorem qe_repr (hgd : X.A.guards = some []) (hr : ∃ k, Room k X.A) (hm : X.mg "repr" = none) (ha : QA X W [e] t s) (hg : Gl X "repr" := by rfl) (he : starEach [e] X.env = (false, eval e X.env) :: starEach [] X.env := by rfl) (hpl : (backTo pos (starEach [] X.env)).any (·.1) = false := by rfl) :
    QE X W (.Call (.Name "repr" p) [e] [] pos) (tCB (rReprA X.K) t) (eCB (one pRepr) s) := qe_callB (call_reprA hgd hr) pc_repr hm PyProof.Rows.boot_repr ha hg (by decide) (by decide) he hpl
theorem qe_isi (hm : X.mg "isinstance" = none) (ha : QA X W [e, e2] t s) (hg : Gl X "isinstance" := by rfl) (he : starEach [e, e2] X.env = (false, eval e X.env) :: starEach [e2] X.env := by rfl) (hpl : (backTo pos (starEach [e2] X.env)).any (·.1) = false := by rfl) :
    QE X W (.Call (.Name "isinstance" p) [e, e2] [] pos) (tCB (rIsi X.K) t) (eCB pIsiA s) := qe_callB call_isi pc_isiA hm PyProof.Rows.boot_isinstance ha hg (by decide) (by decide) he hpl
theorem qkr_v {nm : Option Str} {kpos : Pos} {kws : List Keyword} {te : TE} {se : SE PV} {sr : SE (List Ar)} (he : QE X W e te se) (hr : QKr X W kws t sr) : QKr X W (⟨nm, e, kpos⟩ :: kws) (tCons te t) (rV se sr) := ⟨pk_cons he.pe hr.pk, ear_v he.ev hr.ev⟩
theorem qkr_p (i : Nat) {nm : Option Str} {kpos px : Pos} {x : Str} {kws : List Keyword} {sr : SE (List Ar)} (hr : QKr X W kws t sr) (hN : X.N[i]? = some x := by rfl) (hv : Vis X.env.scope x := by first | exact Or.inl rfl | exact Or.inr (Or.inl rfl) | exact Or.inr (Or.inr rfl)) (hd : (x == ("__debug__" : Str)) = false := by decide)
    (hcd : (x == ("__classdict__" : Str)) = false := by decide) : QKr X W (⟨nm, .Name x px, kpos⟩ :: kws) (tCons (tVar i) t) (rP i sr) := ⟨pk_cons (pe_var hN hv hd hcd) hr.pk, ear_p hr.ev⟩
end

/-! ### a def as calls meet it -/
def Callee (P : Program) (w : World) (base : Heap) (K : PySem.W.Frag) (mg : Str → Option Value) (x : Str) (st : Stmt) (ps : List Str) (n np k : Nat) (m : List MV → RF) : Prop :=
  ∃ f fd, FunD K x x (defArgs st) (defBody st) (defScope st) [] [] f fd ∧ mg x = some (.ref f) ∧ FnG P w K mg base k f fd ps (spF K n np m)
theorem kb_pos {K : PySem.W.Frag} {x qual : Str} {params : Arguments} {body : List Stmt} {scope : Scope} {kws : List (Str × V)} {f : Addr} {fd : FuncData} {ps : List Str} {np : Nat} (F : FunD K x qual params body scope [] kws f fd)
    (h : ∀ (kV doc pm : Value) (an : Option Addr) (cdv ct : Value) (us : List Value), us.length = np → bindArgs (PySem.W.fnOf x qual params body scope .none kV doc pm an cdv ct) ⟨us, []⟩ = pure (ps.zip us)) : KB K fd ps np [] @gPos := by
  obtain ⟨oc, od, dV, kV, doc, pm, an, cdv, ct, osl, rfl, lk, hcd, hD, hK⟩ := F.ex
  refine ⟨fun s us ws _ h1 h2 => ?_, fun h _ => h⟩
  rcases hD with ⟨_, rfl⟩ | ⟨e, _⟩
  · exact .of_eq (h kV doc pm an cdv ct us h1)
  · exact absurd rfl e
theorem gKw_vals (idx : List Nat) {vs : List V} {us : List Value} {zs : List V} {ws : List Value} (h1 : Vals vs us) (h2 : Vals zs ws) : Vals (gKw idx vs zs) (gKw idx us ws) := gOk_kw idx _ h1 h2
theorem kb_kw {K : PySem.W.Frag} {x qual : Str} {params : Arguments} {body : List Stmt} {scope : Scope} {kws : List (Str × V)} {f : Addr} {fd : FuncData} {ps ks : List Str} {kn : Nat} (idx : List Nat) (F : FunD K x qual params body scope [] kws f fd)
    (h : ∀ (kV doc pm : Value) (an : Option Addr) (cdv ct : Value) (us ws : List Value), us.length = kn → ws.length = ks.length → bindArgs (PySem.W.fnOf x qual params body scope .none kV doc pm an cdv ct) ⟨us, ks.zip ws⟩ = pure (ps.zip (gKw idx us ws))) : KB K fd ps kn ks (fun {α} => gKw (α := α) idx) := by
  obtain ⟨oc, od, dV, kV, doc, pm, an, cdv, ct, osl, rfl, lk, hcd, hD, hK⟩ := F.ex
  refine ⟨fun s us ws _ h1 h2 => ?_, fun h1 h2 => gKw_vals idx h1 h2⟩
  rcases hD with ⟨_, rfl⟩ | ⟨e, _⟩
  · exact .of_eq (h kV doc pm an cdv ct us ws h1 h2)
  · exact absurd rfl e

/-! ### the law's end -/
/-- the heap at the law's call: nothing is told but the script -/
theorem end_core {P : Program} {w : World} {K : PySem.W.Frag} {mg mb : Str → Option Value} {k : Nat} {fa a : Addr} {fd : FuncData} {x : Str} {m : List MV → RF} {s₁ : Shared} {vs : List Value} {ns : List Int} {H : Hp}
    (KX : K.In s₁.heap) (hns : s₁.heap.Ns mainGlobals mg) (hb : s₁.heap.Ns builtinsNs mb) (hbb : ∀ x : Str, x ≠ "__name__" → mb x = bootBuiltins x) (hlim : s₁.heap.NoLimit) (hg : s₁.gens = #[])
    (ha : s₁.heap.get? a = some { cls := .type "list", data := .seq vs.toArray }) (hr : Room k callerA)
    (F : ∀ base : Heap, K.In base → base.Ns mainGlobals mg → FnG P w K mg base k fa fd [x] (spF K 0 1 m)) (hbind : ∀ (s : Shared) (u : Value), BindsTo s fd ⟨[u], []⟩ [(x, u)])
    (hm : ∃ outs, m [.fz (.scr ns)] = .ok (.fz (.bl true)) outs)
    (hO : Only H) (hS : SqL K H a (ns.map V.int)) (hok : HOk P w H s₁.heap) (hA : ∀ b, H b ≠ none → b = a) (hK : H a ≠ none → K.lookup a = none) :
    codeAny (model P w) callerA (.call (.ref fa) ⟨[.ref a], []⟩) (fun r s' => r = .ok (.ret (.bool true)) ∧ OldK s₁.heap s'.heap ∧ s'.os = s₁.os ∧ AllBare s'.gens) s₁ := by
  have dictNo : ∀ {b : Addr} {o : Obj} {es : Array DictEntry} {ep : Nat}, s₁.heap.get? b = some o → o.data = .dict es ep → H b = none := fun {b o es ep} e d => by
    cases q : H b with
    | none => rfl
    | some u =>
      cases hA b (by rw [q]; simp)
      rw [ha] at e
      cases e
      exact nomatch (show Data.seq vs.toArray _ = Data.dict es ep from d)
  have nsK : ∀ {b : Addr} {m : Str → Option Value}, s₁.heap.Ns b m → (hidT s₁.heap H).Ns b m := fun {b m} z => by
    obtain ⟨o, es, ep, e, d, r⟩ := z
    exact ⟨o, es, ep, hidT_get e (dictNo e d), d, r⟩
  have inB : K.In (hidT s₁.heap H) := fun b o e => by
    refine hidT_get (KX b o e) ?_
    cases q : H b with
    | none => rfl
    | some u =>
      cases hA b (by rw [q]; simp)
      rw [hK (by rw [q]; simp)] at e
      cases e
  obtain ⟨mc, l1, l2⟩ := hlim
  have e0 : Env0 P w K mg (hidT s₁.heap H) callerA [] s₁ H := ⟨rfl, ⟨inB, nsK hns, ⟨mb, nsK hb, hbb⟩, ⟨mc, nsK l1, l2⟩⟩, fun b o e => of_hidT e, Nat.le_of_eq (hidT_size _ _), trivial, fun b hb => absurd (show b ∈ ([] : List Addr) from hb) (by simp), hok, .of_eq hg⟩
  obtain ⟨outs, hm⟩ := hm
  have nb : m [.fz (.scr ns)] ≠ .bad := fun z => by
    rw [hm] at z
    cases z
  have sp : spF K 0 1 m [.ref a] H (fun v _ => v = .bl true) fun _ _ _ => False := by
    refine ⟨rfl, [.fz (.scr ns)], H, [], ⟨Same.refl H, by simp, by simp, [], .refl _, ?_⟩, nb, fun r o e v F' H' A' f so hr nd hn g => ?_, fun y o e => ?_⟩
    · refine ⟨.ref a, [], [], [], rfl, rfl, ?_, rfl, rfl⟩
      rw [RepM, RepF]
      exact ⟨rfl, a, rfl, hS⟩
    · rw [hm] at e
      cases e
      rw [RepM] at hr
      exact repB.mp hr.2
    · rw [hm] at e
      cases e
  refine codeAny_mono ((F _ inB (nsK hns)).run callerA rfl hr [] s₁ H e0 ⟨[.ref a], []⟩ [.ref a] [.ref a] (hbind s₁ (.ref a)) (.cons rfl .nil) _ _ sp) fun r s' h => ?_
  cases r with
  | error e =>
    obtain ⟨_, _, _, _, _, _, _, _, _, _, _, _, z⟩ := h
    exact False.elim z
  | ok fl =>
    cases fl with
    | ret u =>
      obtain ⟨v, H', os, bare, un, hok', r', q⟩ := h
      cases (show v = .bl true from q)
      obtain rfl : u = Value.bool true := r'
      refine ⟨rfl, OldK.of_keep fun b o e => ?_, os, bare⟩
      cases q : H b with
      | none => exact un.keep b o e q (by intro z; exact absurd (show b ∈ ([] : List Addr) from z) (by simp)) (by simp)
      | some u =>
        rcases hO b with z | ⟨ob, xs, z⟩
        · rw [q] at z; cases z
        · have z2 := un.frzs b ob _ z
          obtain ⟨e1, _⟩ := hok b _ z
          obtain ⟨e2, _⟩ := hok' b _ z2
          rw [e] at e1; cases e1
          exact e2
    | next => exact False.elim h
    | brk => exact False.elim h
    | cont => exact False.elim h
theorem law_end {P : Program} {w : World} {K : PySem.W.Frag} {mg mb : Str → Option Value} {k : Nat} {fa a : Addr} {fd : FuncData} {x : Str} {m : List MV → RF} {s₁ : Shared} {vs : List Value} {ns : List Int}
    (KX : K.In s₁.heap) (hns : s₁.heap.Ns mainGlobals mg) (hb : s₁.heap.Ns builtinsNs mb) (hbb : ∀ x : Str, x ≠ "__name__" → mb x = bootBuiltins x) (hlim : s₁.heap.NoLimit) (hg : s₁.gens = #[])
    (ha : s₁.heap.get? a = some { cls := .type "list", data := .seq vs.toArray }) (hi : IntsAre vs ns) (hl : ns.length ≤ sizeLine) (hr : Room k callerA)
    (F : ∀ base : Heap, K.In base → base.Ns mainGlobals mg → FnG P w K mg base k fa fd [x] (spF K 0 1 m)) (hbind : ∀ (s : Shared) (u : Value), BindsTo s fd ⟨[u], []⟩ [(x, u)])
    (hm : ∃ outs, m [.fz (.scr ns)] = .ok (.fz (.bl true)) outs) :
    codeAny (model P w) callerA (.call (.ref fa) ⟨[.ref a], []⟩) (fun r s' => r = .ok (.ret (.bool true)) ∧ OldK s₁.heap s'.heap ∧ s'.os = s₁.os ∧ AllBare s'.gens) s₁ := by
  have rv := vals_ints hi
  have lv := hi.length
  cases hk : K.lookup a with
  | some o =>
    have e := KX a o hk
    rw [ha] at e
    cases e
    exact end_core (H := fun _ => none) KX hns hb hbb hlim hg ha hr F hbind hm (fun _ => .inl rfl) (.inr ⟨_, vs.toArray, _, hk, rfl, rfl, rfl, by rw [List.size_toArray, lv]; exact hl, by simpa using rv⟩) (fun b u z => nomatch (show (none : Option HO) = some u from z)) (fun b z => absurd rfl z) fun z => absurd rfl z
  | none =>
    have self : ∀ b u, (if b = a then some (HO.frz { cls := .type "list", data := .seq vs.toArray } (.lst (ns.map V.int))) else none) = some u → b = a ∧ u = .frz { cls := .type "list", data := .seq vs.toArray } (.lst (ns.map V.int)) := fun b u z => by
      split at z
      · rename_i h
        cases z
        exact ⟨h, rfl⟩
      · cases z
    refine end_core (H := fun b => if b = a then some (.frz { cls := .type "list", data := .seq vs.toArray } (.lst (ns.map V.int))) else none) KX hns hb hbb hlim hg ha hr F hbind hm (fun b => ?_) (.inl (.inr ⟨{ cls := .type "list", data := .seq vs.toArray }, if_pos rfl⟩)) (fun b u z => ?_) (fun b z => ?_) fun _ => hk
    · by_cases hb : b = a
      · exact .inr ⟨_, _, if_pos hb⟩
      · exact .inl (if_neg hb)
    · obtain ⟨rfl, rfl⟩ := self b u z
      exact ⟨ha, by rw [List.length_map]; exact hl, vs, _, rv, ha⟩
    · cases q : (if b = a then some (HO.frz { cls := .type "list", data := .seq vs.toArray } (.lst (ns.map V.int))) else none) with
      | none => exact absurd q z
      | some u => exact (self b u q).1
theorem walkG {l : PySem.W.OpenLaw} {n k : Nat} {q : Program} {loose : List Str} {XP : (Str → Option Value) → Heap → Prop} {YP : World → Heap → Prop} {d : DefRec} {x : Str}
    (hn : l.most = some n) (hn2 : n ≤ sizeLine) (hdf : d.params.defaults = []) (hr : Room k callerA)
    (F : ∀ (w : World) (mg : Str → Option Value) (fa : Addr) (h : Heap), YP w h → h.Ns mainGlobals mg → mg d.name = some (.ref fa) →
      ∃ (K : PySem.W.Frag) (fd : FuncData) (m : List MV → RF), K.In h ∧ (∀ (s : Shared) (u : Value), BindsTo s fd ⟨[u], []⟩ [(x, u)]) ∧
        (∀ ns : List Int, ns.length ≤ n → ∃ outs, m [.fz (.scr ns)] = .ok (.fz (.bl true)) outs) ∧
        ∀ base : Heap, K.In base → base.Ns mainGlobals mg → FnG l.prog w K mg base k fa fd [x] (spF K 0 1 m)) :
    PySem.W.WalkO q loose XP YP l.row.toRowW d [] (fun f vs => PySem.call f vs) := by
  refine Att.attach_call hn hdf fun w s₀ s₁ mg mb fa o pm cd doc a vs ns G Y ho hd hcd hmg hobj hints hlen hg => ?_
  obtain ⟨K, fd, m, KX, hb, hm, hF⟩ := F w mg fa _ Y G.T.g hmg
  exact law_end KX G.T.g G.T.b G.T.builtins G.T.nolimit hg hobj hints (Nat.le_trans hlen hn2) hr hF hb (hm ns hlen)
end Mv

set_option Elab.async false
set_option linter.all false
set_option maxRecDepth 100000
set_option maxHeartbeats 4000000
namespace Mv
open PySem PySem.Spec PyProof.Rows L2
theorem qg_ix2 {X : Cx} {W : WX} {pos : Pos} (i : Nat) {x : Str} {ix : Expr} {ti : TE} {si : SE PV} {px : Pos} (hx : QE X W ix ti si) (hN : X.N[i]? = some x := by rfl) (hv : Vis X.env.scope x := by first | exact Or.inl rfl | exact Or.inr (Or.inl rfl) | exact Or.inr (Or.inr rfl)) (hd : (x == ("__debug__" : Str)) = false := by decide)
    (hcd : (x == ("__classdict__" : Str)) = false := by decide)
    (ha : ∀ v, assign (.Subscript (.Name x px) ix pos) X.env v = (do
      let o ← holding [v] (eval (.Name x px) X.env)
      let k ← holding [v, o] (eval ix X.env)
      standAt pos
      holding [v, o, k] (setItem o k v)
      release [v, o, k] []) := by intro _; rfl) : QG X [] (.Subscript (.Name x px) ix pos) (gSub (tVar i) ti rSetL) (gIxL i si) := qg_ix i hx hN hv hd hcd (pg_sub (pe_var hN hv hd hcd) hx.pe set_list ha)

/-! ### the same rules, the written part by its name -/
section
variable {X : Cx} {K : PySem.W.Frag} {W : WX} {a b : Expr} {ta tb : TE} {sa sb : SE PV} {pos p : Pos} {t : TA} {s : SE (List PV)} {e e2 tg : Expr}
theorem ke_add (ha : QE X W a ta sa) (hb : QE X W b tb sb) (hK : X.K = K := by rfl) : QE X W (.BinOp a .Add b pos) (tOp (rAddA K) ta tb) (eOp pAdd sa sb) := hK ▸ qe_add ha hb
theorem kq_eq (hr : ∃ k, Room k X.A) (hK : X.K = K := by rfl) : CmpQ X .Eq (rEqA K) pEq := hK ▸ cq_eq hr
theorem kq_ne (hr : ∃ k, Room k X.A) (hK : X.K = K := by rfl) : CmpQ X .NotEq (rNeA K) pNe := hK ▸ cq_ne hr
theorem kq_in (hr : ∃ k, Room k X.A) (hK : X.K = K := by rfl) : CmpQ X .In (rInA K) pIn := hK ▸ cq_in hr
theorem kq_notin (hr : ∃ k, Room k X.A) (hK : X.K = K := by rfl) : CmpQ X .NotIn (rNotInA K) pNotIn := hK ▸ cq_notin hr
theorem ke_ix (ha : QE X W a ta sa) (hb : QE X W b tb sb) (hs : PlainIx b := by exact fun _ _ => rfl) (hK : X.K = K := by rfl) : QE X W (.Subscript a b pos) (tOp (rIx K) ta tb) (eOp pIx sa sb) := hK ▸ qe_ix ha hb hs
theorem ke_sl {lo hi : Option Expr} {tl th : TO} {sl sh : SE (Option Int)} {p2 : Pos} (ha : QE X W a ta sa) (hl : QO X W lo tl sl) (hh : QO X W hi th sh) (hK : X.K = K := by rfl) : QE X W (.Subscript a (.Slice lo hi none p2) pos) (tSl (rSlX K) ta tl th) (eSl sa sl sh) := hK ▸ qe_sl ha hl hh
theorem ke_len (hm : X.mg "len" = none) (ha : QA X W [e] t s) (hK : X.K = K := by rfl) (hg : Gl X "len" := by rfl) (he : starEach [e] X.env = (false, eval e X.env) :: starEach [] X.env := by rfl) (hpl : (backTo pos (starEach [] X.env)).any (·.1) = false := by rfl) : QE X W (.Call (.Name "len" p) [e] [] pos) (tCB (rLenA K) t) (eCB (one pLen) s) := hK ▸ qe_len hm ha hg he hpl
theorem ke_all (hm : X.mg "all" = none) (ha : QA X W [e] t s) (hK : X.K = K := by rfl) (hc : X.calm = true := by rfl) (hg : Gl X "all" := by rfl) (he : starEach [e] X.env = (false, eval e X.env) :: starEach [] X.env := by rfl) (hpl : (backTo pos (starEach [] X.env)).any (·.1) = false := by rfl) : QE X W (.Call (.Name "all" p) [e] [] pos) (tCB (rAll K) t) (eCB (one pAll) s) := hK ▸ qe_all hm ha hc hg he hpl
theorem ke_any (hm : X.mg "any" = none) (ha : QA X W [e] t s) (hK : X.K = K := by rfl) (hc : X.calm = true := by rfl) (hg : Gl X "any" := by rfl) (he : starEach [e] X.env = (false, eval e X.env) :: starEach [] X.env := by rfl) (hpl : (backTo pos (starEach [] X.env)).any (·.1) = false := by rfl) : QE X W (.Call (.Name "any" p) [e] [] pos) (tCB (rAny K) t) (eCB (one pAny) s) := hK ▸ qe_any hm ha hc hg he hpl
theorem ke_repr (hgd : X.A.guards = some []) (hr : ∃ k, Room k X.A) (hm : X.mg "repr" = none) (ha : QA X W [e] t s) (hK : X.K = K := by rfl) (hg : Gl X "repr" := by rfl) (he : starEach [e] X.env = (false, eval e X.env) :: starEach [] X.env := by rfl) (hpl : (backTo pos (starEach [] X.env)).any (·.1) = false := by rfl) : QE X W (.Call (.Name "repr" p) [e] [] pos) (tCB (rReprA K) t) (eCB (one pRepr) s) := hK ▸ qe_repr hgd hr hm ha hg he hpl
theorem ke_isi (hm : X.mg "isinstance" = none) (ha : QA X W [e, e2] t s) (hK : X.K = K := by rfl) (hg : Gl X "isinstance" := by rfl) (he : starEach [e, e2] X.env = (false, eval e X.env) :: starEach [e2] X.env := by rfl) (hpl : (backTo pos (starEach [e2] X.env)).any (·.1) = false := by rfl) : QE X W (.Call (.Name "isinstance" p) [e, e2] [] pos) (tCB (rIsi K) t) (eCB pIsiA s) := hK ▸ qe_isi hm ha hg he hpl
theorem ke_tuple_of (hm : X.mg "tuple" = none) (ha : QA X W [e] t s) (hK : X.K = K := by rfl) (hg : Gl X "tuple" := by rfl) (he : starEach [e] X.env = (false, eval e X.env) :: starEach [] X.env := by rfl) (hpl : (backTo pos (starEach [] X.env)).any (·.1) = false := by rfl) :
    QE X W (.Call (.Name "tuple" p) [e] [] pos) (tCB (fun xs H Q => ∃ p ys, xs = [.ref p] ∧ ((SqL K H p ys ∧ ∀ l, H l = none → Q (.ref l) (upd H l (.tup ys))) ∨ (SqT K H p ys ∧ Q (.ref p) H))) t) (eCB (one pTuple) s) := hK ▸ qe_tuple_of hm ha hg he hpl
theorem ke_join {apos : Pos} (ha : QE X W a ta sa) (hb : QE X W b tb sb) (hK : X.K = K := by rfl) (hs : starEach [b] X.env = [(false, eval b X.env)] := by rfl) (hbase : attributeBase a "join" X.env (eval a X.env) = eval a X.env := by rfl) (hline : (apos.endLine == pos.line) = true := by rfl) :
    QE X W (.Call (.Attribute a "join" apos) [b] [] pos) (tM1 (fun x xs H Q => ∃ a p, ∃ ys : List Str, x = .str a ∧ xs = [.ref p] ∧ (SqL K H p (ys.map V.str) ∨ SqT K H p (ys.map V.str)) ∧ (ys.map (·.length)).sum + ys.length * a.length ≤ 16777216 ∧ Q (.str (Txt.join a ys)) H) ta tb) (eM1 pJoin sa sb) := hK ▸ qe_join ha hb hs hbase hline
theorem ki_any {te : TE} {u : SE PV} (he : QE X W e te u) (hK : X.K = K := by rfl) : QI X W tg e (iAny K te) (sIt u) := hK ▸ qi_any he
theorem ki_zip {tpos : Pos} {elts : List Expr} {kk : Nat} (ha : QA X W [e, e2] t s) (hm : X.mg "zip" = none) (hK : X.K = K := by rfl) (hg : Gl X "zip" := by rfl) (hs : starEach [e, e2] X.env = (false, eval e X.env) :: starEach [e2] X.env := by rfl) (hpl : (backTo pos (starEach [e2] X.env)).any (·.1) = false := by rfl) :
    QI X W (.Tuple elts kk tpos) (.Call (.Name "zip" p) [e, e2] [] pos) (RZ.iZipA K t) (sZip s) := hK ▸ qi_zip ha hm hg hs hpl
theorem ki_enum {tpos : Pos} {elts : List Expr} {kk : Nat} (ha : QA X W [e] t s) (hm : X.mg "enumerate" = none) (hK : X.K = K := by rfl) (hg : Gl X "enumerate" := by rfl) (hs : starEach [e] X.env = [(false, eval e X.env)] := by rfl) :
    QI X W (.Tuple elts kk tpos) (.Call (.Name "enumerate" p) [e] [] pos) (iEnA K t) (sEnum s) := hK ▸ qi_enum ha hm hg hs
theorem kt_tru (ha : QE X W a ta sa) (hK : X.K = K := by rfl) (he : ∀ whole, isTrue a X.env whole = (do let v ← whole; standAt a.pos; holding [v] (truthy v)) := by intro _; rfl) : QT X W a (fun σ H Q => ta σ H fun x H' => ∃ k, TruV K x H' k ∧ Q k H') (eTru sa) := hK ▸ qt_tru ha he
theorem kg_tup {es : List Expr} {k : Nat} {t : TGs} {m : Nat} {r : List PV → Env → Option Env} {tl : List Nat} (hc : X.calm = true) (h : QGs X tl es t r) (hK : X.K = K := by rfl)
    (hn : (assignEach es X.env).length = m := by rfl) (hst : (assignEach es X.env).findIdx? (·.1) = none := by rfl) : QG X tl (.Tuple es k pos) (gTup K m t) (gTp m r) := hK ▸ qg_tup hc h hn hst
end
section
variable {X : Cx} {K : PySem.W.Frag} {mg : Str → Option Value} {P : Program} {w : World} {base : Heap} {W : WX}
theorem km_call {k np n : Nat} {f : Addr} {fd : FuncData} {ps : List Str} {x : Str} {p pos : Pos} {e : Expr} {es : List Expr} {ta : TA} {sa : SE (List Ar)} {m : List MV → RF} (F : FnG P w K mg base k f fd ps (spF K n np m)) (hgd : X.A.guards = some []) (hr : Room k X.A) (hm : mg x = some (.ref f)) (hk : PySem.W.keepIn K (.ref f) = true) (hb : KB K fd ps np [] @gPos) (tk : Takes X W)
    (ha : QAr X W (e :: es) ta sa) (hla : ∀ ρ as ρ', sa ρ = .ok as ρ' → as.length = np) (hX : X.prog = P ∧ X.w = w ∧ X.K = K ∧ X.mg = mg ∧ X.base = base := by exact ⟨rfl, rfl, rfl, rfl, rfl⟩) (hg : Gl X x := by rfl) (hdb : (x == ("__debug__" : Str)) = false := by decide) (he : starEach (e :: es) X.env = (false, eval e X.env) :: starEach es X.env := by rfl) (hpl : (backTo pos (starEach es X.env)).any (·.1) = false := by rfl) :
    QM X W (.Call (.Name x p) (e :: es) [] pos) (tCallG np 0 (spF K n np m) @gPos (WE W) ta tNil) (eCall m @gPos sa rNil) := by
  obtain ⟨rfl, rfl, rfl, rfl, rfl⟩ := hX
  exact qm_call F hgd hr hm hk hb tk ha hla hg hdb he hpl
theorem km_call0 {k n : Nat} {f : Addr} {fd : FuncData} {ps : List Str} {x : Str} {p pos : Pos} {m : List MV → RF} (F : FnG P w K mg base k f fd ps (spF K n 0 m)) (hgd : X.A.guards = some []) (hr : Room k X.A) (hm : mg x = some (.ref f)) (hk : PySem.W.keepIn K (.ref f) = true) (hb : KB K fd ps 0 [] @gPos) (tk : Takes X W)
    (hX : X.prog = P ∧ X.w = w ∧ X.K = K ∧ X.mg = mg ∧ X.base = base := by exact ⟨rfl, rfl, rfl, rfl, rfl⟩) (hg : Gl X x := by rfl) (hdb : (x == ("__debug__" : Str)) = false := by decide) :
    QM X W (.Call (.Name x p) [] [] pos) (tCallG 0 0 (spF K n 0 m) @gPos (WE W) tNil tNil) (eCall m @gPos rNil rNil) := by
  obtain ⟨rfl, rfl, rfl, rfl, rfl⟩ := hX
  exact qm_call0 F hgd hr hm hk hb tk hg hdb
theorem km_callk {k kn np n : Nat} {f : Addr} {fd : FuncData} {ps ks : List Str} {x : Str} {p pos : Pos} {e : Expr} {es : List Expr} {kws : List Keyword} {ta tb : TA} {sa sk : SE (List Ar)} {m : List MV → RF} (idx : List Nat) (F : FnG P w K mg base k f fd ps (spF K n np m)) (hgd : X.A.guards = some []) (hr : Room k X.A) (hm : mg x = some (.ref f)) (hk : PySem.W.keepIn K (.ref f) = true) (hb : KB K fd ps kn ks (fun {α} => gKw (α := α) idx)) (tk : Takes X W)
    (ha : QAr X W (e :: es) ta sa) (hkw : QKr X W kws tb sk) (hla : ∀ ρ as ρ', sa ρ = .ok as ρ' → as.length = kn) (hlk : ∀ ρ as ρ', sk ρ = .ok as ρ' → as.length = ks.length) (hlen : ∀ (as bs : List V), as.length = kn → bs.length = ks.length → (gKw idx as bs).length = np) (hX : X.prog = P ∧ X.w = w ∧ X.K = K ∧ X.mg = mg ∧ X.base = base := by exact ⟨rfl, rfl, rfl, rfl, rfl⟩) (hg : Gl X x := by rfl)
    (hall : (backToKw pos (keywordEach kws X.env)).all (·.1.isSome) = true := by rfl) (hks : (backToKw pos (keywordEach kws X.env)).filterMap (·.1) = ks := by rfl)
    (hdb : (x == ("__debug__" : Str)) = false := by decide) (he : starEach (e :: es) X.env = (false, eval e X.env) :: starEach es X.env := by rfl)
    (hpl : ((backTo pos (starEach (e :: es) X.env)).any (·.1) || (backToKw pos (keywordEach kws X.env)).any (·.1.isNone)) = false := by rfl) :
    QM X W (.Call (.Name x p) (e :: es) kws pos) (tCallG kn ks.length (spF K n np m) (fun {α} => gKw (α := α) idx) (WE W) ta tb) (eCall m (fun {α} => gKw (α := α) idx) sa sk) := by
  obtain ⟨rfl, rfl, rfl, rfl, rfl⟩ := hX
  exact qm_callk idx F hgd hr hm hk hb tk ha hkw hla hlk hlen hg hall hks hdb he hpl
theorem km_callk0 {k np n : Nat} {f : Addr} {fd : FuncData} {ps ks : List Str} {x : Str} {p pos : Pos} {kws : List Keyword} {tb : TA} {sk : SE (List Ar)} {m : List MV → RF} (idx : List Nat) (F : FnG P w K mg base k f fd ps (spF K n np m)) (hgd : X.A.guards = some []) (hr : Room k X.A) (hm : mg x = some (.ref f)) (hk : PySem.W.keepIn K (.ref f) = true) (hb : KB K fd ps 0 ks (fun {α} => gKw (α := α) idx)) (tk : Takes X W)
    (hkw : QKr X W kws tb sk) (hlk : ∀ ρ as ρ', sk ρ = .ok as ρ' → as.length = ks.length) (hlen : ∀ (as bs : List V), as.length = 0 → bs.length = ks.length → (gKw idx as bs).length = np) (hX : X.prog = P ∧ X.w = w ∧ X.K = K ∧ X.mg = mg ∧ X.base = base := by exact ⟨rfl, rfl, rfl, rfl, rfl⟩) (hg : Gl X x := by rfl)
    (hall : (backToKw pos (keywordEach kws X.env)).all (·.1.isSome) = true := by rfl) (hks : (backToKw pos (keywordEach kws X.env)).filterMap (·.1) = ks := by rfl)
    (hdb : (x == ("__debug__" : Str)) = false := by decide)
    (hpl : ((backTo pos (starEach [] X.env)).any (·.1) || (backToKw pos (keywordEach kws X.env)).any (·.1.isNone)) = false := by rfl) :
    QM X W (.Call (.Name x p) [] kws pos) (tCallG 0 ks.length (spF K n np m) (fun {α} => gKw (α := α) idx) (WE W) tNil tb) (eCall m (fun {α} => gKw (α := α) idx) rNil sk) := by
  obtain ⟨rfl, rfl, rfl, rfl, rfl⟩ := hX
  exact qm_callk0 idx F hgd hr hm hk hb tk hkw hlk hlen hg hall hks hdb hpl
end
end Mv

set_option Elab.async false
set_option linter.all false
set_option maxRecDepth 100000
namespace Mv
open PySem PySem.Spec PyProof.Rows L2
theorem funD_inj {K : PySem.W.Frag} {x qual : Str} {params : Arguments} {body : List Stmt} {scope : Scope} {dvs : List V} {kws : List (Str × V)} {f : Addr} {fd fd' : FuncData} (D : FunD K x qual params body scope dvs kws f fd) (D' : FunD K x qual params body scope dvs kws f fd') : fd = fd' := by
  obtain ⟨_, _, _, _, _, _, _, _, _, _, _, lk, _⟩ := D.ex
  obtain ⟨_, _, _, _, _, _, _, _, _, _, _, lk', _⟩ := D'.ex
  rw [lk] at lk'
  injection lk' with q
  injection q with _ _ q _
  injection q
end Mv

set_option Elab.async false
set_option linter.all false
set_option maxRecDepth 100000
set_option maxHeartbeats 4000000
/-! Plain laws of the plain functions: how they are worked out. -/
namespace Mv
open PySem PySem.Spec PyProof.Rows L2
def R.th {α β : Type} (r : R α) (k : α → Env → R β) : R β := match r with
  | .ok a ρ => k a ρ
  | .exc x ρ => .exc x ρ
  | .bad => .bad
/-- the same, an exception is bad -/
def R.tb {α β : Type} (r : R α) (k : α → R β) : R β := match r with
  | .ok a _ => k a
  | .exc _ _ => .bad
  | .bad => .bad
def R.opt {α β : Type} (r : R α) (k : α → Env → Option β) : Option β := match r with
  | .ok a ρ => k a ρ
  | .exc _ _ => none
  | .bad => none
/-- an option's value, else bad -/
def oth {α β : Type} (o : Option α) (k : α → R β) : R β := match o with
  | some a => k a
  | none => .bad
/-- behind a statement that ends as it should -/
def nxt (r : R Out) (k : Env → R Out) : R Out := match r with
  | .ok .nx ρ => k ρ
  | r => r
section
variable {α β : Type} {ρ : Env}
@[simp] theorem th_ok (a : α) (k : α → Env → R β) : (R.ok a ρ).th k = k a ρ := rfl
@[simp] theorem th_exc (x : PX) (k : α → Env → R β) : (R.exc x ρ : R α).th k = .exc x ρ := rfl
@[simp] theorem th_bad (k : α → Env → R β) : (R.bad : R α).th k = .bad := rfl
@[simp] theorem tb_ok (a : α) (k : α → R β) : (R.ok a ρ).tb k = k a := rfl
@[simp] theorem opt_ok (a : α) (k : α → Env → Option β) : (R.ok a ρ).opt k = k a ρ := rfl
@[simp] theorem oth_some (a : α) (k : α → R β) : oth (some a) k = k a := rfl
@[simp] theorem oth_none (k : α → R β) : oth none k = .bad := rfl
@[simp] theorem nxt_nx (k : Env → R Out) : nxt (.ok .nx ρ) k = k ρ := rfl
@[simp] theorem nxt_rt (m : MV) (k : Env → R Out) : nxt (.ok (.rt m) ρ) k = .ok (.rt m) ρ := rfl
@[simp] theorem nxt_bk (k : Env → R Out) : nxt (.ok .bk ρ) k = .ok .bk ρ := rfl
@[simp] theorem nxt_ct (k : Env → R Out) : nxt (.ok .ct ρ) k = .ok .ct ρ := rfl
@[simp] theorem nxt_exc (x : PX) (k : Env → R Out) : nxt (.exc x ρ) k = .exc x ρ := rfl
@[simp] theorem nxt_bad (k : Env → R Out) : nxt .bad k = .bad := rfl
@[simp] theorem bind_ap (s : SE α) (k : α → SE β) : s.bind k ρ = (s ρ).th fun a ρ1 => k a ρ1 := by
  unfold SE.bind
  cases s ρ <;> rfl
@[simp] theorem ret_ap (a : α) : SE.ret a ρ = .ok a ρ := rfl
@[simp] theorem ofO_some (a : α) : ofO (some a) ρ = .ok a ρ := rfl
@[simp] theorem ofO_none : ofO (none : Option α) ρ = .bad := rfl
/-- the slot's value -/
def slotF (o : Option (Option MV)) : Option PV := match o with
  | some (some (.fz p)) => some p
  | _ => none
@[simp] theorem slotF_fz (p : PV) : slotF (some (some (.fz p))) = some p := rfl
@[simp] theorem eVar_ap (i : Nat) : eVar i ρ = oth (slotF ρ[i]?) fun p => .ok p ρ := by
  unfold eVar
  cases ρ[i]? with
  | none => rfl
  | some o => cases o with
    | none => rfl
    | some m => cases m <;> rfl
def slotM (o : Option (Option MV)) : Option MV := match o with
  | some (some m) => some m
  | _ => none
@[simp] theorem slotM_some (m : MV) : slotM (some (some m)) = some m := rfl
@[simp] theorem slotM_none : slotM (some none) = none := rfl
@[simp] theorem eMove_ap (i : Nat) : eMove i ρ = oth (slotM ρ[i]?) fun m => .ok m (ρ.set i none) := by
  unfold eMove
  cases ρ[i]? with
  | none => rfl
  | some o => cases o <;> rfl
@[simp] theorem eOp_ap (f : PV → PV → Option PV) (a b : SE PV) : eOp f a b ρ = (a ρ).th fun p ρ1 => (b ρ1).th fun q ρ2 => ofO (f p q) ρ2 := by simp [eOp]
@[simp] theorem vw_ap (s : SE MV) : vw s ρ = (s ρ).th fun a ρ' => .ok a.view ρ' := by simp [vw]
@[simp] theorem mv_ap (s : SE PV) : Mv.mv s ρ = (s ρ).th fun a ρ' => .ok (.fz a) ρ' := by simp [Mv.mv]
@[simp] theorem aNil_ap : aNil ρ = .ok [] ρ := rfl
@[simp] theorem aCons_ap (e : SE PV) (r : SE (List PV)) : aCons e r ρ = (e ρ).th fun p ρ1 => (r ρ1).th fun ps ρ2 => .ok (p :: ps) ρ2 := by simp [aCons]
@[simp] theorem mNil_ap : mNil ρ = .ok [] ρ := rfl
@[simp] theorem mCons_ap (e : SE MV) (r : SE (List MV)) : mCons e r ρ = (e ρ).th fun p ρ1 => (r ρ1).th fun ps ρ2 => .ok (p :: ps) ρ2 := by simp [mCons]
@[simp] theorem eCB_ap (f : List PV → Option PV) (s : SE (List PV)) : eCB f s ρ = (s ρ).th fun ps ρ1 => ofO (f ps) ρ1 := by simp [eCB]
@[simp] theorem one_ap (f : PV → Option PV) (p : PV) : one f [p] = f p := rfl
@[simp] theorem two_ap (f : PV → PV → Option PV) (p q : PV) : two f [p, q] = f p q := rfl
@[simp] theorem eLst_ap (s : SE (List PV)) : eLst s ρ = (s ρ).th fun ps ρ1 => if ps.length ≤ 16777216 then .ok (MV.ml (ps.map .fz)) ρ1 else .bad := by
  simp only [eLst, bind_ap]
  congr 1
  funext ps ρ1
  split <;> rfl
@[simp] theorem eTup_ap (s : SE (List PV)) : eTup s ρ = (s ρ).th fun ps ρ1 => if ps.length ≤ 16777216 then .ok (PV.tup ps) ρ1 else .bad := by
  simp only [eTup, bind_ap]
  congr 1
  funext ps ρ1
  split <;> rfl
@[simp] theorem eNo_ap : eNo ρ = .ok none ρ := rfl
@[simp] theorem ePart_ap (s : SE PV) : ePart s ρ = (s ρ).th fun p ρ1 => oth (asI p) fun i => .ok (some i) ρ1 := by
  simp only [ePart, bind_ap]
  congr 1
  funext p ρ1
  cases p <;> rfl
@[simp] theorem eSl_ap (s : SE PV) (lo hi : SE (Option Int)) : eSl s lo hi ρ = (s ρ).th fun p ρ1 => (lo ρ1).th fun l ρ2 => (hi ρ2).th fun h ρ3 => ofO (pSl p l h) ρ3 := by simp [eSl]
@[simp] theorem eUn_ap (f : PV → Option PV) (s : SE PV) : eUn f s ρ = (s ρ).th fun p ρ1 => ofO (f p) ρ1 := by simp [eUn]
@[simp] theorem eBool_ap (s : SE PV) : eBool s ρ = (s ρ).th fun p ρ1 => ofO (asB p) ρ1 := by simp [eBool]
@[simp] theorem asB_bl (b : Bool) : asB (.bl b) = some b := rfl
@[simp] theorem eTru_ap (s : SE PV) : eTru s ρ = (s ρ).th fun p ρ1 => ofO (pTru p) ρ1 := by simp [eTru]
@[simp] theorem pTru_bl (b : Bool) : pTru (.bl b) = some b := rfl
@[simp] theorem eChain_ap (f g : PV → PV → Option PV) (a b c : SE PV) : eChain f g a b c ρ = (a ρ).th fun p ρ1 => (b ρ1).th fun q ρ2 => oth ((f p q).bind asB) fun k => if k = true then (c ρ2).th fun u ρ3 => ofO (g q u) ρ3 else .ok (.bl false) ρ2 := by
  simp only [eChain, bind_ap]
  congr 1
  funext p ρ1
  congr 1
  funext q ρ2
  cases (f p q).bind asB with
  | none => rfl
  | some k => cases k <;> simp
@[simp] theorem sAnd_ap (s t : SE Bool) : sAnd s t ρ = (s ρ).th fun k ρ1 => if k = true then t ρ1 else .ok false ρ1 := by
  simp only [sAnd, bind_ap]
  congr 1
  funext k ρ1
  cases k <;> rfl
@[simp] theorem sOr_ap (s t : SE Bool) : sOr s t ρ = (s ρ).th fun k ρ1 => if k = true then .ok true ρ1 else t ρ1 := by
  simp only [sOr, bind_ap]
  congr 1
  funext k ρ1
  cases k <;> rfl
@[simp] theorem sNot_ap (s : SE Bool) : sNot s ρ = (s ρ).th fun k ρ1 => .ok (!k) ρ1 := by simp [sNot]
@[simp] theorem eAnd_ap (s t : SE PV) : eAnd s t ρ = (eBool s ρ).th fun k ρ1 => if k = true then t ρ1 else .ok (.bl false) ρ1 := by
  simp only [eAnd, bind_ap]
  congr 1
  funext k ρ1
  cases k <;> rfl
@[simp] theorem eOr_ap (s t : SE PV) : eOr s t ρ = (eBool s ρ).th fun k ρ1 => if k = true then .ok (.bl true) ρ1 else t ρ1 := by
  simp only [eOr, bind_ap]
  congr 1
  funext k ρ1
  cases k <;> rfl
@[simp] theorem eNot_ap (s : SE PV) : eNot s ρ = (eBool s ρ).th fun k ρ1 => .ok (.bl (!k)) ρ1 := by simp [eNot]
@[simp] theorem eIf_ap (t : SE Bool) (s u : SE PV) : eIf t s u ρ = (t ρ).th fun k ρ1 => if k = true then s ρ1 else u ρ1 := by
  simp only [eIf, bind_ap]
  congr 1
  funext k ρ1
  cases k <;> rfl
def asS (p : PV) : Option Tx := match p with
  | .str z => some z
  | _ => none
@[simp] theorem asS_str (z : Tx) : asS (.str z) = some z := rfl
@[simp] theorem eM1_ap (f : PV → PV → Option PV) (s u : SE PV) : eM1 f s u ρ = (s ρ).th fun p ρ1 => oth (asS p) fun z => (u ρ1).th fun q ρ2 => ofO (f (.str z) q) ρ2 := by
  simp only [eM1, bind_ap]
  congr 1
  funext p ρ1
  cases p <;> first | rfl | simp
@[simp] theorem eScope_ap (s : SE PV) : eScope s ρ = (s (fzAll ρ)).tb fun p => if flat p = true then .ok p ρ else .bad := by
  unfold eScope
  cases s (fzAll ρ) <;> rfl
@[simp] theorem tScope_ap (s : SE Bool) : tScope s ρ = (s (fzAll ρ)).tb fun b => .ok b ρ := by
  unfold tScope
  cases s (fzAll ρ) <;> rfl
@[simp] theorem fzAll_nil : fzAll [] = [] := rfl
@[simp] theorem fzAll_none (r : Env) : fzAll (none :: r) = none :: fzAll r := rfl
@[simp] theorem fzAll_some (m : MV) (r : Env) : fzAll (some m :: r) = some (.fz m.view) :: fzAll r := rfl
@[simp] theorem view_fz (p : PV) : (MV.fz p).view = p := by rw [MV.view]
@[simp] theorem view_ml (xs : List MV) : (MV.ml xs).view = .lst (MV.views xs) := by rw [MV.view]
@[simp] theorem views_nil : MV.views [] = [] := by rw [MV.views]
@[simp] theorem views_cons (m : MV) (r : List MV) : MV.views (m :: r) = m.view :: MV.views r := by rw [MV.views]
@[simp] theorem views_map (ps : List PV) : MV.views (ps.map .fz) = ps := MV.views_fz ps
@[simp] theorem views_comp {γ : Type} (f : γ → PV) (l : List γ) : MV.views (l.map (MV.fz ∘ f)) = l.map f := by
  rw [← List.map_map]
  exact MV.views_fz _
theorem views_app (a b : List MV) : MV.views (a ++ b) = MV.views a ++ MV.views b := by
  induction a with
  | nil => simp
  | cons x r ih => simp [ih]
@[simp] theorem flat_int (i : Int) : flat (.int i) = true := rfl
@[simp] theorem flat_str (s : Tx) : flat (.str s) = true := rfl
@[simp] theorem flat_bl (b : Bool) : flat (.bl b) = true := rfl
@[simp] theorem flat_non : flat .non = true := rfl
@[simp] theorem sSeq_ap (s t : SE Out) : sSeq s t ρ = nxt (s ρ) fun ρ' => t ρ' := by
  unfold sSeq
  cases s ρ with
  | ok o ρ' => cases o <;> rfl
  | exc x ρ' => rfl
  | bad => rfl
@[simp] theorem sNil_ap : sNil ρ = .ok .nx ρ := rfl
@[simp] theorem sRet_ap (e : SE MV) : sRet e ρ = (e ρ).th fun m ρ' => .ok (.rt m) ρ' := by simp [sRet]
@[simp] theorem sRetN_ap : sRetN ρ = .ok (.rt (.fz .non)) ρ := rfl
@[simp] theorem sBreak_ap : sBreak ρ = .ok .bk ρ := rfl
@[simp] theorem sCont_ap : sCont ρ = .ok .ct ρ := rfl
@[simp] theorem sIf_ap (c : SE Bool) (a b : SE Out) : sIf c a b ρ = (c ρ).th fun k ρ' => if k = true then a ρ' else b ρ' := by
  simp only [sIf, bind_ap]
  congr 1
  funext k ρ1
  cases k <;> rfl
@[simp] theorem sSet_ap (i : Nat) (e : SE MV) : sSet i e ρ = (e ρ).th fun m ρ' => if i < ρ'.length then .ok .nx (ρ'.set i (some m)) else .bad := by simp [sSet]
@[simp] theorem sSetF_ap (i : Nat) (e : SE MV) : sSetF i e ρ = (e ρ).th fun m ρ' => if i < ρ'.length then .ok .nx (ρ'.set i (some (.fz m.view))) else .bad := by
  simp only [sSetF, sSet_ap, mv_ap, vw_ap]
  cases e ρ <;> rfl
@[simp] theorem sPar_ap (is : List Nat) (s : SE (List MV)) : sPar is s ρ = (s ρ).th fun ms ρ' => if ms.length = is.length ∧ is.all (fun i => decide (i < ρ'.length)) = true then .ok .nx (setAll is ms ρ') else .bad := by simp only [sPar, bind_ap]
@[simp] theorem setAll_cons (i : Nat) (is : List Nat) (m : MV) (ms : List MV) : setAll (i :: is) (m :: ms) ρ = setAll is ms (ρ.set i (some m)) := by rw [setAll]
@[simp] theorem setAll_nil : setAll [] [] ρ = ρ := by simp [setAll]
@[simp] theorem sAsg_ap (e : SE PV) (g : PV → Env → Option Env) : sAsg e g ρ = (e ρ).th fun p ρ' => oth (g p ρ') fun ρ2 => .ok .nx ρ2 := by
  simp only [sAsg, bind_ap]
  congr 1
  funext p ρ1
  cases g p ρ1 <;> rfl
@[simp] theorem gN_ap (i : Nat) (p : PV) : gN i p ρ = if i < ρ.length then some (ρ.set i (some (.fz p))) else none := rfl
@[simp] theorem gNl_ap : gNl [] ρ = some ρ := rfl
@[simp] theorem gCn_ap (g : PV → Env → Option Env) (r : List PV → Env → Option Env) (p : PV) (ps : List PV) : gCn g r (p :: ps) ρ = (g p ρ).bind fun ρ' => r ps ρ' := by
  show (match g p ρ with
    | some ρ' => r ps ρ'
    | none => none) = _
  cases g p ρ <;> rfl
@[simp] theorem gTp_ap (k : Nat) (r : List PV → Env → Option Env) (ps : List PV) : gTp k r (.tup ps) ρ = if ps.length = k then r ps ρ else none := rfl
@[simp] theorem sFz_ap (i : Nat) (s : SE Out) : sFz i s ρ = s (fzAt i ρ) := rfl
def fzO (o : Option (Option MV)) (ρ : Env) (i : Nat) : Env := match o with
  | some (some m) => ρ.set i (some (.fz m.view))
  | _ => ρ
@[simp] theorem fzO_some (m : MV) (i : Nat) : fzO (some (some m)) ρ i = ρ.set i (some (.fz m.view)) := rfl
@[simp] theorem fzO_none (i : Nat) : fzO (some none) ρ i = ρ := rfl
@[simp] theorem fzAt_ap (i : Nat) : fzAt i ρ = fzO ρ[i]? ρ i := by
  unfold fzAt fzO
  cases ρ[i]? with
  | none => rfl
  | some o => cases o <;> rfl
@[simp] theorem sDrop_ap (e : SE MV) : sDrop e ρ = (e ρ).th fun m ρ' => .ok .nx ρ' := by simp [sDrop]
def slotL (o : Option (Option MV)) : Option (List MV) := match o with
  | some (some (.ml xs)) => some xs
  | _ => none
@[simp] theorem slotL_ml (xs : List MV) : slotL (some (some (.ml xs))) = some xs := rfl
@[simp] theorem mlAt_ap (i : Nat) : mlAt i ρ = slotL ρ[i]? := by
  unfold mlAt slotL
  cases ρ[i]? with
  | none => rfl
  | some o => cases o with
    | none => rfl
    | some m => cases m <;> rfl
@[simp] theorem sApp_ap (i : Nat) (e : SE PV) : sApp i e ρ = oth (mlAt i ρ) fun _ => (e ρ).th fun p ρ' => oth (mlAt i ρ') fun xs => if xs.length < 16777216 then .ok .nx (ρ'.set i (some (.ml (xs ++ [.fz p])))) else .bad := by
  unfold sApp
  cases mlAt i ρ with
  | none => rfl
  | some ys =>
    simp only [bind_ap, oth_some]
    congr 1
    funext p ρ1
    cases mlAt i ρ1 <;> rfl
@[simp] theorem sAug_ap (i : Nat) (e : SE PV) (f : PV → PV → Option PV) : sAug i e f ρ = oth (slotF ρ[i]?) fun p => (e ρ).th fun q ρ' => oth (f p q) fun z => if i < ρ'.length then .ok .nx (ρ'.set i (some (.fz z))) else .bad := by
  unfold sAug
  rw [eVar_ap]
  cases slotF ρ[i]? with
  | none => rfl
  | some p =>
    simp only [oth_some, bind_ap]
    congr 1
    funext q ρ1
    cases f p q <;> rfl
@[simp] theorem sAugIx_ap (i : Nat) (ix e : SE PV) (f : PV → PV → Option PV) : sAugIx i ix e f ρ = oth (mlAt i ρ) fun _ => (ix ρ).th fun kq ρ1 => oth (asI kq) fun k => oth (getAt i k ρ1) fun p => (e ρ1).th fun q ρ2 => oth (f p q) fun y => oth (putAt i k y ρ2) fun ρ3 => .ok .nx ρ3 := by
  unfold sAugIx
  cases mlAt i ρ with
  | none => rfl
  | some ys =>
    simp only [bind_ap, oth_some]
    congr 1
    funext kq ρ1
    cases asI kq with
    | none => rfl
    | some k =>
      simp only [Option.bind_some, oth_some]
      cases getAt i k ρ1 with
      | none => rfl
      | some p =>
        simp only [Option.map_some, bind_ap, oth_some]
        congr 1
        funext q ρ2
        cases f p q with
        | none => rfl
        | some y =>
          simp only [oth_some]
          cases putAt i k y ρ2 <;> rfl
@[simp] theorem asI_int (i : Int) : asI (.int i) = some i := rfl
def fzM (o : Option MV) : Option PV := match o with
  | some (.fz p) => some p
  | _ => none
@[simp] theorem fzM_fz (p : PV) : fzM (some (.fz p)) = some p := rfl
@[simp] theorem getAt_ap (i : Nat) (k : Int) : getAt i k ρ = (mlAt i ρ).bind fun xs => fzM (atI xs k) := by
  unfold getAt
  cases mlAt i ρ with
  | none => rfl
  | some xs =>
    simp only [Option.bind_some]
    cases atI xs k with
    | none => rfl
    | some m => cases m <;> rfl
@[simp] theorem putAt_ap (i : Nat) (k : Int) (p : PV) : putAt i k p ρ = (mlAt i ρ).bind fun xs => (ixN xs.length k).bind fun j => some (ρ.set i (some (.ml (xs.set j (.fz p))))) := by
  unfold putAt
  cases mlAt i ρ with
  | none => rfl
  | some xs =>
    simp only [Option.bind_some]
    cases ixN xs.length k <;> rfl
@[simp] theorem gIxL_ap (i : Nat) (ix : SE PV) (p : PV) : gIxL i ix p ρ = (mlAt i ρ).bind fun _ => (ix ρ).opt fun q ρ' => (asI q).bind fun k => putAt i k p ρ' := by
  unfold gIxL
  cases mlAt i ρ with
  | none => rfl
  | some xs =>
    simp only [Option.bind_some]
    cases ix ρ <;> rfl
@[simp] theorem sIt_ap (s : SE PV) : sIt s ρ = (s ρ).th fun p ρ1 => ofO (itL p) ρ1 := by simp [sIt]
@[simp] theorem itL_lst (xs : List PV) : itL (.lst xs) = some xs := rfl
@[simp] theorem itL_tup (xs : List PV) : itL (.tup xs) = some xs := rfl
@[simp] theorem itL_str (s : Tx) : itL (.str s) = some (s.map fun c => .str [c]) := rfl
@[simp] theorem sRng_ap (s : SE (List PV)) : sRng s ρ = (s ρ).th fun ps ρ1 => ofO (rngOf ps) ρ1 := by simp [sRng]
@[simp] theorem rngOf_1 (j : Int) : rngOf [.int j] = if -(2 ^ 62) ≤ j ∧ j < 2 ^ 62 then some (rngL 0 j) else none := rfl
@[simp] theorem rngOf_2 (i j : Int) : rngOf [.int i, .int j] = if (-(2 ^ 62) ≤ i ∧ i < 2 ^ 62) ∧ -(2 ^ 62) ≤ j ∧ j < 2 ^ 62 then some (rngL i j) else none := rfl
@[simp] theorem sZip_ap (s : SE (List PV)) : sZip s ρ = (s ρ).th fun ps ρ1 => ofO (zipOf ps) ρ1 := by simp [sZip]
@[simp] theorem zipOf_l (xs ys : List PV) : zipOf [.lst xs, .lst ys] = some (List.zipWith (fun p q => .tup [p, q]) xs ys) := rfl
@[simp] theorem sEnum_ap (s : SE (List PV)) : sEnum s ρ = (s ρ).th fun ps ρ1 => ofO (enumOf ps) ρ1 := by simp [sEnum]
@[simp] theorem enumOf_l (xs : List PV) : enumOf [.lst xs] = some (xs.mapIdx fun i p => .tup [.int i, p]) := rfl
@[simp] theorem enumOf_s (s : Tx) : enumOf [.str s] = some (s.mapIdx fun i c => .tup [.int i, .str [c]]) := rfl
@[simp] theorem sFor_ap (it : SE (List PV)) (g : PV → Env → Option Env) (b : SE Out) : sFor it g b ρ = (it ρ).th fun items ρ1 => forL g b items ρ1 := by simp [sFor]
@[simp] theorem sLc_ap (it : SE (List PV)) (g : PV → Env → Option Env) (tt : SE Bool) (te : SE PV) (vs : List Nat) : sLc it g tt te vs ρ = (it ρ).th fun items ρ1 => if items.length ≤ 16777216 then oth (lcGo g tt te vs items [] (wipeE ρ1 vs)) fun z => .ok (.ml (z.1.map .fz)) (backE vs ρ1 z.2) else .bad := by
  simp only [sLc, bind_ap]
  congr 1
  funext items ρ1
  split
  · cases lcGo g tt te vs items [] (wipeE ρ1 vs) <;> rfl
  · rfl
@[simp] theorem sYes_ap : sYes ρ = .ok true ρ := rfl
@[simp] theorem wipeE_nil : wipeE ρ [] = ρ := rfl
@[simp] theorem wipeE_cons (v : Nat) (vs : List Nat) : wipeE ρ (v :: vs) = (wipeE ρ vs).set v none := rfl
@[simp] theorem backE_nil (ρ1 : Env) : backE [] ρ1 ρ = ρ := rfl
@[simp] theorem backE_cons (v : Nat) (vs : List Nat) (ρ1 : Env) : backE (v :: vs) ρ1 ρ = backE vs ρ1 (ρ.set v ((slotF ρ1[v]?).map .fz)) := by
  rw [backE]
  congr 2
  cases ρ1[v]? with
  | none => rfl
  | some o => cases o with
    | none => rfl
    | some m => cases m <;> rfl
@[simp] theorem slotF_none : slotF (some none) = none := rfl
@[simp] theorem slotF_ml (xs : List MV) : slotF (some (some (.ml xs))) = none := rfl
@[simp] theorem rNil_ap : rNil ρ = .ok [] ρ := rfl
@[simp] theorem rV_ap (e : SE PV) (r : SE (List Ar)) : rV e r ρ = (e ρ).th fun p ρ1 => (r ρ1).th fun as ρ2 => .ok (.v p :: as) ρ2 := by simp [rV]
@[simp] theorem rP_ap (i : Nat) (r : SE (List Ar)) : rP i r ρ = oth (slotM ρ[i]?) fun _ => (r ρ).th fun as ρ2 => .ok (.pl i :: as) ρ2 := by
  unfold rP
  cases ρ[i]? with
  | none => rfl
  | some o => cases o with
    | none => rfl
    | some m => simp
/-- the call's end -/
def RF.th (r : RF) (k : List MV → Env) : R MV := match r with
  | .ok m outs => .ok m (k outs)
  | .exc x outs => .exc x (k outs)
  | .bad => .bad
@[simp] theorem rf_ok (m : MV) (outs : List MV) (k : List MV → Env) : (RF.ok m outs).th k = .ok m (k outs) := rfl
@[simp] theorem rf_exc (x : PX) (outs : List MV) (k : List MV → Env) : (RF.exc x outs).th k = .exc x (k outs) := rfl
@[simp] theorem eCall_ap (m : List MV → RF) (g : {α : Type} → List α → List α → List α) (sa sk : SE (List Ar)) : eCall m @g sa sk ρ = (sa ρ).th fun as ρ1 => (sk ρ1).th fun bs ρ2 => oth (gather (g as bs) ρ2) fun z => (m z.1).th fun outs => putB (g as bs) outs z.2 := by
  simp only [eCall, bind_ap]
  congr 1
  funext as ρ1
  congr 1
  funext bs ρ2
  unfold callR
  cases gather (g as bs) ρ2 with
  | none => rfl
  | some z =>
    simp only [oth_some]
    cases m z.1 <;> rfl
@[simp] theorem gPos_ap (xs ys : List α) : gPos xs ys = xs := rfl
@[simp] theorem gather_nil : gather [] ρ = some ([], ρ) := rfl
@[simp] theorem gather_v (p : PV) (r : List Ar) : gather (.v p :: r) ρ = (gather r ρ).map fun z => (.fz p :: z.1, z.2) := rfl
/-- how an owned slot is handed over -/
def gthO (o : Option (Option MV)) (r : List Ar) (ρ : Env) (i : Nat) : Option (List MV × Env) := match o with
  | some (some (.fz p)) => (gather r ρ).map fun z => (.fz p :: z.1, z.2)
  | some (some m) => (gather r (ρ.set i none)).map fun z => (m :: z.1, z.2)
  | _ => none
@[simp] theorem gather_p (i : Nat) (r : List Ar) : gather (.pl i :: r) ρ = gthO ρ[i]? r ρ i := by
  rw [gather]
  unfold gthO
  cases ρ[i]? with
  | none => rfl
  | some o => cases o with
    | none => rfl
    | some m => cases m <;> rfl
@[simp] theorem gthO_fz (p : PV) (r : List Ar) (i : Nat) : gthO (some (some (.fz p))) r ρ i = (gather r ρ).map fun z => (.fz p :: z.1, z.2) := rfl
@[simp] theorem gthO_ml (xs : List MV) (r : List Ar) (i : Nat) : gthO (some (some (.ml xs))) r ρ i = (gather r (ρ.set i none)).map fun z => (.ml xs :: z.1, z.2) := rfl
@[simp] theorem putB_nil (outs : List MV) : putB [] outs ρ = ρ := by cases outs <;> rfl
@[simp] theorem putB_nil2 (as : List Ar) : putB as [] ρ = ρ := by cases as with
  | nil => rfl
  | cons a r => cases a <;> rfl
@[simp] theorem putB_v (p : PV) (r : List Ar) (m : MV) (ms : List MV) : putB (.v p :: r) (m :: ms) ρ = putB r ms ρ := rfl
def pbO (o : Option (Option MV)) (ρ : Env) (i : Nat) (m : MV) : Env := match o with
  | some none => ρ.set i (some m)
  | _ => ρ
@[simp] theorem pbO_none (i : Nat) (m : MV) : pbO (some none) ρ i m = ρ.set i (some m) := rfl
@[simp] theorem pbO_some (i : Nat) (m m' : MV) : pbO (some (some m')) ρ i m = ρ := rfl
@[simp] theorem putB_p (i : Nat) (r : List Ar) (m : MV) (ms : List MV) : putB (.pl i :: r) (m :: ms) ρ = putB r ms (pbO ρ[i]? ρ i m) := by
  rw [putB]
  congr 1
/-- a frozen list told many times, owned -/
def repM (p q : PV) : Option MV := match p with
  | .lst xs => (match q with
    | .int k => if (-(2 ^ 63) ≤ k ∧ k < 2 ^ 63) ∧ xs.length * k.toNat ≤ 16777216 then some (MV.ml ((List.replicate k.toNat xs).flatten.map .fz)) else none
    | _ => none)
  | _ => none
@[simp] theorem repM_lst (xs : List PV) (k : Int) : repM (.lst xs) (.int k) = if (-(2 ^ 63) ≤ k ∧ k < 2 ^ 63) ∧ xs.length * k.toNat ≤ 16777216 then some (MV.ml ((List.replicate k.toNat xs).flatten.map .fz)) else none := rfl
@[simp] theorem eRep_ap (a b : SE PV) : eRep a b ρ = (a ρ).th fun p ρ1 => (b ρ1).th fun q ρ2 => ofO (repM p q) ρ2 := by
  simp only [eRep, bind_ap]
  rfl
end
/-- a def's end -/
def fin (n : Nat) (r : R Out) : RF := match r with
  | .ok (.rt m) ρ' => (match outsOf (ρ'.take n) with
    | some outs => .ok m outs
    | none => .bad)
  | .ok .nx ρ' => (match outsOf (ρ'.take n) with
    | some outs => .ok (.fz .non) outs
    | none => .bad)
  | .ok .bk _ => .bad
  | .ok .ct _ => .bad
  | .exc x ρ' => (match outsOf (ρ'.take n) with
    | some outs => .exc x outs
    | none => .bad)
  | .bad => .bad
theorem runF_fin {n np nl : Nat} {body : SE Out} {ms : List MV} (h : ms.length = np) : runF n np nl body ms = fin n (body (ms.map some ++ List.replicate nl none)) := by
  unfold runF fin
  rw [if_pos h] <;>
  (generalize body (ms.map some ++ List.replicate nl none) = r
   rcases r with ⟨o, ρ'⟩ | ⟨x, ρ'⟩ | _
   · cases o <;> rfl
   · rfl
   · rfl)
def othF (o : Option (List MV)) (k : List MV → RF) : RF := match o with
  | some l => k l
  | none => .bad
@[simp] theorem othF_some (l : List MV) (k : List MV → RF) : othF (some l) k = k l := rfl
@[simp] theorem fin_rt (n : Nat) (m : MV) (ρ : Env) : fin n (.ok (.rt m) ρ) = othF (outsOf (ρ.take n)) fun outs => .ok m outs := by
  show (match outsOf (ρ.take n) with
    | some outs => RF.ok m outs
    | none => .bad) = _
  cases outsOf (ρ.take n) <;> rfl
@[simp] theorem fin_nx (n : Nat) (ρ : Env) : fin n (.ok .nx ρ) = othF (outsOf (ρ.take n)) fun outs => .ok (.fz .non) outs := by
  show (match outsOf (ρ.take n) with
    | some outs => RF.ok (.fz .non) outs
    | none => .bad) = _
  cases outsOf (ρ.take n) <;> rfl
@[simp] theorem fin_exc (n : Nat) (x : PX) (ρ : Env) : fin n (.exc x ρ) = othF (outsOf (ρ.take n)) fun outs => .exc x outs := by
  show (match outsOf (ρ.take n) with
    | some outs => RF.exc x outs
    | none => .bad) = _
  cases outsOf (ρ.take n) <;> rfl
@[simp] theorem outsOf_nil : outsOf [] = some [] := rfl
@[simp] theorem outsOf_cons (m : MV) (r : Env) : outsOf (some m :: r) = (outsOf r).map fun l => m :: l := by
  show (match outsOf r with
    | some l => some (m :: l)
    | none => none) = _
  cases outsOf r <;> rfl

/-! ### operators at values -/
@[simp] theorem pAdd_int (i j : Int) : pAdd (.int i) (.int j) = some (.int (i + j)) := rfl
@[simp] theorem pAdd_str (s t : Tx) : pAdd (.str s) (.str t) = if s.length + t.length ≤ 16777216 then some (.str (s ++ t)) else none := rfl
@[simp] theorem pSub_int (i j : Int) : pSub (.int i) (.int j) = some (.int (i - j)) := rfl
@[simp] theorem pIAdd_int (i j : Int) : pIAdd (.int i) (.int j) = some (.int (i + j)) := rfl
@[simp] theorem pMul_int (i j : Int) : pMul (.int i) (.int j) = if CMul i j then some (.int (i * j)) else none := rfl
@[simp] theorem pMul_str (s : Tx) (k : Int) : pMul (.str s) (.int k) = if s.length * k.toNat ≤ 16777216 ∧ -1000000000 ≤ k ∧ k ≤ 1000000000 then some (.str (List.replicate k.toNat s).flatten) else none := rfl
@[simp] theorem pMod_int (i j : Int) : pMod (.int i) (.int j) = if 0 < j then some (.int (i % j)) else none := rfl
@[simp] theorem pFdiv_int (i j : Int) : pFdiv (.int i) (.int j) = if CDiv i j then some (.int (i / j)) else none := rfl
@[simp] theorem pDivmod_int (i j : Int) : pDivmod (.int i) (.int j) = if CDiv i j then some (.tup [.int (i / j), .int (i % j)]) else none := rfl
@[simp] theorem pLen_str (s : Tx) : pLen (.str s) = if s.length ≤ 16777216 then some (.int s.length) else none := rfl
@[simp] theorem pLen_lst (s : List PV) : pLen (.lst s) = some (.int s.length) := rfl
@[simp] theorem pLen_tup (s : List PV) : pLen (.tup s) = some (.int s.length) := rfl
@[simp] theorem pLen_scr (s : List Int) : pLen (.scr s) = some (.int s.length) := rfl
@[simp] theorem pLt_int (i j : Int) : pLt (.int i) (.int j) = some (.bl (decide (i < j))) := rfl
@[simp] theorem pLe_int (i j : Int) : pLe (.int i) (.int j) = some (.bl (decide (i ≤ j))) := rfl
@[simp] theorem pGt_int (i j : Int) : pGt (.int i) (.int j) = some (.bl (decide (j < i))) := rfl
@[simp] theorem pGe_int (i j : Int) : pGe (.int i) (.int j) = some (.bl (decide (j ≤ i))) := rfl
@[simp] theorem pLt_str (i j : Tx) : pLt (.str i) (.str j) = some (.bl (decide (i < j))) := rfl
@[simp] theorem pLe_str (i j : Tx) : pLe (.str i) (.str j) = some (.bl (!decide (j < i))) := rfl
@[simp] theorem pEq_int (i j : Int) : pEq (.int i) (.int j) = some (.bl (decide (i = j))) := rfl
@[simp] theorem pEq_str (i j : Tx) : pEq (.str i) (.str j) = some (.bl (decide (i = j))) := rfl
@[simp] theorem pEq_bl (i j : Bool) : pEq (.bl i) (.bl j) = some (.bl (decide (i = j))) := rfl
@[simp] theorem pNe_int (i j : Int) : pNe (.int i) (.int j) = some (.bl (!decide (i = j))) := rfl
@[simp] theorem pNe_str (i j : Tx) : pNe (.str i) (.str j) = some (.bl (!decide (i = j))) := rfl
@[simp] theorem pIx_lst (xs : List PV) (i : Int) : pIx (.lst xs) (.int i) = atI xs i := rfl
@[simp] theorem pIx_tup (xs : List PV) (i : Int) : pIx (.tup xs) (.int i) = atI xs i := rfl
@[simp] theorem pIx_scr (xs : List Int) (i : Int) : pIx (.scr xs) (.int i) = (atI xs i).map .int := rfl
@[simp] theorem pIx_str (s : Tx) (i : Int) : pIx (.str s) (.int i) = if s.length ≤ 16777216 then (atI s i).map fun c => .str [c] else none := rfl
@[simp] theorem pSl_str (s : Tx) (l h : Option Int) : pSl (.str s) l h = if s.length ≤ 16777216 then some (.str (cutL s l h)) else none := rfl
@[simp] theorem pSl_lst (s : List PV) (l h : Option Int) : pSl (.lst s) l h = some (.lst (cutL s l h)) := rfl
@[simp] theorem pNeg_int (i : Int) : pNeg (.int i) = some (.int (-i)) := rfl
@[simp] theorem pInt_int (i : Int) : pInt (.int i) = some (.int i) := rfl
@[simp] theorem pInt_str (s : Tx) : pInt (.str s) = if s.length ≤ 640 then (PySem.intText? (mkS s)).map .int else none := rfl
@[simp] theorem pStr_int (i : Int) : pStr (.int i) = if i.natAbs.log2 < 1920 then some (.str (numT i)) else none := rfl
@[simp] theorem pOrd_1 (c : Nat) : pOrd (.str [c]) = some (.int c) := rfl
@[simp] theorem pMax_int (i j : Int) : pMax (.int i) (.int j) = some (.int (if j > i then j else i)) := rfl
@[simp] theorem pMin_int (i j : Int) : pMin (.int i) (.int j) = some (.int (if j < i then j else i)) := rfl
@[simp] theorem pAbs_int (i : Int) : pAbs (.int i) = some (.int (if i < 0 then -i else i)) := rfl
@[simp] theorem pIsi_str (s : Tx) : pIsiA [.str s, .opq (.ty "str")] = some (.bl true) := by rfl
@[simp] theorem pIn_str (c : Nat) (z : Tx) : pIn (.str [c]) (.str z) = some (.bl (decide (c ∈ z))) := rfl
@[simp] theorem pNotN_int (i : Int) : noOpq pNotN (.int i) .non = some (.bl true) := rfl
@[simp] theorem pNotN_non : noOpq pNotN .non .non = some (.bl false) := rfl
@[simp] theorem pIsN_int (i : Int) : noOpq pIsN (.int i) .non = some (.bl false) := rfl
@[simp] theorem pIsN_non : noOpq pIsN .non .non = some (.bl true) := rfl
theorem bls_map {α : Type} (f : α → Bool) (xs : List α) : PV.bls (xs.map fun x => .bl (f x)) = some (xs.map f) := by
  induction xs with
  | nil => rfl
  | cons x r ih => rw [List.map_cons, PV.bls, ih]; rfl
theorem pAll_map {α : Type} (f : α → Bool) (xs : List α) : pAll (.lst (xs.map fun x => .bl (f x))) = some (.bl (xs.all f)) := by
  show (PV.bls (xs.map fun x => .bl (f x))).map (fun bs => PV.bl (bs.all id)) = _
  rw [bls_map]
  simp [Function.comp_def]
theorem pAny_map {α : Type} (f : α → Bool) (xs : List α) : pAny (.lst (xs.map fun x => .bl (f x))) = some (.bl (xs.any f)) := by
  show (PV.bls (xs.map fun x => .bl (f x))).map (fun bs => PV.bl (bs.any id)) = _
  rw [bls_map]
  simp [Function.comp_def]
theorem pStrs_map (ss : List Tx) : pStrs (ss.map .str) = some ss := by
  induction ss with
  | nil => rfl
  | cons x r ih => rw [List.map_cons, pStrs, ih]; rfl
theorem joinT_nil (ss : List Tx) : joinT [] ss = ss.flatten := by
  unfold joinT
  induction ss with
  | nil => rfl
  | cons p r ih => cases r with
    | nil => simp [TL.joinL]
    | cons q r => rw [TL.joinL, ih]; simp
theorem pJoin_map (sep : Tx) (ss : List Tx) : pJoin (.str sep) (.lst (ss.map .str)) = if (ss.map List.length).sum + ss.length * sep.length ≤ 16777216 then some (.str (joinT sep ss)) else none := by
  show (pStrs (ss.map .str)).bind _ = _
  rw [pStrs_map]
  rfl
theorem pJoin_mapf {α : Type} (sep : Tx) (f : α → Tx) (xs : List α) : pJoin (.str sep) (.lst (xs.map fun x => .str (f x))) = if ((xs.map f).map List.length).sum + xs.length * sep.length ≤ 16777216 then some (.str (joinT sep (xs.map f))) else none := by
  have := pJoin_map sep (xs.map f)
  rw [List.map_map, List.length_map] at this
  exact this
theorem flat1 {α : Type} (g : α → Nat) (xs : List α) : (xs.map fun x => [g x]).flatten = xs.map g := by
  induction xs with
  | nil => rfl
  | cons x r ih => simp [ih]
theorem sum1 {α : Type} (g : α → Nat) (xs : List α) : ((xs.map fun x => [g x]).map List.length).sum = xs.length := by
  induction xs with
  | nil => rfl
  | cons x r ih => simp at ih ⊢; omega
/-! ### comprehensions -/
theorem lcGo_pure {g : PV → Env → Option Env} {tt : SE Bool} {te : SE PV} {vs : List Nat} {ρ : Env} {f : PV → PV} : ∀ {items acc : List PV}, (∀ p ∈ items, ∃ ρ1 ρ2 ρ3, g p ρ = some ρ1 ∧ tt ρ1 = .ok true ρ2 ∧ te ρ2 = .ok (f p) ρ3 ∧ wipeE ρ3 vs = ρ) → lcGo g tt te vs items acc ρ = some (acc ++ items.map f, ρ)
  | [], acc, h => by rw [lcGo]; simp
  | p :: r, acc, h => by
    obtain ⟨ρ1, ρ2, ρ3, e1, e2, e3, e4⟩ := h p (List.mem_cons_self ..)
    rw [lcGo_cons, e1]
    simp only [e2, e3, e4]
    rw [lcGo_pure fun q hq => h q (List.mem_cons_of_mem _ hq)]
    simp
/-- with a test -/
theorem lcGo_filter {g : PV → Env → Option Env} {tt : SE Bool} {te : SE PV} {vs : List Nat} {ρ : Env} {f : PV → PV} {b : PV → Bool} : ∀ {items acc : List PV}, (∀ p ∈ items, ∃ ρ1 ρ2 ρ3, g p ρ = some ρ1 ∧ tt ρ1 = .ok (b p) ρ2 ∧ (b p = true → te ρ2 = .ok (f p) ρ3) ∧ (b p = false → ρ3 = ρ2) ∧ wipeE ρ3 vs = ρ) → lcGo g tt te vs items acc ρ = some (acc ++ (items.filter b).map f, ρ)
  | [], acc, h => by rw [lcGo]; simp
  | p :: r, acc, h => by
    obtain ⟨ρ1, ρ2, ρ3, e1, e2, e3, e5, e4⟩ := h p (List.mem_cons_self ..)
    have ih := fun acc => lcGo_filter (items := r) (acc := acc) fun q hq => h q (List.mem_cons_of_mem _ hq)
    rw [lcGo_cons, e1]
    cases hb : b p with
    | true =>
      rw [hb] at e2
      simp only [e2, e3 hb, e4, ih]
      simp [hb]
    | false =>
      rw [hb] at e2
      rw [e5 hb] at e4
      simp only [e2, e4, ih]
      simp [hb]
/-- drawing as they go -/
theorem lcGo_rel {I : Env → Prop} {Rl : PV → PV → Prop} {g : PV → Env → Option Env} {tt : SE Bool} {te : SE PV} {vs : List Nat} : ∀ {items acc : List PV} {ρ : Env}, I ρ → (∀ p ∈ items, ∀ ρ, I ρ → ∃ ρ1 ρ2 ρ3 y, g p ρ = some ρ1 ∧ tt ρ1 = .ok true ρ2 ∧ te ρ2 = .ok y ρ3 ∧ Rl p y ∧ I (wipeE ρ3 vs)) →
    ∃ ys ρ', lcGo g tt te vs items acc ρ = some (acc ++ ys, ρ') ∧ I ρ' ∧ Paired Rl items ys
  | [], acc, ρ, hI, h => ⟨[], ρ, by rw [lcGo]; simp, hI, .nil⟩
  | p :: r, acc, ρ, hI, h => by
    obtain ⟨ρ1, ρ2, ρ3, y, e1, e2, e3, e4, e5⟩ := h p (List.mem_cons_self ..) ρ hI
    obtain ⟨ys, ρ', q1, q2, q3⟩ := lcGo_rel (acc := acc ++ [y]) e5 fun q hq => h q (List.mem_cons_of_mem _ hq)
    refine ⟨y :: ys, ρ', ?_, q2, .cons e4 q3⟩
    rw [lcGo_cons, e1]
    simp only [e2, e3, q1]
    simp
/-! ### loops -/
def lpO (r : R Out) (k : Env → R Out) : R Out := match r with
  | .ok .nx ρ => k ρ
  | .ok .ct ρ => k ρ
  | .ok .bk ρ => .ok .nx ρ
  | .ok (.rt m) ρ => .ok (.rt m) ρ
  | .exc x ρ => .exc x ρ
  | .bad => .bad
@[simp] theorem lpO_nx (ρ : Env) (k : Env → R Out) : lpO (.ok .nx ρ) k = k ρ := rfl
@[simp] theorem lpO_ct (ρ : Env) (k : Env → R Out) : lpO (.ok .ct ρ) k = k ρ := rfl
@[simp] theorem lpO_bk (ρ : Env) (k : Env → R Out) : lpO (.ok .bk ρ) k = .ok .nx ρ := rfl
@[simp] theorem lpO_rt (m : MV) (ρ : Env) (k : Env → R Out) : lpO (.ok (.rt m) ρ) k = .ok (.rt m) ρ := rfl
@[simp] theorem lpO_exc (x : PX) (ρ : Env) (k : Env → R Out) : lpO (.exc x ρ) k = .exc x ρ := rfl
@[simp] theorem lpO_bad (k : Env → R Out) : lpO .bad k = .bad := rfl
@[simp] theorem forL_nil (g : PV → Env → Option Env) (b : SE Out) (ρ : Env) : forL g b [] ρ = .ok .nx ρ := by rw [forL]
theorem forL_ap (g : PV → Env → Option Env) (b : SE Out) (p : PV) (r : List PV) (ρ : Env) : forL g b (p :: r) ρ = oth (g p ρ) fun ρ1 => lpO (b ρ1) (forL g b r) := by
  rw [forL_cons]
  cases g p ρ with
  | none => rfl
  | some ρ1 =>
    simp only [oth_some]
    cases b ρ1 with
    | ok o ρ2 => cases o <;> rfl
    | exc x ρ2 => rfl
    | bad => rfl
theorem whileL_ap (c : SE Bool) (b : SE Out) (k : Nat) (ρ : Env) : whileL c b (k + 1) ρ = (c ρ).th fun t ρ1 => if t = true then lpO (b ρ1) (whileL c b k) else .ok .nx ρ1 := by
  rw [whileL_succ]
  cases c ρ with
  | ok t ρ1 =>
    simp only [th_ok]
    cases t with
    | true =>
      rw [if_pos rfl]
      dsimp only
      cases b ρ1 with
      | ok o ρ2 => cases o <;> rfl
      | exc x ρ2 => rfl
      | bad => rfl
    | false => rfl
  | exc x ρ1 => rfl
  | bad => rfl
/-- range, from p on, n items -/
def rngP (p n : Nat) : List PV := (List.range n).map fun i => .int ((p + i : Nat) : Int)
theorem rngP_zero (p : Nat) : rngP p 0 = [] := rfl
theorem rngP_succ (p n : Nat) : rngP p (n + 1) = .int (p : Int) :: rngP (p + 1) n := by
  unfold rngP
  rw [List.range_succ_eq_map, List.map_cons, List.map_map]
  congr 1
  apply List.map_congr_left
  intro i _
  show PV.int _ = PV.int _
  congr 1
  show ((p + (i + 1) : Nat) : Int) = _
  omega
theorem rngL_P (p n : Nat) : rngL (p : Int) (n : Int) = rngP p (n - p) := by
  unfold rngL rngP
  have e : ((n : Int) - (p : Int)).toNat = n - p := by omega
  rw [e]
  apply List.map_congr_left
  intro i _
  congr 1
theorem rngL_0 (n : Nat) : rngL 0 (n : Int) = rngP 0 n := rngL_P 0 n
/-- enumerate of a text, from p on -/
def enumP (p : Nat) (s : Tx) : List PV := s.mapIdx fun i c => .tup [.int ((p + i : Nat) : Int), .str [c]]
theorem enumP_nil (p : Nat) : enumP p [] = [] := rfl
theorem enumP_cons (p : Nat) (c : Nat) (s : Tx) : enumP p (c :: s) = .tup [.int (p : Int), .str [c]] :: enumP (p + 1) s := by
  unfold enumP
  rw [List.mapIdx_cons]
  congr 1
  congr 1
  funext i c
  congr 3
  omega
theorem enum_0 (s : Tx) : (s.mapIdx fun i c => PV.tup [.int i, .str [c]]) = enumP 0 s := by
  unfold enumP
  congr 1
  funext i c
  congr 3
  omega
/-! ### slices -/
theorem sIx_pos {n d : Nat} {i : Int} (h : 0 ≤ i) : HT.sIx n d (some i) = min i.toNat n := by
  show (if i < 0 then (i + (n : Int)).toNat else min i.toNat n) = _
  rw [if_neg (by omega)]
theorem sIx_neg {n d : Nat} {i : Int} (h : i < 0) : HT.sIx n d (some i) = (i + n).toNat := by
  show (if i < 0 then (i + (n : Int)).toNat else min i.toNat n) = _
  rw [if_pos h]
theorem cutL_pp {α : Type} (xs : List α) {i j : Int} (hi : 0 ≤ i) (hj : 0 ≤ j) : cutL xs (some i) (some j) = (xs.drop i.toNat).take (j.toNat - i.toNat) := by
  unfold cutL
  rw [sIx_pos hi, sIx_pos hj]
  apply List.ext_getElem?
  intro k
  simp only [List.getElem?_take, List.getElem?_drop]
  by_cases h1 : i.toNat ≤ xs.length
  · rw [Nat.min_eq_left h1]
    by_cases h3 : i.toNat + k < xs.length
    · by_cases h4 : k < j.toNat - i.toNat
      · rw [if_pos (by omega), if_pos h4]
      · rw [if_neg (by omega), if_neg h4]
    · rw [List.getElem?_eq_none (by omega)]
      split <;> split <;> rfl
  · rw [List.getElem?_eq_none (show xs.length ≤ min i.toNat xs.length + k by omega), List.getElem?_eq_none (show xs.length ≤ i.toNat + k by omega)]
    split <;> split <;> rfl
theorem cutL_np {α : Type} (xs : List α) {j : Int} (hj : 0 ≤ j) : cutL xs none (some j) = xs.take j.toNat := by
  unfold cutL
  rw [sIx_pos hj]
  show (xs.drop 0).take (min j.toNat xs.length - 0) = _
  rw [List.drop_zero, Nat.sub_zero]
  by_cases h2 : j.toNat ≤ xs.length
  · rw [Nat.min_eq_left h2]
  · rw [Nat.min_eq_right (by omega), List.take_of_length_le (by omega), List.take_of_length_le (by omega)]
theorem cutL_pn {α : Type} (xs : List α) {i : Int} (hi : 0 ≤ i) : cutL xs (some i) none = xs.drop i.toNat := by
  unfold cutL
  rw [sIx_pos hi]
  show (xs.drop _).take (xs.length - _) = _
  by_cases h1 : i.toNat ≤ xs.length
  · rw [Nat.min_eq_left h1, List.take_of_length_le (by rw [List.length_drop]; omega)]
  · rw [Nat.min_eq_right (by omega), List.drop_of_length_le (by omega), List.drop_of_length_le (by omega)]
    simp
theorem cutL_nm {α : Type} (xs : List α) (k : Nat) (hk : 0 < k) : cutL xs none (some (-(k : Int))) = xs.take (xs.length - k) := by
  unfold cutL
  rw [sIx_neg (by omega)]
  show (xs.drop 0).take (_ - 0) = _
  rw [List.drop_zero, Nat.sub_zero]
  congr 1
  omega
theorem cutL_pm {α : Type} (xs : List α) (a k : Nat) (hk : 0 < k) : cutL xs (some (a : Int)) (some (-(k : Int))) = (xs.drop a).take (xs.length - k - a) := by
  unfold cutL
  rw [sIx_neg (by omega), sIx_pos (by omega), Int.toNat_natCast]
  have e : (-(k : Int) + (xs.length : Int)).toNat = xs.length - k := by omega
  rw [e]
  by_cases h1 : a ≤ xs.length
  · rw [Nat.min_eq_left h1]
  · rw [Nat.min_eq_right (by omega), List.drop_of_length_le (by omega), List.drop_of_length_le (by omega)]
    simp
theorem at_nat {α : Type} (xs : List α) (k : Nat) (h : k < xs.length) : atI xs (k : Int) = some xs[k] := by
  unfold atI ixN
  rw [if_pos (by omega), if_pos (by omega)]
  simp [h]
theorem atI_pos {α : Type} (xs : List α) {i : Int} (h0 : 0 ≤ i) (h : i.toNat < xs.length) : atI xs i = some xs[i.toNat] := by
  unfold atI ixN
  rw [if_pos h0, if_pos (by omega)]
  simp [h]
theorem atI_m1 {α : Type} (xs : List α) (x : α) : atI (xs ++ [x]) (-1) = some x := by
  have hl : (xs ++ [x]).length = xs.length + 1 := by simp
  unfold atI ixN
  rw [hl, if_neg (by omega), if_pos (by omega)]
  have e : ((-1 : Int) + ((xs.length + 1 : Nat) : Int)).toNat = xs.length := by omega
  rw [e]
  simp
theorem ixN_nat {n k : Nat} (h : k < n) : ixN n (k : Int) = some k := by
  unfold ixN
  rw [if_pos (by omega), if_pos (by omega)]
  simp
theorem lt1 (a b : Nat) : ([a] : Tx) < [b] ↔ a < b := by
  constructor
  · intro h
    cases h with
    | rel h => exact h
    | cons h => cases h
  · intro h
    exact .rel h
theorem numT_nat (n : Nat) : numT (n : Int) = TL.numL n := TL.tl_num n
end Mv

set_option Elab.async false
set_option linter.all false
set_option maxRecDepth 100000
set_option maxHeartbeats 4000000
namespace Mv
open PySem PySem.Spec PyProof.Rows L2
/-! ### texts taken apart -/
def unS (x : Str) : Tx := x.cps.toList
theorem mk_unS (x : Str) : mkS (unS x) = x := by
  unfold mkS unS
  rw [Array.toArray_toList]
def strL (xs : List Str) : PV := .lst (xs.map fun x => .str (unS x))
theorem strs_rep {K : PySem.W.Frag} {F : Hp} : ∀ xs : List Str, RepFs K F (xs.map fun x => .str (unS x)) (xs.map V.str)
  | [] => by rw [List.map_nil, List.map_nil, RepFs]
  | x :: r => by
    rw [List.map_cons, List.map_cons, RepFs]
    exact ⟨_, _, rfl, repS.mpr (by rw [mk_unS]), strs_rep r⟩
/-- x.split(y) -/
def pSplit (p q : PV) : Option PV := match p with
  | .str s => (match q with
    | .str t => if t ≠ [] ∧ s.length + 2 ≤ 16777216 then some (strL (Txt.split (mkS s) (mkS t))) else none
    | _ => none)
  | _ => none
def asStr (p : PV) : Option Tx := match p with
  | .str s => some s
  | _ => none
section
variable {X : Cx} {K : PySem.W.Frag} {W : WX} {a b : Expr} {ta tb : TE} {sa sb : SE PV} {pos : Pos} {es : List Expr} {t : TA} {s : SE (List PV)}
theorem newStrs_ev {B : Hp} {xs : List Str} : Ev K B (fr (RepF K)) W (fun _ H Q => rNewStrs xs H Q) (SE.ret (strL xs)) :=
  ev_new (o := .lst (xs.map V.str)) (fun c F' s h => rep_lst h (strs_rep xs)) fun F H sB sF Q k => k
theorem qe_split {apos : Pos} (ha : QE X W a ta sa) (hb : QE X W b tb sb) (hs : starEach [b] X.env = [(false, eval b X.env)] := by rfl) (hbase : attributeBase a "split" X.env (eval a X.env) = eval a X.env := by rfl) (hline : (apos.endLine == pos.line) = true := by rfl) :
    QE X W (.Call (.Attribute a "split" apos) [b] [] pos) (tM1 (fun x xs H Q => ∃ a b, x = .str a ∧ xs = [.str b] ∧ (b.length == 0) = false ∧ a.length + 2 ≤ sizeLine ∧ rNewStrs (Txt.split a b) H Q) ta tb) (eM1 pSplit sa sb) := by
  refine ⟨pe_split ha.pe hb.pe hs hbase hline, ev_m1 (fun z q w x y hw B W hx hy => ?_) ha.ev hb.ev⟩
  unfold pSplit at hw
  cases q with
  | str t =>
    dsimp only at hw
    split at hw
    · rename_i hc
      cases hw
      refine (newStrs_ev (xs := Txt.split (mkS z) (mkS t))).imp fun σ H Q k => ⟨mkS z, mkS t, repS.mp hx, by rw [repS.mp hy], ?_, by rw [mkS_len, line_eq]; exact hc.2, k⟩
      rw [mkS_len]
      cases t with
      | nil => exact absurd rfl hc.1
      | cons c r => rfl
    · cases hw
  | _ => cases hw
/-- x.split(y, k) -/
def pSplitK (p : PV) (qs : List PV) : Option PV := match p with
  | .str s => (match qs with
    | [.str t, .int k] => if (t ≠ [] ∧ s.length + 2 ≤ 16777216) ∧ -(2 ^ 63) ≤ k ∧ k < 2 ^ 63 then some (strL (Txt.splitMax (mkS s) (mkS t) k)) else none
    | _ => none)
  | _ => none
def eMs (f : PV → List PV → Option PV) (s : SE PV) (u : SE (List PV)) : SE PV := s.bind fun p => match p with
  | .str z => u.bind fun q => ofO (f (.str z) q)
  | _ => ofO none
def rSplitK : V → List V → Hp → VK → Prop := fun x xs H Q => ∃ (a b : Str) (k : Int), x = .str a ∧ xs = [.str b, .int k] ∧ (b.length == 0) = false ∧ -(2 ^ 63) ≤ k ∧ k < 2 ^ 63 ∧ a.length + 2 ≤ sizeLine ∧ rNewStrs (Txt.splitMax a b k) H Q
theorem qe_splitK {apos : Pos} {e : Expr} (ha : QE X W a ta sa) (hb : QA X W (e :: es) t s) (hK : X.K = K := by rfl) (hbase : attributeBase a "split" X.env (eval a X.env) = eval a X.env := by rfl)
    (hfew : ((backTo pos (starEach (e :: es) X.env)).all (fun x => !x.1) && (backToKw pos (keywordEach [] X.env)).all (fun x => x.1.isSome)
      && decide ((e :: es).length + ([] : List Keyword).length + (if ([] : List Keyword).isEmpty then 0 else 1) < 30)) = true := by rfl)
    (hline : (apos.endLine == pos.line) = true := by rfl) (hs : starEach (e :: es) X.env = (false, eval e X.env) :: starEach es X.env := by rfl) (hplain : (backTo pos (starEach es X.env)).any (·.1) = false := by rfl) :
    QE X W (.Call (.Attribute a "split" apos) (e :: es) [] pos) (tBM K "str" rSplitK ta t) (eMs pSplitK sa s) := by
  subst hK
  refine ⟨pe_bm PySem.F.plainAttrs_str PySem.F.slot_str_split PySem.F.type_str_split mt_splitMax ha.pe hb.pa hbase hfew hline hs hplain, ha.ev.bind fun p x B1 s1 hp => ?_⟩
  cases p with
  | str z =>
    have ex := repS.mp hp
    refine Ev.imp (te := fun σ H Q => t σ H fun ys H2 => rSplitK x ys H2 Q) ?_ fun σ H Q q => ⟨by rw [ex]; rfl, q⟩
    refine (hb.ev.le (nob_le _)).bind fun qs ys B2 s2 hq => Ev.ofO fun w hw => ?_
    unfold pSplitK at hw
    dsimp only at hw
    split at hw
    · rename_i u k
      split at hw
      · rename_i hc
        cases hw
        rw [RepFs] at hq
        obtain ⟨v1, r1, rfl, g1, g2⟩ := hq
        rw [RepFs] at g2
        obtain ⟨v2, r2, rfl, g3, g4⟩ := g2
        rw [RepFs] at g4
        subst g4
        refine (newStrs_ev (xs := Txt.splitMax (mkS z) (mkS u) k)).imp fun σ H Q kk => ⟨mkS z, mkS u, k, ex, by rw [repS.mp g1, repI.mp g3], ?_, hc.2.1, hc.2.2, by rw [mkS_len, line_eq]; exact hc.1.2, kk⟩
        rw [mkS_len]
        cases u with
        | nil => exact absurd rfl hc.1.1
        | cons c r => rfl
      · cases hw
    · cases hw
  | _ => exact fun ρ σ F H A sB st Q nb => absurd rfl nb
end
end Mv

set_option Elab.async false
set_option linter.all false
set_option maxRecDepth 100000
set_option maxHeartbeats 4000000
namespace Mv
open PySem PySem.Spec PyProof.Rows L2
/-! ### list(x), enumerate of tuples -/
def eLOf (s : SE (List PV)) : SE MV := s.bind fun ps => match ps with
  | [p] => ofO (pListM p)
  | _ => ofO none
section
variable {X : Cx} {K : PySem.W.Frag} {W : WX} {a b e : Expr} {ta tb : TE} {sa sb : SE PV} {pos p : Pos} {es : List Expr} {t : TA} {s : SE (List PV)}
def rListOf (K : PySem.W.Frag) : List V → Hp → VK → Prop := fun xs H Q => ∃ p ys, xs = [.ref p] ∧ (SqL K H p ys ∨ SqT K H p ys) ∧ ∀ l, H l = none → Q (.ref l) (upd H l (.lst ys))
theorem km_list_of (hm : X.mg "list" = none) (ha : QA X W [e] t s) (hK : X.K = K := by rfl) (hg : Gl X "list" := by rfl) (he : starEach [e] X.env = (false, eval e X.env) :: starEach [] X.env := by rfl) (hpl : (backTo pos (starEach [] X.env)).any (·.1) = false := by rfl) :
    QM X W (.Call (.Name "list" p) [e] [] pos) (tCB (rListOf K) t) (eLOf s) := by
  subst hK
  refine ⟨pe_callTy call_list_of hg hm PyProof.Rows.boot_list ha.pa (by decide) (by decide) he hpl, ha.ev.bind fun ps vs B1 s1 h => ?_⟩
  match ps, h with
  | [q], h =>
    rw [RepFs] at h
    obtain ⟨v, r, rfl, h1, h2⟩ := h
    rw [RepFs] at h2
    subst h2
    cases q with
    | lst xs =>
      rw [RepF] at h1
      obtain ⟨a, ys, rfl, e2, e3⟩ := h1
      exact ev_newM (r := fun H Q => rListOf X.K [.ref a] H Q) (o := .lst ys) (fun c F' H' s h => rep_ml h (RepFs.mono s _ _ e3)) fun F H sB sF Q q => ⟨a, ys, rfl, .inl (SqL.of (sF _ _ (sB _ _ e2))), q⟩
    | tup xs =>
      rw [RepF] at h1
      obtain ⟨a, ys, rfl, e2, e3⟩ := h1
      exact ev_newM (r := fun H Q => rListOf X.K [.ref a] H Q) (o := .lst ys) (fun c F' H' s h => rep_ml h (RepFs.mono s _ _ e3)) fun F H sB sF Q q => ⟨a, ys, rfl, .inr (same_t (sB.trans sF) e2), q⟩
    | _ => exact fun ρ σ F H A sB st Q nb => absurd rfl nb
  | [], h => exact fun ρ σ F H A sB st Q nb => absurd rfl nb
  | _ :: _ :: _, h => exact fun ρ σ F H A sB st Q nb => absurd rfl nb
end
/-! ### displays of dicts, of told words -/
structure QPs (X : Cx) (W : WX) (pos : Pos) (keys : List (Option Expr)) (values : List Expr) (zs : List Tx) (trs : List (TE × TE)) (ta : TA) (s : SE (List MV)) : Prop where
  pp : PPs X pos keys values trs
  ev : Ev X.K nob (RepMs X.K) W ta s
  eq : tPairs trs = fun σ H Q => ta σ H fun vs H' => Q ((zs.map fun z => V.str (mkS z)).zip vs) H'
  al : keys.all (·.isSome) = true
  ln : keys.length = values.length
  kl : keys.length = zs.length
  vl : ∀ ρ ms ρ', s ρ = .ok ms ρ' → ms.length = zs.length
section
variable {X : Cx} {K : PySem.W.Frag} {W : WX} {a b e : Expr} {ta tb te : TE} {sa sb : SE PV} {pos p : Pos} {es : List Expr} {t : TA} {keys : List (Option Expr)} {values : List Expr} {zs : List Tx} {trs : List (TE × TE)} {m : SE MV} {s : SE (List MV)}
theorem qps_nil : QPs X W pos [] [] [] [] tNil mNil := ⟨pps_nil, (qms_nil (X := X)).ev, rfl, rfl, rfl, rfl, fun ρ ms ρ' e => by cases e; rfl⟩
theorem qps_cons (z : Tx) {x : Str} {kp : Nat} {p2 : Pos} (hv : QM X W a te m) (hr : QPs X W pos keys values zs trs t s) (hx : x = mkS z := by rfl) :
    QPs X W pos (some (.Constant (.str x) kp p2) :: keys) (a :: values) (z :: zs) ((tC (.str x), te) :: trs) (tCons te t) (mCons m s) := by
  refine ⟨pps_cons pe_str hv.pe hr.pp, Ev.consM hv.ev hr.ev, ?_, ?_, congrArg (· + 1) hr.ln, congrArg (· + 1) hr.kl, ?_⟩
  · funext σ H Q
    subst hx
    show te σ H (fun y H2 => tPairs trs σ H2 fun ps H3 => Q ((.str (mkS z), y) :: ps) H3) = _
    rw [hr.eq]
    rfl
  · rw [List.all_cons, hr.al]
    rfl
  · intro ρ ms ρ' e
    have eb := bind_eq m (fun m => s.bind fun ms => SE.ret (m :: ms)) ρ
    cases e1 : m ρ with
    | ok m0 ρ1 =>
      rw [e1] at eb
      have eb2 := bind_eq s (fun ms => SE.ret (m0 :: ms)) ρ1
      cases e2 : s ρ1 with
      | ok ms0 ρ2 =>
        rw [e2] at eb2
        have e3 := e.symm.trans (eb.trans eb2)
        cases e3
        exact congrArg (· + 1) (hr.vl _ _ _ e2)
      | exc x ρ2 => rw [e2] at eb2; cases e.symm.trans (eb.trans eb2)
      | bad => rw [e2] at eb2; cases e.symm.trans (eb.trans eb2)
    | exc x ρ2 => rw [e1] at eb; cases e.symm.trans eb
    | bad => rw [e1] at eb; cases e.symm.trans eb
theorem mergeK_new : ∀ (more kvs : List (Key × V)), ((kvs ++ more).map (·.1)).Nodup → mergeK kvs more = kvs ++ more
  | [], kvs, h => by
    rw [List.append_nil]
    rfl
  | (k, v) :: r, kvs, h => by
    have e : valV kvs k = none := by
      cases q : valV kvs k with
      | none => rfl
      | some u =>
        rw [List.map_append, List.nodup_append] at h
        unfold valV at q
        cases q2 : kvs.find? fun kv => decide (kv.1 = k) with
        | none => rw [q2] at q; cases q
        | some kv =>
          have h1 := List.find?_some q2
          have h2 := List.mem_of_find?_eq_some q2
          exact absurd (of_decide_eq_true h1) (h.2.2 _ (List.mem_map_of_mem h2) _ (List.mem_cons_self ..))
    show mergeK (putK kvs k v) r = _
    rw [putK_new v e, mergeK_new r (kvs ++ [(k, v)]) (by rw [List.append_assoc]; exact h), List.append_assoc]
    rfl
theorem zip_vv : ∀ (zs : List Tx) (vs : List V), (zs.map fun z => V.str (mkS z)).zip vs = (((zs.map fun z => (.inr (mkS z) : Key)).zip vs)).map fun kv => (kV kv.1, kv.2)
  | [], vs => rfl
  | z :: zs, [] => rfl
  | z :: zs, v :: vs => by
    rw [List.map_cons, List.zip_cons_cons, zip_vv zs vs]
    rfl
def sDis (zs : List Tx) (s : SE (List MV)) : SE MV := s.bind fun ms => SE.ret (.md (zs.map .inr) ms)
theorem qm_disp (h : QPs X W pos keys values zs trs t s) (h0 : keys ≠ [] := by decide) (h15 : keys.length ≤ 15 := by decide) (hnd : (zs.map fun z => (.inr (mkS z) : Key)).Nodup) : QM X W (.Dict keys values pos) (tDisp trs) (sDis zs s) := by
  refine ⟨pe_disp h.pp h.al h.ln h0 h15, ?_⟩
  intro ρ σ F H A sB st Q nb hok hex
  have eb := bind_eq s (fun ms => SE.ret (MV.md (zs.map .inr) ms)) ρ
  intro p hp
  rw [h.eq]
  have hF : F p = none := by
    cases q : F p with
    | none => rfl
    | some u => rw [st.sub _ _ q] at hp; cases hp
  have hA : p ∉ A := fun hm => st.there p hm hp
  have st0 : StOk X.K ρ σ F (upd H p (.dK [])) A := st.grow (Same.refl F) (fun b o q => by rw [upd_ne (ne_of_none q hF)]; exact st.sub b o q) (fun a ha o q => by rw [upd_ne (by intro y; subst y; exact hA ha)]; exact q) st.out
  have go0 : Go F H A F (upd H p (.dK [])) A := ⟨Same.refl _, fun b o q _ => by rw [upd_ne (ne_of_none q hp)]; exact q, fun b q y => absurd q y, fun b hb => .inr hb⟩
  refine h.ev ρ σ F (upd H p (.dK [])) A (nob_le _) st0 _ (fun z => ?_) (fun ms ρ1 e1 vs F1 H1 A1 f st1 h1 nd1 hn1 g1 => ?_) (fun x ρ1 e1 cls d F1 H1 A1 st1 g1 hx => ?_)
  · rw [z] at eb; exact nb eb
  · rw [e1] at eb
    have hp1 : H1 p = some (.dK []) := g1.k p _ upd_same hA
    have nf : p ∉ f ++ A1 := fun hm => by
      rcases g1.o p hm with z | z
      · rw [upd_same] at z; cases z
      · exact hA z
    have hF1 : F1 p = none := by
      cases q : F1 p with
      | none => rfl
      | some u =>
        rcases g1.n p hF (by rw [q]; simp) with z | z
        · rw [upd_same] at z; cases z
        · exact absurd z hA
    have hl : vs.length = zs.length := by
      rw [h1.length]
      exact h.vl _ _ _ e1
    refine ⟨hp1, (zs.map fun z => (.inr (mkS z) : Key)).zip vs, zip_vv zs vs, ?_, ?_⟩
    · rw [List.length_zip, List.length_map]
      have := h.kl
      omega
    have ek : ((zs.map fun z => (.inr (mkS z) : Key)).zip vs).map (·.1) = zs.map fun z => (.inr (mkS z) : Key) := by
      rw [List.map_fst_zip]
      rw [List.length_map]; omega
    have ev2 : ((zs.map fun z => (.inr (mkS z) : Key)).zip vs).map (·.2) = vs := by
      rw [List.map_snd_zip]
      rw [List.length_map]; omega
    rw [mergeK_new _ [] (by rw [List.nil_append, ek]; exact hnd), List.nil_append]
    have nA1 : ∀ a ∈ A1, a ≠ p := fun a ha z => nf (List.mem_append_right _ (z ▸ ha))
    have nfp : ∀ a ∈ f, a ≠ p := fun a ha z => nf (List.mem_append_left _ (z ▸ ha))
    refine hok _ ρ1 eb (.ref p) F1 _ A1 (p :: f) (st1.grow (Same.refl F1) (fun b o q => by rw [upd_ne (ne_of_none q hF1)]; exact st1.sub b o q) (fun a ha o q => by rw [upd_ne (nA1 a ha)]; exact q) st1.out) ?_ ?_ ?_ ?_
    · rw [RepM]
      refine ⟨p, _, f, rfl, upd_same, ?_, rfl, ?_⟩
      · rw [ek, List.map_map]
        rfl
      · rw [ev2]
        exact RepMs.mono (Same.refl F1) ms vs f (fun a ha o q => by rw [upd_ne (nfp a ha)]; exact q) h1
    · rw [List.cons_append, List.nodup_cons]
      exact ⟨nf, nd1⟩
    · intro x hx
      rcases List.mem_cons.mp hx with z | z
      · rw [z]; exact hF1
      · exact hn1 x z
    · have g2 := Go.trans go0 g1
      refine ⟨g2.f, fun b o q hb => ?_, g2.n, fun b hb => ?_⟩
      · rw [upd_ne (ne_of_none q hp)]
        exact g2.k b o q hb
      · rcases List.mem_cons.mp hb with z | z
        · rw [z]; exact .inl hp
        · exact g2.o b z
  · rw [e1] at eb
    exact hex x ρ1 eb cls d F1 H1 A1 st1 (Go.trans go0 g1) hx
end
end Mv

set_option Elab.async false
set_option linter.all false
set_option maxRecDepth 100000
set_option maxHeartbeats 4000000
namespace Mv
open PySem PySem.Spec PyProof.Rows L2
/-! ### reading dicts -/
def dGet (α : Type) : List PKy → List α → PKy → Option α
  | k' :: ks, v :: vs, k => if k' = k then some v else dGet α ks vs k
  | _, _, _ => none
def pKey : PV → Option PKy
  | .str s => some (.inr s)
  | .int i => some (.inl i)
  | _ => none
theorem toKey_inj {a b : PKy} (h : toKey a = toKey b) : a = b := by
  cases a with
  | inl i =>
    cases b with
    | inl j => exact congrArg Sum.inl (Sum.inl.inj h)
    | inr t => cases h
  | inr s =>
    cases b with
    | inl j => cases h
    | inr t => exact congrArg Sum.inr (mkS_inj (Sum.inr.inj h))
theorem key_rep {K : PySem.W.Frag} {F : Hp} {p : PV} {v : V} {k : PKy} (h : pKey p = some k) (hp : RepF K F p v) : v = kV (toKey k) := by
  cases p with
  | str s => cases h; exact repS.mp hp
  | int i => cases h; exact repI.mp hp
  | _ => cases h
theorem dGet_val {K : PySem.W.Frag} {F : Hp} {k : PKy} : ∀ {ks : List PKy} {vs : List PV} {kvs : List (Key × V)}, kvs.map (·.1) = ks.map toKey → RepFs K F vs (kvs.map (·.2)) →
    (dGet PV ks vs k = none ∧ valV kvs (toKey k) = none) ∨ ∃ p v, dGet PV ks vs k = some p ∧ valV kvs (toKey k) = some v ∧ RepF K F p v
  | [], vs, [], h, hr => .inl ⟨by cases vs <;> rfl, rfl⟩
  | [], vs, _ :: _, h, hr => by cases h
  | _ :: _, vs, [], h, hr => by cases h
  | k1 :: ks, [], kv :: kvs, h, hr => by
    rw [List.map_cons, RepFs] at hr
    cases hr
  | k1 :: ks, p :: vs, kv :: kvs, h, hr => by
    rw [List.map_cons, RepFs] at hr
    obtain ⟨v, r, e1, e2, e3⟩ := hr
    cases e1
    rw [List.map_cons, List.map_cons] at h
    injection h with h1 h2
    by_cases hk : k1 = k
    · subst hk
      exact .inr ⟨p, kv.2, by rw [dGet, if_pos rfl], valV_pos h1, e2⟩
    · rw [dGet, if_neg hk, valV_neg fun z => hk (toKey_inj (h1.symm.trans z))]
      exact dGet_val h2 e3
def rDGet : R2 := fun x y H Q => ∃ a v, x = .ref a ∧ DGet H a y (some v) ∧ Q v H
def pIxD (p q : PV) : Option PV := match p with
  | .dic ks vs => (pKey q).bind fun k => dGet PV ks vs k
  | _ => pIx p q
section
variable {X : Cx} {K : PySem.W.Frag} {W : WX} {a b e : Expr} {ta tb te : TE} {sa sb : SE PV} {pos p : Pos}
theorem ix_dict (hu : X.A.units + 1 < cLine) : IxR X rDGet := by
  intro value slice pins s σ H x y v u Q I rx ry h hs
  obtain ⟨a, w, rfl, g, q⟩ := h
  obtain rfl : v = Value.ref a := rx
  have hT := dict_typeIs I g
  unfold subscriptTail
  refine wpAny_bind ?_
  rw [getitemInPython_of_ne hT.not_modules]
  refine wpAny_bind (wpAny_specialOf hT PySem.F.slot_dict_getitem.lookup ?_)
  have fin : wpAny (model X.prog X.w) X.A (subscripted slice false (.ref a) u) (fun r s₃ => wpAny (model X.prog X.w) X.A (letTemporaryGo value (.ref a) r >>= fun _ => pure r) (EP X pins σ Q) X.xe s₃) X.xe s := by
    rw [hs]
    exact wpAny_operating (wpAny_mono (d_getItem hu I g ry fun w' s3 I3 rw' => ⟨w, H, I3, rw', q⟩ : wpAny (model X.prog X.w) X.A (getItem (.ref a) u) (EP X pins σ Q) X.xe s) (fun r s₃ h₃ => wpAny_bind (wpAny_letTemporaryGo (wpAny_pure h₃))) fun _ _ x => x)
  first
    | exact wpAny_pure (wpAny_bind fin)
    | exact wpAny_bind (wpAny_pure (wpAny_bind fin))
    | exact wpAny_bind fin
def rIxD (K : PySem.W.Frag) : R2 := fun x y H Q => rDGet x y H Q ∨ rIx K x y H Q
theorem pop_ixD {K : PySem.W.Frag} : POp K (rIxD K) pIxD := by
  intro p q z x y hz B W hp hq
  have other : pIx p q = some z → Ev K B (fr (RepF K)) W (fun _ H Q => rIxD K x y H Q) (SE.ret z) := fun h =>
    (pop_ix p q z x y h B W hp hq).imp fun σ H Q k => .inr k
  cases p with
  | dic ks vs =>
    unfold pIxD at hz
    dsimp only at hz
    cases ek : pKey q with
    | none => rw [ek] at hz; cases hz
    | some k =>
      rw [ek] at hz
      have hz2 : dGet PV ks vs k = some z := hz
      rw [RepF] at hp
      obtain ⟨a, kvs, rfl, e2, e3, e4⟩ := hp
      rcases dGet_val (k := k) e3 e4 with ⟨h1, _⟩ | ⟨p2, v, h1, h2, h3⟩
      · rw [h1] at hz2; cases hz2
      · rw [h1] at hz2
        cases hz2
        exact ev_now h3 fun F H sB sF Q k2 => .inl ⟨a, v, rfl, by rw [key_rep ek hq, ← h2]; exact DGet.k (sF _ _ (sB _ _ e2)), k2⟩
  | _ => exact other hz
theorem ke_ixD (hr : ∃ k, Room k X.A) (ha : QE X W a ta sa) (hb : QE X W b tb sb) (hK : X.K = K := by rfl) (hs : PlainIx b := by exact fun _ _ => rfl) : QE X W (.Subscript a b pos) (tOp (rIxD K) ta tb) (eOp pIxD sa sb) :=
  hK ▸ ⟨pe_ix ((ix_dict (let ⟨_, r⟩ := hr; by have := r.un; omega)).or ix_seq) ha.pe hb.pe hs, ev_op pop_ixD ha.ev hb.ev⟩
end
end Mv

set_option Elab.async false
set_option linter.all false
set_option maxRecDepth 100000
set_option maxHeartbeats 4000000
namespace Mv
open PySem PySem.Spec PyProof.Rows L2
/-! ### in a dict -/
def pyInD (p q : PV) : Option Bool := match q with
  | .dic ks vs => (pKey p).map fun k => (dGet PV ks vs k).isSome
  | _ => pyIn p q
def pInD (p q : PV) : Option PV := (pyInD p q).map .bl
def pNotInD (p q : PV) : Option PV := (pyInD p q).map fun b => .bl (!b)
def rInK : R2 := fun y x H Q => ∃ a o, x = .ref a ∧ DGet H a y o ∧ Q (.bl o.isSome) H
def rNotInK : R2 := fun y x H Q => ∃ a o, x = .ref a ∧ DGet H a y o ∧ Q (.bl (!o.isSome)) H
def rInAD (K : PySem.W.Frag) : R2 := fun x y H Q => rInK x y H Q ∨ rInA K x y H Q
def rNotInAD (K : PySem.W.Frag) : R2 := fun x y H Q => rNotInK x y H Q ∨ rNotInA K x y H Q
theorem dic_at {K : PySem.W.Frag} {F : Hp} {ks : List PKy} {vs : List PV} {y x : V} {p : PV} {k : PKy} (hk : pKey p = some k) (hp : RepF K F p y) (hq : RepF K F (.dic ks vs) x) :
    ∃ a o, x = .ref a ∧ (∀ H, Same F H → DGet H a y o) ∧ ((dGet PV ks vs k = none ∧ o = none) ∨ ∃ q v, dGet PV ks vs k = some q ∧ o = some v ∧ RepF K F q v) := by
  rw [RepF] at hq
  obtain ⟨a, kvs, rfl, e2, e3, e4⟩ := hq
  refine ⟨a, valV kvs (toKey k), rfl, fun H s => by rw [key_rep hk hp]; exact DGet.k (s _ _ e2), ?_⟩
  rcases dGet_val (k := k) e3 e4 with ⟨h1, h2⟩ | ⟨p2, v, h1, h2, h3⟩
  · exact .inl ⟨h1, h2⟩
  · exact .inr ⟨p2, v, h1, h2, h3⟩
theorem pop_inD {K : PySem.W.Frag} : POp K (rInAD K) pInD := by
  intro p q z x y hz B W hp hq
  have other : pIn p q = some z → Ev K B (fr (RepF K)) W (fun _ H Q => rInAD K x y H Q) (SE.ret z) := fun h =>
    (pop_in p q z x y h B W hp hq).imp fun σ H Q k => .inr k
  cases q with
  | dic ks vs =>
    cases ek : pKey p with
    | none => unfold pInD pyInD at hz; simp only [ek] at hz; cases hz
    | some k =>
      unfold pInD pyInD at hz
      simp only [ek] at hz
      cases hz
      obtain ⟨a, o, rfl, hg, c⟩ := dic_at ek hp hq
      have e : o.isSome = (dGet PV ks vs k).isSome := by
        rcases c with ⟨h1, h2⟩ | ⟨q, v, h1, h2, _⟩ <;> rw [h1, h2] <;> rfl
      exact ev_now (v := .bl _) (repB.mpr rfl) fun F H sB sF Q k2 => .inl ⟨a, o, rfl, hg H (sB.trans sF), by rw [e]; exact k2⟩
  | _ => exact other hz
theorem pop_notInD {K : PySem.W.Frag} : POp K (rNotInAD K) pNotInD := by
  intro p q z x y hz B W hp hq
  have other : pNotIn p q = some z → Ev K B (fr (RepF K)) W (fun _ H Q => rNotInAD K x y H Q) (SE.ret z) := fun h =>
    (pop_notIn p q z x y h B W hp hq).imp fun σ H Q k => .inr k
  cases q with
  | dic ks vs =>
    cases ek : pKey p with
    | none => unfold pNotInD pyInD at hz; simp only [ek] at hz; cases hz
    | some k =>
      unfold pNotInD pyInD at hz
      simp only [ek] at hz
      cases hz
      obtain ⟨a, o, rfl, hg, c⟩ := dic_at ek hp hq
      have e : o.isSome = (dGet PV ks vs k).isSome := by
        rcases c with ⟨h1, h2⟩ | ⟨q, v, h1, h2, _⟩ <;> rw [h1, h2] <;> rfl
      exact ev_now (v := .bl _) (repB.mpr rfl) fun F H sB sF Q k2 => .inl ⟨a, o, rfl, hg H (sB.trans sF), by rw [e]; exact k2⟩
  | _ => exact other hz
/-- d.get(k, x) -/
def pGet2 (d k x : PV) : Option PV := match d with
  | .dic ks vs => (pKey k).map fun k => (dGet PV ks vs k).getD x
  | _ => none
def eGet2 (sd sk sx : SE PV) : SE PV := sd.bind fun d => match d with
  | .dic ks vs => sk.bind fun k => sx.bind fun x => ofO (pGet2 (.dic ks vs) k x)
  | _ => ofO none
section
variable {X : Cx} {K : PySem.W.Frag} {W : WX} {a b e o f : Expr} {td ty tx : TE} {sd sk sx : SE PV} {pos p apos cpos : Pos}
theorem op_inK (hu : X.A.units + 1 < cLine) : OpR X (compareOp .In) rInK := by
  intro pins s σ H x y v u Q I rx ry h
  obtain ⟨a, o, rfl, g, q⟩ := h
  obtain rfl : u = Value.ref a := ry
  exact d_in hu I g rx fun s3 I3 => ⟨.bl o.isSome, H, I3, rfl, q⟩
theorem op_notInK (hu : X.A.units + 1 < cLine) : OpR X (compareOp .NotIn) rNotInK := by
  intro pins s σ H x y v u Q I rx ry h
  obtain ⟨a, o, rfl, g, q⟩ := h
  obtain rfl : u = Value.ref a := ry
  exact d_notIn hu I g rx fun s3 I3 => ⟨.bl (!o.isSome), H, I3, rfl, q⟩
theorem kq_inD (hr : ∃ k, Room k X.A) (hK : X.K = K := by rfl) : CmpQ X .In (rInAD K) pInD := hK ▸ ⟨(op_inK (let ⟨_, r⟩ := hr; by have := r.un; omega)).or (op_inA hr), pop_inD⟩
theorem kq_notinD (hr : ∃ k, Room k X.A) (hK : X.K = K := by rfl) : CmpQ X .NotIn (rNotInAD K) pNotInD := hK ▸ ⟨(op_notInK (let ⟨_, r⟩ := hr; by have := r.un; omega)).or (op_notInA hr), pop_notInD⟩
theorem qe_get2 (hr : ∃ k, Room k X.A) (hd : QE X W o td sd) (hk : QE X W e ty sk) (hx : QE X W f tx sx) (m : M2 X o "get" apos e f cpos := by exact ⟨rfl, rfl, rfl, rfl⟩) :
    QE X W (.Call (.Attribute o "get" apos) [e, f] [] cpos) (tDGet2 td ty tx) (eGet2 sd sk sx) := by
  refine ⟨pe_dget2 (let ⟨_, r⟩ := hr; by have := r.un; omega) hd.pe hk.pe hx.pe m, hd.ev.bind fun d x B1 s1 hp => ?_⟩
  cases d with
  | dic ks vs =>
    have hp' := hp
    rw [RepF] at hp'
    obtain ⟨a, kvs, rfl, e2, e3, e4⟩ := hp'
    intro ρ σ F H A sB st Q nb hok hex
    refine ⟨a, rfl, .inl ⟨kvs, .inl (st.sub _ _ (sB _ _ e2))⟩, ?_⟩
    refine ((hk.ev.le (nob_le B1)).bind fun k y B2 s2 hy => (hx.ev.le (nob_le B2)).bind fun z w B3 s3 hw => Ev.ofO (rep := fr (RepF X.K)) (te := fun _ H Q => ∃ o, DGet H a y o ∧ Q (o.getD w) H) fun u hu => ?_) ρ σ F H A sB st Q nb hok hex
    unfold pGet2 at hu
    cases ek : pKey k with
    | none => simp only [ek] at hu; cases hu
    | some k2 =>
      simp only [ek] at hu
      cases hu
      obtain ⟨a2, o, ea, hg, c⟩ := dic_at ek (RepF.mono s3 _ _ hy) (RepF.mono (s2.trans s3) _ _ hp)
      cases ea
      rcases c with ⟨h1, h2⟩ | ⟨q, v, h1, h2, h3⟩
      · simp only [h1, Option.getD]
        exact ev_now (r := fun H Q => ∃ o, DGet H a y o ∧ Q (o.getD w) H) hw fun F H sB sF Q k2 => ⟨o, hg H (sB.trans sF), by rw [h2]; exact k2⟩
      · simp only [h1, Option.getD]
        exact ev_now (r := fun H Q => ∃ o, DGet H a y o ∧ Q (o.getD w) H) h3 fun F H sB sF Q k2 => ⟨o, hg H (sB.trans sF), by rw [h2]; exact k2⟩
  | _ => exact fun ρ σ F H A sB st Q nb => absurd rfl nb
end
end Mv

set_option Elab.async false
set_option linter.all false
set_option maxRecDepth 100000
set_option maxHeartbeats 4000000
namespace PySem
open Sem (wp)
open AutoSeq1 (wpAny_loadPart')
theorem Mv_meets_enumT (l : Addr) (items : Array Value) (n : Nat) (dct : Option Addr) (sl : Array (Option Value)) :
    Meets (Builtin.«enumerate.__new__» ⟨[.type "enumerate", .ref l], []⟩) (fun _ R s => s.heap.get? l = some { cls := .type "tuple", dict := dct, data := .seq items n, slots := sl } ∧
      R (.ok (.ret (.ref (s.heap.push { cls := .type "tuple_iterator", data := .fields #[.ref l, .int 0 0] }).objs.size)))
        { s with heap := (s.heap.push { cls := .type "tuple_iterator", data := .fields #[.ref l, .int 0 0] }).push { cls := .type "enumerate", data := .fields #[.none, .bool false, .ref s.heap.objs.size, rawInt 0, .none, .none] } }) :=
  .of_wp fun prog w A R s h => by
    obtain ⟨hp, g, d, tk, os⟩ := s; obtain ⟨hl, h⟩ := h
    have hsub := sub_enumerate
    have hL : Heap.IsTuple (Shared.heap ⟨hp, g, d, tk, os⟩) l items := ⟨_, hl, rfl, n, rfl⟩
    wp_walk using wpAny_loadPart' hl
    refine wpAny_stack_any fun st => wpAny_pure ?_
    split
    · rename_i c _ _ _ _ _
      cases (c == Value.type "enumerate")
      · wp_walk using wpAny_loadPart' hl, wpAny_pyIter_tuple hL
        exact ⟨_, rfl, h⟩
      · wp_walk using wpAny_loadPart' hl, wpAny_pyIter_tuple hL
        exact ⟨_, rfl, h⟩
    · wp_walk using wpAny_loadPart' hl, wpAny_pyIter_tuple hL
      exact ⟨_, rfl, h⟩
section
variable {prog : Program} {w : World} {A : Around} {E : Value → Shared → Prop} {s : Shared}
theorem Mv_call_enumT {l : Addr} {items : Array Value} {Q : Value → Shared → Prop} (hL : s.heap.IsTuple l items)
    (h : ∀ h', IsEnum h' (s.heap.objs.size + 1) s.heap.objs.size 0 .none → h'.IsTupleIter s.heap.objs.size l 0 → h'.objs.size = s.heap.objs.size + 2 →
      (∀ b o, s.heap.get? b = some o → h'.get? b = some o) → Q (.ref (s.heap.objs.size + 1)) { s with heap := h' }) :
    wpAny (model prog w) A (call (.type "enumerate") [.ref l]) Q E s := by
  obtain ⟨⟨c, dct, dt, sl⟩, hl, hc, n, hd⟩ := hL
  replace hc : c = .type "tuple" := hc
  replace hd : dt = .seq items n := hd
  subst hc hd
  refine callType_new F.called_enumerate (by decide) (F.typeCall_enumerate_1 _) (F.newCall_enumerate_1 _) (fun obj => F.args_object_init_2 obj _) F.entry_enumerate_new
    (Mv_meets_enumT l items n dct sl) ⟨hl, ?_⟩
  have hz : (s.heap.push { cls := .type "tuple_iterator", data := .fields #[.ref l, .int 0 0] }).objs.size = s.heap.objs.size + 1 := Heap.size_push ..
  show _ ∧ _
  rw [hz]
  have he : IsEnum ((s.heap.push { cls := .type "tuple_iterator", data := .fields #[.ref l, .int 0 0] }).push
      { cls := .type "enumerate", data := .fields #[.none, .bool false, .ref s.heap.objs.size, rawInt 0, .none, .none] }) (s.heap.objs.size + 1) s.heap.objs.size 0 .none := by
    have := Heap.get?_push_size (s.heap.push { cls := .type "tuple_iterator", data := .fields #[.ref l, .int 0 0] })
      (o := { cls := .type "enumerate", data := .fields #[.none, .bool false, .ref s.heap.objs.size, rawInt 0, .none, .none] }) rfl
    rw [hz] at this; exact this
  exact ⟨⟨_, he, rfl⟩, h _ he ⟨_, Heap.get?_push_of_some _ (Heap.get?_push_size _ rfl), rfl, rfl⟩ (by rw [Heap.size_push, hz]) fun b o x => Heap.get?_push_of_some _ (Heap.get?_push_of_some _ x)⟩
end
end PySem
namespace Mv
open PySem PySem.Spec PyProof.Rows L2
theorem draws_none {prog : Program} {w : World} {A : Around} (hh : A.handled = none) (it t : Addr) (i : Nat) (items : Array Value) (hi : items.size ≤ i) :
    PySem.Draws prog w A it [it, t] i (fun _ _ => False) (fun j h => j = i ∧ h.IsTupleIter it t j ∧ h.IsTuple t items) where
  live := fun _ _ st => let ⟨o, ho, _⟩ := st.2.1; ⟨o, ho⟩
  frame := fun _ _ _ st hk => ⟨st.1, st.2.1.at fun o e => hk it (by simp) o e, st.2.2.at fun o e => hk t (by simp) o e⟩
  item := fun j s Q E hj st hQ => absurd st.1 (Nat.ne_of_lt hj)
  done := fun s Q E st hE => wpAny_nextOf_tuple_end hh st.2.1 st.2.2 (by simp [hi]) hE
/-- the tuple at a at each turn, each item in a new pair -/
def Itet (K : PySem.W.Frag) (a : Addr) : It :=
  ⟨fun i H => ∃ (xs : List V) (x : V), SqT K H a xs ∧ xs[i]? = some x, fun i H v H' => ∃ T x, v = .ref T ∧ H T = none ∧ H' = upd H T (.tup [.int (i : Nat), x]) ∧ ∀ xs, SqT K H a xs → xs[i]? = some x, fun i H => ∃ xs : List V, SqT K H a xs ∧ xs.length ≤ i⟩
theorem turn_enumT {P : Program} {w : World} {K : PySem.W.Frag} {elts : List Expr} {kk : Nat} {tpos : Pos} (a e it : Addr) :
    Turn P w K (.Tuple elts kk tpos) (Itet K a) [e, it] e (fun i h => (∃ old, IsEnum h e it ((i : Nat) : Int) old) ∧ h.IsTupleIter it a i ∧ e ≠ it) where
  mem := by simp
  obj := fun i h st b hb => by
    obtain ⟨⟨old, he⟩, ⟨o, ho, hc, hd⟩, _⟩ := st
    have e' : b = e ∨ b = it := by simpa using hb
    rcases e' with z | z
    · rw [z]; exact ⟨_, he, fun v q => nomatch q⟩
    · rw [z]; exact ⟨o, ho, fun v q => by rw [hd] at q; cases q⟩
  keep := fun i h h' st k => let ⟨⟨old, he⟩, hi, hne⟩ := st; ⟨⟨old, k e (by simp) _ he⟩, hi.at fun o q => k it (by simp) o q, hne⟩
  item := by
    intro X hP hw hK hc i pins s σ H E I hf st hg
    subst hP hw hK
    obtain ⟨⟨old, he⟩, hit, hne⟩ := st
    obtain ⟨xs, x, hq, hx⟩ := hg
    obtain ⟨its, rv, p, hz⟩ := I.tuple hq
    obtain ⟨u, hu, ru⟩ := rv.get hx
    have hel : e < s.heap.objs.size := Heap.lt_size he
    have hil : it < s.heap.objs.size := by obtain ⟨_, q, _⟩ := hit; exact Heap.lt_size q
    have hae : a ≠ e := fun z => by
      subst z
      obtain ⟨o, ho, hc2, _⟩ := p
      obtain h3 := he.symm.trans ho
      cases h3
      exact absurd (show Value.type "enumerate" = Value.type "tuple" from hc2) (by decide)
    have hai : a ≠ it := fun z => by
      subst z
      obtain ⟨o, ho, hc2, _⟩ := p
      obtain ⟨o2, ho2, hc3, _⟩ := hit
      cases ho2.symm.trans ho
      exact absurd (hc3.symm.trans hc2) (by decide)
    have D := Draws.tuple (prog := X.prog) (w := X.w) (A := X.A.in1) (by exact I.ok.hd hc) it a hai its.toArray
    have hlt : i < its.toArray.size := by
      rw [List.size_toArray]
      exact (List.getElem?_eq_some_iff.mp hu).1
    refine wpAny_pyNext_enum_itemD D he ⟨hit, p⟩ hlt hne (by simp [hne, Ne.symm hae]) fun u2 h' tk hP ho hit' hT hsz hk => ?_
    have hu2 : u2 = u := by
      have : its[i]? = some u2 := by simpa using hP
      rw [hu] at this
      exact (Option.some.inj this).symm
    subst hu2
    refine ⟨_, rfl, wpAny_letOwnedTupleGo_enum (s := { s with heap := h', toks := tk + 1 }) ho fun h'' he' sb => ?_⟩
    have hT2 : h''.get? s.heap.objs.size = some { cls := .type "tuple", data := .seq #[.int i tk, u2] } := (sb.2 _ (Nat.ne_of_gt hel)).trans hT
    have new : ObjOk X.prog X.w (upd H s.heap.objs.size (.tup [.int (i : Nat), x])) h'' s.heap.objs.size (.tup [.int (i : Nat), x]) :=
      ⟨by show 2 ≤ sizeLine; decide, [.int i tk, u2], .cons ⟨_, rfl⟩ (.cons ru .nil), ⟨_, hT2, rfl, _, rfl⟩⟩
    have I1 : Inv X pins σ (upd H s.heap.objs.size (.tup [.int (i : Nat), x])) { s with heap := h'', toks := tk + 1 } :=
      I.turnedNew (ch := [e, it]) (fun b ob hb q => (sb.2 b (fun z => hb (by simp [z]))).trans (hk b ob (fun z => hb (by simp [z])) (fun z => hb (by simp [z])) q)) hf (Nat.le_refl _) new
    refine ⟨.ref s.heap.objs.size, _, I1, rfl, ⟨_, x, rfl, I.hok.fresh (Nat.le_refl _), rfl, fun ys hy => ?_⟩, ⟨⟨u2, ?_⟩, hit'.1.at fun o q => (sb.2 it (Ne.symm hne)).trans q, hne⟩, fun b hb => ?_⟩
    · rw [I.tuple_inj hy hq]; exact hx
    · have e1 : ((i + 1 : Nat) : Int) = (i : Int) + 1 := by omega
      rw [e1]; exact he'
    · have hb' : b < s.heap.objs.size := by
        have e' : b = e ∨ b = it := by simpa using hb
        rcases e' with z | z
        · rw [z]; exact hel
        · rw [z]; exact hil
      rw [upd_ne (Nat.ne_of_lt hb')]
      exact (hf b hb).1
  done := by
    intro X hP hw hK hc i pins s σ H E I hf st hg
    subst hP hw hK
    obtain ⟨⟨old, he⟩, hit, hne⟩ := st
    obtain ⟨xs, hq, hx⟩ := hg
    obtain ⟨its, rv, p, hz⟩ := I.tuple hq
    obtain ⟨f0, f1, f2, f3, f4, f5⟩ := hf it (by simp)
    have hl := rv.length
    have D := draws_none (prog := X.prog) (w := X.w) (A := X.A.in1) (by exact I.ok.hd hc) it a i its.toArray (by rw [List.size_toArray]; omega)
    exact wpAny_pyNext_enum_endD D he ⟨rfl, hit, p⟩ fun h' eb => ⟨rfl, I.turned (t' := s.toks) (fun b o hb q => eb b o hb q) f0 f1 f3 f4 f5⟩
  self := fun A i s Q E st h => let ⟨⟨_, he⟩, _⟩ := st; wpAny_pyIter_enum he h
end Mv

set_option Elab.async false
set_option linter.all false
set_option maxRecDepth 100000
set_option maxHeartbeats 4000000
namespace Mv
open PySem PySem.Spec PyProof.Rows L2
def iEnA3 (K : PySem.W.Frag) (ta : TA) : TI := fun σ H R => ta σ H fun vs H1 => (∃ a xs, vs = [.ref a] ∧ SqL K H1 a xs ∧ R (Ite K a) H1) ∨ (∃ x, vs = [.str x] ∧ R (Ies x) H1) ∨ ∃ a xs, vs = [.ref a] ∧ SqT K H1 a xs ∧ R (Itet K a) H1
section
variable {X : Cx} {W : WX} {tg : Expr}
theorem pi_enumA3 {e : Expr} {ta : TA} {p pos tpos : Pos} {elts : List Expr} {kk : Nat} (hg : Gl X "enumerate") (hm : X.mg "enumerate" = none) (ha : PA X [e] ta) (hs : starEach [e] X.env = [(false, eval e X.env)] := by rfl) :
    PI X (.Tuple elts kk tpos) (.Call (.Name "enumerate" p) [e] [] pos) (iEnA3 X.K ta) := by
  refine ⟨fun pins s σ H R I h => ?_⟩
  refine Call_ (ld_blt I hg hm boot_enumerate (PyProof.Rows.callWith_type1 (thn (ha.run pos pins s σ H _ I h) fun us s1 ⟨vs, H1, I1, r1, q1⟩ => ?_) hs rfl))
  have fp : ∀ b, b ∈ [s1.heap.objs.size + 1, s1.heap.objs.size] → FpOk X pins H1 b := fun b hb => by
    have e' : b = s1.heap.objs.size + 1 ∨ b = s1.heap.objs.size := by simpa using hb
    have hle : s1.heap.objs.size ≤ b := by
      rcases e' with z | z
      · rw [z]; exact Nat.le_add_right _ _
      · rw [z]; exact Nat.le_refl _
    exact I1.fpOk hle (I1.hok.fresh hle)
  rcases q1 with ⟨a, xs, ex, hq, q⟩ | ⟨x, ex, q⟩ | ⟨a, xs, ex, hq, q⟩
  · subst ex
    cases r1 with
    | cons r rr =>
      cases rr
      cases r
      obtain ⟨its, rv, p', hz⟩ := I1.list hq
      refine call_enumerate_list p'.isList fun h' he hit hsz hk => wpAny_pyIter_enum he ?_
      have I2 : Inv X pins σ H1 { s1 with heap := h' } := I1.kept (t' := s1.toks) hk
      exact ⟨s1.heap.objs.size + 1, [s1.heap.objs.size + 1, s1.heap.objs.size], _, _, H1, rfl, I2, turn_enum a (s1.heap.objs.size + 1) s1.heap.objs.size, ⟨⟨.none, he⟩, hit, Nat.succ_ne_self _⟩, fp, q⟩
  · subst ex
    cases r1 with
    | cons r rr =>
      cases rr
      obtain ⟨t, rfl⟩ := r
      refine call_enumerate_str fun h' he hit hsz hk => wpAny_pyIter_enum he ?_
      have I2 : Inv X pins σ H1 { s1 with heap := h' } := I1.kept (t' := s1.toks) hk
      exact ⟨s1.heap.objs.size + 1, [s1.heap.objs.size + 1, s1.heap.objs.size], _, _, H1, rfl, I2, turn_enumS x t (s1.heap.objs.size + 1) s1.heap.objs.size, ⟨Nat.zero_le _, ⟨.none, he⟩, hit, Nat.succ_ne_self _⟩, fp, q⟩
  · subst ex
    cases r1 with
    | cons r rr =>
      cases rr
      cases r
      obtain ⟨its, rv, p', hz⟩ := I1.tuple hq
      refine Mv_call_enumT p' fun h' he hit hsz hk => wpAny_pyIter_enum he ?_
      have I2 : Inv X pins σ H1 { s1 with heap := h' } := I1.kept (t' := s1.toks) hk
      exact ⟨s1.heap.objs.size + 1, [s1.heap.objs.size + 1, s1.heap.objs.size], _, _, H1, rfl, I2, turn_enumT a (s1.heap.objs.size + 1) s1.heap.objs.size, ⟨⟨.none, he⟩, hit, Nat.succ_ne_self _⟩, fp, q⟩
theorem isIt_eT {K : PySem.W.Frag} {F : Hp} {xs : List PV} {a : Addr} {vs : List V} (h : SqT K F a vs) (r : RepFs K F xs vs) : IsIt K F (xs.mapIdx fun i p => .tup [.int i, p]) (Itet K a) where
  goes := fun i H F1 hi s1 s2 => ⟨vs, vs[i]'(by rw [r.length]; simpa using hi), same_t (s1.trans s2) h, List.getElem?_eq_getElem _⟩
  stops := fun H F1 s1 s2 => ⟨vs, same_t (s1.trans s2) h, by rw [r.length]; simp⟩
  yields := fun i p H F1 x H' hp s1 s2 y => by
    obtain ⟨T, w, rfl, hT, rfl, y⟩ := y
    rw [List.getElem?_mapIdx] at hp
    cases ex : xs[i]? with
    | none => rw [ex] at hp; cases hp
    | some p0 =>
      rw [ex] at hp
      cases hp
      obtain ⟨v, q1, q2⟩ := r.get ex
      have e := y vs (same_t (s1.trans s2) h)
      rw [q1] at e
      cases e
      obtain ⟨n1, n2, n3, n4⟩ := laid_new (o := .tup [.int (i : Nat), w]) s2 hT
      exact ⟨_, n1, n2, n3, n4, pair_rep upd_same (repI.mpr rfl) (RepF.mono (s1.trans n1) _ _ q2)⟩
def enumOf3 : List PV → Option (List PV)
  | [.tup xs] => some (xs.mapIdx fun i p => .tup [.int i, p])
  | ps => enumOf ps
def sEnum3 (s : SE (List PV)) : SE (List PV) := s.bind fun ps => ofO (enumOf3 ps)
theorem ki_enum3 {K : PySem.W.Frag} {e : Expr} {ta : TA} {s : SE (List PV)} {p pos tpos : Pos} {elts : List Expr} {kk : Nat} (ha : QA X W [e] ta s) (hm : X.mg "enumerate" = none) (hK : X.K = K := by rfl) (hg : Gl X "enumerate" := by rfl) (hs : starEach [e] X.env = [(false, eval e X.env)] := by rfl) :
    QI X W (.Tuple elts kk tpos) (.Call (.Name "enumerate" p) [e] [] pos) (iEnA3 K ta) (sEnum3 s) := by
  subst hK
  refine ⟨pi_enumA3 hg hm ha.pa hs, ha.ev.bind fun ps vs B1 s1 hp => Ev.ofO fun items hi => ?_⟩
  unfold enumOf3 enumOf at hi
  split at hi
  · rename_i xs
    cases hi
    rw [RepFs] at hp
    obtain ⟨v, r, rfl, h1, h2⟩ := hp
    rw [RepFs] at h2
    subst h2
    rw [RepF] at h1
    obtain ⟨a, vs, rfl, x2, x3⟩ := h1
    exact ev_it (isIt_eT x2 x3) fun σ F H R sB sF r => .inr (.inr ⟨a, vs, rfl, same_t (sB.trans sF) x2, r⟩)
  · split at hi
    · rename_i xs _
      cases hi
      rw [RepFs] at hp
      obtain ⟨v, r, rfl, h1, h2⟩ := hp
      rw [RepFs] at h2
      subst h2
      rw [RepF] at h1
      obtain ⟨a, vs, rfl, x2, x3⟩ := h1
      exact ev_it (isIt_e x2 x3) fun σ F H R sB sF r => .inl ⟨a, vs, rfl, SqL.of (sF _ _ (sB _ _ x2)), r⟩
    · rename_i s _
      cases hi
      rw [RepFs] at hp
      obtain ⟨v, r, rfl, h1, h2⟩ := hp
      rw [RepFs] at h2
      subst h2
      exact ev_it isIt_es fun σ F H R sB sF r => .inr (.inl ⟨mkS s, by rw [repS.mp h1], r⟩)
    · cases hi
end
end Mv

set_option Elab.async false
set_option linter.all false
set_option maxRecDepth 100000
set_option maxHeartbeats 4000000
namespace HT
open PySem PySem.Spec PyProof.Rows L2
section
variable {prog : Program} {w : World} {A : Around} {E : Value → Shared → Prop} {s : Shared}
theorem rev_adjust (n : Nat) : Builtin.Slice.sliceAdjust none none (-1) (n : Int) = ((n : Int) - 1, -1) := by
  unfold Builtin.Slice.sliceAdjust
  simp
theorem rev_places (n : Nat) : Builtin.Slice.slicePlaces ((n : Int) - 1) (-1) (-1) = n := by
  unfold Builtin.Slice.slicePlaces
  simp
  split <;> omega
theorem rev_pick (xs : Array Value) : ((List.range xs.size).filterMap fun (m : Nat) => xs[(((xs.size : Int) - 1) + (m : Int) * (-1)).toNat]?).toArray = xs.toList.reverse.toArray := by
  congr 1
  apply List.ext_getElem?
  intro i
  have key : ∀ (l : List Nat), (∀ m ∈ l, m < xs.size) → (l.filterMap fun (m : Nat) => xs[(((xs.size : Int) - 1) + (m : Int) * (-1)).toNat]?) = l.map fun m => (xs[xs.size - 1 - m]?).getD default := by
    intro l hl
    induction l with
    | nil => rfl
    | cons a r ih =>
      have ha := hl a (List.mem_cons_self ..)
      have e : (((xs.size : Int) - 1) + (a : Int) * (-1)).toNat = xs.size - 1 - a := by omega
      rw [List.filterMap_cons, List.map_cons, ih fun m hm => hl m (List.mem_cons_of_mem _ hm), e]
      have h2 : xs.size - 1 - a < xs.size := by omega
      simp [h2]
  rw [key _ fun m hm => by simpa using hm]
  by_cases hi : i < xs.size
  · rw [List.getElem?_map, List.getElem?_range hi, List.getElem?_reverse (by simpa using hi)]
    have h2 : xs.size - 1 - i < xs.size := by omega
    simp [h2]
  · rw [List.getElem?_eq_none (by simp; omega), List.getElem?_eq_none (by simp; omega)]
theorem sliceApplied_rev {sl : Addr} {vs : Value} {n : Nat} {Q : Int × Int × Nat → Shared → Prop} (hs : s.heap.IsSliceOf sl .none .none vs) (ps : IsPart vs (some (-1)))
    (h : Q ((n : Int) - 1, -1, n) s) : wpAny (model prog w) A (Builtin.Slice.sliceApplied (.ref sl) (pure (n : Int))) Q E s := by
  obtain ⟨os, hos, hcs, hds⟩ := id hs
  unfold Builtin.Slice.sliceApplied Builtin.Slice.sliceFields
  refine wpAny_bind (wpAny_bind (wpAny_field hos hds (x := .none) rfl (wpAny_bind (wpAny_field hos hds (x := .none) rfl (wpAny_bind (wpAny_field hos hds (x := vs) rfl (wpAny_pure ?_)))))))
  refine wpAny_bind (slicePart_ ps ?_)
  show wpAny _ _ (if ((-1 : Int) == 0) = true then _ else _) _ _ s
  rw [if_neg (by decide)]
  refine wpAny_bind (slicePart_none (wpAny_bind (slicePart_none (wpAny_bind (wpAny_pure ?_)))))
  show wpAny _ _ (match Builtin.Slice.sliceAdjust none none (-1) (n : Int) with | (lo, hi) => pure (lo, (-1 : Int), Builtin.Slice.slicePlaces lo hi (-1))) _ _ s
  rw [rev_adjust]
  show wpAny _ _ (pure ((n : Int) - 1, (-1 : Int), Builtin.Slice.slicePlaces ((n : Int) - 1) (-1) (-1))) _ _ s
  rw [rev_places]
  exact wpAny_pure h
theorem getItem_tuple_rev {t sl : Addr} {items : Array Value} {vs : Value} {Q : Value → Shared → Prop} (ht : IsTup s.heap t items) (hs : s.heap.IsSliceOf sl .none .none vs) (ps : IsPart vs (some (-1)))
    (h : Q (.ref s.heap.objs.size) { s with heap := s.heap.push { cls := .type "tuple", data := .seq items.toList.reverse.toArray } })
    (hsz : items.size ≤ sizeLine) : wpAny (model prog w) A (getItem (.ref t) (.ref sl)) Q E s := by
  have htake : sizeOk (.seq items.toList.reverse.toArray) := by
    show items.toList.reverse.toArray.size ≤ sizeLine
    rw [List.size_toArray, List.length_reverse, Array.length_toList]
    exact hsz
  obtain ⟨os, hos, hcs, hds⟩ := id hs
  have hTs : s.TypeIs (.ref sl) "slice" := ⟨os, hos, hcs⟩
  unfold getItem
  try with_reducible refine wpAny_holding ?_
  first | refine wpAny_bind (wpAny_pure ?_) | skip
  refine wpAny_bind (wpAny_sequenceKey ht.typeIs (by decide) ?_)
  refine wpAny_bind (wpAny_callSpecial?_slot (name := Str.ofString "__getitem__") ht.typeIs PyProof.Rows.slot_tuple_getitem
    (wpAny_call_entry PyProof.Rows.slot_tuple_getitem ht.typeIs entry_tuple_getitem ?_ (args_tuple_getitem _ _)))
  show wpAny _ _ (Builtin.Tuple.tupleItemsOf (.ref t) >>= _) _ _ s
  refine wpAny_bind (tupleItemsOf_ ht ?_)
  refine wpAny_bind (wpAny_typeOf hTs ?_)
  rw [if_pos (by decide)]
  refine wpAny_bind (sliceApplied_rev hs ps ?_)
  have hno : ¬ ((((items.size : Int) - 1) == 0 && (-1 : Int) == 1 && items.size == items.size) = true) := by
    simp
  show wpAny _ _ (if ((((items.size : Int) - 1) == 0 && (-1 : Int) == 1 && items.size == items.size)) = true then _ else _) _ _ s
  rw [if_neg hno, rev_pick]
  first
    | exact wpAny_bind (m := Builtin.Tuple.tupleExact _) (wpAny_newObj_type (wpAny_pure ⟨_, rfl, wpAny_pure h⟩) htake)
    | exact wpAny_bind (m := Builtin.Tuple.tupleExact _) (wpAny_newObj_type (wpAny_bind (wpAny_pure (wpAny_pure ⟨_, rfl, wpAny_pure h⟩))) htake)
    | exact wpAny_bind (wpAny_bind (m := Builtin.Tuple.tupleExact _) (wpAny_newObj_type (wpAny_pure (wpAny_pure ⟨_, rfl, wpAny_pure h⟩)) htake))
    | exact wpAny_bind (wpAny_bind (m := Builtin.Tuple.tupleExact _) (wpAny_newObj_type (wpAny_pure ⟨_, rfl, wpAny_pure h⟩) htake))
end
end HT
namespace Mv
open PySem PySem.Spec PyProof.Rows L2
/-! ### x[::-1] -/
def tRevA (K : PySem.W.Frag) (te : TE) : TE := fun σ H Q => te σ H fun x H1 => ∃ a xs, x = .ref a ∧ ((SqL K H1 a xs ∧ ∀ p, H1 p = none → Q (.ref p) (upd H1 p (.lst xs.reverse))) ∨ (SqT K H1 a xs ∧ ∀ p, H1 p = none → Q (.ref p) (upd H1 p (.tup xs.reverse))))
theorem pe_revA {X : Cx} {e : Expr} {te : TE} {k : Nat} {p1 p2 p3 pos : Pos} (he : PE X e te) : PE X (.Subscript e (.Slice none none (some (.UnaryOp .USub (.Constant (.int 1) k p1) p2)) p3) pos) (tRevA X.K te) := by
  refine ⟨fun pins s σ H Q I h => ?_⟩
  refine Subscript_ (thn (he.run pins s σ H _ I h) fun v s1 ⟨x, H1, I1, r1, q1⟩ => ?_)
  obtain ⟨a, xs, ex, q⟩ := q1
  subst ex
  cases r1
  have hst : PO X (some (.UnaryOp .USub (.Constant (.int 1) k p1) p2)) (tPart (tUn (rU fun i => .int (-i)) (tC (.int 1)))) := po_some (pe_un un_neg pe_int)
  refine wpAny_Slice (thn (po_none.run pins s1 σ H1 (fun o H2 => o = none ∧ H2 = H1) I1 ⟨rfl, rfl⟩) fun vl s2 ⟨l, H2, I2, pl, el, e2⟩ => ?_)
  subst el e2
  refine thn (po_none.run pins s2 σ H2 (fun o H3 => o = none ∧ H3 = H2) I2 ⟨rfl, rfl⟩) fun vu s3 ⟨u, H3, I3, pu, eu, e3⟩ => ?_
  subst eu e3
  refine thn (hst.run pins s3 σ H3 (fun o H4 => o = some (-1) ∧ H4 = H3) I3 ⟨1, rfl, -1, rfl, rfl, rfl⟩) fun vs s4 ⟨o, H4, I4, ps, eo, e4⟩ => ?_
  subst eo e4
  have I5 : Inv X pins σ H4 { s4 with heap := s4.heap.push { cls := .type "slice", data := .fields #[vl, vu, vs] } } := I4.kept (t' := s4.toks) fun b ob q => Heap.get?_push_of_some _ q
  show wpAny (model X.prog X.w) X.A (subscriptTail e (.Slice none none (some (.UnaryOp .USub (.Constant (.int 1) k p1) p2)) p3) (.ref a) (.ref s4.heap.objs.size)) (EP X pins σ Q) X.xe { s4 with heap := s4.heap.push { cls := .type "slice", data := .fields #[vl, vu, vs] } }
  cases pl
  cases pu
  rcases q with ⟨hx, q⟩ | ⟨hx, q⟩
  · obtain ⟨its, r, ht, hz⟩ := I5.list hx
    have hlen := r.length
    refine tail_any (ops := [.ref a, .ref s4.heap.objs.size]) ht.isList.typeIs (PySem.slot_list_getitem.lookup) ?_ (by with_unfolding_all rfl)
    refine wpAny_getItem_list_slice ht.isList (Heap.IsSliceOf.new _ .none .none vs) .none .none ps (by decide) ?_ (by rw [List.size_toArray]; omega)
    rw [PySem.W.krv_pick]
    refine ⟨.ref _, _, I5.laid (t' := s4.toks) (o := .lst xs.reverse) (fun b ob q => Heap.get?_push_of_some _ q) (Nat.le_refl _) ?_, rfl, q _ (I5.hok.fresh (Nat.le_refl _))⟩
    exact ⟨by rw [List.length_reverse]; exact hz, _, 0, r.reverse, Heap.get?_push_size _ rfl⟩
  · obtain ⟨its, r, ht, hz⟩ := I5.tuple hx
    have hlen := r.length
    refine tail_any (ops := [.ref a, .ref s4.heap.objs.size]) ht.typeIs (PyProof.Rows.slot_tuple_getitem.lookup) ?_ (by with_unfolding_all rfl)
    refine HT.getItem_tuple_rev ht (Heap.IsSliceOf.new _ .none .none vs) ps ?_ (by rw [List.size_toArray]; omega)
    refine ⟨.ref _, _, I5.laid (t' := s4.toks) (o := .tup xs.reverse) (fun b ob q => Heap.get?_push_of_some _ q) (Nat.le_refl _) ?_, rfl, q _ (I5.hok.fresh (Nat.le_refl _))⟩
    exact ⟨by rw [List.length_reverse]; exact hz, _, r.reverse, IsTup.new _ _⟩
def pRev (p : PV) : Option PV := match p with
  | .lst xs => some (.lst xs.reverse)
  | .tup xs => some (.tup xs.reverse)
  | _ => none
theorem RepFs.rev {K : PySem.W.Frag} {F : Hp} : ∀ {ps : List PV} {vs : List V}, RepFs K F ps vs → RepFs K F ps.reverse vs.reverse
  | [], vs, h => by
    rw [RepFs] at h
    rw [h]
    exact (by rw [List.reverse_nil, RepFs]; rfl)
  | x :: xs, vs, h => by
    rw [RepFs] at h
    obtain ⟨v, r, e1, e2, e3⟩ := h
    rw [e1, List.reverse_cons, List.reverse_cons]
    have ih := RepFs.rev e3
    generalize xs.reverse = l at ih ⊢
    generalize r.reverse = m at ih ⊢
    clear e1 e3
    induction l generalizing m with
    | nil =>
      rw [RepFs] at ih
      rw [ih]
      show RepFs K F [x] [v]
      rw [RepFs]
      exact ⟨v, [], rfl, e2, by rw [RepFs]⟩
    | cons y l ihl =>
      rw [RepFs] at ih
      obtain ⟨u, m', f1, f2, f3⟩ := ih
      rw [f1, List.cons_append, List.cons_append, RepFs]
      exact ⟨u, m' ++ [v], rfl, f2, ihl m' f3⟩
section
variable {X : Cx} {K : PySem.W.Frag} {W : WX} {a : Expr} {ta : TE} {sa : SE PV}
theorem prev_ok {B : Hp} {p z : PV} {x : V} (hz : pRev p = some z) (hp : RepF K B p x) : Ev K B (fr (RepF K)) W (fun _ H Q => ∃ a xs, x = .ref a ∧ ((SqL K H a xs ∧ ∀ p, H p = none → Q (.ref p) (upd H p (.lst xs.reverse))) ∨ (SqT K H a xs ∧ ∀ p, H p = none → Q (.ref p) (upd H p (.tup xs.reverse))))) (SE.ret z) := by
  cases p with
  | lst xs =>
    cases hz
    rw [RepF] at hp
    obtain ⟨a, vs, rfl, e2, e3⟩ := hp
    refine ev_new (o := .lst vs.reverse) (fun b F' s e => rep_lst e (RepFs.mono s _ _ (RepFs.rev e3))) fun F H sF sH Q q => ⟨a, vs, rfl, .inl ⟨.inl (.inl (sH a _ (sF a _ e2))), fun p hp => q p hp⟩⟩
  | tup xs =>
    cases hz
    rw [RepF] at hp
    obtain ⟨a, vs, rfl, e2, e3⟩ := hp
    refine ev_new (o := .tup vs.reverse) (fun b F' s e => rep_tup e (RepFs.mono s _ _ (RepFs.rev e3))) fun F H sF sH Q q => ⟨a, vs, rfl, .inr ⟨same_t (sF.trans sH) e2, fun p hp => q p hp⟩⟩
  | _ => cases hz
theorem ke_rev {k : Nat} {p1 p2 p3 pos : Pos} (ha : QE X W a ta sa) (hK : X.K = K := by rfl) : QE X W (.Subscript a (.Slice none none (some (.UnaryOp .USub (.Constant (.int 1) k p1) p2)) p3) pos) (tRevA K ta) (eUn pRev sa) := by
  subst hK
  exact ⟨pe_revA ha.pe, ha.ev.bind fun p x B' hs hp => Ev.ofO fun z hz => prev_ok hz hp⟩
end
end Mv

set_option Elab.async false
set_option linter.all false
set_option maxRecDepth 100000
set_option maxHeartbeats 4000000
namespace Mv
open PySem PySem.Spec PyProof.Rows L2
/-! ### where a token is out: x.replace(y, z) of written texts -/
structure QET (X : Cx) (W : WX) (e : Expr) (te : TE) (s : SE PV) : Prop where
  pe : PET X e te
  ev : Ev X.K nob (fr (RepF X.K)) W te s
structure QAT (X : Cx) (W : WX) (es : List Expr) (ta : TA) (s : SE (List PV)) : Prop where
  pa : PAT X es ta
  ev : Ev X.K nob (fr (RepFs X.K)) W ta s
def pRepl (y z : Tx) (p : PV) : Option PV := match p with
  | .str s => if s.length + (s.length + 1) * z.length ≤ 16777216 then some (.str (unS (Txt.replace (mkS s) (mkS y) (mkS z)))) else none
  | _ => none
section
variable {X : Cx} {K : PySem.W.Frag} {W : WX} {a e : Expr} {es : List Expr} {ta te : TE} {t : TA} {sa se : SE PV} {s : SE (List PV)} {pos apos p : Pos}
theorem qet_of (h : QE X W e te se) : QET X W e te se := ⟨CwR.PET.of h.pe, h.ev⟩
theorem qat_nil : QAT X W [] tNil aNil := ⟨pat_nil, (qa_nil (X := X) (W := W)).ev⟩
theorem qat_cons (ha : QET X W a ta sa) (hr : QAT X W es t s) (hs : starEach (a :: es) X.env = (false, eval a X.env) :: starEach es X.env := by rfl) : QAT X W (a :: es) (tCons ta t) (aCons sa s) :=
  ⟨pat_cons ha.pe hr.pa hs, ha.ev.bind fun p v B' hs hp => (hr.ev.le (fun _ _ h => nomatch h)).bind fun ps vs B2 hs2 hps => Ev.done (z := RepFs X.K) (by
    rw [RepFs]
    exact ⟨v, vs, rfl, RepF.mono hs2 _ _ hp, hps⟩) fun F F' s h => RepFs.mono s _ _ h⟩
/-- .. + a written text: behind it a token is out -/
theorem qa_tok {x : Str} {j : Nat} {cp bp : Pos} (l : Tx) (ha : QE X W a ta sa) (hr : QAT X W es t s) (hx : x = mkS l := by rfl)
    (hs : starEach (.BinOp a .Add (.Constant (.str x) j cp) bp :: es) X.env = (false, eval (.BinOp a .Add (.Constant (.str x) j cp) bp) X.env) :: starEach es X.env := by rfl) :
    QA X W (.BinOp a .Add (.Constant (.str x) j cp) bp :: es) (tCons (tOp (rAddA X.K) ta (tC (.str x))) t) (aCons (eOp pAdd sa (SE.ret (.str l))) s) := by
  have hq := qe_add (pos := bp) ha (qe_str (X := X) (W := W) (pos := cp) l (j := j) hx)
  refine ⟨⟨fun pos pins s σ H Q I h => ?_⟩, hq.ev.bind fun p v B' hs hp => (hr.ev.le (fun _ _ h => nomatch h)).bind fun ps vs B2 hs2 hps => Ev.done (z := RepFs X.K) (by
    rw [RepFs]
    exact ⟨v, vs, rfl, RepF.mono hs2 _ _ hp, hps⟩) fun F F' s h => RepFs.mono s _ _ h⟩
  rw [hs]
  show wpAny _ _ (spliced ((false, eval (.BinOp a .Add (.Constant (.str x) j cp) bp) X.env) :: backTo pos (starEach es X.env))) _ _ s
  refine Calls.spliced_cons ?_
  refine wpAny_BinOp (thn (ha.pe.run pins s σ H _ I h) fun v s1 ⟨x1, H1, I1, r1, q1⟩ => ?_)
  refine Calls.Constant_str ?_
  have hop := op_addA (X := X) pins { s1 with toks := s1.toks + 1 } σ H1 x1 (.str x) v (.str x s1.toks) _ (I1.tok _) r1 ⟨s1.toks, rfl⟩ q1
  refine wpAny_mono (PySem.wpAny_toks hop) (fun w s2 q => ?_) fun _ _ z => z.2
  obtain ⟨hk, y, H2, I2, r2, q2⟩ := q
  have hk1 : s1.toks + 1 ≤ s2.toks := hk
  exact thn (hr.pa pos pins s2 σ H2 _ (by omega) I2 q2) fun us s3 ⟨xs, H3, I3, r3, q3⟩ => ⟨y :: xs, H3, I3, .cons r2 r3, q3⟩
theorem qet_repl {y z : Str} {j k : Nat} {c0 c1 : Pos} (ly lz : Tx) (ha : QE X W a ta sa) (hy : y = mkS ly := by rfl) (hz : z = mkS lz := by rfl) (hyz : (y == z) = false := by decide)
    (hst : starEach [.Constant (.str y) j c0, .Constant (.str z) k c1] X.env = [(false, eval (.Constant (.str y) j c0) X.env), (false, eval (.Constant (.str z) k c1) X.env)] := by rfl)
    (hbase : attributeBase a "replace" X.env (eval a X.env) = eval a X.env := by rfl) (hline : (apos.endLine == pos.line) = true := by rfl) :
    QET X W (.Call (.Attribute a "replace" apos) [.Constant (.str y) j c0, .Constant (.str z) k c1] [] pos) (CwR.tReplC ta y z) (eUn (pRepl ly lz) sa) := by
  subst hy hz
  refine ⟨CwR.pet_replC (CwR.PET.of ha.pe |> fun _ => ha.pe) hyz hst hbase hline, ha.ev.bind fun p x B' hs hp => Ev.ofO fun w hw => ?_⟩
  cases p with
  | str l =>
    unfold pRepl at hw
    simp only at hw
    split at hw
    · rename_i hb
      cases hw
      rw [RepF] at hp
      subst hp
      have hl : (mkS l).length = l.length := mkS_len l
      have hlz : (mkS lz).length = lz.length := mkS_len lz
      refine ev_now (v := .str (Txt.replace (mkS l) (mkS ly) (mkS lz))) (by rw [RepF, mk_unS]) fun F H sF sH Q q => ⟨mkS l, rfl, ?_, q⟩
      rw [hl, hlz]
      exact hb
    · cases hw
  | _ => cases hw
end
/-! ### the module's constants -/
mutual
def cstB (K : PySem.W.Frag) : PV → Value → Bool
  | .non, u => (match u with | .none => true | _ => false)
  | .bl b, u => (match u with | .bool c => b == c | _ => false)
  | .int i, u => (match u with | .int j _ => decide (i = j) | _ => false)
  | .str s, u => (match u with | .str y _ => decide (mkS s = y) | _ => false)
  | .tup ps, u => (match u with
    | .ref a => (match K.lookup a with
      | some ⟨.type c, _, .seq its _, _⟩ => decide (c = "tuple") && (decide (its.size ≤ sizeLine) && cstBs K ps its.toList)
      | _ => false)
    | _ => false)
  | .lst _, _ => false
  | .dic _ _, _ => false
  | .scr _, _ => false
  | .opq _, _ => false
def cstBs (K : PySem.W.Frag) : List PV → List Value → Bool
  | [], us => (match us with | [] => true | _ :: _ => false)
  | p :: ps, us => (match us with | [] => false | u :: us => cstB K p u && cstBs K ps us)
end
mutual
theorem cstB_ok {K : PySem.W.Frag} : ∀ (p : PV) (u : Value), cstB K p u = true → ∃ v, RelV v u ∧ ∀ F, RepF K F p v
  | .non, u, h => by
    cases u with
    | none => exact ⟨.non, rfl, fun F => by rw [RepF]⟩
    | _ => simp [cstB] at h
  | .bl b, u, h => by
    cases u with
    | bool c =>
      rw [cstB] at h
      rw [eq_of_beq h]
      exact ⟨.bl c, rfl, fun F => by rw [RepF]⟩
    | _ => simp [cstB] at h
  | .int i, u, h => by
    cases u with
    | int j t =>
      rw [cstB] at h
      have e : i = j := of_decide_eq_true h
      rw [e]
      exact ⟨.int j, ⟨t, rfl⟩, fun F => by rw [RepF]⟩
    | _ => simp [cstB] at h
  | .str s, u, h => by
    cases u with
    | str y t =>
      rw [cstB] at h
      have e : mkS s = y := of_decide_eq_true h
      exact ⟨.str y, ⟨t, rfl⟩, fun F => by rw [RepF, e]⟩
    | _ => simp [cstB] at h
  | .tup ps, u, h => by
    cases u with
    | ref a =>
      rw [cstB] at h
      cases q : K.lookup a with
      | none =>
        rw [q] at h
        cases h
      | some o =>
        obtain ⟨oc, od, dt, osl⟩ := o
        rw [q] at h
        cases oc with
        | type c =>
          cases dt with
          | seq its n =>
            obtain ⟨h1, h2⟩ := He.ba (show (decide (c = "tuple") && (decide (its.size ≤ sizeLine) && cstBs K ps its.toList)) = true from h)
            obtain ⟨h3, h4⟩ := He.ba h2
            obtain ⟨vs, r, hr⟩ := cstBs_ok ps its.toList h4
            refine ⟨.ref a, rfl, fun F => ?_⟩
            rw [RepF]
            exact ⟨a, vs, rfl, .inr ⟨_, its, n, q, congrArg Value.type (of_decide_eq_true h1), rfl, of_decide_eq_true h3, r⟩, hr F⟩
          | _ => cases h
        | _ => cases dt <;> cases h
    | _ => simp [cstB] at h
  | .lst _, u, h => by rw [cstB] at h; cases h
  | .dic _ _, u, h => by rw [cstB] at h; cases h
  | .scr _, u, h => by rw [cstB] at h; cases h
  | .opq _, u, h => by rw [cstB] at h; cases h
theorem cstBs_ok {K : PySem.W.Frag} : ∀ (ps : List PV) (us : List Value), cstBs K ps us = true → ∃ vs, Vals vs us ∧ ∀ F, RepFs K F ps vs
  | [], us, h => by
    cases us with
    | nil => exact ⟨[], .nil, fun F => by rw [RepFs]⟩
    | cons u us => simp [cstBs] at h
  | p :: ps, us, h => by
    cases us with
    | nil => simp [cstBs] at h
    | cons u us =>
      rw [cstBs] at h
      obtain ⟨h1, h2⟩ := He.ba h
      obtain ⟨v, r, hr⟩ := cstB_ok p u h1
      obtain ⟨vs, r2, hr2⟩ := cstBs_ok ps us h2
      exact ⟨v :: vs, .cons r r2, fun F => by
        rw [RepFs]
        exact ⟨v, vs, rfl, hr F, hr2 F⟩⟩
end
def cOk (K : PySem.W.Frag) (c : Str × PV) : Bool := match PySem.W.nsIn K mainGlobals c.1 with
  | some (some u) => cstB K c.2 u
  | _ => false
/-- the module's name x stands for p -/
def Cst (K : PySem.W.Frag) (mg : Str → Option Value) (x : Str) (p : PV) : Prop := ∃ u v, mg x = some u ∧ RelV v u ∧ ∀ F, RepF K F p v
theorem cst_ok {K : PySem.W.Frag} {h : Heap} {mg : Str → Option Value} (X : K.In h) (G : h.Ns mainGlobals mg) {x : Str} {p : PV} (c : cOk K (x, p) = true) : Cst K mg x p := by
  have c2 : (match PySem.W.nsIn K mainGlobals x with
    | some (some u) => cstB K p u
    | _ => false) = true := c
  cases e : PySem.W.nsIn K mainGlobals x with
  | none =>
    rw [e] at c2
    cases c2
  | some o =>
    rw [e] at c2
    cases o with
    | none => cases c2
    | some u =>
      obtain ⟨v, r, hr⟩ := cstB_ok p u c2
      exact ⟨u, v, PySem.W.mg_of X G e, r, hr⟩
theorem qe_cst {X : Cx} {W : WX} {pos : Pos} {x : Str} {p : PV} {u : Value} {v : V} (hm : X.mg x = some u) (r : RelV v u) (h : ∀ F, RepF X.K F p v) (hg : Gl X x := by rfl) (hd : (x == ("__debug__" : Str)) = false := by decide) : QE X W (.Name x pos) (tC v) (SE.ret p) :=
  qe_gl hg hm r (h nob) hd
/-! ### the head's facts, with constants -/
def obsM (fa : List He.Fa) (fn : List He.DefD) (cs : List (Str × PV)) (K : PySem.W.Frag) : He.AlD := ((He.obsD fa fn K).1 && cs.all (cOk K), (He.obsD fa fn K).2)
def SaysM (fa : List He.Fa) (fn : List He.DefD) (cs : List (Str × PV)) (K : PySem.W.Frag) : Prop := obsM fa fn cs K = He.valD fn
def obsMG (n : Nat) (fa : List He.Fa) (fn : List He.DefD) (cs : List (Str × PV)) (g : Addr → Option Obj) : He.AlD := obsM fa fn cs (He.frG g (He.asD g n))
def hookM (n : Nat) (fa : List He.Fa) (fn : List He.DefD) (cs : List (Str × PV)) : PySem.W.Hook where
  α := He.AlD
  obs := fun s => obsMG n fa fn cs s.heap.get?
  val := fun _ => He.valD fn
  says := fun _ h => ∃ K : PySem.W.Frag, K.In h ∧ SaysM fa fn cs K
  of := fun _ _ e => ⟨_, He.frG_in, e⟩
  keeps := fun _ _ _ ⟨K, hK, c⟩ k => ⟨K, PySem.W.Frag.In.keeps hK k, c⟩
theorem obsMG_eq {n : Nat} {fa : List He.Fa} {fn : List He.DefD} {cs : List (Str × PV)} {g : Addr → Option Obj} {s : Shared} (h : ∀ a, g a = s.heap.get? a) : obsMG n fa fn cs g = (hookM n fa fn cs).obs s := by
  have e : g = s.heap.get? := funext h
  rw [e] <;> rfl
theorem SaysM.D {fa : List He.Fa} {fn : List He.DefD} {cs : List (Str × PV)} {K : PySem.W.Frag} (c : SaysM fa fn cs K) : He.SaysD fa fn K := by
  have e1 : ((He.obsD fa fn K).1 && cs.all (cOk K)) = true := congrArg (fun z : He.AlD => z.1) c
  have e2 : (He.obsD fa fn K).2 = fn.map He.DefD.val := congrArg (fun z : He.AlD => z.2) c
  exact Prod.ext (He.ba e1).1 e2
theorem SaysM.cst {fa : List He.Fa} {fn : List He.DefD} {cs : List (Str × PV)} {K : PySem.W.Frag} (c : SaysM fa fn cs K) (i : Nat) {z : Str × PV} (h : cs[i]? = some z := by rfl) : cOk K z = true := by
  have e1 : ((He.obsD fa fn K).1 && cs.all (cOk K)) = true := congrArg (fun z : He.AlD => z.1) c
  exact List.all_eq_true.mp (He.ba e1).2 z (List.mem_of_getElem? h)
/-! ### a def that calls itself: its depth is told -/
theorem fnG_bad {P : Program} {w : World} {K : PySem.W.Frag} {mg : Str → Option Value} {base : Heap} {k n np : Nat} {f : Addr} {fd : FuncData} {ps : List Str} (h : ps.length = np) : FnG P w K mg base k f fd ps (spF K n np fun _ => .bad) where
  len := fun vs H Q E q => q.1.trans h.symm
  run := fun A _ _ outer s H _ args us vs _ _ Q E q => by
    obtain ⟨_, ms, F, Ad, _, nb, _⟩ := q
    exact absurd rfl nb
end Mv

set_option Elab.async false
set_option linter.all false
set_option maxRecDepth 100000
set_option maxHeartbeats 4000000
namespace Mv
open PySem PySem.Spec PyProof.Rows L2
/-! ### str of an int, of a text -/
def pStr2 (p : PV) : Option PV := match p with
  | .str s => some (.str s)
  | p => pStr p
def rStrA : List V → Hp → VK → Prop := fun xs H Q => (∃ i : Int, xs = [.int i] ∧ i.natAbs.log2 < 1920 ∧ Q (.str (toString i)) H) ∨ ∃ a, xs = [.str a] ∧ Q (.str a) H
theorem call_strA {X : Cx} : CallR X (.type "str") rStrA := call_str_int.or SkE.call_str_str
theorem pc_str2 {K : PySem.W.Frag} : PC K rStrA (one pStr2) := PC.one fun p z v hz B W hp => by
  by_cases h : ∃ s, p = .str s
  · obtain ⟨s, rfl⟩ := h
    cases hz
    rw [repS.mp hp]
    exact ev_now (v := .str _) (repS.mpr rfl) fun F H sB sF Q k => .inr ⟨_, rfl, k⟩
  · have hz2 : pStr p = some z := by
      cases p <;> first | exact hz | exact absurd ⟨_, rfl⟩ h
    unfold pStr at hz2
    cases p with
    | int i =>
      dsimp only at hz2
      split at hz2
      · rename_i hl
        cases hz2
        rw [repI.mp hp]
        exact ev_now (v := .str _) (repS.mpr rfl) fun F H sB sF Q k => .inl ⟨i, rfl, hl, k⟩
      · cases hz2
    | _ => cases hz2
section
variable {X : Cx} {W : WX} {e : Expr} {t : TA} {s : SE (List PV)} {p pos : Pos}
theorem qe_str2 (hm : X.mg "str" = none) (ha : QA X W [e] t s) (hg : Gl X "str" := by rfl) (he : starEach [e] X.env = (false, eval e X.env) :: starEach [] X.env := by rfl) (hpl : (backTo pos (starEach [] X.env)).any (·.1) = false := by rfl) :
    QE X W (.Call (.Name "str" p) [e] [] pos) (tCB rStrA t) (eCB (one pStr2) s) := qe_callT call_strA pc_str2 hm PyProof.Rows.boot_str ha hg (by decide) (by decide) he hpl
end
end Mv

set_option Elab.async false
set_option linter.all false
set_option maxRecDepth 100000
set_option maxHeartbeats 4000000
/-! Plain laws, more: reversed slices, dicts, split, isinstance. -/
namespace Mv
open PySem PySem.Spec PyProof.Rows L2
section
variable {α β : Type} {ρ : Env}
@[simp] theorem sEnum3_ap (s : SE (List PV)) : sEnum3 s ρ = (s ρ).th fun ps ρ1 => ofO (enumOf3 ps) ρ1 := by simp [sEnum3]
@[simp] theorem enumOf3_t (xs : List PV) : enumOf3 [.tup xs] = some (xs.mapIdx fun i p => .tup [.int i, p]) := rfl
@[simp] theorem enumOf3_l (xs : List PV) : enumOf3 [.lst xs] = some (xs.mapIdx fun i p => .tup [.int i, p]) := rfl
@[simp] theorem enumOf3_s (s : Tx) : enumOf3 [.str s] = some (s.mapIdx fun i c => .tup [.int i, .str [c]]) := rfl
@[simp] theorem eLOf_ap (s : SE (List PV)) : eLOf s ρ = (s ρ).th fun ps ρ1 => ofO (match ps with | [p] => pListM p | _ => none) ρ1 := by
  simp only [eLOf, bind_ap]
  congr 1
  funext ps ρ1
  match ps with
  | [] => rfl
  | [p] => rfl
  | p :: q :: r => rfl
@[simp] theorem pListM_lst (xs : List PV) : pListM (.lst xs) = some (.ml (xs.map .fz)) := rfl
@[simp] theorem pListM_tup (xs : List PV) : pListM (.tup xs) = some (.ml (xs.map .fz)) := rfl
@[simp] theorem pRev_lst (xs : List PV) : pRev (.lst xs) = some (.lst xs.reverse) := rfl
@[simp] theorem pRev_tup (xs : List PV) : pRev (.tup xs) = some (.tup xs.reverse) := rfl
@[simp] theorem pAdd_lst (xs ys : List PV) : pAdd (.lst xs) (.lst ys) = if xs.length + ys.length ≤ 16777216 then some (.lst (xs ++ ys)) else none := rfl
@[simp] theorem pAdd_tup (xs ys : List PV) : pAdd (.tup xs) (.tup ys) = if xs.length + ys.length ≤ 16777216 then some (.tup (xs ++ ys)) else none := rfl
@[simp] theorem pSl_tup (s : List PV) (l h : Option Int) : pSl (.tup s) l h = some (.tup (cutL s l h)) := rfl
@[simp] theorem views_fun {γ : Type} (f : γ → PV) (l : List γ) : MV.views (l.map fun x => MV.fz (f x)) = l.map f := views_comp f l
@[simp] theorem bls_nil' : PV.bls [] = some [] := rfl
@[simp] theorem bls_bl (b : Bool) (r : List PV) : PV.bls (.bl b :: r) = (PV.bls r).map (b :: ·) := rfl
@[simp] theorem bls_mapf {γ : Type} (f : γ → Bool) (xs : List γ) : PV.bls (xs.map fun x => .bl (f x)) = some (xs.map f) := bls_map f xs
@[simp] theorem pAll_lst (xs : List PV) : pAll (.lst xs) = (PV.bls xs).map fun bs => .bl (bs.all id) := rfl
@[simp] theorem pAny_lst (xs : List PV) : pAny (.lst xs) = (PV.bls xs).map fun bs => .bl (bs.any id) := rfl
@[simp] theorem bls_plain (l : List Bool) : PV.bls (l.map PV.bl) = some l := by
  have := bls_map id l
  simpa using this
theorem map_mapIdx {α β γ : Type} (f : β → γ) (g : Nat → α → β) (l : List α) : (l.mapIdx g).map f = l.mapIdx fun i x => f (g i x) := by
  apply List.ext_getElem?
  intro i
  rw [List.getElem?_map, List.getElem?_mapIdx, List.getElem?_mapIdx, Option.map_map]
  rfl
@[simp] theorem pStr2_str (s : Tx) : pStr2 (.str s) = some (.str s) := rfl
@[simp] theorem pStr2_int (i : Int) : pStr2 (.int i) = if i.natAbs.log2 < 1920 then some (.str (numT i)) else none := rfl
@[simp] theorem pTuple_lst (xs : List PV) : pTuple (.lst xs) = some (.tup xs) := rfl
@[simp] theorem pTuple_tup (xs : List PV) : pTuple (.tup xs) = some (.tup xs) := rfl
@[simp] theorem pInt_bl (b : Bool) : pInt (.bl b) = some (.int (if b then 1 else 0)) := rfl
@[simp] theorem pRepl_str (y z s : Tx) : pRepl y z (.str s) = if s.length + (s.length + 1) * z.length ≤ 16777216 then some (.str (unS (Txt.replace (mkS s) (mkS y) (mkS z)))) else none := rfl
@[simp] theorem pSplit_str (s t : Tx) : pSplit (.str s) (.str t) = if t ≠ [] ∧ s.length + 2 ≤ 16777216 then some (strL (Txt.split (mkS s) (mkS t))) else none := rfl
@[simp] theorem eMs_ap (f : PV → List PV → Option PV) (s : SE PV) (u : SE (List PV)) : eMs f s u ρ = (s ρ).th fun p ρ1 => oth (asS p) fun z => (u ρ1).th fun q ρ2 => ofO (f (.str z) q) ρ2 := by
  simp only [eMs, bind_ap]
  congr 1
  funext p ρ1
  cases p <;> first | rfl | simp
@[simp] theorem pSplitK_str (s t : Tx) (k : Int) : pSplitK (.str s) [.str t, .int k] = if (t ≠ [] ∧ s.length + 2 ≤ 16777216) ∧ -(2 ^ 63) ≤ k ∧ k < 2 ^ 63 then some (strL (Txt.splitMax (mkS s) (mkS t) k)) else none := rfl
/-- a dict's parts -/
def asD (p : PV) : Option (List PKy × List PV) := match p with
  | .dic ks vs => some (ks, vs)
  | _ => none
@[simp] theorem asD_dic (ks : List PKy) (vs : List PV) : asD (.dic ks vs) = some (ks, vs) := rfl
@[simp] theorem eGet2_ap (sd sk sx : SE PV) : eGet2 sd sk sx ρ = (sd ρ).th fun d ρ1 => oth (asD d) fun z => (sk ρ1).th fun k ρ2 => (sx ρ2).th fun x ρ3 => ofO ((pKey k).map fun k => (dGet PV z.1 z.2 k).getD x) ρ3 := by
  simp only [eGet2, bind_ap]
  congr 1
  funext p ρ1
  cases p <;> first | rfl | simp [asD, pGet2]
@[simp] theorem sDis_ap (zs : List Tx) (s : SE (List MV)) : sDis zs s ρ = (s ρ).th fun ms ρ1 => .ok (.md (zs.map .inr) ms) ρ1 := by simp [sDis]
@[simp] theorem view_md (ks : List PKy) (vs : List MV) : (MV.md ks vs).view = .dic ks (MV.views vs) := by rw [MV.view]
@[simp] theorem pKey_str (s : Tx) : pKey (.str s) = some (.inr s) := rfl
@[simp] theorem pKey_int (i : Int) : pKey (.int i) = some (.inl i) := rfl
@[simp] theorem pIxD_dic (ks : List PKy) (vs : List PV) (q : PV) : pIxD (.dic ks vs) q = (pKey q).bind fun k => dGet PV ks vs k := rfl
@[simp] theorem pInD_dic (p : PV) (ks : List PKy) (vs : List PV) : pInD p (.dic ks vs) = ((pKey p).map fun k => (dGet PV ks vs k).isSome).map .bl := rfl
@[simp] theorem pNotInD_dic (p : PV) (ks : List PKy) (vs : List PV) : pNotInD p (.dic ks vs) = ((pKey p).map fun k => (dGet PV ks vs k).isSome).map fun b => .bl (!b) := rfl
@[simp] theorem dGet_nil (α : Type) (vs : List α) (k : PKy) : dGet α [] vs k = none := by
  unfold dGet
  rfl
@[simp] theorem dGet_cons (α : Type) (k' : PKy) (ks : List PKy) (v : α) (vs : List α) (k : PKy) : dGet α (k' :: ks) (v :: vs) k = if k' = k then some v else dGet α ks vs k := by
  rw [dGet]
@[simp] theorem pMul_lst (s : List PV) (k : Int) : pMul (.lst s) (.int k) = if s.length * k.toNat ≤ 16777216 ∧ -1000000000 ≤ k ∧ k ≤ 1000000000 then some (.lst (List.replicate k.toNat s).flatten) else none := rfl
end
/-! ### isinstance -/
@[simp] theorem pIsiA_ap (p : PV) (c : String) : pIsiA [p, .opq (.ty c)] = pIsi c p := rfl
/-- the told classes -/
def isT (c : String) : PV → Bool
  | .non => false
  | .bl _ => c == "bool" || c == "int"
  | .int _ => c == "int"
  | .str _ => c == "str"
  | .tup _ => c == "tuple"
  | .lst _ => c == "list"
  | .dic _ _ => c == "dict"
  | .scr _ => false
  | .opq _ => false
theorem kit_all : ["NoneType", "bool", "int", "str", "tuple", "list", "dict"].all (fun t => ["int", "bool", "str", "tuple", "list", "dict"].all fun c => decide (kitB t c = some (t == c || (t == "bool" && c == "int")))) = true := by decide +kernel
theorem pIsi_ok (c : String) (hc : c ∈ ["int", "bool", "str", "tuple", "list", "dict"]) (p : PV) (h : p.tyOk = true) : pIsi c p = some (.bl (isT c p)) := by
  have key : ∀ t ∈ ["NoneType", "bool", "int", "str", "tuple", "list", "dict"], kitB t c = some (t == c || (t == "bool" && c == "int")) := fun t ht => by
    have h1 := List.all_eq_true.mp kit_all t ht
    exact of_decide_eq_true (List.all_eq_true.mp h1 c hc)
  unfold pIsi
  rw [if_pos h]
  have hb : ∀ (a b : String), (a == b) = (b == a) := fun a b => by
    rw [Bool.eq_iff_iff]
    simp only [beq_iff_eq]
    exact eq_comm
  cases p with
  | non =>
    show (kitB "NoneType" c).map PV.bl = _
    rw [key _ (by simp)]
    simp at hc
    rcases hc with rfl | rfl | rfl | rfl | rfl | rfl <;> rfl
  | bl b =>
    show (kitB "bool" c).map PV.bl = _
    rw [key _ (by simp)]
    simp at hc
    rcases hc with rfl | rfl | rfl | rfl | rfl | rfl <;> rfl
  | int b =>
    show (kitB "int" c).map PV.bl = _
    rw [key _ (by simp)]
    simp at hc
    rcases hc with rfl | rfl | rfl | rfl | rfl | rfl <;> rfl
  | str b =>
    show (kitB "str" c).map PV.bl = _
    rw [key _ (by simp)]
    simp at hc
    rcases hc with rfl | rfl | rfl | rfl | rfl | rfl <;> rfl
  | tup b =>
    show (kitB "tuple" c).map PV.bl = _
    rw [key _ (by simp)]
    simp at hc
    rcases hc with rfl | rfl | rfl | rfl | rfl | rfl <;> rfl
  | lst b =>
    show (kitB "list" c).map PV.bl = _
    rw [key _ (by simp)]
    simp at hc
    rcases hc with rfl | rfl | rfl | rfl | rfl | rfl <;> rfl
  | dic b d =>
    show (kitB "dict" c).map PV.bl = _
    rw [key _ (by simp)]
    simp at hc
    rcases hc with rfl | rfl | rfl | rfl | rfl | rfl <;> rfl
  | scr b => cases h
  | opq b => cases h
@[simp] theorem pIsi_int_non : pIsi "int" .non = some (.bl false) := pIsi_ok "int" (by simp) _ rfl
@[simp] theorem pIsi_int_bl (b : Bool) : pIsi "int" (.bl b) = some (.bl true) := pIsi_ok "int" (by simp) _ rfl
@[simp] theorem pIsi_int_int (i : Int) : pIsi "int" (.int i) = some (.bl true) := pIsi_ok "int" (by simp) _ rfl
@[simp] theorem pIsi_int_str (s : Tx) : pIsi "int" (.str s) = some (.bl false) := pIsi_ok "int" (by simp) _ rfl
@[simp] theorem pIsi_int_tup (xs : List PV) : pIsi "int" (.tup xs) = some (.bl false) := pIsi_ok "int" (by simp) _ rfl
@[simp] theorem pIsi_int_lst (xs : List PV) : pIsi "int" (.lst xs) = some (.bl false) := pIsi_ok "int" (by simp) _ rfl
@[simp] theorem pIsi_int_dic (ks : List PKy) (vs : List PV) : pIsi "int" (.dic ks vs) = some (.bl false) := pIsi_ok "int" (by simp) _ rfl
@[simp] theorem pIsi_bool_non : pIsi "bool" .non = some (.bl false) := pIsi_ok "bool" (by simp) _ rfl
@[simp] theorem pIsi_bool_bl (b : Bool) : pIsi "bool" (.bl b) = some (.bl true) := pIsi_ok "bool" (by simp) _ rfl
@[simp] theorem pIsi_bool_int (i : Int) : pIsi "bool" (.int i) = some (.bl false) := pIsi_ok "bool" (by simp) _ rfl
@[simp] theorem pIsi_bool_str (s : Tx) : pIsi "bool" (.str s) = some (.bl false) := pIsi_ok "bool" (by simp) _ rfl
@[simp] theorem pIsi_bool_tup (xs : List PV) : pIsi "bool" (.tup xs) = some (.bl false) := pIsi_ok "bool" (by simp) _ rfl
@[simp] theorem pIsi_bool_lst (xs : List PV) : pIsi "bool" (.lst xs) = some (.bl false) := pIsi_ok "bool" (by simp) _ rfl
@[simp] theorem pIsi_bool_dic (ks : List PKy) (vs : List PV) : pIsi "bool" (.dic ks vs) = some (.bl false) := pIsi_ok "bool" (by simp) _ rfl
@[simp] theorem pIsi_str_non : pIsi "str" .non = some (.bl false) := pIsi_ok "str" (by simp) _ rfl
@[simp] theorem pIsi_str_bl (b : Bool) : pIsi "str" (.bl b) = some (.bl false) := pIsi_ok "str" (by simp) _ rfl
@[simp] theorem pIsi_str_int (i : Int) : pIsi "str" (.int i) = some (.bl false) := pIsi_ok "str" (by simp) _ rfl
@[simp] theorem pIsi_str_str (s : Tx) : pIsi "str" (.str s) = some (.bl true) := pIsi_ok "str" (by simp) _ rfl
@[simp] theorem pIsi_str_tup (xs : List PV) : pIsi "str" (.tup xs) = some (.bl false) := pIsi_ok "str" (by simp) _ rfl
@[simp] theorem pIsi_str_lst (xs : List PV) : pIsi "str" (.lst xs) = some (.bl false) := pIsi_ok "str" (by simp) _ rfl
@[simp] theorem pIsi_str_dic (ks : List PKy) (vs : List PV) : pIsi "str" (.dic ks vs) = some (.bl false) := pIsi_ok "str" (by simp) _ rfl
@[simp] theorem pIsi_tuple_non : pIsi "tuple" .non = some (.bl false) := pIsi_ok "tuple" (by simp) _ rfl
@[simp] theorem pIsi_tuple_bl (b : Bool) : pIsi "tuple" (.bl b) = some (.bl false) := pIsi_ok "tuple" (by simp) _ rfl
@[simp] theorem pIsi_tuple_int (i : Int) : pIsi "tuple" (.int i) = some (.bl false) := pIsi_ok "tuple" (by simp) _ rfl
@[simp] theorem pIsi_tuple_str (s : Tx) : pIsi "tuple" (.str s) = some (.bl false) := pIsi_ok "tuple" (by simp) _ rfl
@[simp] theorem pIsi_tuple_tup (xs : List PV) : pIsi "tuple" (.tup xs) = some (.bl true) := pIsi_ok "tuple" (by simp) _ rfl
@[simp] theorem pIsi_tuple_lst (xs : List PV) : pIsi "tuple" (.lst xs) = some (.bl false) := pIsi_ok "tuple" (by simp) _ rfl
@[simp] theorem pIsi_tuple_dic (ks : List PKy) (vs : List PV) : pIsi "tuple" (.dic ks vs) = some (.bl false) := pIsi_ok "tuple" (by simp) _ rfl
@[simp] theorem pIsi_list_non : pIsi "list" .non = some (.bl false) := pIsi_ok "list" (by simp) _ rfl
@[simp] theorem pIsi_list_bl (b : Bool) : pIsi "list" (.bl b) = some (.bl false) := pIsi_ok "list" (by simp) _ rfl
@[simp] theorem pIsi_list_int (i : Int) : pIsi "list" (.int i) = some (.bl false) := pIsi_ok "list" (by simp) _ rfl
@[simp] theorem pIsi_list_str (s : Tx) : pIsi "list" (.str s) = some (.bl false) := pIsi_ok "list" (by simp) _ rfl
@[simp] theorem pIsi_list_tup (xs : List PV) : pIsi "list" (.tup xs) = some (.bl false) := pIsi_ok "list" (by simp) _ rfl
@[simp] theorem pIsi_list_lst (xs : List PV) : pIsi "list" (.lst xs) = some (.bl true) := pIsi_ok "list" (by simp) _ rfl
@[simp] theorem pIsi_list_dic (ks : List PKy) (vs : List PV) : pIsi "list" (.dic ks vs) = some (.bl false) := pIsi_ok "list" (by simp) _ rfl
@[simp] theorem pIsi_dict_non : pIsi "dict" .non = some (.bl false) := pIsi_ok "dict" (by simp) _ rfl
@[simp] theorem pIsi_dict_bl (b : Bool) : pIsi "dict" (.bl b) = some (.bl false) := pIsi_ok "dict" (by simp) _ rfl
@[simp] theorem pIsi_dict_int (i : Int) : pIsi "dict" (.int i) = some (.bl false) := pIsi_ok "dict" (by simp) _ rfl
@[simp] theorem pIsi_dict_str (s : Tx) : pIsi "dict" (.str s) = some (.bl false) := pIsi_ok "dict" (by simp) _ rfl
@[simp] theorem pIsi_dict_tup (xs : List PV) : pIsi "dict" (.tup xs) = some (.bl false) := pIsi_ok "dict" (by simp) _ rfl
@[simp] theorem pIsi_dict_lst (xs : List PV) : pIsi "dict" (.lst xs) = some (.bl false) := pIsi_ok "dict" (by simp) _ rfl
@[simp] theorem pIsi_dict_dic (ks : List PKy) (vs : List PV) : pIsi "dict" (.dic ks vs) = some (.bl true) := pIsi_ok "dict" (by simp) _ rfl
@[simp] theorem tyOk_non : PV.tyOk .non = true := rfl
@[simp] theorem tyOk_bl (b : Bool) : PV.tyOk (.bl b) = true := rfl
@[simp] theorem tyOk_int (b : Int) : PV.tyOk (.int b) = true := rfl
@[simp] theorem tyOk_str (b : Tx) : PV.tyOk (.str b) = true := rfl
@[simp] theorem tyOk_tup (b : List PV) : PV.tyOk (.tup b) = true := rfl
@[simp] theorem tyOk_lst (b : List PV) : PV.tyOk (.lst b) = true := rfl
/-! ### values all of whose parts are plain and short -/
mutual
def PV.wel : PV → Bool
  | .non => true | .bl _ => true | .int _ => true | .str s => decide (s.length ≤ 16777216) | .tup xs => PV.wels xs | .lst xs => PV.wels xs
  | .dic _ _ => false | .scr _ => false | .opq _ => false
def PV.wels : List PV → Bool
  | [] => true
  | x :: xs => PV.wel x && PV.wels xs
end
@[simp] theorem wel_tup (xs : List PV) : PV.wel (.tup xs) = PV.wels xs := by rw [PV.wel]
@[simp] theorem wel_lst (xs : List PV) : PV.wel (.lst xs) = PV.wels xs := by rw [PV.wel]
@[simp] theorem wel_str (s : Tx) : PV.wel (.str s) = decide (s.length ≤ 16777216) := by rw [PV.wel]
@[simp] theorem wel_non : PV.wel .non = true := by rw [PV.wel]
@[simp] theorem wel_bl (b : Bool) : PV.wel (.bl b) = true := by rw [PV.wel]
@[simp] theorem wel_int (b : Int) : PV.wel (.int b) = true := by rw [PV.wel]
@[simp] theorem wels_nil : PV.wels [] = true := by rw [PV.wels]
@[simp] theorem wels_cons (x : PV) (xs : List PV) : PV.wels (x :: xs) = (PV.wel x && PV.wels xs) := by rw [PV.wels]
theorem wel_ty {p : PV} (h : p.wel = true) : p.tyOk = true := by
  cases p <;> first | rfl | (rw [PV.wel] at h; cases h)
theorem wels_iff : ∀ {xs : List PV}, PV.wels xs = true ↔ ∀ x ∈ xs, x.wel = true
  | [] => by simp
  | x :: xs => by simp [wels_iff (xs := xs)]
/-! ### comprehensions without a test, drawn through what they make -/
theorem sLc_map {it : SE (List PV)} {g : PV → Env → Option Env} {tt : SE Bool} {te : SE PV} {vs : List Nat} {ρ ρ1 : Env} {items : List PV} (f : PV → PV) (hit : it ρ = .ok items ρ1) (hl : items.length ≤ 16777216)
    (h : ∀ p ∈ items, ∃ ρa ρb ρc, g p (wipeE ρ1 vs) = some ρa ∧ tt ρa = .ok true ρb ∧ te ρb = .ok (f p) ρc ∧ wipeE ρc vs = wipeE ρ1 vs) : sLc it g tt te vs ρ = .ok (.ml ((items.map f).map .fz)) (backE vs ρ1 (wipeE ρ1 vs)) := by
  rw [sLc_ap, hit, th_ok, if_pos hl, lcGo_pure h]
  simp
theorem sLc_filter {it : SE (List PV)} {g : PV → Env → Option Env} {tt : SE Bool} {te : SE PV} {vs : List Nat} {ρ ρ1 : Env} {items : List PV} (f : PV → PV) (b : PV → Bool) (hit : it ρ = .ok items ρ1) (hl : items.length ≤ 16777216)
    (h : ∀ p ∈ items, ∃ ρa ρb ρc, g p (wipeE ρ1 vs) = some ρa ∧ tt ρa = .ok (b p) ρb ∧ (b p = true → te ρb = .ok (f p) ρc) ∧ (b p = false → ρc = ρb) ∧ wipeE ρc vs = wipeE ρ1 vs) : sLc it g tt te vs ρ = .ok (.ml (((items.filter b).map f).map .fz)) (backE vs ρ1 (wipeE ρ1 vs)) := by
  rw [sLc_ap, hit, th_ok, if_pos hl, lcGo_filter h]
  simp
/-! ### places -/
section
variable {α : Type} (a b c d e : α) (l : List α)
@[simp] theorem atI_c0 : atI (a :: l) 0 = some a := by simp [atI, ixN]
@[simp] theorem atI_c1 : atI (a :: b :: l) 1 = some b := by
  unfold atI ixN
  rw [if_pos (by omega), if_pos (by simp; omega)]
  rfl
@[simp] theorem atI_c2 : atI (a :: b :: c :: l) 2 = some c := by
  unfold atI ixN
  rw [if_pos (by omega), if_pos (by simp; omega)]
  rfl
@[simp] theorem atI_c3 : atI (a :: b :: c :: d :: l) 3 = some d := by
  unfold atI ixN
  rw [if_pos (by omega), if_pos (by simp; omega)]
  rfl
@[simp] theorem atI_c4 : atI (a :: b :: c :: d :: e :: l) 4 = some e := by
  unfold atI ixN
  rw [if_pos (by omega), if_pos (by simp; omega)]
  rfl
@[simp] theorem cut_1n : cutL (a :: l) (some 1) none = l := by
  rw [cutL_pn _ (by omega)]
  rfl
@[simp] theorem cut_n2 : cutL (a :: b :: l) none (some 2) = [a, b] := by
  rw [cutL_np _ (by omega)]
  rfl
end
end Mv

set_option Elab.async false
set_option linter.all false
set_option maxRecDepth 100000
set_option maxHeartbeats 4000000
/-! Texts split at one sign, as functions on lists. -/
namespace Mv
open PySem PySem.Spec PyProof.Rows L2
def spC (c : Nat) : Tx → List Tx
  | [] => [[]]
  | x :: r => if x = c then [] :: spC c r else match spC c r with
    | h :: t => (x :: h) :: t
    | [] => [[x]]
theorem spC_ne (c : Nat) : ∀ s, spC c s ≠ []
  | [] => by simp [spC]
  | x :: r => by
    rw [spC]
    split
    · simp
    · split <;> simp
theorem joinT_nil' (sep : Tx) : joinT sep [] = [] := rfl
theorem joinT_one (sep p : Tx) : joinT sep [p] = p := rfl
theorem joinT_two (sep p q : Tx) (r : List Tx) : joinT sep (p :: q :: r) = p ++ (sep ++ joinT sep (q :: r)) := rfl
theorem joinT_cons (sep p : Tx) {r : List Tx} (h : r ≠ []) : joinT sep (p :: r) = p ++ (sep ++ joinT sep r) := by
  cases r with
  | nil => exact absurd rfl h
  | cons q r => rfl
theorem spC_hit (c : Nat) (r : Tx) : spC c (c :: r) = [] :: spC c r := by rw [spC, if_pos rfl]
theorem spC_app (c : Nat) : ∀ (p s : Tx), c ∉ p → spC c (p ++ s) = match spC c s with
    | h :: t => (p ++ h) :: t
    | [] => [p]
  | [], s, _ => by
    rw [List.nil_append]
    cases e : spC c s with
    | nil => exact absurd e (spC_ne c s)
    | cons h t => rfl
  | x :: p, s, hn => by
    rw [List.cons_append, spC, if_neg (show ¬ x = c from fun e => hn (by rw [e]; exact List.mem_cons_self ..)), spC_app c p s fun h => hn (List.mem_cons_of_mem _ h)]
    cases e : spC c s with
    | nil => exact absurd e (spC_ne c s)
    | cons h t => rfl
theorem spC_none {c : Nat} {p : Tx} (h : c ∉ p) : spC c p = [p] := by
  have := spC_app c p [] h
  rw [List.append_nil] at this
  rw [this]
  simp [spC]
theorem spC_cat {c : Nat} {p : Tx} (s : Tx) (h : c ∉ p) : spC c (p ++ c :: s) = p :: spC c s := by
  rw [spC_app c p _ h, spC_hit]
  simp
theorem spC_join {c : Nat} : ∀ {ps : List Tx}, ps ≠ [] → (∀ p ∈ ps, c ∉ p) → spC c (joinT [c] ps) = ps
  | [], h, _ => absurd rfl h
  | [p], _, h => by rw [joinT_one, spC_none (h p (List.mem_singleton.mpr rfl))]
  | p :: q :: r, _, h => by
    rw [joinT_two, List.singleton_append, spC_cat _ (h p (List.mem_cons_self ..)), spC_join (by simp) fun x hx => h x (List.mem_cons_of_mem _ hx)]
theorem join_spC (c : Nat) : ∀ s, joinT [c] (spC c s) = s
  | [] => by rw [spC]; rfl
  | x :: r => by
    have ih := join_spC c r
    rw [spC]
    split
    · rename_i h
      subst h
      rw [joinT_cons _ _ (spC_ne x r), ih]
      rfl
    · cases e : spC c r with
      | nil => exact absurd e (spC_ne c r)
      | cons h t =>
        rw [e] at ih
        show joinT [c] ((x :: h) :: t) = _
        cases t with
        | nil => rw [joinT_one] at ih ⊢; rw [ih]
        | cons q t => rw [joinT_two] at ih ⊢; rw [List.cons_append, ih]
theorem spC_free (c : Nat) : ∀ s, ∀ p ∈ spC c s, c ∉ p
  | [], p, h => by
    rw [spC] at h
    rw [List.mem_singleton.mp h]
    simp
  | x :: r, p, h => by
    have ih := spC_free c r
    rw [spC] at h
    split at h
    · rcases List.mem_cons.mp h with rfl | h
      · simp
      · exact ih p h
    · rename_i hx
      cases e : spC c r with
      | nil => exact absurd e (spC_ne c r)
      | cons q t =>
        rw [e] at h ih
        rcases List.mem_cons.mp h with rfl | h
        · intro hc
          rcases List.mem_cons.mp hc with hc | hc
          · exact hx hc.symm
          · exact ih q (List.mem_cons_self ..) hc
        · exact ih p (List.mem_cons_of_mem _ h)
theorem joinT_len1 (c : Nat) : ∀ ps : List Tx, ps ≠ [] → (joinT [c] ps).length + 1 = (ps.map List.length).sum + ps.length
  | [], h => absurd rfl h
  | [p], _ => by rw [joinT_one]; simp
  | p :: q :: r, _ => by
    have := joinT_len1 c (q :: r) (by simp)
    rw [joinT_two]
    simp at this ⊢
    omega
theorem spC_len (c : Nat) (s : Tx) : (spC c s).length ≤ s.length + 1 := by
  have := joinT_len1 c _ (spC_ne c s)
  rw [join_spC] at this
  omega
theorem spC_sum (c : Nat) (s : Tx) : ((spC c s).map List.length).sum + (spC c s).length = s.length + 1 := by
  have := joinT_len1 c _ (spC_ne c s)
  rw [join_spC] at this
  omega
theorem mem_sum_le {l : List Nat} {n : Nat} (h : n ∈ l) : n ≤ l.sum := by
  induction l with
  | nil => cases h
  | cons a r ih =>
    rw [List.sum_cons]
    rcases List.mem_cons.mp h with rfl | h
    · omega
    · have := ih h; omega
theorem spC_part {c : Nat} {s p : Tx} (h : p ∈ spC c s) : p.length ≤ s.length := by
  have h1 := spC_sum c s
  have h2 := mem_sum_le (List.mem_map_of_mem (f := List.length) h)
  have h3 : 1 ≤ (spC c s).length := by
    have := spC_ne c s
    cases e : spC c s with
    | nil => exact absurd e this
    | cons a r => simp
  omega
theorem mem_joinT (sep : Tx) : ∀ (ps : List Tx) (x : Nat), x ∈ joinT sep ps → x ∈ sep ∨ ∃ p ∈ ps, x ∈ p
  | [], x, h => by cases h
  | [p], x, h => .inr ⟨p, List.mem_singleton.mpr rfl, h⟩
  | p :: q :: r, x, h => by
    rw [joinT_two, List.mem_append, List.mem_append] at h
    rcases h with h | h | h
    · exact .inr ⟨p, List.mem_cons_self .., h⟩
    · exact .inl h
    · rcases mem_joinT sep (q :: r) x h with h | ⟨z, hz, h⟩
      · exact .inl h
      · exact .inr ⟨z, List.mem_cons_of_mem _ hz, h⟩
theorem mem_of_joinT (sep : Tx) : ∀ (ps : List Tx) (p : Tx) (x : Nat), p ∈ ps → x ∈ p → x ∈ joinT sep ps
  | [], p, x, h, _ => by cases h
  | [q], p, x, h, hx => by rw [joinT_one, ← List.mem_singleton.mp h]; exact hx
  | a :: q :: r, p, x, h, hx => by
    rw [joinT_two, List.mem_append, List.mem_append]
    rcases List.mem_cons.mp h with rfl | h
    · exact .inl hx
    · exact .inr (.inr (mem_of_joinT sep (q :: r) p x h hx))
theorem spC_sub {c : Nat} {s p : Tx} (h : p ∈ spC c s) {x : Nat} (hx : x ∈ p) : x ∈ s := by
  have := mem_of_joinT [c] _ p x h hx
  rw [join_spC] at this
  exact this
/-! ### the model's split -/
theorem mkS_map_un (xs : List Str) : (xs.map unS).map mkS = xs := by
  rw [List.map_map]
  conv => rhs; rw [← List.map_id xs]
  exact List.map_congr_left fun x _ => mk_unS x
theorem un_join (sep : Tx) (xs : List Str) : unS (Str.join (mkS sep) xs) = joinT sep (xs.map unS) := TL.tl_join (mkS sep) xs
theorem split_one (s : Tx) (c : Nat) : (Txt.split (mkS s) (mkS [c])).map unS = spC c s := by
  have h1 := StrLaws.join_split (mkS s) (mkS [c])
  have h2 := StrLaws.split_free (mkS s) c
  have h3 := congrArg unS h1
  rw [un_join] at h3
  have h4 : joinT [c] ((Txt.split (mkS s) (mkS [c])).map unS) = s := h3
  have h5 := spC_join (c := c) (ps := (Txt.split (mkS s) (mkS [c])).map unS) (by
    have hpos := split_pos (mkS s) (mkS [c])
    intro e
    rw [List.map_eq_nil_iff.mp e] at hpos
    exact absurd hpos (by decide)) fun p hp => by
      obtain ⟨z, hz, rfl⟩ := List.mem_map.mp hp
      exact h2 z hz
  rw [h4] at h5
  exact h5.symm
theorem strL_map (xs : List Str) : strL xs = .lst ((xs.map unS).map .str) := by
  unfold strL
  rw [List.map_map]
  rfl
theorem strL_split (s : Tx) (c : Nat) : strL (Txt.split (mkS s) (mkS [c])) = .lst ((spC c s).map .str) := by
  rw [strL_map, split_one]
theorem repl_one (s z : Tx) (c : Nat) : unS (Txt.replace (mkS s) (mkS [c]) (mkS z)) = joinT z (spC c s) := by
  have e := StrLaws.replace_one (mkS s) (mkS z) c
  have e2 : Txt.replace (mkS s) (mkS [c]) (mkS z) = Str.join (mkS z) (Txt.split (mkS s) (mkS [c])) := e
  rw [e2, un_join, split_one]
/-! with a limit -/
open StrLaws Builtin.Str in
theorem occ_take_run (s sub : Str) (hi U k : Nat) : ∀ (l : List Nat) (st st' : Array Nat × Nat), st'.fst.toList = st.fst.toList.take k → (st'.fst.size < k → st' = st) → st.fst.size + l.length ≤ U →
    (forIn l st' (occBody s sub hi k)).run.fst.toList = ((forIn l st (occBody s sub hi U)).run.fst.toList).take k
  | [], st, st', h, _, _ => h
  | a :: l, st, st', h, h2, h3 => by
    rw [List.forIn_cons, List.forIn_cons]
    unfold occBody
    rw [List.length_cons] at h3
    by_cases hk : st'.fst.size < k
    · have e := h2 hk
      subst e
      by_cases hc : (st'.snd ≤ a ∧ a + sub.length ≤ hi) ∧ subAt s sub a = true
      · rw [if_pos ⟨⟨⟨hk, hc.1.1⟩, hc.1.2⟩, hc.2⟩, if_pos ⟨⟨⟨by omega, hc.1.1⟩, hc.1.2⟩, hc.2⟩]
        refine occ_take_run s sub hi U k l _ _ ?_ (fun _ => rfl) (by simp only [Array.size_push]; omega)
        rw [List.take_of_length_le (by simp; omega)]
      · rw [if_neg (fun q => hc ⟨⟨q.1.1.2, q.1.2⟩, q.2⟩), if_neg (fun q => hc ⟨⟨q.1.1.2, q.1.2⟩, q.2⟩)]
        exact occ_take_run s sub hi U k l _ _ h (fun _ => rfl) (by show st'.fst.size + l.length ≤ U; omega)
    · rw [if_neg (fun q => hk q.1.1.1)]
      have hle : k ≤ st.fst.size := by
        have := congrArg List.length h
        rw [List.length_take, Array.length_toList, Array.length_toList] at this
        omega
      split
      · refine occ_take_run s sub hi U k l _ _ ?_ (fun q => absurd q hk) (by simp only [Array.size_push]; omega)
        show st'.fst.toList = (st.fst.push a).toList.take k
        rw [Array.toList_push, List.take_append_of_le_length (by rw [Array.length_toList]; exact hle)]
        exact h
      · exact occ_take_run s sub hi U k l _ _ h (fun q => absurd q hk) (by show st.fst.size + l.length ≤ U; omega)
open StrLaws Builtin.Str in
theorem occ_take (x y : Str) (k : Nat) : occurrences x y 0 x.length k = (occurrences x y 0 x.length (x.length + 1)).take k := by
  rw [occ_eq, occ_eq]
  exact occ_take_run x y x.length (x.length + 1) k _ _ _ (by simp) (fun _ => rfl) (by simp)
open StrLaws Builtin.Str in
theorem parts_take (x y : Str) : ∀ (k : Nat) (cuts : List Nat) (a f : Nat), ChainTo x y x.length a cuts f →
    partsFrom x y.length a (cuts.take k) = if (partsFrom x y.length a cuts).length ≤ k + 1 then partsFrom x y.length a cuts else (partsFrom x y.length a cuts).take k ++ [Str.join y ((partsFrom x y.length a cuts).drop k)]
  | k, [], a, f, h => by
    rw [List.take_nil, if_pos (by show 1 ≤ k + 1; omega)]
  | 0, c :: r, a, f, h => by
    rw [List.take_zero, List.take_zero, List.drop_zero, join_partsFrom x y _ a f h, if_neg]
    · rfl
    · obtain ⟨p, q, e⟩ := partsFrom_ne x y.length (c + y.length) r
      show ¬ (strSub x a c :: partsFrom x y.length (c + y.length) r).length ≤ 0 + 1
      rw [e]
      simp
  | k + 1, c :: r, a, f, h => by
    have ih := parts_take x y k r (c + y.length) f h.2.2
    rw [List.take_succ_cons]
    show strSub x a c :: partsFrom x y.length (c + y.length) (r.take k) = if (strSub x a c :: partsFrom x y.length (c + y.length) r).length ≤ k + 1 + 1 then strSub x a c :: partsFrom x y.length (c + y.length) r else (strSub x a c :: partsFrom x y.length (c + y.length) r).take (k + 1) ++ [Str.join y ((strSub x a c :: partsFrom x y.length (c + y.length) r).drop (k + 1))]
    rw [ih]
    by_cases hc : (partsFrom x y.length (c + y.length) r).length ≤ k + 1
    · rw [if_pos hc, if_pos (by rw [List.length_cons]; omega)]
    · rw [if_neg hc, if_neg (by rw [List.length_cons]; omega), List.take_succ_cons, List.drop_succ_cons]
      rfl
def spCk (c k : Nat) (s : Tx) : List Tx := if (spC c s).length ≤ k + 1 then spC c s else (spC c s).take k ++ [joinT [c] ((spC c s).drop k)]
open StrLaws Builtin.Str in
theorem splitMax_one (s : Tx) (c k : Nat) : (Txt.splitMax (mkS s) (mkS [c]) (k : Int)).map unS = spCk c k s := by
  have key : Txt.splitMax (mkS s) (mkS [c]) (k : Int) = if (Txt.split (mkS s) (mkS [c])).length ≤ k + 1 then Txt.split (mkS s) (mkS [c]) else (Txt.split (mkS s) (mkS [c])).take k ++ [Str.join (mkS [c]) ((Txt.split (mkS s) (mkS [c])).drop k)] := by
    unfold Txt.splitMax Txt.split
    have el : limitOf (mkS s) (k : Int) = k := by
      unfold limitOf
      rw [if_neg (by omega), Int.toNat_natCast]
    rw [el]
    split
    · rw [if_pos (by simp)]
    · obtain ⟨f, hch⟩ := occ_chain (mkS s) (mkS [c]) ((mkS s).length + 1)
      have hp := parts_take (mkS s) (mkS [c]) k _ 0 f hch
      rw [← occ_take] at hp
      have whole : ∀ cuts : List Nat, (if cuts.isEmpty = true then [mkS s] else partsBetween (mkS s) cuts (mkS [c]).length) = partsFrom (mkS s) (mkS [c]).length 0 cuts := fun cuts => by
        cases cuts with
        | nil =>
          show [mkS s] = [strSub (mkS s) 0 (mkS s).length]
          rw [sub_whole]
        | cons a r => rw [if_neg (show ¬ (a :: r).isEmpty = true by simp), partsBetween_eq]
      rw [whole, whole, hp]
  rw [key]
  unfold spCk
  rw [← split_one s c, List.length_map]
  split
  · rfl
  · rw [List.map_append, List.map_take, List.map_singleton, un_join, List.map_drop]
theorem strL_splitMax (s : Tx) (c k : Nat) : strL (Txt.splitMax (mkS s) (mkS [c]) (k : Int)) = .lst ((spCk c k s).map .str) := by
  rw [strL_map, splitMax_one]
end Mv

set_option Elab.async false
set_option linter.all false
set_option maxRecDepth 100000
set_option maxHeartbeats 4000000
/-! What can be shown. -/
namespace Mv
open PySem PySem.Spec PyProof.Rows L2
def sm (n d : Nat) (p : PV) : Prop := p.chk = true ∧ p.sho = true ∧ p.cost ≤ n ∧ p.dep ≤ d
def sms (n d : Nat) (xs : List PV) : Prop := PV.chks xs = true ∧ PV.shos xs = true ∧ PV.costs xs ≤ n ∧ PV.deps xs ≤ d
theorem sm_repr {p : PV} {n d : Nat} (h : sm n d p) (hn : n ≤ 16777216 := by decide) (hd : d ≤ 64 := by decide) : pRepr p = some (.str p.rp) := by
  obtain ⟨h1, h2, h3, h4⟩ := h
  have : p.okRp = true := by
    unfold PV.okRp
    rw [h1, h2]
    simp
    omega
  unfold pRepr
  rw [if_pos this]
theorem sm.mono {p : PV} {n d n' d' : Nat} (h : sm n d p) (hn : n ≤ n') (hd : d ≤ d') : sm n' d' p := ⟨h.1, h.2.1, Nat.le_trans h.2.2.1 hn, Nat.le_trans h.2.2.2 hd⟩
theorem sm_non : sm 8 0 .non := ⟨by rw [PV.chk], by rw [PV.sho], by rw [PV.cost]; exact Nat.le_refl _, by rw [PV.dep]; exact Nat.le_refl _⟩
theorem sm_bl (b : Bool) : sm 8 0 (.bl b) := ⟨by rw [PV.chk], by rw [PV.sho], by rw [PV.cost]; exact Nat.le_refl _, by rw [PV.dep]; exact Nat.le_refl _⟩
theorem log_ok {i : Int} (h : i.natAbs < 2 ^ 64) : i.natAbs.log2 < 1920 := by
  by_cases h0 : i.natAbs = 0
  · rw [h0]; decide
  · exact Nat.lt_of_lt_of_le ((Nat.log2_lt h0).mpr h) (by decide)
theorem sm_int {i : Int} (h : i.natAbs < 2 ^ 64) : sm 1925 0 (.int i) := ⟨by rw [PV.chk], by rw [PV.sho]; exact decide_eq_true (log_ok h), by rw [PV.cost]; exact Nat.le_refl _, by rw [PV.dep]; exact Nat.le_refl _⟩
theorem sm_str {s : Tx} (h : ∀ c ∈ s, c < 0x110000) : sm (10 * s.length + 4) 0 (.str s) := ⟨by
    rw [PV.chk, List.all_eq_true]
    intro c hc
    exact decide_eq_true (h c hc), by rw [PV.sho], by rw [PV.cost]; exact Nat.le_refl _, by rw [PV.dep]; exact Nat.le_refl _⟩
theorem sms_of {n d : Nat} : ∀ {xs : List PV}, (∀ x ∈ xs, sm n d x) → sms ((n + 2) * xs.length) d xs
  | [], _ => ⟨by rw [PV.chks], by rw [PV.shos], by rw [PV.costs]; exact Nat.zero_le _, by rw [PV.deps]; exact Nat.zero_le _⟩
  | x :: xs, h => by
    obtain ⟨a1, a2, a3, a4⟩ := h x (List.mem_cons_self ..)
    obtain ⟨b1, b2, b3, b4⟩ := sms_of (xs := xs) fun y hy => h y (List.mem_cons_of_mem _ hy)
    refine ⟨by rw [PV.chks, a1, b1]; rfl, by rw [PV.shos, a2, b2]; rfl, ?_, by rw [PV.deps]; exact Nat.max_le.mpr ⟨a4, b4⟩⟩
    rw [PV.costs, List.length_cons, Nat.mul_succ]
    omega
theorem sm_tup {n d : Nat} {xs : List PV} (h : ∀ x ∈ xs, sm n d x) : sm ((n + 2) * xs.length + 5) (d + 1) (.tup xs) := by
  obtain ⟨b1, b2, b3, b4⟩ := sms_of h
  exact ⟨by rw [PV.chk, b1], by rw [PV.sho, b2], by rw [PV.cost]; omega, by rw [PV.dep]; omega⟩
theorem sm_lst {n d : Nat} {xs : List PV} (h : ∀ x ∈ xs, sm n d x) : sm ((n + 2) * xs.length + 5) (d + 1) (.lst xs) := by
  obtain ⟨b1, b2, b3, b4⟩ := sms_of h
  exact ⟨by rw [PV.chk, b1], by rw [PV.sho, b2], by rw [PV.cost]; omega, by rw [PV.dep]; omega⟩
theorem sm_tupN {n d k : Nat} {xs : List PV} (h : ∀ x ∈ xs, sm n d x) (hk : xs.length ≤ k) : sm ((n + 2) * k + 5) (d + 1) (.tup xs) :=
  (sm_tup h).mono (by have := Nat.mul_le_mul_left (n + 2) hk; omega) (Nat.le_refl _)
theorem sm_lstN {n d k : Nat} {xs : List PV} (h : ∀ x ∈ xs, sm n d x) (hk : xs.length ≤ k) : sm ((n + 2) * k + 5) (d + 1) (.lst xs) :=
  (sm_lst h).mono (by have := Nat.mul_le_mul_left (n + 2) hk; omega) (Nat.le_refl _)
theorem sm_wel {n d : Nat} (hn : n ≤ 16777216) : ∀ (p : PV), sm n d p → p.wel = true := by
  have go : (∀ (p : PV) (n d : Nat), n ≤ 16777216 → sm n d p → p.wel = true) ∧ (∀ (ps : List PV) (n d : Nat), n ≤ 16777216 → sms n d ps → PV.wels ps = true) := by
    refine ⟨PV.rec (motive_1 := fun p => ∀ (n d : Nat), n ≤ 16777216 → sm n d p → p.wel = true) (motive_2 := fun ps => ∀ (n d : Nat), n ≤ 16777216 → sms n d ps → PV.wels ps = true) ?_ ?_ ?_ ?_ ?_ ?_ ?_ ?_ ?_ ?_ ?_,
      fun ps => PV.rec_1 (motive_1 := fun p => ∀ (n d : Nat), n ≤ 16777216 → sm n d p → p.wel = true) (motive_2 := fun ps => ∀ (n d : Nat), n ≤ 16777216 → sms n d ps → PV.wels ps = true) ?_ ?_ ?_ ?_ ?_ ?_ ?_ ?_ ?_ ?_ ?_ ps⟩
    all_goals first
      | (intro n d hn h; rw [PV.wel]; done)
      | (intro b n d hn h; rw [PV.wel]; done)
      | (intro s n d hn h
         have := h.2.2.1
         rw [PV.cost] at this
         rw [PV.wel]
         exact decide_eq_true (by omega))
      | (intro xs ih n d hn h
         obtain ⟨h1, h2, h3, h4⟩ := h
         rw [PV.chk] at h1
         rw [PV.sho] at h2
         rw [PV.cost] at h3
         rw [PV.dep] at h4
         rw [PV.wel]
         exact ih (n - 5) d (by omega) ⟨h1, h2, by omega, by omega⟩)
      | (intro ks vs ih n d hn h
         have := h.1
         rw [PV.chk] at this
         cases this)
      | (intro xs n d hn h
         have := h.1
         rw [PV.chk] at this
         cases this)
      | (intro n d hn h; rw [PV.wels]; done)
      | (intro x xs ih1 ih2 n d hn h
         obtain ⟨h1, h2, h3, h4⟩ := h
         rw [PV.chks, Bool.and_eq_true] at h1
         rw [PV.shos, Bool.and_eq_true] at h2
         rw [PV.costs] at h3
         rw [PV.deps] at h4
         rw [PV.wels, ih1 n d hn ⟨h1.1, h2.1, by omega, by omega⟩, ih2 n d hn ⟨h1.2, h2.2, by omega, by omega⟩]
         rfl)
  exact fun p h => go.1 p n d hn h
end Mv

set_option Elab.async false
set_option linter.all false
set_option maxRecDepth 100000
set_option maxHeartbeats 4000000
/-! Figures. -/
namespace Mv
open PySem PySem.Spec PyProof.Rows L2
def dig (c : Nat) : Bool := decide (48 ≤ c) && decide (c ≤ 57)
def val (l : Tx) : Nat := PySem.NumText.digitsVal l
theorem int_digs (l : Tx) (h : l.all dig = true) (hne : l ≠ []) (hl : l.length ≤ 640) : PySem.intText? (mkS l) = some (val l : Int) := by
  have := PySem.intText_digits (x := mkS l) (fun c hc => by
    have h1 : c ∈ l := hc
    have h2 := List.all_eq_true.mp h c h1
    unfold dig at h2
    simpa using h2) (by
    intro q
    exact hne q) (by
    show l.toArray.size ≤ 4300
    simp
    omega)
  exact this
theorem pInt_digs (l : Tx) (h : l.all dig = true) (hne : l ≠ []) (hl : l.length ≤ 640) : pInt (.str l) = some (.int (val l)) := by
  rw [pInt_str, if_pos hl, int_digs l h hne hl]
  rfl
theorem fig_dig (c : Nat) : decide (c ∈ ([48, 49, 50, 51, 52, 53, 54, 55, 56, 57] : List Nat)) = dig c := by
  unfold dig
  by_cases h : 48 ≤ c ∧ c ≤ 57
  · have : c = 48 ∨ c = 49 ∨ c = 50 ∨ c = 51 ∨ c = 52 ∨ c = 53 ∨ c = 54 ∨ c = 55 ∨ c = 56 ∨ c = 57 := by omega
    rcases this with rfl | rfl | rfl | rfl | rfl | rfl | rfl | rfl | rfl | rfl <;> rfl
  · rw [decide_eq_false (by simp; omega)]
    symm
    rw [Bool.and_eq_false_iff]
    simp
    omega
theorem fig2 (c : Nat) : (c == 48 || (c == 49 || (c == 50 || (c == 51 || (c == 52 || (c == 53 || (c == 54 || (c == 55 || (c == 56 || c == 57))))))))) = dig c := by
  rw [← fig_dig]
  simp [List.mem_cons, Bool.beq_eq_decide_eq]
theorem numL_dig (n : Nat) : (TL.numL n).all dig = true := by
  rw [List.all_eq_true]
  intro c hc
  have := TL.numL_digits n c hc
  unfold dig
  simp
  omega
theorem val_num (n : Nat) : val (TL.numL n) = n := TL.numL_val n
theorem numL_pos (n : Nat) : 1 ≤ (TL.numL n).length := by
  have := TL.numL_ne n
  cases e : TL.numL n with
  | nil => exact absurd e this
  | cons a r => simp
theorem numL_head {n : Nat} (h : 0 < n) : ∃ c r, TL.numL n = c :: r ∧ c ≠ 48 := by
  induction n using Nat.strongRecOn with
  | _ n ih =>
    by_cases h1 : n < 10
    · rw [TL.numL_lt h1]
      exact ⟨_, _, rfl, by omega⟩
    · obtain ⟨c, r, e, hc⟩ := ih (n / 10) (by omega) (by omega)
      rw [TL.numL_step (by omega), e]
      exact ⟨c, _, rfl, hc⟩
/-- a numeral of four figures at the most -/
def isNum (t : Tx) : Bool := decide (1 ≤ t.length) && decide (t.length ≤ 4) && t.all dig && (decide (t.length = 1) || decide (t.head? ≠ some 48))
theorem isNum_num {n : Nat} (h : n < 10000) : isNum (TL.numL n) = true := by
  have h1 := numL_pos n
  have h2 : (TL.numL n).length ≤ 4 := TL.numL_len (by decide) (by simpa using h)
  unfold isNum
  rw [numL_dig]
  by_cases h0 : n < 10
  · rw [TL.numL_lt h0]
    rfl
  · obtain ⟨c, r, e, hc⟩ := numL_head (n := n) (by omega)
    rw [e] at h1 h2 ⊢
    simp at h1 h2
    simp [hc, h2]
theorem isNum_some {t : Tx} (h : isNum t = true) : t ≠ [] ∧ t.length ≤ 4 ∧ t.all dig = true := by
  unfold isNum at h
  simp only [Bool.and_eq_true, decide_eq_true_eq] at h
  obtain ⟨⟨⟨h1, h2⟩, h3⟩, h4⟩ := h
  exact ⟨fun e => by rw [e] at h1; simp at h1, h2, h3⟩
theorem isNum_free {t : Tx} (h : 32 ∈ t) : isNum t = false := by
  cases e : isNum t with
  | false => rfl
  | true =>
    have := List.all_eq_true.mp (isNum_some e).2.2 32 h
    exact absurd this (by decide)
def numV (t : Tx) : PV := if isNum t = true then .int (val t) else .non
theorem val_lt {t : Tx} (h : isNum t = true) : val t < 10000 := by
  obtain ⟨h1, h2, h3⟩ := isNum_some h
  match t, h1, h2, h3 with
  | [a], _, _, h => simp [dig] at h; unfold val PySem.NumText.digitsVal; simp; omega
  | [a, b], _, _, h => simp [dig] at h; unfold val PySem.NumText.digitsVal; simp; omega
  | [a, b, c], _, _, h => simp [dig] at h; unfold val PySem.NumText.digitsVal; simp; omega
  | [a, b, c, d], _, _, h => simp [dig] at h; unfold val PySem.NumText.digitsVal; simp; omega
end Mv

set_option Elab.async false
set_option linter.all false
set_option maxRecDepth 100000
set_option maxHeartbeats 0
namespace K78
open PySem PySem.Spec PyProof.Rows L2
def top (i : Nat) : Stmt := PySem.Challenge.pw_platekin_k78_deeds_and_journals.main.body.getD i (.Pass ⟨0, 0, 0, 0⟩)
abbrev s_is_integer : Stmt := top 1
abbrev s_is_between : Stmt := top 2
abbrev s_is_count : Stmt := top 3
abbrev s_are_signs : Stmt := top 14
abbrev s_is_body : Stmt := top 15
abbrev s_deed_is_right : Stmt := top 21
abbrev s_body_by : Stmt := top 22
abbrev s_is_numeral : Stmt := top 23
abbrev s_deed_by : Stmt := top 24
abbrev s_sheet_is_right : Stmt := top 25
abbrev s_journal_is_right : Stmt := top 26
abbrev s_word_by : Stmt := top 27
abbrev s_behind : Stmt := top 28
abbrev s_check_journal : Stmt := top 29
abbrev s_check_deed : Stmt := top 30
abbrev s_is_deed : Stmt := top 31
abbrev s_is_journal : Stmt := top 32
abbrev s_body_of : Stmt := top 33
abbrev s_deed_of : Stmt := top 34
abbrev s_new_journal : Stmt := top 35
abbrev s_wrong_word : Stmt := top 36
abbrev s_with_deed : Stmt := top 37
abbrev s_in_doubt : Stmt := top 38
abbrev s__law_pot : Stmt := top 40
abbrev s__law_draw : Stmt := top 41
abbrev s__law_pick : Stmt := top 42
abbrev s__law_word : Stmt := top 43
abbrev s__law_with : Stmt := top 44
abbrev s__law_body_of : Stmt := top 45
abbrev s__law_numeral : Stmt := top 46
abbrev s__law_deed_of : Stmt := top 47
abbrev s__law_deed : Stmt := top 48
abbrev s__law_is_count : Stmt := top 49
abbrev s__law_is_sheet : Stmt := top 50
abbrev s__law_is_journal : Stmt := top 51
abbrev s__law_bent : Stmt := top 52
abbrev s__law_doubt : Stmt := top 53
abbrev s__law_bodies_right : Stmt := top 54
abbrev s__law_right : Stmt := top 55
abbrev s_law : Stmt := top 56
def d_is_integer : He.DefD := ⟨("is_integer", none), "is_integer", "is_integer", defArgs s_is_integer, defBody s_is_integer, defScope s_is_integer, [], []⟩
def d_is_between : He.DefD := ⟨("is_between", none), "is_between", "is_between", defArgs s_is_between, defBody s_is_between, defScope s_is_between, [], []⟩
def d_is_count : He.DefD := ⟨("is_count", none), "is_count", "is_count", defArgs s_is_count, defBody s_is_count, defScope s_is_count, [], []⟩
def d_are_signs : He.DefD := ⟨("are_signs", none), "are_signs", "are_signs", defArgs s_are_signs, defBody s_are_signs, defScope s_are_signs, [], []⟩
def d_is_body : He.DefD := ⟨("is_body", none), "is_body", "is_body", defArgs s_is_body, defBody s_is_body, defScope s_is_body, [], []⟩
def d_deed_is_right : He.DefD := ⟨("deed_is_right", none), "deed_is_right", "deed_is_right", defArgs s_deed_is_right, defBody s_deed_is_right, defScope s_deed_is_right, [], []⟩
def d_body_by : He.DefD := ⟨("body_by", none), "body_by", "body_by", defArgs s_body_by, defBody s_body_by, defScope s_body_by, [], []⟩
def d_is_numeral : He.DefD := ⟨("is_numeral", none), "is_numeral", "is_numeral", defArgs s_is_numeral, defBody s_is_numeral, defScope s_is_numeral, [], []⟩
def d_deed_by : He.DefD := ⟨("deed_by", none), "deed_by", "deed_by", defArgs s_deed_by, defBody s_deed_by, defScope s_deed_by, [], []⟩
def d_sheet_is_right : He.DefD := ⟨("sheet_is_right", none), "sheet_is_right", "sheet_is_right", defArgs s_sheet_is_right, defBody s_sheet_is_right, defScope s_sheet_is_right, [], []⟩
def d_journal_is_right : He.DefD := ⟨("journal_is_right", none), "journal_is_right", "journal_is_right", defArgs s_journal_is_right, defBody s_journal_is_right, defScope s_journal_is_right, [], []⟩
def d_word_by : He.DefD := ⟨("word_by", none), "word_by", "word_by", defArgs s_word_by, defBody s_word_by, defScope s_word_by, [], []⟩
def d_behind : He.DefD := ⟨("behind", none), "behind", "behind", defArgs s_behind, defBody s_behind, defScope s_behind, [], []⟩
def d_check_journal : He.DefD := ⟨("check_journal", none), "check_journal", "check_journal", defArgs s_check_journal, defBody s_check_journal, defScope s_check_journal, [], []⟩
def d_check_deed : He.DefD := ⟨("check_deed", none), "check_deed", "check_deed", defArgs s_check_deed, defBody s_check_deed, defScope s_check_deed, [], []⟩
def d_is_deed : He.DefD := ⟨("is_deed", none), "is_deed", "is_deed", defArgs s_is_deed, defBody s_is_deed, defScope s_is_deed, [], []⟩
def d_is_journal : He.DefD := ⟨("is_journal", none), "is_journal", "is_journal", defArgs s_is_journal, defBody s_is_journal, defScope s_is_journal, [], []⟩
def d_body_of : He.DefD := ⟨("body_of", none), "body_of", "body_of", defArgs s_body_of, defBody s_body_of, defScope s_body_of, [], []⟩
def d_deed_of : He.DefD := ⟨("deed_of", none), "deed_of", "deed_of", defArgs s_deed_of, defBody s_deed_of, defScope s_deed_of, [], []⟩
def d_new_journal : He.DefD := ⟨("new_journal", none), "new_journal", "new_journal", defArgs s_new_journal, defBody s_new_journal, defScope s_new_journal, [], []⟩
def d_wrong_word : He.DefD := ⟨("wrong_word", none), "wrong_word", "wrong_word", defArgs s_wrong_word, defBody s_wrong_word, defScope s_wrong_word, [], []⟩
def d_with_deed : He.DefD := ⟨("with_deed", none), "with_deed", "with_deed", defArgs s_with_deed, defBody s_with_deed, defScope s_with_deed, [], []⟩
def d_in_doubt : He.DefD := ⟨("in_doubt", none), "in_doubt", "in_doubt", defArgs s_in_doubt, defBody s_in_doubt, defScope s_in_doubt, [], []⟩
def d__law_pot : He.DefD := ⟨("_law_pot", none), "_law_pot", "_law_pot", defArgs s__law_pot, defBody s__law_pot, defScope s__law_pot, [], []⟩
def d__law_draw : He.DefD := ⟨("_law_draw", none), "_law_draw", "_law_draw", defArgs s__law_draw, defBody s__law_draw, defScope s__law_draw, [], []⟩
def d__law_pick : He.DefD := ⟨("_law_pick", none), "_law_pick", "_law_pick", defArgs s__law_pick, defBody s__law_pick, defScope s__law_pick, [], []⟩
def d__law_word : He.DefD := ⟨("_law_word", none), "_law_word", "_law_word", defArgs s__law_word, defBody s__law_word, defScope s__law_word, [], []⟩
def d__law_with : He.DefD := ⟨("_law_with", none), "_law_with", "_law_with", defArgs s__law_with, defBody s__law_with, defScope s__law_with, [], []⟩
def d__law_body_of : He.DefD := ⟨("_law_body_of", none), "_law_body_of", "_law_body_of", defArgs s__law_body_of, defBody s__law_body_of, defScope s__law_body_of, [], []⟩
def d__law_numeral : He.DefD := ⟨("_law_numeral", none), "_law_numeral", "_law_numeral", defArgs s__law_numeral, defBody s__law_numeral, defScope s__law_numeral, [], []⟩
def d__law_deed_of : He.DefD := ⟨("_law_deed_of", none), "_law_deed_of", "_law_deed_of", defArgs s__law_deed_of, defBody s__law_deed_of, defScope s__law_deed_of, [], []⟩
def d__law_deed : He.DefD := ⟨("_law_deed", none), "_law_deed", "_law_deed", defArgs s__law_deed, defBody s__law_deed, defScope s__law_deed, [], []⟩
def d__law_is_count : He.DefD := ⟨("_law_is_count", none), "_law_is_count", "_law_is_count", defArgs s__law_is_count, defBody s__law_is_count, defScope s__law_is_count, [], []⟩
def d__law_is_sheet : He.DefD := ⟨("_law_is_sheet", none), "_law_is_sheet", "_law_is_sheet", defArgs s__law_is_sheet, defBody s__law_is_sheet, defScope s__law_is_sheet, [], []⟩
def d__law_is_journal : He.DefD := ⟨("_law_is_journal", none), "_law_is_journal", "_law_is_journal", defArgs s__law_is_journal, defBody s__law_is_journal, defScope s__law_is_journal, [], []⟩
def d__law_bent : He.DefD := ⟨("_law_bent", none), "_law_bent", "_law_bent", defArgs s__law_bent, defBody s__law_bent, defScope s__law_bent, [], []⟩
def d__law_doubt : He.DefD := ⟨("_law_doubt", none), "_law_doubt", "_law_doubt", defArgs s__law_doubt, defBody s__law_doubt, defScope s__law_doubt, [], []⟩
def d__law_bodies_right : He.DefD := ⟨("_law_bodies_right", none), "_law_bodies_right", "_law_bodies_right", defArgs s__law_bodies_right, defBody s__law_bodies_right, defScope s__law_bodies_right, [], []⟩
def d__law_right : He.DefD := ⟨("_law_right", none), "_law_right", "_law_right", defArgs s__law_right, defBody s__law_right, defScope s__law_right, [], []⟩
def d_law : He.DefD := ⟨("law", none), "law", "law", defArgs s_law, defBody s_law, defScope s_law, [], []⟩
def fn : List He.DefD := ([d_is_integer, d_is_between, d_is_count, d_are_signs, d_is_body, d_deed_is_right, d_body_by, d_is_numeral, d_deed_by, d_sheet_is_right, d_journal_is_right, d_word_by] : List He.DefD) ++ ([d_behind, d_check_journal, d_check_deed, d_is_deed, d_is_journal, d_body_of, d_deed_of, d_new_journal, d_wrong_word, d_with_deed, d_in_doubt, d__law_pot] : List He.DefD) ++ ([d__law_draw, d__law_pick, d__law_word, d__law_with, d__law_body_of, d__law_numeral, d__law_deed_of, d__law_deed, d__law_is_count, d__law_is_sheet, d__law_is_journal, d__law_bent] : List He.DefD) ++ ([d__law_doubt, d__law_bodies_right, d__law_right, d_law] : List He.DefD)
def fa : List He.Fa := ([.glo "is_integer", .glo "is_between", .glo "is_count", .glo "are_signs", .glo "is_body", .glo "deed_is_right", .glo "body_by", .glo "is_numeral", .glo "deed_by", .glo "sheet_is_right", .glo "journal_is_right", .glo "word_by"] : List He.Fa) ++ ([.glo "behind", .glo "check_journal", .glo "check_deed", .glo "is_deed", .glo "is_journal", .glo "body_of", .glo "deed_of", .glo "new_journal", .glo "wrong_word", .glo "with_deed", .glo "in_doubt", .glo "_law_pot"] : List He.Fa) ++ ([.glo "_law_draw", .glo "_law_pick", .glo "_law_word", .glo "_law_with", .glo "_law_body_of", .glo "_law_numeral", .glo "_law_deed_of", .glo "_law_deed", .glo "_law_is_count", .glo "_law_is_sheet", .glo "_law_is_journal", .glo "_law_bent"] : List He.Fa) ++ ([.glo "_law_doubt", .glo "_law_bodies_right", .glo "_law_right", .glo "law", .free "RuntimeError", .free "ValueError", .free "abs", .free "all", .free "bool", .free "divmod", .free "enumerate", .free "int"] : List He.Fa) ++ ([.free "isinstance", .free "len", .free "list", .free "max", .free "range", .free "repr", .free "str", .free "tuple", .str "FIGURES" "0123456789", .int "MOST_BODY" 5000, .int "MOST_ROWS" 2000, .int "MOST_NOTE" 4000] : List He.Fa) ++ ([.int "MOST_NUMBER" 2000] : List He.Fa)
def cs : List (Str × Mv.PV) := [("NEW", (.tup [(.str [106, 111, 117, 114, 110, 97, 108]), (.int 0), (.tup [])]))]
def loose : List Str := (["is_integer", "is_between", "is_count", "PlateError", "StateError", "InvalidBody", "InvalidDeed", "InvalidJournal", "WrongDeed", "FIGURES", "MOST_BODY", "are_signs"] : List Str) ++ (["is_body", "MOST_ROWS", "MOST_NOTE", "MOST_NUMBER", "NEW", "deed_is_right", "body_by", "is_numeral", "deed_by", "sheet_is_right", "journal_is_right", "word_by"] : List Str) ++ (["behind", "check_journal", "check_deed", "is_deed", "is_journal", "body_of", "deed_of", "new_journal", "wrong_word", "with_deed", "in_doubt", "_law_pot"] : List Str) ++ (["_law_draw", "_law_pick", "_law_word", "_law_with", "_law_body_of", "_law_numeral", "_law_deed_of", "_law_deed", "_law_is_count", "_law_is_sheet", "_law_is_journal", "_law_bent"] : List Str) ++ (["_law_doubt", "_law_bodies_right", "_law_right"] : List Str)
abbrev R : PySem.W.OpenRow := PySem.W.OpenLaw.row PySem.Challenge.rw_platekin_k78_deeds_and_journals
abbrev hk : PySem.W.Hook := Mv.hookM 4 fa fn cs
def ob (s : PySem.W.SharedT) : He.AlD := Mv.obsMG 4 fa fn cs (HandSHeadRun.getT s)
theorem ob_eq (s : PySem.W.SharedT) : ob s = hk.obs s.abs := Mv.obsMG_eq (HandSHeadRun.getT_eq s)
theorem run (w : World) : HandSHeadRun.RunEq R (PySem.W.view R.prog [56]) hk ob 4000 loose w := by
  intro os
  kernel_rfl
end K78

set_option Elab.async false
set_option linter.all false
set_option maxRecDepth 100000
namespace K78
open PySem PySem.Spec PyProof.Rows L2 Mv
/- is_integer(value): 0 value -/
def e_is_integer : SE Out :=
  (sSeq (sRet (Mv.mv (eAnd (eCB pIsiA (aCons (eVar 0) (aCons (SE.ret (.opq (.ty "int"))) aNil))) (eNot (eCB pIsiA (aCons (eVar 0) (aCons (SE.ret (.opq (.ty "bool"))) aNil))))))) sNil)
def f_is_integer : List MV → RF := runF 0 1 0 e_is_integer
theorem r_is_integer (a0 : MV) : f_is_integer [a0] = fin 0 (e_is_integer [some a0]) := runF_fin (np := 1) rfl
/- are_signs(value): 0 value, 1 sign -/
def c_are_signs_1 : SE MV :=
  (sLc (sIt (eVar 0)) (gN 1) sYes (eOr (eOp pEq (eVar 1) (SE.ret (.str [10]))) (eChain pLe pLe (SE.ret (.str [32])) (eVar 1) (SE.ret (.str [126])))) [1])
def e_are_signs : SE Out :=
  (sSeq (sRet (Mv.mv (eAnd (eCB pIsiA (aCons (eVar 0) (aCons (SE.ret (.opq (.ty "str"))) aNil))) (eCB (one pAll) (aCons (vw c_are_signs_1) aNil))))) sNil)
def f_are_signs : List MV → RF := runF 0 1 1 e_are_signs
theorem r_are_signs (a0 : MV) : f_are_signs [a0] = fin 0 (e_are_signs [some a0, none]) := runF_fin (np := 1) rfl
/- body_by(deed): 0 deed, 1 one -/
def c_body_by_1 : SE MV :=
  (sLc (sIt (eVar 0)) (gN 1) sYes (eIf (eTru (eCB pIsiA (aCons (eVar 1) (aCons (SE.ret (.opq (.ty "str"))) aNil)))) (eVar 1) (eCB (one pStr2) (aCons (eVar 1) aNil))) [1])
def e_body_by : SE Out :=
  (sSeq (sRet (Mv.mv (eM1 pJoin (SE.ret (.str [32])) (vw c_body_by_1)))) sNil)
def f_body_by : List MV → RF := runF 0 1 1 e_body_by
theorem r_body_by (a0 : MV) : f_body_by [a0] = fin 0 (e_body_by [some a0, none]) := runF_fin (np := 1) rfl
/- is_numeral(word): 0 word, 1 sign -/
def c_is_numeral_1 : SE MV :=
  (sLc (sIt (eVar 0)) (gN 1) sYes (eOp pIn (eVar 1) (SE.ret (.str [48, 49, 50, 51, 52, 53, 54, 55, 56, 57]))) [1])
def e_is_numeral : SE Out :=
  (sSeq (sIf (sOr (sNot (eBool (eChain pLe pLe (SE.ret (.int 1)) (eCB (one pLen) (aCons (eVar 0) aNil)) (SE.ret (.int 4))))) (sNot (eTru (eCB (one pAll) (aCons (vw c_is_numeral_1) aNil))))) (sSeq (sRet (Mv.mv (SE.ret (.bl false)))) sNil) sNil) (sSeq (sRet (Mv.mv (eOr (eOp pEq (eCB (one pLen) (aCons (eVar 0) aNil)) (SE.ret (.int 1))) (eOp pNe (eOp pIx (eVar 0) (SE.ret (.int 0))) (SE.ret (.str [48])))))) sNil))
def f_is_numeral : List MV → RF := runF 0 1 1 e_is_numeral
theorem r_is_numeral (a0 : MV) : f_is_numeral [a0] = fin 0 (e_is_numeral [some a0, none]) := runF_fin (np := 1) rfl
/- word_by(journal, deed): 0 journal, 1 deed, 2 rows, 3 note, 4 asked, 5 done, 6 dropped -/
def e_word_by : SE Out :=
  (sSeq (sIf (eBool (eOp pIn (eOp pIx (eVar 1) (SE.ret (.int 0))) (eTup (aCons (SE.ret (.str [115, 104, 101, 101, 116])) (aCons (SE.ret (.str [101, 112, 111, 99, 104])) aNil))))) (sSeq (sRet (Mv.mv (SE.ret .non))) sNil) sNil) (sSeq (sIf (eBool (eOp pGe (eOp pIx (eVar 1) (SE.ret (.int 1))) (eCB (one pLen) (aCons (eOp pIx (eVar 0) (SE.ret (.int 2))) aNil)))) (sSeq (sRet (Mv.mv (SE.ret (.str [115, 104, 101, 101, 116])))) sNil) sNil) (sSeq (sAsg (eOp pIx (eOp pIx (eVar 0) (SE.ret (.int 2))) (eOp pIx (eVar 1) (SE.ret (.int 1)))) (gTp 5 (gCn (gN 2) (gCn (gN 3) (gCn (gN 4) (gCn (gN 5) (gCn (gN 6) gNl))))))) (sSeq (sIf (eTru (eVar 6)) (sSeq (sRet (Mv.mv (SE.ret (.str [100, 114, 111, 112, 112, 101, 100])))) sNil) sNil) (sSeq (sIf (eBool (eOp pEq (eOp pIx (eVar 1) (SE.ret (.int 0))) (SE.ret (.str [97, 115, 107])))) (sSeq (sRet (Mv.mv (eIf (eBool (eOp pEq (eVar 5) (eVar 2))) (SE.ret (.str [119, 104, 111, 108, 101])) (eIf (eBool (eOp pGt (eVar 4) (eVar 5))) (SE.ret (.str [100, 111, 117, 98, 116])) (eIf (eBool (eOp pNe (eOp pIx (eVar 1) (SE.ret (.int 2))) (eVar 5))) (SE.ret (.str [114, 111, 119])) (SE.ret .non)))))) sNil) sNil) (sSeq (sIf (eBool (eOp pEq (eOp pIx (eVar 1) (SE.ret (.int 0))) (SE.ret (.str [100, 111, 110, 101])))) (sSeq (sRet (Mv.mv (eIf (eBool (eOp pEq (eVar 4) (eVar 5))) (SE.ret (.str [105, 100, 108, 101])) (eIf (eBool (eOp pNe (eOp pIx (eVar 1) (SE.ret (.int 2))) (eVar 5))) (SE.ret (.str [114, 111, 119])) (SE.ret .non))))) sNil) sNil) (sSeq (sRet (Mv.mv (SE.ret .non))) sNil)))))))
def f_word_by : List MV → RF := runF 0 2 5 e_word_by
theorem r_word_by (a0 a1 : MV) : f_word_by [a0, a1] = fin 0 (e_word_by [some a0, some a1, none, none, none, none, none]) := runF_fin (np := 2) rfl
/- behind(journal, deed): 0 journal, 1 deed, 2 word, 3 epochs, 4 sheets, 5 rows, 6 note, 7 asked, 8 done, 9 dropped, 10 new -/
def e_behind : SE Out :=
  (sSeq (sAsg (eVar 0) (gTp 3 (gCn (gN 2) (gCn (gN 3) (gCn (gN 4) gNl))))) (sSeq (sIf (eBool (eOp pEq (eOp pIx (eVar 1) (SE.ret (.int 0))) (SE.ret (.str [101, 112, 111, 99, 104])))) (sSeq (sRet (Mv.mv (eTup (aCons (eVar 2) (aCons (eOp pAdd (eVar 3) (SE.ret (.int 1))) (aCons (eVar 4) aNil)))))) sNil) sNil) (sSeq (sIf (eBool (eOp pEq (eOp pIx (eVar 1) (SE.ret (.int 0))) (SE.ret (.str [115, 104, 101, 101, 116])))) (sSeq (sRet (Mv.mv (eTup (aCons (eVar 2) (aCons (eVar 3) (aCons (eOp pAdd (eVar 4) (eTup (aCons (eOp pAdd (eSl (eVar 1) (ePart (SE.ret (.int 1))) eNo) (eTup (aCons (SE.ret (.int 0)) (aCons (SE.ret (.int 0)) (aCons (SE.ret (.bl false)) aNil))))) aNil))) aNil)))))) sNil) sNil) (sSeq (sAsg (eOp pIx (eVar 4) (eOp pIx (eVar 1) (SE.ret (.int 1)))) (gTp 5 (gCn (gN 5) (gCn (gN 6) (gCn (gN 7) (gCn (gN 8) (gCn (gN 9) gNl))))))) (sSeq (sIf (eBool (eOp pEq (eOp pIx (eVar 1) (SE.ret (.int 0))) (SE.ret (.str [97, 115, 107])))) (sSeq (sSet 10 (Mv.mv (eTup (aCons (eVar 5) (aCons (eVar 6) (aCons (eOp pAdd (eVar 7) (SE.ret (.int 1))) (aCons (eVar 8) (aCons (eVar 9) aNil)))))))) sNil) (sSeq (sIf (eBool (eOp pEq (eOp pIx (eVar 1) (SE.ret (.int 0))) (SE.ret (.str [100, 111, 110, 101])))) (sSeq (sSet 10 (Mv.mv (eTup (aCons (eVar 5) (aCons (eVar 6) (aCons (eVar 7) (aCons (eOp pAdd (eVar 8) (SE.ret (.int 1))) (aCons (eVar 9) aNil)))))))) sNil) (sSeq (sSet 10 (Mv.mv (eTup (aCons (eVar 5) (aCons (eVar 6) (aCons (eVar 7) (aCons (eVar 8) (aCons (SE.ret (.bl true)) aNil)))))))) sNil)) sNil)) (sSeq (sRet (Mv.mv (eTup (aCons (eVar 2) (aCons (eVar 3) (aCons (eOp pAdd (eOp pAdd (eSl (eVar 4) eNo (ePart (eOp pIx (eVar 1) (SE.ret (.int 1))))) (eTup (aCons (eVar 10) aNil))) (eSl (eVar 4) (ePart (eOp pAdd (eOp pIx (eVar 1) (SE.ret (.int 1))) (SE.ret (.int 1)))) eNo)) aNil)))))) sNil))))))
def f_behind : List MV → RF := runF 0 2 9 e_behind
theorem r_behind (a0 a1 : MV) : f_behind [a0, a1] = fin 0 (e_behind [some a0, some a1, none, none, none, none, none, none, none, none, none]) := runF_fin (np := 2) rfl
/- new_journal():  -/
def e_new_journal : SE Out :=
  (sSeq (sRet (Mv.mv (SE.ret (.tup [(.str [106, 111, 117, 114, 110, 97, 108]), (.int 0), (.tup [])])))) sNil)
def f_new_journal : List MV → RF := runF 0 0 0 e_new_journal
theorem r_new_journal : f_new_journal [] = fin 0 (e_new_journal []) := runF_fin (np := 0) rfl
/- _law_pot(script, k): 0 script, 1 k, 2 cell -/
def e__law_pot : SE Out :=
  (sSeq (sSet 2 (Mv.mv (eIf (eBool (eOp pLt (eVar 1) (eCB (one pLen) (aCons (eVar 0) aNil)))) (eCB (one pAbs) (aCons (eOp pIx (eVar 0) (eVar 1)) aNil)) (eOp pAdd (eOp pMul (SE.ret (.int 4549)) (eVar 1)) (SE.ret (.int 3691)))))) (sSeq (sRet (eLst (aCons (eCB (two pMax) (aCons (SE.ret (.int 0)) (aCons (eOp pSub (eVar 2) (eOp pPow (SE.ret (.int 10)) (SE.ret (.int 18)))) aNil))) (aCons (eOp pAdd (eOp pMod (eCB (one pInt) (aCons (eOp pAdd (eOp pAdd (eOp pMul (eOp pMod (eCB (one pInt) (aCons (eVar 2) aNil)) (SE.ret (.int 2147483549))) (SE.ret (.int 40014))) (eOp pMul (SE.ret (.int 9547)) (eVar 1))) (SE.ret (.int 3191))) aNil)) (SE.ret (.int 2147483563))) (SE.ret (.int 1))) aNil)))) sNil))
def f__law_pot : List MV → RF := runF 0 2 1 e__law_pot
theorem r__law_pot (a0 a1 : MV) : f__law_pot [a0, a1] = fin 0 (e__law_pot [some a0, some a1, none]) := runF_fin (np := 2) rfl
/- _law_draw(pot, many): 0 pot, 1 many, 2 digit -/
def e__law_draw : SE Out :=
  (sSeq (sIf (eBool (eOp pGt (eScope (eOp pIx (eVar 0) (SE.ret (.int 0)))) (SE.ret (.int 0)))) (sSeq (sAsg (eCB (two pDivmod) (aCons (eScope (eOp pIx (eVar 0) (SE.ret (.int 0)))) (aCons (eVar 1) aNil))) (gTp 2 (gCn (gIxL 0 (SE.ret (.int 0))) (gCn (gN 2) gNl)))) (sSeq (sRet (Mv.mv (eVar 2))) sNil)) sNil) (sSeq (sAsg (eOp pMod (eCB (one pInt) (aCons (eOp pAdd (eOp pMul (eScope (eOp pIx (eVar 0) (SE.ret (.int 1)))) (SE.ret (.int 40692))) (SE.ret (.int 12721))) aNil)) (SE.ret (.int 2147483587))) (gIxL 0 (SE.ret (.int 1)))) (sSeq (sRet (Mv.mv (eOp pMod (eCB (one pInt) (aCons (eOp pFdiv (eOp pMod (eCB (one pInt) (aCons (eOp pMul (eScope (eOp pIx (eVar 0) (SE.ret (.int 1)))) (eScope (eOp pIx (eVar 0) (SE.ret (.int 1))))) aNil)) (SE.ret (.int 2147483549))) (SE.ret (.int 17))) aNil)) (eVar 1)))) sNil)))
def f__law_draw : List MV → RF := runF 1 2 1 e__law_draw
theorem r__law_draw (a0 a1 : MV) : f__law_draw [a0, a1] = fin 1 (e__law_draw [some a0, some a1, none]) := runF_fin (np := 2) rfl
/- _law_word(journal, deed): 0 journal, 1 deed, 2 word, 3 sheets, 4 rows, 5 note, 6 asked, 7 done, 8 dropped -/
def e__law_word : SE Out :=
  (sSeq (sPar [2, 3] (mCons (Mv.mv (eOp pIx (eVar 1) (SE.ret (.int 0)))) (mCons (Mv.mv (eOp pIx (eVar 0) (SE.ret (.int 2)))) mNil))) (sSeq (sIf (eBool (eOp pIn (eVar 2) (eTup (aCons (SE.ret (.str [115, 104, 101, 101, 116])) (aCons (SE.ret (.str [101, 112, 111, 99, 104])) aNil))))) (sSeq (sRet (Mv.mv (SE.ret .non))) sNil) sNil) (sSeq (sIf (eBool (eOp pGe (eOp pIx (eVar 1) (SE.ret (.int 1))) (eCB (one pLen) (aCons (eVar 3) aNil)))) (sSeq (sRet (Mv.mv (SE.ret (.str [115, 104, 101, 101, 116])))) sNil) sNil) (sSeq (sAsg (eOp pIx (eVar 3) (eOp pIx (eVar 1) (SE.ret (.int 1)))) (gTp 5 (gCn (gN 4) (gCn (gN 5) (gCn (gN 6) (gCn (gN 7) (gCn (gN 8) gNl))))))) (sSeq (sIf (sOr (eTru (eVar 8)) (eBool (eOp pEq (eVar 2) (SE.ret (.str [100, 114, 111, 112]))))) (sSeq (sRet (Mv.mv (eIf (eTru (eVar 8)) (SE.ret (.str [100, 114, 111, 112, 112, 101, 100])) (SE.ret .non)))) sNil) sNil) (sSeq (sIf (sAnd (eBool (eOp pEq (eVar 2) (SE.ret (.str [97, 115, 107])))) (sOr (eBool (eOp pEq (eVar 7) (eVar 4))) (eBool (eOp pGt (eVar 6) (eVar 7))))) (sSeq (sRet (Mv.mv (eIf (eBool (eOp pEq (eVar 7) (eVar 4))) (SE.ret (.str [119, 104, 111, 108, 101])) (SE.ret (.str [100, 111, 117, 98, 116]))))) sNil) sNil) (sSeq (sIf (sAnd (eBool (eOp pEq (eVar 2) (SE.ret (.str [100, 111, 110, 101])))) (eBool (eOp pEq (eVar 6) (eVar 7)))) (sSeq (sRet (Mv.mv (SE.ret (.str [105, 100, 108, 101])))) sNil) sNil) (sSeq (sRet (Mv.mv (eIf (eBool (eOp pEq (eOp pIx (eVar 1) (SE.ret (.int 2))) (eVar 7))) (SE.ret .non) (SE.ret (.str [114, 111, 119]))))) sNil))))))))
def f__law_word : List MV → RF := runF 0 2 7 e__law_word
theorem r__law_word (a0 a1 : MV) : f__law_word [a0, a1] = fin 0 (e__law_word [some a0, some a1, none, none, none, none, none, none, none]) := runF_fin (np := 2) rfl
/- _law_with(journal, deed): 0 journal, 1 deed, 2 word, 3 epochs, 4 sheets, 5 at, 6 rows, 7 note, 8 asked, 9 done, 10 dropped, 11 one -/
def e__law_with : SE Out :=
  (sSeq (sAsg (eVar 0) (gTp 3 (gCn (gN 2) (gCn (gN 3) (gCn (gN 4) gNl))))) (sSeq (sIf (eBool (eOp pEq (eOp pIx (eVar 1) (SE.ret (.int 0))) (SE.ret (.str [101, 112, 111, 99, 104])))) (sSeq (sRet (Mv.mv (eTup (aCons (eVar 2) (aCons (eOp pAdd (eVar 3) (SE.ret (.int 1))) (aCons (eVar 4) aNil)))))) sNil) sNil) (sSeq (sIf (eBool (eOp pEq (eOp pIx (eVar 1) (SE.ret (.int 0))) (SE.ret (.str [115, 104, 101, 101, 116])))) (sSeq (sRet (Mv.mv (eTup (aCons (eVar 2) (aCons (eVar 3) (aCons (eOp pAdd (eVar 4) (eTup (aCons (eTup (aCons (eOp pIx (eVar 1) (SE.ret (.int 1))) (aCons (eOp pIx (eVar 1) (SE.ret (.int 2))) (aCons (SE.ret (.int 0)) (aCons (SE.ret (.int 0)) (aCons (SE.ret (.bl false)) aNil)))))) aNil))) aNil)))))) sNil) sNil) (sSeq (sSet 5 (Mv.mv (eOp pIx (eVar 1) (SE.ret (.int 1))))) (sSeq (sAsg (eOp pIx (eVar 4) (eVar 5)) (gTp 5 (gCn (gN 6) (gCn (gN 7) (gCn (gN 8) (gCn (gN 9) (gCn (gN 10) gNl))))))) (sSeq (sSet 11 (Mv.mv (eIf (eBool (eOp pEq (eOp pIx (eVar 1) (SE.ret (.int 0))) (SE.ret (.str [100, 114, 111, 112])))) (eTup (aCons (eVar 6) (aCons (eVar 7) (aCons (eVar 8) (aCons (eVar 9) (aCons (SE.ret (.bl true)) aNil)))))) (eTup (aCons (eVar 6) (aCons (eVar 7) (aCons (eOp pAdd (eVar 8) (eCB (one pInt) (aCons (eOp pEq (eOp pIx (eVar 1) (SE.ret (.int 0))) (SE.ret (.str [97, 115, 107]))) aNil))) (aCons (eOp pAdd (eVar 9) (eCB (one pInt) (aCons (eOp pEq (eOp pIx (eVar 1) (SE.ret (.int 0))) (SE.ret (.str [100, 111, 110, 101]))) aNil))) (aCons (SE.ret (.bl false)) aNil))))))))) (sSeq (sRet (Mv.mv (eTup (aCons (eVar 2) (aCons (eVar 3) (aCons (eOp pAdd (eOp pAdd (eSl (eVar 4) eNo (ePart (eVar 5))) (eTup (aCons (eVar 11) aNil))) (eSl (eVar 4) (ePart (eOp pAdd (eVar 5) (SE.ret (.int 1)))) eNo)) aNil)))))) sNil)))))))
def f__law_with : List MV → RF := runF 0 2 10 e__law_with
theorem r__law_with (a0 a1 : MV) : f__law_with [a0, a1] = fin 0 (e__law_with [some a0, some a1, none, none, none, none, none, none, none, none, none, none]) := runF_fin (np := 2) rfl
/- _law_body_of(deed): 0 deed, 1 one -/
def c__law_body_of_1 : SE MV :=
  (sLc (sIt (eVar 0)) (gN 1) sYes (eCB (one pStr2) (aCons (eVar 1) aNil)) [1])
def e__law_body_of : SE Out :=
  (sSeq (sRet (Mv.mv (eM1 pJoin (SE.ret (.str [32])) (vw c__law_body_of_1)))) sNil)
def f__law_body_of : List MV → RF := runF 0 1 1 e__law_body_of
theorem r__law_body_of (a0 : MV) : f__law_body_of [a0] = fin 0 (e__law_body_of [some a0, none]) := runF_fin (np := 1) rfl
/- _law_numeral(text): 0 text, 1 right, 2 sign -/
def c__law_numeral_1 : SE MV :=
  (sLc (sIt (eVar 0)) (gN 2) sYes (eChain pLe pLe (SE.ret (.str [48])) (eVar 2) (SE.ret (.str [57]))) [2])
def e__law_numeral : SE Out :=
  (sSeq (sSet 1 (Mv.mv (eAnd (eOp pNe (eVar 0) (SE.ret (.str []))) (eAnd (eCB (one pAll) (aCons (vw c__law_numeral_1) aNil)) (eAnd (eOr (eOp pEq (eVar 0) (SE.ret (.str [48]))) (eOp pNe (eOp pIx (eVar 0) (SE.ret (.int 0))) (SE.ret (.str [48])))) (eOp pLe (eCB (one pLen) (aCons (eVar 0) aNil)) (SE.ret (.int 4)))))))) (sSeq (sRet (Mv.mv (eIf (sAnd (eTru (eVar 1)) (eBool (eOp pLe (eCB (one pInt) (aCons (eVar 0) aNil)) (SE.ret (.int 2000))))) (eCB (one pInt) (aCons (eVar 0) aNil)) (SE.ret .non)))) sNil))
def f__law_numeral : List MV → RF := runF 0 1 2 e__law_numeral
theorem r__law_numeral (a0 : MV) : f__law_numeral [a0] = fin 0 (e__law_numeral [some a0, none, none]) := runF_fin (np := 1) rfl
/- _law_is_count(value, most): 0 value, 1 most -/
def e__law_is_count : SE Out :=
  (sSeq (sRet (Mv.mv (eAnd (eCB pIsiA (aCons (eVar 0) (aCons (SE.ret (.opq (.ty "int"))) aNil))) (eAnd (eNot (eCB pIsiA (aCons (eVar 0) (aCons (SE.ret (.opq (.ty "bool"))) aNil)))) (eChain pLe pLe (SE.ret (.int 0)) (eVar 0) (eVar 1)))))) sNil)
def f__law_is_count : List MV → RF := runF 0 2 0 e__law_is_count
theorem r__law_is_count (a0 a1 : MV) : f__law_is_count [a0, a1] = fin 0 (e__law_is_count [some a0, some a1]) := runF_fin (np := 2) rfl
/- _law_doubt(journal): 0 journal, 1 at, 2 one -/
def c__law_doubt_1 : SE MV :=
  (sLc (sEnum3 (aCons (eOp pIx (eVar 0) (SE.ret (.int 2))) aNil)) (gTp 2 (gCn (gN 1) (gCn (gN 2) gNl))) (sAnd (sNot (eTru (eOp pIx (eVar 2) (SE.ret (.int 4))))) (eBool (eOp pGt (eOp pIx (eVar 2) (SE.ret (.int 2))) (eOp pIx (eVar 2) (SE.ret (.int 3)))))) (eTup (aCons (eVar 1) (aCons (eOp pIx (eVar 2) (SE.ret (.int 3))) aNil))) [1, 2])
def e__law_doubt : SE Out :=
  (sSeq (sRet c__law_doubt_1) sNil)
def f__law_doubt : List MV → RF := runF 0 1 2 e__law_doubt
theorem r__law_doubt (a0 : MV) : f__law_doubt [a0] = fin 0 (e__law_doubt [some a0, none, none]) := runF_fin (np := 1) rfl
/- is_between(value, low, high): 0 value, 1 low, 2 high -/
def e_is_between : SE Out :=
  (sSeq (sRet (Mv.mv (eAnd (vw (eCall f_is_integer @gPos (rV (eVar 0) rNil) rNil)) (eChain pLe pLe (eVar 1) (eVar 0) (eVar 2))))) sNil)
def f_is_between : List MV → RF := runF 0 3 0 e_is_between
theorem r_is_between (a0 a1 a2 : MV) : f_is_between [a0, a1, a2] = fin 0 (e_is_between [some a0, some a1, some a2]) := runF_fin (np := 3) rfl
/- is_count(value): 0 value -/
def e_is_count : SE Out :=
  (sSeq (sRet (Mv.mv (eAnd (vw (eCall f_is_integer @gPos (rV (eVar 0) rNil) rNil)) (eOp pGe (eVar 0) (SE.ret (.int 0)))))) sNil)
def f_is_count : List MV → RF := runF 0 1 0 e_is_count
theorem r_is_count (a0 : MV) : f_is_count [a0] = fin 0 (e_is_count [some a0]) := runF_fin (np := 1) rfl
/- is_body(value): 0 value -/
def e_is_body : SE Out :=
  (sSeq (sRet (Mv.mv (eAnd (eCB pIsiA (aCons (eVar 0) (aCons (SE.ret (.opq (.ty "str"))) aNil))) (eAnd (eChain pLe pLe (SE.ret (.int 1)) (eCB (one pLen) (aCons (eVar 0) aNil)) (SE.ret (.int 5000))) (vw (eCall f_are_signs @gPos (rV (eVar 0) rNil) rNil)))))) sNil)
def f_is_body : List MV → RF := runF 0 1 0 e_is_body
theorem r_is_body (a0 : MV) : f_is_body [a0] = fin 0 (e_is_body [some a0]) := runF_fin (np := 1) rfl
/- _law_pick(pot, some): 0 pot, 1 some -/
def e__law_pick : SE Out :=
  (sSeq (sRet (Mv.mv (eOp pIx (eVar 1) (vw (eCall f__law_draw @gPos (rP 0 (rV (eCB (one pLen) (aCons (eVar 1) aNil)) rNil)) rNil))))) sNil)
def f__law_pick : List MV → RF := runF 1 2 0 e__law_pick
theorem r__law_pick (a0 a1 : MV) : f__law_pick [a0, a1] = fin 1 (e__law_pick [some a0, some a1]) := runF_fin (np := 2) rfl
/- _law_deed_of(body): 0 body, 1 parts, 2 rows, 3 note, 4 many, 5 numbers, 6 part -/
def c__law_deed_of_1 : SE MV :=
  (sLc (sIt (eSl (eVar 1) (ePart (SE.ret (.int 1))) eNo)) (gN 6) sYes (vw (eCall f__law_numeral @gPos (rV (eVar 6) rNil) rNil)) [6])
def e__law_deed_of : SE Out :=
  (sSeq (sSet 1 (Mv.mv (eM1 pSplit (eVar 0) (SE.ret (.str [32]))))) (sSeq (sIf (eBool (eOp pEq (eVar 0) (SE.ret (.str [101, 112, 111, 99, 104])))) (sSeq (sRet (Mv.mv (eTup (aCons (SE.ret (.str [101, 112, 111, 99, 104])) aNil)))) sNil) sNil) (sSeq (sIf (sAnd (eBool (eOp pEq (eOp pIx (eVar 1) (SE.ret (.int 0))) (SE.ret (.str [115, 104, 101, 101, 116])))) (eBool (eOp pGt (eCB (one pLen) (aCons (eVar 1) aNil)) (SE.ret (.int 2))))) (sSeq (sPar [2, 3] (mCons (Mv.mv (vw (eCall f__law_numeral @gPos (rV (eOp pIx (eVar 1) (SE.ret (.int 1))) rNil) rNil))) (mCons (Mv.mv (eM1 pJoin (SE.ret (.str [32])) (eSl (eVar 1) (ePart (SE.ret (.int 2))) eNo))) mNil))) (sSeq (sRet (Mv.mv (eIf (sAnd (eBool (eOp (noOpq pNotN) (eVar 2) (SE.ret .non))) (sAnd (eBool (eOp pGt (eVar 2) (SE.ret (.int 0)))) (eBool (eOp pLe (eCB (one pLen) (aCons (eVar 3) aNil)) (SE.ret (.int 4000)))))) (eTup (aCons (SE.ret (.str [115, 104, 101, 101, 116])) (aCons (eVar 2) (aCons (eVar 3) aNil)))) (SE.ret .non)))) sNil)) sNil) (sSeq (sSet 4 (Mv.mv (eGet2 (vw (sDis [[97, 115, 107], [100, 111, 110, 101], [100, 114, 111, 112]] (mCons (Mv.mv (SE.ret (.int 3))) (mCons (Mv.mv (SE.ret (.int 3))) (mCons (Mv.mv (SE.ret (.int 2))) mNil))))) (eOp pIx (eVar 1) (SE.ret (.int 0))) (SE.ret (.int 0))))) (sSeq (sSetF 5 c__law_deed_of_1) (sSeq (sRet (Mv.mv (eIf (sAnd (eBool (eOp pEq (eCB (one pLen) (aCons (eVar 1) aNil)) (eVar 4))) (eBool (eOp pNotIn (SE.ret .non) (eVar 5)))) (eOp pAdd (eTup (aCons (eOp pIx (eVar 1) (SE.ret (.int 0))) aNil)) (eCB (one pTuple) (aCons (eVar 5) aNil))) (SE.ret .non)))) sNil))))))
def f__law_deed_of : List MV → RF := runF 0 1 6 e__law_deed_of
theorem r__law_deed_of (a0 : MV) : f__law_deed_of [a0] = fin 0 (e__law_deed_of [some a0, none, none, none, none, none, none]) := runF_fin (np := 1) rfl
/- _law_is_sheet(value): 0 value -/
def e__law_is_sheet : SE Out :=
  (sSeq (sIf (sOr (sNot (eTru (eCB pIsiA (aCons (eVar 0) (aCons (SE.ret (.opq (.ty "tuple"))) aNil))))) (sOr (eBool (eOp pNe (eCB (one pLen) (aCons (eVar 0) aNil)) (SE.ret (.int 5)))) (sOr (sNot (eTru (eCB pIsiA (aCons (eOp pIx (eVar 0) (SE.ret (.int 1))) (aCons (SE.ret (.opq (.ty "str"))) aNil))))) (sOr (eBool (eOp pGt (eCB (one pLen) (aCons (eOp pIx (eVar 0) (SE.ret (.int 1))) aNil)) (SE.ret (.int 4000)))) (sNot (eTru (eCB pIsiA (aCons (eOp pIx (eVar 0) (SE.ret (.int 4))) (aCons (SE.ret (.opq (.ty "bool"))) aNil))))))))) (sSeq (sRet (Mv.mv (SE.ret (.bl false)))) sNil) sNil) (sSeq (sIf (sOr (sNot (eTru (vw (eCall f__law_is_count @gPos (rV (eOp pIx (eVar 0) (SE.ret (.int 0))) (rV (SE.ret (.int 2000)) rNil)) rNil)))) (sOr (eBool (eOp pLt (eOp pIx (eVar 0) (SE.ret (.int 0))) (SE.ret (.int 1)))) (sOr (sNot (eTru (vw (eCall f__law_is_count @gPos (rV (eOp pIx (eVar 0) (SE.ret (.int 2))) (rV (eOp pIx (eVar 0) (SE.ret (.int 0))) rNil)) rNil)))) (sNot (eTru (vw (eCall f__law_is_count @gPos (rV (eOp pIx (eVar 0) (SE.ret (.int 3))) (rV (eOp pIx (eVar 0) (SE.ret (.int 2))) rNil)) rNil))))))) (sSeq (sRet (Mv.mv (SE.ret (.bl false)))) sNil) sNil) (sSeq (sRet (Mv.mv (eOp pLt (eOp pSub (eOp pIx (eVar 0) (SE.ret (.int 2))) (eOp pIx (eVar 0) (SE.ret (.int 3)))) (SE.ret (.int 2))))) sNil)))
def f__law_is_sheet : List MV → RF := runF 0 1 0 e__law_is_sheet
theorem r__law_is_sheet (a0 : MV) : f__law_is_sheet [a0] = fin 0 (e__law_is_sheet [some a0]) := runF_fin (np := 1) rfl
/- deed_is_right(value): 0 value, 1 word, 2 rest, 3 many, 4 one -/
def c_deed_is_right_1 : SE MV :=
  (sLc (sIt (eVar 2)) (gN 4) sYes (vw (eCall f_is_between @gPos (rV (eVar 4) (rV (SE.ret (.int 0)) (rV (SE.ret (.int 2000)) rNil))) rNil)) [4])
def e_deed_is_right : SE Out :=
  (sSeq (sIf (sOr (sNot (eTru (eCB pIsiA (aCons (eVar 0) (aCons (SE.ret (.opq (.ty "tuple"))) aNil))))) (sOr (eBool (eOp pEq (eCB (one pLen) (aCons (eVar 0) aNil)) (SE.ret (.int 0)))) (sNot (eTru (eCB pIsiA (aCons (eOp pIx (eVar 0) (SE.ret (.int 0))) (aCons (SE.ret (.opq (.ty "str"))) aNil))))))) (sSeq (sRet (Mv.mv (SE.ret (.bl false)))) sNil) sNil) (sSeq (sPar [1, 2] (mCons (Mv.mv (eOp pIx (eVar 0) (SE.ret (.int 0)))) (mCons (Mv.mv (eSl (eVar 0) (ePart (SE.ret (.int 1))) eNo)) mNil))) (sSeq (sIf (eBool (eOp pEq (eVar 1) (SE.ret (.str [115, 104, 101, 101, 116])))) (sSeq (sRet (Mv.mv (eAnd (eOp pEq (eCB (one pLen) (aCons (eVar 2) aNil)) (SE.ret (.int 2))) (eAnd (vw (eCall f_is_between @gPos (rV (eOp pIx (eVar 2) (SE.ret (.int 0))) (rV (SE.ret (.int 1)) (rV (SE.ret (.int 2000)) rNil))) rNil)) (eAnd (vw (eCall f_are_signs @gPos (rV (eOp pIx (eVar 2) (SE.ret (.int 1))) rNil) rNil)) (eOp pLe (eCB (one pLen) (aCons (eOp pIx (eVar 2) (SE.ret (.int 1))) aNil)) (SE.ret (.int 4000)))))))) sNil) sNil) (sSeq (sSet 3 (Mv.mv (vw (sDis [[97, 115, 107], [100, 111, 110, 101], [100, 114, 111, 112], [101, 112, 111, 99, 104]] (mCons (Mv.mv (SE.ret (.int 2))) (mCons (Mv.mv (SE.ret (.int 2))) (mCons (Mv.mv (SE.ret (.int 1))) (mCons (Mv.mv (SE.ret (.int 0))) mNil)))))))) (sSeq (sIf (sOr (eBool (eOp pNotInD (eVar 1) (eVar 3))) (eBool (eOp pNe (eCB (one pLen) (aCons (eVar 2) aNil)) (eOp pIxD (eVar 3) (eVar 1))))) (sSeq (sRet (Mv.mv (SE.ret (.bl false)))) sNil) sNil) (sSeq (sRet (Mv.mv (eCB (one pAll) (aCons (vw c_deed_is_right_1) aNil)))) sNil))))))
def f_deed_is_right : List MV → RF := runF 0 1 4 e_deed_is_right
theorem r_deed_is_right (a0 : MV) : f_deed_is_right [a0] = fin 0 (e_deed_is_right [some a0, none, none, none, none]) := runF_fin (np := 1) rfl
/- _law_deed(pot, journal): 0 pot, 1 journal, 2 sheets, 3 kind, 4 at, 5 row -/
def e__law_deed : SE Out :=
  (sSeq (sPar [2, 3] (mCons (Mv.mv (eOp pIx (eVar 1) (SE.ret (.int 2)))) (mCons (Mv.mv (vw (eCall f__law_draw @gPos (rP 0 (rV (SE.ret (.int 12)) rNil)) rNil))) mNil))) (sSeq (sIf (sOr (eBool (eOp pLt (eVar 3) (SE.ret (.int 2)))) (eBool (eOp pEq (eVar 2) (eTup aNil)))) (sSeq (sRet (Mv.mv (eTup (aCons (SE.ret (.str [115, 104, 101, 101, 116])) (aCons (eOp pAdd (SE.ret (.int 1)) (vw (eCall f__law_draw @gPos (rP 0 (rV (SE.ret (.int 3)) rNil)) rNil))) (aCons (vw (eCall f__law_pick @gPos (rP 0 (rV (vw (eLst (aCons (SE.ret (.str [])) (aCons (SE.ret (.str [115, 107, 121])) (aCons (SE.ret (.str [97, 32, 98])) (aCons (SE.ret (.str [49, 32, 50])) (aCons (SE.ret (.str [120, 10, 121, 32, 126])) aNil))))))) rNil)) rNil)) aNil)))))) sNil) sNil) (sSeq (sSet 4 (Mv.mv (vw (eCall f__law_draw @gPos (rP 0 (rV (eOp pAdd (eCB (one pLen) (aCons (eVar 2) aNil)) (eIf (eBool (eOp pEq (eVar 3) (SE.ret (.int 11)))) (SE.ret (.int 1)) (SE.ret (.int 0)))) rNil)) rNil)))) (sSeq (sSet 5 (Mv.mv (eIf (eBool (eOp pLt (eVar 4) (eCB (one pLen) (aCons (eVar 2) aNil)))) (eOp pIx (eOp pIx (eVar 2) (eVar 4)) (SE.ret (.int 3))) (SE.ret (.int 0))))) (sSeq (sSet 5 (Mv.mv (eIf (eBool (eOp pIn (eVar 3) (eTup (aCons (SE.ret (.int 9)) (aCons (SE.ret (.int 10)) aNil))))) (eOp pAdd (eVar 5) (vw (eCall f__law_draw @gPos (rP 0 (rV (SE.ret (.int 2)) rNil)) rNil))) (eVar 5)))) (sSeq (sIf (eBool (eOp pIn (eVar 3) (eTup (aCons (SE.ret (.int 2)) (aCons (SE.ret (.int 3)) aNil))))) (sSeq (sRet (Mv.mv (eIf (eBool (eOp pEq (eVar 3) (SE.ret (.int 2)))) (eTup (aCons (SE.ret (.str [101, 112, 111, 99, 104])) aNil)) (eTup (aCons (SE.ret (.str [100, 114, 111, 112])) (aCons (eVar 4) aNil)))))) sNil) sNil) (sSeq (sRet (Mv.mv (eTup (aCons (vw (eCall f__law_pick @gPos (rP 0 (rV (vw (eLst (aCons (SE.ret (.str [97, 115, 107])) (aCons (SE.ret (.str [100, 111, 110, 101])) aNil)))) rNil)) rNil)) (aCons (eVar 4) (aCons (eVar 5) aNil)))))) sNil)))))))
def f__law_deed : List MV → RF := runF 1 2 4 e__law_deed
theorem r__law_deed (a0 a1 : MV) : f__law_deed [a0, a1] = fin 1 (e__law_deed [some a0, some a1, none, none, none, none]) := runF_fin (np := 2) rfl
/- _law_is_journal(value): 0 value, 1 one -/
def c__law_is_journal_1 : SE MV :=
  (sLc (sIt (eOp pIx (eVar 0) (SE.ret (.int 2)))) (gN 1) sYes (vw (eCall f__law_is_sheet @gPos (rV (eVar 1) rNil) rNil)) [1])
def e__law_is_journal : SE Out :=
  (sSeq (sIf (sOr (sNot (eTru (eCB pIsiA (aCons (eVar 0) (aCons (SE.ret (.opq (.ty "tuple"))) aNil))))) (sOr (eBool (eOp pNe (eCB (one pLen) (aCons (eVar 0) aNil)) (SE.ret (.int 3)))) (sOr (sNot (eTru (eCB pIsiA (aCons (eOp pIx (eVar 0) (SE.ret (.int 0))) (aCons (SE.ret (.opq (.ty "str"))) aNil))))) (sOr (eBool (eOp pNe (eOp pIx (eVar 0) (SE.ret (.int 0))) (SE.ret (.str [106, 111, 117, 114, 110, 97, 108])))) (sNot (eTru (vw (eCall f__law_is_count @gPos (rV (eOp pIx (eVar 0) (SE.ret (.int 1))) (rV (eOp pPow (SE.ret (.int 10)) (SE.ret (.int 9))) rNil)) rNil)))))))) (sSeq (sRet (Mv.mv (SE.ret (.bl false)))) sNil) sNil) (sSeq (sRet (Mv.mv (eAnd (eCB pIsiA (aCons (eOp pIx (eVar 0) (SE.ret (.int 2))) (aCons (SE.ret (.opq (.ty "tuple"))) aNil))) (eCB (one pAll) (aCons (vw c__law_is_journal_1) aNil))))) sNil))
def f__law_is_journal : List MV → RF := runF 0 1 1 e__law_is_journal
theorem r__law_is_journal (a0 : MV) : f__law_is_journal [a0] = fin 0 (e__law_is_journal [some a0, none]) := runF_fin (np := 1) rfl
/- deed_by(body): 0 body, 1 words, 2 numbers, 3 found, 4 word -/
def c_deed_by_1 : SE MV :=
  (sLc (sIt (eSl (eVar 1) (ePart (SE.ret (.int 1))) eNo)) (gN 4) sYes (eIf (eTru (vw (eCall f_is_numeral @gPos (rV (eVar 4) rNil) rNil))) (eCB (one pInt) (aCons (eVar 4) aNil)) (SE.ret .non)) [4])
def e_deed_by : SE Out :=
  (sSeq (sSet 1 (Mv.mv (eMs pSplitK (eVar 0) (aCons (SE.ret (.str [32])) (aCons (SE.ret (.int 2)) aNil))))) (sSeq (sSetF 2 c_deed_by_1) (sSeq (sIf (eBool (eOp pEq (eOp pIx (eVar 1) (SE.ret (.int 0))) (SE.ret (.str [115, 104, 101, 101, 116])))) (sSeq (sSet 3 (Mv.mv (eIf (eBool (eOp pEq (eCB (one pLen) (aCons (eVar 1) aNil)) (SE.ret (.int 3)))) (eTup (aCons (SE.ret (.str [115, 104, 101, 101, 116])) (aCons (eOp pIx (eVar 2) (SE.ret (.int 0))) (aCons (eOp pIx (eVar 1) (SE.ret (.int 2))) aNil)))) (eTup aNil)))) sNil) (sSeq (sSet 3 (Mv.mv (eOp pAdd (eTup (aCons (eOp pIx (eVar 1) (SE.ret (.int 0))) aNil)) (eCB (one pTuple) (aCons (eVar 2) aNil))))) sNil)) (sSeq (sRet (Mv.mv (eIf (eTru (vw (eCall f_deed_is_right @gPos (rV (eVar 3) rNil) rNil))) (eVar 3) (SE.ret .non)))) sNil))))
def f_deed_by : List MV → RF := runF 0 1 4 e_deed_by
theorem r_deed_by (a0 : MV) : f_deed_by [a0] = fin 0 (e_deed_by [some a0, none, none, none, none]) := runF_fin (np := 1) rfl
/- sheet_is_right(value, at): 0 value, 1 at, 2 rows, 3 note, 4 asked, 5 done, 6 dropped -/
def e_sheet_is_right : SE Out :=
  (sSeq (sIf (sOr (sNot (eTru (eCB pIsiA (aCons (eVar 0) (aCons (SE.ret (.opq (.ty "tuple"))) aNil))))) (sOr (eBool (eOp pNe (eCB (one pLen) (aCons (eVar 0) aNil)) (SE.ret (.int 5)))) (sNot (eTru (vw (eCall f_deed_is_right @gPos (rV (eOp pAdd (eTup (aCons (SE.ret (.str [115, 104, 101, 101, 116])) aNil)) (eSl (eVar 0) eNo (ePart (SE.ret (.int 2))))) rNil) rNil)))))) (sSeq (sRet (Mv.mv (SE.ret (.bl false)))) sNil) sNil) (sSeq (sAsg (eVar 0) (gTp 5 (gCn (gN 2) (gCn (gN 3) (gCn (gN 4) (gCn (gN 5) (gCn (gN 6) gNl))))))) (sSeq (sIf (sOr (sNot (eTru (vw (eCall f_is_count @gPos (rV (eVar 4) rNil) rNil)))) (sOr (sNot (eTru (vw (eCall f_is_count @gPos (rV (eVar 5) rNil) rNil)))) (sNot (eTru (eCB pIsiA (aCons (eVar 6) (aCons (SE.ret (.opq (.ty "bool"))) aNil))))))) (sSeq (sRet (Mv.mv (SE.ret (.bl false)))) sNil) sNil) (sSeq (sIf (sAnd (eBool (eOp pGt (eVar 1) (SE.ret (.int 2000)))) (sOr (eBool (eOp pGt (eVar 4) (SE.ret (.int 0)))) (eTru (eVar 6)))) (sSeq (sRet (Mv.mv (SE.ret (.bl false)))) sNil) sNil) (sSeq (sRet (Mv.mv (eAnd (eChain pLe pLe (eVar 5) (eVar 4) (eOp pAdd (eVar 5) (SE.ret (.int 1)))) (eOp pLe (eVar 4) (eVar 2))))) sNil)))))
def f_sheet_is_right : List MV → RF := runF 0 2 5 e_sheet_is_right
theorem r_sheet_is_right (a0 a1 : MV) : f_sheet_is_right [a0, a1] = fin 0 (e_sheet_is_right [some a0, some a1, none, none, none, none, none]) := runF_fin (np := 2) rfl
/- is_deed(value): 0 value -/
def e_is_deed : SE Out :=
  (sSeq (sRet (eCall f_deed_is_right @gPos (rV (eVar 0) rNil) rNil)) sNil)
def f_is_deed : List MV → RF := runF 0 1 0 e_is_deed
theorem r_is_deed (a0 : MV) : f_is_deed [a0] = fin 0 (e_is_deed [some a0]) := runF_fin (np := 1) rfl
/- body_of(deed): 0 deed -/
def e_body_of : SE Out :=
  (sSeq (sIf (sNot (eTru (vw (eCall f_deed_is_right @gPos (rV (eVar 0) rNil) rNil)))) (sSeq sNever sNil) sNil) (sSeq (sRet (eCall f_body_by @gPos (rV (eVar 0) rNil) rNil)) sNil))
def f_body_of : List MV → RF := runF 0 1 0 e_body_of
theorem r_body_of (a0 : MV) : f_body_of [a0] = fin 0 (e_body_of [some a0]) := runF_fin (np := 1) rfl
/- journal_is_right(value): 0 value, 1 at, 2 one -/
def c_journal_is_right_1 : SE MV :=
  (sLc (sEnum3 (aCons (eOp pIx (eVar 0) (SE.ret (.int 2))) aNil)) (gTp 2 (gCn (gN 1) (gCn (gN 2) gNl))) sYes (vw (eCall f_sheet_is_right @gPos (rV (eVar 2) (rV (eVar 1) rNil)) rNil)) [1, 2])
def e_journal_is_right : SE Out :=
  (sSeq (sIf (sOr (sNot (eTru (eCB pIsiA (aCons (eVar 0) (aCons (SE.ret (.opq (.ty "tuple"))) aNil))))) (sOr (eBool (eOp pNe (eCB (one pLen) (aCons (eVar 0) aNil)) (SE.ret (.int 3)))) (sOr (sNot (eTru (eCB pIsiA (aCons (eOp pIx (eVar 0) (SE.ret (.int 0))) (aCons (SE.ret (.opq (.ty "str"))) aNil))))) (eBool (eOp pNe (eOp pIx (eVar 0) (SE.ret (.int 0))) (SE.ret (.str [106, 111, 117, 114, 110, 97, 108]))))))) (sSeq (sRet (Mv.mv (SE.ret (.bl false)))) sNil) sNil) (sSeq (sIf (sOr (sNot (eTru (vw (eCall f_is_count @gPos (rV (eOp pIx (eVar 0) (SE.ret (.int 1))) rNil) rNil)))) (sNot (eTru (eCB pIsiA (aCons (eOp pIx (eVar 0) (SE.ret (.int 2))) (aCons (SE.ret (.opq (.ty "tuple"))) aNil)))))) (sSeq (sRet (Mv.mv (SE.ret (.bl false)))) sNil) sNil) (sSeq (sRet (Mv.mv (eCB (one pAll) (aCons (vw c_journal_is_right_1) aNil)))) sNil)))
def f_journal_is_right : List MV → RF := runF 0 1 2 e_journal_is_right
theorem r_journal_is_right (a0 : MV) : f_journal_is_right [a0] = fin 0 (e_journal_is_right [some a0, none, none]) := runF_fin (np := 1) rfl
/- deed_of(body): 0 body -/
def e_deed_of : SE Out :=
  (sSeq (sIf (sNot (eTru (vw (eCall f_is_body @gPos (rV (eVar 0) rNil) rNil)))) (sSeq sNever sNil) sNil) (sSeq (sRet (eCall f_deed_by @gPos (rV (eVar 0) rNil) rNil)) sNil))
def f_deed_of : List MV → RF := runF 0 1 0 e_deed_of
theorem r_deed_of (a0 : MV) : f_deed_of [a0] = fin 0 (e_deed_of [some a0]) := runF_fin (np := 1) rfl
/- check_journal(journal): 0 journal -/
def e_check_journal : SE Out :=
  (sSeq (sIf (sNot (eTru (vw (eCall f_journal_is_right @gPos (rV (eVar 0) rNil) rNil)))) (sSeq sNever sNil) sNil) sNil)
def f_check_journal : List MV → RF := runF 0 1 0 e_check_journal
theorem r_check_journal (a0 : MV) : f_check_journal [a0] = fin 0 (e_check_journal [some a0]) := runF_fin (np := 1) rfl
/- is_journal(value): 0 value -/
def e_is_journal : SE Out :=
  (sSeq (sRet (eCall f_journal_is_right @gPos (rV (eVar 0) rNil) rNil)) sNil)
def f_is_journal : List MV → RF := runF 0 1 0 e_is_journal
theorem r_is_journal (a0 : MV) : f_is_journal [a0] = fin 0 (e_is_journal [some a0]) := runF_fin (np := 1) rfl
/- _law_bodies_right(pot, deed): 0 pot, 1 deed, 2 body, 3 at, 4 some, 5 other, 6 one -/
def c__law_bodies_right_1 : SE MV :=
  (sLc (sIt (eVar 4)) (gN 6) (eBool (eOp pNe (eVar 6) (SE.ret (.str [])))) (eVar 6) [6])
def b__law_bodies_right_1 : SE Out :=
  (sSeq (sIf (eBool (eOp pNe (eCB (one pRepr) (aCons (vw (eCall f_deed_of @gPos (rV (eVar 5) rNil) rNil)) aNil)) (eCB (one pRepr) (aCons (vw (eCall f__law_deed_of @gPos (rV (eVar 5) rNil) rNil)) aNil)))) (sSeq (sRet (Mv.mv (SE.ret (.bl false)))) sNil) sNil) sNil)
def e__law_bodies_right : SE Out :=
  (sSeq (sSet 2 (Mv.mv (vw (eCall f__law_body_of @gPos (rV (eVar 1) rNil) rNil)))) (sSeq (sIf (eBool (eOp pNe (eCB (one pRepr) (aCons (vw (eLst (aCons (vw (eCall f_body_of @gPos (rV (eVar 1) rNil) rNil)) (aCons (vw (eCall f_body_of (fun {α} => gKw (α := α) [0]) rNil (rV (eVar 1) rNil))) (aCons (vw (eCall f_deed_of @gPos (rV (eVar 2) rNil) rNil)) (aCons (vw (eCall f_deed_of (fun {α} => gKw (α := α) [0]) rNil (rV (eVar 2) rNil))) (aCons (vw (eCall f_is_deed @gPos (rV (eVar 1) rNil) rNil)) aNil))))))) aNil)) (eCB (one pRepr) (aCons (vw (eLst (aCons (eVar 2) (aCons (eVar 2) (aCons (eVar 1) (aCons (eVar 1) (aCons (SE.ret (.bl true)) aNil))))))) aNil)))) (sSeq (sRet (Mv.mv (SE.ret (.bl false)))) sNil) sNil) (sSeq (sSet 3 (Mv.mv (vw (eCall f__law_draw @gPos (rP 0 (rV (eCB (one pLen) (aCons (eVar 2) aNil)) rNil)) rNil)))) (sSeq (sSet 4 (Mv.mv (vw (eLst (aCons (eOp pAdd (eVar 2) (SE.ret (.str [32]))) (aCons (eOp pAdd (eVar 2) (SE.ret (.str [32, 48]))) (aCons (eOp pAdd (SE.ret (.str [32])) (eVar 2)) (aCons (eOp pAdd (eOp pAdd (eSl (eVar 2) eNo (ePart (eVar 3))) (vw (eCall f__law_pick @gPos (rP 0 (rV (vw (eLst (aCons (SE.ret (.str [48])) (aCons (SE.ret (.str [32])) (aCons (SE.ret (.str [120])) (aCons (SE.ret (.str [55])) aNil)))))) rNil)) rNil))) (eSl (eVar 2) (ePart (eVar 3)) eNo)) (aCons (eOp pAdd (eSl (eVar 2) eNo (ePart (eVar 3))) (eSl (eVar 2) (ePart (eOp pAdd (eVar 3) (SE.ret (.int 1)))) eNo)) (aCons (eUn (pRepl [32] [32, 32]) (eVar 2)) (aCons (SE.ret (.str [115, 104, 101, 101, 116, 32, 50, 32])) (aCons (SE.ret (.str [115, 104, 101, 101, 116, 32, 50])) (aCons (SE.ret (.str [97, 115, 107, 32, 48, 48, 32, 49])) aNil))))))))))))) (sSeq (sFor (sIt (vw c__law_bodies_right_1)) (gN 5) b__law_bodies_right_1) (sSeq (sRet (Mv.mv (SE.ret (.bl true)))) sNil))))))
def f__law_bodies_right : List MV → RF := runF 1 2 5 e__law_bodies_right
theorem r__law_bodies_right (a0 a1 : MV) : f__law_bodies_right [a0, a1] = fin 1 (e__law_bodies_right [some a0, some a1, none, none, none, none, none]) := runF_fin (np := 2) rfl
/- check_deed(journal, deed): 0 journal, 1 deed -/
def e_check_deed : SE Out :=
  (sSeq (sDrop (eCall f_check_journal @gPos (rV (eVar 0) rNil) rNil)) (sSeq (sIf (sNot (eTru (vw (eCall f_deed_is_right @gPos (rV (eVar 1) rNil) rNil)))) (sSeq sNever sNil) sNil) sNil))
def f_check_deed : List MV → RF := runF 0 2 0 e_check_deed
theorem r_check_deed (a0 a1 : MV) : f_check_deed [a0, a1] = fin 0 (e_check_deed [some a0, some a1]) := runF_fin (np := 2) rfl
/- in_doubt(journal): 0 journal, 1 at, 2 one -/
def c_in_doubt_1 : SE MV :=
  (sLc (sEnum3 (aCons (eOp pIx (eVar 0) (SE.ret (.int 2))) aNil)) (gTp 2 (gCn (gN 1) (gCn (gN 2) gNl))) (sAnd (sNot (eTru (eOp pIx (eVar 2) (SE.ret (.int 4))))) (eBool (eOp pGt (eOp pIx (eVar 2) (SE.ret (.int 2))) (eOp pIx (eVar 2) (SE.ret (.int 3)))))) (eTup (aCons (eVar 1) (aCons (eOp pIx (eVar 2) (SE.ret (.int 3))) aNil))) [1, 2])
def e_in_doubt : SE Out :=
  (sSeq (sDrop (eCall f_check_journal @gPos (rV (eVar 0) rNil) rNil)) (sSeq (sRet c_in_doubt_1) sNil))
def f_in_doubt : List MV → RF := runF 0 1 2 e_in_doubt
theorem r_in_doubt (a0 : MV) : f_in_doubt [a0] = fin 0 (e_in_doubt [some a0, none, none]) := runF_fin (np := 1) rfl
/- _law_bent(pot, value): 0 pot, 1 value, 2 at -/
def e__law_bent (rec_ : List MV → RF) : SE Out :=
  (sSeq (sIf (sNot (eTru (eCB pIsiA (aCons (eVar 1) (aCons (SE.ret (.opq (.ty "tuple"))) aNil))))) (sSeq (sRet (eCall f__law_pick @gPos (rP 0 (rV (vw (eLst (aCons (SE.ret .non) (aCons (SE.ret (.int 0)) (aCons (SE.ret (.int 1)) (aCons (SE.ret (.int 2)) (aCons (eUn pNeg (SE.ret (.int 1))) (aCons (SE.ret (.bl true)) (aCons (SE.ret (.bl false)) (aCons (SE.ret (.str [])) (aCons (SE.ret (.str [106, 111, 117, 114, 110, 97, 108])) (aCons (SE.ret (.int 2001)) (aCons (eVar 1) aNil))))))))))))) rNil)) rNil)) sNil) sNil) (sSeq (sIf (sOr (eBool (eOp pEq (eVar 1) (eTup aNil))) (eBool (eOp pEq (vw (eCall f__law_draw @gPos (rP 0 (rV (SE.ret (.int 5)) rNil)) rNil)) (SE.ret (.int 0))))) (sSeq (sRet (eCall f__law_pick @gPos (rP 0 (rV (vw (eLst (aCons (vw (eLOf (aCons (eVar 1) aNil))) (aCons (eSl (eVar 1) eNo (ePart (eUn pNeg (SE.ret (.int 1))))) (aCons (eOp pAdd (eVar 1) (eSl (eVar 1) (ePart (eUn pNeg (SE.ret (.int 1)))) eNo)) (aCons (eUn pRev (eVar 1)) (aCons (eTup aNil) (aCons (eVar 1) aNil)))))))) rNil)) rNil)) sNil) sNil) (sSeq (sSet 2 (Mv.mv (vw (eCall f__law_draw @gPos (rP 0 (rV (eCB (one pLen) (aCons (eVar 1) aNil)) rNil)) rNil)))) (sSeq (sRet (Mv.mv (eOp pAdd (eOp pAdd (eSl (eVar 1) eNo (ePart (eVar 2))) (eTup (aCons (vw (eCall rec_ @gPos (rP 0 (rV (eOp pIx (eVar 1) (eVar 2)) rNil)) rNil)) aNil))) (eSl (eVar 1) (ePart (eOp pAdd (eVar 2) (SE.ret (.int 1)))) eNo)))) sNil))))
def f__law_bent : Nat → List MV → RF
  | 0 => fun _ => .bad
  | k + 1 => runF 1 2 1 (e__law_bent (f__law_bent k))
theorem r__law_bent (k : Nat) (a0 a1 : MV) : f__law_bent (k + 1) [a0, a1] = fin 1 (e__law_bent (f__law_bent k) [some a0, some a1, none]) := runF_fin (np := 2) rfl
/- wrong_word(journal, deed): 0 journal, 1 deed -/
def e_wrong_word : SE Out :=
  (sSeq (sDrop (eCall f_check_deed @gPos (rV (eVar 0) (rV (eVar 1) rNil)) rNil)) (sSeq (sRet (eCall f_word_by @gPos (rV (eVar 0) (rV (eVar 1) rNil)) rNil)) sNil))
def f_wrong_word : List MV → RF := runF 0 2 0 e_wrong_word
theorem r_wrong_word (a0 a1 : MV) : f_wrong_word [a0, a1] = fin 0 (e_wrong_word [some a0, some a1]) := runF_fin (np := 2) rfl
/- with_deed(journal, deed): 0 journal, 1 deed, 2 word -/
def e_with_deed : SE Out :=
  (sSeq (sDrop (eCall f_check_deed @gPos (rV (eVar 0) (rV (eVar 1) rNil)) rNil)) (sSeq (sSet 2 (Mv.mv (vw (eCall f_word_by @gPos (rV (eVar 0) (rV (eVar 1) rNil)) rNil)))) (sSeq (sIf (eBool (eOp (noOpq pNotN) (eVar 2) (SE.ret .non))) (sSeq sNever sNil) sNil) (sSeq (sRet (eCall f_behind @gPos (rV (eVar 0) (rV (eVar 1) rNil)) rNil)) sNil))))
def f_with_deed : List MV → RF := runF 0 2 1 e_with_deed
theorem r_with_deed (a0 a1 : MV) : f_with_deed [a0, a1] = fin 0 (e_with_deed [some a0, some a1, none]) := runF_fin (np := 2) rfl
/- _law_right(pot, late): 0 pot, 1 late*, 2 journal*, 3 turn, 4 deed, 5 shown, 6 word, 7 due, 8 told, 9 value, 10 flag -/
def b__law_right_1 : SE Out :=
  (sSeq (sSet 4 (Mv.mv (vw (eCall f__law_deed @gPos (rP 0 (rV (eVar 2) rNil)) rNil)))) (sSeq (sPar [5, 6] (mCons (Mv.mv (eCB (one pRepr) (aCons (vw (eLst (aCons (eVar 2) (aCons (eVar 4) aNil)))) aNil))) (mCons (Mv.mv (vw (eCall f__law_word @gPos (rV (eVar 2) (rV (eVar 4) rNil)) rNil))) mNil))) (sSeq (sIf (sOr (eBool (eOp pNe (eCB (one pRepr) (aCons (vw (eLst (aCons (vw (eCall f_wrong_word @gPos (rV (eVar 2) (rV (eVar 4) rNil)) rNil)) (aCons (vw (eCall f_wrong_word (fun {α} => gKw (α := α) [1, 0]) rNil (rV (eVar 4) (rV (eVar 2) rNil)))) aNil)))) aNil)) (eCB (one pRepr) (aCons (vw (eLst (aCons (eVar 6) (aCons (eVar 6) aNil)))) aNil)))) (sNot (eTru (vw (eCall f__law_bodies_right @gPos (rP 1 (rV (eVar 4) rNil)) rNil))))) (sSeq (sRet (Mv.mv (SE.ret (.bl false)))) sNil) sNil) (sSeq (sIf (eBool (eOp (noOpq pIsN) (eVar 6) (SE.ret .non))) (sSeq (sSet 7 (Mv.mv (vw (eCall f__law_with @gPos (rV (eVar 2) (rV (eVar 4) rNil)) rNil)))) (sSeq (sIf (sOr (eBool (eOp pNe (eCB (one pRepr) (aCons (vw (eLst (aCons (vw (eCall f_with_deed @gPos (rV (eVar 2) (rV (eVar 4) rNil)) rNil)) (aCons (vw (eCall f_with_deed (fun {α} => gKw (α := α) [1, 0]) rNil (rV (eVar 4) (rV (eVar 2) rNil)))) aNil)))) aNil)) (eCB (one pRepr) (aCons (vw (eLst (aCons (eVar 7) (aCons (eVar 7) aNil)))) aNil)))) (eBool (eOp pNe (eCB (one pRepr) (aCons (vw (eLst (aCons (eVar 2) (aCons (eVar 4) aNil)))) aNil)) (eVar 5)))) (sSeq (sRet (Mv.mv (SE.ret (.bl false)))) sNil) sNil) (sSeq (sSet 2 (Mv.mv (eVar 7))) sNil))) sNil) (sSeq (sSet 8 (eCall f_in_doubt @gPos (rV (eVar 2) rNil) rNil)) (sSeq (sIf (eBool (eOp pNe (eScope (eCB (one pRepr) (aCons (vw (eLst (aCons (eVar 8) (aCons (vw (eCall f_in_doubt (fun {α} => gKw (α := α) [0]) rNil (rV (eVar 2) rNil))) aNil)))) aNil))) (eCB (one pRepr) (aCons (vw (eRep (vw (eLst (aCons (vw (eCall f__law_doubt @gPos (rV (eVar 2) rNil) rNil)) aNil))) (SE.ret (.int 2)))) aNil)))) (sSeq (sRet (Mv.mv (SE.ret (.bl false)))) sNil) sNil) (sSeq (sApp 8 (SE.ret .non)) sNil)))))))
def c__law_right_1 : SE MV :=
  (sLc (sRng (aCons (SE.ret (.int 8)) aNil)) (gN 3) sYes (vw (eCall (f__law_bent 5) @gPos (rP 1 (rV (eVar 2) rNil)) rNil)) [3])
def b__law_right_2 : SE Out :=
  (sSeq (sSet 10 (Mv.mv (vw (eCall f__law_is_journal @gPos (rV (eVar 9) rNil) rNil)))) (sSeq (sIf (eBool (eOp pNe (eCB (one pRepr) (aCons (vw (eLst (aCons (vw (eCall f_is_journal @gPos (rV (eVar 9) rNil) rNil)) (aCons (vw (eCall f_is_journal (fun {α} => gKw (α := α) [0]) rNil (rV (eVar 9) rNil))) aNil)))) aNil)) (eCB (one pRepr) (aCons (vw (eLst (aCons (eVar 10) (aCons (eVar 10) aNil)))) aNil)))) (sSeq (sRet (Mv.mv (SE.ret (.bl false)))) sNil) sNil) sNil))
def e__law_right : SE Out :=
  (sSeq (sSet 2 (Mv.mv (vw (eCall f_new_journal @gPos rNil rNil)))) (sSeq (sIf (eBool (eOp pNe (eVar 2) (eTup (aCons (SE.ret (.str [106, 111, 117, 114, 110, 97, 108])) (aCons (SE.ret (.int 0)) (aCons (eTup aNil) aNil)))))) (sSeq (sRet (Mv.mv (SE.ret (.bl false)))) sNil) sNil) (sSeq (sFor (sRng (aCons (SE.ret (.int 16)) aNil)) (gN 3) b__law_right_1) (sSeq (sFor (sIt (eOp pAdd (vw (eLst (aCons (eVar 2) (aCons (SE.ret .non) (aCons (eTup (aCons (SE.ret (.str [106, 111, 117, 114, 110, 97, 108])) (aCons (SE.ret (.int 0)) (aCons (eTup (aCons (eTup (aCons (SE.ret (.int 2)) (aCons (SE.ret (.str [])) (aCons (SE.ret (.int 1)) (aCons (SE.ret (.int 0)) (aCons (SE.ret (.bl true)) aNil)))))) aNil)) aNil)))) aNil))))) (vw c__law_right_1))) (gN 9) b__law_right_2) (sSeq (sRet (Mv.mv (eOp pEq (eCB (one pRepr) (aCons (vw (eCall f_in_doubt @gPos (rV (eVar 2) rNil) rNil)) aNil)) (eCB (one pRepr) (aCons (vw (eCall f__law_doubt @gPos (rV (eVar 2) rNil) rNil)) aNil))))) sNil)))))
def f__law_right : List MV → RF := runF 2 2 9 e__law_right
theorem r__law_right (a0 a1 : MV) : f__law_right [a0, a1] = fin 2 (e__law_right [some a0, some a1, none, none, none, none, none, none, none, none, none]) := runF_fin (np := 2) rfl
/- law(script): 0 script, 1 pot*, 2 late*, 3 turn -/
def c_law_1 : SE MV :=
  (sLc (sRng (aCons (SE.ret (.int 2)) aNil)) (gN 3) sYes (vw (eCall f__law_right @gPos (rP 1 (rP 2 rNil)) rNil)) [3])
def e_law : SE Out :=
  (sSeq (sPar [1, 2] (mCons (eCall f__law_pot @gPos (rV (eVar 0) (rV (SE.ret (.int 0)) rNil)) rNil) (mCons (eCall f__law_pot @gPos (rV (eVar 0) (rV (SE.ret (.int 1)) rNil)) rNil) mNil))) (sSeq (sRet (Mv.mv (eCB (one pAll) (aCons (vw c_law_1) aNil)))) sNil))
def f_law : List MV → RF := runF 0 1 3 e_law
theorem r_law (a0 : MV) : f_law [a0] = fin 0 (e_law [some a0, none, none, none]) := runF_fin (np := 1) rfl
end K78

set_option Elab.async false
set_option linter.all false
set_option maxRecDepth 100000
set_option maxHeartbeats 0
namespace K78
open PySem PySem.Spec PyProof.Rows L2 Mv
structure Fx (K : PySem.W.Frag) (mg : Str → Option Value) : Prop where
  d_is_integer : ∃ f fd, FunD K "is_integer" "is_integer" (defArgs s_is_integer) (defBody s_is_integer) (defScope s_is_integer) [] [] f fd ∧ mg "is_integer" = some (.ref f)
  d_is_between : ∃ f fd, FunD K "is_between" "is_between" (defArgs s_is_between) (defBody s_is_between) (defScope s_is_between) [] [] f fd ∧ mg "is_between" = some (.ref f)
  d_is_count : ∃ f fd, FunD K "is_count" "is_count" (defArgs s_is_count) (defBody s_is_count) (defScope s_is_count) [] [] f fd ∧ mg "is_count" = some (.ref f)
  d_are_signs : ∃ f fd, FunD K "are_signs" "are_signs" (defArgs s_are_signs) (defBody s_are_signs) (defScope s_are_signs) [] [] f fd ∧ mg "are_signs" = some (.ref f)
  d_is_body : ∃ f fd, FunD K "is_body" "is_body" (defArgs s_is_body) (defBody s_is_body) (defScope s_is_body) [] [] f fd ∧ mg "is_body" = some (.ref f)
  d_deed_is_right : ∃ f fd, FunD K "deed_is_right" "deed_is_right" (defArgs s_deed_is_right) (defBody s_deed_is_right) (defScope s_deed_is_right) [] [] f fd ∧ mg "deed_is_right" = some (.ref f)
  d_body_by : ∃ f fd, FunD K "body_by" "body_by" (defArgs s_body_by) (defBody s_body_by) (defScope s_body_by) [] [] f fd ∧ mg "body_by" = some (.ref f)
  d_is_numeral : ∃ f fd, FunD K "is_numeral" "is_numeral" (defArgs s_is_numeral) (defBody s_is_numeral) (defScope s_is_numeral) [] [] f fd ∧ mg "is_numeral" = some (.ref f)
  d_deed_by : ∃ f fd, FunD K "deed_by" "deed_by" (defArgs s_deed_by) (defBody s_deed_by) (defScope s_deed_by) [] [] f fd ∧ mg "deed_by" = some (.ref f)
  d_sheet_is_right : ∃ f fd, FunD K "sheet_is_right" "sheet_is_right" (defArgs s_sheet_is_right) (defBody s_sheet_is_right) (defScope s_sheet_is_right) [] [] f fd ∧ mg "sheet_is_right" = some (.ref f)
  d_journal_is_right : ∃ f fd, FunD K "journal_is_right" "journal_is_right" (defArgs s_journal_is_right) (defBody s_journal_is_right) (defScope s_journal_is_right) [] [] f fd ∧ mg "journal_is_right" = some (.ref f)
  d_word_by : ∃ f fd, FunD K "word_by" "word_by" (defArgs s_word_by) (defBody s_word_by) (defScope s_word_by) [] [] f fd ∧ mg "word_by" = some (.ref f)
  d_behind : ∃ f fd, FunD K "behind" "behind" (defArgs s_behind) (defBody s_behind) (defScope s_behind) [] [] f fd ∧ mg "behind" = some (.ref f)
  d_check_journal : ∃ f fd, FunD K "check_journal" "check_journal" (defArgs s_check_journal) (defBody s_check_journal) (defScope s_check_journal) [] [] f fd ∧ mg "check_journal" = some (.ref f)
  d_check_deed : ∃ f fd, FunD K "check_deed" "check_deed" (defArgs s_check_deed) (defBody s_check_deed) (defScope s_check_deed) [] [] f fd ∧ mg "check_deed" = some (.ref f)
  d_is_deed : ∃ f fd, FunD K "is_deed" "is_deed" (defArgs s_is_deed) (defBody s_is_deed) (defScope s_is_deed) [] [] f fd ∧ mg "is_deed" = some (.ref f)
  d_is_journal : ∃ f fd, FunD K "is_journal" "is_journal" (defArgs s_is_journal) (defBody s_is_journal) (defScope s_is_journal) [] [] f fd ∧ mg "is_journal" = some (.ref f)
  d_body_of : ∃ f fd, FunD K "body_of" "body_of" (defArgs s_body_of) (defBody s_body_of) (defScope s_body_of) [] [] f fd ∧ mg "body_of" = some (.ref f)
  d_deed_of : ∃ f fd, FunD K "deed_of" "deed_of" (defArgs s_deed_of) (defBody s_deed_of) (defScope s_deed_of) [] [] f fd ∧ mg "deed_of" = some (.ref f)
  d_new_journal : ∃ f fd, FunD K "new_journal" "new_journal" (defArgs s_new_journal) (defBody s_new_journal) (defScope s_new_journal) [] [] f fd ∧ mg "new_journal" = some (.ref f)
  d_wrong_word : ∃ f fd, FunD K "wrong_word" "wrong_word" (defArgs s_wrong_word) (defBody s_wrong_word) (defScope s_wrong_word) [] [] f fd ∧ mg "wrong_word" = some (.ref f)
  d_with_deed : ∃ f fd, FunD K "with_deed" "with_deed" (defArgs s_with_deed) (defBody s_with_deed) (defScope s_with_deed) [] [] f fd ∧ mg "with_deed" = some (.ref f)
  d_in_doubt : ∃ f fd, FunD K "in_doubt" "in_doubt" (defArgs s_in_doubt) (defBody s_in_doubt) (defScope s_in_doubt) [] [] f fd ∧ mg "in_doubt" = some (.ref f)
  d__law_pot : ∃ f fd, FunD K "_law_pot" "_law_pot" (defArgs s__law_pot) (defBody s__law_pot) (defScope s__law_pot) [] [] f fd ∧ mg "_law_pot" = some (.ref f)
  d__law_draw : ∃ f fd, FunD K "_law_draw" "_law_draw" (defArgs s__law_draw) (defBody s__law_draw) (defScope s__law_draw) [] [] f fd ∧ mg "_law_draw" = some (.ref f)
  d__law_pick : ∃ f fd, FunD K "_law_pick" "_law_pick" (defArgs s__law_pick) (defBody s__law_pick) (defScope s__law_pick) [] [] f fd ∧ mg "_law_pick" = some (.ref f)
  d__law_word : ∃ f fd, FunD K "_law_word" "_law_word" (defArgs s__law_word) (defBody s__law_word) (defScope s__law_word) [] [] f fd ∧ mg "_law_word" = some (.ref f)
  d__law_with : ∃ f fd, FunD K "_law_with" "_law_with" (defArgs s__law_with) (defBody s__law_with) (defScope s__law_with) [] [] f fd ∧ mg "_law_with" = some (.ref f)
  d__law_body_of : ∃ f fd, FunD K "_law_body_of" "_law_body_of" (defArgs s__law_body_of) (defBody s__law_body_of) (defScope s__law_body_of) [] [] f fd ∧ mg "_law_body_of" = some (.ref f)
  d__law_numeral : ∃ f fd, FunD K "_law_numeral" "_law_numeral" (defArgs s__law_numeral) (defBody s__law_numeral) (defScope s__law_numeral) [] [] f fd ∧ mg "_law_numeral" = some (.ref f)
  d__law_deed_of : ∃ f fd, FunD K "_law_deed_of" "_law_deed_of" (defArgs s__law_deed_of) (defBody s__law_deed_of) (defScope s__law_deed_of) [] [] f fd ∧ mg "_law_deed_of" = some (.ref f)
  d__law_deed : ∃ f fd, FunD K "_law_deed" "_law_deed" (defArgs s__law_deed) (defBody s__law_deed) (defScope s__law_deed) [] [] f fd ∧ mg "_law_deed" = some (.ref f)
  d__law_is_count : ∃ f fd, FunD K "_law_is_count" "_law_is_count" (defArgs s__law_is_count) (defBody s__law_is_count) (defScope s__law_is_count) [] [] f fd ∧ mg "_law_is_count" = some (.ref f)
  d__law_is_sheet : ∃ f fd, FunD K "_law_is_sheet" "_law_is_sheet" (defArgs s__law_is_sheet) (defBody s__law_is_sheet) (defScope s__law_is_sheet) [] [] f fd ∧ mg "_law_is_sheet" = some (.ref f)
  d__law_is_journal : ∃ f fd, FunD K "_law_is_journal" "_law_is_journal" (defArgs s__law_is_journal) (defBody s__law_is_journal) (defScope s__law_is_journal) [] [] f fd ∧ mg "_law_is_journal" = some (.ref f)
  d__law_bent : ∃ f fd, FunD K "_law_bent" "_law_bent" (defArgs s__law_bent) (defBody s__law_bent) (defScope s__law_bent) [] [] f fd ∧ mg "_law_bent" = some (.ref f)
  d__law_doubt : ∃ f fd, FunD K "_law_doubt" "_law_doubt" (defArgs s__law_doubt) (defBody s__law_doubt) (defScope s__law_doubt) [] [] f fd ∧ mg "_law_doubt" = some (.ref f)
  d__law_bodies_right : ∃ f fd, FunD K "_law_bodies_right" "_law_bodies_right" (defArgs s__law_bodies_right) (defBody s__law_bodies_right) (defScope s__law_bodies_right) [] [] f fd ∧ mg "_law_bodies_right" = some (.ref f)
  d__law_right : ∃ f fd, FunD K "_law_right" "_law_right" (defArgs s__law_right) (defBody s__law_right) (defScope s__law_right) [] [] f fd ∧ mg "_law_right" = some (.ref f)
  d_law : ∃ f fd, FunD K "law" "law" (defArgs s_law) (defBody s_law) (defScope s_law) [] [] f fd ∧ mg "law" = some (.ref f)
  c_FIGURES : ∃ t, mg "FIGURES" = some (.str "0123456789" t)
  c_MOST_BODY : ∃ t, mg "MOST_BODY" = some (.int 5000 t)
  c_MOST_ROWS : ∃ t, mg "MOST_ROWS" = some (.int 2000 t)
  c_MOST_NOTE : ∃ t, mg "MOST_NOTE" = some (.int 4000 t)
  c_MOST_NUMBER : ∃ t, mg "MOST_NUMBER" = some (.int 2000 t)
  k_NEW : Cst K mg "NEW" (.tup [(.str [106, 111, 117, 114, 110, 97, 108]), (.int 0), (.tup [])])
  b_abs : mg "abs" = none
  b_all : mg "all" = none
  b_bool : mg "bool" = none
  b_divmod : mg "divmod" = none
  b_enumerate : mg "enumerate" = none
  b_int : mg "int" = none
  b_isinstance : mg "isinstance" = none
  b_len : mg "len" = none
  b_list : mg "list" = none
  b_max : mg "max" = none
  b_range : mg "range" = none
  b_repr : mg "repr" = none
  b_str : mg "str" = none
  b_tuple : mg "tuple" = none
theorem sc_is_integer : FnScope ["value"] ["value"] (defScope s_is_integer) := ⟨rfl, rfl, rfl, by decide +kernel, rfl, by decide +kernel, by decide +kernel⟩
theorem nd_is_integer : List.Nodup (["value"] : List Str) := sc_is_integer.nd
theorem kb_is_integer {K : PySem.W.Frag} {f : Addr} {fd : FuncData} (D : FunD K "is_integer" "is_integer" (defArgs s_is_integer) (defBody s_is_integer) (defScope s_is_integer) [] [] f fd) : KB K fd ["value"] 1 [] @gPos := kb_pos D fun _ _ _ _ _ _ us hl => match us, hl with | [_], _ => rfl
theorem sc_are_signs : FnScope ["value", "sign"] ["value"] (defScope s_are_signs) := ⟨rfl, rfl, rfl, by decide +kernel, rfl, by decide +kernel, by decide +kernel⟩
theorem nd_are_signs : List.Nodup (["value", "sign"] : List Str) := sc_are_signs.nd
theorem kb_are_signs {K : PySem.W.Frag} {f : Addr} {fd : FuncData} (D : FunD K "are_signs" "are_signs" (defArgs s_are_signs) (defBody s_are_signs) (defScope s_are_signs) [] [] f fd) : KB K fd ["value"] 1 [] @gPos := kb_pos D fun _ _ _ _ _ _ us hl => match us, hl with | [_], _ => rfl
theorem sc_body_by : FnScope ["deed", "one"] ["deed"] (defScope s_body_by) := ⟨rfl, rfl, rfl, by decide +kernel, rfl, by decide +kernel, by decide +kernel⟩
theorem nd_body_by : List.Nodup (["deed", "one"] : List Str) := sc_body_by.nd
theorem kb_body_by {K : PySem.W.Frag} {f : Addr} {fd : FuncData} (D : FunD K "body_by" "body_by" (defArgs s_body_by) (defBody s_body_by) (defScope s_body_by) [] [] f fd) : KB K fd ["deed"] 1 [] @gPos := kb_pos D fun _ _ _ _ _ _ us hl => match us, hl with | [_], _ => rfl
theorem sc_is_numeral : FnScope ["word", "sign"] ["word"] (defScope s_is_numeral) := ⟨rfl, rfl, rfl, by decide +kernel, rfl, by decide +kernel, by decide +kernel⟩
theorem nd_is_numeral : List.Nodup (["word", "sign"] : List Str) := sc_is_numeral.nd
theorem kb_is_numeral {K : PySem.W.Frag} {f : Addr} {fd : FuncData} (D : FunD K "is_numeral" "is_numeral" (defArgs s_is_numeral) (defBody s_is_numeral) (defScope s_is_numeral) [] [] f fd) : KB K fd ["word"] 1 [] @gPos := kb_pos D fun _ _ _ _ _ _ us hl => match us, hl with | [_], _ => rfl
theorem sc_word_by : FnScope ["journal", "deed", "rows", "note", "asked", "done", "dropped"] ["journal", "deed"] (defScope s_word_by) := ⟨rfl, rfl, rfl, by decide +kernel, rfl, by decide +kernel, by decide +kernel⟩
theorem nd_word_by : List.Nodup (["journal", "deed", "rows", "note", "asked", "done", "dropped"] : List Str) := sc_word_by.nd
theorem kb_word_by {K : PySem.W.Frag} {f : Addr} {fd : FuncData} (D : FunD K "word_by" "word_by" (defArgs s_word_by) (defBody s_word_by) (defScope s_word_by) [] [] f fd) : KB K fd ["journal", "deed"] 2 [] @gPos := kb_pos D fun _ _ _ _ _ _ us hl => match us, hl with | [_, _], _ => rfl
theorem sc_behind : FnScope ["journal", "deed", "word", "epochs", "sheets", "rows", "note", "asked", "done", "dropped", "new"] ["journal", "deed"] (defScope s_behind) := ⟨rfl, rfl, rfl, by decide +kernel, rfl, by decide +kernel, by decide +kernel⟩
theorem nd_behind : List.Nodup (["journal", "deed", "word", "epochs", "sheets", "rows", "note", "asked", "done", "dropped", "new"] : List Str) := sc_behind.nd
theorem kb_behind {K : PySem.W.Frag} {f : Addr} {fd : FuncData} (D : FunD K "behind" "behind" (defArgs s_behind) (defBody s_behind) (defScope s_behind) [] [] f fd) : KB K fd ["journal", "deed"] 2 [] @gPos := kb_pos D fun _ _ _ _ _ _ us hl => match us, hl with | [_, _], _ => rfl
theorem sc_new_journal : FnScope [] [] (defScope s_new_journal) := ⟨rfl, rfl, rfl, by decide +kernel, rfl, by decide +kernel, by decide +kernel⟩
theorem nd_new_journal : List.Nodup ([] : List Str) := sc_new_journal.nd
theorem kb_new_journal {K : PySem.W.Frag} {f : Addr} {fd : FuncData} (D : FunD K "new_journal" "new_journal" (defArgs s_new_journal) (defBody s_new_journal) (defScope s_new_journal) [] [] f fd) : KB K fd [] 0 [] @gPos := kb_pos D fun _ _ _ _ _ _ us hl => match us, hl with | [], _ => rfl
theorem sc__law_pot : FnScope ["script", "k", "cell"] ["script", "k"] (defScope s__law_pot) := ⟨rfl, rfl, rfl, by decide +kernel, rfl, by decide +kernel, by decide +kernel⟩
theorem nd__law_pot : List.Nodup (["script", "k", "cell"] : List Str) := sc__law_pot.nd
theorem kb__law_pot {K : PySem.W.Frag} {f : Addr} {fd : FuncData} (D : FunD K "_law_pot" "_law_pot" (defArgs s__law_pot) (defBody s__law_pot) (defScope s__law_pot) [] [] f fd) : KB K fd ["script", "k"] 2 [] @gPos := kb_pos D fun _ _ _ _ _ _ us hl => match us, hl with | [_, _], _ => rfl
theorem sc__law_draw : FnScope ["pot", "many", "digit"] ["pot", "many"] (defScope s__law_draw) := ⟨rfl, rfl, rfl, by decide +kernel, rfl, by decide +kernel, by decide +kernel⟩
theorem nd__law_draw : List.Nodup (["pot", "many", "digit"] : List Str) := sc__law_draw.nd
theorem kb__law_draw {K : PySem.W.Frag} {f : Addr} {fd : FuncData} (D : FunD K "_law_draw" "_law_draw" (defArgs s__law_draw) (defBody s__law_draw) (defScope s__law_draw) [] [] f fd) : KB K fd ["pot", "many"] 2 [] @gPos := kb_pos D fun _ _ _ _ _ _ us hl => match us, hl with | [_, _], _ => rfl
theorem sc__law_word : FnScope ["journal", "deed", "word", "sheets", "rows", "note", "asked", "done", "dropped"] ["journal", "deed"] (defScope s__law_word) := ⟨rfl, rfl, rfl, by decide +kernel, rfl, by decide +kernel, by decide +kernel⟩
theorem nd__law_word : List.Nodup (["journal", "deed", "word", "sheets", "rows", "note", "asked", "done", "dropped"] : List Str) := sc__law_word.nd
theorem kb__law_word {K : PySem.W.Frag} {f : Addr} {fd : FuncData} (D : FunD K "_law_word" "_law_word" (defArgs s__law_word) (defBody s__law_word) (defScope s__law_word) [] [] f fd) : KB K fd ["journal", "deed"] 2 [] @gPos := kb_pos D fun _ _ _ _ _ _ us hl => match us, hl with | [_, _], _ => rfl
theorem sc__law_with : FnScope ["journal", "deed", "word", "epochs", "sheets", "at", "rows", "note", "asked", "done", "dropped", "one"] ["journal", "deed"] (defScope s__law_with) := ⟨rfl, rfl, rfl, by decide +kernel, rfl, by decide +kernel, by decide +kernel⟩
theorem nd__law_with : List.Nodup (["journal", "deed", "word", "epochs", "sheets", "at", "rows", "note", "asked", "done", "dropped", "one"] : List Str) := sc__law_with.nd
theorem kb__law_with {K : PySem.W.Frag} {f : Addr} {fd : FuncData} (D : FunD K "_law_with" "_law_with" (defArgs s__law_with) (defBody s__law_with) (defScope s__law_with) [] [] f fd) : KB K fd ["journal", "deed"] 2 [] @gPos := kb_pos D fun _ _ _ _ _ _ us hl => match us, hl with | [_, _], _ => rfl
theorem sc__law_body_of : FnScope ["deed", "one"] ["deed"] (defScope s__law_body_of) := ⟨rfl, rfl, rfl, by decide +kernel, rfl, by decide +kernel, by decide +kernel⟩
theorem nd__law_body_of : List.Nodup (["deed", "one"] : List Str) := sc__law_body_of.nd
theorem kb__law_body_of {K : PySem.W.Frag} {f : Addr} {fd : FuncData} (D : FunD K "_law_body_of" "_law_body_of" (defArgs s__law_body_of) (defBody s__law_body_of) (defScope s__law_body_of) [] [] f fd) : KB K fd ["deed"] 1 [] @gPos := kb_pos D fun _ _ _ _ _ _ us hl => match us, hl with | [_], _ => rfl
theorem sc__law_numeral : FnScope ["text", "right", "sign"] ["text"] (defScope s__law_numeral) := ⟨rfl, rfl, rfl, by decide +kernel, rfl, by decide +kernel, by decide +kernel⟩
theorem nd__law_numeral : List.Nodup (["text", "right", "sign"] : List Str) := sc__law_numeral.nd
theorem kb__law_numeral {K : PySem.W.Frag} {f : Addr} {fd : FuncData} (D : FunD K "_law_numeral" "_law_numeral" (defArgs s__law_numeral) (defBody s__law_numeral) (defScope s__law_numeral) [] [] f fd) : KB K fd ["text"] 1 [] @gPos := kb_pos D fun _ _ _ _ _ _ us hl => match us, hl with | [_], _ => rfl
theorem sc__law_is_count : FnScope ["value", "most"] ["value", "most"] (defScope s__law_is_count) := ⟨rfl, rfl, rfl, by decide +kernel, rfl, by decide +kernel, by decide +kernel⟩
theorem nd__law_is_count : List.Nodup (["value", "most"] : List Str) := sc__law_is_count.nd
theorem kb__law_is_count {K : PySem.W.Frag} {f : Addr} {fd : FuncData} (D : FunD K "_law_is_count" "_law_is_count" (defArgs s__law_is_count) (defBody s__law_is_count) (defScope s__law_is_count) [] [] f fd) : KB K fd ["value", "most"] 2 [] @gPos := kb_pos D fun _ _ _ _ _ _ us hl => match us, hl with | [_, _], _ => rfl
theorem sc__law_doubt : FnScope ["journal", "at", "one"] ["journal"] (defScope s__law_doubt) := ⟨rfl, rfl, rfl, by decide +kernel, rfl, by decide +kernel, by decide +kernel⟩
theorem nd__law_doubt : List.Nodup (["journal", "at", "one"] : List Str) := sc__law_doubt.nd
theorem kb__law_doubt {K : PySem.W.Frag} {f : Addr} {fd : FuncData} (D : FunD K "_law_doubt" "_law_doubt" (defArgs s__law_doubt) (defBody s__law_doubt) (defScope s__law_doubt) [] [] f fd) : KB K fd ["journal"] 1 [] @gPos := kb_pos D fun _ _ _ _ _ _ us hl => match us, hl with | [_], _ => rfl
theorem sc_is_between : FnScope ["value", "low", "high"] ["value", "low", "high"] (defScope s_is_between) := ⟨rfl, rfl, rfl, by decide +kernel, rfl, by decide +kernel, by decide +kernel⟩
theorem nd_is_between : List.Nodup (["value", "low", "high"] : List Str) := sc_is_between.nd
theorem kb_is_between {K : PySem.W.Frag} {f : Addr} {fd : FuncData} (D : FunD K "is_between" "is_between" (defArgs s_is_between) (defBody s_is_between) (defScope s_is_between) [] [] f fd) : KB K fd ["value", "low", "high"] 3 [] @gPos := kb_pos D fun _ _ _ _ _ _ us hl => match us, hl with | [_, _, _], _ => rfl
theorem sc_is_count : FnScope ["value"] ["value"] (defScope s_is_count) := ⟨rfl, rfl, rfl, by decide +kernel, rfl, by decide +kernel, by decide +kernel⟩
theorem nd_is_count : List.Nodup (["value"] : List Str) := sc_is_count.nd
theorem kb_is_count {K : PySem.W.Frag} {f : Addr} {fd : FuncData} (D : FunD K "is_count" "is_count" (defArgs s_is_count) (defBody s_is_count) (defScope s_is_count) [] [] f fd) : KB K fd ["value"] 1 [] @gPos := kb_pos D fun _ _ _ _ _ _ us hl => match us, hl with | [_], _ => rfl
theorem sc_is_body : FnScope ["value"] ["value"] (defScope s_is_body) := ⟨rfl, rfl, rfl, by decide +kernel, rfl, by decide +kernel, by decide +kernel⟩
theorem nd_is_body : List.Nodup (["value"] : List Str) := sc_is_body.nd
theorem kb_is_body {K : PySem.W.Frag} {f : Addr} {fd : FuncData} (D : FunD K "is_body" "is_body" (defArgs s_is_body) (defBody s_is_body) (defScope s_is_body) [] [] f fd) : KB K fd ["value"] 1 [] @gPos := kb_pos D fun _ _ _ _ _ _ us hl => match us, hl with | [_], _ => rfl
theorem sc__law_pick : FnScope ["pot", "some"] ["pot", "some"] (defScope s__law_pick) := ⟨rfl, rfl, rfl, by decide +kernel, rfl, by decide +kernel, by decide +kernel⟩
theorem nd__law_pick : List.Nodup (["pot", "some"] : List Str) := sc__law_pick.nd
theorem kb__law_pick {K : PySem.W.Frag} {f : Addr} {fd : FuncData} (D : FunD K "_law_pick" "_law_pick" (defArgs s__law_pick) (defBody s__law_pick) (defScope s__law_pick) [] [] f fd) : KB K fd ["pot", "some"] 2 [] @gPos := kb_pos D fun _ _ _ _ _ _ us hl => match us, hl with | [_, _], _ => rfl
theorem sc__law_deed_of : FnScope ["body", "parts", "rows", "note", "many", "numbers", "part"] ["body"] (defScope s__law_deed_of) := ⟨rfl, rfl, rfl, by decide +kernel, rfl, by decide +kernel, by decide +kernel⟩
theorem nd__law_deed_of : List.Nodup (["body", "parts", "rows", "note", "many", "numbers", "part"] : List Str) := sc__law_deed_of.nd
theorem kb__law_deed_of {K : PySem.W.Frag} {f : Addr} {fd : FuncData} (D : FunD K "_law_deed_of" "_law_deed_of" (defArgs s__law_deed_of) (defBody s__law_deed_of) (defScope s__law_deed_of) [] [] f fd) : KB K fd ["body"] 1 [] @gPos := kb_pos D fun _ _ _ _ _ _ us hl => match us, hl with | [_], _ => rfl
theorem sc__law_is_sheet : FnScope ["value"] ["value"] (defScope s__law_is_sheet) := ⟨rfl, rfl, rfl, by decide +kernel, rfl, by decide +kernel, by decide +kernel⟩
theorem nd__law_is_sheet : List.Nodup (["value"] : List Str) := sc__law_is_sheet.nd
theorem kb__law_is_sheet {K : PySem.W.Frag} {f : Addr} {fd : FuncData} (D : FunD K "_law_is_sheet" "_law_is_sheet" (defArgs s__law_is_sheet) (defBody s__law_is_sheet) (defScope s__law_is_sheet) [] [] f fd) : KB K fd ["value"] 1 [] @gPos := kb_pos D fun _ _ _ _ _ _ us hl => match us, hl with | [_], _ => rfl
theorem sc_deed_is_right : FnScope ["value", "word", "rest", "many", "one"] ["value"] (defScope s_deed_is_right) := ⟨rfl, rfl, rfl, by decide +kernel, rfl, by decide +kernel, by decide +kernel⟩
theorem nd_deed_is_right : List.Nodup (["value", "word", "rest", "many", "one"] : List Str) := sc_deed_is_right.nd
theorem kb_deed_is_right {K : PySem.W.Frag} {f : Addr} {fd : FuncData} (D : FunD K "deed_is_right" "deed_is_right" (defArgs s_deed_is_right) (defBody s_deed_is_right) (defScope s_deed_is_right) [] [] f fd) : KB K fd ["value"] 1 [] @gPos := kb_pos D fun _ _ _ _ _ _ us hl => match us, hl with | [_], _ => rfl
theorem sc__law_deed : FnScope ["pot", "journal", "sheets", "kind", "at", "row"] ["pot", "journal"] (defScope s__law_deed) := ⟨rfl, rfl, rfl, by decide +kernel, rfl, by decide +kernel, by decide +kernel⟩
theorem nd__law_deed : List.Nodup (["pot", "journal", "sheets", "kind", "at", "row"] : List Str) := sc__law_deed.nd
theorem kb__law_deed {K : PySem.W.Frag} {f : Addr} {fd : FuncData} (D : FunD K "_law_deed" "_law_deed" (defArgs s__law_deed) (defBody s__law_deed) (defScope s__law_deed) [] [] f fd) : KB K fd ["pot", "journal"] 2 [] @gPos := kb_pos D fun _ _ _ _ _ _ us hl => match us, hl with | [_, _], _ => rfl
theorem sc__law_is_journal : FnScope ["value", "one"] ["value"] (defScope s__law_is_journal) := ⟨rfl, rfl, rfl, by decide +kernel, rfl, by decide +kernel, by decide +kernel⟩
theorem nd__law_is_journal : List.Nodup (["value", "one"] : List Str) := sc__law_is_journal.nd
theorem kb__law_is_journal {K : PySem.W.Frag} {f : Addr} {fd : FuncData} (D : FunD K "_law_is_journal" "_law_is_journal" (defArgs s__law_is_journal) (defBody s__law_is_journal) (defScope s__law_is_journal) [] [] f fd) : KB K fd ["value"] 1 [] @gPos := kb_pos D fun _ _ _ _ _ _ us hl => match us, hl with | [_], _ => rfl
theorem sc_deed_by : FnScope ["body", "words", "numbers", "found", "word"] ["body"] (defScope s_deed_by) := ⟨rfl, rfl, rfl, by decide +kernel, rfl, by decide +kernel, by decide +kernel⟩
theorem nd_deed_by : List.Nodup (["body", "words", "numbers", "found", "word"] : List Str) := sc_deed_by.nd
theorem kb_deed_by {K : PySem.W.Frag} {f : Addr} {fd : FuncData} (D : FunD K "deed_by" "deed_by" (defArgs s_deed_by) (defBody s_deed_by) (defScope s_deed_by) [] [] f fd) : KB K fd ["body"] 1 [] @gPos := kb_pos D fun _ _ _ _ _ _ us hl => match us, hl with | [_], _ => rfl
theorem sc_sheet_is_right : FnScope ["value", "at", "rows", "note", "asked", "done", "dropped"] ["value", "at"] (defScope s_sheet_is_right) := ⟨rfl, rfl, rfl, by decide +kernel, rfl, by decide +kernel, by decide +kernel⟩
theorem nd_sheet_is_right : List.Nodup (["value", "at", "rows", "note", "asked", "done", "dropped"] : List Str) := sc_sheet_is_right.nd
theorem kb_sheet_is_right {K : PySem.W.Frag} {f : Addr} {fd : FuncData} (D : FunD K "sheet_is_right" "sheet_is_right" (defArgs s_sheet_is_right) (defBody s_sheet_is_right) (defScope s_sheet_is_right) [] [] f fd) : KB K fd ["value", "at"] 2 [] @gPos := kb_pos D fun _ _ _ _ _ _ us hl => match us, hl with | [_, _], _ => rfl
theorem sc_is_deed : FnScope ["value"] ["value"] (defScope s_is_deed) := ⟨rfl, rfl, rfl, by decide +kernel, rfl, by decide +kernel, by decide +kernel⟩
theorem nd_is_deed : List.Nodup (["value"] : List Str) := sc_is_deed.nd
theorem kb_is_deed {K : PySem.W.Frag} {f : Addr} {fd : FuncData} (D : FunD K "is_deed" "is_deed" (defArgs s_is_deed) (defBody s_is_deed) (defScope s_is_deed) [] [] f fd) : KB K fd ["value"] 1 [] @gPos := kb_pos D fun _ _ _ _ _ _ us hl => match us, hl with | [_], _ => rfl
theorem sc_body_of : FnScope ["deed"] ["deed"] (defScope s_body_of) := ⟨rfl, rfl, rfl, by decide +kernel, rfl, by decide +kernel, by decide +kernel⟩
theorem nd_body_of : List.Nodup (["deed"] : List Str) := sc_body_of.nd
theorem kb_body_of {K : PySem.W.Frag} {f : Addr} {fd : FuncData} (D : FunD K "body_of" "body_of" (defArgs s_body_of) (defBody s_body_of) (defScope s_body_of) [] [] f fd) : KB K fd ["deed"] 1 [] @gPos := kb_pos D fun _ _ _ _ _ _ us hl => match us, hl with | [_], _ => rfl
theorem sc_journal_is_right : FnScope ["value", "at", "one"] ["value"] (defScope s_journal_is_right) := ⟨rfl, rfl, rfl, by decide +kernel, rfl, by decide +kernel, by decide +kernel⟩
theorem nd_journal_is_right : List.Nodup (["value", "at", "one"] : List Str) := sc_journal_is_right.nd
theorem kb_journal_is_right {K : PySem.W.Frag} {f : Addr} {fd : FuncData} (D : FunD K "journal_is_right" "journal_is_right" (defArgs s_journal_is_right) (defBody s_journal_is_right) (defScope s_journal_is_right) [] [] f fd) : KB K fd ["value"] 1 [] @gPos := kb_pos D fun _ _ _ _ _ _ us hl => match us, hl with | [_], _ => rfl
theorem sc_deed_of : FnScope ["body"] ["body"] (defScope s_deed_of) := ⟨rfl, rfl, rfl, by decide +kernel, rfl, by decide +kernel, by decide +kernel⟩
theorem nd_deed_of : List.Nodup (["body"] : List Str) := sc_deed_of.nd
theorem kb_deed_of {K : PySem.W.Frag} {f : Addr} {fd : FuncData} (D : FunD K "deed_of" "deed_of" (defArgs s_deed_of) (defBody s_deed_of) (defScope s_deed_of) [] [] f fd) : KB K fd ["body"] 1 [] @gPos := kb_pos D fun _ _ _ _ _ _ us hl => match us, hl with | [_], _ => rfl
theorem sc_check_journal : FnScope ["journal"] ["journal"] (defScope s_check_journal) := ⟨rfl, rfl, rfl, by decide +kernel, rfl, by decide +kernel, by decide +kernel⟩
theorem nd_check_journal : List.Nodup (["journal"] : List Str) := sc_check_journal.nd
theorem kb_check_journal {K : PySem.W.Frag} {f : Addr} {fd : FuncData} (D : FunD K "check_journal" "check_journal" (defArgs s_check_journal) (defBody s_check_journal) (defScope s_check_journal) [] [] f fd) : KB K fd ["journal"] 1 [] @gPos := kb_pos D fun _ _ _ _ _ _ us hl => match us, hl with | [_], _ => rfl
theorem sc_is_journal : FnScope ["value"] ["value"] (defScope s_is_journal) := ⟨rfl, rfl, rfl, by decide +kernel, rfl, by decide +kernel, by decide +kernel⟩
theorem nd_is_journal : List.Nodup (["value"] : List Str) := sc_is_journal.nd
theorem kb_is_journal {K : PySem.W.Frag} {f : Addr} {fd : FuncData} (D : FunD K "is_journal" "is_journal" (defArgs s_is_journal) (defBody s_is_journal) (defScope s_is_journal) [] [] f fd) : KB K fd ["value"] 1 [] @gPos := kb_pos D fun _ _ _ _ _ _ us hl => match us, hl with | [_], _ => rfl
theorem sc__law_bodies_right : FnScope ["pot", "deed", "body", "at", "some", "other", "one"] ["pot", "deed"] (defScope s__law_bodies_right) := ⟨rfl, rfl, rfl, by decide +kernel, rfl, by decide +kernel, by decide +kernel⟩
theorem nd__law_bodies_right : List.Nodup (["pot", "deed", "body", "at", "some", "other", "one"] : List Str) := sc__law_bodies_right.nd
theorem kb__law_bodies_right {K : PySem.W.Frag} {f : Addr} {fd : FuncData} (D : FunD K "_law_bodies_right" "_law_bodies_right" (defArgs s__law_bodies_right) (defBody s__law_bodies_right) (defScope s__law_bodies_right) [] [] f fd) : KB K fd ["pot", "deed"] 2 [] @gPos := kb_pos D fun _ _ _ _ _ _ us hl => match us, hl with | [_, _], _ => rfl
theorem sc_check_deed : FnScope ["journal", "deed"] ["journal", "deed"] (defScope s_check_deed) := ⟨rfl, rfl, rfl, by decide +kernel, rfl, by decide +kernel, by decide +kernel⟩
theorem nd_check_deed : List.Nodup (["journal", "deed"] : List Str) := sc_check_deed.nd
theorem kb_check_deed {K : PySem.W.Frag} {f : Addr} {fd : FuncData} (D : FunD K "check_deed" "check_deed" (defArgs s_check_deed) (defBody s_check_deed) (defScope s_check_deed) [] [] f fd) : KB K fd ["journal", "deed"] 2 [] @gPos := kb_pos D fun _ _ _ _ _ _ us hl => match us, hl with | [_, _], _ => rfl
theorem sc_in_doubt : FnScope ["journal", "at", "one"] ["journal"] (defScope s_in_doubt) := ⟨rfl, rfl, rfl, by decide +kernel, rfl, by decide +kernel, by decide +kernel⟩
theorem nd_in_doubt : List.Nodup (["journal", "at", "one"] : List Str) := sc_in_doubt.nd
theorem kb_in_doubt {K : PySem.W.Frag} {f : Addr} {fd : FuncData} (D : FunD K "in_doubt" "in_doubt" (defArgs s_in_doubt) (defBody s_in_doubt) (defScope s_in_doubt) [] [] f fd) : KB K fd ["journal"] 1 [] @gPos := kb_pos D fun _ _ _ _ _ _ us hl => match us, hl with | [_], _ => rfl
theorem sc__law_bent : FnScope ["pot", "value", "at"] ["pot", "value"] (defScope s__law_bent) := ⟨rfl, rfl, rfl, by decide +kernel, rfl, by decide +kernel, by decide +kernel⟩
theorem nd__law_bent : List.Nodup (["pot", "value", "at"] : List Str) := sc__law_bent.nd
theorem kb__law_bent {K : PySem.W.Frag} {f : Addr} {fd : FuncData} (D : FunD K "_law_bent" "_law_bent" (defArgs s__law_bent) (defBody s__law_bent) (defScope s__law_bent) [] [] f fd) : KB K fd ["pot", "value"] 2 [] @gPos := kb_pos D fun _ _ _ _ _ _ us hl => match us, hl with | [_, _], _ => rfl
theorem sc_wrong_word : FnScope ["journal", "deed"] ["journal", "deed"] (defScope s_wrong_word) := ⟨rfl, rfl, rfl, by decide +kernel, rfl, by decide +kernel, by decide +kernel⟩
theorem nd_wrong_word : List.Nodup (["journal", "deed"] : List Str) := sc_wrong_word.nd
theorem kb_wrong_word {K : PySem.W.Frag} {f : Addr} {fd : FuncData} (D : FunD K "wrong_word" "wrong_word" (defArgs s_wrong_word) (defBody s_wrong_word) (defScope s_wrong_word) [] [] f fd) : KB K fd ["journal", "deed"] 2 [] @gPos := kb_pos D fun _ _ _ _ _ _ us hl => match us, hl with | [_, _], _ => rfl
theorem sc_with_deed : FnScope ["journal", "deed", "word"] ["journal", "deed"] (defScope s_with_deed) := ⟨rfl, rfl, rfl, by decide +kernel, rfl, by decide +kernel, by decide +kernel⟩
theorem nd_with_deed : List.Nodup (["journal", "deed", "word"] : List Str) := sc_with_deed.nd
theorem kb_with_deed {K : PySem.W.Frag} {f : Addr} {fd : FuncData} (D : FunD K "with_deed" "with_deed" (defArgs s_with_deed) (defBody s_with_deed) (defScope s_with_deed) [] [] f fd) : KB K fd ["journal", "deed"] 2 [] @gPos := kb_pos D fun _ _ _ _ _ _ us hl => match us, hl with | [_, _], _ => rfl
theorem sc__law_right : FnScope ["pot", "late", "journal", "turn", "deed", "shown", "word", "due", "told", "value", "flag"] ["pot", "late"] (defScope s__law_right) := ⟨rfl, rfl, rfl, by decide +kernel, rfl, by decide +kernel, by decide +kernel⟩
theorem nd__law_right : List.Nodup (["pot", "late", "journal", "turn", "deed", "shown", "word", "due", "told", "value", "flag"] : List Str) := sc__law_right.nd
theorem kb__law_right {K : PySem.W.Frag} {f : Addr} {fd : FuncData} (D : FunD K "_law_right" "_law_right" (defArgs s__law_right) (defBody s__law_right) (defScope s__law_right) [] [] f fd) : KB K fd ["pot", "late"] 2 [] @gPos := kb_pos D fun _ _ _ _ _ _ us hl => match us, hl with | [_, _], _ => rfl
theorem sc_law : FnScope ["script", "pot", "late", "turn"] ["script"] (defScope s_law) := ⟨rfl, rfl, rfl, by decide +kernel, rfl, by decide +kernel, by decide +kernel⟩
theorem nd_law : List.Nodup (["script", "pot", "late", "turn"] : List Str) := sc_law.nd
theorem kb_law {K : PySem.W.Frag} {f : Addr} {fd : FuncData} (D : FunD K "law" "law" (defArgs s_law) (defBody s_law) (defScope s_law) [] [] f fd) : KB K fd ["script"] 1 [] @gPos := kb_pos D fun _ _ _ _ _ _ us hl => match us, hl with | [_], _ => rfl
theorem kbk0_body_of {K : PySem.W.Frag} {f : Addr} {fd : FuncData} (D : FunD K "body_of" "body_of" (defArgs s_body_of) (defBody s_body_of) (defScope s_body_of) [] [] f fd) : KB K fd ["deed"] 0 ["deed"] (fun {α} => gKw (α := α) [0]) := kb_kw [0] D fun _ _ _ _ _ _ us ws h1 h2 => match us, ws, h1, h2 with | [], [_], _, _ => rfl
theorem lk_kbk0_body_of (as bs : List V) (h1 : as.length = 0) (h2 : bs.length = 1) : (gKw [0] as bs).length = 1 := match as, bs, h1, h2 with | [], [_], _, _ => rfl
theorem kbk1_deed_of {K : PySem.W.Frag} {f : Addr} {fd : FuncData} (D : FunD K "deed_of" "deed_of" (defArgs s_deed_of) (defBody s_deed_of) (defScope s_deed_of) [] [] f fd) : KB K fd ["body"] 0 ["body"] (fun {α} => gKw (α := α) [0]) := kb_kw [0] D fun _ _ _ _ _ _ us ws h1 h2 => match us, ws, h1, h2 with | [], [_], _, _ => rfl
theorem lk_kbk1_deed_of (as bs : List V) (h1 : as.length = 0) (h2 : bs.length = 1) : (gKw [0] as bs).length = 1 := match as, bs, h1, h2 with | [], [_], _, _ => rfl
theorem kbk2_wrong_word {K : PySem.W.Frag} {f : Addr} {fd : FuncData} (D : FunD K "wrong_word" "wrong_word" (defArgs s_wrong_word) (defBody s_wrong_word) (defScope s_wrong_word) [] [] f fd) : KB K fd ["journal", "deed"] 0 ["deed", "journal"] (fun {α} => gKw (α := α) [1, 0]) := kb_kw [1, 0] D fun _ _ _ _ _ _ us ws h1 h2 => match us, ws, h1, h2 with | [], [_, _], _, _ => rfl
theorem lk_kbk2_wrong_word (as bs : List V) (h1 : as.length = 0) (h2 : bs.length = 2) : (gKw [1, 0] as bs).length = 2 := match as, bs, h1, h2 with | [], [_, _], _, _ => rfl
theorem kbk3_with_deed {K : PySem.W.Frag} {f : Addr} {fd : FuncData} (D : FunD K "with_deed" "with_deed" (defArgs s_with_deed) (defBody s_with_deed) (defScope s_with_deed) [] [] f fd) : KB K fd ["journal", "deed"] 0 ["deed", "journal"] (fun {α} => gKw (α := α) [1, 0]) := kb_kw [1, 0] D fun _ _ _ _ _ _ us ws h1 h2 => match us, ws, h1, h2 with | [], [_, _], _, _ => rfl
theorem lk_kbk3_with_deed (as bs : List V) (h1 : as.length = 0) (h2 : bs.length = 2) : (gKw [1, 0] as bs).length = 2 := match as, bs, h1, h2 with | [], [_, _], _, _ => rfl
theorem kbk4_in_doubt {K : PySem.W.Frag} {f : Addr} {fd : FuncData} (D : FunD K "in_doubt" "in_doubt" (defArgs s_in_doubt) (defBody s_in_doubt) (defScope s_in_doubt) [] [] f fd) : KB K fd ["journal"] 0 ["journal"] (fun {α} => gKw (α := α) [0]) := kb_kw [0] D fun _ _ _ _ _ _ us ws h1 h2 => match us, ws, h1, h2 with | [], [_], _, _ => rfl
theorem lk_kbk4_in_doubt (as bs : List V) (h1 : as.length = 0) (h2 : bs.length = 1) : (gKw [0] as bs).length = 1 := match as, bs, h1, h2 with | [], [_], _, _ => rfl
theorem kbk5_is_journal {K : PySem.W.Frag} {f : Addr} {fd : FuncData} (D : FunD K "is_journal" "is_journal" (defArgs s_is_journal) (defBody s_is_journal) (defScope s_is_journal) [] [] f fd) : KB K fd ["value"] 0 ["value"] (fun {α} => gKw (α := α) [0]) := kb_kw [0] D fun _ _ _ _ _ _ us ws h1 h2 => match us, ws, h1, h2 with | [], [_], _, _ => rfl
theorem lk_kbk5_is_journal (as bs : List V) (h1 : as.length = 0) (h2 : bs.length = 1) : (gKw [0] as bs).length = 1 := match as, bs, h1, h2 with | [], [_], _, _ => rfl
theorem g_is_integer {P : Program} {w : World} {base : Heap} {K : PySem.W.Frag} {mg : Str → Option Value} (E : Fx K mg) : Callee P w base K mg "is_integer" s_is_integer ["value"] 0 1 1 f_is_integer := by
  obtain ⟨f, fd, D, hm⟩ := E.d_is_integer
  refine ⟨f, fd, D, hm, ?_⟩
  refine fn_ok 0 1 0 e_is_integer D sc_is_integer rfl rfl (by decide) fun cdv A outer sh H Ex hg hr tk => ?_
  have hrx : ∃ k, Room k (A.deeper (envOfC "is_integer" (defScope s_is_integer) sh.heap.objs.size f cdv)) := ⟨_, hr⟩
  exact ⟨_, (qss_cons (qs_ret (QE.mv (qe_and (ke_isi (K := K) E.b_isinstance (qa_cons (qe_var 0) (qa_cons (qe_cls E.b_int PyProof.Rows.boot_int) qa_nil))) (qe_one (qe_not (ke_isi (K := K) E.b_isinstance (qa_cons (qe_var 0) (qa_cons (qe_cls E.b_bool (by decide +kernel)) qa_nil)))))))) qss_nil)⟩
theorem g_are_signs {P : Program} {w : World} {base : Heap} {K : PySem.W.Frag} {mg : Str → Option Value} (E : Fx K mg) : Callee P w base K mg "are_signs" s_are_signs ["value"] 0 1 1 f_are_signs := by
  obtain ⟨f, fd, D, hm⟩ := E.d_are_signs
  refine ⟨f, fd, D, hm, ?_⟩
  refine fn_ok 0 1 1 e_are_signs D sc_are_signs rfl rfl (by decide) fun cdv A outer sh H Ex hg hr tk => ?_
  have hrx : ∃ k, Room k (A.deeper (envOfC "are_signs" (defScope s_are_signs) sh.heap.objs.size f cdv)) := ⟨_, hr⟩
  exact ⟨_, (qss_cons (qs_ret (QE.mv (qe_and (ke_isi (K := K) E.b_isinstance (qa_cons (qe_var 0) (qa_cons (qe_cls E.b_str PyProof.Rows.boot_str) qa_nil))) (qe_one (ke_all (K := K) E.b_all (qa_cons (QM.vw (qm_lc (own := [("sign", 1)]) rfl nd_are_signs (ki_any (K := K) (qe_var 0)) rfl (fun _ _ _ _ _ => (qg_name nd_are_signs rfl (by first | exact Or.inl rfl | exact Or.inr rfl))) (fun _ _ _ _ _ => qts_nil) (fun _ _ _ _ _ => (qe_or (qe_cmp (kq_eq (K := K) hrx) (qe_var 1) (qe_str [10])) (qe_one (qe_chain cq_le cq_le (qe_str [32]) (qe_var 1) (qe_str [126]))))))) qa_nil)))))) qss_nil)⟩
theorem g_body_by {P : Program} {w : World} {base : Heap} {K : PySem.W.Frag} {mg : Str → Option Value} (E : Fx K mg) : Callee P w base K mg "body_by" s_body_by ["deed"] 0 1 1 f_body_by := by
  obtain ⟨f, fd, D, hm⟩ := E.d_body_by
  refine ⟨f, fd, D, hm, ?_⟩
  refine fn_ok 0 1 1 e_body_by D sc_body_by rfl rfl (by decide) fun cdv A outer sh H Ex hg hr tk => ?_
  have hrx : ∃ k, Room k (A.deeper (envOfC "body_by" (defScope s_body_by) sh.heap.objs.size f cdv)) := ⟨_, hr⟩
  exact ⟨_, (qss_cons (qs_ret (QE.mv (ke_join (K := K) (qe_str [32]) (QM.vw (qm_lc (own := [("one", 1)]) rfl nd_body_by (ki_any (K := K) (qe_var 0)) rfl (fun _ _ _ _ _ => (qg_name nd_body_by rfl (by first | exact Or.inl rfl | exact Or.inr rfl))) (fun _ _ _ _ _ => qts_nil) (fun _ _ _ _ _ => (qe_if (kt_tru (K := K) (ke_isi (K := K) E.b_isinstance (qa_cons (qe_var 1) (qa_cons (qe_cls E.b_str PyProof.Rows.boot_str) qa_nil)))) (qe_var 1) (qe_str2 E.b_str (qa_cons (qe_var 1) qa_nil))))))))) qss_nil)⟩
theorem g_is_numeral {P : Program} {w : World} {base : Heap} {K : PySem.W.Frag} {mg : Str → Option Value} (E : Fx K mg) : Callee P w base K mg "is_numeral" s_is_numeral ["word"] 0 1 1 f_is_numeral := by
  obtain ⟨f, fd, D, hm⟩ := E.d_is_numeral
  refine ⟨f, fd, D, hm, ?_⟩
  refine fn_ok 0 1 1 e_is_numeral D sc_is_numeral rfl rfl (by decide) fun cdv A outer sh H Ex hg hr tk => ?_
  have hrx : ∃ k, Room k (A.deeper (envOfC "is_numeral" (defScope s_is_numeral) sh.heap.objs.size f cdv)) := ⟨_, hr⟩
  exact ⟨_, (qss_cons (qs_if (QW.qt (qw_or (qt_not (qt_chain cq_le cq_le qe_int (ke_len (K := K) E.b_len (qa_cons (qe_var 0) qa_nil)) qe_int)) (qw_or1 (qt_not (kt_tru (K := K) (ke_all (K := K) E.b_all (qa_cons (QM.vw (qm_lc (own := [("sign", 1)]) rfl nd_is_numeral (ki_any (K := K) (qe_var 0)) rfl (fun _ _ _ _ _ => (qg_name nd_is_numeral rfl (by first | exact Or.inl rfl | exact Or.inr rfl))) (fun _ _ _ _ _ => qts_nil) (fun _ _ _ _ _ => (qe_cmp (kq_in (K := K) hrx) (qe_var 1) (qe_glS [48, 49, 50, 51, 52, 53, 54, 55, 56, 57] E.c_FIGURES))))) qa_nil))))))) (qss_cons (qs_ret (QE.mv qe_bl)) qss_nil) qss_nil) (qss_cons (qs_ret (QE.mv (qe_or (qe_cmp (kq_eq (K := K) hrx) (ke_len (K := K) E.b_len (qa_cons (qe_var 0) qa_nil)) qe_int) (qe_one (qe_cmp (kq_ne (K := K) hrx) (ke_ix (K := K) (qe_var 0) qe_int) (qe_str [48])))))) qss_nil))⟩
theorem g_word_by {P : Program} {w : World} {base : Heap} {K : PySem.W.Frag} {mg : Str → Option Value} (E : Fx K mg) : Callee P w base K mg "word_by" s_word_by ["journal", "deed"] 0 2 1 f_word_by := by
  obtain ⟨f, fd, D, hm⟩ := E.d_word_by
  refine ⟨f, fd, D, hm, ?_⟩
  refine fn_ok 0 2 5 e_word_by D sc_word_by rfl rfl (by decide) fun cdv A outer sh H Ex hg hr tk => ?_
  have hrx : ∃ k, Room k (A.deeper (envOfC "word_by" (defScope s_word_by) sh.heap.objs.size f cdv)) := ⟨_, hr⟩
  exact ⟨_, (qss_cons (qs_if (qt_cmp (kq_in (K := K) hrx) (ke_ix (K := K) (qe_var 1) qe_int) (qe_tup (qa_cons (qe_str [115, 104, 101, 101, 116]) (qa_cons (qe_str [101, 112, 111, 99, 104]) qa_nil)))) (qss_cons (qs_ret (QE.mv qe_non)) qss_nil) qss_nil) (qss_cons (qs_if (qt_cmp cq_ge (ke_ix (K := K) (qe_var 1) qe_int) (ke_len (K := K) E.b_len (qa_cons (ke_ix (K := K) (qe_var 0) qe_int) qa_nil))) (qss_cons (qs_ret (QE.mv (qe_str [115, 104, 101, 101, 116]))) qss_nil) qss_nil) (qss_cons (qs_asg (ke_ix (K := K) (ke_ix (K := K) (qe_var 0) qe_int) (ke_ix (K := K) (qe_var 1) qe_int)) (kg_tup (K := K) rfl (qgs_cons (qg_name nd_word_by rfl (Or.inl rfl)) (qgs_cons (qg_name nd_word_by rfl (Or.inl rfl)) (qgs_cons (qg_name nd_word_by rfl (Or.inl rfl)) (qgs_cons (qg_name nd_word_by rfl (Or.inl rfl)) (qgs_cons (qg_name nd_word_by rfl (Or.inl rfl)) qgs_nil))))))) (qss_cons (qs_if (kt_tru (K := K) (qe_var 6)) (qss_cons (qs_ret (QE.mv (qe_str [100, 114, 111, 112, 112, 101, 100]))) qss_nil) qss_nil) (qss_cons (qs_if (qt_cmp (kq_eq (K := K) hrx) (ke_ix (K := K) (qe_var 1) qe_int) (qe_str [97, 115, 107])) (qss_cons (qs_ret (QE.mv (qe_if (qt_cmp (kq_eq (K := K) hrx) (qe_var 5) (qe_var 2)) (qe_str [119, 104, 111, 108, 101]) (qe_if (qt_cmp cq_gt (qe_var 4) (qe_var 5)) (qe_str [100, 111, 117, 98, 116]) (qe_if (qt_cmp (kq_ne (K := K) hrx) (ke_ix (K := K) (qe_var 1) qe_int) (qe_var 5)) (qe_str [114, 111, 119]) qe_non))))) qss_nil) qss_nil) (qss_cons (qs_if (qt_cmp (kq_eq (K := K) hrx) (ke_ix (K := K) (qe_var 1) qe_int) (qe_str [100, 111, 110, 101])) (qss_cons (qs_ret (QE.mv (qe_if (qt_cmp (kq_eq (K := K) hrx) (qe_var 4) (qe_var 5)) (qe_str [105, 100, 108, 101]) (qe_if (qt_cmp (kq_ne (K := K) hrx) (ke_ix (K := K) (qe_var 1) qe_int) (qe_var 5)) (qe_str [114, 111, 119]) qe_non)))) qss_nil) qss_nil) (qss_cons (qs_ret (QE.mv qe_non)) qss_nil)))))))⟩
theorem g_behind {P : Program} {w : World} {base : Heap} {K : PySem.W.Frag} {mg : Str → Option Value} (E : Fx K mg) : Callee P w base K mg "behind" s_behind ["journal", "deed"] 0 2 1 f_behind := by
  obtain ⟨f, fd, D, hm⟩ := E.d_behind
  refine ⟨f, fd, D, hm, ?_⟩
  refine fn_ok 0 2 9 e_behind D sc_behind rfl rfl (by decide) fun cdv A outer sh H Ex hg hr tk => ?_
  have hrx : ∃ k, Room k (A.deeper (envOfC "behind" (defScope s_behind) sh.heap.objs.size f cdv)) := ⟨_, hr⟩
  exact ⟨_, (qss_cons (qs_asg (qe_var 0) (kg_tup (K := K) rfl (qgs_cons (qg_name nd_behind rfl (Or.inl rfl)) (qgs_cons (qg_name nd_behind rfl (Or.inl rfl)) (qgs_cons (qg_name nd_behind rfl (Or.inl rfl)) qgs_nil))))) (qss_cons (qs_if (qt_cmp (kq_eq (K := K) hrx) (ke_ix (K := K) (qe_var 1) qe_int) (qe_str [101, 112, 111, 99, 104])) (qss_cons (qs_ret (QE.mv (qe_tup (qa_cons (qe_var 2) (qa_cons (ke_add (K := K) (qe_var 3) qe_int) (qa_cons (qe_var 4) qa_nil)))))) qss_nil) qss_nil) (qss_cons (qs_if (qt_cmp (kq_eq (K := K) hrx) (ke_ix (K := K) (qe_var 1) qe_int) (qe_str [115, 104, 101, 101, 116])) (qss_cons (qs_ret (QE.mv (qe_tup (qa_cons (qe_var 2) (qa_cons (qe_var 3) (qa_cons (ke_add (K := K) (qe_var 4) (qe_tup (qa_cons (ke_add (K := K) (ke_sl (K := K) (qe_var 1) (qo_some qe_int) qo_none) (qe_tup (qa_cons qe_int (qa_cons qe_int (qa_cons qe_bl qa_nil))))) qa_nil))) qa_nil)))))) qss_nil) qss_nil) (qss_cons (qs_asg (ke_ix (K := K) (qe_var 4) (ke_ix (K := K) (qe_var 1) qe_int)) (kg_tup (K := K) rfl (qgs_cons (qg_name nd_behind rfl (Or.inl rfl)) (qgs_cons (qg_name nd_behind rfl (Or.inl rfl)) (qgs_cons (qg_name nd_behind rfl (Or.inl rfl)) (qgs_cons (qg_name nd_behind rfl (Or.inl rfl)) (qgs_cons (qg_name nd_behind rfl (Or.inl rfl)) qgs_nil))))))) (qss_cons (qs_if (qt_cmp (kq_eq (K := K) hrx) (ke_ix (K := K) (qe_var 1) qe_int) (qe_str [97, 115, 107])) (qss_cons (qs_set (by decide) nd_behind rfl (Or.inl rfl) (QE.mv (qe_tup (qa_cons (qe_var 5) (qa_cons (qe_var 6) (qa_cons (ke_add (K := K) (qe_var 7) qe_int) (qa_cons (qe_var 8) (qa_cons (qe_var 9) qa_nil)))))))) qss_nil) (qss_cons (qs_if (qt_cmp (kq_eq (K := K) hrx) (ke_ix (K := K) (qe_var 1) qe_int) (qe_str [100, 111, 110, 101])) (qss_cons (qs_set (by decide) nd_behind rfl (Or.inl rfl) (QE.mv (qe_tup (qa_cons (qe_var 5) (qa_cons (qe_var 6) (qa_cons (qe_var 7) (qa_cons (ke_add (K := K) (qe_var 8) qe_int) (qa_cons (qe_var 9) qa_nil)))))))) qss_nil) (qss_cons (qs_set (by decide) nd_behind rfl (Or.inl rfl) (QE.mv (qe_tup (qa_cons (qe_var 5) (qa_cons (qe_var 6) (qa_cons (qe_var 7) (qa_cons (qe_var 8) (qa_cons qe_bl qa_nil)))))))) qss_nil)) qss_nil)) (qss_cons (qs_ret (QE.mv (qe_tup (qa_cons (qe_var 2) (qa_cons (qe_var 3) (qa_cons (ke_add (K := K) (ke_add (K := K) (ke_sl (K := K) (qe_var 4) qo_none (qo_some (ke_ix (K := K) (qe_var 1) qe_int))) (qe_tup (qa_cons (qe_var 10) qa_nil))) (ke_sl (K := K) (qe_var 4) (qo_some (ke_add (K := K) (ke_ix (K := K) (qe_var 1) qe_int) qe_int)) qo_none)) qa_nil)))))) qss_nil))))))⟩
theorem g_new_journal {P : Program} {w : World} {base : Heap} {K : PySem.W.Frag} {mg : Str → Option Value} (E : Fx K mg) : Callee P w base K mg "new_journal" s_new_journal [] 0 0 1 f_new_journal := by
  obtain ⟨f, fd, D, hm⟩ := E.d_new_journal
  obtain ⟨_, _, m_NEW, r_NEW, p_NEW⟩ := E.k_NEW
  refine ⟨f, fd, D, hm, ?_⟩
  refine fn_ok 0 0 0 e_new_journal D sc_new_journal rfl rfl (by decide) fun cdv A outer sh H Ex hg hr tk => ?_
  have hrx : ∃ k, Room k (A.deeper (envOfC "new_journal" (defScope s_new_journal) sh.heap.objs.size f cdv)) := ⟨_, hr⟩
  exact ⟨_, (qss_cons (qs_ret (QE.mv (qe_cst m_NEW r_NEW p_NEW))) qss_nil)⟩
theorem g__law_pot {P : Program} {w : World} {base : Heap} {K : PySem.W.Frag} {mg : Str → Option Value} (E : Fx K mg) : Callee P w base K mg "_law_pot" s__law_pot ["script", "k"] 0 2 1 f__law_pot := by
  obtain ⟨f, fd, D, hm⟩ := E.d__law_pot
  refine ⟨f, fd, D, hm, ?_⟩
  refine fn_ok 0 2 1 e__law_pot D sc__law_pot rfl rfl (by decide) fun cdv A outer sh H Ex hg hr tk => ?_
  have hrx : ∃ k, Room k (A.deeper (envOfC "_law_pot" (defScope s__law_pot) sh.heap.objs.size f cdv)) := ⟨_, hr⟩
  exact ⟨_, (qss_cons (qs_set (by decide) nd__law_pot rfl (Or.inl rfl) (QE.mv (qe_if (qt_cmp cq_lt (qe_var 1) (ke_len (K := K) E.b_len (qa_cons (qe_var 0) qa_nil))) (qe_abs E.b_abs (qa_cons (ke_ix (K := K) (qe_var 0) (qe_var 1)) qa_nil)) (ke_add (K := K) (qe_mul qe_int (qe_var 1)) qe_int)))) (qss_cons (qs_ret (qm_lst (qa_cons (qe_max E.b_max (qa_cons qe_int (qa_cons (qe_sub (qe_var 2) (qe_pow qe_int qe_int)) qa_nil))) (qa_cons (ke_add (K := K) (qe_mod (qe_int_of E.b_int (qa_cons (ke_add (K := K) (ke_add (K := K) (qe_mul (qe_mod (qe_int_of E.b_int (qa_cons (qe_var 2) qa_nil)) qe_int) qe_int) (qe_mul qe_int (qe_var 1))) qe_int) qa_nil)) qe_int) qe_int) qa_nil)))) qss_nil))⟩
theorem g__law_draw {P : Program} {w : World} {base : Heap} {K : PySem.W.Frag} {mg : Str → Option Value} (E : Fx K mg) : Callee P w base K mg "_law_draw" s__law_draw ["pot", "many"] 1 2 1 f__law_draw := by
  obtain ⟨f, fd, D, hm⟩ := E.d__law_draw
  refine ⟨f, fd, D, hm, ?_⟩
  refine fn_ok 1 2 1 e__law_draw D sc__law_draw rfl rfl (by decide) fun cdv A outer sh H Ex hg hr tk => ?_
  have hrx : ∃ k, Room k (A.deeper (envOfC "_law_draw" (defScope s__law_draw) sh.heap.objs.size f cdv)) := ⟨_, hr⟩
  exact ⟨_, (qss_cons (qs_if (qt_cmp cq_gt (QE.scope (ke_ix (K := K) (qe_var 0) qe_int)) qe_int) (qss_cons (qs_asg (qe_divmod E.b_divmod (qa_cons (QE.scope (ke_ix (K := K) (qe_var 0) qe_int)) (qa_cons (qe_var 1) qa_nil))) (kg_tup (K := K) rfl (qgs_cons (qg_ix2 (W := W0) 0 qe_int) (qgs_cons (qg_name nd__law_draw rfl (Or.inl rfl)) qgs_nil)))) (qss_cons (qs_ret (QE.mv (qe_var 2))) qss_nil)) qss_nil) (qss_cons (qs_asg (qe_mod (qe_int_of E.b_int (qa_cons (ke_add (K := K) (qe_mul (QE.scope (ke_ix (K := K) (qe_var 0) qe_int)) qe_int) qe_int) qa_nil)) qe_int) (qg_ix2 (W := W0) 0 qe_int)) (qss_cons (qs_ret (QE.mv (qe_mod (qe_int_of E.b_int (qa_cons (qe_fdiv (qe_mod (qe_int_of E.b_int (qa_cons (qe_mul (QE.scope (ke_ix (K := K) (qe_var 0) qe_int)) (QE.scope (ke_ix (K := K) (qe_var 0) qe_int))) qa_nil)) qe_int) qe_int) qa_nil)) (qe_var 1)))) qss_nil)))⟩
theorem g__law_word {P : Program} {w : World} {base : Heap} {K : PySem.W.Frag} {mg : Str → Option Value} (E : Fx K mg) : Callee P w base K mg "_law_word" s__law_word ["journal", "deed"] 0 2 1 f__law_word := by
  obtain ⟨f, fd, D, hm⟩ := E.d__law_word
  refine ⟨f, fd, D, hm, ?_⟩
  refine fn_ok 0 2 7 e__law_word D sc__law_word rfl rfl (by decide) fun cdv A outer sh H Ex hg hr tk => ?_
  have hrx : ∃ k, Room k (A.deeper (envOfC "_law_word" (defScope s__law_word) sh.heap.objs.size f cdv)) := ⟨_, hr⟩
  exact ⟨_, (qss_cons (qs_par rfl nd__law_word rfl rfl (qms_cons (QE.mv (ke_ix (K := K) (qe_var 1) qe_int)) (qms_cons (QE.mv (ke_ix (K := K) (qe_var 0) qe_int)) qms_nil)) rfl) (qss_cons (qs_if (qt_cmp (kq_in (K := K) hrx) (qe_var 2) (qe_tup (qa_cons (qe_str [115, 104, 101, 101, 116]) (qa_cons (qe_str [101, 112, 111, 99, 104]) qa_nil)))) (qss_cons (qs_ret (QE.mv qe_non)) qss_nil) qss_nil) (qss_cons (qs_if (qt_cmp cq_ge (ke_ix (K := K) (qe_var 1) qe_int) (ke_len (K := K) E.b_len (qa_cons (qe_var 3) qa_nil))) (qss_cons (qs_ret (QE.mv (qe_str [115, 104, 101, 101, 116]))) qss_nil) qss_nil) (qss_cons (qs_asg (ke_ix (K := K) (qe_var 3) (ke_ix (K := K) (qe_var 1) qe_int)) (kg_tup (K := K) rfl (qgs_cons (qg_name nd__law_word rfl (Or.inl rfl)) (qgs_cons (qg_name nd__law_word rfl (Or.inl rfl)) (qgs_cons (qg_name nd__law_word rfl (Or.inl rfl)) (qgs_cons (qg_name nd__law_word rfl (Or.inl rfl)) (qgs_cons (qg_name nd__law_word rfl (Or.inl rfl)) qgs_nil))))))) (qss_cons (qs_if (QW.qt (qw_or (kt_tru (K := K) (qe_var 8)) (qw_or1 (qt_cmp (kq_eq (K := K) hrx) (qe_var 2) (qe_str [100, 114, 111, 112]))))) (qss_cons (qs_ret (QE.mv (qe_if (kt_tru (K := K) (qe_var 8)) (qe_str [100, 114, 111, 112, 112, 101, 100]) qe_non))) qss_nil) qss_nil) (qss_cons (qs_if (QW.qt (qw_and (qt_cmp (kq_eq (K := K) hrx) (qe_var 2) (qe_str [97, 115, 107])) (qw_and1 (QW.qt (qw_or (qt_cmp (kq_eq (K := K) hrx) (qe_var 7) (qe_var 4)) (qw_or1 (qt_cmp cq_gt (qe_var 6) (qe_var 7)))))))) (qss_cons (qs_ret (QE.mv (qe_if (qt_cmp (kq_eq (K := K) hrx) (qe_var 7) (qe_var 4)) (qe_str [119, 104, 111, 108, 101]) (qe_str [100, 111, 117, 98, 116])))) qss_nil) qss_nil) (qss_cons (qs_if (QW.qt (qw_and (qt_cmp (kq_eq (K := K) hrx) (qe_var 2) (qe_str [100, 111, 110, 101])) (qw_and1 (qt_cmp (kq_eq (K := K) hrx) (qe_var 6) (qe_var 7))))) (qss_cons (qs_ret (QE.mv (qe_str [105, 100, 108, 101]))) qss_nil) qss_nil) (qss_cons (qs_ret (QE.mv (qe_if (qt_cmp (kq_eq (K := K) hrx) (ke_ix (K := K) (qe_var 1) qe_int) (qe_var 7)) qe_non (qe_str [114, 111, 119])))) qss_nil))))))))⟩
theorem g__law_with {P : Program} {w : World} {base : Heap} {K : PySem.W.Frag} {mg : Str → Option Value} (E : Fx K mg) : Callee P w base K mg "_law_with" s__law_with ["journal", "deed"] 0 2 1 f__law_with := by
  obtain ⟨f, fd, D, hm⟩ := E.d__law_with
  refine ⟨f, fd, D, hm, ?_⟩
  refine fn_ok 0 2 10 e__law_with D sc__law_with rfl rfl (by decide) fun cdv A outer sh H Ex hg hr tk => ?_
  have hrx : ∃ k, Room k (A.deeper (envOfC "_law_with" (defScope s__law_with) sh.heap.objs.size f cdv)) := ⟨_, hr⟩
  exact ⟨_, (qss_cons (qs_asg (qe_var 0) (kg_tup (K := K) rfl (qgs_cons (qg_name nd__law_with rfl (Or.inl rfl)) (qgs_cons (qg_name nd__law_with rfl (Or.inl rfl)) (qgs_cons (qg_name nd__law_with rfl (Or.inl rfl)) qgs_nil))))) (qss_cons (qs_if (qt_cmp (kq_eq (K := K) hrx) (ke_ix (K := K) (qe_var 1) qe_int) (qe_str [101, 112, 111, 99, 104])) (qss_cons (qs_ret (QE.mv (qe_tup (qa_cons (qe_var 2) (qa_cons (ke_add (K := K) (qe_var 3) qe_int) (qa_cons (qe_var 4) qa_nil)))))) qss_nil) qss_nil) (qss_cons (qs_if (qt_cmp (kq_eq (K := K) hrx) (ke_ix (K := K) (qe_var 1) qe_int) (qe_str [115, 104, 101, 101, 116])) (qss_cons (qs_ret (QE.mv (qe_tup (qa_cons (qe_var 2) (qa_cons (qe_var 3) (qa_cons (ke_add (K := K) (qe_var 4) (qe_tup (qa_cons (qe_tup (qa_cons (ke_ix (K := K) (qe_var 1) qe_int) (qa_cons (ke_ix (K := K) (qe_var 1) qe_int) (qa_cons qe_int (qa_cons qe_int (qa_cons qe_bl qa_nil)))))) qa_nil))) qa_nil)))))) qss_nil) qss_nil) (qss_cons (qs_set (by decide) nd__law_with rfl (Or.inl rfl) (QE.mv (ke_ix (K := K) (qe_var 1) qe_int))) (qss_cons (qs_asg (ke_ix (K := K) (qe_var 4) (qe_var 5)) (kg_tup (K := K) rfl (qgs_cons (qg_name nd__law_with rfl (Or.inl rfl)) (qgs_cons (qg_name nd__law_with rfl (Or.inl rfl)) (qgs_cons (qg_name nd__law_with rfl (Or.inl rfl)) (qgs_cons (qg_name nd__law_with rfl (Or.inl rfl)) (qgs_cons (qg_name nd__law_with rfl (Or.inl rfl)) qgs_nil))))))) (qss_cons (qs_set (by decide) nd__law_with rfl (Or.inl rfl) (QE.mv (qe_if (qt_cmp (kq_eq (K := K) hrx) (ke_ix (K := K) (qe_var 1) qe_int) (qe_str [100, 114, 111, 112])) (qe_tup (qa_cons (qe_var 6) (qa_cons (qe_var 7) (qa_cons (qe_var 8) (qa_cons (qe_var 9) (qa_cons qe_bl qa_nil)))))) (qe_tup (qa_cons (qe_var 6) (qa_cons (qe_var 7) (qa_cons (ke_add (K := K) (qe_var 8) (qe_int_of E.b_int (qa_cons (qe_cmp (kq_eq (K := K) hrx) (ke_ix (K := K) (qe_var 1) qe_int) (qe_str [97, 115, 107])) qa_nil))) (qa_cons (ke_add (K := K) (qe_var 9) (qe_int_of E.b_int (qa_cons (qe_cmp (kq_eq (K := K) hrx) (ke_ix (K := K) (qe_var 1) qe_int) (qe_str [100, 111, 110, 101])) qa_nil))) (qa_cons qe_bl qa_nil))))))))) (qss_cons (qs_ret (QE.mv (qe_tup (qa_cons (qe_var 2) (qa_cons (qe_var 3) (qa_cons (ke_add (K := K) (ke_add (K := K) (ke_sl (K := K) (qe_var 4) qo_none (qo_some (qe_var 5))) (qe_tup (qa_cons (qe_var 11) qa_nil))) (ke_sl (K := K) (qe_var 4) (qo_some (ke_add (K := K) (qe_var 5) qe_int)) qo_none)) qa_nil)))))) qss_nil)))))))⟩
theorem g__law_body_of {P : Program} {w : World} {base : Heap} {K : PySem.W.Frag} {mg : Str → Option Value} (E : Fx K mg) : Callee P w base K mg "_law_body_of" s__law_body_of ["deed"] 0 1 1 f__law_body_of := by
  obtain ⟨f, fd, D, hm⟩ := E.d__law_body_of
  refine ⟨f, fd, D, hm, ?_⟩
  refine fn_ok 0 1 1 e__law_body_of D sc__law_body_of rfl rfl (by decide) fun cdv A outer sh H Ex hg hr tk => ?_
  have hrx : ∃ k, Room k (A.deeper (envOfC "_law_body_of" (defScope s__law_body_of) sh.heap.objs.size f cdv)) := ⟨_, hr⟩
  exact ⟨_, (qss_cons (qs_ret (QE.mv (ke_join (K := K) (qe_str [32]) (QM.vw (qm_lc (own := [("one", 1)]) rfl nd__law_body_of (ki_any (K := K) (qe_var 0)) rfl (fun _ _ _ _ _ => (qg_name nd__law_body_of rfl (by first | exact Or.inl rfl | exact Or.inr rfl))) (fun _ _ _ _ _ => qts_nil) (fun _ _ _ _ _ => (qe_str2 E.b_str (qa_cons (qe_var 1) qa_nil)))))))) qss_nil)⟩
theorem g__law_numeral {P : Program} {w : World} {base : Heap} {K : PySem.W.Frag} {mg : Str → Option Value} (E : Fx K mg) : Callee P w base K mg "_law_numeral" s__law_numeral ["text"] 0 1 1 f__law_numeral := by
  obtain ⟨f, fd, D, hm⟩ := E.d__law_numeral
  refine ⟨f, fd, D, hm, ?_⟩
  refine fn_ok 0 1 2 e__law_numeral D sc__law_numeral rfl rfl (by decide) fun cdv A outer sh H Ex hg hr tk => ?_
  have hrx : ∃ k, Room k (A.deeper (envOfC "_law_numeral" (defScope s__law_numeral) sh.heap.objs.size f cdv)) := ⟨_, hr⟩
  exact ⟨_, (qss_cons (qs_set (by decide) nd__law_numeral rfl (Or.inl rfl) (QE.mv (qe_and (qe_cmp (kq_ne (K := K) hrx) (qe_var 0) (qe_str [])) (qe_and (ke_all (K := K) E.b_all (qa_cons (QM.vw (qm_lc (own := [("sign", 2)]) rfl nd__law_numeral (ki_any (K := K) (qe_var 0)) rfl (fun _ _ _ _ _ => (qg_name nd__law_numeral rfl (by first | exact Or.inl rfl | exact Or.inr rfl))) (fun _ _ _ _ _ => qts_nil) (fun _ _ _ _ _ => (qe_chain cq_le cq_le (qe_str [48]) (qe_var 2) (qe_str [57]))))) qa_nil)) (qe_and (qe_or (qe_cmp (kq_eq (K := K) hrx) (qe_var 0) (qe_str [48])) (qe_one (qe_cmp (kq_ne (K := K) hrx) (ke_ix (K := K) (qe_var 0) qe_int) (qe_str [48])))) (qe_one (qe_cmp cq_le (ke_len (K := K) E.b_len (qa_cons (qe_var 0) qa_nil)) qe_int))))))) (qss_cons (qs_ret (QE.mv (qe_if (QW.qt (qw_and (kt_tru (K := K) (qe_var 1)) (qw_and1 (qt_cmp cq_le (qe_int_of E.b_int (qa_cons (qe_var 0) qa_nil)) qe_int)))) (qe_int_of E.b_int (qa_cons (qe_var 0) qa_nil)) qe_non))) qss_nil))⟩
theorem g__law_is_count {P : Program} {w : World} {base : Heap} {K : PySem.W.Frag} {mg : Str → Option Value} (E : Fx K mg) : Callee P w base K mg "_law_is_count" s__law_is_count ["value", "most"] 0 2 1 f__law_is_count := by
  obtain ⟨f, fd, D, hm⟩ := E.d__law_is_count
  refine ⟨f, fd, D, hm, ?_⟩
  refine fn_ok 0 2 0 e__law_is_count D sc__law_is_count rfl rfl (by decide) fun cdv A outer sh H Ex hg hr tk => ?_
  have hrx : ∃ k, Room k (A.deeper (envOfC "_law_is_count" (defScope s__law_is_count) sh.heap.objs.size f cdv)) := ⟨_, hr⟩
  exact ⟨_, (qss_cons (qs_ret (QE.mv (qe_and (ke_isi (K := K) E.b_isinstance (qa_cons (qe_var 0) (qa_cons (qe_cls E.b_int PyProof.Rows.boot_int) qa_nil))) (qe_and (qe_not (ke_isi (K := K) E.b_isinstance (qa_cons (qe_var 0) (qa_cons (qe_cls E.b_bool (by decide +kernel)) qa_nil)))) (qe_one (qe_chain cq_le cq_le qe_int (qe_var 0) (qe_var 1))))))) qss_nil)⟩
theorem g__law_doubt {P : Program} {w : World} {base : Heap} {K : PySem.W.Frag} {mg : Str → Option Value} (E : Fx K mg) : Callee P w base K mg "_law_doubt" s__law_doubt ["journal"] 0 1 1 f__law_doubt := by
  obtain ⟨f, fd, D, hm⟩ := E.d__law_doubt
  refine ⟨f, fd, D, hm, ?_⟩
  refine fn_ok 0 1 2 e__law_doubt D sc__law_doubt rfl rfl (by decide) fun cdv A outer sh H Ex hg hr tk => ?_
  have hrx : ∃ k, Room k (A.deeper (envOfC "_law_doubt" (defScope s__law_doubt) sh.heap.objs.size f cdv)) := ⟨_, hr⟩
  exact ⟨_, (qss_cons (qs_ret (qm_lc (own := [("at", 1), ("one", 2)]) rfl nd__law_doubt (ki_enum3 (K := K) (qa_cons (ke_ix (K := K) (qe_var 0) qe_int) qa_nil) E.b_enumerate) rfl (fun _ _ _ _ _ => (kg_tup (K := K) rfl (qgs_cons (qg_name nd__law_doubt rfl (by first | exact Or.inl rfl | exact Or.inr rfl)) (qgs_cons (qg_name nd__law_doubt rfl (by first | exact Or.inl rfl | exact Or.inr rfl)) qgs_nil)))) (fun _ _ _ _ _ => (qts_one (QW.qt (qw_and (qt_not (kt_tru (K := K) (ke_ix (K := K) (qe_var 2) qe_int))) (qw_and1 (qt_cmp cq_gt (ke_ix (K := K) (qe_var 2) qe_int) (ke_ix (K := K) (qe_var 2) qe_int))))))) (fun _ _ _ _ _ => (qe_tup (qa_cons (qe_var 1) (qa_cons (ke_ix (K := K) (qe_var 2) qe_int) qa_nil)))))) qss_nil)⟩
theorem g_is_between {P : Program} {w : World} {base : Heap} {K : PySem.W.Frag} {mg : Str → Option Value} (E : Fx K mg) : Callee P w base K mg "is_between" s_is_between ["value", "low", "high"] 0 3 2 f_is_between := by
  obtain ⟨f, fd, D, hm⟩ := E.d_is_between
  obtain ⟨_, _, D_is_integer, h_is_integer, G_is_integer⟩ := g_is_integer (P := P) (w := w) (base := base) E
  refine ⟨f, fd, D, hm, ?_⟩
  refine fn_ok 0 3 0 e_is_between D sc_is_between rfl rfl (by decide) fun cdv A outer sh H Ex hg hr tk => ?_
  have hrx : ∃ k, Room k (A.deeper (envOfC "is_between" (defScope s_is_between) sh.heap.objs.size f cdv)) := ⟨_, hr⟩
  exact ⟨_, (qss_cons (qs_ret (QE.mv (qe_and (QM.vw (km_call G_is_integer hg (hr.mono (by decide)) h_is_integer D_is_integer.kp (kb_is_integer D_is_integer) tk (qar_v (qe_var 0) qar_nil) (rlen_v rlen_nil))) (qe_one (qe_chain cq_le cq_le (qe_var 1) (qe_var 0) (qe_var 2)))))) qss_nil)⟩
theorem g_is_count {P : Program} {w : World} {base : Heap} {K : PySem.W.Frag} {mg : Str → Option Value} (E : Fx K mg) : Callee P w base K mg "is_count" s_is_count ["value"] 0 1 2 f_is_count := by
  obtain ⟨f, fd, D, hm⟩ := E.d_is_count
  obtain ⟨_, _, D_is_integer, h_is_integer, G_is_integer⟩ := g_is_integer (P := P) (w := w) (base := base) E
  refine ⟨f, fd, D, hm, ?_⟩
  refine fn_ok 0 1 0 e_is_count D sc_is_count rfl rfl (by decide) fun cdv A outer sh H Ex hg hr tk => ?_
  have hrx : ∃ k, Room k (A.deeper (envOfC "is_count" (defScope s_is_count) sh.heap.objs.size f cdv)) := ⟨_, hr⟩
  exact ⟨_, (qss_cons (qs_ret (QE.mv (qe_and (QM.vw (km_call G_is_integer hg (hr.mono (by decide)) h_is_integer D_is_integer.kp (kb_is_integer D_is_integer) tk (qar_v (qe_var 0) qar_nil) (rlen_v rlen_nil))) (qe_one (qe_cmp cq_ge (qe_var 0) qe_int))))) qss_nil)⟩
theorem g_is_body {P : Program} {w : World} {base : Heap} {K : PySem.W.Frag} {mg : Str → Option Value} (E : Fx K mg) : Callee P w base K mg "is_body" s_is_body ["value"] 0 1 2 f_is_body := by
  obtain ⟨f, fd, D, hm⟩ := E.d_is_body
  obtain ⟨_, _, D_are_signs, h_are_signs, G_are_signs⟩ := g_are_signs (P := P) (w := w) (base := base) E
  refine ⟨f, fd, D, hm, ?_⟩
  refine fn_ok 0 1 0 e_is_body D sc_is_body rfl rfl (by decide) fun cdv A outer sh H Ex hg hr tk => ?_
  have hrx : ∃ k, Room k (A.deeper (envOfC "is_body" (defScope s_is_body) sh.heap.objs.size f cdv)) := ⟨_, hr⟩
  exact ⟨_, (qss_cons (qs_ret (QE.mv (qe_and (ke_isi (K := K) E.b_isinstance (qa_cons (qe_var 0) (qa_cons (qe_cls E.b_str PyProof.Rows.boot_str) qa_nil))) (qe_and (qe_chain cq_le cq_le qe_int (ke_len (K := K) E.b_len (qa_cons (qe_var 0) qa_nil)) (qe_glI E.c_MOST_BODY)) (qe_one (QM.vw (km_call G_are_signs hg (hr.mono (by decide)) h_are_signs D_are_signs.kp (kb_are_signs D_are_signs) tk (qar_v (qe_var 0) qar_nil) (rlen_v rlen_nil)))))))) qss_nil)⟩
theorem g__law_pick {P : Program} {w : World} {base : Heap} {K : PySem.W.Frag} {mg : Str → Option Value} (E : Fx K mg) : Callee P w base K mg "_law_pick" s__law_pick ["pot", "some"] 1 2 2 f__law_pick := by
  obtain ⟨f, fd, D, hm⟩ := E.d__law_pick
  obtain ⟨_, _, D__law_draw, h__law_draw, G__law_draw⟩ := g__law_draw (P := P) (w := w) (base := base) E
  refine ⟨f, fd, D, hm, ?_⟩
  refine fn_ok 1 2 0 e__law_pick D sc__law_pick rfl rfl (by decide) fun cdv A outer sh H Ex hg hr tk => ?_
  have hrx : ∃ k, Room k (A.deeper (envOfC "_law_pick" (defScope s__law_pick) sh.heap.objs.size f cdv)) := ⟨_, hr⟩
  exact ⟨_, (qss_cons (qs_ret (QE.mv (ke_ix (K := K) (qe_var 1) (QM.vw (km_call G__law_draw hg (hr.mono (by decide)) h__law_draw D__law_draw.kp (kb__law_draw D__law_draw) tk (qar_p 0 (qar_v (ke_len (K := K) E.b_len (qa_cons (qe_var 1) qa_nil)) qar_nil)) (rlen_p (rlen_v rlen_nil))))))) qss_nil)⟩
theorem g__law_deed_of {P : Program} {w : World} {base : Heap} {K : PySem.W.Frag} {mg : Str → Option Value} (E : Fx K mg) : Callee P w base K mg "_law_deed_of" s__law_deed_of ["body"] 0 1 2 f__law_deed_of := by
  obtain ⟨f, fd, D, hm⟩ := E.d__law_deed_of
  obtain ⟨_, _, D__law_numeral, h__law_numeral, G__law_numeral⟩ := g__law_numeral (P := P) (w := w) (base := base) E
  refine ⟨f, fd, D, hm, ?_⟩
  refine fn_ok 0 1 6 e__law_deed_of D sc__law_deed_of rfl rfl (by decide) fun cdv A outer sh H Ex hg hr tk => ?_
  have hrx : ∃ k, Room k (A.deeper (envOfC "_law_deed_of" (defScope s__law_deed_of) sh.heap.objs.size f cdv)) := ⟨_, hr⟩
  exact ⟨_, (qss_cons (qs_set (by decide) nd__law_deed_of rfl (Or.inl rfl) (QE.mv (qe_split (qe_var 0) (qe_str [32])))) (qss_cons (qs_if (qt_cmp (kq_eq (K := K) hrx) (qe_var 0) (qe_str [101, 112, 111, 99, 104])) (qss_cons (qs_ret (QE.mv (qe_tup (qa_cons (qe_str [101, 112, 111, 99, 104]) qa_nil)))) qss_nil) qss_nil) (qss_cons (qs_if (QW.qt (qw_and (qt_cmp (kq_eq (K := K) hrx) (ke_ix (K := K) (qe_var 1) qe_int) (qe_str [115, 104, 101, 101, 116])) (qw_and1 (qt_cmp cq_gt (ke_len (K := K) E.b_len (qa_cons (qe_var 1) qa_nil)) qe_int)))) (qss_cons (qs_par rfl nd__law_deed_of rfl rfl (qms_cons (QE.mv (QM.vw (km_call G__law_numeral hg (hr.mono (by decide)) h__law_numeral D__law_numeral.kp (kb__law_numeral D__law_numeral) tk (qar_v (ke_ix (K := K) (qe_var 1) qe_int) qar_nil) (rlen_v rlen_nil)))) (qms_cons (QE.mv (ke_join (K := K) (qe_str [32]) (ke_sl (K := K) (qe_var 1) (qo_some qe_int) qo_none))) qms_nil)) rfl) (qss_cons (qs_ret (QE.mv (qe_if (QW.qt (qw_and (qt_cmp cq_isnot (qe_var 2) qe_non) (qw_and (qt_cmp cq_gt (qe_var 2) qe_int) (qw_and1 (qt_cmp cq_le (ke_len (K := K) E.b_len (qa_cons (qe_var 3) qa_nil)) qe_int))))) (qe_tup (qa_cons (qe_str [115, 104, 101, 101, 116]) (qa_cons (qe_var 2) (qa_cons (qe_var 3) qa_nil)))) qe_non))) qss_nil)) qss_nil) (qss_cons (qs_set (by decide) nd__law_deed_of rfl (Or.inl rfl) (QE.mv (qe_get2 hrx (QM.vw (qm_disp (qps_cons [97, 115, 107] (QE.mv qe_int) (qps_cons [100, 111, 110, 101] (QE.mv qe_int) (qps_cons [100, 114, 111, 112] (QE.mv qe_int) qps_nil))) (hnd := by decide))) (ke_ix (K := K) (qe_var 1) qe_int) qe_int))) (qss_cons (qs_setLcF (own := [("part", 6)]) rfl nd__law_deed_of rfl rfl (ki_any (K := K) (ke_sl (K := K) (qe_var 1) (qo_some qe_int) qo_none)) rfl (fun _ _ _ _ _ => (qg_name nd__law_deed_of rfl (by first | exact Or.inl rfl | exact Or.inr rfl))) (fun _ _ _ _ _ => qts_nil) (fun _ _ _ _ _ => (QM.vw (km_call G__law_numeral hg (hr.mono (by decide)) h__law_numeral D__law_numeral.kp (kb__law_numeral D__law_numeral) takes0 (qar_v (qe_var 6) qar_nil) (rlen_v rlen_nil))))) (qss_cons (qs_ret (QE.mv (qe_if (QW.qt (qw_and (qt_cmp (kq_eq (K := K) hrx) (ke_len (K := K) E.b_len (qa_cons (qe_var 1) qa_nil)) (qe_var 4)) (qw_and1 (qt_cmp (kq_notin (K := K) hrx) qe_non (qe_var 5))))) (ke_add (K := K) (qe_tup (qa_cons (ke_ix (K := K) (qe_var 1) qe_int) qa_nil)) (ke_tuple_of (K := K) E.b_tuple (qa_cons (qe_var 5) qa_nil))) qe_non))) qss_nil))))))⟩
theorem g__law_is_sheet {P : Program} {w : World} {base : Heap} {K : PySem.W.Frag} {mg : Str → Option Value} (E : Fx K mg) : Callee P w base K mg "_law_is_sheet" s__law_is_sheet ["value"] 0 1 2 f__law_is_sheet := by
  obtain ⟨f, fd, D, hm⟩ := E.d__law_is_sheet
  obtain ⟨_, _, D__law_is_count, h__law_is_count, G__law_is_count⟩ := g__law_is_count (P := P) (w := w) (base := base) E
  refine ⟨f, fd, D, hm, ?_⟩
  refine fn_ok 0 1 0 e__law_is_sheet D sc__law_is_sheet rfl rfl (by decide) fun cdv A outer sh H Ex hg hr tk => ?_
  have hrx : ∃ k, Room k (A.deeper (envOfC "_law_is_sheet" (defScope s__law_is_sheet) sh.heap.objs.size f cdv)) := ⟨_, hr⟩
  exact ⟨_, (qss_cons (qs_if (QW.qt (qw_or (qt_not (kt_tru (K := K) (ke_isi (K := K) E.b_isinstance (qa_cons (qe_var 0) (qa_cons (qe_cls E.b_tuple PyProof.Rows.boot_tuple) qa_nil))))) (qw_or (qt_cmp (kq_ne (K := K) hrx) (ke_len (K := K) E.b_len (qa_cons (qe_var 0) qa_nil)) qe_int) (qw_or (qt_not (kt_tru (K := K) (ke_isi (K := K) E.b_isinstance (qa_cons (ke_ix (K := K) (qe_var 0) qe_int) (qa_cons (qe_cls E.b_str PyProof.Rows.boot_str) qa_nil))))) (qw_or (qt_cmp cq_gt (ke_len (K := K) E.b_len (qa_cons (ke_ix (K := K) (qe_var 0) qe_int) qa_nil)) qe_int) (qw_or1 (qt_not (kt_tru (K := K) (ke_isi (K := K) E.b_isinstance (qa_cons (ke_ix (K := K) (qe_var 0) qe_int) (qa_cons (qe_cls E.b_bool (by decide +kernel)) qa_nil))))))))))) (qss_cons (qs_ret (QE.mv qe_bl)) qss_nil) qss_nil) (qss_cons (qs_if (QW.qt (qw_or (qt_not (kt_tru (K := K) (QM.vw (km_call G__law_is_count hg (hr.mono (by decide)) h__law_is_count D__law_is_count.kp (kb__law_is_count D__law_is_count) tk (qar_v (ke_ix (K := K) (qe_var 0) qe_int) (qar_v qe_int qar_nil)) (rlen_v (rlen_v rlen_nil)))))) (qw_or (qt_cmp cq_lt (ke_ix (K := K) (qe_var 0) qe_int) qe_int) (qw_or (qt_not (kt_tru (K := K) (QM.vw (km_call G__law_is_count hg (hr.mono (by decide)) h__law_is_count D__law_is_count.kp (kb__law_is_count D__law_is_count) tk (qar_v (ke_ix (K := K) (qe_var 0) qe_int) (qar_v (ke_ix (K := K) (qe_var 0) qe_int) qar_nil)) (rlen_v (rlen_v rlen_nil)))))) (qw_or1 (qt_not (kt_tru (K := K) (QM.vw (km_call G__law_is_count hg (hr.mono (by decide)) h__law_is_count D__law_is_count.kp (kb__law_is_count D__law_is_count) tk (qar_v (ke_ix (K := K) (qe_var 0) qe_int) (qar_v (ke_ix (K := K) (qe_var 0) qe_int) qar_nil)) (rlen_v (rlen_v rlen_nil))))))))))) (qss_cons (qs_ret (QE.mv qe_bl)) qss_nil) qss_nil) (qss_cons (qs_ret (QE.mv (qe_cmp cq_lt (qe_sub (ke_ix (K := K) (qe_var 0) qe_int) (ke_ix (K := K) (qe_var 0) qe_int)) qe_int))) qss_nil)))⟩
theorem g_deed_is_right {P : Program} {w : World} {base : Heap} {K : PySem.W.Frag} {mg : Str → Option Value} (E : Fx K mg) : Callee P w base K mg "deed_is_right" s_deed_is_right ["value"] 0 1 3 f_deed_is_right := by
  obtain ⟨f, fd, D, hm⟩ := E.d_deed_is_right
  obtain ⟨_, _, D_are_signs, h_are_signs, G_are_signs⟩ := g_are_signs (P := P) (w := w) (base := base) E
  obtain ⟨_, _, D_is_between, h_is_between, G_is_between⟩ := g_is_between (P := P) (w := w) (base := base) E
  refine ⟨f, fd, D, hm, ?_⟩
  refine fn_ok 0 1 4 e_deed_is_right D sc_deed_is_right rfl rfl (by decide) fun cdv A outer sh H Ex hg hr tk => ?_
  have hrx : ∃ k, Room k (A.deeper (envOfC "deed_is_right" (defScope s_deed_is_right) sh.heap.objs.size f cdv)) := ⟨_, hr⟩
  exact ⟨_, (qss_cons (qs_if (QW.qt (qw_or (qt_not (kt_tru (K := K) (ke_isi (K := K) E.b_isinstance (qa_cons (qe_var 0) (qa_cons (qe_cls E.b_tuple PyProof.Rows.boot_tuple) qa_nil))))) (qw_or (qt_cmp (kq_eq (K := K) hrx) (ke_len (K := K) E.b_len (qa_cons (qe_var 0) qa_nil)) qe_int) (qw_or1 (qt_not (kt_tru (K := K) (ke_isi (K := K) E.b_isinstance (qa_cons (ke_ix (K := K) (qe_var 0) qe_int) (qa_cons (qe_cls E.b_str PyProof.Rows.boot_str) qa_nil))))))))) (qss_cons (qs_ret (QE.mv qe_bl)) qss_nil) qss_nil) (qss_cons (qs_par rfl nd_deed_is_right rfl rfl (qms_cons (QE.mv (ke_ix (K := K) (qe_var 0) qe_int)) (qms_cons (QE.mv (ke_sl (K := K) (qe_var 0) (qo_some qe_int) qo_none)) qms_nil)) rfl) (qss_cons (qs_if (qt_cmp (kq_eq (K := K) hrx) (qe_var 1) (qe_str [115, 104, 101, 101, 116])) (qss_cons (qs_ret (QE.mv (qe_and (qe_cmp (kq_eq (K := K) hrx) (ke_len (K := K) E.b_len (qa_cons (qe_var 2) qa_nil)) qe_int) (qe_and (QM.vw (km_call G_is_between hg (hr.mono (by decide)) h_is_between D_is_between.kp (kb_is_between D_is_between) tk (qar_v (ke_ix (K := K) (qe_var 2) qe_int) (qar_v qe_int (qar_v (qe_glI E.c_MOST_ROWS) qar_nil))) (rlen_v (rlen_v (rlen_v rlen_nil))))) (qe_and (QM.vw (km_call G_are_signs hg (hr.mono (by decide)) h_are_signs D_are_signs.kp (kb_are_signs D_are_signs) tk (qar_v (ke_ix (K := K) (qe_var 2) qe_int) qar_nil) (rlen_v rlen_nil))) (qe_one (qe_cmp cq_le (ke_len (K := K) E.b_len (qa_cons (ke_ix (K := K) (qe_var 2) qe_int) qa_nil)) (qe_glI E.c_MOST_NOTE)))))))) qss_nil) qss_nil) (qss_cons (qs_set (by decide) nd_deed_is_right rfl (Or.inl rfl) (QE.mv (QM.vw (qm_disp (qps_cons [97, 115, 107] (QE.mv qe_int) (qps_cons [100, 111, 110, 101] (QE.mv qe_int) (qps_cons [100, 114, 111, 112] (QE.mv qe_int) (qps_cons [101, 112, 111, 99, 104] (QE.mv qe_int) qps_nil)))) (hnd := by decide))))) (qss_cons (qs_if (QW.qt (qw_or (qt_cmp (kq_notinD (K := K) hrx) (qe_var 1) (qe_var 3)) (qw_or1 (qt_cmp (kq_ne (K := K) hrx) (ke_len (K := K) E.b_len (qa_cons (qe_var 2) qa_nil)) (ke_ixD (K := K) hrx (qe_var 3) (qe_var 1)))))) (qss_cons (qs_ret (QE.mv qe_bl)) qss_nil) qss_nil) (qss_cons (qs_ret (QE.mv (ke_all (K := K) E.b_all (qa_cons (QM.vw (qm_lc (own := [("one", 4)]) rfl nd_deed_is_right (ki_any (K := K) (qe_var 2)) rfl (fun _ _ _ _ _ => (qg_name nd_deed_is_right rfl (by first | exact Or.inl rfl | exact Or.inr rfl))) (fun _ _ _ _ _ => qts_nil) (fun _ _ _ _ _ => (QM.vw (km_call G_is_between hg (hr.mono (by decide)) h_is_between D_is_between.kp (kb_is_between D_is_between) takes0 (qar_v (qe_var 4) (qar_v qe_int (qar_v (qe_glI E.c_MOST_NUMBER) qar_nil))) (rlen_v (rlen_v (rlen_v rlen_nil)))))))) qa_nil)))) qss_nil))))))⟩
theorem g__law_deed {P : Program} {w : World} {base : Heap} {K : PySem.W.Frag} {mg : Str → Option Value} (E : Fx K mg) : Callee P w base K mg "_law_deed" s__law_deed ["pot", "journal"] 1 2 3 f__law_deed := by
  obtain ⟨f, fd, D, hm⟩ := E.d__law_deed
  obtain ⟨_, _, D__law_draw, h__law_draw, G__law_draw⟩ := g__law_draw (P := P) (w := w) (base := base) E
  obtain ⟨_, _, D__law_pick, h__law_pick, G__law_pick⟩ := g__law_pick (P := P) (w := w) (base := base) E
  refine ⟨f, fd, D, hm, ?_⟩
  refine fn_ok 1 2 4 e__law_deed D sc__law_deed rfl rfl (by decide) fun cdv A outer sh H Ex hg hr tk => ?_
  have hrx : ∃ k, Room k (A.deeper (envOfC "_law_deed" (defScope s__law_deed) sh.heap.objs.size f cdv)) := ⟨_, hr⟩
  exact ⟨_, (qss_cons (qs_par rfl nd__law_deed rfl rfl (qms_cons (QE.mv (ke_ix (K := K) (qe_var 1) qe_int)) (qms_cons (QE.mv (QM.vw (km_call G__law_draw hg (hr.mono (by decide)) h__law_draw D__law_draw.kp (kb__law_draw D__law_draw) tk (qar_p 0 (qar_v qe_int qar_nil)) (rlen_p (rlen_v rlen_nil))))) qms_nil)) rfl) (qss_cons (qs_if (QW.qt (qw_or (qt_cmp cq_lt (qe_var 3) qe_int) (qw_or1 (qt_cmp (kq_eq (K := K) hrx) (qe_var 2) (qe_tup qa_nil))))) (qss_cons (qs_ret (QE.mv (qe_tup (qa_cons (qe_str [115, 104, 101, 101, 116]) (qa_cons (ke_add (K := K) qe_int (QM.vw (km_call G__law_draw hg (hr.mono (by decide)) h__law_draw D__law_draw.kp (kb__law_draw D__law_draw) tk (qar_p 0 (qar_v qe_int qar_nil)) (rlen_p (rlen_v rlen_nil))))) (qa_cons (QM.vw (km_call G__law_pick hg (hr.mono (by decide)) h__law_pick D__law_pick.kp (kb__law_pick D__law_pick) tk (qar_p 0 (qar_v (QM.vw (qm_lst (qa_cons (qe_str []) (qa_cons (qe_str [115, 107, 121]) (qa_cons (qe_str [97, 32, 98]) (qa_cons (qe_str [49, 32, 50]) (qa_cons (qe_str [120, 10, 121, 32, 126]) qa_nil))))))) qar_nil)) (rlen_p (rlen_v rlen_nil)))) qa_nil)))))) qss_nil) qss_nil) (qss_cons (qs_set (by decide) nd__law_deed rfl (Or.inl rfl) (QE.mv (QM.vw (km_call G__law_draw hg (hr.mono (by decide)) h__law_draw D__law_draw.kp (kb__law_draw D__law_draw) tk (qar_p 0 (qar_v (ke_add (K := K) (ke_len (K := K) E.b_len (qa_cons (qe_var 2) qa_nil)) (qe_if (qt_cmp (kq_eq (K := K) hrx) (qe_var 3) qe_int) qe_int qe_int)) qar_nil)) (rlen_p (rlen_v rlen_nil)))))) (qss_cons (qs_set (by decide) nd__law_deed rfl (Or.inl rfl) (QE.mv (qe_if (qt_cmp cq_lt (qe_var 4) (ke_len (K := K) E.b_len (qa_cons (qe_var 2) qa_nil))) (ke_ix (K := K) (ke_ix (K := K) (qe_var 2) (qe_var 4)) qe_int) qe_int))) (qss_cons (qs_set (by decide) nd__law_deed rfl (Or.inl rfl) (QE.mv (qe_if (qt_cmp (kq_in (K := K) hrx) (qe_var 3) (qe_tup (qa_cons qe_int (qa_cons qe_int qa_nil)))) (ke_add (K := K) (qe_var 5) (QM.vw (km_call G__law_draw hg (hr.mono (by decide)) h__law_draw D__law_draw.kp (kb__law_draw D__law_draw) tk (qar_p 0 (qar_v qe_int qar_nil)) (rlen_p (rlen_v rlen_nil))))) (qe_var 5)))) (qss_cons (qs_if (qt_cmp (kq_in (K := K) hrx) (qe_var 3) (qe_tup (qa_cons qe_int (qa_cons qe_int qa_nil)))) (qss_cons (qs_ret (QE.mv (qe_if (qt_cmp (kq_eq (K := K) hrx) (qe_var 3) qe_int) (qe_tup (qa_cons (qe_str [101, 112, 111, 99, 104]) qa_nil)) (qe_tup (qa_cons (qe_str [100, 114, 111, 112]) (qa_cons (qe_var 4) qa_nil)))))) qss_nil) qss_nil) (qss_cons (qs_ret (QE.mv (qe_tup (qa_cons (QM.vw (km_call G__law_pick hg (hr.mono (by decide)) h__law_pick D__law_pick.kp (kb__law_pick D__law_pick) tk (qar_p 0 (qar_v (QM.vw (qm_lst (qa_cons (qe_str [97, 115, 107]) (qa_cons (qe_str [100, 111, 110, 101]) qa_nil)))) qar_nil)) (rlen_p (rlen_v rlen_nil)))) (qa_cons (qe_var 4) (qa_cons (qe_var 5) qa_nil)))))) qss_nil)))))))⟩
theorem g__law_is_journal {P : Program} {w : World} {base : Heap} {K : PySem.W.Frag} {mg : Str → Option Value} (E : Fx K mg) : Callee P w base K mg "_law_is_journal" s__law_is_journal ["value"] 0 1 3 f__law_is_journal := by
  obtain ⟨f, fd, D, hm⟩ := E.d__law_is_journal
  obtain ⟨_, _, D__law_is_count, h__law_is_count, G__law_is_count⟩ := g__law_is_count (P := P) (w := w) (base := base) E
  obtain ⟨_, _, D__law_is_sheet, h__law_is_sheet, G__law_is_sheet⟩ := g__law_is_sheet (P := P) (w := w) (base := base) E
  refine ⟨f, fd, D, hm, ?_⟩
  refine fn_ok 0 1 1 e__law_is_journal D sc__law_is_journal rfl rfl (by decide) fun cdv A outer sh H Ex hg hr tk => ?_
  have hrx : ∃ k, Room k (A.deeper (envOfC "_law_is_journal" (defScope s__law_is_journal) sh.heap.objs.size f cdv)) := ⟨_, hr⟩
  exact ⟨_, (qss_cons (qs_if (QW.qt (qw_or (qt_not (kt_tru (K := K) (ke_isi (K := K) E.b_isinstance (qa_cons (qe_var 0) (qa_cons (qe_cls E.b_tuple PyProof.Rows.boot_tuple) qa_nil))))) (qw_or (qt_cmp (kq_ne (K := K) hrx) (ke_len (K := K) E.b_len (qa_cons (qe_var 0) qa_nil)) qe_int) (qw_or (qt_not (kt_tru (K := K) (ke_isi (K := K) E.b_isinstance (qa_cons (ke_ix (K := K) (qe_var 0) qe_int) (qa_cons (qe_cls E.b_str PyProof.Rows.boot_str) qa_nil))))) (qw_or (qt_cmp (kq_ne (K := K) hrx) (ke_ix (K := K) (qe_var 0) qe_int) (qe_str [106, 111, 117, 114, 110, 97, 108])) (qw_or1 (qt_not (kt_tru (K := K) (QM.vw (km_call G__law_is_count hg (hr.mono (by decide)) h__law_is_count D__law_is_count.kp (kb__law_is_count D__law_is_count) tk (qar_v (ke_ix (K := K) (qe_var 0) qe_int) (qar_v (qe_pow qe_int qe_int) qar_nil)) (rlen_v (rlen_v rlen_nil)))))))))))) (qss_cons (qs_ret (QE.mv qe_bl)) qss_nil) qss_nil) (qss_cons (qs_ret (QE.mv (qe_and (ke_isi (K := K) E.b_isinstance (qa_cons (ke_ix (K := K) (qe_var 0) qe_int) (qa_cons (qe_cls E.b_tuple PyProof.Rows.boot_tuple) qa_nil))) (qe_one (ke_all (K := K) E.b_all (qa_cons (QM.vw (qm_lc (own := [("one", 1)]) rfl nd__law_is_journal (ki_any (K := K) (ke_ix (K := K) (qe_var 0) qe_int)) rfl (fun _ _ _ _ _ => (qg_name nd__law_is_journal rfl (by first | exact Or.inl rfl | exact Or.inr rfl))) (fun _ _ _ _ _ => qts_nil) (fun _ _ _ _ _ => (QM.vw (km_call G__law_is_sheet hg (hr.mono (by decide)) h__law_is_sheet D__law_is_sheet.kp (kb__law_is_sheet D__law_is_sheet) takes0 (qar_v (qe_var 1) qar_nil) (rlen_v rlen_nil)))))) qa_nil)))))) qss_nil))⟩
theorem g_deed_by {P : Program} {w : World} {base : Heap} {K : PySem.W.Frag} {mg : Str → Option Value} (E : Fx K mg) : Callee P w base K mg "deed_by" s_deed_by ["body"] 0 1 4 f_deed_by := by
  obtain ⟨f, fd, D, hm⟩ := E.d_deed_by
  obtain ⟨_, _, D_deed_is_right, h_deed_is_right, G_deed_is_right⟩ := g_deed_is_right (P := P) (w := w) (base := base) E
  obtain ⟨_, _, D_is_numeral, h_is_numeral, G_is_numeral⟩ := g_is_numeral (P := P) (w := w) (base := base) E
  refine ⟨f, fd, D, hm, ?_⟩
  refine fn_ok 0 1 4 e_deed_by D sc_deed_by rfl rfl (by decide) fun cdv A outer sh H Ex hg hr tk => ?_
  have hrx : ∃ k, Room k (A.deeper (envOfC "deed_by" (defScope s_deed_by) sh.heap.objs.size f cdv)) := ⟨_, hr⟩
  exact ⟨_, (qss_cons (qs_set (by decide) nd_deed_by rfl (Or.inl rfl) (QE.mv (qe_splitK (K := K) (qe_var 0) (qa_cons (qe_str [32]) (qa_cons qe_int qa_nil))))) (qss_cons (qs_setLcF (own := [("word", 4)]) rfl nd_deed_by rfl rfl (ki_any (K := K) (ke_sl (K := K) (qe_var 1) (qo_some qe_int) qo_none)) rfl (fun _ _ _ _ _ => (qg_name nd_deed_by rfl (by first | exact Or.inl rfl | exact Or.inr rfl))) (fun _ _ _ _ _ => qts_nil) (fun _ _ _ _ _ => (qe_if (kt_tru (K := K) (QM.vw (km_call G_is_numeral hg (hr.mono (by decide)) h_is_numeral D_is_numeral.kp (kb_is_numeral D_is_numeral) takes0 (qar_v (qe_var 4) qar_nil) (rlen_v rlen_nil)))) (qe_int_of E.b_int (qa_cons (qe_var 4) qa_nil)) qe_non))) (qss_cons (qs_if (qt_cmp (kq_eq (K := K) hrx) (ke_ix (K := K) (qe_var 1) qe_int) (qe_str [115, 104, 101, 101, 116])) (qss_cons (qs_set (by decide) nd_deed_by rfl (Or.inl rfl) (QE.mv (qe_if (qt_cmp (kq_eq (K := K) hrx) (ke_len (K := K) E.b_len (qa_cons (qe_var 1) qa_nil)) qe_int) (qe_tup (qa_cons (qe_str [115, 104, 101, 101, 116]) (qa_cons (ke_ix (K := K) (qe_var 2) qe_int) (qa_cons (ke_ix (K := K) (qe_var 1) qe_int) qa_nil)))) (qe_tup qa_nil)))) qss_nil) (qss_cons (qs_set (by decide) nd_deed_by rfl (Or.inl rfl) (QE.mv (ke_add (K := K) (qe_tup (qa_cons (ke_ix (K := K) (qe_var 1) qe_int) qa_nil)) (ke_tuple_of (K := K) E.b_tuple (qa_cons (qe_var 2) qa_nil))))) qss_nil)) (qss_cons (qs_ret (QE.mv (qe_if (kt_tru (K := K) (QM.vw (km_call G_deed_is_right hg (hr.mono (by decide)) h_deed_is_right D_deed_is_right.kp (kb_deed_is_right D_deed_is_right) tk (qar_v (qe_var 3) qar_nil) (rlen_v rlen_nil)))) (qe_var 3) qe_non))) qss_nil))))⟩
theorem g_sheet_is_right {P : Program} {w : World} {base : Heap} {K : PySem.W.Frag} {mg : Str → Option Value} (E : Fx K mg) : Callee P w base K mg "sheet_is_right" s_sheet_is_right ["value", "at"] 0 2 4 f_sheet_is_right := by
  obtain ⟨f, fd, D, hm⟩ := E.d_sheet_is_right
  obtain ⟨_, _, D_deed_is_right, h_deed_is_right, G_deed_is_right⟩ := g_deed_is_right (P := P) (w := w) (base := base) E
  obtain ⟨_, _, D_is_count, h_is_count, G_is_count⟩ := g_is_count (P := P) (w := w) (base := base) E
  refine ⟨f, fd, D, hm, ?_⟩
  refine fn_ok 0 2 5 e_sheet_is_right D sc_sheet_is_right rfl rfl (by decide) fun cdv A outer sh H Ex hg hr tk => ?_
  have hrx : ∃ k, Room k (A.deeper (envOfC "sheet_is_right" (defScope s_sheet_is_right) sh.heap.objs.size f cdv)) := ⟨_, hr⟩
  exact ⟨_, (qss_cons (qs_if (QW.qt (qw_or (qt_not (kt_tru (K := K) (ke_isi (K := K) E.b_isinstance (qa_cons (qe_var 0) (qa_cons (qe_cls E.b_tuple PyProof.Rows.boot_tuple) qa_nil))))) (qw_or (qt_cmp (kq_ne (K := K) hrx) (ke_len (K := K) E.b_len (qa_cons (qe_var 0) qa_nil)) qe_int) (qw_or1 (qt_not (kt_tru (K := K) (QM.vw (km_call G_deed_is_right hg (hr.mono (by decide)) h_deed_is_right D_deed_is_right.kp (kb_deed_is_right D_deed_is_right) tk (qar_v (ke_add (K := K) (qe_tup (qa_cons (qe_str [115, 104, 101, 101, 116]) qa_nil)) (ke_sl (K := K) (qe_var 0) qo_none (qo_some qe_int))) qar_nil) (rlen_v rlen_nil))))))))) (qss_cons (qs_ret (QE.mv qe_bl)) qss_nil) qss_nil) (qss_cons (qs_asg (qe_var 0) (kg_tup (K := K) rfl (qgs_cons (qg_name nd_sheet_is_right rfl (Or.inl rfl)) (qgs_cons (qg_name nd_sheet_is_right rfl (Or.inl rfl)) (qgs_cons (qg_name nd_sheet_is_right rfl (Or.inl rfl)) (qgs_cons (qg_name nd_sheet_is_right rfl (Or.inl rfl)) (qgs_cons (qg_name nd_sheet_is_right rfl (Or.inl rfl)) qgs_nil))))))) (qss_cons (qs_if (QW.qt (qw_or (qt_not (kt_tru (K := K) (QM.vw (km_call G_is_count hg (hr.mono (by decide)) h_is_count D_is_count.kp (kb_is_count D_is_count) tk (qar_v (qe_var 4) qar_nil) (rlen_v rlen_nil))))) (qw_or (qt_not (kt_tru (K := K) (QM.vw (km_call G_is_count hg (hr.mono (by decide)) h_is_count D_is_count.kp (kb_is_count D_is_count) tk (qar_v (qe_var 5) qar_nil) (rlen_v rlen_nil))))) (qw_or1 (qt_not (kt_tru (K := K) (ke_isi (K := K) E.b_isinstance (qa_cons (qe_var 6) (qa_cons (qe_cls E.b_bool (by decide +kernel)) qa_nil))))))))) (qss_cons (qs_ret (QE.mv qe_bl)) qss_nil) qss_nil) (qss_cons (qs_if (QW.qt (qw_and (qt_cmp cq_gt (qe_var 1) (qe_glI E.c_MOST_NUMBER)) (qw_and1 (QW.qt (qw_or (qt_cmp cq_gt (qe_var 4) qe_int) (qw_or1 (kt_tru (K := K) (qe_var 6)))))))) (qss_cons (qs_ret (QE.mv qe_bl)) qss_nil) qss_nil) (qss_cons (qs_ret (QE.mv (qe_and (qe_chain cq_le cq_le (qe_var 5) (qe_var 4) (ke_add (K := K) (qe_var 5) qe_int)) (qe_one (qe_cmp cq_le (qe_var 4) (qe_var 2)))))) qss_nil)))))⟩
theorem g_is_deed {P : Program} {w : World} {base : Heap} {K : PySem.W.Frag} {mg : Str → Option Value} (E : Fx K mg) : Callee P w base K mg "is_deed" s_is_deed ["value"] 0 1 4 f_is_deed := by
  obtain ⟨f, fd, D, hm⟩ := E.d_is_deed
  obtain ⟨_, _, D_deed_is_right, h_deed_is_right, G_deed_is_right⟩ := g_deed_is_right (P := P) (w := w) (base := base) E
  refine ⟨f, fd, D, hm, ?_⟩
  refine fn_ok 0 1 0 e_is_deed D sc_is_deed rfl rfl (by decide) fun cdv A outer sh H Ex hg hr tk => ?_
  have hrx : ∃ k, Room k (A.deeper (envOfC "is_deed" (defScope s_is_deed) sh.heap.objs.size f cdv)) := ⟨_, hr⟩
  exact ⟨_, (qss_cons (qs_ret (km_call G_deed_is_right hg (hr.mono (by decide)) h_deed_is_right D_deed_is_right.kp (kb_deed_is_right D_deed_is_right) tk (qar_v (qe_var 0) qar_nil) (rlen_v rlen_nil))) qss_nil)⟩
theorem g_body_of {P : Program} {w : World} {base : Heap} {K : PySem.W.Frag} {mg : Str → Option Value} (E : Fx K mg) : Callee P w base K mg "body_of" s_body_of ["deed"] 0 1 4 f_body_of := by
  obtain ⟨f, fd, D, hm⟩ := E.d_body_of
  obtain ⟨_, _, D_body_by, h_body_by, G_body_by⟩ := g_body_by (P := P) (w := w) (base := base) E
  obtain ⟨_, _, D_deed_is_right, h_deed_is_right, G_deed_is_right⟩ := g_deed_is_right (P := P) (w := w) (base := base) E
  refine ⟨f, fd, D, hm, ?_⟩
  refine fn_ok 0 1 0 e_body_of D sc_body_of rfl rfl (by decide) fun cdv A outer sh H Ex hg hr tk => ?_
  have hrx : ∃ k, Room k (A.deeper (envOfC "body_of" (defScope s_body_of) sh.heap.objs.size f cdv)) := ⟨_, hr⟩
  exact ⟨_, (qss_cons (qs_if (qt_not (kt_tru (K := K) (QM.vw (km_call G_deed_is_right hg (hr.mono (by decide)) h_deed_is_right D_deed_is_right.kp (kb_deed_is_right D_deed_is_right) tk (qar_v (qe_var 0) qar_nil) (rlen_v rlen_nil))))) (qss_cons qs_never qss_nil) qss_nil) (qss_cons (qs_ret (km_call G_body_by hg (hr.mono (by decide)) h_body_by D_body_by.kp (kb_body_by D_body_by) tk (qar_v (qe_var 0) qar_nil) (rlen_v rlen_nil))) qss_nil))⟩
theorem g_journal_is_right {P : Program} {w : World} {base : Heap} {K : PySem.W.Frag} {mg : Str → Option Value} (E : Fx K mg) : Callee P w base K mg "journal_is_right" s_journal_is_right ["value"] 0 1 5 f_journal_is_right := by
  obtain ⟨f, fd, D, hm⟩ := E.d_journal_is_right
  obtain ⟨_, _, D_is_count, h_is_count, G_is_count⟩ := g_is_count (P := P) (w := w) (base := base) E
  obtain ⟨_, _, D_sheet_is_right, h_sheet_is_right, G_sheet_is_right⟩ := g_sheet_is_right (P := P) (w := w) (base := base) E
  refine ⟨f, fd, D, hm, ?_⟩
  refine fn_ok 0 1 2 e_journal_is_right D sc_journal_is_right rfl rfl (by decide) fun cdv A outer sh H Ex hg hr tk => ?_
  have hrx : ∃ k, Room k (A.deeper (envOfC "journal_is_right" (defScope s_journal_is_right) sh.heap.objs.size f cdv)) := ⟨_, hr⟩
  exact ⟨_, (qss_cons (qs_if (QW.qt (qw_or (qt_not (kt_tru (K := K) (ke_isi (K := K) E.b_isinstance (qa_cons (qe_var 0) (qa_cons (qe_cls E.b_tuple PyProof.Rows.boot_tuple) qa_nil))))) (qw_or (qt_cmp (kq_ne (K := K) hrx) (ke_len (K := K) E.b_len (qa_cons (qe_var 0) qa_nil)) qe_int) (qw_or (qt_not (kt_tru (K := K) (ke_isi (K := K) E.b_isinstance (qa_cons (ke_ix (K := K) (qe_var 0) qe_int) (qa_cons (qe_cls E.b_str PyProof.Rows.boot_str) qa_nil))))) (qw_or1 (qt_cmp (kq_ne (K := K) hrx) (ke_ix (K := K) (qe_var 0) qe_int) (qe_str [106, 111, 117, 114, 110, 97, 108]))))))) (qss_cons (qs_ret (QE.mv qe_bl)) qss_nil) qss_nil) (qss_cons (qs_if (QW.qt (qw_or (qt_not (kt_tru (K := K) (QM.vw (km_call G_is_count hg (hr.mono (by decide)) h_is_count D_is_count.kp (kb_is_count D_is_count) tk (qar_v (ke_ix (K := K) (qe_var 0) qe_int) qar_nil) (rlen_v rlen_nil))))) (qw_or1 (qt_not (kt_tru (K := K) (ke_isi (K := K) E.b_isinstance (qa_cons (ke_ix (K := K) (qe_var 0) qe_int) (qa_cons (qe_cls E.b_tuple PyProof.Rows.boot_tuple) qa_nil)))))))) (qss_cons (qs_ret (QE.mv qe_bl)) qss_nil) qss_nil) (qss_cons (qs_ret (QE.mv (ke_all (K := K) E.b_all (qa_cons (QM.vw (qm_lc (own := [("at", 1), ("one", 2)]) rfl nd_journal_is_right (ki_enum3 (K := K) (qa_cons (ke_ix (K := K) (qe_var 0) qe_int) qa_nil) E.b_enumerate) rfl (fun _ _ _ _ _ => (kg_tup (K := K) rfl (qgs_cons (qg_name nd_journal_is_right rfl (by first | exact Or.inl rfl | exact Or.inr rfl)) (qgs_cons (qg_name nd_journal_is_right rfl (by first | exact Or.inl rfl | exact Or.inr rfl)) qgs_nil)))) (fun _ _ _ _ _ => qts_nil) (fun _ _ _ _ _ => (QM.vw (km_call G_sheet_is_right hg (hr.mono (by decide)) h_sheet_is_right D_sheet_is_right.kp (kb_sheet_is_right D_sheet_is_right) takes0 (qar_v (qe_var 2) (qar_v (qe_var 1) qar_nil)) (rlen_v (rlen_v rlen_nil))))))) qa_nil)))) qss_nil)))⟩
theorem g_deed_of {P : Program} {w : World} {base : Heap} {K : PySem.W.Frag} {mg : Str → Option Value} (E : Fx K mg) : Callee P w base K mg "deed_of" s_deed_of ["body"] 0 1 5 f_deed_of := by
  obtain ⟨f, fd, D, hm⟩ := E.d_deed_of
  obtain ⟨_, _, D_deed_by, h_deed_by, G_deed_by⟩ := g_deed_by (P := P) (w := w) (base := base) E
  obtain ⟨_, _, D_is_body, h_is_body, G_is_body⟩ := g_is_body (P := P) (w := w) (base := base) E
  refine ⟨f, fd, D, hm, ?_⟩
  refine fn_ok 0 1 0 e_deed_of D sc_deed_of rfl rfl (by decide) fun cdv A outer sh H Ex hg hr tk => ?_
  have hrx : ∃ k, Room k (A.deeper (envOfC "deed_of" (defScope s_deed_of) sh.heap.objs.size f cdv)) := ⟨_, hr⟩
  exact ⟨_, (qss_cons (qs_if (qt_not (kt_tru (K := K) (QM.vw (km_call G_is_body hg (hr.mono (by decide)) h_is_body D_is_body.kp (kb_is_body D_is_body) tk (qar_v (qe_var 0) qar_nil) (rlen_v rlen_nil))))) (qss_cons qs_never qss_nil) qss_nil) (qss_cons (qs_ret (km_call G_deed_by hg (hr.mono (by decide)) h_deed_by D_deed_by.kp (kb_deed_by D_deed_by) tk (qar_v (qe_var 0) qar_nil) (rlen_v rlen_nil))) qss_nil))⟩
theorem g_check_journal {P : Program} {w : World} {base : Heap} {K : PySem.W.Frag} {mg : Str → Option Value} (E : Fx K mg) : Callee P w base K mg "check_journal" s_check_journal ["journal"] 0 1 6 f_check_journal := by
  obtain ⟨f, fd, D, hm⟩ := E.d_check_journal
  obtain ⟨_, _, D_journal_is_right, h_journal_is_right, G_journal_is_right⟩ := g_journal_is_right (P := P) (w := w) (base := base) E
  refine ⟨f, fd, D, hm, ?_⟩
  refine fn_ok 0 1 0 e_check_journal D sc_check_journal rfl rfl (by decide) fun cdv A outer sh H Ex hg hr tk => ?_
  have hrx : ∃ k, Room k (A.deeper (envOfC "check_journal" (defScope s_check_journal) sh.heap.objs.size f cdv)) := ⟨_, hr⟩
  exact ⟨_, (qss_cons (qs_if (qt_not (kt_tru (K := K) (QM.vw (km_call G_journal_is_right hg (hr.mono (by decide)) h_journal_is_right D_journal_is_right.kp (kb_journal_is_right D_journal_is_right) tk (qar_v (qe_var 0) qar_nil) (rlen_v rlen_nil))))) (qss_cons qs_never qss_nil) qss_nil) qss_nil)⟩
theorem g_is_journal {P : Program} {w : World} {base : Heap} {K : PySem.W.Frag} {mg : Str → Option Value} (E : Fx K mg) : Callee P w base K mg "is_journal" s_is_journal ["value"] 0 1 6 f_is_journal := by
  obtain ⟨f, fd, D, hm⟩ := E.d_is_journal
  obtain ⟨_, _, D_journal_is_right, h_journal_is_right, G_journal_is_right⟩ := g_journal_is_right (P := P) (w := w) (base := base) E
  refine ⟨f, fd, D, hm, ?_⟩
  refine fn_ok 0 1 0 e_is_journal D sc_is_journal rfl rfl (by decide) fun cdv A outer sh H Ex hg hr tk => ?_
  have hrx : ∃ k, Room k (A.deeper (envOfC "is_journal" (defScope s_is_journal) sh.heap.objs.size f cdv)) := ⟨_, hr⟩
  exact ⟨_, (qss_cons (qs_ret (km_call G_journal_is_right hg (hr.mono (by decide)) h_journal_is_right D_journal_is_right.kp (kb_journal_is_right D_journal_is_right) tk (qar_v (qe_var 0) qar_nil) (rlen_v rlen_nil))) qss_nil)⟩
theorem g__law_bodies_right {P : Program} {w : World} {base : Heap} {K : PySem.W.Frag} {mg : Str → Option Value} (E : Fx K mg) : Callee P w base K mg "_law_bodies_right" s__law_bodies_right ["pot", "deed"] 1 2 6 f__law_bodies_right := by
  obtain ⟨f, fd, D, hm⟩ := E.d__law_bodies_right
  obtain ⟨_, _, D__law_body_of, h__law_body_of, G__law_body_of⟩ := g__law_body_of (P := P) (w := w) (base := base) E
  obtain ⟨_, _, D__law_deed_of, h__law_deed_of, G__law_deed_of⟩ := g__law_deed_of (P := P) (w := w) (base := base) E
  obtain ⟨_, _, D__law_draw, h__law_draw, G__law_draw⟩ := g__law_draw (P := P) (w := w) (base := base) E
  obtain ⟨_, _, D__law_pick, h__law_pick, G__law_pick⟩ := g__law_pick (P := P) (w := w) (base := base) E
  obtain ⟨_, _, D_body_of, h_body_of, G_body_of⟩ := g_body_of (P := P) (w := w) (base := base) E
  obtain ⟨_, _, D_deed_of, h_deed_of, G_deed_of⟩ := g_deed_of (P := P) (w := w) (base := base) E
  obtain ⟨_, _, D_is_deed, h_is_deed, G_is_deed⟩ := g_is_deed (P := P) (w := w) (base := base) E
  refine ⟨f, fd, D, hm, ?_⟩
  refine fn_ok 1 2 5 e__law_bodies_right D sc__law_bodies_right rfl rfl (by decide) fun cdv A outer sh H Ex hg hr tk => ?_
  have hrx : ∃ k, Room k (A.deeper (envOfC "_law_bodies_right" (defScope s__law_bodies_right) sh.heap.objs.size f cdv)) := ⟨_, hr⟩
  exact ⟨_, (qss_cons (qs_set (by decide) nd__law_bodies_right rfl (Or.inl rfl) (QE.mv (QM.vw (km_call G__law_body_of hg (hr.mono (by decide)) h__law_body_of D__law_body_of.kp (kb__law_body_of D__law_body_of) tk (qar_v (qe_var 1) qar_nil) (rlen_v rlen_nil))))) (qss_cons (qs_if (qt_cmp (kq_ne (K := K) hrx) (ke_repr (K := K) hg hrx E.b_repr (qa_cons (QM.vw (qm_lst (qa_cons (QM.vw (km_call G_body_of hg (hr.mono (by decide)) h_body_of D_body_of.kp (kb_body_of D_body_of) tk (qar_v (qe_var 1) qar_nil) (rlen_v rlen_nil))) (qa_cons (QM.vw (km_callk0 [0] G_body_of hg (hr.mono (by decide)) h_body_of D_body_of.kp (kbk0_body_of D_body_of) tk (qkr_v (qe_var 1) qkr_nil) (rlen_v rlen_nil) (lk_kbk0_body_of))) (qa_cons (QM.vw (km_call G_deed_of hg (hr.mono (by decide)) h_deed_of D_deed_of.kp (kb_deed_of D_deed_of) tk (qar_v (qe_var 2) qar_nil) (rlen_v rlen_nil))) (qa_cons (QM.vw (km_callk0 [0] G_deed_of hg (hr.mono (by decide)) h_deed_of D_deed_of.kp (kbk1_deed_of D_deed_of) tk (qkr_v (qe_var 2) qkr_nil) (rlen_v rlen_nil) (lk_kbk1_deed_of))) (qa_cons (QM.vw (km_call G_is_deed hg (hr.mono (by decide)) h_is_deed D_is_deed.kp (kb_is_deed D_is_deed) tk (qar_v (qe_var 1) qar_nil) (rlen_v rlen_nil))) qa_nil))))))) qa_nil)) (ke_repr (K := K) hg hrx E.b_repr (qa_cons (QM.vw (qm_lst (qa_cons (qe_var 2) (qa_cons (qe_var 2) (qa_cons (qe_var 1) (qa_cons (qe_var 1) (qa_cons qe_bl qa_nil))))))) qa_nil))) (qss_cons (qs_ret (QE.mv qe_bl)) qss_nil) qss_nil) (qss_cons (qs_set (by decide) nd__law_bodies_right rfl (Or.inl rfl) (QE.mv (QM.vw (km_call G__law_draw hg (hr.mono (by decide)) h__law_draw D__law_draw.kp (kb__law_draw D__law_draw) tk (qar_p 0 (qar_v (ke_len (K := K) E.b_len (qa_cons (qe_var 2) qa_nil)) qar_nil)) (rlen_p (rlen_v rlen_nil)))))) (qss_cons (qs_set (by decide) nd__law_bodies_right rfl (Or.inl rfl) (QE.mv (QM.vw (qm_lst (qa_tok [32] (qe_var 2) (qat_cons (qet_of (ke_add (K := K) (qe_var 2) (qe_str [32, 48]))) (qat_cons (qet_of (ke_add (K := K) (qe_str [32]) (qe_var 2))) (qat_cons (qet_of (ke_add (K := K) (ke_add (K := K) (ke_sl (K := K) (qe_var 2) qo_none (qo_some (qe_var 3))) (QM.vw (km_call G__law_pick hg (hr.mono (by decide)) h__law_pick D__law_pick.kp (kb__law_pick D__law_pick) tk (qar_p 0 (qar_v (QM.vw (qm_lst (qa_cons (qe_str [48]) (qa_cons (qe_str [32]) (qa_cons (qe_str [120]) (qa_cons (qe_str [55]) qa_nil)))))) qar_nil)) (rlen_p (rlen_v rlen_nil))))) (ke_sl (K := K) (qe_var 2) (qo_some (qe_var 3)) qo_none))) (qat_cons (qet_of (ke_add (K := K) (ke_sl (K := K) (qe_var 2) qo_none (qo_some (qe_var 3))) (ke_sl (K := K) (qe_var 2) (qo_some (ke_add (K := K) (qe_var 3) qe_int)) qo_none))) (qat_cons (qet_repl [32] [32, 32] (qe_var 2)) (qat_cons (qet_of (qe_str [115, 104, 101, 101, 116, 32, 50, 32])) (qat_cons (qet_of (qe_str [115, 104, 101, 101, 116, 32, 50])) (qat_cons (qet_of (qe_str [97, 115, 107, 32, 48, 48, 32, 49])) qat_nil))))))))))))) (qss_cons (qs_for (passes_of rfl) rfl (ki_any (K := K) (QM.vw (qm_lc (own := [("one", 6)]) rfl nd__law_bodies_right (ki_any (K := K) (qe_var 4)) rfl (fun _ _ _ _ _ => (qg_name nd__law_bodies_right rfl (by first | exact Or.inl rfl | exact Or.inr rfl))) (fun _ _ _ _ _ => (qts_one (qt_cmp (kq_ne (K := K) hrx) (qe_var 6) (qe_str [])))) (fun _ _ _ _ _ => (qe_var 6))))) (qg_name nd__law_bodies_right rfl (Or.inl rfl)) (qss_cons (qs_if (qt_cmp (kq_ne (K := K) hrx) (ke_repr (K := K) hg hrx E.b_repr (qa_cons (QM.vw (km_call G_deed_of hg (hr.mono (by decide)) h_deed_of D_deed_of.kp (kb_deed_of D_deed_of) tk (qar_v (qe_var 5) qar_nil) (rlen_v rlen_nil))) qa_nil)) (ke_repr (K := K) hg hrx E.b_repr (qa_cons (QM.vw (km_call G__law_deed_of hg (hr.mono (by decide)) h__law_deed_of D__law_deed_of.kp (kb__law_deed_of D__law_deed_of) tk (qar_v (qe_var 5) qar_nil) (rlen_v rlen_nil))) qa_nil))) (qss_cons (qs_ret (QE.mv qe_bl)) qss_nil) qss_nil) qss_nil)) (qss_cons (qs_ret (QE.mv qe_bl)) qss_nil))))))⟩
theorem g_check_deed {P : Program} {w : World} {base : Heap} {K : PySem.W.Frag} {mg : Str → Option Value} (E : Fx K mg) : Callee P w base K mg "check_deed" s_check_deed ["journal", "deed"] 0 2 7 f_check_deed := by
  obtain ⟨f, fd, D, hm⟩ := E.d_check_deed
  obtain ⟨_, _, D_check_journal, h_check_journal, G_check_journal⟩ := g_check_journal (P := P) (w := w) (base := base) E
  obtain ⟨_, _, D_deed_is_right, h_deed_is_right, G_deed_is_right⟩ := g_deed_is_right (P := P) (w := w) (base := base) E
  refine ⟨f, fd, D, hm, ?_⟩
  refine fn_ok 0 2 0 e_check_deed D sc_check_deed rfl rfl (by decide) fun cdv A outer sh H Ex hg hr tk => ?_
  have hrx : ∃ k, Room k (A.deeper (envOfC "check_deed" (defScope s_check_deed) sh.heap.objs.size f cdv)) := ⟨_, hr⟩
  exact ⟨_, (qss_cons (qs_expr (km_call G_check_journal hg (hr.mono (by decide)) h_check_journal D_check_journal.kp (kb_check_journal D_check_journal) tk (qar_v (qe_var 0) qar_nil) (rlen_v rlen_nil))) (qss_cons (qs_if (qt_not (kt_tru (K := K) (QM.vw (km_call G_deed_is_right hg (hr.mono (by decide)) h_deed_is_right D_deed_is_right.kp (kb_deed_is_right D_deed_is_right) tk (qar_v (qe_var 1) qar_nil) (rlen_v rlen_nil))))) (qss_cons qs_never qss_nil) qss_nil) qss_nil))⟩
theorem g_in_doubt {P : Program} {w : World} {base : Heap} {K : PySem.W.Frag} {mg : Str → Option Value} (E : Fx K mg) : Callee P w base K mg "in_doubt" s_in_doubt ["journal"] 0 1 7 f_in_doubt := by
  obtain ⟨f, fd, D, hm⟩ := E.d_in_doubt
  obtain ⟨_, _, D_check_journal, h_check_journal, G_check_journal⟩ := g_check_journal (P := P) (w := w) (base := base) E
  refine ⟨f, fd, D, hm, ?_⟩
  refine fn_ok 0 1 2 e_in_doubt D sc_in_doubt rfl rfl (by decide) fun cdv A outer sh H Ex hg hr tk => ?_
  have hrx : ∃ k, Room k (A.deeper (envOfC "in_doubt" (defScope s_in_doubt) sh.heap.objs.size f cdv)) := ⟨_, hr⟩
  exact ⟨_, (qss_cons (qs_expr (km_call G_check_journal hg (hr.mono (by decide)) h_check_journal D_check_journal.kp (kb_check_journal D_check_journal) tk (qar_v (qe_var 0) qar_nil) (rlen_v rlen_nil))) (qss_cons (qs_ret (qm_lc (own := [("at", 1), ("one", 2)]) rfl nd_in_doubt (ki_enum3 (K := K) (qa_cons (ke_ix (K := K) (qe_var 0) qe_int) qa_nil) E.b_enumerate) rfl (fun _ _ _ _ _ => (kg_tup (K := K) rfl (qgs_cons (qg_name nd_in_doubt rfl (by first | exact Or.inl rfl | exact Or.inr rfl)) (qgs_cons (qg_name nd_in_doubt rfl (by first | exact Or.inl rfl | exact Or.inr rfl)) qgs_nil)))) (fun _ _ _ _ _ => (qts_one (QW.qt (qw_and (qt_not (kt_tru (K := K) (ke_ix (K := K) (qe_var 2) qe_int))) (qw_and1 (qt_cmp cq_gt (ke_ix (K := K) (qe_var 2) qe_int) (ke_ix (K := K) (qe_var 2) qe_int))))))) (fun _ _ _ _ _ => (qe_tup (qa_cons (qe_var 1) (qa_cons (ke_ix (K := K) (qe_var 2) qe_int) qa_nil)))))) qss_nil))⟩
theorem st__law_bent {P : Program} {w : World} {base : Heap} {K : PySem.W.Frag} {mg : Str → Option Value} (E : Fx K mg) {f : Addr} {fd : FuncData} (D : FunD K "_law_bent" "_law_bent" (defArgs s__law_bent) (defBody s__law_bent) (defScope s__law_bent) [] [] f fd) (hm : mg "_law_bent" = some (.ref f)) (m : List MV → RF) (k : Nat) (hk : 2 ≤ k) (G : FnG P w K mg base k f fd ["pot", "value"] (spF K 1 2 m)) : FnG P w K mg base (k + 1) f fd ["pot", "value"] (spF K 1 2 (runF 1 2 1 (e__law_bent m))) := by
  obtain ⟨_, _, D__law_draw, h__law_draw, G__law_draw⟩ := g__law_draw (P := P) (w := w) (base := base) E
  obtain ⟨_, _, D__law_pick, h__law_pick, G__law_pick⟩ := g__law_pick (P := P) (w := w) (base := base) E
  refine fn_ok 1 2 1 (e__law_bent m) D sc__law_bent rfl rfl (by decide) fun cdv A outer sh H Ex hg hr tk => ?_
  have hrx : ∃ k, Room k (A.deeper (envOfC "_law_bent" (defScope s__law_bent) sh.heap.objs.size f cdv)) := ⟨_, hr⟩
  exact ⟨_, (qss_cons (qs_if (qt_not (kt_tru (K := K) (ke_isi (K := K) E.b_isinstance (qa_cons (qe_var 1) (qa_cons (qe_cls E.b_tuple PyProof.Rows.boot_tuple) qa_nil))))) (qss_cons (qs_ret (km_call G__law_pick hg (hr.mono (Nat.le_trans (by decide) hk)) h__law_pick D__law_pick.kp (kb__law_pick D__law_pick) tk (qar_p 0 (qar_v (QM.vw (qm_lst (qa_cons qe_non (qa_cons qe_int (qa_cons qe_int (qa_cons qe_int (qa_cons (qe_neg qe_int) (qa_cons qe_bl (qa_cons qe_bl (qa_cons (qe_str []) (qa_cons (qe_str [106, 111, 117, 114, 110, 97, 108]) (qa_cons qe_int (qa_cons (qe_var 1) qa_nil))))))))))))) qar_nil)) (rlen_p (rlen_v rlen_nil)))) qss_nil) qss_nil) (qss_cons (qs_if (QW.qt (qw_or (qt_cmp (kq_eq (K := K) hrx) (qe_var 1) (qe_tup qa_nil)) (qw_or1 (qt_cmp (kq_eq (K := K) hrx) (QM.vw (km_call G__law_draw hg (hr.mono (Nat.le_trans (by decide) hk)) h__law_draw D__law_draw.kp (kb__law_draw D__law_draw) tk (qar_p 0 (qar_v qe_int qar_nil)) (rlen_p (rlen_v rlen_nil)))) qe_int)))) (qss_cons (qs_ret (km_call G__law_pick hg (hr.mono (Nat.le_trans (by decide) hk)) h__law_pick D__law_pick.kp (kb__law_pick D__law_pick) tk (qar_p 0 (qar_v (QM.vw (qm_lst (qa_cons (QM.vw (km_list_of (K := K) E.b_list (qa_cons (qe_var 1) qa_nil))) (qa_cons (ke_sl (K := K) (qe_var 1) qo_none (qo_some (qe_neg qe_int))) (qa_cons (ke_add (K := K) (qe_var 1) (ke_sl (K := K) (qe_var 1) (qo_some (qe_neg qe_int)) qo_none)) (qa_cons (ke_rev (K := K) (qe_var 1)) (qa_cons (qe_tup qa_nil) (qa_cons (qe_var 1) qa_nil)))))))) qar_nil)) (rlen_p (rlen_v rlen_nil)))) qss_nil) qss_nil) (qss_cons (qs_set (by decide) nd__law_bent rfl (Or.inl rfl) (QE.mv (QM.vw (km_call G__law_draw hg (hr.mono (Nat.le_trans (by decide) hk)) h__law_draw D__law_draw.kp (kb__law_draw D__law_draw) tk (qar_p 0 (qar_v (ke_len (K := K) E.b_len (qa_cons (qe_var 1) qa_nil)) qar_nil)) (rlen_p (rlen_v rlen_nil)))))) (qss_cons (qs_ret (QE.mv (ke_add (K := K) (ke_add (K := K) (ke_sl (K := K) (qe_var 1) qo_none (qo_some (qe_var 2))) (qe_tup (qa_cons (QM.vw (km_call G hg (hr.mono (Nat.le_refl _)) hm D.kp (kb__law_bent D) tk (qar_p 0 (qar_v (ke_ix (K := K) (qe_var 1) (qe_var 2)) qar_nil)) (rlen_p (rlen_v rlen_nil)))) qa_nil))) (ke_sl (K := K) (qe_var 1) (qo_some (ke_add (K := K) (qe_var 2) qe_int)) qo_none)))) qss_nil))))⟩
theorem g__law_bent {P : Program} {w : World} {base : Heap} {K : PySem.W.Frag} {mg : Str → Option Value} (E : Fx K mg) : Callee P w base K mg "_law_bent" s__law_bent ["pot", "value"] 1 2 7 (f__law_bent 5) := by
  obtain ⟨f, fd, D, hm⟩ := E.d__law_bent
  exact ⟨f, fd, D, hm, (st__law_bent E D hm _ 6 (by decide) (st__law_bent E D hm _ 5 (by decide) (st__law_bent E D hm _ 4 (by decide) (st__law_bent E D hm _ 3 (by decide) (st__law_bent E D hm _ 2 (by decide) (fnG_bad (k := 2) rfl))))))⟩
theorem g_wrong_word {P : Program} {w : World} {base : Heap} {K : PySem.W.Frag} {mg : Str → Option Value} (E : Fx K mg) : Callee P w base K mg "wrong_word" s_wrong_word ["journal", "deed"] 0 2 8 f_wrong_word := by
  obtain ⟨f, fd, D, hm⟩ := E.d_wrong_word
  obtain ⟨_, _, D_check_deed, h_check_deed, G_check_deed⟩ := g_check_deed (P := P) (w := w) (base := base) E
  obtain ⟨_, _, D_word_by, h_word_by, G_word_by⟩ := g_word_by (P := P) (w := w) (base := base) E
  refine ⟨f, fd, D, hm, ?_⟩
  refine fn_ok 0 2 0 e_wrong_word D sc_wrong_word rfl rfl (by decide) fun cdv A outer sh H Ex hg hr tk => ?_
  have hrx : ∃ k, Room k (A.deeper (envOfC "wrong_word" (defScope s_wrong_word) sh.heap.objs.size f cdv)) := ⟨_, hr⟩
  exact ⟨_, (qss_cons (qs_expr (km_call G_check_deed hg (hr.mono (by decide)) h_check_deed D_check_deed.kp (kb_check_deed D_check_deed) tk (qar_v (qe_var 0) (qar_v (qe_var 1) qar_nil)) (rlen_v (rlen_v rlen_nil)))) (qss_cons (qs_ret (km_call G_word_by hg (hr.mono (by decide)) h_word_by D_word_by.kp (kb_word_by D_word_by) tk (qar_v (qe_var 0) (qar_v (qe_var 1) qar_nil)) (rlen_v (rlen_v rlen_nil)))) qss_nil))⟩
theorem g_with_deed {P : Program} {w : World} {base : Heap} {K : PySem.W.Frag} {mg : Str → Option Value} (E : Fx K mg) : Callee P w base K mg "with_deed" s_with_deed ["journal", "deed"] 0 2 8 f_with_deed := by
  obtain ⟨f, fd, D, hm⟩ := E.d_with_deed
  obtain ⟨_, _, D_behind, h_behind, G_behind⟩ := g_behind (P := P) (w := w) (base := base) E
  obtain ⟨_, _, D_check_deed, h_check_deed, G_check_deed⟩ := g_check_deed (P := P) (w := w) (base := base) E
  obtain ⟨_, _, D_word_by, h_word_by, G_word_by⟩ := g_word_by (P := P) (w := w) (base := base) E
  refine ⟨f, fd, D, hm, ?_⟩
  refine fn_ok 0 2 1 e_with_deed D sc_with_deed rfl rfl (by decide) fun cdv A outer sh H Ex hg hr tk => ?_
  have hrx : ∃ k, Room k (A.deeper (envOfC "with_deed" (defScope s_with_deed) sh.heap.objs.size f cdv)) := ⟨_, hr⟩
  exact ⟨_, (qss_cons (qs_expr (km_call G_check_deed hg (hr.mono (by decide)) h_check_deed D_check_deed.kp (kb_check_deed D_check_deed) tk (qar_v (qe_var 0) (qar_v (qe_var 1) qar_nil)) (rlen_v (rlen_v rlen_nil)))) (qss_cons (qs_set (by decide) nd_with_deed rfl (Or.inl rfl) (QE.mv (QM.vw (km_call G_word_by hg (hr.mono (by decide)) h_word_by D_word_by.kp (kb_word_by D_word_by) tk (qar_v (qe_var 0) (qar_v (qe_var 1) qar_nil)) (rlen_v (rlen_v rlen_nil)))))) (qss_cons (qs_if (qt_cmp cq_isnot (qe_var 2) qe_non) (qss_cons qs_never qss_nil) qss_nil) (qss_cons (qs_ret (km_call G_behind hg (hr.mono (by decide)) h_behind D_behind.kp (kb_behind D_behind) tk (qar_v (qe_var 0) (qar_v (qe_var 1) qar_nil)) (rlen_v (rlen_v rlen_nil)))) qss_nil))))⟩
theorem g__law_right {P : Program} {w : World} {base : Heap} {K : PySem.W.Frag} {mg : Str → Option Value} (E : Fx K mg) : Callee P w base K mg "_law_right" s__law_right ["pot", "late"] 2 2 9 f__law_right := by
  obtain ⟨f, fd, D, hm⟩ := E.d__law_right
  obtain ⟨_, _, D__law_bent, h__law_bent, G__law_bent⟩ := g__law_bent (P := P) (w := w) (base := base) E
  obtain ⟨_, _, D__law_bodies_right, h__law_bodies_right, G__law_bodies_right⟩ := g__law_bodies_right (P := P) (w := w) (base := base) E
  obtain ⟨_, _, D__law_deed, h__law_deed, G__law_deed⟩ := g__law_deed (P := P) (w := w) (base := base) E
  obtain ⟨_, _, D__law_doubt, h__law_doubt, G__law_doubt⟩ := g__law_doubt (P := P) (w := w) (base := base) E
  obtain ⟨_, _, D__law_is_journal, h__law_is_journal, G__law_is_journal⟩ := g__law_is_journal (P := P) (w := w) (base := base) E
  obtain ⟨_, _, D__law_with, h__law_with, G__law_with⟩ := g__law_with (P := P) (w := w) (base := base) E
  obtain ⟨_, _, D__law_word, h__law_word, G__law_word⟩ := g__law_word (P := P) (w := w) (base := base) E
  obtain ⟨_, _, D_in_doubt, h_in_doubt, G_in_doubt⟩ := g_in_doubt (P := P) (w := w) (base := base) E
  obtain ⟨_, _, D_is_journal, h_is_journal, G_is_journal⟩ := g_is_journal (P := P) (w := w) (base := base) E
  obtain ⟨_, _, D_new_journal, h_new_journal, G_new_journal⟩ := g_new_journal (P := P) (w := w) (base := base) E
  obtain ⟨_, _, D_with_deed, h_with_deed, G_with_deed⟩ := g_with_deed (P := P) (w := w) (base := base) E
  obtain ⟨_, _, D_wrong_word, h_wrong_word, G_wrong_word⟩ := g_wrong_word (P := P) (w := w) (base := base) E
  refine ⟨f, fd, D, hm, ?_⟩
  refine fn_ok 2 2 9 e__law_right D sc__law_right rfl rfl (by decide) fun cdv A outer sh H Ex hg hr tk => ?_
  have hrx : ∃ k, Room k (A.deeper (envOfC "_law_right" (defScope s__law_right) sh.heap.objs.size f cdv)) := ⟨_, hr⟩
  exact ⟨_, (qss_cons (qs_set (by decide) nd__law_right rfl (Or.inr rfl) (QE.mv (QM.vw (km_call0 G_new_journal hg (hr.mono (by decide)) h_new_journal D_new_journal.kp (kb_new_journal D_new_journal) tk)))) (qss_cons (qs_if (qt_cmp (kq_ne (K := K) hrx) (qe_var 2) (qe_tup (qa_cons (qe_str [106, 111, 117, 114, 110, 97, 108]) (qa_cons qe_int (qa_cons (qe_tup qa_nil) qa_nil))))) (qss_cons (qs_ret (QE.mv qe_bl)) qss_nil) qss_nil) (qss_cons (qs_for (passes_of rfl) rfl (qi_range1 (qa_cons qe_int qa_nil) E.b_range (len_cons len_nil)) (qg_name nd__law_right rfl (Or.inl rfl)) (qss_cons (qs_set (by decide) nd__law_right rfl (Or.inl rfl) (QE.mv (QM.vw (km_call G__law_deed hg (hr.mono (by decide)) h__law_deed D__law_deed.kp (kb__law_deed D__law_deed) tk (qar_p 0 (qar_v (qe_var 2) qar_nil)) (rlen_p (rlen_v rlen_nil)))))) (qss_cons (qs_par rfl nd__law_right rfl rfl (qms_cons (QE.mv (ke_repr (K := K) hg hrx E.b_repr (qa_cons (QM.vw (qm_lst (qa_cons (qe_var 2) (qa_cons (qe_var 4) qa_nil)))) qa_nil))) (qms_cons (QE.mv (QM.vw (km_call G__law_word hg (hr.mono (by decide)) h__law_word D__law_word.kp (kb__law_word D__law_word) tk (qar_v (qe_var 2) (qar_v (qe_var 4) qar_nil)) (rlen_v (rlen_v rlen_nil))))) qms_nil)) rfl) (qss_cons (qs_if (QW.qt (qw_or (qt_cmp (kq_ne (K := K) hrx) (ke_repr (K := K) hg hrx E.b_repr (qa_cons (QM.vw (qm_lst (qa_cons (QM.vw (km_call G_wrong_word hg (hr.mono (by decide)) h_wrong_word D_wrong_word.kp (kb_wrong_word D_wrong_word) tk (qar_v (qe_var 2) (qar_v (qe_var 4) qar_nil)) (rlen_v (rlen_v rlen_nil)))) (qa_cons (QM.vw (km_callk0 [1, 0] G_wrong_word hg (hr.mono (by decide)) h_wrong_word D_wrong_word.kp (kbk2_wrong_word D_wrong_word) tk (qkr_v (qe_var 4) (qkr_v (qe_var 2) qkr_nil)) (rlen_v (rlen_v rlen_nil)) (lk_kbk2_wrong_word))) qa_nil)))) qa_nil)) (ke_repr (K := K) hg hrx E.b_repr (qa_cons (QM.vw (qm_lst (qa_cons (qe_var 6) (qa_cons (qe_var 6) qa_nil)))) qa_nil))) (qw_or1 (qt_not (kt_tru (K := K) (QM.vw (km_call G__law_bodies_right hg (hr.mono (by decide)) h__law_bodies_right D__law_bodies_right.kp (kb__law_bodies_right D__law_bodies_right) tk (qar_p 1 (qar_v (qe_var 4) qar_nil)) (rlen_p (rlen_v rlen_nil))))))))) (qss_cons (qs_ret (QE.mv qe_bl)) qss_nil) qss_nil) (qss_cons (qs_if (qt_cmp cq_is (qe_var 6) qe_non) (qss_cons (qs_set (by decide) nd__law_right rfl (Or.inl rfl) (QE.mv (QM.vw (km_call G__law_with hg (hr.mono (by decide)) h__law_with D__law_with.kp (kb__law_with D__law_with) tk (qar_v (qe_var 2) (qar_v (qe_var 4) qar_nil)) (rlen_v (rlen_v rlen_nil)))))) (qss_cons (qs_if (QW.qt (qw_or (qt_cmp (kq_ne (K := K) hrx) (ke_repr (K := K) hg hrx E.b_repr (qa_cons (QM.vw (qm_lst (qa_cons (QM.vw (km_call G_with_deed hg (hr.mono (by decide)) h_with_deed D_with_deed.kp (kb_with_deed D_with_deed) tk (qar_v (qe_var 2) (qar_v (qe_var 4) qar_nil)) (rlen_v (rlen_v rlen_nil)))) (qa_cons (QM.vw (km_callk0 [1, 0] G_with_deed hg (hr.mono (by decide)) h_with_deed D_with_deed.kp (kbk3_with_deed D_with_deed) tk (qkr_v (qe_var 4) (qkr_v (qe_var 2) qkr_nil)) (rlen_v (rlen_v rlen_nil)) (lk_kbk3_with_deed))) qa_nil)))) qa_nil)) (ke_repr (K := K) hg hrx E.b_repr (qa_cons (QM.vw (qm_lst (qa_cons (qe_var 7) (qa_cons (qe_var 7) qa_nil)))) qa_nil))) (qw_or1 (qt_cmp (kq_ne (K := K) hrx) (ke_repr (K := K) hg hrx E.b_repr (qa_cons (QM.vw (qm_lst (qa_cons (qe_var 2) (qa_cons (qe_var 4) qa_nil)))) qa_nil)) (qe_var 5))))) (qss_cons (qs_ret (QE.mv qe_bl)) qss_nil) qss_nil) (qss_cons (qs_set (by decide) nd__law_right rfl (Or.inr rfl) (QE.mv (qe_var 7))) qss_nil))) qss_nil) (qss_cons (qs_set (by decide) nd__law_right rfl (Or.inl rfl) (km_call G_in_doubt hg (hr.mono (by decide)) h_in_doubt D_in_doubt.kp (kb_in_doubt D_in_doubt) tk (qar_v (qe_var 2) qar_nil) (rlen_v rlen_nil))) (qss_cons (qs_if (qt_cmp (kq_ne (K := K) hrx) (QE.scope (ke_repr (K := K) hg hrx E.b_repr (qa_cons (QM.vw (qm_lst (qa_cons (qe_var 8) (qa_cons (QM.vw (km_callk0 [0] G_in_doubt hg (hr.mono (by decide)) h_in_doubt D_in_doubt.kp (kbk4_in_doubt D_in_doubt) tk (qkr_v (qe_var 2) qkr_nil) (rlen_v rlen_nil) (lk_kbk4_in_doubt))) qa_nil)))) qa_nil))) (ke_repr (K := K) hg hrx E.b_repr (qa_cons (QM.vw (qm_rep (QM.vw (qm_lst (qa_cons (QM.vw (km_call G__law_doubt hg (hr.mono (by decide)) h__law_doubt D__law_doubt.kp (kb__law_doubt D__law_doubt) tk (qar_v (qe_var 2) qar_nil) (rlen_v rlen_nil))) qa_nil))) qe_int)) qa_nil))) (qss_cons (qs_ret (QE.mv qe_bl)) qss_nil) qss_nil) (qss_cons (qs_app 8 qe_non) qss_nil)))))))) (qss_cons (qs_for (passes_of rfl) rfl (ki_any (K := K) (ke_add (K := K) (QM.vw (qm_lst (qa_cons (qe_var 2) (qa_cons qe_non (qa_cons (qe_tup (qa_cons (qe_str [106, 111, 117, 114, 110, 97, 108]) (qa_cons qe_int (qa_cons (qe_tup (qa_cons (qe_tup (qa_cons qe_int (qa_cons (qe_str []) (qa_cons qe_int (qa_cons qe_int (qa_cons qe_bl qa_nil)))))) qa_nil)) qa_nil)))) qa_nil))))) (QM.vw (qm_lc (own := [("turn", 3)]) rfl nd__law_right (qi_range1 (qa_cons qe_int qa_nil) E.b_range (len_cons len_nil)) rfl (fun _ _ _ _ _ => (qg_name nd__law_right rfl (by first | exact Or.inl rfl | exact Or.inr rfl))) (fun _ _ _ _ _ => qts_nil) (fun _ _ _ _ _ => (QM.vw (km_call G__law_bent hg (hr.mono (by decide)) h__law_bent D__law_bent.kp (kb__law_bent D__law_bent) takes0 (qar_p 1 (qar_v (qe_var 2) qar_nil)) (rlen_p (rlen_v rlen_nil))))))))) (qg_name nd__law_right rfl (Or.inl rfl)) (qss_cons (qs_set (by decide) nd__law_right rfl (Or.inl rfl) (QE.mv (QM.vw (km_call G__law_is_journal hg (hr.mono (by decide)) h__law_is_journal D__law_is_journal.kp (kb__law_is_journal D__law_is_journal) tk (qar_v (qe_var 9) qar_nil) (rlen_v rlen_nil))))) (qss_cons (qs_if (qt_cmp (kq_ne (K := K) hrx) (ke_repr (K := K) hg hrx E.b_repr (qa_cons (QM.vw (qm_lst (qa_cons (QM.vw (km_call G_is_journal hg (hr.mono (by decide)) h_is_journal D_is_journal.kp (kb_is_journal D_is_journal) tk (qar_v (qe_var 9) qar_nil) (rlen_v rlen_nil))) (qa_cons (QM.vw (km_callk0 [0] G_is_journal hg (hr.mono (by decide)) h_is_journal D_is_journal.kp (kbk5_is_journal D_is_journal) tk (qkr_v (qe_var 9) qkr_nil) (rlen_v rlen_nil) (lk_kbk5_is_journal))) qa_nil)))) qa_nil)) (ke_repr (K := K) hg hrx E.b_repr (qa_cons (QM.vw (qm_lst (qa_cons (qe_var 10) (qa_cons (qe_var 10) qa_nil)))) qa_nil))) (qss_cons (qs_ret (QE.mv qe_bl)) qss_nil) qss_nil) qss_nil))) (qss_cons (qs_ret (QE.mv (qe_cmp (kq_eq (K := K) hrx) (ke_repr (K := K) hg hrx E.b_repr (qa_cons (QM.vw (km_call G_in_doubt hg (hr.mono (by decide)) h_in_doubt D_in_doubt.kp (kb_in_doubt D_in_doubt) tk (qar_v (qe_var 2) qar_nil) (rlen_v rlen_nil))) qa_nil)) (ke_repr (K := K) hg hrx E.b_repr (qa_cons (QM.vw (km_call G__law_doubt hg (hr.mono (by decide)) h__law_doubt D__law_doubt.kp (kb__law_doubt D__law_doubt) tk (qar_v (qe_var 2) qar_nil) (rlen_v rlen_nil))) qa_nil))))) qss_nil)))))⟩
theorem g_law {P : Program} {w : World} {base : Heap} {K : PySem.W.Frag} {mg : Str → Option Value} (E : Fx K mg) : Callee P w base K mg "law" s_law ["script"] 0 1 10 f_law := by
  obtain ⟨f, fd, D, hm⟩ := E.d_law
  obtain ⟨_, _, D__law_pot, h__law_pot, G__law_pot⟩ := g__law_pot (P := P) (w := w) (base := base) E
  obtain ⟨_, _, D__law_right, h__law_right, G__law_right⟩ := g__law_right (P := P) (w := w) (base := base) E
  refine ⟨f, fd, D, hm, ?_⟩
  refine fn_ok 0 1 3 e_law D sc_law rfl rfl (by decide) fun cdv A outer sh H Ex hg hr tk => ?_
  have hrx : ∃ k, Room k (A.deeper (envOfC "law" (defScope s_law) sh.heap.objs.size f cdv)) := ⟨_, hr⟩
  exact ⟨_, (qss_cons (qs_parT rfl (qms_cons (km_call G__law_pot hg (hr.mono (by decide)) h__law_pot D__law_pot.kp (kb__law_pot D__law_pot) tk (qar_v (qe_var 0) (qar_v qe_int qar_nil)) (rlen_v (rlen_v rlen_nil))) (qms_cons (km_call G__law_pot hg (hr.mono (by decide)) h__law_pot D__law_pot.kp (kb__law_pot D__law_pot) tk (qar_v (qe_var 0) (qar_v qe_int qar_nil)) (rlen_v (rlen_v rlen_nil))) qms_nil)) (pgn_cons nd_law rfl (Or.inr rfl) (pgn_cons nd_law rfl (Or.inr rfl) PGN.nil))) (qss_cons (qs_ret (QE.mv (ke_all (K := K) E.b_all (qa_cons (QM.vw (qm_lc (own := [("turn", 3)]) rfl nd_law (qi_range1 (qa_cons qe_int qa_nil) E.b_range (len_cons len_nil)) rfl (fun _ _ _ _ _ => (qg_name nd_law rfl (by first | exact Or.inl rfl | exact Or.inr rfl))) (fun _ _ _ _ _ => qts_nil) (fun _ _ _ _ _ => (QM.vw (km_call G__law_right hg (hr.mono (by decide)) h__law_right D__law_right.kp (kb__law_right D__law_right) takes0 (qar_p 1 (qar_p 2 qar_nil)) (rlen_p (rlen_p rlen_nil))))))) qa_nil)))) qss_nil))⟩
end K78

set_option Elab.async false
set_option linter.all false
set_option maxRecDepth 100000
set_option maxHeartbeats 4000000
namespace K78
open PySem PySem.Spec PyProof.Rows L2 Mv
/-! ### looks at values -/
def isI : PV → Bool
  | .int _ => true
  | _ => false
theorem is_integer_eq (v : PV) (h : v.tyOk = true) : f_is_integer [.fz v] = .ok (.fz (.bl (isI v))) [] := by
  rw [r_is_integer]
  unfold e_is_integer
  cases v <;> first | (simp [isI, isT]; done) | cases h
def btw (lo hi : Int) : PV → Bool
  | .int i => decide (lo ≤ i) && decide (i ≤ hi)
  | _ => false
theorem is_between_eq (v : PV) (lo hi : Int) (h : v.tyOk = true) : f_is_between [.fz v, .fz (.int lo), .fz (.int hi)] = .ok (.fz (.bl (btw lo hi v))) [] := by
  rw [r_is_between]
  unfold e_is_between
  have e := is_integer_eq v h
  cases v with
  | int i =>
    simp [e, isI, btw]
    by_cases h1 : lo ≤ i <;> simp [h1]
  | _ => first | (simp [e, isI, btw]; done) | cases h
def cnt : PV → Bool
  | .int i => decide (0 ≤ i)
  | _ => false
theorem is_count_eq (v : PV) (h : v.tyOk = true) : f_is_count [.fz v] = .ok (.fz (.bl (cnt v))) [] := by
  rw [r_is_count]
  unfold e_is_count
  have e := is_integer_eq v h
  cases v with
  | int i => simp [e, isI, cnt]
  | _ => first | (simp [e, isI, cnt]; done) | cases h
def sg (c : Nat) : Bool := c == 10 || (decide (32 ≤ c) && decide (c ≤ 126))
theorem c_are_signs (s : Tx) (hl : s.length ≤ 16777216) : c_are_signs_1 [some (.fz (.str s)), none] = .ok (.ml (s.map fun c => .fz (.bl (sg c)))) [some (.fz (.str s)), none] := by
  unfold c_are_signs_1
  rw [sLc_map (ρ1 := [some (.fz (.str s)), none]) (items := s.map fun c => .str [c]) (fun p => match p with | .str [c] => .bl (sg c) | _ => .non) (by simp) (by simpa using hl) (fun p hp => by
      obtain ⟨c, _, rfl⟩ := List.mem_map.mp hp
      refine ⟨[some (.fz (.str s)), some (.fz (.str [c]))], [some (.fz (.str s)), some (.fz (.str [c]))], [some (.fz (.str s)), some (.fz (.str [c]))], by simp, by simp, ?_, by simp⟩
      simp only [eOr_ap, eBool_ap, eOp_ap, eVar_ap, ret_ap, pEq_str, eChain_ap, pLe_str]
      by_cases h : c = 10
      · subst h; simp [sg]
      · by_cases h2 : c < 32
        · simp [sg, h, lt1, h2]; omega
        · have h3 : 32 ≤ c := by omega
          by_cases h4 : 126 < c
          · simp [sg, h, lt1, h2, h4, h3]
          · simp [sg, h, lt1, h2, h4, h3]; omega)]
  simp [Function.comp_def]
theorem are_signs_str (s : Tx) (hl : s.length ≤ 16777216) : f_are_signs [.fz (.str s)] = .ok (.fz (.bl (s.all sg))) [] := by
  rw [r_are_signs]
  unfold e_are_signs
  simp [c_are_signs s hl]
def sgn : PV → Bool
  | .str s => s.all sg
  | _ => false
theorem are_signs_eq (v : PV) (h : v.wel = true) : f_are_signs [.fz v] = .ok (.fz (.bl (sgn v))) [] := by
  by_cases hs : ∃ s, v = .str s
  · obtain ⟨s, rfl⟩ := hs
    simp at h
    exact are_signs_str s h
  · rw [r_are_signs]
    unfold e_are_signs
    cases v <;> first | (simp [sgn, isT]; done) | exact absurd ⟨_, rfl⟩ hs | cases h
theorem is_body_str (s : Tx) (hl : s.length ≤ 16777216) : f_is_body [.fz (.str s)] = .ok (.fz (.bl (decide (1 ≤ s.length) && decide (s.length ≤ 5000) && s.all sg))) [] := by
  rw [r_is_body]
  unfold e_is_body
  have e := are_signs_str s hl
  have h1 : (1 : Int) ≤ (s.length : Int) ↔ 1 ≤ s.length := by omega
  have h2 : (s.length : Int) ≤ 5000 ↔ s.length ≤ 5000 := by omega
  by_cases c1 : 1 ≤ s.length <;> by_cases c2 : s.length ≤ 5000 <;> simp [e, hl, h1, h2, c1, c2]
end K78

set_option Elab.async false
set_option linter.all false
set_option maxRecDepth 100000
set_option maxHeartbeats 4000000
namespace K78
open PySem PySem.Spec PyProof.Rows L2 Mv
/-! ### deeds by their form -/
def tSheet : Tx := [115, 104, 101, 101, 116]
def tAsk : Tx := [97, 115, 107]
def tDone : Tx := [100, 111, 110, 101]
def tDrop : Tx := [100, 114, 111, 112]
def tEpoch : Tx := [101, 112, 111, 99, 104]
def tJournal : Tx := [106, 111, 117, 114, 110, 97, 108]
def shortT : PV → Bool
  | .str s => decide (s.length ≤ 4000)
  | _ => false
/-- how many numbers a word wants -/
def manyOf (w : Tx) : Option Nat := if w = tAsk then some 2 else if w = tDone then some 2 else if w = tDrop then some 1 else if w = tEpoch then some 0 else none
def dRt (w : Tx) (rest : List PV) : Bool := if w = tSheet then (match rest with
    | [a, b] => btw 1 2000 a && (sgn b && shortT b)
    | _ => false)
  else match manyOf w with
    | some n => decide (rest.length = n) && rest.all (btw 0 2000)
    | none => false
def dR : PV → Bool
  | .tup (.str w :: rest) => dRt w rest
  | _ => false
theorem c_deed_is_right (a b c : Option MV) (rest : List PV) (h : PV.wels rest = true) (hl : rest.length ≤ 16777216) : c_deed_is_right_1 [a, b, some (.fz (.tup rest)), c, none] = .ok (.ml (rest.map fun p => .fz (.bl (btw 0 2000 p)))) [a, b, some (.fz (.tup rest)), c, none] := by
  unfold c_deed_is_right_1
  rw [sLc_map (ρ1 := [a, b, some (.fz (.tup rest)), c, none]) (items := rest) (fun p => .bl (btw 0 2000 p)) (by simp) hl (fun p hp => by
      have ht := wel_ty (wels_iff.mp h p hp)
      exact ⟨[a, b, some (.fz (.tup rest)), c, some (.fz p)], [a, b, some (.fz (.tup rest)), c, some (.fz p)], [a, b, some (.fz (.tup rest)), c, some (.fz p)], by simp, by simp, by simp [is_between_eq p 0 2000 ht], by simp⟩)]
  simp [Function.comp_def]
theorem deed_str (w : Tx) (rest : List PV) (h : PV.wels rest = true) (hl : rest.length ≤ 16777216) : f_deed_is_right [.fz (.tup (.str w :: rest))] = .ok (.fz (.bl (dRt w rest))) [] := by
  rw [r_deed_is_right]
  unfold e_deed_is_right dRt
  have hc := fun a b c => c_deed_is_right a b c rest h hl
  have h0 : ((rest.length : Int) + 1 = 0) ↔ False := iff_false_intro (by omega)
  by_cases hw : w = tSheet
  · rw [if_pos hw]
    subst hw
    match rest, h with
    | [], _ => simp [tSheet]
    | [a], _ => simp [tSheet]
    | [a, b], h =>
      simp at h
      have e1 := is_between_eq a 1 2000 (wel_ty h.1)
      have e2 := are_signs_eq b h.2
      by_cases c1 : btw 1 2000 a = true
      · by_cases c2 : sgn b = true
        · cases b with
          | str s =>
            have hs : s.length ≤ 16777216 := by simpa using h.2
            have h3 : ((s.length : Int) ≤ 4000) ↔ s.length ≤ 4000 := by omega
            simp [tSheet, e1, e2, c1, c2, hs, shortT, h3]
          | _ => cases c2
        · simp [tSheet, e1, e2, c1, c2]
      · simp [tSheet, e1, e2, c1]
    | a :: b :: c :: r, _ =>
      have h3 : ((r.length : Int) + 1 + 1 + 1 = 2) ↔ False := iff_false_intro (by omega)
      have h4 : ((r.length : Int) + 1 + 1 + 1 + 1 = 0) ↔ False := iff_false_intro (by omega)
      simp [tSheet, h3, h4]
  · rw [if_neg hw]
    have hw' : ¬ w = [115, 104, 101, 101, 116] := hw
    unfold manyOf
    by_cases w1 : w = tAsk
    · rw [if_pos w1]
      subst w1
      have h2 : ((rest.length : Int) = 2) ↔ rest.length = 2 := by omega
      by_cases c : rest.length = 2 <;> simp [tAsk, h0, h2, c, hc]
    · rw [if_neg w1]
      have w1' : ¬ [97, 115, 107] = w := fun e => w1 e.symm
      by_cases w2 : w = tDone
      · rw [if_pos w2]
        subst w2
        have h2 : ((rest.length : Int) = 2) ↔ rest.length = 2 := by omega
        by_cases c : rest.length = 2 <;> simp [tDone, h0, h2, c, hc]
      · rw [if_neg w2]
        have w2' : ¬ [100, 111, 110, 101] = w := fun e => w2 e.symm
        by_cases w3 : w = tDrop
        · rw [if_pos w3]
          subst w3
          have h2 : ((rest.length : Int) = 1) ↔ rest.length = 1 := by omega
          by_cases c : rest.length = 1 <;> simp [tDrop, h0, h2, c, hc]
        · rw [if_neg w3]
          have w3' : ¬ [100, 114, 111, 112] = w := fun e => w3 e.symm
          by_cases w4 : w = tEpoch
          · rw [if_pos w4]
            subst w4
            have h2 : ((rest.length : Int) = 0) ↔ rest.length = 0 := by omega
            by_cases c : rest.length = 0 <;> simp [tEpoch, h0, h2, c, hc]
          · rw [if_neg w4]
            have w4' : ¬ [101, 112, 111, 99, 104] = w := fun e => w4 e.symm
            simp [h0, hw', w1', w2', w3', w4']
theorem deed_is_right_eq (v : PV) (h : v.wel = true) (hl : ∀ xs, v = .tup xs → xs.length ≤ 16777216) : f_deed_is_right [.fz v] = .ok (.fz (.bl (dR v))) [] := by
  cases v with
  | tup xs =>
    have hl := hl xs rfl
    cases xs with
    | nil =>
      rw [r_deed_is_right]
      unfold e_deed_is_right
      simp [dR]
    | cons a r =>
      simp at h
      have h0 : ((r.length : Int) + 1 = 0) ↔ False := iff_false_intro (by omega)
      rw [List.length_cons] at hl
      cases a with
      | str w => exact deed_str w r h.2 (by omega)
      | dic ks vs => rw [PV.wel] at h; exact absurd h.1 (by simp)
      | scr z => rw [PV.wel] at h; exact absurd h.1 (by simp)
      | opq z => rw [PV.wel] at h; exact absurd h.1 (by simp)
      | _ =>
        rw [r_deed_is_right]
        unfold e_deed_is_right
        simp [dR, h0, isT]
  | dic ks vs => rw [PV.wel] at h; cases h
  | scr z => rw [PV.wel] at h; cases h
  | opq z => rw [PV.wel] at h; cases h
  | _ =>
    rw [r_deed_is_right]
    unfold e_deed_is_right
    simp [dR]
end K78

set_option Elab.async false
set_option linter.all false
set_option maxRecDepth 100000
set_option maxHeartbeats 4000000
namespace K78
open PySem PySem.Spec PyProof.Rows L2 Mv
theorem is_numeral_eq (t : Tx) (hl : t.length ≤ 16777216) : f_is_numeral [.fz (.str t)] = .ok (.fz (.bl (isNum t))) [] := by
  rw [r_is_numeral]
  unfold e_is_numeral
  have hc : c_is_numeral_1 [some (.fz (.str t)), none] = .ok (.ml (t.map fun c => .fz (.bl (dig c)))) [some (.fz (.str t)), none] := by
    unfold c_is_numeral_1
    rw [sLc_map (ρ1 := [some (.fz (.str t)), none]) (items := t.map fun c => .str [c]) (fun p => match p with | .str [c] => .bl (dig c) | _ => .non) (by simp) (by simpa using hl) (fun p hp => by
      obtain ⟨c, _, rfl⟩ := List.mem_map.mp hp
      exact ⟨[some (.fz (.str t)), some (.fz (.str [c]))], [some (.fz (.str t)), some (.fz (.str [c]))], [some (.fz (.str t)), some (.fz (.str [c]))], by simp, by simp, by simp; exact fig2 c, by simp⟩)]
    simp [Function.comp_def]
  unfold isNum
  have h1 : (1 : Int) ≤ (t.length : Int) ↔ 1 ≤ t.length := by omega
  have h2 : (t.length : Int) ≤ 4 ↔ t.length ≤ 4 := by omega
  by_cases c1 : 1 ≤ t.length
  · by_cases c2 : t.length ≤ 4
    · by_cases c3 : t.all dig = true
      · match t, c1, c2 with
        | [a], _, c2 =>
          have c4 : dig a = true := by simpa using c3
          simp [hc, c4]
        | a :: b :: r, _, c2 =>
          have h4 : ((r.length : Int) + 1 + 1 = 1) ↔ False := iff_false_intro (by omega)
          simp only [List.length_cons] at hl c2
          have h5 : r.length + 1 + 1 ≤ 16777216 := hl
          have h6 : (r.length : Int) + 1 + 1 ≤ 4 := by omega
          have h7 : r.length + 1 + 1 ≤ 4 := c2
          have h8 : (1 : Int) ≤ (r.length : Int) + 1 + 1 := by omega
          have c4 : dig a = true ∧ dig b = true ∧ ∀ x ∈ r, dig x = true := by simpa using c3
          have c5 : (∃ x, x ∈ r ∧ dig x = false) ↔ False := iff_false_intro fun ⟨x, q1, q2⟩ => by
            rw [c4.2.2 x q1] at q2
            cases q2
          have c6 : r.all dig = true := List.all_eq_true.mpr c4.2.2
          simp [hc, c4.1, c4.2.1, c5, c6, h4, h5, h6, h7, h8]
      · simp [hc, c1, c2, h1, h2, hl, c3]
    · simp [c1, c2, h1, h2, hl]
  · simp [c1, h1, hl]
/-- what the words of a body tell -/
def dF (w : Tx) (rest : List Tx) : PV := if w = tSheet then (match rest with
    | [x, y] => .tup [.str tSheet, numV x, .str y]
    | _ => .tup [])
  else .tup (.str w :: rest.map numV)
/-- a body's deed -/
def dB (b : Tx) : PV := match spCk 32 2 b with
  | [] => .non
  | w :: rest => if dR (dF w rest) = true then dF w rest else .non
theorem spCk_part {c k : Nat} {s p : Tx} (h : p ∈ spCk c k s) : p.length ≤ s.length := by
  unfold spCk at h
  split at h
  · exact spC_part h
  · rcases List.mem_append.mp h with h | h
    · exact spC_part (List.mem_of_mem_take h)
    · rw [List.mem_singleton.mp h]
      have h1 := spC_sum c s
      have e : spC c s = (spC c s).take k ++ (spC c s).drop k := (List.take_append_drop k _).symm
      have hd : (spC c s).drop k ≠ [] := by
        intro q
        rename_i h0
        have := List.drop_eq_nil_iff.mp q
        omega
      have h2 := joinT_len1 c _ hd
      rw [e, List.map_append, List.sum_append, List.length_append] at h1
      omega
theorem spCk_len (c k : Nat) (s : Tx) : (spCk c k s).length ≤ k + 1 ∧ 1 ≤ (spCk c k s).length := by
  have := spC_ne c s
  have h0 : 1 ≤ (spC c s).length := by
    cases e : spC c s with
    | nil => exact absurd e this
    | cons a r => simp
  unfold spCk
  split
  · omega
  · rw [List.length_append, List.length_take, List.length_singleton]
    omega
theorem wel_numV (t : Tx) : (numV t).wel = true := by
  unfold numV
  split <;> simp
theorem deed_by_eq (b : Tx) (hb : b.length ≤ 5000) : f_deed_by [.fz (.str b)] = .ok (.fz (dB b)) [] := by
  rw [r_deed_by]
  unfold e_deed_by dB
  have e1 : pSplitK (.str b) [.str [32], .int 2] = some (.lst ((spCk 32 2 b).map .str)) := by
    rw [pSplitK_str, if_pos ⟨⟨by simp, by omega⟩, by omega, by omega⟩]
    exact congrArg some (strL_splitMax b 32 2)
  have hpart : ∀ p ∈ spCk 32 2 b, p.length ≤ 5000 := fun p hp => Nat.le_trans (spCk_part hp) hb
  have hlen := spCk_len 32 2 b
  generalize spCk 32 2 b = ws at *
  cases ws with
  | nil => exact absurd hlen.2 (by simp)
  | cons w rest =>
    have hr : ∀ p ∈ rest, p.length ≤ 5000 := fun p hp => hpart p (List.mem_cons_of_mem _ hp)
    have hw : w.length ≤ 5000 := hpart w (List.mem_cons_self ..)
    have hl : rest.length ≤ 2 := by simpa using hlen.1
    have hc : c_deed_by_1 [some (.fz (.str b)), some (.fz (.lst (.str w :: rest.map .str))), none, none, none] = .ok (.ml (rest.map fun t => .fz (numV t))) [some (.fz (.str b)), some (.fz (.lst (.str w :: rest.map .str))), none, none, none] := by
      unfold c_deed_by_1
      rw [sLc_map (ρ1 := [some (.fz (.str b)), some (.fz (.lst (.str w :: rest.map .str))), none, none, none]) (items := rest.map .str) (fun p => match p with | .str t => numV t | _ => .non) (by simp) (by rw [List.length_map]; omega) (fun p hp => by
        obtain ⟨t, ht, rfl⟩ := List.mem_map.mp hp
        have htl := hr t ht
        refine ⟨[some (.fz (.str b)), some (.fz (.lst (.str w :: rest.map .str))), none, none, some (.fz (.str t))], [some (.fz (.str b)), some (.fz (.lst (.str w :: rest.map .str))), none, none, some (.fz (.str t))], [some (.fz (.str b)), some (.fz (.lst (.str w :: rest.map .str))), none, none, some (.fz (.str t))], by simp, by simp, ?_, by simp⟩
        have e := is_numeral_eq t (by omega)
        unfold numV
        by_cases hn : isNum t = true
        · obtain ⟨n1, n2, n3⟩ := isNum_some hn
          simp [e, hn, pInt_digs t n3 n1 (by omega), -pInt_str]
        · simp [e, hn])]
      simp [Function.comp_def]
    have e1 : pSplitK (.str b) [.str [32], .int 2] = some (.lst (.str w :: rest.map .str)) := e1
    by_cases hs : w = tSheet
    · subst hs
      unfold tSheet at hc e1
      match rest, hl with
      | [], _ =>
        rw [List.map_nil] at hc e1
        simp [-pSplitK_str, e1, hc, tSheet, deed_is_right_eq, dR, dF]
      | [x], _ =>
        rw [List.map_singleton] at hc e1
        simp [-pSplitK_str, e1, hc, tSheet, deed_is_right_eq, dR, dF]
      | [x, y], _ =>
        rw [List.map_cons, List.map_singleton] at hc e1
        have hx := hr x (by simp)
        have hy := hr y (by simp)
        have e2 := deed_str tSheet [numV x, .str y] (by simp [wel_numV]; omega) (by simp)
        have e4 : dF tSheet [x, y] = .tup [.str tSheet, numV x, .str y] := rfl
        show _ = RF.ok (MV.fz (if dR (dF tSheet [x, y]) = true then dF tSheet [x, y] else .non)) []
        rw [e4]
        have e3 : dR (.tup [.str tSheet, numV x, .str y]) = dRt tSheet [numV x, .str y] := rfl
        rw [e3]
        by_cases hd : dRt tSheet [numV x, .str y] = true <;> simp [-pSplitK_str, e1, hc, tSheet] at e2 hd ⊢ <;> simp [e2, hd]
    · have hs' : ¬ w = [115, 104, 101, 101, 116] := hs
      have e2 := deed_str w (rest.map numV) (wels_iff.mpr fun x hx => by
        obtain ⟨t, _, rfl⟩ := List.mem_map.mp hx
        exact wel_numV t) (by rw [List.length_map]; omega)
      have e4 : dF w rest = .tup (.str w :: rest.map numV) := if_neg hs
      show _ = RF.ok (MV.fz (if dR (dF w rest) = true then dF w rest else .non)) []
      rw [e4]
      have e3 : dR (.tup (.str w :: rest.map numV)) = dRt w (rest.map numV) := rfl
      have h5 : rest.length + 1 ≤ 16777216 := by omega
      have h6 : 1 + rest.length ≤ 16777216 := by omega
      rw [e3]
      by_cases hd : dRt w (rest.map numV) = true <;> simp [-pSplitK_str, e1, hc, hs', e2, hd, h5, h6]
end K78

set_option Elab.async false
set_option linter.all false
set_option maxRecDepth 100000
set_option maxHeartbeats 4000000
namespace K78
open PySem PySem.Spec PyProof.Rows L2 Mv
/-! ### bodies -/
theorem spCk_three {c : Nat} {p q n : Tx} (hp : c ∉ p) (hq : c ∉ q) : spCk c 2 (joinT [c] [p, q, n]) = [p, q, n] := by
  have e : spC c (joinT [c] [p, q, n]) = p :: q :: spC c n := by
    rw [joinT_two, List.singleton_append, spC_cat _ hp, joinT_two, List.singleton_append, spC_cat _ hq, joinT_one]
  unfold spCk
  rw [e]
  by_cases h : (p :: q :: spC c n).length ≤ 2 + 1
  · rw [if_pos h]
    have h2 := join_spC c n
    cases e2 : spC c n with
    | nil => exact absurd e2 (spC_ne c n)
    | cons a r =>
      rw [e2] at h h2
      cases r with
      | nil => rw [joinT_one] at h2; rw [h2]
      | cons b r => simp at h
  · rw [if_neg h]
    show [p, q] ++ [joinT [c] (spC c n)] = _
    rw [join_spC]
    rfl
theorem spCk_free {c k : Nat} {ps : List Tx} (h0 : ps ≠ []) (h : ∀ p ∈ ps, c ∉ p) (hk : ps.length ≤ k + 1) : spCk c k (joinT [c] ps) = ps := by
  unfold spCk
  rw [spC_join h0 h, if_pos hk]
def partP : PV → Tx
  | .str s => s
  | .int i => numT i
  | _ => []
def okPart : PV → Bool
  | .str _ => true
  | .int i => decide (i.natAbs.log2 < 1920)
  | _ => false
theorem body_by_eq (xs : List PV) (h : ∀ x ∈ xs, okPart x = true) (hl : xs.length ≤ 16777216) (hs : ((xs.map partP).map List.length).sum + xs.length ≤ 16777216) : f_body_by [.fz (.tup xs)] = .ok (.fz (.str (joinT [32] (xs.map partP)))) [] := by
  rw [r_body_by]
  unfold e_body_by
  have hc : c_body_by_1 [some (.fz (.tup xs)), none] = .ok (.ml (xs.map fun x => .fz (.str (partP x)))) [some (.fz (.tup xs)), none] := by
    unfold c_body_by_1
    rw [sLc_map (ρ1 := [some (.fz (.tup xs)), none]) (items := xs) (fun x => .str (partP x)) (by simp) hl (fun p hp => by
      refine ⟨[some (.fz (.tup xs)), some (.fz p)], [some (.fz (.tup xs)), some (.fz p)], [some (.fz (.tup xs)), some (.fz p)], by simp, by simp, ?_, by simp⟩
      have hk := h p hp
      cases p with
      | str s => simp [partP]
      | int i =>
        have hi : i.natAbs.log2 < 1920 := of_decide_eq_true hk
        simp [partP, hi]
      | _ => cases hk)]
    simp [Function.comp_def]
  have e := pJoin_mapf [32] partP xs
  rw [List.length_singleton, Nat.mul_one, if_pos hs] at e
  simp [hc, e]
inductive Dd where
  | sheet (r : Nat) (n : Tx) | ask (a b : Nat) | done (a b : Nat) | drop (a : Nat) | epoch
def Dd.pv : Dd → PV
  | .sheet r n => .tup [.str tSheet, .int r, .str n]
  | .ask a b => .tup [.str tAsk, .int a, .int b]
  | .done a b => .tup [.str tDone, .int a, .int b]
  | .drop a => .tup [.str tDrop, .int a]
  | .epoch => .tup [.str tEpoch]
def Dd.ok : Dd → Prop
  | .sheet r n => 1 ≤ r ∧ r ≤ 2000 ∧ n.all sg = true ∧ n.length ≤ 4000
  | .ask a b => a ≤ 2000 ∧ b ≤ 2000
  | .done a b => a ≤ 2000 ∧ b ≤ 2000
  | .drop a => a ≤ 2000
  | .epoch => True
def Dd.parts : Dd → List Tx
  | .sheet r n => [tSheet, TL.numL r, n]
  | .ask a b => [tAsk, TL.numL a, TL.numL b]
  | .done a b => [tDone, TL.numL a, TL.numL b]
  | .drop a => [tDrop, TL.numL a]
  | .epoch => [tEpoch]
def Dd.body (d : Dd) : Tx := joinT [32] d.parts
theorem num4 {n : Nat} (h : n ≤ 2000) : (TL.numL n).length ≤ 4 := TL.numL_len (by decide) (by omega)
theorem Dd.len {d : Dd} (h : d.ok) : d.body.length ≤ 4020 ∧ 4 ≤ d.body.length := by
  have key : d.body.length + 1 = (d.parts.map List.length).sum + d.parts.length := by
    unfold Dd.body
    exact joinT_len1 32 _ (by cases d <;> simp [Dd.parts])
  cases d with
  | sheet r n =>
    have h1 := num4 h.2.1
    have h2 := h.2.2.2
    have h3 := numL_pos r
    simp [Dd.parts, tSheet] at key
    omega
  | ask a b =>
    have h1 := num4 h.1
    have h2 := num4 h.2
    have h3 := numL_pos a
    simp [Dd.parts, tAsk] at key
    omega
  | done a b =>
    have h1 := num4 h.1
    have h2 := num4 h.2
    have h3 := numL_pos a
    simp [Dd.parts, tDone] at key
    omega
  | drop a =>
    have h1 := num4 h
    simp [Dd.parts, tDrop] at key
    omega
  | epoch =>
    simp [Dd.parts, tEpoch] at key
    omega
theorem dig_sg {c : Nat} (h : dig c = true) : sg c = true := by
  unfold dig at h
  unfold sg
  simp at h ⊢
  omega
theorem num_sg (n : Nat) : (TL.numL n).all sg = true := by
  rw [List.all_eq_true]
  intro c hc
  exact dig_sg (List.all_eq_true.mp (numL_dig n) c hc)
theorem Dd.sg {d : Dd} (h : d.ok) : d.body.all sg = true := by
  rw [List.all_eq_true]
  intro c hc
  rcases mem_joinT [32] d.parts c hc with q | ⟨p, hp, q⟩
  · rw [List.mem_singleton.mp q]; rfl
  · refine List.all_eq_true.mp ?_ c q
    cases d with
    | sheet r n =>
      simp [Dd.parts] at hp
      rcases hp with rfl | rfl | rfl
      · rfl
      · exact num_sg r
      · exact h.2.2.1
    | ask a b =>
      simp [Dd.parts] at hp
      rcases hp with rfl | rfl | rfl
      · rfl
      · exact num_sg a
      · exact num_sg b
    | done a b =>
      simp [Dd.parts] at hp
      rcases hp with rfl | rfl | rfl
      · rfl
      · exact num_sg a
      · exact num_sg b
    | drop a =>
      simp [Dd.parts] at hp
      rcases hp with rfl | rfl
      · rfl
      · exact num_sg a
    | epoch =>
      simp [Dd.parts] at hp
      rw [hp]
      rfl
theorem numV_num {n : Nat} (h : n ≤ 2000) : numV (TL.numL n) = .int n := by
  unfold numV
  rw [if_pos (isNum_num (by omega)), val_num]
theorem btw_nat {lo hi n : Nat} (h1 : lo ≤ n) (h2 : n ≤ hi) : btw lo hi (.int n) = true := by
  unfold btw
  simp
  omega
theorem Dd.right {d : Dd} (h : d.ok) : dR d.pv = true := by
  cases d with
  | sheet r n =>
    obtain ⟨h1, h2, h3, h4⟩ := h
    show dRt tSheet [.int r, .str n] = true
    unfold dRt
    rw [if_pos rfl]
    show (btw 1 2000 (.int r) && (sgn (.str n) && shortT (.str n))) = true
    rw [show btw 1 2000 (.int r) = true from btw_nat (lo := 1) (hi := 2000) h1 h2]
    simp [sgn, shortT]
    exact ⟨fun c hc => List.all_eq_true.mp h3 c hc, h4⟩
  | ask a b =>
    show dRt tAsk [.int a, .int b] = true
    have e1 := btw_nat (lo := 0) (hi := 2000) (Nat.zero_le _) h.1
    have e2 := btw_nat (lo := 0) (hi := 2000) (Nat.zero_le _) h.2
    unfold dRt
    rw [if_neg (by decide)]
    show (decide (([.int a, .int b] : List PV).length = 2) && ([.int a, .int b] : List PV).all (btw 0 2000)) = true
    simp only [List.all_cons, List.all_nil, Bool.and_true]
    rw [show btw 0 2000 (.int a) = true from e1, show btw 0 2000 (.int b) = true from e2]
    rfl
  | done a b =>
    show dRt tDone [.int a, .int b] = true
    have e1 := btw_nat (lo := 0) (hi := 2000) (Nat.zero_le _) h.1
    have e2 := btw_nat (lo := 0) (hi := 2000) (Nat.zero_le _) h.2
    unfold dRt
    rw [if_neg (by decide)]
    show (decide (([.int a, .int b] : List PV).length = 2) && ([.int a, .int b] : List PV).all (btw 0 2000)) = true
    simp only [List.all_cons, List.all_nil, Bool.and_true]
    rw [show btw 0 2000 (.int a) = true from e1, show btw 0 2000 (.int b) = true from e2]
    rfl
  | drop a =>
    show dRt tDrop [.int a] = true
    have e1 := btw_nat (lo := 0) (hi := 2000) (Nat.zero_le _) h
    unfold dRt
    rw [if_neg (by decide)]
    show (decide (([.int a] : List PV).length = 1) && ([.int a] : List PV).all (btw 0 2000)) = true
    simp only [List.all_cons, List.all_nil, Bool.and_true]
    rw [show btw 0 2000 (.int a) = true from e1]
    rfl
  | epoch => rfl
theorem num_free (n : Nat) : 32 ∉ TL.numL n := TL.numL_free (by omega)
/-- a deed's body tells the deed -/
theorem dB_body {d : Dd} (h : d.ok) : dB d.body = d.pv := by
  have hr := Dd.right h
  have sp : spCk 32 2 d.body = d.parts := by
    cases d with
    | sheet r n => exact spCk_three (by decide) (num_free r)
    | ask a b =>
      refine spCk_free (by simp [Dd.parts]) (fun p hp => ?_) (by simp [Dd.parts])
      simp [Dd.parts] at hp
      rcases hp with rfl | rfl | rfl
      · decide
      · exact num_free _
      · exact num_free _
    | done a b =>
      refine spCk_free (by simp [Dd.parts]) (fun p hp => ?_) (by simp [Dd.parts])
      simp [Dd.parts] at hp
      rcases hp with rfl | rfl | rfl
      · decide
      · exact num_free _
      · exact num_free _
    | drop a =>
      refine spCk_free (by simp [Dd.parts]) (fun p hp => ?_) (by simp [Dd.parts])
      simp [Dd.parts] at hp
      rcases hp with rfl | rfl
      · decide
      · exact num_free _
    | epoch =>
      refine spCk_free (by simp [Dd.parts]) (fun p hp => ?_) (by simp [Dd.parts])
      simp [Dd.parts] at hp
      rw [hp]
      decide
  unfold dB
  rw [sp]
  cases d with
  | sheet r n =>
    have e : dF tSheet [TL.numL r, n] = Dd.pv (.sheet r n) := by
      show PV.tup [.str tSheet, numV (TL.numL r), .str n] = _
      rw [numV_num h.2.1]
      rfl
    show (if dR (dF tSheet [TL.numL r, n]) = true then dF tSheet [TL.numL r, n] else .non) = _
    rw [e, if_pos hr]
  | ask a b =>
    have e : dF tAsk [TL.numL a, TL.numL b] = Dd.pv (.ask a b) := by
      show PV.tup [.str tAsk, numV (TL.numL a), numV (TL.numL b)] = _
      rw [numV_num h.1, numV_num h.2]
      rfl
    show (if dR (dF tAsk [TL.numL a, TL.numL b]) = true then dF tAsk [TL.numL a, TL.numL b] else .non) = _
    rw [e, if_pos hr]
  | done a b =>
    have e : dF tDone [TL.numL a, TL.numL b] = Dd.pv (.done a b) := by
      show PV.tup [.str tDone, numV (TL.numL a), numV (TL.numL b)] = _
      rw [numV_num h.1, numV_num h.2]
      rfl
    show (if dR (dF tDone [TL.numL a, TL.numL b]) = true then dF tDone [TL.numL a, TL.numL b] else .non) = _
    rw [e, if_pos hr]
  | drop a =>
    have e : dF tDrop [TL.numL a] = Dd.pv (.drop a) := by
      show PV.tup [.str tDrop, numV (TL.numL a)] = _
      rw [numV_num h]
      rfl
    show (if dR (dF tDrop [TL.numL a]) = true then dF tDrop [TL.numL a] else .non) = _
    rw [e, if_pos hr]
  | epoch =>
    have e : dF tEpoch [] = Dd.pv .epoch := rfl
    show (if dR (dF tEpoch []) = true then dF tEpoch [] else .non) = _
    rw [e, if_pos hr]
def Dd.vs : Dd → List PV
  | .sheet r n => [.str tSheet, .int r, .str n]
  | .ask a b => [.str tAsk, .int a, .int b]
  | .done a b => [.str tDone, .int a, .int b]
  | .drop a => [.str tDrop, .int a]
  | .epoch => [.str tEpoch]
theorem Dd.pv_vs (d : Dd) : d.pv = .tup d.vs := by cases d <;> rfl
theorem nat_log {n : Nat} (h : n ≤ 2000) : (n : Int).natAbs.log2 < 1920 := log_ok (by omega)
theorem Dd.okParts {d : Dd} (h : d.ok) : ∀ x ∈ d.vs, okPart x = true := by
  intro x hx
  cases d with
  | sheet r n =>
    simp [Dd.vs] at hx
    rcases hx with rfl | rfl | rfl
    · rfl
    · exact decide_eq_true (nat_log h.2.1)
    · rfl
  | ask a b =>
    simp [Dd.vs] at hx
    rcases hx with rfl | rfl | rfl
    · rfl
    · exact decide_eq_true (nat_log h.1)
    · exact decide_eq_true (nat_log h.2)
  | done a b =>
    simp [Dd.vs] at hx
    rcases hx with rfl | rfl | rfl
    · rfl
    · exact decide_eq_true (nat_log h.1)
    · exact decide_eq_true (nat_log h.2)
  | drop a =>
    simp [Dd.vs] at hx
    rcases hx with rfl | rfl
    · rfl
    · exact decide_eq_true (nat_log h)
  | epoch =>
    simp [Dd.vs] at hx
    rw [hx]
    rfl
theorem Dd.map_part (d : Dd) : d.vs.map partP = d.parts := by
  cases d <;> simp [Dd.vs, Dd.parts, partP, numT_nat]
theorem Dd.sum {d : Dd} (h : d.ok) : ((d.vs.map partP).map List.length).sum + d.vs.length ≤ 16777216 := by
  rw [Dd.map_part]
  have key : d.body.length + 1 = (d.parts.map List.length).sum + d.parts.length := by
    unfold Dd.body
    exact joinT_len1 32 _ (by cases d <;> simp [Dd.parts])
  have e : d.vs.length = d.parts.length := by rw [← Dd.map_part, List.length_map]
  have := (Dd.len h).1
  omega
theorem Dd.vs_len (d : Dd) : d.vs.length ≤ 3 := by cases d <;> simp [Dd.vs]
theorem body_by_dd {d : Dd} (h : d.ok) : f_body_by [.fz d.pv] = .ok (.fz (.str d.body)) [] := by
  rw [Dd.pv_vs, body_by_eq _ (Dd.okParts h) (by have := d.vs_len; omega) (Dd.sum h), Dd.map_part]
  rfl
theorem Dd.wel {d : Dd} (h : d.ok) : d.pv.wel = true := by
  cases d with
  | sheet r n =>
    have := h.2.2.2
    simp [Dd.pv, tSheet]
    omega
  | _ => simp [Dd.pv, tAsk, tDone, tDrop, tEpoch]
theorem deed_dd {d : Dd} (h : d.ok) : f_deed_is_right [.fz d.pv] = .ok (.fz (.bl true)) [] := by
  rw [deed_is_right_eq _ (Dd.wel h) fun xs e => by
    rw [Dd.pv_vs] at e
    cases e
    have := d.vs_len
    omega, Dd.right h]
end K78

set_option Elab.async false
set_option linter.all false
set_option maxRecDepth 100000
set_option maxHeartbeats 4000000
namespace K78
open PySem PySem.Spec PyProof.Rows L2 Mv
/-! ### the law's own reading of a body -/
def lN (t : Tx) : PV := if isNum t = true ∧ val t ≤ 2000 then .int (val t) else .non
theorem law_numeral_eq (t : Tx) (hl : t.length ≤ 5000) : f__law_numeral [.fz (.str t)] = .ok (.fz (lN t)) [] := by
  rw [r__law_numeral]
  unfold e__law_numeral
  have hc : ∀ j, c__law_numeral_1 [some (.fz (.str t)), j, none] = .ok (.ml (t.map fun c => .fz (.bl (dig c)))) [some (.fz (.str t)), j, none] := fun j => by
    unfold c__law_numeral_1
    rw [sLc_map (ρ1 := [some (.fz (.str t)), j, none]) (items := t.map fun c => .str [c]) (fun p => match p with | .str [c] => .bl (dig c) | _ => .non) (by simp) (by simp; omega) (fun p hp => by
      obtain ⟨c, _, rfl⟩ := List.mem_map.mp hp
      refine ⟨[some (.fz (.str t)), j, some (.fz (.str [c]))], [some (.fz (.str t)), j, some (.fz (.str [c]))], [some (.fz (.str t)), j, some (.fz (.str [c]))], by simp, by simp, ?_, by simp⟩
      unfold dig
      by_cases h1 : c < 48
      · have h2 : ¬ 48 ≤ c := by omega
        simp [lt1, h1, h2]
      · have h2 : 48 ≤ c := by omega
        by_cases h3 : 57 < c
        · have h4 : ¬ c ≤ 57 := by omega
          simp [lt1, h1, h2, h3, h4]
        · have h4 : c ≤ 57 := by omega
          simp [lt1, h1, h2, h3, h4])]
    simp [Function.comp_def]
  unfold lN
  have hl2 : t.length ≤ 16777216 := by omega
  have h2 : (t.length : Int) ≤ 4 ↔ t.length ≤ 4 := by omega
  cases t with
  | nil => simp [isNum]
  | cons a r =>
    by_cases c3 : (a :: r).all dig = true
    · have c4 : dig a = true ∧ ∀ x ∈ r, dig x = true := by simpa using c3
      have c5 : (∃ x, x ∈ r ∧ dig x = false) ↔ False := iff_false_intro fun ⟨x, q1, q2⟩ => by
        rw [c4.2 x q1] at q2
        cases q2
      have c6 : r.all dig = true := List.all_eq_true.mpr c4.2
      have hl3 : r.length + 1 ≤ 16777216 := by simpa using hl2
      have hl4 : r.length + 1 ≤ 5000 := by simpa using hl
      have h10 : r.length ≤ 16777215 := by omega
      by_cases c7 : r.length ≤ 3
      · have hi := pInt_digs (a :: r) c3 (by simp) (by simp; omega)
        have h5 : (r.length : Int) + 1 ≤ 4 := by omega
        by_cases c8 : a = 48
        · by_cases c9 : r = []
          · subst c9
            subst c8
            have e : isNum [48] = true := by decide
            have e2 : val [48] = 0 := by decide
            rw [if_pos ⟨e, by rw [e2]; omega⟩]
            rw [e2] at hi ⊢
            simp [hc, c4.1, hi, -pInt_str]
          · have e : isNum (a :: r) = false := by
              unfold isNum
              cases r with
              | nil => exact absurd rfl c9
              | cons b r => simp [c8]
            rw [if_neg (by rw [e]; simp)]
            subst c8
            simp [hc, c4.1, c6, c9, h10]
        · have e : isNum (a :: r) = true := by
            unfold isNum
            simp [c8, c4.1, c6, c7]
          rw [e]
          by_cases c10 : val (a :: r) ≤ 2000
          · have h6 : (val (a :: r) : Int) ≤ 2000 := by omega
            simp [hc, c4.1, c6, c8, hl3, h5, hi, -pInt_str, c10, h6]
          · have h6 : ¬ (val (a :: r) : Int) ≤ 2000 := by omega
            simp [hc, c4.1, c6, c8, hl3, h5, hi, -pInt_str, c10, h6]
      · have h5 : ¬ (r.length : Int) + 1 ≤ 4 := by omega
        have e : isNum (a :: r) = false := by
          unfold isNum
          have : ¬ (a :: r).length ≤ 4 := by simp; omega
          simp [this]
          intros
          omega
        rw [if_neg (by rw [e]; simp)]
        by_cases c8 : a = 48
        · have c9 : r ≠ [] := fun q => by rw [q] at c7; simp at c7
          subst c8
          simp [hc, c4.1, c6, c9, h10]
        · simp [hc, c4.1, c6, c8, hl3, h5]
    · have e : isNum (a :: r) = false := by
        unfold isNum
        rw [Bool.not_eq_true] at c3
        rw [c3]
        simp
      rw [if_neg (by rw [e]; simp)]
      by_cases c4 : dig a = true
      · have c5 : ¬ ∀ x ∈ r, dig x = true := fun q => c3 (List.all_eq_true.mpr fun x hx => by
          rcases List.mem_cons.mp hx with rfl | hx
          · exact c4
          · exact q x hx)
        have c6 : r.all dig = false := by
          cases q : r.all dig with
          | false => rfl
          | true => exact absurd (List.all_eq_true.mp q) c5
        simp [hc, c4, c6]
      · simp [hc, c4]
theorem lN_flat (t : Tx) : (lN t).flat = true := by
  unfold lN
  split <;> rfl
def nonQ : PV → Bool
  | .non => true
  | _ => false
theorem lN_eqv (t : Tx) : PV.eqv (lN t) .non = nonQ (lN t) := by
  unfold lN
  split <;> simp [PV.eqv, nonQ]
def manyL (w : Tx) : Nat := if w = tAsk then 3 else if w = tDone then 3 else if w = tDrop then 2 else 0
def ldB (b w : Tx) (rest : List Tx) : PV := if b = tEpoch then .tup [.str tEpoch] else
  match rest with
  | x :: y :: r => if w = tSheet then (match lN x with
      | .int i => if 0 < i ∧ (joinT [32] (y :: r)).length ≤ 4000 then .tup [.str tSheet, .int i, .str (joinT [32] (y :: r))] else .non
      | _ => .non)
    else if (x :: y :: r).length + 1 = manyL w ∧ ((x :: y :: r).map lN).all (fun p => !nonQ p) = true then .tup (.str w :: (x :: y :: r).map lN) else .non
  | rest => if rest.length + 1 = manyL w ∧ (rest.map lN).all (fun p => !nonQ p) = true then .tup (.str w :: rest.map lN) else .non
theorem notin_ok (rest : List Tx) : pNotIn .non (.lst (rest.map lN)) = some (.bl ((rest.map lN).all fun p => !nonQ p)) := by
  unfold pNotIn pyIn
  have h1 : (rest.map lN).all PV.flat = true := by
    rw [List.all_eq_true]
    intro x hx
    obtain ⟨t, _, rfl⟩ := List.mem_map.mp hx
    exact lN_flat t
  have h2 : PV.flat .non = true := rfl
  simp only [h1, h2, Bool.and_true, if_true, Option.map_some]
  congr 2
  clear h1
  induction rest with
  | nil => rfl
  | cons t r ih =>
    rw [List.map_cons, List.any_cons, List.all_cons, lN_eqv, Bool.not_or, ih]
theorem many_ok (w : Tx) : (dGet PV [.inr [97, 115, 107], .inr [100, 111, 110, 101], .inr [100, 114, 111, 112]] [.int 3, .int 3, .int 2] (.inr w)).getD (.int 0) = .int (manyL w) := by
  unfold manyL
  by_cases w1 : w = tAsk
  · subst w1
    rfl
  · rw [if_neg w1]
    have w1' : ¬ [97, 115, 107] = w := fun e => w1 e.symm
    by_cases w2 : w = tDone
    · subst w2
      rfl
    · rw [if_neg w2]
      have w2' : ¬ [100, 111, 110, 101] = w := fun e => w2 e.symm
      by_cases w3 : w = tDrop
      · subst w3
        rfl
      · rw [if_neg w3]
        have w3' : ¬ [100, 114, 111, 112] = w := fun e => w3 e.symm
        simp [w1', w2', w3']
theorem law_deed_of_ld (b w : Tx) (rest : List Tx) (hb : b.length ≤ 5000) (hs : spC 32 b = w :: rest) : f__law_deed_of [.fz (.str b)] = .ok (.fz (ldB b w rest)) [] := by
  rw [r__law_deed_of]
  unfold e__law_deed_of ldB
  have e1 : pSplit (.str b) (.str [32]) = some (.lst (.str w :: rest.map .str)) := by
    rw [pSplit_str, if_pos ⟨by simp, by omega⟩, strL_split, hs]
    rfl
  have hpart : ∀ p ∈ rest, p.length ≤ 5000 := fun p hp => Nat.le_trans (spC_part (c := 32) (s := b) (by rw [hs]; exact List.mem_cons_of_mem _ hp)) hb
  have hlen : rest.length + 1 ≤ 5001 := by
    have := spC_len 32 b
    rw [hs] at this
    simp at this
    omega
  have hc : ∀ j2 j3 j4, c__law_deed_of_1 [some (.fz (.str b)), some (.fz (.lst (.str w :: rest.map .str))), j2, j3, j4, none, none] = .ok (.ml (rest.map fun t => .fz (lN t))) [some (.fz (.str b)), some (.fz (.lst (.str w :: rest.map .str))), j2, j3, j4, none, none] := fun j2 j3 j4 => by
    unfold c__law_deed_of_1
    rw [sLc_map (ρ1 := [some (.fz (.str b)), some (.fz (.lst (.str w :: rest.map .str))), j2, j3, j4, none, none]) (items := rest.map .str) (fun p => match p with | .str t => lN t | _ => .non) (by simp) (by rw [List.length_map]; omega) (fun p hp => by
      obtain ⟨t, ht, rfl⟩ := List.mem_map.mp hp
      refine ⟨[some (.fz (.str b)), some (.fz (.lst (.str w :: rest.map .str))), j2, j3, j4, none, some (.fz (.str t))], [some (.fz (.str b)), some (.fz (.lst (.str w :: rest.map .str))), j2, j3, j4, none, some (.fz (.str t))], [some (.fz (.str b)), some (.fz (.lst (.str w :: rest.map .str))), j2, j3, j4, none, some (.fz (.str t))], by simp, by simp, ?_, by simp⟩
      simp [law_numeral_eq t (hpart t ht)])]
    simp [Function.comp_def]
  have hm := many_ok w
  have hno := notin_ok rest
  have h5 : rest.length + 1 ≤ 16777216 := by omega
  have h6 : 1 + rest.length ≤ 16777216 := by omega
  have h7 : ((rest.length : Int) + 1 = (manyL w : Int)) ↔ rest.length + 1 = manyL w := by omega
  by_cases hb0 : b = tEpoch
  · have hb1 : b = [101, 112, 111, 99, 104] := hb0
    rw [if_pos hb0]
    simp [-pSplit_str, e1, hb1, tEpoch]
    rw [← hb1]
    simp [-pSplit_str, e1]
  · have hb1 : ¬ b = [101, 112, 111, 99, 104] := hb0
    rw [if_neg hb0]
    have last : ∀ v : PV, v = (if rest.length + 1 = manyL w ∧ (rest.map lN).all (fun p => !nonQ p) = true then .tup (.str w :: rest.map lN) else .non) → ¬ (w = tSheet ∧ 2 ≤ rest.length) → fin 0 (e__law_deed_of [some (.fz (.str b)), none, none, none, none, none, none]) = .ok (.fz v) [] := fun v hv hw => by
      have hw2 : (w = [115, 104, 101, 101, 116] ∧ (2 : Int) < (rest.length : Int) + 1) ↔ False := iff_false_intro fun q => hw ⟨q.1, by omega⟩
      rw [hv]
      unfold e__law_deed_of
      by_cases c1 : w = [115, 104, 101, 101, 116]
      · have c2 : ¬ (2 : Int) < (rest.length : Int) + 1 := fun q => hw ⟨c1, by omega⟩
        subst c1
        by_cases d1 : rest.length + 1 = manyL [115, 104, 101, 101, 116]
        · have : manyL [115, 104, 101, 101, 116] = 0 := rfl
          omega
        · have h11 : ((rest.length : Int) + 1 = 0) ↔ False := iff_false_intro (by omega)
          simp [-pSplit_str, e1, hb1, c2, hc, d1, h11]
      · by_cases d1 : rest.length + 1 = manyL w
        · by_cases d2 : (rest.map lN).all (fun p => !nonQ p) = true
          · rw [if_pos ⟨d1, d2⟩]
            rw [d2] at hno
            simp [-pSplit_str, -dGet_cons, -dGet_nil, e1, hb1, c1, hc, d1, h7, hm, hno, h5, h6]
          · rw [if_neg fun q => d2 q.2]
            rw [Bool.not_eq_true] at d2
            rw [d2] at hno
            simp [-pSplit_str, -dGet_cons, -dGet_nil, e1, hb1, c1, hc, d1, h7, hm, hno, h5, h6]
        · rw [if_neg fun q => d1 q.1]
          simp [-pSplit_str, -dGet_cons, -dGet_nil, e1, hb1, c1, hc, d1, h7, hm, hno, h5, h6]
    match rest, hlen, hpart, last, e1 with
    | [], _, _, last, _ => exact last _ rfl fun q => by simp at q
    | [x], _, _, last, _ => exact last _ rfl fun q => by simp at q
    | x :: y :: r, hlen, hpart, last, e1 =>
      dsimp only
      by_cases hw : w = tSheet
      · rw [if_pos hw]
        have c1 : w = [115, 104, 101, 101, 116] := hw
        subst c1
        have hx := law_numeral_eq x (hpart x (by simp))
        have hj : pJoin (.str [32]) (.lst (.str y :: r.map .str)) = some (.str (joinT [32] (y :: r))) := by
          have := pJoin_map [32] (y :: r)
          rw [List.map_cons] at this
          rw [this, if_pos]
          have h1 := spC_sum 32 b
          rw [hs] at h1
          simp at h1
          simp
          omega
        have hjl : (joinT [32] (y :: r)).length ≤ 16777216 := by
          have h1 := spC_sum 32 b
          rw [hs] at h1
          have h2 := joinT_len1 32 (y :: r) (by simp)
          simp at h1 h2
          omega
        have h8 : ((joinT [32] (y :: r)).length : Int) ≤ 4000 ↔ (joinT [32] (y :: r)).length ≤ 4000 := by omega
        have h9 : (2 : Int) < (r.length : Int) + 1 + 1 + 1 := by omega
        have hcut : cutL (PV.str [115, 104, 101, 101, 116] :: PV.str x :: PV.str y :: r.map .str) (some 2) none = PV.str y :: r.map .str := by
          rw [cutL_pn _ (by omega)]
          rfl
        unfold lN at hx ⊢
        by_cases c2 : isNum x = true ∧ val x ≤ 2000
        · rw [if_pos c2] at hx ⊢
          dsimp only
          by_cases c3 : (0 : Int) < (val x : Int)
          · by_cases c4 : (joinT [32] (y :: r)).length ≤ 4000
            · rw [if_pos ⟨c3, c4⟩]
              have c5 : 0 < val x := by omega
              simp [-pSplit_str, e1, hb1, h9, hx, hcut, hj, hjl, c5, h8, c4, tSheet]
            · rw [if_neg fun q => c4 q.2]
              have c5 : 0 < val x := by omega
              simp [-pSplit_str, e1, hb1, h9, hx, hcut, hj, hjl, c5, h8, c4]
          · rw [if_neg fun q => c3 q.1]
            have c5 : ¬ 0 < val x := by omega
            simp [-pSplit_str, e1, hb1, h9, hx, hcut, hj, hjl, c5]
        · rw [if_neg c2] at hx ⊢
          simp [-pSplit_str, e1, hb1, h9, hx, hcut, hj]
      · rw [if_neg hw]
        exact last _ rfl fun q => hw q.1
end K78

set_option Elab.async false
set_option linter.all false
set_option maxRecDepth 100000
set_option maxHeartbeats 4000000
namespace K78
open PySem PySem.Spec PyProof.Rows L2 Mv
/-! ### both readings are alike -/
theorem many_cases (w : Tx) : (manyOf w = some 2 ∧ manyL w = 3) ∨ (manyOf w = some 1 ∧ manyL w = 2) ∨ (manyOf w = some 0 ∧ manyL w = 0 ∧ w = tEpoch) ∨ (manyOf w = none ∧ manyL w = 0) := by
  unfold manyOf manyL
  by_cases w1 : w = tAsk
  · exact .inl ⟨if_pos w1, if_pos w1⟩
  · rw [if_neg w1, if_neg w1]
    by_cases w2 : w = tDone
    · exact .inl ⟨if_pos w2, if_pos w2⟩
    · rw [if_neg w2, if_neg w2]
      by_cases w3 : w = tDrop
      · exact .inr (.inl ⟨if_pos w3, if_pos w3⟩)
      · rw [if_neg w3, if_neg w3]
        by_cases w4 : w = tEpoch
        · exact .inr (.inr (.inl ⟨if_pos w4, rfl, w4⟩))
        · exact .inr (.inr (.inr ⟨if_neg w4, rfl⟩))
theorem num_rel (x : Tx) : (btw 0 2000 (numV x) = !nonQ (lN x)) ∧ (btw 0 2000 (numV x) = true → numV x = lN x) := by
  unfold numV lN
  by_cases h : isNum x = true
  · rw [if_pos h]
    by_cases h2 : val x ≤ 2000
    · rw [if_pos ⟨h, h2⟩]
      have h3 : (val x : Int) ≤ 2000 := by omega
      simp [btw, nonQ, h3]
    · rw [if_neg fun q => h2 q.2]
      have h3 : ¬ (val x : Int) ≤ 2000 := by omega
      simp [btw, nonQ, h3]
  · rw [if_neg h, if_neg fun q => h q.1]
    simp [btw, nonQ]
theorem sheet_rel (x n : Tx) (hn : n.all sg = true) : (if dR (dF tSheet [x, n]) = true then dF tSheet [x, n] else .non) = (match lN x with
    | .int i => if 0 < i ∧ n.length ≤ 4000 then PV.tup [.str tSheet, .int i, .str n] else .non
    | _ => .non) := by
  have e1 : dF tSheet [x, n] = .tup [.str tSheet, numV x, .str n] := rfl
  have e2 : dR (.tup [.str tSheet, numV x, .str n]) = (btw 1 2000 (numV x) && (sgn (.str n) && shortT (.str n))) := by
    show dRt tSheet [numV x, .str n] = _
    unfold dRt
    rw [if_pos rfl]
  rw [e1, e2]
  have e3 : sgn (.str n) = true := hn
  have e4 : shortT (.str n) = decide (n.length ≤ 4000) := rfl
  rw [e3, e4]
  by_cases h : isNum x = true
  · have f1 : numV x = .int (val x) := if_pos h
    rw [f1]
    by_cases h2 : val x ≤ 2000
    · have f2 : lN x = .int (val x) := if_pos ⟨h, h2⟩
      rw [f2]
      have h3 : (val x : Int) ≤ 2000 := by omega
      dsimp only
      by_cases h4 : n.length ≤ 4000
      · by_cases h5 : 0 < val x
        · have h6 : (1 : Int) ≤ (val x : Int) := by omega
          simp [btw, h3, h4, h5, h6]
        · have h6 : ¬ (1 : Int) ≤ (val x : Int) := by omega
          simp [btw, h3, h4, h5, h6]
      · simp [h4]
    · have f2 : lN x = .non := if_neg fun q => h2 q.2
      rw [f2]
      have h3 : ¬ (val x : Int) ≤ 2000 := by omega
      simp [btw, h3]
  · have f1 : numV x = .non := if_neg h
    have f2 : lN x = .non := if_neg fun q => h q.1
    rw [f1, f2]
    simp [btw]
theorem dR_words {w : Tx} (hw : ¬ w = tSheet) (rest : List Tx) : dF w rest = .tup (.str w :: rest.map numV) ∧ dR (dF w rest) = match manyOf w with
    | some n => decide (rest.length = n) && (rest.map numV).all (btw 0 2000)
    | none => false := by
  have e : dF w rest = .tup (.str w :: rest.map numV) := if_neg hw
  refine ⟨e, ?_⟩
  rw [e]
  show dRt w (rest.map numV) = _
  unfold dRt
  rw [if_neg hw]
  cases manyOf w with
  | none => rfl
  | some n =>
    dsimp only
    rw [List.length_map]
theorem ld_eq {b w : Tx} {rest : List Tx} (hs : spC 32 b = w :: rest) (hsg : b.all sg = true) : ldB b w rest = dB b := by
  unfold ldB
  by_cases hb : b = tEpoch
  · rw [if_pos hb, hb]
    exact (dB_body (d := .epoch) trivial).symm
  · rw [if_neg hb]
    have hj := join_spC 32 b
    rw [hs] at hj
    unfold dB
    match rest, hs, hj with
    | [], hs, hj =>
      have e : spCk 32 2 b = [w] := by unfold spCk; rw [hs]; rfl
      rw [e]
      dsimp only
      rw [joinT_one] at hj
      by_cases hw : w = tSheet
      · subst hw
        rfl
      · obtain ⟨e1, e2⟩ := dR_words hw []
        rcases many_cases w with ⟨m1, m2⟩ | ⟨m1, m2⟩ | ⟨m1, m2, m3⟩ | ⟨m1, m2⟩
        · rw [e2, m1, m2]; simp
        · rw [e2, m1, m2]; simp
        · exact absurd (hj.symm.trans m3) hb
        · rw [e2, m1, m2]; simp
    | [x], hs, hj =>
      have e : spCk 32 2 b = [w, x] := by unfold spCk; rw [hs]; rfl
      rw [e]
      dsimp only
      by_cases hw : w = tSheet
      · subst hw
        rfl
      · obtain ⟨e1, e2⟩ := dR_words hw [x]
        obtain ⟨n1, n2⟩ := num_rel x
        rcases many_cases w with ⟨m1, m2⟩ | ⟨m1, m2⟩ | ⟨m1, m2, m3⟩ | ⟨m1, m2⟩
        · rw [e2, m1, m2]; simp
        · rw [e2, m1, m2, e1]
          simp [n1]
          cases q : nonQ (lN x) with
          | true => simp
          | false =>
            rw [q] at n1
            simp [n2 n1]
        · rw [e2, m1, m2]; simp
        · rw [e2, m1, m2]; simp
    | [x, y], hs, hj =>
      have e : spCk 32 2 b = [w, x, y] := by unfold spCk; rw [hs]; rfl
      rw [e]
      dsimp only
      by_cases hw : w = tSheet
      · subst hw
        rw [if_pos rfl, joinT_one]
        refine (sheet_rel x y ?_).symm
        rw [List.all_eq_true]
        intro c hc
        exact List.all_eq_true.mp hsg c (spC_sub (c := 32) (s := b) (by rw [hs]; simp) hc)
      · rw [if_neg hw]
        obtain ⟨e1, e2⟩ := dR_words hw [x, y]
        obtain ⟨n1, n2⟩ := num_rel x
        obtain ⟨n3, n4⟩ := num_rel y
        rcases many_cases w with ⟨m1, m2⟩ | ⟨m1, m2⟩ | ⟨m1, m2, m3⟩ | ⟨m1, m2⟩
        · rw [e2, m1, m2, e1]
          simp [n1, n3]
          cases q : nonQ (lN x) with
          | true => simp
          | false =>
            cases q2 : nonQ (lN y) with
            | true => simp
            | false =>
              rw [q] at n1
              rw [q2] at n3
              simp [n2 n1, n4 n3]
        · rw [e2, m1, m2]; simp
        · rw [e2, m1, m2]; simp
        · rw [e2, m1, m2]; simp
    | x :: y :: z :: r, hs, hj =>
      have e : spCk 32 2 b = [w, x, joinT [32] (y :: z :: r)] := by
        unfold spCk
        rw [hs, if_neg (by simp)]
        rfl
      rw [e]
      dsimp only
      by_cases hw : w = tSheet
      · subst hw
        rw [if_pos rfl]
        refine (sheet_rel x _ ?_).symm
        rw [List.all_eq_true]
        intro c hc
        rcases mem_joinT [32] _ c hc with q | ⟨p, hp, q⟩
        · rw [List.mem_singleton.mp q]; rfl
        · exact List.all_eq_true.mp hsg c (spC_sub (c := 32) (s := b) (by rw [hs]; exact List.mem_cons_of_mem _ (List.mem_cons_of_mem _ hp)) q)
      · rw [if_neg hw]
        have hn : numV (joinT [32] (y :: z :: r)) = .non := by
          unfold numV
          rw [isNum_free (by rw [joinT_two]; simp)]
          rfl
        obtain ⟨e1, e2⟩ := dR_words hw [x, joinT [32] (y :: z :: r)]
        have hb2 : btw 0 2000 PV.non = false := rfl
        rcases many_cases w with ⟨m1, m2⟩ | ⟨m1, m2⟩ | ⟨m1, m2, m3⟩ | ⟨m1, m2⟩
        · rw [e2, m1, m2]; simp [hn, hb2]
        · rw [e2, m1, m2]; simp
        · rw [e2, m1, m2]; simp
        · rw [e2, m1, m2]; simp
theorem law_deed_of_eq (b : Tx) (hb : b.length ≤ 5000) (hsg : b.all sg = true) : f__law_deed_of [.fz (.str b)] = .ok (.fz (dB b)) [] := by
  cases e : spC 32 b with
  | nil => exact absurd e (spC_ne 32 b)
  | cons w rest => rw [law_deed_of_ld b w rest hb e, ld_eq e hsg]
theorem law_body_of_eq (xs : List PV) (h : ∀ x ∈ xs, okPart x = true) (hl : xs.length ≤ 16777216) (hs : ((xs.map partP).map List.length).sum + xs.length ≤ 16777216) : f__law_body_of [.fz (.tup xs)] = .ok (.fz (.str (joinT [32] (xs.map partP)))) [] := by
  rw [r__law_body_of]
  unfold e__law_body_of
  have hc : c__law_body_of_1 [some (.fz (.tup xs)), none] = .ok (.ml (xs.map fun x => .fz (.str (partP x)))) [some (.fz (.tup xs)), none] := by
    unfold c__law_body_of_1
    rw [sLc_map (ρ1 := [some (.fz (.tup xs)), none]) (items := xs) (fun x => .str (partP x)) (by simp) hl (fun p hp => by
      refine ⟨[some (.fz (.tup xs)), some (.fz p)], [some (.fz (.tup xs)), some (.fz p)], [some (.fz (.tup xs)), some (.fz p)], by simp, by simp, ?_, by simp⟩
      have hk := h p hp
      cases p with
      | str s => simp [partP]
      | int i =>
        have hi : i.natAbs.log2 < 1920 := of_decide_eq_true hk
        simp [partP, hi]
      | _ => cases hk)]
    simp [Function.comp_def]
  have e := pJoin_mapf [32] partP xs
  rw [List.length_singleton, Nat.mul_one, if_pos hs] at e
  simp [hc, e]
theorem law_body_dd {d : Dd} (h : d.ok) : f__law_body_of [.fz d.pv] = .ok (.fz (.str d.body)) [] := by
  rw [Dd.pv_vs, law_body_of_eq _ (Dd.okParts h) (by have := d.vs_len; omega) (Dd.sum h), Dd.map_part]
  rfl
end K78

set_option Elab.async false
set_option linter.all false
set_option maxRecDepth 100000
set_option maxHeartbeats 4000000
namespace K78
open PySem PySem.Spec PyProof.Rows L2 Mv
/-! ### journals -/
structure Sh where
  r : Nat
  n : Tx
  a : Nat
  d : Nat
  x : Bool
def Sh.pv (s : Sh) : PV := .tup [.int s.r, .str s.n, .int s.a, .int s.d, .bl s.x]
structure Jn where
  ep : Nat
  sh : List Sh
def shsP (l : List Sh) : PV := .tup (l.map Sh.pv)
def Jn.pv (j : Jn) : PV := .tup [.str tJournal, .int j.ep, shsP j.sh]
def tDropped : Tx := [100, 114, 111, 112, 112, 101, 100]
def tWhole : Tx := [119, 104, 111, 108, 101]
def tDoubt : Tx := [100, 111, 117, 98, 116]
def tIdle : Tx := [105, 100, 108, 101]
def tRow : Tx := [114, 111, 119]
def shWord (s : Option Sh) (k : Sh → Option Tx) : Option Tx := match s with
  | none => some tSheet
  | some s => if s.x = true then some tDropped else k s
/-- the word of a deed that may not be done -/
def wd (j : Jn) : Dd → Option Tx
  | .sheet _ _ => none
  | .epoch => none
  | .ask a b => shWord j.sh[a]? fun s => if s.d = s.r then some tWhole else if s.d < s.a then some tDoubt else if b = s.d then none else some tRow
  | .done a b => shWord j.sh[a]? fun s => if s.a = s.d then some tIdle else if b = s.d then none else some tRow
  | .drop a => shWord j.sh[a]? fun _ => none
def oP (o : Option Tx) : PV := match o with
  | none => .non
  | some w => .str w
/-- the journal behind a deed -/
def bh (j : Jn) : Dd → Jn
  | .sheet r n => ⟨j.ep, j.sh ++ [⟨r, n, 0, 0, false⟩]⟩
  | .epoch => ⟨j.ep + 1, j.sh⟩
  | .ask a _ => ⟨j.ep, j.sh.modify a fun s => { s with a := s.a + 1 }⟩
  | .done a _ => ⟨j.ep, j.sh.modify a fun s => { s with d := s.d + 1 }⟩
  | .drop a => ⟨j.ep, j.sh.modify a fun s => { s with x := true }⟩
theorem at_map {l : List Sh} {a : Nat} {s : Sh} (h : l[a]? = some s) : atI (l.map Sh.pv) (a : Int) = some s.pv := by
  have hl : a < l.length := (List.getElem?_eq_some_iff.mp h).1
  rw [at_nat _ a (by rw [List.length_map]; exact hl)]
  rw [List.getElem?_eq_getElem hl] at h
  simp only [List.getElem_map]
  rw [Option.some.inj h]
def isSE (w : Tx) : Bool := decide (w = [115, 104, 101, 101, 116]) || decide (w = [101, 112, 111, 99, 104])
theorem in_two (w : Tx) : pIn (.str w) (.tup [.str [115, 104, 101, 101, 116], .str [101, 112, 111, 99, 104]]) = some (.bl (isSE w)) := by
  have c : ∀ s : Tx, PV.eqv (.str s) (.str w) = decide (w = s) := fun s => by
    rw [PV.eqv]
    exact decide_eq_decide.mpr eq_comm
  have h : pyIn (.str w) (.tup [.str [115, 104, 101, 101, 116], .str [101, 112, 111, 99, 104]]) = some (isSE w) := by
    unfold pyIn
    dsimp only
    rw [if_pos (by rfl), List.any_cons, List.any_cons, List.any_nil, c, c, Bool.or_false]
    rfl
  unfold pIn
  rw [h]
  rfl
theorem se_s : isSE [115, 104, 101, 101, 116] = true := rfl
theorem se_e : isSE [101, 112, 111, 99, 104] = true := rfl
theorem se_a : isSE [97, 115, 107] = false := rfl
theorem se_d : isSE [100, 111, 110, 101] = false := rfl
theorem se_x : isSE [100, 114, 111, 112] = false := rfl
theorem word_by_eq (j : Jn) (d : Dd) (hl : j.sh.length ≤ 16777216) : f_word_by [.fz j.pv, .fz d.pv] = .ok (.fz (oP (wd j d))) [] := by
  rw [r_word_by]
  have sheetless : ∀ (w : Tx) (a : Nat) (v : List PV) (k : Sh → Option Tx), isSE w = false → j.sh[a]? = none → fin 0 (e_word_by [some (.fz j.pv), some (.fz (.tup (.str w :: .int a :: v))), none, none, none, none, none]) = .ok (.fz (oP (shWord j.sh[a]? k))) [] := fun w a v k h1 h => by
    have h3 : j.sh.length ≤ a := List.getElem?_eq_none_iff.mp h
    have h4 : (j.sh.length : Int) ≤ (a : Int) := by omega
    rw [h]
    unfold e_word_by Jn.pv shsP
    simp [in_two, h1, h4, shWord, oP, tSheet]
  cases d with
  | sheet r n =>
    unfold e_word_by Jn.pv Dd.pv
    simp [in_two, wd, oP, tSheet, tEpoch, se_s, se_e]
  | epoch =>
    unfold e_word_by Jn.pv Dd.pv
    simp [in_two, wd, oP, tSheet, tEpoch, se_s, se_e]
  | ask a b =>
    cases h : j.sh[a]? with
    | none => exact sheetless tAsk a _ _ rfl h
    | some s =>
      have hlt : a < j.sh.length := (List.getElem?_eq_some_iff.mp h).1
      have h4 : ¬ (j.sh.length : Int) ≤ (a : Int) := by omega
      have ha := at_map h
      show _ = RF.ok (.fz (oP (shWord j.sh[a]? _))) []
      rw [h]
      unfold e_word_by Jn.pv Dd.pv shsP shWord
      by_cases hx : s.x = true
      · simp [in_two, tAsk, tDone, tDrop, se_a, se_d, se_x, h4, ha, Sh.pv, hx, oP, tDropped]
      · have e1 : ((s.d : Int) = (s.r : Int)) ↔ s.d = s.r := by omega
        have e2 : ((s.d : Int) < (s.a : Int)) ↔ s.d < s.a := by omega
        have e3 : ((b : Int) = (s.d : Int)) ↔ b = s.d := by omega
        by_cases c1 : s.d = s.r
        · simp [in_two, tAsk, tDone, tDrop, se_a, se_d, se_x, h4, ha, Sh.pv, hx, oP, c1, tWhole]
        · by_cases c2 : s.d < s.a
          · simp [in_two, tAsk, tDone, tDrop, se_a, se_d, se_x, h4, ha, Sh.pv, hx, oP, e1, c1, c2, tDoubt]
          · by_cases c3 : b = s.d
            · simp [in_two, tAsk, tDone, tDrop, se_a, se_d, se_x, h4, ha, Sh.pv, hx, oP, e1, c1, c2, c3]
            · simp [in_two, tAsk, tDone, tDrop, se_a, se_d, se_x, h4, ha, Sh.pv, hx, oP, e1, c1, c2, e3, c3, tRow]
  | done a b =>
    cases h : j.sh[a]? with
    | none => exact sheetless tDone a _ _ rfl h
    | some s =>
      have hlt : a < j.sh.length := (List.getElem?_eq_some_iff.mp h).1
      have h4 : ¬ (j.sh.length : Int) ≤ (a : Int) := by omega
      have ha := at_map h
      show _ = RF.ok (.fz (oP (shWord j.sh[a]? _))) []
      rw [h]
      unfold e_word_by Jn.pv Dd.pv shsP shWord
      by_cases hx : s.x = true
      · simp [in_two, tAsk, tDone, tDrop, se_a, se_d, se_x, h4, ha, Sh.pv, hx, oP, tDropped]
      · have e1 : ((s.a : Int) = (s.d : Int)) ↔ s.a = s.d := by omega
        have e3 : ((b : Int) = (s.d : Int)) ↔ b = s.d := by omega
        by_cases c1 : s.a = s.d
        · simp [in_two, tAsk, tDone, tDrop, se_a, se_d, se_x, h4, ha, Sh.pv, hx, oP, c1, tIdle]
        · by_cases c3 : b = s.d
          · simp [in_two, tAsk, tDone, tDrop, se_a, se_d, se_x, h4, ha, Sh.pv, hx, oP, e1, c1, c3]
          · simp [in_two, tAsk, tDone, tDrop, se_a, se_d, se_x, h4, ha, Sh.pv, hx, oP, e1, c1, e3, c3, tRow]
  | drop a =>
    cases h : j.sh[a]? with
    | none => exact sheetless tDrop a _ _ rfl h
    | some s =>
      have hlt : a < j.sh.length := (List.getElem?_eq_some_iff.mp h).1
      have h4 : ¬ (j.sh.length : Int) ≤ (a : Int) := by omega
      have ha := at_map h
      show _ = RF.ok (.fz (oP (shWord j.sh[a]? _))) []
      rw [h]
      unfold e_word_by Jn.pv Dd.pv shsP shWord
      by_cases hx : s.x = true
      · simp [in_two, tAsk, tDone, tDrop, se_a, se_d, se_x, h4, ha, Sh.pv, hx, oP, tDropped]
      · simp [in_two, tAsk, tDone, tDrop, se_a, se_d, se_x, h4, ha, Sh.pv, hx, oP]
theorem law_word_eq (j : Jn) (d : Dd) (hl : j.sh.length ≤ 16777216) : f__law_word [.fz j.pv, .fz d.pv] = .ok (.fz (oP (wd j d))) [] := by
  rw [r__law_word]
  have sheetless : ∀ (w : Tx) (a : Nat) (v : List PV) (k : Sh → Option Tx), isSE w = false → j.sh[a]? = none → fin 0 (e__law_word [some (.fz j.pv), some (.fz (.tup (.str w :: .int a :: v))), none, none, none, none, none, none, none]) = .ok (.fz (oP (shWord j.sh[a]? k))) [] := fun w a v k h1 h => by
    have h3 : j.sh.length ≤ a := List.getElem?_eq_none_iff.mp h
    have h4 : (j.sh.length : Int) ≤ (a : Int) := by omega
    rw [h]
    unfold e__law_word Jn.pv shsP
    simp [in_two, h1, h4, shWord, oP, tSheet]
  cases d with
  | sheet r n =>
    unfold e__law_word Jn.pv Dd.pv shsP
    simp [in_two, wd, oP, tSheet, tEpoch, se_s, se_e]
  | epoch =>
    unfold e__law_word Jn.pv Dd.pv shsP
    simp [in_two, wd, oP, tSheet, tEpoch, se_s, se_e]
  | ask a b =>
    cases h : j.sh[a]? with
    | none => exact sheetless tAsk a _ _ rfl h
    | some s =>
      have hlt : a < j.sh.length := (List.getElem?_eq_some_iff.mp h).1
      have h4 : ¬ (j.sh.length : Int) ≤ (a : Int) := by omega
      have ha := at_map h
      show _ = RF.ok (.fz (oP (shWord j.sh[a]? _))) []
      rw [h]
      unfold e__law_word Jn.pv Dd.pv shsP shWord
      by_cases hx : s.x = true
      · simp [in_two, tAsk, tDone, tDrop, se_a, se_d, se_x, h4, ha, Sh.pv, hx, oP, tDropped]
      · have e1 : ((s.d : Int) = (s.r : Int)) ↔ s.d = s.r := by omega
        have e2 : ((s.d : Int) < (s.a : Int)) ↔ s.d < s.a := by omega
        have e3 : ((b : Int) = (s.d : Int)) ↔ b = s.d := by omega
        by_cases c1 : s.d = s.r
        · simp [in_two, tAsk, tDone, tDrop, se_a, se_d, se_x, h4, ha, Sh.pv, hx, oP, c1, tWhole]
        · by_cases c2 : s.d < s.a
          · simp [in_two, tAsk, tDone, tDrop, se_a, se_d, se_x, h4, ha, Sh.pv, hx, oP, e1, c1, c2, tDoubt]
          · by_cases c3 : b = s.d
            · simp [in_two, tAsk, tDone, tDrop, se_a, se_d, se_x, h4, ha, Sh.pv, hx, oP, e1, c1, c2, c3]
            · simp [in_two, tAsk, tDone, tDrop, se_a, se_d, se_x, h4, ha, Sh.pv, hx, oP, e1, c1, c2, e3, c3, tRow]
  | done a b =>
    cases h : j.sh[a]? with
    | none => exact sheetless tDone a _ _ rfl h
    | some s =>
      have hlt : a < j.sh.length := (List.getElem?_eq_some_iff.mp h).1
      have h4 : ¬ (j.sh.length : Int) ≤ (a : Int) := by omega
      have ha := at_map h
      show _ = RF.ok (.fz (oP (shWord j.sh[a]? _))) []
      rw [h]
      unfold e__law_word Jn.pv Dd.pv shsP shWord
      by_cases hx : s.x = true
      · simp [in_two, tAsk, tDone, tDrop, se_a, se_d, se_x, h4, ha, Sh.pv, hx, oP, tDropped]
      · have e1 : ((s.a : Int) = (s.d : Int)) ↔ s.a = s.d := by omega
        have e3 : ((b : Int) = (s.d : Int)) ↔ b = s.d := by omega
        by_cases c1 : s.a = s.d
        · simp [in_two, tAsk, tDone, tDrop, se_a, se_d, se_x, h4, ha, Sh.pv, hx, oP, c1, tIdle]
        · by_cases c3 : b = s.d
          · simp [in_two, tAsk, tDone, tDrop, se_a, se_d, se_x, h4, ha, Sh.pv, hx, oP, e1, c1, c3]
          · simp [in_two, tAsk, tDone, tDrop, se_a, se_d, se_x, h4, ha, Sh.pv, hx, oP, e1, c1, e3, c3, tRow]
  | drop a =>
    cases h : j.sh[a]? with
    | none => exact sheetless tDrop a _ _ rfl h
    | some s =>
      have hlt : a < j.sh.length := (List.getElem?_eq_some_iff.mp h).1
      have h4 : ¬ (j.sh.length : Int) ≤ (a : Int) := by omega
      have ha := at_map h
      show _ = RF.ok (.fz (oP (shWord j.sh[a]? _))) []
      rw [h]
      unfold e__law_word Jn.pv Dd.pv shsP shWord
      by_cases hx : s.x = true
      · simp [in_two, tAsk, tDone, tDrop, se_a, se_d, se_x, h4, ha, Sh.pv, hx, oP, tDropped]
      · simp [in_two, tAsk, tDone, tDrop, se_a, se_d, se_x, h4, ha, Sh.pv, hx, oP]
end K78

set_option Elab.async false
set_option linter.all false
set_option maxRecDepth 100000
set_option maxHeartbeats 4000000
namespace K78
open PySem PySem.Spec PyProof.Rows L2 Mv
/-! ### the journal behind a deed -/
theorem cut_n {α : Type} (xs : List α) (a : Nat) : cutL xs none (some (a : Int)) = xs.take a := by
  rw [cutL_np _ (by omega), Int.toNat_natCast]
theorem cut_s1 {α : Type} (xs : List α) (a : Nat) : cutL xs (some ((a : Int) + 1)) none = xs.drop (a + 1) := by
  rw [cutL_pn _ (by omega)]
  congr 1
theorem mid_1 (xs : List PV) (a : Nat) (v : PV) (hl : xs.length ≤ 16000000) : pAdd (.tup (xs.take a)) (.tup [v]) = some (.tup (xs.take a ++ [v])) := by
  rw [pAdd_tup, if_pos (by rw [List.length_take, List.length_singleton]; omega)]
theorem mid_2 (xs : List PV) (a : Nat) (v : PV) (hl : xs.length ≤ 16000000) : pAdd (.tup (xs.take a ++ [v])) (.tup (xs.drop (a + 1))) = some (.tup (xs.take a ++ v :: xs.drop (a + 1))) := by
  rw [pAdd_tup, if_pos (by rw [List.length_append, List.length_take, List.length_singleton, List.length_drop]; omega), List.append_assoc]
  rfl
theorem mid_3 {l : List Sh} {a : Nat} {s : Sh} (f : Sh → Sh) (h : l[a]? = some s) : (l.map Sh.pv).take a ++ (f s).pv :: (l.map Sh.pv).drop (a + 1) = (l.modify a f).map Sh.pv := by
  have hl : a < l.length := (List.getElem?_eq_some_iff.mp h).1
  have e : (l.modify a f) = l.take a ++ f s :: l.drop (a + 1) := by
    rw [List.modify_eq_take_cons_drop hl]
    rw [List.getElem?_eq_getElem hl] at h
    rw [Option.some.inj h]
  rw [e, List.map_append, List.map_cons, List.map_take, List.map_drop]
theorem shWord_none {o : Option Sh} {k : Sh → Option Tx} (h : shWord o k = none) : ∃ s, o = some s ∧ s.x = false ∧ k s = none := by
  cases o with
  | none => cases h
  | some s =>
    unfold shWord at h
    cases hx : s.x with
    | true => simp [hx] at h
    | false =>
      simp [hx] at h
      exact ⟨s, rfl, hx, h⟩
theorem behind_eq (j : Jn) (d : Dd) (hl : j.sh.length ≤ 16000000) (hw : wd j d = none) : f_behind [.fz j.pv, .fz d.pv] = .ok (.fz (bh j d).pv) [] := by
  rw [r_behind]
  cases d with
  | epoch =>
    unfold e_behind Jn.pv Dd.pv shsP bh
    simp [tEpoch]
  | sheet r n =>
    unfold e_behind Jn.pv Dd.pv shsP bh
    have h1 : j.sh.length + 1 ≤ 16777216 := by omega
    have h2 : j.sh.length ≤ 16777215 := by omega
    simp [tSheet, h1, h2, Sh.pv]
  | ask a b =>
    obtain ⟨s, h, hx, _⟩ := shWord_none hw
    have ha := at_map h
    have m3 := mid_3 (fun s => { s with a := s.a + 1 }) h
    have hl2 : (j.sh.map Sh.pv).length ≤ 16000000 := by rw [List.length_map]; exact hl
    unfold e_behind Jn.pv Dd.pv shsP bh
    rw [← m3]
    have m1 := fun v => mid_1 (j.sh.map Sh.pv) a v hl2
    have m2 := fun v => mid_2 (j.sh.map Sh.pv) a v hl2
    simp [-pAdd_tup, -List.map_take, -List.map_drop, -List.take_append_drop, tAsk, ha, Sh.pv, cut_n, cut_s1, m1, m2]
  | done a b =>
    obtain ⟨s, h, hx, _⟩ := shWord_none hw
    have ha := at_map h
    have m3 := mid_3 (fun s => { s with d := s.d + 1 }) h
    have hl2 : (j.sh.map Sh.pv).length ≤ 16000000 := by rw [List.length_map]; exact hl
    unfold e_behind Jn.pv Dd.pv shsP bh
    rw [← m3]
    have m1 := fun v => mid_1 (j.sh.map Sh.pv) a v hl2
    have m2 := fun v => mid_2 (j.sh.map Sh.pv) a v hl2
    simp [-pAdd_tup, -List.map_take, -List.map_drop, tDone, ha, Sh.pv, cut_n, cut_s1, m1, m2]
  | drop a =>
    obtain ⟨s, h, hx, _⟩ := shWord_none hw
    have ha := at_map h
    have m3 := mid_3 (fun s => { s with x := true }) h
    have hl2 : (j.sh.map Sh.pv).length ≤ 16000000 := by rw [List.length_map]; exact hl
    unfold e_behind Jn.pv Dd.pv shsP bh
    rw [← m3]
    have m1 := fun v => mid_1 (j.sh.map Sh.pv) a v hl2
    have m2 := fun v => mid_2 (j.sh.map Sh.pv) a v hl2
    simp [-pAdd_tup, -List.map_take, -List.map_drop, tDrop, ha, Sh.pv, cut_n, cut_s1, m1, m2]
theorem law_with_eq (j : Jn) (d : Dd) (hl : j.sh.length ≤ 16000000) (hw : wd j d = none) : f__law_with [.fz j.pv, .fz d.pv] = .ok (.fz (bh j d).pv) [] := by
  rw [r__law_with]
  cases d with
  | epoch =>
    unfold e__law_with Jn.pv Dd.pv shsP bh
    simp [tEpoch]
  | sheet r n =>
    unfold e__law_with Jn.pv Dd.pv shsP bh
    have h1 : j.sh.length + 1 ≤ 16777216 := by omega
    have h2 : j.sh.length ≤ 16777215 := by omega
    simp [tSheet, h1, h2, Sh.pv]
  | ask a b =>
    obtain ⟨s, h, hx, _⟩ := shWord_none hw
    have ha := at_map h
    have m3 := mid_3 (fun s => { s with a := s.a + 1 }) h
    have hl2 : (j.sh.map Sh.pv).length ≤ 16000000 := by rw [List.length_map]; exact hl
    unfold e__law_with Jn.pv Dd.pv shsP bh
    rw [← m3]
    have m1 := fun v => mid_1 (j.sh.map Sh.pv) a v hl2
    have m2 := fun v => mid_2 (j.sh.map Sh.pv) a v hl2
    simp [-pAdd_tup, -List.map_take, -List.map_drop, tAsk, ha, Sh.pv, cut_n, cut_s1, m1, m2, hx]
  | done a b =>
    obtain ⟨s, h, hx, _⟩ := shWord_none hw
    have ha := at_map h
    have m3 := mid_3 (fun s => { s with d := s.d + 1 }) h
    have hl2 : (j.sh.map Sh.pv).length ≤ 16000000 := by rw [List.length_map]; exact hl
    unfold e__law_with Jn.pv Dd.pv shsP bh
    rw [← m3]
    have m1 := fun v => mid_1 (j.sh.map Sh.pv) a v hl2
    have m2 := fun v => mid_2 (j.sh.map Sh.pv) a v hl2
    simp [-pAdd_tup, -List.map_take, -List.map_drop, tDone, ha, Sh.pv, cut_n, cut_s1, m1, m2, hx]
  | drop a =>
    obtain ⟨s, h, hx, _⟩ := shWord_none hw
    have ha := at_map h
    have m3 := mid_3 (fun s => { s with x := true }) h
    have hl2 : (j.sh.map Sh.pv).length ≤ 16000000 := by rw [List.length_map]; exact hl
    unfold e__law_with Jn.pv Dd.pv shsP bh
    rw [← m3]
    have m1 := fun v => mid_1 (j.sh.map Sh.pv) a v hl2
    have m2 := fun v => mid_2 (j.sh.map Sh.pv) a v hl2
    simp [-pAdd_tup, -List.map_take, -List.map_drop, tDrop, ha, Sh.pv, cut_n, cut_s1, m1, m2]
end K78

set_option Elab.async false
set_option linter.all false
set_option maxRecDepth 100000
set_option maxHeartbeats 4000000
namespace K78
open PySem PySem.Spec PyProof.Rows L2 Mv
/-! ### any value as a journal -/
def shQ (a b c d e : PV) (i : Int) : Bool := match a with
  | .int r => (match b with
    | .str n => (match c with
      | .int k => (match d with
        | .int l => (match e with
          | .bl x => decide (1 ≤ r ∧ r ≤ 2000 ∧ n.length ≤ 4000 ∧ 0 ≤ k ∧ 0 ≤ l ∧ ¬ (2000 < i ∧ (0 < k ∨ x = true)) ∧ l ≤ k ∧ k ≤ l + 1 ∧ k ≤ r) && n.all sg
          | _ => false)
        | _ => false)
      | _ => false)
    | _ => false)
  | _ => false
def shR (v : PV) (i : Int) : Bool := match v with
  | .tup [a, b, c, d, e] => shQ a b c d e i
  | _ => false
theorem dRt_two {a b : PV} (h : dRt tSheet [a, b] = true) : ∃ r n, a = .int r ∧ b = .str n ∧ 1 ≤ r ∧ r ≤ 2000 ∧ n.all sg = true ∧ n.length ≤ 4000 := by
  unfold dRt at h
  rw [if_pos rfl] at h
  have h : (btw 1 2000 a && (sgn b && shortT b)) = true := h
  rw [Bool.and_eq_true, Bool.and_eq_true] at h
  obtain ⟨h1, h2, h3⟩ := h
  cases a with
  | int r =>
    cases b with
    | str n =>
      simp [btw] at h1
      exact ⟨r, n, rfl, rfl, h1.1, h1.2, h2, of_decide_eq_true h3⟩
    | _ => cases h3
  | _ => cases h1
theorem dRt_ok {r : Int} {n : Tx} : dRt tSheet [.int r, .str n] = (decide (1 ≤ r ∧ r ≤ 2000 ∧ n.length ≤ 4000) && n.all sg) := by
  unfold dRt
  rw [if_pos rfl]
  show ((decide (1 ≤ r) && decide (r ≤ 2000)) && (n.all sg && decide (n.length ≤ 4000))) = _
  by_cases h1 : 1 ≤ r <;> by_cases h2 : r ≤ 2000 <;> by_cases h3 : n.length ≤ 4000 <;> simp [h1, h2, h3]
theorem shQ_no {a b : PV} (c d e : PV) (i : Int) (h : dRt tSheet [a, b] = false) : shQ a b c d e i = false := by
  cases a with
  | int r =>
    cases b with
    | str n =>
      rw [dRt_ok] at h
      cases c <;> try rfl
      cases d <;> try rfl
      cases e <;> try rfl
      rename_i k l x
      show (decide _ && n.all sg) = false
      rw [Bool.and_eq_false_iff] at h ⊢
      rcases h with h | h
      · left
        have h := of_decide_eq_false h
        exact decide_eq_false fun q => h ⟨q.1, q.2.1, q.2.2.1⟩
      · exact .inr h
    | _ => rfl
  | _ => rfl
theorem sheet_is_right_eq (v : PV) (i : Int) (h : v.wel = true) (hl : ∀ xs, v = .tup xs → xs.length ≤ 16777216) : f_sheet_is_right [.fz v, .fz (.int i)] = .ok (.fz (.bl (shR v i))) [] := by
  rw [r_sheet_is_right]
  cases v with
  | tup xs =>
    match xs, h with
    | [a, b, c, d, e], h =>
      simp at h
      obtain ⟨ha, hb, hc, hd, he⟩ := h
      have e1 := deed_str tSheet [a, b] (by simp [ha, hb]) (by simp)
      show _ = RF.ok (.fz (.bl (shQ a b c d e i))) []
      unfold e_sheet_is_right
      cases q : dRt tSheet [a, b] with
      | false =>
        rw [shQ_no c d e i q]
        rw [q] at e1
        unfold tSheet at e1
        simp [e1]
      | true =>
        rw [q] at e1
        unfold tSheet at e1
        obtain ⟨r, n, rfl, rfl, h1, h2, h3, h4⟩ := dRt_two q
        have c1 := is_count_eq c (wel_ty hc)
        have c2 := is_count_eq d (wel_ty hd)
        cases c with
        | int k =>
          cases d with
          | int l =>
            cases e with
            | bl x =>
              show _ = RF.ok (.fz (.bl (decide (1 ≤ r ∧ r ≤ 2000 ∧ n.length ≤ 4000 ∧ 0 ≤ k ∧ 0 ≤ l ∧ ¬ (2000 < i ∧ (0 < k ∨ x = true)) ∧ l ≤ k ∧ k ≤ l + 1 ∧ k ≤ r) && n.all sg))) []
              rw [h3]
              unfold cnt at c1 c2
              by_cases d1 : 0 ≤ k
              · by_cases d2 : 0 ≤ l
                · by_cases d3 : 2000 < i
                  · by_cases d4 : 0 < k
                    · simp [e1, c1, c2, d1, d2, d3, d4]
                    · cases x with
                      | true => simp [e1, c1, c2, d1, d2, d3, d4]
                      | false =>
                        by_cases d5 : l ≤ k
                        · by_cases d6 : k ≤ l + 1 <;> simp [e1, c1, c2, d1, d2, d3, d4, d5, d6, h1, h2, h4]
                        · simp [e1, c1, c2, d1, d2, d3, d4, d5]
                  · by_cases d5 : l ≤ k
                    · by_cases d6 : k ≤ l + 1 <;> simp [e1, c1, c2, d1, d2, d3, d5, d6, h1, h2, h4]
                    · simp [e1, c1, c2, d1, d2, d3, d5]
                · simp [e1, c1, c2, d1, d2]
              · simp [e1, c1, d1]
            | dic ks vs => rw [PV.wel] at he; cases he
            | scr z => rw [PV.wel] at he; cases he
            | opq z => rw [PV.wel] at he; cases he
            | _ =>
              show _ = RF.ok (.fz (.bl false)) []
              unfold cnt at c1 c2
              by_cases d1 : 0 ≤ k <;> by_cases d2 : 0 ≤ l <;> simp [e1, c1, c2, d1, d2]
          | _ =>
            show _ = RF.ok (.fz (.bl false)) []
            unfold cnt at c1 c2
            by_cases d1 : 0 ≤ k <;> simp [e1, c1, c2, d1]
        | _ =>
          show _ = RF.ok (.fz (.bl false)) []
          unfold cnt at c1
          simp [e1, c1]
    | [], _ => unfold e_sheet_is_right; simp [shR]
    | [a], _ => unfold e_sheet_is_right; simp [shR]
    | [a, b], _ => unfold e_sheet_is_right; simp [shR]
    | [a, b, c], _ => unfold e_sheet_is_right; simp [shR]
    | [a, b, c, d], _ => unfold e_sheet_is_right; simp [shR]
    | a :: b :: c :: d :: e :: f :: r, _ =>
      have h5 : ((r.length : Int) + 1 + 1 + 1 + 1 + 1 + 1 = 5) ↔ False := iff_false_intro (by omega)
      unfold e_sheet_is_right; simp [shR, h5]
  | dic ks vs => rw [PV.wel] at h; cases h
  | scr z => rw [PV.wel] at h; cases h
  | opq z => rw [PV.wel] at h; cases h
  | _ => unfold e_sheet_is_right; simp [shR]
mutual
/-- all tuples and lists in it are short -/
def PV.shr : PV → Bool
  | .tup xs => decide (xs.length ≤ 16777216) && PV.shrs xs | .lst xs => decide (xs.length ≤ 16777216) && PV.shrs xs
  | .non => true | .bl _ => true | .int _ => true | .str _ => true | .dic _ _ => true | .scr _ => true | .opq _ => true
def PV.shrs : List PV → Bool
  | [] => true
  | x :: xs => PV.shr x && PV.shrs xs
end
theorem shrs_iff : ∀ {xs : List PV}, PV.shrs xs = true ↔ ∀ x ∈ xs, PV.shr x = true
  | [] => by simp [PV.shrs]
  | x :: xs => by simp [PV.shrs, shrs_iff (xs := xs)]
def jRx (xs : List PV) : Bool := (xs.mapIdx fun i p => shR p i).all id
def jR : PV → Bool
  | .tup [.str w, b, .tup xs] => decide (w = tJournal) && (cnt b && jRx xs)
  | _ => false
theorem c_journal (xs : List PV) (a b : PV) (h : PV.wels xs = true) (h2 : PV.shrs xs = true) (hl : xs.length ≤ 16777216) :
    c_journal_is_right_1 [some (.fz (.tup [a, b, .tup xs])), none, none] = .ok (.ml ((xs.mapIdx fun i p => shR p i).map fun k => .fz (.bl k))) [some (.fz (.tup [a, b, .tup xs])), none, none] := by
  unfold c_journal_is_right_1
  rw [sLc_map (ρ1 := [some (.fz (.tup [a, b, .tup xs])), none, none]) (items := xs.mapIdx fun i p => .tup [.int i, p]) (fun z => match z with | .tup [.int i, p] => .bl (shR p i) | _ => .non) (by simp) (by rw [List.length_mapIdx]; exact hl) (fun p hp => by
    obtain ⟨i, hi, rfl⟩ := List.mem_mapIdx.mp hp
    have hm := List.getElem_mem hi
    refine ⟨[some (.fz (.tup [a, b, .tup xs])), some (.fz (.int i)), some (.fz xs[i])], [some (.fz (.tup [a, b, .tup xs])), some (.fz (.int i)), some (.fz xs[i])], [some (.fz (.tup [a, b, .tup xs])), some (.fz (.int i)), some (.fz xs[i])], by simp, by simp, ?_, by simp⟩
    have e := sheet_is_right_eq xs[i] i (wels_iff.mp h _ hm) fun ys hy => by
      have := shrs_iff.mp h2 _ hm
      rw [hy, PV.shr, Bool.and_eq_true] at this
      exact of_decide_eq_true this.1
    simp [e])]
  simp only [List.map_map, map_mapIdx, Function.comp_def]
  simp
theorem journal_is_right_eq (v : PV) (h : v.wel = true) (h2 : PV.shr v = true) : f_journal_is_right [.fz v] = .ok (.fz (.bl (jR v))) [] := by
  rw [r_journal_is_right]
  cases v with
  | tup xs =>
    match xs, h, h2 with
    | [a, b, c], h, h2 =>
      simp at h
      obtain ⟨ha, hb, hc⟩ := h
      simp [PV.shr, PV.shrs] at h2
      have c1 := is_count_eq b (wel_ty hb)
      cases a with
      | str w =>
        by_cases hw : w = tJournal
        · subst hw
          cases hb2 : cnt b with
          | true =>
            rw [hb2] at c1
            cases c with
            | tup xs =>
              have e := c_journal xs (.str tJournal) b (by simpa using hc) (by have := h2.2.2; simp [PV.shr] at this; exact this.2) (by have := h2.2.2; simp [PV.shr] at this; exact this.1)
              unfold tJournal at e
              unfold e_journal_is_right jR tJournal jRx
              simp [c1, hb2, e]
            | dic ks vs => rw [PV.wel] at hc; cases hc
            | scr z => rw [PV.wel] at hc; cases hc
            | opq z => rw [PV.wel] at hc; cases hc
            | _ => unfold e_journal_is_right tJournal; simp [c1, jR]
          | false =>
            rw [hb2] at c1
            have e : jR (.tup [.str tJournal, b, c]) = false := by
              cases c <;> first | rfl | (simp [jR, hb2]; done)
            rw [e]
            unfold e_journal_is_right tJournal
            simp [c1]
        · have e : jR (.tup [.str w, b, c]) = false := by
            cases c <;> first | rfl | (simp [jR, hw]; done)
          have hw' : ¬ w = [106, 111, 117, 114, 110, 97, 108] := hw
          rw [e]
          unfold e_journal_is_right
          simp [hw']
      | dic ks vs => rw [PV.wel] at ha; cases ha
      | scr z => rw [PV.wel] at ha; cases ha
      | opq z => rw [PV.wel] at ha; cases ha
      | _ => unfold e_journal_is_right; simp [jR]
    | [], _, _ => unfold e_journal_is_right; simp [jR]
    | [a], _, _ => unfold e_journal_is_right; simp [jR]
    | [a, b], _, _ => unfold e_journal_is_right; simp [jR]
    | a :: b :: c :: d :: r, _, _ =>
      have h5 : ((r.length : Int) + 1 + 1 + 1 + 1 = 3) ↔ False := iff_false_intro (by omega)
      unfold e_journal_is_right; simp [jR, h5]
  | dic ks vs => rw [PV.wel] at h; cases h
  | scr z => rw [PV.wel] at h; cases h
  | opq z => rw [PV.wel] at h; cases h
  | _ => unfold e_journal_is_right; simp [jR]
end K78

set_option Elab.async false
set_option linter.all false
set_option maxRecDepth 100000
set_option maxHeartbeats 4000000
namespace K78
open PySem PySem.Spec PyProof.Rows L2 Mv
/-! ### draws -/
def potM (a b : Int) : MV := .ml [.fz (.int a), .fz (.int b)]
def okP (m : MV) : Prop := ∃ a b : Int, m = potM a b ∧ 0 ≤ b ∧ b < 4294967296
theorem pPow_int (i j : Int) : pPow (.int i) (.int j) = if CPow i j then some (.int (i ^ j.toNat)) else none := rfl
theorem cmul_r {i j : Int} (h : -(2 ^ 64) < j ∧ j < 2 ^ 64) : CMul i j := .inr h
theorem cmul_l {i j : Int} (h : -(2 ^ 64) < i ∧ i < 2 ^ 64) : CMul i j := .inl h
def cellE : SE PV := (eIf (eBool (eOp pLt (eVar 1) (eCB (one pLen) (aCons (eVar 0) aNil)))) (eCB (one pAbs) (aCons (eOp pIx (eVar 0) (eVar 1)) aNil)) (eOp pAdd (eOp pMul (SE.ret (.int 4549)) (eVar 1)) (SE.ret (.int 3691))))
def potE : SE MV := (eLst (aCons (eCB (two pMax) (aCons (SE.ret (.int 0)) (aCons (eOp pSub (eVar 2) (eOp pPow (SE.ret (.int 10)) (SE.ret (.int 18)))) aNil))) (aCons (eOp pAdd (eOp pMod (eCB (one pInt) (aCons (eOp pAdd (eOp pAdd (eOp pMul (eOp pMod (eCB (one pInt) (aCons (eVar 2) aNil)) (SE.ret (.int 2147483549))) (SE.ret (.int 40014))) (eOp pMul (SE.ret (.int 9547)) (eVar 1))) (SE.ret (.int 3191))) aNil)) (SE.ret (.int 2147483563))) (SE.ret (.int 1))) aNil)))
theorem e_law_pot_eq : e__law_pot = sSeq (sSet 2 (Mv.mv cellE)) (sSeq (sRet potE) sNil) := rfl
theorem cell_ok (ns : List Int) (k : Nat) (hk : k < 100) (j : Option MV) : ∃ c : Int, cellE [some (.fz (.scr ns)), some (.fz (.int k)), j] = .ok (.int c) [some (.fz (.scr ns)), some (.fz (.int k)), j] := by
  have hc : CMul 4549 (k : Int) := cmul_l (by omega)
  unfold cellE
  by_cases h : k < ns.length
  · have e := at_nat ns k h
    refine ⟨if ns[k] < 0 then -ns[k] else ns[k], ?_⟩
    simp [h, e]
  · refine ⟨4549 * k + 3691, ?_⟩
    simp [h, hc]
theorem pot_ok (S : Option MV) (k : Nat) (hk : k < 100) (c : Int) : ∃ m, potE [S, some (.fz (.int k)), some (.fz (.int c))] = .ok m [S, some (.fz (.int k)), some (.fz (.int c))] ∧ okP m := by
  have h1 : CPow 10 18 := by unfold CPow; omega
  have h2 : CMul (c % 2147483549) 40014 := cmul_r (by omega)
  have h3 : CMul 9547 (k : Int) := cmul_l (by omega)
  refine ⟨potM (if c - 10 ^ (18 : Int).toNat > 0 then c - 10 ^ (18 : Int).toNat else 0) ((c % 2147483549 * 40014 + 9547 * k + 3191) % 2147483563 + 1), ?_, _, _, rfl, by omega, by omega⟩
  unfold potE
  have z1 : (0 : Int) < 2147483549 := by omega
  have z2 : (0 : Int) < 2147483563 := by omega
  have z3 : (0 + 1 + 1 : Nat) ≤ 16777216 := Nat.le_of_ble_eq_true rfl
  simp only [eLst_ap, aCons_ap, eCB_ap, ret_ap, th_ok, eOp_ap, eVar_ap, List.getElem?_cons_succ, List.getElem?_cons_zero, slotF_fz, oth_some, pPow_int, h1, if_true, ofO_some, pSub_int, aNil_ap, two_ap, one_ap, pMax_int, pInt_int, pMod_int, pMul_int, h2, h3, pAdd_int, z1, z2, List.length_cons, List.length_nil, z3, List.map_cons, List.map_nil]
  rfl
theorem f_law_pot_eq (ns : List Int) (k : Nat) (hk : k < 100) : ∃ m, f__law_pot [.fz (.scr ns), .fz (.int k)] = .ok m [] ∧ okP m := by
  rw [r__law_pot, e_law_pot_eq]
  obtain ⟨c, hc⟩ := cell_ok ns k hk none
  obtain ⟨m, hm, hp⟩ := pot_ok (some (.fz (.scr ns))) k hk c
  refine ⟨m, ?_, hp⟩
  rw [sSeq_ap, sSet_ap, mv_ap, hc]
  simp [hm]
theorem at2 {α : Type} (a b : α) : atI [a, b] 0 = some a ∧ atI [a, b] 1 = some b := ⟨rfl, rfl⟩
theorem ix2 : ixN 2 0 = some 0 ∧ ixN 2 1 = some 1 := ⟨rfl, rfl⟩
theorem f_law_draw_eq (m : MV) (hp : okP m) (many : Int) (h0 : 0 < many) (h1 : many < 1073741824) : ∃ (d : Nat) (m' : MV), f__law_draw [m, .fz (.int many)] = .ok (.fz (.int d)) [m'] ∧ okP m' ∧ (d : Int) < many := by
  rw [r__law_draw]
  obtain ⟨a, b, rfl, hb0, hb1⟩ := hp
  have hd : CDiv a many := ⟨h0, h1⟩
  unfold e__law_draw potM
  by_cases ha : 0 < a
  · have q0 := Int.emod_nonneg a (show many ≠ 0 by omega)
    have q1 := Int.emod_lt_of_pos a h0
    refine ⟨(a % many).toNat, potM (a / many) b, ?_, ⟨_, _, rfl, hb0, hb1⟩, by omega⟩
    have e : (((a % many).toNat : Nat) : Int) = a % many := by omega
    rw [e]
    simp [ha, ix2, hd, potM]
  · have c1 : CMul b 40692 := cmul_r (by omega)
    have c2 : CMul ((b * 40692 + 12721) % 2147483587) ((b * 40692 + 12721) % 2147483587) := cmul_l (by omega)
    have c3 : CDiv ((b * 40692 + 12721) % 2147483587 * ((b * 40692 + 12721) % 2147483587) % 2147483549) 17 := ⟨by omega, by omega⟩
    have q0 := Int.emod_nonneg ((b * 40692 + 12721) % 2147483587 * ((b * 40692 + 12721) % 2147483587) % 2147483549 / 17) (show many ≠ 0 by omega)
    have q1 := Int.emod_lt_of_pos ((b * 40692 + 12721) % 2147483587 * ((b * 40692 + 12721) % 2147483587) % 2147483549 / 17) h0
    refine ⟨((b * 40692 + 12721) % 2147483587 * ((b * 40692 + 12721) % 2147483587) % 2147483549 / 17 % many).toNat, potM a ((b * 40692 + 12721) % 2147483587), ?_, ⟨_, _, rfl, by omega, by omega⟩, by omega⟩
    have e : ((((b * 40692 + 12721) % 2147483587 * ((b * 40692 + 12721) % 2147483587) % 2147483549 / 17 % many).toNat : Nat) : Int) = (b * 40692 + 12721) % 2147483587 * ((b * 40692 + 12721) % 2147483587) % 2147483549 / 17 % many := by omega
    rw [e]
    simp [ha, ix2, c1, c2, c3, h0, potM]
theorem okP_ml {m : MV} (h : okP m) : ∃ xs, m = .ml xs := by
  obtain ⟨a, b, rfl, _⟩ := h
  exact ⟨_, rfl⟩
theorem f_law_pick_eq (m : MV) (hp : okP m) (xs : List PV) (h0 : xs ≠ []) (h1 : xs.length < 1000000) : ∃ x m', f__law_pick [m, .fz (.lst xs)] = .ok (.fz x) [m'] ∧ okP m' ∧ x ∈ xs := by
  rw [r__law_pick]
  have hl : 0 < xs.length := List.length_pos_iff.mpr h0
  obtain ⟨d, m', e, hp', d1⟩ := f_law_draw_eq m hp xs.length (by omega) (by omega)
  obtain ⟨ys, rfl⟩ := okP_ml hp
  have hd : d < xs.length := by omega
  have ha := at_nat xs d hd
  refine ⟨xs[d], m', ?_, hp', List.getElem_mem _⟩
  unfold e__law_pick
  simp [e, ha]
end K78

set_option Elab.async false
set_option linter.all false
set_option maxRecDepth 100000
set_option maxHeartbeats 4000000
namespace K78
open PySem PySem.Spec PyProof.Rows L2 Mv
/-! ### journals as they are drawn -/
structure ShOk (s : Sh) : Prop where
  r1 : 1 ≤ s.r
  r3 : s.r ≤ 3
  n : s.n.all sg = true
  l : s.n.length ≤ 10
  da : s.d ≤ s.a
  ad : s.a ≤ s.d + 1
  ar : s.a ≤ s.r
structure JOk (j : Jn) (k : Nat) : Prop where
  l : j.sh.length ≤ k
  e : j.ep ≤ k
  s : ∀ s ∈ j.sh, ShOk s
structure DOk (d : Dd) : Prop where
  ok : d.ok
  n : ∀ r n, d = .sheet r n → r ≤ 3 ∧ n.length ≤ 10
theorem JOk.mono {j : Jn} {k k' : Nat} (h : JOk j k) (hk : k ≤ k') : JOk j k' := ⟨Nat.le_trans h.l hk, Nat.le_trans h.e hk, h.s⟩
theorem mem_modify {l : List Sh} {a : Nat} {f : Sh → Sh} {s s0 : Sh} (h : l[a]? = some s0) (hs : s ∈ l.modify a f) : s ∈ l ∨ s = f s0 := by
  have hl : a < l.length := (List.getElem?_eq_some_iff.mp h).1
  rw [List.modify_eq_take_cons_drop hl] at hs
  rw [List.getElem?_eq_getElem hl] at h
  rw [Option.some.inj h] at hs
  rcases List.mem_append.mp hs with q | q
  · exact .inl (List.mem_of_mem_take q)
  · rcases List.mem_cons.mp q with q | q
    · exact .inr q
    · exact .inl (List.mem_of_mem_drop q)
theorem JOk.bh {j : Jn} {d : Dd} {k : Nat} (h : JOk j k) (hd : DOk d) (hw : wd j d = none) : JOk (bh j d) (k + 1) := by
  cases d with
  | epoch => exact ⟨Nat.le_succ_of_le h.l, Nat.succ_le_succ h.e, h.s⟩
  | sheet r n =>
    refine ⟨?_, Nat.le_succ_of_le h.e, fun s hs => ?_⟩
    · show (j.sh ++ [_]).length ≤ k + 1
      rw [List.length_append, List.length_singleton]
      exact Nat.succ_le_succ h.l
    · rcases List.mem_append.mp hs with q | q
      · exact h.s s q
      · rw [List.mem_singleton.mp q]
        obtain ⟨a1, a2, a3, a4⟩ := hd.ok
        obtain ⟨b1, b2⟩ := hd.n r n rfl
        exact ⟨a1, b1, a3, b2, Nat.le_refl _, Nat.zero_le _, Nat.zero_le _⟩
  | ask a b =>
    obtain ⟨s0, e, hx, hk⟩ := shWord_none hw
    have h0 := h.s s0 (List.mem_of_getElem? e)
    refine ⟨?_, Nat.le_succ_of_le h.e, fun s hs => ?_⟩
    · show (j.sh.modify a _).length ≤ k + 1
      rw [List.length_modify]
      exact Nat.le_succ_of_le h.l
    · rcases mem_modify e hs with q | q
      · exact h.s s q
      · rw [q]
        by_cases c1 : s0.d = s0.r
        · simp [c1] at hk
        · by_cases c2 : s0.d < s0.a
          · simp [c1, c2] at hk
          · have := h0.da
            have := h0.ar
            exact ⟨h0.r1, h0.r3, h0.n, h0.l, by show s0.d ≤ s0.a + 1; omega, by show s0.a + 1 ≤ s0.d + 1; omega, by show s0.a + 1 ≤ s0.r; omega⟩
  | done a b =>
    obtain ⟨s0, e, hx, hk⟩ := shWord_none hw
    have h0 := h.s s0 (List.mem_of_getElem? e)
    refine ⟨?_, Nat.le_succ_of_le h.e, fun s hs => ?_⟩
    · show (j.sh.modify a _).length ≤ k + 1
      rw [List.length_modify]
      exact Nat.le_succ_of_le h.l
    · rcases mem_modify e hs with q | q
      · exact h.s s q
      · rw [q]
        by_cases c1 : s0.a = s0.d
        · simp [c1] at hk
        · have := h0.da
          have := h0.ad
          exact ⟨h0.r1, h0.r3, h0.n, h0.l, by show s0.d + 1 ≤ s0.a; omega, by show s0.a ≤ s0.d + 1 + 1; omega, h0.ar⟩
  | drop a =>
    obtain ⟨s0, e, hx, hk⟩ := shWord_none hw
    have h0 := h.s s0 (List.mem_of_getElem? e)
    refine ⟨?_, Nat.le_succ_of_le h.e, fun s hs => ?_⟩
    · show (j.sh.modify a _).length ≤ k + 1
      rw [List.length_modify]
      exact Nat.le_succ_of_le h.l
    · rcases mem_modify e hs with q | q
      · exact h.s s q
      · rw [q]
        exact ⟨h0.r1, h0.r3, h0.n, h0.l, h0.da, h0.ad, h0.ar⟩
/-! what is shown of them -/
theorem sg_chr {s : Tx} (h : s.all sg = true) : ∀ c ∈ s, c < 0x110000 := fun c hc => by
  have := List.all_eq_true.mp h c hc
  unfold sg at this
  simp at this
  omega
theorem sm_sg {s : Tx} (h : s.all sg = true) : sm (10 * s.length + 4) 0 (.str s) := sm_str (sg_chr h)
theorem sm_sh {s : Sh} (h : ShOk s) : sm 9640 1 s.pv := by
  have h1 := h.r3
  have h2 := h.ar
  have h3 := h.da
  have h4 := h.l
  refine (sm_tupN (n := 1925) (d := 0) (k := 5) (fun x hx => ?_) (by simp)).mono (by decide) (by decide)
  simp at hx
  rcases hx with rfl | rfl | rfl | rfl | rfl
  · exact sm_int (by omega)
  · exact (sm_sg h.n).mono (by omega) (Nat.le_refl _)
  · exact sm_int (by omega)
  · exact sm_int (by omega)
  · exact (sm_bl _).mono (by omega) (Nat.le_refl _)
theorem sm_jn {j : Jn} {k : Nat} (h : JOk j k) (hk : k ≤ 100) : sm 2892640 3 j.pv := by
  have h1 := h.l
  have h2 := h.e
  have h3 : sm 964205 2 (shsP j.sh) := by
    refine (sm_tupN (n := 9640) (d := 1) (k := 100) (fun x hx => ?_) (by rw [List.length_map]; omega)).mono (by decide) (by decide)
    obtain ⟨s, hs, rfl⟩ := List.mem_map.mp hx
    exact sm_sh (h.s s hs)
  refine (sm_tupN (n := 964205) (d := 2) (k := 3) (fun x hx => ?_) (by simp)).mono (by decide) (by decide)
  simp at hx
  rcases hx with rfl | rfl | rfl
  · exact (sm_sg (s := tJournal) (by decide)).mono (by decide) (by decide)
  · exact (sm_int (by omega)).mono (by decide) (by decide)
  · exact h3
theorem sm_dd {d : Dd} (h : DOk d) : sm 5800 1 d.pv := by
  rw [Dd.pv_vs]
  refine (sm_tupN (n := 1925) (d := 0) (k := 3) (fun x hx => ?_) d.vs_len).mono (by decide) (by decide)
  have hok := h.ok
  cases d with
  | sheet r n =>
    obtain ⟨h1, h2, h3, h4⟩ := hok
    have h5 := (h.n r n rfl).2
    simp [Dd.vs] at hx
    rcases hx with rfl | rfl | rfl
    · exact (sm_sg (s := tSheet) (by decide)).mono (by decide) (by decide)
    · exact sm_int (by omega)
    · exact (sm_sg h3).mono (by omega) (by decide)
  | ask a b =>
    obtain ⟨h1, h2⟩ := hok
    simp [Dd.vs] at hx
    rcases hx with rfl | rfl | rfl
    · exact (sm_sg (s := tAsk) (by decide)).mono (by decide) (by decide)
    · exact sm_int (by omega)
    · exact sm_int (by omega)
  | done a b =>
    obtain ⟨h1, h2⟩ := hok
    simp [Dd.vs] at hx
    rcases hx with rfl | rfl | rfl
    · exact (sm_sg (s := tDone) (by decide)).mono (by decide) (by decide)
    · exact sm_int (by omega)
    · exact sm_int (by omega)
  | drop a =>
    have h1 : a ≤ 2000 := hok
    simp [Dd.vs] at hx
    rcases hx with rfl | rfl
    · exact (sm_sg (s := tDrop) (by decide)).mono (by decide) (by decide)
    · exact sm_int (by omega)
  | epoch =>
    simp [Dd.vs] at hx
    rw [hx]
    exact (sm_sg (s := tEpoch) (by decide)).mono (by decide) (by decide)
/-! ### the law's deed -/
theorem eq_nil_ok (l : List Sh) (h : sm 2892640 3 (shsP l)) : pEq (shsP l) (.tup []) = some (.bl l.isEmpty) := by
  obtain ⟨h1, h2, h3, h4⟩ := h
  have e1 : (shsP l).shp = true := by
    unfold PV.shp
    rw [h1, decide_eq_true (by omega)]
    rfl
  have e2 : (PV.tup []).shp = true := by decide
  have e3 : PV.eqv (shsP l) (.tup []) = l.isEmpty := by
    unfold shsP
    cases l <;> simp [PV.eqv, PV.eqvs]
  have e4 : PV.sc (shsP l) (.tup []) = none := rfl
  unfold pEq pyEq
  rw [e4, e1, e2, e3]
  rfl
theorem in_ints (i a b : Int) : pIn (.int i) (.tup [.int a, .int b]) = some (.bl (decide (i = a) || decide (i = b))) := by
  have c : ∀ s : Int, PV.eqv (.int s) (.int i) = decide (i = s) := fun s => by
    rw [PV.eqv]
    show decide (s = i) = _
    exact decide_eq_decide.mpr eq_comm
  have h : pyIn (.int i) (.tup [.int a, .int b]) = some (decide (i = a) || decide (i = b)) := by
    unfold pyIn
    dsimp only
    rw [if_pos (by rfl), List.any_cons, List.any_cons, List.any_nil, c, c, Bool.or_false]
  unfold pIn
  rw [h]
  rfl
theorem sm_shs {j : Jn} {k : Nat} (h : JOk j k) (hk : k ≤ 100) : sm 2892640 3 (shsP j.sh) := by
  have h1 := h.l
  refine (sm_tupN (n := 9640) (d := 1) (k := 100) (fun x hx => ?_) (by rw [List.length_map]; omega)).mono (by decide) (by decide)
  obtain ⟨s, hs, rfl⟩ := List.mem_map.mp hx
  exact sm_sh (h.s s hs)
theorem law_deed_eq (m : MV) (hp : okP m) (j : Jn) (k : Nat) (h : JOk j k) (hk : k ≤ 100) : ∃ d m', f__law_deed [m, .fz j.pv] = .ok (.fz (Dd.pv d)) [m'] ∧ okP m' ∧ DOk d := by
  rw [r__law_deed]
  have hl := h.l
  obtain ⟨kd, m1, e1, p1, q1⟩ := f_law_draw_eq m hp 12 (by omega) (by omega)
  obtain ⟨x0, rfl⟩ := okP_ml hp
  obtain ⟨x1, rfl⟩ := okP_ml p1
  have hnil := eq_nil_ok j.sh (sm_shs h hk)
  by_cases c1 : kd < 2 ∨ j.sh = []
  · obtain ⟨r, m2, e2, p2, q2⟩ := f_law_draw_eq _ p1 3 (by omega) (by omega)
    obtain ⟨x2, rfl⟩ := okP_ml p2
    obtain ⟨n, m3, e3, p3, q3⟩ := f_law_pick_eq _ p2 [.str [], .str [115, 107, 121], .str [97, 32, 98], .str [49, 32, 50], .str [120, 10, 121, 32, 126]] (by simp) (by simp)
    obtain ⟨x3, rfl⟩ := okP_ml p3
    have hn : ∃ t : Tx, n = .str t ∧ t.all sg = true ∧ t.length ≤ 10 := by
      simp at q3
      rcases q3 with rfl | rfl | rfl | rfl | rfl <;> exact ⟨_, rfl, by decide, by decide⟩
    obtain ⟨t, rfl, t1, t2⟩ := hn
    refine ⟨.sheet (r + 1) t, .ml x3, ?_, p3, ⟨by omega, by omega, t1, by omega⟩, fun r' n' e => by cases e; exact ⟨by omega, t2⟩⟩
    have c2 : ((kd : Int) < 2) ↔ kd < 2 := by omega
    have hr : (1 : Int) + (r : Int) = (r : Int) + 1 := by omega
    unfold e__law_deed Jn.pv Dd.pv tSheet
    by_cases c3 : kd < 2
    · simp [e1, c2, c3, e2, e3, hr]
    · have c4 : j.sh = [] := c1.resolve_left c3
      rw [c4] at hnil ⊢
      simp [e1, c2, c3, e2, e3, hr, hnil, shsP, -pEq_str] at hnil ⊢
      simp [e1, c2, c3, e2, e3, hr, hnil, shsP]
  · have c2 : ¬ kd < 2 := fun q => c1 (.inl q)
    have c3 : ¬ j.sh = [] := fun q => c1 (.inr q)
    have c4 : ¬ ((kd : Int) < 2) := by omega
    have hne : j.sh.isEmpty = false := by cases q : j.sh <;> simp_all
    rw [hne] at hnil
    have hpos : 0 < j.sh.length := List.length_pos_iff.mpr c3
    obtain ⟨at_, m2, e2, p2, q2⟩ := f_law_draw_eq _ p1 ((j.sh.length : Int) + (if kd = 11 then 1 else 0)) (by split <;> omega) (by split <;> omega)
    obtain ⟨x2, rfl⟩ := okP_ml p2
    have hat : at_ ≤ j.sh.length := by split at q2 <;> omega
    have hrow : ∃ row : Nat, row ≤ 3 ∧ (if at_ < j.sh.length then (∃ s, j.sh[at_]? = some s ∧ row = s.d) else row = 0) := by
      by_cases c : at_ < j.sh.length
      · have hs := h.s _ (List.getElem_mem c)
        have := hs.da
        have := hs.ar
        have := hs.r3
        refine ⟨j.sh[at_].d, by omega, ?_⟩
        rw [if_pos c]
        exact ⟨_, List.getElem?_eq_getElem c, rfl⟩
      · exact ⟨0, by omega, by rw [if_neg c]⟩
    obtain ⟨row, hrow3, hrow⟩ := hrow
    have c5 : ((at_ : Int) < (j.sh.length : Int)) ↔ at_ < j.sh.length := by omega
    have c6 : ((kd : Int) = 11) ↔ kd = 11 := by omega
    have tail : ∀ (row2 : Nat) (m3 : MV), row2 ≤ 4 → okP m3 → ∃ d m', (fin 1 ((sSeq (sIf (eBool (eOp pIn (eVar 3) (eTup (aCons (SE.ret (.int 2)) (aCons (SE.ret (.int 3)) aNil))))) (sSeq (sRet (Mv.mv (eIf (eBool (eOp pEq (eVar 3) (SE.ret (.int 2)))) (eTup (aCons (SE.ret (.str [101, 112, 111, 99, 104])) aNil)) (eTup (aCons (SE.ret (.str [100, 114, 111, 112])) (aCons (eVar 4) aNil)))))) sNil) sNil) (sSeq (sRet (Mv.mv (eTup (aCons (vw (eCall f__law_pick @gPos (rP 0 (rV (vw (eLst (aCons (SE.ret (.str [97, 115, 107])) (aCons (SE.ret (.str [100, 111, 110, 101])) aNil)))) rNil)) rNil)) (aCons (eVar 4) (aCons (eVar 5) aNil)))))) sNil)) [some m3, some (.fz j.pv), some (.fz (shsP j.sh)), some (.fz (.int kd)), some (.fz (.int at_)), some (.fz (.int row2))])) = .ok (.fz (Dd.pv d)) [m'] ∧ okP m' ∧ DOk d := fun row2 m3 hr2 p3 => by
      obtain ⟨x3, rfl⟩ := okP_ml p3
      have i1 := in_ints kd 2 3
      by_cases d1 : kd = 2
      · refine ⟨.epoch, _, ?_, p3, trivial, fun r' n' e => by cases e⟩
        subst d1
        simp [in_ints, Dd.pv, tEpoch]
      · by_cases d2 : kd = 3
        · refine ⟨.drop at_, _, ?_, p3, show at_ ≤ 2000 by omega, fun r' n' e => by cases e⟩
          subst d2
          simp [in_ints, Dd.pv, tDrop]
        · have d3 : ¬ ((kd : Int) = 2) := by omega
          have d4 : ¬ ((kd : Int) = 3) := by omega
          obtain ⟨w, m4, e4, p4, q4⟩ := f_law_pick_eq _ p3 [.str [97, 115, 107], .str [100, 111, 110, 101]] (by simp) (by simp)
          obtain ⟨x4, rfl⟩ := okP_ml p4
          simp at q4
          rcases q4 with rfl | rfl
          · refine ⟨.ask at_ row2, _, ?_, p4, ⟨by omega, by omega⟩, fun r' n' e => by cases e⟩
            simp [in_ints, d3, d4, e4, Dd.pv, tAsk]
          · refine ⟨.done at_ row2, _, ?_, p4, ⟨by omega, by omega⟩, fun r' n' e => by cases e⟩
            simp [in_ints, d3, d4, e4, Dd.pv, tDone]
    have i2 := in_ints kd 9 10
    unfold e__law_deed
    have front : ∀ (R : SE Out), sSeq (sPar [2, 3] (mCons (Mv.mv (eOp pIx (eVar 1) (SE.ret (.int 2)))) (mCons (Mv.mv (vw (eCall f__law_draw @gPos (rP 0 (rV (SE.ret (.int 12)) rNil)) rNil))) mNil))) R [some (.ml x0), some (.fz j.pv), none, none, none, none] = R [some (.ml x1), some (.fz j.pv), some (.fz (shsP j.sh)), some (.fz (.int kd)), none, none] := fun R => by
      unfold Jn.pv
      simp [e1, setAll]
    rw [front]
    have second : ∀ (R : SE Out) (S : SE Out), sSeq (sIf (sOr (eBool (eOp pLt (eVar 3) (SE.ret (.int 2)))) (eBool (eOp pEq (eVar 2) (eTup aNil)))) S sNil) R [some (.ml x1), some (.fz j.pv), some (.fz (shsP j.sh)), some (.fz (.int kd)), none, none] = R [some (.ml x1), some (.fz j.pv), some (.fz (shsP j.sh)), some (.fz (.int kd)), none, none] := fun R S => by
      simp [c4, hnil]
    rw [second]
    have third : ∀ (R : SE Out), sSeq (sSet 4 (Mv.mv (vw (eCall f__law_draw @gPos (rP 0 (rV (eOp pAdd (eCB (one pLen) (aCons (eVar 2) aNil)) (eIf (eBool (eOp pEq (eVar 3) (SE.ret (.int 11)))) (SE.ret (.int 1)) (SE.ret (.int 0)))) rNil)) rNil)))) R [some (.ml x1), some (.fz j.pv), some (.fz (shsP j.sh)), some (.fz (.int kd)), none, none] = R [some (.ml x2), some (.fz j.pv), some (.fz (shsP j.sh)), some (.fz (.int kd)), some (.fz (.int at_)), none] := fun R => by
      by_cases d : kd = 11
      · rw [if_pos d] at e2
        simp [shsP, c6, d, e2]
      · rw [if_neg d] at e2
        simp at e2
        simp [shsP, c6, d, e2]
    rw [third]
    have fourth : ∀ (R : SE Out), sSeq (sSet 5 (Mv.mv (eIf (eBool (eOp pLt (eVar 4) (eCB (one pLen) (aCons (eVar 2) aNil)))) (eOp pIx (eOp pIx (eVar 2) (eVar 4)) (SE.ret (.int 3))) (SE.ret (.int 0))))) R [some (.ml x2), some (.fz j.pv), some (.fz (shsP j.sh)), some (.fz (.int kd)), some (.fz (.int at_)), none] = R [some (.ml x2), some (.fz j.pv), some (.fz (shsP j.sh)), some (.fz (.int kd)), some (.fz (.int at_)), some (.fz (.int row))] := fun R => by
      by_cases d : at_ < j.sh.length
      · rw [if_pos d] at hrow
        obtain ⟨s, hs, rfl⟩ := hrow
        have ha := at_map hs
        simp [shsP, c5, d, ha, Sh.pv]
      · rw [if_neg d] at hrow
        subst hrow
        simp [shsP, c5, d]
    rw [fourth]
    by_cases c9 : kd = 9 ∨ kd = 10
    · obtain ⟨ad, m3, e3, p3, q3⟩ := f_law_draw_eq _ p2 2 (by omega) (by omega)
      have fifth : ∀ (R : SE Out), sSeq (sSet 5 (Mv.mv (eIf (eBool (eOp pIn (eVar 3) (eTup (aCons (SE.ret (.int 9)) (aCons (SE.ret (.int 10)) aNil))))) (eOp pAdd (eVar 5) (vw (eCall f__law_draw @gPos (rP 0 (rV (SE.ret (.int 2)) rNil)) rNil))) (eVar 5)))) R [some (.ml x2), some (.fz j.pv), some (.fz (shsP j.sh)), some (.fz (.int kd)), some (.fz (.int at_)), some (.fz (.int row))] = R [some m3, some (.fz j.pv), some (.fz (shsP j.sh)), some (.fz (.int kd)), some (.fz (.int at_)), some (.fz (.int (row + ad : Nat)))] := fun R => by
        rcases c9 with rfl | rfl <;> simp [in_ints, e3]
      rw [fifth]
      exact tail (row + ad) m3 (by omega) p3
    · have d1 : ¬ ((kd : Int) = 9) := by omega
      have d2 : ¬ ((kd : Int) = 10) := by omega
      have fifth : ∀ (R : SE Out), sSeq (sSet 5 (Mv.mv (eIf (eBool (eOp pIn (eVar 3) (eTup (aCons (SE.ret (.int 9)) (aCons (SE.ret (.int 10)) aNil))))) (eOp pAdd (eVar 5) (vw (eCall f__law_draw @gPos (rP 0 (rV (SE.ret (.int 2)) rNil)) rNil))) (eVar 5)))) R [some (.ml x2), some (.fz j.pv), some (.fz (shsP j.sh)), some (.fz (.int kd)), some (.fz (.int at_)), some (.fz (.int row))] = R [some (.ml x2), some (.fz j.pv), some (.fz (shsP j.sh)), some (.fz (.int kd)), some (.fz (.int at_)), some (.fz (.int row))] := fun R => by
        simp [in_ints, d1, d2]
      rw [fifth]
      exact tail row _ (by omega) p2
end K78

set_option Elab.async false
set_option linter.all false
set_option maxRecDepth 100000
set_option maxHeartbeats 4000000
namespace K78
open PySem PySem.Spec PyProof.Rows L2 Mv
/-! ### looks at drawn journals -/
theorem sh_right {s : Sh} (h : ShOk s) (i : Nat) (hi : i ≤ 2000) : shR s.pv i = true := by
  show shQ (.int s.r) (.str s.n) (.int s.a) (.int s.d) (.bl s.x) i = true
  show (decide _ && s.n.all sg) = true
  rw [h.n, Bool.and_true]
  have h1 := h.r1
  have h2 := h.r3
  have h3 := h.da
  have h4 := h.ad
  have h5 := h.ar
  have h6 := h.l
  exact decide_eq_true ⟨by omega, by omega, by omega, by omega, by omega, fun q => by omega, by omega, by omega, by omega⟩
theorem jn_right {j : Jn} {k : Nat} (h : JOk j k) (hk : k ≤ 100) : jR j.pv = true := by
  have hl := h.l
  show (decide (tJournal = tJournal) && (cnt (.int j.ep) && jRx (j.sh.map Sh.pv))) = true
  rw [decide_eq_true rfl, Bool.true_and]
  have e : cnt (.int j.ep) = true := by
    unfold cnt
    exact decide_eq_true (by omega)
  rw [e, Bool.true_and]
  unfold jRx
  rw [List.all_eq_true]
  intro b hb
  obtain ⟨i, hi, rfl⟩ := List.mem_mapIdx.mp hb
  rw [List.length_map] at hi
  rw [List.getElem_map]
  exact sh_right (h.s _ (List.getElem_mem hi)) i (by omega)
theorem jn_wel {j : Jn} {k : Nat} (h : JOk j k) (hk : k ≤ 100) : j.pv.wel = true := sm_wel (by decide) _ (sm_jn h hk)
theorem jn_shr {j : Jn} {k : Nat} (h : JOk j k) (hk : k ≤ 100) : PV.shr j.pv = true := by
  have hl := h.l
  have h1 : PV.shr (shsP j.sh) = true := by
    unfold shsP
    rw [PV.shr, Bool.and_eq_true]
    refine ⟨decide_eq_true (by rw [List.length_map]; omega), shrs_iff.mpr fun x hx => ?_⟩
    obtain ⟨s, _, rfl⟩ := List.mem_map.mp hx
    simp [Sh.pv, PV.shr, PV.shrs]
  unfold Jn.pv
  simp [PV.shr, PV.shrs, h1]
theorem check_journal_eq {j : Jn} {k : Nat} (h : JOk j k) (hk : k ≤ 100) : f_check_journal [.fz j.pv] = .ok (.fz .non) [] := by
  rw [r_check_journal]
  unfold e_check_journal
  have e := journal_is_right_eq j.pv (jn_wel h hk) (jn_shr h hk)
  rw [jn_right h hk] at e
  simp [e]
end K78

set_option Elab.async false
set_option linter.all false
set_option maxRecDepth 100000
set_option maxHeartbeats 4000000
namespace K78
open PySem PySem.Spec PyProof.Rows L2 Mv
theorem check_deed_eq {j : Jn} {k : Nat} (h : JOk j k) (hk : k ≤ 100) {d : Dd} (hd : DOk d) : f_check_deed [.fz j.pv, .fz d.pv] = .ok (.fz .non) [] := by
  rw [r_check_deed]
  unfold e_check_deed
  simp [check_journal_eq h hk, deed_dd hd.ok]
theorem is_deed_eq {d : Dd} (hd : DOk d) : f_is_deed [.fz d.pv] = .ok (.fz (.bl true)) [] := by
  rw [r_is_deed]
  unfold e_is_deed
  simp [deed_dd hd.ok]
theorem is_journal_eq (v : PV) (h : v.wel = true) (h2 : PV.shr v = true) : f_is_journal [.fz v] = .ok (.fz (.bl (jR v))) [] := by
  rw [r_is_journal]
  unfold e_is_journal
  simp [journal_is_right_eq v h h2]
theorem body_of_eq {d : Dd} (hd : DOk d) : f_body_of [.fz d.pv] = .ok (.fz (.str d.body)) [] := by
  rw [r_body_of]
  unfold e_body_of
  simp [deed_dd hd.ok, body_by_dd hd.ok]
theorem deed_of_eq (b : Tx) (h1 : 1 ≤ b.length) (h2 : b.length ≤ 5000) (h3 : b.all sg = true) : f_deed_of [.fz (.str b)] = .ok (.fz (dB b)) [] := by
  rw [r_deed_of]
  unfold e_deed_of
  have e := is_body_str b (by omega)
  rw [h3, decide_eq_true h1, decide_eq_true h2] at e
  simp [e, deed_by_eq b h2]
theorem new_journal_eq : f_new_journal [] = .ok (.fz (Jn.pv ⟨0, []⟩)) [] := by
  rw [r_new_journal]
  unfold e_new_journal
  simp [Jn.pv, shsP, tJournal]
theorem wrong_word_eq {j : Jn} {k : Nat} (h : JOk j k) (hk : k ≤ 100) {d : Dd} (hd : DOk d) : f_wrong_word [.fz j.pv, .fz d.pv] = .ok (.fz (oP (wd j d))) [] := by
  rw [r_wrong_word]
  unfold e_wrong_word
  have := h.l
  simp [check_deed_eq h hk hd, word_by_eq j d (by omega)]
theorem with_deed_eq {j : Jn} {k : Nat} (h : JOk j k) (hk : k ≤ 100) {d : Dd} (hd : DOk d) (hw : wd j d = none) : f_with_deed [.fz j.pv, .fz d.pv] = .ok (.fz (bh j d).pv) [] := by
  rw [r_with_deed]
  unfold e_with_deed
  have := h.l
  have e := word_by_eq j d (by omega)
  rw [hw] at e
  simp [check_deed_eq h hk hd, e, oP, behind_eq j d (by omega) hw]
/-! in doubt -/
def dbB (p : PV) : Bool := match p with
  | .tup [.int _, .tup [_, _, .int a, .int d, .bl x]] => !x && decide (d < a)
  | _ => false
def dbF (p : PV) : PV := match p with
  | .tup [.int i, .tup [_, _, .int _, .int d, .bl _]] => .tup [.int i, .int d]
  | _ => .non
def dbt (l : List Sh) : List PV := (((l.map Sh.pv).mapIdx fun i p => PV.tup [.int i, p]).filter dbB).map dbF
theorem c_doubt (j : Jn) (hl : j.sh.length ≤ 100000) : c_in_doubt_1 [some (.fz j.pv), none, none] = .ok (.ml ((dbt j.sh).map .fz)) [some (.fz j.pv), none, none] := by
  unfold c_in_doubt_1
  rw [sLc_filter (ρ1 := [some (.fz j.pv), none, none]) (items := (j.sh.map Sh.pv).mapIdx fun i p => PV.tup [.int i, p]) dbF dbB (by unfold Jn.pv shsP; simp) (by rw [List.length_mapIdx, List.length_map]; omega) (fun p hp => by
    obtain ⟨i, hi, rfl⟩ := List.mem_mapIdx.mp hp
    rw [List.length_map] at hi
    rw [List.getElem_map]
    generalize j.sh[i] = s
    refine ⟨[some (.fz j.pv), some (.fz (.int i)), some (.fz s.pv)], [some (.fz j.pv), some (.fz (.int i)), some (.fz s.pv)], [some (.fz j.pv), some (.fz (.int i)), some (.fz s.pv)], by simp, ?_, fun _ => by simp [Sh.pv, dbF], fun _ => rfl, by simp⟩
    have c : ((s.d : Int) < (s.a : Int)) ↔ s.d < s.a := by omega
    cases hx : s.x <;> simp [Sh.pv, dbB, hx, c])]
  unfold dbt
  simp
theorem c_law_doubt (j : Jn) (hl : j.sh.length ≤ 100000) : c__law_doubt_1 [some (.fz j.pv), none, none] = .ok (.ml ((dbt j.sh).map .fz)) [some (.fz j.pv), none, none] := by
  have e : c__law_doubt_1 = c_in_doubt_1 := rfl
  rw [e, c_doubt j hl]
theorem in_doubt_eq {j : Jn} {k : Nat} (h : JOk j k) (hk : k ≤ 100) : f_in_doubt [.fz j.pv] = .ok (.ml ((dbt j.sh).map .fz)) [] := by
  rw [r_in_doubt]
  unfold e_in_doubt
  have := h.l
  simp [check_journal_eq h hk, c_doubt j (by omega)]
theorem law_doubt_eq {j : Jn} {k : Nat} (h : JOk j k) (hk : k ≤ 100) : f__law_doubt [.fz j.pv] = .ok (.ml ((dbt j.sh).map .fz)) [] := by
  rw [r__law_doubt]
  unfold e__law_doubt
  have := h.l
  simp [c_law_doubt j (by omega)]
theorem dbt_sm {j : Jn} {k : Nat} (h : JOk j k) (hk : k ≤ 100) : sm 386505 2 (.lst (dbt j.sh)) := by
  have hl := h.l
  refine (sm_lstN (n := 3861) (d := 1) (k := 100) (fun x hx => ?_) ?_).mono (by decide) (by decide)
  · unfold dbt at hx
    obtain ⟨p, hp, rfl⟩ := List.mem_map.mp hx
    obtain ⟨hp, _⟩ := List.mem_filter.mp hp
    obtain ⟨i, hi, rfl⟩ := List.mem_mapIdx.mp hp
    rw [List.length_map] at hi
    rw [List.getElem_map]
    have hs := h.s _ (List.getElem_mem hi)
    generalize j.sh[i] = s at hs ⊢
    have h1 := hs.da
    have h2 := hs.ar
    have h3 := hs.r3
    show sm 3861 1 (.tup [.int i, .int s.d])
    refine (sm_tupN (n := 1925) (d := 0) (k := 2) (fun x hx => ?_) (by simp)).mono (by decide) (by decide)
    simp at hx
    rcases hx with rfl | rfl
    · exact sm_int (by omega)
    · exact sm_int (by omega)
  · unfold dbt
    rw [List.length_map]
    refine Nat.le_trans (List.length_filter_le _ _) ?_
    rw [List.length_mapIdx, List.length_map]
    omega
end K78

set_option Elab.async false
set_option linter.all false
set_option maxRecDepth 100000
set_option maxHeartbeats 4000000
namespace K78
open PySem PySem.Spec PyProof.Rows L2 Mv
/-! ### any values, as they are bent -/
mutual
def gd (n : Nat) : PV → Bool
  | .non => true | .bl _ => true | .int i => decide (i ≤ 1000000000) | .str s => s.all sg && decide (s.length ≤ 100)
  | .tup xs => decide (xs.length ≤ n) && gds n xs | .lst xs => decide (xs.length ≤ n) && gds n xs
  | .dic _ _ => false | .scr _ => false | .opq _ => false
def gds (n : Nat) : List PV → Bool
  | [] => true
  | x :: xs => gd n x && gds n xs
end
theorem gds_iff {n : Nat} : ∀ {xs : List PV}, gds n xs = true ↔ ∀ x ∈ xs, gd n x = true
  | [] => by simp [gds]
  | x :: xs => by simp [gds, gds_iff (xs := xs)]
theorem gd_tup {n : Nat} {xs : List PV} : gd n (.tup xs) = true ↔ xs.length ≤ n ∧ ∀ x ∈ xs, gd n x = true := by
  rw [gd, Bool.and_eq_true, gds_iff, decide_eq_true_iff]
theorem gd_lst {n : Nat} {xs : List PV} : gd n (.lst xs) = true ↔ xs.length ≤ n ∧ ∀ x ∈ xs, gd n x = true := by
  rw [gd, Bool.and_eq_true, gds_iff, decide_eq_true_iff]
theorem gd_all {n m : Nat} (hn : n ≤ 1000) (hm : n ≤ m) : ∀ p : PV, gd n p = true → p.wel = true ∧ PV.shr p = true ∧ p.chk = true ∧ gd m p = true := by
  have go : (∀ p : PV, gd n p = true → p.wel = true ∧ PV.shr p = true ∧ p.chk = true ∧ gd m p = true) ∧ (∀ ps : List PV, gds n ps = true → PV.wels ps = true ∧ PV.shrs ps = true ∧ PV.chks ps = true ∧ gds m ps = true) := by
    refine ⟨PV.rec (motive_1 := fun p => gd n p = true → p.wel = true ∧ PV.shr p = true ∧ p.chk = true ∧ gd m p = true) (motive_2 := fun ps => gds n ps = true → PV.wels ps = true ∧ PV.shrs ps = true ∧ PV.chks ps = true ∧ gds m ps = true) ?_ ?_ ?_ ?_ ?_ ?_ ?_ ?_ ?_ ?_ ?_,
      fun ps => PV.rec_1 (motive_1 := fun p => gd n p = true → p.wel = true ∧ PV.shr p = true ∧ p.chk = true ∧ gd m p = true) (motive_2 := fun ps => gds n ps = true → PV.wels ps = true ∧ PV.shrs ps = true ∧ PV.chks ps = true ∧ gds m ps = true) ?_ ?_ ?_ ?_ ?_ ?_ ?_ ?_ ?_ ?_ ?_ ps⟩
    all_goals first
      | (intro ks vs ih h; rw [gd] at h; cases h; done)
      | (intro xs h; rw [gd] at h; cases h; done)
      | (intro h; refine ⟨?_, ?_, ?_, ?_⟩ <;> (simp [PV.wel, PV.wels, PV.shr, PV.shrs, PV.chk, PV.chks, gd, gds]; done))
      | (intro b h; refine ⟨?_, ?_, ?_, ?_⟩ <;> (simp [PV.wel, PV.shr, PV.chk, gd]; done))
      | (intro i h
         refine ⟨PV.wel.eq_3 i, by simp [PV.shr], PV.chk.eq_3 i, ?_⟩
         rw [gd] at h ⊢
         exact h)
      | (intro s h
         rw [gd, Bool.and_eq_true] at h
         have hl := of_decide_eq_true h.2
         refine ⟨by rw [PV.wel]; exact decide_eq_true (by omega), by simp [PV.shr], ?_, by rw [gd, Bool.and_eq_true]; exact h⟩
         rw [PV.chk, List.all_eq_true]
         intro c hc
         exact decide_eq_true (sg_chr h.1 c hc))
      | (intro xs ih h
         rw [gd, Bool.and_eq_true] at h
         have hl := of_decide_eq_true h.1
         obtain ⟨a1, a2, a3, a4⟩ := ih h.2
         refine ⟨by rw [PV.wel]; exact a1, ?_, by rw [PV.chk]; exact a3, ?_⟩
         · rw [PV.shr, a2, Bool.and_true]
           exact decide_eq_true (by omega)
         · rw [gd, a4, Bool.and_true]
           exact decide_eq_true (by omega))
      | (intro ks vs ih h; rw [gd] at h; cases h)
      | (intro xs h; rw [gd] at h; cases h)
      | (intro x xs ih1 ih2 h
         rw [gds, Bool.and_eq_true] at h
         obtain ⟨a1, a2, a3, a4⟩ := ih1 h.1
         obtain ⟨b1, b2, b3, b4⟩ := ih2 h.2
         exact ⟨by rw [PV.wels, a1, b1]; rfl, by rw [PV.shrs, a2, b2]; rfl, by rw [PV.chks, a3, b3]; rfl, by rw [gds, a4, b4]; rfl⟩)
  exact go.1
/-! the law's own looks -/
theorem law_is_count_eq (v : PV) (m : Int) (h : v.tyOk = true) : f__law_is_count [.fz v, .fz (.int m)] = .ok (.fz (.bl (btw 0 m v))) [] := by
  rw [r__law_is_count]
  unfold e__law_is_count
  cases v with
  | int i =>
    by_cases h1 : 0 ≤ i <;> simp [btw, h1]
  | _ => first | (simp [btw]; done) | cases h
theorem law_is_sheet_eq (v : PV) (n : Nat) (hn : n ≤ 1000) (h : gd n v = true) (i : Int) (hi : i ≤ 2000) : f__law_is_sheet [.fz v] = .ok (.fz (.bl (shR v i))) [] := by
  rw [r__law_is_sheet]
  cases v with
  | tup xs =>
    match xs, h with
    | [a, b, c, d, e], h =>
      have hx := (gd_tup.mp h).2
      have ha := hx a (by simp)
      have hb := hx b (by simp)
      have hc := hx c (by simp)
      have hd := hx d (by simp)
      have he := hx e (by simp)
      have ta := wel_ty (gd_all hn (Nat.le_refl _) a ha).1
      have tc := wel_ty (gd_all hn (Nat.le_refl _) c hc).1
      have td := wel_ty (gd_all hn (Nat.le_refl _) d hd).1
      show _ = RF.ok (.fz (.bl (shQ a b c d e i))) []
      unfold e__law_is_sheet
      cases b with
      | str nt =>
        rw [gd, Bool.and_eq_true] at hb
        have hl := of_decide_eq_true hb.2
        have l1 : nt.length ≤ 16777216 := by omega
        have l2 : ¬ (4000 : Int) < (nt.length : Int) := by omega
        cases e with
        | bl x =>
          have e1 := law_is_count_eq a 2000 ta
          cases a with
          | int r =>
            unfold btw at e1
            have e2 := law_is_count_eq c r tc
            cases c with
            | int k =>
              unfold btw at e2
              have e3 := law_is_count_eq d k td
              cases d with
              | int l =>
                unfold btw at e3
                show _ = RF.ok (.fz (.bl (decide (1 ≤ r ∧ r ≤ 2000 ∧ nt.length ≤ 4000 ∧ 0 ≤ k ∧ 0 ≤ l ∧ ¬ (2000 < i ∧ (0 < k ∨ x = true)) ∧ l ≤ k ∧ k ≤ l + 1 ∧ k ≤ r) && nt.all sg))) []
                rw [hb.1, Bool.and_true]
                have hlt : ¬ 2000 < i := by omega
                have hl4 : nt.length ≤ 4000 := by omega
                by_cases d1 : 0 ≤ r
                · by_cases d2 : r ≤ 2000
                  · by_cases d3 : 1 ≤ r
                    · have d3' : ¬ r < 1 := by omega
                      by_cases d4 : 0 ≤ k
                      · by_cases d5 : k ≤ r
                        · by_cases d6 : 0 ≤ l
                          · by_cases d7 : l ≤ k
                            · have d8 : (k - l < 2) ↔ k ≤ l + 1 := by omega
                              simp [l1, l2, e1, e2, e3, d1, d2, d3, d3', d4, d5, d6, d7, d8, hl4, hlt]
                            · simp [l1, l2, e1, e2, e3, d1, d2, d3, d3', d4, d5, d6, d7]
                          · simp [l1, l2, e1, e2, e3, d1, d2, d3, d3', d4, d5, d6]
                        · simp [l1, l2, e1, e2, d1, d2, d3, d3', d4, d5]
                      · simp [l1, l2, e1, e2, d1, d2, d3, d3', d4]
                    · have d3' : r < 1 := by omega
                      simp [l1, l2, e1, d1, d2, d3, d3']
                  · simp [l1, l2, e1, d1, d2]
                · have d9 : ¬ 1 ≤ r := by omega
                  simp [l1, l2, e1, d1, d9]
              | _ =>
                show _ = RF.ok (.fz (.bl false)) []
                unfold btw at e3
                by_cases d1 : 0 ≤ r
                · by_cases d2 : r ≤ 2000
                  · by_cases d3 : r < 1
                    · simp [l1, l2, e1, d1, d2, d3]
                    · by_cases d4 : 0 ≤ k
                      · by_cases d5 : k ≤ r <;> simp [l1, l2, e1, e2, e3, d1, d2, d3, d4, d5]
                      · simp [l1, l2, e1, e2, d1, d2, d3, d4]
                  · simp [l1, l2, e1, d1, d2]
                · simp [l1, l2, e1, d1]
            | _ =>
              show _ = RF.ok (.fz (.bl false)) []
              unfold btw at e2
              by_cases d1 : 0 ≤ r
              · by_cases d2 : r ≤ 2000
                · by_cases d3 : r < 1 <;> simp [l1, l2, e1, e2, d1, d2, d3]
                · simp [l1, l2, e1, d1, d2]
              · simp [l1, l2, e1, d1]
          | _ =>
            show _ = RF.ok (.fz (.bl false)) []
            unfold btw at e1
            simp [l1, l2, e1]
        | dic ks vs => rw [gd] at he; cases he
        | scr z => rw [gd] at he; cases he
        | opq z => rw [gd] at he; cases he
        | _ =>
          have z : ∀ q, (∀ x, q ≠ PV.bl x) → shQ a (.str nt) c d q i = false := fun q hq => by
            cases a <;> try rfl
            cases c <;> try rfl
            cases d <;> try rfl
            cases q <;> first | rfl | exact absurd rfl (hq _)
          rw [z _ (fun x => by simp)]
          simp [l1, l2]
      | dic ks vs => rw [gd] at hb; cases hb
      | scr z => rw [gd] at hb; cases hb
      | opq z => rw [gd] at hb; cases hb
      | _ =>
        have z : ∀ q, (∀ x, q ≠ PV.str x) → shQ a q c d e i = false := fun q hq => by
          cases a <;> try rfl
          cases q <;> first | rfl | exact absurd rfl (hq _)
        rw [z _ (fun x => by simp)]
        simp
    | [], _ => unfold e__law_is_sheet; simp [shR]
    | [a], _ => unfold e__law_is_sheet; simp [shR]
    | [a, b], _ => unfold e__law_is_sheet; simp [shR]
    | [a, b, c], _ => unfold e__law_is_sheet; simp [shR]
    | [a, b, c, d], _ => unfold e__law_is_sheet; simp [shR]
    | a :: b :: c :: d :: e :: f :: r, _ =>
      have h5 : ((r.length : Int) + 1 + 1 + 1 + 1 + 1 + 1 = 5) ↔ False := iff_false_intro (by omega)
      unfold e__law_is_sheet; simp [shR, h5]
  | dic ks vs => rw [gd] at h; cases h
  | scr z => rw [gd] at h; cases h
  | opq z => rw [gd] at h; cases h
  | _ => unfold e__law_is_sheet; simp [shR]
theorem mapIdx_sh (xs : List PV) (hl : xs.length ≤ 1000) : jRx xs = (xs.map fun p => shR p 0).all id := by
  unfold jRx
  have e : ∀ (p : PV) (i : Nat), i ≤ 2000 → shR p i = shR p 0 := fun p i hi => by
    unfold shR
    split
    · rename_i a b c d e
      cases a <;> try rfl
      cases b <;> try rfl
      cases c <;> try rfl
      cases d <;> try rfl
      cases e <;> try rfl
      have h1 : ¬ (2000 : Int) < (i : Int) := by omega
      have h2 : ¬ (2000 : Int) < 0 := by omega
      unfold shQ
      simp only [h1, h2, false_and]
    · rfl
  congr 1
  apply List.ext_getElem?
  intro i
  rw [List.getElem?_mapIdx, List.getElem?_map]
  by_cases h : i < xs.length
  · rw [List.getElem?_eq_getElem h]
    show some (shR xs[i] (i : Int)) = some (shR xs[i] 0)
    rw [e _ i (by omega)]
  · rw [List.getElem?_eq_none (by omega)]
    rfl
theorem law_is_journal_eq (v : PV) (n : Nat) (hn : n ≤ 1000) (h : gd n v = true) : f__law_is_journal [.fz v] = .ok (.fz (.bl (jR v))) [] := by
  rw [r__law_is_journal]
  have hp : pPow (.int 10) (.int 9) = some (.int 1000000000) := by
    rw [pPow_int, if_pos (by unfold CPow; omega)]
    rfl
  cases v with
  | tup xs =>
    match xs, h with
    | [a, b, c], h =>
      have hx := (gd_tup.mp h).2
      have ha := hx a (by simp)
      have hb := hx b (by simp)
      have hc := hx c (by simp)
      have tb := wel_ty (gd_all hn (Nat.le_refl _) b hb).1
      have e1 := law_is_count_eq b 1000000000 tb
      have e2 : btw 0 1000000000 b = cnt b := by
        cases b with
        | int i =>
          rw [gd] at hb
          show (decide (0 ≤ i) && decide (i ≤ 1000000000)) = decide (0 ≤ i)
          rw [hb, Bool.and_true]
        | _ => rfl
      rw [e2] at e1
      unfold e__law_is_journal
      cases a with
      | str w =>
        by_cases hw : w = tJournal
        · subst hw
          cases hb2 : cnt b with
          | true =>
            rw [hb2] at e1
            cases c with
            | tup xs =>
              have hxs := gd_tup.mp hc
              have hcc : c__law_is_journal_1 [some (.fz (.tup [.str tJournal, b, .tup xs])), none] = .ok (.ml ((xs.map fun p => shR p 0).map fun k => .fz (.bl k))) [some (.fz (.tup [.str tJournal, b, .tup xs])), none] := by
                unfold c__law_is_journal_1
                rw [sLc_map (ρ1 := [some (.fz (.tup [.str tJournal, b, .tup xs])), none]) (items := xs) (fun p => .bl (shR p 0)) (by simp) (by omega) (fun p hp => by
                  exact ⟨[some (.fz (.tup [.str tJournal, b, .tup xs])), some (.fz p)], [some (.fz (.tup [.str tJournal, b, .tup xs])), some (.fz p)], [some (.fz (.tup [.str tJournal, b, .tup xs])), some (.fz p)], by simp, by simp, by simp [law_is_sheet_eq p n hn (hxs.2 p hp) 0 (by omega)], by simp⟩)]
                simp [Function.comp_def]
              have e3 : jR (.tup [.str tJournal, b, .tup xs]) = jRx xs := by
                show (decide (tJournal = tJournal) && (cnt b && jRx xs)) = _
                rw [decide_eq_true rfl, hb2]
                rfl
              rw [e3, mapIdx_sh xs (by omega)]
              unfold tJournal at hcc ⊢
              simp [hp, e1, hcc, Function.comp_def]
            | dic ks vs => rw [gd] at hc; cases hc
            | scr z => rw [gd] at hc; cases hc
            | opq z => rw [gd] at hc; cases hc
            | _ => unfold tJournal; simp [hp, e1, jR]
          | false =>
            rw [hb2] at e1
            have e : jR (.tup [.str tJournal, b, c]) = false := by
              cases c <;> first | rfl | (simp [jR, hb2]; done)
            rw [e]
            unfold tJournal
            simp [hp, e1]
        · have e : jR (.tup [.str w, b, c]) = false := by
            cases c <;> first | rfl | (simp [jR, hw]; done)
          have hw' : ¬ w = [106, 111, 117, 114, 110, 97, 108] := hw
          rw [e]
          simp [hw']
      | dic ks vs => rw [gd] at ha; cases ha
      | scr z => rw [gd] at ha; cases ha
      | opq z => rw [gd] at ha; cases ha
      | _ => simp [jR]
    | [], _ => unfold e__law_is_journal; simp [jR]
    | [a], _ => unfold e__law_is_journal; simp [jR]
    | [a, b], _ => unfold e__law_is_journal; simp [jR]
    | a :: b :: c :: d :: r, _ =>
      have h5 : ((r.length : Int) + 1 + 1 + 1 + 1 = 3) ↔ False := iff_false_intro (by omega)
      unfold e__law_is_journal; simp [jR, h5]
  | dic ks vs => rw [gd] at h; cases h
  | scr z => rw [gd] at h; cases h
  | opq z => rw [gd] at h; cases h
  | _ => unfold e__law_is_journal; simp [jR]
end K78

set_option Elab.async false
set_option linter.all false
set_option maxRecDepth 100000
set_option maxHeartbeats 4000000
namespace K78
open PySem PySem.Spec PyProof.Rows L2 Mv
/-! ### values bent -/
theorem eq_nil_gd {n : Nat} (hn : n ≤ 1000) (xs : List PV) (h : gd n (.tup xs) = true) (hd : (PV.tup xs).dep ≤ 64) : pEq (.tup xs) (.tup []) = some (.bl xs.isEmpty) := by
  have e1 : (PV.tup xs).shp = true := by
    unfold PV.shp
    rw [(gd_all hn (Nat.le_refl _) _ h).2.2.1, decide_eq_true hd]
    rfl
  have e2 : (PV.tup []).shp = true := by decide
  have e3 : PV.eqv (.tup xs) (.tup []) = xs.isEmpty := by
    cases xs <;> simp [PV.eqv, PV.eqvs]
  have e4 : PV.sc (.tup xs) (.tup []) = none := rfl
  unfold pEq pyEq
  rw [e4, e1, e2, e3]
  rfl
theorem dep_mem {x : PV} : ∀ {xs : List PV}, x ∈ xs → x.dep ≤ PV.deps xs
  | y :: ys, h => by
    rw [PV.deps]
    rcases List.mem_cons.mp h with rfl | h
    · omega
    · have := dep_mem h
      omega
theorem cut_nm1 (xs : List PV) : cutL xs none (some (-1)) = xs.take (xs.length - 1) := cutL_nm xs 1 (by omega)
theorem cut_m1n (xs : List PV) : cutL xs (some (-1)) none = xs.drop (xs.length - 1) := by
  unfold cutL
  rw [sIx_neg (by omega)]
  show (xs.drop _).take (xs.length - _) = _
  have e : ((-1 : Int) + (xs.length : Int)).toNat = xs.length - 1 := by omega
  rw [e]
  exact List.take_of_length_le (by rw [List.length_drop]; omega)
theorem bent_ok : ∀ (k : Nat) (m : MV) (v : PV) (n : Nat), okP m → n ≤ 500 → gd n v = true → v.dep < k → k ≤ 60 → ∃ x m', f__law_bent k [m, .fz v] = .ok (.fz x) [m'] ∧ okP m' ∧ gd (n + 1) x = true
  | 0, m, v, n, hp, hn, h, hd, hk => absurd hd (Nat.not_lt_zero _)
  | k + 1, m, v, n, hp, hn, h, hd, hk => by
    rw [r__law_bent]
    have hg := fun (p : PV) (q : gd n p = true) => (gd_all (m := n + 1) (by omega) (Nat.le_succ n) p q).2.2.2
    have ht : v.tyOk = true := wel_ty (gd_all (m := n) (by omega) (Nat.le_refl _) v h).1
    by_cases hv : ∃ xs, v = .tup xs
    · obtain ⟨xs, rfl⟩ := hv
      obtain ⟨hl, hx⟩ := gd_tup.mp h
      have hnil := eq_nil_gd (by omega) xs h (by omega)
      obtain ⟨x0, rfl⟩ := okP_ml hp
      have hl2 : xs.length ≤ 16777216 := by omega
      have pk : ∀ m : MV, okP m → ∃ x m', f__law_pick [m, .fz (.lst [.lst xs, .tup (xs.take (xs.length - 1)), .tup (xs ++ xs.drop (xs.length - 1)), .tup xs.reverse, .tup [], .tup xs])] = .ok (.fz x) [m'] ∧ okP m' ∧ gd (n + 1) x = true := fun m hm => by
        obtain ⟨x, m', e, p, q⟩ := f_law_pick_eq m hm [.lst xs, .tup (xs.take (xs.length - 1)), .tup (xs ++ xs.drop (xs.length - 1)), .tup xs.reverse, .tup [], .tup xs] (by simp) (by simp)
        refine ⟨x, m', e, p, ?_⟩
        simp at q
        rcases q with rfl | rfl | rfl | rfl | rfl | rfl
        · exact gd_lst.mpr ⟨by omega, fun y hy => hg y (hx y hy)⟩
        · exact gd_tup.mpr ⟨by rw [List.length_take]; omega, fun y hy => hg y (hx y (List.mem_of_mem_take hy))⟩
        · refine gd_tup.mpr ⟨by rw [List.length_append, List.length_drop]; omega, fun y hy => ?_⟩
          rcases List.mem_append.mp hy with hy | hy
          · exact hg y (hx y hy)
          · exact hg y (hx y (List.mem_of_mem_drop hy))
        · exact gd_tup.mpr ⟨by rw [List.length_reverse]; omega, fun y hy => hg y (hx y (List.mem_reverse.mp hy))⟩
        · exact gd_tup.mpr ⟨by simp, fun y hy => by cases hy⟩
        · exact gd_tup.mpr ⟨by omega, fun y hy => hg y (hx y hy)⟩
      have hadd : pAdd (.tup xs) (.tup (xs.drop (xs.length - 1))) = some (.tup (xs ++ xs.drop (xs.length - 1))) := by
        rw [pAdd_tup, if_pos (by rw [List.length_drop]; omega)]
      by_cases c : xs = []
      · obtain ⟨x, m', e, p, q⟩ := pk _ hp
        refine ⟨x, m', ?_, p, q⟩
        subst c
        obtain ⟨x', rfl⟩ := okP_ml p
        simp only [List.isEmpty_nil] at hnil
        simp at e
        unfold e__law_bent
        simp [hnil, e, cut_nm1, cut_m1n, -pAdd_tup, hadd]
        simp [e]
      · have he : xs.isEmpty = false := by cases q : xs <;> simp_all
        rw [he] at hnil
        obtain ⟨d, m1, e1, p1, q1⟩ := f_law_draw_eq _ hp 5 (by omega) (by omega)
        obtain ⟨x1, rfl⟩ := okP_ml p1
        by_cases c2 : d = 0
        · obtain ⟨x, m', e, p, q⟩ := pk _ p1
          refine ⟨x, m', ?_, p, q⟩
          obtain ⟨x', rfl⟩ := okP_ml p
          subst c2
          unfold e__law_bent
          simp [hnil, e1, cut_nm1, cut_m1n, -pAdd_tup, hadd, e]
        · have hpos : 0 < xs.length := List.length_pos_iff.mpr c
          obtain ⟨at_, m2, e2, p2, q2⟩ := f_law_draw_eq _ p1 xs.length (by omega) (by omega)
          obtain ⟨x2, rfl⟩ := okP_ml p2
          have hat : at_ < xs.length := by omega
          have hm := List.getElem_mem hat
          have hdx : xs[at_].dep < k := by
            have h1 := dep_mem hm
            rw [PV.dep] at hd
            omega
          obtain ⟨x, m3, e3, p3, q3⟩ := bent_ok k _ xs[at_] n p2 hn (hx _ hm) hdx (by omega)
          obtain ⟨x3, rfl⟩ := okP_ml p3
          have ha := at_nat xs at_ hat
          refine ⟨.tup (xs.take at_ ++ x :: xs.drop (at_ + 1)), .ml x3, ?_, p3, gd_tup.mpr ⟨?_, fun y hy => ?_⟩⟩
          · have m1 := mid_1 xs at_ x (by omega)
            have m2 := mid_2 xs at_ x (by omega)
            unfold e__law_bent
            simp [hnil, e1, c2, e2, ha, e3, cut_n, cut_s1, -pAdd_tup, m1, m2]
          · rw [List.length_append, List.length_take, List.length_cons, List.length_drop]
            omega
          · rcases List.mem_append.mp hy with hy | hy
            · exact hg y (hx y (List.mem_of_mem_take hy))
            · rcases List.mem_cons.mp hy with rfl | hy
              · exact q3
              · exact hg y (hx y (List.mem_of_mem_drop hy))
    · obtain ⟨x0, rfl⟩ := okP_ml hp
      obtain ⟨x, m', e, p, q⟩ := f_law_pick_eq _ hp [.non, .int 0, .int 1, .int 2, .int (-1), .bl true, .bl false, .str [], .str [106, 111, 117, 114, 110, 97, 108], .int 2001, v] (by simp) (by simp)
      obtain ⟨x', rfl⟩ := okP_ml p
      refine ⟨x, .ml x', ?_, p, ?_⟩
      · unfold e__law_bent
        cases v with
        | tup xs => exact absurd ⟨xs, rfl⟩ hv
        | scr z => cases ht
        | opq z => cases ht
        | _ => simp [e]
      · simp at q
        rcases q with rfl | rfl | rfl | rfl | rfl | rfl | rfl | rfl | rfl | rfl | rfl
        · rw [gd]
        · rw [gd]; decide
        · rw [gd]; decide
        · rw [gd]; decide
        · rw [gd]; decide
        · rw [gd]
        · rw [gd]
        · rw [gd]; decide
        · rw [gd]; decide
        · rw [gd]; decide
        · exact hg _ h
theorem gd_jn {j : Jn} {k : Nat} (h : JOk j k) (hk : k ≤ 100) : gd 100 j.pv = true := by
  have h1 := h.l
  have h2 := h.e
  have h3 : gd 100 (shsP j.sh) = true := by
    refine gd_tup.mpr ⟨by rw [List.length_map]; omega, fun x hx => ?_⟩
    obtain ⟨s, hs, rfl⟩ := List.mem_map.mp hx
    have hs := h.s s hs
    have a1 := hs.r3
    have a2 := hs.da
    have a3 := hs.ar
    have a4 := hs.l
    refine gd_tup.mpr ⟨by simp, fun y hy => ?_⟩
    simp at hy
    rcases hy with rfl | rfl | rfl | rfl | rfl
    · rw [gd]; exact decide_eq_true (by omega)
    · rw [gd, hs.n, decide_eq_true (by omega)]; rfl
    · rw [gd]; exact decide_eq_true (by omega)
    · rw [gd]; exact decide_eq_true (by omega)
    · rw [gd]
  refine gd_tup.mpr ⟨by simp, fun y hy => ?_⟩
  simp at hy
  rcases hy with rfl | rfl | rfl
  · rw [gd]; decide
  · rw [gd]; exact decide_eq_true (by omega)
  · exact h3
end K78

set_option Elab.async false
set_option linter.all false
set_option maxRecDepth 100000
set_option maxHeartbeats 4000000
namespace K78
open PySem PySem.Spec PyProof.Rows L2 Mv
/-! ### bodies -/
theorem sm_numV (t : Tx) : sm 1925 0 (numV t) := by
  unfold numV
  by_cases h : isNum t = true
  · rw [if_pos h]
    have := val_lt h
    exact sm_int (by omega)
  · rw [if_neg h]
    exact sm_non.mono (by decide) (by decide)
theorem sm_dB {o : Tx} (hl : o.length ≤ 100) (hs : o.all sg = true) : sm 5800 1 (dB o) := by
  unfold dB
  have hp : ∀ p ∈ spCk 32 2 o, p.all sg = true ∧ p.length ≤ 100 := fun p hp => by
    refine ⟨?_, Nat.le_trans (spCk_part hp) hl⟩
    unfold spCk at hp
    split at hp
    · rw [List.all_eq_true]
      exact fun c hc => List.all_eq_true.mp hs c (spC_sub hp hc)
    · rcases List.mem_append.mp hp with q | q
      · rw [List.all_eq_true]
        exact fun c hc => List.all_eq_true.mp hs c (spC_sub (List.mem_of_mem_take q) hc)
      · rw [List.mem_singleton.mp q, List.all_eq_true]
        intro c hc
        rcases mem_joinT [32] _ c hc with q | ⟨p, hp, q⟩
        · rw [List.mem_singleton.mp q]; rfl
        · exact List.all_eq_true.mp hs c (spC_sub (List.mem_of_mem_drop hp) q)
  have hlen := (spCk_len 32 2 o).1
  cases e : spCk 32 2 o with
  | nil => exact sm_non.mono (by decide) (by decide)
  | cons w rest =>
    rw [e] at hp hlen
    dsimp only
    split
    · have hw := hp w (by simp)
      have h3 : ∀ t : Tx, t.all sg = true → t.length ≤ 100 → sm 1925 0 (.str t) := fun t h1 h2 => (sm_sg h1).mono (by omega) (by decide)
      unfold dF
      split
      · split
        · rename_i x y _
          refine (sm_tupN (n := 1925) (d := 0) (k := 3) (fun z hz => ?_) (by simp)).mono (by decide) (by decide)
          simp at hz
          rcases hz with rfl | rfl | rfl
          · exact h3 _ (by decide) (by decide)
          · exact sm_numV x
          · exact h3 _ (hp y (by simp)).1 (hp y (by simp)).2
        · exact (sm_tup (n := 0) (d := 0) (xs := []) (fun x hx => by cases hx)).mono (by decide) (by decide)
      · refine (sm_tupN (n := 1925) (d := 0) (k := 3) (fun z hz => ?_) (by simp at hlen ⊢; omega)).mono (by decide) (by decide)
        rcases List.mem_cons.mp hz with rfl | hz
        · exact h3 _ hw.1 hw.2
        · obtain ⟨t, _, rfl⟩ := List.mem_map.mp hz
          exact sm_numV t
    · exact sm_non.mono (by decide) (by decide)
theorem DOk.len {d : Dd} (h : DOk d) : d.body.length ≤ 30 := by
  have key : d.body.length + 1 = (d.parts.map List.length).sum + d.parts.length := by
    unfold Dd.body
    exact joinT_len1 32 _ (by cases d <;> simp [Dd.parts])
  have hok := h.ok
  cases d with
  | sheet r n =>
    have h1 := num4 hok.2.1
    have h2 := (h.n r n rfl).2
    simp [Dd.parts, tSheet] at key
    omega
  | ask a b =>
    have h1 := num4 hok.1
    have h2 := num4 hok.2
    simp [Dd.parts, tAsk] at key
    omega
  | done a b =>
    have h1 := num4 hok.1
    have h2 := num4 hok.2
    simp [Dd.parts, tDone] at key
    omega
  | drop a =>
    have h1 := num4 (show a ≤ 2000 from hok)
    simp [Dd.parts, tDrop] at key
    omega
  | epoch =>
    simp [Dd.parts, tEpoch] at key
    omega
structure OkO (o : Tx) : Prop where
  l : o.length ≤ 100
  s : o.all sg = true
theorem OkO.app {a b : Tx} (h1 : a.length + b.length ≤ 100) (h2 : a.all sg = true) (h3 : b.all sg = true) : OkO (a ++ b) := ⟨by rw [List.length_append]; exact h1, by rw [List.all_append, h2, h3]; rfl⟩
theorem all_take {s : Tx} (n : Nat) (h : s.all sg = true) : (s.take n).all sg = true := List.all_eq_true.mpr fun c hc => List.all_eq_true.mp h c (List.mem_of_mem_take hc)
theorem all_drop {s : Tx} (n : Nat) (h : s.all sg = true) : (s.drop n).all sg = true := List.all_eq_true.mpr fun c hc => List.all_eq_true.mp h c (List.mem_of_mem_drop hc)
theorem joinT_le (sep : Tx) : ∀ ps : List Tx, (joinT sep ps).length ≤ (ps.map List.length).sum + ps.length * sep.length
  | [] => by simp [joinT_nil']
  | [p] => by rw [joinT_one]; simp
  | p :: q :: r => by
    have ih := joinT_le sep (q :: r)
    rw [joinT_two, List.length_append, List.length_append, List.map_cons, List.sum_cons, List.length_cons, Nat.succ_mul]
    omega
theorem OkO.repl {s : Tx} (h : s.all sg = true) (hl : s.length ≤ 30) : OkO (joinT [32, 32] (spC 32 s)) := by
  have h1 := spC_sum 32 s
  have h2 := joinT_le [32, 32] (spC 32 s)
  refine ⟨?_, List.all_eq_true.mpr fun c hc => ?_⟩
  · have e : ([32, 32] : Tx).length = 2 := rfl
    rw [e] at h2
    omega
  · rcases mem_joinT _ _ c hc with q | ⟨p, hp, q⟩
    · simp at q
      rw [q]
      rfl
    · exact List.all_eq_true.mp h c (spC_sub hp q)
theorem turn_o (o : Tx) (ho : OkO o) (h0 : o ≠ []) (a0 a1 a2 a3 a4 a6 : Option MV) : b__law_bodies_right_1 [a0, a1, a2, a3, a4, some (.fz (.str o)), a6] = .ok .nx [a0, a1, a2, a3, a4, some (.fz (.str o)), a6] := by
  have hl := ho.l
  have h1 : 1 ≤ o.length := by
    cases o with
    | nil => exact absurd rfl h0
    | cons a r => simp
  have e1 := deed_of_eq o h1 (by omega) ho.s
  have e2 := law_deed_of_eq o (by omega) ho.s
  have e3 := sm_repr (sm_dB ho.l ho.s)
  unfold b__law_bodies_right_1
  simp [e1, e2, e3]
theorem loop_o (a0 a1 a2 a3 a4 a6 : Option MV) : ∀ (os : List Tx), (∀ o ∈ os, OkO o ∧ o ≠ []) → ∀ a5, ∃ a5', forL (gN 5) b__law_bodies_right_1 (os.map .str) [a0, a1, a2, a3, a4, a5, a6] = .ok .nx [a0, a1, a2, a3, a4, a5', a6]
  | [], _, a5 => ⟨a5, by simp⟩
  | o :: os, h, a5 => by
    obtain ⟨b, e⟩ := loop_o a0 a1 a2 a3 a4 a6 os (fun x hx => h x (List.mem_cons_of_mem _ hx)) (some (.fz (.str o)))
    have h1 := h o (List.mem_cons_self ..)
    refine ⟨b, ?_⟩
    rw [List.map_cons, forL_ap]
    have e1 : gN 5 (.str o) [a0, a1, a2, a3, a4, a5, a6] = some [a0, a1, a2, a3, a4, some (.fz (.str o)), a6] := by simp
    rw [e1, oth_some, turn_o o h1.1 h1.2, lpO_nx, e]
def sL (os : List Tx) : PV := .lst (os.map .str)
theorem c_bodies (a0 a1 a2 a3 : Option MV) (os : List Tx) (hl : os.length ≤ 1000) : c__law_bodies_right_1 [a0, a1, a2, a3, some (.fz (sL os)), none, none] = .ok (.ml (((os.filter fun o => decide (o ≠ [])).map .str).map .fz)) [a0, a1, a2, a3, some (.fz (sL os)), none, none] := by
  unfold c__law_bodies_right_1
  rw [sLc_filter (ρ1 := [a0, a1, a2, a3, some (.fz (sL os)), none, none]) (items := os.map .str) (fun p => p) (fun p => match p with | .str t => decide (t ≠ []) | _ => false) (by simp [sL]) (by rw [List.length_map]; omega) (fun p hp => by
    obtain ⟨t, ht, rfl⟩ := List.mem_map.mp hp
    refine ⟨[a0, a1, a2, a3, some (.fz (sL os)), none, some (.fz (.str t))], [a0, a1, a2, a3, some (.fz (sL os)), none, some (.fz (.str t))], [a0, a1, a2, a3, some (.fz (sL os)), none, some (.fz (.str t))], by simp, ?_, fun _ => by simp, fun _ => rfl, by simp⟩
    simp)]
  congr 2
  have e : (os.map PV.str).filter (fun p => match p with | .str t => decide (t ≠ []) | _ => false) = (os.filter fun o => decide (o ≠ [])).map .str := by
    rw [List.filter_map]
    rfl
  rw [e]
  simp
theorem law_bodies_right_eq (m : MV) (hp : okP m) (d : Dd) (hd : DOk d) : ∃ m', f__law_bodies_right [m, .fz d.pv] = .ok (.fz (.bl true)) [m'] ∧ okP m' := by
  rw [r__law_bodies_right]
  have hl := hd.len
  have hl4 := (Dd.len hd.ok).2
  have hs := Dd.sg hd.ok
  obtain ⟨x0, rfl⟩ := okP_ml hp
  obtain ⟨a, m1, e1, p1, q1⟩ := f_law_draw_eq _ hp d.body.length (by omega) (by omega)
  obtain ⟨x1, rfl⟩ := okP_ml p1
  obtain ⟨c, m2, e2, p2, q2⟩ := f_law_pick_eq _ p1 [.str [48], .str [32], .str [120], .str [55]] (by simp) (by simp)
  obtain ⟨x2, rfl⟩ := okP_ml p2
  have hc : ∃ t : Tx, c = .str t ∧ t.all sg = true ∧ t.length ≤ 1 := by
    simp at q2
    rcases q2 with rfl | rfl | rfl | rfl <;> exact ⟨_, rfl, by decide, by decide⟩
  obtain ⟨t, rfl, t1, t2⟩ := hc
  generalize hb : d.body = b at *
  have ha : a < b.length := by omega
  have e3 := deed_of_eq b (by omega) (by omega) hs
  have e4 : dB b = d.pv := by rw [← hb]; exact dB_body hd.ok
  rw [e4] at e3
  have e5 := law_body_dd hd.ok
  have e6 := body_of_eq hd
  have e7 := is_deed_eq hd
  rw [hb] at e5 e6
  have e8 : pRepr (.lst [.str b, .str b, d.pv, d.pv, .bl true]) = some (.str (PV.rp (.lst [.str b, .str b, d.pv, d.pv, .bl true]))) := by
    refine sm_repr (n := 29015) (d := 2) ((sm_lstN (n := 5800) (d := 1) (k := 5) (fun z hz => ?_) (by simp)).mono (by decide) (by decide))
    have h1 : sm 5800 1 (.str b) := (sm_sg hs).mono (by omega) (by decide)
    simp at hz
    rcases hz with rfl | rfl | rfl
    · exact h1
    · exact sm_dd hd
    · exact (sm_bl _).mono (by decide) (by decide)
  have os : List Tx := [b ++ [32], b ++ [32, 48], 32 :: b, b.take a ++ t ++ b.drop a, b.take a ++ b.drop (a + 1), joinT [32, 32] (spC 32 b), [115, 104, 101, 101, 116, 32, 50, 32], [115, 104, 101, 101, 116, 32, 50], [97, 115, 107, 32, 48, 48, 32, 49]]
  have hos : ∀ o ∈ [b ++ [32], b ++ [32, 48], 32 :: b, b.take a ++ t ++ b.drop a, b.take a ++ b.drop (a + 1), joinT [32, 32] (spC 32 b), [115, 104, 101, 101, 116, 32, 50, 32], [115, 104, 101, 101, 116, 32, 50], [97, 115, 107, 32, 48, 48, 32, 49]], OkO o := fun o ho => by
    simp only [List.mem_cons, List.mem_singleton, List.not_mem_nil, or_false] at ho
    rcases ho with rfl | rfl | rfl | rfl | rfl | rfl | rfl | rfl | rfl
    · exact OkO.app (by simp; omega) hs (by decide)
    · exact OkO.app (by simp; omega) hs (by decide)
    · exact OkO.app (a := [32]) (by simp; omega) (by decide) hs
    · refine OkO.app (by rw [List.length_append, List.length_take, List.length_drop]; omega) ?_ (all_drop a hs)
      rw [List.all_append, all_take a hs, t1]
      rfl
    · exact OkO.app (by rw [List.length_take, List.length_drop]; omega) (all_take a hs) (all_drop _ hs)
    · exact OkO.repl hs hl
    · exact ⟨by decide, by decide⟩
    · exact ⟨by decide, by decide⟩
    · exact ⟨by decide, by decide⟩
  refine ⟨.ml x2, ?_, p2⟩
  have l1 : b.length ≤ 16777216 := by omega
  have l2 : b.length + 1 ≤ 16777216 := by omega
  have l3 : b.length + 2 ≤ 16777216 := by omega
  have l4 : 1 + b.length ≤ 16777216 := by omega
  have l5 : min a b.length + t.length ≤ 16777216 := by omega
  have l6 : min a b.length + t.length + (b.length - a) ≤ 16777216 := by omega
  have l7 : min a b.length + (b.length - (a + 1)) ≤ 16777216 := by omega
  have l8 : b.length + (b.length + 1) * 2 ≤ 16777216 := by omega
  have k1 : cutL b none (some (a : Int)) = b.take a := cut_n b a
  have k2 : cutL b (some ((a : Int) + 1)) none = b.drop (a + 1) := cut_s1 b a
  have k3 : cutL b (some (a : Int)) none = b.drop a := by
    rw [cutL_pn _ (by omega), Int.toNat_natCast]
  have k4 := repl_one b [32, 32] 32
  have A1 : pAdd (.str b) (.str [32]) = some (.str (b ++ [32])) := by rw [pAdd_str, if_pos (by simpa using l2)]
  have A2 : pAdd (.str b) (.str [32, 48]) = some (.str (b ++ [32, 48])) := by rw [pAdd_str, if_pos (by simpa using l3)]
  have A3 : pAdd (.str [32]) (.str b) = some (.str (32 :: b)) := by
    rw [pAdd_str, if_pos (by simpa using l4)]
    rfl
  have A4 : pAdd (.str (b.take a)) (.str t) = some (.str (b.take a ++ t)) := by rw [pAdd_str, if_pos (by rw [List.length_take]; omega)]
  have A5 : pAdd (.str (b.take a ++ t)) (.str (b.drop a)) = some (.str (b.take a ++ t ++ b.drop a)) := by rw [pAdd_str, if_pos (by rw [List.length_append, List.length_take, List.length_drop]; omega)]
  have A6 : pAdd (.str (b.take a)) (.str (b.drop (a + 1))) = some (.str (b.take a ++ b.drop (a + 1))) := by rw [pAdd_str, if_pos (by rw [List.length_take, List.length_drop]; omega)]
  have A7 : pRepl [32] [32, 32] (.str b) = some (.str (joinT [32, 32] (spC 32 b))) := by
    rw [pRepl_str, if_pos (by simpa using l8), k4]
  obtain ⟨a5, lo⟩ := loop_o (some (.ml x2)) (some (.fz d.pv)) (some (.fz (.str b))) (some (.fz (.int a))) (some (.fz (sL [b ++ [32], b ++ [32, 48], 32 :: b, b.take a ++ t ++ b.drop a, b.take a ++ b.drop (a + 1), joinT [32, 32] (spC 32 b), [115, 104, 101, 101, 116, 32, 50, 32], [115, 104, 101, 101, 116, 32, 50], [97, 115, 107, 32, 48, 48, 32, 49]]))) none _ (fun o ho => by
    obtain ⟨h1, h2⟩ := List.mem_filter.mp ho
    exact ⟨hos o h1, of_decide_eq_true h2⟩) none
  have cb := c_bodies (some (.ml x2)) (some (.fz d.pv)) (some (.fz (.str b))) (some (.fz (.int a))) [b ++ [32], b ++ [32, 48], 32 :: b, b.take a ++ t ++ b.drop a, b.take a ++ b.drop (a + 1), joinT [32, 32] (spC 32 b), [115, 104, 101, 101, 116, 32, 50, 32], [115, 104, 101, 101, 116, 32, 50], [97, 115, 107, 32, 48, 48, 32, 49]] (by simp)
  generalize List.filter (fun o => decide (o ≠ [])) [b ++ [32], b ++ [32, 48], 32 :: b, b.take a ++ t ++ b.drop a, b.take a ++ b.drop (a + 1), joinT [32, 32] (spC 32 b), [115, 104, 101, 101, 116, 32, 50, 32], [115, 104, 101, 101, 116, 32, 50], [97, 115, 107, 32, 48, 48, 32, 49]] = fl at lo cb
  unfold sL at lo cb
  simp only [List.map_cons, List.map_nil] at lo cb
  unfold e__law_bodies_right
  simp only [sSeq_ap, sSet_ap, mv_ap, vw_ap, eCall_ap, rV_ap, rNil_ap, eVar_ap, List.getElem?_cons_succ, List.getElem?_cons_zero, slotF_fz, oth_some, th_ok, gPos_ap, gather_v, gather_nil, Option.map_some, e5, rf_ok, putB_v, putB_nil, putB_nil2, view_fz, nxt_nx, List.length_cons, List.length_nil]
  simp [e6, e3, e7, e8, gKw, e1, l1, e2, -pAdd_str, -pRepl_str, -List.cons_append, -List.nil_append, -List.append_assoc, A1, A2, A3, A4, A5, A6, A7, k1, k2, k3, cb, lo, -List.map_map]
end K78

set_option Elab.async false
set_option linter.all false
set_option maxRecDepth 100000
set_option maxHeartbeats 4000000
namespace K78
open PySem PySem.Spec PyProof.Rows L2 Mv
/-! ### a turn -/
theorem sm_two {n d : Nat} {a b : PV} (h1 : sm n d a) (h2 : sm n d b) : sm ((n + 2) * 2 + 5) (d + 1) (.lst [a, b]) :=
  sm_lst (xs := [a, b]) fun x hx => by
    simp at hx
    rcases hx with rfl | rfl
    · exact h1
    · exact h2
theorem sm_oP (w : Option Tx) (h : ∀ t, w = some t → t.all sg = true ∧ t.length ≤ 100) : sm 1925 0 (oP w) := by
  cases w with
  | none => exact sm_non.mono (by decide) (by decide)
  | some t =>
    obtain ⟨h1, h2⟩ := h t rfl
    exact (sm_sg h1).mono (by omega) (by decide)
theorem shWord_ok (o : Option Sh) (k : Sh → Option Tx) (P : Tx → Prop) (h1 : P tSheet) (h2 : P tDropped) (h3 : ∀ s t, k s = some t → P t) : ∀ t, shWord o k = some t → P t := by
  intro t h
  cases o with
  | none => cases h; exact h1
  | some s =>
    unfold shWord at h
    cases hx : s.x with
    | true => simp [hx] at h; rw [← h]; exact h2
    | false => simp [hx] at h; exact h3 s t h
theorem wd_ok (j : Jn) (d : Dd) : ∀ t, wd j d = some t → t.all sg = true ∧ t.length ≤ 100 := by
  cases d with
  | sheet r n => intro t h; cases h
  | epoch => intro t h; cases h
  | ask a b =>
    refine shWord_ok _ _ (fun t => t.all sg = true ∧ t.length ≤ 100) ⟨by decide, by decide⟩ ⟨by decide, by decide⟩ fun s t h => ?_
    split at h
    · cases h; exact ⟨by decide, by decide⟩
    · split at h
      · cases h; exact ⟨by decide, by decide⟩
      · split at h
        · cases h
        · cases h; exact ⟨by decide, by decide⟩
  | done a b =>
    refine shWord_ok _ _ (fun t => t.all sg = true ∧ t.length ≤ 100) ⟨by decide, by decide⟩ ⟨by decide, by decide⟩ fun s t h => ?_
    split at h
    · cases h; exact ⟨by decide, by decide⟩
    · split at h
      · cases h
      · cases h; exact ⟨by decide, by decide⟩
  | drop a =>
    exact shWord_ok _ _ (fun t => t.all sg = true ∧ t.length ≤ 100) ⟨by decide, by decide⟩ ⟨by decide, by decide⟩ fun s t h => by cases h
theorem turn_r (p l : MV) (hp : okP p) (hl : okP l) (j : Jn) (k : Nat) (h : JOk j k) (hk : k ≤ 90) (s3 s4 s5 s6 s7 s8 : Option MV) :
    ∃ p' l' j' t4 t5 t6 t7 t8, b__law_right_1 [some p, some l, some (.fz j.pv), s3, s4, s5, s6, s7, s8, none, none] = .ok .nx [some p', some l', some (.fz (Jn.pv j')), s3, t4, t5, t6, t7, t8, none, none] ∧ okP p' ∧ okP l' ∧ JOk j' (k + 1) := by
  obtain ⟨d, p', e1, p1, hd⟩ := law_deed_eq p hp j k h (by omega)
  obtain ⟨l', e2, p2⟩ := law_bodies_right_eq l hl d hd
  have hjl := h.l
  obtain ⟨x0, rfl⟩ := okP_ml hp
  obtain ⟨x1, rfl⟩ := okP_ml hl
  obtain ⟨x2, rfl⟩ := okP_ml p1
  obtain ⟨x3, rfl⟩ := okP_ml p2
  have e3 := sm_repr (sm_two (sm_jn h (by omega)) ((sm_dd hd).mono (n' := 2892640) (d' := 3) (by decide) (by decide)))
  have e4 := law_word_eq j d (by omega)
  have e5 := wrong_word_eq h (by omega) hd
  have e6 := sm_repr (sm_two (sm_oP _ (wd_ok j d)) (sm_oP _ (wd_ok j d)))
  have tail : ∀ (j' : Jn), JOk j' (k + 1) → ∀ (r4 r5 r6 r7 : Option MV), ∃ t8, (sSeq (sSet 8 (eCall f_in_doubt @gPos (rV (eVar 2) rNil) rNil)) (sSeq (sIf (eBool (eOp pNe (eScope (eCB (one pRepr) (aCons (vw (eLst (aCons (eVar 8) (aCons (vw (eCall f_in_doubt (fun {α} => gKw (α := α) [0]) rNil (rV (eVar 2) rNil))) aNil)))) aNil))) (eCB (one pRepr) (aCons (vw (eRep (vw (eLst (aCons (vw (eCall f__law_doubt @gPos (rV (eVar 2) rNil) rNil)) aNil))) (SE.ret (.int 2)))) aNil)))) (sSeq (sRet (Mv.mv (SE.ret (.bl false)))) sNil) sNil) (sSeq (sApp 8 (SE.ret .non)) sNil))) [some (.ml x2), some (.ml x3), some (.fz (Jn.pv j')), s3, r4, r5, r6, r7, s8, none, none] = .ok .nx [some (.ml x2), some (.ml x3), some (.fz (Jn.pv j')), s3, r4, r5, r6, r7, t8, none, none] := fun j' h' r4 r5 r6 r7 => by
    have f1 := in_doubt_eq h' (by omega)
    have f2 := law_doubt_eq h' (by omega)
    have f3 := dbt_sm h' (by omega)
    have f4 := sm_repr (sm_two f3 f3)
    have hlen : (dbt j'.sh).length < 16777216 := by
      unfold dbt
      rw [List.length_map]
      refine Nat.lt_of_le_of_lt (List.length_filter_le _ _) ?_
      rw [List.length_mapIdx, List.length_map]
      have := h'.l
      omega
    refine ⟨some (.ml ((dbt j'.sh).map .fz ++ [.fz .non])), ?_⟩
    cases r4 <;> cases r5 <;> cases r6 <;> cases r7 <;> cases s3 <;> simp [f1, f2, f4, gKw, flat, hlen]
  have hwd : noOpq pIsN (oP (wd j d)) .non = some (.bl (decide (wd j d = none))) := by
    cases wd j d <;> rfl
  cases hw : wd j d with
  | none =>
    rw [hw] at e4 e5 e6
    have e7 := law_with_eq j d (by omega) hw
    have e8 := with_deed_eq h (by omega) hd hw
    have hb := h.bh hd hw
    have e9 := sm_repr (sm_two (sm_jn hb (by omega)) (sm_jn hb (by omega)))
    obtain ⟨t8, et⟩ := tail (bh j d) hb (some (.fz d.pv)) (some (.fz (.str (PV.rp (.lst [j.pv, d.pv]))))) (some (.fz .non)) (some (.fz (bh j d).pv))
    refine ⟨_, _, bh j d, some (.fz d.pv), some (.fz (.str (PV.rp (.lst [j.pv, d.pv])))), some (.fz .non), some (.fz (bh j d).pv), t8, ?_, p1, p2, hb⟩
    rw [← et]
    unfold b__law_right_1
    have z : oP none = .non := rfl
    rw [z] at e4 e5 e6
    simp only [sSeq_ap, sSet_ap, mv_ap, vw_ap, eCall_ap, rV_ap, rP_ap, rNil_ap, eVar_ap, List.getElem?_cons_succ, List.getElem?_cons_zero, slotF_fz, slotM_some, oth_some, th_ok, gPos_ap, gather_v, gather_p, gthO_ml, gather_nil, Option.map_some, List.set_cons_zero, List.set_cons_succ, e1, rf_ok, putB_v, putB_p, pbO_none, putB_nil, putB_nil2, view_fz, nxt_nx, List.length_cons, List.length_nil]
    simp [e3, e4, e5, e6, e2, gKw, setAll, e7, e8, e9]
  | some t =>
    have hj1 : JOk j (k + 1) := h.mono (by omega)
    obtain ⟨t8, et⟩ := tail j hj1 (some (.fz d.pv)) (some (.fz (.str (PV.rp (.lst [j.pv, d.pv]))))) (some (.fz (.str t))) s7
    refine ⟨_, _, j, some (.fz d.pv), some (.fz (.str (PV.rp (.lst [j.pv, d.pv])))), some (.fz (.str t)), s7, t8, ?_, p1, p2, hj1⟩
    rw [← et]
    rw [hw] at e4 e5 e6
    have z : oP (some t) = .str t := rfl
    rw [z] at e4 e5 e6
    have z2 : noOpq pIsN (.str t) .non = some (.bl false) := rfl
    unfold b__law_right_1
    simp only [sSeq_ap, sSet_ap, mv_ap, vw_ap, eCall_ap, rV_ap, rP_ap, rNil_ap, eVar_ap, List.getElem?_cons_succ, List.getElem?_cons_zero, slotF_fz, slotM_some, oth_some, th_ok, gPos_ap, gather_v, gather_p, gthO_ml, gather_nil, Option.map_some, List.set_cons_zero, List.set_cons_succ, e1, rf_ok, putB_v, putB_p, pbO_none, putB_nil, putB_nil2, view_fz, nxt_nx, List.length_cons, List.length_nil]
    simp [e3, e4, e5, e6, e2, gKw, setAll, z2]
end K78

set_option Elab.async false
set_option linter.all false
set_option maxRecDepth 100000
set_option maxHeartbeats 4000000
namespace K78
open PySem PySem.Spec PyProof.Rows L2 Mv
/-! ### the law -/
theorem rngP_len0 (p n : Nat) : (rngP p n).length = n := by
  unfold rngP
  rw [List.length_map, List.length_range]
theorem loop_r : ∀ (n p0 : Nat) (p l : MV) (j : Jn) (k : Nat) (s3 s4 s5 s6 s7 s8 : Option MV), okP p → okP l → JOk j k → k + n ≤ 90 →
    ∃ p' l' j' t3 t4 t5 t6 t7 t8, forL (gN 3) b__law_right_1 (rngP p0 n) [some p, some l, some (.fz j.pv), s3, s4, s5, s6, s7, s8, none, none] = .ok .nx [some p', some l', some (.fz (Jn.pv j')), t3, t4, t5, t6, t7, t8, none, none] ∧ okP p' ∧ okP l' ∧ JOk j' (k + n)
  | 0, p0, p, l, j, k, s3, s4, s5, s6, s7, s8, hp, hl, hj, hk => ⟨p, l, j, s3, s4, s5, s6, s7, s8, by rw [rngP_zero, forL_nil], hp, hl, hj⟩
  | n + 1, p0, p, l, j, k, s3, s4, s5, s6, s7, s8, hp, hl, hj, hk => by
    obtain ⟨p1, l1, j1, t4, t5, t6, t7, t8, e1, h1, h2, h3⟩ := turn_r p l hp hl j k hj (by omega) (some (.fz (.int p0))) s4 s5 s6 s7 s8
    obtain ⟨p2, l2, j2, u3, u4, u5, u6, u7, u8, e2, g1, g2, g3⟩ := loop_r n (p0 + 1) p1 l1 j1 (k + 1) (some (.fz (.int p0))) t4 t5 t6 t7 t8 h1 h2 h3 (by omega)
    refine ⟨p2, l2, j2, u3, u4, u5, u6, u7, u8, ?_, g1, g2, by rw [show k + (n + 1) = k + 1 + n by omega]; exact g3⟩
    rw [rngP_succ, forL_ap]
    have e : gN 3 (.int (p0 : Int)) [some p, some l, some (.fz j.pv), s3, s4, s5, s6, s7, s8, none, none] = some [some p, some l, some (.fz j.pv), some (.fz (.int p0)), s4, s5, s6, s7, s8, none, none] := by simp
    rw [e, oth_some, e1, lpO_nx, e2]
theorem turn_v (v : PV) (hv : gd 101 v = true) (a0 a1 a2 a3 a4 a5 a6 a7 a8 a10 : Option MV) : ∃ b10, b__law_right_2 [a0, a1, a2, a3, a4, a5, a6, a7, a8, some (.fz v), a10] = .ok .nx [a0, a1, a2, a3, a4, a5, a6, a7, a8, some (.fz v), b10] := by
  obtain ⟨h1, h2, h3, h4⟩ := gd_all (m := 101) (by omega) (Nat.le_refl _) v hv
  have e1 := law_is_journal_eq v 101 (by omega) hv
  have e2 := is_journal_eq v h1 h2
  have e3 := sm_repr (sm_two (sm_bl (jR v)) (sm_bl (jR v)))
  refine ⟨some (.fz (.bl (jR v))), ?_⟩
  unfold b__law_right_2
  simp [e1, e2, e3, gKw]
theorem loop_v (a0 a1 a2 a3 a4 a5 a6 a7 a8 : Option MV) : ∀ (vs : List PV), (∀ v ∈ vs, gd 101 v = true) → ∀ a9 a10, ∃ b9 b10, forL (gN 9) b__law_right_2 vs [a0, a1, a2, a3, a4, a5, a6, a7, a8, a9, a10] = .ok .nx [a0, a1, a2, a3, a4, a5, a6, a7, a8, b9, b10]
  | [], _, a9, a10 => ⟨a9, a10, by simp⟩
  | v :: vs, h, a9, a10 => by
    obtain ⟨c10, e1⟩ := turn_v v (h v (List.mem_cons_self ..)) a0 a1 a2 a3 a4 a5 a6 a7 a8 a10
    obtain ⟨b9, b10, e2⟩ := loop_v a0 a1 a2 a3 a4 a5 a6 a7 a8 vs (fun x hx => h x (List.mem_cons_of_mem _ hx)) (some (.fz v)) c10
    refine ⟨b9, b10, ?_⟩
    rw [forL_ap]
    have e : gN 9 v [a0, a1, a2, a3, a4, a5, a6, a7, a8, a9, a10] = some [a0, a1, a2, a3, a4, a5, a6, a7, a8, some (.fz v), a10] := by simp
    rw [e, oth_some, e1, lpO_nx, e2]
theorem rel_all {Rl : PV → PV → Prop} {P : PV → Prop} (h : ∀ a b, Rl a b → P b) : ∀ {xs ys : List PV}, Paired Rl xs ys → ∀ y ∈ ys, P y
  | _, _, .nil, y, hy => by cases hy
  | _, _, .cons r q, y, hy => by
    rcases List.mem_cons.mp hy with rfl | hy
    · exact h _ _ r
    · exact rel_all h q y hy
theorem paired_len {Rl : PV → PV → Prop} : ∀ {xs ys : List PV}, Paired Rl xs ys → ys.length = xs.length
  | _, _, .nil => rfl
  | _, _, .cons r q => by rw [List.length_cons, List.length_cons, paired_len q]
theorem c_bents (p l : MV) (hl : okP l) (j : Jn) (k : Nat) (h : JOk j k) (hk : k ≤ 100) (s3 s4 s5 s6 s7 s8 : Option MV) :
    ∃ (l' : MV) (vs : List PV) (t3 : Option MV), c__law_right_1 [some p, some l, some (.fz j.pv), s3, s4, s5, s6, s7, s8, none, none] = .ok (.ml (vs.map .fz)) [some p, some l', some (.fz j.pv), t3, s4, s5, s6, s7, s8, none, none] ∧ okP l' ∧ (∀ v ∈ vs, gd 101 v = true) ∧ vs.length ≤ 100 := by
  have key := lcGo_rel (I := fun ρ => ∃ l', okP l' ∧ ρ = [some p, some l', some (.fz j.pv), none, s4, s5, s6, s7, s8, none, none]) (Rl := fun _ y => gd 101 y = true) (g := gN 3) (tt := sYes) (te := vw (eCall (f__law_bent 5) @gPos (rP 1 (rV (eVar 2) rNil)) rNil)) (vs := [3]) (items := rngP 0 8) (acc := []) (ρ := [some p, some l, some (.fz j.pv), none, s4, s5, s6, s7, s8, none, none]) ⟨l, hl, rfl⟩ (fun q hq ρ hρ => by
    obtain ⟨l', hl', rfl⟩ := hρ
    obtain ⟨x, m', e, p', g⟩ := bent_ok 5 l' j.pv 100 hl' (by omega) (gd_jn h hk) (by have := (sm_jn h hk).2.2.2; omega) (by omega)
    obtain ⟨x0, rfl⟩ := okP_ml hl'
    obtain ⟨x1, rfl⟩ := okP_ml p'
    refine ⟨[some p, some (.ml x0), some (.fz j.pv), some (.fz q), s4, s5, s6, s7, s8, none, none], [some p, some (.ml x0), some (.fz j.pv), some (.fz q), s4, s5, s6, s7, s8, none, none], [some p, some (.ml x1), some (.fz j.pv), some (.fz q), s4, s5, s6, s7, s8, none, none], x, by simp, by simp, ?_, g, ⟨.ml x1, p', by simp⟩⟩
    simp [e])
  obtain ⟨ys, ρ', e, ⟨l', hl', rfl⟩, hr⟩ := key
  refine ⟨l', ys, (slotF (some s3)).map .fz, ?_, hl', rel_all (P := fun y => gd 101 y = true) (fun _ _ q => q) hr, by rw [paired_len hr, rngP_len0]; omega⟩
  have hr8 : -(2 ^ 62 : Int) ≤ 8 ∧ (8 : Int) < 2 ^ 62 := by omega
  have e8 : rngL 0 8 = rngP 0 8 := rngL_0 8
  have l8 : (rngP 0 8).length ≤ 16777216 := by rw [rngP_len0]; omega
  unfold c__law_right_1
  rw [sLc_ap]
  simp only [sRng_ap, aCons_ap, ret_ap, aNil_ap, th_ok, rngOf_1, hr8, and_self, if_true, ofO_some, e8, l8]
  have ew : wipeE [some p, some l, some (.fz j.pv), s3, s4, s5, s6, s7, s8, none, none] [3] = [some p, some l, some (.fz j.pv), none, s4, s5, s6, s7, s8, none, none] := by simp
  rw [ew, e]
  simp
theorem law_right_eq (p l : MV) (hp : okP p) (hl : okP l) : ∃ p' l', f__law_right [p, l] = .ok (.fz (.bl true)) [p', l'] ∧ okP p' ∧ okP l' := by
  rw [r__law_right]
  have h0 : JOk ⟨0, []⟩ 0 := ⟨Nat.le_refl _, Nat.le_refl _, fun s hs => by cases hs⟩
  obtain ⟨p1, l1, j, t3, t4, t5, t6, t7, t8, e1, h1, h2, h3⟩ := loop_r 16 0 p l ⟨0, []⟩ 0 none none none none none none hp hl h0 (by omega)
  obtain ⟨l2, vs, u3, e2, h4, h5, h6⟩ := c_bents p1 l1 h2 j _ h3 (by omega) t3 t4 t5 t6 t7 t8
  obtain ⟨b9, b10, e3⟩ := loop_v (some p1) (some l2) (some (.fz j.pv)) u3 t4 t5 t6 t7 t8 ([j.pv, .non, .tup [.str [106, 111, 117, 114, 110, 97, 108], .int 0, .tup [.tup [.int 2, .str [], .int 1, .int 0, .bl true]]]] ++ vs) (fun v hv => by
    rcases List.mem_append.mp hv with q | q
    · simp only [List.mem_cons, List.not_mem_nil, or_false] at q
      rcases q with rfl | rfl | rfl
      · exact (gd_all (by omega) (by omega) _ (gd_jn h3 (by omega))).2.2.2
      · rw [gd]
      · decide
    · exact h5 v q) none none
  have e4 := in_doubt_eq h3 (by omega)
  have e5 := law_doubt_eq h3 (by omega)
  have e6 := sm_repr (dbt_sm h3 (by omega))
  obtain ⟨x1, rfl⟩ := okP_ml h1
  obtain ⟨x2, rfl⟩ := okP_ml h4
  refine ⟨.ml x1, .ml x2, ?_, h1, h4⟩
  have hr : -(2 ^ 62 : Int) ≤ 16 ∧ (16 : Int) < 2 ^ 62 := by omega
  have e16 : rngL 0 16 = rngP 0 16 := rngL_0 16
  have ej : pNe (Jn.pv ⟨0, []⟩) (.tup [.str [106, 111, 117, 114, 110, 97, 108], .int 0, .tup []]) = some (.bl false) := by rfl
  have hv : 3 + vs.length ≤ 16777216 := by omega
  have hadd : pAdd (.lst [j.pv, .non, .tup [.str [106, 111, 117, 114, 110, 97, 108], .int 0, .tup [.tup [.int 2, .str [], .int 1, .int 0, .bl true]]]]) (.lst vs) = some (.lst ([j.pv, .non, .tup [.str [106, 111, 117, 114, 110, 97, 108], .int 0, .tup [.tup [.int 2, .str [], .int 1, .int 0, .bl true]]]] ++ vs)) := by
    rw [pAdd_lst]
    exact if_pos hv
  simp only [List.cons_append, List.nil_append] at e3 hadd
  unfold e__law_right
  simp [new_journal_eq, ej, hr, e16, e1, e2, -pAdd_lst, hadd, e3, e4, e5, e6]
theorem c_law (S : Option MV) (p l : MV) (hp : okP p) (hl : okP l) : ∃ p' l', c_law_1 [S, some p, some l, none] = .ok (.ml [.fz (.bl true), .fz (.bl true)]) [S, some p', some l', none] := by
  obtain ⟨p1, l1, e1, h1, h2⟩ := law_right_eq p l hp hl
  obtain ⟨p2, l2, e2, h3, h4⟩ := law_right_eq p1 l1 h1 h2
  obtain ⟨x0, rfl⟩ := okP_ml hp
  obtain ⟨x1, rfl⟩ := okP_ml hl
  obtain ⟨x2, rfl⟩ := okP_ml h1
  obtain ⟨x3, rfl⟩ := okP_ml h2
  refine ⟨p2, l2, ?_⟩
  have hr : -(2 ^ 62 : Int) ≤ 2 ∧ (2 : Int) < 2 ^ 62 := by omega
  have e16 : rngL 0 2 = [.int 0, .int 1] := rfl
  obtain ⟨x4, rfl⟩ := okP_ml h3
  obtain ⟨x5, rfl⟩ := okP_ml h4
  unfold c_law_1
  rw [sLc_ap]
  simp only [sRng_ap, aCons_ap, ret_ap, aNil_ap, th_ok, rngOf_1, hr, and_self, if_true, ofO_some, e16]
  rw [if_pos (by simp)]
  rw [lcGo_cons]
  simp [e1, lcGo_cons, e2, lcGo]
theorem law_true (ns : List Int) : ∃ outs, f_law [.fz (.scr ns)] = .ok (.fz (.bl true)) outs := by
  obtain ⟨p, e1, h1⟩ := f_law_pot_eq ns 0 (by omega)
  obtain ⟨l, e2, h2⟩ := f_law_pot_eq ns 1 (by omega)
  obtain ⟨p', l', e3⟩ := c_law (some (.fz (.scr ns))) p l h1 h2
  obtain ⟨x1, rfl⟩ := okP_ml h1
  obtain ⟨x2, rfl⟩ := okP_ml h2
  refine ⟨[], ?_⟩
  rw [r_law]
  unfold e_law
  simp at e1 e2
  simp [e1, e2, setAll, e3]
end K78

namespace K78
open PySem PySem.Spec PyProof.Rows L2 Mv
theorem fx_of {K : PySem.W.Frag} {h : Heap} {mg : Str → Option Value} (X : K.In h) (G : h.Ns mainGlobals mg) (cM : Mv.SaysM fa fn cs K) : Fx K mg where
  d_is_integer := by
    obtain ⟨fd, D⟩ := cM.D.def_ 0 (d := d_is_integer) rfl
    exact ⟨_, fd, D, He.glo_ok X G (cM.D.fact 0 (f := .glo "is_integer") rfl)⟩
  d_is_between := by
    obtain ⟨fd, D⟩ := cM.D.def_ 1 (d := d_is_between) rfl
    exact ⟨_, fd, D, He.glo_ok X G (cM.D.fact 1 (f := .glo "is_between") rfl)⟩
  d_is_count := by
    obtain ⟨fd, D⟩ := cM.D.def_ 2 (d := d_is_count) rfl
    exact ⟨_, fd, D, He.glo_ok X G (cM.D.fact 2 (f := .glo "is_count") rfl)⟩
  d_are_signs := by
    obtain ⟨fd, D⟩ := cM.D.def_ 3 (d := d_are_signs) rfl
    exact ⟨_, fd, D, He.glo_ok X G (cM.D.fact 3 (f := .glo "are_signs") rfl)⟩
  d_is_body := by
    obtain ⟨fd, D⟩ := cM.D.def_ 4 (d := d_is_body) rfl
    exact ⟨_, fd, D, He.glo_ok X G (cM.D.fact 4 (f := .glo "is_body") rfl)⟩
  d_deed_is_right := by
    obtain ⟨fd, D⟩ := cM.D.def_ 5 (d := d_deed_is_right) rfl
    exact ⟨_, fd, D, He.glo_ok X G (cM.D.fact 5 (f := .glo "deed_is_right") rfl)⟩
  d_body_by := by
    obtain ⟨fd, D⟩ := cM.D.def_ 6 (d := d_body_by) rfl
    exact ⟨_, fd, D, He.glo_ok X G (cM.D.fact 6 (f := .glo "body_by") rfl)⟩
  d_is_numeral := by
    obtain ⟨fd, D⟩ := cM.D.def_ 7 (d := d_is_numeral) rfl
    exact ⟨_, fd, D, He.glo_ok X G (cM.D.fact 7 (f := .glo "is_numeral") rfl)⟩
  d_deed_by := by
    obtain ⟨fd, D⟩ := cM.D.def_ 8 (d := d_deed_by) rfl
    exact ⟨_, fd, D, He.glo_ok X G (cM.D.fact 8 (f := .glo "deed_by") rfl)⟩
  d_sheet_is_right := by
    obtain ⟨fd, D⟩ := cM.D.def_ 9 (d := d_sheet_is_right) rfl
    exact ⟨_, fd, D, He.glo_ok X G (cM.D.fact 9 (f := .glo "sheet_is_right") rfl)⟩
  d_journal_is_right := by
    obtain ⟨fd, D⟩ := cM.D.def_ 10 (d := d_journal_is_right) rfl
    exact ⟨_, fd, D, He.glo_ok X G (cM.D.fact 10 (f := .glo "journal_is_right") rfl)⟩
  d_word_by := by
    obtain ⟨fd, D⟩ := cM.D.def_ 11 (d := d_word_by) rfl
    exact ⟨_, fd, D, He.glo_ok X G (cM.D.fact 11 (f := .glo "word_by") rfl)⟩
  d_behind := by
    obtain ⟨fd, D⟩ := cM.D.def_ 12 (d := d_behind) rfl
    exact ⟨_, fd, D, He.glo_ok X G (cM.D.fact 12 (f := .glo "behind") rfl)⟩
  d_check_journal := by
    obtain ⟨fd, D⟩ := cM.D.def_ 13 (d := d_check_journal) rfl
    exact ⟨_, fd, D, He.glo_ok X G (cM.D.fact 13 (f := .glo "check_journal") rfl)⟩
  d_check_deed := by
    obtain ⟨fd, D⟩ := cM.D.def_ 14 (d := d_check_deed) rfl
    exact ⟨_, fd, D, He.glo_ok X G (cM.D.fact 14 (f := .glo "check_deed") rfl)⟩
  d_is_deed := by
    obtain ⟨fd, D⟩ := cM.D.def_ 15 (d := d_is_deed) rfl
    exact ⟨_, fd, D, He.glo_ok X G (cM.D.fact 15 (f := .glo "is_deed") rfl)⟩
  d_is_journal := by
    obtain ⟨fd, D⟩ := cM.D.def_ 16 (d := d_is_journal) rfl
    exact ⟨_, fd, D, He.glo_ok X G (cM.D.fact 16 (f := .glo "is_journal") rfl)⟩
  d_body_of := by
    obtain ⟨fd, D⟩ := cM.D.def_ 17 (d := d_body_of) rfl
    exact ⟨_, fd, D, He.glo_ok X G (cM.D.fact 17 (f := .glo "body_of") rfl)⟩
  d_deed_of := by
    obtain ⟨fd, D⟩ := cM.D.def_ 18 (d := d_deed_of) rfl
    exact ⟨_, fd, D, He.glo_ok X G (cM.D.fact 18 (f := .glo "deed_of") rfl)⟩
  d_new_journal := by
    obtain ⟨fd, D⟩ := cM.D.def_ 19 (d := d_new_journal) rfl
    exact ⟨_, fd, D, He.glo_ok X G (cM.D.fact 19 (f := .glo "new_journal") rfl)⟩
  d_wrong_word := by
    obtain ⟨fd, D⟩ := cM.D.def_ 20 (d := d_wrong_word) rfl
    exact ⟨_, fd, D, He.glo_ok X G (cM.D.fact 20 (f := .glo "wrong_word") rfl)⟩
  d_with_deed := by
    obtain ⟨fd, D⟩ := cM.D.def_ 21 (d := d_with_deed) rfl
    exact ⟨_, fd, D, He.glo_ok X G (cM.D.fact 21 (f := .glo "with_deed") rfl)⟩
  d_in_doubt := by
    obtain ⟨fd, D⟩ := cM.D.def_ 22 (d := d_in_doubt) rfl
    exact ⟨_, fd, D, He.glo_ok X G (cM.D.fact 22 (f := .glo "in_doubt") rfl)⟩
  d__law_pot := by
    obtain ⟨fd, D⟩ := cM.D.def_ 23 (d := d__law_pot) rfl
    exact ⟨_, fd, D, He.glo_ok X G (cM.D.fact 23 (f := .glo "_law_pot") rfl)⟩
  d__law_draw := by
    obtain ⟨fd, D⟩ := cM.D.def_ 24 (d := d__law_draw) rfl
    exact ⟨_, fd, D, He.glo_ok X G (cM.D.fact 24 (f := .glo "_law_draw") rfl)⟩
  d__law_pick := by
    obtain ⟨fd, D⟩ := cM.D.def_ 25 (d := d__law_pick) rfl
    exact ⟨_, fd, D, He.glo_ok X G (cM.D.fact 25 (f := .glo "_law_pick") rfl)⟩
  d__law_word := by
    obtain ⟨fd, D⟩ := cM.D.def_ 26 (d := d__law_word) rfl
    exact ⟨_, fd, D, He.glo_ok X G (cM.D.fact 26 (f := .glo "_law_word") rfl)⟩
  d__law_with := by
    obtain ⟨fd, D⟩ := cM.D.def_ 27 (d := d__law_with) rfl
    exact ⟨_, fd, D, He.glo_ok X G (cM.D.fact 27 (f := .glo "_law_with") rfl)⟩
  d__law_body_of := by
    obtain ⟨fd, D⟩ := cM.D.def_ 28 (d := d__law_body_of) rfl
    exact ⟨_, fd, D, He.glo_ok X G (cM.D.fact 28 (f := .glo "_law_body_of") rfl)⟩
  d__law_numeral := by
    obtain ⟨fd, D⟩ := cM.D.def_ 29 (d := d__law_numeral) rfl
    exact ⟨_, fd, D, He.glo_ok X G (cM.D.fact 29 (f := .glo "_law_numeral") rfl)⟩
  d__law_deed_of := by
    obtain ⟨fd, D⟩ := cM.D.def_ 30 (d := d__law_deed_of) rfl
    exact ⟨_, fd, D, He.glo_ok X G (cM.D.fact 30 (f := .glo "_law_deed_of") rfl)⟩
  d__law_deed := by
    obtain ⟨fd, D⟩ := cM.D.def_ 31 (d := d__law_deed) rfl
    exact ⟨_, fd, D, He.glo_ok X G (cM.D.fact 31 (f := .glo "_law_deed") rfl)⟩
  d__law_is_count := by
    obtain ⟨fd, D⟩ := cM.D.def_ 32 (d := d__law_is_count) rfl
    exact ⟨_, fd, D, He.glo_ok X G (cM.D.fact 32 (f := .glo "_law_is_count") rfl)⟩
  d__law_is_sheet := by
    obtain ⟨fd, D⟩ := cM.D.def_ 33 (d := d__law_is_sheet) rfl
    exact ⟨_, fd, D, He.glo_ok X G (cM.D.fact 33 (f := .glo "_law_is_sheet") rfl)⟩
  d__law_is_journal := by
    obtain ⟨fd, D⟩ := cM.D.def_ 34 (d := d__law_is_journal) rfl
    exact ⟨_, fd, D, He.glo_ok X G (cM.D.fact 34 (f := .glo "_law_is_journal") rfl)⟩
  d__law_bent := by
    obtain ⟨fd, D⟩ := cM.D.def_ 35 (d := d__law_bent) rfl
    exact ⟨_, fd, D, He.glo_ok X G (cM.D.fact 35 (f := .glo "_law_bent") rfl)⟩
  d__law_doubt := by
    obtain ⟨fd, D⟩ := cM.D.def_ 36 (d := d__law_doubt) rfl
    exact ⟨_, fd, D, He.glo_ok X G (cM.D.fact 36 (f := .glo "_law_doubt") rfl)⟩
  d__law_bodies_right := by
    obtain ⟨fd, D⟩ := cM.D.def_ 37 (d := d__law_bodies_right) rfl
    exact ⟨_, fd, D, He.glo_ok X G (cM.D.fact 37 (f := .glo "_law_bodies_right") rfl)⟩
  d__law_right := by
    obtain ⟨fd, D⟩ := cM.D.def_ 38 (d := d__law_right) rfl
    exact ⟨_, fd, D, He.glo_ok X G (cM.D.fact 38 (f := .glo "_law_right") rfl)⟩
  d_law := by
    obtain ⟨fd, D⟩ := cM.D.def_ 39 (d := d_law) rfl
    exact ⟨_, fd, D, He.glo_ok X G (cM.D.fact 39 (f := .glo "law") rfl)⟩
  c_FIGURES := He.str_ok X G (cM.D.fact 56 (f := .str "FIGURES" "0123456789") rfl)
  c_MOST_BODY := He.int_ok X G (cM.D.fact 57 (f := .int "MOST_BODY" 5000) rfl)
  c_MOST_ROWS := He.int_ok X G (cM.D.fact 58 (f := .int "MOST_ROWS" 2000) rfl)
  c_MOST_NOTE := He.int_ok X G (cM.D.fact 59 (f := .int "MOST_NOTE" 4000) rfl)
  c_MOST_NUMBER := He.int_ok X G (cM.D.fact 60 (f := .int "MOST_NUMBER" 2000) rfl)
  k_NEW := Mv.cst_ok X G (cM.cst 0 rfl)
  b_abs := He.free_ok X G (cM.D.fact 42 (f := .free "abs") rfl)
  b_all := He.free_ok X G (cM.D.fact 43 (f := .free "all") rfl)
  b_bool := He.free_ok X G (cM.D.fact 44 (f := .free "bool") rfl)
  b_divmod := He.free_ok X G (cM.D.fact 45 (f := .free "divmod") rfl)
  b_enumerate := He.free_ok X G (cM.D.fact 46 (f := .free "enumerate") rfl)
  b_int := He.free_ok X G (cM.D.fact 47 (f := .free "int") rfl)
  b_isinstance := He.free_ok X G (cM.D.fact 48 (f := .free "isinstance") rfl)
  b_len := He.free_ok X G (cM.D.fact 49 (f := .free "len") rfl)
  b_list := He.free_ok X G (cM.D.fact 50 (f := .free "list") rfl)
  b_max := He.free_ok X G (cM.D.fact 51 (f := .free "max") rfl)
  b_range := He.free_ok X G (cM.D.fact 52 (f := .free "range") rfl)
  b_repr := He.free_ok X G (cM.D.fact 53 (f := .free "repr") rfl)
  b_str := He.free_ok X G (cM.D.fact 54 (f := .free "str") rfl)
  b_tuple := He.free_ok X G (cM.D.fact 55 (f := .free "tuple") rfl)
end K78
open PySem PySem.W PySem.Calls PyProof.Rows
theorem PySem.Challenge.cw_platekin_k78_deeds_and_journals_holds : PySem.Challenge.rw_platekin_k78_deeds_and_journals.Holds := by
  w_on; o_law
  refine HandSHeadRun.head_any (r := OpenLaw.row PySem.Challenge.rw_platekin_k78_deeds_and_journals) (q := view (OpenLaw.row PySem.Challenge.rw_platekin_k78_deeds_and_journals).prog [56]) (H := K78.hk) (ob := K78.ob) (M := 4000) (loose := K78.loose) (d := HandSHeadRun.topDef (OpenLaw.row PySem.Challenge.rw_platekin_k78_deeds_and_journals).prog 56) (kwd := []) K78.ob_eq
    (by kernel_rfl) (fun s => by kernel_rfl) K78.run (by kernel_rfl) (by kernel_rfl) (by kernel_rfl) (by rfl) (by first | assumption | decide +kernel) (by decide +kernel) ⟨rfl, rfl, rfl, rfl, rfl, by decide +kernel⟩ ?hw ?hc
  case hw => w_witness2
  case hc =>
    refine Mv.walkG (l := PySem.Challenge.rw_platekin_k78_deeds_and_journals) (n := 63) (k := 10) (x := "script") rfl (by decide) (by kernel_rfl) ⟨rfl, by decide, by decide⟩ ?F
    intro w mg fa h Y G hmg0
    obtain ⟨K, KX, c⟩ := Y
    have hmg : mg ("law" : PySem.Str) = some (.ref fa) := by
      have e : (HandSHeadRun.topDef (OpenLaw.row PySem.Challenge.rw_platekin_k78_deeds_and_journals).prog 56).name = ("law" : PySem.Str) := by kernel_rfl
      rw [← e]
      exact hmg0
    have X := K78.fx_of KX G c
    obtain ⟨f0, fd, D, hm0⟩ := X.d_law
    have e0 := hmg.symm.trans hm0
    cases e0
    refine ⟨K, fd, K78.f_law, KX, fun s u => ?_, fun ns _ => K78.law_true ns, fun base _ _ => ?_⟩
    · have b := L2.FunD.bindsA (ps := ["script"]) D (fun _ _ _ _ _ _ us hl => match us, hl with | [_], _ => rfl) s [u] rfl
      exact b
    · obtain ⟨f1, fd1, D1, hm1, G1⟩ := K78.g_law (P := PySem.Challenge.rw_platekin_k78_deeds_and_journals.prog) (w := w) (base := base) X
      have e1 := hm0.symm.trans hm1
      cases e1
      have e2 := Mv.funD_inj D D1
      subst e2
      exact G1
