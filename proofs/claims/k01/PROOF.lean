import PyProof.Rows.All
import Wide.All
import OpenK.AllK
import Wide.FinOn
import HandS.ForMost
import HandS.Flow
import HandS.Gcd
import HandS.Wide
import HandS.IsInst
import HandS.FStr
import HandS.TupAny
import HandS.Deep
import HandS.RaiseMore
import HandS.StrMore
import HandS.EndBits
import HandS.DictComp
import HandS.SetBool
import PySem.Challenge.RW_evenflow_k01_ratios_numbers
set_option Elab.async false
set_option linter.all false
set_option maxRecDepth 100000
/-! Mi0: pure data, how they stand in a frozen heap; owned trees; entries. -/
namespace Mi
open PySem PySem.Spec PyProof.Rows L2

/-- immutable data -/
inductive D where
  | non | bl (b : Bool) | int (i : Int) | str (s : Str)
  | tup (ds : List D) | lst (ds : List D)
  | dK (ks : List Key) (ds : List D) | dT (ks : List (List Key)) (ds : List D)
  | scr (ns : List Int)
  deriving Inhabited

mutual
def Rp (K : PySem.W.Frag) (F : Hp) : V → D → Prop
  | v, .non => v = .non
  | v, .bl b => v = .bl b
  | v, .int i => v = .int i
  | v, .str s => v = .str s
  | v, .tup ds => ∃ a vs, v = .ref a ∧ SqT K F a vs ∧ RpL K F vs ds
  | v, .lst ds => ∃ a vs, v = .ref a ∧ F a = some (.lst vs) ∧ RpL K F vs ds
  | v, .dK ks ds => ∃ a kvs, v = .ref a ∧ Rd F a (.dK kvs) ∧ kvs.map (·.1) = ks ∧ RpL K F (kvs.map (·.2)) ds
  | v, .dT ks ds => ∃ a kvs, v = .ref a ∧ Rd F a (.dT kvs) ∧ kvs.map (·.1) = ks ∧ RpL K F (kvs.map (·.2)) ds
  | v, .scr ns => ∃ a, v = .ref a ∧ SqL K F a (ns.map V.int)
def RpL (K : PySem.W.Frag) (F : Hp) : List V → List D → Prop
  | vs, [] => vs = []
  | vs, d :: ds => ∃ v r, vs = v :: r ∧ Rp K F v d ∧ RpL K F r ds
end

section
variable {K : PySem.W.Frag} {F F' H H' : Hp}
theorem Same.rd (e : Same F F') {a : Addr} {u : HO} (h : Rd F a u) : Rd F' a u := by
  rcases h with h | ⟨o, h⟩
  · exact .inl (e _ _ h)
  · exact .inr ⟨o, e _ _ h⟩
theorem Same.sqT (e : Same F F') {a : Addr} {xs : List V} (h : SqT K F a xs) : SqT K F' a xs := by
  rcases h with h | h
  · exact .inl (Same.rd e h)
  · exact .inr h
theorem Same.sqL (e : Same F F') {a : Addr} {xs : List V} (h : SqL K F a xs) : SqL K F' a xs := by
  rcases h with h | h
  · exact .inl (Same.rd e h)
  · exact .inr h
theorem same_upd {p : Addr} {o : HO} (h : H p = none) : Same H (upd H p o) := fun a u e => by
  rw [upd_ne (ne_of_none e h)]
  exact e
mutual
theorem Rp.mono (e : Same F F') : ∀ (d : D) (v : V), Rp K F v d → Rp K F' v d
  | .non, _, h => h
  | .bl _, _, h => h
  | .int _, _, h => h
  | .str _, _, h => h
  | .tup ds, v, h => by
    obtain ⟨a, vs, e1, e2, e3⟩ := h
    exact ⟨a, vs, e1, Same.sqT e e2, RpL.mono e ds vs e3⟩
  | .lst ds, v, h => by
    obtain ⟨a, vs, e1, e2, e3⟩ := h
    exact ⟨a, vs, e1, e _ _ e2, RpL.mono e ds vs e3⟩
  | .dK ks ds, v, h => by
    obtain ⟨a, kvs, e1, e2, e3, e4⟩ := h
    exact ⟨a, kvs, e1, Same.rd e e2, e3, RpL.mono e ds _ e4⟩
  | .dT ks ds, v, h => by
    obtain ⟨a, kvs, e1, e2, e3, e4⟩ := h
    exact ⟨a, kvs, e1, Same.rd e e2, e3, RpL.mono e ds _ e4⟩
  | .scr ns, v, h => by
    obtain ⟨a, e1, e2⟩ := h
    exact ⟨a, e1, Same.sqL e e2⟩
theorem RpL.mono (e : Same F F') : ∀ (ds : List D) (vs : List V), RpL K F vs ds → RpL K F' vs ds
  | [], _, h => h
  | d :: ds, _, h => by
    obtain ⟨v, r, e1, e2, e3⟩ := h
    exact ⟨v, r, e1, Rp.mono e d v e2, RpL.mono e ds r e3⟩
end
theorem RpL.nil : RpL K F [] [] := rfl
theorem RpL.cons {v : V} {vs : List V} {d : D} {ds : List D} (h : Rp K F v d) (hs : RpL K F vs ds) : RpL K F (v :: vs) (d :: ds) := ⟨v, vs, rfl, h, hs⟩
theorem RpL.inv {v : V} {vs : List V} {d : D} {ds : List D} (h : RpL K F (v :: vs) (d :: ds)) : Rp K F v d ∧ RpL K F vs ds := by
  obtain ⟨w, r, e, h1, h2⟩ := h
  cases e
  exact ⟨h1, h2⟩
theorem RpL.length : ∀ {ds : List D} {vs : List V}, RpL K F vs ds → vs.length = ds.length
  | [], _, h => by
    obtain rfl : _ = [] := h
    rfl
  | d :: ds, _, h => by
    obtain ⟨v, r, rfl, _, h2⟩ := h
    rw [List.length_cons, List.length_cons, RpL.length h2]
theorem RpL.get : ∀ {ds : List D} {vs : List V} {i : Nat} {d : D}, RpL K F vs ds → ds[i]? = some d → ∃ v, vs[i]? = some v ∧ Rp K F v d
  | [], _, i, d, h, e => by simp at e
  | d :: ds, _, 0, d', h, e => by
    obtain ⟨v, r, rfl, h1, _⟩ := h
    simp at e
    subst e
    exact ⟨v, rfl, h1⟩
  | d :: ds, _, i + 1, d', h, e => by
    obtain ⟨v, r, rfl, _, h2⟩ := h
    simp at e
    obtain ⟨w, e1, e2⟩ := RpL.get h2 e
    exact ⟨w, by simpa using e1, e2⟩
theorem RpL.get' {ds : List D} {vs : List V} {i : Nat} {v : V} (h : RpL K F vs ds) (e : vs[i]? = some v) : ∃ d, ds[i]? = some d ∧ Rp K F v d := by
  have hi : i < ds.length := by
    rw [← h.length]
    exact (List.getElem?_eq_some_iff.mp e).1
  obtain ⟨w, e1, e2⟩ := h.get (List.getElem?_eq_getElem hi)
  rw [e] at e1
  cases e1
  exact ⟨_, List.getElem?_eq_getElem hi, e2⟩
theorem RpL.append : ∀ {ds es : List D} {vs ws : List V}, RpL K F vs ds → RpL K F ws es → RpL K F (vs ++ ws) (ds ++ es)
  | [], _, _, _, h, k => by
    obtain rfl : _ = [] := h
    exact k
  | d :: ds, _, _, _, h, k => by
    obtain ⟨v, r, rfl, h1, h2⟩ := h
    exact ⟨v, _, rfl, h1, RpL.append h2 k⟩
theorem RpL.take : ∀ {ds : List D} {vs : List V} (n : Nat), RpL K F vs ds → RpL K F (vs.take n) (ds.take n)
  | ds, vs, 0, _ => by rw [List.take_zero, List.take_zero]; exact RpL.nil
  | [], vs, n + 1, h => by
    obtain rfl : _ = [] := h
    exact RpL.nil
  | d :: ds, _, n + 1, h => by
    obtain ⟨v, r, rfl, h1, h2⟩ := h
    exact RpL.cons h1 (RpL.take n h2)
theorem RpL.drop : ∀ {ds : List D} {vs : List V} (n : Nat), RpL K F vs ds → RpL K F (vs.drop n) (ds.drop n)
  | ds, vs, 0, h => h
  | [], vs, n + 1, h => by
    obtain rfl : _ = [] := h
    exact RpL.nil
  | d :: ds, _, n + 1, h => by
    obtain ⟨v, r, rfl, h1, h2⟩ := h
    exact RpL.drop n h2
end

/-! ### owned trees -/
inductive O where
  | fr (d : D) | lst (os : List O) | dK (ks : List Key) (os : List O) | dT (ks : List (List Key)) (os : List O)
  deriving Inhabited
mutual
def O.er : O → D
  | .fr d => d
  | .lst os => .lst (erL os)
  | .dK ks os => .dK ks (erL os)
  | .dT ks os => .dT ks (erL os)
def erL : List O → List D
  | [] => []
  | o :: os => o.er :: erL os
end
@[simp] theorem er_fr (d : D) : (O.fr d).er = d := by rw [O.er]
@[simp] theorem er_lst (os : List O) : (O.lst os).er = .lst (erL os) := by rw [O.er]
@[simp] theorem er_dK (ks : List Key) (os : List O) : (O.dK ks os).er = .dK ks (erL os) := by rw [O.er]
@[simp] theorem er_dT (ks : List (List Key)) (os : List O) : (O.dT ks os).er = .dT ks (erL os) := by rw [O.er]
@[simp] theorem erL_nil : erL [] = [] := by rw [erL]
@[simp] theorem erL_cons (o : O) (os : List O) : erL (o :: os) = o.er :: erL os := by rw [erL]
theorem erL_map (os : List O) : erL os = os.map O.er := by
  induction os with
  | nil => simp
  | cons o os ih => simp [ih]
@[simp] theorem erL_fr (ds : List D) : erL (ds.map O.fr) = ds := by
  induction ds with
  | nil => simp
  | cons o os ih => simp [ih]
@[simp] theorem erL_append (a b : List O) : erL (a ++ b) = erL a ++ erL b := by simp [erL_map]
theorem erL_length (a : List O) : (erL a).length = a.length := by simp [erL_map]

mutual
def Ow (K : PySem.W.Frag) (F H : Hp) : V → O → List Addr → Prop
  | v, .fr d, fp => Rp K F v d ∧ fp = []
  | v, .lst os, fp => ∃ a vs f, v = .ref a ∧ H a = some (.lst vs) ∧ OwL K F H vs os f ∧ fp = a :: f
  | v, .dK ks os, fp => ∃ a kvs f, v = .ref a ∧ H a = some (.dK kvs) ∧ kvs.map (·.1) = ks ∧ OwL K F H (kvs.map (·.2)) os f ∧ fp = a :: f
  | v, .dT ks os, fp => ∃ a kvs f, v = .ref a ∧ H a = some (.dT kvs) ∧ kvs.map (·.1) = ks ∧ OwL K F H (kvs.map (·.2)) os f ∧ fp = a :: f
def OwL (K : PySem.W.Frag) (F H : Hp) : List V → List O → List Addr → Prop
  | vs, [], fp => vs = [] ∧ fp = []
  | vs, o :: os, fp => ∃ v r f1 f2, vs = v :: r ∧ Ow K F H v o f1 ∧ OwL K F H r os f2 ∧ fp = f1 ++ f2
end

section
variable {K : PySem.W.Frag} {F F' H H' : Hp}
mutual
theorem Ow.mono (e : Same F F') : ∀ (o : O) (v : V) (fp : List Addr), (∀ b ∈ fp, H' b = H b) → Ow K F H v o fp → Ow K F' H' v o fp
  | .fr d, v, fp, k, h => ⟨Rp.mono e d v h.1, h.2⟩
  | .lst os, v, fp, k, h => by
    obtain ⟨a, vs, f, e1, e2, e3, rfl⟩ := h
    exact ⟨a, vs, f, e1, by rw [k a List.mem_cons_self]; exact e2, OwL.mono e os vs f (fun b hb => k b (List.mem_cons_of_mem _ hb)) e3, rfl⟩
  | .dK ks os, v, fp, k, h => by
    obtain ⟨a, vs, f, e1, e2, e4, e3, rfl⟩ := h
    exact ⟨a, vs, f, e1, by rw [k a List.mem_cons_self]; exact e2, e4, OwL.mono e os _ f (fun b hb => k b (List.mem_cons_of_mem _ hb)) e3, rfl⟩
  | .dT ks os, v, fp, k, h => by
    obtain ⟨a, vs, f, e1, e2, e4, e3, rfl⟩ := h
    exact ⟨a, vs, f, e1, by rw [k a List.mem_cons_self]; exact e2, e4, OwL.mono e os _ f (fun b hb => k b (List.mem_cons_of_mem _ hb)) e3, rfl⟩
theorem OwL.mono (e : Same F F') : ∀ (os : List O) (vs : List V) (fp : List Addr), (∀ b ∈ fp, H' b = H b) → OwL K F H vs os fp → OwL K F' H' vs os fp
  | [], vs, fp, k, h => h
  | o :: os, vs, fp, k, h => by
    obtain ⟨v, r, f1, f2, e1, e2, e3, rfl⟩ := h
    exact ⟨v, r, f1, f2, e1, Ow.mono e o v f1 (fun b hb => k b (List.mem_append_left _ hb)) e2, OwL.mono e os r f2 (fun b hb => k b (List.mem_append_right _ hb)) e3, rfl⟩
end
mutual
/-- seen as data in any heap that holds the frozen part and the tree's own -/
theorem Ow.rp (e : Same F F') : ∀ (o : O) (v : V) (fp : List Addr), (∀ b ∈ fp, F' b = H b) → Ow K F H v o fp → Rp K F' v o.er
  | .fr d, v, fp, k, h => by
    rw [er_fr]
    exact Rp.mono e d v h.1
  | .lst os, v, fp, k, h => by
    obtain ⟨a, vs, f, e1, e2, e3, rfl⟩ := h
    rw [er_lst]
    exact ⟨a, vs, e1, by rw [k a List.mem_cons_self]; exact e2, OwL.rp e os vs f (fun b hb => k b (List.mem_cons_of_mem _ hb)) e3⟩
  | .dK ks os, v, fp, k, h => by
    obtain ⟨a, vs, f, e1, e2, e4, e3, rfl⟩ := h
    rw [er_dK]
    exact ⟨a, vs, e1, .inl (by rw [k a List.mem_cons_self]; exact e2), e4, OwL.rp e os _ f (fun b hb => k b (List.mem_cons_of_mem _ hb)) e3⟩
  | .dT ks os, v, fp, k, h => by
    obtain ⟨a, vs, f, e1, e2, e4, e3, rfl⟩ := h
    rw [er_dT]
    exact ⟨a, vs, e1, .inl (by rw [k a List.mem_cons_self]; exact e2), e4, OwL.rp e os _ f (fun b hb => k b (List.mem_cons_of_mem _ hb)) e3⟩
theorem OwL.rp (e : Same F F') : ∀ (os : List O) (vs : List V) (fp : List Addr), (∀ b ∈ fp, F' b = H b) → OwL K F H vs os fp → RpL K F' vs (erL os)
  | [], vs, fp, k, h => by
    rw [erL_nil]
    exact h.1
  | o :: os, vs, fp, k, h => by
    obtain ⟨v, r, f1, f2, e1, e2, e3, rfl⟩ := h
    rw [erL_cons]
    exact ⟨v, r, e1, Ow.rp e o v f1 (fun b hb => k b (List.mem_append_left _ hb)) e2, OwL.rp e os r f2 (fun b hb => k b (List.mem_append_right _ hb)) e3⟩
end
theorem OwL.nil : OwL K F H [] [] [] := ⟨rfl, rfl⟩
theorem OwL.cons {v : V} {o : O} {vs : List V} {os : List O} {f1 f2 : List Addr} (h : Ow K F H v o f1) (hs : OwL K F H vs os f2) : OwL K F H (v :: vs) (o :: os) (f1 ++ f2) := ⟨v, vs, f1, f2, rfl, h, hs, rfl⟩
theorem OwL.inv {v : V} {o : O} {vs : List V} {os : List O} {fp : List Addr} (h : OwL K F H (v :: vs) (o :: os) fp) : ∃ f1 f2, Ow K F H v o f1 ∧ OwL K F H vs os f2 ∧ fp = f1 ++ f2 := by
  obtain ⟨w, r, f1, f2, e, h1, h2, h3⟩ := h
  cases e
  exact ⟨f1, f2, h1, h2, h3⟩
theorem OwL.length : ∀ {os : List O} {vs : List V} {fp : List Addr}, OwL K F H vs os fp → vs.length = os.length
  | [], _, _, h => by rw [h.1]; rfl
  | o :: os, _, _, h => by
    obtain ⟨v, r, f1, f2, rfl, _, h2, _⟩ := h
    rw [List.length_cons, List.length_cons, OwL.length h2]
theorem OwL.append : ∀ {os ps : List O} {vs ws : List V} {f1 f2 : List Addr}, OwL K F H vs os f1 → OwL K F H ws ps f2 → OwL K F H (vs ++ ws) (os ++ ps) (f1 ++ f2)
  | [], _, _, _, _, _, h, k => by
    obtain ⟨rfl, rfl⟩ := h
    exact k
  | o :: os, _, _, _, _, _, h, k => by
    obtain ⟨v, r, g1, g2, rfl, h1, h2, rfl⟩ := h
    rw [List.append_assoc]
    exact OwL.cons h1 (OwL.append h2 k)
theorem OwL.frs : ∀ {ds : List D} {vs : List V}, RpL K F vs ds → OwL K F H vs (ds.map O.fr) []
  | [], _, h => by
    obtain rfl : _ = [] := h
    exact OwL.nil
  | d :: ds, _, h => by
    obtain ⟨v, r, rfl, h1, h2⟩ := h
    exact ⟨v, r, [], [], rfl, ⟨h1, rfl⟩, OwL.frs h2, rfl⟩
theorem OwL.ofFrs : ∀ {ds : List D} {vs : List V} {fp : List Addr}, OwL K F H vs (ds.map O.fr) fp → RpL K F vs ds ∧ fp = []
  | [], _, _, h => h
  | d :: ds, _, _, h => by
    obtain ⟨v, r, f1, f2, rfl, h1, h2, rfl⟩ := h
    obtain ⟨k1, k2⟩ := OwL.ofFrs h2
    refine ⟨⟨v, r, rfl, h1.1, k1⟩, ?_⟩
    rw [h1.2, k2]
    rfl

/-! ### entries: what a def holds, in any order -/
abbrev En := List (V × O)
def OwE (K : PySem.W.Frag) (F H : Hp) (E : En) (fp : List Addr) : Prop := OwL K F H (E.map (·.1)) (E.map (·.2)) fp
theorem OwE.nil : OwE K F H [] [] := OwL.nil
theorem OwE.cons {e : V × O} {E : En} {f1 f2 : List Addr} (h : Ow K F H e.1 e.2 f1) (hs : OwE K F H E f2) : OwE K F H (e :: E) (f1 ++ f2) := OwL.cons h hs
theorem OwE.inv {e : V × O} {E : En} {fp : List Addr} (h : OwE K F H (e :: E) fp) : ∃ f1 f2, Ow K F H e.1 e.2 f1 ∧ OwE K F H E f2 ∧ fp = f1 ++ f2 := OwL.inv h
theorem OwE.perm {E E' : En} (p : E.Perm E') : ∀ {fp : List Addr}, OwE K F H E fp → ∃ fp', OwE K F H E' fp' ∧ fp.Perm fp' := by
  induction p with
  | nil => exact fun {fp} h => ⟨fp, h, .refl _⟩
  | cons x p ih =>
    intro fp h
    obtain ⟨f1, f2, h1, h2, rfl⟩ := OwE.inv h
    obtain ⟨f3, h3, q⟩ := ih h2
    exact ⟨f1 ++ f3, OwE.cons h1 h3, q.append_left f1⟩
  | swap x y l =>
    intro fp h
    obtain ⟨f1, f2, h1, h2, rfl⟩ := OwE.inv h
    obtain ⟨f3, f4, h3, h4, rfl⟩ := OwE.inv h2
    refine ⟨f3 ++ (f1 ++ f4), OwE.cons h3 (OwE.cons h1 h4), ?_⟩
    rw [← List.append_assoc, ← List.append_assoc]
    exact List.perm_append_comm.append_right f4
  | trans p q ih1 ih2 =>
    intro fp h
    obtain ⟨f1, h1, q1⟩ := ih1 h
    obtain ⟨f2, h2, q2⟩ := ih2 h1
    exact ⟨f2, h2, q1.trans q2⟩
theorem OwE.append {E E' : En} {f1 f2 : List Addr} (h : OwE K F H E f1) (k : OwE K F H E' f2) : OwE K F H (E ++ E') (f1 ++ f2) := by
  unfold OwE
  rw [List.map_append, List.map_append]
  exact OwL.append h k
theorem OwE.mono {E : En} {fp : List Addr} (e : Same F F') (k : ∀ b ∈ fp, H' b = H b) (h : OwE K F H E fp) : OwE K F' H' E fp := OwL.mono e _ _ _ k h
end

mutual
/-- what a tree owns stands in H -/
theorem Ow.there {K : PySem.W.Frag} {F H : Hp} : ∀ (o : O) (v : V) (fp : List Addr), Ow K F H v o fp → ∀ b ∈ fp, ∃ x, H b = some x
  | .fr d, v, fp, h, b, hb => by
    rw [h.2] at hb
    cases hb
  | .lst os, v, fp, h, b, hb => by
    obtain ⟨a, vs, f, e1, e2, e3, rfl⟩ := h
    rcases List.mem_cons.mp hb with rfl | hb
    · exact ⟨_, e2⟩
    · exact OwL.there os vs f e3 b hb
  | .dK ks os, v, fp, h, b, hb => by
    obtain ⟨a, vs, f, e1, e2, e4, e3, rfl⟩ := h
    rcases List.mem_cons.mp hb with rfl | hb
    · exact ⟨_, e2⟩
    · exact OwL.there os _ f e3 b hb
  | .dT ks os, v, fp, h, b, hb => by
    obtain ⟨a, vs, f, e1, e2, e4, e3, rfl⟩ := h
    rcases List.mem_cons.mp hb with rfl | hb
    · exact ⟨_, e2⟩
    · exact OwL.there os _ f e3 b hb
theorem OwL.there {K : PySem.W.Frag} {F H : Hp} : ∀ (os : List O) (vs : List V) (fp : List Addr), OwL K F H vs os fp → ∀ b ∈ fp, ∃ x, H b = some x
  | [], vs, fp, h, b, hb => by
    rw [h.2] at hb
    cases hb
  | o :: os, vs, fp, h, b, hb => by
    obtain ⟨v, r, f1, f2, e1, e2, e3, rfl⟩ := h
    rcases List.mem_append.mp hb with hb | hb
    · exact Ow.there o v f1 e2 b hb
    · exact OwL.there os r f2 e3 b hb
end
end Mi

set_option Elab.async false
set_option linter.all false
set_option maxRecDepth 100000
/-! Mi1: environments, the relation, expressions. -/
namespace Mi
open PySem PySem.Spec PyProof.Rows L2

abbrev G := List (Option O)
structure Bs where
  K : PySem.W.Frag
  F0 : Hp
  H0 : Hp
  M : List Addr
  pin : List Nat
  pv : List V

def Ents (B : Bs) (F H : Hp) (E : En) : Prop := ∃ fp, OwE B.K F H E fp ∧ fp.Nodup ∧ ∀ b ∈ fp, F b = none ∧ (B.H0 b = none ∨ b ∈ B.M)
def ents : L2.St → G → En
  | some v :: σ, some o :: g => (v, o) :: ents σ g
  | some _ :: σ, none :: g => ents σ g
  | none :: σ, _ :: g => ents σ g
  | _, _ => []

section
theorem ents_take : ∀ {σ : L2.St} {g : G} {i : Nat} {v : V} {o : O}, σ[i]? = some (some v) → g[i]? = some (some o) → (ents σ g).Perm ((v, o) :: ents σ (g.set i none))
  | [], _, i, v, o, h, _ => by simp at h
  | _ :: _, [], i, v, o, _, h => by simp at h
  | x :: σ, y :: g, 0, v, o, h, k => by
    simp at h k
    subst h k
    show ((v, o) :: ents σ g).Perm ((v, o) :: ents σ g)
    exact .refl _
  | x :: σ, y :: g, i + 1, v, o, h, k => by
    have ih := ents_take (σ := σ) (g := g) (i := i) (by simpa using h) (by simpa using k)
    cases x with
    | none => exact ih
    | some x =>
      cases y with
      | none => exact ih
      | some y => exact (ih.cons (x, y)).trans (.swap _ _ _)
theorem ents_put : ∀ {σ : L2.St} {g : G} {i : Nat} {v : V} {o : O}, i < σ.length → g.length = σ.length → (ents (σ.set i (some v)) (g.set i (some o))).Perm ((v, o) :: ents σ (g.set i none))
  | [], _, i, v, o, h, _ => by simp at h
  | _ :: _, [], i, v, o, _, h => by simp at h
  | x :: σ, y :: g, 0, v, o, h, k => by
    cases x with
    | none => exact .refl _
    | some x => exact .refl _
  | x :: σ, y :: g, i + 1, v, o, h, k => by
    have ih := ents_put (σ := σ) (g := g) (i := i) (v := v) (o := o) (by simpa using h) (by simpa using k)
    cases x with
    | none => exact ih
    | some x =>
      cases y with
      | none => exact ih
      | some y => exact (ih.cons (x, y)).trans (.swap _ _ _)
theorem ents_wipe : ∀ {σ : L2.St} {g : G} {i : Nat}, (ents σ g).Perm (ents σ (g.set i none)) ∨ ∃ v o, σ[i]? = some (some v) ∧ g[i]? = some (some o) ∧ (ents σ g).Perm ((v, o) :: ents σ (g.set i none)) := by
  intro σ g i
  cases h : σ[i]? with
  | none =>
    left
    have h1 : σ.length ≤ i := List.getElem?_eq_none_iff.mp h
    have : ∀ (σ : L2.St) (g : G) (i : Nat), σ.length ≤ i → ents σ g = ents σ (g.set i none) := by
      intro σ
      induction σ with
      | nil => intro g i _; cases g <;> rfl
      | cons x σ ih =>
        intro g i hi
        cases g with
        | nil => rfl
        | cons y g =>
          cases i with
          | zero => simp at hi
          | succ i =>
            have := ih g i (by simpa using hi)
            cases x with
            | none => exact this
            | some x =>
              cases y with
              | none => exact this
              | some y => show (x, y) :: ents σ g = (x, y) :: ents σ (g.set i none); rw [this]
    rw [this σ g i h1]
  | some x =>
    cases hg : g[i]? with
    | none =>
      left
      have h1 : g.length ≤ i := List.getElem?_eq_none_iff.mp hg
      rw [List.set_eq_of_length_le h1]
    | some y =>
      cases x with
      | none =>
        left
        have : ∀ (σ : L2.St) (g : G) (i : Nat), σ[i]? = some none → ents σ g = ents σ (g.set i none) := by
          intro σ
          induction σ with
          | nil => intro g i h; simp at h
          | cons x σ ih =>
            intro g i hi
            cases g with
            | nil => rfl
            | cons y g =>
              cases i with
              | zero =>
                simp at hi
                subst hi
                rfl
              | succ i =>
                have := ih g i (by simpa using hi)
                cases x with
                | none => exact this
                | some x =>
                  cases y with
                  | none => exact this
                  | some y => show (x, y) :: ents σ g = (x, y) :: ents σ (g.set i none); rw [this]
        rw [this σ g i h]
      | some v =>
        cases y with
        | none =>
          left
          have e : g.set i none = g := by
            apply List.ext_getElem?
            intro j
            by_cases hj : i = j
            · subst hj
              rw [List.getElem?_set_self (List.getElem?_eq_some_iff.mp hg).1, hg]
            · rw [List.getElem?_set_ne hj]
          rw [e]
        | some o => exact .inr ⟨v, o, rfl, rfl, ents_take h hg⟩
end

structure Rel (B : Bs) (F H : Hp) (σ : L2.St) (g : G) (τ : En) : Prop where
  len : g.length = σ.length
  cov : ∀ (i : Nat) (o : O), g[i]? = some (some o) → ∃ v : V, σ[i]? = some (some v)
  sub : Same F H
  f0 : Same B.F0 F
  keep : ∀ b o, B.H0 b = some o → b ∉ B.M → H b = some o
  new : ∀ b o, F b = some o → B.F0 b = some o ∨ B.H0 b = none ∨ b ∈ B.M
  pins : ∀ j ∈ B.pin, σ[j]? = (B.pv[j]?).map some
  ent : Ents B F H (ents σ g ++ τ)

structure Grow (F H F' H' : Hp) : Prop where
  f : Same F F'
  h : Same H H'
  s : Same F' H'
  n : ∀ b o, F' b = some o → F b = some o ∨ H b = none
theorem Grow.refl {F H : Hp} (s : Same F H) : Grow F H F H := ⟨Same.refl F, Same.refl H, s, fun _ _ e => .inl e⟩
theorem Grow.trans {F H F1 H1 F2 H2 : Hp} (a : Grow F H F1 H1) (b : Grow F1 H1 F2 H2) : Grow F H F2 H2 :=
  ⟨a.f.trans b.f, a.h.trans b.h, b.s, fun c o e => by
    rcases b.n c o e with e | e
    · exact a.n c o e
    · exact .inr (a.h.free e)⟩
theorem Grow.tup {F H : Hp} (s : Same F H) {p : Addr} (hp : H p = none) (o : HO) : Grow F H (upd F p o) (upd H p o) := by
  have fp : F p = none := s.free hp
  refine ⟨same_upd fp, same_upd hp, fun b u e => ?_, fun b u e => ?_⟩
  · unfold upd at e ⊢
    by_cases hb : b = p
    · rw [if_pos hb] at e ⊢
      exact e
    · rw [if_neg hb] at e ⊢
      exact s b u e
  · unfold upd at e
    by_cases hb : b = p
    · rw [hb]
      exact .inr hp
    · rw [if_neg hb] at e
      exact .inl e
theorem Grow.own {F H : Hp} (s : Same F H) {p : Addr} (hp : H p = none) (o : HO) : Grow F H F (upd H p o) :=
  ⟨Same.refl F, same_upd hp, s.trans (same_upd hp), fun _ _ e => .inl e⟩

section
variable {B : Bs} {F F' H H' : Hp} {σ : L2.St} {g : G} {τ : En} {E E' : En} {v : V} {o : O} {d : D}

theorem Ents.perm (h : Ents B F H E) (p : E.Perm E') : Ents B F H E' := by
  obtain ⟨fp, h1, h2, h3⟩ := h
  obtain ⟨fp', h4, q⟩ := h1.perm p
  exact ⟨fp', h4, q.nodup h2, fun b hb => h3 b (q.mem_iff.mpr hb)⟩
theorem Ents.drop {e : V × O} (h : Ents B F H (e :: E)) : Ents B F H E := by
  obtain ⟨fp, h1, h2, h3⟩ := h
  obtain ⟨f1, f2, _, k2, rfl⟩ := OwE.inv h1
  exact ⟨f2, k2, (List.nodup_append.mp h2).2.1, fun b hb => h3 b (List.mem_append_right _ hb)⟩
theorem Ents.frd (h : Ents B F H ((v, .fr d) :: E)) : Rp B.K F v d := by
  obtain ⟨fp, h1, h2, h3⟩ := h
  obtain ⟨f1, f2, k1, _, rfl⟩ := OwE.inv h1
  exact k1.1
theorem Ents.addFr (h : Ents B F H E) (r : Rp B.K F v d) : Ents B F H ((v, .fr d) :: E) := by
  obtain ⟨fp, h1, h2, h3⟩ := h
  exact ⟨[] ++ fp, OwE.cons (e := (v, .fr d)) ⟨r, rfl⟩ h1, h2, h3⟩
theorem Ents.rpH (h : Ents B F H ((v, o) :: E)) (s : Same F H) : Rp B.K H v o.er := by
  obtain ⟨fp, h1, h2, h3⟩ := h
  obtain ⟨f1, f2, k1, _, rfl⟩ := OwE.inv h1
  exact Ow.rp s o v f1 (fun _ _ => rfl) k1
theorem Ents.grow (h : Ents B F H E) (w : Grow F H F' H') : Ents B F' H' E := by
  obtain ⟨fp, h1, h2, h3⟩ := h
  have there := OwL.there _ _ fp h1
  refine ⟨fp, OwE.mono w.f (fun b hb => ?_) h1, h2, fun b hb => ?_⟩
  · obtain ⟨x, hx⟩ := there b hb
    rw [hx]
    exact w.h b x hx
  · obtain ⟨x, hx⟩ := there b hb
    obtain ⟨k1, k2⟩ := h3 b hb
    refine ⟨?_, k2⟩
    cases e : F' b with
    | none => rfl
    | some y =>
      rcases w.n b y e with e | e
      · rw [k1] at e
        cases e
      · rw [hx] at e
        cases e
/-- the frozen heap with what stands at fp in H -/
def frz (F H : Hp) (fp : List Addr) : Hp := fun b => if b ∈ fp then H b else F b
theorem frz_in {fp : List Addr} {b : Addr} (hb : b ∈ fp) : frz F H fp b = H b := if_pos hb
theorem frz_out {fp : List Addr} {b : Addr} (hb : b ∉ fp) : frz F H fp b = F b := if_neg hb
theorem Ents.freeze (h : Ents B F H ((v, o) :: E)) (s : Same F H) : ∃ F', Same F F' ∧ Same F' H ∧ (∀ b x, F' b = some x → F b = some x ∨ (B.H0 b = none ∨ b ∈ B.M)) ∧ Ents B F' H ((v, .fr o.er) :: E) := by
  obtain ⟨fp, h1, h2, h3⟩ := h
  obtain ⟨f1, f2, k1, k2, rfl⟩ := OwE.inv h1
  have sF : Same F (frz F H f1) := fun b x e => by
    by_cases hb : b ∈ f1
    · rw [(h3 b (List.mem_append_left _ hb)).1] at e
      cases e
    · rw [frz_out hb]
      exact e
  refine ⟨frz F H f1, sF, fun b x e => ?_, fun b x e => ?_, [] ++ f2, ?_, (List.nodup_append.mp h2).2.1, fun b hb => ?_⟩
  · by_cases hb : b ∈ f1
    · rw [frz_in hb] at e
      exact e
    · rw [frz_out hb] at e
      exact s b x e
  · by_cases hb : b ∈ f1
    · exact .inr (h3 b (List.mem_append_left _ hb)).2
    · rw [frz_out hb] at e
      exact .inl e
  · exact OwE.cons (e := (v, .fr o.er)) ⟨Ow.rp sF o v f1 (fun b hb => frz_in hb) k1, rfl⟩ (OwE.mono sF (fun _ _ => rfl) k2)
  · have hb1 : b ∉ f1 := fun z => (List.nodup_append.mp h2).2.2 b z b hb rfl
    rw [frz_out hb1]
    exact h3 b (List.mem_append_right _ hb)

theorem Rel.grow (r : Rel B F H σ g τ) (w : Grow F H F' H') : Rel B F' H' σ g τ where
  len := r.len
  cov := r.cov
  sub := w.s
  f0 := r.f0.trans w.f
  keep := fun b o e m => w.h b o (r.keep b o e m)
  new := fun b o e => by
    rcases w.n b o e with e | e
    · exact r.new b o e
    · cases q : B.H0 b with
      | none => exact .inr (.inl rfl)
      | some x =>
        by_cases m : b ∈ B.M
        · exact .inr (.inr m)
        · rw [r.keep b x q m] at e
          cases e
  pins := r.pins
  ent := r.ent.grow w
theorem Rel.with (r : Rel B F H σ g τ) {τ' : En} (h : Ents B F H (ents σ g ++ τ')) : Rel B F H σ g τ' := { r with ent := h }
theorem Rel.tperm (r : Rel B F H σ g τ) {τ' : En} (p : τ.Perm τ') : Rel B F H σ g τ' := r.with (r.ent.perm (p.append_left _))
theorem Rel.headE (r : Rel B F H σ g ((v, o) :: τ)) : Ents B F H ((v, o) :: (ents σ g ++ τ)) := r.ent.perm List.perm_middle
theorem Rel.ofHead (r : Rel B F H σ g τ) {v : V} {o : O} (h : Ents B F H ((v, o) :: (ents σ g ++ τ))) : Rel B F H σ g ((v, o) :: τ) := r.with (h.perm List.perm_middle.symm)
theorem Rel.drop {e : V × O} (r : Rel B F H σ g (e :: τ)) : Rel B F H σ g τ := r.with (r.ent.perm List.perm_middle).drop
theorem Rel.frd (r : Rel B F H σ g ((v, .fr d) :: τ)) : Rp B.K F v d := r.headE.frd
theorem Rel.addFr (r : Rel B F H σ g τ) (h : Rp B.K F v d) : Rel B F H σ g ((v, .fr d) :: τ) := r.ofHead (r.ent.addFr h)
theorem Rel.freeze (r : Rel B F H σ g ((v, o) :: τ)) : ∃ F', Same F F' ∧ Rel B F' H σ g ((v, .fr o.er) :: τ) := by
  obtain ⟨F', s1, s2, n, e⟩ := r.headE.freeze r.sub
  refine ⟨F', s1, r.len, r.cov, s2, r.f0.trans s1, r.keep, fun b x e => ?_, r.pins, e.perm List.perm_middle.symm⟩
  rcases n b x e with e | e
  · exact r.new b x e
  · exact .inr e
theorem Rel.take {i : Nat} (r : Rel B F H σ g τ) (hs : σ[i]? = some (some v)) (hg : g[i]? = some (some o)) : Rel B F H σ (g.set i none) ((v, o) :: τ) where
  len := by rw [List.length_set]; exact r.len
  cov := fun j o' e => by
    by_cases hj : i = j
    · subst hj
      exact ⟨v, hs⟩
    · rw [List.getElem?_set_ne hj] at e
      exact r.cov j o' e
  sub := r.sub
  f0 := r.f0
  keep := r.keep
  new := r.new
  pins := r.pins
  ent := by
    have p : (ents σ g ++ τ).Perm (ents σ (g.set i none) ++ (v, o) :: τ) := ((ents_take hs hg).append_right τ).trans List.perm_middle.symm
    exact r.ent.perm p
theorem Rel.slot {i : Nat} (r : Rel B F H σ g τ) (hg : g[i]? = some (some o)) : ∃ v, σ[i]? = some (some v) ∧ Rel B F H σ (g.set i none) ((v, o) :: τ) := by
  obtain ⟨v, hv⟩ := r.cov i o hg
  exact ⟨v, hv, r.take hv hg⟩
theorem set_back {i : Nat} {x : Option O} (hg : g[i]? = some x) : (g.set i none).set i x = g := by
  apply List.ext_getElem?
  intro j
  by_cases hj : i = j
  · subst hj
    have hi := (List.getElem?_eq_some_iff.mp hg).1
    rw [List.getElem?_set_self (by rw [List.length_set]; exact hi), hg]
  · rw [List.getElem?_set_ne hj, List.getElem?_set_ne hj]
/-- back into a slot that holds the value still -/
theorem Rel.back {i : Nat} (r : Rel B F H σ g ((v, o) :: τ)) (hs : σ[i]? = some (some v)) (hg : g[i]? = some none) : Rel B F H σ (g.set i (some o)) τ where
  len := by rw [List.length_set]; exact r.len
  cov := fun j o' e => by
    by_cases hj : i = j
    · subst hj
      exact ⟨v, hs⟩
    · rw [List.getElem?_set_ne hj] at e
      exact r.cov j o' e
  sub := r.sub
  f0 := r.f0
  keep := r.keep
  new := r.new
  pins := r.pins
  ent := by
    have hi := (List.getElem?_eq_some_iff.mp hg).1
    have p1 := ents_take (σ := σ) (g := g.set i (some o)) hs (List.getElem?_set_self hi)
    rw [List.set_set] at p1
    have e : g.set i none = g := by
      have := set_back hg
      rw [List.set_set] at this
      exact this
    rw [e] at p1
    exact r.ent.perm (List.perm_middle.trans (p1.append_right τ).symm)
theorem Rel.wipe (r : Rel B F H σ g τ) (i : Nat) : Rel B F H σ (g.set i none) τ where
  len := by rw [List.length_set]; exact r.len
  cov := fun j o' e => by
    by_cases hj : i = j
    · subst hj
      by_cases hi : i < g.length
      · rw [List.getElem?_set_self hi] at e
        cases e
      · rw [List.getElem?_eq_none_iff.mpr (by rw [List.length_set]; omega)] at e
        cases e
    · rw [List.getElem?_set_ne hj] at e
      exact r.cov j o' e
  sub := r.sub
  f0 := r.f0
  keep := r.keep
  new := r.new
  pins := r.pins
  ent := by
    rcases ents_wipe (σ := σ) (g := g) (i := i) with p | ⟨v, o, _, _, p⟩
    · exact r.ent.perm (p.append_right τ)
    · exact (r.ent.perm (p.append_right τ)).drop
/-- a value goes into a slot -/
theorem Rel.put {i : Nat} (r : Rel B F H σ g ((v, o) :: τ)) (hi : i < σ.length) (hp : i ∉ B.pin) : Rel B F H (σ.set i (some v)) (g.set i (some o)) τ := by
  have w := r.wipe i
  refine ⟨by rw [List.length_set, List.length_set]; exact r.len, fun j o' e => ?_, r.sub, r.f0, r.keep, r.new, fun j hj => ?_, ?_⟩
  · by_cases hj : i = j
    · subst hj
      exact ⟨v, List.getElem?_set_self hi⟩
    · rw [List.getElem?_set_ne hj] at e
      rw [List.getElem?_set_ne hj]
      exact r.cov j o' e
  · have : i ≠ j := fun z => hp (z ▸ hj)
    rw [List.getElem?_set_ne this]
    exact r.pins j hj
  · exact w.ent.perm (List.perm_middle.trans ((ents_put hi r.len).append_right τ).symm)
end

/-! ### expressions and operands -/
abbrev XE := G → Option (O × G)
inductive Opd where
  | d (x : D) | br (i : Nat)
abbrev XO := G → Option (Opd × G)
abbrev XA := G → Option (List Opd × G)
abbrev XT := G → Option (Bool × G)
def view (g : G) : Opd → Option D
  | .d x => some x
  | .br i => match g[i]? with
    | some (some o) => some o.er
    | _ => none
def views (g : G) : List Opd → Option (List D)
  | [] => some []
  | a :: r => (view g a).bind fun d => (views g r).map fun ds => d :: ds
def alld : List Opd → Option (List D)
  | [] => some []
  | .d x :: r => (alld r).map fun ds => x :: ds
  | .br _ :: _ => none
def OpdOk (B : Bs) (F : Hp) (σ : L2.St) (v : V) : Opd → Prop
  | .d x => Rp B.K F v x
  | .br i => σ[i]? = some (some v)
def OpdsOk (B : Bs) (F : Hp) (σ : L2.St) : List V → List Opd → Prop
  | vs, [] => vs = []
  | vs, a :: r => ∃ v ws, vs = v :: ws ∧ OpdOk B F σ v a ∧ OpdsOk B F σ ws r

def SE (B : Bs) (t : TE) (m : XE) : Prop := ∀ F H σ g τ o g', Rel B F H σ g τ → m g = some (o, g') → ∀ Q : VK,
  (∀ F' H' v, Same F F' → Rel B F' H' σ g' ((v, o) :: τ) → Q v H') → t σ H Q
def SO (B : Bs) (t : TE) (m : XO) : Prop := ∀ F H σ g τ a g', Rel B F H σ g τ → m g = some (a, g') → ∀ Q : VK,
  (∀ F' H' v, Same F F' → Rel B F' H' σ g' τ → OpdOk B F' σ v a → Q v H') → t σ H Q
def ST (B : Bs) (t : TT) (m : XT) : Prop := ∀ F H σ g τ b g', Rel B F H σ g τ → m g = some (b, g') → ∀ Q : Bool → Hp → Prop,
  (∀ F' H', Same F F' → Rel B F' H' σ g' τ → Q b H') → t σ H Q
def SA (B : Bs) (t : TA) (m : XA) : Prop := ∀ F H σ g τ as g', Rel B F H σ g τ → m g = some (as, g') → ∀ Q : List V → Hp → Prop,
  (∀ F' H' vs, Same F F' → Rel B F' H' σ g' τ → OpdsOk B F' σ vs as → Q vs H') → t σ H Q

section
variable {B : Bs} {F F' H H' : Hp} {σ : L2.St} {g : G} {τ : En}
theorem OpdOk.mono (e : Same F F') {v : V} : ∀ {a : Opd}, OpdOk B F σ v a → OpdOk B F' σ v a
  | .d x, h => Rp.mono e x v h
  | .br i, h => h
theorem OpdsOk.mono (e : Same F F') : ∀ {as : List Opd} {vs : List V}, OpdsOk B F σ vs as → OpdsOk B F' σ vs as
  | [], _, h => h
  | a :: r, _, h => by
    obtain ⟨v, ws, e1, h1, h2⟩ := h
    exact ⟨v, ws, e1, h1.mono e, OpdsOk.mono e h2⟩
theorem Rel.view (r : Rel B F H σ g τ) {v : V} {d : D} : ∀ {a : Opd}, OpdOk B F σ v a → view g a = some d → Rp B.K H v d
  | .d x, h, e => by
    cases e
    exact Rp.mono r.sub _ _ h
  | .br i, h, e => by
    change (match g[i]? with | some (some o) => some o.er | _ => none) = some d at e
    split at e
    · rename_i o eo
      cases e
      exact (r.take h eo).headE.rpH r.sub
    · cases e
theorem Rel.views (r : Rel B F H σ g τ) : ∀ {as : List Opd} {vs : List V} {ds : List D}, OpdsOk B F σ vs as → views g as = some ds → RpL B.K H vs ds
  | [], _, _, h, e => by
    cases e
    exact h
  | a :: as, _, _, h, e => by
    obtain ⟨v, ws, rfl, h1, h2⟩ := h
    unfold Mi.views at e
    cases e1 : Mi.view g a with
    | none => rw [e1] at e; cases e
    | some d =>
      cases e2 : Mi.views g as with
      | none => rw [e1, e2] at e; cases e
      | some ds =>
        rw [e1, e2] at e
        cases e
        exact RpL.cons (r.view h1 e1) (r.views h2 e2)
theorem alld_ok : ∀ {as : List Opd} {vs : List V} {ds : List D}, OpdsOk B F σ vs as → alld as = some ds → RpL B.K F vs ds
  | [], _, _, h, e => by
    cases e
    exact h
  | .d x :: as, _, _, h, e => by
    obtain ⟨v, ws, rfl, h1, h2⟩ := h
    unfold alld at e
    cases e2 : alld as with
    | none => rw [e2] at e; cases e
    | some ds =>
      rw [e2] at e
      cases e
      exact RpL.cons h1 (alld_ok h2 e2)
  | .br i :: as, _, _, h, e => by cases e

/-! variables and constants -/
def oVar (i : Nat) : XO := fun g => match g[i]? with
  | some (some (.fr d)) => some (.d d, g)
  | some (some _) => some (.br i, g)
  | _ => none
theorem so_var {i : Nat} : SO B (tVar i) (oVar i) := by
  intro F H σ g τ a g' r e Q q
  unfold oVar at e
  split at e
  · rename_i d ed
    cases e
    obtain ⟨v, hv, r2⟩ := r.slot ed
    exact ⟨v, hv, q F H v (Same.refl F) r r2.frd⟩
  · rename_i o _ eo
    cases e
    obtain ⟨v, hv⟩ := r.cov i o eo
    exact ⟨v, hv, q F H v (Same.refl F) r hv⟩
  · cases e
def eVar (i : Nat) : XE := fun g => match g[i]? with
  | some (some (.fr d)) => some (.fr d, g)
  | some (some o) => some (.fr o.er, g.set i (some (.fr o.er)))
  | _ => none
theorem Rel.copyFr {i : Nat} {d : D} (r : Rel B F H σ g τ) (e : g[i]? = some (some (.fr d))) {v : V} (hv : σ[i]? = some (some v)) : Rel B F H σ g ((v, .fr d) :: τ) := r.addFr (r.take hv e).frd
theorem se_var {i : Nat} : SE B (tVar i) (eVar i) := by
  intro F H σ g τ a g' r e Q q
  unfold eVar at e
  split at e
  · rename_i d ed
    cases e
    obtain ⟨v, hv⟩ := r.cov i _ ed
    exact ⟨v, hv, q F H v (Same.refl F) (r.copyFr ed hv)⟩
  · rename_i o _ eo
    cases e
    obtain ⟨v, hv, r2⟩ := r.slot eo
    obtain ⟨F', s, r3⟩ := r2.freeze
    have hi := (List.getElem?_eq_some_iff.mp eo).1
    have r4 := (r3.addFr r3.frd).back hv (List.getElem?_set_self hi)
    rw [List.set_set] at r4
    exact ⟨v, hv, q F' H v s r4⟩
  · cases e
/-- the slot's value goes away from the slot -/
def eMove (i : Nat) : XE := fun g => match g[i]? with
  | some (some (.fr d)) => some (.fr d, g)
  | some (some o) => some (o, g.set i none)
  | _ => none
theorem se_move {i : Nat} : SE B (tVar i) (eMove i) := by
  intro F H σ g τ a g' r e Q q
  unfold eMove at e
  split at e
  · rename_i d ed
    cases e
    obtain ⟨v, hv⟩ := r.cov i _ ed
    exact ⟨v, hv, q F H v (Same.refl F) (r.copyFr ed hv)⟩
  · rename_i o _ eo
    cases e
    obtain ⟨v, hv, r2⟩ := r.slot eo
    exact ⟨v, hv, q F H v (Same.refl F) r2⟩
  · cases e
def eC (d : D) : XE := fun g => some (.fr d, g)
theorem se_c {v : V} {d : D} (h : ∀ F, Rp B.K F v d) : SE B (tC v) (eC d) := by
  intro F H σ g τ a g' r e Q q
  cases e
  exact q F H v (Same.refl F) (r.addFr (h F))
theorem se_int {i : Int} : SE B (tC (.int i)) (eC (.int i)) := se_c fun _ => rfl
theorem se_str {s : Str} : SE B (tC (.str s)) (eC (.str s)) := se_c fun _ => rfl
theorem se_bl {b : Bool} : SE B (tC (.bl b)) (eC (.bl b)) := se_c fun _ => rfl
theorem se_non : SE B (tC .non) (eC .non) := se_c fun _ => rfl
def oE (m : XE) : XO := fun g => (m g).map fun p => (.d p.1.er, p.2)
theorem so_e {t : TE} {m : XE} (h : SE B t m) : SO B t (oE m) := by
  intro F H σ g τ a g' r e Q q
  obtain ⟨⟨o, g1⟩, e1, e2⟩ := Option.map_eq_some_iff.mp e
  cases e2
  refine h F H σ g τ o g1 r e1 Q fun F' H' v s r1 => ?_
  obtain ⟨F2, s2, r2⟩ := r1.freeze
  exact q F2 H' v (s.trans s2) r2.drop r2.frd
def aNil : XA := fun g => some ([], g)
def aCons (a : XO) (r : XA) : XA := fun g => (a g).bind fun p => (r p.2).map fun q => (p.1 :: q.1, q.2)
theorem sa_nil : SA B tNil aNil := by
  intro F H σ g τ a g' r e Q q
  cases e
  exact q F H [] (Same.refl F) r rfl
theorem sa_cons {t : TE} {tr : TA} {m : XO} {mr : XA} (h : SO B t m) (hr : SA B tr mr) : SA B (tCons t tr) (aCons m mr) := by
  intro F H σ g τ as g' r e Q q
  obtain ⟨⟨a, g1⟩, e1, e2⟩ := Option.bind_eq_some_iff.mp e
  obtain ⟨⟨bs, g2⟩, e3, e4⟩ := Option.map_eq_some_iff.mp e2
  cases e4
  refine h F H σ g τ a g1 r e1 _ fun F1 H1 v s1 r1 ok1 => ?_
  exact hr F1 H1 σ g1 τ bs g2 r1 e3 _ fun F2 H2 vs s2 r2 ok2 => q F2 H2 (v :: vs) (s1.trans s2) r2 ⟨v, vs, rfl, ok1.mono s2, ok2⟩

/-! operations by values: scalar answers; answers out of frozen data -/
def toV : D → Option V
  | .non => some .non
  | .bl b => some (.bl b)
  | .int i => some (.int i)
  | .str s => some (.str s)
  | _ => none
theorem toV_rp {K : PySem.W.Frag} {d : D} {w : V} (h : toV d = some w) (F : Hp) : Rp K F w d := by
  cases d with
  | non => cases h; exact rfl
  | bl b => cases h; exact rfl
  | int i => cases h; exact rfl
  | str s => cases h; exact rfl
  | tup _ => cases h
  | lst _ => cases h
  | dK _ _ => cases h
  | dT _ _ => cases h
  | scr _ => cases h
def S1 (K : PySem.W.Frag) (r : V → Hp → VK → Prop) (f : D → Option D) : Prop := ∀ H x d z, Rp K H x d → f d = some z → ∃ w, toV z = some w ∧ ∀ Q : VK, Q w H → r x H Q
def S2 (K : PySem.W.Frag) (r : R2) (f : D → D → Option D) : Prop := ∀ H x y d e z, Rp K H x d → Rp K H y e → f d e = some z → ∃ w, toV z = some w ∧ ∀ Q : VK, Q w H → r x y H Q
def SN (K : PySem.W.Frag) (r : List V → Hp → VK → Prop) (f : List D → Option D) : Prop := ∀ H vs ds z, RpL K H vs ds → f ds = some z → ∃ w, toV z = some w ∧ ∀ Q : VK, Q w H → r vs H Q
/-- what is made of frozen data: perhaps new things, owned or frozen -/
def Made (K : PySem.W.Frag) (F H : Hp) (z : O) (Q : VK) : Prop := ∀ F' H' v fp, Grow F H F' H' → Ow K F' H' v z fp → fp.Nodup → (∀ b ∈ fp, H b = none ∧ F' b = none) → Q v H'
def A1 (K : PySem.W.Frag) (r : V → Hp → VK → Prop) (f : D → Option O) : Prop := ∀ F H x d z, Same F H → Rp K F x d → f d = some z → ∀ Q : VK, Made K F H z Q → r x H Q
def A2 (K : PySem.W.Frag) (r : R2) (f : D → D → Option O) : Prop := ∀ F H x y d e z, Same F H → Rp K F x d → Rp K F y e → f d e = some z → ∀ Q : VK, Made K F H z Q → r x y H Q
def AN (K : PySem.W.Frag) (r : List V → Hp → VK → Prop) (f : List D → Option O) : Prop := ∀ F H vs ds z, Same F H → RpL K F vs ds → f ds = some z → ∀ Q : VK, Made K F H z Q → r vs H Q

theorem Rel.made (r : Rel B F H σ g τ) {v : V} {z : O} {fp : List Addr} (w : Grow F H F' H') (h : Ow B.K F' H' v z fp) (nd : fp.Nodup) (nw : ∀ b ∈ fp, H b = none ∧ F' b = none) : Rel B F' H' σ g ((v, z) :: τ) := by
  have r' := r.grow w
  refine r'.ofHead ?_
  obtain ⟨f2, h1, h2, h3⟩ := r'.ent
  obtain ⟨f3, k1, k2, k3⟩ := r.ent
  have there := OwL.there _ _ f3 k1
  refine ⟨fp ++ f3, OwE.cons (e := (v, z)) h (OwE.mono w.f (fun b hb => ?_) k1), List.nodup_append.mpr ⟨nd, k2, fun a ha b hb e => ?_⟩, fun b hb => ?_⟩
  · obtain ⟨x, hx⟩ := there b hb
    rw [hx]
    exact w.h b x hx
  · subst e
    obtain ⟨x, hx⟩ := there a hb
    rw [(nw a ha).1] at hx
    cases hx
  · rcases List.mem_append.mp hb with hb | hb
    · refine ⟨(nw b hb).2, ?_⟩
      cases q : B.H0 b with
      | none => exact .inl rfl
      | some x =>
        by_cases m : b ∈ B.M
        · exact .inr m
        · have := r.keep b x q m
          rw [(nw b hb).1] at this
          cases this
    · obtain ⟨x, hx⟩ := there b hb
      refine ⟨?_, (k3 b hb).2⟩
      cases e : F' b with
      | none => rfl
      | some y =>
        rcases w.n b y e with e | e
        · rw [(k3 b hb).1] at e
          cases e
        · rw [hx] at e
          cases e

def xS1 (f : D → Option D) (a : XO) : XE := fun g => (a g).bind fun p => (view p.2 p.1).bind fun d => (f d).map fun z => (.fr z, p.2)
def xS2 (f : D → D → Option D) (a b : XO) : XE := fun g => (a g).bind fun p => (b p.2).bind fun q => (view q.2 p.1).bind fun d => (view q.2 q.1).bind fun e => (f d e).map fun z => (.fr z, q.2)
def xSN (f : List D → Option D) (as : XA) : XE := fun g => (as g).bind fun p => (views p.2 p.1).bind fun ds => (f ds).map fun z => (.fr z, p.2)
def opdD : Opd → Option D
  | .d x => some x
  | .br _ => none
def xA1 (f : D → Option O) (a : XO) : XE := fun g => (a g).bind fun p => (opdD p.1).bind fun d => (f d).map fun z => (z, p.2)
def xA2 (f : D → D → Option O) (a b : XO) : XE := fun g => (a g).bind fun p => (b p.2).bind fun q => (opdD p.1).bind fun d => (opdD q.1).bind fun e => (f d e).map fun z => (z, q.2)
def xAN (f : List D → Option O) (as : XA) : XE := fun g => (as g).bind fun p => (alld p.1).bind fun ds => (f ds).map fun z => (z, p.2)
theorem opdD_ok {v : V} {a : Opd} {d : D} (h : OpdOk B F σ v a) (e : opdD a = some d) : Rp B.K F v d := by
  cases a with
  | d x => cases e; exact h
  | br i => cases e

theorem se_s1 {r : V → Hp → VK → Prop} {f : D → Option D} {ta : TE} {ma : XO} (hr : S1 B.K r f) (ha : SO B ta ma) : SE B (tUn r ta) (xS1 f ma) := by
  intro F H σ g τ o g' rl e Q q
  obtain ⟨⟨a, g1⟩, e1, e2⟩ := Option.bind_eq_some_iff.mp e
  obtain ⟨d, e3, e4⟩ := Option.bind_eq_some_iff.mp e2
  obtain ⟨z, e5, e6⟩ := Option.map_eq_some_iff.mp e4
  cases e6
  refine ha F H σ g τ a g1 rl e1 _ fun F1 H1 v s1 r1 ok1 => ?_
  obtain ⟨w, hw, k⟩ := hr H1 v d z (r1.view ok1 e3) e5
  exact k Q (q F1 H1 w s1 (r1.addFr (toV_rp hw F1)))
theorem se_s2 {r : R2} {f : D → D → Option D} {ta tb : TE} {ma mb : XO} (hr : S2 B.K r f) (ha : SO B ta ma) (hb : SO B tb mb) : SE B (tOp r ta tb) (xS2 f ma mb) := by
  intro F H σ g τ o g' rl e Q q
  obtain ⟨⟨a, g1⟩, e1, e2⟩ := Option.bind_eq_some_iff.mp e
  obtain ⟨⟨b, g2⟩, e3, e4⟩ := Option.bind_eq_some_iff.mp e2
  obtain ⟨d, e5, e6⟩ := Option.bind_eq_some_iff.mp e4
  obtain ⟨d2, e7, e8⟩ := Option.bind_eq_some_iff.mp e6
  obtain ⟨z, e9, e10⟩ := Option.map_eq_some_iff.mp e8
  cases e10
  refine ha F H σ g τ a g1 rl e1 _ fun F1 H1 v s1 r1 ok1 => ?_
  refine hb F1 H1 σ g1 τ b g2 r1 e3 _ fun F2 H2 u s2 r2 ok2 => ?_
  obtain ⟨w, hw, k⟩ := hr H2 v u d d2 z (r2.view (ok1.mono s2) e5) (r2.view ok2 e7) e9
  exact k Q (q F2 H2 w (s1.trans s2) (r2.addFr (toV_rp hw F2)))
theorem se_sn {r : List V → Hp → VK → Prop} {f : List D → Option D} {ta : TA} {ma : XA} (hr : SN B.K r f) (ha : SA B ta ma) : SE B (tCB r ta) (xSN f ma) := by
  intro F H σ g τ o g' rl e Q q
  obtain ⟨⟨a, g1⟩, e1, e2⟩ := Option.bind_eq_some_iff.mp e
  obtain ⟨d, e3, e4⟩ := Option.bind_eq_some_iff.mp e2
  obtain ⟨z, e5, e6⟩ := Option.map_eq_some_iff.mp e4
  cases e6
  refine ha F H σ g τ a g1 rl e1 _ fun F1 H1 v s1 r1 ok1 => ?_
  obtain ⟨w, hw, k⟩ := hr H1 v d z (r1.views ok1 e3) e5
  exact k Q (q F1 H1 w s1 (r1.addFr (toV_rp hw F1)))
theorem se_a1 {r : V → Hp → VK → Prop} {f : D → Option O} {ta : TE} {ma : XO} (hr : A1 B.K r f) (ha : SO B ta ma) : SE B (tUn r ta) (xA1 f ma) := by
  intro F H σ g τ o g' rl e Q q
  obtain ⟨⟨a, g1⟩, e1, e2⟩ := Option.bind_eq_some_iff.mp e
  obtain ⟨d, e3, e4⟩ := Option.bind_eq_some_iff.mp e2
  obtain ⟨z, e5, e6⟩ := Option.map_eq_some_iff.mp e4
  cases e6
  refine ha F H σ g τ a g1 rl e1 _ fun F1 H1 v s1 r1 ok1 => ?_
  exact hr F1 H1 v d o r1.sub (opdD_ok ok1 e3) e5 Q fun F2 H2 w fp gr ow nd nw => q F2 H2 w (s1.trans gr.f) (r1.made gr ow nd nw)
theorem se_a2 {r : R2} {f : D → D → Option O} {ta tb : TE} {ma mb : XO} (hr : A2 B.K r f) (ha : SO B ta ma) (hb : SO B tb mb) : SE B (tOp r ta tb) (xA2 f ma mb) := by
  intro F H σ g τ o g' rl e Q q
  obtain ⟨⟨a, g1⟩, e1, e2⟩ := Option.bind_eq_some_iff.mp e
  obtain ⟨⟨b, g2⟩, e3, e4⟩ := Option.bind_eq_some_iff.mp e2
  obtain ⟨d, e5, e6⟩ := Option.bind_eq_some_iff.mp e4
  obtain ⟨d2, e7, e8⟩ := Option.bind_eq_some_iff.mp e6
  obtain ⟨z, e9, e10⟩ := Option.map_eq_some_iff.mp e8
  cases e10
  refine ha F H σ g τ a g1 rl e1 _ fun F1 H1 v s1 r1 ok1 => ?_
  refine hb F1 H1 σ g1 τ b g2 r1 e3 _ fun F2 H2 u s2 r2 ok2 => ?_
  exact hr F2 H2 v u d d2 o r2.sub (Rp.mono s2 _ _ (opdD_ok ok1 e5)) (opdD_ok ok2 e7) e9 Q fun F3 H3 w fp gr ow nd nw => q F3 H3 w ((s1.trans s2).trans gr.f) (r2.made gr ow nd nw)
theorem se_an {r : List V → Hp → VK → Prop} {f : List D → Option O} {ta : TA} {ma : XA} (hr : AN B.K r f) (ha : SA B ta ma) : SE B (tCB r ta) (xAN f ma) := by
  intro F H σ g τ o g' rl e Q q
  obtain ⟨⟨a, g1⟩, e1, e2⟩ := Option.bind_eq_some_iff.mp e
  obtain ⟨d, e3, e4⟩ := Option.bind_eq_some_iff.mp e2
  obtain ⟨z, e5, e6⟩ := Option.map_eq_some_iff.mp e4
  cases e6
  refine ha F H σ g τ a g1 rl e1 _ fun F1 H1 v s1 r1 ok1 => ?_
  exact hr F1 H1 v d o r1.sub (alld_ok ok1 e3) e5 Q fun F2 H2 w fp gr ow nd nw => q F2 H2 w (s1.trans gr.f) (r1.made gr ow nd nw)
end
end Mi

set_option Elab.async false
set_option linter.all false
set_option maxRecDepth 100000
/-! Mi2: tests, displays, statements, loops, calls. -/
namespace Mi
open PySem PySem.Spec PyProof.Rows L2

section
variable {B : Bs} {F F' H H' : Hp} {σ : L2.St} {g : G} {τ : En}

/-! ### tests -/
/-- a value that is a bool -/
def xB (m : XO) : XT := fun g => (m g).bind fun p => match view p.2 p.1 with
  | some (.bl b) => some (b, p.2)
  | _ => none
theorem st_test {t : TE} {m : XO} (h : SO B t m) : ST B (tTest t) (xB m) := by
  intro F H σ g τ b g' r e Q q
  obtain ⟨⟨a, g1⟩, e1, e2⟩ := Option.bind_eq_some_iff.mp e
  refine h F H σ g τ a g1 r e1 _ fun F1 H1 v s1 r1 ok1 => ?_
  dsimp only at e2
  split at e2
  · rename_i c ec
    cases e2
    have rp : v = .bl b := r1.view ok1 ec
    exact ⟨b, rp, q F1 H1 s1 r1⟩
  · cases e2
theorem st_B {t : TE} {m : XO} (h : SO B t m) : ST B (tB t) (xB m) := st_test h
def dTru : D → Option Bool
  | .non => some false
  | .bl b => some b
  | .int i => some (i != 0)
  | .str s => if s.length ≤ sizeLine then some ((s.length : Int) != 0) else none
  | .tup ds => some (!ds.isEmpty)
  | .lst ds => some (!ds.isEmpty)
  | .scr ns => some (!ns.isEmpty)
  | _ => none
theorem RpL.isEmpty {K : PySem.W.Frag} {H : Hp} {vs : List V} {ds : List D} (h : RpL K H vs ds) : vs.isEmpty = ds.isEmpty := by
  have := h.length
  cases vs with
  | nil =>
    cases ds with
    | nil => rfl
    | cons d ds => simp at this
  | cons v vs =>
    cases ds with
    | nil => simp at this
    | cons d ds => rfl
theorem tru_rp {K : PySem.W.Frag} {v : V} {d : D} {k : Bool} (h : Rp K H v d) (e : dTru d = some k) : TruV K v H k := by
  cases d with
  | non =>
    obtain rfl : v = .non := h
    cases e
    exact rfl
  | bl b =>
    obtain rfl : v = .bl b := h
    cases e
    exact rfl
  | int i =>
    obtain rfl : v = .int i := h
    cases e
    exact rfl
  | str s =>
    obtain rfl : v = .str s := h
    change (if s.length ≤ sizeLine then some ((s.length : Int) != 0) else none) = some k at e
    split at e
    · rename_i hs
      cases e
      exact ⟨hs, rfl⟩
    · cases e
  | tup ds =>
    obtain ⟨a, vs, rfl, e2, e3⟩ := h
    cases e
    exact .inr (.inl ⟨vs, e2, by rw [e3.isEmpty]⟩)
  | lst ds =>
    obtain ⟨a, vs, rfl, e2, e3⟩ := h
    cases e
    exact .inl ⟨vs, SqL.of e2, by rw [e3.isEmpty]⟩
  | dK _ _ => cases e
  | dT _ _ => cases e
  | scr ns =>
    obtain ⟨a, rfl, e2⟩ := h
    cases e
    refine .inl ⟨_, e2, ?_⟩
    cases ns <;> rfl
def xTru (m : XO) : XT := fun g => (m g).bind fun p => (view p.2 p.1).bind fun d => (dTru d).map fun b => (b, p.2)
theorem st_tru {t : TE} {m : XO} (h : SO B t m) : ST B (fun σ H Q => t σ H fun x H' => ∃ k, TruV B.K x H' k ∧ Q k H') (xTru m) := by
  intro F H σ g τ b g' r e Q q
  obtain ⟨⟨a, g1⟩, e1, e2⟩ := Option.bind_eq_some_iff.mp e
  obtain ⟨d, e3, e4⟩ := Option.bind_eq_some_iff.mp e2
  obtain ⟨c, e5, e6⟩ := Option.map_eq_some_iff.mp e4
  cases e6
  refine h F H σ g τ a g1 r e1 _ fun F1 H1 v s1 r1 ok1 => ?_
  exact ⟨b, tru_rp (r1.view ok1 e3) e5, q F1 H1 s1 r1⟩
def xAnd (a b : XT) : XT := fun g => (a g).bind fun p => if p.1 = true then b p.2 else some (false, p.2)
def xOr (a b : XT) : XT := fun g => (a g).bind fun p => if p.1 = true then some (true, p.2) else b p.2
def xNot (a : XT) : XT := fun g => (a g).map fun p => (!p.1, p.2)
theorem st_and {t u : TT} {a b : XT} (ha : ST B t a) (hb : ST B u b) : ST B (tAnd t u) (xAnd a b) := by
  intro F H σ g τ c g' r e Q q
  obtain ⟨⟨k, g1⟩, e1, e2⟩ := Option.bind_eq_some_iff.mp e
  refine ha F H σ g τ k g1 r e1 _ fun F1 H1 s1 r1 => ?_
  cases k with
  | true => exact hb F1 H1 σ g1 τ c g' r1 e2 Q fun F2 H2 s2 r2 => q F2 H2 (s1.trans s2) r2
  | false =>
    cases e2
    exact q F1 H1 s1 r1
theorem st_or {t u : TT} {a b : XT} (ha : ST B t a) (hb : ST B u b) : ST B (tOr t u) (xOr a b) := by
  intro F H σ g τ c g' r e Q q
  obtain ⟨⟨k, g1⟩, e1, e2⟩ := Option.bind_eq_some_iff.mp e
  refine ha F H σ g τ k g1 r e1 _ fun F1 H1 s1 r1 => ?_
  cases k with
  | false => exact hb F1 H1 σ g1 τ c g' r1 e2 Q fun F2 H2 s2 r2 => q F2 H2 (s1.trans s2) r2
  | true =>
    cases e2
    exact q F1 H1 s1 r1
theorem st_not {t : TT} {a : XT} (ha : ST B t a) : ST B (tNot t) (xNot a) := by
  intro F H σ g τ c g' r e Q q
  obtain ⟨⟨k, g1⟩, e1, e2⟩ := Option.map_eq_some_iff.mp e
  cases e2
  exact ha F H σ g τ k _ r e1 _ fun F1 H1 s1 r1 => q F1 H1 s1 r1
def xYes : XT := fun g => some (true, g)

/-! ### values by truth, conditional expressions -/
def xAndV (a : XO) (b : XE) : XE := fun g => (a g).bind fun p => (opdD p.1).bind fun d => (dTru d).bind fun k => if k = true then b p.2 else some (.fr d, p.2)
def xOrV (a : XO) (b : XE) : XE := fun g => (a g).bind fun p => (opdD p.1).bind fun d => (dTru d).bind fun k => if k = true then some (.fr d, p.2) else b p.2
def xNotV (a : XO) : XE := fun g => (a g).bind fun p => (view p.2 p.1).bind fun d => (dTru d).map fun k => (.fr (.bl (!k)), p.2)
theorem se_andV {ta tb : TE} {a : XO} {b : XE} (ha : SO B ta a) (hb : SE B tb b) : SE B (tAndT B.K ta tb) (xAndV a b) := by
  intro F H σ g τ o g' r e Q q
  obtain ⟨⟨x, g1⟩, e1, e2⟩ := Option.bind_eq_some_iff.mp e
  obtain ⟨d, e3, e4⟩ := Option.bind_eq_some_iff.mp e2
  obtain ⟨k, e5, e6⟩ := Option.bind_eq_some_iff.mp e4
  refine ha F H σ g τ x g1 r e1 _ fun F1 H1 v s1 r1 ok1 => ?_
  have rp := opdD_ok ok1 e3
  refine ⟨k, tru_rp (Rp.mono r1.sub _ _ rp) e5, ?_⟩
  cases k with
  | true => exact hb F1 H1 σ g1 τ o g' r1 e6 Q fun F2 H2 w s2 r2 => q F2 H2 w (s1.trans s2) r2
  | false =>
    cases e6
    exact q F1 H1 v s1 (r1.addFr rp)
theorem se_orV {ta tb : TE} {a : XO} {b : XE} (ha : SO B ta a) (hb : SE B tb b) : SE B (tOrT B.K ta tb) (xOrV a b) := by
  intro F H σ g τ o g' r e Q q
  obtain ⟨⟨x, g1⟩, e1, e2⟩ := Option.bind_eq_some_iff.mp e
  obtain ⟨d, e3, e4⟩ := Option.bind_eq_some_iff.mp e2
  obtain ⟨k, e5, e6⟩ := Option.bind_eq_some_iff.mp e4
  refine ha F H σ g τ x g1 r e1 _ fun F1 H1 v s1 r1 ok1 => ?_
  have rp := opdD_ok ok1 e3
  refine ⟨k, tru_rp (Rp.mono r1.sub _ _ rp) e5, ?_⟩
  cases k with
  | false => exact hb F1 H1 σ g1 τ o g' r1 e6 Q fun F2 H2 w s2 r2 => q F2 H2 w (s1.trans s2) r2
  | true =>
    cases e6
    exact q F1 H1 v s1 (r1.addFr rp)
theorem se_notV {ta : TE} {a : XO} (ha : SO B ta a) : SE B (tNotT B.K ta) (xNotV a) := by
  intro F H σ g τ o g' r e Q q
  obtain ⟨⟨x, g1⟩, e1, e2⟩ := Option.bind_eq_some_iff.mp e
  obtain ⟨d, e3, e4⟩ := Option.bind_eq_some_iff.mp e2
  obtain ⟨k, e5, e6⟩ := Option.map_eq_some_iff.mp e4
  cases e6
  refine ha F H σ g τ x g1 r e1 _ fun F1 H1 v s1 r1 ok1 => ?_
  exact ⟨k, tru_rp (r1.view ok1 e3) e5, q F1 H1 _ s1 (r1.addFr rfl)⟩
def xIf (c : XT) (a b : XE) : XE := fun g => (c g).bind fun p => if p.1 = true then a p.2 else b p.2
theorem se_if {t : TT} {ta tb : TE} {c : XT} {a b : XE} (hc : ST B t c) (ha : SE B ta a) (hb : SE B tb b) : SE B (tIf t ta tb) (xIf c a b) := by
  intro F H σ g τ o g' r e Q q
  obtain ⟨⟨k, g1⟩, e1, e2⟩ := Option.bind_eq_some_iff.mp e
  refine hc F H σ g τ k g1 r e1 _ fun F1 H1 s1 r1 => ?_
  cases k with
  | true => exact ha F1 H1 σ g1 τ o g' r1 e2 Q fun F2 H2 w s2 r2 => q F2 H2 w (s1.trans s2) r2
  | false => exact hb F1 H1 σ g1 τ o g' r1 e2 Q fun F2 H2 w s2 r2 => q F2 H2 w (s1.trans s2) r2

/-! ### displays -/
def xTup (as : XA) : XE := fun g => (as g).bind fun p => (alld p.1).bind fun ds => if ds.length ≤ sizeLine then some (.fr (.tup ds), p.2) else none
theorem made_tup {K : PySem.W.Frag} {F H : Hp} (s : Same F H) {p : Addr} (hp : H p = none) {vs : List V} {ds : List D} (h : RpL K F vs ds) {Q : VK} (q : Made K F H (.fr (.tup ds)) Q) : Q (.ref p) (upd H p (.tup vs)) := by
  have gr := Grow.tup s hp (.tup vs)
  exact q (upd F p (.tup vs)) _ (.ref p) [] gr ⟨⟨p, vs, rfl, SqT.of upd_same, RpL.mono gr.f _ _ h⟩, rfl⟩ List.nodup_nil (fun _ z => nomatch z)
theorem made_lst {K : PySem.W.Frag} {F H : Hp} (s : Same F H) {p : Addr} (hp : H p = none) {vs : List V} {ds : List D} (h : RpL K F vs ds) {Q : VK} (q : Made K F H (.lst (ds.map O.fr)) Q) : Q (.ref p) (upd H p (.lst vs)) := by
  have gr := Grow.own s hp (.lst vs)
  refine q F _ (.ref p) [p] gr ⟨p, vs, [], rfl, upd_same, OwL.frs h, rfl⟩ (List.nodup_cons.mpr ⟨List.not_mem_nil, List.nodup_nil⟩) fun b hb => ?_
  rcases List.mem_singleton.mp hb with rfl
  exact ⟨hp, s.free hp⟩
theorem made_fr {K : PySem.W.Frag} {F H : Hp} (s : Same F H) {v : V} {d : D} (h : Rp K F v d) {Q : VK} (q : Made K F H (.fr d) Q) : Q v H :=
  q F H v [] (Grow.refl s) ⟨h, rfl⟩ List.nodup_nil (fun _ z => nomatch z)
theorem se_tup {ta : TA} {ma : XA} (ha : SA B ta ma) : SE B (tTup ta) (xTup ma) := by
  intro F H σ g τ o g' r e Q q
  obtain ⟨⟨a, g1⟩, e1, e2⟩ := Option.bind_eq_some_iff.mp e
  obtain ⟨ds, e3, e4⟩ := Option.bind_eq_some_iff.mp e2
  split at e4
  · rename_i hl
    cases e4
    refine ha F H σ g τ a g1 r e1 _ fun F1 H1 vs s1 r1 ok1 => ?_
    have rp := alld_ok ok1 e3
    refine ⟨by rw [rp.length]; exact hl, fun p hp => ?_⟩
    exact made_tup (K := B.K) r1.sub hp rp fun F2 H2 w fp gr ow nd nw => q F2 H2 w (s1.trans gr.f) (r1.made gr ow nd nw)
  · cases e4
def xLst (as : XA) : XE := fun g => (as g).bind fun p => (alld p.1).bind fun ds => if ds.length ≤ sizeLine then some (.lst (ds.map O.fr), p.2) else none
theorem se_lst {ta : TA} {ma : XA} (ha : SA B ta ma) : SE B (tLst ta) (xLst ma) := by
  intro F H σ g τ o g' r e Q q
  obtain ⟨⟨a, g1⟩, e1, e2⟩ := Option.bind_eq_some_iff.mp e
  obtain ⟨ds, e3, e4⟩ := Option.bind_eq_some_iff.mp e2
  split at e4
  · rename_i hl
    cases e4
    refine ha F H σ g τ a g1 r e1 _ fun F1 H1 vs s1 r1 ok1 => ?_
    have rp := alld_ok ok1 e3
    refine ⟨by rw [rp.length]; exact hl, fun p hp => ?_⟩
    exact made_lst (K := B.K) r1.sub hp rp fun F2 H2 w fp gr ow nd nw => q F2 H2 w (s1.trans gr.f) (r1.made gr ow nd nw)
  · cases e4
def xDct : XE := fun g => some (.dK [] [], g)
theorem se_dct : SE B tDNewK xDct := by
  intro F H σ g τ o g' r e Q q
  cases e
  intro p hp
  have gr := Grow.own r.sub hp (.dK [])
  refine q F _ (.ref p) (Same.refl F) (r.made (fp := [p]) gr ⟨p, [], [], rfl, upd_same, rfl, OwL.nil, rfl⟩ (List.nodup_cons.mpr ⟨List.not_mem_nil, List.nodup_nil⟩) fun b hb => ?_)
  rcases List.mem_singleton.mp hb with rfl
  exact ⟨hp, r.sub.free hp⟩
def xDctT : XE := fun g => some (.dT [] [], g)
theorem se_dctT : SE B tDNewT xDctT := by
  intro F H σ g τ o g' r e Q q
  cases e
  intro p hp
  have gr := Grow.own r.sub hp (.dT [])
  refine q F _ (.ref p) (Same.refl F) (r.made (fp := [p]) gr ⟨p, [], [], rfl, upd_same, rfl, OwL.nil, rfl⟩ (List.nodup_cons.mpr ⟨List.not_mem_nil, List.nodup_nil⟩) fun b hb => ?_)
  rcases List.mem_singleton.mp hb with rfl
  exact ⟨hp, r.sub.free hp⟩

/-! ### subscripts -/
def IxOk (K : PySem.W.Frag) (r : R2) (f : D → D → Option D) : Prop := ∀ F H x y d e z, Same F H → Rp K F x d → Rp K H y e → f d e = some z → ∃ w, Rp K F w z ∧ ∀ Q : VK, Q w H → r x y H Q
def IxOw (K : PySem.W.Frag) (r : R2) (f : O → D → Option D) : Prop := ∀ F H x y o e z fp, Same F H → Ow K F H x o fp → Rp K H y e → f o e = some z → ∃ w, Rp K F w z ∧ ∀ Q : VK, Q w H → r x y H Q
def xIx (f : D → D → Option D) (f' : O → D → Option D) (a b : XO) : XE := fun g => (a g).bind fun p => (b p.2).bind fun q => (view q.2 q.1).bind fun e => match p.1 with
  | .d d => (f d e).map fun z => (.fr z, q.2)
  | .br i => match q.2[i]? with
    | some (some o) => (f' o e).map fun z => (.fr z, q.2)
    | _ => none
theorem se_ix {r : R2} {f : D → D → Option D} {f' : O → D → Option D} {ta tb : TE} {ma mb : XO} (h1 : IxOk B.K r f) (h2 : IxOw B.K r f') (ha : SO B ta ma) (hb : SO B tb mb) : SE B (tOp r ta tb) (xIx f f' ma mb) := by
  intro F H σ g τ o g' rl e Q q
  obtain ⟨⟨a, g1⟩, e1, e2⟩ := Option.bind_eq_some_iff.mp e
  obtain ⟨⟨b, g2⟩, e3, e4⟩ := Option.bind_eq_some_iff.mp e2
  obtain ⟨d2, e5, e6⟩ := Option.bind_eq_some_iff.mp e4
  refine ha F H σ g τ a g1 rl e1 _ fun F1 H1 v s1 r1 ok1 => ?_
  refine hb F1 H1 σ g1 τ b g2 r1 e3 _ fun F2 H2 u s2 r2 ok2 => ?_
  have ru := r2.view ok2 e5
  have ok1' := ok1.mono s2
  dsimp only at e6
  cases a with
  | d x =>
    obtain ⟨z, e7, e8⟩ := Option.map_eq_some_iff.mp e6
    cases e8
    obtain ⟨w, hw, k⟩ := h1 F2 H2 v u x d2 z r2.sub ok1' ru e7
    exact k Q (q F2 H2 w (s1.trans s2) (r2.addFr hw))
  | br i =>
    dsimp only at e6
    split at e6
    · rename_i x ex
      obtain ⟨z, e7, e8⟩ := Option.map_eq_some_iff.mp e6
      cases e8
      have hE := (r2.take ok1' ex).headE
      obtain ⟨fp, k1, k2, k3⟩ := hE
      obtain ⟨f1, f2, m1, _, _⟩ := OwE.inv k1
      obtain ⟨w, hw, k⟩ := h2 F2 H2 v u x d2 z f1 r2.sub m1 ru e7
      exact k Q (q F2 H2 w (s1.trans s2) (r2.addFr hw))
    · cases e6
end

/-! ### statements -/
inductive Out where
  | nx (g : G) | rt (o : O) (g : G) | bk (g : G) | ct (g : G)
abbrev XS := G → Option Out
def Post (B : Bs) (F : Hp) (τ : En) (D : Ends) : Out → Prop
  | .nx g => ∀ F' H' σ', Same F F' → Rel B F' H' σ' g τ → D.nx σ' H'
  | .rt o g => ∀ F' H' σ' v, Same F F' → Rel B F' H' σ' g ((v, o) :: τ) → D.rt v H'
  | .bk g => ∀ F' H' σ', Same F F' → Rel B F' H' σ' g τ → D.bk σ' H'
  | .ct g => ∀ F' H' σ', Same F F' → Rel B F' H' σ' g τ → D.ct σ' H'
def SS (B : Bs) (t : TS) (m : XS) : Prop := ∀ F H σ g τ out, Rel B F H σ g τ → m g = some out → ∀ D : Ends, Post B F τ D out → t D σ H
theorem Post.mono {B : Bs} {F F' : Hp} {τ : En} {D : Ends} (e : Same F F') : ∀ {out : Out}, Post B F τ D out → Post B F' τ D out
  | .nx g, h => fun F2 H2 σ2 s => h F2 H2 σ2 (e.trans s)
  | .rt o g, h => fun F2 H2 σ2 v s => h F2 H2 σ2 v (e.trans s)
  | .bk g, h => fun F2 H2 σ2 s => h F2 H2 σ2 (e.trans s)
  | .ct g, h => fun F2 H2 σ2 s => h F2 H2 σ2 (e.trans s)

section
variable {B : Bs} {F F' H H' : Hp} {σ : L2.St} {g : G} {τ : En}
def sNext : XS := fun g => some (.nx g)
theorem ss_next : SS B tNext sNext := by
  intro F H σ g τ out r e D p
  cases e
  exact p F H σ (Same.refl F) r
def sBrk : XS := fun g => some (.bk g)
theorem ss_brk : SS B tBreak sBrk := by
  intro F H σ g τ out r e D p
  cases e
  exact p F H σ (Same.refl F) r
def sCont : XS := fun g => some (.ct g)
theorem ss_cont : SS B tCont sCont := by
  intro F H σ g τ out r e D p
  cases e
  exact p F H σ (Same.refl F) r
def sSeq (a b : XS) : XS := fun g => (a g).bind fun x => match x with
  | .nx g' => b g'
  | .rt o g' => some (.rt o g')
  | .bk g' => some (.bk g')
  | .ct g' => some (.ct g')
theorem ss_seq {t u : TS} {a b : XS} (ha : SS B t a) (hb : SS B u b) : SS B (tSeq t u) (sSeq a b) := by
  intro F H σ g τ out r e D p
  obtain ⟨x, e1, e2⟩ := Option.bind_eq_some_iff.mp e
  refine ha F H σ g τ x r e1 _ ?_
  cases x with
  | nx g' => exact fun F1 H1 σ1 s1 r1 => hb F1 H1 σ1 g' τ out r1 e2 D (p.mono s1)
  | rt o g' => cases e2; exact p
  | bk g' => cases e2; exact p
  | ct g' => cases e2; exact p
def sRet (m : XE) : XS := fun g => (m g).map fun p => .rt p.1 p.2
theorem ss_ret {t : TE} {m : XE} (h : SE B t m) : SS B (tRet t) (sRet m) := by
  intro F H σ g τ out r e D p
  obtain ⟨⟨o, g1⟩, e1, e2⟩ := Option.map_eq_some_iff.mp e
  cases e2
  exact h F H σ g τ o g1 r e1 _ fun F1 H1 v s1 r1 => p F1 H1 σ v s1 r1
def sRetN : XS := fun g => some (.rt (.fr .non) g)
theorem ss_retN : SS B tRetN sRetN := by
  intro F H σ g τ out r e D p
  cases e
  exact p F H σ .non (Same.refl F) (r.addFr rfl)
def sDrop (m : XE) : XS := fun g => (m g).map fun p => .nx p.2
theorem ss_drop {t : TE} {m : XE} (h : SE B t m) : SS B (tDrop t) (sDrop m) := by
  intro F H σ g τ out r e D p
  obtain ⟨⟨o, g1⟩, e1, e2⟩ := Option.map_eq_some_iff.mp e
  cases e2
  exact h F H σ g τ o g1 r e1 _ fun F1 H1 v s1 r1 => p F1 H1 σ s1 r1.drop
def sIf (c : XT) (a b : XS) : XS := fun g => (c g).bind fun p => if p.1 = true then a p.2 else b p.2
theorem ss_if {c : TT} {t u : TS} {m : XT} {a b : XS} (hc : ST B c m) (ha : SS B t a) (hb : SS B u b) : SS B (tIfS c t u) (sIf m a b) := by
  intro F H σ g τ out r e D p
  obtain ⟨⟨k, g1⟩, e1, e2⟩ := Option.bind_eq_some_iff.mp e
  refine hc F H σ g τ k g1 r e1 _ fun F1 H1 s1 r1 => ?_
  cases k with
  | true => exact ha F1 H1 σ g1 τ out r1 e2 D (p.mono s1)
  | false => exact hb F1 H1 σ g1 τ out r1 e2 D (p.mono s1)

/-! targets -/
abbrev XG := O → G → Option G
def SG (B : Bs) (t : TG) (m : XG) : Prop := ∀ F H σ g τ v o g', Rel B F H σ g ((v, o) :: τ) → m o g = some g' → ∀ Q : L2.St → Hp → Prop,
  (∀ F' H' σ', Same F F' → Rel B F' H' σ' g' τ → Q σ' H') → t v σ H Q
def SGs (B : Bs) (t : TGs) (m : List D → G → Option G) : Prop := ∀ F H σ g τ vs ds g', Rel B F H σ g τ → RpL B.K F vs ds → m ds g = some g' → ∀ Q : L2.St → Hp → Prop,
  (∀ F' H' σ', Same F F' → Rel B F' H' σ' g' τ → Q σ' H') → t vs σ H Q
def gN (i : Nat) : XG := fun o g => if i < g.length then some (g.set i (some o)) else none
theorem sg_name {i : Nat} (hp : i ∉ B.pin) : SG B (gName i) (gN i) := by
  intro F H σ g τ v o g' r e Q q
  unfold gN at e
  split at e
  · rename_i hi
    cases e
    exact q F H _ (Same.refl F) (r.put (by rw [← r.len]; exact hi) hp)
  · cases e
def gsNil : List D → G → Option G := fun ds g => match ds with
  | [] => some g
  | _ => none
def gsCons (a : XG) (b : List D → G → Option G) : List D → G → Option G := fun ds g => match ds with
  | d :: r => (a (.fr d) g).bind fun g1 => b r g1
  | [] => none
theorem sgs_nil : SGs B gNil gsNil := by
  intro F H σ g τ vs ds g' r rp e Q q
  cases ds with
  | nil =>
    cases e
    exact ⟨rp, q F H σ (Same.refl F) r⟩
  | cons d ds => cases e
theorem sgs_cons {t : TG} {u : TGs} {a : XG} {b : List D → G → Option G} (ha : SG B t a) (hb : SGs B u b) : SGs B (gCons t u) (gsCons a b) := by
  intro F H σ g τ vs ds g' r rp e Q q
  cases ds with
  | nil => cases e
  | cons d ds =>
    obtain ⟨g1, e1, e2⟩ := Option.bind_eq_some_iff.mp e
    obtain ⟨v, ws, rfl, h1, h2⟩ := rp
    refine ⟨v, ws, rfl, ?_⟩
    exact ha F H σ g τ v (.fr d) g1 (r.addFr h1) e1 _ fun F1 H1 σ1 s1 r1 => hb F1 H1 σ1 g1 τ ws ds g' r1 (RpL.mono s1 _ _ h2) e2 Q fun F2 H2 σ2 s2 r2 => q F2 H2 σ2 (s1.trans s2) r2
def gTp (n : Nat) (b : List D → G → Option G) : XG := fun o g => match o with
  | .fr (.tup ds) => if ds.length = n then b ds g else none
  | _ => none
theorem sg_tup {n : Nat} {u : TGs} {b : List D → G → Option G} (hb : SGs B u b) : SG B (gTup B.K n u) (gTp n b) := by
  intro F H σ g τ v o g' r e Q q
  unfold gTp at e
  split at e
  · rename_i ds
    split at e
    · rename_i hn
      obtain ⟨a, vs, rfl, h1, h2⟩ := r.frd
      refine ⟨a, vs, rfl, Same.sqT r.sub h1, by rw [h2.length]; exact hn, ?_⟩
      exact hb F H σ g τ vs ds g' r.drop h2 e Q q
    · cases e
  · cases e
def sAsg (m : XE) (a : XG) : XS := fun g => (m g).bind fun p => (a p.1 p.2).map .nx
theorem ss_asg {t : TE} {u : TG} {m : XE} {a : XG} (h : SE B t m) (ha : SG B u a) : SS B (tAsg t u) (sAsg m a) := by
  intro F H σ g τ out r e D p
  obtain ⟨⟨o, g1⟩, e1, e2⟩ := Option.bind_eq_some_iff.mp e
  obtain ⟨g2, e3, e4⟩ := Option.map_eq_some_iff.mp e2
  cases e4
  refine h F H σ g τ o g1 r e1 _ fun F1 H1 v s1 r1 => ?_
  exact ha F1 H1 σ g1 τ v o g2 r1 e3 _ fun F2 H2 σ2 s2 r2 => p F2 H2 σ2 (s1.trans s2) r2
/-- a, b = e1, e2 into two names -/
def sPar (i j : Nat) (m : XA) : XS := fun g => (m g).bind fun p => (alld p.1).bind fun ds => match ds with
  | [d, e] => if i < p.2.length then some (.nx ((p.2.set i (some (.fr d))).set j (some (.fr e)))) else none
  | _ => none
theorem ss_par {i j : Nat} {t : TA} {m : XA} (hi : i ∉ B.pin) (hj : j ∉ B.pin) (h : SA B t m) : SS B (tPar i j t) (sPar i j m) := by
  intro F H σ g τ out r e D p
  obtain ⟨⟨as, g1⟩, e1, e2⟩ := Option.bind_eq_some_iff.mp e
  obtain ⟨ds, e3, e4⟩ := Option.bind_eq_some_iff.mp e2
  dsimp only at e4
  split at e4
  · rename_i d d2
    split at e4
    · rename_i hl
      cases e4
      refine h F H σ g τ as g1 r e1 _ fun F1 H1 vs s1 r1 ok => ?_
      obtain ⟨v, ws, rfl, k1, k2⟩ := alld_ok ok e3
      obtain ⟨w, xs, rfl, k3, k4⟩ := k2
      obtain rfl : xs = [] := k4
      refine ⟨v, w, rfl, ?_⟩
      have r2 := (r1.addFr k1).put (i := i) (by rw [← r1.len]; exact hl) hi
      by_cases hjl : j < (σ.set i (some v)).length
      · exact p F1 H1 _ s1 ((r2.addFr k3).put hjl hj)
      · rw [List.set_eq_of_length_le (by omega)]
        rw [List.set_eq_of_length_le (by rw [r2.len]; omega)] at p
        exact p F1 H1 _ s1 r2
    · cases e4
  · cases e4
/-- x += e of a local -/
def S2i (K : PySem.W.Frag) (r : TIp) (f : D → D → Option D) : Prop := S2 K r f
def sAug (i : Nat) (f : D → D → Option D) (m : XO) : XS := fun g => match g[i]? with
  | some (some (.fr d)) => (m g).bind fun p => (view p.2 p.1).bind fun e => (f d e).bind fun z => if i < p.2.length then some (.nx (p.2.set i (some (.fr z)))) else none
  | _ => none
theorem ss_aug {i : Nat} {t : TE} {ti : TIp} {f : D → D → Option D} {m : XO} (hi : i ∉ B.pin) (hr : S2i B.K ti f) (h : SO B t m) : SS B (tAug i t ti) (sAug i f m) := by
  intro F H σ g τ out r e D p
  unfold sAug at e
  split at e
  · rename_i d ed
    obtain ⟨⟨a, g1⟩, e1, e2⟩ := Option.bind_eq_some_iff.mp e
    obtain ⟨d2, e3, e4⟩ := Option.bind_eq_some_iff.mp e2
    obtain ⟨z, e5, e6⟩ := Option.bind_eq_some_iff.mp e4
    split at e6
    · rename_i hl
      cases e6
      obtain ⟨v, hv, r0⟩ := r.slot ed
      refine ⟨v, hv, ?_⟩
      refine h F H σ g τ a g1 r e1 _ fun F1 H1 u s1 r1 ok => ?_
      obtain ⟨w, hw, k⟩ := hr H1 v u d d2 z (Rp.mono (s1.trans r1.sub) _ _ r0.frd) (r1.view ok e3) e5
      exact k _ (p F1 H1 _ s1 ((r1.addFr (toV_rp hw F1)).put (by rw [← r1.len]; exact hl) hi))
    · cases e6
  · cases e

/-! ### for -/
def Walks (K : PySem.W.Frag) (F : Hp) (J : It) (ds : List D) : Prop :=
  (∀ i F2 H2, Same F F2 → Same F2 H2 → i < ds.length → J.go i H2 ∧ ∀ x H3, J.yld i H2 x H3 → ∃ F3, Grow F2 H2 F3 H3 ∧ ∃ d, ds[i]? = some d ∧ Rp K F3 x d) ∧
  (∀ F2 H2, Same F F2 → Same F2 H2 → J.stop ds.length H2)
theorem Walks.mono {K : PySem.W.Frag} {F F' : Hp} {J : It} {ds : List D} (e : Same F F') (w : Walks K F J ds) : Walks K F' J ds :=
  ⟨fun i F2 H2 s => w.1 i F2 H2 (e.trans s), fun F2 H2 s => w.2 F2 H2 (e.trans s)⟩
abbrev XI := G → Option (List D × G)
def SI (B : Bs) (wi : TI) (m : XI) : Prop := ∀ F H σ g τ ds g', Rel B F H σ g τ → m g = some (ds, g') → ∀ R : It → Hp → Prop,
  (∀ F' H' J, Same F F' → Rel B F' H' σ g' τ → Walks B.K F' J ds → R J H') → wi σ H R
def forL (tg : XG) (body : XS) : List D → G → Option Out
  | [], g => some (.nx g)
  | d :: ds, g => (tg (.fr d) g).bind fun g1 => (body g1).bind fun x => match x with
    | .nx g2 => forL tg body ds g2
    | .ct g2 => forL tg body ds g2
    | .bk g2 => some (.nx g2)
    | .rt o g2 => some (.rt o g2)
def sFor (it : XI) (tg : XG) (body : XS) : XS := fun g => (it g).bind fun p => forL tg body p.1 p.2
theorem ss_for {wi : TI} {tg : TG} {tb : TS} {it : XI} {mg : XG} {mb : XS} (hi : SI B wi it) (hg : SG B tg mg) (hb : SS B tb mb) : SS B (tFor wi tg tb) (sFor it mg mb) := by
  intro F H σ g τ out r e D p
  obtain ⟨⟨ds, g1⟩, e1, e2⟩ := Option.bind_eq_some_iff.mp e
  refine hi F H σ g τ ds g1 r e1 _ fun F1 H1 J s1 r1 w1 => ?_
  refine ⟨fun i m σ' H' => m = ds.length - i ∧ i ≤ ds.length ∧ ∃ F' g', Same F1 F' ∧ Rel B F' H' σ' g' τ ∧ forL mg mb (ds.drop i) g' = some out, ⟨ds.length, by simp, Nat.zero_le _, F1, g1, Same.refl F1, r1, e2⟩, ?_⟩
  rintro i m σ' H' ⟨rfl, hil, F', g', s', r', e'⟩
  have w' := w1.mono s'
  by_cases hlt : i < ds.length
  · right
    obtain ⟨go, yld⟩ := w'.1 i F' H' (Same.refl F') r'.sub hlt
    have ed : ds.drop i = ds[i] :: ds.drop (i + 1) := List.drop_eq_getElem_cons hlt
    rw [ed] at e'
    obtain ⟨g2, e3, e4⟩ := Option.bind_eq_some_iff.mp e'
    obtain ⟨x, e5, e6⟩ := Option.bind_eq_some_iff.mp e4
    refine ⟨go, fun σ2 H2 => ∃ F2 g3, Same F1 F2 ∧ Rel B F2 H2 σ2 g3 τ ∧ forL mg mb (ds.drop (i + 1)) g3 = some out, fun σ2 H2 q => ⟨ds.length - (i + 1), by omega, rfl, by omega, q⟩, fun y H3 hy => ?_⟩
    obtain ⟨F3, gr, d, hd, rd⟩ := yld y H3 hy
    rw [List.getElem?_eq_getElem hlt] at hd
    cases hd
    have r3 := (r'.grow gr).addFr rd
    refine hg F3 H3 σ' g' τ y (.fr ds[i]) g2 r3 e3 _ fun F4 H4 σ4 s4 r4 => ?_
    refine hb F4 H4 σ4 g2 τ x r4 e5 _ ?_
    have s14 : Same F1 F4 := (s'.trans gr.f).trans s4
    cases x with
    | nx g3 => exact fun F5 H5 σ5 s5 r5 => ⟨F5, g3, s14.trans s5, r5, e6⟩
    | ct g3 => exact fun F5 H5 σ5 s5 r5 => ⟨F5, g3, s14.trans s5, r5, e6⟩
    | bk g3 =>
      cases e6
      exact fun F5 H5 σ5 s5 r5 => p F5 H5 σ5 (s1.trans (s14.trans s5)) r5
    | rt o g3 =>
      cases e6
      exact fun F5 H5 σ5 v s5 r5 => p F5 H5 σ5 v (s1.trans (s14.trans s5)) r5
  · left
    have ei : i = ds.length := by omega
    subst ei
    refine ⟨w'.2 F' H' (Same.refl F') r'.sub, ?_⟩
    rw [List.drop_length] at e'
    cases e'
    exact p F' H' σ' (s1.trans s') r'

/-! what is walked -/
theorem walks_list {K : PySem.W.Frag} {a : Addr} {vs : List V} {ds : List D} (h : F a = some (.lst vs)) (hr : RpL K F vs ds) : Walks K F (Itl K a) ds := by
  refine ⟨fun i F2 H2 s s2 hi => ?_, fun F2 H2 s s2 => ?_⟩
  · have hq : H2 a = some (.lst vs) := s2 _ _ (s _ _ h)
    have hl := hr.length
    obtain ⟨v, hv, rv⟩ := hr.get (List.getElem?_eq_getElem hi)
    refine ⟨⟨vs, v, SqL.of hq, hv⟩, fun x H3 y => ?_⟩
    obtain ⟨rfl, y⟩ := y
    have e := y vs (SqL.of hq)
    rw [hv] at e
    cases e
    exact ⟨F2, Grow.refl s2, _, List.getElem?_eq_getElem hi, Rp.mono s _ _ rv⟩
  · exact ⟨vs, SqL.of (s2 _ _ (s _ _ h)), by rw [hr.length]; exact Nat.le_refl _⟩
theorem walks_tup {K : PySem.W.Frag} {a : Addr} {vs : List V} {ds : List D} (h : SqT K F a vs) (hr : RpL K F vs ds) : Walks K F (Itt K a) ds := by
  refine ⟨fun i F2 H2 s s2 hi => ?_, fun F2 H2 s s2 => ?_⟩
  · have hq : SqT K H2 a vs := Same.sqT s2 (Same.sqT s h)
    obtain ⟨v, hv, rv⟩ := hr.get (List.getElem?_eq_getElem hi)
    refine ⟨⟨vs, v, hq, hv⟩, fun x H3 y => ?_⟩
    obtain ⟨rfl, y⟩ := y
    have e := y vs hq
    rw [hv] at e
    cases e
    exact ⟨F2, Grow.refl s2, _, List.getElem?_eq_getElem hi, Rp.mono s _ _ rv⟩
  · exact ⟨vs, Same.sqT s2 (Same.sqT s h), by rw [hr.length]; exact Nat.le_refl _⟩
def rgD (lo : Int) (n : Nat) : List D := (List.range n).map fun i => .int (lo + (i : Nat))
theorem walks_rng {K : PySem.W.Frag} {lo : Int} {n : Nat} : Walks K F (Itr lo n) (rgD lo n) := by
  have hl : (rgD lo n).length = n := by unfold rgD; rw [List.length_map, List.length_range]
  refine ⟨fun i F2 H2 s s2 hi => ?_, fun F2 H2 s s2 => ?_⟩
  · rw [hl] at hi
    refine ⟨hi, fun x H3 y => ?_⟩
    obtain ⟨rfl, rfl⟩ := y
    refine ⟨F2, Grow.refl s2, .int (lo + (i : Nat)), ?_, rfl⟩
    unfold rgD
    rw [List.getElem?_map, List.getElem?_range hi]
    rfl
  · rw [hl]
    exact Nat.le_refl _
/-- over a frozen list -/
def iLst (m : XO) : XI := fun g => (m g).bind fun p => match p.1 with
  | .d (.lst ds) => some (ds, p.2)
  | _ => none
theorem si_lst {t : TE} {m : XO} (h : SO B t m) : SI B (iList B.K t) (iLst m) := by
  intro F H σ g τ ds g' r e R q
  obtain ⟨⟨a, g1⟩, e1, e2⟩ := Option.bind_eq_some_iff.mp e
  refine h F H σ g τ a g1 r e1 _ fun F1 H1 v s1 r1 ok => ?_
  dsimp only at e2
  split at e2
  · rename_i es
    cases e2
    obtain ⟨x, vs, rfl, k1, k2⟩ := ok
    exact ⟨x, rfl, ⟨vs, SqL.of (r1.sub _ _ k1)⟩, q F1 H1 _ s1 r1 (walks_list k1 k2)⟩
  · cases e2
def iTpl (m : XO) : XI := fun g => (m g).bind fun p => match p.1 with
  | .d (.tup ds) => some (ds, p.2)
  | _ => none
theorem si_tup {t : TE} {m : XO} (h : SO B t m) : SI B (iTup B.K t) (iTpl m) := by
  intro F H σ g τ ds g' r e R q
  obtain ⟨⟨a, g1⟩, e1, e2⟩ := Option.bind_eq_some_iff.mp e
  refine h F H σ g τ a g1 r e1 _ fun F1 H1 v s1 r1 ok => ?_
  dsimp only at e2
  split at e2
  · rename_i es
    cases e2
    obtain ⟨x, vs, rfl, k1, k2⟩ := ok
    exact ⟨x, rfl, ⟨vs, Same.sqT r1.sub k1⟩, q F1 H1 _ s1 r1 (walks_tup k1 k2)⟩
  · cases e2
def iR1 (m : XO) : XI := fun g => (m g).bind fun p => match view p.2 p.1 with
  | some (.int j) => if -(2 ^ 62) ≤ j ∧ j < 2 ^ 62 then some (rgD 0 j.toNat, p.2) else none
  | _ => none
theorem si_r1 {t : TE} {m : XO} (h : SO B t m) : SI B (iRng1 (tCons t tNil)) (iR1 m) := by
  intro F H σ g τ ds g' r e R q
  obtain ⟨⟨a, g1⟩, e1, e2⟩ := Option.bind_eq_some_iff.mp e
  refine h F H σ g τ a g1 r e1 _ fun F1 H1 v s1 r1 ok => ?_
  dsimp only at e2
  split at e2
  · rename_i j ej
    split at e2
    · rename_i hj
      cases e2
      obtain rfl : v = .int j := r1.view ok ej
      exact ⟨j, rfl, hj.1, hj.2, q F1 H1 _ s1 r1 walks_rng⟩
    · cases e2
  · cases e2
def iR2 (a b : XO) : XI := fun g => (a g).bind fun p => (b p.2).bind fun q => match view q.2 p.1, view q.2 q.1 with
  | some (.int i), some (.int j) => if (-(2 ^ 62) ≤ i ∧ i < 2 ^ 62) ∧ (-(2 ^ 62) ≤ j ∧ j < 2 ^ 62) then some (rgD i (j - i).toNat, q.2) else none
  | _, _ => none
theorem si_r2 {t u : TE} {m m' : XO} (h : SO B t m) (h' : SO B u m') : SI B (iRng2 (tCons t (tCons u tNil))) (iR2 m m') := by
  intro F H σ g τ ds g' r e R q
  obtain ⟨⟨a, g1⟩, e1, e2⟩ := Option.bind_eq_some_iff.mp e
  obtain ⟨⟨b, g2⟩, e3, e4⟩ := Option.bind_eq_some_iff.mp e2
  refine h F H σ g τ a g1 r e1 _ fun F1 H1 v s1 r1 ok => ?_
  refine h' F1 H1 σ g1 τ b g2 r1 e3 _ fun F2 H2 w s2 r2 ok2 => ?_
  dsimp only at e4
  split at e4
  · rename_i i j ei ej
    split at e4
    · rename_i hj
      cases e4
      obtain rfl : v = .int i := r2.view (ok.mono s2) ei
      obtain rfl : w = .int j := r2.view ok2 ej
      exact ⟨i, j, rfl, ⟨hj.1.1, hj.1.2, hj.2.1, hj.2.2⟩, q F2 H2 _ (s1.trans s2) r2 walks_rng⟩
    · cases e4
  · cases e4

/-! ### while -/
inductive WhN (c : XT) (b : XS) : Nat → G → Out → Prop
  | done {n : Nat} {g g1 : G} (h : c g = some (false, g1)) : WhN c b n g (.nx g1)
  | brk {n : Nat} {g g1 g2 : G} (h : c g = some (true, g1)) (k : b g1 = some (.bk g2)) : WhN c b n g (.nx g2)
  | ret {n : Nat} {g g1 g2 : G} {o : O} (h : c g = some (true, g1)) (k : b g1 = some (.rt o g2)) : WhN c b n g (.rt o g2)
  | next {n : Nat} {g g1 g2 : G} {out : Out} (h : c g = some (true, g1)) (k : b g1 = some (.nx g2)) (w : WhN c b n g2 out) : WhN c b (n + 1) g out
  | cont {n : Nat} {g g1 g2 : G} {out : Out} (h : c g = some (true, g1)) (k : b g1 = some (.ct g2)) (w : WhN c b n g2 out) : WhN c b (n + 1) g out
theorem WhN.det {c : XT} {b : XS} {n : Nat} {g : G} {x : Out} (h : WhN c b n g x) : ∀ {m : Nat} {y : Out}, WhN c b m g y → x = y := by
  induction h with
  | done h =>
    intro m y k
    cases k with
    | done h' => rw [h] at h'; cases h'; rfl
    | brk h' _ => rw [h] at h'; cases h'
    | ret h' _ => rw [h] at h'; cases h'
    | next h' _ _ => rw [h] at h'; cases h'
    | cont h' _ _ => rw [h] at h'; cases h'
  | brk h k =>
    intro m y z
    cases z with
    | done h' => rw [h] at h'; cases h'
    | brk h' k' => rw [h] at h'; cases h'; rw [k] at k'; cases k'; rfl
    | ret h' k' => rw [h] at h'; cases h'; rw [k] at k'; cases k'
    | next h' k' _ => rw [h] at h'; cases h'; rw [k] at k'; cases k'
    | cont h' k' _ => rw [h] at h'; cases h'; rw [k] at k'; cases k'
  | ret h k =>
    intro m y z
    cases z with
    | done h' => rw [h] at h'; cases h'
    | brk h' k' => rw [h] at h'; cases h'; rw [k] at k'; cases k'
    | ret h' k' => rw [h] at h'; cases h'; rw [k] at k'; cases k'; rfl
    | next h' k' _ => rw [h] at h'; cases h'; rw [k] at k'; cases k'
    | cont h' k' _ => rw [h] at h'; cases h'; rw [k] at k'; cases k'
  | next h k w ih =>
    intro m y z
    cases z with
    | done h' => rw [h] at h'; cases h'
    | brk h' k' => rw [h] at h'; cases h'; rw [k] at k'; cases k'
    | ret h' k' => rw [h] at h'; cases h'; rw [k] at k'; cases k'
    | next h' k' w' => rw [h] at h'; cases h'; rw [k] at k'; cases k'; exact ih w'
    | cont h' k' _ => rw [h] at h'; cases h'; rw [k] at k'; cases k'
  | cont h k w ih =>
    intro m y z
    cases z with
    | done h' => rw [h] at h'; cases h'
    | brk h' k' => rw [h] at h'; cases h'; rw [k] at k'; cases k'
    | ret h' k' => rw [h] at h'; cases h'; rw [k] at k'; cases k'
    | next h' k' w' => rw [h] at h'; cases h'; rw [k] at k'; cases k'
    | cont h' k' w' => rw [h] at h'; cases h'; rw [k] at k'; cases k'; exact ih w'
open Classical in
noncomputable def sWhile (c : XT) (b : XS) : XS := fun g => if h : ∃ out n, WhN c b n g out then some h.choose else none
theorem sWhile_eq {c : XT} {b : XS} {n : Nat} {g : G} {out : Out} (h : WhN c b n g out) : sWhile c b g = some out := by
  have hx : ∃ out n, WhN c b n g out := ⟨out, n, h⟩
  unfold sWhile
  rw [dif_pos hx]
  obtain ⟨m, hm⟩ := hx.choose_spec
  rw [hm.det h]
theorem sWhile_of {c : XT} {b : XS} {g : G} {out : Out} (h : sWhile c b g = some out) : ∃ n, WhN c b n g out := by
  unfold sWhile at h
  split at h
  · rename_i hx
    cases h
    exact hx.choose_spec
  · cases h
theorem ss_while {tc : TT} {tb : TS} {c : XT} {b : XS} (hc : ST B tc c) (hb : SS B tb b) : SS B (tWhile tc tb) (sWhile c b) := by
  intro F H σ g τ out r e D p
  obtain ⟨n, wn⟩ := sWhile_of e
  refine ⟨fun m σ' H' => ∃ F' g', Same F F' ∧ Rel B F' H' σ' g' τ ∧ WhN c b m g' out, ⟨n, F, g, Same.refl F, r, wn⟩, ?_⟩
  rintro m σ' H' ⟨F', g', s', r', w'⟩
  cases w' with
  | done h =>
    exact hc F' H' σ' g' τ _ _ r' h _ fun F1 H1 s1 r1 => p F1 H1 σ' (s'.trans s1) r1
  | brk h k =>
    refine hc F' H' σ' g' τ _ _ r' h _ fun F1 H1 s1 r1 => ?_
    exact ⟨fun _ _ => False, fun _ _ z => z.elim, hb F1 H1 σ' _ τ _ r1 k _ fun F2 H2 σ2 s2 r2 => p F2 H2 σ2 ((s'.trans s1).trans s2) r2⟩
  | ret h k =>
    refine hc F' H' σ' g' τ _ _ r' h _ fun F1 H1 s1 r1 => ?_
    exact ⟨fun _ _ => False, fun _ _ z => z.elim, hb F1 H1 σ' _ τ _ r1 k _ fun F2 H2 σ2 v s2 r2 => p F2 H2 σ2 v ((s'.trans s1).trans s2) r2⟩
  | @next n _ g1 g2 _ h k w =>
    refine hc F' H' σ' g' τ _ _ r' h _ fun F1 H1 s1 r1 => ?_
    exact ⟨fun σ2 H2 => ∃ F2, Same F F2 ∧ Rel B F2 H2 σ2 g2 τ, fun σ2 H2 ⟨F2, s2, r2⟩ => ⟨n, Nat.lt_succ_self n, F2, g2, s2, r2, w⟩, hb F1 H1 σ' _ τ _ r1 k _ fun F2 H2 σ2 s2 r2 => ⟨F2, (s'.trans s1).trans s2, r2⟩⟩
  | @cont n _ g1 g2 _ h k w =>
    refine hc F' H' σ' g' τ _ _ r' h _ fun F1 H1 s1 r1 => ?_
    exact ⟨fun σ2 H2 => ∃ F2, Same F F2 ∧ Rel B F2 H2 σ2 g2 τ, fun σ2 H2 ⟨F2, s2, r2⟩ => ⟨n, Nat.lt_succ_self n, F2, g2, s2, r2, w⟩, hb F1 H1 σ' _ τ _ r1 k _ fun F2 H2 σ2 s2 r2 => ⟨F2, (s'.trans s1).trans s2, r2⟩⟩
end
end Mi

set_option Elab.async false
set_option linter.all false
set_option maxRecDepth 100000
/-! Mi3: defs and calls. -/
namespace Mi
open PySem PySem.Spec PyProof.Rows L2

/-- a def's promise by its mirror: f takes the arguments' trees, gives the answer and what has become of the arguments -/
def spM (K : PySem.W.Frag) (n : Nat) (f : List O → Option (O × List O)) : Sp := fun vs H Q _ => vs.length = n ∧ ∃ F os r os' fp, Same F H ∧ OwL K F H vs os fp ∧ fp.Nodup ∧ (∀ b ∈ fp, F b = none) ∧ f os = some (r, os') ∧
  ∀ F' H' v fp', Same F F' → Same F' H' → (∀ b o, F' b = some o → F b = some o ∨ H b = none ∨ b ∈ fp) → (∀ b o, H b = some o → b ∉ fp → H' b = some o) →
    OwL K F' H' (v :: vs) (r :: os') fp' → fp'.Nodup → (∀ b ∈ fp', F' b = none ∧ (H b = none ∨ b ∈ fp)) → Q v H'

section
variable {B : Bs} {F F' H H' : Hp} {σ : L2.St} {g : G} {τ : En}
theorem Rel.back' {i : Nat} {v : V} {o : O} (r : Rel B F H σ g ((v, o) :: τ)) (hs : σ[i]? = some (some v)) : Rel B F H σ (g.set i (some o)) τ := by
  have r1 := r.wipe i
  have hi : i < g.length := by
    rw [r.len]
    exact (List.getElem?_eq_some_iff.mp hs).1
  have r2 := r1.back hs (List.getElem?_set_self hi)
  rw [List.set_set] at r2
  exact r2
theorem OwE.split {K : PySem.W.Frag} : ∀ {E E' : En} {fp : List Addr}, OwE K F H (E ++ E') fp → ∃ f1 f2, OwE K F H E f1 ∧ OwE K F H E' f2 ∧ fp = f1 ++ f2
  | [], E', fp, h => ⟨[], fp, OwE.nil, h, rfl⟩
  | e :: E, E', fp, h => by
    obtain ⟨f1, f2, h1, h2, rfl⟩ := OwE.inv h
    obtain ⟨f3, f4, h3, h4, rfl⟩ := OwE.split h2
    exact ⟨f1 ++ f3, f4, OwE.cons h1 h3, h4, by rw [List.append_assoc]⟩
theorem Ents.right : ∀ {E E' : En}, Ents B F H (E ++ E') → Ents B F H E'
  | [], _, h => h
  | _ :: E, _, h => Ents.right (E := E) h.drop
theorem owE_zip {K : PySem.W.Frag} {vs : List V} {os : List O} {fp : List Addr} (hl : vs.length = os.length) (h : OwE K F H (vs.zip os) fp) : OwL K F H vs os fp := by
  unfold OwE at h
  rw [List.map_fst_zip (Nat.le_of_eq hl), List.map_snd_zip (Nat.le_of_eq hl.symm)] at h
  exact h
theorem zip_owE {K : PySem.W.Frag} {vs : List V} {os : List O} {fp : List Addr} (h : OwL K F H vs os fp) : OwE K F H (vs.zip os) fp := by
  unfold OwE
  rw [List.map_fst_zip (Nat.le_of_eq h.length), List.map_snd_zip (Nat.le_of_eq h.length.symm)]
  exact h

def pull : List Opd → G → Option (List O × G)
  | [], g => some ([], g)
  | .d x :: r, g => (pull r g).map fun p => (.fr x :: p.1, p.2)
  | .br i :: r, g => match g[i]? with
    | some (some o) => (pull r (g.set i none)).map fun p => (o :: p.1, p.2)
    | _ => none
def push : List Opd → List O → G → G
  | .br i :: r, o :: os, g => (push r os g).set i (some o)
  | .d _ :: r, _ :: os, g => push r os g
  | _, _, g => g
theorem pull_ok : ∀ {as : List Opd} {g : G} {τ : En} {vs : List V} {os : List O} {g2 : G}, Rel B F H σ g τ → OpdsOk B F σ vs as → pull as g = some (os, g2) → Rel B F H σ g2 (vs.zip os ++ τ) ∧ vs.length = os.length ∧ os.length = as.length
  | [], g, τ, vs, os, g2, r, ok, e => by
    cases e
    obtain rfl : vs = [] := ok
    exact ⟨r, rfl, rfl⟩
  | .d x :: as, g, τ, vs, os, g2, r, ok, e => by
    obtain ⟨v, ws, rfl, h1, h2⟩ := ok
    obtain ⟨⟨ps, g3⟩, e1, e2⟩ := Option.map_eq_some_iff.mp e
    cases e2
    obtain ⟨k1, k2, k3⟩ := pull_ok r h2 e1
    exact ⟨k1.addFr h1, by rw [List.length_cons, List.length_cons, k2], by rw [List.length_cons, List.length_cons, k3]⟩
  | .br i :: as, g, τ, vs, os, g2, r, ok, e => by
    obtain ⟨v, ws, rfl, h1, h2⟩ := ok
    unfold pull at e
    split at e
    · rename_i o eo
      obtain ⟨⟨ps, g3⟩, e1, e2⟩ := Option.map_eq_some_iff.mp e
      cases e2
      obtain ⟨k1, k2, k3⟩ := pull_ok (r.take h1 eo) h2 e1
      exact ⟨k1.tperm List.perm_middle, by rw [List.length_cons, List.length_cons, k2], by rw [List.length_cons, List.length_cons, k3]⟩
    · cases e
theorem push_ok {F0 : Hp} : ∀ {as : List Opd} {g : G} {τ : En} {vs : List V} {os : List O}, OpdsOk B F0 σ vs as → os.length = as.length → Rel B F H σ g (vs.zip os ++ τ) → Rel B F H σ (push as os g) τ
  | [], g, τ, vs, os, ok, hl, r => by
    obtain rfl : vs = [] := ok
    obtain rfl : os = [] := List.length_eq_zero_iff.mp hl
    exact r
  | .d x :: as, g, τ, vs, os, ok, hl, r => by
    obtain ⟨v, ws, rfl, h1, h2⟩ := ok
    cases os with
    | nil => simp at hl
    | cons o os =>
      have r' : Rel B F H σ g (ws.zip os ++ τ) := r.drop
      exact push_ok (as := as) h2 (by simpa using hl) r'
  | .br i :: as, g, τ, vs, os, ok, hl, r => by
    obtain ⟨v, ws, rfl, h1, h2⟩ := ok
    cases os with
    | nil => simp at hl
    | cons o os => exact (push_ok (τ := (v, o) :: τ) h2 (by simpa using hl) (r.tperm List.perm_middle.symm)).back' h1

def xCall (f : List O → Option (O × List O)) (as : XA) : XE := fun g => (as g).bind fun p => (pull p.1 p.2).bind fun q => (f q.1).map fun z => (z.1, push p.1 z.2 q.2)
/-- behind a call: entries whose own things the callee had, and the rest -/
theorem Rel.called {vs : List V} {os os' : List O} {v : V} {r : O} {f1 f2 fp' : List Addr} (rl : Rel B F H σ g (vs.zip os ++ τ)) (h1 : OwE B.K F H (vs.zip os) f1) (h2 : OwE B.K F H (ents σ g ++ τ) f2) (nd : (f1 ++ f2).Nodup)
    (hn : ∀ b ∈ f1 ++ f2, F b = none ∧ (B.H0 b = none ∨ b ∈ B.M)) (sF : Same F F') (sH : Same F' H') (n : ∀ b o, F' b = some o → F b = some o ∨ H b = none ∨ b ∈ f1) (k : ∀ b o, H b = some o → b ∉ f1 → H' b = some o)
    (ow : OwL B.K F' H' (v :: vs) (r :: os') fp') (nd' : fp'.Nodup) (hn' : ∀ b ∈ fp', F' b = none ∧ (H b = none ∨ b ∈ f1)) : Rel B F' H' σ g (vs.zip os' ++ (v, r) :: τ) := by
  have h0 : ∀ b, H b = none → B.H0 b = none ∨ b ∈ B.M := fun b e => by
    cases q : B.H0 b with
    | none => exact .inl rfl
    | some x =>
      by_cases m : b ∈ B.M
      · exact .inr m
      · rw [rl.keep b x q m] at e
        cases e
  have there := OwL.there _ _ f2 h2
  have dis := (List.nodup_append.mp nd).2.2
  refine ⟨rl.len, rl.cov, sH, rl.f0.trans sF, fun b o e m => ?_, fun b o e => ?_, rl.pins, ?_⟩
  · refine k b o (rl.keep b o e m) fun hb => ?_
    rcases (hn b (List.mem_append_left _ hb)).2 with z | z
    · rw [z] at e
      cases e
    · exact m z
  · rcases n b o e with e | e | e
    · exact rl.new b o e
    · exact .inr (h0 b e)
    · exact .inr (hn b (List.mem_append_left _ e)).2
  · have hz : OwE B.K F' H' ((v, r) :: vs.zip os' ++ (ents σ g ++ τ)) (fp' ++ f2) := by
      refine OwE.append (zip_owE ow) (OwE.mono sF (fun b hb => ?_) h2)
      obtain ⟨x, hx⟩ := there b hb
      rw [hx]
      exact k b x hx fun z => dis b z b hb rfl
    have hE : Ents B F' H' ((v, r) :: vs.zip os' ++ (ents σ g ++ τ)) := by
      refine ⟨_, hz, List.nodup_append.mpr ⟨nd', (List.nodup_append.mp nd).2.1, fun a ha b hb e => ?_⟩, fun b hb => ?_⟩
      · subst e
        obtain ⟨x, hx⟩ := there a hb
        rcases (hn' a ha).2 with z | z
        · rw [z] at hx
          cases hx
        · exact dis a z a hb rfl
      · rcases List.mem_append.mp hb with hb | hb
        · refine ⟨(hn' b hb).1, ?_⟩
          rcases (hn' b hb).2 with z | z
          · exact h0 b z
          · exact (hn b (List.mem_append_left _ z)).2
        · obtain ⟨x, hx⟩ := there b hb
          have q := hn b (List.mem_append_right _ hb)
          refine ⟨?_, q.2⟩
          cases e : F' b with
          | none => rfl
          | some y =>
            rcases n b y e with e | e | e
            · rw [q.1] at e
              cases e
            · rw [hx] at e
              cases e
            · exact (dis b e b hb rfl).elim
    refine hE.perm ?_
    -- (v, r) :: Z ++ (G ++ T)  ~  G ++ (Z ++ (v, r) :: T)
    have p1 : ((v, r) :: vs.zip os' ++ (ents σ g ++ τ)).Perm (ents σ g ++ ((v, r) :: vs.zip os' ++ τ)) := by
      rw [← List.append_assoc, ← List.append_assoc]
      exact List.perm_append_comm.append_right τ
    exact p1.trans (List.perm_middle.symm.append_left _)
theorem se_call {n : Nat} {f : List O → Option (O × List O)} {E : XK} {ta : TA} {ma : XA} (ha : SA B ta ma) (hl : ∀ os r, f os = some r → os.length = n ∧ r.2.length = n) : SE B (tCall (spM B.K n f) [] E ta) (xCall f ma) := by
  intro F H σ g τ o g' rl e Q q
  obtain ⟨⟨as, g1⟩, e1, e2⟩ := Option.bind_eq_some_iff.mp e
  obtain ⟨⟨os, g2⟩, e3, e4⟩ := Option.bind_eq_some_iff.mp e2
  obtain ⟨⟨r, os'⟩, e5, e6⟩ := Option.map_eq_some_iff.mp e4
  obtain ⟨e7, e8⟩ := Prod.mk.inj e6
  subst e7 e8
  refine ha F H σ g τ as g1 rl e1 _ fun F1 H1 vs s1 r1 ok => ?_
  obtain ⟨r2, l1, l2⟩ := pull_ok r1 ok e3
  obtain ⟨hn, hn2⟩ := hl _ _ e5
  have hE := r2.ent.perm (show (ents σ g2 ++ (vs.zip os ++ τ)).Perm (vs.zip os ++ (ents σ g2 ++ τ)) by
    rw [← List.append_assoc, ← List.append_assoc]
    exact List.perm_append_comm.append_right τ)
  obtain ⟨fp, k1, k2, k3⟩ := hE
  obtain ⟨f1, f2, m1, m2, rfl⟩ := OwE.split k1
  show spM B.K n f (vs ++ []) H1 Q E
  rw [List.append_nil]
  refine ⟨by rw [l1]; exact hn, F1, os, r, os', f1, r1.sub, owE_zip l1 m1, (List.nodup_append.mp k2).1, fun b hb => (k3 b (List.mem_append_left _ hb)).1, e5, fun F' H' v fp' sF sH n' k' ow nd' hn' => ?_⟩
  have r3 := r2.called m1 m2 k2 k3 sF sH n' k' ow nd' hn'
  exact q F' H' v (s1.trans sF) (push_ok ok (by rw [hn2, ← hn]; exact l2) r3)

/-! ### a body's mirror -/
def outs (pin : List Nat) (g : G) : Nat → List O → Option (List O)
  | _, [] => some []
  | j, o :: os => if j ∈ pin then (match g[j]? with
      | some (some o') => (outs pin g (j + 1) os).map fun r => o' :: r
      | _ => none)
    else (match o with
      | .fr d => (outs pin g (j + 1) os).map fun r => .fr d :: r
      | _ => none)
def runF (N n : Nat) (pin : List Nat) (body : XS) : List O → Option (O × List O) := fun os => if os.length = n then
    (body (os.map some ++ List.replicate (N - n) none)).bind fun x => match x with
      | .rt r g => (outs pin g 0 os).map fun os' => (r, os')
      | .nx g => (outs pin g 0 os).map fun os' => (.fr .non, os')
      | _ => none
  else none
theorem outs_len {pin : List Nat} {g : G} : ∀ {os : List O} {j : Nat} {os' : List O}, outs pin g j os = some os' → os'.length = os.length
  | [], j, os', e => by cases e; rfl
  | o :: os, j, os', e => by
    unfold outs at e
    split at e
    · split at e
      · obtain ⟨r, e1, e2⟩ := Option.map_eq_some_iff.mp e
        cases e2
        rw [List.length_cons, List.length_cons, outs_len e1]
      · cases e
    · split at e
      · obtain ⟨r, e1, e2⟩ := Option.map_eq_some_iff.mp e
        cases e2
        rw [List.length_cons, List.length_cons, outs_len e1]
      · cases e
theorem runF_len {N n : Nat} {pin : List Nat} {body : XS} {os : List O} {r : O × List O} (e : runF N n pin body os = some r) : os.length = n ∧ r.2.length = n := by
  unfold runF at e
  split at e
  · rename_i hn
    refine ⟨hn, ?_⟩
    obtain ⟨x, e1, e2⟩ := Option.bind_eq_some_iff.mp e
    cases x with
    | rt o g =>
      obtain ⟨os', e3, e4⟩ := Option.map_eq_some_iff.mp e2
      cases e4
      rw [outs_len e3, hn]
    | nx g =>
      obtain ⟨os', e3, e4⟩ := Option.map_eq_some_iff.mp e2
      cases e4
      rw [outs_len e3, hn]
    | bk g => cases e2
    | ct g => cases e2
  · cases e
theorem outs_ok {pin : List Nat} {vsA : List V} : ∀ {os : List O} {j : Nat} {os' : List O} {vs : List V} {g g2 : G} {τ : En}, outs pin g j os = some os' → vs.length = os.length → (∀ i, vsA[j + i]? = vs[i]?) →
    (∀ i ∈ pin, σ[i]? = (vsA[i]?).map some) → (∀ i, j ≤ i → g2[i]? = g[i]?) → (∀ (i : Nat) d, os[i]? = some (.fr d) → ∃ v, vs[i]? = some v ∧ Rp B.K F v d) → Rel B F H σ g2 τ → ∃ g3, Rel B F H σ g3 (vs.zip os' ++ τ)
  | [], j, os', vs, g, g2, τ, e, hl, hv, hp, hg, hf, r => by
    cases e
    obtain rfl : vs = [] := List.length_eq_zero_iff.mp hl
    exact ⟨g2, r⟩
  | o :: os, j, os', vs, g, g2, τ, e, hl, hv, hp, hg, hf, r => by
    cases vs with
    | nil => simp at hl
    | cons v vs =>
      have hl' : vs.length = os.length := by simpa using hl
      have hv' : ∀ i, vsA[j + 1 + i]? = vs[i]? := fun i => by
        have := hv (i + 1)
        rw [show j + (i + 1) = j + 1 + i by omega] at this
        simpa using this
      have hf' : ∀ (i : Nat) d, os[i]? = some (.fr d) → ∃ w, vs[i]? = some w ∧ Rp B.K F w d := fun i d hd => by
        obtain ⟨w, h1, h2⟩ := hf (i + 1) d (by simpa using hd)
        exact ⟨w, by simpa using h1, h2⟩
      unfold outs at e
      split at e
      · rename_i hj
        split at e
        · rename_i o' eo
          obtain ⟨r', e1, e2⟩ := Option.map_eq_some_iff.mp e
          cases e2
          have hs : σ[j]? = some (some v) := by
            have h0 := hv 0
            rw [hp j hj]
            rw [Nat.add_zero] at h0
            rw [h0]
            rfl
          have r1 := r.take hs (by rw [hg j (Nat.le_refl j)]; exact eo)
          obtain ⟨g3, r3⟩ := outs_ok (g2 := g2.set j none) e1 hl' hv' hp (fun i hi => by
            rw [List.getElem?_set_ne (by omega)]
            exact hg i (by omega)) hf' r1
          exact ⟨g3, r3.tperm List.perm_middle⟩
        · cases e
      · split at e
        · rename_i d
          obtain ⟨r', e1, e2⟩ := Option.map_eq_some_iff.mp e
          cases e2
          obtain ⟨g3, r3⟩ := outs_ok (g2 := g2) e1 hl' hv' hp (fun i hi => hg i (by omega)) hf' r
          obtain ⟨w, h1, h2⟩ := hf 0 d rfl
          obtain rfl : v = w := by simpa using h1
          exact ⟨g3, r3.addFr h2⟩
        · cases e
theorem ents_nil (k : Nat) : ents (List.replicate k none) (List.replicate k none) = [] := by
  induction k with
  | zero => rfl
  | succ k ih =>
    rw [List.replicate_succ, List.replicate_succ]
    exact ih
theorem ents_start : ∀ {vs : List V} {os : List O} (k : Nat), vs.length = os.length → ents (vs.map some ++ List.replicate k none) (os.map some ++ List.replicate k none) = vs.zip os
  | [], [], k, _ => ents_nil k
  | [], _ :: _, k, h => by simp at h
  | _ :: _, [], k, h => by simp at h
  | v :: vs, o :: os, k, h => by
    show (v, o) :: ents (vs.map some ++ List.replicate k none) (os.map some ++ List.replicate k none) = (v, o) :: vs.zip os
    rw [ents_start k (by simpa using h)]
theorem OwL.get {K : PySem.W.Frag} : ∀ {os : List O} {vs : List V} {fp : List Addr} {i : Nat} {d : D}, OwL K F H vs os fp → os[i]? = some (.fr d) → ∃ v, vs[i]? = some v ∧ Rp K F v d
  | [], _, _, i, d, h, e => by simp at e
  | o :: os, _, _, 0, d, h, e => by
    obtain ⟨v, r, f1, f2, rfl, h1, _, _⟩ := h
    simp at e
    subst e
    exact ⟨v, rfl, h1.1⟩
  | o :: os, _, _, i + 1, d, h, e => by
    obtain ⟨v, r, f1, f2, rfl, _, h2, _⟩ := h
    obtain ⟨w, h3, h4⟩ := OwL.get h2 (by simpa using e)
    exact ⟨w, by simpa using h3, h4⟩
theorem run_ok {K : PySem.W.Frag} {N : List Str} {n : Nat} {pin : List Nat} {body : XS} {t : TS} (h : ∀ B : Bs, B.K = K → B.pin = pin → SS B t body) {vs : List V} {H : Hp} {Q : VK} {E : XK} (hp : ∀ j ∈ pin, j < n) (hsp : spM K n (runF N.length n pin body) vs H Q E) :
    t { nx := fun _ H' => Q .non H', rt := Q } (L2.start N vs) H := by
  obtain ⟨hn, F, os, r, os', fp, sF, ow, nd, hF, e, q⟩ := hsp
  have hB := h ⟨K, F, H, fp, pin, vs⟩ rfl rfl
  unfold runF at e
  split at e
  · rename_i hos
    obtain ⟨x, e1, e2⟩ := Option.bind_eq_some_iff.mp e
    have hl : vs.length = os.length := ow.length
    have r0 : Rel ⟨K, F, H, fp, pin, vs⟩ F H (L2.start N vs) (os.map some ++ List.replicate (N.length - n) none) [] := by
      refine ⟨?_, fun i o ho => ?_, sF, Same.refl F, fun b o e _ => e, fun b o e => .inl e, fun j hj => ?_, ?_⟩
      · unfold L2.start
        rw [List.length_append, List.length_append, List.length_map, List.length_map, List.length_replicate, List.length_replicate, hn, hos]
      · have hi : i < os.length := by
          by_cases z : i < os.length
          · exact z
          · rw [List.getElem?_append_right (by rw [List.length_map]; omega), List.length_map, List.getElem?_replicate] at ho
            split at ho <;> cases ho
        unfold L2.start
        have hv : i < vs.length := by omega
        exact ⟨vs[i], by rw [List.getElem?_append_left (by rw [List.length_map]; exact hv), List.getElem?_map, List.getElem?_eq_getElem hv]; rfl⟩
      · unfold L2.start
        have hv : j < vs.length := by rw [hn]; exact hp j hj
        rw [List.getElem?_append_left (by rw [List.length_map]; exact hv), List.getElem?_map]
      · rw [List.append_nil]
        unfold L2.start
        rw [hn, ents_start _ hl]
        exact ⟨fp, zip_owE ow, nd, fun b hb => ⟨hF b hb, .inr hb⟩⟩
    have fin : ∀ (F' H' : Hp) (σ' : L2.St) (g' : G) (v : V) (rr : O), Same F F' → Rel ⟨K, F, H, fp, pin, vs⟩ F' H' σ' g' [(v, rr)] → (outs pin g' 0 os).map (fun os' => (rr, os')) = some (r, os') → Q v H' := by
      intro F' H' σ' g' v rr s' r' eo
      obtain ⟨os2, e3, e4⟩ := Option.map_eq_some_iff.mp eo
      cases e4
      obtain ⟨g3, r3⟩ := outs_ok (B := ⟨K, F, H, fp, pin, vs⟩) (vsA := vs) (g2 := g') e3 hl (fun i => by rw [Nat.zero_add]) r'.pins (fun i _ => rfl) (fun i d hd => by
        obtain ⟨w, h1, h2⟩ := ow.get hd
        exact ⟨w, h1, Rp.mono s' _ _ h2⟩) r'
      have hE : Ents ⟨K, F, H, fp, pin, vs⟩ F' H' ((v, r) :: vs.zip os') := r3.ent.right.perm ((List.perm_append_comm (l₁ := vs.zip os')).trans (.refl _))
      obtain ⟨fp', k1, k2, k3⟩ := hE
      have k4 : OwL K F' H' (v :: vs) (r :: os') fp' := owE_zip (by rw [List.length_cons, List.length_cons, hl, outs_len e3]) (show OwE K F' H' ((v :: vs).zip (r :: os')) fp' from k1)
      refine q F' H' v fp' s' r'.sub (fun b o eb => ?_) (fun b o eb hb => r'.keep b o eb hb) k4 k2 k3
      rcases r'.new b o eb with z | z | z
      · exact .inl z
      · exact .inr (.inl z)
      · exact .inr (.inr z)
    refine hB F H _ _ [] x r0 e1 _ ?_
    cases x with
    | rt o g' => exact fun F' H' σ' v s' r' => fin F' H' σ' g' v o s' r' e2
    | nx g' => exact fun F' H' σ' s' r' => fin F' H' σ' g' .non (.fr .non) s' (r'.addFr rfl) e2
    | bk g' => cases e2
    | ct g' => cases e2
  · cases e
end

section
variable {P : Program} {w : World} {K : PySem.W.Frag} {mg : Str → Option Value} {base : Heap}
/-- a def keeps the promise of its mirror -/
theorem ok_fn {x qual : Str} {st : Stmt} {f : Addr} {fd : FuncData} {N ps : List Str} {k : Nat} {pin : List Nat} {body : XS} (F : Fun K x qual st f fd) (S : FnScope N ps (defScope st)) (hp : ∀ j ∈ pin, j < ps.length)
    (h : ∀ (cdv : Value) (A : Around) (outer : List Env) (s : Shared) (H : Hp) (E : XK), Room k (A.deeper (envOfC qual (defScope st) s.heap.objs.size f cdv)) →
      ∃ t, PSs (cxOf CX0 P w K mg base N qual (defScope st) f cdv A outer s H E).nox (defBody st) t ∧ ∀ B : Bs, B.K = K → B.pin = pin → SS B t body) :
    FnOk P w K mg base CX0 (k + 1) f fd ps (spM K ps.length (runF N.length ps.length pin body)) := by
  refine F.ok S (fun vs H Q E h => h.1) fun cdv A outer s H vs Q E hr hsp => ?_
  obtain ⟨t, ht, hs⟩ := h cdv A outer s H E hr
  exact ⟨t, ht, run_ok hs hp hsp⟩
/-- another mirror that gives no less -/
theorem FnOk.mirror {f : Addr} {fd : FuncData} {ps : List Str} {k n : Nat} {m m' : List O → Option (O × List O)} (F : FnOk P w K mg base CX0 k f fd ps (spM K n m)) (h : ∀ os r, m' os = some r → m os = some r) : FnOk P w K mg base CX0 k f fd ps (spM K n m') :=
  F.imp fun vs H Q E ⟨hn, Fz, os, r, os', fp, a, b, c, d, e, q⟩ => ⟨hn, Fz, os, r, os', fp, a, b, c, d, h _ _ e, q⟩
end
end Mi

set_option Elab.async false
set_option linter.all false
set_option maxRecDepth 100000
/-! Mi4: comprehensions, stores into owned things. -/
namespace Mi
open PySem PySem.Spec PyProof.Rows L2

section
variable {B : Bs} {F F' H H' : Hp} {σ : L2.St} {g : G} {τ : En}

/-! ### one owned object changes -/
theorem Rel.open {E1 : En} (r : Rel B F H σ g (E1 ++ τ)) : ∃ f1, OwE B.K F H E1 f1 ∧ f1.Nodup ∧ ∀ (a : Addr) (u : HO) (E2 : En) (f2 : List Addr), a ∈ f1 → OwE B.K F (upd H a u) E2 f2 → f2.Nodup → (∀ b ∈ f2, b ∈ f1) → Rel B F (upd H a u) σ g (E2 ++ τ) := by
  have hE := r.ent.perm (show (ents σ g ++ (E1 ++ τ)).Perm (E1 ++ (ents σ g ++ τ)) by
    rw [← List.append_assoc, ← List.append_assoc]
    exact List.perm_append_comm.append_right τ)
  obtain ⟨fp, k1, k2, k3⟩ := hE
  obtain ⟨f1, f3, m1, m2, rfl⟩ := OwE.split k1
  have dis := (List.nodup_append.mp k2).2.2
  refine ⟨f1, m1, (List.nodup_append.mp k2).1, fun a u E2 f2 ha ow nd sub => ?_⟩
  have ka := k3 a (List.mem_append_left _ ha)
  refine ⟨r.len, r.cov, fun b x e => ?_, r.f0, fun b x e m => ?_, r.new, r.pins, ?_⟩
  · rw [upd_ne (ne_of_none e ka.1)]
    exact r.sub b x e
  · have hb : b ≠ a := fun z => by
      subst z
      rcases ka.2 with q | q
      · rw [q] at e
        cases e
      · exact m q
    rw [upd_ne hb]
    exact r.keep b x e m
  · have hE2 : Ents B F (upd H a u) (E2 ++ (ents σ g ++ τ)) := by
      refine ⟨f2 ++ f3, OwE.append ow (OwE.mono (Same.refl F) (fun b hb => upd_ne fun z => dis a ha b hb z.symm) m2), List.nodup_append.mpr ⟨nd, (List.nodup_append.mp k2).2.1, fun x hx y hy => dis x (sub x hx) y hy⟩, fun b hb => ?_⟩
      rcases List.mem_append.mp hb with hb | hb
      · exact k3 b (List.mem_append_left _ (sub b hb))
      · exact k3 b (List.mem_append_right _ hb)
    refine hE2.perm ?_
    rw [← List.append_assoc, ← List.append_assoc]
    exact List.perm_append_comm.append_right τ
theorem OwE.one {K : PySem.W.Frag} {v : V} {o : O} {fp : List Addr} (h : OwE K F H [(v, o)] fp) : Ow K F H v o fp := by
  obtain ⟨f1, f2, h1, h2, rfl⟩ := OwE.inv h
  obtain rfl : f2 = [] := h2.2
  rw [List.append_nil]
  exact h1
theorem one_OwE {K : PySem.W.Frag} {v : V} {o : O} {fp : List Addr} (h : Ow K F H v o fp) : OwE K F H [(v, o)] fp := by
  have := OwE.cons (e := (v, o)) h OwE.nil
  rw [List.append_nil] at this
  exact this
theorem Rel.append {v y : V} {o : O} {os : List O} (r : Rel B F H σ g ((y, o) :: (v, .lst os) :: τ)) : ∃ a acc, v = .ref a ∧ H a = some (.lst acc) ∧ acc.length = os.length ∧ Rel B F (upd H a (.lst (acc ++ [y]))) σ g ((v, .lst (os ++ [o])) :: τ) := by
  obtain ⟨f1, k1, k2, k3⟩ := Rel.open (E1 := [(y, o), (v, .lst os)]) (τ := τ) r
  obtain ⟨fo, fl, m1, m2, rfl⟩ := OwE.inv k1
  obtain ⟨a, acc, f, rfl, e2, e3, rfl⟩ := OwE.one m2
  refine ⟨a, acc, rfl, e2, e3.length, k3 a _ [(.ref a, .lst (os ++ [o]))] (a :: (f ++ fo)) (by simp) (one_OwE ⟨a, acc ++ [y], f ++ fo, rfl, upd_same, ?_, rfl⟩) ?_ ?_⟩
  · have hn : ∀ b ∈ f ++ fo, upd H a (.lst (acc ++ [y])) b = H b := fun b hb => upd_ne fun z => by
      subst z
      have nd := List.nodup_append.mp k2
      rcases List.mem_append.mp hb with hb | hb
      · exact (List.nodup_cons.mp nd.2.1).1 hb
      · exact nd.2.2 b hb b List.mem_cons_self rfl
    have hf : OwL B.K F (upd H a (.lst (acc ++ [y]))) acc os f := OwL.mono (Same.refl F) _ _ _ (fun b hb => hn b (List.mem_append_left _ hb)) e3
    have ho : Ow B.K F (upd H a (.lst (acc ++ [y]))) y o fo := Ow.mono (Same.refl F) _ _ _ (fun b hb => hn b (List.mem_append_right _ hb)) m1
    have hz := OwL.append hf (OwL.cons ho OwL.nil)
    rw [List.append_nil] at hz
    exact hz
  · have p : (fo ++ a :: f).Perm (a :: (f ++ fo)) := List.perm_append_comm
    exact p.nodup k2
  · intro b hb
    rcases List.mem_cons.mp hb with rfl | hb
    · simp
    · rcases List.mem_append.mp hb with hb | hb
      · simp [hb]
      · simp [hb]

/-! ### slots that a comprehension has for itself -/
def wipeG (g : G) : List Nat → G
  | [] => g
  | v :: vs => (wipeG g vs).set v none
theorem wipeG_len (g : G) : ∀ vs, (wipeG g vs).length = g.length
  | [] => rfl
  | v :: vs => by
    show ((wipeG g vs).set v none).length = _
    rw [List.length_set, wipeG_len g vs]
theorem wipe_len (σ : L2.St) : ∀ vs, (L2.wipe σ vs).length = σ.length
  | [] => rfl
  | v :: vs => by
    show ((L2.wipe σ vs).set v none).length = _
    rw [List.length_set, wipe_len σ vs]
theorem wipe_out (σ : L2.St) {j : Nat} : ∀ {vs : List Nat}, j ∉ vs → (L2.wipe σ vs)[j]? = σ[j]?
  | [], _ => rfl
  | v :: vs, h => by
    show ((L2.wipe σ vs).set v none)[j]? = _
    rw [List.getElem?_set_ne (fun z => h (by simp [z])), wipe_out σ (fun z => h (by simp [z]))]
theorem wipe_in (σ : L2.St) {j : Nat} : ∀ {vs : List Nat}, j ∈ vs → j < σ.length → (L2.wipe σ vs)[j]? = some none
  | [], h, _ => by cases h
  | v :: vs, h, hl => by
    show ((L2.wipe σ vs).set v none)[j]? = _
    by_cases e : v = j
    · subst e
      rw [List.getElem?_set_self (by rw [wipe_len]; exact hl)]
    · rw [List.getElem?_set_ne e]
      rcases List.mem_cons.mp h with z | z
      · exact (e z.symm).elim
      · exact wipe_in σ z hl
theorem wipeG_out (g : G) {j : Nat} : ∀ {vs : List Nat}, j ∉ vs → (wipeG g vs)[j]? = g[j]?
  | [], _ => rfl
  | v :: vs, h => by
    show ((wipeG g vs).set v none)[j]? = _
    rw [List.getElem?_set_ne (fun z => h (by simp [z])), wipeG_out g (fun z => h (by simp [z]))]
theorem wipeG_in (g : G) {j : Nat} : ∀ {vs : List Nat}, j ∈ vs → ∀ o, (wipeG g vs)[j]? ≠ some (some o)
  | [], h, _ => by cases h
  | v :: vs, h, o => by
    show ((wipeG g vs).set v none)[j]? ≠ _
    by_cases e : v = j
    · subst e
      by_cases hl : v < (wipeG g vs).length
      · rw [List.getElem?_set_self hl]
        intro z
        cases z
      · rw [List.getElem?_eq_none_iff.mpr (by rw [List.length_set]; omega)]
        intro z
        cases z
    · rw [List.getElem?_set_ne e]
      rcases List.mem_cons.mp h with z | z
      · exact (e z.symm).elim
      · exact wipeG_in g z o
theorem wipe_ext {σ σ' : L2.St} {vs : List Nat} (hl : σ'.length = σ.length) (h : ∀ j, j ∉ vs → σ'[j]? = σ[j]?) : L2.wipe σ' vs = L2.wipe σ vs := by
  apply List.ext_getElem?
  intro j
  by_cases hj : j ∈ vs
  · by_cases hb : j < σ.length
    · rw [wipe_in σ hj hb, wipe_in σ' hj (by omega)]
    · rw [List.getElem?_eq_none_iff.mpr (by rw [wipe_len]; omega), List.getElem?_eq_none_iff.mpr (by rw [wipe_len]; omega)]
  · rw [wipe_out σ hj, wipe_out σ' hj, h j hj]
theorem wipe_wipe (σ : L2.St) (vs : List Nat) : L2.wipe (L2.wipe σ vs) vs = L2.wipe σ vs := wipe_ext (wipe_len σ vs) fun j hj => wipe_out σ hj
/-- where no slot of g is set, the values don't matter -/
theorem ents_ext : ∀ {σ σ' : L2.St} {g : G}, σ'.length = σ.length → (∀ (j : Nat) o, g[j]? = some (some o) → σ'[j]? = σ[j]?) → ents σ' g = ents σ g
  | [], [], g, _, _ => rfl
  | [], _ :: _, g, h, _ => by simp at h
  | _ :: _, [], g, h, _ => by simp at h
  | x :: σ, y :: σ', [], h, k => by cases x <;> cases y <;> rfl
  | x :: σ, y :: σ', z :: g, h, k => by
    have ih := ents_ext (σ := σ) (σ' := σ') (g := g) (by simpa using h) fun j o e => by
      have := k (j + 1) o (by simpa using e)
      simpa using this
    cases z with
    | none => cases x <;> cases y <;> exact ih
    | some o =>
      have e := k 0 o rfl
      simp at e
      subst e
      cases y with
      | none => exact ih
      | some v => show (v, o) :: ents σ' g = (v, o) :: ents σ g; rw [ih]
theorem Rel.vals {σ' : L2.St} (r : Rel B F H σ g τ) (hl : σ'.length = σ.length) (h : ∀ (j : Nat) o, g[j]? = some (some o) → σ'[j]? = σ[j]?) (hp : ∀ j ∈ B.pin, σ'[j]? = σ[j]?) : Rel B F H σ' g τ :=
  ⟨by rw [hl]; exact r.len, fun i o e => by
    rw [h i o e]
    exact r.cov i o e, r.sub, r.f0, r.keep, r.new, fun j hj => by rw [hp j hj]; exact r.pins j hj, by rw [ents_ext hl h]; exact r.ent⟩
theorem Rel.wipeGs (r : Rel B F H σ g τ) : ∀ vs, Rel B F H σ (wipeG g vs) τ
  | [] => r
  | v :: vs => (r.wipeGs vs).wipe v
theorem Rel.wipes (r : Rel B F H σ g τ) {vs : List Nat} (hp : ∀ j ∈ B.pin, j ∉ vs) : Rel B F H (L2.wipe σ vs) (wipeG g vs) τ :=
  (r.wipeGs vs).vals (wipe_len σ vs) (fun j o e => by
    by_cases hj : j ∈ vs
    · exact (wipeG_in g hj o e).elim
    · exact wipe_out σ hj) fun j hj => wipe_out σ (hp j hj)
def restG (g0 g : G) : List Nat → G
  | [] => g
  | i :: vs => match g0[i]? with
    | some (some (.fr d)) => (restG g0 g vs).set i (some (.fr d))
    | _ => restG g0 g vs
theorem Rel.rest {g0 : G} (h : ∀ (i : Nat) d, g0[i]? = some (some (.fr d)) → ∃ v, σ[i]? = some (some v) ∧ Rp B.K F v d) : ∀ {vs : List Nat} {g : G}, Rel B F H σ g τ → Rel B F H σ (restG g0 g vs) τ
  | [], g, r => r
  | i :: vs, g, r => by
    unfold restG
    split
    · rename_i d ed
      obtain ⟨v, hv, rp⟩ := h i d ed
      exact ((Rel.rest h r).addFr rp).back' hv
    · exact Rel.rest h r

/-! ### comprehensions -/
/-- a target that stores in the slots of vs alone -/
def SGw (B : Bs) (vs : List Nat) (t : TG) (m : XG) : Prop := ∀ F H σ g τ v o g', Rel B F H σ g ((v, o) :: τ) → m o g = some g' → ∀ Q : L2.St → Hp → Prop,
  (∀ F' H' σ', Same F F' → Rel B F' H' σ' g' τ → σ'.length = σ.length → (∀ j, j ∉ vs → σ'[j]? = σ[j]?) → Q σ' H') → t v σ H Q
def SGsw (B : Bs) (ws : List Nat) (t : TGs) (m : List D → G → Option G) : Prop := ∀ F H σ g τ vs ds g', Rel B F H σ g τ → RpL B.K F vs ds → m ds g = some g' → ∀ Q : L2.St → Hp → Prop,
  (∀ F' H' σ', Same F F' → Rel B F' H' σ' g' τ → σ'.length = σ.length → (∀ j, j ∉ ws → σ'[j]? = σ[j]?) → Q σ' H') → t vs σ H Q
theorem sgw_name {vs : List Nat} {i : Nat} (hp : i ∉ B.pin) (hi : i ∈ vs) : SGw B vs (gName i) (gN i) := by
  intro F H σ g τ v o g' r e Q q
  unfold gN at e
  split at e
  · rename_i hl
    cases e
    exact q F H _ (Same.refl F) (r.put (by rw [← r.len]; exact hl) hp) (List.length_set) fun j hj => List.getElem?_set_ne fun z => hj (by rw [← z]; exact hi)
  · cases e
theorem sgsw_nil {ws : List Nat} : SGsw B ws gNil gsNil := by
  intro F H σ g τ vs ds g' r rp e Q q
  cases ds with
  | nil =>
    cases e
    exact ⟨rp, q F H σ (Same.refl F) r rfl fun _ _ => rfl⟩
  | cons d ds => cases e
theorem sgsw_cons {ws : List Nat} {t : TG} {u : TGs} {a : XG} {b : List D → G → Option G} (ha : SGw B ws t a) (hb : SGsw B ws u b) : SGsw B ws (gCons t u) (gsCons a b) := by
  intro F H σ g τ vs ds g' r rp e Q q
  cases ds with
  | nil => cases e
  | cons d ds =>
    obtain ⟨g1, e1, e2⟩ := Option.bind_eq_some_iff.mp e
    obtain ⟨v, xs, rfl, h1, h2⟩ := rp
    refine ⟨v, xs, rfl, ?_⟩
    exact ha F H σ g τ v (.fr d) g1 (r.addFr h1) e1 _ fun F1 H1 σ1 s1 r1 l1 w1 => hb F1 H1 σ1 g1 τ xs ds g' r1 (RpL.mono s1 _ _ h2) e2 Q fun F2 H2 σ2 s2 r2 l2 w2 => q F2 H2 σ2 (s1.trans s2) r2 (l2.trans l1) fun j hj => (w2 j hj).trans (w1 j hj)
theorem sgw_tup {ws : List Nat} {n : Nat} {u : TGs} {b : List D → G → Option G} (hb : SGsw B ws u b) : SGw B ws (gTup B.K n u) (gTp n b) := by
  intro F H σ g τ v o g' r e Q q
  unfold gTp at e
  split at e
  · rename_i ds
    split at e
    · rename_i hn
      obtain ⟨a, vs, rfl, h1, h2⟩ := r.frd
      refine ⟨a, vs, rfl, Same.sqT r.sub h1, by rw [h2.length]; exact hn, ?_⟩
      exact hb F H σ g τ vs ds g' r.drop h2 e Q q
    · cases e
  · cases e
def lcL (tg : XG) (tt : XT) (te : XE) (vs : List Nat) : List D → G → List O → Option (List O × G)
  | [], g, acc => some (acc, g)
  | d :: ds, g, acc => (tg (.fr d) (wipeG g vs)).bind fun g1 => (tt g1).bind fun p => if p.1 = true then
      (te p.2).bind fun q => if acc.length < sizeLine then lcL tg tt te vs ds q.2 (acc ++ [q.1]) else none
    else lcL tg tt te vs ds p.2 acc
def eLc (it : XI) (tg : XG) (tt : XT) (te : XE) (vs : List Nat) : XE := fun g => (it g).bind fun p => (lcL tg tt te vs p.1 p.2 []).map fun q => (.lst q.1, restG p.2 (wipeG q.2 vs) vs)
theorem Rel.frds (r : Rel B F H σ g τ) : ∀ (i : Nat) d, g[i]? = some (some (.fr d)) → ∃ v, σ[i]? = some (some v) ∧ Rp B.K F v d := fun i d e => by
  obtain ⟨v, hv, r2⟩ := r.slot e
  exact ⟨v, hv, r2.frd⟩
theorem se_lc {wi : TI} {tg : TG} {tt : TT} {te : TE} {vs : List Nat} {it : XI} {mg : XG} {mt : XT} {me : XE} (hp : ∀ j ∈ B.pin, j ∉ vs) (hi : SI B wi it) (hg : SGw B vs tg mg) (ht : ST B tt mt) (he : SE B te me) : SE B (tLc wi tg tt te vs) (eLc it mg mt me vs) := by
  intro F H σ g τ o g' r e Q q
  obtain ⟨⟨ds, g1⟩, e1, e2⟩ := Option.bind_eq_some_iff.mp e
  obtain ⟨⟨os, g2⟩, e3, e4⟩ := Option.map_eq_some_iff.mp e2
  cases e4
  dsimp only at e3
  refine hi F H σ g τ ds g1 r e1 _ fun F1 H1 J s1 r1 w1 => ?_
  intro Dl hD
  have r0 : Rel B F1 (upd H1 Dl (.lst [])) σ g1 ((.ref Dl, .lst []) :: τ) := by
    have gr := Grow.own r1.sub hD (.lst [])
    refine r1.made (fp := [Dl]) gr ⟨Dl, [], [], rfl, upd_same, OwL.nil, rfl⟩ (List.nodup_cons.mpr ⟨List.not_mem_nil, List.nodup_nil⟩) fun b hb => ?_
    rcases List.mem_singleton.mp hb with rfl
    exact ⟨hD, r1.sub.free hD⟩
  refine ⟨fun i m H' => m = ds.length - i ∧ i ≤ ds.length ∧ ∃ F' σ' g' acc, Same F1 F' ∧ L2.wipe σ' vs = L2.wipe σ vs ∧ Rel B F' H' σ' g' ((.ref Dl, .lst acc) :: τ) ∧ lcL mg mt me vs (ds.drop i) g' acc = some (os, g2),
    ⟨ds.length, by simp, Nat.zero_le _, F1, σ, g1, [], Same.refl F1, rfl, r0, e3⟩, ?_⟩
  rintro i m H' ⟨rfl, hil, F', σ', g', acc, s', hw, r', e'⟩
  have w' := w1.mono s'
  have rw' : Rel B F' H' (L2.wipe σ vs) (wipeG g' vs) ((.ref Dl, .lst acc) :: τ) := by
    rw [← hw]
    exact r'.wipes hp
  by_cases hlt : i < ds.length
  · right
    obtain ⟨go, yld⟩ := w'.1 i F' H' (Same.refl F') r'.sub hlt
    have ed : ds.drop i = ds[i] :: ds.drop (i + 1) := List.drop_eq_getElem_cons hlt
    rw [ed] at e'
    obtain ⟨g3, e5, e6⟩ := Option.bind_eq_some_iff.mp e'
    obtain ⟨⟨k, g4⟩, e7, e8⟩ := Option.bind_eq_some_iff.mp e6
    refine ⟨go, fun H2 => ∃ F2 σ2 g5 acc2, Same F1 F2 ∧ L2.wipe σ2 vs = L2.wipe σ vs ∧ Rel B F2 H2 σ2 g5 ((.ref Dl, .lst acc2) :: τ) ∧ lcL mg mt me vs (ds.drop (i + 1)) g5 acc2 = some (os, g2), fun H2 z => ⟨ds.length - (i + 1), by omega, rfl, by omega, z⟩, fun y H3 hy => ?_⟩
    obtain ⟨F3, gr, d, hd, rd⟩ := yld y H3 hy
    rw [List.getElem?_eq_getElem hlt] at hd
    cases hd
    have r3 := (rw'.grow gr).addFr rd
    refine hg F3 H3 (L2.wipe σ vs) (wipeG g' vs) _ y (.fr ds[i]) g3 r3 e5 _ fun F4 H4 σ4 s4 r4 l4 o4 => ?_
    have hw4 : L2.wipe σ4 vs = L2.wipe σ vs := by
      rw [← wipe_wipe σ vs]
      exact wipe_ext l4 o4
    refine ⟨hw4, ?_⟩
    refine ht F4 H4 σ4 g3 _ k g4 r4 e7 _ fun F5 H5 s5 r5 => ?_
    have s15 : Same F1 F5 := ((s'.trans gr.f).trans s4).trans s5
    cases k with
    | false =>
      exact ⟨F5, σ4, g4, acc, s15, hw4, r5, e8⟩
    | true =>
      obtain ⟨⟨o, g6⟩, e9, e10⟩ := Option.bind_eq_some_iff.mp e8
      split at e10
      · rename_i hlen
        refine he F5 H5 σ4 g4 _ o g6 r5 e9 _ fun F6 H6 x s6 r6 => ?_
        obtain ⟨a, ac, ea, h1, h2, r7⟩ := r6.append
        cases ea
        exact ⟨ac, h1, by rw [h2]; exact hlen, F6, σ4, g6, acc ++ [o], s15.trans s6, hw4, r7, e10⟩
      · cases e10
  · left
    have ei : i = ds.length := by omega
    subst ei
    refine ⟨w'.2 F' H' (Same.refl F') r'.sub, ?_⟩
    rw [List.drop_length] at e'
    cases e'
    have r8 : Rel B F' H' σ (wipeG g2 vs) ((.ref Dl, .lst os) :: τ) := by
      exact rw'.vals (wipe_len σ vs).symm (fun j o ej => by
        by_cases hj : j ∈ vs
        · exact (wipeG_in g2 hj o ej).elim
        · exact (wipe_out σ hj).symm) fun j hj => (wipe_out σ (hp j hj)).symm
    exact q F' H' (.ref Dl) (s1.trans s') (Rel.rest (fun i d ed => by
      obtain ⟨v, hv, rp⟩ := r1.frds i d ed
      exact ⟨v, hv, Rp.mono s' _ _ rp⟩) r8)

/-! ### methods of owned lists -/
def xApp (i : Nat) (m : XE) : XE := fun g => match g[i]? with
  | some (some (.lst _)) => (m g).bind fun p => match p.2[i]? with
    | some (some (.lst os)) => if os.length < sizeLine then some (.fr .non, p.2.set i (some (.lst (os ++ [p.1])))) else none
    | _ => none
  | _ => none
theorem Rel.lstAt {i : Nat} {os : List O} (r : Rel B F H σ g τ) (hg : g[i]? = some (some (.lst os))) : ∃ a acc, σ[i]? = some (some (.ref a)) ∧ H a = some (.lst acc) ∧ acc.length = os.length ∧ Rel B F H σ (g.set i none) ((.ref a, .lst os) :: τ) := by
  obtain ⟨v, hv, r2⟩ := r.slot hg
  obtain ⟨f1, k1, _, _⟩ := Rel.open (E1 := [(v, .lst os)]) (τ := τ) r2
  obtain ⟨a, acc, f, rfl, e2, e3, _⟩ := OwE.one k1
  exact ⟨a, acc, hv, e2, e3.length, r2⟩
theorem se_app {i : Nat} {te : TE} {me : XE} (he : SE B te me) : SE B (tBM B.K "list" rAppend (tVar i) (tCons te tNil)) (xApp i me) := by
  intro F H σ g τ o g' r e Q q
  unfold xApp at e
  split at e
  · rename_i os0 eg
    obtain ⟨⟨x, g1⟩, e1, e2⟩ := Option.bind_eq_some_iff.mp e
    dsimp only at e2
    split at e2
    · rename_i os eg1
      split at e2
      · rename_i hl
        cases e2
        obtain ⟨a, acc0, hv, h0, _, _⟩ := r.lstAt eg
        refine ⟨.ref a, hv, .inl ⟨rfl, acc0, SqL.of h0⟩, ?_⟩
        refine he F H σ g τ x g1 r e1 _ fun F1 H1 y s1 r1 => ?_
        have r2 := r1.take hv eg1
        obtain ⟨a', acc, ea, h1, h2, r3⟩ := Rel.append (r2.tperm (.swap _ _ _))
        cases ea
        refine ⟨a, acc, y, rfl, rfl, h1, by rw [h2]; exact hl, ?_⟩
        have r4 := r3.back' hv
        rw [List.set_set] at r4
        exact q F1 _ .non s1 (r4.addFr rfl)
      · cases e2
    · cases e2
  · cases e
/-- xs.pop() -/
def xPop (i : Nat) : XE := fun g => match g[i]? with
  | some (some (.lst os)) => match os.getLast? with
    | some o => some (o, g.set i (some (.lst os.dropLast)))
    | none => none
  | _ => none
theorem OwL.splitLast {K : PySem.W.Frag} : ∀ {os : List O} {vs : List V} {fp : List Addr} {o : O}, OwL K F H vs os fp → os.getLast? = some o → ∃ v f1 f2, vs[vs.length - 1]? = some v ∧ OwL K F H vs.dropLast os.dropLast f1 ∧ Ow K F H v o f2 ∧ fp = f1 ++ f2
  | [], _, _, _, _, e => by simp at e
  | [x], _, _, o, h, e => by
    obtain ⟨v, r, f1, f2, rfl, h1, h2, rfl⟩ := h
    obtain ⟨rfl, rfl⟩ := h2
    have ex : x = o := by simpa using e
    subst ex
    exact ⟨v, [], f1, rfl, OwL.nil, h1, by simp⟩
  | x :: y :: os, _, _, o, h, e => by
    obtain ⟨v, r, f1, f2, rfl, h1, h2, rfl⟩ := h
    have e' : (y :: os).getLast? = some o := by simpa [List.getLast?_cons_cons] using e
    obtain ⟨w, f3, f4, k1, k2, k3, rfl⟩ := OwL.splitLast h2 e'
    have hr : r ≠ [] := by
      intro z
      subst z
      simp at k1
    obtain ⟨z, r', rfl⟩ := List.exists_cons_of_ne_nil hr
    refine ⟨w, f1 ++ f3, f4, ?_, ?_, k3, by rw [List.append_assoc]⟩
    · simpa using k1
    · show OwL K F H (v :: (z :: r').dropLast) (x :: (y :: os).dropLast) (f1 ++ f3)
      exact OwL.cons h1 k2
theorem Rel.popLast {v : V} {os : List O} {o : O} (r : Rel B F H σ g ((v, .lst os) :: τ)) (e : os.getLast? = some o) : ∃ a acc y, v = .ref a ∧ H a = some (.lst acc) ∧ acc[acc.length - 1]? = some y ∧ Rel B F (upd H a (.lst acc.dropLast)) σ g ((v, .lst os.dropLast) :: (y, o) :: τ) := by
  obtain ⟨f1, k1, k2, k3⟩ := Rel.open (E1 := [(v, .lst os)]) (τ := τ) r
  obtain ⟨a, acc, f, rfl, e2, e3, rfl⟩ := OwE.one k1
  obtain ⟨y, g1, g2, h1, h2, h3, rfl⟩ := e3.splitLast e
  have nd := List.nodup_cons.mp k2
  have hn : ∀ b ∈ g1 ++ g2, upd H a (.lst acc.dropLast) b = H b := fun b hb => upd_ne fun z => nd.1 (z ▸ hb)
  refine ⟨a, acc, y, rfl, e2, h1, k3 a _ [(.ref a, .lst os.dropLast), (y, o)] ((a :: g1) ++ g2) List.mem_cons_self (OwE.cons (e := (.ref a, .lst os.dropLast)) ⟨a, acc.dropLast, g1, rfl, upd_same, OwL.mono (Same.refl F) _ _ _ (fun b hb => hn b (List.mem_append_left _ hb)) h2, rfl⟩ (one_OwE (Ow.mono (Same.refl F) _ _ _ (fun b hb => hn b (List.mem_append_right _ hb)) h3))) k2 (fun b hb => hb)⟩
theorem se_pop {i : Nat} : SE B (tBM0 B.K "list" rPop (tVar i)) (xPop i) := by
  intro F H σ g τ o g' r e Q q
  unfold xPop at e
  split at e
  · rename_i os eg
    split at e
    · rename_i x ex
      cases e
      obtain ⟨a, acc, hv, h0, h1, r2⟩ := r.lstAt eg
      obtain ⟨a', acc', y, ea, k1, k2, r3⟩ := r2.popLast ex
      cases ea
      refine ⟨.ref a, hv, .inl ⟨rfl, acc, SqL.of h0⟩, a, acc', y, rfl, rfl, k1, k2, ?_⟩
      have r4 := r3.back' hv
      rw [List.set_set] at r4
      exact q F _ y (Same.refl F) r4
    · cases e
  · cases e

/-! ### xs[i] = v of an owned list -/
theorem OwL.setAt {K : PySem.W.Frag} {y : V} {o : O} {fo : List Addr} (ho : Ow K F H y o fo) : ∀ {os : List O} {vs : List V} {fp : List Addr} {j : Nat}, OwL K F H vs os fp → j < os.length → ∃ f2, OwL K F H (vs.set j y) (os.set j o) f2 ∧ ∃ f3, (f2 ++ f3).Perm (fp ++ fo)
  | [], _, _, j, h, hj => by simp at hj
  | x :: os, _, _, 0, h, _ => by
    obtain ⟨v, r, f1, f2, rfl, h1, h2, rfl⟩ := h
    refine ⟨fo ++ f2, OwL.cons ho h2, f1, ?_⟩
    have p : (fo ++ f2 ++ f1).Perm (f1 ++ (fo ++ f2)) := List.perm_append_comm
    refine p.trans ?_
    rw [List.append_assoc]
    exact List.Perm.append_left _ List.perm_append_comm
  | x :: os, _, _, j + 1, h, hj => by
    obtain ⟨v, r, f1, f2, rfl, h1, h2, rfl⟩ := h
    obtain ⟨f3, k1, f4, p⟩ := OwL.setAt ho h2 (by simpa using hj)
    refine ⟨f1 ++ f3, OwL.cons h1 k1, f4, ?_⟩
    rw [List.append_assoc, List.append_assoc]
    exact p.append_left f1
theorem Rel.setAt {v y : V} {o : O} {os : List O} {j : Nat} (r : Rel B F H σ g ((v, .lst os) :: (y, o) :: τ)) (hj : j < os.length) : ∃ a acc, v = .ref a ∧ H a = some (.lst acc) ∧ acc.length = os.length ∧ Rel B F (upd H a (.lst (acc.set j y))) σ g ((v, .lst (os.set j o)) :: τ) := by
  obtain ⟨f1, k1, k2, k3⟩ := Rel.open (E1 := [(v, .lst os), (y, o)]) (τ := τ) r
  obtain ⟨fl, fo, m1, m2, rfl⟩ := OwE.inv k1
  have m2 := OwE.one m2
  obtain ⟨a, acc, f, rfl, e2, e3, rfl⟩ := m1
  obtain ⟨f2, h1, f3, p⟩ := e3.setAt m2 hj
  have nd := List.nodup_cons.mp k2
  have hin : ∀ b ∈ f2, b ∈ f ++ fo := fun b hb => p.mem_iff.mp (List.mem_append_left _ hb)
  have hn : ∀ b ∈ f2, upd H a (.lst (acc.set j y)) b = H b := fun b hb => upd_ne fun z => nd.1 (z ▸ hin b hb)
  refine ⟨a, acc, rfl, e2, e3.length, k3 a _ [(.ref a, .lst (os.set j o))] (a :: f2) (by simp) (one_OwE ⟨a, acc.set j y, f2, rfl, upd_same, OwL.mono (Same.refl F) _ _ _ hn h1, rfl⟩) ?_ fun b hb => ?_⟩
  · refine List.nodup_cons.mpr ⟨fun z => nd.1 (hin a z), ?_⟩
    exact (List.nodup_append.mp (p.symm.nodup nd.2)).1
  · rcases List.mem_cons.mp hb with rfl | hb
    · simp
    · exact List.mem_cons_of_mem _ (hin b hb)
def gSetL (i : Nat) (mi : XO) : XG := fun o g => match g[i]? with
  | some (some (.lst _)) => (mi g).bind fun p => match view p.2 p.1, p.2[i]? with
    | some (.int k), some (some (.lst os)) => (ixN os.length k).map fun j => p.2.set i (some (.lst (os.set j o)))
    | _, _ => none
  | _ => none
theorem sg_setL {i : Nat} {ti : TE} {mi : XO} (hi : SO B ti mi) : SG B (gSub (tVar i) ti rSetL) (gSetL i mi) := by
  intro F H σ g τ v o g' r e Q q
  unfold gSetL at e
  split at e
  · rename_i os0 eg
    obtain ⟨⟨x, g1⟩, e1, e2⟩ := Option.bind_eq_some_iff.mp e
    dsimp only at e2
    split at e2
    · rename_i k os ek eg1
      obtain ⟨j, e3, e4⟩ := Option.map_eq_some_iff.mp e2
      cases e4
      obtain ⟨a, acc0, hv, h0, _, _⟩ := r.lstAt eg
      refine ⟨.ref a, hv, ?_⟩
      refine hi F H σ g _ x g1 r e1 _ fun F1 H1 y s1 r1 ok => ?_
      obtain rfl : y = .int k := r1.view ok ek
      have r2 := r1.take hv eg1
      obtain ⟨a', acc, ea, h1, h2, r3⟩ := r2.setAt (ixN_seq e3).2.1
      cases ea
      refine ⟨a, acc, k, j, rfl, rfl, h1, by rw [h2]; exact e3, ?_⟩
      have r4 := r3.back' hv
      rw [List.set_set] at r4
      exact q F1 _ σ s1 r4
    · cases e2
  · cases e
end
end Mi

set_option Elab.async false
set_option linter.all false
set_option maxRecDepth 100000
/-! Mi5: operations by data. -/
namespace Mi
open PySem PySem.Spec PyProof.Rows L2

/-! ### data compared -/
mutual
def toPy : D → Option PyData
  | .non => some .none
  | .bl b => some (.bool b)
  | .int i => some (.int i)
  | .str s => some (.str s)
  | .tup ds => (toPyL ds).map .tuple
  | .lst ds => (toPyL ds).map .list
  | .dK _ _ => none
  | .dT _ _ => none
  | .scr _ => none
def toPyL : List D → Option (List PyData)
  | [] => some []
  | d :: ds => (toPy d).bind fun p => (toPyL ds).map fun ps => p :: ps
end
section
variable {K : PySem.W.Frag} {H : Hp}
mutual
theorem toPy_dp : ∀ (d : D) (v : V) (p : PyData), Rp K H v d → toPy d = some p → Dp K H v p
  | .non, v, p, h, e => by
    obtain rfl : v = .non := h
    rw [toPy] at e
    cases e
    exact .non
  | .bl b, v, p, h, e => by
    obtain rfl : v = .bl b := h
    rw [toPy] at e
    cases e
    exact .bl b
  | .int b, v, p, h, e => by
    obtain rfl : v = .int b := h
    rw [toPy] at e
    cases e
    exact .int b
  | .str b, v, p, h, e => by
    obtain rfl : v = .str b := h
    rw [toPy] at e
    cases e
    exact .str b
  | .tup ds, v, p, h, e => by
    obtain ⟨a, vs, rfl, h1, h2⟩ := h
    rw [toPy] at e
    obtain ⟨ps, e1, rfl⟩ := Option.map_eq_some_iff.mp e
    exact .tup h1 (toPyL_dp ds vs ps h2 e1)
  | .lst ds, v, p, h, e => by
    obtain ⟨a, vs, rfl, h1, h2⟩ := h
    rw [toPy] at e
    obtain ⟨ps, e1, rfl⟩ := Option.map_eq_some_iff.mp e
    exact .lst (SqL.of h1) (toPyL_dp ds vs ps h2 e1)
  | .dK _ _, v, p, h, e => by
    rw [toPy] at e
    cases e
  | .dT _ _, v, p, h, e => by
    rw [toPy] at e
    cases e
  | .scr _, v, p, h, e => by
    rw [toPy] at e
    cases e
theorem toPyL_dp : ∀ (ds : List D) (vs : List V) (ps : List PyData), RpL K H vs ds → toPyL ds = some ps → DpAll K H vs ps
  | [], vs, ps, h, e => by
    obtain rfl : vs = [] := h
    rw [toPyL] at e
    cases e
    exact .nil
  | d :: ds, vs, ps, h, e => by
    obtain ⟨v, r, rfl, h1, h2⟩ := h
    rw [toPyL] at e
    obtain ⟨p, e1, e2⟩ := Option.bind_eq_some_iff.mp e
    obtain ⟨qs, e3, rfl⟩ := Option.map_eq_some_iff.mp e2
    exact .cons (toPy_dp d v p h1 e1) (toPyL_dp ds r qs h2 e3)
end
end
def deepEq (d e : D) : Option Bool := (toPy d).bind fun p => (toPy e).bind fun q => if SeqAt.shaped p = true ∧ SeqAt.shaped q = true then some (PyData.eqv p q) else none
def dEqB (d e : D) : Option Bool := match d, e with
  | .int i, .int j => some (decide (i = j))
  | .str i, .str j => some (decide (i = j))
  | .bl i, .bl j => some (decide (i = j))
  | .non, .non => some true
  | .non, .int _ => some false
  | .int _, .non => some false
  | .non, .str _ => some false
  | .str _, .non => some false
  | .non, .bl _ => some false
  | .bl _, .non => some false
  | .int _, .str _ => some false
  | .str _, .int _ => some false
  | .bl _, .str _ => some false
  | .str _, .bl _ => some false
  | d, e => deepEq d e
def dEq (d e : D) : Option D := (dEqB d e).map .bl
def dNe (d e : D) : Option D := (dEqB d e).map fun b => .bl (!b)
def rEqAll (K : PySem.W.Frag) : R2 := fun x y H Q => rEq x y H Q ∨ rEqD K x y H Q
def rNeAll (K : PySem.W.Frag) : R2 := fun x y H Q => rNe x y H Q ∨ rNeD K x y H Q
theorem op_eqAll {X : Cx} (hu : X.A.units + 64 < cLine) : OpR X (compareOp .Eq) (rEqAll X.K) := OpR.or op_eq (op_eqD hu)
theorem op_neAll {X : Cx} (hu : X.A.units + 64 < cLine) : OpR X (compareOp .NotEq) (rNeAll X.K) := OpR.or op_ne (op_neD hu)
/-- either scalars that == tells apart as data does, or data at any depth -/
theorem dEqB_cases {K : PySem.W.Frag} {H : Hp} {x y : V} {d e : D} {b : Bool} (hx : Rp K H x d) (hy : Rp K H y e) (h : dEqB d e = some b) : (scal x y = true ∧ decide (x = y) = b) ∨ ∃ p q, Dp K H x p ∧ Dp K H y q ∧ SeqAt.shaped p = true ∧ SeqAt.shaped q = true ∧ PyData.eqv p q = b := by
  unfold dEqB at h
  split at h
  case h_15 =>
    right
    obtain ⟨p, e1, h⟩ := Option.bind_eq_some_iff.mp h
    obtain ⟨q, e2, h⟩ := Option.bind_eq_some_iff.mp h
    split at h
    · rename_i hs
      cases h
      exact ⟨p, q, toPy_dp _ _ _ hx e1, toPy_dp _ _ _ hy e2, hs.1, hs.2, rfl⟩
    · cases h
  all_goals
    left
    cases h
    cases (show x = _ from hx)
    cases (show y = _ from hy)
    refine ⟨rfl, ?_⟩
    simp
theorem s2_eq {K : PySem.W.Frag} : S2 K (rEqAll K) dEq := by
  intro H x y d e z hx hy h
  obtain ⟨b, h1, rfl⟩ := Option.map_eq_some_iff.mp h
  refine ⟨.bl b, rfl, fun Q q => ?_⟩
  rcases dEqB_cases hx hy h1 with ⟨k1, k2⟩ | ⟨p, r, k1, k2, k3, k4, k5⟩
  · exact .inl ⟨k1, by rw [k2]; exact q⟩
  · exact .inr ⟨p, r, k1, k2, k3, k4, by rw [k5]; exact q⟩
theorem s2_ne {K : PySem.W.Frag} : S2 K (rNeAll K) dNe := by
  intro H x y d e z hx hy h
  obtain ⟨b, h1, rfl⟩ := Option.map_eq_some_iff.mp h
  refine ⟨.bl (!b), rfl, fun Q q => ?_⟩
  rcases dEqB_cases hx hy h1 with ⟨k1, k2⟩ | ⟨p, r, k1, k2, k3, k4, k5⟩
  · exact .inl ⟨k1, by rw [k2]; exact q⟩
  · exact .inr ⟨p, r, k1, k2, k3, k4, by rw [k5]; exact q⟩

/-! ### order -/
def sLt (i j : Str) : Bool := decide (i.cps.toList < j.cps.toList)
def dLt (d e : D) : Option D := match d, e with
  | .int i, .int j => some (.bl (decide (i < j)))
  | .str i, .str j => some (.bl (sLt i j))
  | _, _ => none
def dLe (d e : D) : Option D := match d, e with
  | .int i, .int j => some (.bl (decide (i ≤ j)))
  | .str i, .str j => some (.bl (!sLt j i))
  | _, _ => none
def dGt (d e : D) : Option D := match d, e with
  | .int i, .int j => some (.bl (decide (j < i)))
  | .str i, .str j => some (.bl (sLt j i))
  | _, _ => none
def dGe (d e : D) : Option D := match d, e with
  | .int i, .int j => some (.bl (decide (j ≤ i)))
  | .str i, .str j => some (.bl (!sLt i j))
  | _, _ => none
def rCmpIS (f : Int → Int → Bool) (g : Str → Str → Bool) : R2 := fun x y H Q => (rI0 (fun i j => .bl (f i j))) x y H Q ∨ (∃ i j, x = .str i ∧ y = .str j ∧ Q (.bl (g i j)) H)
theorem op_ltIS {X : Cx} : OpR X (compareOp .Lt) (rCmpIS (fun i j => decide (i < j)) fun i j => sLt i j) := OpR.or op_lt op_lt_str
theorem op_leIS {X : Cx} : OpR X (compareOp .LtE) (rCmpIS (fun i j => decide (i ≤ j)) fun i j => !sLt j i) := OpR.or op_le op_le_str
theorem op_gtIS {X : Cx} : OpR X (compareOp .Gt) (rCmpIS (fun i j => decide (j < i)) fun i j => sLt j i) := OpR.or op_gt op_gt_str
theorem op_geIS {X : Cx} : OpR X (compareOp .GtE) (rCmpIS (fun i j => decide (j ≤ i)) fun i j => !sLt i j) := OpR.or op_ge op_ge_str
theorem s2_is {K : PySem.W.Frag} {f : Int → Int → Bool} {g : Str → Str → Bool} {h : D → D → Option D} (hi : ∀ i j, h (.int i) (.int j) = some (.bl (f i j))) (hs : ∀ i j, h (.str i) (.str j) = some (.bl (g i j)))
    (ho : ∀ d e z, h d e = some z → (∃ i j, d = .int i ∧ e = .int j) ∨ ∃ i j, d = .str i ∧ e = .str j) : S2 K (rCmpIS f g) h := by
  intro H x y d e z hx hy k
  rcases ho d e z k with ⟨i, j, rfl, rfl⟩ | ⟨i, j, rfl, rfl⟩
  · rw [hi] at k
    cases k
    exact ⟨_, rfl, fun Q q => .inl ⟨i, j, hx, hy, q⟩⟩
  · rw [hs] at k
    cases k
    exact ⟨_, rfl, fun Q q => .inr ⟨i, j, hx, hy, q⟩⟩
theorem s2_lt {K : PySem.W.Frag} : S2 K (rCmpIS (fun i j => decide (i < j)) fun i j => sLt i j) dLt := s2_is (fun _ _ => rfl) (fun _ _ => rfl) fun d e z k => by
  cases d <;> cases e <;> first | cases k; fail | exact .inl ⟨_, _, rfl, rfl⟩ | exact .inr ⟨_, _, rfl, rfl⟩ | cases k
theorem s2_le {K : PySem.W.Frag} : S2 K (rCmpIS (fun i j => decide (i ≤ j)) fun i j => !sLt j i) dLe := s2_is (fun _ _ => rfl) (fun _ _ => rfl) fun d e z k => by
  cases d <;> cases e <;> first | cases k; fail | exact .inl ⟨_, _, rfl, rfl⟩ | exact .inr ⟨_, _, rfl, rfl⟩ | cases k
theorem s2_gt {K : PySem.W.Frag} : S2 K (rCmpIS (fun i j => decide (j < i)) fun i j => sLt j i) dGt := s2_is (fun _ _ => rfl) (fun _ _ => rfl) fun d e z k => by
  cases d <;> cases e <;> first | cases k; fail | exact .inl ⟨_, _, rfl, rfl⟩ | exact .inr ⟨_, _, rfl, rfl⟩ | cases k
theorem s2_ge {K : PySem.W.Frag} : S2 K (rCmpIS (fun i j => decide (j ≤ i)) fun i j => !sLt i j) dGe := s2_is (fun _ _ => rfl) (fun _ _ => rfl) fun d e z k => by
  cases d <;> cases e <;> first | cases k; fail | exact .inl ⟨_, _, rfl, rfl⟩ | exact .inr ⟨_, _, rfl, rfl⟩ | cases k

/-! ### is -/
def isNonD : D → Bool | .non => true | _ => false
def dIsN (d e : D) : Option D := match e with
  | .non => some (.bl (isNonD d))
  | _ => none
def dNotN (d e : D) : Option D := match e with
  | .non => some (.bl (!isNonD d))
  | _ => none
theorem rp_non {K : PySem.W.Frag} {H : Hp} {x : V} {d : D} (h : Rp K H x d) : decide (x = .non) = isNonD d := by
  cases d with
  | non => cases (show x = .non from h); rfl
  | bl b => cases (show x = .bl b from h); rfl
  | int b => cases (show x = .int b from h); rfl
  | str b => cases (show x = .str b from h); rfl
  | tup ds => obtain ⟨a, vs, rfl, _⟩ := h; rfl
  | lst ds => obtain ⟨a, vs, rfl, _⟩ := h; rfl
  | dK _ ds => obtain ⟨a, vs, rfl, _⟩ := h; rfl
  | dT _ ds => obtain ⟨a, vs, rfl, _⟩ := h; rfl
  | scr ns => obtain ⟨a, rfl, _⟩ := h; rfl
theorem s2_isN {K : PySem.W.Frag} : S2 K (fun x y H Q => y = .non ∧ Q (.bl (decide (x = .non))) H) dIsN := by
  intro H x y d e z hx hy k
  unfold dIsN at k
  split at k
  · cases k
    cases (show y = .non from hy)
    exact ⟨_, rfl, fun Q q => ⟨rfl, by rw [rp_non hx]; exact q⟩⟩
  · cases k
theorem s2_notN {K : PySem.W.Frag} : S2 K (fun x y H Q => y = .non ∧ Q (.bl (!decide (x = .non))) H) dNotN := by
  intro H x y d e z hx hy k
  unfold dNotN at k
  split at k
  · cases k
    cases (show y = .non from hy)
    exact ⟨_, rfl, fun Q q => ⟨rfl, by rw [rp_non hx]; exact q⟩⟩
  · cases k
def rIsBl : R2 := fun x y H Q => ∃ b, y = .bl b ∧ Q (.bl (decide (x = .bl b))) H
def rNotBl : R2 := fun x y H Q => ∃ b, y = .bl b ∧ Q (.bl (!decide (x = .bl b))) H
theorem is_plainV {x : V} {u : Value} {b : Bool} (rx : RelV x u) : plainIs u (.bool b) = true ∧ (u == Value.bool b) = decide (x = .bl b) := by
  cases x with
  | non => cases rx; exact ⟨rfl, rfl⟩
  | bl c =>
    cases rx
    refine ⟨rfl, ?_⟩
    by_cases e : c = b
    · subst e; simp
    · have e1 : (Value.bool c == Value.bool b) = false := by simpa using e
      have e2 : ¬ (V.bl c = V.bl b) := fun z => e (V.bl.inj z)
      rw [e1, decide_eq_false e2]
  | int i => obtain ⟨t, rfl⟩ := rx; exact ⟨rfl, rfl⟩
  | str i => obtain ⟨t, rfl⟩ := rx; exact ⟨rfl, rfl⟩
  | byt i => obtain ⟨t, rfl⟩ := rx; exact ⟨rfl, rfl⟩
  | flt i => obtain ⟨t, rfl⟩ := rx; exact ⟨rfl, rfl⟩
  | ref a => cases rx; exact ⟨rfl, rfl⟩
  | ty n => cases rx; exact ⟨rfl, rfl⟩
theorem op_isBl1 {X : Cx} : OpR X (compareOp .Is) rIsBl := by
  intro pins s σ H x y v u Q I rx ry h
  obtain ⟨b, rfl, q⟩ := h
  cases (show u = Value.bool b from ry)
  obtain ⟨h1, h2⟩ := is_plainV (b := b) rx
  exact wpAny_is_plain h1 ⟨.bl _, H, I, rfl, by rw [h2]; exact q⟩
theorem op_notBl1 {X : Cx} : OpR X (compareOp .IsNot) rNotBl := by
  intro pins s σ H x y v u Q I rx ry h
  obtain ⟨b, rfl, q⟩ := h
  cases (show u = Value.bool b from ry)
  obtain ⟨h1, h2⟩ := is_plainV (b := b) rx
  exact wpAny_isNot_plain h1 ⟨.bl _, H, I, rfl, by rw [h2]; exact q⟩
def isBl (d : D) (b : Bool) : Bool := match d with | .bl c => c == b | _ => false
def dIsB (d e : D) : Option D := match e with
  | .bl b => some (.bl (isBl d b))
  | _ => none
def dNotB (d e : D) : Option D := match e with
  | .bl b => some (.bl (!isBl d b))
  | _ => none
theorem rp_bl {K : PySem.W.Frag} {H : Hp} {x : V} {d : D} {b : Bool} (h : Rp K H x d) : decide (x = .bl b) = isBl d b := by
  cases d with
  | non => cases (show x = .non from h); rfl
  | bl c =>
    cases (show x = .bl c from h)
    rw [dec_bl]
    rfl
  | int b => cases (show x = .int b from h); rfl
  | str b => cases (show x = .str b from h); rfl
  | tup ds => obtain ⟨a, vs, rfl, _⟩ := h; rfl
  | lst ds => obtain ⟨a, vs, rfl, _⟩ := h; rfl
  | dK _ ds => obtain ⟨a, vs, rfl, _⟩ := h; rfl
  | dT _ ds => obtain ⟨a, vs, rfl, _⟩ := h; rfl
  | scr ns => obtain ⟨a, rfl, _⟩ := h; rfl
theorem s2_isB {K : PySem.W.Frag} : S2 K rIsBl dIsB := by
  intro H x y d e z hx hy k
  unfold dIsB at k
  split at k
  · rename_i b
    cases k
    exact ⟨_, rfl, fun Q q => ⟨b, hy, by rw [rp_bl hx]; exact q⟩⟩
  · cases k
theorem s2_notB {K : PySem.W.Frag} : S2 K rNotBl dNotB := by
  intro H x y d e z hx hy k
  unfold dNotB at k
  split at k
  · rename_i b
    cases k
    exact ⟨_, rfl, fun Q q => ⟨b, hy, by rw [rp_bl hx]; exact q⟩⟩
  · cases k

/-! ### arithmetic -/
section
variable {K : PySem.W.Frag}
def dSub (d e : D) : Option D := match d, e with
  | .int i, .int j => some (.int (i - j))
  | _, _ => none
theorem s2_sub : S2 K (rI0 fun i j => .int (i - j)) dSub := by
  intro H x y d e z hx hy k
  unfold dSub at k
  split at k
  · cases k
    exact ⟨_, rfl, fun Q q => ⟨_, _, hx, hy, q⟩⟩
  · cases k
def dMod (d e : D) : Option D := match d, e with
  | .int i, .int j => if j ≠ 0 then some (.int (i.fmod j)) else none
  | _, _ => none
theorem s2_mod : S2 K (rI (fun _ j => j ≠ 0) fun i j => .int (i.fmod j)) dMod := by
  intro H x y d e z hx hy k
  unfold dMod at k
  split at k
  · split at k
    · rename_i hj
      cases k
      exact ⟨_, rfl, fun Q q => ⟨_, _, hx, hy, hj, q⟩⟩
    · cases k
  · cases k
def CDivX (_ j : Int) : Prop := j ≠ 0 ∧ j.natAbs.log2 < 9000
instance (i j : Int) : Decidable (CDivX i j) := by unfold CDivX; exact inferInstance
theorem op_fdivX {X : Cx} : OpR X (binaryOp .FloorDiv) (rI CDivX fun i j => .int (i.fdiv j)) := opI fun i j _ _ _ _ _ hc q => floordiv_int hc.1 q (.inl (PyProof.noPylong_of_log2 hc.2))
def dFdiv (d e : D) : Option D := match d, e with
  | .int i, .int j => if CDivX i j then some (.int (i.fdiv j)) else none
  | _, _ => none
theorem s2_fdiv : S2 K (rI CDivX fun i j => .int (i.fdiv j)) dFdiv := by
  intro H x y d e z hx hy k
  unfold dFdiv at k
  split at k
  · split at k
    · rename_i hj
      cases k
      exact ⟨_, rfl, fun Q q => ⟨_, _, hx, hy, hj, q⟩⟩
    · cases k
  · cases k
def dPow (d e : D) : Option D := match d, e with
  | .int i, .int j => if 0 ≤ j ∧ j ≤ 1000000 ∧ i.natAbs < 2 ^ 64 then some (.int (i ^ j.toNat)) else none
  | _, _ => none
theorem s2_pow : S2 K (rI CPow fun i j => .int (i ^ j.toNat)) dPow := by
  intro H x y d e z hx hy k
  unfold dPow at k
  split at k
  · split at k
    · rename_i hj
      cases k
      exact ⟨_, rfl, fun Q q => ⟨_, _, hx, hy, hj, q⟩⟩
    · cases k
  · cases k
def dNeg (d : D) : Option D := match d with
  | .int i => some (.int (-i))
  | _ => none
theorem s1_neg : S1 K (rU fun i => .int (-i)) dNeg := by
  intro H x d z hx k
  unfold dNeg at k
  split at k
  · cases k
    exact ⟨_, rfl, fun Q q => ⟨_, hx, q⟩⟩
  · cases k

/-! + : ints, texts, lists, tuples -/
def rAddAll (K : PySem.W.Frag) : R2 := fun x y H Q => (rI0 (fun i j => .int (i + j))) x y H Q ∨ (∃ i j, x = .str i ∧ y = .str j ∧ i.length + j.length ≤ sizeLine ∧ Q (.str (i ++ j)) H) ∨ rCat x y H Q ∨ rCatA K x y H Q
theorem op_addAll {X : Cx} : OpR X (binaryOp .Add) (rAddAll X.K) := OpR.or op_add (OpR.or op_add_str (OpR.or op_cat op_catA))
def dAdd (d e : D) : Option O := match d, e with
  | .int i, .int j => some (.fr (.int (i + j)))
  | .str i, .str j => if i.length + j.length ≤ sizeLine then some (.fr (.str (i ++ j))) else none
  | .lst a, .lst b => if a.length + b.length ≤ sizeLine then some (.lst ((a ++ b).map O.fr)) else none
  | .tup a, .tup b => if a.length + b.length ≤ sizeLine then some (.fr (.tup (a ++ b))) else none
  | _, _ => none
theorem a2_add : A2 K (rAddAll K) dAdd := by
  intro F H x y d e z s hx hy k Q q
  unfold dAdd at k
  split at k
  · cases k
    exact .inl ⟨_, _, hx, hy, made_fr (K := K) s (v := V.int _) (d := D.int _) rfl q⟩
  · split at k
    · rename_i hl
      cases k
      exact .inr (.inl ⟨_, _, hx, hy, hl, made_fr (K := K) s (v := V.str _) (d := D.str _) rfl q⟩)
    · cases k
  · split at k
    · rename_i hl
      cases k
      obtain ⟨a, vs, rfl, h1, h2⟩ := hx
      obtain ⟨b, ws, rfl, h3, h4⟩ := hy
      exact .inr (.inr (.inl ⟨a, b, vs, ws, rfl, rfl, s _ _ h1, s _ _ h3, by rw [h2.length, h4.length]; exact hl, fun p hp => made_lst (K := K) s hp (h2.append h4) q⟩))
    · cases k
  · split at k
    · rename_i hl
      cases k
      obtain ⟨a, vs, rfl, h1, h2⟩ := hx
      obtain ⟨b, ws, rfl, h3, h4⟩ := hy
      refine .inr (.inr (.inr ⟨a, b, vs, ws, rfl, rfl, Same.sqT s h1, Same.sqT s h3, by rw [h2.length, h4.length]; exact hl, fun hv => ?_, fun _ hv => ?_, fun _ _ p hp => made_tup (K := K) s hp (h2.append h4) q⟩))
      · subst hv
        have e1 := h2.length
        rw [List.length_nil] at e1
        obtain rfl := List.length_eq_zero_iff.mp e1.symm
        exact made_fr (K := K) s (v := .ref b) (d := .tup _) ⟨b, ws, rfl, h3, h4⟩ q
      · subst hv
        have e1 := h4.length
        rw [List.length_nil] at e1
        obtain rfl := List.length_eq_zero_iff.mp e1.symm
        rw [List.append_nil] at q
        exact made_fr (K := K) s (v := .ref a) (d := .tup _) ⟨a, vs, rfl, h1, h2⟩ q
    · cases k
  · cases k

/-! * : ints, a list by an int -/
def mulOk (i j : Int) : Bool := decide (-(2 ^ 64) < i ∧ i < 2 ^ 64) || decide (-(2 ^ 64) < j ∧ j < 2 ^ 64) || decide (i.natAbs.log2 + j.natAbs.log2 < 1000000)
def rMulAll : R2 := fun x y H Q => rI CMul (fun i j => .int (i * j)) x y H Q ∨ rI CMulW (fun i j => .int (i * j)) x y H Q ∨ rRep x y H Q
theorem op_mulAll {X : Cx} : OpR X (binaryOp .Mult) rMulAll := OpR.or op_mul (OpR.or op_mulW op_rep)
def dMul (d e : D) : Option O := match d, e with
  | .int i, .int j => if mulOk i j = true then some (.fr (.int (i * j))) else none
  | .lst a, .int k => if (-(2 ^ 63) ≤ k ∧ k < 2 ^ 63) ∧ a.length * k.toNat ≤ sizeLine then some (.lst ((List.replicate k.toNat a).flatten.map O.fr)) else none
  | _, _ => none
theorem RpL.rep {F : Hp} {vs : List V} {ds : List D} (h : RpL K F vs ds) : ∀ n : Nat, RpL K F (List.replicate n vs).flatten (List.replicate n ds).flatten
  | 0 => RpL.nil
  | n + 1 => by
    rw [List.replicate_succ, List.replicate_succ, List.flatten_cons, List.flatten_cons]
    exact h.append (RpL.rep h n)
theorem a2_mul : A2 K rMulAll dMul := by
  intro F H x y d e z s hx hy k Q q
  unfold dMul at k
  split at k
  · rename_i i j
    split at k
    · rename_i hm
      cases k
      have hq : Q (.int (i * j)) H := made_fr (K := K) s (v := V.int _) (d := D.int _) rfl q
      unfold mulOk at hm
      rw [Bool.or_eq_true, Bool.or_eq_true] at hm
      rcases hm with (hm | hm) | hm
      · exact .inl ⟨i, j, hx, hy, .inl (of_decide_eq_true hm), hq⟩
      · exact .inl ⟨i, j, hx, hy, .inr (of_decide_eq_true hm), hq⟩
      · exact .inr (.inl ⟨i, j, hx, hy, (show CMulW i j from (of_decide_eq_true hm : i.natAbs.log2 + j.natAbs.log2 < 1000000)), hq⟩)
    · cases k
  · split at k
    · rename_i hk
      cases k
      obtain ⟨a, vs, rfl, h1, h2⟩ := hx
      exact .inr (.inr ⟨a, _, vs, rfl, hy, s _ _ h1, hk.1.1, hk.1.2, by rw [h2.length]; exact hk.2, fun p hp => made_lst (K := K) s hp (h2.rep _) q⟩)
    · cases k
  · cases k

/-! ### built-in calls -/
def dAbs (ds : List D) : Option D := match ds with
  | [.int i] => some (.int (if i < 0 then -i else i))
  | _ => none
theorem RpL.one {H : Hp} {vs : List V} {d : D} (h : RpL K H vs [d]) : ∃ v, vs = [v] ∧ Rp K H v d := by
  obtain ⟨v, r, rfl, h1, h2⟩ := h
  obtain rfl : r = [] := h2
  exact ⟨v, rfl, h1⟩
theorem RpL.two {H : Hp} {vs : List V} {d e : D} (h : RpL K H vs [d, e]) : ∃ v w, vs = [v, w] ∧ Rp K H v d ∧ Rp K H w e := by
  obtain ⟨v, r, rfl, h1, h2⟩ := h
  obtain ⟨w, rfl, h3⟩ := h2.one
  exact ⟨v, w, rfl, h1, h3⟩
theorem sn_abs : SN K (fun xs H Q => ∃ i, xs = [.int i] ∧ Q (.int (if i < 0 then -i else i)) H) dAbs := by
  intro H vs ds z h k
  unfold dAbs at k
  split at k
  · rename_i i
    cases k
    obtain ⟨v, rfl, hv⟩ := h.one
    cases (show v = V.int i from hv)
    exact ⟨_, rfl, fun Q q => ⟨i, rfl, q⟩⟩
  · cases k
def dGcd (ds : List D) : Option D := match ds with
  | [.int a, .int b] => some (.int ((Nat.gcd a.natAbs b.natAbs : Nat) : Int))
  | _ => none
theorem sn_gcd : SN K rGcd dGcd := by
  intro H vs ds z h k
  unfold dGcd at k
  split at k
  · rename_i a b
    cases k
    obtain ⟨v, w, rfl, hv, hw⟩ := h.two
    cases (show v = V.int a from hv)
    cases (show w = V.int b from hw)
    exact ⟨_, rfl, fun Q q => ⟨a, b, rfl, q⟩⟩
  · cases k
/-- int(n), int(flag), int(text) -/
def rIntOf : List V → Hp → VK → Prop := fun xs H Q => ((∃ i, xs = [.int i] ∧ Q (.int i) H) ∨ ∃ k, xs = [.bl k] ∧ Q (.int (if k then 1 else 0)) H) ∨ ∃ a n, xs = [.str a] ∧ PySem.intText? a = some n ∧ a.length ≤ 640 ∧ Q (.int n) H
theorem call_intOf {X : Cx} : CallR X (.type "int") rIntOf := CallR.or call_int1 call_int_str
def dIntOf (ds : List D) : Option D := match ds with
  | [.int i] => some (.int i)
  | [.bl k] => some (.int (if k then 1 else 0))
  | [.str a] => if a.length ≤ 640 then (PySem.intText? a).map .int else none
  | _ => none
theorem sn_intOf : SN K rIntOf dIntOf := by
  intro H vs ds z h k
  unfold dIntOf at k
  split at k
  · rename_i i
    cases k
    obtain ⟨v, rfl, hv⟩ := h.one
    cases (show v = V.int i from hv)
    exact ⟨_, rfl, fun Q q => .inl (.inl ⟨i, rfl, q⟩)⟩
  · rename_i b
    cases k
    obtain ⟨v, rfl, hv⟩ := h.one
    cases (show v = V.bl b from hv)
    exact ⟨_, rfl, fun Q q => .inl (.inr ⟨b, rfl, q⟩)⟩
  · rename_i a
    split at k
    · rename_i hl
      obtain ⟨n, hn, rfl⟩ := Option.map_eq_some_iff.mp k
      obtain ⟨v, rfl, hv⟩ := h.one
      cases (show v = V.str a from hv)
      exact ⟨_, rfl, fun Q q => .inr ⟨a, n, rfl, hn, hl, q⟩⟩
    · cases k
  · cases k
/-- str(n), str(text) -/
def rStrOf : List V → Hp → VK → Prop := fun xs H Q => (∃ i, xs = [.int i] ∧ i.natAbs.log2 < 1920 ∧ Q (.str (toString i)) H) ∨ ∃ a, xs = [.str a] ∧ Q (.str a) H
theorem call_strOf {X : Cx} : CallR X (.type "str") rStrOf := CallR.or call_str_int SkE.call_str_str
def dStrOf (ds : List D) : Option D := match ds with
  | [.int i] => if i.natAbs.log2 < 1920 then some (.str (toString i)) else none
  | [.str a] => some (.str a)
  | _ => none
theorem sn_strOf : SN K rStrOf dStrOf := by
  intro H vs ds z h k
  unfold dStrOf at k
  split at k
  · rename_i i
    split at k
    · rename_i hl
      cases k
      obtain ⟨v, rfl, hv⟩ := h.one
      cases (show v = V.int i from hv)
      exact ⟨_, rfl, fun Q q => .inl ⟨i, rfl, hl, q⟩⟩
    · cases k
  · rename_i a
    cases k
    obtain ⟨v, rfl, hv⟩ := h.one
    cases (show v = V.str a from hv)
    exact ⟨_, rfl, fun Q q => .inr ⟨a, rfl, q⟩⟩
  · cases k
/-- len -/
def rLenAll (K : PySem.W.Frag) : List V → Hp → VK → Prop := fun xs H Q => (∃ x n, xs = [x] ∧ LenV K x H n ∧ Q (.int n) H) ∨ (∃ a kvs, xs = [V.ref a] ∧ H a = some (.dK kvs) ∧ Q (.int kvs.length) H)
theorem call_lenAll {X : Cx} : CallR X (.builtin "len") (rLenAll X.K) := CallR.or call_len call_lenD
def dLen (ds : List D) : Option D := match ds with
  | [.str s] => if s.length ≤ sizeLine then some (.int (s.length : Nat)) else none
  | [.tup es] => some (.int (es.length : Nat))
  | [.lst es] => some (.int (es.length : Nat))
  | [.scr ns] => some (.int (ns.length : Nat))
  | _ => none
theorem sn_len : SN K (rLenAll K) dLen := by
  intro H vs ds z h k
  unfold dLen at k
  split at k
  · rename_i a
    split at k
    · rename_i hl
      cases k
      obtain ⟨v, rfl, hv⟩ := h.one
      cases (show v = V.str a from hv)
      exact ⟨_, rfl, fun Q q => .inl ⟨_, _, rfl, ⟨hl, rfl⟩, q⟩⟩
    · cases k
  · cases k
    obtain ⟨v, rfl, hv⟩ := h.one
    obtain ⟨a, ws, rfl, h1, h2⟩ := hv
    exact ⟨_, rfl, fun Q q => .inl ⟨_, _, rfl, .inr ⟨ws, h1, h2.length.symm⟩, q⟩⟩
  · cases k
    obtain ⟨v, rfl, hv⟩ := h.one
    obtain ⟨a, ws, rfl, h1, h2⟩ := hv
    exact ⟨_, rfl, fun Q q => .inl ⟨_, _, rfl, .inl ⟨ws, SqL.of h1, h2.length.symm⟩, q⟩⟩
  · cases k
    obtain ⟨v, rfl, hv⟩ := h.one
    obtain ⟨a, rfl, h1⟩ := hv
    exact ⟨_, rfl, fun Q q => .inl ⟨_, _, rfl, .inl ⟨_, h1, by rw [List.length_map]⟩, q⟩⟩
  · cases k
/-- tuple(..), list(..) -/
def rTupOf (K : PySem.W.Frag) : List V → Hp → VK → Prop := fun xs H Q => ∃ p ys, xs = [.ref p] ∧ ((SqL K H p ys ∧ ∀ l, H l = none → Q (.ref l) (upd H l (.tup ys))) ∨ (SqT K H p ys ∧ Q (.ref p) H))
theorem call_tupOf {X : Cx} : CallR X (.type "tuple") (rTupOf X.K) := call_tuple_of
def dTupOf (ds : List D) : Option O := match ds with
  | [.lst es] => some (.fr (.tup es))
  | [.tup es] => some (.fr (.tup es))
  | _ => none
theorem an_tupOf : AN K (rTupOf K) dTupOf := by
  intro F H vs ds z s h k Q q
  unfold dTupOf at k
  split at k
  · cases k
    obtain ⟨v, rfl, hv⟩ := h.one
    obtain ⟨a, ws, rfl, h1, h2⟩ := hv
    exact ⟨a, ws, rfl, .inl ⟨SqL.of (s _ _ h1), fun p hp => made_tup (K := K) s hp h2 q⟩⟩
  · cases k
    obtain ⟨v, rfl, hv⟩ := h.one
    have hv' := hv
    obtain ⟨a, ws, rfl, h1, h2⟩ := hv
    exact ⟨a, ws, rfl, .inr ⟨Same.sqT s h1, made_fr (K := K) s hv' q⟩⟩
  · cases k
def rLstOf (K : PySem.W.Frag) : List V → Hp → VK → Prop := fun xs H Q => ∃ p ys, xs = [.ref p] ∧ (SqL K H p ys ∨ SqT K H p ys) ∧ ∀ l, H l = none → Q (.ref l) (upd H l (.lst ys))
theorem call_lstOf {X : Cx} : CallR X (.type "list") (rLstOf X.K) := call_list_of
def dLstOf (ds : List D) : Option O := match ds with
  | [.lst es] => some (.lst (es.map O.fr))
  | [.tup es] => some (.lst (es.map O.fr))
  | _ => none
theorem an_lstOf : AN K (rLstOf K) dLstOf := by
  intro F H vs ds z s h k Q q
  unfold dLstOf at k
  split at k
  · cases k
    obtain ⟨v, rfl, hv⟩ := h.one
    obtain ⟨a, ws, rfl, h1, h2⟩ := hv
    exact ⟨a, ws, rfl, .inl (SqL.of (s _ _ h1)), fun p hp => made_lst (K := K) s hp h2 q⟩
  · cases k
    obtain ⟨v, rfl, hv⟩ := h.one
    obtain ⟨a, ws, rfl, h1, h2⟩ := hv
    exact ⟨a, ws, rfl, .inr (Same.sqT s h1), fun p hp => made_lst (K := K) s hp h2 q⟩
  · cases k
end

/-! ### isinstance of a built-in type -/
def tyN : D → String
  | .non => "NoneType" | .bl _ => "bool" | .int _ => "int" | .str _ => "str" | .tup _ => "tuple" | .lst _ => "list" | .dK _ _ => "dict" | .dT _ _ => "dict" | .scr _ => "list"
theorem tyN_x {K : PySem.W.Frag} {H : Hp} {v : V} {d : D} (h : Rp K H v d) (hd : ∀ ks ds, d ≠ .dT ks ds) : TyX K H v (.type (tyN d)) := by
  cases d with
  | non => cases (show v = .non from h); exact .base .non
  | bl b => cases (show v = .bl b from h); exact .base (.bl b)
  | int b => cases (show v = .int b from h); exact .base (.int b)
  | str b => cases (show v = .str b from h); exact .base (.str b)
  | tup ds =>
    obtain ⟨a, vs, rfl, h1, _⟩ := h
    rcases h1 with (h1 | ⟨o, h1⟩) | ⟨o, its, n, hk, hc, _⟩
    · exact .base (.tup h1)
    · exact .fTuple h1
    · exact .kTuple hk hc
  | lst ds =>
    obtain ⟨a, vs, rfl, h1, _⟩ := h
    exact .base (.lst h1)
  | dK ks ds =>
    obtain ⟨a, kvs, rfl, h1, _⟩ := h
    rcases h1 with h1 | ⟨o, h1⟩
    · exact .base (.dK h1)
    · exact .fDict h1
  | dT ks ds => exact (hd ks ds rfl).elim
  | scr ns =>
    obtain ⟨a, rfl, h1⟩ := h
    rcases h1 with (h1 | ⟨o, h1⟩) | ⟨o, its, n, hk, hc, _⟩
    · exact .base (.lst h1)
    · exact .base (.frz h1)
    · exact .kList hk hc
def isDT : D → Bool | .dT _ _ => true | _ => false
/-- isinstance(x, T): f tells by the data -/
structure IsTy (T : String) (f : D → Bool) : Prop where
  ok : ∀ d, kitB (tyN d) T = some (f d)
def xIsi (f : D → Bool) (m : XO) : XE := fun g => (m g).bind fun p => (view p.2 p.1).bind fun d => if isDT d = true then none else some (.fr (.bl (f d)), p.2)
theorem se_isi {B : Bs} {T : String} {f : D → Bool} {t : TE} {m : XO} (hT : IsTy T f) (h : SO B t m) : SE B (tCB (rIsi B.K) (tCons t (tCons (tC (.ty T)) tNil))) (xIsi f m) := by
  intro F H σ g τ o g' rl e Q q
  obtain ⟨⟨a, g1⟩, e1, e2⟩ := Option.bind_eq_some_iff.mp e
  obtain ⟨d, e3, e4⟩ := Option.bind_eq_some_iff.mp e2
  split at e4
  · cases e4
  · rename_i hd
    cases e4
    refine h F H σ g τ a g1 rl e1 _ fun F1 H1 v s1 r1 ok1 => ?_
    have rp := r1.view ok1 e3
    exact ⟨v, .ty T, .type (tyN d), .type T, f d, rfl, .ty T, tyN_x rp (fun ks ds z => by subst z; exact hd rfl), kit_ty (hT.ok d), q F1 H1 _ s1 (r1.addFr rfl)⟩
def isInt : D → Bool | .int _ => true | .bl _ => true | _ => false
def isBool : D → Bool | .bl _ => true | _ => false
def isStr : D → Bool | .str _ => true | _ => false
def isTup : D → Bool | .tup _ => true | _ => false
def isLst : D → Bool | .lst _ => true | .scr _ => true | _ => false
def isDct : D → Bool | .dK _ _ => true | .dT _ _ => true | _ => false
theorem isTy_int : IsTy "int" isInt := ⟨fun d => match d with
  | .non => (by decide +kernel : kitB "NoneType" "int" = some false)
  | .bl _ => (by decide +kernel : kitB "bool" "int" = some true)
  | .int _ => (by decide +kernel : kitB "int" "int" = some true)
  | .str _ => (by decide +kernel : kitB "str" "int" = some false)
  | .tup _ => (by decide +kernel : kitB "tuple" "int" = some false)
  | .lst _ => (by decide +kernel : kitB "list" "int" = some false)
  | .dK _ _ => (by decide +kernel : kitB "dict" "int" = some false)
  | .dT _ _ => (by decide +kernel : kitB "dict" "int" = some false)
  | .scr _ => (by decide +kernel : kitB "list" "int" = some false)⟩
theorem isTy_bool : IsTy "bool" isBool := ⟨fun d => match d with
  | .non => (by decide +kernel : kitB "NoneType" "bool" = some false)
  | .bl _ => (by decide +kernel : kitB "bool" "bool" = some true)
  | .int _ => (by decide +kernel : kitB "int" "bool" = some false)
  | .str _ => (by decide +kernel : kitB "str" "bool" = some false)
  | .tup _ => (by decide +kernel : kitB "tuple" "bool" = some false)
  | .lst _ => (by decide +kernel : kitB "list" "bool" = some false)
  | .dK _ _ => (by decide +kernel : kitB "dict" "bool" = some false)
  | .dT _ _ => (by decide +kernel : kitB "dict" "bool" = some false)
  | .scr _ => (by decide +kernel : kitB "list" "bool" = some false)⟩
theorem isTy_str : IsTy "str" isStr := ⟨fun d => match d with
  | .non => (by decide +kernel : kitB "NoneType" "str" = some false)
  | .bl _ => (by decide +kernel : kitB "bool" "str" = some false)
  | .int _ => (by decide +kernel : kitB "int" "str" = some false)
  | .str _ => (by decide +kernel : kitB "str" "str" = some true)
  | .tup _ => (by decide +kernel : kitB "tuple" "str" = some false)
  | .lst _ => (by decide +kernel : kitB "list" "str" = some false)
  | .dK _ _ => (by decide +kernel : kitB "dict" "str" = some false)
  | .dT _ _ => (by decide +kernel : kitB "dict" "str" = some false)
  | .scr _ => (by decide +kernel : kitB "list" "str" = some false)⟩
theorem isTy_tup : IsTy "tuple" isTup := ⟨fun d => match d with
  | .non => (by decide +kernel : kitB "NoneType" "tuple" = some false)
  | .bl _ => (by decide +kernel : kitB "bool" "tuple" = some false)
  | .int _ => (by decide +kernel : kitB "int" "tuple" = some false)
  | .str _ => (by decide +kernel : kitB "str" "tuple" = some false)
  | .tup _ => (by decide +kernel : kitB "tuple" "tuple" = some true)
  | .lst _ => (by decide +kernel : kitB "list" "tuple" = some false)
  | .dK _ _ => (by decide +kernel : kitB "dict" "tuple" = some false)
  | .dT _ _ => (by decide +kernel : kitB "dict" "tuple" = some false)
  | .scr _ => (by decide +kernel : kitB "list" "tuple" = some false)⟩
theorem isTy_lst : IsTy "list" isLst := ⟨fun d => match d with
  | .non => (by decide +kernel : kitB "NoneType" "list" = some false)
  | .bl _ => (by decide +kernel : kitB "bool" "list" = some false)
  | .int _ => (by decide +kernel : kitB "int" "list" = some false)
  | .str _ => (by decide +kernel : kitB "str" "list" = some false)
  | .tup _ => (by decide +kernel : kitB "tuple" "list" = some false)
  | .lst _ => (by decide +kernel : kitB "list" "list" = some true)
  | .dK _ _ => (by decide +kernel : kitB "dict" "list" = some false)
  | .dT _ _ => (by decide +kernel : kitB "dict" "list" = some false)
  | .scr _ => (by decide +kernel : kitB "list" "list" = some true)⟩
theorem isTy_dct : IsTy "dict" isDct := ⟨fun d => match d with
  | .non => (by decide +kernel : kitB "NoneType" "dict" = some false)
  | .bl _ => (by decide +kernel : kitB "bool" "dict" = some false)
  | .int _ => (by decide +kernel : kitB "int" "dict" = some false)
  | .str _ => (by decide +kernel : kitB "str" "dict" = some false)
  | .tup _ => (by decide +kernel : kitB "tuple" "dict" = some false)
  | .lst _ => (by decide +kernel : kitB "list" "dict" = some false)
  | .dK _ _ => (by decide +kernel : kitB "dict" "dict" = some true)
  | .dT _ _ => (by decide +kernel : kitB "dict" "dict" = some true)
  | .scr _ => (by decide +kernel : kitB "list" "dict" = some false)⟩
end Mi

set_option Elab.async false
set_option linter.all false
set_option maxRecDepth 100000
/-! Mi6: subscripts, texts. -/
namespace Mi
open PySem PySem.Spec PyProof.Rows L2

section
variable {K : PySem.W.Frag} {F H : Hp}
theorem RpL.atI {vs : List V} {ds : List D} {i : Int} {d : D} (h : RpL K F vs ds) (e : atI ds i = some d) : ∃ v, L2.atI vs i = some v ∧ Rp K F v d := by
  unfold L2.atI at e ⊢
  cases q : ixN ds.length i with
  | none => rw [q] at e; cases e
  | some j =>
    rw [q] at e
    obtain ⟨v, h1, h2⟩ := h.get (show ds[j]? = some d from e)
    exact ⟨v, by rw [h.length, q]; exact h1, h2⟩
theorem OwL.getO : ∀ {os : List O} {vs : List V} {fp : List Addr} {i : Nat} {d : D}, OwL K F H vs os fp → os[i]? = some (.fr d) → ∃ v, vs[i]? = some v ∧ Rp K F v d := fun h e => h.get e

/-! ### subscripts -/
def rIxD : R2 := fun x y H Q => ∃ a v, x = .ref a ∧ DGet H a y (some v) ∧ Q v H
theorem ix_dict {X : Cx} (hu : X.A.units + 1 < cLine) : IxR X rIxD := by
  intro value slice pins s σ H x y v u Q I rx ry h hs
  obtain ⟨a, w, rfl, g, q⟩ := h
  cases rx
  exact tail_any (dict_typeIs I g) PySem.F.slot_dict_getitem.lookup (d_getItem hu I g ry fun w' s' I' rw' => ⟨w, H, I', rw', q⟩) hs
def rIxAll (K : PySem.W.Frag) : R2 := fun x y H Q => rIx K x y H Q ∨ rIxD x y H Q
theorem ix_all {X : Cx} (hu : X.A.units + 1 < cLine) : IxR X (rIxAll X.K) := IxR.or ix_seq (ix_dict hu)
def keyD : D → Option Key
  | .int i => some (.inl i)
  | .str s => some (.inr s)
  | _ => none
theorem keyD_v {v : V} {d : D} {k : Key} (h : Rp K H v d) (e : keyD d = some k) : v = kV k := by
  cases d with
  | int i => cases e; exact h
  | str i => cases e; exact h
  | non => cases e
  | bl b => cases e
  | tup _ => cases e
  | lst _ => cases e
  | dK _ _ => cases e
  | dT _ _ => cases e
  | scr _ => cases e
/-- the place of a key -/
def look {α : Type} {β : Type} [DecidableEq α] (k : α) : List α → List β → Option β
  | a :: as, b :: bs => if a = k then some b else look k as bs
  | _, _ => none
theorem look_rp {κ : Type} [DecidableEq κ] {k : κ} {d : D} : ∀ {kvs : List (κ × V)} {ds : List D}, RpL K F (kvs.map (·.2)) ds → look k (kvs.map (·.1)) ds = some d → ∃ v, valV kvs k = some v ∧ Rp K F v d
  | [], ds, h, e => by
    cases ds <;> cases e
  | p :: kvs, ds, h, e => by
    cases ds with
    | nil => cases e
    | cons x ds =>
      obtain ⟨h1, h2⟩ := h.inv
      unfold look at e
      rw [List.map_cons] at e
      dsimp only at e
      by_cases q : p.1 = k
      · rw [if_pos q] at e
        cases e
        exact ⟨p.2, valV_pos q, h1⟩
      · rw [if_neg q] at e
        obtain ⟨v, h3, h4⟩ := look_rp h2 e
        exact ⟨v, by rw [valV_neg q]; exact h3, h4⟩
def dIx (d e : D) : Option D := match d, e with
  | .tup ds, .int i => atI ds i
  | .lst ds, .int i => atI ds i
  | .scr ns, .int i => (atI ns i).map .int
  | .str s, .int i => if s.length ≤ sizeLine then (atI s.cps.toList i).map fun c => .str ⟨#[c]⟩ else none
  | .dK ks ds, e => (keyD e).bind fun k => look k ks ds
  | _, _ => none
theorem ixOk_all : IxOk K (rIxAll K) dIx := by
  intro F H x y d e z s hx hy k
  unfold dIx at k
  split at k
  · obtain ⟨a, vs, rfl, h1, h2⟩ := hx
    obtain ⟨v, h3, h4⟩ := h2.atI k
    exact ⟨v, h4, fun Q q => .inl (.inr (.inl ⟨a, vs, _, v, rfl, hy, Same.sqT s h1, h3, q⟩))⟩
  · obtain ⟨a, vs, rfl, h1, h2⟩ := hx
    obtain ⟨v, h3, h4⟩ := h2.atI k
    exact ⟨v, h4, fun Q q => .inl (.inl ⟨a, vs, _, v, rfl, hy, SqL.of (s _ _ h1), h3, q⟩)⟩
  · rename_i ns i
    obtain ⟨a, rfl, h1⟩ := hx
    obtain ⟨n, h2, rfl⟩ := Option.map_eq_some_iff.mp k
    refine ⟨.int n, rfl, fun Q q => .inl (.inl ⟨a, _, _, .int n, rfl, hy, Same.sqL s h1, ?_, q⟩)⟩
    unfold atI at h2 ⊢
    rw [List.length_map]
    cases q : ixN ns.length i with
    | none => rw [q] at h2; cases h2
    | some j =>
      rw [q] at h2
      show (ns.map V.int)[j]? = _
      rw [List.getElem?_map, show ns[j]? = some n from h2]
      rfl
  · split at k
    · rename_i st i hl
      obtain ⟨c, h2, rfl⟩ := Option.map_eq_some_iff.mp k
      cases (show x = .str st from hx)
      exact ⟨.str ⟨#[c]⟩, rfl, fun Q q => .inl (.inr (.inr ⟨st, i, c, rfl, hy, hl, h2, q⟩))⟩
    · cases k
  · obtain ⟨a, kvs, rfl, h1, rfl, h3⟩ := hx
    obtain ⟨k', h4, h5⟩ := Option.bind_eq_some_iff.mp k
    obtain ⟨v, h6, h7⟩ := look_rp h3 h5
    have ev := keyD_v hy h4
    exact ⟨v, h7, fun Q q => .inr ⟨a, v, rfl, .inl ⟨kvs, k', Same.rd s h1, ev, h6.symm⟩, q⟩⟩
  · cases k
def oFr : O → Option D
  | .fr d => some d
  | _ => none
def oIx (o : O) (e : D) : Option D := match o, e with
  | .fr d, e => dIx d e
  | .lst os, .int i => (atI os i).bind oFr
  | .dK ks os, e => (keyD e).bind fun k => (look k ks os).bind oFr
  | _, _ => none
theorem look_ow {κ : Type} [DecidableEq κ] {k : κ} {d : D} : ∀ {kvs : List (κ × V)} {os : List O} {fp : List Addr}, OwL K F H (kvs.map (·.2)) os fp → look k (kvs.map (·.1)) os = some (.fr d) → ∃ v, valV kvs k = some v ∧ Rp K F v d
  | [], os, fp, h, e => by
    cases os <;> cases e
  | p :: kvs, os, fp, h, e => by
    cases os with
    | nil => cases e
    | cons x os =>
      obtain ⟨f1, f2, h1, h2, rfl⟩ := OwL.inv h
      unfold look at e
      rw [List.map_cons] at e
      dsimp only at e
      by_cases q : p.1 = k
      · rw [if_pos q] at e
        cases e
        exact ⟨p.2, valV_pos q, h1.1⟩
      · rw [if_neg q] at e
        obtain ⟨v, h3, h4⟩ := look_ow h2 e
        exact ⟨v, by rw [valV_neg q]; exact h3, h4⟩
theorem ixOw_all : IxOw K (rIxAll K) oIx := by
  intro F H x y o e z fp s hx hy k
  unfold oIx at k
  split at k
  · obtain ⟨v, h1, h2⟩ := ixOk_all F H x y _ e z s hx.1 hy k
    exact ⟨v, h1, h2⟩
  · rename_i os i
    obtain ⟨a, vs, f, rfl, h1, h2, rfl⟩ := hx
    obtain ⟨c, h3, h4⟩ := Option.bind_eq_some_iff.mp k
    cases c with
    | fr d =>
      cases h4
      unfold atI at h3
      cases q : ixN os.length i with
      | none => rw [q] at h3; cases h3
      | some j =>
        rw [q] at h3
        obtain ⟨v, h5, h6⟩ := h2.get (show os[j]? = some (.fr z) from h3)
        refine ⟨v, h6, fun Q qq => .inl (.inl ⟨a, vs, _, v, rfl, hy, SqL.of h1, ?_, qq⟩)⟩
        unfold atI
        rw [h2.length, q]
        exact h5
    | lst _ => cases h4
    | dK _ _ => cases h4
    | dT _ _ => cases h4
  · obtain ⟨a, kvs, f, rfl, h1, rfl, h3, rfl⟩ := hx
    obtain ⟨k', h4, h5⟩ := Option.bind_eq_some_iff.mp k
    obtain ⟨c, h6, h7⟩ := Option.bind_eq_some_iff.mp h5
    cases c with
    | fr d =>
      cases h7
      obtain ⟨v, h8, h9⟩ := look_ow h3 h6
      have ev := keyD_v hy h4
      exact ⟨v, h9, fun Q q => .inr ⟨a, v, rfl, .inl ⟨kvs, k', .inl h1, ev, h8.symm⟩, q⟩⟩
    | lst _ => cases h7
    | dK _ _ => cases h7
    | dT _ _ => cases h7
  · cases k
end

/-! ### f-strings -/
section
variable {B : Bs}
def dFmt : D → Option D
  | .str y => if y.length ≤ sizeLine then some (.str y) else none
  | .int i => if i.natAbs.log2 < 1920 then some (.str (toString i)) else none
  | _ => none
def rFmt : V → Hp → VK → Prop := fun x H1 Q => (∃ y : Str, x = .str y ∧ y.length ≤ sizeLine ∧ Q (.str y) H1) ∨ ∃ i : Int, x = .int i ∧ i.natAbs.log2 < 1920 ∧ Q (.str (toString i)) H1
theorem s1_fmt {K : PySem.W.Frag} : S1 K rFmt dFmt := by
  intro H x d z hx k
  unfold dFmt at k
  split at k
  · split at k
    · rename_i y hl
      cases k
      exact ⟨_, rfl, fun Q q => .inl ⟨y, hx, hl, q⟩⟩
    · cases k
  · split at k
    · rename_i y hl
      cases k
      exact ⟨_, rfl, fun Q q => .inr ⟨y, hx, hl, q⟩⟩
    · cases k
  · cases k
theorem se_fmt {t : TE} {m : XO} (h : SO B t m) : SE B (tFmt t) (xS1 dFmt m) := se_s1 (r := rFmt) s1_fmt h
inductive SOs (B : Bs) : List TE → List XO → Prop where
  | nil : SOs B [] []
  | cons {t : TE} {m : XO} {ts : List TE} {ms : List XO} (h : SO B t m) (r : SOs B ts ms) : SOs B (t :: ts) (m :: ms)
def xJs : List XO → Str → G → Option (Str × G)
  | [], acc, g => some (acc, g)
  | m :: ms, acc, g => (m g).bind fun p => match view p.2 p.1 with
    | some (.str y) => if (acc ++ y).length ≤ sizeLine then xJs ms (acc ++ y) p.2 else none
    | _ => none
def xJoined (ms : List XO) : XE := fun g => (xJs ms Str.empty g).map fun p => (.fr (.str p.1), p.2)
theorem js_ok {ts : List TE} {ms : List XO} (h : SOs B ts ms) : ∀ (acc : Str) (F H : Hp) (σ : L2.St) (g : G) (τ : En) (out : Str) (g' : G), Rel B F H σ g τ → xJs ms acc g = some (out, g') → ∀ Q : Str → Hp → Prop,
    (∀ F' H', Same F F' → Rel B F' H' σ g' τ → Q out H') → tJs ts acc σ H Q := by
  induction h with
  | nil =>
    intro acc F H σ g τ out g' r e Q q
    cases e
    exact q F H (Same.refl F) r
  | @cons t m ts ms hm hr ih =>
    intro acc F H σ g τ out g' r e Q q
    obtain ⟨⟨a, g1⟩, e1, e2⟩ := Option.bind_eq_some_iff.mp e
    dsimp only at e2
    split at e2
    · rename_i y ey
      split at e2
      · rename_i hl
        refine hm F H σ g τ a g1 r e1 _ fun F1 H1 v s1 r1 ok => ?_
        exact ⟨y, r1.view ok ey, hl, ih (acc ++ y) F1 H1 σ g1 τ out g' r1 e2 Q fun F2 H2 s2 r2 => q F2 H2 (s1.trans s2) r2⟩
      · cases e2
    · cases e2
theorem se_joined {ts : List TE} {ms : List XO} (h : SOs B ts ms) : SE B (fun σ H Q => tJs ts Str.empty σ H fun out H1 => Q (.str out) H1) (xJoined ms) := by
  intro F H σ g τ o g' r e Q q
  obtain ⟨⟨out, g1⟩, e1, e2⟩ := Option.map_eq_some_iff.mp e
  cases e2
  exact js_ok h Str.empty F H σ g τ out g1 r e1 _ fun F' H' s' r' => q F' H' _ s' (r'.addFr rfl)
end

/-! ### methods of texts -/
def MS (K : PySem.W.Frag) (r : V → List V → Hp → VK → Prop) (f : Str → List D → Option D) : Prop := ∀ H s vs ds z, RpL K H vs ds → f s ds = some z → ∃ w, toV z = some w ∧ ∀ Q : VK, Q w H → r (.str s) vs H Q
def MA (K : PySem.W.Frag) (r : V → List V → Hp → VK → Prop) (f : Str → List D → Option O) : Prop := ∀ F H s vs ds z, Same F H → RpL K F vs ds → f s ds = some z → ∀ Q : VK, Made K F H z Q → r (.str s) vs H Q
section
variable {B : Bs}
def xMS (f : Str → List D → Option D) (a : XO) (as : XA) : XE := fun g => (a g).bind fun p => match p.1 with
  | .d (.str s) => (as p.2).bind fun q => (views q.2 q.1).bind fun ds => (f s ds).map fun z => (.fr z, q.2)
  | _ => none
theorem se_ms {r : V → List V → Hp → VK → Prop} {f : Str → List D → Option D} {to : TE} {t : TA} {a : XO} {as : XA} (hr : MS B.K r f) (ha : SO B to a) (hs : SA B t as) : SE B (tBM B.K "str" r to t) (xMS f a as) := by
  intro F H σ g τ o g' rl e Q q
  obtain ⟨⟨x, g1⟩, e1, e2⟩ := Option.bind_eq_some_iff.mp e
  dsimp only at e2
  split at e2
  · rename_i s
    obtain ⟨⟨as', g2⟩, e3, e4⟩ := Option.bind_eq_some_iff.mp e2
    obtain ⟨ds, e5, e6⟩ := Option.bind_eq_some_iff.mp e4
    obtain ⟨z, e7, e8⟩ := Option.map_eq_some_iff.mp e6
    cases e8
    refine ha F H σ g τ _ g1 rl e1 _ fun F1 H1 v s1 r1 ok1 => ?_
    cases (show v = .str s from ok1)
    refine ⟨rfl, ?_⟩
    refine hs F1 H1 σ g1 τ as' g2 r1 e3 _ fun F2 H2 vs s2 r2 ok2 => ?_
    obtain ⟨w, hw, k⟩ := hr H2 s vs ds z (r2.views ok2 e5) e7
    exact k Q (q F2 H2 w (s1.trans s2) (r2.addFr (toV_rp hw F2)))
  · cases e2
def xMS0 (f : Str → List D → Option D) (a : XO) : XE := fun g => (a g).bind fun p => match p.1 with
  | .d (.str s) => (f s []).map fun z => (.fr z, p.2)
  | _ => none
theorem se_ms0 {r : V → List V → Hp → VK → Prop} {f : Str → List D → Option D} {to : TE} {a : XO} (hr : MS B.K r f) (ha : SO B to a) : SE B (tBM0 B.K "str" r to) (xMS0 f a) := by
  intro F H σ g τ o g' rl e Q q
  obtain ⟨⟨x, g1⟩, e1, e2⟩ := Option.bind_eq_some_iff.mp e
  dsimp only at e2
  split at e2
  · rename_i s
    obtain ⟨z, e7, e8⟩ := Option.map_eq_some_iff.mp e2
    cases e8
    refine ha F H σ g τ _ _ rl e1 _ fun F1 H1 v s1 r1 ok1 => ?_
    cases (show v = .str s from ok1)
    refine ⟨rfl, ?_⟩
    obtain ⟨w, hw, k⟩ := hr H1 s [] [] z RpL.nil e7
    exact k Q (q F1 H1 w s1 (r1.addFr (toV_rp hw F1)))
  · cases e2
def xMA (f : Str → List D → Option O) (a : XO) (as : XA) : XE := fun g => (a g).bind fun p => match p.1 with
  | .d (.str s) => (as p.2).bind fun q => (alld q.1).bind fun ds => (f s ds).map fun z => (z, q.2)
  | _ => none
theorem se_ma {r : V → List V → Hp → VK → Prop} {f : Str → List D → Option O} {to : TE} {t : TA} {a : XO} {as : XA} (hr : MA B.K r f) (ha : SO B to a) (hs : SA B t as) : SE B (tBM B.K "str" r to t) (xMA f a as) := by
  intro F H σ g τ o g' rl e Q q
  obtain ⟨⟨x, g1⟩, e1, e2⟩ := Option.bind_eq_some_iff.mp e
  dsimp only at e2
  split at e2
  · rename_i s
    obtain ⟨⟨as', g2⟩, e3, e4⟩ := Option.bind_eq_some_iff.mp e2
    obtain ⟨ds, e5, e6⟩ := Option.bind_eq_some_iff.mp e4
    obtain ⟨z, e7, e8⟩ := Option.map_eq_some_iff.mp e6
    cases e8
    refine ha F H σ g τ _ g1 rl e1 _ fun F1 H1 v s1 r1 ok1 => ?_
    cases (show v = .str s from ok1)
    refine ⟨rfl, ?_⟩
    refine hs F1 H1 σ g1 τ as' g2 r1 e3 _ fun F2 H2 vs s2 r2 ok2 => ?_
    exact hr F2 H2 s vs ds o r2.sub (alld_ok ok2 e5) e7 Q fun F3 H3 w fp gr ow nd nw => q F3 H3 w ((s1.trans s2).trans gr.f) (r2.made gr ow nd nw)
  · cases e2
end
section
variable {K : PySem.W.Frag}
def strsOf : List D → Option (List Str)
  | [] => some []
  | .str s :: r => (strsOf r).map fun ss => s :: ss
  | _ => none
theorem strsOf_ok {H : Hp} : ∀ {ds : List D} {vs : List V} {ss : List Str}, RpL K H vs ds → strsOf ds = some ss → vs = ss.map V.str
  | [], _, _, h, e => by
    cases e
    exact h
  | d :: ds, _, ss, h, e => by
    obtain ⟨v, r, rfl, h1, h2⟩ := h
    unfold strsOf at e
    split at e
    · rename_i heq
      cases heq
    · rename_i s r' heq
      cases heq
      obtain ⟨ts, e1, rfl⟩ := Option.map_eq_some_iff.mp e
      cases (show v = .str s from h1)
      rw [strsOf_ok h2 e1]
      rfl
    · cases e
def rJoin (K : PySem.W.Frag) : V → List V → Hp → VK → Prop := fun x xs H Q => ∃ a p, ∃ ys : List Str, x = .str a ∧ xs = [.ref p] ∧ (SqL K H p (ys.map V.str) ∨ SqT K H p (ys.map V.str)) ∧ (ys.map (·.length)).sum + ys.length * a.length ≤ 16777216 ∧ Q (.str (Txt.join a ys)) H
theorem mt_joinK {X : Cx} : MtR X "str.join" (rJoin X.K) := mt_join
def dJoin (a : Str) (ds : List D) : Option D := match ds with
  | [.lst es] => (strsOf es).bind fun ys => if (ys.map (·.length)).sum + ys.length * a.length ≤ 16777216 then some (.str (Txt.join a ys)) else none
  | [.tup es] => (strsOf es).bind fun ys => if (ys.map (·.length)).sum + ys.length * a.length ≤ 16777216 then some (.str (Txt.join a ys)) else none
  | _ => none
theorem ms_join : MS K (rJoin K) dJoin := by
  intro H s vs ds z h k
  unfold dJoin at k
  split at k
  · obtain ⟨ys, k1, k2⟩ := Option.bind_eq_some_iff.mp k
    split at k2
    · rename_i hl
      cases k2
      obtain ⟨v, rfl, hv⟩ := h.one
      obtain ⟨a, ws, rfl, h1, h2⟩ := hv
      obtain rfl := strsOf_ok h2 k1
      exact ⟨_, rfl, fun Q q => ⟨s, a, ys, rfl, rfl, .inl (SqL.of h1), hl, q⟩⟩
    · cases k2
  · obtain ⟨ys, k1, k2⟩ := Option.bind_eq_some_iff.mp k
    split at k2
    · rename_i hl
      cases k2
      obtain ⟨v, rfl, hv⟩ := h.one
      obtain ⟨a, ws, rfl, h1, h2⟩ := hv
      obtain rfl := strsOf_ok h2 k1
      exact ⟨_, rfl, fun Q q => ⟨s, a, ys, rfl, rfl, .inr h1, hl, q⟩⟩
    · cases k2
  · cases k
end
end Mi

set_option Elab.async false
set_option linter.all false
set_option maxRecDepth 100000
/-! Mi7: a list or a tuple walked; a def as it stands; the law's end. -/
namespace Mi
open PySem PySem.Spec PyProof.Rows L2

/-- a list or a tuple -/
def iSq (K : PySem.W.Frag) (tl : TE) : TI := fun σ H R => tl σ H fun x H1 => (∃ a, x = .ref a ∧ (∃ xs, SqL K H1 a xs) ∧ R (Itl K a) H1) ∨ (∃ a, x = .ref a ∧ (∃ xs, SqT K H1 a xs) ∧ R (Itt K a) H1)
theorem pi_seq {X : Cx} {tg : Expr} {l : Expr} {tl : TE} (hl : PE X l tl) : PI X tg l (iSq X.K tl) := by
  refine ⟨fun pins s σ H R I h => ?_⟩
  refine thn (hl.run pins s σ H _ I h) fun v s1 ⟨x, H1, I1, r1, q1⟩ => ?_
  rcases q1 with ⟨a, e, ⟨xs, hq⟩, q⟩ | ⟨a, e, ⟨xs, hq⟩, q⟩
  · subst e
    cases r1
    obtain ⟨its, rv, p, hz⟩ := I1.list hq
    refine wpAny_pyIter_list p.isList ?_
    refine ⟨s1.heap.objs.size, [s1.heap.objs.size], _, _, H1, rfl, I1.kept (t' := s1.toks) fun b o e => Heap.get?_push_of_some _ e, turn_list a _, ⟨_, Heap.get?_push_size _ rfl, rfl, rfl⟩, fun b hb => ?_, q⟩
    have e : b = s1.heap.objs.size := by simpa using hb
    subst e
    exact I1.fpOk (Nat.le_refl _) (I1.hok.fresh (Nat.le_refl _))
  · subst e
    cases r1
    obtain ⟨its, rv, p, hz⟩ := I1.tuple hq
    refine wpAny_pyIter_tuple (show s1.heap.IsTuple a its.toArray from p) ?_
    refine ⟨s1.heap.objs.size, [s1.heap.objs.size], _, _, H1, rfl, I1.kept (t' := s1.toks) fun b o e => Heap.get?_push_of_some _ e, turn_tuple a _, ⟨_, Heap.get?_push_size _ rfl, rfl, rfl⟩, fun b hb => ?_, q⟩
    have e : b = s1.heap.objs.size := by simpa using hb
    subst e
    exact I1.fpOk (Nat.le_refl _) (I1.hok.fresh (Nat.le_refl _))
section
variable {B : Bs}
theorem st_yes : ST B tYes xYes := by
  intro F H σ g τ b g' r e Q q
  cases e
  exact q F H (.refl F) r
def iSeq (m : XO) : XI := fun g => (m g).bind fun p => match p.1 with
  | .d (.lst ds) => some (ds, p.2)
  | .d (.tup ds) => some (ds, p.2)
  | _ => none
theorem si_seq {t : TE} {m : XO} (h : SO B t m) : SI B (iSq B.K t) (iSeq m) := by
  intro F H σ g τ ds g' r e R q
  obtain ⟨⟨a, g1⟩, e1, e2⟩ := Option.bind_eq_some_iff.mp e
  refine h F H σ g τ a g1 r e1 _ fun F1 H1 v s1 r1 ok => ?_
  dsimp only at e2
  split at e2
  · cases e2
    obtain ⟨x, vs, rfl, k1, k2⟩ := ok
    exact .inl ⟨x, rfl, ⟨vs, SqL.of (r1.sub _ _ k1)⟩, q F1 H1 _ s1 r1 (walks_list k1 k2)⟩
  · cases e2
    obtain ⟨x, vs, rfl, k1, k2⟩ := ok
    exact .inr ⟨x, rfl, ⟨vs, Same.sqT r1.sub k1⟩, q F1 H1 _ s1 r1 (walks_tup k1 k2)⟩
  · cases e2
end

section
variable {P : Program} {w : World} {K : PySem.W.Frag} {mg : Str → Option Value} {base : Heap}
/-- nothing is promised -/
theorem FnOk.no {f : Addr} {fd : FuncData} {ps : List Str} {k : Nat} : FnOk P w K mg base CX0 k f fd ps (spM K ps.length (fun _ => none)) :=
  ⟨fun vs H Q E h => h.1, fun A outer s H args us vs Q E hr he hb hv hs => by
    obtain ⟨_, _, _, _, _, _, _, _, _, _, e, _⟩ := hs
    cases e⟩
/-- a def of the top -/
structure FnAt (K : PySem.W.Frag) (mg : Str → Option Value) (x : Str) (st : Stmt) (ps : List Str) where
  f : Addr
  fd : FuncData
  g : mg x = some (.ref f)
  F : Fun K x x st f fd
  b : Binds K fd ps []
theorem fnAt_mk {x : Str} {st : Stmt} {ps : List Str} {h : Heap} (X : K.In h) (G : h.Ns mainGlobals mg) {f : Addr} {oc : Value} {od an : Option Addr} {osl : Array (Option Value)} {kV doc pm cdv ct : Value}
    (a : PySem.W.nsIn K mainGlobals x = some (some (.ref f)))
    (l : K.lookup f = some ⟨oc, od, .func (PySem.W.fnOf x x (defArgs st) (defBody st) (defScope st) .none kV doc pm an cdv ct), osl⟩)
    (c : PySem.W.codeIn K cdv x = true) (k : PySem.W.keepIn K (.ref f) = true)
    (hb : ∀ (kV doc pm : Value) (an : Option Addr) (cdv ct : Value) (us : List Value), us.length = ps.length → bindArgs (PySem.W.fnOf x x (defArgs st) (defBody st) (defScope st) .none kV doc pm an cdv ct) ⟨us, []⟩ = pure (ps.zip us)) :
    Nonempty (FnAt K mg x st ps) := by
  have F := fun_mk (st := st) l c k
  exact ⟨⟨f, _, PySem.W.mg_of X G a, F, F.binds hb⟩⟩
end

/-! ### the law's end -/
/-- the script's weight -/
def ScrOk (ns : List Int) : Prop := ns.length ≤ 63 ∧ ∀ z ∈ ns, Builtin.Int.intBits z ≤ 1048576
/-- what the law's mirror must give: True for every script -/
def LawOk (f : List O → Option (O × List O)) : Prop := ∀ ns : List Int, ScrOk ns → ∃ os, f [.fr (.scr ns)] = some (.fr (.bl true), os)
theorem law_sp {K : PySem.W.Frag} {f : List O → Option (O × List O)} (h : LawOk f) (H : Hp) (a : Addr) (ns : List Int) (hl : ns.length ≤ 63) (hb : ∀ z ∈ ns, Builtin.Int.intBits z ≤ 1048576) (hS : SqL K H a (ns.map V.int)) :
    spM K 1 f [.ref a] H (fun v _ => v = .bl true) fun _ _ _ => False := by
  obtain ⟨os, e⟩ := h ns ⟨hl, hb⟩
  refine ⟨rfl, H, [.fr (.scr ns)], .fr (.bl true), os, [], Same.refl H, ?_, List.nodup_nil, (fun _ z => nomatch z), e, fun F' H' v fp' _ _ _ _ ow _ _ => ?_⟩
  · exact ⟨.ref a, [], [], [], rfl, ⟨⟨a, rfl, hS⟩, rfl⟩, OwL.nil, rfl⟩
  · obtain ⟨f1, f2, h1, _, _⟩ := OwL.inv ow
    exact h1.1
theorem walk_law {l : PySem.W.OpenLaw} {q : Program} {loose : List Str} {XP : (Str → Option Value) → Heap → Prop} {YP : World → Heap → Prop} {d : DefRec} {K : Params → PySem.W.Frag} {k : Nat} {f : List O → Option (O × List O)} (hn : l.most = some 63) (hdf : d.params.defaults = []) (hr : Room k callerA)
    (hY : ∀ (w : World) (h : Heap), YP w h → (K w.params).In h) (hf : LawOk f)
    (F : ∀ (w : World) (mg : Str → Option Value) (fa : Addr) (h : Heap), (K w.params).In h → h.Ns mainGlobals mg → mg d.name = some (.ref fa) →
      ∃ fd : FuncData, (∀ (s : Shared) (u : Value), BindsTo s fd ⟨[u], []⟩ [("script", u)]) ∧ ∀ base : Heap, (K w.params).In base → base.Ns mainGlobals mg → FnOk l.prog w (K w.params) mg base CX0 k fa fd ["script"] (spM (K w.params) 1 f)) :
    PySem.W.WalkO q loose XP YP l.row.toRowW d [] (fun f vs => PySem.call f vs) :=
  L2.walk_ofB (n := 63) (k := k) (x := "script") (CX := fun _ => CX0) (sp := fun w => spM (K w.params) 1 f) hn (by decide) hdf hr hY F (fun _ H a ns hl hb _ hS => law_sp hf H a ns hl hb hS) fun _ _ _ _ _ z => z
end Mi

set_option Elab.async false
set_option linter.all false
set_option maxRecDepth 100000
/-! Mi8: comprehensions whose inner readings speak of the block's own context. -/
namespace Mi
open PySem PySem.Spec PyProof.Rows L2
section
variable {X : Cx}
abbrev BF (α : Type) := Shared → Hp → Addr → List (Str × Addr) → List Addr → α
theorem pe_lcM {elt tg iter : Expr} {ifs : List Expr} {scope : Scope} {own : List (Str × Nat)} {pos : Pos} {wi : TI} {g : BF TG} {tt : BF TT} {te : BF TE} (hc : X.calm = true) (hN : X.N.Nodup) (hi : PI X tg iter wi) (ok : BlkOk X.N X.env.scope scope own)
    (hg : ∀ (s : Shared) (H : Hp) (C : Addr) (cl : List (Str × Addr)) (fp : List Addr), PG (X.blk s H scope (compEnvC scope cl C X.env) fp) tg (g s H C cl fp)) (ht : ∀ (s : Shared) (H : Hp) (C : Addr) (cl : List (Str × Addr)) (fp : List Addr), PTs (X.blk s H scope (compEnvC scope cl C X.env) fp) ifs (tt s H C cl fp))
    (he : ∀ (s : Shared) (H : Hp) (C : Addr) (cl : List (Str × Addr)) (fp : List Addr), PE (X.blk s H scope (compEnvC scope cl C X.env) fp) elt (te s H C cl fp))
    (qg : ∀ s H C cl fp, g s H C cl fp = g X.s_0 X.H_0 0 [] []) (qt : ∀ s H C cl fp, tt s H C cl fp = tt X.s_0 X.H_0 0 [] []) (qe : ∀ s H C cl fp, te s H C cl fp = te X.s_0 X.H_0 0 [] [])
    (hs : ∀ x, foldedSetIterable iter X.env x = pure x := by intro _; rfl) :
    PE X (.ListComp elt [⟨tg, iter, ifs, 0⟩] scope pos) (tLc wi (g X.s_0 X.H_0 0 [] []) (tt X.s_0 X.H_0 0 [] []) (te X.s_0 X.H_0 0 [] []) (own.map (·.2))) :=
  pe_lc hc hN hi ok (fun s H C cl fp => (qg s H C cl fp) ▸ hg s H C cl fp) (fun s H C cl fp => (qt s H C cl fp) ▸ ht s H C cl fp) (fun s H C cl fp => (qe s H C cl fp) ▸ he s H C cl fp) hs
theorem ps_setLcM {i : Nat} {y : Str} {py : Pos} {elt tg iter : Expr} {ifs : List Expr} {scope : Scope} {own : List (Str × Nat)} {pos spos : Pos} {wi : TI} {g : BF TG} {tt : BF TT} {te : BF TE} (hc : X.calm = true) (hN : X.N.Nodup) (hy : X.N[i]? = some y) (hyl : X.env.scope.names.lookup y = some .local)
    (hsw : swapsWith (.ListComp elt [⟨tg, iter, ifs, 0⟩] scope pos) (some (.Name y py)) spos.line X.env = pure true) (hi : PI X tg iter wi) (ok : BlkOk X.N X.env.scope scope own)
    (hg : ∀ (s : Shared) (H : Hp) (C : Addr) (cl : List (Str × Addr)) (fp : List Addr), PG (X.blk s H scope (compEnvC scope cl C X.env) fp) tg (g s H C cl fp)) (ht : ∀ (s : Shared) (H : Hp) (C : Addr) (cl : List (Str × Addr)) (fp : List Addr), PTs (X.blk s H scope (compEnvC scope cl C X.env) fp) ifs (tt s H C cl fp))
    (he : ∀ (s : Shared) (H : Hp) (C : Addr) (cl : List (Str × Addr)) (fp : List Addr), PE (X.blk s H scope (compEnvC scope cl C X.env) fp) elt (te s H C cl fp))
    (qg : ∀ s H C cl fp, g s H C cl fp = g X.s_0 X.H_0 0 [] []) (qt : ∀ s H C cl fp, tt s H C cl fp = tt X.s_0 X.H_0 0 [] []) (qe : ∀ s H C cl fp, te s H C cl fp = te X.s_0 X.H_0 0 [] [])
    (hs : ∀ x, foldedSetIterable iter X.env x = pure x := by intro _; rfl) :
    PS X (.Assign [.Name y py] (.ListComp elt [⟨tg, iter, ifs, 0⟩] scope pos) spos) (tAsg (tLc wi (g X.s_0 X.H_0 0 [] []) (tt X.s_0 X.H_0 0 [] []) (te X.s_0 X.H_0 0 [] []) (own.map (·.2))) (gName i)) :=
  ps_setLc hc hN hy hyl hsw hi ok (fun s H C cl fp => (qg s H C cl fp) ▸ hg s H C cl fp) (fun s H C cl fp => (qt s H C cl fp) ▸ ht s H C cl fp) (fun s H C cl fp => (qe s H C cl fp) ▸ he s H C cl fp) hs
end
end Mi

set_option Elab.async false
set_option linter.all false
set_option maxRecDepth 100000
/-! Mi9: a mirror at an open environment, by simp. -/
namespace Mi
open PySem PySem.Spec PyProof.Rows L2
def bd {α β : Type} (o : Option α) (f : α → Option β) : Option β := o.bind f
def mp {α β : Type} (o : Option α) (f : α → β) : Option β := o.map f
@[simp] theorem bd_some {α β : Type} {a : α} {f : α → Option β} : bd (some a) f = f a := (rfl)
@[simp] theorem mp_some {α β : Type} {a : α} {f : α → β} : mp (some a) f = some (f a) := (rfl)
@[simp] theorem bd_none {α β : Type} {f : α → Option β} : bd none f = none := (rfl)
@[simp] theorem mp_none {α β : Type} {f : α → β} : mp none f = none := (rfl)
section
variable {x : Option O} {g : G}
@[simp] theorem view_d {d : D} {g : G} : view g (.d d) = some d := (rfl)
@[simp] theorem view_br {i : Nat} {g : G} : view g (.br i) = (match g[i]? with | some (some o) => some o.er | _ => none) := (rfl)
@[simp] theorem views_nil {g : G} : views g [] = some [] := (rfl)
@[simp] theorem views_cons {g : G} {a : Opd} {r : List Opd} : views g (a :: r) = bd (view g a) fun d => mp (views g r) fun ds => d :: ds := (rfl)
@[simp] theorem alld_nil : alld [] = some [] := (rfl)
@[simp] theorem alld_d {d : D} {r : List Opd} : alld (.d d :: r) = mp (alld r) fun ds => d :: ds := (rfl)
@[simp] theorem opdD_d {d : D} : opdD (.d d) = some d := (rfl)
@[simp] theorem ev_oVar {i : Nat} : oVar i (x :: g) = (match (x :: g)[i]? with
  | some (some (.fr d)) => some (.d d, x :: g)
  | some (some _) => some (.br i, x :: g)
  | _ => none) := (rfl)
@[simp] theorem ev_eVar {i : Nat} : eVar i (x :: g) = (match (x :: g)[i]? with
  | some (some (.fr d)) => some (.fr d, x :: g)
  | some (some o) => some (.fr o.er, (x :: g).set i (some (.fr o.er)))
  | _ => none) := (rfl)
@[simp] theorem ev_eMove {i : Nat} : eMove i (x :: g) = (match (x :: g)[i]? with
  | some (some (.fr d)) => some (.fr d, x :: g)
  | some (some o) => some (o, (x :: g).set i none)
  | _ => none) := (rfl)
@[simp] theorem ev_eC {d : D} : eC d (x :: g) = some (.fr d, x :: g) := (rfl)
@[simp] theorem ev_oE {m : XE} : oE m (x :: g) = mp (m (x :: g)) fun p => (.d p.1.er, p.2) := (rfl)
@[simp] theorem ev_aNil : aNil (x :: g) = some ([], x :: g) := (rfl)
@[simp] theorem ev_aCons {a : XO} {r : XA} : aCons a r (x :: g) = bd (a (x :: g)) fun p => mp (r p.2) fun q => (p.1 :: q.1, q.2) := (rfl)
@[simp] theorem ev_xS1 {f : D → Option D} {a : XO} : xS1 f a (x :: g) = bd (a (x :: g)) fun p => bd (view p.2 p.1) fun d => mp (f d) fun z => (.fr z, p.2) := (rfl)
@[simp] theorem ev_xS2 {f : D → D → Option D} {a b : XO} : xS2 f a b (x :: g) = bd (a (x :: g)) fun p => bd (b p.2) fun q => bd (view q.2 p.1) fun d => bd (view q.2 q.1) fun e => mp (f d e) fun z => (.fr z, q.2) := (rfl)
@[simp] theorem ev_xSN {f : List D → Option D} {as : XA} : xSN f as (x :: g) = bd (as (x :: g)) fun p => bd (views p.2 p.1) fun ds => mp (f ds) fun z => (.fr z, p.2) := (rfl)
@[simp] theorem ev_xA1 {f : D → Option O} {a : XO} : xA1 f a (x :: g) = bd (a (x :: g)) fun p => bd (opdD p.1) fun d => mp (f d) fun z => (z, p.2) := (rfl)
@[simp] theorem ev_xA2 {f : D → D → Option O} {a b : XO} : xA2 f a b (x :: g) = bd (a (x :: g)) fun p => bd (b p.2) fun q => bd (opdD p.1) fun d => bd (opdD q.1) fun e => mp (f d e) fun z => (z, q.2) := (rfl)
@[simp] theorem ev_xAN {f : List D → Option O} {as : XA} : xAN f as (x :: g) = bd (as (x :: g)) fun p => bd (alld p.1) fun ds => mp (f ds) fun z => (z, p.2) := (rfl)
@[simp] theorem ev_xB {m : XO} : xB m (x :: g) = bd (m (x :: g)) fun p => match view p.2 p.1 with
  | some (.bl b) => some (b, p.2)
  | _ => none := (rfl)
@[simp] theorem ev_xTru {m : XO} : xTru m (x :: g) = bd (m (x :: g)) fun p => bd (view p.2 p.1) fun d => mp (dTru d) fun b => (b, p.2) := (rfl)
@[simp] theorem ev_xAnd {a b : XT} : xAnd a b (x :: g) = bd (a (x :: g)) fun p => if p.1 = true then b p.2 else some (false, p.2) := (rfl)
@[simp] theorem ev_xOr {a b : XT} : xOr a b (x :: g) = bd (a (x :: g)) fun p => if p.1 = true then some (true, p.2) else b p.2 := (rfl)
@[simp] theorem ev_xNot {a : XT} : xNot a (x :: g) = mp (a (x :: g)) fun p => (!p.1, p.2) := (rfl)
@[simp] theorem ev_xYes : xYes (x :: g) = some (true, x :: g) := (rfl)
@[simp] theorem ev_xAndV {a : XO} {b : XE} : xAndV a b (x :: g) = bd (a (x :: g)) fun p => bd (opdD p.1) fun d => bd (dTru d) fun k => if k = true then b p.2 else some (.fr d, p.2) := (rfl)
@[simp] theorem ev_xOrV {a : XO} {b : XE} : xOrV a b (x :: g) = bd (a (x :: g)) fun p => bd (opdD p.1) fun d => bd (dTru d) fun k => if k = true then some (.fr d, p.2) else b p.2 := (rfl)
@[simp] theorem ev_xNotV {a : XO} : xNotV a (x :: g) = bd (a (x :: g)) fun p => bd (view p.2 p.1) fun d => mp (dTru d) fun k => (.fr (.bl (!k)), p.2) := (rfl)
@[simp] theorem ev_xIf {c : XT} {a b : XE} : xIf c a b (x :: g) = bd (c (x :: g)) fun p => if p.1 = true then a p.2 else b p.2 := (rfl)
@[simp] theorem ev_xTup {as : XA} : xTup as (x :: g) = bd (as (x :: g)) fun p => bd (alld p.1) fun ds => if ds.length ≤ sizeLine then some (.fr (.tup ds), p.2) else none := (rfl)
@[simp] theorem ev_xLst {as : XA} : xLst as (x :: g) = bd (as (x :: g)) fun p => bd (alld p.1) fun ds => if ds.length ≤ sizeLine then some (.lst (ds.map O.fr), p.2) else none := (rfl)
@[simp] theorem ev_xIx {f : D → D → Option D} {f' : O → D → Option D} {a b : XO} : xIx f f' a b (x :: g) = bd (a (x :: g)) fun p => bd (b p.2) fun q => bd (view q.2 q.1) fun e => match p.1 with
  | .d d => mp (f d e) fun z => (.fr z, q.2)
  | .br i => match q.2[i]? with
    | some (some o) => mp (f' o e) fun z => (.fr z, q.2)
    | _ => none := (rfl)
@[simp] theorem ev_sNext : sNext (x :: g) = some (.nx (x :: g)) := (rfl)
@[simp] theorem ev_sBrk : sBrk (x :: g) = some (.bk (x :: g)) := (rfl)
@[simp] theorem ev_sCont : sCont (x :: g) = some (.ct (x :: g)) := (rfl)
@[simp] theorem ev_sSeq {a b : XS} : sSeq a b (x :: g) = bd (a (x :: g)) fun x => match x with
  | .nx g' => b g'
  | .rt o g' => some (.rt o g')
  | .bk g' => some (.bk g')
  | .ct g' => some (.ct g') := (rfl)
@[simp] theorem ev_sRet {m : XE} : sRet m (x :: g) = mp (m (x :: g)) fun p => .rt p.1 p.2 := (rfl)
@[simp] theorem ev_sRetN : sRetN (x :: g) = some (.rt (.fr .non) (x :: g)) := (rfl)
@[simp] theorem ev_sDrop {m : XE} : sDrop m (x :: g) = mp (m (x :: g)) fun p => .nx p.2 := (rfl)
@[simp] theorem ev_sIf {c : XT} {a b : XS} : sIf c a b (x :: g) = bd (c (x :: g)) fun p => if p.1 = true then a p.2 else b p.2 := (rfl)
@[simp] theorem ev_gN {i : Nat} {o : O} : gN i o (x :: g) = if i < (x :: g).length then some ((x :: g).set i (some o)) else none := (rfl)
@[simp] theorem ev_gsNil : gsNil [] (x :: g) = some (x :: g) := (rfl)
@[simp] theorem ev_gsCons {a : XG} {b : List D → G → Option G} {d : D} {r : List D} : gsCons a b (d :: r) (x :: g) = bd (a (.fr d) (x :: g)) fun g1 => b r g1 := (rfl)
@[simp] theorem ev_gTp {n : Nat} {b : List D → G → Option G} {ds : List D} : gTp n b (.fr (.tup ds)) (x :: g) = if ds.length = n then b ds (x :: g) else none := (rfl)
@[simp] theorem ev_sAsg {m : XE} {a : XG} : sAsg m a (x :: g) = bd (m (x :: g)) fun p => mp (a p.1 p.2) .nx := (rfl)
@[simp] theorem ev_sPar {i j : Nat} {m : XA} : sPar i j m (x :: g) = bd (m (x :: g)) fun p => bd (alld p.1) fun ds => match ds with
  | [d, e] => if i < p.2.length then some (.nx ((p.2.set i (some (.fr d))).set j (some (.fr e)))) else none
  | _ => none := (rfl)
@[simp] theorem ev_sFor {it : XI} {tg : XG} {body : XS} : sFor it tg body (x :: g) = bd (it (x :: g)) fun p => forL tg body p.1 p.2 := (rfl)
@[simp] theorem ev_iLst {m : XO} : iLst m (x :: g) = bd (m (x :: g)) fun p => match p.1 with
  | .d (.lst ds) => some (ds, p.2)
  | _ => none := (rfl)
@[simp] theorem ev_iTpl {m : XO} : iTpl m (x :: g) = bd (m (x :: g)) fun p => match p.1 with
  | .d (.tup ds) => some (ds, p.2)
  | _ => none := (rfl)
@[simp] theorem ev_iSeq {m : XO} : iSeq m (x :: g) = bd (m (x :: g)) fun p => match p.1 with
  | .d (.lst ds) => some (ds, p.2)
  | .d (.tup ds) => some (ds, p.2)
  | _ => none := (rfl)
@[simp] theorem ev_iR1 {m : XO} : iR1 m (x :: g) = bd (m (x :: g)) fun p => match view p.2 p.1 with
  | some (.int j) => if -(2 ^ 62) ≤ j ∧ j < 2 ^ 62 then some (rgD 0 j.toNat, p.2) else none
  | _ => none := (rfl)
@[simp] theorem ev_iR2 {a b : XO} : iR2 a b (x :: g) = bd (a (x :: g)) fun p => bd (b p.2) fun q => match view q.2 p.1, view q.2 q.1 with
  | some (.int i), some (.int j) => if (-(2 ^ 62) ≤ i ∧ i < 2 ^ 62) ∧ (-(2 ^ 62) ≤ j ∧ j < 2 ^ 62) then some (rgD i (j - i).toNat, q.2) else none
  | _, _ => none := (rfl)
@[simp] theorem pull_nil : pull [] g = some ([], g) := (rfl)
@[simp] theorem pull_d {d : D} {r : List Opd} : pull (.d d :: r) g = mp (pull r g) fun p => (.fr d :: p.1, p.2) := (rfl)
@[simp] theorem pull_br {i : Nat} {r : List Opd} : pull (.br i :: r) g = (match g[i]? with
    | some (some o) => mp (pull r (g.set i none)) fun p => (o :: p.1, p.2)
    | _ => none) := (rfl)
@[simp] theorem push_br {i : Nat} {r : List Opd} {o : O} {os : List O} : push (.br i :: r) (o :: os) g = (push r os g).set i (some o) := (rfl)
@[simp] theorem push_d {d : D} {r : List Opd} {o : O} {os : List O} : push (.d d :: r) (o :: os) g = push r os g := (rfl)
@[simp] theorem push_nil : push [] [] g = g := (rfl)
@[simp] theorem ev_xCall {f : List O → Option (O × List O)} {as : XA} : xCall f as (x :: g) = bd (as (x :: g)) fun p => bd (pull p.1 p.2) fun q => mp (f q.1) fun z => (z.1, push p.1 z.2 q.2) := (rfl)
@[simp] theorem ev_xIsi {f : D → Bool} {m : XO} : xIsi f m (x :: g) = bd (m (x :: g)) fun p => bd (view p.2 p.1) fun d => if isDT d = true then none else some (.fr (.bl (f d)), p.2) := (rfl)
@[simp] theorem ev_xApp {i : Nat} {m : XE} : xApp i m (x :: g) = (match (x :: g)[i]? with
  | some (some (.lst _)) => bd (m (x :: g)) fun p => match p.2[i]? with
    | some (some (.lst os)) => if os.length < sizeLine then some (.fr .non, p.2.set i (some (.lst (os ++ [p.1])))) else none
    | _ => none
  | _ => none) := (rfl)
@[simp] theorem ev_gSetL {i : Nat} {mi : XO} {o : O} : gSetL i mi o (x :: g) = (match (x :: g)[i]? with
  | some (some (.lst _)) => bd (mi (x :: g)) fun p => match view p.2 p.1, p.2[i]? with
    | some (.int k), some (some (.lst os)) => mp (ixN os.length k) fun j => p.2.set i (some (.lst (os.set j o)))
    | _, _ => none
  | _ => none) := (rfl)
@[simp] theorem ev_xJoined {ms : List XO} : xJoined ms (x :: g) = mp (xJs ms Str.empty (x :: g)) fun p => (.fr (.str p.1), p.2) := (rfl)
@[simp] theorem ev_xJs0 {acc : Str} : xJs [] acc (x :: g) = some (acc, x :: g) := (rfl)
@[simp] theorem ev_xJs {m : XO} {ms : List XO} {acc : Str} : xJs (m :: ms) acc (x :: g) = bd (m (x :: g)) fun p => match view p.2 p.1 with
    | some (.str y) => if (acc ++ y).length ≤ sizeLine then xJs ms (acc ++ y) p.2 else none
    | _ => none := (rfl)
@[simp] theorem ev_xMS {f : Str → List D → Option D} {a : XO} {as : XA} : xMS f a as (x :: g) = bd (a (x :: g)) fun p => match p.1 with
  | .d (.str s) => bd (as p.2) fun q => bd (views q.2 q.1) fun ds => mp (f s ds) fun z => (.fr z, q.2)
  | _ => none := (rfl)
@[simp] theorem ev_eLc {it : XI} {tg : XG} {tt : XT} {te : XE} {vs : List Nat} : eLc it tg tt te vs (x :: g) = bd (it (x :: g)) fun p => mp (lcL tg tt te vs p.1 p.2 []) fun q => (.lst q.1, restG p.2 (wipeG q.2 vs) vs) := (rfl)
theorem ev_runF {N n : Nat} {pin : List Nat} {body : XS} {os : List O} (h : os.length = n) : runF N n pin body os = bd (body (os.map some ++ List.replicate (N - n) none)) fun x => match x with
      | .rt r g => mp (outs pin g 0 os) fun os' => (r, os')
      | .nx g => mp (outs pin g 0 os) fun os' => (.fr .non, os')
      | _ => none := by
  unfold runF
  rw [if_pos h]
  rfl
@[simp] theorem outs_nil {pin : List Nat} {j : Nat} : outs pin g j [] = some [] := (rfl)
@[simp] theorem outs_cons {pin : List Nat} {j : Nat} {o : O} {os : List O} : outs pin g j (o :: os) = if j ∈ pin then (match g[j]? with
      | some (some o') => mp (outs pin g (j + 1) os) fun r => o' :: r
      | _ => none)
    else (match o with
      | .fr d => mp (outs pin g (j + 1) os) fun r => .fr d :: r
      | _ => none) := (rfl)
@[simp] theorem dTru_bl {b : Bool} : dTru (.bl b) = some b := (rfl)
@[simp] theorem dTru_int {i : Int} : dTru (.int i) = some (i != 0) := (rfl)
@[simp] theorem dTru_tup {ds : List D} : dTru (.tup ds) = some (!ds.isEmpty) := (rfl)
@[simp] theorem dTru_lst {ds : List D} : dTru (.lst ds) = some (!ds.isEmpty) := (rfl)
@[simp] theorem dTru_non : dTru .non = some false := (rfl)
@[simp] theorem dEq_int {i j : Int} : dEq (.int i) (.int j) = some (.bl (decide (i = j))) := (rfl)
@[simp] theorem dNe_int {i j : Int} : dNe (.int i) (.int j) = some (.bl (!decide (i = j))) := (rfl)
@[simp] theorem dEq_str {i j : Str} : dEq (.str i) (.str j) = some (.bl (decide (i = j))) := (rfl)
@[simp] theorem dNe_str {i j : Str} : dNe (.str i) (.str j) = some (.bl (!decide (i = j))) := (rfl)
@[simp] theorem dLt_int {i j : Int} : dLt (.int i) (.int j) = some (.bl (decide (i < j))) := (rfl)
@[simp] theorem dLe_int {i j : Int} : dLe (.int i) (.int j) = some (.bl (decide (i ≤ j))) := (rfl)
@[simp] theorem dGt_int {i j : Int} : dGt (.int i) (.int j) = some (.bl (decide (j < i))) := (rfl)
@[simp] theorem dGe_int {i j : Int} : dGe (.int i) (.int j) = some (.bl (decide (j ≤ i))) := (rfl)
@[simp] theorem dIsN_ev {d : D} : dIsN d .non = some (.bl (isNonD d)) := (rfl)
@[simp] theorem dNotN_ev {d : D} : dNotN d .non = some (.bl (!isNonD d)) := (rfl)
@[simp] theorem dIsB_ev {d : D} {b : Bool} : dIsB d (.bl b) = some (.bl (isBl d b)) := (rfl)
@[simp] theorem dNotB_ev {d : D} {b : Bool} : dNotB d (.bl b) = some (.bl (!isBl d b)) := (rfl)
@[simp] theorem dSub_int {i j : Int} : dSub (.int i) (.int j) = some (.int (i - j)) := (rfl)
@[simp] theorem dMod_int {i j : Int} : dMod (.int i) (.int j) = if j ≠ 0 then some (.int (i.fmod j)) else none := (rfl)
@[simp] theorem dFdiv_int {i j : Int} : dFdiv (.int i) (.int j) = if CDivX i j then some (.int (i.fdiv j)) else none := (rfl)
@[simp] theorem dPow_int {i j : Int} : dPow (.int i) (.int j) = if 0 ≤ j ∧ j ≤ 1000000 ∧ i.natAbs < 2 ^ 64 then some (.int (i ^ j.toNat)) else none := (rfl)
@[simp] theorem dNeg_int {i : Int} : dNeg (.int i) = some (.int (-i)) := (rfl)
@[simp] theorem dAdd_int {i j : Int} : dAdd (.int i) (.int j) = some (.fr (.int (i + j))) := (rfl)
@[simp] theorem dMul_int {i j : Int} : dMul (.int i) (.int j) = if mulOk i j = true then some (.fr (.int (i * j))) else none := (rfl)
@[simp] theorem dAbs_int {i : Int} : dAbs [.int i] = some (.int (if i < 0 then -i else i)) := (rfl)
@[simp] theorem dGcd_int {a b : Int} : dGcd [.int a, .int b] = some (.int ((Nat.gcd a.natAbs b.natAbs : Nat) : Int)) := (rfl)
@[simp] theorem dIntOf_int {a : Int} : dIntOf [.int a] = some (.int a) := (rfl)
@[simp] theorem dIntOf_bl {a : Bool} : dIntOf [.bl a] = some (.int (if a then 1 else 0)) := (rfl)
@[simp] theorem dLen_tup {es : List D} : dLen [.tup es] = some (.int (es.length : Nat)) := (rfl)
@[simp] theorem dLen_lst {es : List D} : dLen [.lst es] = some (.int (es.length : Nat)) := (rfl)
@[simp] theorem dLen_scr {es : List Int} : dLen [.scr es] = some (.int (es.length : Nat)) := (rfl)
@[simp] theorem dLen_str {s : Str} : dLen [.str s] = if s.length ≤ sizeLine then some (.int (s.length : Nat)) else none := (rfl)
@[simp] theorem dIx_tup {ds : List D} {i : Int} : dIx (.tup ds) (.int i) = atI ds i := (rfl)
@[simp] theorem dIx_lst {ds : List D} {i : Int} : dIx (.lst ds) (.int i) = atI ds i := (rfl)
@[simp] theorem dIx_scr {ds : List Int} {i : Int} : dIx (.scr ds) (.int i) = mp (atI ds i) .int := (rfl)
@[simp] theorem oIx_lst {os : List O} {i : Int} : oIx (.lst os) (.int i) = bd (atI os i) oFr := (rfl)
@[simp] theorem oFr_fr {d : D} : oFr (.fr d) = some d := (rfl)
@[simp] theorem isDT_bl {b : Bool} : isDT (.bl b) = false := (rfl)
@[simp] theorem isDT_int {b : Int} : isDT (.int b) = false := (rfl)
@[simp] theorem isDT_str {b : Str} : isDT (.str b) = false := (rfl)
@[simp] theorem isDT_tup {b : List D} : isDT (.tup b) = false := (rfl)
@[simp] theorem isDT_lst {b : List D} : isDT (.lst b) = false := (rfl)
@[simp] theorem isDT_scr {b : List Int} : isDT (.scr b) = false := (rfl)
@[simp] theorem isDT_non : isDT .non = false := (rfl)
@[simp] theorem isNonD_non : isNonD .non = true := (rfl)
@[simp] theorem isNonD_bl {b : Bool} : isNonD (.bl b) = false := (rfl)
@[simp] theorem isNonD_int {b : Int} : isNonD (.int b) = false := (rfl)
@[simp] theorem isNonD_str {b : Str} : isNonD (.str b) = false := (rfl)
@[simp] theorem isNonD_tup {b : List D} : isNonD (.tup b) = false := (rfl)
@[simp] theorem isNonD_lst {b : List D} : isNonD (.lst b) = false := (rfl)
@[simp] theorem isBl_bl {b c : Bool} : isBl (.bl c) b = (c == b) := (rfl)
@[simp] theorem isBl_int {b : Int} {c : Bool} : isBl (.int b) c = false := (rfl)
@[simp] theorem isBl_non {c : Bool} : isBl .non c = false := (rfl)
@[simp] theorem isBl_str {b : Str} {c : Bool} : isBl (.str b) c = false := (rfl)
@[simp] theorem isBl_tup {b : List D} {c : Bool} : isBl (.tup b) c = false := (rfl)
@[simp] theorem isBl_lst {b : List D} {c : Bool} : isBl (.lst b) c = false := (rfl)
@[simp] theorem wipeG_nil {g : G} : wipeG g [] = g := (rfl)
@[simp] theorem wipeG_cons {g : G} {v : Nat} {vs : List Nat} : wipeG g (v :: vs) = (wipeG g vs).set v none := (rfl)
@[simp] theorem restG_nil {g0 g : G} : restG g0 g [] = g := (rfl)
@[simp] theorem restG_cons {g0 g : G} {i : Nat} {vs : List Nat} : restG g0 g (i :: vs) = (match g0[i]? with
    | some (some (.fr d)) => (restG g0 g vs).set i (some (.fr d))
    | _ => restG g0 g vs) := (rfl)
@[simp] theorem lcL_nil {tg : XG} {tt : XT} {te : XE} {vs : List Nat} {g : G} {acc : List O} : lcL tg tt te vs [] g acc = some (acc, g) := (rfl)
@[simp] theorem lcL_cons {tg : XG} {tt : XT} {te : XE} {vs : List Nat} {d : D} {ds : List D} {acc : List O} : lcL tg tt te vs (d :: ds) (x :: g) acc = bd (tg (.fr d) (wipeG (x :: g) vs)) fun g1 => bd (tt g1) fun p => if p.1 = true then
      bd (te p.2) fun q => if acc.length < sizeLine then lcL tg tt te vs ds q.2 (acc ++ [q.1]) else none
    else lcL tg tt te vs ds p.2 acc := (rfl)
@[simp] theorem forL_nil {tg : XG} {body : XS} {g : G} : forL tg body [] g = some (.nx g) := (rfl)
@[simp] theorem forL_cons {tg : XG} {body : XS} {d : D} {ds : List D} : forL tg body (d :: ds) (x :: g) = bd (tg (.fr d) (x :: g)) fun g1 => bd (body g1) fun x => match x with
    | .nx g2 => forL tg body ds g2
    | .ct g2 => forL tg body ds g2
    | .bk g2 => some (.nx g2)
    | .rt o g2 => some (.rt o g2) := (rfl)
@[simp] theorem dEq_nil : dEq (.lst []) (.lst []) = some (.bl true) := (rfl)
@[simp] theorem dNe_nil : dNe (.lst []) (.lst []) = some (.bl false) := (rfl)
theorem atI_lt {α : Type} {ys : List α} {k : Nat} (h : k < ys.length) : atI ys (k : Int) = ys[k]? := by
  unfold atI ixN
  rw [if_pos (by omega), if_pos (by omega)]
  rfl
@[simp] theorem atI_0 {α : Type} {y : α} {ys : List α} : atI (y :: ys) 0 = some y := (atI_lt (k := 0) (by simp)).trans rfl
@[simp] theorem atI_1 {α : Type} {y z : α} {ys : List α} : atI (y :: z :: ys) 1 = some z := (atI_lt (k := 1) (by simp)).trans rfl
@[simp] theorem atI_2 {α : Type} {y z u : α} {ys : List α} : atI (y :: z :: u :: ys) 2 = some u := (atI_lt (k := 2) (by simp)).trans rfl
@[simp] theorem ixN_0 {n : Nat} : ixN (n + 1) 0 = some 0 := by
  unfold ixN
  rw [if_pos (by omega), if_pos (by omega)]
  rfl
@[simp] theorem ixN_1 {n : Nat} : ixN (n + 1 + 1) 1 = some 1 := by
  unfold ixN
  rw [if_pos (by omega), if_pos (by omega)]
  rfl
end
end Mi

set_option Elab.async false
set_option linter.all false
set_option maxRecDepth 100000
/-! Mi10: what a mirror answers, by what must hold of it. -/
namespace Mi
open PySem PySem.Spec PyProof.Rows L2
def Ev {α : Type} (o : Option α) (Q : α → Prop) : Prop := ∃ a, o = some a ∧ Q a
section
variable {α β : Type}
theorem Ev.mono {o : Option α} {Q R : α → Prop} (h : Ev o Q) (k : ∀ a, Q a → R a) : Ev o R := h.elim fun a z => ⟨a, z.1, k a z.2⟩
@[simp] theorem ev_some {a : α} {Q : α → Prop} : Ev (some a) Q ↔ Q a := ⟨fun ⟨b, e, q⟩ => by cases e; exact q, fun q => ⟨a, rfl, q⟩⟩
@[simp] theorem ev_none {Q : α → Prop} : Ev none Q ↔ False := ⟨fun ⟨b, e, q⟩ => by (cases e), False.elim⟩
@[simp ↓] theorem ev_bd {o : Option α} {f : α → Option β} {Q : β → Prop} : Ev (bd o f) Q ↔ Ev o fun a => Ev (f a) Q := by
  cases o with
  | none => exact ⟨fun ⟨b, e, q⟩ => by (cases e), fun ⟨b, e, q⟩ => by (cases e)⟩
  | some a => exact ⟨fun h => ⟨a, rfl, h⟩, fun ⟨b, e, q⟩ => by cases e; exact q⟩
@[simp ↓] theorem ev_mp {o : Option α} {f : α → β} {Q : β → Prop} : Ev (mp o f) Q ↔ Ev o fun a => Q (f a) := by
  cases o with
  | none => exact ⟨fun ⟨b, e, q⟩ => by (cases e), fun ⟨b, e, q⟩ => by (cases e)⟩
  | some a => exact ⟨fun ⟨b, e, q⟩ => by cases e; exact ⟨a, rfl, q⟩, fun ⟨b, e, q⟩ => by cases e; exact ⟨_, rfl, q⟩⟩
theorem ev_bind {o : Option α} {f : α → Option β} {Q : β → Prop} : Ev (o.bind f) Q ↔ Ev o fun a => Ev (f a) Q := ev_bd
@[simp] theorem ev_ifN {c : Prop} [Decidable c] {o : Option α} {Q : α → Prop} : Ev (if c then o else none) Q ↔ c ∧ Ev o Q := by
  by_cases h : c
  · rw [if_pos h]; exact ⟨fun q => ⟨h, q⟩, fun q => q.2⟩
  · rw [if_neg h]; exact ⟨fun q => (ev_none.mp q).elim, fun q => (h q.1).elim⟩
@[simp] theorem ev_Nif {c : Prop} [Decidable c] {o : Option α} {Q : α → Prop} : Ev (if c then none else o) Q ↔ ¬c ∧ Ev o Q := by
  by_cases h : c
  · rw [if_pos h]; exact ⟨fun q => (ev_none.mp q).elim, fun q => (q.1 h).elim⟩
  · rw [if_neg h]; exact ⟨fun q => ⟨h, q⟩, fun q => q.2⟩
theorem ev_if {c : Prop} [Decidable c] {o o' : Option α} {Q : α → Prop} : Ev (if c then o else o') Q ↔ if c then Ev o Q else Ev o' Q := by
  by_cases h : c
  · rw [if_pos h, if_pos h]
  · rw [if_neg h, if_neg h]
theorem Ev.ite {c : Prop} [Decidable c] {o o' : Option α} {Q : α → Prop} (h1 : c → Ev o Q) (h2 : ¬c → Ev o' Q) : Ev (if c then o else o') Q := by
  by_cases h : c
  · rw [if_pos h]; exact h1 h
  · rw [if_neg h]; exact h2 h
theorem Ev.of {o : Option α} {a : α} {Q : α → Prop} (e : o = some a) (q : Q a) : Ev o Q := ⟨a, e, q⟩
@[simp] theorem boolIf {p : Prop} [Decidable p] {c : Bool} {g : G} : (if p then some (O.fr (.bl c), g) else some (O.fr (.bl (decide p)), g)) = some (O.fr (.bl (decide p && c)), g) := by
  by_cases h : p <;> simp [h]
@[simp] theorem boolIfB {p c : Bool} {g : G} : (if p = true then some (O.fr (.bl c), g) else some (O.fr (.bl p), g)) = some (O.fr (.bl (p && c)), g) := by
  cases p <;> rfl
@[simp] theorem boolIfO {p : Prop} [Decidable p] {c : Bool} {g : G} : (if p then some (O.fr (.bl (decide p)), g) else some (O.fr (.bl c), g)) = some (O.fr (.bl (decide p || c)), g) := by
  by_cases h : p <;> simp [h]
@[simp] theorem boolIfOB {p c : Bool} {g : G} : (if p = true then some (O.fr (.bl p), g) else some (O.fr (.bl c), g)) = some (O.fr (.bl (p || c)), g) := by
  cases p <;> rfl
end

/-- how a turn ends: on, with P -/
def Goes (P : G → Prop) : Out → Prop
  | .nx g => P g
  | .ct g => P g
  | .bk g => P g
  | .rt _ _ => False
@[simp] theorem goes_nx {P : G → Prop} {g : G} : Goes P (.nx g) ↔ P g := .rfl
@[simp] theorem goes_ct {P : G → Prop} {g : G} : Goes P (.ct g) ↔ P g := .rfl
@[simp] theorem goes_bk {P : G → Prop} {g : G} : Goes P (.bk g) ↔ P g := .rfl
@[simp] theorem goes_rt {P : G → Prop} {g : G} {o : O} : Goes P (.rt o g) ↔ False := .rfl
/-- a loop that is never left by return -/
theorem forL_goes {tg : XG} {body : XS} {P : G → Prop} : ∀ {ds : List D} {g : G}, P g → (∀ d ∈ ds, ∀ g, P g → Ev (tg (.fr d) g) fun g1 => Ev (body g1) (Goes P)) → Ev (forL tg body ds g) fun x => ∃ g', x = .nx g' ∧ P g'
  | [], g, p, _ => ⟨_, rfl, g, rfl, p⟩
  | d :: ds, g, p, h => by
    obtain ⟨g1, e1, x, e2, q⟩ := h d (.head _) g p
    have h' := fun d' hd => h d' (.tail _ hd)
    cases x with
    | nx g2 =>
      obtain ⟨y, e3, k⟩ := forL_goes (ds := ds) (g := g2) q h'
      exact ⟨y, by show (tg (.fr d) g).bind _ = _; rw [e1]; show (body g1).bind _ = _; rw [e2]; exact e3, k⟩
    | ct g2 =>
      obtain ⟨y, e3, k⟩ := forL_goes (ds := ds) (g := g2) q h'
      exact ⟨y, by show (tg (.fr d) g).bind _ = _; rw [e1]; show (body g1).bind _ = _; rw [e2]; exact e3, k⟩
    | bk g2 => exact ⟨.nx g2, by show (tg (.fr d) g).bind _ = _; rw [e1]; show (body g1).bind _ = _; rw [e2]; rfl, g2, rfl, q⟩
    | rt o g2 => exact q.elim
/-- how a turn of a loop ends that is gone through -/
def Turn (P : G → Prop) : Out → Prop
  | .nx g => P g
  | .ct g => P g
  | .bk _ => False
  | .rt _ _ => False
@[simp] theorem turn_nx {P : G → Prop} {g : G} : Turn P (.nx g) ↔ P g := .rfl
@[simp] theorem turn_ct {P : G → Prop} {g : G} : Turn P (.ct g) ↔ P g := .rfl
@[simp] theorem turn_bk {P : G → Prop} {g : G} : Turn P (.bk g) ↔ False := .rfl
@[simp] theorem turn_rt {P : G → Prop} {g : G} {o : O} : Turn P (.rt o g) ↔ False := .rfl
theorem forL_from {tg : XG} {body : XS} {P : Nat → G → Prop} : ∀ {ds : List D} {n : Nat} {g : G}, P n g → (∀ k (hk : k < ds.length) g, P (n + k) g → Ev (tg (.fr ds[k]) g) fun g1 => Ev (body g1) (Turn (P (n + k + 1)))) → Ev (forL tg body ds g) fun x => ∃ g', x = .nx g' ∧ P (n + ds.length) g'
  | [], n, g, p, _ => ⟨_, rfl, g, rfl, p⟩
  | d :: ds, n, g, p, h => by
    obtain ⟨g1, e1, x, e2, q⟩ := h 0 (Nat.zero_lt_succ _) g p
    have e1 : tg (.fr d) g = some g1 := e1
    have h' : ∀ {g2 : G}, P (n + 1) g2 → Ev (forL tg body ds g2) fun x => ∃ g', x = .nx g' ∧ P (n + (d :: ds).length) g' := fun {g2} q => by
      have := forL_from (tg := tg) (body := body) (P := P) (ds := ds) (n := n + 1) (g := g2) q fun k hk g pk => by
        have := h (k + 1) (Nat.succ_lt_succ hk) g (by rw [← Nat.add_assoc, Nat.add_right_comm]; exact pk)
        rw [List.getElem_cons_succ] at this
        rw [show n + 1 + k + 1 = n + (k + 1) + 1 by omega]
        exact this
      rw [List.length_cons, show n + (ds.length + 1) = n + 1 + ds.length by omega]
      exact this
    cases x with
    | nx g2 =>
      obtain ⟨y, e3, k⟩ := h' q
      exact ⟨y, by show (tg (.fr d) g).bind _ = _; rw [e1]; show (body g1).bind _ = _; rw [e2]; exact e3, k⟩
    | ct g2 =>
      obtain ⟨y, e3, k⟩ := h' q
      exact ⟨y, by show (tg (.fr d) g).bind _ = _; rw [e1]; show (body g1).bind _ = _; rw [e2]; exact e3, k⟩
    | bk g2 => exact q.elim
    | rt o g2 => exact q.elim
/-- a loop gone through, by its turns -/
theorem forL_idx {tg : XG} {body : XS} {P : Nat → G → Prop} {ds : List D} {g : G} (h0 : P 0 g) (h : ∀ k (hk : k < ds.length) g, P k g → Ev (tg (.fr ds[k]) g) fun g1 => Ev (body g1) (Turn (P (k + 1)))) : Ev (forL tg body ds g) fun x => ∃ g', x = .nx g' ∧ P ds.length g' := by
  have := forL_from (n := 0) h0 fun k hk g p => by
    have := h k hk g (by rw [Nat.zero_add] at p; exact p)
    rw [Nat.zero_add]
    exact this
  rw [Nat.zero_add] at this
  exact this
theorem rgD_get {lo : Int} {n k : Nat} (h : k < (rgD lo n).length) : (rgD lo n)[k] = .int (lo + k) := by
  simp [rgD]
/-- a range gone through -/
theorem forR {tg : XG} {body : XS} {P : Nat → G → Prop} {lo : Int} {n : Nat} {g : G} (h0 : P 0 g) (h : ∀ (k : Nat) (i : Int), k < n → i = lo + k → ∀ g, P k g → Ev (tg (.fr (.int i)) g) fun g1 => Ev (body g1) (Turn (P (k + 1)))) : Ev (forL tg body (rgD lo n) g) fun x => ∃ g', x = .nx g' ∧ P n g' := by
  have := forL_idx (ds := rgD lo n) h0 fun k hk g p => by
    rw [rgD_get hk]
    exact h k _ (by unfold rgD at hk; rw [List.length_map, List.length_range] at hk; exact hk) rfl g p
  rw [show (rgD lo n).length = n by unfold rgD; rw [List.length_map, List.length_range]] at this
  exact this
/-- a list comprehension: what it lists -/
theorem lcL_go {tg : XG} {tt : XT} {te : XE} {vs : List Nat} {P : G → Prop} {f : D → Option O} : ∀ {ds : List D} {g : G} {acc : List O}, P g → (∀ d ∈ ds, ∀ g, P g → Ev (tg (.fr d) (wipeG g vs)) fun g1 => Ev (tt g1) fun p => (p.1 = true → Ev (te p.2) fun q => f d = some q.1 ∧ P q.2) ∧ (p.1 = false → f d = none ∧ P p.2)) → acc.length + ds.length ≤ sizeLine → Ev (lcL tg tt te vs ds g acc) fun q => q.1 = acc ++ ds.filterMap f ∧ P q.2
  | [], g, acc, p, _, _ => ⟨_, rfl, by simp, p⟩
  | d :: ds, g, acc, p, h, hl => by
    obtain ⟨g1, e1, ⟨b, g2⟩, e2, k1, k2⟩ := h d (.head _) g p
    have h' := fun d' hd => h d' (.tail _ hd)
    rw [List.length_cons] at hl
    cases b with
    | true =>
      obtain ⟨⟨o, g3⟩, e3, ef, p3⟩ := k1 rfl
      obtain ⟨y, e4, k⟩ := lcL_go (ds := ds) (g := g3) (acc := acc ++ [o]) p3 h' (by simp; omega)
      refine ⟨y, ?_, ?_, k.2⟩
      · show (tg (.fr d) (wipeG g vs)).bind _ = _
        rw [e1]
        show (tt g1).bind _ = _
        rw [e2]
        show (te g2).bind _ = _
        rw [e3]
        show (if acc.length < sizeLine then _ else none) = _
        rw [if_pos (by omega)]
        exact e4
      · rw [k.1, List.filterMap_cons_some ef]
        simp
    | false =>
      obtain ⟨ef, p3⟩ := k2 rfl
      obtain ⟨y, e4, k⟩ := lcL_go (ds := ds) (g := g2) (acc := acc) p3 h' (by omega)
      refine ⟨y, ?_, ?_, k.2⟩
      · show (tg (.fr d) (wipeG g vs)).bind _ = _
        rw [e1]
        show (tt g1).bind _ = _
        rw [e2]
        exact e4
      · rw [k.1, List.filterMap_cons_none ef]
/-- a while, by a measure -/
theorem while_go {c : XT} {b : XS} (I : Nat → G → Prop) (Q : Out → Prop) (h : ∀ n g, I n g → Ev (c g) fun p => if p.1 = true then Ev (b p.2) (fun x => match x with
      | .nx g' => ∃ m, m < n ∧ I m g'
      | .ct g' => ∃ m, m < n ∧ I m g'
      | .bk g' => Q (.nx g')
      | .rt o g' => Q (.rt o g')) else Q (.nx p.2)) {n : Nat} {g : G} (i : I n g) : Ev (sWhile c b g) Q := by
  suffices hs : ∀ n g, I n g → ∃ out m, WhN c b m g out ∧ Q out by
    obtain ⟨out, m, w, q⟩ := hs n g i
    exact ⟨out, sWhile_eq w, q⟩
  intro n
  induction n using Nat.strongRecOn with
  | ind n ih =>
    intro g i
    obtain ⟨⟨k, g1⟩, e1, k1⟩ := h n g i
    cases k with
    | false =>
      rw [if_neg (by intro z; cases z)] at k1
      exact ⟨_, 0, .done e1, k1⟩
    | true =>
      rw [if_pos rfl] at k1
      obtain ⟨x, e2, k2⟩ := k1
      cases x with
      | nx g2 =>
        obtain ⟨m, hm, i2⟩ := k2
        obtain ⟨out, m2, w, q⟩ := ih m hm g2 i2
        exact ⟨out, m2 + 1, .next e1 e2 w, q⟩
      | ct g2 =>
        obtain ⟨m, hm, i2⟩ := k2
        obtain ⟨out, m2, w, q⟩ := ih m hm g2 i2
        exact ⟨out, m2 + 1, .cont e1 e2 w, q⟩
      | bk g2 => exact ⟨_, 0, .brk e1 e2, k2⟩
      | rt o g2 => exact ⟨_, 0, .ret e1 e2, k2⟩
theorem mem_rgD {lo : Int} {n : Nat} {d : D} : d ∈ rgD lo n ↔ ∃ k : Nat, k < n ∧ d = .int (lo + k) := by
  unfold rgD
  rw [List.mem_map]
  constructor
  · rintro ⟨k, hk, rfl⟩
    exact ⟨k, List.mem_range.mp hk, rfl⟩
  · rintro ⟨k, hk, rfl⟩
    exact ⟨k, List.mem_range.mpr hk, rfl⟩
theorem rgD_len {lo : Int} {n : Nat} : (rgD lo n).length = n := by
  unfold rgD
  rw [List.length_map, List.length_range]
@[simp] theorem isInt_int {i : Int} : Mi.isInt (.int i) = true := rfl
@[simp] theorem isInt_bl {i : Bool} : Mi.isInt (.bl i) = true := rfl
@[simp] theorem isInt_str {i : Str} : Mi.isInt (.str i) = false := rfl
@[simp] theorem isInt_tup {i : List D} : Mi.isInt (.tup i) = false := rfl
@[simp] theorem isInt_lst {i : List D} : Mi.isInt (.lst i) = false := rfl
@[simp] theorem isInt_non : Mi.isInt .non = false := rfl
@[simp] theorem isBool_int {i : Int} : isBool (.int i) = false := rfl
@[simp] theorem isBool_bl {i : Bool} : isBool (.bl i) = true := rfl
@[simp] theorem isBool_str {i : Str} : isBool (.str i) = false := rfl
@[simp] theorem isBool_tup {i : List D} : isBool (.tup i) = false := rfl
@[simp] theorem isBool_lst {i : List D} : isBool (.lst i) = false := rfl
@[simp] theorem isBool_non : isBool .non = false := rfl
@[simp] theorem isStr_int {i : Int} : isStr (.int i) = false := rfl
@[simp] theorem isStr_bl {i : Bool} : isStr (.bl i) = false := rfl
@[simp] theorem isStr_str {i : Str} : isStr (.str i) = true := rfl
@[simp] theorem isStr_tup {i : List D} : isStr (.tup i) = false := rfl
@[simp] theorem isStr_lst {i : List D} : isStr (.lst i) = false := rfl
@[simp] theorem isStr_non : isStr .non = false := rfl
@[simp] theorem isTup_int {i : Int} : isTup (.int i) = false := rfl
@[simp] theorem isTup_bl {i : Bool} : isTup (.bl i) = false := rfl
@[simp] theorem isTup_str {i : Str} : isTup (.str i) = false := rfl
@[simp] theorem isTup_tup {i : List D} : isTup (.tup i) = true := rfl
@[simp] theorem isTup_lst {i : List D} : isTup (.lst i) = false := rfl
@[simp] theorem isTup_non : isTup .non = false := rfl
@[simp] theorem isLst_int {i : Int} : isLst (.int i) = false := rfl
@[simp] theorem isLst_bl {i : Bool} : isLst (.bl i) = false := rfl
@[simp] theorem isLst_str {i : Str} : isLst (.str i) = false := rfl
@[simp] theorem isLst_tup {i : List D} : isLst (.tup i) = false := rfl
@[simp] theorem isLst_lst {i : List D} : isLst (.lst i) = true := rfl
@[simp] theorem isLst_non : isLst .non = false := rfl
@[simp] theorem mulOk_l {i j : Int} (h : -(2 ^ 64) < i ∧ i < 2 ^ 64) : mulOk i j = true := by
  unfold mulOk
  rw [decide_eq_true h]
  rfl
@[simp] theorem mulOk_r {i j : Int} (h : -(2 ^ 64) < j ∧ j < 2 ^ 64) : mulOk i j = true := by
  unfold mulOk
  rw [decide_eq_true h]
  simp
theorem log2_lt {n k : Nat} (h : n < 2 ^ k) (hk : 0 < k) : n.log2 < k := by
  by_cases h0 : n = 0
  · subst h0
    exact hk
  · exact (Nat.log2_lt h0).mpr h
theorem mulOk_big {i j : Int} (hi : i.natAbs < 2 ^ 400000) (hj : j.natAbs < 2 ^ 400000) : mulOk i j = true := by
  unfold mulOk
  have a := log2_lt hi (by decide)
  have b := log2_lt hj (by decide)
  have : decide (i.natAbs.log2 + j.natAbs.log2 < 1000000) = true := decide_eq_true (by omega)
  rw [this]
  simp
theorem cdiv_ok {i j : Int} (h0 : j ≠ 0) (hj : j.natAbs < 2 ^ 9000) : CDivX i j := ⟨h0, log2_lt hj (by decide)⟩
@[simp] theorem one_size : 1 ≤ sizeLine := by decide
@[simp] theorem two_size : 2 ≤ sizeLine := by decide
@[simp] theorem small_size {n : Nat} (h : n ≤ 10000) : n ≤ sizeLine := Nat.le_trans h (by decide)
theorem lawOk_of {f : List O → Option (O × List O)} (h : ∀ ns : List Int, ScrOk ns → Ev (f [.fr (.scr ns)]) fun p => p.1 = .fr (.bl true)) : LawOk f := fun ns k => by
  obtain ⟨⟨o, os⟩, e, q⟩ := h ns k
  cases q
  exact ⟨os, e⟩
end Mi


set_option Elab.async false
set_option linter.all false
set_option maxRecDepth 100000
set_option maxHeartbeats 4000000
namespace Lw
open PySem PySem.Spec PyProof.Rows L2 Mi
def b_is_number : XS :=
  (sRet (xAndV (oE (xIsi isInt (oVar 0))) (xNotV (oE (xIsi isBool (oVar 0))))))
def m_is_number : List O → Option (O × List O) := runF 1 1 [0] b_is_number
theorem m_len_is_number {os : List O} {r : O × List O} (e : m_is_number os = some r) : os.length = 1 ∧ r.2.length = 1 := runF_len e
def b_is_ratio : XS :=
  (sSeq (sIf (xOr (xNot (xTru (oE (xIsi isTup (oVar 0))))) (xB (oE (xS2 dNe (oE (xSN dLen (aCons (oVar 0) aNil))) (oE (eC (.int 2))))))) (sRet (eC (.bl false))) sNext)
    (sSeq (sAsg (eVar 0) (gTp 2 (gsCons (gN 1) (gsCons (gN 2) gsNil))))
    (sRet (xAndV (oE (xCall m_is_number (aCons (oVar 1) aNil))) (xAndV (oE (xCall m_is_number (aCons (oVar 2) aNil))) (xAndV (oE (xS2 dGe (oVar 2) (oE (eC (.int 1))))) (xS2 dEq (oE (xSN dGcd (aCons (oVar 1) (aCons (oVar 2) aNil)))) (oE (eC (.int 1))))))))))
def m_is_ratio : List O → Option (O × List O) := runF 3 1 [0] b_is_ratio
theorem m_len_is_ratio {os : List O} {r : O × List O} (e : m_is_ratio os = some r) : os.length = 1 ∧ r.2.length = 1 := runF_len e
def b_is_typed : XS :=
  (sRet (xAndV (oE (xCall m_is_ratio (aCons (oVar 0) aNil))) (xAndV (oE (xS2 dLe (oE (xSN dAbs (aCons (oE (xIx dIx oIx (oVar 0) (oE (eC (.int 0))))) aNil))) (oE (eC (.int 1000000))))) (xS2 dLe (oE (xIx dIx oIx (oVar 0) (oE (eC (.int 1))))) (oE (eC (.int 1000)))))))
def m_is_typed : List O → Option (O × List O) := runF 1 1 [0] b_is_typed
theorem m_len_is_typed {os : List O} {r : O × List O} (e : m_is_typed os = some r) : os.length = 1 ∧ r.2.length = 1 := runF_len e
def b_ratio : XS :=
  (sSeq (sAsg (xSN dGcd (aCons (oVar 0) (aCons (oVar 1) aNil))) (gN 2))
    (sSeq (sIf (xB (oE (xS2 dLt (oVar 1) (oE (eC (.int 0)))))) (sAsg (xS1 dNeg (oVar 2)) (gN 2)) sNext)
    (sRet (xTup (aCons (oE (xS2 dFdiv (oVar 0) (oVar 2))) (aCons (oE (xS2 dFdiv (oVar 1) (oVar 2))) aNil))))))
def m_ratio : List O → Option (O × List O) := runF 3 2 [0, 1] b_ratio
theorem m_len_ratio {os : List O} {r : O × List O} (e : m_ratio os = some r) : os.length = 2 ∧ r.2.length = 2 := runF_len e
def b_plus : XS :=
  (sRet (xCall m_ratio (aCons (oE (xA2 dAdd (oE (xA2 dMul (oE (xIx dIx oIx (oVar 0) (oE (eC (.int 0))))) (oE (xIx dIx oIx (oVar 1) (oE (eC (.int 1))))))) (oE (xA2 dMul (oE (xIx dIx oIx (oVar 1) (oE (eC (.int 0))))) (oE (xIx dIx oIx (oVar 0) (oE (eC (.int 1))))))))) (aCons (oE (xA2 dMul (oE (xIx dIx oIx (oVar 0) (oE (eC (.int 1))))) (oE (xIx dIx oIx (oVar 1) (oE (eC (.int 1))))))) aNil))))
def m_plus : List O → Option (O × List O) := runF 2 2 [0, 1] b_plus
theorem m_len_plus {os : List O} {r : O × List O} (e : m_plus os = some r) : os.length = 2 ∧ r.2.length = 2 := runF_len e
def b_minus : XS :=
  (sRet (xCall m_ratio (aCons (oE (xS2 dSub (oE (xA2 dMul (oE (xIx dIx oIx (oVar 0) (oE (eC (.int 0))))) (oE (xIx dIx oIx (oVar 1) (oE (eC (.int 1))))))) (oE (xA2 dMul (oE (xIx dIx oIx (oVar 1) (oE (eC (.int 0))))) (oE (xIx dIx oIx (oVar 0) (oE (eC (.int 1))))))))) (aCons (oE (xA2 dMul (oE (xIx dIx oIx (oVar 0) (oE (eC (.int 1))))) (oE (xIx dIx oIx (oVar 1) (oE (eC (.int 1))))))) aNil))))
def m_minus : List O → Option (O × List O) := runF 2 2 [0, 1] b_minus
theorem m_len_minus {os : List O} {r : O × List O} (e : m_minus os = some r) : os.length = 2 ∧ r.2.length = 2 := runF_len e
def b_product : XS :=
  (sRet (xCall m_ratio (aCons (oE (xA2 dMul (oE (xIx dIx oIx (oVar 0) (oE (eC (.int 0))))) (oE (xIx dIx oIx (oVar 1) (oE (eC (.int 0))))))) (aCons (oE (xA2 dMul (oE (xIx dIx oIx (oVar 0) (oE (eC (.int 1))))) (oE (xIx dIx oIx (oVar 1) (oE (eC (.int 1))))))) aNil))))
def m_product : List O → Option (O × List O) := runF 2 2 [0, 1] b_product
theorem m_len_product {os : List O} {r : O × List O} (e : m_product os = some r) : os.length = 2 ∧ r.2.length = 2 := runF_len e
def b_quotient : XS :=
  (sRet (xCall m_ratio (aCons (oE (xA2 dMul (oE (xIx dIx oIx (oVar 0) (oE (eC (.int 0))))) (oE (xIx dIx oIx (oVar 1) (oE (eC (.int 1))))))) (aCons (oE (xA2 dMul (oE (xIx dIx oIx (oVar 0) (oE (eC (.int 1))))) (oE (xIx dIx oIx (oVar 1) (oE (eC (.int 0))))))) aNil))))
def m_quotient : List O → Option (O × List O) := runF 2 2 [0, 1] b_quotient
theorem m_len_quotient {os : List O} {r : O × List O} (e : m_quotient os = some r) : os.length = 2 ∧ r.2.length = 2 := runF_len e
def b_compare : XS :=
  (sSeq (sAsg (xA2 dMul (oE (xIx dIx oIx (oVar 0) (oE (eC (.int 0))))) (oE (xIx dIx oIx (oVar 1) (oE (eC (.int 1)))))) (gN 2))
    (sSeq (sAsg (xA2 dMul (oE (xIx dIx oIx (oVar 1) (oE (eC (.int 0))))) (oE (xIx dIx oIx (oVar 0) (oE (eC (.int 1)))))) (gN 3))
    (sSeq (sIf (xB (oE (xS2 dEq (oVar 2) (oVar 3)))) (sRet (eC (.int 0))) sNext)
    (sRet (xIf (xB (oE (xS2 dLt (oVar 2) (oVar 3)))) (xS1 dNeg (oE (eC (.int 1)))) (eC (.int 1)))))))
def m_compare : List O → Option (O × List O) := runF 4 2 [0, 1] b_compare
theorem m_len_compare {os : List O} {r : O × List O} (e : m_compare os = some r) : os.length = 2 ∧ r.2.length = 2 := runF_len e
def b_write_ratio : XS :=
  (sSeq (sIf (xB (oE (xS2 dEq (oE (xIx dIx oIx (oVar 0) (oE (eC (.int 1))))) (oE (eC (.int 1)))))) (sRet (xS1 dFmt (oE (xIx dIx oIx (oVar 0) (oE (eC (.int 0))))))) sNext)
    (sRet (xJoined [(oE (xS1 dFmt (oE (xIx dIx oIx (oVar 0) (oE (eC (.int 0))))))), (oE (eC (.str (PySem.Str.ofString "/")))), (oE (xS1 dFmt (oE (xIx dIx oIx (oVar 0) (oE (eC (.int 1)))))))])))
def m_write_ratio : List O → Option (O × List O) := runF 1 1 [0] b_write_ratio
theorem m_len_write_ratio {os : List O} {r : O × List O} (e : m_write_ratio os = some r) : os.length = 1 ∧ r.2.length = 1 := runF_len e
def b__law_cell : XS :=
  (sSeq (sIf (xB (oE (xS2 dLt (oVar 1) (oE (xSN dLen (aCons (oVar 0) aNil)))))) (sRet (xIx dIx oIx (oVar 0) (oVar 1))) sNext)
    (sRet (eC (.int 0))))
def m__law_cell : List O → Option (O × List O) := runF 2 2 [0, 1] b__law_cell
theorem m_len__law_cell {os : List O} {r : O × List O} (e : m__law_cell os = some r) : os.length = 2 ∧ r.2.length = 2 := runF_len e
def b__law_digits_2 : XS :=
  (sIf (xB (oE (xS2 dGt (oVar 5) (oE (eC (.int 0)))))) (sSeq (sDrop (xApp 3 (xS2 dMod (oE (xSN dIntOf (aCons (oVar 5) aNil))) (oE (eC (.int 1000))))))
    (sAsg (xS2 dFdiv (oVar 5) (oE (eC (.int 1000)))) (gN 5))) sNext)
def b__law_digits_3 : XS :=
  (sSeq (sAsg (xS2 dMod (oE (xSN dIntOf (aCons (oE (xA2 dAdd (oE (xA2 dAdd (oE (xA2 dMul (oE (eVar 7)) (oE (eC (.int 16807))))) (oE (xA2 dMul (oE (eC (.int 7))) (oE (eVar 6)))))) (oE (eC (.int 1))))) aNil))) (oE (eC (.int 2147483647)))) (gN 7))
    (sDrop (xApp 3 (xS2 dMod (oE (xSN dIntOf (aCons (oE (xS2 dFdiv (oVar 7) (oE (eC (.int 997))))) aNil))) (oE (eC (.int 1000)))))))
def b__law_digits_1 : XS :=
  (sSeq (sAsg (xCall m__law_cell (aCons (oVar 0) (aCons (oVar 4) aNil))) (gN 5))
    (sSeq (sIf (xB (oE (xS2 dLt (oVar 5) (oE (eC (.int 0)))))) (sAsg (xS2 dSub (oE (eC (.int 1))) (oE (xA2 dMul (oE (eC (.int 2))) (oE (eVar 5))))) (gN 5)) sNext)
    (sSeq (sIf (xB (oE (xS2 dGt (oE (xSN dLen (aCons (oVar 3) aNil))) (oE (eC (.int 1500)))))) sBrk sNext)
    (sIf (xB (oE (xS2 dGe (oVar 5) (oE (xS2 dPow (oE (eC (.int 10))) (oE (eC (.int 18)))))))) (sFor (iR1 (oE (eC (.int 60)))) (gN 6) b__law_digits_2) (sSeq (sAsg (xS2 dMod (oE (xSN dIntOf (aCons (oE (xA2 dAdd (oE (xA2 dAdd (oE (xA2 dMul (oE (eVar 5)) (oE (eC (.int 48271))))) (oE (xA2 dMul (oE (eVar 4)) (oE (eC (.int 69621))))))) (oE (eC (.int 11))))) aNil))) (oE (eC (.int 2147483647)))) (gN 7))
    (sFor (iR1 (oE (eC (.int 12)))) (gN 6) b__law_digits_3))))))
def b__law_digits : XS :=
  (sSeq (sAsg (xLst aNil) (gN 3))
    (sSeq (sFor (iR2 (oVar 1) (oVar 2)) (gN 4) b__law_digits_1)
    (sRet (eMove 3))))
def m__law_digits : List O → Option (O × List O) := runF 8 3 [0, 1, 2] b__law_digits
theorem m_len__law_digits {os : List O} {r : O × List O} (e : m__law_digits os = some r) : os.length = 3 ∧ r.2.length = 3 := runF_len e
def b__law_draw : XS :=
  (sSeq (sAsg (xIx dIx oIx (oVar 0) (oE (eC (.int 1)))) (gN 2))
    (sSeq (sAsg (xA2 dAdd (oE (eVar 2)) (oE (eC (.int 1)))) (gSetL 0 (oE (eC (.int 1)))))
    (sSeq (sIf (xB (oE (xS2 dLt (oVar 2) (oE (xSN dLen (aCons (oE (xIx dIx oIx (oVar 0) (oE (eC (.int 0))))) aNil)))))) (sRet (xS2 dMod (oE (xSN dIntOf (aCons (oE (xIx dIx oIx (oE (xIx dIx oIx (oVar 0) (oE (eC (.int 0))))) (oVar 2))) aNil))) (oVar 1))) sNext)
    (sRet (xS2 dMod (oE (xSN dIntOf (aCons (oE (xA2 dMul (oE (eVar 2)) (oE (eC (.int 7))))) aNil))) (oVar 1))))))
def m__law_draw : List O → Option (O × List O) := runF 3 2 [0, 1] b__law_draw
theorem m_len__law_draw {os : List O} {r : O × List O} (e : m__law_draw os = some r) : os.length = 2 ∧ r.2.length = 2 := runF_len e
def b__law_pick : XS :=
  (sRet (xIx dIx oIx (oVar 1) (oE (xS2 dMod (oE (xSN dIntOf (aCons (oE (xCall m__law_draw (aCons (oVar 0) (aCons (oE (eC (.int 900))) aNil)))) aNil))) (oE (xSN dLen (aCons (oVar 1) aNil)))))))
def m__law_pick : List O → Option (O × List O) := runF 2 2 [0, 1] b__law_pick
theorem m_len__law_pick {os : List O} {r : O × List O} (e : m__law_pick os = some r) : os.length = 2 ∧ r.2.length = 2 := runF_len e
def b__law_like (m__law_like : Nat → List O → Option (O × List O)) (n : Nat) : XS :=
  (sSeq (sIf (xTru (oE (xIsi isTup (oVar 1)))) (sSeq (sIf (xOr (xNot (xTru (oE (xIsi isTup (oVar 0))))) (xB (oE (xS2 dNe (oE (xSN dLen (aCons (oVar 0) aNil))) (oE (xSN dLen (aCons (oVar 1) aNil))))))) (sRet (eC (.bl false))) sNext)
    (sRet (xS2 dEq (oE (eLc (iR1 (oE (xSN dLen (aCons (oVar 1) aNil)))) (gN 2) (xNot (xTru (oE (xCall (m__law_like n) (aCons (oE (xIx dIx oIx (oVar 0) (oVar 2))) (aCons (oE (xIx dIx oIx (oVar 1) (oVar 2))) aNil)))))) (eC (.int 1)) [2])) (oE (xLst aNil))))) sNext)
    (sSeq (sIf (xB (oE (xS2 dIsN (oVar 1) (oE (eC .non))))) (sRet (xS2 dIsN (oVar 0) (oE (eC .non)))) sNext)
    (sSeq (sIf (xB (oE (xS2 dIsB (oVar 1) (oE (eC (.bl true)))))) (sRet (xS2 dIsB (oVar 0) (oE (eC (.bl true))))) sNext)
    (sSeq (sIf (xB (oE (xS2 dIsB (oVar 1) (oE (eC (.bl false)))))) (sRet (xS2 dIsB (oVar 0) (oE (eC (.bl false))))) sNext)
    (sSeq (sIf (xTru (oE (xIsi isStr (oVar 1)))) (sRet (xAndV (oE (xIsi isStr (oVar 0))) (xS2 dEq (oE (xMS dJoin (oE (eC (.str (PySem.Str.ofString "")))) (aCons (oE (xLst (aCons (oE (eVar 0)) aNil))) aNil))) (oVar 1)))) sNext)
    (sRet (xAndV (oE (xIsi isInt (oVar 0))) (xAndV (oE (xNotV (oE (xIsi isBool (oVar 0))))) (xS2 dEq (oVar 0) (oVar 1))))))))))
def m__law_like : Nat → List O → Option (O × List O)
  | 0 => fun _ => none
  | n + 1 => runF 3 2 [0, 1] (b__law_like (fun _ => m__law_like n) n)
theorem m_len__law_like : ∀ (n : Nat) {os : List O} {r : O × List O}, m__law_like n os = some r → os.length = 2 ∧ r.2.length = 2
  | 0, _, _, e => by cases e
  | n + 1, _, _, e => runF_len e
def m__law_like_8 : List O → Option (O × List O) := m__law_like 8
theorem m_len__law_like_8 {os : List O} {r : O × List O} (e : m__law_like_8 os = some r) : os.length = 2 ∧ r.2.length = 2 := m_len__law_like 8 e
noncomputable def b__law_gcd_1 : XS :=
  (sPar 0 1 (aCons (oE (eVar 1)) (aCons (oE (xS2 dMod (oE (xSN dIntOf (aCons (oVar 0) aNil))) (oVar 1))) aNil)))
noncomputable def b__law_gcd : XS :=
  (sSeq (sWhile (xB (oE (xS2 dNe (oVar 1) (oE (eC (.int 0)))))) b__law_gcd_1)
    (sRet (eMove 0)))
noncomputable def m__law_gcd : List O → Option (O × List O) := runF 2 2 [] b__law_gcd
theorem m_len__law_gcd {os : List O} {r : O × List O} (e : m__law_gcd os = some r) : os.length = 2 ∧ r.2.length = 2 := runF_len e
noncomputable def b__law_ratio : XS :=
  (sSeq (sAsg (xCall m__law_gcd (aCons (oE (xSN dAbs (aCons (oVar 0) aNil))) (aCons (oVar 1) aNil))) (gN 2))
    (sRet (xTup (aCons (oE (xS2 dFdiv (oVar 0) (oVar 2))) (aCons (oE (xS2 dFdiv (oVar 1) (oVar 2))) aNil)))))
noncomputable def m__law_ratio : List O → Option (O × List O) := runF 3 2 [0, 1] b__law_ratio
theorem m_len__law_ratio {os : List O} {r : O × List O} (e : m__law_ratio os = some r) : os.length = 2 ∧ r.2.length = 2 := runF_len e
end Lw

set_option Elab.async false
set_option linter.all false
set_option maxRecDepth 100000
/-! Ls: what the helpers of the laws answer. -/
namespace Lw
open PySem PySem.Spec PyProof.Rows L2 Mi
def iL (ds : List Int) : List D := ds.map D.int
def iO (ds : List Int) : List O := ds.map fun i => .fr (.int i)
@[simp] theorem iL_len {ds : List Int} : (iL ds).length = ds.length := List.length_map ..
@[simp] theorem iO_len {ds : List Int} : (iO ds).length = ds.length := List.length_map ..
@[simp] theorem erL_iO : ∀ {ds : List Int}, erL (iO ds) = iL ds
  | [] => by rw [iO, List.map_nil, erL_nil]; rfl
  | d :: ds => by
    show erL (.fr (.int d) :: iO ds) = .int d :: iL ds
    rw [erL_cons, erL_iO, er_fr]
theorem iO_app {ds : List Int} {i : Int} : iO ds ++ [.fr (.int i)] = iO (ds ++ [i]) := by
  unfold iO
  rw [List.map_append]
  rfl
@[simp] theorem iL_map {ds : List Int} : (iL ds).map O.fr = iO ds := by
  unfold iL iO
  rw [List.map_map]
  rfl
theorem iL_get {ds : List Int} {k : Nat} : (iL ds)[k]? = (ds[k]?).map D.int := List.getElem?_map ..
/-! ### cells, digits -/
theorem cell_spec {ns : List Int} {i : Int} (h0 : 0 ≤ i) : Ev (m__law_cell [.fr (.scr ns), .fr (.int i)]) fun p => ∃ z, p.1 = .fr (.int z) ∧ p.2 = [.fr (.scr ns), .fr (.int i)] := by
  by_cases h : i < ns.length
  · obtain ⟨z, hz⟩ : ∃ z, atI ns i = some z := by
      obtain ⟨k, rfl⟩ : ∃ k : Nat, i = k := ⟨i.toNat, by omega⟩
      exact ⟨_, (atI_lt (by omega)).trans (List.getElem?_eq_getElem (by omega))⟩
    simp [m__law_cell, ev_runF, b__law_cell, h, hz]
  · simp [m__law_cell, ev_runF, b__law_cell, h]
def Dig (ds : List Int) : Prop := ∀ d ∈ ds, 0 ≤ d ∧ d < 1000
theorem Dig.app {ds : List Int} {i : Int} (h : Dig ds) : Dig (ds ++ [i.fmod 1000]) := fun d hd => by
  rcases List.mem_append.mp hd with k | k
  · exact h d k
  · cases List.mem_singleton.mp k
    rw [Int.fmod_eq_emod_of_nonneg _ (by decide)]
    omega
theorem iR_60 {x : Option O} {g : G} {n : Int} (h : 0 ≤ n ∧ n < 2 ^ 62) : iR1 (oE (eC (.int n))) (x :: g) = some (rgD 0 n.toNat, x :: g) := by
  simp
  omega
def DP (ns : List Int) (lo hi : Int) : G → Prop := fun g => ∃ ds a b c e, g = [some (.fr (.scr ns)), some (.fr (.int lo)), some (.fr (.int hi)), some (.lst (iO ds)), a, b, c, e] ∧ Dig ds ∧ ds.length ≤ 1600
theorem len_ok {n : Nat} (h : n ≤ 1600) : n < sizeLine := by
  have : (1600 : Nat) < sizeLine := by decide
  omega
theorem loop2 {ns : List Int} {lo hi q y : Int} {c e : Option O} {ds : List Int} (dg : Dig ds) (hb : ds.length ≤ 1500) : Ev (forL (gN 6) b__law_digits_2 (rgD 0 60) [some (.fr (.scr ns)), some (.fr (.int lo)), some (.fr (.int hi)), some (.lst (iO ds)), some (.fr (.int q)), some (.fr (.int y)), c, e]) (Goes (DP ns lo hi)) := by
  let P : Nat → G → Prop := fun k g => ∃ ds y c, g = [some (.fr (.scr ns)), some (.fr (.int lo)), some (.fr (.int hi)), some (.lst (iO ds)), some (.fr (.int q)), some (.fr (.int y)), c, e] ∧ Dig ds ∧ ds.length ≤ 1500 + k
  refine (forR (P := P) ⟨ds, y, c, rfl, dg, hb⟩ ?_).mono ?_
  · rintro k i hk hi g ⟨ds, y, c, rfl, dg, dl⟩
    have hl := len_ok (n := ds.length) (by omega)
    by_cases hy : 0 < y
    · simp [b__law_digits_2, hy, hl, iO_app]
      exact ⟨cdiv_ok (by decide) (by decide), ⟨_, _, _, rfl, dg.app, by simp; omega⟩⟩
    · simp [b__law_digits_2, hy]
      exact ⟨_, _, _, rfl, dg, by omega⟩
  · rintro x ⟨g, rfl, ds, y, c, rfl, dg, dl⟩
    exact ⟨ds, _, _, _, _, rfl, dg, by omega⟩
theorem loop3 {ns : List Int} {lo hi q y z : Int} {c : Option O} {ds : List Int} (dg : Dig ds) (hb : ds.length ≤ 1500) : Ev (forL (gN 6) b__law_digits_3 (rgD 0 12) [some (.fr (.scr ns)), some (.fr (.int lo)), some (.fr (.int hi)), some (.lst (iO ds)), some (.fr (.int q)), some (.fr (.int y)), c, some (.fr (.int z))]) (Goes (DP ns lo hi)) := by
  let P : Nat → G → Prop := fun k g => ∃ ds c z, g = [some (.fr (.scr ns)), some (.fr (.int lo)), some (.fr (.int hi)), some (.lst (iO ds)), some (.fr (.int q)), some (.fr (.int y)), c, some (.fr (.int z))] ∧ Dig ds ∧ ds.length ≤ 1500 + k
  refine (forR (P := P) ⟨ds, c, z, rfl, dg, hb⟩ ?_).mono ?_
  · rintro k i hk hi g ⟨ds, c, z, rfl, dg, dl⟩
    have hl := len_ok (n := ds.length) (by omega)
    simp [b__law_digits_3, hl, iO_app]
    exact ⟨cdiv_ok (by decide) (by decide), ⟨_, _, _, rfl, dg.app, by simp; omega⟩⟩
  · rintro x ⟨g, rfl, ds, c, z, rfl, dg, dl⟩
    exact ⟨ds, _, _, _, _, rfl, dg, by omega⟩
theorem digits_spec {ns : List Int} {lo hi : Int} (h0 : 0 ≤ lo) (h1 : lo < 2 ^ 62) (h2 : -(2 ^ 62) ≤ hi) (h3 : hi < 2 ^ 62) : Ev (m__law_digits [.fr (.scr ns), .fr (.int lo), .fr (.int hi)]) fun p => ∃ ds, p.1 = .lst (iO ds) ∧ Dig ds ∧ ds.length ≤ 1600 ∧ p.2 = [.fr (.scr ns), .fr (.int lo), .fr (.int hi)] := by
  simp [m__law_digits, ev_runF, b__law_digits]
  refine ⟨⟨by omega, by omega, by omega⟩, ?_⟩
  refine (forL_goes (P := DP ns lo hi) ⟨[], none, none, none, none, rfl, fun _ h => absurd h (List.not_mem_nil), by decide⟩ ?_).mono ?_
  · rintro d hd g ⟨ds, a, b, c, e, rfl, dg, dl⟩
    obtain ⟨q, hq, rfl⟩ : ∃ q : Int, 0 ≤ q ∧ d = .int q := by
      obtain ⟨k, hk, rfl⟩ := mem_rgD.mp hd
      exact ⟨_, by omega, rfl⟩
    have hc := cell_spec (ns := ns) hq
    simp [b__law_digits_1]
    refine hc.mono ?_
    rintro ⟨o, os⟩ ⟨z, h1, h2⟩
    cases h1
    cases h2
    simp
    refine Ev.mono (Q := fun a => ∃ y : Int, a = .nx [some (.fr (.scr ns)), some (.fr (.int lo)), some (.fr (.int hi)), some (.lst (iO ds)), some (.fr (.int q)), some (.fr (.int y)), c, e]) (Ev.ite (fun _ => by simp) (fun _ => by simp)) ?_
    rintro _ ⟨y, rfl⟩
    by_cases hb : (1500 : Int) < ds.length
    · simp [hb]
      exact ⟨ds, _, _, _, _, rfl, dg, dl⟩
    · have hb' : ds.length ≤ 1500 := by omega
      by_cases hy : (1000000000000000000 : Int) ≤ y
      · simp [hb, hy]
        exact loop2 dg (by omega)
      · simp [hb, hy]
        exact loop3 dg (by omega)
  · rintro x ⟨g, rfl, ds, a, b, c, d, rfl, dg, dl⟩
    simp
    exact ⟨ds, rfl, dg, dl⟩
/-! ### the box -/
abbrev bx (ds : List Int) (a : Int) : O := .lst [.fr (.lst (iL ds)), .fr (.int a)]
theorem draw_spec {ds : List Int} {a m : Int} (ha : 0 ≤ a) (hm : 0 < m) : Ev (m__law_draw [bx ds a, .fr (.int m)]) fun p => ∃ v, p = (.fr (.int v), [bx ds (a + 1), .fr (.int m)]) ∧ 0 ≤ v ∧ v < m := by
  have hv : ∀ z : Int, 0 ≤ z.fmod m ∧ z.fmod m < m := fun z => by
    rw [Int.fmod_eq_emod_of_nonneg _ (by omega)]
    exact ⟨Int.emod_nonneg _ (by omega), Int.emod_lt_of_pos _ hm⟩
  have hm0 : m ≠ 0 := by omega
  by_cases h : a < ds.length
  · obtain ⟨z, hz⟩ : ∃ z, atI (iL ds) a = some (.int z) := by
      obtain ⟨k, rfl⟩ : ∃ k : Nat, a = k := ⟨a.toNat, by omega⟩
      exact ⟨_, (atI_lt (by rw [iL_len]; omega)).trans (by rw [iL_get, List.getElem?_eq_getElem (by omega)]; rfl)⟩
    simp [m__law_draw, ev_runF, b__law_draw, h, hz, hm0]
    exact hv _
  · simp [m__law_draw, ev_runF, b__law_draw, h, hm0]
    exact hv _
/-- one of some things -/
theorem pick_spec {ds : List Int} {a : Int} {ts : List D} (ha : 0 ≤ a) (ht : ts ≠ []) : Ev (m__law_pick [bx ds a, .fr (.lst ts)]) fun p => ∃ t, p = (.fr t, [bx ds (a + 1), .fr (.lst ts)]) ∧ t ∈ ts := by
  have hl : 0 < ts.length := List.length_pos_iff.mpr ht
  have hl0 : ¬((ts.length : Int) = 0) := by omega
  simp [m__law_pick, ev_runF, b__law_pick]
  refine (draw_spec ha (by decide)).mono ?_
  rintro _ ⟨v, rfl, h3, h4⟩
  obtain ⟨k, hk, e⟩ : ∃ k : Nat, k < ts.length ∧ v.fmod ts.length = k := by
    have e := Int.fmod_eq_emod_of_nonneg v (b := (ts.length : Int)) (by omega)
    have e1 := Int.emod_nonneg v (b := (ts.length : Int)) (by omega)
    have e2 := Int.emod_lt_of_pos v (b := (ts.length : Int)) (by omega)
    exact ⟨(v.fmod ts.length).toNat, by omega, by omega⟩
  have hz : atI ts (v.fmod ts.length) = some ts[k] := by
    rw [e]
    exact (atI_lt hk).trans (List.getElem?_eq_getElem hk)
  simp [hl0, hz, ht]
theorem pick_specO {ds : List Int} {a : Int} {ts : List D} (ha : 0 ≤ a) (ht : ts ≠ []) : Ev (m__law_pick [bx ds a, .lst (ts.map O.fr)]) fun p => ∃ t, p = (.fr t, [bx ds (a + 1), .lst (ts.map O.fr)]) ∧ t ∈ ts := by
  have hl : 0 < ts.length := List.length_pos_iff.mpr ht
  have hl0 : ¬((ts.length : Int) = 0) := by omega
  have he : ∀ us : List D, erL (us.map O.fr) = us := fun us => by
    induction us with
    | nil => rw [List.map_nil, erL_nil]
    | cons u us ih => rw [List.map_cons, erL_cons, er_fr, ih]
  simp [m__law_pick, ev_runF, b__law_pick]
  refine (draw_spec ha (by decide)).mono ?_
  rintro _ ⟨v, rfl, h3, h4⟩
  obtain ⟨k, hk, e⟩ : ∃ k : Nat, k < ts.length ∧ v.fmod ts.length = k := by
    have e := Int.fmod_eq_emod_of_nonneg v (b := (ts.length : Int)) (by omega)
    have e1 := Int.emod_nonneg v (b := (ts.length : Int)) (by omega)
    have e2 := Int.emod_lt_of_pos v (b := (ts.length : Int)) (by omega)
    exact ⟨(v.fmod ts.length).toNat, by omega, by omega⟩
  have hz : atI (ts.map O.fr) (v.fmod ts.length) = some (.fr ts[k]) := by
    rw [e, atI_lt (by rw [List.length_map]; exact hk), List.getElem?_map, List.getElem?_eq_getElem hk]
    rfl
  simp [hl0, hz, ht, he]
/-! ### told and due -/
def LikeOk : Nat → D → Prop
  | 0, _ => False
  | n + 1, .tup ds => ds.length ≤ 1000000 ∧ ∀ d ∈ ds, LikeOk n d
  | _ + 1, .str s => s.length ≤ 16777216
  | _ + 1, .int _ => True
  | _ + 1, .bl _ => True
  | _ + 1, .non => True
  | _, _ => False
@[simp] theorem likeOk_tup {n : Nat} {ds : List D} : LikeOk (n + 1) (.tup ds) ↔ ds.length ≤ 1000000 ∧ ∀ d ∈ ds, LikeOk n d := .rfl
@[simp] theorem likeOk_str {n : Nat} {s : Str} : LikeOk (n + 1) (.str s) ↔ s.length ≤ 16777216 := .rfl
@[simp] theorem likeOk_int {n : Nat} {i : Int} : LikeOk (n + 1) (.int i) := trivial
@[simp] theorem likeOk_bl {n : Nat} {i : Bool} : LikeOk (n + 1) (.bl i) := trivial
@[simp] theorem likeOk_non {n : Nat} : LikeOk (n + 1) .non := trivial
theorem like_spec : ∀ {n : Nat} {d : D}, LikeOk n d → Ev (m__law_like n [.fr d, .fr d]) fun p => p = (.fr (.bl true), [.fr d, .fr d])
  | 0, _, h => h.elim
  | n + 1, .tup ds, h => by
    simp [m__law_like, ev_runF, b__law_like]
    obtain ⟨hl, hd⟩ := h
    refine ⟨by omega, ?_⟩
    refine (lcL_go (P := fun g => ∃ c, g = [some (.fr (.tup ds)), some (.fr (.tup ds)), c]) (f := fun _ => none) ⟨none, rfl⟩ ?_ ?_).mono ?_
    · rintro d hr g ⟨c, rfl⟩
      obtain ⟨k, hk, rfl⟩ := mem_rgD.mp hr
      generalize hq : (0 : Int) + k = q
      have hz : atI ds q = some ds[k] := by
        rw [← hq, Int.zero_add]
        exact (atI_lt hk).trans (List.getElem?_eq_getElem hk)
      simp [hz]
      refine (like_spec (hd _ (List.getElem_mem hk))).mono ?_
      rintro _ rfl
      simp
    · have : (1000000 : Nat) ≤ sizeLine := by decide
      rw [rgD_len]
      exact Nat.le_trans (by simpa using hl) this
    · rintro ⟨os, g⟩ ⟨h1, c, rfl⟩
      have h2 : os = [] := by rw [show os = _ from h1]; simp
      subst h2
      simp
  | n + 1, .str s, h => by
    have h : s.length ≤ 16777216 := h
    have e : dJoin (Str.ofString "") [.lst [.str s]] = some (.str s) := by
      show (if _ then _ else _) = _
      rw [if_pos (by
        have : (Str.ofString "").length = 0 := by decide +kernel
        show (s.length + 0) + 1 * (Str.ofString "").length ≤ _
        omega)]
      have : Txt.join (Str.ofString "") [s] = s := TL.join_eq _ _
      show some (D.str (Txt.join (Str.ofString "") [s])) = _
      rw [this]
    simp [m__law_like, ev_runF, b__law_like, e]
  | n + 1, .int i, h => by
    simp [m__law_like, ev_runF, b__law_like]
  | n + 1, .bl b, h => by
    cases b with
    | true => simp [m__law_like, ev_runF, b__law_like]
    | false => simp [m__law_like, ev_runF, b__law_like]
  | n + 1, .non, h => by
    simp [m__law_like, ev_runF, b__law_like]
/-! ### the greatest common divisor, by its turns -/
theorem gcd_spec {a b : Int} (ha : 0 ≤ a) (hb : 0 ≤ b) : Ev (m__law_gcd [.fr (.int a), .fr (.int b)]) fun p => p = (.fr (.int ((Nat.gcd a.natAbs b.natAbs : Nat) : Int)), [.fr (.int a), .fr (.int b)]) := by
  simp [m__law_gcd, ev_runF, b__law_gcd]
  refine (while_go (fun n g => ∃ x y : Int, g = [some (.fr (.int x)), some (.fr (.int y))] ∧ 0 ≤ x ∧ 0 ≤ y ∧ y.natAbs = n ∧ Nat.gcd x.natAbs y.natAbs = Nat.gcd a.natAbs b.natAbs) (fun x => ∃ y : Int, x = .nx [some (.fr (.int ((Nat.gcd a.natAbs b.natAbs : Nat) : Int))), some (.fr (.int y))]) ?_ ⟨a, b, rfl, ha, hb, rfl, rfl⟩).mono ?_
  · rintro n g ⟨x, y, rfl, hx, hy, hn, hg⟩
    by_cases h0 : y = 0
    · subst h0
      have : (x.natAbs : Int) = x := by omega
      have e : x = ((Nat.gcd a.natAbs b.natAbs : Nat) : Int) := by
        rw [← hg]
        simp
        exact this.symm
      simp [e]
    · simp [h0, b__law_gcd_1]
      have e := Int.fmod_eq_emod_of_nonneg x (b := y) (by omega)
      have e1 := Int.emod_nonneg x (b := y) (by omega)
      have e2 := Int.emod_lt_of_pos x (b := y) (by omega)
      refine ⟨_, ?_, y, x.fmod y, ⟨rfl, rfl⟩, hy, by omega, rfl, ?_⟩
      · omega
      · rw [← hg, e]
        have : (x % y).natAbs = x.natAbs % y.natAbs := by
          rw [Int.natAbs_emod_of_nonneg hx]
        rw [this, Nat.gcd_comm x.natAbs y.natAbs, Nat.gcd_comm y.natAbs]
        exact (Nat.gcd_rec _ _).symm
  · rintro x ⟨y, rfl⟩
    simp
theorem like8 {d : D} (h : LikeOk 8 d) : Ev (m__law_like_8 [.fr d, .fr d]) fun p => p = (.fr (.bl true), [.fr d, .fr d]) := like_spec h
theorem like8' {d e : D} (h : LikeOk 8 d) (k : e = d) : Ev (m__law_like_8 [.fr e, .fr d]) fun p => p = (.fr (.bl true), [.fr e, .fr d]) := by
  subst k
  exact like_spec h
/-- an integer's text -/
def sI (x : Int) : Str := Str.ofString (toString x)
theorem strOf_ok {x : Int} (h : x.natAbs.log2 < 1920) : dStrOf [.int x] = some (.str (sI x)) := if_pos h
theorem fmt_ok {x : Int} (h : x.natAbs.log2 < 1920) : dFmt (.int x) = some (.str (sI x)) := if_pos h
theorem sI_len {x : Int} (h : x.natAbs.log2 < 1920) : (sI x).length ≤ 1921 := by
  have e := int_text_length_le (k := 1920) (by decide) h
  unfold sI
  rw [PySem.ofString_length]
  exact e
theorem app_len (a b : Str) : (a ++ b).length = a.length + b.length := by
  show (a.cps ++ b.cps).size = _
  rw [Array.size_append]
  rfl
end Lw

set_option Elab.async false
set_option linter.all false
set_option maxRecDepth 100000
/-! Lr: ratios. -/
namespace Lw
open PySem PySem.Spec PyProof.Rows L2 Mi
/-! ### sizes -/
def Sm (n : Nat) (a : Int) : Prop := a.natAbs < 2 ^ n
theorem Sm.mono {n m : Nat} {a : Int} (h : Sm n a) (k : n ≤ m) : Sm m a := Nat.lt_of_lt_of_le h (Nat.pow_le_pow_right (by decide) k)
theorem Sm.mul {n m : Nat} {a b : Int} (h : Sm n a) (k : Sm m b) : Sm (n + m) (a * b) := by
  unfold Sm at *
  rw [Int.natAbs_mul, Nat.pow_add]
  exact Nat.mul_lt_mul_of_lt_of_le h (Nat.le_of_lt k) (Nat.lt_of_le_of_lt (Nat.zero_le _) k)
theorem Sm.add {n : Nat} {a b : Int} (h : Sm n a) (k : Sm n b) : Sm (n + 1) (a + b) := by
  unfold Sm at *
  rw [Nat.pow_succ]
  omega
theorem Sm.sub {n : Nat} {a b : Int} (h : Sm n a) (k : Sm n b) : Sm (n + 1) (a - b) := by
  unfold Sm at *
  rw [Nat.pow_succ]
  omega
theorem Sm.neg {n : Nat} {a : Int} (h : Sm n a) : Sm n (-a) := by
  unfold Sm at *
  omega
theorem Sm.le {n : Nat} {a b : Int} (h : Sm n a) (k : b.natAbs ≤ a.natAbs) : Sm n b := Nat.lt_of_le_of_lt k h
theorem Sm.mulOk {n m : Nat} {a b : Int} (h : Sm n a) (k : Sm m b) (hn : n ≤ 400000) (hm : m ≤ 400000) : mulOk a b = true := mulOk_big (h.mono hn) (k.mono hm)
theorem Sm.div {n : Nat} {a b : Int} (h : Sm n b) (h0 : b ≠ 0) (hn : n ≤ 9000) : CDivX a b := cdiv_ok h0 (h.mono hn)
/-! ### lowest terms -/
def Low (a b x y : Int) : Prop := 0 < y ∧ Nat.gcd x.natAbs y.natAbs = 1 ∧ x * b = a * y
theorem low_mk {a b c : Int} (hb : b ≠ 0) (hc : c = if b < 0 then -((Nat.gcd a.natAbs b.natAbs : Nat) : Int) else ((Nat.gcd a.natAbs b.natAbs : Nat) : Int)) : c ≠ 0 ∧ c.natAbs ≤ b.natAbs ∧ Low a b (a.fdiv c) (b.fdiv c) := by
  generalize hg : Nat.gcd a.natAbs b.natAbs = g at hc
  have hgp : 0 < g := by rw [← hg]; exact Nat.gcd_pos_of_pos_right _ (by omega)
  obtain ⟨a1, ha1⟩ : (g : Int) ∣ a := by rw [← hg]; exact Int.ofNat_dvd_left.mpr (Nat.gcd_dvd_left _ _)
  obtain ⟨b1, hb1⟩ : (g : Int) ∣ b := by rw [← hg]; exact Int.ofNat_dvd_left.mpr (Nat.gcd_dvd_right _ _)
  have hgle : g ≤ b.natAbs := by rw [← hg]; exact Nat.le_of_dvd (by omega) (Nat.gcd_dvd_right _ _)
  have hco : Nat.gcd a1.natAbs b1.natAbs = 1 := by
    have e : g * Nat.gcd a1.natAbs b1.natAbs = g * 1 := by
      rw [← Nat.gcd_mul_left, Nat.mul_one]
      have e1 : g * a1.natAbs = a.natAbs := by rw [ha1, Int.natAbs_mul]; rfl
      have e2 : g * b1.natAbs = b.natAbs := by rw [hb1, Int.natAbs_mul]; rfl
      rw [e1, e2, hg]
    exact Nat.eq_of_mul_eq_mul_left hgp e
  have hg0 : (g : Int) ≠ 0 := by omega
  by_cases hn : b < 0
  · rw [if_pos hn] at hc
    have hc0 : c ≠ 0 := by omega
    have e1 : a.fdiv c = -a1 := by
      rw [show a = c * (-a1) by rw [hc, Int.neg_mul_neg]; exact ha1]
      exact Int.mul_fdiv_cancel_left _ hc0
    have e2 : b.fdiv c = -b1 := by
      rw [show b = c * (-b1) by rw [hc, Int.neg_mul_neg]; exact hb1]
      exact Int.mul_fdiv_cancel_left _ hc0
    refine ⟨hc0, by omega, ?_, ?_, ?_⟩
    · rw [e2]
      have : b1 < 0 := by
        rcases Int.lt_or_le b1 0 with h | h
        · exact h
        · have : 0 ≤ (g : Int) * b1 := Int.mul_nonneg (by omega) h
          omega
      omega
    · rw [e1, e2, Int.natAbs_neg, Int.natAbs_neg]
      exact hco
    · rw [e1, e2, ha1, hb1, Int.neg_mul, Int.mul_neg, Int.mul_left_comm, Int.mul_assoc]
  · rw [if_neg hn] at hc
    subst hc
    have e1 : a.fdiv g = a1 := by
      rw [ha1]
      exact Int.mul_fdiv_cancel_left _ hg0
    have e2 : b.fdiv g = b1 := by
      rw [hb1]
      exact Int.mul_fdiv_cancel_left _ hg0
    refine ⟨hg0, by omega, ?_, ?_, ?_⟩
    · rw [e2]
      rcases Int.lt_or_le 0 b1 with h | h
      · exact h
      · have : (g : Int) * b1 ≤ 0 := Int.mul_nonpos_of_nonneg_of_nonpos (by omega) h
        omega
    · rw [e1, e2]
      exact hco
    · rw [e1, e2, ha1, hb1, Int.mul_left_comm, Int.mul_assoc]
theorem Low.le {a b x y : Int} (h : Low a b x y) (hb : b ≠ 0) : x.natAbs ≤ a.natAbs ∧ y.natAbs ≤ b.natAbs := by
  obtain ⟨h1, h2, h3⟩ := h
  have e : x.natAbs * b.natAbs = a.natAbs * y.natAbs := by rw [← Int.natAbs_mul, h3, Int.natAbs_mul]
  have d1 : y.natAbs ∣ b.natAbs := by
    have : y.natAbs ∣ x.natAbs * b.natAbs := e ▸ Nat.dvd_mul_left _ _
    exact Nat.Coprime.dvd_of_dvd_mul_left (Nat.Coprime.symm h2) this
  have d2 : x.natAbs ∣ a.natAbs := by
    have : x.natAbs ∣ a.natAbs * y.natAbs := e ▸ Nat.dvd_mul_right _ _
    exact Nat.Coprime.dvd_of_dvd_mul_right h2 this
  refine ⟨?_, Nat.le_of_dvd (by omega) d1⟩
  by_cases ha : a = 0
  · subst ha
    rw [Int.zero_mul] at h3
    rcases Int.mul_eq_zero.mp h3 with h | h
    · rw [h]; exact Nat.le_refl _
    · exact (hb h).elim
  · exact Nat.le_of_dvd (by omega) d2
theorem Low.uniq {a b x y u v : Int} (h : Low a b x y) (k : Low a b u v) (hb : b ≠ 0) : x = u ∧ y = v := by
  obtain ⟨h1, h2, h3⟩ := h
  obtain ⟨k1, k2, k3⟩ := k
  have e : x * v = u * y := by
    have : b * (x * v) = b * (u * y) := by
      rw [← Int.mul_assoc, Int.mul_comm b x, h3, ← Int.mul_assoc, Int.mul_comm b u, k3, Int.mul_assoc, Int.mul_assoc, Int.mul_comm y v]
    exact Int.eq_of_mul_eq_mul_left hb this
  have en : x.natAbs * v.natAbs = u.natAbs * y.natAbs := by rw [← Int.natAbs_mul, e, Int.natAbs_mul]
  have d1 : y.natAbs ∣ v.natAbs := Nat.Coprime.dvd_of_dvd_mul_left (Nat.Coprime.symm h2) (en ▸ Nat.dvd_mul_left _ _)
  have d2 : v.natAbs ∣ y.natAbs := Nat.Coprime.dvd_of_dvd_mul_left (Nat.Coprime.symm k2) (en ▸ Nat.dvd_mul_left _ _)
  have ey := Nat.dvd_antisymm d1 d2
  have ey : y = v := by omega
  subst ey
  exact ⟨Int.eq_of_mul_eq_mul_right (by omega) e, rfl⟩
theorem Low.self {x y n : Int} (hy : 0 < y) (h : Nat.gcd x.natAbs y.natAbs = 1) : Low (x * n) (y * n) x y := ⟨hy, h, by rw [Int.mul_assoc, Int.mul_comm n y]⟩
/-- a ratio as the program has it -/
abbrev rt (x y : Int) : D := .tup [.int x, .int y]
theorem ratio_spec {a b : Int} (hb : b ≠ 0) (ha2 : Sm 9000 a) (hb2 : Sm 9000 b) : Ev (m_ratio [.fr (.int a), .fr (.int b)]) fun p => ∃ x y, p = (.fr (rt x y), [.fr (.int a), .fr (.int b)]) ∧ Low a b x y := by
  obtain ⟨h1, h2, h3⟩ := low_mk (a := a) hb rfl
  generalize hc : (if b < 0 then -((Nat.gcd a.natAbs b.natAbs : Nat) : Int) else ((Nat.gcd a.natAbs b.natAbs : Nat) : Int)) = c at h1 h2 h3
  have hd : ∀ z, CDivX z c := fun z => (hb2.le h2).div h1 (Nat.le_refl _)
  simp [m_ratio, ev_runF, b_ratio]
  refine Ev.mono (Q := fun x => x = .nx [some (.fr (.int a)), some (.fr (.int b)), some (.fr (.int c))]) (Ev.ite (fun h => ?_) (fun h => ?_)) ?_
  · rw [if_pos h] at hc
    simp [hc]
  · rw [if_neg h] at hc
    simp [hc]
  · rintro _ rfl
    simp [hd]
    exact ⟨_, _, ⟨rfl, rfl⟩, h3⟩
theorem law_ratio_spec {a b : Int} (hb : 0 < b) (hb2 : Sm 9000 b) : Ev (m__law_ratio [.fr (.int a), .fr (.int b)]) fun p => ∃ x y, p = (.fr (rt x y), [.fr (.int a), .fr (.int b)]) ∧ Low a b x y := by
  obtain ⟨h1, h2, h3⟩ := low_mk (a := a) (b := b) (by omega) rfl
  rw [if_neg (by omega)] at h1 h2 h3
  have e : (if a < 0 then -a else a) = (a.natAbs : Int) := by split <;> omega
  simp [m__law_ratio, ev_runF, b__law_ratio]
  generalize hq : (if a < 0 then -a else a) = q
  have hq2 : q.natAbs = a.natAbs := by rw [← hq, e]; omega
  refine (gcd_spec (a := q) (by omega) (by omega)).mono ?_
  rintro _ rfl
  rw [hq2]
  generalize ((Nat.gcd a.natAbs b.natAbs : Nat) : Int) = c at h1 h2 h3
  have hd : ∀ z, CDivX z c := fun z => (hb2.le h2).div h1 (Nat.le_refl _)
  simp [hd]
  exact ⟨_, _, ⟨rfl, rfl⟩, h3⟩
theorem is_number_int {a : Int} : m_is_number [.fr (.int a)] = some (.fr (.bl true), [.fr (.int a)]) := by
  simp [m_is_number, ev_runF, b_is_number]
theorem is_number_bl {a : Bool} : m_is_number [.fr (.bl a)] = some (.fr (.bl false), [.fr (.bl a)]) := by
  simp [m_is_number, ev_runF, b_is_number]
theorem is_ratio_spec {a b : Int} : Ev (m_is_ratio [.fr (rt a b)]) fun p => p = (.fr (.bl (decide (1 ≤ b) && decide (Nat.gcd a.natAbs b.natAbs = 1))), [.fr (rt a b)]) := by
  simp [m_is_ratio, ev_runF, b_is_ratio, is_number_int]
  have e : (((a.natAbs.gcd b.natAbs : Nat) : Int) = 1) ↔ a.natAbs.gcd b.natAbs = 1 := by omega
  simp only [e]
theorem is_ratio_true {a b : Int} (h : 0 < b) (k : Nat.gcd a.natAbs b.natAbs = 1) : Ev (m_is_ratio [.fr (rt a b)]) fun p => p = (.fr (.bl true), [.fr (rt a b)]) := by
  refine is_ratio_spec.mono ?_
  rintro _ rfl
  rw [decide_eq_true (by omega), decide_eq_true k]
  rfl
theorem is_typed_spec {a b : Int} (h : 0 < b) (k : Nat.gcd a.natAbs b.natAbs = 1) : Ev (m_is_typed [.fr (rt a b)]) fun p => p = (.fr (.bl (decide ((if a < 0 then -a else a) ≤ 1000000) && decide (b ≤ 1000))), [.fr (rt a b)]) := by
  simp [m_is_typed, ev_runF, b_is_typed]
  refine (is_ratio_true h k).mono ?_
  rintro _ rfl
  simp
theorem plus_spec {a b c d : Int} {n : Nat} (hb : 0 < b) (hd : 0 < d) (sa : Sm n a) (sb : Sm n b) (sc : Sm n c) (sd : Sm n d) (hn : n ≤ 4000) : Ev (m_plus [.fr (rt a b), .fr (rt c d)]) fun p => ∃ x y, p = (.fr (rt x y), [.fr (rt a b), .fr (rt c d)]) ∧ Low (a * d + c * b) (b * d) x y := by
  have h0 : b * d ≠ 0 := Int.mul_ne_zero (by omega) (by omega)
  simp [m_plus, ev_runF, b_plus, sa.mulOk sd (by omega) (by omega), sc.mulOk sb (by omega) (by omega), sb.mulOk sd (by omega) (by omega)]
  refine (ratio_spec h0 (((sa.mul sd).add (sc.mul sb)).mono (by omega)) ((sb.mul sd).mono (by omega))).mono ?_
  rintro _ ⟨x, y, rfl, h⟩
  simp
  exact ⟨_, _, ⟨rfl, rfl⟩, h⟩
theorem minus_spec {a b c d : Int} {n : Nat} (hb : 0 < b) (hd : 0 < d) (sa : Sm n a) (sb : Sm n b) (sc : Sm n c) (sd : Sm n d) (hn : n ≤ 4000) : Ev (m_minus [.fr (rt a b), .fr (rt c d)]) fun p => ∃ x y, p = (.fr (rt x y), [.fr (rt a b), .fr (rt c d)]) ∧ Low (a * d - c * b) (b * d) x y := by
  have h0 : b * d ≠ 0 := Int.mul_ne_zero (by omega) (by omega)
  simp [m_minus, ev_runF, b_minus, sa.mulOk sd (by omega) (by omega), sc.mulOk sb (by omega) (by omega), sb.mulOk sd (by omega) (by omega)]
  refine (ratio_spec h0 (((sa.mul sd).sub (sc.mul sb)).mono (by omega)) ((sb.mul sd).mono (by omega))).mono ?_
  rintro _ ⟨x, y, rfl, h⟩
  simp
  exact ⟨_, _, ⟨rfl, rfl⟩, h⟩
theorem product_spec {a b c d : Int} {n : Nat} (hb : 0 < b) (hd : 0 < d) (sa : Sm n a) (sb : Sm n b) (sc : Sm n c) (sd : Sm n d) (hn : n ≤ 4000) : Ev (m_product [.fr (rt a b), .fr (rt c d)]) fun p => ∃ x y, p = (.fr (rt x y), [.fr (rt a b), .fr (rt c d)]) ∧ Low (a * c) (b * d) x y := by
  have h0 : b * d ≠ 0 := Int.mul_ne_zero (by omega) (by omega)
  simp [m_product, ev_runF, b_product, sa.mulOk sc (by omega) (by omega), sb.mulOk sd (by omega) (by omega)]
  refine (ratio_spec h0 ((sa.mul sc).mono (by omega)) ((sb.mul sd).mono (by omega))).mono ?_
  rintro _ ⟨x, y, rfl, h⟩
  simp
  exact ⟨_, _, ⟨rfl, rfl⟩, h⟩
theorem quotient_spec {a b c d : Int} {n : Nat} (hb : 0 < b) (hc : c ≠ 0) (sa : Sm n a) (sb : Sm n b) (sc : Sm n c) (sd : Sm n d) (hn : n ≤ 4000) : Ev (m_quotient [.fr (rt a b), .fr (rt c d)]) fun p => ∃ x y, p = (.fr (rt x y), [.fr (rt a b), .fr (rt c d)]) ∧ Low (a * d) (b * c) x y := by
  have h0 : b * c ≠ 0 := Int.mul_ne_zero (by omega) (by omega)
  simp [m_quotient, ev_runF, b_quotient, sa.mulOk sd (by omega) (by omega), sb.mulOk sc (by omega) (by omega)]
  refine (ratio_spec h0 ((sa.mul sd).mono (by omega)) ((sb.mul sc).mono (by omega))).mono ?_
  rintro _ ⟨x, y, rfl, h⟩
  simp
  exact ⟨_, _, ⟨rfl, rfl⟩, h⟩
def sgn (z : Int) : Int := if z = 0 then 0 else if z < 0 then -1 else 1
theorem compare_spec {a b c d : Int} {n : Nat} (sa : Sm n a) (sb : Sm n b) (sc : Sm n c) (sd : Sm n d) (hn : n ≤ 4000) : Ev (m_compare [.fr (rt a b), .fr (rt c d)]) fun p => p = (.fr (.int (sgn (a * d - c * b))), [.fr (rt a b), .fr (rt c d)]) := by
  simp [m_compare, ev_runF, b_compare, sa.mulOk sd (by omega) (by omega), sc.mulOk sb (by omega) (by omega)]
  generalize a * d = u
  generalize c * b = v
  by_cases h : u = v
  · subst h
    simp [sgn]
  · by_cases h2 : u < v
    · have e : sgn (u - v) = -1 := by unfold sgn; rw [if_neg (by omega), if_pos (by omega)]
      simp [h, h2, e]
    · have e : sgn (u - v) = 1 := by unfold sgn; rw [if_neg (by omega), if_neg (by omega)]
      simp [h, h2, e]
/-- a ratio's text -/
def sR (x y : Int) : Str := if y = 1 then sI x else sI x ++ Str.ofString "/" ++ sI y
theorem write_spec {x y : Int} (hx : x.natAbs.log2 < 1920) (hy : y.natAbs.log2 < 1920) : Ev (m_write_ratio [.fr (rt x y)]) fun p => p = (.fr (.str (sR x y)), [.fr (rt x y)]) := by
  by_cases h : y = 1
  · have e : sR x y = sI x := if_pos h
    rw [e]
    simp [m_write_ratio, ev_runF, b_write_ratio, fmt_ok hx, fmt_ok hy, h]
  · have l1 := sI_len hx
    have l2 := sI_len hy
    have l3 : (Str.ofString "/").length = 1 := by decide +kernel
    have hs : (10000 : Nat) ≤ sizeLine := by decide
    have e : sR x y = sI x ++ Str.ofString "/" ++ sI y := if_neg h
    have a1 : (sI x).length ≤ sizeLine := by omega
    have a2 : (sI x ++ Str.ofString "/").length ≤ sizeLine := by rw [app_len]; omega
    have a3 : (sI x ++ Str.ofString "/" ++ sI y).length ≤ sizeLine := by rw [app_len, app_len]; omega
    rw [e]
    simp [m_write_ratio, ev_runF, b_write_ratio, fmt_ok hx, fmt_ok hy, h, Str.empty_append, a1, a2, a3]
end Lw

set_option Elab.async false
set_option linter.all false
set_option maxRecDepth 100000
set_option maxHeartbeats 4000000
namespace K01
open PySem PySem.Spec PyProof.Rows L2 Mi Lw
def topS (i : Nat) : Stmt := PySem.Challenge.pw_evenflow_k01_ratios_numbers.main.body.getD i (.Pass ⟨0, 0, 0, 0⟩)
abbrev s_is_number : Stmt := topS 2
abbrev N_is_number : List Str := ["thing"]
theorem sc_is_number : FnScope N_is_number ["thing"] (defScope s_is_number) := ⟨rfl, rfl, rfl, by decide +kernel, rfl, by decide +kernel, by decide +kernel⟩
abbrev s_is_ratio : Stmt := topS 6
abbrev N_is_ratio : List Str := ["thing", "a", "b"]
theorem sc_is_ratio : FnScope N_is_ratio ["thing"] (defScope s_is_ratio) := ⟨rfl, rfl, rfl, by decide +kernel, rfl, by decide +kernel, by decide +kernel⟩
abbrev s_is_typed : Stmt := topS 7
abbrev N_is_typed : List Str := ["thing"]
theorem sc_is_typed : FnScope N_is_typed ["thing"] (defScope s_is_typed) := ⟨rfl, rfl, rfl, by decide +kernel, rfl, by decide +kernel, by decide +kernel⟩
abbrev s_ratio : Stmt := topS 8
abbrev N_ratio : List Str := ["a", "b", "common"]
theorem sc_ratio : FnScope N_ratio ["a", "b"] (defScope s_ratio) := ⟨rfl, rfl, rfl, by decide +kernel, rfl, by decide +kernel, by decide +kernel⟩
abbrev s_plus : Stmt := topS 9
abbrev N_plus : List Str := ["one", "other"]
theorem sc_plus : FnScope N_plus ["one", "other"] (defScope s_plus) := ⟨rfl, rfl, rfl, by decide +kernel, rfl, by decide +kernel, by decide +kernel⟩
abbrev s_minus : Stmt := topS 10
abbrev N_minus : List Str := ["one", "other"]
theorem sc_minus : FnScope N_minus ["one", "other"] (defScope s_minus) := ⟨rfl, rfl, rfl, by decide +kernel, rfl, by decide +kernel, by decide +kernel⟩
abbrev s_product : Stmt := topS 11
abbrev N_product : List Str := ["one", "other"]
theorem sc_product : FnScope N_product ["one", "other"] (defScope s_product) := ⟨rfl, rfl, rfl, by decide +kernel, rfl, by decide +kernel, by decide +kernel⟩
abbrev s_quotient : Stmt := topS 12
abbrev N_quotient : List Str := ["one", "other"]
theorem sc_quotient : FnScope N_quotient ["one", "other"] (defScope s_quotient) := ⟨rfl, rfl, rfl, by decide +kernel, rfl, by decide +kernel, by decide +kernel⟩
abbrev s_compare : Stmt := topS 13
abbrev N_compare : List Str := ["one", "other", "left", "right"]
theorem sc_compare : FnScope N_compare ["one", "other"] (defScope s_compare) := ⟨rfl, rfl, rfl, by decide +kernel, rfl, by decide +kernel, by decide +kernel⟩
abbrev s_write_ratio : Stmt := topS 14
abbrev N_write_ratio : List Str := ["one"]
theorem sc_write_ratio : FnScope N_write_ratio ["one"] (defScope s_write_ratio) := ⟨rfl, rfl, rfl, by decide +kernel, rfl, by decide +kernel, by decide +kernel⟩
abbrev s__law_cell : Stmt := topS 16
abbrev N__law_cell : List Str := ["script", "k"]
theorem sc__law_cell : FnScope N__law_cell ["script", "k"] (defScope s__law_cell) := ⟨rfl, rfl, rfl, by decide +kernel, rfl, by decide +kernel, by decide +kernel⟩
abbrev s__law_digits : Stmt := topS 17
abbrev N__law_digits : List Str := ["script", "first", "last", "digits", "k", "cell", "turn", "seed"]
theorem sc__law_digits : FnScope N__law_digits ["script", "first", "last"] (defScope s__law_digits) := ⟨rfl, rfl, rfl, by decide +kernel, rfl, by decide +kernel, by decide +kernel⟩
abbrev s__law_draw : Stmt := topS 18
abbrev N__law_draw : List Str := ["box", "many", "at"]
theorem sc__law_draw : FnScope N__law_draw ["box", "many"] (defScope s__law_draw) := ⟨rfl, rfl, rfl, by decide +kernel, rfl, by decide +kernel, by decide +kernel⟩
abbrev s__law_pick : Stmt := topS 19
abbrev N__law_pick : List Str := ["box", "things"]
theorem sc__law_pick : FnScope N__law_pick ["box", "things"] (defScope s__law_pick) := ⟨rfl, rfl, rfl, by decide +kernel, rfl, by decide +kernel, by decide +kernel⟩
abbrev s__law_like : Stmt := topS 20
abbrev N__law_like : List Str := ["told", "due", "k"]
theorem sc__law_like : FnScope N__law_like ["told", "due"] (defScope s__law_like) := ⟨rfl, rfl, rfl, by decide +kernel, rfl, by decide +kernel, by decide +kernel⟩
abbrev s__law_gcd : Stmt := topS 21
abbrev N__law_gcd : List Str := ["one", "other"]
theorem sc__law_gcd : FnScope N__law_gcd ["one", "other"] (defScope s__law_gcd) := ⟨rfl, rfl, rfl, by decide +kernel, rfl, by decide +kernel, by decide +kernel⟩
abbrev s__law_ratio : Stmt := topS 22
abbrev N__law_ratio : List Str := ["a", "b", "step"]
theorem sc__law_ratio : FnScope N__law_ratio ["a", "b"] (defScope s__law_ratio) := ⟨rfl, rfl, rfl, by decide +kernel, rfl, by decide +kernel, by decide +kernel⟩
abbrev s__law_is_ratio : Stmt := topS 23
abbrev N__law_is_ratio : List Str := ["one", "part"]
theorem sc__law_is_ratio : FnScope N__law_is_ratio ["one"] (defScope s__law_is_ratio) := ⟨rfl, rfl, rfl, by decide +kernel, rfl, by decide +kernel, by decide +kernel⟩
noncomputable def b__law_is_ratio : XS :=
  (sSeq (sIf (xOr (xNot (xTru (oE (xIsi isTup (oVar 0))))) (xOr (xB (oE (xS2 dNe (oE (xSN dLen (aCons (oVar 0) aNil))) (oE (eC (.int 2)))))) (xB (oE (xS2 dNe (oE (eLc (iSeq (oE (eVar 0))) (gN 1) (xOr (xNot (xTru (oE (xIsi isInt (oVar 1))))) (xTru (oE (xIsi isBool (oVar 1))))) (eVar 1) [1])) (oE (xLst aNil))))))) (sRet (eC (.bl false))) sNext)
    (sRet (xAndV (oE (xS2 dGt (oE (xIx dIx oIx (oVar 0) (oE (eC (.int 1))))) (oE (eC (.int 0))))) (xS2 dEq (oE (xCall m__law_gcd (aCons (oE (xSN dAbs (aCons (oE (xIx dIx oIx (oVar 0) (oE (eC (.int 0))))) aNil))) (aCons (oE (xIx dIx oIx (oVar 0) (oE (eC (.int 1))))) aNil)))) (oE (eC (.int 1)))))))
noncomputable def m__law_is_ratio : List O → Option (O × List O) := runF 2 1 [0] b__law_is_ratio
theorem m_len__law_is_ratio {os : List O} {r : O × List O} (e : m__law_is_ratio os = some r) : os.length = 1 ∧ r.2.length = 1 := runF_len e
abbrev s__law_any : Stmt := topS 24
abbrev N__law_any : List Str := ["box", "a", "b", "k"]
theorem sc__law_any : FnScope N__law_any ["box"] (defScope s__law_any) := ⟨rfl, rfl, rfl, by decide +kernel, rfl, by decide +kernel, by decide +kernel⟩
noncomputable def b__law_any_1 : XS :=
  (sPar 1 2 (aCons (oE (xA2 dAdd (oE (xA2 dMul (oE (eVar 1)) (oE (eC (.int 997))))) (oE (xCall m__law_draw (aCons (oVar 0) (aCons (oE (eC (.int 900))) aNil)))))) (aCons (oE (xA2 dAdd (oE (xA2 dMul (oE (eVar 2)) (oE (eC (.int 991))))) (oE (xCall m__law_draw (aCons (oVar 0) (aCons (oE (eC (.int 900))) aNil)))))) aNil)))
noncomputable def b__law_any : XS :=
  (sSeq (sPar 1 2 (aCons (oE (xS2 dSub (oE (xCall m__law_draw (aCons (oVar 0) (aCons (oE (eC (.int 900))) aNil)))) (oE (eC (.int 450))))) (aCons (oE (xA2 dAdd (oE (eC (.int 1))) (oE (xCall m__law_draw (aCons (oVar 0) (aCons (oE (eC (.int 60))) aNil)))))) aNil)))
    (sSeq (sIf (xB (oE (xS2 dEq (oE (xCall m__law_draw (aCons (oVar 0) (aCons (oE (eC (.int 3))) aNil)))) (oE (eC (.int 0)))))) (sFor (iR1 (oE (xA2 dAdd (oE (eC (.int 2))) (oE (xCall m__law_draw (aCons (oVar 0) (aCons (oE (eC (.int 8))) aNil))))))) (gN 3) b__law_any_1) sNext)
    (sRet (xCall m__law_ratio (aCons (oVar 1) (aCons (oVar 2) aNil))))))
noncomputable def m__law_any : List O → Option (O × List O) := runF 4 1 [0] b__law_any
theorem m_len__law_any {os : List O} {r : O × List O} (e : m__law_any os = some r) : os.length = 1 ∧ r.2.length = 1 := runF_len e
abbrev s__law_same : Stmt := topS 25
abbrev N__law_same : List Str := ["told", "a", "b"]
theorem sc__law_same : FnScope N__law_same ["told", "a", "b"] (defScope s__law_same) := ⟨rfl, rfl, rfl, by decide +kernel, rfl, by decide +kernel, by decide +kernel⟩
noncomputable def b__law_same : XS :=
  (sRet (xAndV (oE (xCall m__law_is_ratio (aCons (oVar 0) aNil))) (xS2 dEq (oE (xA2 dMul (oE (xIx dIx oIx (oVar 0) (oE (eC (.int 0))))) (oE (eVar 2)))) (oE (xA2 dMul (oE (eVar 1)) (oE (xIx dIx oIx (oVar 0) (oE (eC (.int 1))))))))))
noncomputable def m__law_same : List O → Option (O × List O) := runF 3 3 [0, 1, 2] b__law_same
theorem m_len__law_same {os : List O} {r : O × List O} (e : m__law_same os = some r) : os.length = 3 ∧ r.2.length = 3 := runF_len e
abbrev s_law : Stmt := topS 26
abbrev N_law : List Str := ["script", "box", "turn", "one", "other", "a", "b", "c", "d", "size", "n", "due", "wrong"]
theorem sc_law : FnScope N_law ["script"] (defScope s_law) := ⟨rfl, rfl, rfl, by decide +kernel, rfl, by decide +kernel, by decide +kernel⟩
noncomputable def b_law_1 : XS :=
  (sSeq (sPar 3 4 (aCons (oE (xCall m__law_any (aCons (oVar 1) aNil))) (aCons (oE (xCall m__law_any (aCons (oVar 1) aNil))) aNil)))
    (sSeq (sAsg (xTup (aCons (oE (eVar 3)) (aCons (oE (eVar 4)) aNil))) (gTp 2 (gsCons (gTp 2 (gsCons (gN 5) (gsCons (gN 6) gsNil))) (gsCons (gTp 2 (gsCons (gN 7) (gsCons (gN 8) gsNil))) gsNil))))
    (sSeq (sIf (xOr (xB (oE (xS2 dNotB (oE (xCall m_is_ratio (aCons (oVar 3) aNil))) (oE (eC (.bl true)))))) (xNot (xTru (oE (xCall m__law_like_8 (aCons (oE (xCall m_is_typed (aCons (oVar 3) aNil))) (aCons (oE (xAndV (oE (xS2 dLe (oE (xSN dAbs (aCons (oVar 5) aNil))) (oE (eC (.int 1000000))))) (xS2 dLe (oVar 6) (oE (eC (.int 1000)))))) aNil))))))) (sRet (eC (.bl false))) sNext)
    (sSeq (sIf (xOr (xNot (xTru (oE (xCall m__law_same (aCons (oE (xCall m_plus (aCons (oVar 3) (aCons (oVar 4) aNil)))) (aCons (oE (xA2 dAdd (oE (xA2 dMul (oE (eVar 5)) (oE (eVar 8)))) (oE (xA2 dMul (oE (eVar 7)) (oE (eVar 6)))))) (aCons (oE (xA2 dMul (oE (eVar 6)) (oE (eVar 8)))) aNil))))))) (xOr (xNot (xTru (oE (xCall m__law_same (aCons (oE (xCall m_minus (aCons (oVar 3) (aCons (oVar 4) aNil)))) (aCons (oE (xS2 dSub (oE (xA2 dMul (oE (eVar 5)) (oE (eVar 8)))) (oE (xA2 dMul (oE (eVar 7)) (oE (eVar 6)))))) (aCons (oE (xA2 dMul (oE (eVar 6)) (oE (eVar 8)))) aNil))))))) (xNot (xTru (oE (xCall m__law_same (aCons (oE (xCall m_product (aCons (oVar 3) (aCons (oVar 4) aNil)))) (aCons (oE (xA2 dMul (oE (eVar 5)) (oE (eVar 7)))) (aCons (oE (xA2 dMul (oE (eVar 6)) (oE (eVar 8)))) aNil))))))))) (sRet (eC (.bl false))) sNext)
    (sSeq (sIf (xAnd (xB (oE (xS2 dNe (oVar 7) (oE (eC (.int 0)))))) (xNot (xTru (oE (xCall m__law_same (aCons (oE (xCall m_quotient (aCons (oVar 3) (aCons (oVar 4) aNil)))) (aCons (oE (xA2 dMul (oE (xA2 dMul (oE (eVar 5)) (oE (eVar 8)))) (oE (xIf (xB (oE (xS2 dGt (oVar 7) (oE (eC (.int 0)))))) (eC (.int 1)) (xS2 dSub (oE (eC (.int 0))) (oE (eC (.int 1)))))))) (aCons (oE (xA2 dMul (oE (eVar 6)) (oE (xSN dAbs (aCons (oVar 7) aNil))))) aNil)))))))) (sRet (eC (.bl false))) sNext)
    (sSeq (sAsg (xS2 dSub (oE (xA2 dMul (oE (eVar 5)) (oE (eVar 8)))) (oE (xA2 dMul (oE (eVar 7)) (oE (eVar 6))))) (gN 9))
    (sSeq (sIf (xNot (xTru (oE (xCall m__law_like_8 (aCons (oE (xTup (aCons (oE (xCall m_compare (aCons (oVar 3) (aCons (oVar 4) aNil)))) (aCons (oE (xCall m_compare (aCons (oVar 4) (aCons (oVar 3) aNil)))) (aCons (oE (xCall m_compare (aCons (oVar 3) (aCons (oVar 3) aNil)))) aNil))))) (aCons (oE (xTup (aCons (oE (xS2 dSub (oE (xSN dIntOf (aCons (oE (xS2 dGt (oVar 9) (oE (eC (.int 0))))) aNil))) (oE (xSN dIntOf (aCons (oE (xS2 dLt (oVar 9) (oE (eC (.int 0))))) aNil))))) (aCons (oE (xS2 dSub (oE (xSN dIntOf (aCons (oE (xS2 dLt (oVar 9) (oE (eC (.int 0))))) aNil))) (oE (xSN dIntOf (aCons (oE (xS2 dGt (oVar 9) (oE (eC (.int 0))))) aNil))))) (aCons (oE (eC (.int 0))) aNil))))) aNil)))))) (sRet (eC (.bl false))) sNext)
    (sSeq (sAsg (xA2 dAdd (oE (eC (.int 1))) (oE (xCall m__law_draw (aCons (oVar 1) (aCons (oE (eC (.int 30))) aNil))))) (gN 10))
    (sIf (xOr (xNot (xTru (oE (xCall m__law_like_8 (aCons (oE (xTup (aCons (oE (xCall m_ratio (aCons (oE (xA2 dMul (oE (eVar 5)) (oE (eVar 10)))) (aCons (oE (xA2 dMul (oE (eVar 6)) (oE (eVar 10)))) aNil)))) (aCons (oE (xCall m_ratio (aCons (oE (xS2 dSub (oE (eC (.int 0))) (oE (xA2 dMul (oE (eVar 5)) (oE (eVar 10)))))) (aCons (oE (xS2 dSub (oE (eC (.int 0))) (oE (xA2 dMul (oE (eVar 6)) (oE (eVar 10)))))) aNil)))) aNil)))) (aCons (oE (xTup (aCons (oE (eVar 3)) (aCons (oE (eVar 3)) aNil)))) aNil)))))) (xNot (xTru (oE (xCall m__law_like_8 (aCons (oE (xCall m_ratio (aCons (oE (xA2 dMul (oE (eVar 5)) (oE (eVar 10)))) (aCons (oE (xS2 dSub (oE (eC (.int 0))) (oE (xA2 dMul (oE (eVar 6)) (oE (eVar 10)))))) aNil)))) (aCons (oE (xTup (aCons (oE (xS2 dSub (oE (eC (.int 0))) (oVar 5))) (aCons (oE (eVar 6)) aNil)))) aNil))))))) (sRet (eC (.bl false))) sNext)))))))))
noncomputable def b_law : XS :=
  (sSeq (sAsg (xLst (aCons (oE (xCall m__law_digits (aCons (oVar 0) (aCons (oE (eC (.int 0))) (aCons (oE (eC (.int 63))) aNil))))) (aCons (oE (eC (.int 0))) aNil))) (gN 1))
    (sSeq (sFor (iR1 (oE (eC (.int 4)))) (gN 2) b_law_1)
    (sSeq (sPar 5 6 (aCons (oE (xS2 dSub (oE (xCall m__law_draw (aCons (oVar 1) (aCons (oE (eC (.int 900))) aNil)))) (oE (eC (.int 450))))) (aCons (oE (xA2 dAdd (oE (eC (.int 1))) (oE (xCall m__law_draw (aCons (oVar 1) (aCons (oE (eC (.int 60))) aNil)))))) aNil)))
    (sSeq (sAsg (xCall m__law_ratio (aCons (oVar 5) (aCons (oVar 6) aNil))) (gN 3))
    (sSeq (sAsg (xIf (xB (oE (xS2 dEq (oE (xIx dIx oIx (oVar 3) (oE (eC (.int 1))))) (oE (eC (.int 1)))))) (xSN dStrOf (aCons (oE (xIx dIx oIx (oVar 3) (oE (eC (.int 0))))) aNil)) (xA2 dAdd (oE (xA2 dAdd (oE (xSN dStrOf (aCons (oE (xIx dIx oIx (oVar 3) (oE (eC (.int 0))))) aNil))) (oE (eC (.str (PySem.Str.ofString "/")))))) (oE (xSN dStrOf (aCons (oE (xIx dIx oIx (oVar 3) (oE (eC (.int 1))))) aNil))))) (gN 11))
    (sSeq (sIf (xOr (xNot (xTru (oE (xCall m__law_like_8 (aCons (oE (xCall m_write_ratio (aCons (oVar 3) aNil))) (aCons (oVar 11) aNil)))))) (xNot (xTru (oE (xCall m__law_like_8 (aCons (oE (xTup (aCons (oE (xCall m_write_ratio (aCons (oE (xTup (aCons (oE (eC (.int 0))) (aCons (oE (eC (.int 1))) aNil)))) aNil))) (aCons (oE (xCall m_write_ratio (aCons (oE (xTup (aCons (oE (xS2 dSub (oE (eC (.int 0))) (oE (eC (.int 25))))) (aCons (oE (eC (.int 2))) aNil)))) aNil))) aNil)))) (aCons (oE (xTup (aCons (oE (eC (.str (PySem.Str.ofString "0")))) (aCons (oE (eC (.str (PySem.Str.ofString "-25/2")))) aNil)))) aNil))))))) (sRet (eC (.bl false))) sNext)
    (sSeq (sAsg (xLst (aCons (oE (xTup (aCons (oE (eC (.int 2))) (aCons (oE (eC (.int 4))) aNil)))) (aCons (oE (xTup (aCons (oE (eC (.int 1))) (aCons (oE (eC (.int 0))) aNil)))) (aCons (oE (xTup (aCons (oE (eC (.int 1))) (aCons (oE (xS2 dSub (oE (eC (.int 0))) (oE (eC (.int 2))))) aNil)))) (aCons (oE (xTup (aCons (oE (eC (.int 0))) (aCons (oE (eC (.int 2))) aNil)))) (aCons (oE (xTup (aCons (oE (eC (.bl true))) (aCons (oE (eC (.int 1))) aNil)))) (aCons (oE (xTup (aCons (oE (eC (.int 1))) (aCons (oE (eC (.bl true))) aNil)))) (aCons (oE (xLst (aCons (oE (eC (.int 1))) (aCons (oE (eC (.int 2))) aNil)))) (aCons (oE (xTup (aCons (oE (eC (.int 1))) aNil))) (aCons (oE (xTup (aCons (oE (eC (.int 1))) (aCons (oE (eC (.int 2))) (aCons (oE (eC (.int 3))) aNil))))) (aCons (oE (eC (.str (PySem.Str.ofString "1/2")))) (aCons (oE (eC (.int 1))) (aCons (oE (eC .non)) (aCons (oE (xTup (aCons (oE (xTup (aCons (oE (eC (.int 1))) (aCons (oE (eC (.int 2))) aNil)))) (aCons (oE (eC (.int 1))) aNil)))) aNil)))))))))))))) (gN 12))
    (sSeq (sIf (xOr (xB (oE (xS2 dNotB (oE (xCall m_is_ratio (aCons (oE (xCall m__law_pick (aCons (oVar 1) (aCons (oVar 12) aNil)))) aNil))) (oE (eC (.bl false)))))) (xB (oE (xS2 dNotB (oE (xCall m_is_typed (aCons (oE (xCall m__law_pick (aCons (oVar 1) (aCons (oE (xA2 dAdd (oE (eVar 12)) (oE (xLst (aCons (oE (xTup (aCons (oE (eC (.int 1000001))) (aCons (oE (eC (.int 1))) aNil)))) (aCons (oE (xTup (aCons (oE (eC (.int 1))) (aCons (oE (eC (.int 1001))) aNil)))) (aCons (oE (xTup (aCons (oE (xS2 dSub (oE (eC (.int 0))) (oE (eC (.int 1000001))))) (aCons (oE (eC (.int 1))) aNil)))) aNil))))))) aNil)))) aNil))) (oE (eC (.bl false))))))) (sRet (eC (.bl false))) sNext)
    (sRet (xCall m__law_like_8 (aCons (oE (xTup (aCons (oE (xCall m_is_typed (aCons (oE (xTup (aCons (oE (eC (.int 1000000))) (aCons (oE (eC (.int 1))) aNil)))) aNil))) (aCons (oE (xCall m_is_typed (aCons (oE (xTup (aCons (oE (xS2 dSub (oE (eC (.int 0))) (oE (eC (.int 1000000))))) (aCons (oE (eC (.int 999))) aNil)))) aNil))) (aCons (oE (xCall m_is_typed (aCons (oE (xTup (aCons (oE (eC (.int 1))) (aCons (oE (eC (.int 1000))) aNil)))) aNil))) aNil))))) (aCons (oE (xTup (aCons (oE (eC (.bl true))) (aCons (oE (eC (.bl true))) (aCons (oE (eC (.bl true))) aNil))))) aNil))))))))))))
noncomputable def m_law : List O → Option (O × List O) := runF 13 1 [0] b_law
theorem m_len_law {os : List O} {r : O × List O} (e : m_law os = some r) : os.length = 1 ∧ r.2.length = 1 := runF_len e
structure Txt (K : PySem.W.Frag) (mg : Str → Option Value) where
  d_is_number : FnAt K mg "is_number" (topS 2) ["thing"]
  d_is_ratio : FnAt K mg "is_ratio" (topS 6) ["thing"]
  d_is_typed : FnAt K mg "is_typed" (topS 7) ["thing"]
  d_ratio : FnAt K mg "ratio" (topS 8) ["a", "b"]
  d_plus : FnAt K mg "plus" (topS 9) ["one", "other"]
  d_minus : FnAt K mg "minus" (topS 10) ["one", "other"]
  d_product : FnAt K mg "product" (topS 11) ["one", "other"]
  d_quotient : FnAt K mg "quotient" (topS 12) ["one", "other"]
  d_compare : FnAt K mg "compare" (topS 13) ["one", "other"]
  d_write_ratio : FnAt K mg "write_ratio" (topS 14) ["one"]
  d__law_cell : FnAt K mg "_law_cell" (topS 16) ["script", "k"]
  d__law_digits : FnAt K mg "_law_digits" (topS 17) ["script", "first", "last"]
  d__law_draw : FnAt K mg "_law_draw" (topS 18) ["box", "many"]
  d__law_pick : FnAt K mg "_law_pick" (topS 19) ["box", "things"]
  d__law_like : FnAt K mg "_law_like" (topS 20) ["told", "due"]
  d__law_gcd : FnAt K mg "_law_gcd" (topS 21) ["one", "other"]
  d__law_ratio : FnAt K mg "_law_ratio" (topS 22) ["a", "b"]
  d__law_is_ratio : FnAt K mg "_law_is_ratio" (topS 23) ["one"]
  d__law_any : FnAt K mg "_law_any" (topS 24) ["box"]
  d__law_same : FnAt K mg "_law_same" (topS 25) ["told", "a", "b"]
  d_law : FnAt K mg "law" (topS 26) ["script"]
  z_abs : mg "abs" = none
  z_bool : mg "bool" = none
  z_int : mg "int" = none
  z_isinstance : mg "isinstance" = none
  z_len : mg "len" = none
  z_range : mg "range" = none
  z_str : mg "str" = none
  z_tuple : mg "tuple" = none
  b_gcd : mg "gcd" = some (.builtin "math.gcd")
  i_MOST_ABOVE : ∃ t, mg "MOST_ABOVE" = some (.int 1000000 t)
  i_MOST_BELOW : ∃ t, mg "MOST_BELOW" = some (.int 1000 t)
section
variable {P : Program} {w : World} {K : PySem.W.Frag} {mg : Str → Option Value} {base : Heap}
theorem ok_is_number (T : Txt K mg) : FnOk P w K mg base CX0 1 T.d_is_number.f T.d_is_number.fd ["thing"] (spM K 1 m_is_number) := by
    refine ok_fn (N := N_is_number) (ps := ["thing"]) (k := 0) (pin := [0]) (body := b_is_number) T.d_is_number.F sc_is_number (by decide) fun cdv A outer s H E hr => ?_
    have hu : _ < _ := hu_of hr
    have hu64 := hr.units
    refine ⟨_, (pss_one (ps_ret (pe_andT (pe_callB call_isi (by rfl) T.z_isinstance (by decide +kernel) (pa_cons (pv 0) (pa_cons (pe_bltn (v := .ty "int") (u := .type "int") (by rfl) T.z_int (by decide +kernel) rfl) pa_nil))) (pe_one (pe_notT (pe_callB call_isi (by rfl) T.z_isinstance (by decide +kernel) (pa_cons (pv 0) (pa_cons (pe_bltn (v := .ty "bool") (u := .type "bool") (by rfl) T.z_bool (by decide +kernel) rfl) pa_nil)))))))), fun B hK hp => ?_⟩
    subst hK
    exact (ss_ret (se_andV (so_e (se_isi isTy_int so_var)) (se_notV (so_e (se_isi isTy_bool so_var)))))
theorem ok_is_ratio (T : Txt K mg) : FnOk P w K mg base CX0 2 T.d_is_ratio.f T.d_is_ratio.fd ["thing"] (spM K 1 m_is_ratio) := by
    refine ok_fn (N := N_is_ratio) (ps := ["thing"]) (k := 1) (pin := [0]) (body := b_is_ratio) T.d_is_ratio.F sc_is_ratio (by decide) fun cdv A outer s H E hr => ?_
    have hu : _ < _ := hu_of hr
    have hu64 := hr.units
    refine ⟨_, (pss_cons (ps_if (PW.pt (pw_or (pt_not (pt_truth (pe_callB call_isi (by rfl) T.z_isinstance (by decide +kernel) (pa_cons (pv 0) (pa_cons (pe_bltn (v := .ty "tuple") (u := .type "tuple") (by rfl) T.z_tuple (by decide +kernel) rfl) pa_nil))) (by intro _; rfl))) (pw_or1 (pt_cmpR (op_neAll hu64) (pe_callB call_lenAll (by rfl) T.z_len (by decide +kernel) (pa_cons (pv 0) pa_nil)) pe_int (nomark _))))) (pss_one (ps_ret pe_bl)) pss_nil)
    (pss_cons (ps_asg (pv 0) (pg_tup rfl (pgs_cons (pg_name (i := 1) sc_is_ratio.nd rfl (Or.inl rfl)) (pgs_cons (pg_name (i := 2) sc_is_ratio.nd rfl (Or.inl rfl)) pgs_nil))))
    (pss_one (ps_ret (pe_andT (pe_call (ok_is_number T) (hr.mono (by first | decide | omega)) rfl T.d_is_number.g T.d_is_number.F.kp T.d_is_number.b .nil pass0 (pa_cons (pv 1) pa_nil)) (pe_andT (pe_call (ok_is_number T) (hr.mono (by first | decide | omega)) rfl T.d_is_number.g T.d_is_number.F.kp T.d_is_number.b .nil pass0 (pa_cons (pv 2) pa_nil)) (pe_andT (pe_cmpR op_geIS (pv 2) pe_int (nomark _)) (pe_one (pe_cmpR (op_eqAll hu64) (pe_callBfun cr_gcd rfl T.b_gcd (pa_cons (pv 1) (pa_cons (pv 2) pa_nil))) pe_int (nomark _)))))))))), fun B hK hp => ?_⟩
    subst hK
    exact (ss_seq (ss_if (st_or (st_not (st_tru (so_e (se_isi isTy_tup so_var)))) (st_test (so_e (se_s2 s2_ne (so_e (se_sn sn_len (sa_cons so_var sa_nil))) (so_e se_int))))) (ss_ret se_bl) ss_next)
    (ss_seq (ss_asg se_var (sg_tup (n := 2) (sgs_cons (sg_name (by rw [hp]; decide)) (sgs_cons (sg_name (by rw [hp]; decide)) sgs_nil))))
    (ss_ret (se_andV (so_e (se_call (sa_cons so_var sa_nil) (fun os r e => m_len_is_number e))) (se_andV (so_e (se_call (sa_cons so_var sa_nil) (fun os r e => m_len_is_number e))) (se_andV (so_e (se_s2 s2_ge so_var (so_e se_int))) (se_s2 s2_eq (so_e (se_sn sn_gcd (sa_cons so_var (sa_cons so_var sa_nil)))) (so_e se_int))))))))
theorem ok_is_typed (T : Txt K mg) : FnOk P w K mg base CX0 3 T.d_is_typed.f T.d_is_typed.fd ["thing"] (spM K 1 m_is_typed) := by
    refine ok_fn (N := N_is_typed) (ps := ["thing"]) (k := 2) (pin := [0]) (body := b_is_typed) T.d_is_typed.F sc_is_typed (by decide) fun cdv A outer s H E hr => ?_
    have hu : _ < _ := hu_of hr
    have hu64 := hr.units
    refine ⟨_, (pss_one (ps_ret (pe_andT (pe_call (ok_is_ratio T) (hr.mono (by first | decide | omega)) rfl T.d_is_ratio.g T.d_is_ratio.F.kp T.d_is_ratio.b .nil pass0 (pa_cons (pv 0) pa_nil)) (pe_andT (pe_cmpR op_leIS (pe_callB call_abs (by rfl) T.z_abs (by decide +kernel) (pa_cons (pe_ix (ix_all hu) (pv 0) pe_int (fun _ _ => rfl)) pa_nil)) (pe_glob (v := .int 1000000) rfl T.i_MOST_ABOVE.choose_spec ⟨_, rfl⟩) (nomark _)) (pe_one (pe_cmpR op_leIS (pe_ix (ix_all hu) (pv 0) pe_int (fun _ _ => rfl)) (pe_glob (v := .int 1000) rfl T.i_MOST_BELOW.choose_spec ⟨_, rfl⟩) (nomark _))))))), fun B hK hp => ?_⟩
    subst hK
    exact (ss_ret (se_andV (so_e (se_call (sa_cons so_var sa_nil) (fun os r e => m_len_is_ratio e))) (se_andV (so_e (se_s2 s2_le (so_e (se_sn sn_abs (sa_cons (so_e (se_ix ixOk_all ixOw_all so_var (so_e se_int))) sa_nil))) (so_e se_int))) (se_s2 s2_le (so_e (se_ix ixOk_all ixOw_all so_var (so_e se_int))) (so_e se_int)))))
theorem ok_ratio (T : Txt K mg) : FnOk P w K mg base CX0 1 T.d_ratio.f T.d_ratio.fd ["a", "b"] (spM K 2 m_ratio) := by
    refine ok_fn (N := N_ratio) (ps := ["a", "b"]) (k := 0) (pin := [0, 1]) (body := b_ratio) T.d_ratio.F sc_ratio (by decide) fun cdv A outer s H E hr => ?_
    have hu : _ < _ := hu_of hr
    have hu64 := hr.units
    refine ⟨_, (pss_cons (ps_set (i := 2) sc_ratio.nd rfl (Or.inl rfl) (pe_callBfun cr_gcd rfl T.b_gcd (pa_cons (pv 0) (pa_cons (pv 1) pa_nil))))
    (pss_cons (ps_if (pt_cmpR op_ltIS (pv 1) pe_int (nomark _)) (pss_one (ps_set (i := 2) sc_ratio.nd rfl (Or.inl rfl) (pe_un un_neg (pv 2)))) pss_nil)
    (pss_one (ps_ret (pe_tup (pa_cons (pe_op op_fdivX (pv 0) (pv 2)) (pa_cons (pe_op op_fdivX (pv 1) (pv 2)) pa_nil))))))), fun B hK hp => ?_⟩
    subst hK
    exact (ss_seq (ss_asg (se_sn sn_gcd (sa_cons so_var (sa_cons so_var sa_nil))) (sg_name (by rw [hp]; decide)))
    (ss_seq (ss_if (st_test (so_e (se_s2 s2_lt so_var (so_e se_int)))) (ss_asg (se_s1 s1_neg so_var) (sg_name (by rw [hp]; decide))) ss_next)
    (ss_ret (se_tup (sa_cons (so_e (se_s2 s2_fdiv so_var so_var)) (sa_cons (so_e (se_s2 s2_fdiv so_var so_var)) sa_nil))))))
theorem ok_plus (T : Txt K mg) : FnOk P w K mg base CX0 2 T.d_plus.f T.d_plus.fd ["one", "other"] (spM K 2 m_plus) := by
    refine ok_fn (N := N_plus) (ps := ["one", "other"]) (k := 1) (pin := [0, 1]) (body := b_plus) T.d_plus.F sc_plus (by decide) fun cdv A outer s H E hr => ?_
    have hu : _ < _ := hu_of hr
    have hu64 := hr.units
    refine ⟨_, (pss_one (ps_ret (pe_call (ok_ratio T) (hr.mono (by first | decide | omega)) rfl T.d_ratio.g T.d_ratio.F.kp T.d_ratio.b .nil pass0 (pa_cons (pe_op op_addAll (pe_op op_mulAll (pe_ix (ix_all hu) (pv 0) pe_int (fun _ _ => rfl)) (pe_ix (ix_all hu) (pv 1) pe_int (fun _ _ => rfl))) (pe_op op_mulAll (pe_ix (ix_all hu) (pv 1) pe_int (fun _ _ => rfl)) (pe_ix (ix_all hu) (pv 0) pe_int (fun _ _ => rfl)))) (pa_cons (pe_op op_mulAll (pe_ix (ix_all hu) (pv 0) pe_int (fun _ _ => rfl)) (pe_ix (ix_all hu) (pv 1) pe_int (fun _ _ => rfl))) pa_nil))))), fun B hK hp => ?_⟩
    subst hK
    exact (ss_ret (se_call (sa_cons (so_e (se_a2 a2_add (so_e (se_a2 a2_mul (so_e (se_ix ixOk_all ixOw_all so_var (so_e se_int))) (so_e (se_ix ixOk_all ixOw_all so_var (so_e se_int))))) (so_e (se_a2 a2_mul (so_e (se_ix ixOk_all ixOw_all so_var (so_e se_int))) (so_e (se_ix ixOk_all ixOw_all so_var (so_e se_int))))))) (sa_cons (so_e (se_a2 a2_mul (so_e (se_ix ixOk_all ixOw_all so_var (so_e se_int))) (so_e (se_ix ixOk_all ixOw_all so_var (so_e se_int))))) sa_nil)) (fun os r e => m_len_ratio e)))
theorem ok_minus (T : Txt K mg) : FnOk P w K mg base CX0 2 T.d_minus.f T.d_minus.fd ["one", "other"] (spM K 2 m_minus) := by
    refine ok_fn (N := N_minus) (ps := ["one", "other"]) (k := 1) (pin := [0, 1]) (body := b_minus) T.d_minus.F sc_minus (by decide) fun cdv A outer s H E hr => ?_
    have hu : _ < _ := hu_of hr
    have hu64 := hr.units
    refine ⟨_, (pss_one (ps_ret (pe_call (ok_ratio T) (hr.mono (by first | decide | omega)) rfl T.d_ratio.g T.d_ratio.F.kp T.d_ratio.b .nil pass0 (pa_cons (pe_op op_sub (pe_op op_mulAll (pe_ix (ix_all hu) (pv 0) pe_int (fun _ _ => rfl)) (pe_ix (ix_all hu) (pv 1) pe_int (fun _ _ => rfl))) (pe_op op_mulAll (pe_ix (ix_all hu) (pv 1) pe_int (fun _ _ => rfl)) (pe_ix (ix_all hu) (pv 0) pe_int (fun _ _ => rfl)))) (pa_cons (pe_op op_mulAll (pe_ix (ix_all hu) (pv 0) pe_int (fun _ _ => rfl)) (pe_ix (ix_all hu) (pv 1) pe_int (fun _ _ => rfl))) pa_nil))))), fun B hK hp => ?_⟩
    subst hK
    exact (ss_ret (se_call (sa_cons (so_e (se_s2 s2_sub (so_e (se_a2 a2_mul (so_e (se_ix ixOk_all ixOw_all so_var (so_e se_int))) (so_e (se_ix ixOk_all ixOw_all so_var (so_e se_int))))) (so_e (se_a2 a2_mul (so_e (se_ix ixOk_all ixOw_all so_var (so_e se_int))) (so_e (se_ix ixOk_all ixOw_all so_var (so_e se_int))))))) (sa_cons (so_e (se_a2 a2_mul (so_e (se_ix ixOk_all ixOw_all so_var (so_e se_int))) (so_e (se_ix ixOk_all ixOw_all so_var (so_e se_int))))) sa_nil)) (fun os r e => m_len_ratio e)))
theorem ok_product (T : Txt K mg) : FnOk P w K mg base CX0 2 T.d_product.f T.d_product.fd ["one", "other"] (spM K 2 m_product) := by
    refine ok_fn (N := N_product) (ps := ["one", "other"]) (k := 1) (pin := [0, 1]) (body := b_product) T.d_product.F sc_product (by decide) fun cdv A outer s H E hr => ?_
    have hu : _ < _ := hu_of hr
    have hu64 := hr.units
    refine ⟨_, (pss_one (ps_ret (pe_call (ok_ratio T) (hr.mono (by first | decide | omega)) rfl T.d_ratio.g T.d_ratio.F.kp T.d_ratio.b .nil pass0 (pa_cons (pe_op op_mulAll (pe_ix (ix_all hu) (pv 0) pe_int (fun _ _ => rfl)) (pe_ix (ix_all hu) (pv 1) pe_int (fun _ _ => rfl))) (pa_cons (pe_op op_mulAll (pe_ix (ix_all hu) (pv 0) pe_int (fun _ _ => rfl)) (pe_ix (ix_all hu) (pv 1) pe_int (fun _ _ => rfl))) pa_nil))))), fun B hK hp => ?_⟩
    subst hK
    exact (ss_ret (se_call (sa_cons (so_e (se_a2 a2_mul (so_e (se_ix ixOk_all ixOw_all so_var (so_e se_int))) (so_e (se_ix ixOk_all ixOw_all so_var (so_e se_int))))) (sa_cons (so_e (se_a2 a2_mul (so_e (se_ix ixOk_all ixOw_all so_var (so_e se_int))) (so_e (se_ix ixOk_all ixOw_all so_var (so_e se_int))))) sa_nil)) (fun os r e => m_len_ratio e)))
theorem ok_quotient (T : Txt K mg) : FnOk P w K mg base CX0 2 T.d_quotient.f T.d_quotient.fd ["one", "other"] (spM K 2 m_quotient) := by
    refine ok_fn (N := N_quotient) (ps := ["one", "other"]) (k := 1) (pin := [0, 1]) (body := b_quotient) T.d_quotient.F sc_quotient (by decide) fun cdv A outer s H E hr => ?_
    have hu : _ < _ := hu_of hr
    have hu64 := hr.units
    refine ⟨_, (pss_one (ps_ret (pe_call (ok_ratio T) (hr.mono (by first | decide | omega)) rfl T.d_ratio.g T.d_ratio.F.kp T.d_ratio.b .nil pass0 (pa_cons (pe_op op_mulAll (pe_ix (ix_all hu) (pv 0) pe_int (fun _ _ => rfl)) (pe_ix (ix_all hu) (pv 1) pe_int (fun _ _ => rfl))) (pa_cons (pe_op op_mulAll (pe_ix (ix_all hu) (pv 0) pe_int (fun _ _ => rfl)) (pe_ix (ix_all hu) (pv 1) pe_int (fun _ _ => rfl))) pa_nil))))), fun B hK hp => ?_⟩
    subst hK
    exact (ss_ret (se_call (sa_cons (so_e (se_a2 a2_mul (so_e (se_ix ixOk_all ixOw_all so_var (so_e se_int))) (so_e (se_ix ixOk_all ixOw_all so_var (so_e se_int))))) (sa_cons (so_e (se_a2 a2_mul (so_e (se_ix ixOk_all ixOw_all so_var (so_e se_int))) (so_e (se_ix ixOk_all ixOw_all so_var (so_e se_int))))) sa_nil)) (fun os r e => m_len_ratio e)))
theorem ok_compare (T : Txt K mg) : FnOk P w K mg base CX0 1 T.d_compare.f T.d_compare.fd ["one", "other"] (spM K 2 m_compare) := by
    refine ok_fn (N := N_compare) (ps := ["one", "other"]) (k := 0) (pin := [0, 1]) (body := b_compare) T.d_compare.F sc_compare (by decide) fun cdv A outer s H E hr => ?_
    have hu : _ < _ := hu_of hr
    have hu64 := hr.units
    refine ⟨_, (pss_cons (ps_set (i := 2) sc_compare.nd rfl (Or.inl rfl) (pe_op op_mulAll (pe_ix (ix_all hu) (pv 0) pe_int (fun _ _ => rfl)) (pe_ix (ix_all hu) (pv 1) pe_int (fun _ _ => rfl))))
    (pss_cons (ps_set (i := 3) sc_compare.nd rfl (Or.inl rfl) (pe_op op_mulAll (pe_ix (ix_all hu) (pv 1) pe_int (fun _ _ => rfl)) (pe_ix (ix_all hu) (pv 0) pe_int (fun _ _ => rfl))))
    (pss_cons (ps_if (pt_cmpR (op_eqAll hu64) (pv 2) (pv 3) (nomark _)) (pss_one (ps_ret pe_int)) pss_nil)
    (pss_one (ps_ret (pe_ifExp (pt_cmpR op_ltIS (pv 2) (pv 3) (nomark _)) (pe_un un_neg pe_int) pe_int)))))), fun B hK hp => ?_⟩
    subst hK
    exact (ss_seq (ss_asg (se_a2 a2_mul (so_e (se_ix ixOk_all ixOw_all so_var (so_e se_int))) (so_e (se_ix ixOk_all ixOw_all so_var (so_e se_int)))) (sg_name (by rw [hp]; decide)))
    (ss_seq (ss_asg (se_a2 a2_mul (so_e (se_ix ixOk_all ixOw_all so_var (so_e se_int))) (so_e (se_ix ixOk_all ixOw_all so_var (so_e se_int)))) (sg_name (by rw [hp]; decide)))
    (ss_seq (ss_if (st_test (so_e (se_s2 s2_eq so_var so_var))) (ss_ret se_int) ss_next)
    (ss_ret (se_if (st_test (so_e (se_s2 s2_lt so_var so_var))) (se_s1 s1_neg (so_e se_int)) se_int)))))
theorem ok_write_ratio (T : Txt K mg) : FnOk P w K mg base CX0 1 T.d_write_ratio.f T.d_write_ratio.fd ["one"] (spM K 1 m_write_ratio) := by
    refine ok_fn (N := N_write_ratio) (ps := ["one"]) (k := 0) (pin := [0]) (body := b_write_ratio) T.d_write_ratio.F sc_write_ratio (by decide) fun cdv A outer s H E hr => ?_
    have hu : _ < _ := hu_of hr
    have hu64 := hr.units
    refine ⟨_, (pss_cons (ps_if (pt_cmpR (op_eqAll hu64) (pe_ix (ix_all hu) (pv 0) pe_int (fun _ _ => rfl)) pe_int (nomark _)) (pss_one (ps_ret (pe_joined1 (pe_fmt (pe_ix (ix_all hu) (pv 0) pe_int (fun _ _ => rfl)))))) pss_nil)
    (pss_one (ps_ret (pe_joined (.cons (pe_fmt (pe_ix (ix_all hu) (pv 0) pe_int (fun _ _ => rfl))) (.cons pe_str (.cons (pe_fmt (pe_ix (ix_all hu) (pv 0) pe_int (fun _ _ => rfl))) .nil))))))), fun B hK hp => ?_⟩
    subst hK
    exact (ss_seq (ss_if (st_test (so_e (se_s2 s2_eq (so_e (se_ix ixOk_all ixOw_all so_var (so_e se_int))) (so_e se_int)))) (ss_ret (se_fmt (so_e (se_ix ixOk_all ixOw_all so_var (so_e se_int))))) ss_next)
    (ss_ret (se_joined (.cons (so_e (se_fmt (so_e (se_ix ixOk_all ixOw_all so_var (so_e se_int))))) (.cons (so_e se_str) (.cons (so_e (se_fmt (so_e (se_ix ixOk_all ixOw_all so_var (so_e se_int))))) .nil))))))
theorem ok__law_cell (T : Txt K mg) : FnOk P w K mg base CX0 1 T.d__law_cell.f T.d__law_cell.fd ["script", "k"] (spM K 2 m__law_cell) := by
    refine ok_fn (N := N__law_cell) (ps := ["script", "k"]) (k := 0) (pin := [0, 1]) (body := b__law_cell) T.d__law_cell.F sc__law_cell (by decide) fun cdv A outer s H E hr => ?_
    have hu : _ < _ := hu_of hr
    have hu64 := hr.units
    refine ⟨_, (pss_cons (ps_if (pt_cmpR op_ltIS (pv 1) (pe_callB call_lenAll (by rfl) T.z_len (by decide +kernel) (pa_cons (pv 0) pa_nil)) (nomark _)) (pss_one (ps_ret (pe_ix (ix_all hu) (pv 0) (pv 1) (fun _ _ => rfl)))) pss_nil)
    (pss_one (ps_ret pe_int))), fun B hK hp => ?_⟩
    subst hK
    exact (ss_seq (ss_if (st_test (so_e (se_s2 s2_lt so_var (so_e (se_sn sn_len (sa_cons so_var sa_nil)))))) (ss_ret (se_ix ixOk_all ixOw_all so_var so_var)) ss_next)
    (ss_ret se_int))
theorem ok__law_digits (T : Txt K mg) : FnOk P w K mg base CX0 2 T.d__law_digits.f T.d__law_digits.fd ["script", "first", "last"] (spM K 3 m__law_digits) := by
    refine ok_fn (N := N__law_digits) (ps := ["script", "first", "last"]) (k := 1) (pin := [0, 1, 2]) (body := b__law_digits) T.d__law_digits.F sc__law_digits (by decide) fun cdv A outer s H E hr => ?_
    have hu : _ < _ := hu_of hr
    have hu64 := hr.units
    refine ⟨_, (pss_cons (ps_set (i := 3) sc__law_digits.nd rfl (Or.inl rfl) (pe_lst pa_nil))
    (pss_cons (ps_for PassesOwn.never rfl (pi_range2 rfl T.z_range (pa_cons (pv 1) (pa_cons (pv 2) pa_nil))) (pg_name (i := 4) sc__law_digits.nd rfl (Or.inl rfl)) (pss_cons (ps_set (i := 5) sc__law_digits.nd rfl (Or.inl rfl) (pe_call (ok__law_cell T) (hr.mono (by first | decide | omega)) rfl T.d__law_cell.g T.d__law_cell.F.kp T.d__law_cell.b .nil pass0 (pa_cons (pv 0) (pa_cons (pv 4) pa_nil))))
    (pss_cons (ps_if (pt_cmpR op_ltIS (pv 5) pe_int (nomark _)) (pss_one (ps_set (i := 5) sc__law_digits.nd rfl (Or.inl rfl) (pe_op op_sub pe_int (pe_op op_mulAll pe_int (pv 5))))) pss_nil)
    (pss_cons (ps_if (pt_cmpR op_gtIS (pe_callB call_lenAll (by rfl) T.z_len (by decide +kernel) (pa_cons (pv 3) pa_nil)) pe_int (nomark _)) (pss_one ps_break) pss_nil)
    (pss_one (ps_if (pt_cmpR op_geIS (pv 5) (pe_op op_pow pe_int pe_int) (nomark _)) (pss_one (ps_for PassesOwn.never rfl (pi_range1 rfl T.z_range (pa_cons pe_int pa_nil)) (pg_name (i := 6) sc__law_digits.nd rfl (Or.inl rfl)) (pss_one (ps_if (pt_cmpR op_gtIS (pv 5) pe_int (nomark _)) (pss_cons (ps_expr (pe_bm PySem.F.plainAttrs_list PySem.F.slot_list_append PySem.F.type_list_append mt_append (pv 3) (pa_cons (pe_op op_modN (pe_callTy call_intOf (by rfl) T.z_int (by decide +kernel) (pa_cons (pv 5) pa_nil)) pe_int) pa_nil)))
    (pss_one (ps_set (i := 5) sc__law_digits.nd rfl (Or.inl rfl) (pe_op op_fdivX (pv 5) pe_int)))) pss_nil)))) (pss_cons (ps_set (i := 7) sc__law_digits.nd rfl (Or.inl rfl) (pe_op op_modN (pe_callTy call_intOf (by rfl) T.z_int (by decide +kernel) (pa_cons (pe_op op_addAll (pe_op op_addAll (pe_op op_mulAll (pv 5) pe_int) (pe_op op_mulAll (pv 4) pe_int)) pe_int) pa_nil)) pe_int))
    (pss_one (ps_for PassesOwn.never rfl (pi_range1 rfl T.z_range (pa_cons pe_int pa_nil)) (pg_name (i := 6) sc__law_digits.nd rfl (Or.inl rfl)) (pss_cons (ps_set (i := 7) sc__law_digits.nd rfl (Or.inl rfl) (pe_op op_modN (pe_callTy call_intOf (by rfl) T.z_int (by decide +kernel) (pa_cons (pe_op op_addAll (pe_op op_addAll (pe_op op_mulAll (pv 7) pe_int) (pe_op op_mulAll pe_int (pv 6))) pe_int) pa_nil)) pe_int))
    (pss_one (ps_expr (pe_bm PySem.F.plainAttrs_list PySem.F.slot_list_append PySem.F.type_list_append mt_append (pv 3) (pa_cons (pe_op op_modN (pe_callTy call_intOf (by rfl) T.z_int (by decide +kernel) (pa_cons (pe_op op_fdivX (pv 7) pe_int) pa_nil)) pe_int) pa_nil))))))))))))))
    (pss_one (ps_ret (pv 3))))), fun B hK hp => ?_⟩
    subst hK
    exact (ss_seq (ss_asg (se_lst sa_nil) (sg_name (by rw [hp]; decide)))
    (ss_seq (ss_for (si_r2 so_var so_var) (sg_name (by rw [hp]; decide)) (ss_seq (ss_asg (se_call (sa_cons so_var (sa_cons so_var sa_nil)) (fun os r e => m_len__law_cell e)) (sg_name (by rw [hp]; decide)))
    (ss_seq (ss_if (st_test (so_e (se_s2 s2_lt so_var (so_e se_int)))) (ss_asg (se_s2 s2_sub (so_e se_int) (so_e (se_a2 a2_mul (so_e se_int) (so_e se_var)))) (sg_name (by rw [hp]; decide))) ss_next)
    (ss_seq (ss_if (st_test (so_e (se_s2 s2_gt (so_e (se_sn sn_len (sa_cons so_var sa_nil))) (so_e se_int)))) ss_brk ss_next)
    (ss_if (st_test (so_e (se_s2 s2_ge so_var (so_e (se_s2 s2_pow (so_e se_int) (so_e se_int)))))) (ss_for (si_r1 (so_e se_int)) (sg_name (by rw [hp]; decide)) (ss_if (st_test (so_e (se_s2 s2_gt so_var (so_e se_int)))) (ss_seq (ss_drop (se_app (se_s2 s2_mod (so_e (se_sn sn_intOf (sa_cons so_var sa_nil))) (so_e se_int))))
    (ss_asg (se_s2 s2_fdiv so_var (so_e se_int)) (sg_name (by rw [hp]; decide)))) ss_next)) (ss_seq (ss_asg (se_s2 s2_mod (so_e (se_sn sn_intOf (sa_cons (so_e (se_a2 a2_add (so_e (se_a2 a2_add (so_e (se_a2 a2_mul (so_e se_var) (so_e se_int))) (so_e (se_a2 a2_mul (so_e se_var) (so_e se_int))))) (so_e se_int))) sa_nil))) (so_e se_int)) (sg_name (by rw [hp]; decide)))
    (ss_for (si_r1 (so_e se_int)) (sg_name (by rw [hp]; decide)) (ss_seq (ss_asg (se_s2 s2_mod (so_e (se_sn sn_intOf (sa_cons (so_e (se_a2 a2_add (so_e (se_a2 a2_add (so_e (se_a2 a2_mul (so_e se_var) (so_e se_int))) (so_e (se_a2 a2_mul (so_e se_int) (so_e se_var))))) (so_e se_int))) sa_nil))) (so_e se_int)) (sg_name (by rw [hp]; decide)))
    (ss_drop (se_app (se_s2 s2_mod (so_e (se_sn sn_intOf (sa_cons (so_e (se_s2 s2_fdiv so_var (so_e se_int))) sa_nil))) (so_e se_int))))))))))))
    (ss_ret se_move)))
theorem ok__law_draw (T : Txt K mg) : FnOk P w K mg base CX0 1 T.d__law_draw.f T.d__law_draw.fd ["box", "many"] (spM K 2 m__law_draw) := by
    refine ok_fn (N := N__law_draw) (ps := ["box", "many"]) (k := 0) (pin := [0, 1]) (body := b__law_draw) T.d__law_draw.F sc__law_draw (by decide) fun cdv A outer s H E hr => ?_
    have hu : _ < _ := hu_of hr
    have hu64 := hr.units
    refine ⟨_, (pss_cons (ps_set (i := 2) sc__law_draw.nd rfl (Or.inl rfl) (pe_ix (ix_all hu) (pv 0) pe_int (fun _ _ => rfl)))
    (pss_cons (ps_asg (pe_op op_addAll (pv 2) pe_int) (pg_sub (pv 0) pe_int set_list))
    (pss_cons (ps_if (pt_cmpR op_ltIS (pv 2) (pe_callB call_lenAll (by rfl) T.z_len (by decide +kernel) (pa_cons (pe_ix (ix_all hu) (pv 0) pe_int (fun _ _ => rfl)) pa_nil)) (nomark _)) (pss_one (ps_ret (pe_op op_modN (pe_callTy call_intOf (by rfl) T.z_int (by decide +kernel) (pa_cons (pe_ix (ix_all hu) (pe_ix (ix_all hu) (pv 0) pe_int (fun _ _ => rfl)) (pv 2) (fun _ _ => rfl)) pa_nil)) (pv 1)))) pss_nil)
    (pss_one (ps_ret (pe_op op_modN (pe_callTy call_intOf (by rfl) T.z_int (by decide +kernel) (pa_cons (pe_op op_mulAll (pv 2) pe_int) pa_nil)) (pv 1))))))), fun B hK hp => ?_⟩
    subst hK
    exact (ss_seq (ss_asg (se_ix ixOk_all ixOw_all so_var (so_e se_int)) (sg_name (by rw [hp]; decide)))
    (ss_seq (ss_asg (se_a2 a2_add (so_e se_var) (so_e se_int)) (sg_setL (so_e se_int)))
    (ss_seq (ss_if (st_test (so_e (se_s2 s2_lt so_var (so_e (se_sn sn_len (sa_cons (so_e (se_ix ixOk_all ixOw_all so_var (so_e se_int))) sa_nil)))))) (ss_ret (se_s2 s2_mod (so_e (se_sn sn_intOf (sa_cons (so_e (se_ix ixOk_all ixOw_all (so_e (se_ix ixOk_all ixOw_all so_var (so_e se_int))) so_var)) sa_nil))) so_var)) ss_next)
    (ss_ret (se_s2 s2_mod (so_e (se_sn sn_intOf (sa_cons (so_e (se_a2 a2_mul (so_e se_var) (so_e se_int))) sa_nil))) so_var)))))
theorem ok__law_pick (T : Txt K mg) : FnOk P w K mg base CX0 2 T.d__law_pick.f T.d__law_pick.fd ["box", "things"] (spM K 2 m__law_pick) := by
    refine ok_fn (N := N__law_pick) (ps := ["box", "things"]) (k := 1) (pin := [0, 1]) (body := b__law_pick) T.d__law_pick.F sc__law_pick (by decide) fun cdv A outer s H E hr => ?_
    have hu : _ < _ := hu_of hr
    have hu64 := hr.units
    refine ⟨_, (pss_one (ps_ret (pe_ix (ix_all hu) (pv 1) (pe_op op_modN (pe_callTy call_intOf (by rfl) T.z_int (by decide +kernel) (pa_cons (pe_call (ok__law_draw T) (hr.mono (by first | decide | omega)) rfl T.d__law_draw.g T.d__law_draw.F.kp T.d__law_draw.b .nil pass0 (pa_cons (pv 0) (pa_cons pe_int pa_nil))) pa_nil)) (pe_callB call_lenAll (by rfl) T.z_len (by decide +kernel) (pa_cons (pv 1) pa_nil))) (fun _ _ => rfl)))), fun B hK hp => ?_⟩
    subst hK
    exact (ss_ret (se_ix ixOk_all ixOw_all so_var (so_e (se_s2 s2_mod (so_e (se_sn sn_intOf (sa_cons (so_e (se_call (sa_cons so_var (sa_cons (so_e se_int) sa_nil)) (fun os r e => m_len__law_draw e))) sa_nil))) (so_e (se_sn sn_len (sa_cons so_var sa_nil)))))))
theorem ok__law_like (T : Txt K mg) : ∀ n : Nat, FnOk P w K mg base CX0 (n + 0) T.d__law_like.f T.d__law_like.fd ["told", "due"] (spM K 2 (m__law_like n))
  | 0 => FnOk.no
  | n + 1 => by
    have G := ok__law_like T n
    refine ok_fn (N := N__law_like) (ps := ["told", "due"]) (k := n + 0) (pin := [0, 1]) (body := b__law_like (fun _ => m__law_like n) n) T.d__law_like.F sc__law_like (by decide) fun cdv A outer s H E hr => ?_
    have hu : _ < _ := hu_of hr
    have hu64 := hr.units
    refine ⟨_, (pss_cons (ps_if (pt_truth (pe_callB call_isi (by rfl) T.z_isinstance (by decide +kernel) (pa_cons (pv 1) (pa_cons (pe_bltn (v := .ty "tuple") (u := .type "tuple") (by rfl) T.z_tuple (by decide +kernel) rfl) pa_nil))) (by intro _; rfl)) (pss_cons (ps_if (PW.pt (pw_or (pt_not (pt_truth (pe_callB call_isi (by rfl) T.z_isinstance (by decide +kernel) (pa_cons (pv 0) (pa_cons (pe_bltn (v := .ty "tuple") (u := .type "tuple") (by rfl) T.z_tuple (by decide +kernel) rfl) pa_nil))) (by intro _; rfl))) (pw_or1 (pt_cmpR (op_neAll hu64) (pe_callB call_lenAll (by rfl) T.z_len (by decide +kernel) (pa_cons (pv 0) pa_nil)) (pe_callB call_lenAll (by rfl) T.z_len (by decide +kernel) (pa_cons (pv 1) pa_nil)) (nomark _))))) (pss_one (ps_ret pe_bl)) pss_nil)
    (pss_one (ps_ret (pe_cmpR (op_eqAll hu64) (pe_lcM (own := [("k", 2)]) rfl sc__law_like.nd (pi_range1 rfl T.z_range (pa_cons (pe_callB call_lenAll (by rfl) T.z_len (by decide +kernel) (pa_cons (pv 1) pa_nil)) pa_nil)) (blkOk_by (own := [("k", 2)]) (N := N__law_like) (sc := (defScope s__law_like)) (by decide +kernel)) (fun _ _ _ _ _ => (pg_name (i := 2) sc__law_like.nd rfl (Or.inl rfl))) (fun _ _ _ _ _ => (pts_one (pt_not (pt_truth (pe_call G (hr.mono (by first | decide | omega)) rfl T.d__law_like.g T.d__law_like.F.kp T.d__law_like.b .nil pass0 (pa_cons (pe_ix (ix_all hu) (pv 0) (pv 2) (fun _ _ => rfl)) (pa_cons (pe_ix (ix_all hu) (pv 1) (pv 2) (fun _ _ => rfl)) pa_nil))) (by intro _; rfl))))) (fun _ _ _ _ _ => pe_int) (fun _ _ _ _ _ => rfl) (fun _ _ _ _ _ => rfl) (fun _ _ _ _ _ => rfl)) (pe_lst pa_nil) (nomark _))))) pss_nil)
    (pss_cons (ps_if (pt_cmpR op_isN (pv 1) pe_non (nomark _)) (pss_one (ps_ret (pe_cmpR op_isN (pv 0) pe_non (nomark _)))) pss_nil)
    (pss_cons (ps_if (pt_cmpR op_isBl1 (pv 1) pe_bl (nomark _)) (pss_one (ps_ret (pe_cmpR op_isBl1 (pv 0) pe_bl (nomark _)))) pss_nil)
    (pss_cons (ps_if (pt_cmpR op_isBl1 (pv 1) pe_bl (nomark _)) (pss_one (ps_ret (pe_cmpR op_isBl1 (pv 0) pe_bl (nomark _)))) pss_nil)
    (pss_cons (ps_if (pt_truth (pe_callB call_isi (by rfl) T.z_isinstance (by decide +kernel) (pa_cons (pv 1) (pa_cons (pe_bltn (v := .ty "str") (u := .type "str") (by rfl) T.z_str (by decide +kernel) rfl) pa_nil))) (by intro _; rfl)) (pss_one (ps_ret (pe_andT (pe_callB call_isi (by rfl) T.z_isinstance (by decide +kernel) (pa_cons (pv 0) (pa_cons (pe_bltn (v := .ty "str") (u := .type "str") (by rfl) T.z_str (by decide +kernel) rfl) pa_nil))) (pe_one (pe_cmpR (op_eqAll hu64) (pe_bm PySem.F.plainAttrs_str PySem.F.slot_str_join PySem.F.type_str_join mt_joinK pe_str (pa_cons (pe_lst (pa_cons (pv 0) pa_nil)) pa_nil)) (pv 1) (nomark _)))))) pss_nil)
    (pss_one (ps_ret (pe_andT (pe_callB call_isi (by rfl) T.z_isinstance (by decide +kernel) (pa_cons (pv 0) (pa_cons (pe_bltn (v := .ty "int") (u := .type "int") (by rfl) T.z_int (by decide +kernel) rfl) pa_nil))) (pe_andT (pe_notT (pe_callB call_isi (by rfl) T.z_isinstance (by decide +kernel) (pa_cons (pv 0) (pa_cons (pe_bltn (v := .ty "bool") (u := .type "bool") (by rfl) T.z_bool (by decide +kernel) rfl) pa_nil)))) (pe_one (pe_cmpR (op_eqAll hu64) (pv 0) (pv 1) (nomark _)))))))))))), fun B hK hp => ?_⟩
    subst hK
    exact (ss_seq (ss_if (st_tru (so_e (se_isi isTy_tup so_var))) (ss_seq (ss_if (st_or (st_not (st_tru (so_e (se_isi isTy_tup so_var)))) (st_test (so_e (se_s2 s2_ne (so_e (se_sn sn_len (sa_cons so_var sa_nil))) (so_e (se_sn sn_len (sa_cons so_var sa_nil))))))) (ss_ret se_bl) ss_next)
    (ss_ret (se_s2 s2_eq (so_e (se_lc (vs := [2]) (by rw [hp]; decide) (si_r1 (so_e (se_sn sn_len (sa_cons so_var sa_nil)))) (sgw_name (by rw [hp]; decide) (by decide)) (st_not (st_tru (so_e (se_call (sa_cons (so_e (se_ix ixOk_all ixOw_all so_var so_var)) (sa_cons (so_e (se_ix ixOk_all ixOw_all so_var so_var)) sa_nil)) (fun os r e => m_len__law_like n e))))) se_int)) (so_e (se_lst sa_nil))))) ss_next)
    (ss_seq (ss_if (st_test (so_e (se_s2 s2_isN so_var (so_e se_non)))) (ss_ret (se_s2 s2_isN so_var (so_e se_non))) ss_next)
    (ss_seq (ss_if (st_test (so_e (se_s2 s2_isB so_var (so_e se_bl)))) (ss_ret (se_s2 s2_isB so_var (so_e se_bl))) ss_next)
    (ss_seq (ss_if (st_test (so_e (se_s2 s2_isB so_var (so_e se_bl)))) (ss_ret (se_s2 s2_isB so_var (so_e se_bl))) ss_next)
    (ss_seq (ss_if (st_tru (so_e (se_isi isTy_str so_var))) (ss_ret (se_andV (so_e (se_isi isTy_str so_var)) (se_s2 s2_eq (so_e (se_ms ms_join (so_e se_str) (sa_cons (so_e (se_lst (sa_cons (so_e se_var) sa_nil))) sa_nil))) so_var))) ss_next)
    (ss_ret (se_andV (so_e (se_isi isTy_int so_var)) (se_andV (so_e (se_notV (so_e (se_isi isTy_bool so_var)))) (se_s2 s2_eq so_var so_var)))))))))
theorem ok__law_like_8 (T : Txt K mg) : FnOk P w K mg base CX0 8 T.d__law_like.f T.d__law_like.fd ["told", "due"] (spM K 2 m__law_like_8) := ok__law_like T 8
theorem ok__law_gcd (T : Txt K mg) : FnOk P w K mg base CX0 1 T.d__law_gcd.f T.d__law_gcd.fd ["one", "other"] (spM K 2 m__law_gcd) := by
    refine ok_fn (N := N__law_gcd) (ps := ["one", "other"]) (k := 0) (pin := []) (body := b__law_gcd) T.d__law_gcd.F sc__law_gcd (by decide) fun cdv A outer s H E hr => ?_
    have hu : _ < _ := hu_of hr
    have hu64 := hr.units
    refine ⟨_, (pss_cons (ps_while PassesOwn.never (pt_cmpR (op_neAll hu64) (pv 1) pe_int (nomark _)) (pss_one (ps_par (i := 0) (j := 1) rfl sc__law_gcd.nd rfl rfl (by decide) rfl rfl (pa_cons (pv 1) (pa_cons (pe_op op_modN (pe_callTy call_intOf (by rfl) T.z_int (by decide +kernel) (pa_cons (pv 0) pa_nil)) (pv 1)) pa_nil)) (by rfl))))
    (pss_one (ps_ret (pv 0)))), fun B hK hp => ?_⟩
    subst hK
    exact (ss_seq (ss_while (st_test (so_e (se_s2 s2_ne so_var (so_e se_int)))) (ss_par (by rw [hp]; decide) (by rw [hp]; decide) (sa_cons (so_e se_var) (sa_cons (so_e (se_s2 s2_mod (so_e (se_sn sn_intOf (sa_cons so_var sa_nil))) so_var)) sa_nil))))
    (ss_ret se_move))
theorem ok__law_ratio (T : Txt K mg) : FnOk P w K mg base CX0 2 T.d__law_ratio.f T.d__law_ratio.fd ["a", "b"] (spM K 2 m__law_ratio) := by
    refine ok_fn (N := N__law_ratio) (ps := ["a", "b"]) (k := 1) (pin := [0, 1]) (body := b__law_ratio) T.d__law_ratio.F sc__law_ratio (by decide) fun cdv A outer s H E hr => ?_
    have hu : _ < _ := hu_of hr
    have hu64 := hr.units
    refine ⟨_, (pss_cons (ps_set (i := 2) sc__law_ratio.nd rfl (Or.inl rfl) (pe_call (ok__law_gcd T) (hr.mono (by first | decide | omega)) rfl T.d__law_gcd.g T.d__law_gcd.F.kp T.d__law_gcd.b .nil pass0 (pa_cons (pe_callB call_abs (by rfl) T.z_abs (by decide +kernel) (pa_cons (pv 0) pa_nil)) (pa_cons (pv 1) pa_nil))))
    (pss_one (ps_ret (pe_tup (pa_cons (pe_op op_fdivX (pv 0) (pv 2)) (pa_cons (pe_op op_fdivX (pv 1) (pv 2)) pa_nil)))))), fun B hK hp => ?_⟩
    subst hK
    exact (ss_seq (ss_asg (se_call (sa_cons (so_e (se_sn sn_abs (sa_cons so_var sa_nil))) (sa_cons so_var sa_nil)) (fun os r e => m_len__law_gcd e)) (sg_name (by rw [hp]; decide)))
    (ss_ret (se_tup (sa_cons (so_e (se_s2 s2_fdiv so_var so_var)) (sa_cons (so_e (se_s2 s2_fdiv so_var so_var)) sa_nil)))))
theorem ok__law_is_ratio (T : Txt K mg) : FnOk P w K mg base CX0 2 T.d__law_is_ratio.f T.d__law_is_ratio.fd ["one"] (spM K 1 m__law_is_ratio) := by
    refine ok_fn (N := N__law_is_ratio) (ps := ["one"]) (k := 1) (pin := [0]) (body := b__law_is_ratio) T.d__law_is_ratio.F sc__law_is_ratio (by decide) fun cdv A outer s H E hr => ?_
    have hu : _ < _ := hu_of hr
    have hu64 := hr.units
    refine ⟨_, (pss_cons (ps_if (PW.pt (pw_or (pt_not (pt_truth (pe_callB call_isi (by rfl) T.z_isinstance (by decide +kernel) (pa_cons (pv 0) (pa_cons (pe_bltn (v := .ty "tuple") (u := .type "tuple") (by rfl) T.z_tuple (by decide +kernel) rfl) pa_nil))) (by intro _; rfl))) (pw_or (pt_cmpR (op_neAll hu64) (pe_callB call_lenAll (by rfl) T.z_len (by decide +kernel) (pa_cons (pv 0) pa_nil)) pe_int (nomark _)) (pw_or1 (pt_cmpR (op_neAll hu64) (pe_lcM (own := [("part", 1)]) rfl sc__law_is_ratio.nd (pi_seq (pv 0)) (blkOk_by (own := [("part", 1)]) (N := N__law_is_ratio) (sc := (defScope s__law_is_ratio)) (by decide +kernel)) (fun _ _ _ _ _ => (pg_name (i := 1) sc__law_is_ratio.nd rfl (Or.inl rfl))) (fun _ _ _ _ _ => (pts_one (PW.pt (pw_or (pt_not (pt_truth (pe_callB call_isi (by rfl) T.z_isinstance (by decide +kernel) (pa_cons (pv 1) (pa_cons (pe_bltn (v := .ty "int") (u := .type "int") (by rfl) T.z_int (by decide +kernel) rfl) pa_nil))) (by intro _; rfl))) (pw_or1 (pt_truth (pe_callB call_isi (by rfl) T.z_isinstance (by decide +kernel) (pa_cons (pv 1) (pa_cons (pe_bltn (v := .ty "bool") (u := .type "bool") (by rfl) T.z_bool (by decide +kernel) rfl) pa_nil))) (by intro _; rfl))))))) (fun _ _ _ _ _ => (pv 1)) (fun _ _ _ _ _ => rfl) (fun _ _ _ _ _ => rfl) (fun _ _ _ _ _ => rfl)) (pe_lst pa_nil) (nomark _)))))) (pss_one (ps_ret pe_bl)) pss_nil)
    (pss_one (ps_ret (pe_andT (pe_cmpR op_gtIS (pe_ix (ix_all hu) (pv 0) pe_int (fun _ _ => rfl)) pe_int (nomark _)) (pe_one (pe_cmpR (op_eqAll hu64) (pe_call (ok__law_gcd T) (hr.mono (by first | decide | omega)) rfl T.d__law_gcd.g T.d__law_gcd.F.kp T.d__law_gcd.b .nil pass0 (pa_cons (pe_callB call_abs (by rfl) T.z_abs (by decide +kernel) (pa_cons (pe_ix (ix_all hu) (pv 0) pe_int (fun _ _ => rfl)) pa_nil)) (pa_cons (pe_ix (ix_all hu) (pv 0) pe_int (fun _ _ => rfl)) pa_nil))) pe_int (nomark _))))))), fun B hK hp => ?_⟩
    subst hK
    exact (ss_seq (ss_if (st_or (st_not (st_tru (so_e (se_isi isTy_tup so_var)))) (st_or (st_test (so_e (se_s2 s2_ne (so_e (se_sn sn_len (sa_cons so_var sa_nil))) (so_e se_int)))) (st_test (so_e (se_s2 s2_ne (so_e (se_lc (vs := [1]) (by rw [hp]; decide) (si_seq (so_e se_var)) (sgw_name (by rw [hp]; decide) (by decide)) (st_or (st_not (st_tru (so_e (se_isi isTy_int so_var)))) (st_tru (so_e (se_isi isTy_bool so_var)))) se_var)) (so_e (se_lst sa_nil))))))) (ss_ret se_bl) ss_next)
    (ss_ret (se_andV (so_e (se_s2 s2_gt (so_e (se_ix ixOk_all ixOw_all so_var (so_e se_int))) (so_e se_int))) (se_s2 s2_eq (so_e (se_call (sa_cons (so_e (se_sn sn_abs (sa_cons (so_e (se_ix ixOk_all ixOw_all so_var (so_e se_int))) sa_nil))) (sa_cons (so_e (se_ix ixOk_all ixOw_all so_var (so_e se_int))) sa_nil)) (fun os r e => m_len__law_gcd e))) (so_e se_int)))))
theorem ok__law_any (T : Txt K mg) : FnOk P w K mg base CX0 3 T.d__law_any.f T.d__law_any.fd ["box"] (spM K 1 m__law_any) := by
    refine ok_fn (N := N__law_any) (ps := ["box"]) (k := 2) (pin := [0]) (body := b__law_any) T.d__law_any.F sc__law_any (by decide) fun cdv A outer s H E hr => ?_
    have hu : _ < _ := hu_of hr
    have hu64 := hr.units
    refine ⟨_, (pss_cons (ps_par (i := 1) (j := 2) rfl sc__law_any.nd rfl rfl (by decide) rfl rfl (pa_cons (pe_op op_sub (pe_call (ok__law_draw T) (hr.mono (by first | decide | omega)) rfl T.d__law_draw.g T.d__law_draw.F.kp T.d__law_draw.b .nil pass0 (pa_cons (pv 0) (pa_cons pe_int pa_nil))) pe_int) (pa_cons (pe_op op_addAll pe_int (pe_call (ok__law_draw T) (hr.mono (by first | decide | omega)) rfl T.d__law_draw.g T.d__law_draw.F.kp T.d__law_draw.b .nil pass0 (pa_cons (pv 0) (pa_cons pe_int pa_nil)))) pa_nil)) (by rfl))
    (pss_cons (ps_if (pt_cmpR (op_eqAll hu64) (pe_call (ok__law_draw T) (hr.mono (by first | decide | omega)) rfl T.d__law_draw.g T.d__law_draw.F.kp T.d__law_draw.b .nil pass0 (pa_cons (pv 0) (pa_cons pe_int pa_nil))) pe_int (nomark _)) (pss_one (ps_for PassesOwn.never rfl (pi_range1 rfl T.z_range (pa_cons (pe_op op_addAll pe_int (pe_call (ok__law_draw T) (hr.mono (by first | decide | omega)) rfl T.d__law_draw.g T.d__law_draw.F.kp T.d__law_draw.b .nil pass0 (pa_cons (pv 0) (pa_cons pe_int pa_nil)))) pa_nil)) (pg_name (i := 3) sc__law_any.nd rfl (Or.inl rfl)) (pss_one (ps_par (i := 1) (j := 2) rfl sc__law_any.nd rfl rfl (by decide) rfl rfl (pa_cons (pe_op op_addAll (pe_op op_mulAll (pv 1) pe_int) (pe_call (ok__law_draw T) (hr.mono (by first | decide | omega)) rfl T.d__law_draw.g T.d__law_draw.F.kp T.d__law_draw.b .nil pass0 (pa_cons (pv 0) (pa_cons pe_int pa_nil)))) (pa_cons (pe_op op_addAll (pe_op op_mulAll (pv 2) pe_int) (pe_call (ok__law_draw T) (hr.mono (by first | decide | omega)) rfl T.d__law_draw.g T.d__law_draw.F.kp T.d__law_draw.b .nil pass0 (pa_cons (pv 0) (pa_cons pe_int pa_nil)))) pa_nil)) (by rfl))))) pss_nil)
    (pss_one (ps_ret (pe_call (ok__law_ratio T) (hr.mono (by first | decide | omega)) rfl T.d__law_ratio.g T.d__law_ratio.F.kp T.d__law_ratio.b .nil pass0 (pa_cons (pv 1) (pa_cons (pv 2) pa_nil))))))), fun B hK hp => ?_⟩
    subst hK
    exact (ss_seq (ss_par (by rw [hp]; decide) (by rw [hp]; decide) (sa_cons (so_e (se_s2 s2_sub (so_e (se_call (sa_cons so_var (sa_cons (so_e se_int) sa_nil)) (fun os r e => m_len__law_draw e))) (so_e se_int))) (sa_cons (so_e (se_a2 a2_add (so_e se_int) (so_e (se_call (sa_cons so_var (sa_cons (so_e se_int) sa_nil)) (fun os r e => m_len__law_draw e))))) sa_nil)))
    (ss_seq (ss_if (st_test (so_e (se_s2 s2_eq (so_e (se_call (sa_cons so_var (sa_cons (so_e se_int) sa_nil)) (fun os r e => m_len__law_draw e))) (so_e se_int)))) (ss_for (si_r1 (so_e (se_a2 a2_add (so_e se_int) (so_e (se_call (sa_cons so_var (sa_cons (so_e se_int) sa_nil)) (fun os r e => m_len__law_draw e)))))) (sg_name (by rw [hp]; decide)) (ss_par (by rw [hp]; decide) (by rw [hp]; decide) (sa_cons (so_e (se_a2 a2_add (so_e (se_a2 a2_mul (so_e se_var) (so_e se_int))) (so_e (se_call (sa_cons so_var (sa_cons (so_e se_int) sa_nil)) (fun os r e => m_len__law_draw e))))) (sa_cons (so_e (se_a2 a2_add (so_e (se_a2 a2_mul (so_e se_var) (so_e se_int))) (so_e (se_call (sa_cons so_var (sa_cons (so_e se_int) sa_nil)) (fun os r e => m_len__law_draw e))))) sa_nil)))) ss_next)
    (ss_ret (se_call (sa_cons so_var (sa_cons so_var sa_nil)) (fun os r e => m_len__law_ratio e)))))
theorem ok__law_same (T : Txt K mg) : FnOk P w K mg base CX0 3 T.d__law_same.f T.d__law_same.fd ["told", "a", "b"] (spM K 3 m__law_same) := by
    refine ok_fn (N := N__law_same) (ps := ["told", "a", "b"]) (k := 2) (pin := [0, 1, 2]) (body := b__law_same) T.d__law_same.F sc__law_same (by decide) fun cdv A outer s H E hr => ?_
    have hu : _ < _ := hu_of hr
    have hu64 := hr.units
    refine ⟨_, (pss_one (ps_ret (pe_andT (pe_call (ok__law_is_ratio T) (hr.mono (by first | decide | omega)) rfl T.d__law_is_ratio.g T.d__law_is_ratio.F.kp T.d__law_is_ratio.b .nil pass0 (pa_cons (pv 0) pa_nil)) (pe_one (pe_cmpR (op_eqAll hu64) (pe_op op_mulAll (pe_ix (ix_all hu) (pv 0) pe_int (fun _ _ => rfl)) (pv 2)) (pe_op op_mulAll (pv 1) (pe_ix (ix_all hu) (pv 0) pe_int (fun _ _ => rfl))) (nomark _)))))), fun B hK hp => ?_⟩
    subst hK
    exact (ss_ret (se_andV (so_e (se_call (sa_cons so_var sa_nil) (fun os r e => m_len__law_is_ratio e))) (se_s2 s2_eq (so_e (se_a2 a2_mul (so_e (se_ix ixOk_all ixOw_all so_var (so_e se_int))) (so_e se_var))) (so_e (se_a2 a2_mul (so_e se_var) (so_e (se_ix ixOk_all ixOw_all so_var (so_e se_int))))))))
theorem ok_law (T : Txt K mg) : FnOk P w K mg base CX0 9 T.d_law.f T.d_law.fd ["script"] (spM K 1 m_law) := by
    refine ok_fn (N := N_law) (ps := ["script"]) (k := 8) (pin := [0]) (body := b_law) T.d_law.F sc_law (by decide) fun cdv A outer s H E hr => ?_
    have hu : _ < _ := hu_of hr
    have hu64 := hr.units
    refine ⟨_, (pss_cons (ps_set (i := 1) sc_law.nd rfl (Or.inl rfl) (pe_lst (pa_cons (pe_call (ok__law_digits T) (hr.mono (by first | decide | omega)) rfl T.d__law_digits.g T.d__law_digits.F.kp T.d__law_digits.b .nil pass0 (pa_cons (pv 0) (pa_cons pe_int (pa_cons pe_int pa_nil)))) (pa_cons pe_int pa_nil))))
    (pss_cons (ps_for PassesOwn.never rfl (pi_range1 rfl T.z_range (pa_cons pe_int pa_nil)) (pg_name (i := 2) sc_law.nd rfl (Or.inl rfl)) (pss_cons (ps_par (i := 3) (j := 4) rfl sc_law.nd rfl rfl (by decide) rfl rfl (pa_cons (pe_call (ok__law_any T) (hr.mono (by first | decide | omega)) rfl T.d__law_any.g T.d__law_any.F.kp T.d__law_any.b .nil pass0 (pa_cons (pv 1) pa_nil)) (pa_cons (pe_call (ok__law_any T) (hr.mono (by first | decide | omega)) rfl T.d__law_any.g T.d__law_any.F.kp T.d__law_any.b .nil pass0 (pa_cons (pv 1) pa_nil)) pa_nil)) (by rfl))
    (pss_cons (ps_asg (pe_tup (pa_cons (pv 3) (pa_cons (pv 4) pa_nil))) (pg_tup rfl (pgs_cons (pg_tup rfl (pgs_cons (pg_name (i := 5) sc_law.nd rfl (Or.inl rfl)) (pgs_cons (pg_name (i := 6) sc_law.nd rfl (Or.inl rfl)) pgs_nil))) (pgs_cons (pg_tup rfl (pgs_cons (pg_name (i := 7) sc_law.nd rfl (Or.inl rfl)) (pgs_cons (pg_name (i := 8) sc_law.nd rfl (Or.inl rfl)) pgs_nil))) pgs_nil))))
    (pss_cons (ps_if (PW.pt (pw_or (pt_cmpR op_notBl1 (pe_call (ok_is_ratio T) (hr.mono (by first | decide | omega)) rfl T.d_is_ratio.g T.d_is_ratio.F.kp T.d_is_ratio.b .nil pass0 (pa_cons (pv 3) pa_nil)) pe_bl (nomark _)) (pw_or1 (pt_not (pt_truth (pe_call (ok__law_like_8 T) (hr.mono (by first | decide | omega)) rfl T.d__law_like.g T.d__law_like.F.kp T.d__law_like.b .nil pass0 (pa_cons (pe_call (ok_is_typed T) (hr.mono (by first | decide | omega)) rfl T.d_is_typed.g T.d_is_typed.F.kp T.d_is_typed.b .nil pass0 (pa_cons (pv 3) pa_nil)) (pa_cons (pe_andT (pe_cmpR op_leIS (pe_callB call_abs (by rfl) T.z_abs (by decide +kernel) (pa_cons (pv 5) pa_nil)) pe_int (nomark _)) (pe_one (pe_cmpR op_leIS (pv 6) pe_int (nomark _)))) pa_nil))) (by intro _; rfl)))))) (pss_one (ps_ret pe_bl)) pss_nil)
    (pss_cons (ps_if (PW.pt (pw_or (pt_not (pt_truth (pe_call (ok__law_same T) (hr.mono (by first | decide | omega)) rfl T.d__law_same.g T.d__law_same.F.kp T.d__law_same.b .nil pass0 (pa_cons (pe_call (ok_plus T) (hr.mono (by first | decide | omega)) rfl T.d_plus.g T.d_plus.F.kp T.d_plus.b .nil pass0 (pa_cons (pv 3) (pa_cons (pv 4) pa_nil))) (pa_cons (pe_op op_addAll (pe_op op_mulAll (pv 5) (pv 8)) (pe_op op_mulAll (pv 7) (pv 6))) (pa_cons (pe_op op_mulAll (pv 6) (pv 8)) pa_nil)))) (by intro _; rfl))) (pw_or (pt_not (pt_truth (pe_call (ok__law_same T) (hr.mono (by first | decide | omega)) rfl T.d__law_same.g T.d__law_same.F.kp T.d__law_same.b .nil pass0 (pa_cons (pe_call (ok_minus T) (hr.mono (by first | decide | omega)) rfl T.d_minus.g T.d_minus.F.kp T.d_minus.b .nil pass0 (pa_cons (pv 3) (pa_cons (pv 4) pa_nil))) (pa_cons (pe_op op_sub (pe_op op_mulAll (pv 5) (pv 8)) (pe_op op_mulAll (pv 7) (pv 6))) (pa_cons (pe_op op_mulAll (pv 6) (pv 8)) pa_nil)))) (by intro _; rfl))) (pw_or1 (pt_not (pt_truth (pe_call (ok__law_same T) (hr.mono (by first | decide | omega)) rfl T.d__law_same.g T.d__law_same.F.kp T.d__law_same.b .nil pass0 (pa_cons (pe_call (ok_product T) (hr.mono (by first | decide | omega)) rfl T.d_product.g T.d_product.F.kp T.d_product.b .nil pass0 (pa_cons (pv 3) (pa_cons (pv 4) pa_nil))) (pa_cons (pe_op op_mulAll (pv 5) (pv 7)) (pa_cons (pe_op op_mulAll (pv 6) (pv 8)) pa_nil)))) (by intro _; rfl))))))) (pss_one (ps_ret pe_bl)) pss_nil)
    (pss_cons (ps_if (PW.pt (pw_and (pt_cmpR (op_neAll hu64) (pv 7) pe_int (nomark _)) (pw_and1 (pt_not (pt_truth (pe_call (ok__law_same T) (hr.mono (by first | decide | omega)) rfl T.d__law_same.g T.d__law_same.F.kp T.d__law_same.b .nil pass0 (pa_cons (pe_call (ok_quotient T) (hr.mono (by first | decide | omega)) rfl T.d_quotient.g T.d_quotient.F.kp T.d_quotient.b .nil pass0 (pa_cons (pv 3) (pa_cons (pv 4) pa_nil))) (pa_cons (pe_op op_mulAll (pe_op op_mulAll (pv 5) (pv 8)) (pe_ifExp (pt_cmpR op_gtIS (pv 7) pe_int (nomark _)) pe_int (pe_op op_sub pe_int pe_int))) (pa_cons (pe_op op_mulAll (pv 6) (pe_callB call_abs (by rfl) T.z_abs (by decide +kernel) (pa_cons (pv 7) pa_nil))) pa_nil)))) (by intro _; rfl)))))) (pss_one (ps_ret pe_bl)) pss_nil)
    (pss_cons (ps_set (i := 9) sc_law.nd rfl (Or.inl rfl) (pe_op op_sub (pe_op op_mulAll (pv 5) (pv 8)) (pe_op op_mulAll (pv 7) (pv 6))))
    (pss_cons (ps_if (pt_not (pt_truth (pe_call (ok__law_like_8 T) (hr.mono (by first | decide | omega)) rfl T.d__law_like.g T.d__law_like.F.kp T.d__law_like.b .nil pass0 (pa_cons (pe_tup (pa_cons (pe_call (ok_compare T) (hr.mono (by first | decide | omega)) rfl T.d_compare.g T.d_compare.F.kp T.d_compare.b .nil pass0 (pa_cons (pv 3) (pa_cons (pv 4) pa_nil))) (pa_cons (pe_call (ok_compare T) (hr.mono (by first | decide | omega)) rfl T.d_compare.g T.d_compare.F.kp T.d_compare.b .nil pass0 (pa_cons (pv 4) (pa_cons (pv 3) pa_nil))) (pa_cons (pe_call (ok_compare T) (hr.mono (by first | decide | omega)) rfl T.d_compare.g T.d_compare.F.kp T.d_compare.b .nil pass0 (pa_cons (pv 3) (pa_cons (pv 3) pa_nil))) pa_nil)))) (pa_cons (pe_tup (pa_cons (pe_op op_sub (pe_callTy call_intOf (by rfl) T.z_int (by decide +kernel) (pa_cons (pe_cmpR op_gtIS (pv 9) pe_int (nomark _)) pa_nil)) (pe_callTy call_intOf (by rfl) T.z_int (by decide +kernel) (pa_cons (pe_cmpR op_ltIS (pv 9) pe_int (nomark _)) pa_nil))) (pa_cons (pe_op op_sub (pe_callTy call_intOf (by rfl) T.z_int (by decide +kernel) (pa_cons (pe_cmpR op_ltIS (pv 9) pe_int (nomark _)) pa_nil)) (pe_callTy call_intOf (by rfl) T.z_int (by decide +kernel) (pa_cons (pe_cmpR op_gtIS (pv 9) pe_int (nomark _)) pa_nil))) (pa_cons pe_int pa_nil)))) pa_nil))) (by intro _; rfl))) (pss_one (ps_ret pe_bl)) pss_nil)
    (pss_cons (ps_set (i := 10) sc_law.nd rfl (Or.inl rfl) (pe_op op_addAll pe_int (pe_call (ok__law_draw T) (hr.mono (by first | decide | omega)) rfl T.d__law_draw.g T.d__law_draw.F.kp T.d__law_draw.b .nil pass0 (pa_cons (pv 1) (pa_cons pe_int pa_nil)))))
    (pss_one (ps_if (PW.pt (pw_or (pt_not (pt_truth (pe_call (ok__law_like_8 T) (hr.mono (by first | decide | omega)) rfl T.d__law_like.g T.d__law_like.F.kp T.d__law_like.b .nil pass0 (pa_cons (pe_tup (pa_cons (pe_call (ok_ratio T) (hr.mono (by first | decide | omega)) rfl T.d_ratio.g T.d_ratio.F.kp T.d_ratio.b .nil pass0 (pa_cons (pe_op op_mulAll (pv 5) (pv 10)) (pa_cons (pe_op op_mulAll (pv 6) (pv 10)) pa_nil))) (pa_cons (pe_call (ok_ratio T) (hr.mono (by first | decide | omega)) rfl T.d_ratio.g T.d_ratio.F.kp T.d_ratio.b .nil pass0 (pa_cons (pe_op op_sub pe_int (pe_op op_mulAll (pv 5) (pv 10))) (pa_cons (pe_op op_sub pe_int (pe_op op_mulAll (pv 6) (pv 10))) pa_nil))) pa_nil))) (pa_cons (pe_tup (pa_cons (pv 3) (pa_cons (pv 3) pa_nil))) pa_nil))) (by intro _; rfl))) (pw_or1 (pt_not (pt_truth (pe_call (ok__law_like_8 T) (hr.mono (by first | decide | omega)) rfl T.d__law_like.g T.d__law_like.F.kp T.d__law_like.b .nil pass0 (pa_cons (pe_call (ok_ratio T) (hr.mono (by first | decide | omega)) rfl T.d_ratio.g T.d_ratio.F.kp T.d_ratio.b .nil pass0 (pa_cons (pe_op op_mulAll (pv 5) (pv 10)) (pa_cons (pe_op op_sub pe_int (pe_op op_mulAll (pv 6) (pv 10))) pa_nil))) (pa_cons (pe_tup (pa_cons (pe_op op_sub pe_int (pv 5)) (pa_cons (pv 6) pa_nil))) pa_nil))) (by intro _; rfl)))))) (pss_one (ps_ret pe_bl)) pss_nil)))))))))))
    (pss_cons (ps_par (i := 5) (j := 6) rfl sc_law.nd rfl rfl (by decide) rfl rfl (pa_cons (pe_op op_sub (pe_call (ok__law_draw T) (hr.mono (by first | decide | omega)) rfl T.d__law_draw.g T.d__law_draw.F.kp T.d__law_draw.b .nil pass0 (pa_cons (pv 1) (pa_cons pe_int pa_nil))) pe_int) (pa_cons (pe_op op_addAll pe_int (pe_call (ok__law_draw T) (hr.mono (by first | decide | omega)) rfl T.d__law_draw.g T.d__law_draw.F.kp T.d__law_draw.b .nil pass0 (pa_cons (pv 1) (pa_cons pe_int pa_nil)))) pa_nil)) (by rfl))
    (pss_cons (ps_set (i := 3) sc_law.nd rfl (Or.inl rfl) (pe_call (ok__law_ratio T) (hr.mono (by first | decide | omega)) rfl T.d__law_ratio.g T.d__law_ratio.F.kp T.d__law_ratio.b .nil pass0 (pa_cons (pv 5) (pa_cons (pv 6) pa_nil))))
    (pss_cons (ps_set (i := 11) sc_law.nd rfl (Or.inl rfl) (pe_ifExp (pt_cmpR (op_eqAll hu64) (pe_ix (ix_all hu) (pv 3) pe_int (fun _ _ => rfl)) pe_int (nomark _)) (pe_callTy call_strOf (by rfl) T.z_str (by decide +kernel) (pa_cons (pe_ix (ix_all hu) (pv 3) pe_int (fun _ _ => rfl)) pa_nil)) (pe_op op_addAll (pe_op op_addAll (pe_callTy call_strOf (by rfl) T.z_str (by decide +kernel) (pa_cons (pe_ix (ix_all hu) (pv 3) pe_int (fun _ _ => rfl)) pa_nil)) pe_str) (pe_callTy call_strOf (by rfl) T.z_str (by decide +kernel) (pa_cons (pe_ix (ix_all hu) (pv 3) pe_int (fun _ _ => rfl)) pa_nil)))))
    (pss_cons (ps_if (PW.pt (pw_or (pt_not (pt_truth (pe_call (ok__law_like_8 T) (hr.mono (by first | decide | omega)) rfl T.d__law_like.g T.d__law_like.F.kp T.d__law_like.b .nil pass0 (pa_cons (pe_call (ok_write_ratio T) (hr.mono (by first | decide | omega)) rfl T.d_write_ratio.g T.d_write_ratio.F.kp T.d_write_ratio.b .nil pass0 (pa_cons (pv 3) pa_nil)) (pa_cons (pv 11) pa_nil))) (by intro _; rfl))) (pw_or1 (pt_not (pt_truth (pe_call (ok__law_like_8 T) (hr.mono (by first | decide | omega)) rfl T.d__law_like.g T.d__law_like.F.kp T.d__law_like.b .nil pass0 (pa_cons (pe_tup (pa_cons (pe_call (ok_write_ratio T) (hr.mono (by first | decide | omega)) rfl T.d_write_ratio.g T.d_write_ratio.F.kp T.d_write_ratio.b .nil pass0 (pa_cons (pe_tup (pa_cons pe_int (pa_cons pe_int pa_nil))) pa_nil)) (pa_cons (pe_call (ok_write_ratio T) (hr.mono (by first | decide | omega)) rfl T.d_write_ratio.g T.d_write_ratio.F.kp T.d_write_ratio.b .nil pass0 (pa_cons (pe_tup (pa_cons (pe_op op_sub pe_int pe_int) (pa_cons pe_int pa_nil))) pa_nil)) pa_nil))) (pa_cons (pe_tup (pa_cons pe_str (pa_cons pe_str pa_nil))) pa_nil))) (by intro _; rfl)))))) (pss_one (ps_ret pe_bl)) pss_nil)
    (pss_cons (ps_set (i := 12) sc_law.nd rfl (Or.inl rfl) (pe_lst (pa_cons (pe_tup (pa_cons pe_int (pa_cons pe_int pa_nil))) (pa_cons (pe_tup (pa_cons pe_int (pa_cons pe_int pa_nil))) (pa_cons (pe_tup (pa_cons pe_int (pa_cons (pe_op op_sub pe_int pe_int) pa_nil))) (pa_cons (pe_tup (pa_cons pe_int (pa_cons pe_int pa_nil))) (pa_cons (pe_tup (pa_cons pe_bl (pa_cons pe_int pa_nil))) (pa_cons (pe_tup (pa_cons pe_int (pa_cons pe_bl pa_nil))) (pa_cons (pe_lst (pa_cons pe_int (pa_cons pe_int pa_nil))) (pa_cons (pe_tup (pa_cons pe_int pa_nil)) (pa_cons (pe_tup (pa_cons pe_int (pa_cons pe_int (pa_cons pe_int pa_nil)))) (pa_cons pe_str (pa_cons pe_int (pa_cons pe_non (pa_cons (pe_tup (pa_cons (pe_tup (pa_cons pe_int (pa_cons pe_int pa_nil))) (pa_cons pe_int pa_nil))) pa_nil)))))))))))))))
    (pss_cons (ps_if (PW.pt (pw_or (pt_cmpR op_notBl1 (pe_call (ok_is_ratio T) (hr.mono (by first | decide | omega)) rfl T.d_is_ratio.g T.d_is_ratio.F.kp T.d_is_ratio.b .nil pass0 (pa_cons (pe_call (ok__law_pick T) (hr.mono (by first | decide | omega)) rfl T.d__law_pick.g T.d__law_pick.F.kp T.d__law_pick.b .nil pass0 (pa_cons (pv 1) (pa_cons (pv 12) pa_nil))) pa_nil)) pe_bl (nomark _)) (pw_or1 (pt_cmpR op_notBl1 (pe_call (ok_is_typed T) (hr.mono (by first | decide | omega)) rfl T.d_is_typed.g T.d_is_typed.F.kp T.d_is_typed.b .nil pass0 (pa_cons (pe_call (ok__law_pick T) (hr.mono (by first | decide | omega)) rfl T.d__law_pick.g T.d__law_pick.F.kp T.d__law_pick.b .nil pass0 (pa_cons (pv 1) (pa_cons (pe_op op_addAll (pv 12) (pe_lst (pa_cons (pe_tup (pa_cons pe_int (pa_cons pe_int pa_nil))) (pa_cons (pe_tup (pa_cons pe_int (pa_cons pe_int pa_nil))) (pa_cons (pe_tup (pa_cons (pe_op op_sub pe_int pe_int) (pa_cons pe_int pa_nil))) pa_nil))))) pa_nil))) pa_nil)) pe_bl (nomark _))))) (pss_one (ps_ret pe_bl)) pss_nil)
    (pss_one (ps_ret (pe_call (ok__law_like_8 T) (hr.mono (by first | decide | omega)) rfl T.d__law_like.g T.d__law_like.F.kp T.d__law_like.b .nil pass0 (pa_cons (pe_tup (pa_cons (pe_call (ok_is_typed T) (hr.mono (by first | decide | omega)) rfl T.d_is_typed.g T.d_is_typed.F.kp T.d_is_typed.b .nil pass0 (pa_cons (pe_tup (pa_cons pe_int (pa_cons pe_int pa_nil))) pa_nil)) (pa_cons (pe_call (ok_is_typed T) (hr.mono (by first | decide | omega)) rfl T.d_is_typed.g T.d_is_typed.F.kp T.d_is_typed.b .nil pass0 (pa_cons (pe_tup (pa_cons (pe_op op_sub pe_int pe_int) (pa_cons pe_int pa_nil))) pa_nil)) (pa_cons (pe_call (ok_is_typed T) (hr.mono (by first | decide | omega)) rfl T.d_is_typed.g T.d_is_typed.F.kp T.d_is_typed.b .nil pass0 (pa_cons (pe_tup (pa_cons pe_int (pa_cons pe_int pa_nil))) pa_nil)) pa_nil)))) (pa_cons (pe_tup (pa_cons pe_bl (pa_cons pe_bl (pa_cons pe_bl pa_nil)))) pa_nil))))))))))))), fun B hK hp => ?_⟩
    subst hK
    exact (ss_seq (ss_asg (se_lst (sa_cons (so_e (se_call (sa_cons so_var (sa_cons (so_e se_int) (sa_cons (so_e se_int) sa_nil))) (fun os r e => m_len__law_digits e))) (sa_cons (so_e se_int) sa_nil))) (sg_name (by rw [hp]; decide)))
    (ss_seq (ss_for (si_r1 (so_e se_int)) (sg_name (by rw [hp]; decide)) (ss_seq (ss_par (by rw [hp]; decide) (by rw [hp]; decide) (sa_cons (so_e (se_call (sa_cons so_var sa_nil) (fun os r e => m_len__law_any e))) (sa_cons (so_e (se_call (sa_cons so_var sa_nil) (fun os r e => m_len__law_any e))) sa_nil)))
    (ss_seq (ss_asg (se_tup (sa_cons (so_e se_var) (sa_cons (so_e se_var) sa_nil))) (sg_tup (n := 2) (sgs_cons (sg_tup (n := 2) (sgs_cons (sg_name (by rw [hp]; decide)) (sgs_cons (sg_name (by rw [hp]; decide)) sgs_nil))) (sgs_cons (sg_tup (n := 2) (sgs_cons (sg_name (by rw [hp]; decide)) (sgs_cons (sg_name (by rw [hp]; decide)) sgs_nil))) sgs_nil))))
    (ss_seq (ss_if (st_or (st_test (so_e (se_s2 s2_notB (so_e (se_call (sa_cons so_var sa_nil) (fun os r e => m_len_is_ratio e))) (so_e se_bl)))) (st_not (st_tru (so_e (se_call (sa_cons (so_e (se_call (sa_cons so_var sa_nil) (fun os r e => m_len_is_typed e))) (sa_cons (so_e (se_andV (so_e (se_s2 s2_le (so_e (se_sn sn_abs (sa_cons so_var sa_nil))) (so_e se_int))) (se_s2 s2_le so_var (so_e se_int)))) sa_nil)) (fun os r e => m_len__law_like_8 e)))))) (ss_ret se_bl) ss_next)
    (ss_seq (ss_if (st_or (st_not (st_tru (so_e (se_call (sa_cons (so_e (se_call (sa_cons so_var (sa_cons so_var sa_nil)) (fun os r e => m_len_plus e))) (sa_cons (so_e (se_a2 a2_add (so_e (se_a2 a2_mul (so_e se_var) (so_e se_var))) (so_e (se_a2 a2_mul (so_e se_var) (so_e se_var))))) (sa_cons (so_e (se_a2 a2_mul (so_e se_var) (so_e se_var))) sa_nil))) (fun os r e => m_len__law_same e))))) (st_or (st_not (st_tru (so_e (se_call (sa_cons (so_e (se_call (sa_cons so_var (sa_cons so_var sa_nil)) (fun os r e => m_len_minus e))) (sa_cons (so_e (se_s2 s2_sub (so_e (se_a2 a2_mul (so_e se_var) (so_e se_var))) (so_e (se_a2 a2_mul (so_e se_var) (so_e se_var))))) (sa_cons (so_e (se_a2 a2_mul (so_e se_var) (so_e se_var))) sa_nil))) (fun os r e => m_len__law_same e))))) (st_not (st_tru (so_e (se_call (sa_cons (so_e (se_call (sa_cons so_var (sa_cons so_var sa_nil)) (fun os r e => m_len_product e))) (sa_cons (so_e (se_a2 a2_mul (so_e se_var) (so_e se_var))) (sa_cons (so_e (se_a2 a2_mul (so_e se_var) (so_e se_var))) sa_nil))) (fun os r e => m_len__law_same e))))))) (ss_ret se_bl) ss_next)
    (ss_seq (ss_if (st_and (st_test (so_e (se_s2 s2_ne so_var (so_e se_int)))) (st_not (st_tru (so_e (se_call (sa_cons (so_e (se_call (sa_cons so_var (sa_cons so_var sa_nil)) (fun os r e => m_len_quotient e))) (sa_cons (so_e (se_a2 a2_mul (so_e (se_a2 a2_mul (so_e se_var) (so_e se_var))) (so_e (se_if (st_test (so_e (se_s2 s2_gt so_var (so_e se_int)))) se_int (se_s2 s2_sub (so_e se_int) (so_e se_int)))))) (sa_cons (so_e (se_a2 a2_mul (so_e se_var) (so_e (se_sn sn_abs (sa_cons so_var sa_nil))))) sa_nil))) (fun os r e => m_len__law_same e)))))) (ss_ret se_bl) ss_next)
    (ss_seq (ss_asg (se_s2 s2_sub (so_e (se_a2 a2_mul (so_e se_var) (so_e se_var))) (so_e (se_a2 a2_mul (so_e se_var) (so_e se_var)))) (sg_name (by rw [hp]; decide)))
    (ss_seq (ss_if (st_not (st_tru (so_e (se_call (sa_cons (so_e (se_tup (sa_cons (so_e (se_call (sa_cons so_var (sa_cons so_var sa_nil)) (fun os r e => m_len_compare e))) (sa_cons (so_e (se_call (sa_cons so_var (sa_cons so_var sa_nil)) (fun os r e => m_len_compare e))) (sa_cons (so_e (se_call (sa_cons so_var (sa_cons so_var sa_nil)) (fun os r e => m_len_compare e))) sa_nil))))) (sa_cons (so_e (se_tup (sa_cons (so_e (se_s2 s2_sub (so_e (se_sn sn_intOf (sa_cons (so_e (se_s2 s2_gt so_var (so_e se_int))) sa_nil))) (so_e (se_sn sn_intOf (sa_cons (so_e (se_s2 s2_lt so_var (so_e se_int))) sa_nil))))) (sa_cons (so_e (se_s2 s2_sub (so_e (se_sn sn_intOf (sa_cons (so_e (se_s2 s2_lt so_var (so_e se_int))) sa_nil))) (so_e (se_sn sn_intOf (sa_cons (so_e (se_s2 s2_gt so_var (so_e se_int))) sa_nil))))) (sa_cons (so_e se_int) sa_nil))))) sa_nil)) (fun os r e => m_len__law_like_8 e))))) (ss_ret se_bl) ss_next)
    (ss_seq (ss_asg (se_a2 a2_add (so_e se_int) (so_e (se_call (sa_cons so_var (sa_cons (so_e se_int) sa_nil)) (fun os r e => m_len__law_draw e)))) (sg_name (by rw [hp]; decide)))
    (ss_if (st_or (st_not (st_tru (so_e (se_call (sa_cons (so_e (se_tup (sa_cons (so_e (se_call (sa_cons (so_e (se_a2 a2_mul (so_e se_var) (so_e se_var))) (sa_cons (so_e (se_a2 a2_mul (so_e se_var) (so_e se_var))) sa_nil)) (fun os r e => m_len_ratio e))) (sa_cons (so_e (se_call (sa_cons (so_e (se_s2 s2_sub (so_e se_int) (so_e (se_a2 a2_mul (so_e se_var) (so_e se_var))))) (sa_cons (so_e (se_s2 s2_sub (so_e se_int) (so_e (se_a2 a2_mul (so_e se_var) (so_e se_var))))) sa_nil)) (fun os r e => m_len_ratio e))) sa_nil)))) (sa_cons (so_e (se_tup (sa_cons (so_e se_var) (sa_cons (so_e se_var) sa_nil)))) sa_nil)) (fun os r e => m_len__law_like_8 e))))) (st_not (st_tru (so_e (se_call (sa_cons (so_e (se_call (sa_cons (so_e (se_a2 a2_mul (so_e se_var) (so_e se_var))) (sa_cons (so_e (se_s2 s2_sub (so_e se_int) (so_e (se_a2 a2_mul (so_e se_var) (so_e se_var))))) sa_nil)) (fun os r e => m_len_ratio e))) (sa_cons (so_e (se_tup (sa_cons (so_e (se_s2 s2_sub (so_e se_int) so_var)) (sa_cons (so_e se_var) sa_nil)))) sa_nil)) (fun os r e => m_len__law_like_8 e)))))) (ss_ret se_bl) ss_next))))))))))
    (ss_seq (ss_par (by rw [hp]; decide) (by rw [hp]; decide) (sa_cons (so_e (se_s2 s2_sub (so_e (se_call (sa_cons so_var (sa_cons (so_e se_int) sa_nil)) (fun os r e => m_len__law_draw e))) (so_e se_int))) (sa_cons (so_e (se_a2 a2_add (so_e se_int) (so_e (se_call (sa_cons so_var (sa_cons (so_e se_int) sa_nil)) (fun os r e => m_len__law_draw e))))) sa_nil)))
    (ss_seq (ss_asg (se_call (sa_cons so_var (sa_cons so_var sa_nil)) (fun os r e => m_len__law_ratio e)) (sg_name (by rw [hp]; decide)))
    (ss_seq (ss_asg (se_if (st_test (so_e (se_s2 s2_eq (so_e (se_ix ixOk_all ixOw_all so_var (so_e se_int))) (so_e se_int)))) (se_sn sn_strOf (sa_cons (so_e (se_ix ixOk_all ixOw_all so_var (so_e se_int))) sa_nil)) (se_a2 a2_add (so_e (se_a2 a2_add (so_e (se_sn sn_strOf (sa_cons (so_e (se_ix ixOk_all ixOw_all so_var (so_e se_int))) sa_nil))) (so_e se_str))) (so_e (se_sn sn_strOf (sa_cons (so_e (se_ix ixOk_all ixOw_all so_var (so_e se_int))) sa_nil))))) (sg_name (by rw [hp]; decide)))
    (ss_seq (ss_if (st_or (st_not (st_tru (so_e (se_call (sa_cons (so_e (se_call (sa_cons so_var sa_nil) (fun os r e => m_len_write_ratio e))) (sa_cons so_var sa_nil)) (fun os r e => m_len__law_like_8 e))))) (st_not (st_tru (so_e (se_call (sa_cons (so_e (se_tup (sa_cons (so_e (se_call (sa_cons (so_e (se_tup (sa_cons (so_e se_int) (sa_cons (so_e se_int) sa_nil)))) sa_nil) (fun os r e => m_len_write_ratio e))) (sa_cons (so_e (se_call (sa_cons (so_e (se_tup (sa_cons (so_e (se_s2 s2_sub (so_e se_int) (so_e se_int))) (sa_cons (so_e se_int) sa_nil)))) sa_nil) (fun os r e => m_len_write_ratio e))) sa_nil)))) (sa_cons (so_e (se_tup (sa_cons (so_e se_str) (sa_cons (so_e se_str) sa_nil)))) sa_nil)) (fun os r e => m_len__law_like_8 e)))))) (ss_ret se_bl) ss_next)
    (ss_seq (ss_asg (se_lst (sa_cons (so_e (se_tup (sa_cons (so_e se_int) (sa_cons (so_e se_int) sa_nil)))) (sa_cons (so_e (se_tup (sa_cons (so_e se_int) (sa_cons (so_e se_int) sa_nil)))) (sa_cons (so_e (se_tup (sa_cons (so_e se_int) (sa_cons (so_e (se_s2 s2_sub (so_e se_int) (so_e se_int))) sa_nil)))) (sa_cons (so_e (se_tup (sa_cons (so_e se_int) (sa_cons (so_e se_int) sa_nil)))) (sa_cons (so_e (se_tup (sa_cons (so_e se_bl) (sa_cons (so_e se_int) sa_nil)))) (sa_cons (so_e (se_tup (sa_cons (so_e se_int) (sa_cons (so_e se_bl) sa_nil)))) (sa_cons (so_e (se_lst (sa_cons (so_e se_int) (sa_cons (so_e se_int) sa_nil)))) (sa_cons (so_e (se_tup (sa_cons (so_e se_int) sa_nil))) (sa_cons (so_e (se_tup (sa_cons (so_e se_int) (sa_cons (so_e se_int) (sa_cons (so_e se_int) sa_nil))))) (sa_cons (so_e se_str) (sa_cons (so_e se_int) (sa_cons (so_e se_non) (sa_cons (so_e (se_tup (sa_cons (so_e (se_tup (sa_cons (so_e se_int) (sa_cons (so_e se_int) sa_nil)))) (sa_cons (so_e se_int) sa_nil)))) sa_nil)))))))))))))) (sg_name (by rw [hp]; decide)))
    (ss_seq (ss_if (st_or (st_test (so_e (se_s2 s2_notB (so_e (se_call (sa_cons (so_e (se_call (sa_cons so_var (sa_cons so_var sa_nil)) (fun os r e => m_len__law_pick e))) sa_nil) (fun os r e => m_len_is_ratio e))) (so_e se_bl)))) (st_test (so_e (se_s2 s2_notB (so_e (se_call (sa_cons (so_e (se_call (sa_cons so_var (sa_cons (so_e (se_a2 a2_add (so_e se_var) (so_e (se_lst (sa_cons (so_e (se_tup (sa_cons (so_e se_int) (sa_cons (so_e se_int) sa_nil)))) (sa_cons (so_e (se_tup (sa_cons (so_e se_int) (sa_cons (so_e se_int) sa_nil)))) (sa_cons (so_e (se_tup (sa_cons (so_e (se_s2 s2_sub (so_e se_int) (so_e se_int))) (sa_cons (so_e se_int) sa_nil)))) sa_nil))))))) sa_nil)) (fun os r e => m_len__law_pick e))) sa_nil) (fun os r e => m_len_is_typed e))) (so_e se_bl))))) (ss_ret se_bl) ss_next)
    (ss_ret (se_call (sa_cons (so_e (se_tup (sa_cons (so_e (se_call (sa_cons (so_e (se_tup (sa_cons (so_e se_int) (sa_cons (so_e se_int) sa_nil)))) sa_nil) (fun os r e => m_len_is_typed e))) (sa_cons (so_e (se_call (sa_cons (so_e (se_tup (sa_cons (so_e (se_s2 s2_sub (so_e se_int) (so_e se_int))) (sa_cons (so_e se_int) sa_nil)))) sa_nil) (fun os r e => m_len_is_typed e))) (sa_cons (so_e (se_call (sa_cons (so_e (se_tup (sa_cons (so_e se_int) (sa_cons (so_e se_int) sa_nil)))) sa_nil) (fun os r e => m_len_is_typed e))) sa_nil))))) (sa_cons (so_e (se_tup (sa_cons (so_e se_bl) (sa_cons (so_e se_bl) (sa_cons (so_e se_bl) sa_nil))))) sa_nil)) (fun os r e => m_len__law_like_8 e)))))))))))
end
theorem txt_mk {K : PySem.W.Frag} {mg : Str → Option Value} (h_is_number : Nonempty (FnAt K mg "is_number" (topS 2) ["thing"])) (h_is_ratio : Nonempty (FnAt K mg "is_ratio" (topS 6) ["thing"])) (h_is_typed : Nonempty (FnAt K mg "is_typed" (topS 7) ["thing"])) (h_ratio : Nonempty (FnAt K mg "ratio" (topS 8) ["a", "b"])) (h_plus : Nonempty (FnAt K mg "plus" (topS 9) ["one", "other"])) (h_minus : Nonempty (FnAt K mg "minus" (topS 10) ["one", "other"])) (h_product : Nonempty (FnAt K mg "product" (topS 11) ["one", "other"])) (h_quotient : Nonempty (FnAt K mg "quotient" (topS 12) ["one", "other"])) (h_compare : Nonempty (FnAt K mg "compare" (topS 13) ["one", "other"])) (h_write_ratio : Nonempty (FnAt K mg "write_ratio" (topS 14) ["one"])) (h__law_cell : Nonempty (FnAt K mg "_law_cell" (topS 16) ["script", "k"])) (h__law_digits : Nonempty (FnAt K mg "_law_digits" (topS 17) ["script", "first", "last"])) (h__law_draw : Nonempty (FnAt K mg "_law_draw" (topS 18) ["box", "many"])) (h__law_pick : Nonempty (FnAt K mg "_law_pick" (topS 19) ["box", "things"])) (h__law_like : Nonempty (FnAt K mg "_law_like" (topS 20) ["told", "due"])) (h__law_gcd : Nonempty (FnAt K mg "_law_gcd" (topS 21) ["one", "other"])) (h__law_ratio : Nonempty (FnAt K mg "_law_ratio" (topS 22) ["a", "b"])) (h__law_is_ratio : Nonempty (FnAt K mg "_law_is_ratio" (topS 23) ["one"])) (h__law_any : Nonempty (FnAt K mg "_law_any" (topS 24) ["box"])) (h__law_same : Nonempty (FnAt K mg "_law_same" (topS 25) ["told", "a", "b"])) (h_law : Nonempty (FnAt K mg "law" (topS 26) ["script"])) (z_abs : mg "abs" = none) (z_bool : mg "bool" = none) (z_int : mg "int" = none) (z_isinstance : mg "isinstance" = none) (z_len : mg "len" = none) (z_range : mg "range" = none) (z_str : mg "str" = none) (z_tuple : mg "tuple" = none) (b_gcd : mg "gcd" = some (.builtin "math.gcd")) (i_MOST_ABOVE : ∃ t, mg "MOST_ABOVE" = some (.int 1000000 t)) (i_MOST_BELOW : ∃ t, mg "MOST_BELOW" = some (.int 1000 t)) : Nonempty (Txt K mg) := by
  obtain ⟨h_is_number⟩ := h_is_number
  obtain ⟨h_is_ratio⟩ := h_is_ratio
  obtain ⟨h_is_typed⟩ := h_is_typed
  obtain ⟨h_ratio⟩ := h_ratio
  obtain ⟨h_plus⟩ := h_plus
  obtain ⟨h_minus⟩ := h_minus
  obtain ⟨h_product⟩ := h_product
  obtain ⟨h_quotient⟩ := h_quotient
  obtain ⟨h_compare⟩ := h_compare
  obtain ⟨h_write_ratio⟩ := h_write_ratio
  obtain ⟨h__law_cell⟩ := h__law_cell
  obtain ⟨h__law_digits⟩ := h__law_digits
  obtain ⟨h__law_draw⟩ := h__law_draw
  obtain ⟨h__law_pick⟩ := h__law_pick
  obtain ⟨h__law_like⟩ := h__law_like
  obtain ⟨h__law_gcd⟩ := h__law_gcd
  obtain ⟨h__law_ratio⟩ := h__law_ratio
  obtain ⟨h__law_is_ratio⟩ := h__law_is_ratio
  obtain ⟨h__law_any⟩ := h__law_any
  obtain ⟨h__law_same⟩ := h__law_same
  obtain ⟨h_law⟩ := h_law
  exact ⟨⟨h_is_number, h_is_ratio, h_is_typed, h_ratio, h_plus, h_minus, h_product, h_quotient, h_compare, h_write_ratio, h__law_cell, h__law_digits, h__law_draw, h__law_pick, h__law_like, h__law_gcd, h__law_ratio, h__law_is_ratio, h__law_any, h__law_same, h_law, z_abs, z_bool, z_int, z_isinstance, z_len, z_range, z_str, z_tuple, b_gcd, i_MOST_ABOVE, i_MOST_BELOW⟩⟩
theorem law_fd {K : PySem.W.Frag} {mg : Str → Option Value} {P : Program} {w : World} {fa : Addr} (T : Txt K mg) (hfa : mg "law" = some (.ref fa)) : ∃ fd : FuncData, (∀ (s : Shared) (v : Value), BindsTo s fd ⟨[v], []⟩ [("script", v)]) ∧ ∀ base : Heap, FnOk P w K mg base CX0 9 fa fd ["script"] (spM K 1 m_law) := by
  have e := hfa.symm.trans T.d_law.g
  cases e
  refine ⟨T.d_law.fd, fun s v => ?_, fun base => ok_law T⟩
  obtain ⟨oc, od, kV, doc, pm, an, cdv, ct, osl, e, _, _⟩ := T.d_law.F.ex
  rw [e]
  exact .of_eq rfl
theorem law_fin {K : PySem.W.Frag} {mg : Str → Option Value} {P : Program} {w : World} {fa : Addr} {h : Heap} (X : K.In h) (G : h.Ns mainGlobals mg) (hfa : mg "law" = some (.ref fa)) (h_is_number : Nonempty (FnAt K mg "is_number" (topS 2) ["thing"])) (h_is_ratio : Nonempty (FnAt K mg "is_ratio" (topS 6) ["thing"])) (h_is_typed : Nonempty (FnAt K mg "is_typed" (topS 7) ["thing"])) (h_ratio : Nonempty (FnAt K mg "ratio" (topS 8) ["a", "b"])) (h_plus : Nonempty (FnAt K mg "plus" (topS 9) ["one", "other"])) (h_minus : Nonempty (FnAt K mg "minus" (topS 10) ["one", "other"])) (h_product : Nonempty (FnAt K mg "product" (topS 11) ["one", "other"])) (h_quotient : Nonempty (FnAt K mg "quotient" (topS 12) ["one", "other"])) (h_compare : Nonempty (FnAt K mg "compare" (topS 13) ["one", "other"])) (h_write_ratio : Nonempty (FnAt K mg "write_ratio" (topS 14) ["one"])) (h__law_cell : Nonempty (FnAt K mg "_law_cell" (topS 16) ["script", "k"])) (h__law_digits : Nonempty (FnAt K mg "_law_digits" (topS 17) ["script", "first", "last"])) (h__law_draw : Nonempty (FnAt K mg "_law_draw" (topS 18) ["box", "many"])) (h__law_pick : Nonempty (FnAt K mg "_law_pick" (topS 19) ["box", "things"])) (h__law_like : Nonempty (FnAt K mg "_law_like" (topS 20) ["told", "due"])) (h__law_gcd : Nonempty (FnAt K mg "_law_gcd" (topS 21) ["one", "other"])) (h__law_ratio : Nonempty (FnAt K mg "_law_ratio" (topS 22) ["a", "b"])) (h__law_is_ratio : Nonempty (FnAt K mg "_law_is_ratio" (topS 23) ["one"])) (h__law_any : Nonempty (FnAt K mg "_law_any" (topS 24) ["box"])) (h__law_same : Nonempty (FnAt K mg "_law_same" (topS 25) ["told", "a", "b"])) (h_law : Nonempty (FnAt K mg "law" (topS 26) ["script"])) (z_abs : mg "abs" = none) (z_bool : mg "bool" = none) (z_int : mg "int" = none) (z_isinstance : mg "isinstance" = none) (z_len : mg "len" = none) (z_range : mg "range" = none) (z_str : mg "str" = none) (z_tuple : mg "tuple" = none) (b_gcd : mg "gcd" = some (.builtin "math.gcd")) (i_MOST_ABOVE : ∃ t, mg "MOST_ABOVE" = some (.int 1000000 t)) (i_MOST_BELOW : ∃ t, mg "MOST_BELOW" = some (.int 1000 t)) : ∃ fd : FuncData, (∀ (s : Shared) (v : Value), BindsTo s fd ⟨[v], []⟩ [("script", v)]) ∧ ∀ base : Heap, K.In base → base.Ns mainGlobals mg → FnOk P w K mg base CX0 9 fa fd ["script"] (spM K 1 m_law) := by
  obtain ⟨T⟩ := txt_mk h_is_number h_is_ratio h_is_typed h_ratio h_plus h_minus h_product h_quotient h_compare h_write_ratio h__law_cell h__law_digits h__law_draw h__law_pick h__law_like h__law_gcd h__law_ratio h__law_is_ratio h__law_any h__law_same h_law z_abs z_bool z_int z_isinstance z_len z_range z_str z_tuple b_gcd i_MOST_ABOVE i_MOST_BELOW
  obtain ⟨fd, h1, h2⟩ := law_fd (P := P) (w := w) T hfa
  exact ⟨fd, h1, fun base _ _ => h2 base⟩

end K01

set_option Elab.async false
set_option linter.all false
set_option maxRecDepth 100000
set_option exponentiation.threshold 10000
namespace K01
open PySem PySem.Spec PyProof.Rows L2 Mi Lw
def AI (ds : List Int) (k : Nat) (g : G) : Prop := ∃ a' x y z, g = [some (bx ds a'), some (.fr (.int x)), some (.fr (.int y)), z] ∧ 0 ≤ a' ∧ 0 < y ∧ x.natAbs < 1000 ^ (k + 1) ∧ y.natAbs < 1000 ^ (k + 1)
/-- a ratio drawn -/
theorem any_spec {ds : List Int} {a : Int} (ha : 0 ≤ a) : Ev (m__law_any [bx ds a]) fun p => ∃ x y a', p = (.fr (rt x y), [bx ds a']) ∧ 0 ≤ a' ∧ 0 < y ∧ Nat.gcd x.natAbs y.natAbs = 1 ∧ Sm 120 x ∧ Sm 120 y := by
  simp [m__law_any, ev_runF, b__law_any]
  refine (draw_spec ha (by decide)).mono ?_
  rintro _ ⟨v, rfl, v0, v1⟩
  simp
  refine (draw_spec (by omega) (by decide)).mono ?_
  rintro _ ⟨w, rfl, w0, w1⟩
  simp
  refine (draw_spec (by omega) (by decide)).mono ?_
  rintro _ ⟨t, rfl, t0, t1⟩
  simp
  refine Ev.mono (Q := fun o => ∃ g, o = .nx g ∧ AI ds 9 g) (Ev.ite (fun h => ?_) (fun h => ?_)) ?_
  · simp
    refine (draw_spec (by omega) (by decide)).mono ?_
    rintro _ ⟨u, rfl, u0, u1⟩
    simp
    refine ⟨⟨by omega, by omega⟩, ?_⟩
    refine (forR (P := AI ds) ⟨_, _, _, _, rfl, by omega, by omega, by omega, by omega⟩ ?_).mono ?_
    · rintro k i hk hi g ⟨a', x, y, z, rfl, p0, p1, p2, p3⟩
      simp [b__law_any_1]
      refine (draw_spec (by omega) (by decide)).mono ?_
      rintro _ ⟨d1, rfl, e0, e1⟩
      simp
      refine (draw_spec (by omega) (by decide)).mono ?_
      rintro _ ⟨d2, rfl, f0, f1⟩
      simp
      have : (1000 : Nat) ^ (k + 1 + 1) = 1000 ^ (k + 1) * 1000 := Nat.pow_succ ..
      exact ⟨_, _, _, _, rfl, by omega, by omega, by omega, by omega⟩
    · rintro _ ⟨g, rfl, a', x, y, z, rfl, p0, p1, p2, p3⟩
      have : (1000 : Nat) ^ ((2 + u).toNat + 1) ≤ 1000 ^ 10 := Nat.pow_le_pow_right (by decide) (by omega)
      exact ⟨_, rfl, _, _, _, _, rfl, p0, p1, by omega, by omega⟩
  · simp
    exact ⟨_, _, _, _, rfl, by omega, by omega, by omega, by omega⟩
  · rintro _ ⟨g, rfl, a', x, y, z, rfl, p0, p1, p2, p3⟩
    have big : (1000 : Nat) ^ 10 ≤ 2 ^ 120 := by decide
    have sy : Sm 120 y := Nat.lt_of_lt_of_le p3 big
    have sx : Sm 120 x := Nat.lt_of_lt_of_le p2 big
    simp
    refine (law_ratio_spec p1 (sy.mono (by decide))).mono ?_
    rintro _ ⟨u, v, rfl, hl⟩
    have hle := hl.le (by omega)
    simp
    exact ⟨_, _, _, ⟨⟨rfl, rfl⟩, rfl⟩, p0, hl.1, hl.2.1, sx.le hle.1, sy.le hle.2⟩
theorem law_is_ratio_spec {x y : Int} (hy : 0 < y) (hg : Nat.gcd x.natAbs y.natAbs = 1) : Ev (m__law_is_ratio [.fr (rt x y)]) fun p => p = (.fr (.bl true), [.fr (rt x y)]) := by
  simp [m__law_is_ratio, ev_runF, b__law_is_ratio, hy]
  generalize hq : (if x < 0 then -x else x) = q
  have hq2 : q = x.natAbs := by rw [← hq]; split <;> omega
  refine (gcd_spec (a := q) (by omega) (by omega)).mono ?_
  rintro _ rfl
  have e : q.natAbs = x.natAbs := by omega
  simp [e, hg]
theorem same_spec {x y a b : Int} {n : Nat} (h : Low a b x y) (sa : Sm n a) (sb : Sm n b) (hb : b ≠ 0) (hn : n ≤ 8000) : Ev (m__law_same [.fr (rt x y), .fr (.int a), .fr (.int b)]) fun p => p = (.fr (.bl true), [.fr (rt x y), .fr (.int a), .fr (.int b)]) := by
  obtain ⟨h1, h2, h3⟩ := h
  have hle := Low.le ⟨h1, h2, h3⟩ hb
  simp [m__law_same, ev_runF, b__law_same]
  refine (law_is_ratio_spec h1 h2).mono ?_
  rintro _ rfl
  simp [(sa.le hle.1).mulOk sb (by omega) (by omega), sa.mulOk (sb.le hle.2) (by omega) (by omega), h3]
/-- the law's turn -/
def LP (ns ds : List Int) : G → Prop := fun g => ∃ a c1 c2 c3 c4 c5 c6 c7 c8 c9 c10 c11, g = [some (.fr (.scr ns)), some (bx ds a), c1, c2, c3, c4, c5, c6, c7, c8, c9, c10, c11] ∧ 0 ≤ a
theorem turn_spec {ns ds : List Int} {i : Int} {g : G} (h : LP ns ds g) : Ev (gN 2 (.fr (.int i)) g) fun g1 => Ev (b_law_1 g1) (Turn (LP ns ds)) := by
  obtain ⟨a0, c1, c2, c3, c4, c5, c6, c7, c8, c9, c10, c11, rfl, ha⟩ := h
  simp [b_law_1]
  refine (any_spec ha).mono ?_
  rintro _ ⟨a, b, a1, rfl, h1, b0, gb, sa, sb⟩
  simp
  refine (any_spec h1).mono ?_
  rintro _ ⟨c, d, a2, rfl, h2, d0, gd, sc, sd⟩
  simp
  refine (is_ratio_true b0 gb).mono ?_
  rintro _ rfl
  simp
  refine (is_typed_spec b0 gb).mono ?_
  rintro _ rfl
  simp
  refine (like8 (d := .bl _) trivial).mono ?_
  rintro _ rfl
  have hbd : b * d ≠ 0 := Int.mul_ne_zero (by omega) (by omega)
  have m1 := sa.mulOk sd (by decide) (by decide)
  have m2 := sc.mulOk sb (by decide) (by decide)
  have m3 := sb.mulOk sd (by decide) (by decide)
  have m4 := sa.mulOk sc (by decide) (by decide)
  simp
  refine (plus_spec b0 d0 sa sb sc sd (by decide)).mono ?_
  rintro _ ⟨x, y, rfl, hl⟩
  simp [m1, m2, m3]
  refine (same_spec hl ((sa.mul sd).add (sc.mul sb)) ((sb.mul sd).mono (by decide)) hbd (by decide)).mono ?_
  rintro _ rfl
  simp
  refine (minus_spec b0 d0 sa sb sc sd (by decide)).mono ?_
  rintro _ ⟨x, y, rfl, hl⟩
  simp [m1, m2, m3]
  refine (same_spec hl ((sa.mul sd).sub (sc.mul sb)) ((sb.mul sd).mono (by decide)) hbd (by decide)).mono ?_
  rintro _ rfl
  simp
  refine (product_spec b0 d0 sa sb sc sd (by decide)).mono ?_
  rintro _ ⟨x, y, rfl, hl⟩
  simp [m3, m4]
  refine (same_spec hl (sa.mul sc) (sb.mul sd) hbd (by decide)).mono ?_
  rintro _ rfl
  simp
  refine Ev.mono (Q := fun o => o = (false, [some (O.fr (D.scr ns)), some (bx ds a2), some (O.fr (D.int i)), some (O.fr (rt a b)), some (O.fr (rt c d)), some (O.fr (D.int a)), some (O.fr (D.int b)), some (O.fr (D.int c)), some (O.fr (D.int d)), c8, c9, c10, c11])) (Ev.ite (fun h => ?_) (fun h => ?_)) ?_
  · simp
  · simp
    refine (quotient_spec b0 h sa sb sc sd (by decide)).mono ?_
    rintro _ ⟨x, y, rfl, hl⟩
    have hbc : b * c ≠ 0 := Int.mul_ne_zero (by omega) h
    by_cases hc : 0 < c
    · have hn : ¬c < 0 := by omega
      have mo : mulOk (a * d) 1 = true := mulOk_r (by decide)
      have m5 := sb.mulOk sc (by decide) (by decide)
      have hs := same_spec (n := 240) hl (sa.mul sd) (sb.mul sc) hbc (by decide)
      simp [m1, hc, hn, m5]
      refine hs.mono ?_
      rintro _ rfl
      simp
    · have hn : c < 0 := by omega
      have mo : mulOk (a * d) (-1) = true := mulOk_r (by decide)
      have m5 := sb.mulOk sc.neg (by decide) (by decide)
      have hs := same_spec (x := x) (y := y) (a := -(a * d)) (b := b * -c) (n := 240) ⟨hl.1, hl.2.1, by rw [Int.mul_neg, Int.mul_neg, Int.neg_mul, hl.2.2]⟩ (sa.mul sd).neg (sb.mul sc.neg) (by rw [Int.mul_neg]; omega) (by decide)
      simp [m1, hc, hn, m5]
      refine hs.mono ?_
      rintro _ rfl
      simp
  · rintro _ rfl
    simp [m1, m2]
    refine (compare_spec sa sb sc sd (by decide)).mono ?_
    rintro _ rfl
    simp
    refine (compare_spec sc sd sa sb (by decide)).mono ?_
    rintro _ rfl
    simp
    refine (compare_spec sa sb sa sb (by decide)).mono ?_
    rintro _ rfl
    simp
    refine (like8' (by simp) ?_).mono ?_
    · generalize a * d = u
      generalize c * b = v
      have e1 : sgn (u - v) = (if v < u then 1 else 0) - if u - v < 0 then 1 else 0 := by
        unfold sgn
        split <;> split <;> split <;> omega
      have e2 : sgn (v - u) = (if u - v < 0 then 1 else 0) - if v < u then 1 else 0 := by
        unfold sgn
        split <;> split <;> split <;> omega
      rw [e1, e2]
      rfl
    · rintro _ rfl
      simp
      refine (draw_spec (by omega) (by decide)).mono ?_
      rintro _ ⟨k, rfl, k0, k1⟩
      simp
      generalize hn : 1 + k = n
      have n0 : 0 < n := by omega
      have sn : Sm 10 n := by show n.natAbs < 2 ^ 10; omega
      have hbn : b * n ≠ 0 := Int.mul_ne_zero (by omega) (by omega)
      have hbn' : -(b * n) ≠ 0 := by omega
      have m7 := sa.mulOk sn (by decide) (by decide)
      have m8 := sb.mulOk sn (by decide) (by decide)
      have low := Low.self (n := n) b0 gb
      simp [m7, m8]
      refine (ratio_spec hbn ((sa.mul sn).mono (by decide)) ((sb.mul sn).mono (by decide))).mono ?_
      rintro _ ⟨x, y, rfl, hl⟩
      obtain ⟨rfl, rfl⟩ := low.uniq hl hbn
      simp [m7, m8]
      refine (ratio_spec hbn' ((sa.mul sn).neg.mono (by decide)) ((sb.mul sn).neg.mono (by decide))).mono ?_
      rintro _ ⟨x, y, rfl, hl2⟩
      obtain ⟨rfl, rfl⟩ := Low.uniq (a := -(a * n)) (b := -(b * n)) ⟨b0, gb, by rw [Int.mul_neg, Int.neg_mul, low.2.2]⟩ hl2 hbn'
      simp
      refine (like8 (by simp)).mono ?_
      · rintro _ rfl
        simp [m7, m8]
        refine (ratio_spec hbn' ((sa.mul sn).mono (by decide)) ((sb.mul sn).neg.mono (by decide))).mono ?_
        rintro _ ⟨x, y, rfl, hl3⟩
        obtain ⟨rfl, rfl⟩ := Low.uniq (a := a * n) (b := -(b * n)) (x := -a) (y := b) ⟨b0, by rw [Int.natAbs_neg]; exact gb, by rw [Int.neg_mul_neg, low.2.2]⟩ hl3 hbn'
        simp
        refine (like8 (by simp)).mono ?_
        · rintro _ rfl
          simp
          exact ⟨_, _, _, _, _, _, _, _, _, _, _, _, rfl, by omega⟩
def wrong : List D := [.tup [.int 2, .int 4], .tup [.int 1, .int 0], .tup [.int 1, .int (-2)], .tup [.int 0, .int 2], .tup [.bl true, .int 1], .tup [.int 1, .bl true], .lst [.int 1, .int 2], .tup [.int 1], .tup [.int 1, .int 2, .int 3], .str (Str.ofString "1/2"), .int 1, .non, .tup [.tup [.int 1, .int 2], .int 1]]
theorem wrong_ratio {t : D} (h : t ∈ wrong) : Ev (m_is_ratio [.fr t]) fun p => p = (.fr (.bl false), [.fr t]) := by
  simp only [wrong, List.mem_cons, List.not_mem_nil, or_false] at h
  rcases h with rfl | rfl | rfl | rfl | rfl | rfl | rfl | rfl | rfl | rfl | rfl | rfl | rfl <;> simp [m_is_ratio, ev_runF, b_is_ratio, m_is_number, b_is_number]
theorem wrong_typed {t : D} (h : t ∈ wrong ++ [.tup [.int 1000001, .int 1], .tup [.int 1, .int 1001], .tup [.int (-1000001), .int 1]]) : Ev (m_is_typed [.fr t]) fun p => p = (.fr (.bl false), [.fr t]) := by
  rcases List.mem_append.mp h with h | h
  · simp [m_is_typed, ev_runF, b_is_typed]
    refine (wrong_ratio h).mono ?_
    rintro _ rfl
    simp
  · simp only [List.mem_cons, List.not_mem_nil, or_false] at h
    rcases h with rfl | rfl | rfl <;> (refine (is_typed_spec (by decide) (by decide)).mono ?_; rintro _ rfl; simp)
theorem law_ok : LawOk m_law := lawOk_of fun ns hs => by
  simp [m_law, ev_runF, b_law]
  refine (digits_spec (ns := ns) (lo := 0) (hi := 63) (by decide) (by decide) (by decide) (by decide)).mono ?_
  rintro ⟨o, os⟩ ⟨ds, h1, dg, dl, h2⟩
  cases h1
  cases h2
  simp
  refine (forR (P := fun _ => LP ns ds) ⟨0, _, _, _, _, _, _, _, _, _, _, _, rfl, by decide⟩ fun k i _ _ g p => turn_spec p).mono ?_
  rintro _ ⟨g, rfl, a0, c1, c2, c3, c4, c5, c6, c7, c8, c9, c10, c11, rfl, ha⟩
  simp
  refine (draw_spec (by omega) (by decide)).mono ?_
  rintro _ ⟨v, rfl, v0, v1⟩
  simp
  refine (draw_spec (by omega) (by decide)).mono ?_
  rintro _ ⟨w, rfl, w0, w1⟩
  simp
  generalize ha' : v - 450 = a
  generalize hb' : 1 + w = b
  have sb : Sm 10 b := by show b.natAbs < 2 ^ 10; omega
  refine (law_ratio_spec (by omega) (sb.mono (by decide))).mono ?_
  rintro _ ⟨x, y, rfl, hl⟩
  have hle := hl.le (by omega)
  have hx : x.natAbs.log2 < 1920 := Nat.lt_trans (log2_lt (k := 10) (show x.natAbs < 2 ^ 10 by omega) (by decide)) (by decide)
  have hy : y.natAbs.log2 < 1920 := Nat.lt_trans (log2_lt (k := 10) (show y.natAbs < 2 ^ 10 by omega) (by decide)) (by decide)
  have l1 := sI_len hx
  have l2 := sI_len hy
  have l3 : (Str.ofString "/").length = 1 := by decide +kernel
  have hz : (10000 : Nat) ≤ sizeLine := by decide
  simp
  refine Ev.mono (Q := fun o => o = (O.fr (.str (sR x y)), [some (O.fr (D.scr ns)), some (bx ds (a0 + 1 + 1)), c1, some (O.fr (rt x y)), c3, some (O.fr (D.int a)), some (O.fr (D.int b)), c6, c7, c8, c9, c10, c11])) (Ev.ite (fun h => ?_) (fun h => ?_)) ?_
  · simp [strOf_ok hx, sR, h]
  · have a1 : dAdd (.str (sI x)) (.str (Str.ofString "/")) = some (.fr (.str (sI x ++ Str.ofString "/"))) := if_pos (by omega)
    have a2 : dAdd (.str (sI x ++ Str.ofString "/")) (.str (sI y)) = some (.fr (.str (sI x ++ Str.ofString "/" ++ sI y))) := if_pos (by rw [app_len]; omega)
    simp [strOf_ok hx, strOf_ok hy, sR, h, a1, a2]
  · rintro _ rfl
    simp
    refine (write_spec hx hy).mono ?_
    rintro _ rfl
    have ls : (sR x y).length ≤ 16777216 := by
      unfold sR
      split
      · omega
      · rw [app_len, app_len]; omega
    simp
    refine (like8 (by simp [ls])).mono ?_
    rintro _ rfl
    simp
    refine (write_spec (by decide) (by decide)).mono ?_
    rintro _ rfl
    simp
    refine (write_spec (by decide) (by decide)).mono ?_
    rintro _ rfl
    simp
    have w1 : sR 0 1 = Str.ofString "0" := by decide +kernel
    have w2 : sR (-25) 2 = Str.ofString "-25/2" := by decide +kernel
    have w3 : (Str.ofString "0").length ≤ 16777216 := by decide +kernel
    have w4 : (Str.ofString "-25/2").length ≤ 16777216 := by decide +kernel
    rw [w1, w2]
    refine (like8 (by simp [w3, w4])).mono ?_
    rintro _ rfl
    simp
    have hp := pick_specO (ds := ds) (a := a0 + 1 + 1) (ts := wrong) (by omega) (by decide)
    refine hp.mono ?_
    rintro _ ⟨t, rfl, ht⟩
    simp
    refine (wrong_ratio ht).mono ?_
    rintro _ rfl
    have e1 : erL (wrong.map O.fr) = wrong := by simp [wrong]
    have e2 : ∀ w, dAdd (.lst wrong) (.lst w) = if wrong.length + w.length ≤ sizeLine then some (.lst ((wrong ++ w).map O.fr)) else none := fun _ => rfl
    have e3 : ∀ us : List D, erL (us.map O.fr) = us := fun us => by
      induction us with
      | nil => rw [List.map_nil, erL_nil]
      | cons u us ih => rw [List.map_cons, erL_cons, er_fr, ih]
    have e4 : wrong.length + 3 ≤ sizeLine := by decide
    simp [e1, e2, e3, e4, -List.map_append, -List.map_cons]
    refine (pick_spec (by omega) (by simp)).mono ?_
    rintro _ ⟨t, rfl, ht⟩
    simp
    refine (wrong_typed ht).mono ?_
    rintro _ rfl
    simp
    refine (is_typed_spec (by decide) (by decide)).mono ?_
    rintro _ rfl
    simp
    refine (is_typed_spec (by decide) (by decide)).mono ?_
    rintro _ rfl
    simp
    refine (is_typed_spec (by decide) (by decide)).mono ?_
    rintro _ rfl
    simp
    refine (like8 (by simp)).mono ?_
    rintro _ rfl
    simp
end K01

open PySem PySem.W PyProof.Rows
set_option maxRecDepth 100000 in
set_option maxHeartbeats 0 in
theorem PySem.Challenge.cw_evenflow_k01_ratios_numbers_holds : PySem.Challenge.rw_evenflow_k01_ratios_numbers.Holds := by
  w_on; o_law; k_head; (case hw => w_witness2)
  k_fill
  refine Mi.walk_law (l := PySem.Challenge.rw_evenflow_k01_ratios_numbers) (k := 9) (f := K01.m_law) rfl rfl ⟨rfl, by decide, by decide⟩ (fun w h Y => PySem.W.kIn_of Y) K01.law_ok ?F
  case F =>
    intro w mg fa h KX G hmg
    exact K01.law_fin KX G hmg
      (by refine' Mi.fnAt_mk KX G ?a ?l ?c ?k ?hb; (case a => k_is); (case l => k_is); (case c => k_is); (case k => k_is); (case hb => exact fun _ _ _ _ _ _ us hl => match us, hl with | [_], _ => rfl))
      (by refine' Mi.fnAt_mk KX G ?a ?l ?c ?k ?hb; (case a => k_is); (case l => k_is); (case c => k_is); (case k => k_is); (case hb => exact fun _ _ _ _ _ _ us hl => match us, hl with | [_], _ => rfl))
      (by refine' Mi.fnAt_mk KX G ?a ?l ?c ?k ?hb; (case a => k_is); (case l => k_is); (case c => k_is); (case k => k_is); (case hb => exact fun _ _ _ _ _ _ us hl => match us, hl with | [_], _ => rfl))
      (by refine' Mi.fnAt_mk KX G ?a ?l ?c ?k ?hb; (case a => k_is); (case l => k_is); (case c => k_is); (case k => k_is); (case hb => exact fun _ _ _ _ _ _ us hl => match us, hl with | [_, _], _ => rfl))
      (by refine' Mi.fnAt_mk KX G ?a ?l ?c ?k ?hb; (case a => k_is); (case l => k_is); (case c => k_is); (case k => k_is); (case hb => exact fun _ _ _ _ _ _ us hl => match us, hl with | [_, _], _ => rfl))
      (by refine' Mi.fnAt_mk KX G ?a ?l ?c ?k ?hb; (case a => k_is); (case l => k_is); (case c => k_is); (case k => k_is); (case hb => exact fun _ _ _ _ _ _ us hl => match us, hl with | [_, _], _ => rfl))
      (by refine' Mi.fnAt_mk KX G ?a ?l ?c ?k ?hb; (case a => k_is); (case l => k_is); (case c => k_is); (case k => k_is); (case hb => exact fun _ _ _ _ _ _ us hl => match us, hl with | [_, _], _ => rfl))
      (by refine' Mi.fnAt_mk KX G ?a ?l ?c ?k ?hb; (case a => k_is); (case l => k_is); (case c => k_is); (case k => k_is); (case hb => exact fun _ _ _ _ _ _ us hl => match us, hl with | [_, _], _ => rfl))
      (by refine' Mi.fnAt_mk KX G ?a ?l ?c ?k ?hb; (case a => k_is); (case l => k_is); (case c => k_is); (case k => k_is); (case hb => exact fun _ _ _ _ _ _ us hl => match us, hl with | [_, _], _ => rfl))
      (by refine' Mi.fnAt_mk KX G ?a ?l ?c ?k ?hb; (case a => k_is); (case l => k_is); (case c => k_is); (case k => k_is); (case hb => exact fun _ _ _ _ _ _ us hl => match us, hl with | [_], _ => rfl))
      (by refine' Mi.fnAt_mk KX G ?a ?l ?c ?k ?hb; (case a => k_is); (case l => k_is); (case c => k_is); (case k => k_is); (case hb => exact fun _ _ _ _ _ _ us hl => match us, hl with | [_, _], _ => rfl))
      (by refine' Mi.fnAt_mk KX G ?a ?l ?c ?k ?hb; (case a => k_is); (case l => k_is); (case c => k_is); (case k => k_is); (case hb => exact fun _ _ _ _ _ _ us hl => match us, hl with | [_, _, _], _ => rfl))
      (by refine' Mi.fnAt_mk KX G ?a ?l ?c ?k ?hb; (case a => k_is); (case l => k_is); (case c => k_is); (case k => k_is); (case hb => exact fun _ _ _ _ _ _ us hl => match us, hl with | [_, _], _ => rfl))
      (by refine' Mi.fnAt_mk KX G ?a ?l ?c ?k ?hb; (case a => k_is); (case l => k_is); (case c => k_is); (case k => k_is); (case hb => exact fun _ _ _ _ _ _ us hl => match us, hl with | [_, _], _ => rfl))
      (by refine' Mi.fnAt_mk KX G ?a ?l ?c ?k ?hb; (case a => k_is); (case l => k_is); (case c => k_is); (case k => k_is); (case hb => exact fun _ _ _ _ _ _ us hl => match us, hl with | [_, _], _ => rfl))
      (by refine' Mi.fnAt_mk KX G ?a ?l ?c ?k ?hb; (case a => k_is); (case l => k_is); (case c => k_is); (case k => k_is); (case hb => exact fun _ _ _ _ _ _ us hl => match us, hl with | [_, _], _ => rfl))
      (by refine' Mi.fnAt_mk KX G ?a ?l ?c ?k ?hb; (case a => k_is); (case l => k_is); (case c => k_is); (case k => k_is); (case hb => exact fun _ _ _ _ _ _ us hl => match us, hl with | [_, _], _ => rfl))
      (by refine' Mi.fnAt_mk KX G ?a ?l ?c ?k ?hb; (case a => k_is); (case l => k_is); (case c => k_is); (case k => k_is); (case hb => exact fun _ _ _ _ _ _ us hl => match us, hl with | [_], _ => rfl))
      (by refine' Mi.fnAt_mk KX G ?a ?l ?c ?k ?hb; (case a => k_is); (case l => k_is); (case c => k_is); (case k => k_is); (case hb => exact fun _ _ _ _ _ _ us hl => match us, hl with | [_], _ => rfl))
      (by refine' Mi.fnAt_mk KX G ?a ?l ?c ?k ?hb; (case a => k_is); (case l => k_is); (case c => k_is); (case k => k_is); (case hb => exact fun _ _ _ _ _ _ us hl => match us, hl with | [_, _, _], _ => rfl))
      (by refine' Mi.fnAt_mk KX G ?a ?l ?c ?k ?hb; (case a => k_is); (case l => k_is); (case c => k_is); (case k => k_is); (case hb => exact fun _ _ _ _ _ _ us hl => match us, hl with | [_], _ => rfl))
      (PySem.W.mg_none_of KX G (by k_is))
      (PySem.W.mg_none_of KX G (by k_is))
      (PySem.W.mg_none_of KX G (by k_is))
      (PySem.W.mg_none_of KX G (by k_is))
      (PySem.W.mg_none_of KX G (by k_is))
      (PySem.W.mg_none_of KX G (by k_is))
      (PySem.W.mg_none_of KX G (by k_is))
      (PySem.W.mg_none_of KX G (by k_is))
      (PySem.W.mg_of KX G (by k_is))
      ⟨_, PySem.W.mg_of KX G (by k_is)⟩
      ⟨_, PySem.W.mg_of KX G (by k_is)⟩

