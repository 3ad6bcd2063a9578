import PyProof.Rows.All
import Wide.All
import OpenK.AllK
import Wide.FinOn
import HandS.ForMost
import HandS.Flow
import HandS.Gcd
import HandS.Wide
import HandS.IsInst
import HandS.FStr
import HandS.TupAny
import HandS.Deep
import HandS.RaiseMore
import HandS.StrMore
import HandS.EndBits
import HandS.DictComp
import HandS.SetBool
import HandS.ReplaceLit
import HandS.ReplaceDef
import HandS.Codes
import PyProof.StrLawsFrom
import PyProof.StrLawsReplace
import KE.IntTextLaws
import PyProof.Rows.StrAscii
import PySem.Challenge.RW_evenflow_k37_plain_there_and_back
set_option Elab.async false
set_option linter.all false
set_option maxRecDepth 100000
/-! Mi0: pure data, how they stand in a frozen heap; owned trees; entries. -/
namespace Mi
open PySem PySem.Spec PyProof.Rows L2

/-- immutable data -/
inductive D where
  | non | bl (b : Bool) | int (i : Int) | str (s : Str)
  | tup (ds : List D) | lst (ds : List D)
  | dK (ks : List Key) (ds : List D) | dT (ks : List (List Key)) (ds : List D)
  | scr (ns : List Int)
  | ob (C : Addr) (fs : List Str) (ds : List D)
  deriving Inhabited

mutual
def Rp (K : PySem.W.Frag) (F : Hp) : V → D → Prop
  | v, .non => v = .non
  | v, .bl b => v = .bl b
  | v, .int i => v = .int i
  | v, .str s => v = .str s
  | v, .tup ds => ∃ a vs, v = .ref a ∧ SqT K F a vs ∧ RpL K F vs ds
  | v, .lst ds => ∃ a vs, v = .ref a ∧ F a = some (.lst vs) ∧ RpL K F vs ds
  | v, .dK ks ds => ∃ a kvs, v = .ref a ∧ Rd F a (.dK kvs) ∧ kvs.map (·.1) = ks ∧ RpL K F (kvs.map (·.2)) ds
  | v, .dT ks ds => ∃ a kvs, v = .ref a ∧ Rd F a (.dT kvs) ∧ kvs.map (·.1) = ks ∧ RpL K F (kvs.map (·.2)) ds
  | v, .scr ns => ∃ a, v = .ref a ∧ SqL K F a (ns.map V.int)
  | v, .ob C fs ds => ∃ a dx vs, v = .ref a ∧ F a = some (.ins C dx (fs.zip vs)) ∧ RpL K F vs ds
def RpL (K : PySem.W.Frag) (F : Hp) : List V → List D → Prop
  | vs, [] => vs = []
  | vs, d :: ds => ∃ v r, vs = v :: r ∧ Rp K F v d ∧ RpL K F r ds
end

section
variable {K : PySem.W.Frag} {F F' H H' : Hp}
theorem Same.rd (e : Same F F') {a : Addr} {u : HO} (h : Rd F a u) : Rd F' a u := by
  rcases h with h | ⟨o, h⟩
  · exact .inl (e _ _ h)
  · exact .inr ⟨o, e _ _ h⟩
theorem Same.sqT (e : Same F F') {a : Addr} {xs : List V} (h : SqT K F a xs) : SqT K F' a xs := by
  rcases h with h | h
  · exact .inl (Same.rd e h)
  · exact .inr h
theorem Same.sqL (e : Same F F') {a : Addr} {xs : List V} (h : SqL K F a xs) : SqL K F' a xs := by
  rcases h with h | h
  · exact .inl (Same.rd e h)
  · exact .inr h
theorem same_upd {p : Addr} {o : HO} (h : H p = none) : Same H (upd H p o) := fun a u e => by
  rw [upd_ne (ne_of_none e h)]
  exact e
mutual
theorem Rp.mono (e : Same F F') : ∀ (d : D) (v : V), Rp K F v d → Rp K F' v d
  | .non, _, h => h
  | .bl _, _, h => h
  | .int _, _, h => h
  | .str _, _, h => h
  | .tup ds, v, h => by
    obtain ⟨a, vs, e1, e2, e3⟩ := h
    exact ⟨a, vs, e1, Same.sqT e e2, RpL.mono e ds vs e3⟩
  | .lst ds, v, h => by
    obtain ⟨a, vs, e1, e2, e3⟩ := h
    exact ⟨a, vs, e1, e _ _ e2, RpL.mono e ds vs e3⟩
  | .dK ks ds, v, h => by
    obtain ⟨a, kvs, e1, e2, e3, e4⟩ := h
    exact ⟨a, kvs, e1, Same.rd e e2, e3, RpL.mono e ds _ e4⟩
  | .dT ks ds, v, h => by
    obtain ⟨a, kvs, e1, e2, e3, e4⟩ := h
    exact ⟨a, kvs, e1, Same.rd e e2, e3, RpL.mono e ds _ e4⟩
  | .scr ns, v, h => by
    obtain ⟨a, e1, e2⟩ := h
    exact ⟨a, e1, Same.sqL e e2⟩
  | .ob C fs ds, v, h => by
    obtain ⟨a, dx, vs, e1, e2, e3⟩ := h
    exact ⟨a, dx, vs, e1, e _ _ e2, RpL.mono e ds vs e3⟩
theorem RpL.mono (e : Same F F') : ∀ (ds : List D) (vs : List V), RpL K F vs ds → RpL K F' vs ds
  | [], _, h => h
  | d :: ds, _, h => by
    obtain ⟨v, r, e1, e2, e3⟩ := h
    exact ⟨v, r, e1, Rp.mono e d v e2, RpL.mono e ds r e3⟩
end
theorem RpL.nil : RpL K F [] [] := rfl
theorem RpL.cons {v : V} {vs : List V} {d : D} {ds : List D} (h : Rp K F v d) (hs : RpL K F vs ds) : RpL K F (v :: vs) (d :: ds) := ⟨v, vs, rfl, h, hs⟩
theorem RpL.inv {v : V} {vs : List V} {d : D} {ds : List D} (h : RpL K F (v :: vs) (d :: ds)) : Rp K F v d ∧ RpL K F vs ds := by
  obtain ⟨w, r, e, h1, h2⟩ := h
  cases e
  exact ⟨h1, h2⟩
theorem RpL.length : ∀ {ds : List D} {vs : List V}, RpL K F vs ds → vs.length = ds.length
  | [], _, h => by
    obtain rfl : _ = [] := h
    rfl
  | d :: ds, _, h => by
    obtain ⟨v, r, rfl, _, h2⟩ := h
    rw [List.length_cons, List.length_cons, RpL.length h2]
theorem RpL.get : ∀ {ds : List D} {vs : List V} {i : Nat} {d : D}, RpL K F vs ds → ds[i]? = some d → ∃ v, vs[i]? = some v ∧ Rp K F v d
  | [], _, i, d, h, e => by simp at e
  | d :: ds, _, 0, d', h, e => by
    obtain ⟨v, r, rfl, h1, _⟩ := h
    simp at e
    subst e
    exact ⟨v, rfl, h1⟩
  | d :: ds, _, i + 1, d', h, e => by
    obtain ⟨v, r, rfl, _, h2⟩ := h
    simp at e
    obtain ⟨w, e1, e2⟩ := RpL.get h2 e
    exact ⟨w, by simpa using e1, e2⟩
theorem RpL.get' {ds : List D} {vs : List V} {i : Nat} {v : V} (h : RpL K F vs ds) (e : vs[i]? = some v) : ∃ d, ds[i]? = some d ∧ Rp K F v d := by
  have hi : i < ds.length := by
    rw [← h.length]
    exact (List.getElem?_eq_some_iff.mp e).1
  obtain ⟨w, e1, e2⟩ := h.get (List.getElem?_eq_getElem hi)
  rw [e] at e1
  cases e1
  exact ⟨_, List.getElem?_eq_getElem hi, e2⟩
theorem RpL.append : ∀ {ds es : List D} {vs ws : List V}, RpL K F vs ds → RpL K F ws es → RpL K F (vs ++ ws) (ds ++ es)
  | [], _, _, _, h, k => by
    obtain rfl : _ = [] := h
    exact k
  | d :: ds, _, _, _, h, k => by
    obtain ⟨v, r, rfl, h1, h2⟩ := h
    exact ⟨v, _, rfl, h1, RpL.append h2 k⟩
theorem RpL.take : ∀ {ds : List D} {vs : List V} (n : Nat), RpL K F vs ds → RpL K F (vs.take n) (ds.take n)
  | ds, vs, 0, _ => by rw [List.take_zero, List.take_zero]; exact RpL.nil
  | [], vs, n + 1, h => by
    obtain rfl : _ = [] := h
    exact RpL.nil
  | d :: ds, _, n + 1, h => by
    obtain ⟨v, r, rfl, h1, h2⟩ := h
    exact RpL.cons h1 (RpL.take n h2)
theorem RpL.drop : ∀ {ds : List D} {vs : List V} (n : Nat), RpL K F vs ds → RpL K F (vs.drop n) (ds.drop n)
  | ds, vs, 0, h => h
  | [], vs, n + 1, h => by
    obtain rfl : _ = [] := h
    exact RpL.nil
  | d :: ds, _, n + 1, h => by
    obtain ⟨v, r, rfl, h1, h2⟩ := h
    exact RpL.drop n h2
end

/-! ### owned trees -/
inductive O where
  | fr (d : D) | lst (os : List O) | dK (ks : List Key) (os : List O) | dT (ks : List (List Key)) (os : List O)
  | ob (C : Addr) (fs : List Str) (os : List O)
  deriving Inhabited
mutual
def O.er : O → D
  | .fr d => d
  | .lst os => .lst (erL os)
  | .dK ks os => .dK ks (erL os)
  | .dT ks os => .dT ks (erL os)
  | .ob C fs os => .ob C fs (erL os)
def erL : List O → List D
  | [] => []
  | o :: os => o.er :: erL os
end
@[simp] theorem er_fr (d : D) : (O.fr d).er = d := by rw [O.er]
@[simp] theorem er_lst (os : List O) : (O.lst os).er = .lst (erL os) := by rw [O.er]
@[simp] theorem er_dK (ks : List Key) (os : List O) : (O.dK ks os).er = .dK ks (erL os) := by rw [O.er]
@[simp] theorem er_dT (ks : List (List Key)) (os : List O) : (O.dT ks os).er = .dT ks (erL os) := by rw [O.er]
@[simp] theorem er_ob (C : Addr) (fs : List Str) (os : List O) : (O.ob C fs os).er = .ob C fs (erL os) := by rw [O.er]
@[simp] theorem erL_nil : erL [] = [] := by rw [erL]
@[simp] theorem erL_cons (o : O) (os : List O) : erL (o :: os) = o.er :: erL os := by rw [erL]
theorem erL_map (os : List O) : erL os = os.map O.er := by
  induction os with
  | nil => simp
  | cons o os ih => simp [ih]
@[simp] theorem erL_fr (ds : List D) : erL (ds.map O.fr) = ds := by
  induction ds with
  | nil => simp
  | cons o os ih => simp [ih]
@[simp] theorem erL_append (a b : List O) : erL (a ++ b) = erL a ++ erL b := by simp [erL_map]
theorem erL_length (a : List O) : (erL a).length = a.length := by simp [erL_map]

mutual
def Ow (K : PySem.W.Frag) (F H : Hp) : V → O → List Addr → Prop
  | v, .fr d, fp => Rp K F v d ∧ fp = []
  | v, .lst os, fp => ∃ a vs f, v = .ref a ∧ H a = some (.lst vs) ∧ OwL K F H vs os f ∧ fp = a :: f
  | v, .dK ks os, fp => ∃ a kvs f, v = .ref a ∧ H a = some (.dK kvs) ∧ kvs.map (·.1) = ks ∧ OwL K F H (kvs.map (·.2)) os f ∧ fp = a :: f
  | v, .dT ks os, fp => ∃ a kvs f, v = .ref a ∧ H a = some (.dT kvs) ∧ kvs.map (·.1) = ks ∧ OwL K F H (kvs.map (·.2)) os f ∧ fp = a :: f
  | v, .ob C fs os, fp => ∃ a dx vs f, v = .ref a ∧ H a = some (.ins C dx (fs.zip vs)) ∧ OwL K F H vs os f ∧ fp = a :: f
def OwL (K : PySem.W.Frag) (F H : Hp) : List V → List O → List Addr → Prop
  | vs, [], fp => vs = [] ∧ fp = []
  | vs, o :: os, fp => ∃ v r f1 f2, vs = v :: r ∧ Ow K F H v o f1 ∧ OwL K F H r os f2 ∧ fp = f1 ++ f2
end

section
variable {K : PySem.W.Frag} {F F' H H' : Hp}
mutual
theorem Ow.mono (e : Same F F') : ∀ (o : O) (v : V) (fp : List Addr), (∀ b ∈ fp, H' b = H b) → Ow K F H v o fp → Ow K F' H' v o fp
  | .fr d, v, fp, k, h => ⟨Rp.mono e d v h.1, h.2⟩
  | .lst os, v, fp, k, h => by
    obtain ⟨a, vs, f, e1, e2, e3, rfl⟩ := h
    exact ⟨a, vs, f, e1, by rw [k a List.mem_cons_self]; exact e2, OwL.mono e os vs f (fun b hb => k b (List.mem_cons_of_mem _ hb)) e3, rfl⟩
  | .dK ks os, v, fp, k, h => by
    obtain ⟨a, vs, f, e1, e2, e4, e3, rfl⟩ := h
    exact ⟨a, vs, f, e1, by rw [k a List.mem_cons_self]; exact e2, e4, OwL.mono e os _ f (fun b hb => k b (List.mem_cons_of_mem _ hb)) e3, rfl⟩
  | .dT ks os, v, fp, k, h => by
    obtain ⟨a, vs, f, e1, e2, e4, e3, rfl⟩ := h
    exact ⟨a, vs, f, e1, by rw [k a List.mem_cons_self]; exact e2, e4, OwL.mono e os _ f (fun b hb => k b (List.mem_cons_of_mem _ hb)) e3, rfl⟩
  | .ob C fs os, v, fp, k, h => by
    obtain ⟨a, dx, vs, f, e1, e2, e3, rfl⟩ := h
    exact ⟨a, dx, vs, f, e1, by rw [k a List.mem_cons_self]; exact e2, OwL.mono e os vs f (fun b hb => k b (List.mem_cons_of_mem _ hb)) e3, rfl⟩
theorem OwL.mono (e : Same F F') : ∀ (os : List O) (vs : List V) (fp : List Addr), (∀ b ∈ fp, H' b = H b) → OwL K F H vs os fp → OwL K F' H' vs os fp
  | [], vs, fp, k, h => h
  | o :: os, vs, fp, k, h => by
    obtain ⟨v, r, f1, f2, e1, e2, e3, rfl⟩ := h
    exact ⟨v, r, f1, f2, e1, Ow.mono e o v f1 (fun b hb => k b (List.mem_append_left _ hb)) e2, OwL.mono e os r f2 (fun b hb => k b (List.mem_append_right _ hb)) e3, rfl⟩
end
mutual
/-- seen as data in any heap that holds the frozen part and the tree's own -/
theorem Ow.rp (e : Same F F') : ∀ (o : O) (v : V) (fp : List Addr), (∀ b ∈ fp, F' b = H b) → Ow K F H v o fp → Rp K F' v o.er
  | .fr d, v, fp, k, h => by
    rw [er_fr]
    exact Rp.mono e d v h.1
  | .lst os, v, fp, k, h => by
    obtain ⟨a, vs, f, e1, e2, e3, rfl⟩ := h
    rw [er_lst]
    exact ⟨a, vs, e1, by rw [k a List.mem_cons_self]; exact e2, OwL.rp e os vs f (fun b hb => k b (List.mem_cons_of_mem _ hb)) e3⟩
  | .dK ks os, v, fp, k, h => by
    obtain ⟨a, vs, f, e1, e2, e4, e3, rfl⟩ := h
    rw [er_dK]
    exact ⟨a, vs, e1, .inl (by rw [k a List.mem_cons_self]; exact e2), e4, OwL.rp e os _ f (fun b hb => k b (List.mem_cons_of_mem _ hb)) e3⟩
  | .dT ks os, v, fp, k, h => by
    obtain ⟨a, vs, f, e1, e2, e4, e3, rfl⟩ := h
    rw [er_dT]
    exact ⟨a, vs, e1, .inl (by rw [k a List.mem_cons_self]; exact e2), e4, OwL.rp e os _ f (fun b hb => k b (List.mem_cons_of_mem _ hb)) e3⟩
  | .ob C fs os, v, fp, k, h => by
    obtain ⟨a, dx, vs, f, e1, e2, e3, rfl⟩ := h
    rw [er_ob]
    exact ⟨a, dx, vs, e1, by rw [k a List.mem_cons_self]; exact e2, OwL.rp e os vs f (fun b hb => k b (List.mem_cons_of_mem _ hb)) e3⟩
theorem OwL.rp (e : Same F F') : ∀ (os : List O) (vs : List V) (fp : List Addr), (∀ b ∈ fp, F' b = H b) → OwL K F H vs os fp → RpL K F' vs (erL os)
  | [], vs, fp, k, h => by
    rw [erL_nil]
    exact h.1
  | o :: os, vs, fp, k, h => by
    obtain ⟨v, r, f1, f2, e1, e2, e3, rfl⟩ := h
    rw [erL_cons]
    exact ⟨v, r, e1, Ow.rp e o v f1 (fun b hb => k b (List.mem_append_left _ hb)) e2, OwL.rp e os r f2 (fun b hb => k b (List.mem_append_right _ hb)) e3⟩
end
theorem OwL.nil : OwL K F H [] [] [] := ⟨rfl, rfl⟩
theorem OwL.cons {v : V} {o : O} {vs : List V} {os : List O} {f1 f2 : List Addr} (h : Ow K F H v o f1) (hs : OwL K F H vs os f2) : OwL K F H (v :: vs) (o :: os) (f1 ++ f2) := ⟨v, vs, f1, f2, rfl, h, hs, rfl⟩
theorem OwL.inv {v : V} {o : O} {vs : List V} {os : List O} {fp : List Addr} (h : OwL K F H (v :: vs) (o :: os) fp) : ∃ f1 f2, Ow K F H v o f1 ∧ OwL K F H vs os f2 ∧ fp = f1 ++ f2 := by
  obtain ⟨w, r, f1, f2, e, h1, h2, h3⟩ := h
  cases e
  exact ⟨f1, f2, h1, h2, h3⟩
theorem OwL.length : ∀ {os : List O} {vs : List V} {fp : List Addr}, OwL K F H vs os fp → vs.length = os.length
  | [], _, _, h => by rw [h.1]; rfl
  | o :: os, _, _, h => by
    obtain ⟨v, r, f1, f2, rfl, _, h2, _⟩ := h
    rw [List.length_cons, List.length_cons, OwL.length h2]
theorem OwL.append : ∀ {os ps : List O} {vs ws : List V} {f1 f2 : List Addr}, OwL K F H vs os f1 → OwL K F H ws ps f2 → OwL K F H (vs ++ ws) (os ++ ps) (f1 ++ f2)
  | [], _, _, _, _, _, h, k => by
    obtain ⟨rfl, rfl⟩ := h
    exact k
  | o :: os, _, _, _, _, _, h, k => by
    obtain ⟨v, r, g1, g2, rfl, h1, h2, rfl⟩ := h
    rw [List.append_assoc]
    exact OwL.cons h1 (OwL.append h2 k)
theorem OwL.frs : ∀ {ds : List D} {vs : List V}, RpL K F vs ds → OwL K F H vs (ds.map O.fr) []
  | [], _, h => by
    obtain rfl : _ = [] := h
    exact OwL.nil
  | d :: ds, _, h => by
    obtain ⟨v, r, rfl, h1, h2⟩ := h
    exact ⟨v, r, [], [], rfl, ⟨h1, rfl⟩, OwL.frs h2, rfl⟩
theorem OwL.ofFrs : ∀ {ds : List D} {vs : List V} {fp : List Addr}, OwL K F H vs (ds.map O.fr) fp → RpL K F vs ds ∧ fp = []
  | [], _, _, h => h
  | d :: ds, _, _, h => by
    obtain ⟨v, r, f1, f2, rfl, h1, h2, rfl⟩ := h
    obtain ⟨k1, k2⟩ := OwL.ofFrs h2
    refine ⟨⟨v, r, rfl, h1.1, k1⟩, ?_⟩
    rw [h1.2, k2]
    rfl

/-! ### entries: what a def holds, in any order -/
abbrev En := List (V × O)
def OwE (K : PySem.W.Frag) (F H : Hp) (E : En) (fp : List Addr) : Prop := OwL K F H (E.map (·.1)) (E.map (·.2)) fp
theorem OwE.nil : OwE K F H [] [] := OwL.nil
theorem OwE.cons {e : V × O} {E : En} {f1 f2 : List Addr} (h : Ow K F H e.1 e.2 f1) (hs : OwE K F H E f2) : OwE K F H (e :: E) (f1 ++ f2) := OwL.cons h hs
theorem OwE.inv {e : V × O} {E : En} {fp : List Addr} (h : OwE K F H (e :: E) fp) : ∃ f1 f2, Ow K F H e.1 e.2 f1 ∧ OwE K F H E f2 ∧ fp = f1 ++ f2 := OwL.inv h
theorem OwE.perm {E E' : En} (p : E.Perm E') : ∀ {fp : List Addr}, OwE K F H E fp → ∃ fp', OwE K F H E' fp' ∧ fp.Perm fp' := by
  induction p with
  | nil => exact fun {fp} h => ⟨fp, h, .refl _⟩
  | cons x p ih =>
    intro fp h
    obtain ⟨f1, f2, h1, h2, rfl⟩ := OwE.inv h
    obtain ⟨f3, h3, q⟩ := ih h2
    exact ⟨f1 ++ f3, OwE.cons h1 h3, q.append_left f1⟩
  | swap x y l =>
    intro fp h
    obtain ⟨f1, f2, h1, h2, rfl⟩ := OwE.inv h
    obtain ⟨f3, f4, h3, h4, rfl⟩ := OwE.inv h2
    refine ⟨f3 ++ (f1 ++ f4), OwE.cons h3 (OwE.cons h1 h4), ?_⟩
    rw [← List.append_assoc, ← List.append_assoc]
    exact List.perm_append_comm.append_right f4
  | trans p q ih1 ih2 =>
    intro fp h
    obtain ⟨f1, h1, q1⟩ := ih1 h
    obtain ⟨f2, h2, q2⟩ := ih2 h1
    exact ⟨f2, h2, q1.trans q2⟩
theorem OwE.append {E E' : En} {f1 f2 : List Addr} (h : OwE K F H E f1) (k : OwE K F H E' f2) : OwE K F H (E ++ E') (f1 ++ f2) := by
  unfold OwE
  rw [List.map_append, List.map_append]
  exact OwL.append h k
theorem OwE.mono {E : En} {fp : List Addr} (e : Same F F') (k : ∀ b ∈ fp, H' b = H b) (h : OwE K F H E fp) : OwE K F' H' E fp := OwL.mono e _ _ _ k h
end

mutual
/-- what a tree owns stands in H -/
theorem Ow.there {K : PySem.W.Frag} {F H : Hp} : ∀ (o : O) (v : V) (fp : List Addr), Ow K F H v o fp → ∀ b ∈ fp, ∃ x, H b = some x
  | .fr d, v, fp, h, b, hb => by
    rw [h.2] at hb
    cases hb
  | .lst os, v, fp, h, b, hb => by
    obtain ⟨a, vs, f, e1, e2, e3, rfl⟩ := h
    rcases List.mem_cons.mp hb with rfl | hb
    · exact ⟨_, e2⟩
    · exact OwL.there os vs f e3 b hb
  | .dK ks os, v, fp, h, b, hb => by
    obtain ⟨a, vs, f, e1, e2, e4, e3, rfl⟩ := h
    rcases List.mem_cons.mp hb with rfl | hb
    · exact ⟨_, e2⟩
    · exact OwL.there os _ f e3 b hb
  | .dT ks os, v, fp, h, b, hb => by
    obtain ⟨a, vs, f, e1, e2, e4, e3, rfl⟩ := h
    rcases List.mem_cons.mp hb with rfl | hb
    · exact ⟨_, e2⟩
    · exact OwL.there os _ f e3 b hb
  | .ob C fs os, v, fp, h, b, hb => by
    obtain ⟨a, dx, vs, f, e1, e2, e3, rfl⟩ := h
    rcases List.mem_cons.mp hb with rfl | hb
    · exact ⟨_, e2⟩
    · exact OwL.there os _ f e3 b hb
theorem OwL.there {K : PySem.W.Frag} {F H : Hp} : ∀ (os : List O) (vs : List V) (fp : List Addr), OwL K F H vs os fp → ∀ b ∈ fp, ∃ x, H b = some x
  | [], vs, fp, h, b, hb => by
    rw [h.2] at hb
    cases hb
  | o :: os, vs, fp, h, b, hb => by
    obtain ⟨v, r, f1, f2, e1, e2, e3, rfl⟩ := h
    rcases List.mem_append.mp hb with hb | hb
    · exact Ow.there o v f1 e2 b hb
    · exact OwL.there os r f2 e3 b hb
end
end Mi

set_option Elab.async false
set_option linter.all false
set_option maxRecDepth 100000
/-! Mi1: environments, the relation, expressions. -/
namespace Mi
open PySem PySem.Spec PyProof.Rows L2

abbrev G := List (Option O)
structure Bs where
  K : PySem.W.Frag
  F0 : Hp
  H0 : Hp
  M : List Addr
  pin : List Nat
  pv : List V

def Ents (B : Bs) (F H : Hp) (E : En) : Prop := ∃ fp, OwE B.K F H E fp ∧ fp.Nodup ∧ ∀ b ∈ fp, F b = none ∧ (B.H0 b = none ∨ b ∈ B.M)
def ents : L2.St → G → En
  | some v :: σ, some o :: g => (v, o) :: ents σ g
  | some _ :: σ, none :: g => ents σ g
  | none :: σ, _ :: g => ents σ g
  | _, _ => []

section
theorem ents_take : ∀ {σ : L2.St} {g : G} {i : Nat} {v : V} {o : O}, σ[i]? = some (some v) → g[i]? = some (some o) → (ents σ g).Perm ((v, o) :: ents σ (g.set i none))
  | [], _, i, v, o, h, _ => by simp at h
  | _ :: _, [], i, v, o, _, h => by simp at h
  | x :: σ, y :: g, 0, v, o, h, k => by
    simp at h k
    subst h k
    show ((v, o) :: ents σ g).Perm ((v, o) :: ents σ g)
    exact .refl _
  | x :: σ, y :: g, i + 1, v, o, h, k => by
    have ih := ents_take (σ := σ) (g := g) (i := i) (by simpa using h) (by simpa using k)
    cases x with
    | none => exact ih
    | some x =>
      cases y with
      | none => exact ih
      | some y => exact (ih.cons (x, y)).trans (.swap _ _ _)
theorem ents_put : ∀ {σ : L2.St} {g : G} {i : Nat} {v : V} {o : O}, i < σ.length → g.length = σ.length → (ents (σ.set i (some v)) (g.set i (some o))).Perm ((v, o) :: ents σ (g.set i none))
  | [], _, i, v, o, h, _ => by simp at h
  | _ :: _, [], i, v, o, _, h => by simp at h
  | x :: σ, y :: g, 0, v, o, h, k => by
    cases x with
    | none => exact .refl _
    | some x => exact .refl _
  | x :: σ, y :: g, i + 1, v, o, h, k => by
    have ih := ents_put (σ := σ) (g := g) (i := i) (v := v) (o := o) (by simpa using h) (by simpa using k)
    cases x with
    | none => exact ih
    | some x =>
      cases y with
      | none => exact ih
      | some y => exact (ih.cons (x, y)).trans (.swap _ _ _)
theorem ents_wipe : ∀ {σ : L2.St} {g : G} {i : Nat}, (ents σ g).Perm (ents σ (g.set i none)) ∨ ∃ v o, σ[i]? = some (some v) ∧ g[i]? = some (some o) ∧ (ents σ g).Perm ((v, o) :: ents σ (g.set i none)) := by
  intro σ g i
  cases h : σ[i]? with
  | none =>
    left
    have h1 : σ.length ≤ i := List.getElem?_eq_none_iff.mp h
    have : ∀ (σ : L2.St) (g : G) (i : Nat), σ.length ≤ i → ents σ g = ents σ (g.set i none) := by
      intro σ
      induction σ with
      | nil => intro g i _; cases g <;> rfl
      | cons x σ ih =>
        intro g i hi
        cases g with
        | nil => rfl
        | cons y g =>
          cases i with
          | zero => simp at hi
          | succ i =>
            have := ih g i (by simpa using hi)
            cases x with
            | none => exact this
            | some x =>
              cases y with
              | none => exact this
              | some y => show (x, y) :: ents σ g = (x, y) :: ents σ (g.set i none); rw [this]
    rw [this σ g i h1]
  | some x =>
    cases hg : g[i]? with
    | none =>
      left
      have h1 : g.length ≤ i := List.getElem?_eq_none_iff.mp hg
      rw [List.set_eq_of_length_le h1]
    | some y =>
      cases x with
      | none =>
        left
        have : ∀ (σ : L2.St) (g : G) (i : Nat), σ[i]? = some none → ents σ g = ents σ (g.set i none) := by
          intro σ
          induction σ with
          | nil => intro g i h; simp at h
          | cons x σ ih =>
            intro g i hi
            cases g with
            | nil => rfl
            | cons y g =>
              cases i with
              | zero =>
                simp at hi
                subst hi
                rfl
              | succ i =>
                have := ih g i (by simpa using hi)
                cases x with
                | none => exact this
                | some x =>
                  cases y with
                  | none => exact this
                  | some y => show (x, y) :: ents σ g = (x, y) :: ents σ (g.set i none); rw [this]
        rw [this σ g i h]
      | some v =>
        cases y with
        | none =>
          left
          have e : g.set i none = g := by
            apply List.ext_getElem?
            intro j
            by_cases hj : i = j
            · subst hj
              rw [List.getElem?_set_self (List.getElem?_eq_some_iff.mp hg).1, hg]
            · rw [List.getElem?_set_ne hj]
          rw [e]
        | some o => exact .inr ⟨v, o, rfl, rfl, ents_take h hg⟩
end

structure Rel (B : Bs) (F H : Hp) (σ : L2.St) (g : G) (τ : En) : Prop where
  len : g.length = σ.length
  cov : ∀ (i : Nat) (o : O), g[i]? = some (some o) → ∃ v : V, σ[i]? = some (some v)
  sub : Same F H
  f0 : Same B.F0 F
  keep : ∀ b o, B.H0 b = some o → b ∉ B.M → H b = some o
  new : ∀ b o, F b = some o → B.F0 b = some o ∨ B.H0 b = none ∨ b ∈ B.M
  pins : ∀ j ∈ B.pin, σ[j]? = (B.pv[j]?).map some
  ent : Ents B F H (ents σ g ++ τ)

structure Grow (F H F' H' : Hp) : Prop where
  f : Same F F'
  h : Same H H'
  s : Same F' H'
  n : ∀ b o, F' b = some o → F b = some o ∨ H b = none
theorem Grow.refl {F H : Hp} (s : Same F H) : Grow F H F H := ⟨Same.refl F, Same.refl H, s, fun _ _ e => .inl e⟩
theorem Grow.trans {F H F1 H1 F2 H2 : Hp} (a : Grow F H F1 H1) (b : Grow F1 H1 F2 H2) : Grow F H F2 H2 :=
  ⟨a.f.trans b.f, a.h.trans b.h, b.s, fun c o e => by
    rcases b.n c o e with e | e
    · exact a.n c o e
    · exact .inr (a.h.free e)⟩
theorem Grow.tup {F H : Hp} (s : Same F H) {p : Addr} (hp : H p = none) (o : HO) : Grow F H (upd F p o) (upd H p o) := by
  have fp : F p = none := s.free hp
  refine ⟨same_upd fp, same_upd hp, fun b u e => ?_, fun b u e => ?_⟩
  · unfold upd at e ⊢
    by_cases hb : b = p
    · rw [if_pos hb] at e ⊢
      exact e
    · rw [if_neg hb] at e ⊢
      exact s b u e
  · unfold upd at e
    by_cases hb : b = p
    · rw [hb]
      exact .inr hp
    · rw [if_neg hb] at e
      exact .inl e
theorem Grow.own {F H : Hp} (s : Same F H) {p : Addr} (hp : H p = none) (o : HO) : Grow F H F (upd H p o) :=
  ⟨Same.refl F, same_upd hp, s.trans (same_upd hp), fun _ _ e => .inl e⟩

section
variable {B : Bs} {F F' H H' : Hp} {σ : L2.St} {g : G} {τ : En} {E E' : En} {v : V} {o : O} {d : D}

theorem Ents.perm (h : Ents B F H E) (p : E.Perm E') : Ents B F H E' := by
  obtain ⟨fp, h1, h2, h3⟩ := h
  obtain ⟨fp', h4, q⟩ := h1.perm p
  exact ⟨fp', h4, q.nodup h2, fun b hb => h3 b (q.mem_iff.mpr hb)⟩
theorem Ents.drop {e : V × O} (h : Ents B F H (e :: E)) : Ents B F H E := by
  obtain ⟨fp, h1, h2, h3⟩ := h
  obtain ⟨f1, f2, _, k2, rfl⟩ := OwE.inv h1
  exact ⟨f2, k2, (List.nodup_append.mp h2).2.1, fun b hb => h3 b (List.mem_append_right _ hb)⟩
theorem Ents.frd (h : Ents B F H ((v, .fr d) :: E)) : Rp B.K F v d := by
  obtain ⟨fp, h1, h2, h3⟩ := h
  obtain ⟨f1, f2, k1, _, rfl⟩ := OwE.inv h1
  exact k1.1
theorem Ents.addFr (h : Ents B F H E) (r : Rp B.K F v d) : Ents B F H ((v, .fr d) :: E) := by
  obtain ⟨fp, h1, h2, h3⟩ := h
  exact ⟨[] ++ fp, OwE.cons (e := (v, .fr d)) ⟨r, rfl⟩ h1, h2, h3⟩
theorem Ents.rpH (h : Ents B F H ((v, o) :: E)) (s : Same F H) : Rp B.K H v o.er := by
  obtain ⟨fp, h1, h2, h3⟩ := h
  obtain ⟨f1, f2, k1, _, rfl⟩ := OwE.inv h1
  exact Ow.rp s o v f1 (fun _ _ => rfl) k1
theorem Ents.grow (h : Ents B F H E) (w : Grow F H F' H') : Ents B F' H' E := by
  obtain ⟨fp, h1, h2, h3⟩ := h
  have there := OwL.there _ _ fp h1
  refine ⟨fp, OwE.mono w.f (fun b hb => ?_) h1, h2, fun b hb => ?_⟩
  · obtain ⟨x, hx⟩ := there b hb
    rw [hx]
    exact w.h b x hx
  · obtain ⟨x, hx⟩ := there b hb
    obtain ⟨k1, k2⟩ := h3 b hb
    refine ⟨?_, k2⟩
    cases e : F' b with
    | none => rfl
    | some y =>
      rcases w.n b y e with e | e
      · rw [k1] at e
        cases e
      · rw [hx] at e
        cases e
/-- the frozen heap with what stands at fp in H -/
def frz (F H : Hp) (fp : List Addr) : Hp := fun b => if b ∈ fp then H b else F b
theorem frz_in {fp : List Addr} {b : Addr} (hb : b ∈ fp) : frz F H fp b = H b := if_pos hb
theorem frz_out {fp : List Addr} {b : Addr} (hb : b ∉ fp) : frz F H fp b = F b := if_neg hb
theorem Ents.freeze (h : Ents B F H ((v, o) :: E)) (s : Same F H) : ∃ F', Same F F' ∧ Same F' H ∧ (∀ b x, F' b = some x → F b = some x ∨ (B.H0 b = none ∨ b ∈ B.M)) ∧ Ents B F' H ((v, .fr o.er) :: E) := by
  obtain ⟨fp, h1, h2, h3⟩ := h
  obtain ⟨f1, f2, k1, k2, rfl⟩ := OwE.inv h1
  have sF : Same F (frz F H f1) := fun b x e => by
    by_cases hb : b ∈ f1
    · rw [(h3 b (List.mem_append_left _ hb)).1] at e
      cases e
    · rw [frz_out hb]
      exact e
  refine ⟨frz F H f1, sF, fun b x e => ?_, fun b x e => ?_, [] ++ f2, ?_, (List.nodup_append.mp h2).2.1, fun b hb => ?_⟩
  · by_cases hb : b ∈ f1
    · rw [frz_in hb] at e
      exact e
    · rw [frz_out hb] at e
      exact s b x e
  · by_cases hb : b ∈ f1
    · exact .inr (h3 b (List.mem_append_left _ hb)).2
    · rw [frz_out hb] at e
      exact .inl e
  · exact OwE.cons (e := (v, .fr o.er)) ⟨Ow.rp sF o v f1 (fun b hb => frz_in hb) k1, rfl⟩ (OwE.mono sF (fun _ _ => rfl) k2)
  · have hb1 : b ∉ f1 := fun z => (List.nodup_append.mp h2).2.2 b z b hb rfl
    rw [frz_out hb1]
    exact h3 b (List.mem_append_right _ hb)

theorem Rel.grow (r : Rel B F H σ g τ) (w : Grow F H F' H') : Rel B F' H' σ g τ where
  len := r.len
  cov := r.cov
  sub := w.s
  f0 := r.f0.trans w.f
  keep := fun b o e m => w.h b o (r.keep b o e m)
  new := fun b o e => by
    rcases w.n b o e with e | e
    · exact r.new b o e
    · cases q : B.H0 b with
      | none => exact .inr (.inl rfl)
      | some x =>
        by_cases m : b ∈ B.M
        · exact .inr (.inr m)
        · rw [r.keep b x q m] at e
          cases e
  pins := r.pins
  ent := r.ent.grow w
theorem Rel.with (r : Rel B F H σ g τ) {τ' : En} (h : Ents B F H (ents σ g ++ τ')) : Rel B F H σ g τ' := { r with ent := h }
theorem Rel.tperm (r : Rel B F H σ g τ) {τ' : En} (p : τ.Perm τ') : Rel B F H σ g τ' := r.with (r.ent.perm (p.append_left _))
theorem Rel.headE (r : Rel B F H σ g ((v, o) :: τ)) : Ents B F H ((v, o) :: (ents σ g ++ τ)) := r.ent.perm List.perm_middle
theorem Rel.ofHead (r : Rel B F H σ g τ) {v : V} {o : O} (h : Ents B F H ((v, o) :: (ents σ g ++ τ))) : Rel B F H σ g ((v, o) :: τ) := r.with (h.perm List.perm_middle.symm)
theorem Rel.drop {e : V × O} (r : Rel B F H σ g (e :: τ)) : Rel B F H σ g τ := r.with (r.ent.perm List.perm_middle).drop
theorem Rel.frd (r : Rel B F H σ g ((v, .fr d) :: τ)) : Rp B.K F v d := r.headE.frd
theorem Rel.addFr (r : Rel B F H σ g τ) (h : Rp B.K F v d) : Rel B F H σ g ((v, .fr d) :: τ) := r.ofHead (r.ent.addFr h)
theorem Rel.freeze (r : Rel B F H σ g ((v, o) :: τ)) : ∃ F', Same F F' ∧ Rel B F' H σ g ((v, .fr o.er) :: τ) := by
  obtain ⟨F', s1, s2, n, e⟩ := r.headE.freeze r.sub
  refine ⟨F', s1, r.len, r.cov, s2, r.f0.trans s1, r.keep, fun b x e => ?_, r.pins, e.perm List.perm_middle.symm⟩
  rcases n b x e with e | e
  · exact r.new b x e
  · exact .inr e
theorem Rel.take {i : Nat} (r : Rel B F H σ g τ) (hs : σ[i]? = some (some v)) (hg : g[i]? = some (some o)) : Rel B F H σ (g.set i none) ((v, o) :: τ) where
  len := by rw [List.length_set]; exact r.len
  cov := fun j o' e => by
    by_cases hj : i = j
    · subst hj
      exact ⟨v, hs⟩
    · rw [List.getElem?_set_ne hj] at e
      exact r.cov j o' e
  sub := r.sub
  f0 := r.f0
  keep := r.keep
  new := r.new
  pins := r.pins
  ent := by
    have p : (ents σ g ++ τ).Perm (ents σ (g.set i none) ++ (v, o) :: τ) := ((ents_take hs hg).append_right τ).trans List.perm_middle.symm
    exact r.ent.perm p
theorem Rel.slot {i : Nat} (r : Rel B F H σ g τ) (hg : g[i]? = some (some o)) : ∃ v, σ[i]? = some (some v) ∧ Rel B F H σ (g.set i none) ((v, o) :: τ) := by
  obtain ⟨v, hv⟩ := r.cov i o hg
  exact ⟨v, hv, r.take hv hg⟩
theorem set_back {i : Nat} {x : Option O} (hg : g[i]? = some x) : (g.set i none).set i x = g := by
  apply List.ext_getElem?
  intro j
  by_cases hj : i = j
  · subst hj
    have hi := (List.getElem?_eq_some_iff.mp hg).1
    rw [List.getElem?_set_self (by rw [List.length_set]; exact hi), hg]
  · rw [List.getElem?_set_ne hj, List.getElem?_set_ne hj]
/-- back into a slot that holds the value still -/
theorem Rel.back {i : Nat} (r : Rel B F H σ g ((v, o) :: τ)) (hs : σ[i]? = some (some v)) (hg : g[i]? = some none) : Rel B F H σ (g.set i (some o)) τ where
  len := by rw [List.length_set]; exact r.len
  cov := fun j o' e => by
    by_cases hj : i = j
    · subst hj
      exact ⟨v, hs⟩
    · rw [List.getElem?_set_ne hj] at e
      exact r.cov j o' e
  sub := r.sub
  f0 := r.f0
  keep := r.keep
  new := r.new
  pins := r.pins
  ent := by
    have hi := (List.getElem?_eq_some_iff.mp hg).1
    have p1 := ents_take (σ := σ) (g := g.set i (some o)) hs (List.getElem?_set_self hi)
    rw [List.set_set] at p1
    have e : g.set i none = g := by
      have := set_back hg
      rw [List.set_set] at this
      exact this
    rw [e] at p1
    exact r.ent.perm (List.perm_middle.trans (p1.append_right τ).symm)
theorem Rel.wipe (r : Rel B F H σ g τ) (i : Nat) : Rel B F H σ (g.set i none) τ where
  len := by rw [List.length_set]; exact r.len
  cov := fun j o' e => by
    by_cases hj : i = j
    · subst hj
      by_cases hi : i < g.length
      · rw [List.getElem?_set_self hi] at e
        cases e
      · rw [List.getElem?_eq_none_iff.mpr (by rw [List.length_set]; omega)] at e
        cases e
    · rw [List.getElem?_set_ne hj] at e
      exact r.cov j o' e
  sub := r.sub
  f0 := r.f0
  keep := r.keep
  new := r.new
  pins := r.pins
  ent := by
    rcases ents_wipe (σ := σ) (g := g) (i := i) with p | ⟨v, o, _, _, p⟩
    · exact r.ent.perm (p.append_right τ)
    · exact (r.ent.perm (p.append_right τ)).drop
/-- a value goes into a slot -/
theorem Rel.put {i : Nat} (r : Rel B F H σ g ((v, o) :: τ)) (hi : i < σ.length) (hp : i ∉ B.pin) : Rel B F H (σ.set i (some v)) (g.set i (some o)) τ := by
  have w := r.wipe i
  refine ⟨by rw [List.length_set, List.length_set]; exact r.len, fun j o' e => ?_, r.sub, r.f0, r.keep, r.new, fun j hj => ?_, ?_⟩
  · by_cases hj : i = j
    · subst hj
      exact ⟨v, List.getElem?_set_self hi⟩
    · rw [List.getElem?_set_ne hj] at e
      rw [List.getElem?_set_ne hj]
      exact r.cov j o' e
  · have : i ≠ j := fun z => hp (z ▸ hj)
    rw [List.getElem?_set_ne this]
    exact r.pins j hj
  · exact w.ent.perm (List.perm_middle.trans ((ents_put hi r.len).append_right τ).symm)
end

/-! ### expressions and operands -/
abbrev XE := G → Option (O × G)
inductive Opd where
  | d (x : D) | br (i : Nat)
abbrev XO := G → Option (Opd × G)
abbrev XA := G → Option (List Opd × G)
abbrev XT := G → Option (Bool × G)
def view (g : G) : Opd → Option D
  | .d x => some x
  | .br i => match g[i]? with
    | some (some o) => some o.er
    | _ => none
def views (g : G) : List Opd → Option (List D)
  | [] => some []
  | a :: r => (view g a).bind fun d => (views g r).map fun ds => d :: ds
def alld : List Opd → Option (List D)
  | [] => some []
  | .d x :: r => (alld r).map fun ds => x :: ds
  | .br _ :: _ => none
def OpdOk (B : Bs) (F : Hp) (σ : L2.St) (v : V) : Opd → Prop
  | .d x => Rp B.K F v x
  | .br i => σ[i]? = some (some v)
def OpdsOk (B : Bs) (F : Hp) (σ : L2.St) : List V → List Opd → Prop
  | vs, [] => vs = []
  | vs, a :: r => ∃ v ws, vs = v :: ws ∧ OpdOk B F σ v a ∧ OpdsOk B F σ ws r

def SE (B : Bs) (t : TE) (m : XE) : Prop := ∀ F H σ g τ o g', Rel B F H σ g τ → m g = some (o, g') → ∀ Q : VK,
  (∀ F' H' v, Same F F' → Rel B F' H' σ g' ((v, o) :: τ) → Q v H') → t σ H Q
def SO (B : Bs) (t : TE) (m : XO) : Prop := ∀ F H σ g τ a g', Rel B F H σ g τ → m g = some (a, g') → ∀ Q : VK,
  (∀ F' H' v, Same F F' → Rel B F' H' σ g' τ → OpdOk B F' σ v a → Q v H') → t σ H Q
def ST (B : Bs) (t : TT) (m : XT) : Prop := ∀ F H σ g τ b g', Rel B F H σ g τ → m g = some (b, g') → ∀ Q : Bool → Hp → Prop,
  (∀ F' H', Same F F' → Rel B F' H' σ g' τ → Q b H') → t σ H Q
def SA (B : Bs) (t : TA) (m : XA) : Prop := ∀ F H σ g τ as g', Rel B F H σ g τ → m g = some (as, g') → ∀ Q : List V → Hp → Prop,
  (∀ F' H' vs, Same F F' → Rel B F' H' σ g' τ → OpdsOk B F' σ vs as → Q vs H') → t σ H Q

section
variable {B : Bs} {F F' H H' : Hp} {σ : L2.St} {g : G} {τ : En}
theorem OpdOk.mono (e : Same F F') {v : V} : ∀ {a : Opd}, OpdOk B F σ v a → OpdOk B F' σ v a
  | .d x, h => Rp.mono e x v h
  | .br i, h => h
theorem OpdsOk.mono (e : Same F F') : ∀ {as : List Opd} {vs : List V}, OpdsOk B F σ vs as → OpdsOk B F' σ vs as
  | [], _, h => h
  | a :: r, _, h => by
    obtain ⟨v, ws, e1, h1, h2⟩ := h
    exact ⟨v, ws, e1, h1.mono e, OpdsOk.mono e h2⟩
theorem Rel.view (r : Rel B F H σ g τ) {v : V} {d : D} : ∀ {a : Opd}, OpdOk B F σ v a → view g a = some d → Rp B.K H v d
  | .d x, h, e => by
    cases e
    exact Rp.mono r.sub _ _ h
  | .br i, h, e => by
    change (match g[i]? with | some (some o) => some o.er | _ => none) = some d at e
    split at e
    · rename_i o eo
      cases e
      exact (r.take h eo).headE.rpH r.sub
    · cases e
theorem Rel.views (r : Rel B F H σ g τ) : ∀ {as : List Opd} {vs : List V} {ds : List D}, OpdsOk B F σ vs as → views g as = some ds → RpL B.K H vs ds
  | [], _, _, h, e => by
    cases e
    exact h
  | a :: as, _, _, h, e => by
    obtain ⟨v, ws, rfl, h1, h2⟩ := h
    unfold Mi.views at e
    cases e1 : Mi.view g a with
    | none => rw [e1] at e; cases e
    | some d =>
      cases e2 : Mi.views g as with
      | none => rw [e1, e2] at e; cases e
      | some ds =>
        rw [e1, e2] at e
        cases e
        exact RpL.cons (r.view h1 e1) (r.views h2 e2)
theorem alld_ok : ∀ {as : List Opd} {vs : List V} {ds : List D}, OpdsOk B F σ vs as → alld as = some ds → RpL B.K F vs ds
  | [], _, _, h, e => by
    cases e
    exact h
  | .d x :: as, _, _, h, e => by
    obtain ⟨v, ws, rfl, h1, h2⟩ := h
    unfold alld at e
    cases e2 : alld as with
    | none => rw [e2] at e; cases e
    | some ds =>
      rw [e2] at e
      cases e
      exact RpL.cons h1 (alld_ok h2 e2)
  | .br i :: as, _, _, h, e => by cases e

/-! variables and constants -/
def oVar (i : Nat) : XO := fun g => match g[i]? with
  | some (some (.fr d)) => some (.d d, g)
  | some (some _) => some (.br i, g)
  | _ => none
theorem so_var {i : Nat} : SO B (tVar i) (oVar i) := by
  intro F H σ g τ a g' r e Q q
  unfold oVar at e
  split at e
  · rename_i d ed
    cases e
    obtain ⟨v, hv, r2⟩ := r.slot ed
    exact ⟨v, hv, q F H v (Same.refl F) r r2.frd⟩
  · rename_i o _ eo
    cases e
    obtain ⟨v, hv⟩ := r.cov i o eo
    exact ⟨v, hv, q F H v (Same.refl F) r hv⟩
  · cases e
def eVar (i : Nat) : XE := fun g => match g[i]? with
  | some (some (.fr d)) => some (.fr d, g)
  | some (some o) => some (.fr o.er, g.set i (some (.fr o.er)))
  | _ => none
theorem Rel.copyFr {i : Nat} {d : D} (r : Rel B F H σ g τ) (e : g[i]? = some (some (.fr d))) {v : V} (hv : σ[i]? = some (some v)) : Rel B F H σ g ((v, .fr d) :: τ) := r.addFr (r.take hv e).frd
theorem se_var {i : Nat} : SE B (tVar i) (eVar i) := by
  intro F H σ g τ a g' r e Q q
  unfold eVar at e
  split at e
  · rename_i d ed
    cases e
    obtain ⟨v, hv⟩ := r.cov i _ ed
    exact ⟨v, hv, q F H v (Same.refl F) (r.copyFr ed hv)⟩
  · rename_i o _ eo
    cases e
    obtain ⟨v, hv, r2⟩ := r.slot eo
    obtain ⟨F', s, r3⟩ := r2.freeze
    have hi := (List.getElem?_eq_some_iff.mp eo).1
    have r4 := (r3.addFr r3.frd).back hv (List.getElem?_set_self hi)
    rw [List.set_set] at r4
    exact ⟨v, hv, q F' H v s r4⟩
  · cases e
/-- the slot's value goes away from the slot -/
def eMove (i : Nat) : XE := fun g => match g[i]? with
  | some (some (.fr d)) => some (.fr d, g)
  | some (some o) => some (o, g.set i none)
  | _ => none
theorem se_move {i : Nat} : SE B (tVar i) (eMove i) := by
  intro F H σ g τ a g' r e Q q
  unfold eMove at e
  split at e
  · rename_i d ed
    cases e
    obtain ⟨v, hv⟩ := r.cov i _ ed
    exact ⟨v, hv, q F H v (Same.refl F) (r.copyFr ed hv)⟩
  · rename_i o _ eo
    cases e
    obtain ⟨v, hv, r2⟩ := r.slot eo
    exact ⟨v, hv, q F H v (Same.refl F) r2⟩
  · cases e
def eC (d : D) : XE := fun g => some (.fr d, g)
theorem se_c {v : V} {d : D} (h : ∀ F, Rp B.K F v d) : SE B (tC v) (eC d) := by
  intro F H σ g τ a g' r e Q q
  cases e
  exact q F H v (Same.refl F) (r.addFr (h F))
theorem se_int {i : Int} : SE B (tC (.int i)) (eC (.int i)) := se_c fun _ => rfl
theorem se_str {s : Str} : SE B (tC (.str s)) (eC (.str s)) := se_c fun _ => rfl
theorem se_bl {b : Bool} : SE B (tC (.bl b)) (eC (.bl b)) := se_c fun _ => rfl
theorem se_non : SE B (tC .non) (eC .non) := se_c fun _ => rfl
def oE (m : XE) : XO := fun g => (m g).map fun p => (.d p.1.er, p.2)
theorem so_e {t : TE} {m : XE} (h : SE B t m) : SO B t (oE m) := by
  intro F H σ g τ a g' r e Q q
  obtain ⟨⟨o, g1⟩, e1, e2⟩ := Option.map_eq_some_iff.mp e
  cases e2
  refine h F H σ g τ o g1 r e1 Q fun F' H' v s r1 => ?_
  obtain ⟨F2, s2, r2⟩ := r1.freeze
  exact q F2 H' v (s.trans s2) r2.drop r2.frd
def aNil : XA := fun g => some ([], g)
def aCons (a : XO) (r : XA) : XA := fun g => (a g).bind fun p => (r p.2).map fun q => (p.1 :: q.1, q.2)
theorem sa_nil : SA B tNil aNil := by
  intro F H σ g τ a g' r e Q q
  cases e
  exact q F H [] (Same.refl F) r rfl
theorem sa_cons {t : TE} {tr : TA} {m : XO} {mr : XA} (h : SO B t m) (hr : SA B tr mr) : SA B (tCons t tr) (aCons m mr) := by
  intro F H σ g τ as g' r e Q q
  obtain ⟨⟨a, g1⟩, e1, e2⟩ := Option.bind_eq_some_iff.mp e
  obtain ⟨⟨bs, g2⟩, e3, e4⟩ := Option.map_eq_some_iff.mp e2
  cases e4
  refine h F H σ g τ a g1 r e1 _ fun F1 H1 v s1 r1 ok1 => ?_
  exact hr F1 H1 σ g1 τ bs g2 r1 e3 _ fun F2 H2 vs s2 r2 ok2 => q F2 H2 (v :: vs) (s1.trans s2) r2 ⟨v, vs, rfl, ok1.mono s2, ok2⟩

/-! operations by values: scalar answers; answers out of frozen data -/
def toV : D → Option V
  | .non => some .non
  | .bl b => some (.bl b)
  | .int i => some (.int i)
  | .str s => some (.str s)
  | _ => none
theorem toV_rp {K : PySem.W.Frag} {d : D} {w : V} (h : toV d = some w) (F : Hp) : Rp K F w d := by
  cases d with
  | non => cases h; exact rfl
  | bl b => cases h; exact rfl
  | int i => cases h; exact rfl
  | str s => cases h; exact rfl
  | tup _ => cases h
  | lst _ => cases h
  | dK _ _ => cases h
  | dT _ _ => cases h
  | scr _ => cases h
  | ob _ _ _ => cases h
def S1 (K : PySem.W.Frag) (r : V → Hp → VK → Prop) (f : D → Option D) : Prop := ∀ H x d z, Rp K H x d → f d = some z → ∃ w, toV z = some w ∧ ∀ Q : VK, Q w H → r x H Q
def S2 (K : PySem.W.Frag) (r : R2) (f : D → D → Option D) : Prop := ∀ H x y d e z, Rp K H x d → Rp K H y e → f d e = some z → ∃ w, toV z = some w ∧ ∀ Q : VK, Q w H → r x y H Q
def SN (K : PySem.W.Frag) (r : List V → Hp → VK → Prop) (f : List D → Option D) : Prop := ∀ H vs ds z, RpL K H vs ds → f ds = some z → ∃ w, toV z = some w ∧ ∀ Q : VK, Q w H → r vs H Q
/-- what is made of frozen data: perhaps new things, owned or frozen -/
def Made (K : PySem.W.Frag) (F H : Hp) (z : O) (Q : VK) : Prop := ∀ F' H' v fp, Grow F H F' H' → Ow K F' H' v z fp → fp.Nodup → (∀ b ∈ fp, H b = none ∧ F' b = none) → Q v H'
def A1 (K : PySem.W.Frag) (r : V → Hp → VK → Prop) (f : D → Option O) : Prop := ∀ F H x d z, Same F H → Rp K F x d → f d = some z → ∀ Q : VK, Made K F H z Q → r x H Q
def A2 (K : PySem.W.Frag) (r : R2) (f : D → D → Option O) : Prop := ∀ F H x y d e z, Same F H → Rp K F x d → Rp K F y e → f d e = some z → ∀ Q : VK, Made K F H z Q → r x y H Q
def AN (K : PySem.W.Frag) (r : List V → Hp → VK → Prop) (f : List D → Option O) : Prop := ∀ F H vs ds z, Same F H → RpL K F vs ds → f ds = some z → ∀ Q : VK, Made K F H z Q → r vs H Q

theorem Rel.made (r : Rel B F H σ g τ) {v : V} {z : O} {fp : List Addr} (w : Grow F H F' H') (h : Ow B.K F' H' v z fp) (nd : fp.Nodup) (nw : ∀ b ∈ fp, H b = none ∧ F' b = none) : Rel B F' H' σ g ((v, z) :: τ) := by
  have r' := r.grow w
  refine r'.ofHead ?_
  obtain ⟨f2, h1, h2, h3⟩ := r'.ent
  obtain ⟨f3, k1, k2, k3⟩ := r.ent
  have there := OwL.there _ _ f3 k1
  refine ⟨fp ++ f3, OwE.cons (e := (v, z)) h (OwE.mono w.f (fun b hb => ?_) k1), List.nodup_append.mpr ⟨nd, k2, fun a ha b hb e => ?_⟩, fun b hb => ?_⟩
  · obtain ⟨x, hx⟩ := there b hb
    rw [hx]
    exact w.h b x hx
  · subst e
    obtain ⟨x, hx⟩ := there a hb
    rw [(nw a ha).1] at hx
    cases hx
  · rcases List.mem_append.mp hb with hb | hb
    · refine ⟨(nw b hb).2, ?_⟩
      cases q : B.H0 b with
      | none => exact .inl rfl
      | some x =>
        by_cases m : b ∈ B.M
        · exact .inr m
        · have := r.keep b x q m
          rw [(nw b hb).1] at this
          cases this
    · obtain ⟨x, hx⟩ := there b hb
      refine ⟨?_, (k3 b hb).2⟩
      cases e : F' b with
      | none => rfl
      | some y =>
        rcases w.n b y e with e | e
        · rw [(k3 b hb).1] at e
          cases e
        · rw [hx] at e
          cases e

def xS1 (f : D → Option D) (a : XO) : XE := fun g => (a g).bind fun p => (view p.2 p.1).bind fun d => (f d).map fun z => (.fr z, p.2)
def xS2 (f : D → D → Option D) (a b : XO) : XE := fun g => (a g).bind fun p => (b p.2).bind fun q => (view q.2 p.1).bind fun d => (view q.2 q.1).bind fun e => (f d e).map fun z => (.fr z, q.2)
def xSN (f : List D → Option D) (as : XA) : XE := fun g => (as g).bind fun p => (views p.2 p.1).bind fun ds => (f ds).map fun z => (.fr z, p.2)
def opdD : Opd → Option D
  | .d x => some x
  | .br _ => none
def xA1 (f : D → Option O) (a : XO) : XE := fun g => (a g).bind fun p => (opdD p.1).bind fun d => (f d).map fun z => (z, p.2)
def xA2 (f : D → D → Option O) (a b : XO) : XE := fun g => (a g).bind fun p => (b p.2).bind fun q => (opdD p.1).bind fun d => (opdD q.1).bind fun e => (f d e).map fun z => (z, q.2)
def xAN (f : List D → Option O) (as : XA) : XE := fun g => (as g).bind fun p => (alld p.1).bind fun ds => (f ds).map fun z => (z, p.2)
theorem opdD_ok {v : V} {a : Opd} {d : D} (h : OpdOk B F σ v a) (e : opdD a = some d) : Rp B.K F v d := by
  cases a with
  | d x => cases e; exact h
  | br i => cases e

theorem se_s1 {r : V → Hp → VK → Prop} {f : D → Option D} {ta : TE} {ma : XO} (hr : S1 B.K r f) (ha : SO B ta ma) : SE B (tUn r ta) (xS1 f ma) := by
  intro F H σ g τ o g' rl e Q q
  obtain ⟨⟨a, g1⟩, e1, e2⟩ := Option.bind_eq_some_iff.mp e
  obtain ⟨d, e3, e4⟩ := Option.bind_eq_some_iff.mp e2
  obtain ⟨z, e5, e6⟩ := Option.map_eq_some_iff.mp e4
  cases e6
  refine ha F H σ g τ a g1 rl e1 _ fun F1 H1 v s1 r1 ok1 => ?_
  obtain ⟨w, hw, k⟩ := hr H1 v d z (r1.view ok1 e3) e5
  exact k Q (q F1 H1 w s1 (r1.addFr (toV_rp hw F1)))
theorem se_s2 {r : R2} {f : D → D → Option D} {ta tb : TE} {ma mb : XO} (hr : S2 B.K r f) (ha : SO B ta ma) (hb : SO B tb mb) : SE B (tOp r ta tb) (xS2 f ma mb) := by
  intro F H σ g τ o g' rl e Q q
  obtain ⟨⟨a, g1⟩, e1, e2⟩ := Option.bind_eq_some_iff.mp e
  obtain ⟨⟨b, g2⟩, e3, e4⟩ := Option.bind_eq_some_iff.mp e2
  obtain ⟨d, e5, e6⟩ := Option.bind_eq_some_iff.mp e4
  obtain ⟨d2, e7, e8⟩ := Option.bind_eq_some_iff.mp e6
  obtain ⟨z, e9, e10⟩ := Option.map_eq_some_iff.mp e8
  cases e10
  refine ha F H σ g τ a g1 rl e1 _ fun F1 H1 v s1 r1 ok1 => ?_
  refine hb F1 H1 σ g1 τ b g2 r1 e3 _ fun F2 H2 u s2 r2 ok2 => ?_
  obtain ⟨w, hw, k⟩ := hr H2 v u d d2 z (r2.view (ok1.mono s2) e5) (r2.view ok2 e7) e9
  exact k Q (q F2 H2 w (s1.trans s2) (r2.addFr (toV_rp hw F2)))
theorem se_sn {r : List V → Hp → VK → Prop} {f : List D → Option D} {ta : TA} {ma : XA} (hr : SN B.K r f) (ha : SA B ta ma) : SE B (tCB r ta) (xSN f ma) := by
  intro F H σ g τ o g' rl e Q q
  obtain ⟨⟨a, g1⟩, e1, e2⟩ := Option.bind_eq_some_iff.mp e
  obtain ⟨d, e3, e4⟩ := Option.bind_eq_some_iff.mp e2
  obtain ⟨z, e5, e6⟩ := Option.map_eq_some_iff.mp e4
  cases e6
  refine ha F H σ g τ a g1 rl e1 _ fun F1 H1 v s1 r1 ok1 => ?_
  obtain ⟨w, hw, k⟩ := hr H1 v d z (r1.views ok1 e3) e5
  exact k Q (q F1 H1 w s1 (r1.addFr (toV_rp hw F1)))
theorem se_a1 {r : V → Hp → VK → Prop} {f : D → Option O} {ta : TE} {ma : XO} (hr : A1 B.K r f) (ha : SO B ta ma) : SE B (tUn r ta) (xA1 f ma) := by
  intro F H σ g τ o g' rl e Q q
  obtain ⟨⟨a, g1⟩, e1, e2⟩ := Option.bind_eq_some_iff.mp e
  obtain ⟨d, e3, e4⟩ := Option.bind_eq_some_iff.mp e2
  obtain ⟨z, e5, e6⟩ := Option.map_eq_some_iff.mp e4
  cases e6
  refine ha F H σ g τ a g1 rl e1 _ fun F1 H1 v s1 r1 ok1 => ?_
  exact hr F1 H1 v d o r1.sub (opdD_ok ok1 e3) e5 Q fun F2 H2 w fp gr ow nd nw => q F2 H2 w (s1.trans gr.f) (r1.made gr ow nd nw)
theorem se_a2 {r : R2} {f : D → D → Option O} {ta tb : TE} {ma mb : XO} (hr : A2 B.K r f) (ha : SO B ta ma) (hb : SO B tb mb) : SE B (tOp r ta tb) (xA2 f ma mb) := by
  intro F H σ g τ o g' rl e Q q
  obtain ⟨⟨a, g1⟩, e1, e2⟩ := Option.bind_eq_some_iff.mp e
  obtain ⟨⟨b, g2⟩, e3, e4⟩ := Option.bind_eq_some_iff.mp e2
  obtain ⟨d, e5, e6⟩ := Option.bind_eq_some_iff.mp e4
  obtain ⟨d2, e7, e8⟩ := Option.bind_eq_some_iff.mp e6
  obtain ⟨z, e9, e10⟩ := Option.map_eq_some_iff.mp e8
  cases e10
  refine ha F H σ g τ a g1 rl e1 _ fun F1 H1 v s1 r1 ok1 => ?_
  refine hb F1 H1 σ g1 τ b g2 r1 e3 _ fun F2 H2 u s2 r2 ok2 => ?_
  exact hr F2 H2 v u d d2 o r2.sub (Rp.mono s2 _ _ (opdD_ok ok1 e5)) (opdD_ok ok2 e7) e9 Q fun F3 H3 w fp gr ow nd nw => q F3 H3 w ((s1.trans s2).trans gr.f) (r2.made gr ow nd nw)
theorem se_an {r : List V → Hp → VK → Prop} {f : List D → Option O} {ta : TA} {ma : XA} (hr : AN B.K r f) (ha : SA B ta ma) : SE B (tCB r ta) (xAN f ma) := by
  intro F H σ g τ o g' rl e Q q
  obtain ⟨⟨a, g1⟩, e1, e2⟩ := Option.bind_eq_some_iff.mp e
  obtain ⟨d, e3, e4⟩ := Option.bind_eq_some_iff.mp e2
  obtain ⟨z, e5, e6⟩ := Option.map_eq_some_iff.mp e4
  cases e6
  refine ha F H σ g τ a g1 rl e1 _ fun F1 H1 v s1 r1 ok1 => ?_
  exact hr F1 H1 v d o r1.sub (alld_ok ok1 e3) e5 Q fun F2 H2 w fp gr ow nd nw => q F2 H2 w (s1.trans gr.f) (r1.made gr ow nd nw)
end
end Mi

set_option Elab.async false
set_option linter.all false
set_option maxRecDepth 100000
/-! Mi2: tests, displays, statements, loops, calls. -/
namespace Mi
open PySem PySem.Spec PyProof.Rows L2

section
variable {B : Bs} {F F' H H' : Hp} {σ : L2.St} {g : G} {τ : En}

/-! ### tests -/
/-- a value that is a bool -/
def xB (m : XO) : XT := fun g => (m g).bind fun p => match view p.2 p.1 with
  | some (.bl b) => some (b, p.2)
  | _ => none
theorem st_test {t : TE} {m : XO} (h : SO B t m) : ST B (tTest t) (xB m) := by
  intro F H σ g τ b g' r e Q q
  obtain ⟨⟨a, g1⟩, e1, e2⟩ := Option.bind_eq_some_iff.mp e
  refine h F H σ g τ a g1 r e1 _ fun F1 H1 v s1 r1 ok1 => ?_
  dsimp only at e2
  split at e2
  · rename_i c ec
    cases e2
    have rp : v = .bl b := r1.view ok1 ec
    exact ⟨b, rp, q F1 H1 s1 r1⟩
  · cases e2
theorem st_B {t : TE} {m : XO} (h : SO B t m) : ST B (tB t) (xB m) := st_test h
def dTru : D → Option Bool
  | .non => some false
  | .bl b => some b
  | .int i => some (i != 0)
  | .str s => if s.length ≤ sizeLine then some ((s.length : Int) != 0) else none
  | .tup ds => some (!ds.isEmpty)
  | .lst ds => some (!ds.isEmpty)
  | .scr ns => some (!ns.isEmpty)
  | _ => none
theorem RpL.isEmpty {K : PySem.W.Frag} {H : Hp} {vs : List V} {ds : List D} (h : RpL K H vs ds) : vs.isEmpty = ds.isEmpty := by
  have := h.length
  cases vs with
  | nil =>
    cases ds with
    | nil => rfl
    | cons d ds => simp at this
  | cons v vs =>
    cases ds with
    | nil => simp at this
    | cons d ds => rfl
theorem tru_rp {K : PySem.W.Frag} {v : V} {d : D} {k : Bool} (h : Rp K H v d) (e : dTru d = some k) : TruV K v H k := by
  cases d with
  | non =>
    obtain rfl : v = .non := h
    cases e
    exact rfl
  | bl b =>
    obtain rfl : v = .bl b := h
    cases e
    exact rfl
  | int i =>
    obtain rfl : v = .int i := h
    cases e
    exact rfl
  | str s =>
    obtain rfl : v = .str s := h
    change (if s.length ≤ sizeLine then some ((s.length : Int) != 0) else none) = some k at e
    split at e
    · rename_i hs
      cases e
      exact ⟨hs, rfl⟩
    · cases e
  | tup ds =>
    obtain ⟨a, vs, rfl, e2, e3⟩ := h
    cases e
    exact .inr (.inl ⟨vs, e2, by rw [e3.isEmpty]⟩)
  | lst ds =>
    obtain ⟨a, vs, rfl, e2, e3⟩ := h
    cases e
    exact .inl ⟨vs, SqL.of e2, by rw [e3.isEmpty]⟩
  | dK _ _ => cases e
  | dT _ _ => cases e
  | ob _ _ _ => cases e
  | scr ns =>
    obtain ⟨a, rfl, e2⟩ := h
    cases e
    refine .inl ⟨_, e2, ?_⟩
    cases ns <;> rfl
def xTru (m : XO) : XT := fun g => (m g).bind fun p => (view p.2 p.1).bind fun d => (dTru d).map fun b => (b, p.2)
theorem st_tru {t : TE} {m : XO} (h : SO B t m) : ST B (fun σ H Q => t σ H fun x H' => ∃ k, TruV B.K x H' k ∧ Q k H') (xTru m) := by
  intro F H σ g τ b g' r e Q q
  obtain ⟨⟨a, g1⟩, e1, e2⟩ := Option.bind_eq_some_iff.mp e
  obtain ⟨d, e3, e4⟩ := Option.bind_eq_some_iff.mp e2
  obtain ⟨c, e5, e6⟩ := Option.map_eq_some_iff.mp e4
  cases e6
  refine h F H σ g τ a g1 r e1 _ fun F1 H1 v s1 r1 ok1 => ?_
  exact ⟨b, tru_rp (r1.view ok1 e3) e5, q F1 H1 s1 r1⟩
def xAnd (a b : XT) : XT := fun g => (a g).bind fun p => if p.1 = true then b p.2 else some (false, p.2)
def xOr (a b : XT) : XT := fun g => (a g).bind fun p => if p.1 = true then some (true, p.2) else b p.2
def xNot (a : XT) : XT := fun g => (a g).map fun p => (!p.1, p.2)
theorem st_and {t u : TT} {a b : XT} (ha : ST B t a) (hb : ST B u b) : ST B (tAnd t u) (xAnd a b) := by
  intro F H σ g τ c g' r e Q q
  obtain ⟨⟨k, g1⟩, e1, e2⟩ := Option.bind_eq_some_iff.mp e
  refine ha F H σ g τ k g1 r e1 _ fun F1 H1 s1 r1 => ?_
  cases k with
  | true => exact hb F1 H1 σ g1 τ c g' r1 e2 Q fun F2 H2 s2 r2 => q F2 H2 (s1.trans s2) r2
  | false =>
    cases e2
    exact q F1 H1 s1 r1
theorem st_or {t u : TT} {a b : XT} (ha : ST B t a) (hb : ST B u b) : ST B (tOr t u) (xOr a b) := by
  intro F H σ g τ c g' r e Q q
  obtain ⟨⟨k, g1⟩, e1, e2⟩ := Option.bind_eq_some_iff.mp e
  refine ha F H σ g τ k g1 r e1 _ fun F1 H1 s1 r1 => ?_
  cases k with
  | false => exact hb F1 H1 σ g1 τ c g' r1 e2 Q fun F2 H2 s2 r2 => q F2 H2 (s1.trans s2) r2
  | true =>
    cases e2
    exact q F1 H1 s1 r1
theorem st_not {t : TT} {a : XT} (ha : ST B t a) : ST B (tNot t) (xNot a) := by
  intro F H σ g τ c g' r e Q q
  obtain ⟨⟨k, g1⟩, e1, e2⟩ := Option.map_eq_some_iff.mp e
  cases e2
  exact ha F H σ g τ k _ r e1 _ fun F1 H1 s1 r1 => q F1 H1 s1 r1
def xYes : XT := fun g => some (true, g)

/-! ### values by truth, conditional expressions -/
def xAndV (a : XO) (b : XE) : XE := fun g => (a g).bind fun p => (opdD p.1).bind fun d => (dTru d).bind fun k => if k = true then b p.2 else some (.fr d, p.2)
def xOrV (a : XO) (b : XE) : XE := fun g => (a g).bind fun p => (opdD p.1).bind fun d => (dTru d).bind fun k => if k = true then some (.fr d, p.2) else b p.2
def xNotV (a : XO) : XE := fun g => (a g).bind fun p => (view p.2 p.1).bind fun d => (dTru d).map fun k => (.fr (.bl (!k)), p.2)
theorem se_andV {ta tb : TE} {a : XO} {b : XE} (ha : SO B ta a) (hb : SE B tb b) : SE B (tAndT B.K ta tb) (xAndV a b) := by
  intro F H σ g τ o g' r e Q q
  obtain ⟨⟨x, g1⟩, e1, e2⟩ := Option.bind_eq_some_iff.mp e
  obtain ⟨d, e3, e4⟩ := Option.bind_eq_some_iff.mp e2
  obtain ⟨k, e5, e6⟩ := Option.bind_eq_some_iff.mp e4
  refine ha F H σ g τ x g1 r e1 _ fun F1 H1 v s1 r1 ok1 => ?_
  have rp := opdD_ok ok1 e3
  refine ⟨k, tru_rp (Rp.mono r1.sub _ _ rp) e5, ?_⟩
  cases k with
  | true => exact hb F1 H1 σ g1 τ o g' r1 e6 Q fun F2 H2 w s2 r2 => q F2 H2 w (s1.trans s2) r2
  | false =>
    cases e6
    exact q F1 H1 v s1 (r1.addFr rp)
theorem se_orV {ta tb : TE} {a : XO} {b : XE} (ha : SO B ta a) (hb : SE B tb b) : SE B (tOrT B.K ta tb) (xOrV a b) := by
  intro F H σ g τ o g' r e Q q
  obtain ⟨⟨x, g1⟩, e1, e2⟩ := Option.bind_eq_some_iff.mp e
  obtain ⟨d, e3, e4⟩ := Option.bind_eq_some_iff.mp e2
  obtain ⟨k, e5, e6⟩ := Option.bind_eq_some_iff.mp e4
  refine ha F H σ g τ x g1 r e1 _ fun F1 H1 v s1 r1 ok1 => ?_
  have rp := opdD_ok ok1 e3
  refine ⟨k, tru_rp (Rp.mono r1.sub _ _ rp) e5, ?_⟩
  cases k with
  | false => exact hb F1 H1 σ g1 τ o g' r1 e6 Q fun F2 H2 w s2 r2 => q F2 H2 w (s1.trans s2) r2
  | true =>
    cases e6
    exact q F1 H1 v s1 (r1.addFr rp)
theorem se_notV {ta : TE} {a : XO} (ha : SO B ta a) : SE B (tNotT B.K ta) (xNotV a) := by
  intro F H σ g τ o g' r e Q q
  obtain ⟨⟨x, g1⟩, e1, e2⟩ := Option.bind_eq_some_iff.mp e
  obtain ⟨d, e3, e4⟩ := Option.bind_eq_some_iff.mp e2
  obtain ⟨k, e5, e6⟩ := Option.map_eq_some_iff.mp e4
  cases e6
  refine ha F H σ g τ x g1 r e1 _ fun F1 H1 v s1 r1 ok1 => ?_
  exact ⟨k, tru_rp (r1.view ok1 e3) e5, q F1 H1 _ s1 (r1.addFr rfl)⟩
def xIf (c : XT) (a b : XE) : XE := fun g => (c g).bind fun p => if p.1 = true then a p.2 else b p.2
theorem se_if {t : TT} {ta tb : TE} {c : XT} {a b : XE} (hc : ST B t c) (ha : SE B ta a) (hb : SE B tb b) : SE B (tIf t ta tb) (xIf c a b) := by
  intro F H σ g τ o g' r e Q q
  obtain ⟨⟨k, g1⟩, e1, e2⟩ := Option.bind_eq_some_iff.mp e
  refine hc F H σ g τ k g1 r e1 _ fun F1 H1 s1 r1 => ?_
  cases k with
  | true => exact ha F1 H1 σ g1 τ o g' r1 e2 Q fun F2 H2 w s2 r2 => q F2 H2 w (s1.trans s2) r2
  | false => exact hb F1 H1 σ g1 τ o g' r1 e2 Q fun F2 H2 w s2 r2 => q F2 H2 w (s1.trans s2) r2

/-! ### displays -/
def xTup (as : XA) : XE := fun g => (as g).bind fun p => (alld p.1).bind fun ds => if ds.length ≤ sizeLine then some (.fr (.tup ds), p.2) else none
theorem made_tup {K : PySem.W.Frag} {F H : Hp} (s : Same F H) {p : Addr} (hp : H p = none) {vs : List V} {ds : List D} (h : RpL K F vs ds) {Q : VK} (q : Made K F H (.fr (.tup ds)) Q) : Q (.ref p) (upd H p (.tup vs)) := by
  have gr := Grow.tup s hp (.tup vs)
  exact q (upd F p (.tup vs)) _ (.ref p) [] gr ⟨⟨p, vs, rfl, SqT.of upd_same, RpL.mono gr.f _ _ h⟩, rfl⟩ List.nodup_nil (fun _ z => nomatch z)
theorem made_lst {K : PySem.W.Frag} {F H : Hp} (s : Same F H) {p : Addr} (hp : H p = none) {vs : List V} {ds : List D} (h : RpL K F vs ds) {Q : VK} (q : Made K F H (.lst (ds.map O.fr)) Q) : Q (.ref p) (upd H p (.lst vs)) := by
  have gr := Grow.own s hp (.lst vs)
  refine q F _ (.ref p) [p] gr ⟨p, vs, [], rfl, upd_same, OwL.frs h, rfl⟩ (List.nodup_cons.mpr ⟨List.not_mem_nil, List.nodup_nil⟩) fun b hb => ?_
  rcases List.mem_singleton.mp hb with rfl
  exact ⟨hp, s.free hp⟩
theorem made_fr {K : PySem.W.Frag} {F H : Hp} (s : Same F H) {v : V} {d : D} (h : Rp K F v d) {Q : VK} (q : Made K F H (.fr d) Q) : Q v H :=
  q F H v [] (Grow.refl s) ⟨h, rfl⟩ List.nodup_nil (fun _ z => nomatch z)
theorem se_tup {ta : TA} {ma : XA} (ha : SA B ta ma) : SE B (tTup ta) (xTup ma) := by
  intro F H σ g τ o g' r e Q q
  obtain ⟨⟨a, g1⟩, e1, e2⟩ := Option.bind_eq_some_iff.mp e
  obtain ⟨ds, e3, e4⟩ := Option.bind_eq_some_iff.mp e2
  split at e4
  · rename_i hl
    cases e4
    refine ha F H σ g τ a g1 r e1 _ fun F1 H1 vs s1 r1 ok1 => ?_
    have rp := alld_ok ok1 e3
    refine ⟨by rw [rp.length]; exact hl, fun p hp => ?_⟩
    exact made_tup (K := B.K) r1.sub hp rp fun F2 H2 w fp gr ow nd nw => q F2 H2 w (s1.trans gr.f) (r1.made gr ow nd nw)
  · cases e4
def xLst (as : XA) : XE := fun g => (as g).bind fun p => (alld p.1).bind fun ds => if ds.length ≤ sizeLine then some (.lst (ds.map O.fr), p.2) else none
theorem se_lst {ta : TA} {ma : XA} (ha : SA B ta ma) : SE B (tLst ta) (xLst ma) := by
  intro F H σ g τ o g' r e Q q
  obtain ⟨⟨a, g1⟩, e1, e2⟩ := Option.bind_eq_some_iff.mp e
  obtain ⟨ds, e3, e4⟩ := Option.bind_eq_some_iff.mp e2
  split at e4
  · rename_i hl
    cases e4
    refine ha F H σ g τ a g1 r e1 _ fun F1 H1 vs s1 r1 ok1 => ?_
    have rp := alld_ok ok1 e3
    refine ⟨by rw [rp.length]; exact hl, fun p hp => ?_⟩
    exact made_lst (K := B.K) r1.sub hp rp fun F2 H2 w fp gr ow nd nw => q F2 H2 w (s1.trans gr.f) (r1.made gr ow nd nw)
  · cases e4
def xDct : XE := fun g => some (.dK [] [], g)
theorem se_dct : SE B tDNewK xDct := by
  intro F H σ g τ o g' r e Q q
  cases e
  intro p hp
  have gr := Grow.own r.sub hp (.dK [])
  refine q F _ (.ref p) (Same.refl F) (r.made (fp := [p]) gr ⟨p, [], [], rfl, upd_same, rfl, OwL.nil, rfl⟩ (List.nodup_cons.mpr ⟨List.not_mem_nil, List.nodup_nil⟩) fun b hb => ?_)
  rcases List.mem_singleton.mp hb with rfl
  exact ⟨hp, r.sub.free hp⟩
def xDctT : XE := fun g => some (.dT [] [], g)
theorem se_dctT : SE B tDNewT xDctT := by
  intro F H σ g τ o g' r e Q q
  cases e
  intro p hp
  have gr := Grow.own r.sub hp (.dT [])
  refine q F _ (.ref p) (Same.refl F) (r.made (fp := [p]) gr ⟨p, [], [], rfl, upd_same, rfl, OwL.nil, rfl⟩ (List.nodup_cons.mpr ⟨List.not_mem_nil, List.nodup_nil⟩) fun b hb => ?_)
  rcases List.mem_singleton.mp hb with rfl
  exact ⟨hp, r.sub.free hp⟩

/-! ### subscripts -/
def IxOk (K : PySem.W.Frag) (r : R2) (f : D → D → Option D) : Prop := ∀ F H x y d e z, Same F H → Rp K F x d → Rp K H y e → f d e = some z → ∃ w, Rp K F w z ∧ ∀ Q : VK, Q w H → r x y H Q
def IxOw (K : PySem.W.Frag) (r : R2) (f : O → D → Option D) : Prop := ∀ F H x y o e z fp, Same F H → Ow K F H x o fp → Rp K H y e → f o e = some z → ∃ w, Rp K F w z ∧ ∀ Q : VK, Q w H → r x y H Q
def xIx (f : D → D → Option D) (f' : O → D → Option D) (a b : XO) : XE := fun g => (a g).bind fun p => (b p.2).bind fun q => (view q.2 q.1).bind fun e => match p.1 with
  | .d d => (f d e).map fun z => (.fr z, q.2)
  | .br i => match q.2[i]? with
    | some (some o) => (f' o e).map fun z => (.fr z, q.2)
    | _ => none
theorem se_ix {r : R2} {f : D → D → Option D} {f' : O → D → Option D} {ta tb : TE} {ma mb : XO} (h1 : IxOk B.K r f) (h2 : IxOw B.K r f') (ha : SO B ta ma) (hb : SO B tb mb) : SE B (tOp r ta tb) (xIx f f' ma mb) := by
  intro F H σ g τ o g' rl e Q q
  obtain ⟨⟨a, g1⟩, e1, e2⟩ := Option.bind_eq_some_iff.mp e
  obtain ⟨⟨b, g2⟩, e3, e4⟩ := Option.bind_eq_some_iff.mp e2
  obtain ⟨d2, e5, e6⟩ := Option.bind_eq_some_iff.mp e4
  refine ha F H σ g τ a g1 rl e1 _ fun F1 H1 v s1 r1 ok1 => ?_
  refine hb F1 H1 σ g1 τ b g2 r1 e3 _ fun F2 H2 u s2 r2 ok2 => ?_
  have ru := r2.view ok2 e5
  have ok1' := ok1.mono s2
  dsimp only at e6
  cases a with
  | d x =>
    obtain ⟨z, e7, e8⟩ := Option.map_eq_some_iff.mp e6
    cases e8
    obtain ⟨w, hw, k⟩ := h1 F2 H2 v u x d2 z r2.sub ok1' ru e7
    exact k Q (q F2 H2 w (s1.trans s2) (r2.addFr hw))
  | br i =>
    dsimp only at e6
    split at e6
    · rename_i x ex
      obtain ⟨z, e7, e8⟩ := Option.map_eq_some_iff.mp e6
      cases e8
      have hE := (r2.take ok1' ex).headE
      obtain ⟨fp, k1, k2, k3⟩ := hE
      obtain ⟨f1, f2, m1, _, _⟩ := OwE.inv k1
      obtain ⟨w, hw, k⟩ := h2 F2 H2 v u x d2 z f1 r2.sub m1 ru e7
      exact k Q (q F2 H2 w (s1.trans s2) (r2.addFr hw))
    · cases e6
end

/-! ### statements -/
inductive Out where
  | nx (g : G) | rt (o : O) (g : G) | bk (g : G) | ct (g : G)
abbrev XS := G → Option Out
def Post (B : Bs) (F : Hp) (τ : En) (D : Ends) : Out → Prop
  | .nx g => ∀ F' H' σ', Same F F' → Rel B F' H' σ' g τ → D.nx σ' H'
  | .rt o g => ∀ F' H' σ' v, Same F F' → Rel B F' H' σ' g ((v, o) :: τ) → D.rt v H'
  | .bk g => ∀ F' H' σ', Same F F' → Rel B F' H' σ' g τ → D.bk σ' H'
  | .ct g => ∀ F' H' σ', Same F F' → Rel B F' H' σ' g τ → D.ct σ' H'
def SS (B : Bs) (t : TS) (m : XS) : Prop := ∀ F H σ g τ out, Rel B F H σ g τ → m g = some out → ∀ D : Ends, Post B F τ D out → t D σ H
theorem Post.mono {B : Bs} {F F' : Hp} {τ : En} {D : Ends} (e : Same F F') : ∀ {out : Out}, Post B F τ D out → Post B F' τ D out
  | .nx g, h => fun F2 H2 σ2 s => h F2 H2 σ2 (e.trans s)
  | .rt o g, h => fun F2 H2 σ2 v s => h F2 H2 σ2 v (e.trans s)
  | .bk g, h => fun F2 H2 σ2 s => h F2 H2 σ2 (e.trans s)
  | .ct g, h => fun F2 H2 σ2 s => h F2 H2 σ2 (e.trans s)

section
variable {B : Bs} {F F' H H' : Hp} {σ : L2.St} {g : G} {τ : En}
def sNext : XS := fun g => some (.nx g)
theorem ss_next : SS B tNext sNext := by
  intro F H σ g τ out r e D p
  cases e
  exact p F H σ (Same.refl F) r
def sBrk : XS := fun g => some (.bk g)
theorem ss_brk : SS B tBreak sBrk := by
  intro F H σ g τ out r e D p
  cases e
  exact p F H σ (Same.refl F) r
def sCont : XS := fun g => some (.ct g)
theorem ss_cont : SS B tCont sCont := by
  intro F H σ g τ out r e D p
  cases e
  exact p F H σ (Same.refl F) r
def sSeq (a b : XS) : XS := fun g => (a g).bind fun x => match x with
  | .nx g' => b g'
  | .rt o g' => some (.rt o g')
  | .bk g' => some (.bk g')
  | .ct g' => some (.ct g')
theorem ss_seq {t u : TS} {a b : XS} (ha : SS B t a) (hb : SS B u b) : SS B (tSeq t u) (sSeq a b) := by
  intro F H σ g τ out r e D p
  obtain ⟨x, e1, e2⟩ := Option.bind_eq_some_iff.mp e
  refine ha F H σ g τ x r e1 _ ?_
  cases x with
  | nx g' => exact fun F1 H1 σ1 s1 r1 => hb F1 H1 σ1 g' τ out r1 e2 D (p.mono s1)
  | rt o g' => cases e2; exact p
  | bk g' => cases e2; exact p
  | ct g' => cases e2; exact p
def sRet (m : XE) : XS := fun g => (m g).map fun p => .rt p.1 p.2
theorem ss_ret {t : TE} {m : XE} (h : SE B t m) : SS B (tRet t) (sRet m) := by
  intro F H σ g τ out r e D p
  obtain ⟨⟨o, g1⟩, e1, e2⟩ := Option.map_eq_some_iff.mp e
  cases e2
  exact h F H σ g τ o g1 r e1 _ fun F1 H1 v s1 r1 => p F1 H1 σ v s1 r1
def sRetN : XS := fun g => some (.rt (.fr .non) g)
theorem ss_retN : SS B tRetN sRetN := by
  intro F H σ g τ out r e D p
  cases e
  exact p F H σ .non (Same.refl F) (r.addFr rfl)
def sDrop (m : XE) : XS := fun g => (m g).map fun p => .nx p.2
theorem ss_drop {t : TE} {m : XE} (h : SE B t m) : SS B (tDrop t) (sDrop m) := by
  intro F H σ g τ out r e D p
  obtain ⟨⟨o, g1⟩, e1, e2⟩ := Option.map_eq_some_iff.mp e
  cases e2
  exact h F H σ g τ o g1 r e1 _ fun F1 H1 v s1 r1 => p F1 H1 σ s1 r1.drop
def sIf (c : XT) (a b : XS) : XS := fun g => (c g).bind fun p => if p.1 = true then a p.2 else b p.2
theorem ss_if {c : TT} {t u : TS} {m : XT} {a b : XS} (hc : ST B c m) (ha : SS B t a) (hb : SS B u b) : SS B (tIfS c t u) (sIf m a b) := by
  intro F H σ g τ out r e D p
  obtain ⟨⟨k, g1⟩, e1, e2⟩ := Option.bind_eq_some_iff.mp e
  refine hc F H σ g τ k g1 r e1 _ fun F1 H1 s1 r1 => ?_
  cases k with
  | true => exact ha F1 H1 σ g1 τ out r1 e2 D (p.mono s1)
  | false => exact hb F1 H1 σ g1 τ out r1 e2 D (p.mono s1)

/-! targets -/
abbrev XG := O → G → Option G
def SG (B : Bs) (t : TG) (m : XG) : Prop := ∀ F H σ g τ v o g', Rel B F H σ g ((v, o) :: τ) → m o g = some g' → ∀ Q : L2.St → Hp → Prop,
  (∀ F' H' σ', Same F F' → Rel B F' H' σ' g' τ → Q σ' H') → t v σ H Q
def SGs (B : Bs) (t : TGs) (m : List D → G → Option G) : Prop := ∀ F H σ g τ vs ds g', Rel B F H σ g τ → RpL B.K F vs ds → m ds g = some g' → ∀ Q : L2.St → Hp → Prop,
  (∀ F' H' σ', Same F F' → Rel B F' H' σ' g' τ → Q σ' H') → t vs σ H Q
def gN (i : Nat) : XG := fun o g => if i < g.length then some (g.set i (some o)) else none
theorem sg_name {i : Nat} (hp : i ∉ B.pin) : SG B (gName i) (gN i) := by
  intro F H σ g τ v o g' r e Q q
  unfold gN at e
  split at e
  · rename_i hi
    cases e
    exact q F H _ (Same.refl F) (r.put (by rw [← r.len]; exact hi) hp)
  · cases e
def gsNil : List D → G → Option G := fun ds g => match ds with
  | [] => some g
  | _ => none
def gsCons (a : XG) (b : List D → G → Option G) : List D → G → Option G := fun ds g => match ds with
  | d :: r => (a (.fr d) g).bind fun g1 => b r g1
  | [] => none
theorem sgs_nil : SGs B gNil gsNil := by
  intro F H σ g τ vs ds g' r rp e Q q
  cases ds with
  | nil =>
    cases e
    exact ⟨rp, q F H σ (Same.refl F) r⟩
  | cons d ds => cases e
theorem sgs_cons {t : TG} {u : TGs} {a : XG} {b : List D → G → Option G} (ha : SG B t a) (hb : SGs B u b) : SGs B (gCons t u) (gsCons a b) := by
  intro F H σ g τ vs ds g' r rp e Q q
  cases ds with
  | nil => cases e
  | cons d ds =>
    obtain ⟨g1, e1, e2⟩ := Option.bind_eq_some_iff.mp e
    obtain ⟨v, ws, rfl, h1, h2⟩ := rp
    refine ⟨v, ws, rfl, ?_⟩
    exact ha F H σ g τ v (.fr d) g1 (r.addFr h1) e1 _ fun F1 H1 σ1 s1 r1 => hb F1 H1 σ1 g1 τ ws ds g' r1 (RpL.mono s1 _ _ h2) e2 Q fun F2 H2 σ2 s2 r2 => q F2 H2 σ2 (s1.trans s2) r2
def gTp (n : Nat) (b : List D → G → Option G) : XG := fun o g => match o with
  | .fr (.tup ds) => if ds.length = n then b ds g else none
  | _ => none
theorem sg_tup {n : Nat} {u : TGs} {b : List D → G → Option G} (hb : SGs B u b) : SG B (gTup B.K n u) (gTp n b) := by
  intro F H σ g τ v o g' r e Q q
  unfold gTp at e
  split at e
  · rename_i ds
    split at e
    · rename_i hn
      obtain ⟨a, vs, rfl, h1, h2⟩ := r.frd
      refine ⟨a, vs, rfl, Same.sqT r.sub h1, by rw [h2.length]; exact hn, ?_⟩
      exact hb F H σ g τ vs ds g' r.drop h2 e Q q
    · cases e
  · cases e
def sAsg (m : XE) (a : XG) : XS := fun g => (m g).bind fun p => (a p.1 p.2).map .nx
theorem ss_asg {t : TE} {u : TG} {m : XE} {a : XG} (h : SE B t m) (ha : SG B u a) : SS B (tAsg t u) (sAsg m a) := by
  intro F H σ g τ out r e D p
  obtain ⟨⟨o, g1⟩, e1, e2⟩ := Option.bind_eq_some_iff.mp e
  obtain ⟨g2, e3, e4⟩ := Option.map_eq_some_iff.mp e2
  cases e4
  refine h F H σ g τ o g1 r e1 _ fun F1 H1 v s1 r1 => ?_
  exact ha F1 H1 σ g1 τ v o g2 r1 e3 _ fun F2 H2 σ2 s2 r2 => p F2 H2 σ2 (s1.trans s2) r2
/-- a, b = e1, e2 into two names -/
def sPar (i j : Nat) (m : XA) : XS := fun g => (m g).bind fun p => (alld p.1).bind fun ds => match ds with
  | [d, e] => if i < p.2.length then some (.nx ((p.2.set i (some (.fr d))).set j (some (.fr e)))) else none
  | _ => none
theorem ss_par {i j : Nat} {t : TA} {m : XA} (hi : i ∉ B.pin) (hj : j ∉ B.pin) (h : SA B t m) : SS B (tPar i j t) (sPar i j m) := by
  intro F H σ g τ out r e D p
  obtain ⟨⟨as, g1⟩, e1, e2⟩ := Option.bind_eq_some_iff.mp e
  obtain ⟨ds, e3, e4⟩ := Option.bind_eq_some_iff.mp e2
  dsimp only at e4
  split at e4
  · rename_i d d2
    split at e4
    · rename_i hl
      cases e4
      refine h F H σ g τ as g1 r e1 _ fun F1 H1 vs s1 r1 ok => ?_
      obtain ⟨v, ws, rfl, k1, k2⟩ := alld_ok ok e3
      obtain ⟨w, xs, rfl, k3, k4⟩ := k2
      obtain rfl : xs = [] := k4
      refine ⟨v, w, rfl, ?_⟩
      have r2 := (r1.addFr k1).put (i := i) (by rw [← r1.len]; exact hl) hi
      by_cases hjl : j < (σ.set i (some v)).length
      · exact p F1 H1 _ s1 ((r2.addFr k3).put hjl hj)
      · rw [List.set_eq_of_length_le (by omega)]
        rw [List.set_eq_of_length_le (by rw [r2.len]; omega)] at p
        exact p F1 H1 _ s1 r2
    · cases e4
  · cases e4
/-- x += e of a local -/
def S2i (K : PySem.W.Frag) (r : TIp) (f : D → D → Option D) : Prop := S2 K r f
def sAug (i : Nat) (f : D → D → Option D) (m : XO) : XS := fun g => match g[i]? with
  | some (some (.fr d)) => (m g).bind fun p => (view p.2 p.1).bind fun e => (f d e).bind fun z => if i < p.2.length then some (.nx (p.2.set i (some (.fr z)))) else none
  | _ => none
theorem ss_aug {i : Nat} {t : TE} {ti : TIp} {f : D → D → Option D} {m : XO} (hi : i ∉ B.pin) (hr : S2i B.K ti f) (h : SO B t m) : SS B (tAug i t ti) (sAug i f m) := by
  intro F H σ g τ out r e D p
  unfold sAug at e
  split at e
  · rename_i d ed
    obtain ⟨⟨a, g1⟩, e1, e2⟩ := Option.bind_eq_some_iff.mp e
    obtain ⟨d2, e3, e4⟩ := Option.bind_eq_some_iff.mp e2
    obtain ⟨z, e5, e6⟩ := Option.bind_eq_some_iff.mp e4
    split at e6
    · rename_i hl
      cases e6
      obtain ⟨v, hv, r0⟩ := r.slot ed
      refine ⟨v, hv, ?_⟩
      refine h F H σ g τ a g1 r e1 _ fun F1 H1 u s1 r1 ok => ?_
      obtain ⟨w, hw, k⟩ := hr H1 v u d d2 z (Rp.mono (s1.trans r1.sub) _ _ r0.frd) (r1.view ok e3) e5
      exact k _ (p F1 H1 _ s1 ((r1.addFr (toV_rp hw F1)).put (by rw [← r1.len]; exact hl) hi))
    · cases e6
  · cases e

/-! ### for -/
def Walks (K : PySem.W.Frag) (F : Hp) (J : It) (ds : List D) : Prop :=
  (∀ i F2 H2, Same F F2 → Same F2 H2 → i < ds.length → J.go i H2 ∧ ∀ x H3, J.yld i H2 x H3 → ∃ F3, Grow F2 H2 F3 H3 ∧ ∃ d, ds[i]? = some d ∧ Rp K F3 x d) ∧
  (∀ F2 H2, Same F F2 → Same F2 H2 → J.stop ds.length H2)
theorem Walks.mono {K : PySem.W.Frag} {F F' : Hp} {J : It} {ds : List D} (e : Same F F') (w : Walks K F J ds) : Walks K F' J ds :=
  ⟨fun i F2 H2 s => w.1 i F2 H2 (e.trans s), fun F2 H2 s => w.2 F2 H2 (e.trans s)⟩
abbrev XI := G → Option (List D × G)
def SI (B : Bs) (wi : TI) (m : XI) : Prop := ∀ F H σ g τ ds g', Rel B F H σ g τ → m g = some (ds, g') → ∀ R : It → Hp → Prop,
  (∀ F' H' J, Same F F' → Rel B F' H' σ g' τ → Walks B.K F' J ds → R J H') → wi σ H R
def forL (tg : XG) (body : XS) : List D → G → Option Out
  | [], g => some (.nx g)
  | d :: ds, g => (tg (.fr d) g).bind fun g1 => (body g1).bind fun x => match x with
    | .nx g2 => forL tg body ds g2
    | .ct g2 => forL tg body ds g2
    | .bk g2 => some (.nx g2)
    | .rt o g2 => some (.rt o g2)
def sFor (it : XI) (tg : XG) (body : XS) : XS := fun g => (it g).bind fun p => forL tg body p.1 p.2
theorem ss_for {wi : TI} {tg : TG} {tb : TS} {it : XI} {mg : XG} {mb : XS} (hi : SI B wi it) (hg : SG B tg mg) (hb : SS B tb mb) : SS B (tFor wi tg tb) (sFor it mg mb) := by
  intro F H σ g τ out r e D p
  obtain ⟨⟨ds, g1⟩, e1, e2⟩ := Option.bind_eq_some_iff.mp e
  refine hi F H σ g τ ds g1 r e1 _ fun F1 H1 J s1 r1 w1 => ?_
  refine ⟨fun i m σ' H' => m = ds.length - i ∧ i ≤ ds.length ∧ ∃ F' g', Same F1 F' ∧ Rel B F' H' σ' g' τ ∧ forL mg mb (ds.drop i) g' = some out, ⟨ds.length, by simp, Nat.zero_le _, F1, g1, Same.refl F1, r1, e2⟩, ?_⟩
  rintro i m σ' H' ⟨rfl, hil, F', g', s', r', e'⟩
  have w' := w1.mono s'
  by_cases hlt : i < ds.length
  · right
    obtain ⟨go, yld⟩ := w'.1 i F' H' (Same.refl F') r'.sub hlt
    have ed : ds.drop i = ds[i] :: ds.drop (i + 1) := List.drop_eq_getElem_cons hlt
    rw [ed] at e'
    obtain ⟨g2, e3, e4⟩ := Option.bind_eq_some_iff.mp e'
    obtain ⟨x, e5, e6⟩ := Option.bind_eq_some_iff.mp e4
    refine ⟨go, fun σ2 H2 => ∃ F2 g3, Same F1 F2 ∧ Rel B F2 H2 σ2 g3 τ ∧ forL mg mb (ds.drop (i + 1)) g3 = some out, fun σ2 H2 q => ⟨ds.length - (i + 1), by omega, rfl, by omega, q⟩, fun y H3 hy => ?_⟩
    obtain ⟨F3, gr, d, hd, rd⟩ := yld y H3 hy
    rw [List.getElem?_eq_getElem hlt] at hd
    cases hd
    have r3 := (r'.grow gr).addFr rd
    refine hg F3 H3 σ' g' τ y (.fr ds[i]) g2 r3 e3 _ fun F4 H4 σ4 s4 r4 => ?_
    refine hb F4 H4 σ4 g2 τ x r4 e5 _ ?_
    have s14 : Same F1 F4 := (s'.trans gr.f).trans s4
    cases x with
    | nx g3 => exact fun F5 H5 σ5 s5 r5 => ⟨F5, g3, s14.trans s5, r5, e6⟩
    | ct g3 => exact fun F5 H5 σ5 s5 r5 => ⟨F5, g3, s14.trans s5, r5, e6⟩
    | bk g3 =>
      cases e6
      exact fun F5 H5 σ5 s5 r5 => p F5 H5 σ5 (s1.trans (s14.trans s5)) r5
    | rt o g3 =>
      cases e6
      exact fun F5 H5 σ5 v s5 r5 => p F5 H5 σ5 v (s1.trans (s14.trans s5)) r5
  · left
    have ei : i = ds.length := by omega
    subst ei
    refine ⟨w'.2 F' H' (Same.refl F') r'.sub, ?_⟩
    rw [List.drop_length] at e'
    cases e'
    exact p F' H' σ' (s1.trans s') r'

/-! what is walked -/
theorem walks_list {K : PySem.W.Frag} {a : Addr} {vs : List V} {ds : List D} (h : F a = some (.lst vs)) (hr : RpL K F vs ds) : Walks K F (Itl K a) ds := by
  refine ⟨fun i F2 H2 s s2 hi => ?_, fun F2 H2 s s2 => ?_⟩
  · have hq : H2 a = some (.lst vs) := s2 _ _ (s _ _ h)
    have hl := hr.length
    obtain ⟨v, hv, rv⟩ := hr.get (List.getElem?_eq_getElem hi)
    refine ⟨⟨vs, v, SqL.of hq, hv⟩, fun x H3 y => ?_⟩
    obtain ⟨rfl, y⟩ := y
    have e := y vs (SqL.of hq)
    rw [hv] at e
    cases e
    exact ⟨F2, Grow.refl s2, _, List.getElem?_eq_getElem hi, Rp.mono s _ _ rv⟩
  · exact ⟨vs, SqL.of (s2 _ _ (s _ _ h)), by rw [hr.length]; exact Nat.le_refl _⟩
theorem walks_tup {K : PySem.W.Frag} {a : Addr} {vs : List V} {ds : List D} (h : SqT K F a vs) (hr : RpL K F vs ds) : Walks K F (Itt K a) ds := by
  refine ⟨fun i F2 H2 s s2 hi => ?_, fun F2 H2 s s2 => ?_⟩
  · have hq : SqT K H2 a vs := Same.sqT s2 (Same.sqT s h)
    obtain ⟨v, hv, rv⟩ := hr.get (List.getElem?_eq_getElem hi)
    refine ⟨⟨vs, v, hq, hv⟩, fun x H3 y => ?_⟩
    obtain ⟨rfl, y⟩ := y
    have e := y vs hq
    rw [hv] at e
    cases e
    exact ⟨F2, Grow.refl s2, _, List.getElem?_eq_getElem hi, Rp.mono s _ _ rv⟩
  · exact ⟨vs, Same.sqT s2 (Same.sqT s h), by rw [hr.length]; exact Nat.le_refl _⟩
def rgD (lo : Int) (n : Nat) : List D := (List.range n).map fun i => .int (lo + (i : Nat))
theorem walks_rng {K : PySem.W.Frag} {lo : Int} {n : Nat} : Walks K F (Itr lo n) (rgD lo n) := by
  have hl : (rgD lo n).length = n := by unfold rgD; rw [List.length_map, List.length_range]
  refine ⟨fun i F2 H2 s s2 hi => ?_, fun F2 H2 s s2 => ?_⟩
  · rw [hl] at hi
    refine ⟨hi, fun x H3 y => ?_⟩
    obtain ⟨rfl, rfl⟩ := y
    refine ⟨F2, Grow.refl s2, .int (lo + (i : Nat)), ?_, rfl⟩
    unfold rgD
    rw [List.getElem?_map, List.getElem?_range hi]
    rfl
  · rw [hl]
    exact Nat.le_refl _
/-- over a frozen list -/
def iLst (m : XO) : XI := fun g => (m g).bind fun p => match p.1 with
  | .d (.lst ds) => some (ds, p.2)
  | _ => none
theorem si_lst {t : TE} {m : XO} (h : SO B t m) : SI B (iList B.K t) (iLst m) := by
  intro F H σ g τ ds g' r e R q
  obtain ⟨⟨a, g1⟩, e1, e2⟩ := Option.bind_eq_some_iff.mp e
  refine h F H σ g τ a g1 r e1 _ fun F1 H1 v s1 r1 ok => ?_
  dsimp only at e2
  split at e2
  · rename_i es
    cases e2
    obtain ⟨x, vs, rfl, k1, k2⟩ := ok
    exact ⟨x, rfl, ⟨vs, SqL.of (r1.sub _ _ k1)⟩, q F1 H1 _ s1 r1 (walks_list k1 k2)⟩
  · cases e2
def iTpl (m : XO) : XI := fun g => (m g).bind fun p => match p.1 with
  | .d (.tup ds) => some (ds, p.2)
  | _ => none
theorem si_tup {t : TE} {m : XO} (h : SO B t m) : SI B (iTup B.K t) (iTpl m) := by
  intro F H σ g τ ds g' r e R q
  obtain ⟨⟨a, g1⟩, e1, e2⟩ := Option.bind_eq_some_iff.mp e
  refine h F H σ g τ a g1 r e1 _ fun F1 H1 v s1 r1 ok => ?_
  dsimp only at e2
  split at e2
  · rename_i es
    cases e2
    obtain ⟨x, vs, rfl, k1, k2⟩ := ok
    exact ⟨x, rfl, ⟨vs, Same.sqT r1.sub k1⟩, q F1 H1 _ s1 r1 (walks_tup k1 k2)⟩
  · cases e2
def iR1 (m : XO) : XI := fun g => (m g).bind fun p => match view p.2 p.1 with
  | some (.int j) => if -(2 ^ 62) ≤ j ∧ j < 2 ^ 62 then some (rgD 0 j.toNat, p.2) else none
  | _ => none
theorem si_r1 {t : TE} {m : XO} (h : SO B t m) : SI B (iRng1 (tCons t tNil)) (iR1 m) := by
  intro F H σ g τ ds g' r e R q
  obtain ⟨⟨a, g1⟩, e1, e2⟩ := Option.bind_eq_some_iff.mp e
  refine h F H σ g τ a g1 r e1 _ fun F1 H1 v s1 r1 ok => ?_
  dsimp only at e2
  split at e2
  · rename_i j ej
    split at e2
    · rename_i hj
      cases e2
      obtain rfl : v = .int j := r1.view ok ej
      exact ⟨j, rfl, hj.1, hj.2, q F1 H1 _ s1 r1 walks_rng⟩
    · cases e2
  · cases e2
def iR2 (a b : XO) : XI := fun g => (a g).bind fun p => (b p.2).bind fun q => match view q.2 p.1, view q.2 q.1 with
  | some (.int i), some (.int j) => if (-(2 ^ 62) ≤ i ∧ i < 2 ^ 62) ∧ (-(2 ^ 62) ≤ j ∧ j < 2 ^ 62) then some (rgD i (j - i).toNat, q.2) else none
  | _, _ => none
theorem si_r2 {t u : TE} {m m' : XO} (h : SO B t m) (h' : SO B u m') : SI B (iRng2 (tCons t (tCons u tNil))) (iR2 m m') := by
  intro F H σ g τ ds g' r e R q
  obtain ⟨⟨a, g1⟩, e1, e2⟩ := Option.bind_eq_some_iff.mp e
  obtain ⟨⟨b, g2⟩, e3, e4⟩ := Option.bind_eq_some_iff.mp e2
  refine h F H σ g τ a g1 r e1 _ fun F1 H1 v s1 r1 ok => ?_
  refine h' F1 H1 σ g1 τ b g2 r1 e3 _ fun F2 H2 w s2 r2 ok2 => ?_
  dsimp only at e4
  split at e4
  · rename_i i j ei ej
    split at e4
    · rename_i hj
      cases e4
      obtain rfl : v = .int i := r2.view (ok.mono s2) ei
      obtain rfl : w = .int j := r2.view ok2 ej
      exact ⟨i, j, rfl, ⟨hj.1.1, hj.1.2, hj.2.1, hj.2.2⟩, q F2 H2 _ (s1.trans s2) r2 walks_rng⟩
    · cases e4
  · cases e4

/-! ### while -/
inductive WhN (c : XT) (b : XS) : Nat → G → Out → Prop
  | done {n : Nat} {g g1 : G} (h : c g = some (false, g1)) : WhN c b n g (.nx g1)
  | brk {n : Nat} {g g1 g2 : G} (h : c g = some (true, g1)) (k : b g1 = some (.bk g2)) : WhN c b n g (.nx g2)
  | ret {n : Nat} {g g1 g2 : G} {o : O} (h : c g = some (true, g1)) (k : b g1 = some (.rt o g2)) : WhN c b n g (.rt o g2)
  | next {n : Nat} {g g1 g2 : G} {out : Out} (h : c g = some (true, g1)) (k : b g1 = some (.nx g2)) (w : WhN c b n g2 out) : WhN c b (n + 1) g out
  | cont {n : Nat} {g g1 g2 : G} {out : Out} (h : c g = some (true, g1)) (k : b g1 = some (.ct g2)) (w : WhN c b n g2 out) : WhN c b (n + 1) g out
theorem WhN.det {c : XT} {b : XS} {n : Nat} {g : G} {x : Out} (h : WhN c b n g x) : ∀ {m : Nat} {y : Out}, WhN c b m g y → x = y := by
  induction h with
  | done h =>
    intro m y k
    cases k with
    | done h' => rw [h] at h'; cases h'; rfl
    | brk h' _ => rw [h] at h'; cases h'
    | ret h' _ => rw [h] at h'; cases h'
    | next h' _ _ => rw [h] at h'; cases h'
    | cont h' _ _ => rw [h] at h'; cases h'
  | brk h k =>
    intro m y z
    cases z with
    | done h' => rw [h] at h'; cases h'
    | brk h' k' => rw [h] at h'; cases h'; rw [k] at k'; cases k'; rfl
    | ret h' k' => rw [h] at h'; cases h'; rw [k] at k'; cases k'
    | next h' k' _ => rw [h] at h'; cases h'; rw [k] at k'; cases k'
    | cont h' k' _ => rw [h] at h'; cases h'; rw [k] at k'; cases k'
  | ret h k =>
    intro m y z
    cases z with
    | done h' => rw [h] at h'; cases h'
    | brk h' k' => rw [h] at h'; cases h'; rw [k] at k'; cases k'
    | ret h' k' => rw [h] at h'; cases h'; rw [k] at k'; cases k'; rfl
    | next h' k' _ => rw [h] at h'; cases h'; rw [k] at k'; cases k'
    | cont h' k' _ => rw [h] at h'; cases h'; rw [k] at k'; cases k'
  | next h k w ih =>
    intro m y z
    cases z with
    | done h' => rw [h] at h'; cases h'
    | brk h' k' => rw [h] at h'; cases h'; rw [k] at k'; cases k'
    | ret h' k' => rw [h] at h'; cases h'; rw [k] at k'; cases k'
    | next h' k' w' => rw [h] at h'; cases h'; rw [k] at k'; cases k'; exact ih w'
    | cont h' k' _ => rw [h] at h'; cases h'; rw [k] at k'; cases k'
  | cont h k w ih =>
    intro m y z
    cases z with
    | done h' => rw [h] at h'; cases h'
    | brk h' k' => rw [h] at h'; cases h'; rw [k] at k'; cases k'
    | ret h' k' => rw [h] at h'; cases h'; rw [k] at k'; cases k'
    | next h' k' w' => rw [h] at h'; cases h'; rw [k] at k'; cases k'
    | cont h' k' w' => rw [h] at h'; cases h'; rw [k] at k'; cases k'; exact ih w'
open Classical in
noncomputable def sWhile (c : XT) (b : XS) : XS := fun g => if h : ∃ out n, WhN c b n g out then some h.choose else none
theorem sWhile_eq {c : XT} {b : XS} {n : Nat} {g : G} {out : Out} (h : WhN c b n g out) : sWhile c b g = some out := by
  have hx : ∃ out n, WhN c b n g out := ⟨out, n, h⟩
  unfold sWhile
  rw [dif_pos hx]
  obtain ⟨m, hm⟩ := hx.choose_spec
  rw [hm.det h]
theorem sWhile_of {c : XT} {b : XS} {g : G} {out : Out} (h : sWhile c b g = some out) : ∃ n, WhN c b n g out := by
  unfold sWhile at h
  split at h
  · rename_i hx
    cases h
    exact hx.choose_spec
  · cases h
theorem ss_while {tc : TT} {tb : TS} {c : XT} {b : XS} (hc : ST B tc c) (hb : SS B tb b) : SS B (tWhile tc tb) (sWhile c b) := by
  intro F H σ g τ out r e D p
  obtain ⟨n, wn⟩ := sWhile_of e
  refine ⟨fun m σ' H' => ∃ F' g', Same F F' ∧ Rel B F' H' σ' g' τ ∧ WhN c b m g' out, ⟨n, F, g, Same.refl F, r, wn⟩, ?_⟩
  rintro m σ' H' ⟨F', g', s', r', w'⟩
  cases w' with
  | done h =>
    exact hc F' H' σ' g' τ _ _ r' h _ fun F1 H1 s1 r1 => p F1 H1 σ' (s'.trans s1) r1
  | brk h k =>
    refine hc F' H' σ' g' τ _ _ r' h _ fun F1 H1 s1 r1 => ?_
    exact ⟨fun _ _ => False, fun _ _ z => z.elim, hb F1 H1 σ' _ τ _ r1 k _ fun F2 H2 σ2 s2 r2 => p F2 H2 σ2 ((s'.trans s1).trans s2) r2⟩
  | ret h k =>
    refine hc F' H' σ' g' τ _ _ r' h _ fun F1 H1 s1 r1 => ?_
    exact ⟨fun _ _ => False, fun _ _ z => z.elim, hb F1 H1 σ' _ τ _ r1 k _ fun F2 H2 σ2 v s2 r2 => p F2 H2 σ2 v ((s'.trans s1).trans s2) r2⟩
  | @next n _ g1 g2 _ h k w =>
    refine hc F' H' σ' g' τ _ _ r' h _ fun F1 H1 s1 r1 => ?_
    exact ⟨fun σ2 H2 => ∃ F2, Same F F2 ∧ Rel B F2 H2 σ2 g2 τ, fun σ2 H2 ⟨F2, s2, r2⟩ => ⟨n, Nat.lt_succ_self n, F2, g2, s2, r2, w⟩, hb F1 H1 σ' _ τ _ r1 k _ fun F2 H2 σ2 s2 r2 => ⟨F2, (s'.trans s1).trans s2, r2⟩⟩
  | @cont n _ g1 g2 _ h k w =>
    refine hc F' H' σ' g' τ _ _ r' h _ fun F1 H1 s1 r1 => ?_
    exact ⟨fun σ2 H2 => ∃ F2, Same F F2 ∧ Rel B F2 H2 σ2 g2 τ, fun σ2 H2 ⟨F2, s2, r2⟩ => ⟨n, Nat.lt_succ_self n, F2, g2, s2, r2, w⟩, hb F1 H1 σ' _ τ _ r1 k _ fun F2 H2 σ2 s2 r2 => ⟨F2, (s'.trans s1).trans s2, r2⟩⟩
end
end Mi

set_option Elab.async false
set_option linter.all false
set_option maxRecDepth 100000
/-! Mi3: defs and calls. -/
namespace Mi
open PySem PySem.Spec PyProof.Rows L2

/-- a def's promise by its mirror: f takes the arguments' trees, gives the answer and what has become of the arguments -/
def spM (K : PySem.W.Frag) (n : Nat) (f : List O → Option (O × List O)) : Sp := fun vs H Q _ => vs.length = n ∧ ∃ F os r os' fp, Same F H ∧ OwL K F H vs os fp ∧ fp.Nodup ∧ (∀ b ∈ fp, F b = none) ∧ f os = some (r, os') ∧
  ∀ F' H' v fp', Same F F' → Same F' H' → (∀ b o, F' b = some o → F b = some o ∨ H b = none ∨ b ∈ fp) → (∀ b o, H b = some o → b ∉ fp → H' b = some o) →
    OwL K F' H' (v :: vs) (r :: os') fp' → fp'.Nodup → (∀ b ∈ fp', F' b = none ∧ (H b = none ∨ b ∈ fp)) → Q v H'

section
variable {B : Bs} {F F' H H' : Hp} {σ : L2.St} {g : G} {τ : En}
theorem Rel.back' {i : Nat} {v : V} {o : O} (r : Rel B F H σ g ((v, o) :: τ)) (hs : σ[i]? = some (some v)) : Rel B F H σ (g.set i (some o)) τ := by
  have r1 := r.wipe i
  have hi : i < g.length := by
    rw [r.len]
    exact (List.getElem?_eq_some_iff.mp hs).1
  have r2 := r1.back hs (List.getElem?_set_self hi)
  rw [List.set_set] at r2
  exact r2
theorem OwE.split {K : PySem.W.Frag} : ∀ {E E' : En} {fp : List Addr}, OwE K F H (E ++ E') fp → ∃ f1 f2, OwE K F H E f1 ∧ OwE K F H E' f2 ∧ fp = f1 ++ f2
  | [], E', fp, h => ⟨[], fp, OwE.nil, h, rfl⟩
  | e :: E, E', fp, h => by
    obtain ⟨f1, f2, h1, h2, rfl⟩ := OwE.inv h
    obtain ⟨f3, f4, h3, h4, rfl⟩ := OwE.split h2
    exact ⟨f1 ++ f3, f4, OwE.cons h1 h3, h4, by rw [List.append_assoc]⟩
theorem Ents.right : ∀ {E E' : En}, Ents B F H (E ++ E') → Ents B F H E'
  | [], _, h => h
  | _ :: E, _, h => Ents.right (E := E) h.drop
theorem owE_zip {K : PySem.W.Frag} {vs : List V} {os : List O} {fp : List Addr} (hl : vs.length = os.length) (h : OwE K F H (vs.zip os) fp) : OwL K F H vs os fp := by
  unfold OwE at h
  rw [List.map_fst_zip (Nat.le_of_eq hl), List.map_snd_zip (Nat.le_of_eq hl.symm)] at h
  exact h
theorem zip_owE {K : PySem.W.Frag} {vs : List V} {os : List O} {fp : List Addr} (h : OwL K F H vs os fp) : OwE K F H (vs.zip os) fp := by
  unfold OwE
  rw [List.map_fst_zip (Nat.le_of_eq h.length), List.map_snd_zip (Nat.le_of_eq h.length.symm)]
  exact h

def pull : List Opd → G → Option (List O × G)
  | [], g => some ([], g)
  | .d x :: r, g => (pull r g).map fun p => (.fr x :: p.1, p.2)
  | .br i :: r, g => match g[i]? with
    | some (some o) => (pull r (g.set i none)).map fun p => (o :: p.1, p.2)
    | _ => none
def push : List Opd → List O → G → G
  | .br i :: r, o :: os, g => (push r os g).set i (some o)
  | .d _ :: r, _ :: os, g => push r os g
  | _, _, g => g
theorem pull_ok : ∀ {as : List Opd} {g : G} {τ : En} {vs : List V} {os : List O} {g2 : G}, Rel B F H σ g τ → OpdsOk B F σ vs as → pull as g = some (os, g2) → Rel B F H σ g2 (vs.zip os ++ τ) ∧ vs.length = os.length ∧ os.length = as.length
  | [], g, τ, vs, os, g2, r, ok, e => by
    cases e
    obtain rfl : vs = [] := ok
    exact ⟨r, rfl, rfl⟩
  | .d x :: as, g, τ, vs, os, g2, r, ok, e => by
    obtain ⟨v, ws, rfl, h1, h2⟩ := ok
    obtain ⟨⟨ps, g3⟩, e1, e2⟩ := Option.map_eq_some_iff.mp e
    cases e2
    obtain ⟨k1, k2, k3⟩ := pull_ok r h2 e1
    exact ⟨k1.addFr h1, by rw [List.length_cons, List.length_cons, k2], by rw [List.length_cons, List.length_cons, k3]⟩
  | .br i :: as, g, τ, vs, os, g2, r, ok, e => by
    obtain ⟨v, ws, rfl, h1, h2⟩ := ok
    unfold pull at e
    split at e
    · rename_i o eo
      obtain ⟨⟨ps, g3⟩, e1, e2⟩ := Option.map_eq_some_iff.mp e
      cases e2
      obtain ⟨k1, k2, k3⟩ := pull_ok (r.take h1 eo) h2 e1
      exact ⟨k1.tperm List.perm_middle, by rw [List.length_cons, List.length_cons, k2], by rw [List.length_cons, List.length_cons, k3]⟩
    · cases e
theorem push_ok {F0 : Hp} : ∀ {as : List Opd} {g : G} {τ : En} {vs : List V} {os : List O}, OpdsOk B F0 σ vs as → os.length = as.length → Rel B F H σ g (vs.zip os ++ τ) → Rel B F H σ (push as os g) τ
  | [], g, τ, vs, os, ok, hl, r => by
    obtain rfl : vs = [] := ok
    obtain rfl : os = [] := List.length_eq_zero_iff.mp hl
    exact r
  | .d x :: as, g, τ, vs, os, ok, hl, r => by
    obtain ⟨v, ws, rfl, h1, h2⟩ := ok
    cases os with
    | nil => simp at hl
    | cons o os =>
      have r' : Rel B F H σ g (ws.zip os ++ τ) := r.drop
      exact push_ok (as := as) h2 (by simpa using hl) r'
  | .br i :: as, g, τ, vs, os, ok, hl, r => by
    obtain ⟨v, ws, rfl, h1, h2⟩ := ok
    cases os with
    | nil => simp at hl
    | cons o os => exact (push_ok (τ := (v, o) :: τ) h2 (by simpa using hl) (r.tperm List.perm_middle.symm)).back' h1

def xCall (f : List O → Option (O × List O)) (as : XA) : XE := fun g => (as g).bind fun p => (pull p.1 p.2).bind fun q => (f q.1).map fun z => (z.1, push p.1 z.2 q.2)
/-- behind a call: entries whose own things the callee had, and the rest -/
theorem Rel.called {vs : List V} {os os' : List O} {v : V} {r : O} {f1 f2 fp' : List Addr} (rl : Rel B F H σ g (vs.zip os ++ τ)) (h1 : OwE B.K F H (vs.zip os) f1) (h2 : OwE B.K F H (ents σ g ++ τ) f2) (nd : (f1 ++ f2).Nodup)
    (hn : ∀ b ∈ f1 ++ f2, F b = none ∧ (B.H0 b = none ∨ b ∈ B.M)) (sF : Same F F') (sH : Same F' H') (n : ∀ b o, F' b = some o → F b = some o ∨ H b = none ∨ b ∈ f1) (k : ∀ b o, H b = some o → b ∉ f1 → H' b = some o)
    (ow : OwL B.K F' H' (v :: vs) (r :: os') fp') (nd' : fp'.Nodup) (hn' : ∀ b ∈ fp', F' b = none ∧ (H b = none ∨ b ∈ f1)) : Rel B F' H' σ g (vs.zip os' ++ (v, r) :: τ) := by
  have h0 : ∀ b, H b = none → B.H0 b = none ∨ b ∈ B.M := fun b e => by
    cases q : B.H0 b with
    | none => exact .inl rfl
    | some x =>
      by_cases m : b ∈ B.M
      · exact .inr m
      · rw [rl.keep b x q m] at e
        cases e
  have there := OwL.there _ _ f2 h2
  have dis := (List.nodup_append.mp nd).2.2
  refine ⟨rl.len, rl.cov, sH, rl.f0.trans sF, fun b o e m => ?_, fun b o e => ?_, rl.pins, ?_⟩
  · refine k b o (rl.keep b o e m) fun hb => ?_
    rcases (hn b (List.mem_append_left _ hb)).2 with z | z
    · rw [z] at e
      cases e
    · exact m z
  · rcases n b o e with e | e | e
    · exact rl.new b o e
    · exact .inr (h0 b e)
    · exact .inr (hn b (List.mem_append_left _ e)).2
  · have hz : OwE B.K F' H' ((v, r) :: vs.zip os' ++ (ents σ g ++ τ)) (fp' ++ f2) := by
      refine OwE.append (zip_owE ow) (OwE.mono sF (fun b hb => ?_) h2)
      obtain ⟨x, hx⟩ := there b hb
      rw [hx]
      exact k b x hx fun z => dis b z b hb rfl
    have hE : Ents B F' H' ((v, r) :: vs.zip os' ++ (ents σ g ++ τ)) := by
      refine ⟨_, hz, List.nodup_append.mpr ⟨nd', (List.nodup_append.mp nd).2.1, fun a ha b hb e => ?_⟩, fun b hb => ?_⟩
      · subst e
        obtain ⟨x, hx⟩ := there a hb
        rcases (hn' a ha).2 with z | z
        · rw [z] at hx
          cases hx
        · exact dis a z a hb rfl
      · rcases List.mem_append.mp hb with hb | hb
        · refine ⟨(hn' b hb).1, ?_⟩
          rcases (hn' b hb).2 with z | z
          · exact h0 b z
          · exact (hn b (List.mem_append_left _ z)).2
        · obtain ⟨x, hx⟩ := there b hb
          have q := hn b (List.mem_append_right _ hb)
          refine ⟨?_, q.2⟩
          cases e : F' b with
          | none => rfl
          | some y =>
            rcases n b y e with e | e | e
            · rw [q.1] at e
              cases e
            · rw [hx] at e
              cases e
            · exact (dis b e b hb rfl).elim
    refine hE.perm ?_
    -- (v, r) :: Z ++ (G ++ T)  ~  G ++ (Z ++ (v, r) :: T)
    have p1 : ((v, r) :: vs.zip os' ++ (ents σ g ++ τ)).Perm (ents σ g ++ ((v, r) :: vs.zip os' ++ τ)) := by
      rw [← List.append_assoc, ← List.append_assoc]
      exact List.perm_append_comm.append_right τ
    exact p1.trans (List.perm_middle.symm.append_left _)
theorem se_call {n : Nat} {f : List O → Option (O × List O)} {E : XK} {ta : TA} {ma : XA} (ha : SA B ta ma) (hl : ∀ os r, f os = some r → os.length = n ∧ r.2.length = n) : SE B (tCall (spM B.K n f) [] E ta) (xCall f ma) := by
  intro F H σ g τ o g' rl e Q q
  obtain ⟨⟨as, g1⟩, e1, e2⟩ := Option.bind_eq_some_iff.mp e
  obtain ⟨⟨os, g2⟩, e3, e4⟩ := Option.bind_eq_some_iff.mp e2
  obtain ⟨⟨r, os'⟩, e5, e6⟩ := Option.map_eq_some_iff.mp e4
  obtain ⟨e7, e8⟩ := Prod.mk.inj e6
  subst e7 e8
  refine ha F H σ g τ as g1 rl e1 _ fun F1 H1 vs s1 r1 ok => ?_
  obtain ⟨r2, l1, l2⟩ := pull_ok r1 ok e3
  obtain ⟨hn, hn2⟩ := hl _ _ e5
  have hE := r2.ent.perm (show (ents σ g2 ++ (vs.zip os ++ τ)).Perm (vs.zip os ++ (ents σ g2 ++ τ)) by
    rw [← List.append_assoc, ← List.append_assoc]
    exact List.perm_append_comm.append_right τ)
  obtain ⟨fp, k1, k2, k3⟩ := hE
  obtain ⟨f1, f2, m1, m2, rfl⟩ := OwE.split k1
  show spM B.K n f (vs ++ []) H1 Q E
  rw [List.append_nil]
  refine ⟨by rw [l1]; exact hn, F1, os, r, os', f1, r1.sub, owE_zip l1 m1, (List.nodup_append.mp k2).1, fun b hb => (k3 b (List.mem_append_left _ hb)).1, e5, fun F' H' v fp' sF sH n' k' ow nd' hn' => ?_⟩
  have r3 := r2.called m1 m2 k2 k3 sF sH n' k' ow nd' hn'
  exact q F' H' v (s1.trans sF) (push_ok ok (by rw [hn2, ← hn]; exact l2) r3)

/-! ### a body's mirror -/
def outs (pin : List Nat) (g : G) : Nat → List O → Option (List O)
  | _, [] => some []
  | j, o :: os => if j ∈ pin then (match g[j]? with
      | some (some o') => (outs pin g (j + 1) os).map fun r => o' :: r
      | _ => none)
    else (match o with
      | .fr d => (outs pin g (j + 1) os).map fun r => .fr d :: r
      | _ => none)
def runF (N n : Nat) (pin : List Nat) (body : XS) : List O → Option (O × List O) := fun os => if os.length = n then
    (body (os.map some ++ List.replicate (N - n) none)).bind fun x => match x with
      | .rt r g => (outs pin g 0 os).map fun os' => (r, os')
      | .nx g => (outs pin g 0 os).map fun os' => (.fr .non, os')
      | _ => none
  else none
theorem outs_len {pin : List Nat} {g : G} : ∀ {os : List O} {j : Nat} {os' : List O}, outs pin g j os = some os' → os'.length = os.length
  | [], j, os', e => by cases e; rfl
  | o :: os, j, os', e => by
    unfold outs at e
    split at e
    · split at e
      · obtain ⟨r, e1, e2⟩ := Option.map_eq_some_iff.mp e
        cases e2
        rw [List.length_cons, List.length_cons, outs_len e1]
      · cases e
    · split at e
      · obtain ⟨r, e1, e2⟩ := Option.map_eq_some_iff.mp e
        cases e2
        rw [List.length_cons, List.length_cons, outs_len e1]
      · cases e
theorem runF_len {N n : Nat} {pin : List Nat} {body : XS} {os : List O} {r : O × List O} (e : runF N n pin body os = some r) : os.length = n ∧ r.2.length = n := by
  unfold runF at e
  split at e
  · rename_i hn
    refine ⟨hn, ?_⟩
    obtain ⟨x, e1, e2⟩ := Option.bind_eq_some_iff.mp e
    cases x with
    | rt o g =>
      obtain ⟨os', e3, e4⟩ := Option.map_eq_some_iff.mp e2
      cases e4
      rw [outs_len e3, hn]
    | nx g =>
      obtain ⟨os', e3, e4⟩ := Option.map_eq_some_iff.mp e2
      cases e4
      rw [outs_len e3, hn]
    | bk g => cases e2
    | ct g => cases e2
  · cases e
theorem outs_ok {pin : List Nat} {vsA : List V} : ∀ {os : List O} {j : Nat} {os' : List O} {vs : List V} {g g2 : G} {τ : En}, outs pin g j os = some os' → vs.length = os.length → (∀ i, vsA[j + i]? = vs[i]?) →
    (∀ i ∈ pin, σ[i]? = (vsA[i]?).map some) → (∀ i, j ≤ i → g2[i]? = g[i]?) → (∀ (i : Nat) d, os[i]? = some (.fr d) → ∃ v, vs[i]? = some v ∧ Rp B.K F v d) → Rel B F H σ g2 τ → ∃ g3, Rel B F H σ g3 (vs.zip os' ++ τ)
  | [], j, os', vs, g, g2, τ, e, hl, hv, hp, hg, hf, r => by
    cases e
    obtain rfl : vs = [] := List.length_eq_zero_iff.mp hl
    exact ⟨g2, r⟩
  | o :: os, j, os', vs, g, g2, τ, e, hl, hv, hp, hg, hf, r => by
    cases vs with
    | nil => simp at hl
    | cons v vs =>
      have hl' : vs.length = os.length := by simpa using hl
      have hv' : ∀ i, vsA[j + 1 + i]? = vs[i]? := fun i => by
        have := hv (i + 1)
        rw [show j + (i + 1) = j + 1 + i by omega] at this
        simpa using this
      have hf' : ∀ (i : Nat) d, os[i]? = some (.fr d) → ∃ w, vs[i]? = some w ∧ Rp B.K F w d := fun i d hd => by
        obtain ⟨w, h1, h2⟩ := hf (i + 1) d (by simpa using hd)
        exact ⟨w, by simpa using h1, h2⟩
      unfold outs at e
      split at e
      · rename_i hj
        split at e
        · rename_i o' eo
          obtain ⟨r', e1, e2⟩ := Option.map_eq_some_iff.mp e
          cases e2
          have hs : σ[j]? = some (some v) := by
            have h0 := hv 0
            rw [hp j hj]
            rw [Nat.add_zero] at h0
            rw [h0]
            rfl
          have r1 := r.take hs (by rw [hg j (Nat.le_refl j)]; exact eo)
          obtain ⟨g3, r3⟩ := outs_ok (g2 := g2.set j none) e1 hl' hv' hp (fun i hi => by
            rw [List.getElem?_set_ne (by omega)]
            exact hg i (by omega)) hf' r1
          exact ⟨g3, r3.tperm List.perm_middle⟩
        · cases e
      · split at e
        · rename_i d
          obtain ⟨r', e1, e2⟩ := Option.map_eq_some_iff.mp e
          cases e2
          obtain ⟨g3, r3⟩ := outs_ok (g2 := g2) e1 hl' hv' hp (fun i hi => hg i (by omega)) hf' r
          obtain ⟨w, h1, h2⟩ := hf 0 d rfl
          obtain rfl : v = w := by simpa using h1
          exact ⟨g3, r3.addFr h2⟩
        · cases e
theorem ents_nil (k : Nat) : ents (List.replicate k none) (List.replicate k none) = [] := by
  induction k with
  | zero => rfl
  | succ k ih =>
    rw [List.replicate_succ, List.replicate_succ]
    exact ih
theorem ents_start : ∀ {vs : List V} {os : List O} (k : Nat), vs.length = os.length → ents (vs.map some ++ List.replicate k none) (os.map some ++ List.replicate k none) = vs.zip os
  | [], [], k, _ => ents_nil k
  | [], _ :: _, k, h => by simp at h
  | _ :: _, [], k, h => by simp at h
  | v :: vs, o :: os, k, h => by
    show (v, o) :: ents (vs.map some ++ List.replicate k none) (os.map some ++ List.replicate k none) = (v, o) :: vs.zip os
    rw [ents_start k (by simpa using h)]
theorem OwL.get {K : PySem.W.Frag} : ∀ {os : List O} {vs : List V} {fp : List Addr} {i : Nat} {d : D}, OwL K F H vs os fp → os[i]? = some (.fr d) → ∃ v, vs[i]? = some v ∧ Rp K F v d
  | [], _, _, i, d, h, e => by simp at e
  | o :: os, _, _, 0, d, h, e => by
    obtain ⟨v, r, f1, f2, rfl, h1, _, _⟩ := h
    simp at e
    subst e
    exact ⟨v, rfl, h1.1⟩
  | o :: os, _, _, i + 1, d, h, e => by
    obtain ⟨v, r, f1, f2, rfl, _, h2, _⟩ := h
    obtain ⟨w, h3, h4⟩ := OwL.get h2 (by simpa using e)
    exact ⟨w, by simpa using h3, h4⟩
theorem run_ok {K : PySem.W.Frag} {N : List Str} {n : Nat} {pin : List Nat} {body : XS} {t : TS} (h : ∀ B : Bs, B.K = K → B.pin = pin → SS B t body) {vs : List V} {H : Hp} {Q : VK} {E : XK} (hp : ∀ j ∈ pin, j < n) (hsp : spM K n (runF N.length n pin body) vs H Q E) :
    t { nx := fun _ H' => Q .non H', rt := Q } (L2.start N vs) H := by
  obtain ⟨hn, F, os, r, os', fp, sF, ow, nd, hF, e, q⟩ := hsp
  have hB := h ⟨K, F, H, fp, pin, vs⟩ rfl rfl
  unfold runF at e
  split at e
  · rename_i hos
    obtain ⟨x, e1, e2⟩ := Option.bind_eq_some_iff.mp e
    have hl : vs.length = os.length := ow.length
    have r0 : Rel ⟨K, F, H, fp, pin, vs⟩ F H (L2.start N vs) (os.map some ++ List.replicate (N.length - n) none) [] := by
      refine ⟨?_, fun i o ho => ?_, sF, Same.refl F, fun b o e _ => e, fun b o e => .inl e, fun j hj => ?_, ?_⟩
      · unfold L2.start
        rw [List.length_append, List.length_append, List.length_map, List.length_map, List.length_replicate, List.length_replicate, hn, hos]
      · have hi : i < os.length := by
          by_cases z : i < os.length
          · exact z
          · rw [List.getElem?_append_right (by rw [List.length_map]; omega), List.length_map, List.getElem?_replicate] at ho
            split at ho <;> cases ho
        unfold L2.start
        have hv : i < vs.length := by omega
        exact ⟨vs[i], by rw [List.getElem?_append_left (by rw [List.length_map]; exact hv), List.getElem?_map, List.getElem?_eq_getElem hv]; rfl⟩
      · unfold L2.start
        have hv : j < vs.length := by rw [hn]; exact hp j hj
        rw [List.getElem?_append_left (by rw [List.length_map]; exact hv), List.getElem?_map]
      · rw [List.append_nil]
        unfold L2.start
        rw [hn, ents_start _ hl]
        exact ⟨fp, zip_owE ow, nd, fun b hb => ⟨hF b hb, .inr hb⟩⟩
    have fin : ∀ (F' H' : Hp) (σ' : L2.St) (g' : G) (v : V) (rr : O), Same F F' → Rel ⟨K, F, H, fp, pin, vs⟩ F' H' σ' g' [(v, rr)] → (outs pin g' 0 os).map (fun os' => (rr, os')) = some (r, os') → Q v H' := by
      intro F' H' σ' g' v rr s' r' eo
      obtain ⟨os2, e3, e4⟩ := Option.map_eq_some_iff.mp eo
      cases e4
      obtain ⟨g3, r3⟩ := outs_ok (B := ⟨K, F, H, fp, pin, vs⟩) (vsA := vs) (g2 := g') e3 hl (fun i => by rw [Nat.zero_add]) r'.pins (fun i _ => rfl) (fun i d hd => by
        obtain ⟨w, h1, h2⟩ := ow.get hd
        exact ⟨w, h1, Rp.mono s' _ _ h2⟩) r'
      have hE : Ents ⟨K, F, H, fp, pin, vs⟩ F' H' ((v, r) :: vs.zip os') := r3.ent.right.perm ((List.perm_append_comm (l₁ := vs.zip os')).trans (.refl _))
      obtain ⟨fp', k1, k2, k3⟩ := hE
      have k4 : OwL K F' H' (v :: vs) (r :: os') fp' := owE_zip (by rw [List.length_cons, List.length_cons, hl, outs_len e3]) (show OwE K F' H' ((v :: vs).zip (r :: os')) fp' from k1)
      refine q F' H' v fp' s' r'.sub (fun b o eb => ?_) (fun b o eb hb => r'.keep b o eb hb) k4 k2 k3
      rcases r'.new b o eb with z | z | z
      · exact .inl z
      · exact .inr (.inl z)
      · exact .inr (.inr z)
    refine hB F H _ _ [] x r0 e1 _ ?_
    cases x with
    | rt o g' => exact fun F' H' σ' v s' r' => fin F' H' σ' g' v o s' r' e2
    | nx g' => exact fun F' H' σ' s' r' => fin F' H' σ' g' .non (.fr .non) s' (r'.addFr rfl) e2
    | bk g' => cases e2
    | ct g' => cases e2
  · cases e
end

section
variable {P : Program} {w : World} {K : PySem.W.Frag} {mg : Str → Option Value} {base : Heap}
/-- a def keeps the promise of its mirror -/
theorem ok_fn {x qual : Str} {st : Stmt} {f : Addr} {fd : FuncData} {N ps : List Str} {k : Nat} {pin : List Nat} {body : XS} (F : Fun K x qual st f fd) (S : FnScope N ps (defScope st)) (hp : ∀ j ∈ pin, j < ps.length)
    (h : ∀ (cdv : Value) (A : Around) (outer : List Env) (s : Shared) (H : Hp) (E : XK), Room k (A.deeper (envOfC qual (defScope st) s.heap.objs.size f cdv)) →
      ∃ t, PSs (cxOf CX0 P w K mg base N qual (defScope st) f cdv A outer s H E).nox (defBody st) t ∧ ∀ B : Bs, B.K = K → B.pin = pin → SS B t body) :
    FnOk P w K mg base CX0 (k + 1) f fd ps (spM K ps.length (runF N.length ps.length pin body)) := by
  refine F.ok S (fun vs H Q E h => h.1) fun cdv A outer s H vs Q E hr hsp => ?_
  obtain ⟨t, ht, hs⟩ := h cdv A outer s H E hr
  exact ⟨t, ht, run_ok hs hp hsp⟩
/-- another mirror that gives no less -/
theorem FnOk.mirror {f : Addr} {fd : FuncData} {ps : List Str} {k n : Nat} {m m' : List O → Option (O × List O)} (F : FnOk P w K mg base CX0 k f fd ps (spM K n m)) (h : ∀ os r, m' os = some r → m os = some r) : FnOk P w K mg base CX0 k f fd ps (spM K n m') :=
  F.imp fun vs H Q E ⟨hn, Fz, os, r, os', fp, a, b, c, d, e, q⟩ => ⟨hn, Fz, os, r, os', fp, a, b, c, d, h _ _ e, q⟩
end
end Mi

set_option Elab.async false
set_option linter.all false
set_option maxRecDepth 100000
/-! Mi4: comprehensions, stores into owned things. -/
namespace Mi
open PySem PySem.Spec PyProof.Rows L2

section
variable {B : Bs} {F F' H H' : Hp} {σ : L2.St} {g : G} {τ : En}

/-! ### one owned object changes -/
theorem Rel.open {E1 : En} (r : Rel B F H σ g (E1 ++ τ)) : ∃ f1, OwE B.K F H E1 f1 ∧ f1.Nodup ∧ ∀ (a : Addr) (u : HO) (E2 : En) (f2 : List Addr), a ∈ f1 → OwE B.K F (upd H a u) E2 f2 → f2.Nodup → (∀ b ∈ f2, b ∈ f1) → Rel B F (upd H a u) σ g (E2 ++ τ) := by
  have hE := r.ent.perm (show (ents σ g ++ (E1 ++ τ)).Perm (E1 ++ (ents σ g ++ τ)) by
    rw [← List.append_assoc, ← List.append_assoc]
    exact List.perm_append_comm.append_right τ)
  obtain ⟨fp, k1, k2, k3⟩ := hE
  obtain ⟨f1, f3, m1, m2, rfl⟩ := OwE.split k1
  have dis := (List.nodup_append.mp k2).2.2
  refine ⟨f1, m1, (List.nodup_append.mp k2).1, fun a u E2 f2 ha ow nd sub => ?_⟩
  have ka := k3 a (List.mem_append_left _ ha)
  refine ⟨r.len, r.cov, fun b x e => ?_, r.f0, fun b x e m => ?_, r.new, r.pins, ?_⟩
  · rw [upd_ne (ne_of_none e ka.1)]
    exact r.sub b x e
  · have hb : b ≠ a := fun z => by
      subst z
      rcases ka.2 with q | q
      · rw [q] at e
        cases e
      · exact m q
    rw [upd_ne hb]
    exact r.keep b x e m
  · have hE2 : Ents B F (upd H a u) (E2 ++ (ents σ g ++ τ)) := by
      refine ⟨f2 ++ f3, OwE.append ow (OwE.mono (Same.refl F) (fun b hb => upd_ne fun z => dis a ha b hb z.symm) m2), List.nodup_append.mpr ⟨nd, (List.nodup_append.mp k2).2.1, fun x hx y hy => dis x (sub x hx) y hy⟩, fun b hb => ?_⟩
      rcases List.mem_append.mp hb with hb | hb
      · exact k3 b (List.mem_append_left _ (sub b hb))
      · exact k3 b (List.mem_append_right _ hb)
    refine hE2.perm ?_
    rw [← List.append_assoc, ← List.append_assoc]
    exact List.perm_append_comm.append_right τ
theorem OwE.one {K : PySem.W.Frag} {v : V} {o : O} {fp : List Addr} (h : OwE K F H [(v, o)] fp) : Ow K F H v o fp := by
  obtain ⟨f1, f2, h1, h2, rfl⟩ := OwE.inv h
  obtain rfl : f2 = [] := h2.2
  rw [List.append_nil]
  exact h1
theorem one_OwE {K : PySem.W.Frag} {v : V} {o : O} {fp : List Addr} (h : Ow K F H v o fp) : OwE K F H [(v, o)] fp := by
  have := OwE.cons (e := (v, o)) h OwE.nil
  rw [List.append_nil] at this
  exact this
theorem Rel.append {v y : V} {o : O} {os : List O} (r : Rel B F H σ g ((y, o) :: (v, .lst os) :: τ)) : ∃ a acc, v = .ref a ∧ H a = some (.lst acc) ∧ acc.length = os.length ∧ Rel B F (upd H a (.lst (acc ++ [y]))) σ g ((v, .lst (os ++ [o])) :: τ) := by
  obtain ⟨f1, k1, k2, k3⟩ := Rel.open (E1 := [(y, o), (v, .lst os)]) (τ := τ) r
  obtain ⟨fo, fl, m1, m2, rfl⟩ := OwE.inv k1
  obtain ⟨a, acc, f, rfl, e2, e3, rfl⟩ := OwE.one m2
  refine ⟨a, acc, rfl, e2, e3.length, k3 a _ [(.ref a, .lst (os ++ [o]))] (a :: (f ++ fo)) (by simp) (one_OwE ⟨a, acc ++ [y], f ++ fo, rfl, upd_same, ?_, rfl⟩) ?_ ?_⟩
  · have hn : ∀ b ∈ f ++ fo, upd H a (.lst (acc ++ [y])) b = H b := fun b hb => upd_ne fun z => by
      subst z
      have nd := List.nodup_append.mp k2
      rcases List.mem_append.mp hb with hb | hb
      · exact (List.nodup_cons.mp nd.2.1).1 hb
      · exact nd.2.2 b hb b List.mem_cons_self rfl
    have hf : OwL B.K F (upd H a (.lst (acc ++ [y]))) acc os f := OwL.mono (Same.refl F) _ _ _ (fun b hb => hn b (List.mem_append_left _ hb)) e3
    have ho : Ow B.K F (upd H a (.lst (acc ++ [y]))) y o fo := Ow.mono (Same.refl F) _ _ _ (fun b hb => hn b (List.mem_append_right _ hb)) m1
    have hz := OwL.append hf (OwL.cons ho OwL.nil)
    rw [List.append_nil] at hz
    exact hz
  · have p : (fo ++ a :: f).Perm (a :: (f ++ fo)) := List.perm_append_comm
    exact p.nodup k2
  · intro b hb
    rcases List.mem_cons.mp hb with rfl | hb
    · simp
    · rcases List.mem_append.mp hb with hb | hb
      · simp [hb]
      · simp [hb]

/-! ### slots that a comprehension has for itself -/
def wipeG (g : G) : List Nat → G
  | [] => g
  | v :: vs => (wipeG g vs).set v none
theorem wipeG_len (g : G) : ∀ vs, (wipeG g vs).length = g.length
  | [] => rfl
  | v :: vs => by
    show ((wipeG g vs).set v none).length = _
    rw [List.length_set, wipeG_len g vs]
theorem wipe_len (σ : L2.St) : ∀ vs, (L2.wipe σ vs).length = σ.length
  | [] => rfl
  | v :: vs => by
    show ((L2.wipe σ vs).set v none).length = _
    rw [List.length_set, wipe_len σ vs]
theorem wipe_out (σ : L2.St) {j : Nat} : ∀ {vs : List Nat}, j ∉ vs → (L2.wipe σ vs)[j]? = σ[j]?
  | [], _ => rfl
  | v :: vs, h => by
    show ((L2.wipe σ vs).set v none)[j]? = _
    rw [List.getElem?_set_ne (fun z => h (by simp [z])), wipe_out σ (fun z => h (by simp [z]))]
theorem wipe_in (σ : L2.St) {j : Nat} : ∀ {vs : List Nat}, j ∈ vs → j < σ.length → (L2.wipe σ vs)[j]? = some none
  | [], h, _ => by cases h
  | v :: vs, h, hl => by
    show ((L2.wipe σ vs).set v none)[j]? = _
    by_cases e : v = j
    · subst e
      rw [List.getElem?_set_self (by rw [wipe_len]; exact hl)]
    · rw [List.getElem?_set_ne e]
      rcases List.mem_cons.mp h with z | z
      · exact (e z.symm).elim
      · exact wipe_in σ z hl
theorem wipeG_out (g : G) {j : Nat} : ∀ {vs : List Nat}, j ∉ vs → (wipeG g vs)[j]? = g[j]?
  | [], _ => rfl
  | v :: vs, h => by
    show ((wipeG g vs).set v none)[j]? = _
    rw [List.getElem?_set_ne (fun z => h (by simp [z])), wipeG_out g (fun z => h (by simp [z]))]
theorem wipeG_in (g : G) {j : Nat} : ∀ {vs : List Nat}, j ∈ vs → ∀ o, (wipeG g vs)[j]? ≠ some (some o)
  | [], h, _ => by cases h
  | v :: vs, h, o => by
    show ((wipeG g vs).set v none)[j]? ≠ _
    by_cases e : v = j
    · subst e
      by_cases hl : v < (wipeG g vs).length
      · rw [List.getElem?_set_self hl]
        intro z
        cases z
      · rw [List.getElem?_eq_none_iff.mpr (by rw [List.length_set]; omega)]
        intro z
        cases z
    · rw [List.getElem?_set_ne e]
      rcases List.mem_cons.mp h with z | z
      · exact (e z.symm).elim
      · exact wipeG_in g z o
theorem wipe_ext {σ σ' : L2.St} {vs : List Nat} (hl : σ'.length = σ.length) (h : ∀ j, j ∉ vs → σ'[j]? = σ[j]?) : L2.wipe σ' vs = L2.wipe σ vs := by
  apply List.ext_getElem?
  intro j
  by_cases hj : j ∈ vs
  · by_cases hb : j < σ.length
    · rw [wipe_in σ hj hb, wipe_in σ' hj (by omega)]
    · rw [List.getElem?_eq_none_iff.mpr (by rw [wipe_len]; omega), List.getElem?_eq_none_iff.mpr (by rw [wipe_len]; omega)]
  · rw [wipe_out σ hj, wipe_out σ' hj, h j hj]
theorem wipe_wipe (σ : L2.St) (vs : List Nat) : L2.wipe (L2.wipe σ vs) vs = L2.wipe σ vs := wipe_ext (wipe_len σ vs) fun j hj => wipe_out σ hj
/-- where no slot of g is set, the values don't matter -/
theorem ents_ext : ∀ {σ σ' : L2.St} {g : G}, σ'.length = σ.length → (∀ (j : Nat) o, g[j]? = some (some o) → σ'[j]? = σ[j]?) → ents σ' g = ents σ g
  | [], [], g, _, _ => rfl
  | [], _ :: _, g, h, _ => by simp at h
  | _ :: _, [], g, h, _ => by simp at h
  | x :: σ, y :: σ', [], h, k => by cases x <;> cases y <;> rfl
  | x :: σ, y :: σ', z :: g, h, k => by
    have ih := ents_ext (σ := σ) (σ' := σ') (g := g) (by simpa using h) fun j o e => by
      have := k (j + 1) o (by simpa using e)
      simpa using this
    cases z with
    | none => cases x <;> cases y <;> exact ih
    | some o =>
      have e := k 0 o rfl
      simp at e
      subst e
      cases y with
      | none => exact ih
      | some v => show (v, o) :: ents σ' g = (v, o) :: ents σ g; rw [ih]
theorem Rel.vals {σ' : L2.St} (r : Rel B F H σ g τ) (hl : σ'.length = σ.length) (h : ∀ (j : Nat) o, g[j]? = some (some o) → σ'[j]? = σ[j]?) (hp : ∀ j ∈ B.pin, σ'[j]? = σ[j]?) : Rel B F H σ' g τ :=
  ⟨by rw [hl]; exact r.len, fun i o e => by
    rw [h i o e]
    exact r.cov i o e, r.sub, r.f0, r.keep, r.new, fun j hj => by rw [hp j hj]; exact r.pins j hj, by rw [ents_ext hl h]; exact r.ent⟩
theorem Rel.wipeGs (r : Rel B F H σ g τ) : ∀ vs, Rel B F H σ (wipeG g vs) τ
  | [] => r
  | v :: vs => (r.wipeGs vs).wipe v
theorem Rel.wipes (r : Rel B F H σ g τ) {vs : List Nat} (hp : ∀ j ∈ B.pin, j ∉ vs) : Rel B F H (L2.wipe σ vs) (wipeG g vs) τ :=
  (r.wipeGs vs).vals (wipe_len σ vs) (fun j o e => by
    by_cases hj : j ∈ vs
    · exact (wipeG_in g hj o e).elim
    · exact wipe_out σ hj) fun j hj => wipe_out σ (hp j hj)
def restG (g0 g : G) : List Nat → G
  | [] => g
  | i :: vs => match g0[i]? with
    | some (some (.fr d)) => (restG g0 g vs).set i (some (.fr d))
    | _ => restG g0 g vs
theorem Rel.rest {g0 : G} (h : ∀ (i : Nat) d, g0[i]? = some (some (.fr d)) → ∃ v, σ[i]? = some (some v) ∧ Rp B.K F v d) : ∀ {vs : List Nat} {g : G}, Rel B F H σ g τ → Rel B F H σ (restG g0 g vs) τ
  | [], g, r => r
  | i :: vs, g, r => by
    unfold restG
    split
    · rename_i d ed
      obtain ⟨v, hv, rp⟩ := h i d ed
      exact ((Rel.rest h r).addFr rp).back' hv
    · exact Rel.rest h r

/-! ### comprehensions -/
/-- a target that stores in the slots of vs alone -/
def SGw (B : Bs) (vs : List Nat) (t : TG) (m : XG) : Prop := ∀ F H σ g τ v o g', Rel B F H σ g ((v, o) :: τ) → m o g = some g' → ∀ Q : L2.St → Hp → Prop,
  (∀ F' H' σ', Same F F' → Rel B F' H' σ' g' τ → σ'.length = σ.length → (∀ j, j ∉ vs → σ'[j]? = σ[j]?) → Q σ' H') → t v σ H Q
def SGsw (B : Bs) (ws : List Nat) (t : TGs) (m : List D → G → Option G) : Prop := ∀ F H σ g τ vs ds g', Rel B F H σ g τ → RpL B.K F vs ds → m ds g = some g' → ∀ Q : L2.St → Hp → Prop,
  (∀ F' H' σ', Same F F' → Rel B F' H' σ' g' τ → σ'.length = σ.length → (∀ j, j ∉ ws → σ'[j]? = σ[j]?) → Q σ' H') → t vs σ H Q
theorem sgw_name {vs : List Nat} {i : Nat} (hp : i ∉ B.pin) (hi : i ∈ vs) : SGw B vs (gName i) (gN i) := by
  intro F H σ g τ v o g' r e Q q
  unfold gN at e
  split at e
  · rename_i hl
    cases e
    exact q F H _ (Same.refl F) (r.put (by rw [← r.len]; exact hl) hp) (List.length_set) fun j hj => List.getElem?_set_ne fun z => hj (by rw [← z]; exact hi)
  · cases e
theorem sgsw_nil {ws : List Nat} : SGsw B ws gNil gsNil := by
  intro F H σ g τ vs ds g' r rp e Q q
  cases ds with
  | nil =>
    cases e
    exact ⟨rp, q F H σ (Same.refl F) r rfl fun _ _ => rfl⟩
  | cons d ds => cases e
theorem sgsw_cons {ws : List Nat} {t : TG} {u : TGs} {a : XG} {b : List D → G → Option G} (ha : SGw B ws t a) (hb : SGsw B ws u b) : SGsw B ws (gCons t u) (gsCons a b) := by
  intro F H σ g τ vs ds g' r rp e Q q
  cases ds with
  | nil => cases e
  | cons d ds =>
    obtain ⟨g1, e1, e2⟩ := Option.bind_eq_some_iff.mp e
    obtain ⟨v, xs, rfl, h1, h2⟩ := rp
    refine ⟨v, xs, rfl, ?_⟩
    exact ha F H σ g τ v (.fr d) g1 (r.addFr h1) e1 _ fun F1 H1 σ1 s1 r1 l1 w1 => hb F1 H1 σ1 g1 τ xs ds g' r1 (RpL.mono s1 _ _ h2) e2 Q fun F2 H2 σ2 s2 r2 l2 w2 => q F2 H2 σ2 (s1.trans s2) r2 (l2.trans l1) fun j hj => (w2 j hj).trans (w1 j hj)
theorem sgw_tup {ws : List Nat} {n : Nat} {u : TGs} {b : List D → G → Option G} (hb : SGsw B ws u b) : SGw B ws (gTup B.K n u) (gTp n b) := by
  intro F H σ g τ v o g' r e Q q
  unfold gTp at e
  split at e
  · rename_i ds
    split at e
    · rename_i hn
      obtain ⟨a, vs, rfl, h1, h2⟩ := r.frd
      refine ⟨a, vs, rfl, Same.sqT r.sub h1, by rw [h2.length]; exact hn, ?_⟩
      exact hb F H σ g τ vs ds g' r.drop h2 e Q q
    · cases e
  · cases e
def lcL (tg : XG) (tt : XT) (te : XE) (vs : List Nat) : List D → G → List O → Option (List O × G)
  | [], g, acc => some (acc, g)
  | d :: ds, g, acc => (tg (.fr d) (wipeG g vs)).bind fun g1 => (tt g1).bind fun p => if p.1 = true then
      (te p.2).bind fun q => if acc.length < sizeLine then lcL tg tt te vs ds q.2 (acc ++ [q.1]) else none
    else lcL tg tt te vs ds p.2 acc
def eLc (it : XI) (tg : XG) (tt : XT) (te : XE) (vs : List Nat) : XE := fun g => (it g).bind fun p => (lcL tg tt te vs p.1 p.2 []).map fun q => (.lst q.1, restG p.2 (wipeG q.2 vs) vs)
theorem Rel.frds (r : Rel B F H σ g τ) : ∀ (i : Nat) d, g[i]? = some (some (.fr d)) → ∃ v, σ[i]? = some (some v) ∧ Rp B.K F v d := fun i d e => by
  obtain ⟨v, hv, r2⟩ := r.slot e
  exact ⟨v, hv, r2.frd⟩
theorem se_lc {wi : TI} {tg : TG} {tt : TT} {te : TE} {vs : List Nat} {it : XI} {mg : XG} {mt : XT} {me : XE} (hp : ∀ j ∈ B.pin, j ∉ vs) (hi : SI B wi it) (hg : SGw B vs tg mg) (ht : ST B tt mt) (he : SE B te me) : SE B (tLc wi tg tt te vs) (eLc it mg mt me vs) := by
  intro F H σ g τ o g' r e Q q
  obtain ⟨⟨ds, g1⟩, e1, e2⟩ := Option.bind_eq_some_iff.mp e
  obtain ⟨⟨os, g2⟩, e3, e4⟩ := Option.map_eq_some_iff.mp e2
  cases e4
  dsimp only at e3
  refine hi F H σ g τ ds g1 r e1 _ fun F1 H1 J s1 r1 w1 => ?_
  intro Dl hD
  have r0 : Rel B F1 (upd H1 Dl (.lst [])) σ g1 ((.ref Dl, .lst []) :: τ) := by
    have gr := Grow.own r1.sub hD (.lst [])
    refine r1.made (fp := [Dl]) gr ⟨Dl, [], [], rfl, upd_same, OwL.nil, rfl⟩ (List.nodup_cons.mpr ⟨List.not_mem_nil, List.nodup_nil⟩) fun b hb => ?_
    rcases List.mem_singleton.mp hb with rfl
    exact ⟨hD, r1.sub.free hD⟩
  refine ⟨fun i m H' => m = ds.length - i ∧ i ≤ ds.length ∧ ∃ F' σ' g' acc, Same F1 F' ∧ L2.wipe σ' vs = L2.wipe σ vs ∧ Rel B F' H' σ' g' ((.ref Dl, .lst acc) :: τ) ∧ lcL mg mt me vs (ds.drop i) g' acc = some (os, g2),
    ⟨ds.length, by simp, Nat.zero_le _, F1, σ, g1, [], Same.refl F1, rfl, r0, e3⟩, ?_⟩
  rintro i m H' ⟨rfl, hil, F', σ', g', acc, s', hw, r', e'⟩
  have w' := w1.mono s'
  have rw' : Rel B F' H' (L2.wipe σ vs) (wipeG g' vs) ((.ref Dl, .lst acc) :: τ) := by
    rw [← hw]
    exact r'.wipes hp
  by_cases hlt : i < ds.length
  · right
    obtain ⟨go, yld⟩ := w'.1 i F' H' (Same.refl F') r'.sub hlt
    have ed : ds.drop i = ds[i] :: ds.drop (i + 1) := List.drop_eq_getElem_cons hlt
    rw [ed] at e'
    obtain ⟨g3, e5, e6⟩ := Option.bind_eq_some_iff.mp e'
    obtain ⟨⟨k, g4⟩, e7, e8⟩ := Option.bind_eq_some_iff.mp e6
    refine ⟨go, fun H2 => ∃ F2 σ2 g5 acc2, Same F1 F2 ∧ L2.wipe σ2 vs = L2.wipe σ vs ∧ Rel B F2 H2 σ2 g5 ((.ref Dl, .lst acc2) :: τ) ∧ lcL mg mt me vs (ds.drop (i + 1)) g5 acc2 = some (os, g2), fun H2 z => ⟨ds.length - (i + 1), by omega, rfl, by omega, z⟩, fun y H3 hy => ?_⟩
    obtain ⟨F3, gr, d, hd, rd⟩ := yld y H3 hy
    rw [List.getElem?_eq_getElem hlt] at hd
    cases hd
    have r3 := (rw'.grow gr).addFr rd
    refine hg F3 H3 (L2.wipe σ vs) (wipeG g' vs) _ y (.fr ds[i]) g3 r3 e5 _ fun F4 H4 σ4 s4 r4 l4 o4 => ?_
    have hw4 : L2.wipe σ4 vs = L2.wipe σ vs := by
      rw [← wipe_wipe σ vs]
      exact wipe_ext l4 o4
    refine ⟨hw4, ?_⟩
    refine ht F4 H4 σ4 g3 _ k g4 r4 e7 _ fun F5 H5 s5 r5 => ?_
    have s15 : Same F1 F5 := ((s'.trans gr.f).trans s4).trans s5
    cases k with
    | false =>
      exact ⟨F5, σ4, g4, acc, s15, hw4, r5, e8⟩
    | true =>
      obtain ⟨⟨o, g6⟩, e9, e10⟩ := Option.bind_eq_some_iff.mp e8
      split at e10
      · rename_i hlen
        refine he F5 H5 σ4 g4 _ o g6 r5 e9 _ fun F6 H6 x s6 r6 => ?_
        obtain ⟨a, ac, ea, h1, h2, r7⟩ := r6.append
        cases ea
        exact ⟨ac, h1, by rw [h2]; exact hlen, F6, σ4, g6, acc ++ [o], s15.trans s6, hw4, r7, e10⟩
      · cases e10
  · left
    have ei : i = ds.length := by omega
    subst ei
    refine ⟨w'.2 F' H' (Same.refl F') r'.sub, ?_⟩
    rw [List.drop_length] at e'
    cases e'
    have r8 : Rel B F' H' σ (wipeG g2 vs) ((.ref Dl, .lst os) :: τ) := by
      exact rw'.vals (wipe_len σ vs).symm (fun j o ej => by
        by_cases hj : j ∈ vs
        · exact (wipeG_in g2 hj o ej).elim
        · exact (wipe_out σ hj).symm) fun j hj => (wipe_out σ (hp j hj)).symm
    exact q F' H' (.ref Dl) (s1.trans s') (Rel.rest (fun i d ed => by
      obtain ⟨v, hv, rp⟩ := r1.frds i d ed
      exact ⟨v, hv, Rp.mono s' _ _ rp⟩) r8)

/-! ### methods of owned lists -/
def xApp (i : Nat) (m : XE) : XE := fun g => match g[i]? with
  | some (some (.lst _)) => (m g).bind fun p => match p.2[i]? with
    | some (some (.lst os)) => if os.length < sizeLine then some (.fr .non, p.2.set i (some (.lst (os ++ [p.1])))) else none
    | _ => none
  | _ => none
theorem Rel.lstAt {i : Nat} {os : List O} (r : Rel B F H σ g τ) (hg : g[i]? = some (some (.lst os))) : ∃ a acc, σ[i]? = some (some (.ref a)) ∧ H a = some (.lst acc) ∧ acc.length = os.length ∧ Rel B F H σ (g.set i none) ((.ref a, .lst os) :: τ) := by
  obtain ⟨v, hv, r2⟩ := r.slot hg
  obtain ⟨f1, k1, _, _⟩ := Rel.open (E1 := [(v, .lst os)]) (τ := τ) r2
  obtain ⟨a, acc, f, rfl, e2, e3, _⟩ := OwE.one k1
  exact ⟨a, acc, hv, e2, e3.length, r2⟩
theorem se_app {i : Nat} {te : TE} {me : XE} (he : SE B te me) : SE B (tBM B.K "list" rAppend (tVar i) (tCons te tNil)) (xApp i me) := by
  intro F H σ g τ o g' r e Q q
  unfold xApp at e
  split at e
  · rename_i os0 eg
    obtain ⟨⟨x, g1⟩, e1, e2⟩ := Option.bind_eq_some_iff.mp e
    dsimp only at e2
    split at e2
    · rename_i os eg1
      split at e2
      · rename_i hl
        cases e2
        obtain ⟨a, acc0, hv, h0, _, _⟩ := r.lstAt eg
        refine ⟨.ref a, hv, .inl ⟨rfl, acc0, SqL.of h0⟩, ?_⟩
        refine he F H σ g τ x g1 r e1 _ fun F1 H1 y s1 r1 => ?_
        have r2 := r1.take hv eg1
        obtain ⟨a', acc, ea, h1, h2, r3⟩ := Rel.append (r2.tperm (.swap _ _ _))
        cases ea
        refine ⟨a, acc, y, rfl, rfl, h1, by rw [h2]; exact hl, ?_⟩
        have r4 := r3.back' hv
        rw [List.set_set] at r4
        exact q F1 _ .non s1 (r4.addFr rfl)
      · cases e2
    · cases e2
  · cases e
/-- xs.pop() -/
def xPop (i : Nat) : XE := fun g => match g[i]? with
  | some (some (.lst os)) => match os.getLast? with
    | some o => some (o, g.set i (some (.lst os.dropLast)))
    | none => none
  | _ => none
theorem OwL.splitLast {K : PySem.W.Frag} : ∀ {os : List O} {vs : List V} {fp : List Addr} {o : O}, OwL K F H vs os fp → os.getLast? = some o → ∃ v f1 f2, vs[vs.length - 1]? = some v ∧ OwL K F H vs.dropLast os.dropLast f1 ∧ Ow K F H v o f2 ∧ fp = f1 ++ f2
  | [], _, _, _, _, e => by simp at e
  | [x], _, _, o, h, e => by
    obtain ⟨v, r, f1, f2, rfl, h1, h2, rfl⟩ := h
    obtain ⟨rfl, rfl⟩ := h2
    have ex : x = o := by simpa using e
    subst ex
    exact ⟨v, [], f1, rfl, OwL.nil, h1, by simp⟩
  | x :: y :: os, _, _, o, h, e => by
    obtain ⟨v, r, f1, f2, rfl, h1, h2, rfl⟩ := h
    have e' : (y :: os).getLast? = some o := by simpa [List.getLast?_cons_cons] using e
    obtain ⟨w, f3, f4, k1, k2, k3, rfl⟩ := OwL.splitLast h2 e'
    have hr : r ≠ [] := by
      intro z
      subst z
      simp at k1
    obtain ⟨z, r', rfl⟩ := List.exists_cons_of_ne_nil hr
    refine ⟨w, f1 ++ f3, f4, ?_, ?_, k3, by rw [List.append_assoc]⟩
    · simpa using k1
    · show OwL K F H (v :: (z :: r').dropLast) (x :: (y :: os).dropLast) (f1 ++ f3)
      exact OwL.cons h1 k2
theorem Rel.popLast {v : V} {os : List O} {o : O} (r : Rel B F H σ g ((v, .lst os) :: τ)) (e : os.getLast? = some o) : ∃ a acc y, v = .ref a ∧ H a = some (.lst acc) ∧ acc[acc.length - 1]? = some y ∧ Rel B F (upd H a (.lst acc.dropLast)) σ g ((v, .lst os.dropLast) :: (y, o) :: τ) := by
  obtain ⟨f1, k1, k2, k3⟩ := Rel.open (E1 := [(v, .lst os)]) (τ := τ) r
  obtain ⟨a, acc, f, rfl, e2, e3, rfl⟩ := OwE.one k1
  obtain ⟨y, g1, g2, h1, h2, h3, rfl⟩ := e3.splitLast e
  have nd := List.nodup_cons.mp k2
  have hn : ∀ b ∈ g1 ++ g2, upd H a (.lst acc.dropLast) b = H b := fun b hb => upd_ne fun z => nd.1 (z ▸ hb)
  refine ⟨a, acc, y, rfl, e2, h1, k3 a _ [(.ref a, .lst os.dropLast), (y, o)] ((a :: g1) ++ g2) List.mem_cons_self (OwE.cons (e := (.ref a, .lst os.dropLast)) ⟨a, acc.dropLast, g1, rfl, upd_same, OwL.mono (Same.refl F) _ _ _ (fun b hb => hn b (List.mem_append_left _ hb)) h2, rfl⟩ (one_OwE (Ow.mono (Same.refl F) _ _ _ (fun b hb => hn b (List.mem_append_right _ hb)) h3))) k2 (fun b hb => hb)⟩
theorem se_pop {i : Nat} : SE B (tBM0 B.K "list" rPop (tVar i)) (xPop i) := by
  intro F H σ g τ o g' r e Q q
  unfold xPop at e
  split at e
  · rename_i os eg
    split at e
    · rename_i x ex
      cases e
      obtain ⟨a, acc, hv, h0, h1, r2⟩ := r.lstAt eg
      obtain ⟨a', acc', y, ea, k1, k2, r3⟩ := r2.popLast ex
      cases ea
      refine ⟨.ref a, hv, .inl ⟨rfl, acc, SqL.of h0⟩, a, acc', y, rfl, rfl, k1, k2, ?_⟩
      have r4 := r3.back' hv
      rw [List.set_set] at r4
      exact q F _ y (Same.refl F) r4
    · cases e
  · cases e

/-! ### xs[i] = v of an owned list -/
theorem OwL.setAt {K : PySem.W.Frag} {y : V} {o : O} {fo : List Addr} (ho : Ow K F H y o fo) : ∀ {os : List O} {vs : List V} {fp : List Addr} {j : Nat}, OwL K F H vs os fp → j < os.length → ∃ f2, OwL K F H (vs.set j y) (os.set j o) f2 ∧ ∃ f3, (f2 ++ f3).Perm (fp ++ fo)
  | [], _, _, j, h, hj => by simp at hj
  | x :: os, _, _, 0, h, _ => by
    obtain ⟨v, r, f1, f2, rfl, h1, h2, rfl⟩ := h
    refine ⟨fo ++ f2, OwL.cons ho h2, f1, ?_⟩
    have p : (fo ++ f2 ++ f1).Perm (f1 ++ (fo ++ f2)) := List.perm_append_comm
    refine p.trans ?_
    rw [List.append_assoc]
    exact List.Perm.append_left _ List.perm_append_comm
  | x :: os, _, _, j + 1, h, hj => by
    obtain ⟨v, r, f1, f2, rfl, h1, h2, rfl⟩ := h
    obtain ⟨f3, k1, f4, p⟩ := OwL.setAt ho h2 (by simpa using hj)
    refine ⟨f1 ++ f3, OwL.cons h1 k1, f4, ?_⟩
    rw [List.append_assoc, List.append_assoc]
    exact p.append_left f1
theorem Rel.setAt {v y : V} {o : O} {os : List O} {j : Nat} (r : Rel B F H σ g ((v, .lst os) :: (y, o) :: τ)) (hj : j < os.length) : ∃ a acc, v = .ref a ∧ H a = some (.lst acc) ∧ acc.length = os.length ∧ Rel B F (upd H a (.lst (acc.set j y))) σ g ((v, .lst (os.set j o)) :: τ) := by
  obtain ⟨f1, k1, k2, k3⟩ := Rel.open (E1 := [(v, .lst os), (y, o)]) (τ := τ) r
  obtain ⟨fl, fo, m1, m2, rfl⟩ := OwE.inv k1
  have m2 := OwE.one m2
  obtain ⟨a, acc, f, rfl, e2, e3, rfl⟩ := m1
  obtain ⟨f2, h1, f3, p⟩ := e3.setAt m2 hj
  have nd := List.nodup_cons.mp k2
  have hin : ∀ b ∈ f2, b ∈ f ++ fo := fun b hb => p.mem_iff.mp (List.mem_append_left _ hb)
  have hn : ∀ b ∈ f2, upd H a (.lst (acc.set j y)) b = H b := fun b hb => upd_ne fun z => nd.1 (z ▸ hin b hb)
  refine ⟨a, acc, rfl, e2, e3.length, k3 a _ [(.ref a, .lst (os.set j o))] (a :: f2) (by simp) (one_OwE ⟨a, acc.set j y, f2, rfl, upd_same, OwL.mono (Same.refl F) _ _ _ hn h1, rfl⟩) ?_ fun b hb => ?_⟩
  · refine List.nodup_cons.mpr ⟨fun z => nd.1 (hin a z), ?_⟩
    exact (List.nodup_append.mp (p.symm.nodup nd.2)).1
  · rcases List.mem_cons.mp hb with rfl | hb
    · simp
    · exact List.mem_cons_of_mem _ (hin b hb)
def gSetL (i : Nat) (mi : XO) : XG := fun o g => match g[i]? with
  | some (some (.lst _)) => (mi g).bind fun p => match view p.2 p.1, p.2[i]? with
    | some (.int k), some (some (.lst os)) => (ixN os.length k).map fun j => p.2.set i (some (.lst (os.set j o)))
    | _, _ => none
  | _ => none
theorem sg_setL {i : Nat} {ti : TE} {mi : XO} (hi : SO B ti mi) : SG B (gSub (tVar i) ti rSetL) (gSetL i mi) := by
  intro F H σ g τ v o g' r e Q q
  unfold gSetL at e
  split at e
  · rename_i os0 eg
    obtain ⟨⟨x, g1⟩, e1, e2⟩ := Option.bind_eq_some_iff.mp e
    dsimp only at e2
    split at e2
    · rename_i k os ek eg1
      obtain ⟨j, e3, e4⟩ := Option.map_eq_some_iff.mp e2
      cases e4
      obtain ⟨a, acc0, hv, h0, _, _⟩ := r.lstAt eg
      refine ⟨.ref a, hv, ?_⟩
      refine hi F H σ g _ x g1 r e1 _ fun F1 H1 y s1 r1 ok => ?_
      obtain rfl : y = .int k := r1.view ok ek
      have r2 := r1.take hv eg1
      obtain ⟨a', acc, ea, h1, h2, r3⟩ := r2.setAt (ixN_seq e3).2.1
      cases ea
      refine ⟨a, acc, k, j, rfl, rfl, h1, by rw [h2]; exact e3, ?_⟩
      have r4 := r3.back' hv
      rw [List.set_set] at r4
      exact q F1 _ σ s1 r4
    · cases e2
  · cases e
end
end Mi

set_option Elab.async false
set_option linter.all false
set_option maxRecDepth 100000
/-! Mi5: operations by data. -/
namespace Mi
open PySem PySem.Spec PyProof.Rows L2

/-! ### data compared -/
mutual
def toPy : D → Option PyData
  | .non => some .none
  | .bl b => some (.bool b)
  | .int i => some (.int i)
  | .str s => some (.str s)
  | .tup ds => (toPyL ds).map .tuple
  | .lst ds => (toPyL ds).map .list
  | .dK _ _ => none
  | .dT _ _ => none
  | .scr _ => none
  | .ob _ _ _ => none
def toPyL : List D → Option (List PyData)
  | [] => some []
  | d :: ds => (toPy d).bind fun p => (toPyL ds).map fun ps => p :: ps
end
section
variable {K : PySem.W.Frag} {H : Hp}
mutual
theorem toPy_dp : ∀ (d : D) (v : V) (p : PyData), Rp K H v d → toPy d = some p → Dp K H v p
  | .non, v, p, h, e => by
    obtain rfl : v = .non := h
    rw [toPy] at e
    cases e
    exact .non
  | .bl b, v, p, h, e => by
    obtain rfl : v = .bl b := h
    rw [toPy] at e
    cases e
    exact .bl b
  | .int b, v, p, h, e => by
    obtain rfl : v = .int b := h
    rw [toPy] at e
    cases e
    exact .int b
  | .str b, v, p, h, e => by
    obtain rfl : v = .str b := h
    rw [toPy] at e
    cases e
    exact .str b
  | .tup ds, v, p, h, e => by
    obtain ⟨a, vs, rfl, h1, h2⟩ := h
    rw [toPy] at e
    obtain ⟨ps, e1, rfl⟩ := Option.map_eq_some_iff.mp e
    exact .tup h1 (toPyL_dp ds vs ps h2 e1)
  | .lst ds, v, p, h, e => by
    obtain ⟨a, vs, rfl, h1, h2⟩ := h
    rw [toPy] at e
    obtain ⟨ps, e1, rfl⟩ := Option.map_eq_some_iff.mp e
    exact .lst (SqL.of h1) (toPyL_dp ds vs ps h2 e1)
  | .dK _ _, v, p, h, e => by
    rw [toPy] at e
    cases e
  | .dT _ _, v, p, h, e => by
    rw [toPy] at e
    cases e
  | .scr _, v, p, h, e => by
    rw [toPy] at e
    cases e
  | .ob _ _ _, v, p, h, e => by
    rw [toPy] at e
    cases e
theorem toPyL_dp : ∀ (ds : List D) (vs : List V) (ps : List PyData), RpL K H vs ds → toPyL ds = some ps → DpAll K H vs ps
  | [], vs, ps, h, e => by
    obtain rfl : vs = [] := h
    rw [toPyL] at e
    cases e
    exact .nil
  | d :: ds, vs, ps, h, e => by
    obtain ⟨v, r, rfl, h1, h2⟩ := h
    rw [toPyL] at e
    obtain ⟨p, e1, e2⟩ := Option.bind_eq_some_iff.mp e
    obtain ⟨qs, e3, rfl⟩ := Option.map_eq_some_iff.mp e2
    exact .cons (toPy_dp d v p h1 e1) (toPyL_dp ds r qs h2 e3)
end
end
def deepEq (d e : D) : Option Bool := (toPy d).bind fun p => (toPy e).bind fun q => if SeqAt.shaped p = true ∧ SeqAt.shaped q = true then some (PyData.eqv p q) else none
def dEqB (d e : D) : Option Bool := match d, e with
  | .int i, .int j => some (decide (i = j))
  | .str i, .str j => some (decide (i = j))
  | .bl i, .bl j => some (decide (i = j))
  | .non, .non => some true
  | .non, .int _ => some false
  | .int _, .non => some false
  | .non, .str _ => some false
  | .str _, .non => some false
  | .non, .bl _ => some false
  | .bl _, .non => some false
  | .int _, .str _ => some false
  | .str _, .int _ => some false
  | .bl _, .str _ => some false
  | .str _, .bl _ => some false
  | d, e => deepEq d e
def dEq (d e : D) : Option D := (dEqB d e).map .bl
def dNe (d e : D) : Option D := (dEqB d e).map fun b => .bl (!b)
def rEqAll (K : PySem.W.Frag) : R2 := fun x y H Q => rEq x y H Q ∨ rEqD K x y H Q
def rNeAll (K : PySem.W.Frag) : R2 := fun x y H Q => rNe x y H Q ∨ rNeD K x y H Q
theorem op_eqAll {X : Cx} (hu : X.A.units + 64 < cLine) : OpR X (compareOp .Eq) (rEqAll X.K) := OpR.or op_eq (op_eqD hu)
theorem op_neAll {X : Cx} (hu : X.A.units + 64 < cLine) : OpR X (compareOp .NotEq) (rNeAll X.K) := OpR.or op_ne (op_neD hu)
/-- either scalars that == tells apart as data does, or data at any depth -/
theorem dEqB_cases {K : PySem.W.Frag} {H : Hp} {x y : V} {d e : D} {b : Bool} (hx : Rp K H x d) (hy : Rp K H y e) (h : dEqB d e = some b) : (scal x y = true ∧ decide (x = y) = b) ∨ ∃ p q, Dp K H x p ∧ Dp K H y q ∧ SeqAt.shaped p = true ∧ SeqAt.shaped q = true ∧ PyData.eqv p q = b := by
  unfold dEqB at h
  split at h
  case h_15 =>
    right
    obtain ⟨p, e1, h⟩ := Option.bind_eq_some_iff.mp h
    obtain ⟨q, e2, h⟩ := Option.bind_eq_some_iff.mp h
    split at h
    · rename_i hs
      cases h
      exact ⟨p, q, toPy_dp _ _ _ hx e1, toPy_dp _ _ _ hy e2, hs.1, hs.2, rfl⟩
    · cases h
  all_goals
    left
    cases h
    cases (show x = _ from hx)
    cases (show y = _ from hy)
    refine ⟨rfl, ?_⟩
    simp
theorem s2_eq {K : PySem.W.Frag} : S2 K (rEqAll K) dEq := by
  intro H x y d e z hx hy h
  obtain ⟨b, h1, rfl⟩ := Option.map_eq_some_iff.mp h
  refine ⟨.bl b, rfl, fun Q q => ?_⟩
  rcases dEqB_cases hx hy h1 with ⟨k1, k2⟩ | ⟨p, r, k1, k2, k3, k4, k5⟩
  · exact .inl ⟨k1, by rw [k2]; exact q⟩
  · exact .inr ⟨p, r, k1, k2, k3, k4, by rw [k5]; exact q⟩
theorem s2_ne {K : PySem.W.Frag} : S2 K (rNeAll K) dNe := by
  intro H x y d e z hx hy h
  obtain ⟨b, h1, rfl⟩ := Option.map_eq_some_iff.mp h
  refine ⟨.bl (!b), rfl, fun Q q => ?_⟩
  rcases dEqB_cases hx hy h1 with ⟨k1, k2⟩ | ⟨p, r, k1, k2, k3, k4, k5⟩
  · exact .inl ⟨k1, by rw [k2]; exact q⟩
  · exact .inr ⟨p, r, k1, k2, k3, k4, by rw [k5]; exact q⟩

/-! ### order -/
def sLt (i j : Str) : Bool := decide (i.cps.toList < j.cps.toList)
def dLt (d e : D) : Option D := match d, e with
  | .int i, .int j => some (.bl (decide (i < j)))
  | .str i, .str j => some (.bl (sLt i j))
  | _, _ => none
def dLe (d e : D) : Option D := match d, e with
  | .int i, .int j => some (.bl (decide (i ≤ j)))
  | .str i, .str j => some (.bl (!sLt j i))
  | _, _ => none
def dGt (d e : D) : Option D := match d, e with
  | .int i, .int j => some (.bl (decide (j < i)))
  | .str i, .str j => some (.bl (sLt j i))
  | _, _ => none
def dGe (d e : D) : Option D := match d, e with
  | .int i, .int j => some (.bl (decide (j ≤ i)))
  | .str i, .str j => some (.bl (!sLt i j))
  | _, _ => none
def rCmpIS (f : Int → Int → Bool) (g : Str → Str → Bool) : R2 := fun x y H Q => (rI0 (fun i j => .bl (f i j))) x y H Q ∨ (∃ i j, x = .str i ∧ y = .str j ∧ Q (.bl (g i j)) H)
theorem op_ltIS {X : Cx} : OpR X (compareOp .Lt) (rCmpIS (fun i j => decide (i < j)) fun i j => sLt i j) := OpR.or op_lt op_lt_str
theorem op_leIS {X : Cx} : OpR X (compareOp .LtE) (rCmpIS (fun i j => decide (i ≤ j)) fun i j => !sLt j i) := OpR.or op_le op_le_str
theorem op_gtIS {X : Cx} : OpR X (compareOp .Gt) (rCmpIS (fun i j => decide (j < i)) fun i j => sLt j i) := OpR.or op_gt op_gt_str
theorem op_geIS {X : Cx} : OpR X (compareOp .GtE) (rCmpIS (fun i j => decide (j ≤ i)) fun i j => !sLt i j) := OpR.or op_ge op_ge_str
theorem s2_is {K : PySem.W.Frag} {f : Int → Int → Bool} {g : Str → Str → Bool} {h : D → D → Option D} (hi : ∀ i j, h (.int i) (.int j) = some (.bl (f i j))) (hs : ∀ i j, h (.str i) (.str j) = some (.bl (g i j)))
    (ho : ∀ d e z, h d e = some z → (∃ i j, d = .int i ∧ e = .int j) ∨ ∃ i j, d = .str i ∧ e = .str j) : S2 K (rCmpIS f g) h := by
  intro H x y d e z hx hy k
  rcases ho d e z k with ⟨i, j, rfl, rfl⟩ | ⟨i, j, rfl, rfl⟩
  · rw [hi] at k
    cases k
    exact ⟨_, rfl, fun Q q => .inl ⟨i, j, hx, hy, q⟩⟩
  · rw [hs] at k
    cases k
    exact ⟨_, rfl, fun Q q => .inr ⟨i, j, hx, hy, q⟩⟩
theorem s2_lt {K : PySem.W.Frag} : S2 K (rCmpIS (fun i j => decide (i < j)) fun i j => sLt i j) dLt := s2_is (fun _ _ => rfl) (fun _ _ => rfl) fun d e z k => by
  cases d <;> cases e <;> first | cases k; fail | exact .inl ⟨_, _, rfl, rfl⟩ | exact .inr ⟨_, _, rfl, rfl⟩ | cases k
theorem s2_le {K : PySem.W.Frag} : S2 K (rCmpIS (fun i j => decide (i ≤ j)) fun i j => !sLt j i) dLe := s2_is (fun _ _ => rfl) (fun _ _ => rfl) fun d e z k => by
  cases d <;> cases e <;> first | cases k; fail | exact .inl ⟨_, _, rfl, rfl⟩ | exact .inr ⟨_, _, rfl, rfl⟩ | cases k
theorem s2_gt {K : PySem.W.Frag} : S2 K (rCmpIS (fun i j => decide (j < i)) fun i j => sLt j i) dGt := s2_is (fun _ _ => rfl) (fun _ _ => rfl) fun d e z k => by
  cases d <;> cases e <;> first | cases k; fail | exact .inl ⟨_, _, rfl, rfl⟩ | exact .inr ⟨_, _, rfl, rfl⟩ | cases k
theorem s2_ge {K : PySem.W.Frag} : S2 K (rCmpIS (fun i j => decide (j ≤ i)) fun i j => !sLt i j) dGe := s2_is (fun _ _ => rfl) (fun _ _ => rfl) fun d e z k => by
  cases d <;> cases e <;> first | cases k; fail | exact .inl ⟨_, _, rfl, rfl⟩ | exact .inr ⟨_, _, rfl, rfl⟩ | cases k

/-! ### is -/
def isNonD : D → Bool | .non => true | _ => false
def dIsN (d e : D) : Option D := match e with
  | .non => some (.bl (isNonD d))
  | _ => none
def dNotN (d e : D) : Option D := match e with
  | .non => some (.bl (!isNonD d))
  | _ => none
theorem rp_non {K : PySem.W.Frag} {H : Hp} {x : V} {d : D} (h : Rp K H x d) : decide (x = .non) = isNonD d := by
  cases d with
  | non => cases (show x = .non from h); rfl
  | bl b => cases (show x = .bl b from h); rfl
  | int b => cases (show x = .int b from h); rfl
  | str b => cases (show x = .str b from h); rfl
  | tup ds => obtain ⟨a, vs, rfl, _⟩ := h; rfl
  | lst ds => obtain ⟨a, vs, rfl, _⟩ := h; rfl
  | dK _ ds => obtain ⟨a, vs, rfl, _⟩ := h; rfl
  | dT _ ds => obtain ⟨a, vs, rfl, _⟩ := h; rfl
  | scr ns => obtain ⟨a, rfl, _⟩ := h; rfl
  | ob _ _ _ => obtain ⟨a, dx, vs, rfl, _⟩ := h; rfl
theorem s2_isN {K : PySem.W.Frag} : S2 K (fun x y H Q => y = .non ∧ Q (.bl (decide (x = .non))) H) dIsN := by
  intro H x y d e z hx hy k
  unfold dIsN at k
  split at k
  · cases k
    cases (show y = .non from hy)
    exact ⟨_, rfl, fun Q q => ⟨rfl, by rw [rp_non hx]; exact q⟩⟩
  · cases k
theorem s2_notN {K : PySem.W.Frag} : S2 K (fun x y H Q => y = .non ∧ Q (.bl (!decide (x = .non))) H) dNotN := by
  intro H x y d e z hx hy k
  unfold dNotN at k
  split at k
  · cases k
    cases (show y = .non from hy)
    exact ⟨_, rfl, fun Q q => ⟨rfl, by rw [rp_non hx]; exact q⟩⟩
  · cases k
def rIsBl : R2 := fun x y H Q => ∃ b, y = .bl b ∧ Q (.bl (decide (x = .bl b))) H
def rNotBl : R2 := fun x y H Q => ∃ b, y = .bl b ∧ Q (.bl (!decide (x = .bl b))) H
theorem is_plainV {x : V} {u : Value} {b : Bool} (rx : RelV x u) : plainIs u (.bool b) = true ∧ (u == Value.bool b) = decide (x = .bl b) := by
  cases x with
  | non => cases rx; exact ⟨rfl, rfl⟩
  | bl c =>
    cases rx
    refine ⟨rfl, ?_⟩
    by_cases e : c = b
    · subst e; simp
    · have e1 : (Value.bool c == Value.bool b) = false := by simpa using e
      have e2 : ¬ (V.bl c = V.bl b) := fun z => e (V.bl.inj z)
      rw [e1, decide_eq_false e2]
  | int i => obtain ⟨t, rfl⟩ := rx; exact ⟨rfl, rfl⟩
  | str i => obtain ⟨t, rfl⟩ := rx; exact ⟨rfl, rfl⟩
  | byt i => obtain ⟨t, rfl⟩ := rx; exact ⟨rfl, rfl⟩
  | flt i => obtain ⟨t, rfl⟩ := rx; exact ⟨rfl, rfl⟩
  | ref a => cases rx; exact ⟨rfl, rfl⟩
  | ty n => cases rx; exact ⟨rfl, rfl⟩
theorem op_isBl1 {X : Cx} : OpR X (compareOp .Is) rIsBl := by
  intro pins s σ H x y v u Q I rx ry h
  obtain ⟨b, rfl, q⟩ := h
  cases (show u = Value.bool b from ry)
  obtain ⟨h1, h2⟩ := is_plainV (b := b) rx
  exact wpAny_is_plain h1 ⟨.bl _, H, I, rfl, by rw [h2]; exact q⟩
theorem op_notBl1 {X : Cx} : OpR X (compareOp .IsNot) rNotBl := by
  intro pins s σ H x y v u Q I rx ry h
  obtain ⟨b, rfl, q⟩ := h
  cases (show u = Value.bool b from ry)
  obtain ⟨h1, h2⟩ := is_plainV (b := b) rx
  exact wpAny_isNot_plain h1 ⟨.bl _, H, I, rfl, by rw [h2]; exact q⟩
def isBl (d : D) (b : Bool) : Bool := match d with | .bl c => c == b | _ => false
def dIsB (d e : D) : Option D := match e with
  | .bl b => some (.bl (isBl d b))
  | _ => none
def dNotB (d e : D) : Option D := match e with
  | .bl b => some (.bl (!isBl d b))
  | _ => none
theorem rp_bl {K : PySem.W.Frag} {H : Hp} {x : V} {d : D} {b : Bool} (h : Rp K H x d) : decide (x = .bl b) = isBl d b := by
  cases d with
  | non => cases (show x = .non from h); rfl
  | bl c =>
    cases (show x = .bl c from h)
    rw [dec_bl]
    rfl
  | int b => cases (show x = .int b from h); rfl
  | str b => cases (show x = .str b from h); rfl
  | tup ds => obtain ⟨a, vs, rfl, _⟩ := h; rfl
  | lst ds => obtain ⟨a, vs, rfl, _⟩ := h; rfl
  | dK _ ds => obtain ⟨a, vs, rfl, _⟩ := h; rfl
  | dT _ ds => obtain ⟨a, vs, rfl, _⟩ := h; rfl
  | scr ns => obtain ⟨a, rfl, _⟩ := h; rfl
  | ob _ _ _ => obtain ⟨a, dx, vs, rfl, _⟩ := h; rfl
theorem s2_isB {K : PySem.W.Frag} : S2 K rIsBl dIsB := by
  intro H x y d e z hx hy k
  unfold dIsB at k
  split at k
  · rename_i b
    cases k
    exact ⟨_, rfl, fun Q q => ⟨b, hy, by rw [rp_bl hx]; exact q⟩⟩
  · cases k
theorem s2_notB {K : PySem.W.Frag} : S2 K rNotBl dNotB := by
  intro H x y d e z hx hy k
  unfold dNotB at k
  split at k
  · rename_i b
    cases k
    exact ⟨_, rfl, fun Q q => ⟨b, hy, by rw [rp_bl hx]; exact q⟩⟩
  · cases k

/-! ### arithmetic -/
section
variable {K : PySem.W.Frag}
def dSub (d e : D) : Option D := match d, e with
  | .int i, .int j => some (.int (i - j))
  | _, _ => none
theorem s2_sub : S2 K (rI0 fun i j => .int (i - j)) dSub := by
  intro H x y d e z hx hy k
  unfold dSub at k
  split at k
  · cases k
    exact ⟨_, rfl, fun Q q => ⟨_, _, hx, hy, q⟩⟩
  · cases k
def dMod (d e : D) : Option D := match d, e with
  | .int i, .int j => if j ≠ 0 then some (.int (i.fmod j)) else none
  | _, _ => none
theorem s2_mod : S2 K (rI (fun _ j => j ≠ 0) fun i j => .int (i.fmod j)) dMod := by
  intro H x y d e z hx hy k
  unfold dMod at k
  split at k
  · split at k
    · rename_i hj
      cases k
      exact ⟨_, rfl, fun Q q => ⟨_, _, hx, hy, hj, q⟩⟩
    · cases k
  · cases k
def CDivX (_ j : Int) : Prop := j ≠ 0 ∧ j.natAbs.log2 < 9000
instance (i j : Int) : Decidable (CDivX i j) := by unfold CDivX; exact inferInstance
theorem op_fdivX {X : Cx} : OpR X (binaryOp .FloorDiv) (rI CDivX fun i j => .int (i.fdiv j)) := opI fun i j _ _ _ _ _ hc q => floordiv_int hc.1 q (.inl (PyProof.noPylong_of_log2 hc.2))
def dFdiv (d e : D) : Option D := match d, e with
  | .int i, .int j => if CDivX i j then some (.int (i.fdiv j)) else none
  | _, _ => none
theorem s2_fdiv : S2 K (rI CDivX fun i j => .int (i.fdiv j)) dFdiv := by
  intro H x y d e z hx hy k
  unfold dFdiv at k
  split at k
  · split at k
    · rename_i hj
      cases k
      exact ⟨_, rfl, fun Q q => ⟨_, _, hx, hy, hj, q⟩⟩
    · cases k
  · cases k
def dPow (d e : D) : Option D := match d, e with
  | .int i, .int j => if 0 ≤ j ∧ j ≤ 1000000 ∧ i.natAbs < 2 ^ 64 then some (.int (i ^ j.toNat)) else none
  | _, _ => none
theorem s2_pow : S2 K (rI CPow fun i j => .int (i ^ j.toNat)) dPow := by
  intro H x y d e z hx hy k
  unfold dPow at k
  split at k
  · split at k
    · rename_i hj
      cases k
      exact ⟨_, rfl, fun Q q => ⟨_, _, hx, hy, hj, q⟩⟩
    · cases k
  · cases k
def dNeg (d : D) : Option D := match d with
  | .int i => some (.int (-i))
  | _ => none
theorem s1_neg : S1 K (rU fun i => .int (-i)) dNeg := by
  intro H x d z hx k
  unfold dNeg at k
  split at k
  · cases k
    exact ⟨_, rfl, fun Q q => ⟨_, hx, q⟩⟩
  · cases k

/-! + : ints, texts, lists, tuples -/
def rAddAll (K : PySem.W.Frag) : R2 := fun x y H Q => (rI0 (fun i j => .int (i + j))) x y H Q ∨ (∃ i j, x = .str i ∧ y = .str j ∧ i.length + j.length ≤ sizeLine ∧ Q (.str (i ++ j)) H) ∨ rCat x y H Q ∨ rCatA K x y H Q
theorem op_addAll {X : Cx} : OpR X (binaryOp .Add) (rAddAll X.K) := OpR.or op_add (OpR.or op_add_str (OpR.or op_cat op_catA))
def dAdd (d e : D) : Option O := match d, e with
  | .int i, .int j => some (.fr (.int (i + j)))
  | .str i, .str j => if i.length + j.length ≤ sizeLine then some (.fr (.str (i ++ j))) else none
  | .lst a, .lst b => if a.length + b.length ≤ sizeLine then some (.lst ((a ++ b).map O.fr)) else none
  | .tup a, .tup b => if a.length + b.length ≤ sizeLine then some (.fr (.tup (a ++ b))) else none
  | _, _ => none
theorem a2_add : A2 K (rAddAll K) dAdd := by
  intro F H x y d e z s hx hy k Q q
  unfold dAdd at k
  split at k
  · cases k
    exact .inl ⟨_, _, hx, hy, made_fr (K := K) s (v := V.int _) (d := D.int _) rfl q⟩
  · split at k
    · rename_i hl
      cases k
      exact .inr (.inl ⟨_, _, hx, hy, hl, made_fr (K := K) s (v := V.str _) (d := D.str _) rfl q⟩)
    · cases k
  · split at k
    · rename_i hl
      cases k
      obtain ⟨a, vs, rfl, h1, h2⟩ := hx
      obtain ⟨b, ws, rfl, h3, h4⟩ := hy
      exact .inr (.inr (.inl ⟨a, b, vs, ws, rfl, rfl, s _ _ h1, s _ _ h3, by rw [h2.length, h4.length]; exact hl, fun p hp => made_lst (K := K) s hp (h2.append h4) q⟩))
    · cases k
  · split at k
    · rename_i hl
      cases k
      obtain ⟨a, vs, rfl, h1, h2⟩ := hx
      obtain ⟨b, ws, rfl, h3, h4⟩ := hy
      refine .inr (.inr (.inr ⟨a, b, vs, ws, rfl, rfl, Same.sqT s h1, Same.sqT s h3, by rw [h2.length, h4.length]; exact hl, fun hv => ?_, fun _ hv => ?_, fun _ _ p hp => made_tup (K := K) s hp (h2.append h4) q⟩))
      · subst hv
        have e1 := h2.length
        rw [List.length_nil] at e1
        obtain rfl := List.length_eq_zero_iff.mp e1.symm
        exact made_fr (K := K) s (v := .ref b) (d := .tup _) ⟨b, ws, rfl, h3, h4⟩ q
      · subst hv
        have e1 := h4.length
        rw [List.length_nil] at e1
        obtain rfl := List.length_eq_zero_iff.mp e1.symm
        rw [List.append_nil] at q
        exact made_fr (K := K) s (v := .ref a) (d := .tup _) ⟨a, vs, rfl, h1, h2⟩ q
    · cases k
  · cases k

/-! * : ints, a list by an int -/
def mulOk (i j : Int) : Bool := decide (-(2 ^ 64) < i ∧ i < 2 ^ 64) || decide (-(2 ^ 64) < j ∧ j < 2 ^ 64) || decide (i.natAbs.log2 + j.natAbs.log2 < 1000000)
def rMulAll : R2 := fun x y H Q => rI CMul (fun i j => .int (i * j)) x y H Q ∨ rI CMulW (fun i j => .int (i * j)) x y H Q ∨ rRep x y H Q
theorem op_mulAll {X : Cx} : OpR X (binaryOp .Mult) rMulAll := OpR.or op_mul (OpR.or op_mulW op_rep)
def dMul (d e : D) : Option O := match d, e with
  | .int i, .int j => if mulOk i j = true then some (.fr (.int (i * j))) else none
  | .lst a, .int k => if (-(2 ^ 63) ≤ k ∧ k < 2 ^ 63) ∧ a.length * k.toNat ≤ sizeLine then some (.lst ((List.replicate k.toNat a).flatten.map O.fr)) else none
  | _, _ => none
theorem RpL.rep {F : Hp} {vs : List V} {ds : List D} (h : RpL K F vs ds) : ∀ n : Nat, RpL K F (List.replicate n vs).flatten (List.replicate n ds).flatten
  | 0 => RpL.nil
  | n + 1 => by
    rw [List.replicate_succ, List.replicate_succ, List.flatten_cons, List.flatten_cons]
    exact h.append (RpL.rep h n)
theorem a2_mul : A2 K rMulAll dMul := by
  intro F H x y d e z s hx hy k Q q
  unfold dMul at k
  split at k
  · rename_i i j
    split at k
    · rename_i hm
      cases k
      have hq : Q (.int (i * j)) H := made_fr (K := K) s (v := V.int _) (d := D.int _) rfl q
      unfold mulOk at hm
      rw [Bool.or_eq_true, Bool.or_eq_true] at hm
      rcases hm with (hm | hm) | hm
      · exact .inl ⟨i, j, hx, hy, .inl (of_decide_eq_true hm), hq⟩
      · exact .inl ⟨i, j, hx, hy, .inr (of_decide_eq_true hm), hq⟩
      · exact .inr (.inl ⟨i, j, hx, hy, (show CMulW i j from (of_decide_eq_true hm : i.natAbs.log2 + j.natAbs.log2 < 1000000)), hq⟩)
    · cases k
  · split at k
    · rename_i hk
      cases k
      obtain ⟨a, vs, rfl, h1, h2⟩ := hx
      exact .inr (.inr ⟨a, _, vs, rfl, hy, s _ _ h1, hk.1.1, hk.1.2, by rw [h2.length]; exact hk.2, fun p hp => made_lst (K := K) s hp (h2.rep _) q⟩)
    · cases k
  · cases k

/-! ### built-in calls -/
def dAbs (ds : List D) : Option D := match ds with
  | [.int i] => some (.int (if i < 0 then -i else i))
  | _ => none
theorem RpL.one {H : Hp} {vs : List V} {d : D} (h : RpL K H vs [d]) : ∃ v, vs = [v] ∧ Rp K H v d := by
  obtain ⟨v, r, rfl, h1, h2⟩ := h
  obtain rfl : r = [] := h2
  exact ⟨v, rfl, h1⟩
theorem RpL.two {H : Hp} {vs : List V} {d e : D} (h : RpL K H vs [d, e]) : ∃ v w, vs = [v, w] ∧ Rp K H v d ∧ Rp K H w e := by
  obtain ⟨v, r, rfl, h1, h2⟩ := h
  obtain ⟨w, rfl, h3⟩ := h2.one
  exact ⟨v, w, rfl, h1, h3⟩
theorem sn_abs : SN K (fun xs H Q => ∃ i, xs = [.int i] ∧ Q (.int (if i < 0 then -i else i)) H) dAbs := by
  intro H vs ds z h k
  unfold dAbs at k
  split at k
  · rename_i i
    cases k
    obtain ⟨v, rfl, hv⟩ := h.one
    cases (show v = V.int i from hv)
    exact ⟨_, rfl, fun Q q => ⟨i, rfl, q⟩⟩
  · cases k
def dGcd (ds : List D) : Option D := match ds with
  | [.int a, .int b] => some (.int ((Nat.gcd a.natAbs b.natAbs : Nat) : Int))
  | _ => none
theorem sn_gcd : SN K rGcd dGcd := by
  intro H vs ds z h k
  unfold dGcd at k
  split at k
  · rename_i a b
    cases k
    obtain ⟨v, w, rfl, hv, hw⟩ := h.two
    cases (show v = V.int a from hv)
    cases (show w = V.int b from hw)
    exact ⟨_, rfl, fun Q q => ⟨a, b, rfl, q⟩⟩
  · cases k
/-- int(n), int(flag), int(text) -/
def rIntOf : List V → Hp → VK → Prop := fun xs H Q => ((∃ i, xs = [.int i] ∧ Q (.int i) H) ∨ ∃ k, xs = [.bl k] ∧ Q (.int (if k then 1 else 0)) H) ∨ ∃ a n, xs = [.str a] ∧ PySem.intText? a = some n ∧ a.length ≤ 640 ∧ Q (.int n) H
theorem call_intOf {X : Cx} : CallR X (.type "int") rIntOf := CallR.or call_int1 call_int_str
def dIntOf (ds : List D) : Option D := match ds with
  | [.int i] => some (.int i)
  | [.bl k] => some (.int (if k then 1 else 0))
  | [.str a] => if a.length ≤ 640 then (PySem.intText? a).map .int else none
  | _ => none
theorem sn_intOf : SN K rIntOf dIntOf := by
  intro H vs ds z h k
  unfold dIntOf at k
  split at k
  · rename_i i
    cases k
    obtain ⟨v, rfl, hv⟩ := h.one
    cases (show v = V.int i from hv)
    exact ⟨_, rfl, fun Q q => .inl (.inl ⟨i, rfl, q⟩)⟩
  · rename_i b
    cases k
    obtain ⟨v, rfl, hv⟩ := h.one
    cases (show v = V.bl b from hv)
    exact ⟨_, rfl, fun Q q => .inl (.inr ⟨b, rfl, q⟩)⟩
  · rename_i a
    split at k
    · rename_i hl
      obtain ⟨n, hn, rfl⟩ := Option.map_eq_some_iff.mp k
      obtain ⟨v, rfl, hv⟩ := h.one
      cases (show v = V.str a from hv)
      exact ⟨_, rfl, fun Q q => .inr ⟨a, n, rfl, hn, hl, q⟩⟩
    · cases k
  · cases k
/-- str(n), str(text) -/
def rStrOf : List V → Hp → VK → Prop := fun xs H Q => (∃ i, xs = [.int i] ∧ i.natAbs.log2 < 1920 ∧ Q (.str (toString i)) H) ∨ ∃ a, xs = [.str a] ∧ Q (.str a) H
theorem call_strOf {X : Cx} : CallR X (.type "str") rStrOf := CallR.or call_str_int SkE.call_str_str
def dStrOf (ds : List D) : Option D := match ds with
  | [.int i] => if i.natAbs.log2 < 1920 then some (.str (toString i)) else none
  | [.str a] => some (.str a)
  | _ => none
theorem sn_strOf : SN K rStrOf dStrOf := by
  intro H vs ds z h k
  unfold dStrOf at k
  split at k
  · rename_i i
    split at k
    · rename_i hl
      cases k
      obtain ⟨v, rfl, hv⟩ := h.one
      cases (show v = V.int i from hv)
      exact ⟨_, rfl, fun Q q => .inl ⟨i, rfl, hl, q⟩⟩
    · cases k
  · rename_i a
    cases k
    obtain ⟨v, rfl, hv⟩ := h.one
    cases (show v = V.str a from hv)
    exact ⟨_, rfl, fun Q q => .inr ⟨a, rfl, q⟩⟩
  · cases k
/-- len -/
def rLenAll (K : PySem.W.Frag) : List V → Hp → VK → Prop := fun xs H Q => (∃ x n, xs = [x] ∧ LenV K x H n ∧ Q (.int n) H) ∨ (∃ a kvs, xs = [V.ref a] ∧ H a = some (.dK kvs) ∧ Q (.int kvs.length) H)
theorem call_lenAll {X : Cx} : CallR X (.builtin "len") (rLenAll X.K) := CallR.or call_len call_lenD
def dLen (ds : List D) : Option D := match ds with
  | [.str s] => if s.length ≤ sizeLine then some (.int (s.length : Nat)) else none
  | [.tup es] => some (.int (es.length : Nat))
  | [.lst es] => some (.int (es.length : Nat))
  | [.scr ns] => some (.int (ns.length : Nat))
  | _ => none
theorem sn_len : SN K (rLenAll K) dLen := by
  intro H vs ds z h k
  unfold dLen at k
  split at k
  · rename_i a
    split at k
    · rename_i hl
      cases k
      obtain ⟨v, rfl, hv⟩ := h.one
      cases (show v = V.str a from hv)
      exact ⟨_, rfl, fun Q q => .inl ⟨_, _, rfl, ⟨hl, rfl⟩, q⟩⟩
    · cases k
  · cases k
    obtain ⟨v, rfl, hv⟩ := h.one
    obtain ⟨a, ws, rfl, h1, h2⟩ := hv
    exact ⟨_, rfl, fun Q q => .inl ⟨_, _, rfl, .inr ⟨ws, h1, h2.length.symm⟩, q⟩⟩
  · cases k
    obtain ⟨v, rfl, hv⟩ := h.one
    obtain ⟨a, ws, rfl, h1, h2⟩ := hv
    exact ⟨_, rfl, fun Q q => .inl ⟨_, _, rfl, .inl ⟨ws, SqL.of h1, h2.length.symm⟩, q⟩⟩
  · cases k
    obtain ⟨v, rfl, hv⟩ := h.one
    obtain ⟨a, rfl, h1⟩ := hv
    exact ⟨_, rfl, fun Q q => .inl ⟨_, _, rfl, .inl ⟨_, h1, by rw [List.length_map]⟩, q⟩⟩
  · cases k
/-- tuple(..), list(..) -/
def rTupOf (K : PySem.W.Frag) : List V → Hp → VK → Prop := fun xs H Q => ∃ p ys, xs = [.ref p] ∧ ((SqL K H p ys ∧ ∀ l, H l = none → Q (.ref l) (upd H l (.tup ys))) ∨ (SqT K H p ys ∧ Q (.ref p) H))
theorem call_tupOf {X : Cx} : CallR X (.type "tuple") (rTupOf X.K) := call_tuple_of
def dTupOf (ds : List D) : Option O := match ds with
  | [.lst es] => some (.fr (.tup es))
  | [.tup es] => some (.fr (.tup es))
  | _ => none
theorem an_tupOf : AN K (rTupOf K) dTupOf := by
  intro F H vs ds z s h k Q q
  unfold dTupOf at k
  split at k
  · cases k
    obtain ⟨v, rfl, hv⟩ := h.one
    obtain ⟨a, ws, rfl, h1, h2⟩ := hv
    exact ⟨a, ws, rfl, .inl ⟨SqL.of (s _ _ h1), fun p hp => made_tup (K := K) s hp h2 q⟩⟩
  · cases k
    obtain ⟨v, rfl, hv⟩ := h.one
    have hv' := hv
    obtain ⟨a, ws, rfl, h1, h2⟩ := hv
    exact ⟨a, ws, rfl, .inr ⟨Same.sqT s h1, made_fr (K := K) s hv' q⟩⟩
  · cases k
def rLstOf (K : PySem.W.Frag) : List V → Hp → VK → Prop := fun xs H Q => ∃ p ys, xs = [.ref p] ∧ (SqL K H p ys ∨ SqT K H p ys) ∧ ∀ l, H l = none → Q (.ref l) (upd H l (.lst ys))
theorem call_lstOf {X : Cx} : CallR X (.type "list") (rLstOf X.K) := call_list_of
def dLstOf (ds : List D) : Option O := match ds with
  | [.lst es] => some (.lst (es.map O.fr))
  | [.tup es] => some (.lst (es.map O.fr))
  | _ => none
theorem an_lstOf : AN K (rLstOf K) dLstOf := by
  intro F H vs ds z s h k Q q
  unfold dLstOf at k
  split at k
  · cases k
    obtain ⟨v, rfl, hv⟩ := h.one
    obtain ⟨a, ws, rfl, h1, h2⟩ := hv
    exact ⟨a, ws, rfl, .inl (SqL.of (s _ _ h1)), fun p hp => made_lst (K := K) s hp h2 q⟩
  · cases k
    obtain ⟨v, rfl, hv⟩ := h.one
    obtain ⟨a, ws, rfl, h1, h2⟩ := hv
    exact ⟨a, ws, rfl, .inr (Same.sqT s h1), fun p hp => made_lst (K := K) s hp h2 q⟩
  · cases k
end

/-! ### isinstance of a built-in type -/
def tyN : D → String
  | .non => "NoneType" | .bl _ => "bool" | .int _ => "int" | .str _ => "str" | .tup _ => "tuple" | .lst _ => "list" | .dK _ _ => "dict" | .dT _ _ => "dict" | .scr _ => "list" | .ob _ _ _ => "NoneType"
def isDT : D → Bool | .dT _ _ => true | .ob _ _ _ => true | _ => false
theorem tyN_x {K : PySem.W.Frag} {H : Hp} {v : V} {d : D} (h : Rp K H v d) (hd : isDT d ≠ true) : TyX K H v (.type (tyN d)) := by
  cases d with
  | non => cases (show v = .non from h); exact .base .non
  | bl b => cases (show v = .bl b from h); exact .base (.bl b)
  | int b => cases (show v = .int b from h); exact .base (.int b)
  | str b => cases (show v = .str b from h); exact .base (.str b)
  | tup ds =>
    obtain ⟨a, vs, rfl, h1, _⟩ := h
    rcases h1 with (h1 | ⟨o, h1⟩) | ⟨o, its, n, hk, hc, _⟩
    · exact .base (.tup h1)
    · exact .fTuple h1
    · exact .kTuple hk hc
  | lst ds =>
    obtain ⟨a, vs, rfl, h1, _⟩ := h
    exact .base (.lst h1)
  | dK ks ds =>
    obtain ⟨a, kvs, rfl, h1, _⟩ := h
    rcases h1 with h1 | ⟨o, h1⟩
    · exact .base (.dK h1)
    · exact .fDict h1
  | dT ks ds => exact (hd rfl).elim
  | ob _ _ _ => exact (hd rfl).elim
  | scr ns =>
    obtain ⟨a, rfl, h1⟩ := h
    rcases h1 with (h1 | ⟨o, h1⟩) | ⟨o, its, n, hk, hc, _⟩
    · exact .base (.lst h1)
    · exact .base (.frz h1)
    · exact .kList hk hc
/-- isinstance(x, T): f tells by the data -/
structure IsTy (T : String) (f : D → Bool) : Prop where
  ok : ∀ d, kitB (tyN d) T = some (f d)
def xIsi (f : D → Bool) (m : XO) : XE := fun g => (m g).bind fun p => (view p.2 p.1).bind fun d => if isDT d = true then none else some (.fr (.bl (f d)), p.2)
theorem se_isi {B : Bs} {T : String} {f : D → Bool} {t : TE} {m : XO} (hT : IsTy T f) (h : SO B t m) : SE B (tCB (rIsi B.K) (tCons t (tCons (tC (.ty T)) tNil))) (xIsi f m) := by
  intro F H σ g τ o g' rl e Q q
  obtain ⟨⟨a, g1⟩, e1, e2⟩ := Option.bind_eq_some_iff.mp e
  obtain ⟨d, e3, e4⟩ := Option.bind_eq_some_iff.mp e2
  split at e4
  · cases e4
  · rename_i hd
    cases e4
    refine h F H σ g τ a g1 rl e1 _ fun F1 H1 v s1 r1 ok1 => ?_
    have rp := r1.view ok1 e3
    exact ⟨v, .ty T, .type (tyN d), .type T, f d, rfl, .ty T, tyN_x rp hd, kit_ty (hT.ok d), q F1 H1 _ s1 (r1.addFr rfl)⟩
def isInt : D → Bool | .int _ => true | .bl _ => true | _ => false
def isBool : D → Bool | .bl _ => true | _ => false
def isStr : D → Bool | .str _ => true | _ => false
def isTup : D → Bool | .tup _ => true | _ => false
def isLst : D → Bool | .lst _ => true | .scr _ => true | _ => false
def isDct : D → Bool | .dK _ _ => true | .dT _ _ => true | _ => false
theorem isTy_int : IsTy "int" isInt := ⟨fun d => match d with
  | .non => (by decide +kernel : kitB "NoneType" "int" = some false)
  | .bl _ => (by decide +kernel : kitB "bool" "int" = some true)
  | .int _ => (by decide +kernel : kitB "int" "int" = some true)
  | .str _ => (by decide +kernel : kitB "str" "int" = some false)
  | .tup _ => (by decide +kernel : kitB "tuple" "int" = some false)
  | .lst _ => (by decide +kernel : kitB "list" "int" = some false)
  | .dK _ _ => (by decide +kernel : kitB "dict" "int" = some false)
  | .dT _ _ => (by decide +kernel : kitB "dict" "int" = some false)
  | .scr _ => (by decide +kernel : kitB "list" "int" = some false)
  | .ob _ _ _ => (by decide +kernel : kitB "NoneType" "int" = some false)⟩
theorem isTy_bool : IsTy "bool" isBool := ⟨fun d => match d with
  | .non => (by decide +kernel : kitB "NoneType" "bool" = some false)
  | .bl _ => (by decide +kernel : kitB "bool" "bool" = some true)
  | .int _ => (by decide +kernel : kitB "int" "bool" = some false)
  | .str _ => (by decide +kernel : kitB "str" "bool" = some false)
  | .tup _ => (by decide +kernel : kitB "tuple" "bool" = some false)
  | .lst _ => (by decide +kernel : kitB "list" "bool" = some false)
  | .dK _ _ => (by decide +kernel : kitB "dict" "bool" = some false)
  | .dT _ _ => (by decide +kernel : kitB "dict" "bool" = some false)
  | .scr _ => (by decide +kernel : kitB "list" "bool" = some false)
  | .ob _ _ _ => (by decide +kernel : kitB "NoneType" "bool" = some false)⟩
theorem isTy_str : IsTy "str" isStr := ⟨fun d => match d with
  | .non => (by decide +kernel : kitB "NoneType" "str" = some false)
  | .bl _ => (by decide +kernel : kitB "bool" "str" = some false)
  | .int _ => (by decide +kernel : kitB "int" "str" = some false)
  | .str _ => (by decide +kernel : kitB "str" "str" = some true)
  | .tup _ => (by decide +kernel : kitB "tuple" "str" = some false)
  | .lst _ => (by decide +kernel : kitB "list" "str" = some false)
  | .dK _ _ => (by decide +kernel : kitB "dict" "str" = some false)
  | .dT _ _ => (by decide +kernel : kitB "dict" "str" = some false)
  | .scr _ => (by decide +kernel : kitB "list" "str" = some false)
  | .ob _ _ _ => (by decide +kernel : kitB "NoneType" "str" = some false)⟩
theorem isTy_tup : IsTy "tuple" isTup := ⟨fun d => match d with
  | .non => (by decide +kernel : kitB "NoneType" "tuple" = some false)
  | .bl _ => (by decide +kernel : kitB "bool" "tuple" = some false)
  | .int _ => (by decide +kernel : kitB "int" "tuple" = some false)
  | .str _ => (by decide +kernel : kitB "str" "tuple" = some false)
  | .tup _ => (by decide +kernel : kitB "tuple" "tuple" = some true)
  | .lst _ => (by decide +kernel : kitB "list" "tuple" = some false)
  | .dK _ _ => (by decide +kernel : kitB "dict" "tuple" = some false)
  | .dT _ _ => (by decide +kernel : kitB "dict" "tuple" = some false)
  | .scr _ => (by decide +kernel : kitB "list" "tuple" = some false)
  | .ob _ _ _ => (by decide +kernel : kitB "NoneType" "tuple" = some false)⟩
theorem isTy_lst : IsTy "list" isLst := ⟨fun d => match d with
  | .non => (by decide +kernel : kitB "NoneType" "list" = some false)
  | .bl _ => (by decide +kernel : kitB "bool" "list" = some false)
  | .int _ => (by decide +kernel : kitB "int" "list" = some false)
  | .str _ => (by decide +kernel : kitB "str" "list" = some false)
  | .tup _ => (by decide +kernel : kitB "tuple" "list" = some false)
  | .lst _ => (by decide +kernel : kitB "list" "list" = some true)
  | .dK _ _ => (by decide +kernel : kitB "dict" "list" = some false)
  | .dT _ _ => (by decide +kernel : kitB "dict" "list" = some false)
  | .scr _ => (by decide +kernel : kitB "list" "list" = some true)
  | .ob _ _ _ => (by decide +kernel : kitB "NoneType" "list" = some false)⟩
theorem isTy_dct : IsTy "dict" isDct := ⟨fun d => match d with
  | .non => (by decide +kernel : kitB "NoneType" "dict" = some false)
  | .bl _ => (by decide +kernel : kitB "bool" "dict" = some false)
  | .int _ => (by decide +kernel : kitB "int" "dict" = some false)
  | .str _ => (by decide +kernel : kitB "str" "dict" = some false)
  | .tup _ => (by decide +kernel : kitB "tuple" "dict" = some false)
  | .lst _ => (by decide +kernel : kitB "list" "dict" = some false)
  | .dK _ _ => (by decide +kernel : kitB "dict" "dict" = some true)
  | .dT _ _ => (by decide +kernel : kitB "dict" "dict" = some true)
  | .scr _ => (by decide +kernel : kitB "list" "dict" = some false)
  | .ob _ _ _ => (by decide +kernel : kitB "NoneType" "dict" = some false)⟩
end Mi

set_option Elab.async false
set_option linter.all false
set_option maxRecDepth 100000
/-! Mi6: subscripts, texts. -/
namespace Mi
open PySem PySem.Spec PyProof.Rows L2

section
variable {K : PySem.W.Frag} {F H : Hp}
theorem RpL.atI {vs : List V} {ds : List D} {i : Int} {d : D} (h : RpL K F vs ds) (e : atI ds i = some d) : ∃ v, L2.atI vs i = some v ∧ Rp K F v d := by
  unfold L2.atI at e ⊢
  cases q : ixN ds.length i with
  | none => rw [q] at e; cases e
  | some j =>
    rw [q] at e
    obtain ⟨v, h1, h2⟩ := h.get (show ds[j]? = some d from e)
    exact ⟨v, by rw [h.length, q]; exact h1, h2⟩
theorem OwL.getO : ∀ {os : List O} {vs : List V} {fp : List Addr} {i : Nat} {d : D}, OwL K F H vs os fp → os[i]? = some (.fr d) → ∃ v, vs[i]? = some v ∧ Rp K F v d := fun h e => h.get e

/-! ### subscripts -/
def rIxD : R2 := fun x y H Q => ∃ a v, x = .ref a ∧ DGet H a y (some v) ∧ Q v H
theorem ix_dict {X : Cx} (hu : X.A.units + 1 < cLine) : IxR X rIxD := by
  intro value slice pins s σ H x y v u Q I rx ry h hs
  obtain ⟨a, w, rfl, g, q⟩ := h
  cases rx
  exact tail_any (dict_typeIs I g) PySem.F.slot_dict_getitem.lookup (d_getItem hu I g ry fun w' s' I' rw' => ⟨w, H, I', rw', q⟩) hs
def rIxAll (K : PySem.W.Frag) : R2 := fun x y H Q => rIx K x y H Q ∨ rIxD x y H Q
theorem ix_all {X : Cx} (hu : X.A.units + 1 < cLine) : IxR X (rIxAll X.K) := IxR.or ix_seq (ix_dict hu)
def keyD : D → Option Key
  | .int i => some (.inl i)
  | .str s => some (.inr s)
  | _ => none
theorem keyD_v {v : V} {d : D} {k : Key} (h : Rp K H v d) (e : keyD d = some k) : v = kV k := by
  cases d with
  | int i => cases e; exact h
  | str i => cases e; exact h
  | non => cases e
  | bl b => cases e
  | tup _ => cases e
  | lst _ => cases e
  | dK _ _ => cases e
  | dT _ _ => cases e
  | scr _ => cases e
  | ob _ _ _ => cases e
/-- the place of a key -/
def look {α : Type} {β : Type} [DecidableEq α] (k : α) : List α → List β → Option β
  | a :: as, b :: bs => if a = k then some b else look k as bs
  | _, _ => none
theorem look_rp {κ : Type} [DecidableEq κ] {k : κ} {d : D} : ∀ {kvs : List (κ × V)} {ds : List D}, RpL K F (kvs.map (·.2)) ds → look k (kvs.map (·.1)) ds = some d → ∃ v, valV kvs k = some v ∧ Rp K F v d
  | [], ds, h, e => by
    cases ds <;> cases e
  | p :: kvs, ds, h, e => by
    cases ds with
    | nil => cases e
    | cons x ds =>
      obtain ⟨h1, h2⟩ := h.inv
      unfold look at e
      rw [List.map_cons] at e
      dsimp only at e
      by_cases q : p.1 = k
      · rw [if_pos q] at e
        cases e
        exact ⟨p.2, valV_pos q, h1⟩
      · rw [if_neg q] at e
        obtain ⟨v, h3, h4⟩ := look_rp h2 e
        exact ⟨v, by rw [valV_neg q]; exact h3, h4⟩
def dIx (d e : D) : Option D := match d, e with
  | .tup ds, .int i => atI ds i
  | .lst ds, .int i => atI ds i
  | .scr ns, .int i => (atI ns i).map .int
  | .str s, .int i => if s.length ≤ sizeLine then (atI s.cps.toList i).map fun c => .str ⟨#[c]⟩ else none
  | .dK ks ds, e => (keyD e).bind fun k => look k ks ds
  | _, _ => none
theorem ixOk_all : IxOk K (rIxAll K) dIx := by
  intro F H x y d e z s hx hy k
  unfold dIx at k
  split at k
  · obtain ⟨a, vs, rfl, h1, h2⟩ := hx
    obtain ⟨v, h3, h4⟩ := h2.atI k
    exact ⟨v, h4, fun Q q => .inl (.inr (.inl ⟨a, vs, _, v, rfl, hy, Same.sqT s h1, h3, q⟩))⟩
  · obtain ⟨a, vs, rfl, h1, h2⟩ := hx
    obtain ⟨v, h3, h4⟩ := h2.atI k
    exact ⟨v, h4, fun Q q => .inl (.inl ⟨a, vs, _, v, rfl, hy, SqL.of (s _ _ h1), h3, q⟩)⟩
  · rename_i ns i
    obtain ⟨a, rfl, h1⟩ := hx
    obtain ⟨n, h2, rfl⟩ := Option.map_eq_some_iff.mp k
    refine ⟨.int n, rfl, fun Q q => .inl (.inl ⟨a, _, _, .int n, rfl, hy, Same.sqL s h1, ?_, q⟩)⟩
    unfold atI at h2 ⊢
    rw [List.length_map]
    cases q : ixN ns.length i with
    | none => rw [q] at h2; cases h2
    | some j =>
      rw [q] at h2
      show (ns.map V.int)[j]? = _
      rw [List.getElem?_map, show ns[j]? = some n from h2]
      rfl
  · split at k
    · rename_i st i hl
      obtain ⟨c, h2, rfl⟩ := Option.map_eq_some_iff.mp k
      cases (show x = .str st from hx)
      exact ⟨.str ⟨#[c]⟩, rfl, fun Q q => .inl (.inr (.inr ⟨st, i, c, rfl, hy, hl, h2, q⟩))⟩
    · cases k
  · obtain ⟨a, kvs, rfl, h1, rfl, h3⟩ := hx
    obtain ⟨k', h4, h5⟩ := Option.bind_eq_some_iff.mp k
    obtain ⟨v, h6, h7⟩ := look_rp h3 h5
    have ev := keyD_v hy h4
    exact ⟨v, h7, fun Q q => .inr ⟨a, v, rfl, .inl ⟨kvs, k', Same.rd s h1, ev, h6.symm⟩, q⟩⟩
  · cases k
def oFr : O → Option D
  | .fr d => some d
  | _ => none
def oIx (o : O) (e : D) : Option D := match o, e with
  | .fr d, e => dIx d e
  | .lst os, .int i => (atI os i).bind oFr
  | .dK ks os, e => (keyD e).bind fun k => (look k ks os).bind oFr
  | _, _ => none
theorem look_ow {κ : Type} [DecidableEq κ] {k : κ} {d : D} : ∀ {kvs : List (κ × V)} {os : List O} {fp : List Addr}, OwL K F H (kvs.map (·.2)) os fp → look k (kvs.map (·.1)) os = some (.fr d) → ∃ v, valV kvs k = some v ∧ Rp K F v d
  | [], os, fp, h, e => by
    cases os <;> cases e
  | p :: kvs, os, fp, h, e => by
    cases os with
    | nil => cases e
    | cons x os =>
      obtain ⟨f1, f2, h1, h2, rfl⟩ := OwL.inv h
      unfold look at e
      rw [List.map_cons] at e
      dsimp only at e
      by_cases q : p.1 = k
      · rw [if_pos q] at e
        cases e
        exact ⟨p.2, valV_pos q, h1.1⟩
      · rw [if_neg q] at e
        obtain ⟨v, h3, h4⟩ := look_ow h2 e
        exact ⟨v, by rw [valV_neg q]; exact h3, h4⟩
theorem ixOw_all : IxOw K (rIxAll K) oIx := by
  intro F H x y o e z fp s hx hy k
  unfold oIx at k
  split at k
  · obtain ⟨v, h1, h2⟩ := ixOk_all F H x y _ e z s hx.1 hy k
    exact ⟨v, h1, h2⟩
  · rename_i os i
    obtain ⟨a, vs, f, rfl, h1, h2, rfl⟩ := hx
    obtain ⟨c, h3, h4⟩ := Option.bind_eq_some_iff.mp k
    cases c with
    | fr d =>
      cases h4
      unfold atI at h3
      cases q : ixN os.length i with
      | none => rw [q] at h3; cases h3
      | some j =>
        rw [q] at h3
        obtain ⟨v, h5, h6⟩ := h2.get (show os[j]? = some (.fr z) from h3)
        refine ⟨v, h6, fun Q qq => .inl (.inl ⟨a, vs, _, v, rfl, hy, SqL.of h1, ?_, qq⟩)⟩
        unfold atI
        rw [h2.length, q]
        exact h5
    | lst _ => cases h4
    | dK _ _ => cases h4
    | dT _ _ => cases h4
    | ob _ _ _ => cases h4
  · obtain ⟨a, kvs, f, rfl, h1, rfl, h3, rfl⟩ := hx
    obtain ⟨k', h4, h5⟩ := Option.bind_eq_some_iff.mp k
    obtain ⟨c, h6, h7⟩ := Option.bind_eq_some_iff.mp h5
    cases c with
    | fr d =>
      cases h7
      obtain ⟨v, h8, h9⟩ := look_ow h3 h6
      have ev := keyD_v hy h4
      exact ⟨v, h9, fun Q q => .inr ⟨a, v, rfl, .inl ⟨kvs, k', .inl h1, ev, h8.symm⟩, q⟩⟩
    | lst _ => cases h7
    | dK _ _ => cases h7
    | dT _ _ => cases h7
    | ob _ _ _ => cases h7
  · cases k
end

/-! ### f-strings -/
section
variable {B : Bs}
def dFmt : D → Option D
  | .str y => if y.length ≤ sizeLine then some (.str y) else none
  | .int i => if i.natAbs.log2 < 1920 then some (.str (toString i)) else none
  | _ => none
def rFmt : V → Hp → VK → Prop := fun x H1 Q => (∃ y : Str, x = .str y ∧ y.length ≤ sizeLine ∧ Q (.str y) H1) ∨ ∃ i : Int, x = .int i ∧ i.natAbs.log2 < 1920 ∧ Q (.str (toString i)) H1
theorem s1_fmt {K : PySem.W.Frag} : S1 K rFmt dFmt := by
  intro H x d z hx k
  unfold dFmt at k
  split at k
  · split at k
    · rename_i y hl
      cases k
      exact ⟨_, rfl, fun Q q => .inl ⟨y, hx, hl, q⟩⟩
    · cases k
  · split at k
    · rename_i y hl
      cases k
      exact ⟨_, rfl, fun Q q => .inr ⟨y, hx, hl, q⟩⟩
    · cases k
  · cases k
theorem se_fmt {t : TE} {m : XO} (h : SO B t m) : SE B (tFmt t) (xS1 dFmt m) := se_s1 (r := rFmt) s1_fmt h
inductive SOs (B : Bs) : List TE → List XO → Prop where
  | nil : SOs B [] []
  | cons {t : TE} {m : XO} {ts : List TE} {ms : List XO} (h : SO B t m) (r : SOs B ts ms) : SOs B (t :: ts) (m :: ms)
def xJs : List XO → Str → G → Option (Str × G)
  | [], acc, g => some (acc, g)
  | m :: ms, acc, g => (m g).bind fun p => match view p.2 p.1 with
    | some (.str y) => if (acc ++ y).length ≤ sizeLine then xJs ms (acc ++ y) p.2 else none
    | _ => none
def xJoined (ms : List XO) : XE := fun g => (xJs ms Str.empty g).map fun p => (.fr (.str p.1), p.2)
theorem js_ok {ts : List TE} {ms : List XO} (h : SOs B ts ms) : ∀ (acc : Str) (F H : Hp) (σ : L2.St) (g : G) (τ : En) (out : Str) (g' : G), Rel B F H σ g τ → xJs ms acc g = some (out, g') → ∀ Q : Str → Hp → Prop,
    (∀ F' H', Same F F' → Rel B F' H' σ g' τ → Q out H') → tJs ts acc σ H Q := by
  induction h with
  | nil =>
    intro acc F H σ g τ out g' r e Q q
    cases e
    exact q F H (Same.refl F) r
  | @cons t m ts ms hm hr ih =>
    intro acc F H σ g τ out g' r e Q q
    obtain ⟨⟨a, g1⟩, e1, e2⟩ := Option.bind_eq_some_iff.mp e
    dsimp only at e2
    split at e2
    · rename_i y ey
      split at e2
      · rename_i hl
        refine hm F H σ g τ a g1 r e1 _ fun F1 H1 v s1 r1 ok => ?_
        exact ⟨y, r1.view ok ey, hl, ih (acc ++ y) F1 H1 σ g1 τ out g' r1 e2 Q fun F2 H2 s2 r2 => q F2 H2 (s1.trans s2) r2⟩
      · cases e2
    · cases e2
theorem se_joined {ts : List TE} {ms : List XO} (h : SOs B ts ms) : SE B (fun σ H Q => tJs ts Str.empty σ H fun out H1 => Q (.str out) H1) (xJoined ms) := by
  intro F H σ g τ o g' r e Q q
  obtain ⟨⟨out, g1⟩, e1, e2⟩ := Option.map_eq_some_iff.mp e
  cases e2
  exact js_ok h Str.empty F H σ g τ out g1 r e1 _ fun F' H' s' r' => q F' H' _ s' (r'.addFr rfl)
end

/-! ### methods of texts -/
def MS (K : PySem.W.Frag) (r : V → List V → Hp → VK → Prop) (f : Str → List D → Option D) : Prop := ∀ H s vs ds z, RpL K H vs ds → f s ds = some z → ∃ w, toV z = some w ∧ ∀ Q : VK, Q w H → r (.str s) vs H Q
def MA (K : PySem.W.Frag) (r : V → List V → Hp → VK → Prop) (f : Str → List D → Option O) : Prop := ∀ F H s vs ds z, Same F H → RpL K F vs ds → f s ds = some z → ∀ Q : VK, Made K F H z Q → r (.str s) vs H Q
section
variable {B : Bs}
def xMS (f : Str → List D → Option D) (a : XO) (as : XA) : XE := fun g => (a g).bind fun p => match p.1 with
  | .d (.str s) => (as p.2).bind fun q => (views q.2 q.1).bind fun ds => (f s ds).map fun z => (.fr z, q.2)
  | _ => none
theorem se_ms {r : V → List V → Hp → VK → Prop} {f : Str → List D → Option D} {to : TE} {t : TA} {a : XO} {as : XA} (hr : MS B.K r f) (ha : SO B to a) (hs : SA B t as) : SE B (tBM B.K "str" r to t) (xMS f a as) := by
  intro F H σ g τ o g' rl e Q q
  obtain ⟨⟨x, g1⟩, e1, e2⟩ := Option.bind_eq_some_iff.mp e
  dsimp only at e2
  split at e2
  · rename_i s
    obtain ⟨⟨as', g2⟩, e3, e4⟩ := Option.bind_eq_some_iff.mp e2
    obtain ⟨ds, e5, e6⟩ := Option.bind_eq_some_iff.mp e4
    obtain ⟨z, e7, e8⟩ := Option.map_eq_some_iff.mp e6
    cases e8
    refine ha F H σ g τ _ g1 rl e1 _ fun F1 H1 v s1 r1 ok1 => ?_
    cases (show v = .str s from ok1)
    refine ⟨rfl, ?_⟩
    refine hs F1 H1 σ g1 τ as' g2 r1 e3 _ fun F2 H2 vs s2 r2 ok2 => ?_
    obtain ⟨w, hw, k⟩ := hr H2 s vs ds z (r2.views ok2 e5) e7
    exact k Q (q F2 H2 w (s1.trans s2) (r2.addFr (toV_rp hw F2)))
  · cases e2
def xMS0 (f : Str → List D → Option D) (a : XO) : XE := fun g => (a g).bind fun p => match p.1 with
  | .d (.str s) => (f s []).map fun z => (.fr z, p.2)
  | _ => none
theorem se_ms0 {r : V → List V → Hp → VK → Prop} {f : Str → List D → Option D} {to : TE} {a : XO} (hr : MS B.K r f) (ha : SO B to a) : SE B (tBM0 B.K "str" r to) (xMS0 f a) := by
  intro F H σ g τ o g' rl e Q q
  obtain ⟨⟨x, g1⟩, e1, e2⟩ := Option.bind_eq_some_iff.mp e
  dsimp only at e2
  split at e2
  · rename_i s
    obtain ⟨z, e7, e8⟩ := Option.map_eq_some_iff.mp e2
    cases e8
    refine ha F H σ g τ _ _ rl e1 _ fun F1 H1 v s1 r1 ok1 => ?_
    cases (show v = .str s from ok1)
    refine ⟨rfl, ?_⟩
    obtain ⟨w, hw, k⟩ := hr H1 s [] [] z RpL.nil e7
    exact k Q (q F1 H1 w s1 (r1.addFr (toV_rp hw F1)))
  · cases e2
def xMA (f : Str → List D → Option O) (a : XO) (as : XA) : XE := fun g => (a g).bind fun p => match p.1 with
  | .d (.str s) => (as p.2).bind fun q => (alld q.1).bind fun ds => (f s ds).map fun z => (z, q.2)
  | _ => none
theorem se_ma {r : V → List V → Hp → VK → Prop} {f : Str → List D → Option O} {to : TE} {t : TA} {a : XO} {as : XA} (hr : MA B.K r f) (ha : SO B to a) (hs : SA B t as) : SE B (tBM B.K "str" r to t) (xMA f a as) := by
  intro F H σ g τ o g' rl e Q q
  obtain ⟨⟨x, g1⟩, e1, e2⟩ := Option.bind_eq_some_iff.mp e
  dsimp only at e2
  split at e2
  · rename_i s
    obtain ⟨⟨as', g2⟩, e3, e4⟩ := Option.bind_eq_some_iff.mp e2
    obtain ⟨ds, e5, e6⟩ := Option.bind_eq_some_iff.mp e4
    obtain ⟨z, e7, e8⟩ := Option.map_eq_some_iff.mp e6
    cases e8
    refine ha F H σ g τ _ g1 rl e1 _ fun F1 H1 v s1 r1 ok1 => ?_
    cases (show v = .str s from ok1)
    refine ⟨rfl, ?_⟩
    refine hs F1 H1 σ g1 τ as' g2 r1 e3 _ fun F2 H2 vs s2 r2 ok2 => ?_
    exact hr F2 H2 s vs ds o r2.sub (alld_ok ok2 e5) e7 Q fun F3 H3 w fp gr ow nd nw => q F3 H3 w ((s1.trans s2).trans gr.f) (r2.made gr ow nd nw)
  · cases e2
end
section
variable {K : PySem.W.Frag}
def strsOf : List D → Option (List Str)
  | [] => some []
  | .str s :: r => (strsOf r).map fun ss => s :: ss
  | _ => none
theorem strsOf_ok {H : Hp} : ∀ {ds : List D} {vs : List V} {ss : List Str}, RpL K H vs ds → strsOf ds = some ss → vs = ss.map V.str
  | [], _, _, h, e => by
    cases e
    exact h
  | d :: ds, _, ss, h, e => by
    obtain ⟨v, r, rfl, h1, h2⟩ := h
    unfold strsOf at e
    split at e
    · rename_i heq
      cases heq
    · rename_i s r' heq
      cases heq
      obtain ⟨ts, e1, rfl⟩ := Option.map_eq_some_iff.mp e
      cases (show v = .str s from h1)
      rw [strsOf_ok h2 e1]
      rfl
    · cases e
def rJoin (K : PySem.W.Frag) : V → List V → Hp → VK → Prop := fun x xs H Q => ∃ a p, ∃ ys : List Str, x = .str a ∧ xs = [.ref p] ∧ (SqL K H p (ys.map V.str) ∨ SqT K H p (ys.map V.str)) ∧ (ys.map (·.length)).sum + ys.length * a.length ≤ 16777216 ∧ Q (.str (Txt.join a ys)) H
theorem mt_joinK {X : Cx} : MtR X "str.join" (rJoin X.K) := mt_join
def dJoin (a : Str) (ds : List D) : Option D := match ds with
  | [.lst es] => (strsOf es).bind fun ys => if (ys.map (·.length)).sum + ys.length * a.length ≤ 16777216 then some (.str (Txt.join a ys)) else none
  | [.tup es] => (strsOf es).bind fun ys => if (ys.map (·.length)).sum + ys.length * a.length ≤ 16777216 then some (.str (Txt.join a ys)) else none
  | _ => none
theorem ms_join : MS K (rJoin K) dJoin := by
  intro H s vs ds z h k
  unfold dJoin at k
  split at k
  · obtain ⟨ys, k1, k2⟩ := Option.bind_eq_some_iff.mp k
    split at k2
    · rename_i hl
      cases k2
      obtain ⟨v, rfl, hv⟩ := h.one
      obtain ⟨a, ws, rfl, h1, h2⟩ := hv
      obtain rfl := strsOf_ok h2 k1
      exact ⟨_, rfl, fun Q q => ⟨s, a, ys, rfl, rfl, .inl (SqL.of h1), hl, q⟩⟩
    · cases k2
  · obtain ⟨ys, k1, k2⟩ := Option.bind_eq_some_iff.mp k
    split at k2
    · rename_i hl
      cases k2
      obtain ⟨v, rfl, hv⟩ := h.one
      obtain ⟨a, ws, rfl, h1, h2⟩ := hv
      obtain rfl := strsOf_ok h2 k1
      exact ⟨_, rfl, fun Q q => ⟨s, a, ys, rfl, rfl, .inr h1, hl, q⟩⟩
    · cases k2
  · cases k
end
end Mi

set_option Elab.async false
set_option linter.all false
set_option maxRecDepth 100000
/-! Mi7: a list or a tuple walked; a def as it stands; the law's end. -/
namespace Mi
open PySem PySem.Spec PyProof.Rows L2

/-- a list or a tuple -/
def iSq (K : PySem.W.Frag) (tl : TE) : TI := fun σ H R => tl σ H fun x H1 => (∃ a, x = .ref a ∧ (∃ xs, SqL K H1 a xs) ∧ R (Itl K a) H1) ∨ (∃ a, x = .ref a ∧ (∃ xs, SqT K H1 a xs) ∧ R (Itt K a) H1)
theorem pi_seq {X : Cx} {tg : Expr} {l : Expr} {tl : TE} (hl : PE X l tl) : PI X tg l (iSq X.K tl) := by
  refine ⟨fun pins s σ H R I h => ?_⟩
  refine thn (hl.run pins s σ H _ I h) fun v s1 ⟨x, H1, I1, r1, q1⟩ => ?_
  rcases q1 with ⟨a, e, ⟨xs, hq⟩, q⟩ | ⟨a, e, ⟨xs, hq⟩, q⟩
  · subst e
    cases r1
    obtain ⟨its, rv, p, hz⟩ := I1.list hq
    refine wpAny_pyIter_list p.isList ?_
    refine ⟨s1.heap.objs.size, [s1.heap.objs.size], _, _, H1, rfl, I1.kept (t' := s1.toks) fun b o e => Heap.get?_push_of_some _ e, turn_list a _, ⟨_, Heap.get?_push_size _ rfl, rfl, rfl⟩, fun b hb => ?_, q⟩
    have e : b = s1.heap.objs.size := by simpa using hb
    subst e
    exact I1.fpOk (Nat.le_refl _) (I1.hok.fresh (Nat.le_refl _))
  · subst e
    cases r1
    obtain ⟨its, rv, p, hz⟩ := I1.tuple hq
    refine wpAny_pyIter_tuple (show s1.heap.IsTuple a its.toArray from p) ?_
    refine ⟨s1.heap.objs.size, [s1.heap.objs.size], _, _, H1, rfl, I1.kept (t' := s1.toks) fun b o e => Heap.get?_push_of_some _ e, turn_tuple a _, ⟨_, Heap.get?_push_size _ rfl, rfl, rfl⟩, fun b hb => ?_, q⟩
    have e : b = s1.heap.objs.size := by simpa using hb
    subst e
    exact I1.fpOk (Nat.le_refl _) (I1.hok.fresh (Nat.le_refl _))
section
variable {B : Bs}
theorem st_yes : ST B tYes xYes := by
  intro F H σ g τ b g' r e Q q
  cases e
  exact q F H (.refl F) r
def iSeq (m : XO) : XI := fun g => (m g).bind fun p => match p.1 with
  | .d (.lst ds) => some (ds, p.2)
  | .d (.tup ds) => some (ds, p.2)
  | _ => none
theorem si_seq {t : TE} {m : XO} (h : SO B t m) : SI B (iSq B.K t) (iSeq m) := by
  intro F H σ g τ ds g' r e R q
  obtain ⟨⟨a, g1⟩, e1, e2⟩ := Option.bind_eq_some_iff.mp e
  refine h F H σ g τ a g1 r e1 _ fun F1 H1 v s1 r1 ok => ?_
  dsimp only at e2
  split at e2
  · cases e2
    obtain ⟨x, vs, rfl, k1, k2⟩ := ok
    exact .inl ⟨x, rfl, ⟨vs, SqL.of (r1.sub _ _ k1)⟩, q F1 H1 _ s1 r1 (walks_list k1 k2)⟩
  · cases e2
    obtain ⟨x, vs, rfl, k1, k2⟩ := ok
    exact .inr ⟨x, rfl, ⟨vs, Same.sqT r1.sub k1⟩, q F1 H1 _ s1 r1 (walks_tup k1 k2)⟩
  · cases e2
end

section
variable {P : Program} {w : World} {K : PySem.W.Frag} {mg : Str → Option Value} {base : Heap}
/-- nothing is promised -/
theorem FnOk.no {f : Addr} {fd : FuncData} {ps : List Str} {k : Nat} : FnOk P w K mg base CX0 k f fd ps (spM K ps.length (fun _ => none)) :=
  ⟨fun vs H Q E h => h.1, fun A outer s H args us vs Q E hr he hb hv hs => by
    obtain ⟨_, _, _, _, _, _, _, _, _, _, e, _⟩ := hs
    cases e⟩
/-- a def of the top -/
structure FnAt (K : PySem.W.Frag) (mg : Str → Option Value) (x : Str) (st : Stmt) (ps : List Str) where
  f : Addr
  fd : FuncData
  g : mg x = some (.ref f)
  F : Fun K x x st f fd
  b : Binds K fd ps []
theorem fnAt_mk {x : Str} {st : Stmt} {ps : List Str} {h : Heap} (X : K.In h) (G : h.Ns mainGlobals mg) {f : Addr} {oc : Value} {od an : Option Addr} {osl : Array (Option Value)} {kV doc pm cdv ct : Value}
    (a : PySem.W.nsIn K mainGlobals x = some (some (.ref f)))
    (l : K.lookup f = some ⟨oc, od, .func (PySem.W.fnOf x x (defArgs st) (defBody st) (defScope st) .none kV doc pm an cdv ct), osl⟩)
    (c : PySem.W.codeIn K cdv x = true) (k : PySem.W.keepIn K (.ref f) = true)
    (hb : ∀ (kV doc pm : Value) (an : Option Addr) (cdv ct : Value) (us : List Value), us.length = ps.length → bindArgs (PySem.W.fnOf x x (defArgs st) (defBody st) (defScope st) .none kV doc pm an cdv ct) ⟨us, []⟩ = pure (ps.zip us)) :
    Nonempty (FnAt K mg x st ps) := by
  have F := fun_mk (st := st) l c k
  exact ⟨⟨f, _, PySem.W.mg_of X G a, F, F.binds hb⟩⟩
end

/-! ### the law's end -/
/-- the script's weight -/
def ScrOk (ns : List Int) : Prop := ns.length ≤ 63 ∧ ∀ z ∈ ns, Builtin.Int.intBits z ≤ 1048576
/-- what the law's mirror must give: True for every script -/
def LawOk (f : List O → Option (O × List O)) : Prop := ∀ ns : List Int, ScrOk ns → ∃ os, f [.fr (.scr ns)] = some (.fr (.bl true), os)
theorem law_sp {K : PySem.W.Frag} {f : List O → Option (O × List O)} (h : LawOk f) (H : Hp) (a : Addr) (ns : List Int) (hl : ns.length ≤ 63) (hb : ∀ z ∈ ns, Builtin.Int.intBits z ≤ 1048576) (hS : SqL K H a (ns.map V.int)) :
    spM K 1 f [.ref a] H (fun v _ => v = .bl true) fun _ _ _ => False := by
  obtain ⟨os, e⟩ := h ns ⟨hl, hb⟩
  refine ⟨rfl, H, [.fr (.scr ns)], .fr (.bl true), os, [], Same.refl H, ?_, List.nodup_nil, (fun _ z => nomatch z), e, fun F' H' v fp' _ _ _ _ ow _ _ => ?_⟩
  · exact ⟨.ref a, [], [], [], rfl, ⟨⟨a, rfl, hS⟩, rfl⟩, OwL.nil, rfl⟩
  · obtain ⟨f1, f2, h1, _, _⟩ := OwL.inv ow
    exact h1.1
theorem walk_law {l : PySem.W.OpenLaw} {q : Program} {loose : List Str} {XP : (Str → Option Value) → Heap → Prop} {YP : World → Heap → Prop} {d : DefRec} {K : Params → PySem.W.Frag} {k : Nat} {f : List O → Option (O × List O)} (hn : l.most = some 63) (hdf : d.params.defaults = []) (hr : Room k callerA)
    (hY : ∀ (w : World) (h : Heap), YP w h → (K w.params).In h) (hf : LawOk f)
    (F : ∀ (w : World) (mg : Str → Option Value) (fa : Addr) (h : Heap), (K w.params).In h → h.Ns mainGlobals mg → mg d.name = some (.ref fa) →
      ∃ fd : FuncData, (∀ (s : Shared) (u : Value), BindsTo s fd ⟨[u], []⟩ [("script", u)]) ∧ ∀ base : Heap, (K w.params).In base → base.Ns mainGlobals mg → FnOk l.prog w (K w.params) mg base CX0 k fa fd ["script"] (spM (K w.params) 1 f)) :
    PySem.W.WalkO q loose XP YP l.row.toRowW d [] (fun f vs => PySem.call f vs) :=
  L2.walk_ofB (n := 63) (k := k) (x := "script") (CX := fun _ => CX0) (sp := fun w => spM (K w.params) 1 f) hn (by decide) hdf hr hY F (fun _ H a ns hl hb _ hS => law_sp hf H a ns hl hb hS) fun _ _ _ _ _ z => z
end Mi

set_option Elab.async false
set_option linter.all false
set_option maxRecDepth 100000
/-! Mi8: comprehensions whose inner readings speak of the block's own context. -/
namespace Mi
open PySem PySem.Spec PyProof.Rows L2
section
variable {X : Cx}
abbrev BF (α : Type) := Shared → Hp → Addr → List (Str × Addr) → List Addr → α
theorem pe_lcM {elt tg iter : Expr} {ifs : List Expr} {scope : Scope} {own : List (Str × Nat)} {pos : Pos} {wi : TI} {g : BF TG} {tt : BF TT} {te : BF TE} (hc : X.calm = true) (hN : X.N.Nodup) (hi : PI X tg iter wi) (ok : BlkOk X.N X.env.scope scope own)
    (hg : ∀ (s : Shared) (H : Hp) (C : Addr) (cl : List (Str × Addr)) (fp : List Addr), PG (X.blk s H scope (compEnvC scope cl C X.env) fp) tg (g s H C cl fp)) (ht : ∀ (s : Shared) (H : Hp) (C : Addr) (cl : List (Str × Addr)) (fp : List Addr), PTs (X.blk s H scope (compEnvC scope cl C X.env) fp) ifs (tt s H C cl fp))
    (he : ∀ (s : Shared) (H : Hp) (C : Addr) (cl : List (Str × Addr)) (fp : List Addr), PE (X.blk s H scope (compEnvC scope cl C X.env) fp) elt (te s H C cl fp))
    (qg : ∀ s H C cl fp, g s H C cl fp = g X.s_0 X.H_0 0 [] []) (qt : ∀ s H C cl fp, tt s H C cl fp = tt X.s_0 X.H_0 0 [] []) (qe : ∀ s H C cl fp, te s H C cl fp = te X.s_0 X.H_0 0 [] [])
    (hs : ∀ x, foldedSetIterable iter X.env x = pure x := by intro _; rfl) :
    PE X (.ListComp elt [⟨tg, iter, ifs, 0⟩] scope pos) (tLc wi (g X.s_0 X.H_0 0 [] []) (tt X.s_0 X.H_0 0 [] []) (te X.s_0 X.H_0 0 [] []) (own.map (·.2))) :=
  pe_lc hc hN hi ok (fun s H C cl fp => (qg s H C cl fp) ▸ hg s H C cl fp) (fun s H C cl fp => (qt s H C cl fp) ▸ ht s H C cl fp) (fun s H C cl fp => (qe s H C cl fp) ▸ he s H C cl fp) hs
theorem ps_setLcM {i : Nat} {y : Str} {py : Pos} {elt tg iter : Expr} {ifs : List Expr} {scope : Scope} {own : List (Str × Nat)} {pos spos : Pos} {wi : TI} {g : BF TG} {tt : BF TT} {te : BF TE} (hc : X.calm = true) (hN : X.N.Nodup) (hy : X.N[i]? = some y) (hyl : X.env.scope.names.lookup y = some .local)
    (hsw : swapsWith (.ListComp elt [⟨tg, iter, ifs, 0⟩] scope pos) (some (.Name y py)) spos.line X.env = pure true) (hi : PI X tg iter wi) (ok : BlkOk X.N X.env.scope scope own)
    (hg : ∀ (s : Shared) (H : Hp) (C : Addr) (cl : List (Str × Addr)) (fp : List Addr), PG (X.blk s H scope (compEnvC scope cl C X.env) fp) tg (g s H C cl fp)) (ht : ∀ (s : Shared) (H : Hp) (C : Addr) (cl : List (Str × Addr)) (fp : List Addr), PTs (X.blk s H scope (compEnvC scope cl C X.env) fp) ifs (tt s H C cl fp))
    (he : ∀ (s : Shared) (H : Hp) (C : Addr) (cl : List (Str × Addr)) (fp : List Addr), PE (X.blk s H scope (compEnvC scope cl C X.env) fp) elt (te s H C cl fp))
    (qg : ∀ s H C cl fp, g s H C cl fp = g X.s_0 X.H_0 0 [] []) (qt : ∀ s H C cl fp, tt s H C cl fp = tt X.s_0 X.H_0 0 [] []) (qe : ∀ s H C cl fp, te s H C cl fp = te X.s_0 X.H_0 0 [] [])
    (hs : ∀ x, foldedSetIterable iter X.env x = pure x := by intro _; rfl) :
    PS X (.Assign [.Name y py] (.ListComp elt [⟨tg, iter, ifs, 0⟩] scope pos) spos) (tAsg (tLc wi (g X.s_0 X.H_0 0 [] []) (tt X.s_0 X.H_0 0 [] []) (te X.s_0 X.H_0 0 [] []) (own.map (·.2))) (gName i)) :=
  ps_setLc hc hN hy hyl hsw hi ok (fun s H C cl fp => (qg s H C cl fp) ▸ hg s H C cl fp) (fun s H C cl fp => (qt s H C cl fp) ▸ ht s H C cl fp) (fun s H C cl fp => (qe s H C cl fp) ▸ he s H C cl fp) hs
end
end Mi

set_option Elab.async false
set_option linter.all false
set_option maxRecDepth 100000
/-! Mi9: a mirror at an open environment, by simp. -/
namespace Mi
open PySem PySem.Spec PyProof.Rows L2
def bd {α β : Type} (o : Option α) (f : α → Option β) : Option β := o.bind f
def mp {α β : Type} (o : Option α) (f : α → β) : Option β := o.map f
@[simp] theorem bd_some {α β : Type} {a : α} {f : α → Option β} : bd (some a) f = f a := (rfl)
@[simp] theorem mp_some {α β : Type} {a : α} {f : α → β} : mp (some a) f = some (f a) := (rfl)
@[simp] theorem bd_none {α β : Type} {f : α → Option β} : bd none f = none := (rfl)
@[simp] theorem mp_none {α β : Type} {f : α → β} : mp none f = none := (rfl)
section
variable {x : Option O} {g : G}
@[simp] theorem view_d {d : D} {g : G} : view g (.d d) = some d := (rfl)
@[simp] theorem view_br {i : Nat} {g : G} : view g (.br i) = (match g[i]? with | some (some o) => some o.er | _ => none) := (rfl)
@[simp] theorem views_nil {g : G} : views g [] = some [] := (rfl)
@[simp] theorem views_cons {g : G} {a : Opd} {r : List Opd} : views g (a :: r) = bd (view g a) fun d => mp (views g r) fun ds => d :: ds := (rfl)
@[simp] theorem alld_nil : alld [] = some [] := (rfl)
@[simp] theorem alld_d {d : D} {r : List Opd} : alld (.d d :: r) = mp (alld r) fun ds => d :: ds := (rfl)
@[simp] theorem opdD_d {d : D} : opdD (.d d) = some d := (rfl)
@[simp] theorem ev_oVar {i : Nat} : oVar i (x :: g) = (match (x :: g)[i]? with
  | some (some (.fr d)) => some (.d d, x :: g)
  | some (some _) => some (.br i, x :: g)
  | _ => none) := (rfl)
@[simp] theorem ev_eVar {i : Nat} : eVar i (x :: g) = (match (x :: g)[i]? with
  | some (some (.fr d)) => some (.fr d, x :: g)
  | some (some o) => some (.fr o.er, (x :: g).set i (some (.fr o.er)))
  | _ => none) := (rfl)
@[simp] theorem ev_eMove {i : Nat} : eMove i (x :: g) = (match (x :: g)[i]? with
  | some (some (.fr d)) => some (.fr d, x :: g)
  | some (some o) => some (o, (x :: g).set i none)
  | _ => none) := (rfl)
@[simp] theorem ev_eC {d : D} : eC d (x :: g) = some (.fr d, x :: g) := (rfl)
@[simp] theorem ev_oE {m : XE} : oE m (x :: g) = mp (m (x :: g)) fun p => (.d p.1.er, p.2) := (rfl)
@[simp] theorem ev_aNil : aNil (x :: g) = some ([], x :: g) := (rfl)
@[simp] theorem ev_aCons {a : XO} {r : XA} : aCons a r (x :: g) = bd (a (x :: g)) fun p => mp (r p.2) fun q => (p.1 :: q.1, q.2) := (rfl)
@[simp] theorem ev_xS1 {f : D → Option D} {a : XO} : xS1 f a (x :: g) = bd (a (x :: g)) fun p => bd (view p.2 p.1) fun d => mp (f d) fun z => (.fr z, p.2) := (rfl)
@[simp] theorem ev_xS2 {f : D → D → Option D} {a b : XO} : xS2 f a b (x :: g) = bd (a (x :: g)) fun p => bd (b p.2) fun q => bd (view q.2 p.1) fun d => bd (view q.2 q.1) fun e => mp (f d e) fun z => (.fr z, q.2) := (rfl)
@[simp] theorem ev_xSN {f : List D → Option D} {as : XA} : xSN f as (x :: g) = bd (as (x :: g)) fun p => bd (views p.2 p.1) fun ds => mp (f ds) fun z => (.fr z, p.2) := (rfl)
@[simp] theorem ev_xA1 {f : D → Option O} {a : XO} : xA1 f a (x :: g) = bd (a (x :: g)) fun p => bd (opdD p.1) fun d => mp (f d) fun z => (z, p.2) := (rfl)
@[simp] theorem ev_xA2 {f : D → D → Option O} {a b : XO} : xA2 f a b (x :: g) = bd (a (x :: g)) fun p => bd (b p.2) fun q => bd (opdD p.1) fun d => bd (opdD q.1) fun e => mp (f d e) fun z => (z, q.2) := (rfl)
@[simp] theorem ev_xAN {f : List D → Option O} {as : XA} : xAN f as (x :: g) = bd (as (x :: g)) fun p => bd (alld p.1) fun ds => mp (f ds) fun z => (z, p.2) := (rfl)
@[simp] theorem ev_xB {m : XO} : xB m (x :: g) = bd (m (x :: g)) fun p => match view p.2 p.1 with
  | some (.bl b) => some (b, p.2)
  | _ => none := (rfl)
@[simp] theorem ev_xTru {m : XO} : xTru m (x :: g) = bd (m (x :: g)) fun p => bd (view p.2 p.1) fun d => mp (dTru d) fun b => (b, p.2) := (rfl)
@[simp] theorem ev_xAnd {a b : XT} : xAnd a b (x :: g) = bd (a (x :: g)) fun p => if p.1 = true then b p.2 else some (false, p.2) := (rfl)
@[simp] theorem ev_xOr {a b : XT} : xOr a b (x :: g) = bd (a (x :: g)) fun p => if p.1 = true then some (true, p.2) else b p.2 := (rfl)
@[simp] theorem ev_xNot {a : XT} : xNot a (x :: g) = mp (a (x :: g)) fun p => (!p.1, p.2) := (rfl)
@[simp] theorem ev_xYes : xYes (x :: g) = some (true, x :: g) := (rfl)
@[simp] theorem ev_xAndV {a : XO} {b : XE} : xAndV a b (x :: g) = bd (a (x :: g)) fun p => bd (opdD p.1) fun d => bd (dTru d) fun k => if k = true then b p.2 else some (.fr d, p.2) := (rfl)
@[simp] theorem ev_xOrV {a : XO} {b : XE} : xOrV a b (x :: g) = bd (a (x :: g)) fun p => bd (opdD p.1) fun d => bd (dTru d) fun k => if k = true then some (.fr d, p.2) else b p.2 := (rfl)
@[simp] theorem ev_xNotV {a : XO} : xNotV a (x :: g) = bd (a (x :: g)) fun p => bd (view p.2 p.1) fun d => mp (dTru d) fun k => (.fr (.bl (!k)), p.2) := (rfl)
@[simp] theorem ev_xIf {c : XT} {a b : XE} : xIf c a b (x :: g) = bd (c (x :: g)) fun p => if p.1 = true then a p.2 else b p.2 := (rfl)
@[simp] theorem ev_xTup {as : XA} : xTup as (x :: g) = bd (as (x :: g)) fun p => bd (alld p.1) fun ds => if ds.length ≤ sizeLine then some (.fr (.tup ds), p.2) else none := (rfl)
@[simp] theorem ev_xLst {as : XA} : xLst as (x :: g) = bd (as (x :: g)) fun p => bd (alld p.1) fun ds => if ds.length ≤ sizeLine then some (.lst (ds.map O.fr), p.2) else none := (rfl)
@[simp] theorem ev_xIx {f : D → D → Option D} {f' : O → D → Option D} {a b : XO} : xIx f f' a b (x :: g) = bd (a (x :: g)) fun p => bd (b p.2) fun q => bd (view q.2 q.1) fun e => match p.1 with
  | .d d => mp (f d e) fun z => (.fr z, q.2)
  | .br i => match q.2[i]? with
    | some (some o) => mp (f' o e) fun z => (.fr z, q.2)
    | _ => none := (rfl)
@[simp] theorem ev_sNext : sNext (x :: g) = some (.nx (x :: g)) := (rfl)
@[simp] theorem ev_sBrk : sBrk (x :: g) = some (.bk (x :: g)) := (rfl)
@[simp] theorem ev_sCont : sCont (x :: g) = some (.ct (x :: g)) := (rfl)
@[simp] theorem ev_sSeq {a b : XS} : sSeq a b (x :: g) = bd (a (x :: g)) fun x => match x with
  | .nx g' => b g'
  | .rt o g' => some (.rt o g')
  | .bk g' => some (.bk g')
  | .ct g' => some (.ct g') := (rfl)
@[simp] theorem ev_sRet {m : XE} : sRet m (x :: g) = mp (m (x :: g)) fun p => .rt p.1 p.2 := (rfl)
@[simp] theorem ev_sRetN : sRetN (x :: g) = some (.rt (.fr .non) (x :: g)) := (rfl)
@[simp] theorem ev_sDrop {m : XE} : sDrop m (x :: g) = mp (m (x :: g)) fun p => .nx p.2 := (rfl)
@[simp] theorem ev_sIf {c : XT} {a b : XS} : sIf c a b (x :: g) = bd (c (x :: g)) fun p => if p.1 = true then a p.2 else b p.2 := (rfl)
@[simp] theorem ev_gN {i : Nat} {o : O} : gN i o (x :: g) = if i < (x :: g).length then some ((x :: g).set i (some o)) else none := (rfl)
@[simp] theorem ev_gsNil : gsNil [] (x :: g) = some (x :: g) := (rfl)
@[simp] theorem ev_gsCons {a : XG} {b : List D → G → Option G} {d : D} {r : List D} : gsCons a b (d :: r) (x :: g) = bd (a (.fr d) (x :: g)) fun g1 => b r g1 := (rfl)
@[simp] theorem ev_gTp {n : Nat} {b : List D → G → Option G} {ds : List D} : gTp n b (.fr (.tup ds)) (x :: g) = if ds.length = n then b ds (x :: g) else none := (rfl)
@[simp] theorem ev_sAsg {m : XE} {a : XG} : sAsg m a (x :: g) = bd (m (x :: g)) fun p => mp (a p.1 p.2) .nx := (rfl)
@[simp] theorem ev_sPar {i j : Nat} {m : XA} : sPar i j m (x :: g) = bd (m (x :: g)) fun p => bd (alld p.1) fun ds => match ds with
  | [d, e] => if i < p.2.length then some (.nx ((p.2.set i (some (.fr d))).set j (some (.fr e)))) else none
  | _ => none := (rfl)
@[simp] theorem ev_sFor {it : XI} {tg : XG} {body : XS} : sFor it tg body (x :: g) = bd (it (x :: g)) fun p => forL tg body p.1 p.2 := (rfl)
@[simp] theorem ev_iLst {m : XO} : iLst m (x :: g) = bd (m (x :: g)) fun p => match p.1 with
  | .d (.lst ds) => some (ds, p.2)
  | _ => none := (rfl)
@[simp] theorem ev_iTpl {m : XO} : iTpl m (x :: g) = bd (m (x :: g)) fun p => match p.1 with
  | .d (.tup ds) => some (ds, p.2)
  | _ => none := (rfl)
@[simp] theorem ev_iSeq {m : XO} : iSeq m (x :: g) = bd (m (x :: g)) fun p => match p.1 with
  | .d (.lst ds) => some (ds, p.2)
  | .d (.tup ds) => some (ds, p.2)
  | _ => none := (rfl)
@[simp] theorem ev_iR1 {m : XO} : iR1 m (x :: g) = bd (m (x :: g)) fun p => match view p.2 p.1 with
  | some (.int j) => if -(2 ^ 62) ≤ j ∧ j < 2 ^ 62 then some (rgD 0 j.toNat, p.2) else none
  | _ => none := (rfl)
@[simp] theorem ev_iR2 {a b : XO} : iR2 a b (x :: g) = bd (a (x :: g)) fun p => bd (b p.2) fun q => match view q.2 p.1, view q.2 q.1 with
  | some (.int i), some (.int j) => if (-(2 ^ 62) ≤ i ∧ i < 2 ^ 62) ∧ (-(2 ^ 62) ≤ j ∧ j < 2 ^ 62) then some (rgD i (j - i).toNat, q.2) else none
  | _, _ => none := (rfl)
@[simp] theorem pull_nil : pull [] g = some ([], g) := (rfl)
@[simp] theorem pull_d {d : D} {r : List Opd} : pull (.d d :: r) g = mp (pull r g) fun p => (.fr d :: p.1, p.2) := (rfl)
@[simp] theorem pull_br {i : Nat} {r : List Opd} : pull (.br i :: r) g = (match g[i]? with
    | some (some o) => mp (pull r (g.set i none)) fun p => (o :: p.1, p.2)
    | _ => none) := (rfl)
@[simp] theorem push_br {i : Nat} {r : List Opd} {o : O} {os : List O} : push (.br i :: r) (o :: os) g = (push r os g).set i (some o) := (rfl)
@[simp] theorem push_d {d : D} {r : List Opd} {o : O} {os : List O} : push (.d d :: r) (o :: os) g = push r os g := (rfl)
@[simp] theorem push_nil : push [] [] g = g := (rfl)
@[simp] theorem ev_xCall {f : List O → Option (O × List O)} {as : XA} : xCall f as (x :: g) = bd (as (x :: g)) fun p => bd (pull p.1 p.2) fun q => mp (f q.1) fun z => (z.1, push p.1 z.2 q.2) := (rfl)
@[simp] theorem ev_xIsi {f : D → Bool} {m : XO} : xIsi f m (x :: g) = bd (m (x :: g)) fun p => bd (view p.2 p.1) fun d => if isDT d = true then none else some (.fr (.bl (f d)), p.2) := (rfl)
@[simp] theorem ev_xApp {i : Nat} {m : XE} : xApp i m (x :: g) = (match (x :: g)[i]? with
  | some (some (.lst _)) => bd (m (x :: g)) fun p => match p.2[i]? with
    | some (some (.lst os)) => if os.length < sizeLine then some (.fr .non, p.2.set i (some (.lst (os ++ [p.1])))) else none
    | _ => none
  | _ => none) := (rfl)
@[simp] theorem ev_gSetL {i : Nat} {mi : XO} {o : O} : gSetL i mi o (x :: g) = (match (x :: g)[i]? with
  | some (some (.lst _)) => bd (mi (x :: g)) fun p => match view p.2 p.1, p.2[i]? with
    | some (.int k), some (some (.lst os)) => mp (ixN os.length k) fun j => p.2.set i (some (.lst (os.set j o)))
    | _, _ => none
  | _ => none) := (rfl)
@[simp] theorem ev_xJoined {ms : List XO} : xJoined ms (x :: g) = mp (xJs ms Str.empty (x :: g)) fun p => (.fr (.str p.1), p.2) := (rfl)
@[simp] theorem ev_xJs0 {acc : Str} : xJs [] acc (x :: g) = some (acc, x :: g) := (rfl)
@[simp] theorem ev_xJs {m : XO} {ms : List XO} {acc : Str} : xJs (m :: ms) acc (x :: g) = bd (m (x :: g)) fun p => match view p.2 p.1 with
    | some (.str y) => if (acc ++ y).length ≤ sizeLine then xJs ms (acc ++ y) p.2 else none
    | _ => none := (rfl)
@[simp] theorem ev_xMS {f : Str → List D → Option D} {a : XO} {as : XA} : xMS f a as (x :: g) = bd (a (x :: g)) fun p => match p.1 with
  | .d (.str s) => bd (as p.2) fun q => bd (views q.2 q.1) fun ds => mp (f s ds) fun z => (.fr z, q.2)
  | _ => none := (rfl)
@[simp] theorem ev_eLc {it : XI} {tg : XG} {tt : XT} {te : XE} {vs : List Nat} : eLc it tg tt te vs (x :: g) = bd (it (x :: g)) fun p => mp (lcL tg tt te vs p.1 p.2 []) fun q => (.lst q.1, restG p.2 (wipeG q.2 vs) vs) := (rfl)
theorem ev_runF {N n : Nat} {pin : List Nat} {body : XS} {os : List O} (h : os.length = n) : runF N n pin body os = bd (body (os.map some ++ List.replicate (N - n) none)) fun x => match x with
      | .rt r g => mp (outs pin g 0 os) fun os' => (r, os')
      | .nx g => mp (outs pin g 0 os) fun os' => (.fr .non, os')
      | _ => none := by
  unfold runF
  rw [if_pos h]
  rfl
@[simp] theorem outs_nil {pin : List Nat} {j : Nat} : outs pin g j [] = some [] := (rfl)
@[simp] theorem outs_cons {pin : List Nat} {j : Nat} {o : O} {os : List O} : outs pin g j (o :: os) = if j ∈ pin then (match g[j]? with
      | some (some o') => mp (outs pin g (j + 1) os) fun r => o' :: r
      | _ => none)
    else (match o with
      | .fr d => mp (outs pin g (j + 1) os) fun r => .fr d :: r
      | _ => none) := (rfl)
@[simp] theorem dTru_bl {b : Bool} : dTru (.bl b) = some b := (rfl)
@[simp] theorem dTru_int {i : Int} : dTru (.int i) = some (i != 0) := (rfl)
@[simp] theorem dTru_tup {ds : List D} : dTru (.tup ds) = some (!ds.isEmpty) := (rfl)
@[simp] theorem dTru_lst {ds : List D} : dTru (.lst ds) = some (!ds.isEmpty) := (rfl)
@[simp] theorem dTru_non : dTru .non = some false := (rfl)
@[simp] theorem dEq_int {i j : Int} : dEq (.int i) (.int j) = some (.bl (decide (i = j))) := (rfl)
@[simp] theorem dNe_int {i j : Int} : dNe (.int i) (.int j) = some (.bl (!decide (i = j))) := (rfl)
@[simp] theorem dEq_str {i j : Str} : dEq (.str i) (.str j) = some (.bl (decide (i = j))) := (rfl)
@[simp] theorem dNe_str {i j : Str} : dNe (.str i) (.str j) = some (.bl (!decide (i = j))) := (rfl)
@[simp] theorem dLt_int {i j : Int} : dLt (.int i) (.int j) = some (.bl (decide (i < j))) := (rfl)
@[simp] theorem dLe_int {i j : Int} : dLe (.int i) (.int j) = some (.bl (decide (i ≤ j))) := (rfl)
@[simp] theorem dGt_int {i j : Int} : dGt (.int i) (.int j) = some (.bl (decide (j < i))) := (rfl)
@[simp] theorem dGe_int {i j : Int} : dGe (.int i) (.int j) = some (.bl (decide (j ≤ i))) := (rfl)
@[simp] theorem dIsN_ev {d : D} : dIsN d .non = some (.bl (isNonD d)) := (rfl)
@[simp] theorem dNotN_ev {d : D} : dNotN d .non = some (.bl (!isNonD d)) := (rfl)
@[simp] theorem dIsB_ev {d : D} {b : Bool} : dIsB d (.bl b) = some (.bl (isBl d b)) := (rfl)
@[simp] theorem dNotB_ev {d : D} {b : Bool} : dNotB d (.bl b) = some (.bl (!isBl d b)) := (rfl)
@[simp] theorem dSub_int {i j : Int} : dSub (.int i) (.int j) = some (.int (i - j)) := (rfl)
@[simp] theorem dMod_int {i j : Int} : dMod (.int i) (.int j) = if j ≠ 0 then some (.int (i.fmod j)) else none := (rfl)
@[simp] theorem dFdiv_int {i j : Int} : dFdiv (.int i) (.int j) = if CDivX i j then some (.int (i.fdiv j)) else none := (rfl)
@[simp] theorem dPow_int {i j : Int} : dPow (.int i) (.int j) = if 0 ≤ j ∧ j ≤ 1000000 ∧ i.natAbs < 2 ^ 64 then some (.int (i ^ j.toNat)) else none := (rfl)
@[simp] theorem dNeg_int {i : Int} : dNeg (.int i) = some (.int (-i)) := (rfl)
@[simp] theorem dAdd_int {i j : Int} : dAdd (.int i) (.int j) = some (.fr (.int (i + j))) := (rfl)
@[simp] theorem dMul_int {i j : Int} : dMul (.int i) (.int j) = if mulOk i j = true then some (.fr (.int (i * j))) else none := (rfl)
@[simp] theorem dAbs_int {i : Int} : dAbs [.int i] = some (.int (if i < 0 then -i else i)) := (rfl)
@[simp] theorem dGcd_int {a b : Int} : dGcd [.int a, .int b] = some (.int ((Nat.gcd a.natAbs b.natAbs : Nat) : Int)) := (rfl)
@[simp] theorem dIntOf_int {a : Int} : dIntOf [.int a] = some (.int a) := (rfl)
@[simp] theorem dIntOf_bl {a : Bool} : dIntOf [.bl a] = some (.int (if a then 1 else 0)) := (rfl)
@[simp] theorem dLen_tup {es : List D} : dLen [.tup es] = some (.int (es.length : Nat)) := (rfl)
@[simp] theorem dLen_lst {es : List D} : dLen [.lst es] = some (.int (es.length : Nat)) := (rfl)
@[simp] theorem dLen_scr {es : List Int} : dLen [.scr es] = some (.int (es.length : Nat)) := (rfl)
@[simp] theorem dLen_str {s : Str} : dLen [.str s] = if s.length ≤ sizeLine then some (.int (s.length : Nat)) else none := (rfl)
@[simp] theorem dIx_tup {ds : List D} {i : Int} : dIx (.tup ds) (.int i) = atI ds i := (rfl)
@[simp] theorem dIx_lst {ds : List D} {i : Int} : dIx (.lst ds) (.int i) = atI ds i := (rfl)
@[simp] theorem dIx_scr {ds : List Int} {i : Int} : dIx (.scr ds) (.int i) = mp (atI ds i) .int := (rfl)
@[simp] theorem oIx_lst {os : List O} {i : Int} : oIx (.lst os) (.int i) = bd (atI os i) oFr := (rfl)
@[simp] theorem oFr_fr {d : D} : oFr (.fr d) = some d := (rfl)
@[simp] theorem isDT_bl {b : Bool} : isDT (.bl b) = false := (rfl)
@[simp] theorem isDT_int {b : Int} : isDT (.int b) = false := (rfl)
@[simp] theorem isDT_str {b : Str} : isDT (.str b) = false := (rfl)
@[simp] theorem isDT_tup {b : List D} : isDT (.tup b) = false := (rfl)
@[simp] theorem isDT_lst {b : List D} : isDT (.lst b) = false := (rfl)
@[simp] theorem isDT_scr {b : List Int} : isDT (.scr b) = false := (rfl)
@[simp] theorem isDT_non : isDT .non = false := (rfl)
@[simp] theorem isNonD_non : isNonD .non = true := (rfl)
@[simp] theorem isNonD_bl {b : Bool} : isNonD (.bl b) = false := (rfl)
@[simp] theorem isNonD_int {b : Int} : isNonD (.int b) = false := (rfl)
@[simp] theorem isNonD_str {b : Str} : isNonD (.str b) = false := (rfl)
@[simp] theorem isNonD_tup {b : List D} : isNonD (.tup b) = false := (rfl)
@[simp] theorem isNonD_lst {b : List D} : isNonD (.lst b) = false := (rfl)
@[simp] theorem isBl_bl {b c : Bool} : isBl (.bl c) b = (c == b) := (rfl)
@[simp] theorem isBl_int {b : Int} {c : Bool} : isBl (.int b) c = false := (rfl)
@[simp] theorem isBl_non {c : Bool} : isBl .non c = false := (rfl)
@[simp] theorem isBl_str {b : Str} {c : Bool} : isBl (.str b) c = false := (rfl)
@[simp] theorem isBl_tup {b : List D} {c : Bool} : isBl (.tup b) c = false := (rfl)
@[simp] theorem isBl_lst {b : List D} {c : Bool} : isBl (.lst b) c = false := (rfl)
@[simp] theorem wipeG_nil {g : G} : wipeG g [] = g := (rfl)
@[simp] theorem wipeG_cons {g : G} {v : Nat} {vs : List Nat} : wipeG g (v :: vs) = (wipeG g vs).set v none := (rfl)
@[simp] theorem restG_nil {g0 g : G} : restG g0 g [] = g := (rfl)
@[simp] theorem restG_cons {g0 g : G} {i : Nat} {vs : List Nat} : restG g0 g (i :: vs) = (match g0[i]? with
    | some (some (.fr d)) => (restG g0 g vs).set i (some (.fr d))
    | _ => restG g0 g vs) := (rfl)
@[simp] theorem lcL_nil {tg : XG} {tt : XT} {te : XE} {vs : List Nat} {g : G} {acc : List O} : lcL tg tt te vs [] g acc = some (acc, g) := (rfl)
@[simp] theorem lcL_cons {tg : XG} {tt : XT} {te : XE} {vs : List Nat} {d : D} {ds : List D} {acc : List O} : lcL tg tt te vs (d :: ds) (x :: g) acc = bd (tg (.fr d) (wipeG (x :: g) vs)) fun g1 => bd (tt g1) fun p => if p.1 = true then
      bd (te p.2) fun q => if acc.length < sizeLine then lcL tg tt te vs ds q.2 (acc ++ [q.1]) else none
    else lcL tg tt te vs ds p.2 acc := (rfl)
@[simp] theorem forL_nil {tg : XG} {body : XS} {g : G} : forL tg body [] g = some (.nx g) := (rfl)
@[simp] theorem forL_cons {tg : XG} {body : XS} {d : D} {ds : List D} : forL tg body (d :: ds) (x :: g) = bd (tg (.fr d) (x :: g)) fun g1 => bd (body g1) fun x => match x with
    | .nx g2 => forL tg body ds g2
    | .ct g2 => forL tg body ds g2
    | .bk g2 => some (.nx g2)
    | .rt o g2 => some (.rt o g2) := (rfl)
@[simp] theorem dEq_nil : dEq (.lst []) (.lst []) = some (.bl true) := (rfl)
@[simp] theorem dNe_nil : dNe (.lst []) (.lst []) = some (.bl false) := (rfl)
theorem atI_lt {α : Type} {ys : List α} {k : Nat} (h : k < ys.length) : atI ys (k : Int) = ys[k]? := by
  unfold atI ixN
  rw [if_pos (by omega), if_pos (by omega)]
  rfl
@[simp] theorem atI_0 {α : Type} {y : α} {ys : List α} : atI (y :: ys) 0 = some y := (atI_lt (k := 0) (by simp)).trans rfl
@[simp] theorem atI_1 {α : Type} {y z : α} {ys : List α} : atI (y :: z :: ys) 1 = some z := (atI_lt (k := 1) (by simp)).trans rfl
@[simp] theorem atI_2 {α : Type} {y z u : α} {ys : List α} : atI (y :: z :: u :: ys) 2 = some u := (atI_lt (k := 2) (by simp)).trans rfl
@[simp] theorem ixN_0 {n : Nat} : ixN (n + 1) 0 = some 0 := by
  unfold ixN
  rw [if_pos (by omega), if_pos (by omega)]
  rfl
@[simp] theorem ixN_1 {n : Nat} : ixN (n + 1 + 1) 1 = some 1 := by
  unfold ixN
  rw [if_pos (by omega), if_pos (by omega)]
  rfl
end
end Mi

set_option Elab.async false
set_option linter.all false
set_option maxRecDepth 100000
/-! Mi10: what a mirror answers, by what must hold of it. -/
namespace Mi
open PySem PySem.Spec PyProof.Rows L2
def Ev {α : Type} (o : Option α) (Q : α → Prop) : Prop := ∃ a, o = some a ∧ Q a
section
variable {α β : Type}
theorem Ev.mono {o : Option α} {Q R : α → Prop} (h : Ev o Q) (k : ∀ a, Q a → R a) : Ev o R := h.elim fun a z => ⟨a, z.1, k a z.2⟩
@[simp] theorem ev_some {a : α} {Q : α → Prop} : Ev (some a) Q ↔ Q a := ⟨fun ⟨b, e, q⟩ => by cases e; exact q, fun q => ⟨a, rfl, q⟩⟩
@[simp] theorem ev_none {Q : α → Prop} : Ev none Q ↔ False := ⟨fun ⟨b, e, q⟩ => by (cases e), False.elim⟩
@[simp ↓] theorem ev_bd {o : Option α} {f : α → Option β} {Q : β → Prop} : Ev (bd o f) Q ↔ Ev o fun a => Ev (f a) Q := by
  cases o with
  | none => exact ⟨fun ⟨b, e, q⟩ => by (cases e), fun ⟨b, e, q⟩ => by (cases e)⟩
  | some a => exact ⟨fun h => ⟨a, rfl, h⟩, fun ⟨b, e, q⟩ => by cases e; exact q⟩
@[simp ↓] theorem ev_mp {o : Option α} {f : α → β} {Q : β → Prop} : Ev (mp o f) Q ↔ Ev o fun a => Q (f a) := by
  cases o with
  | none => exact ⟨fun ⟨b, e, q⟩ => by (cases e), fun ⟨b, e, q⟩ => by (cases e)⟩
  | some a => exact ⟨fun ⟨b, e, q⟩ => by cases e; exact ⟨a, rfl, q⟩, fun ⟨b, e, q⟩ => by cases e; exact ⟨_, rfl, q⟩⟩
theorem ev_bind {o : Option α} {f : α → Option β} {Q : β → Prop} : Ev (o.bind f) Q ↔ Ev o fun a => Ev (f a) Q := ev_bd
@[simp] theorem ev_ifN {c : Prop} [Decidable c] {o : Option α} {Q : α → Prop} : Ev (if c then o else none) Q ↔ c ∧ Ev o Q := by
  by_cases h : c
  · rw [if_pos h]; exact ⟨fun q => ⟨h, q⟩, fun q => q.2⟩
  · rw [if_neg h]; exact ⟨fun q => (ev_none.mp q).elim, fun q => (h q.1).elim⟩
@[simp] theorem ev_Nif {c : Prop} [Decidable c] {o : Option α} {Q : α → Prop} : Ev (if c then none else o) Q ↔ ¬c ∧ Ev o Q := by
  by_cases h : c
  · rw [if_pos h]; exact ⟨fun q => (ev_none.mp q).elim, fun q => (q.1 h).elim⟩
  · rw [if_neg h]; exact ⟨fun q => ⟨h, q⟩, fun q => q.2⟩
theorem ev_if {c : Prop} [Decidable c] {o o' : Option α} {Q : α → Prop} : Ev (if c then o else o') Q ↔ if c then Ev o Q else Ev o' Q := by
  by_cases h : c
  · rw [if_pos h, if_pos h]
  · rw [if_neg h, if_neg h]
theorem Ev.ite {c : Prop} [Decidable c] {o o' : Option α} {Q : α → Prop} (h1 : c → Ev o Q) (h2 : ¬c → Ev o' Q) : Ev (if c then o else o') Q := by
  by_cases h : c
  · rw [if_pos h]; exact h1 h
  · rw [if_neg h]; exact h2 h
theorem Ev.of {o : Option α} {a : α} {Q : α → Prop} (e : o = some a) (q : Q a) : Ev o Q := ⟨a, e, q⟩
@[simp] theorem boolIf {p : Prop} [Decidable p] {c : Bool} {g : G} : (if p then some (O.fr (.bl c), g) else some (O.fr (.bl (decide p)), g)) = some (O.fr (.bl (decide p && c)), g) := by
  by_cases h : p <;> simp [h]
@[simp] theorem boolIfB {p c : Bool} {g : G} : (if p = true then some (O.fr (.bl c), g) else some (O.fr (.bl p), g)) = some (O.fr (.bl (p && c)), g) := by
  cases p <;> rfl
@[simp] theorem boolIfO {p : Prop} [Decidable p] {c : Bool} {g : G} : (if p then some (O.fr (.bl (decide p)), g) else some (O.fr (.bl c), g)) = some (O.fr (.bl (decide p || c)), g) := by
  by_cases h : p <;> simp [h]
@[simp] theorem boolIfOB {p c : Bool} {g : G} : (if p = true then some (O.fr (.bl p), g) else some (O.fr (.bl c), g)) = some (O.fr (.bl (p || c)), g) := by
  cases p <;> rfl
end

/-- how a turn ends: on, with P -/
def Goes (P : G → Prop) : Out → Prop
  | .nx g => P g
  | .ct g => P g
  | .bk g => P g
  | .rt _ _ => False
@[simp] theorem goes_nx {P : G → Prop} {g : G} : Goes P (.nx g) ↔ P g := .rfl
@[simp] theorem goes_ct {P : G → Prop} {g : G} : Goes P (.ct g) ↔ P g := .rfl
@[simp] theorem goes_bk {P : G → Prop} {g : G} : Goes P (.bk g) ↔ P g := .rfl
@[simp] theorem goes_rt {P : G → Prop} {g : G} {o : O} : Goes P (.rt o g) ↔ False := .rfl
/-- a loop that is never left by return -/
theorem forL_goes {tg : XG} {body : XS} {P : G → Prop} : ∀ {ds : List D} {g : G}, P g → (∀ d ∈ ds, ∀ g, P g → Ev (tg (.fr d) g) fun g1 => Ev (body g1) (Goes P)) → Ev (forL tg body ds g) fun x => ∃ g', x = .nx g' ∧ P g'
  | [], g, p, _ => ⟨_, rfl, g, rfl, p⟩
  | d :: ds, g, p, h => by
    obtain ⟨g1, e1, x, e2, q⟩ := h d (.head _) g p
    have h' := fun d' hd => h d' (.tail _ hd)
    cases x with
    | nx g2 =>
      obtain ⟨y, e3, k⟩ := forL_goes (ds := ds) (g := g2) q h'
      exact ⟨y, by show (tg (.fr d) g).bind _ = _; rw [e1]; show (body g1).bind _ = _; rw [e2]; exact e3, k⟩
    | ct g2 =>
      obtain ⟨y, e3, k⟩ := forL_goes (ds := ds) (g := g2) q h'
      exact ⟨y, by show (tg (.fr d) g).bind _ = _; rw [e1]; show (body g1).bind _ = _; rw [e2]; exact e3, k⟩
    | bk g2 => exact ⟨.nx g2, by show (tg (.fr d) g).bind _ = _; rw [e1]; show (body g1).bind _ = _; rw [e2]; rfl, g2, rfl, q⟩
    | rt o g2 => exact q.elim
/-- how a turn of a loop ends that is gone through -/
def Turn (P : G → Prop) : Out → Prop
  | .nx g => P g
  | .ct g => P g
  | .bk _ => False
  | .rt _ _ => False
@[simp] theorem turn_nx {P : G → Prop} {g : G} : Turn P (.nx g) ↔ P g := .rfl
@[simp] theorem turn_ct {P : G → Prop} {g : G} : Turn P (.ct g) ↔ P g := .rfl
@[simp] theorem turn_bk {P : G → Prop} {g : G} : Turn P (.bk g) ↔ False := .rfl
@[simp] theorem turn_rt {P : G → Prop} {g : G} {o : O} : Turn P (.rt o g) ↔ False := .rfl
theorem forL_from {tg : XG} {body : XS} {P : Nat → G → Prop} : ∀ {ds : List D} {n : Nat} {g : G}, P n g → (∀ k (hk : k < ds.length) g, P (n + k) g → Ev (tg (.fr ds[k]) g) fun g1 => Ev (body g1) (Turn (P (n + k + 1)))) → Ev (forL tg body ds g) fun x => ∃ g', x = .nx g' ∧ P (n + ds.length) g'
  | [], n, g, p, _ => ⟨_, rfl, g, rfl, p⟩
  | d :: ds, n, g, p, h => by
    obtain ⟨g1, e1, x, e2, q⟩ := h 0 (Nat.zero_lt_succ _) g p
    have e1 : tg (.fr d) g = some g1 := e1
    have h' : ∀ {g2 : G}, P (n + 1) g2 → Ev (forL tg body ds g2) fun x => ∃ g', x = .nx g' ∧ P (n + (d :: ds).length) g' := fun {g2} q => by
      have := forL_from (tg := tg) (body := body) (P := P) (ds := ds) (n := n + 1) (g := g2) q fun k hk g pk => by
        have := h (k + 1) (Nat.succ_lt_succ hk) g (by rw [← Nat.add_assoc, Nat.add_right_comm]; exact pk)
        rw [List.getElem_cons_succ] at this
        rw [show n + 1 + k + 1 = n + (k + 1) + 1 by omega]
        exact this
      rw [List.length_cons, show n + (ds.length + 1) = n + 1 + ds.length by omega]
      exact this
    cases x with
    | nx g2 =>
      obtain ⟨y, e3, k⟩ := h' q
      exact ⟨y, by show (tg (.fr d) g).bind _ = _; rw [e1]; show (body g1).bind _ = _; rw [e2]; exact e3, k⟩
    | ct g2 =>
      obtain ⟨y, e3, k⟩ := h' q
      exact ⟨y, by show (tg (.fr d) g).bind _ = _; rw [e1]; show (body g1).bind _ = _; rw [e2]; exact e3, k⟩
    | bk g2 => exact q.elim
    | rt o g2 => exact q.elim
/-- a loop gone through, by its turns -/
theorem forL_idx {tg : XG} {body : XS} {P : Nat → G → Prop} {ds : List D} {g : G} (h0 : P 0 g) (h : ∀ k (hk : k < ds.length) g, P k g → Ev (tg (.fr ds[k]) g) fun g1 => Ev (body g1) (Turn (P (k + 1)))) : Ev (forL tg body ds g) fun x => ∃ g', x = .nx g' ∧ P ds.length g' := by
  have := forL_from (n := 0) h0 fun k hk g p => by
    have := h k hk g (by rw [Nat.zero_add] at p; exact p)
    rw [Nat.zero_add]
    exact this
  rw [Nat.zero_add] at this
  exact this
theorem rgD_get {lo : Int} {n k : Nat} (h : k < (rgD lo n).length) : (rgD lo n)[k] = .int (lo + k) := by
  simp [rgD]
/-- a range gone through -/
theorem forR {tg : XG} {body : XS} {P : Nat → G → Prop} {lo : Int} {n : Nat} {g : G} (h0 : P 0 g) (h : ∀ (k : Nat) (i : Int), k < n → i = lo + k → ∀ g, P k g → Ev (tg (.fr (.int i)) g) fun g1 => Ev (body g1) (Turn (P (k + 1)))) : Ev (forL tg body (rgD lo n) g) fun x => ∃ g', x = .nx g' ∧ P n g' := by
  have := forL_idx (ds := rgD lo n) h0 fun k hk g p => by
    rw [rgD_get hk]
    exact h k _ (by unfold rgD at hk; rw [List.length_map, List.length_range] at hk; exact hk) rfl g p
  rw [show (rgD lo n).length = n by unfold rgD; rw [List.length_map, List.length_range]] at this
  exact this
/-- a list comprehension: what it lists -/
theorem lcL_go {tg : XG} {tt : XT} {te : XE} {vs : List Nat} {P : G → Prop} {f : D → Option O} : ∀ {ds : List D} {g : G} {acc : List O}, P g → (∀ d ∈ ds, ∀ g, P g → Ev (tg (.fr d) (wipeG g vs)) fun g1 => Ev (tt g1) fun p => (p.1 = true → Ev (te p.2) fun q => f d = some q.1 ∧ P q.2) ∧ (p.1 = false → f d = none ∧ P p.2)) → acc.length + ds.length ≤ sizeLine → Ev (lcL tg tt te vs ds g acc) fun q => q.1 = acc ++ ds.filterMap f ∧ P q.2
  | [], g, acc, p, _, _ => ⟨_, rfl, by simp, p⟩
  | d :: ds, g, acc, p, h, hl => by
    obtain ⟨g1, e1, ⟨b, g2⟩, e2, k1, k2⟩ := h d (.head _) g p
    have h' := fun d' hd => h d' (.tail _ hd)
    rw [List.length_cons] at hl
    cases b with
    | true =>
      obtain ⟨⟨o, g3⟩, e3, ef, p3⟩ := k1 rfl
      obtain ⟨y, e4, k⟩ := lcL_go (ds := ds) (g := g3) (acc := acc ++ [o]) p3 h' (by simp; omega)
      refine ⟨y, ?_, ?_, k.2⟩
      · show (tg (.fr d) (wipeG g vs)).bind _ = _
        rw [e1]
        show (tt g1).bind _ = _
        rw [e2]
        show (te g2).bind _ = _
        rw [e3]
        show (if acc.length < sizeLine then _ else none) = _
        rw [if_pos (by omega)]
        exact e4
      · rw [k.1, List.filterMap_cons_some ef]
        simp
    | false =>
      obtain ⟨ef, p3⟩ := k2 rfl
      obtain ⟨y, e4, k⟩ := lcL_go (ds := ds) (g := g2) (acc := acc) p3 h' (by omega)
      refine ⟨y, ?_, ?_, k.2⟩
      · show (tg (.fr d) (wipeG g vs)).bind _ = _
        rw [e1]
        show (tt g1).bind _ = _
        rw [e2]
        exact e4
      · rw [k.1, List.filterMap_cons_none ef]
/-- a list comprehension without a test: what holds of each item -/
theorem lcL_all {tg : XG} {te : XE} {vs : List Nat} {P : G → Prop} {R : O → Prop} : ∀ {ds : List D} {g : G} {acc : List O}, P g → (∀ o ∈ acc, R o) → (∀ d ∈ ds, ∀ g, P g → Ev (tg (.fr d) (wipeG g vs)) fun g1 => Ev (te g1) fun q => R q.1 ∧ P q.2) → acc.length + ds.length ≤ sizeLine → Ev (lcL tg xYes te vs ds g acc) fun q => (∀ o ∈ q.1, R o) ∧ q.1.length = acc.length + ds.length ∧ P q.2
  | [], g, acc, p, ha, _, _ => ⟨_, rfl, ha, rfl, p⟩
  | d :: ds, g, acc, p, ha, h, hl => by
    obtain ⟨g1, e1, ⟨o, g3⟩, e3, ro, p3⟩ := h d (.head _) g p
    have h' := fun d' hd => h d' (.tail _ hd)
    rw [List.length_cons] at hl
    obtain ⟨y, e4, k1, k2, k3⟩ := lcL_all (ds := ds) (g := g3) (acc := acc ++ [o]) p3 (fun x hx => by
      rcases List.mem_append.mp hx with hx | hx
      · exact ha x hx
      · cases List.mem_singleton.mp hx
        exact ro) h' (by simp; omega)
    refine ⟨y, ?_, k1, by rw [k2, List.length_append, List.length_cons, List.length_cons, List.length_nil]; omega, k3⟩
    show (tg (.fr d) (wipeG g vs)).bind _ = _
    rw [e1]
    show (te g1).bind _ = _
    rw [e3]
    show (if acc.length < sizeLine then _ else none) = _
    rw [if_pos (by omega)]
    exact e4
/-- a while, by a measure -/
theorem while_go {c : XT} {b : XS} (I : Nat → G → Prop) (Q : Out → Prop) (h : ∀ n g, I n g → Ev (c g) fun p => if p.1 = true then Ev (b p.2) (fun x => match x with
      | .nx g' => ∃ m, m < n ∧ I m g'
      | .ct g' => ∃ m, m < n ∧ I m g'
      | .bk g' => Q (.nx g')
      | .rt o g' => Q (.rt o g')) else Q (.nx p.2)) {n : Nat} {g : G} (i : I n g) : Ev (sWhile c b g) Q := by
  suffices hs : ∀ n g, I n g → ∃ out m, WhN c b m g out ∧ Q out by
    obtain ⟨out, m, w, q⟩ := hs n g i
    exact ⟨out, sWhile_eq w, q⟩
  intro n
  induction n using Nat.strongRecOn with
  | ind n ih =>
    intro g i
    obtain ⟨⟨k, g1⟩, e1, k1⟩ := h n g i
    cases k with
    | false =>
      rw [if_neg (by intro z; cases z)] at k1
      exact ⟨_, 0, .done e1, k1⟩
    | true =>
      rw [if_pos rfl] at k1
      obtain ⟨x, e2, k2⟩ := k1
      cases x with
      | nx g2 =>
        obtain ⟨m, hm, i2⟩ := k2
        obtain ⟨out, m2, w, q⟩ := ih m hm g2 i2
        exact ⟨out, m2 + 1, .next e1 e2 w, q⟩
      | ct g2 =>
        obtain ⟨m, hm, i2⟩ := k2
        obtain ⟨out, m2, w, q⟩ := ih m hm g2 i2
        exact ⟨out, m2 + 1, .cont e1 e2 w, q⟩
      | bk g2 => exact ⟨_, 0, .brk e1 e2, k2⟩
      | rt o g2 => exact ⟨_, 0, .ret e1 e2, k2⟩
theorem mem_rgD {lo : Int} {n : Nat} {d : D} : d ∈ rgD lo n ↔ ∃ k : Nat, k < n ∧ d = .int (lo + k) := by
  unfold rgD
  rw [List.mem_map]
  constructor
  · rintro ⟨k, hk, rfl⟩
    exact ⟨k, List.mem_range.mp hk, rfl⟩
  · rintro ⟨k, hk, rfl⟩
    exact ⟨k, List.mem_range.mpr hk, rfl⟩
theorem rgD_len {lo : Int} {n : Nat} : (rgD lo n).length = n := by
  unfold rgD
  rw [List.length_map, List.length_range]
@[simp] theorem isInt_int {i : Int} : Mi.isInt (.int i) = true := rfl
@[simp] theorem isInt_bl {i : Bool} : Mi.isInt (.bl i) = true := rfl
@[simp] theorem isInt_str {i : Str} : Mi.isInt (.str i) = false := rfl
@[simp] theorem isInt_tup {i : List D} : Mi.isInt (.tup i) = false := rfl
@[simp] theorem isInt_lst {i : List D} : Mi.isInt (.lst i) = false := rfl
@[simp] theorem isInt_non : Mi.isInt .non = false := rfl
@[simp] theorem isBool_int {i : Int} : isBool (.int i) = false := rfl
@[simp] theorem isBool_bl {i : Bool} : isBool (.bl i) = true := rfl
@[simp] theorem isBool_str {i : Str} : isBool (.str i) = false := rfl
@[simp] theorem isBool_tup {i : List D} : isBool (.tup i) = false := rfl
@[simp] theorem isBool_lst {i : List D} : isBool (.lst i) = false := rfl
@[simp] theorem isBool_non : isBool .non = false := rfl
@[simp] theorem isStr_int {i : Int} : isStr (.int i) = false := rfl
@[simp] theorem isStr_bl {i : Bool} : isStr (.bl i) = false := rfl
@[simp] theorem isStr_str {i : Str} : isStr (.str i) = true := rfl
@[simp] theorem isStr_tup {i : List D} : isStr (.tup i) = false := rfl
@[simp] theorem isStr_lst {i : List D} : isStr (.lst i) = false := rfl
@[simp] theorem isStr_non : isStr .non = false := rfl
@[simp] theorem isTup_int {i : Int} : isTup (.int i) = false := rfl
@[simp] theorem isTup_bl {i : Bool} : isTup (.bl i) = false := rfl
@[simp] theorem isTup_str {i : Str} : isTup (.str i) = false := rfl
@[simp] theorem isTup_tup {i : List D} : isTup (.tup i) = true := rfl
@[simp] theorem isTup_lst {i : List D} : isTup (.lst i) = false := rfl
@[simp] theorem isTup_non : isTup .non = false := rfl
@[simp] theorem isLst_int {i : Int} : isLst (.int i) = false := rfl
@[simp] theorem isLst_bl {i : Bool} : isLst (.bl i) = false := rfl
@[simp] theorem isLst_str {i : Str} : isLst (.str i) = false := rfl
@[simp] theorem isLst_tup {i : List D} : isLst (.tup i) = false := rfl
@[simp] theorem isLst_lst {i : List D} : isLst (.lst i) = true := rfl
@[simp] theorem isLst_non : isLst .non = false := rfl
@[simp] theorem mulOk_l {i j : Int} (h : -(2 ^ 64) < i ∧ i < 2 ^ 64) : mulOk i j = true := by
  unfold mulOk
  rw [decide_eq_true h]
  rfl
@[simp] theorem mulOk_r {i j : Int} (h : -(2 ^ 64) < j ∧ j < 2 ^ 64) : mulOk i j = true := by
  unfold mulOk
  rw [decide_eq_true h]
  simp
theorem log2_lt {n k : Nat} (h : n < 2 ^ k) (hk : 0 < k) : n.log2 < k := by
  by_cases h0 : n = 0
  · subst h0
    exact hk
  · exact (Nat.log2_lt h0).mpr h
theorem mulOk_big {i j : Int} (hi : i.natAbs < 2 ^ 400000) (hj : j.natAbs < 2 ^ 400000) : mulOk i j = true := by
  unfold mulOk
  have a := log2_lt hi (by decide)
  have b := log2_lt hj (by decide)
  have : decide (i.natAbs.log2 + j.natAbs.log2 < 1000000) = true := decide_eq_true (by omega)
  rw [this]
  simp
theorem cdiv_ok {i j : Int} (h0 : j ≠ 0) (hj : j.natAbs < 2 ^ 9000) : CDivX i j := ⟨h0, log2_lt hj (by decide)⟩
@[simp] theorem one_size : 1 ≤ sizeLine := by decide
@[simp] theorem two_size : 2 ≤ sizeLine := by decide
@[simp] theorem small_size {n : Nat} (h : n ≤ 10000) : n ≤ sizeLine := Nat.le_trans h (by decide)
theorem lawOk_of {f : List O → Option (O × List O)} (h : ∀ ns : List Int, ScrOk ns → Ev (f [.fr (.scr ns)]) fun p => p.1 = .fr (.bl true)) : LawOk f := fun ns k => by
  obtain ⟨⟨o, os⟩, e, q⟩ := h ns k
  cases q
  exact ⟨os, e⟩
end Mi

set_option Elab.async false
set_option linter.all false
set_option maxRecDepth 100000
/-! Mi11: objects; code that is never come to. -/
namespace Mi
open PySem PySem.Spec PyProof.Rows L2
section
variable {B : Bs} {F F' H H' : Hp} {σ : L2.St} {g : G} {τ : En} {K : PySem.W.Frag}
/-! ### fields -/
def pF (f : Str) : List Str → List Str
  | [] => [f]
  | h :: hs => if h = f then h :: hs else h :: pF f hs
def pV {α : Type} (f : Str) (x : α) : List Str → List α → List α
  | h :: hs, y :: ys => if h = f then x :: ys else y :: pV f x hs ys
  | _, _ => [x]
theorem putF_zip (f : Str) (y : V) : ∀ (fs : List Str) (vs : List V), fs.length = vs.length → putF f y (fs.zip vs) = (pF f fs).zip (pV f y fs vs)
  | [], [], _ => rfl
  | [], _ :: _, h => by cases h
  | _ :: _, [], h => by cases h
  | h :: hs, v :: vs, hl => by
    have ih := putF_zip f y hs vs (Nat.succ.inj hl)
    show (if h = f then (h, y) :: hs.zip vs else (h, v) :: putF f y (hs.zip vs)) = (if h = f then h :: hs else h :: pF f hs).zip (if h = f then y :: vs else v :: pV f y hs vs)
    by_cases q : h = f
    · rw [if_pos q, if_pos q, if_pos q]
      rfl
    · rw [if_neg q, if_neg q, if_neg q, ih]
      rfl
theorem ow_pV {y : V} {o : O} {f2 : List Addr} (f : Str) (ho : Ow K F H y o f2) : ∀ (fs : List Str) (vs : List V) (os : List O) (f1 : List Addr), fs.length = vs.length → OwL K F H vs os f1 → ∃ fp r, OwL K F H (pV f y fs vs) (pV f o fs os) fp ∧ (f2 ++ f1).Perm (fp ++ r)
  | [], [], os, f1, _, h => by
    have : os = [] := by
      have := h.length
      cases os with
      | nil => rfl
      | cons _ _ => cases this
    subst this
    obtain ⟨_, rfl⟩ := h
    exact ⟨f2 ++ [], [], OwL.cons ho OwL.nil, by simp⟩
  | [], _ :: _, _, _, h, _ => by cases h
  | _ :: _, [], _, _, h, _ => by cases h
  | h :: hs, v :: vs, [], f1, hl, hw => by
    have := hw.length
    cases this
  | h :: hs, v :: vs, o' :: os, f1, hl, hw => by
    obtain ⟨g1, g2, k1, k2, rfl⟩ := hw.inv
    show ∃ fp r, OwL K F H (if h = f then y :: vs else v :: pV f y hs vs) (if h = f then o :: os else o' :: pV f o hs os) fp ∧ _
    by_cases q : h = f
    · rw [if_pos q, if_pos q]
      refine ⟨f2 ++ g2, g1, OwL.cons ho k2, ?_⟩
      rw [List.append_assoc]
      exact List.perm_append_comm.append_left _
    · rw [if_neg q, if_neg q]
      obtain ⟨fp, r, m1, m2⟩ := ow_pV f ho hs vs os g2 (Nat.succ.inj hl) k2
      refine ⟨g1 ++ fp, r, OwL.cons k1 m1, ?_⟩
      have p1 : (f2 ++ (g1 ++ g2)).Perm (g1 ++ (f2 ++ g2)) := by
        rw [← List.append_assoc, ← List.append_assoc]
        exact List.perm_append_comm.append_right g2
      rw [List.append_assoc]
      exact p1.trans (m2.append_left g1)
theorem Rel.putFld {v y : V} {o : O} {C : Addr} {fs : List Str} {os : List O} (f : Str) (hl : fs.length = os.length) (r : Rel B F H σ g ((y, o) :: (v, .ob C fs os) :: τ)) : ∃ a dx vs, v = .ref a ∧ H a = some (.ins C dx (fs.zip vs)) ∧ vs.length = os.length ∧ Rel B F (upd H a (.ins C dx (putF f y (fs.zip vs)))) σ g ((v, .ob C (pF f fs) (pV f o fs os)) :: τ) := by
  obtain ⟨f1, k1, k2, k3⟩ := Rel.open (E1 := [(y, o), (v, .ob C fs os)]) (τ := τ) r
  obtain ⟨fo, fl, m1, m2, rfl⟩ := OwE.inv k1
  obtain ⟨a, dx, vs, ff, rfl, e2, e3, rfl⟩ := OwE.one m2
  have hlv : fs.length = vs.length := by rw [hl, e3.length]
  have nd := List.nodup_append.mp k2
  have hn : ∀ (u : HO), ∀ b ∈ fo ++ ff, upd H a u b = H b := fun u b hb => upd_ne fun z => by
    subst z
    rcases List.mem_append.mp hb with hb | hb
    · exact nd.2.2 b hb b List.mem_cons_self rfl
    · exact (List.nodup_cons.mp nd.2.1).1 hb
  refine ⟨a, dx, vs, rfl, e2, e3.length, ?_⟩
  generalize hu : (HO.ins C dx (putF f y (fs.zip vs))) = u
  have ho : Ow B.K F (upd H a u) y o fo := Ow.mono (Same.refl F) _ _ _ (fun b hb => hn u b (List.mem_append_left _ hb)) m1
  have hf : OwL B.K F (upd H a u) vs os ff := OwL.mono (Same.refl F) _ _ _ (fun b hb => hn u b (List.mem_append_right _ hb)) e3
  obtain ⟨fp, rr, q1, q2⟩ := ow_pV f ho fs vs os ff hlv hf
  have nd2 : (fo ++ ff).Nodup := by
    have p : (fo ++ a :: ff).Perm (a :: (fo ++ ff)) := List.perm_middle
    exact (List.nodup_cons.mp (p.nodup k2)).2
  have nd3 := List.nodup_append.mp (q2.nodup nd2)
  have mem : ∀ b ∈ fp, b ∈ fo ++ ff := fun b hb => q2.mem_iff.mpr (List.mem_append_left _ hb)
  refine k3 a u [(.ref a, .ob C (pF f fs) (pV f o fs os))] (a :: fp) (by simp) (one_OwE ⟨a, dx, pV f y fs vs, fp, rfl, ?_, q1, rfl⟩) (List.nodup_cons.mpr ⟨fun z => ?_, nd3.1⟩) (fun b hb => ?_)
  · rw [upd_same, ← hu, putF_zip f y fs vs hlv]
  · rcases List.mem_append.mp (mem a z) with hb | hb
    · exact nd.2.2 a hb a List.mem_cons_self rfl
    · exact (List.nodup_cons.mp nd.2.1).1 hb
  · rcases List.mem_cons.mp hb with rfl | hb
    · simp
    · rcases List.mem_append.mp (mem b hb) with hb | hb
      · simp [hb]
      · simp [hb]
/-- self.f = e, self an owned object in slot i -/
def sFldO (C : Addr) (i : Nat) (f : Str) (m : XE) : XS := fun g => (m g).bind fun p => match p.2[i]? with
  | some (some (.ob C' fs os)) => if C' = C ∧ fs.length = os.length ∧ fs.length < 1000 then some (.nx (p.2.set i (some (.ob C (pF f fs) (pV f p.1 fs os))))) else none
  | _ => none
theorem ss_fldO {C : Addr} {i : Nat} {f : Str} {te : TE} {m : XE} (hc : Cls B.K C) (hn : NoAttr B.K C f) (h : SE B te m) : SS B (sFld B.K (tVar i) te f) (sFldO C i f m) := by
  intro F H σ g τ out r e D p
  obtain ⟨⟨o, g1⟩, e1, e2⟩ := Option.bind_eq_some_iff.mp e
  dsimp only at e2
  split at e2
  · rename_i C' fs os eg
    split at e2
    · rename_i hh
      obtain ⟨rfl, hl, h1000⟩ := hh
      cases e2
      refine h F H σ g τ o g1 r e1 _ fun F1 H1 y s1 r1 => ?_
      obtain ⟨v, hv, _⟩ := r1.slot eg
      have r2 := r1.take hv eg
      obtain ⟨a, dx, vs, ea, h1, h2, r3⟩ := Rel.putFld f hl (r2.tperm (.swap _ _ _))
      subst ea
      refine ⟨.ref a, hv, a, C', dx, fs.zip vs, rfl, h1, hc, hn, by rw [List.length_zip]; omega, ?_⟩
      have r4 := r3.back' hv
      rw [List.set_set] at r4
      exact p F1 _ σ s1 r4
    · cases e2
  · cases e2
/-! ### e.f -/
theorem zip_look {f : Str} {d : D} : ∀ {fs : List Str} {vs : List V} {ds : List D}, RpL K F vs ds → look f fs ds = some d → ∃ v, (fs.zip vs).lookup f = some v ∧ Rp K F v d
  | [], _, _, _, e => by cases e
  | _ :: _, _, [], _, e => by cases e
  | h :: hs, _, d' :: ds, r, e => by
    obtain ⟨v, vs, rfl, h1, h2⟩ := r
    unfold look at e
    split at e
    · rename_i q
      cases e
      subst q
      refine ⟨v, ?_, h1⟩
      show List.lookup h ((h, v) :: hs.zip vs) = _
      simp [List.lookup]
    · rename_i q
      obtain ⟨w, h3, h4⟩ := zip_look h2 e
      refine ⟨w, ?_, h4⟩
      show List.lookup f ((h, v) :: hs.zip vs) = _
      have : (f == h) = false := by simpa using fun z => q z.symm
      simp only [List.lookup, this]
      exact h3
theorem zip_lookO {f : Str} {d : D} : ∀ {fs : List Str} {vs : List V} {os : List O} {fp : List Addr}, OwL K F H vs os fp → look f fs os = some (.fr d) → ∃ v, (fs.zip vs).lookup f = some v ∧ Rp K F v d
  | [], _, _, _, _, e => by cases e
  | _ :: _, _, [], _, _, e => by cases e
  | h :: hs, _, d' :: ds, _, r, e => by
    obtain ⟨v, vs, f1, f2, rfl, h1, h2, rfl⟩ := r
    unfold look at e
    split at e
    · rename_i q
      cases e
      subst q
      refine ⟨v, ?_, h1.1⟩
      show List.lookup h ((h, v) :: hs.zip vs) = _
      simp [List.lookup]
    · rename_i q
      obtain ⟨w, h3, h4⟩ := zip_lookO h2 e
      refine ⟨w, ?_, h4⟩
      show List.lookup f ((h, v) :: hs.zip vs) = _
      have : (f == h) = false := by simpa using fun z => q z.symm
      simp only [List.lookup, this]
      exact h3
def xFld (C : Addr) (f : Str) (a : XO) : XE := fun g => (a g).bind fun p => match p.1 with
  | .d (.ob C' fs ds) => if C' = C then (look f fs ds).map fun z => (.fr z, p.2) else none
  | .br i => match p.2[i]? with
    | some (some (.ob C' fs os)) => if C' = C then ((look f fs os).bind oFr).map fun z => (.fr z, p.2) else none
    | _ => none
  | _ => none
theorem se_fld {C : Addr} {f : Str} {ta : TE} {ma : XO} (hc : Cls B.K C) (hn : NoAttr B.K C f) (h : SO B ta ma) : SE B (tFld B.K ta f) (xFld C f ma) := by
  intro F H σ g τ o g' r e Q q
  obtain ⟨⟨a, g1⟩, e1, e2⟩ := Option.bind_eq_some_iff.mp e
  refine h F H σ g τ a g1 r e1 _ fun F1 H1 v s1 r1 ok => ?_
  dsimp only at e2
  split at e2
  · rename_i C' fs ds
    split at e2
    · rename_i hC
      subst hC
      obtain ⟨z, e3, e4⟩ := Option.map_eq_some_iff.mp e2
      cases e4
      obtain ⟨x, dx, vs, rfl, h1, h2⟩ := ok
      obtain ⟨w, h3, h4⟩ := zip_look h2 e3
      exact ⟨x, C', dx, _, w, rfl, r1.sub _ _ h1, hc, hn, h3, q F1 H1 w s1 (r1.addFr h4)⟩
    · cases e2
  · rename_i i
    split at e2
    · rename_i C' fs os eg
      split at e2
      · rename_i hC
        subst hC
        obtain ⟨z, e3, e4⟩ := Option.map_eq_some_iff.mp e2
        cases e4
        obtain ⟨c, e5, e6⟩ := Option.bind_eq_some_iff.mp e3
        cases c with
        | fr d =>
          cases e6
          have ok : σ[i]? = some (some v) := ok
          have r2 := r1.take ok eg
          obtain ⟨fp, k1, k2, k3⟩ := r2.headE
          obtain ⟨f1, f2, m1, m2, rfl⟩ := OwE.inv k1
          obtain ⟨x, dx, vs, ff, ex, h1, h2, rfl⟩ := m1
          have ex : v = .ref x := ex
          subst ex
          obtain ⟨w, h3, h4⟩ := zip_lookO h2 e5
          exact ⟨x, C', dx, _, w, rfl, h1, hc, hn, h3, q F1 H1 w s1 (r1.addFr h4)⟩
        | lst _ => cases e6
        | dK _ _ => cases e6
        | dT _ _ => cases e6
        | ob _ _ _ => cases e6
      · cases e2
    · cases e2
  · cases e2
end
end Mi

set_option Elab.async false
set_option linter.all false
set_option maxRecDepth 100000
/-! Mi12: methods called, instances made; code that is never come to. -/
namespace Mi
open PySem PySem.Spec PyProof.Rows L2
section
variable {B : Bs} {F F' H H' : Hp} {σ : L2.St} {g : G} {τ : En} {K : PySem.W.Frag}
theorem zip_noLook {m : Str} : ∀ {fs : List Str} {vs : List V}, m ∉ fs → (fs.zip vs).lookup m = none
  | [], _, _ => rfl
  | _ :: _, [], _ => rfl
  | h :: hs, v :: vs, n => by
    have hne : m ≠ h := fun z => n (by rw [z]; exact List.mem_cons_self)
    have : (m == h) = false := by simpa using hne
    show List.lookup m ((h, v) :: hs.zip vs) = none
    simp only [List.lookup, this]
    exact zip_noLook fun z => n (List.mem_cons_of_mem _ z)
/-- an instance of C that has no field m -/
def obAt (C : Addr) (m : Str) (g : G) : Opd → Bool
  | .d (.ob C' fs _) => decide (C' = C) && decide (m ∉ fs)
  | .br i => match g[i]? with
    | some (some (.ob C' fs _)) => decide (C' = C) && decide (m ∉ fs)
    | some (some (.fr (.ob C' fs _))) => decide (C' = C) && decide (m ∉ fs)
    | _ => false
  | _ => false
theorem obAt_ok {C : Addr} {m : Str} {a : Opd} {v : V} (r : Rel B F H σ g τ) (ok : OpdOk B F σ v a) (h : obAt C m g a = true) : ∃ x dx fs, v = .ref x ∧ H x = some (.ins C dx fs) ∧ fs.lookup m = none := by
  unfold obAt at h
  split at h
  · rename_i C' fs ds
    rw [Bool.and_eq_true, decide_eq_true_eq, decide_eq_true_eq] at h
    obtain ⟨rfl, hm⟩ := h
    obtain ⟨x, dx, vs, rfl, h1, h2⟩ := ok
    exact ⟨x, dx, _, rfl, r.sub _ _ h1, zip_noLook hm⟩
  · rename_i i
    have ok : σ[i]? = some (some v) := ok
    split at h
    · rename_i C' fs os eg
      rw [Bool.and_eq_true, decide_eq_true_eq, decide_eq_true_eq] at h
      obtain ⟨rfl, hm⟩ := h
      obtain ⟨fp, k1, k2, k3⟩ := (r.take ok eg).headE
      obtain ⟨f1, f2, m1, m2, rfl⟩ := OwE.inv k1
      obtain ⟨x, dx, vs, ff, ex, h1, h2, rfl⟩ := m1
      exact ⟨x, dx, _, ex, h1, zip_noLook hm⟩
    · rename_i C' fs ds eg
      rw [Bool.and_eq_true, decide_eq_true_eq, decide_eq_true_eq] at h
      obtain ⟨rfl, hm⟩ := h
      obtain ⟨x, dx, vs, ex, h1, h2⟩ := (r.take ok eg).frd
      exact ⟨x, dx, _, ex, r.sub _ _ h1, zip_noLook hm⟩
    · cases h
  · cases h
def xMeth (C : Addr) (m : Str) (f : List O → Option (O × List O)) (a : XO) (as : XA) : XE := fun g => (a g).bind fun p => if obAt C m p.2 p.1 = true then (as p.2).bind fun q => (pull (p.1 :: q.1) q.2).bind fun s => (f s.1).map fun z => (z.1, push (p.1 :: q.1) z.2 s.2) else none
theorem se_meth {C : Addr} {m : Str} {n : Nat} {f : List O → Option (O × List O)} {E : XK} {te : TE} {me : XO} {ta : TA} {ma : XA} (he : SO B te me) (ha : SA B ta ma) (hl : ∀ os r, f os = some r → os.length = n ∧ r.2.length = n) : SE B (tMeth C m (spM B.K n f) [] E te ta) (xMeth C m f me ma) := by
  intro F H σ g τ o g' rl e Q q
  obtain ⟨⟨a, g1⟩, e1, e2⟩ := Option.bind_eq_some_iff.mp e
  dsimp only at e2
  split at e2
  · rename_i hob
    obtain ⟨⟨as, g2⟩, e3, e4⟩ := Option.bind_eq_some_iff.mp e2
    obtain ⟨⟨os, g3⟩, e5, e6⟩ := Option.bind_eq_some_iff.mp e4
    obtain ⟨⟨r, os'⟩, e7, e8⟩ := Option.map_eq_some_iff.mp e6
    obtain ⟨e9, e10⟩ := Prod.mk.inj e8
    subst e9 e10
    refine he F H σ g τ a g1 rl e1 _ fun F1 H1 v s1 r1 ok1 => ?_
    obtain ⟨x, dx, fs, rfl, hx, hf⟩ := obAt_ok r1 ok1 hob
    refine ⟨x, dx, fs, rfl, hx, hf, ?_⟩
    refine ha F1 H1 σ g1 τ as g2 r1 e3 _ fun F2 H2 vs s2 r2 ok2 => ?_
    have ok : OpdsOk B F2 σ (.ref x :: vs) (a :: as) := ⟨_, _, rfl, ok1.mono s2, ok2⟩
    obtain ⟨r3, l1, l2⟩ := pull_ok r2 ok e5
    obtain ⟨hn, hn2⟩ := hl _ _ e7
    have hE := r3.ent.perm (show (ents σ g3 ++ ((V.ref x :: vs).zip os ++ τ)).Perm ((V.ref x :: vs).zip os ++ (ents σ g3 ++ τ)) by
      rw [← List.append_assoc, ← List.append_assoc]
      exact List.perm_append_comm.append_right τ)
    obtain ⟨fp, k1, k2, k3⟩ := hE
    obtain ⟨f1, f2, m1, m2, rfl⟩ := OwE.split k1
    show spM B.K n f (.ref x :: (vs ++ [])) H2 Q E
    rw [List.append_nil]
    refine ⟨by rw [l1]; exact hn, F2, os, r, os', f1, r2.sub, owE_zip l1 m1, (List.nodup_append.mp k2).1, fun b hb => (k3 b (List.mem_append_left _ hb)).1, e7, fun F' H' v fp' sF sH n' k' ow nd' hn' => ?_⟩
    have r4 := r3.called m1 m2 k2 k3 sF sH n' k' ow nd' hn'
    exact q F' H' v ((s1.trans s2).trans sF) (push_ok ok (by rw [hn2, ← hn]; exact l2) r4)
  · cases e2
/-- C(..), self pinned in __init__ -/
def xMake (C : Addr) (f : List O → Option (O × List O)) (as : XA) : XE := fun g => (as g).bind fun p => (pull p.1 p.2).bind fun q => (f (.ob C [] [] :: q.1)).bind fun z => match z with
  | (.fr .non, o :: os') => some (o, push p.1 os' q.2)
  | _ => none
theorem se_make {C : Addr} {n : Nat} {f : List O → Option (O × List O)} {E : XK} {ta : TA} {ma : XA} (ha : SA B ta ma) (hl : ∀ os r, f os = some r → os.length = n ∧ r.2.length = n) : SE B (tMake C (spM B.K n f) [] E ta) (xMake C f ma) := by
  intro F H σ g τ o g' rl e Q q
  obtain ⟨⟨as, g1⟩, e1, e2⟩ := Option.bind_eq_some_iff.mp e
  obtain ⟨⟨os, g2⟩, e3, e4⟩ := Option.bind_eq_some_iff.mp e2
  obtain ⟨z, e5, e6⟩ := Option.bind_eq_some_iff.mp e4
  dsimp only at e6
  split at e6
  · rename_i o1 os'
    cases e6
    refine ha F H σ g τ as g1 rl e1 _ fun F1 H1 vs s1 r1 ok => fun x dx hx hdx hne => ?_
    have w1 := Grow.own r1.sub hdx (.own x)
    have r2 := r1.grow w1
    have hx2 : upd H1 dx (.own x) x = none := by rw [upd_ne (Ne.symm hne)]; exact hx
    have w2 := Grow.own r2.sub hx2 (.ins C dx [])
    have r3 : Rel B F1 (upd (upd H1 dx (.own x)) x (.ins C dx [])) σ g1 ((.ref x, .ob C [] []) :: τ) := r2.made (fp := [x]) w2 ⟨x, dx, [], [], rfl, upd_same, OwL.nil, rfl⟩ (List.nodup_cons.mpr ⟨List.not_mem_nil, List.nodup_nil⟩) fun b hb => by
      rcases List.mem_singleton.mp hb with rfl
      exact ⟨hx2, r2.sub.free hx2⟩
    obtain ⟨r4, l1, l2⟩ := pull_ok r3 ok e3
    obtain ⟨hn, hn2⟩ := hl _ _ e5
    have r5 : Rel B F1 (upd (upd H1 dx (.own x)) x (.ins C dx [])) σ g2 ((V.ref x :: vs).zip (O.ob C [] [] :: os) ++ τ) := r4.tperm List.perm_middle
    have l3 : (V.ref x :: vs).length = (O.ob C [] [] :: os).length := by rw [List.length_cons, List.length_cons, l1]
    have hE := r5.ent.perm (show (ents σ g2 ++ ((V.ref x :: vs).zip (O.ob C [] [] :: os) ++ τ)).Perm ((V.ref x :: vs).zip (O.ob C [] [] :: os) ++ (ents σ g2 ++ τ)) by
      rw [← List.append_assoc, ← List.append_assoc]
      exact List.perm_append_comm.append_right τ)
    obtain ⟨fp, k1, k2, k3⟩ := hE
    obtain ⟨f1, f2, m1, m2, rfl⟩ := OwE.split k1
    show spM B.K n f (.ref x :: (vs ++ [])) _ _ E
    rw [List.append_nil]
    refine ⟨by rw [l3]; exact hn, F1, _, .fr .non, o :: os', f1, r3.sub, owE_zip l3 m1, (List.nodup_append.mp k2).1, fun b hb => (k3 b (List.mem_append_left _ hb)).1, e5, fun F' H' v fp' sF sH n' k' ow nd' hn' => ?_⟩
    have r6 := r5.called m1 m2 k2 k3 sF sH n' k' ow nd' hn'
    have hv : v = .non := by
      obtain ⟨fa, fb, a1, _, _⟩ := ow.inv
      exact a1.1
    refine ⟨hv, ?_⟩
    have r7 : Rel B F' H' σ g2 (vs.zip os' ++ (.ref x, o) :: τ) := by
      have p : ((V.ref x :: vs).zip (o :: os') ++ (v, .fr .non) :: τ).Perm ((v, .fr .non) :: (vs.zip os' ++ (.ref x, o) :: τ)) := by
        refine List.perm_middle.trans (.cons _ ?_)
        exact List.perm_middle.symm
      exact (r6.tperm p).drop
    refine q F' H' (.ref x) (s1.trans sF) (push_ok ok ?_ r7)
    have a1 : (o :: os').length = n := hn2
    have a2 : (O.ob C [] [] :: os).length = n := hn
    rw [List.length_cons] at a1 a2
    omega
  · cases e6
/-! ### code that is never come to -/
def tNever : TE := fun _ _ _ => False
def sNever : TS := fun _ _ _ => False
theorem pe_no {X : Cx} {e : Expr} : PE X e tNever := ⟨fun _ _ _ _ _ _ h => h.elim⟩
theorem ps_no {X : Cx} {s : Stmt} : PS X s sNever := ⟨fun _ _ _ _ _ _ h => h.elim⟩
def xNo : XE := fun _ => none
def sNo : XS := fun _ => none
theorem se_no : SE B tNever xNo := fun _ _ _ _ _ _ _ _ e => by cases e
theorem ss_no : SS B sNever sNo := fun _ _ _ _ _ _ _ e => by cases e
end
end Mi

set_option Elab.async false
set_option linter.all false
set_option maxRecDepth 100000
/-! Mi13: more of texts; slices; tables of the top; bodies that give out a token. -/
namespace Mi
open PySem PySem.Spec PyProof.Rows L2
section
variable {B : Bs} {F F' H H' : Hp} {σ : L2.St} {g : G} {τ : En} {K : PySem.W.Frag}
/-! ### methods of texts that answer by a value -/
def dM0 (f : Str → D) (c : Str → Bool) (s : Str) (ds : List D) : Option D := match ds with
  | [] => if c s = true then some (f s) else none
  | _ => none
def dM1 (f : Str → Str → D) (c : Str → Bool) (s : Str) (ds : List D) : Option D := match ds with
  | [.str y] => if c s = true then some (f s y) else none
  | _ => none
def dM1I (f : Str → Str → Int → D) (s : Str) (ds : List D) : Option D := match ds with
  | [.str y, .int i] => some (f s y i)
  | _ => none
def dM1II (f : Str → Str → Int → Int → D) (s : Str) (ds : List D) : Option D := match ds with
  | [.str y, .int i, .int j] => some (f s y i j)
  | _ => none
def any1 (_ : Str) : Bool := true
def sz1 (s : Str) : Bool := decide (s.length ≤ sizeLine)
theorem ms_b0 {h : Str → Bool} : MS K (fun x xs H Q => ∃ a, x = V.str a ∧ xs = [] ∧ True ∧ Q (.bl (h a)) H) (dM0 (fun s => .bl (h s)) any1) := by
  intro H s vs ds z hv k
  cases ds with
  | cons d ds => cases k
  | nil =>
    cases k
    obtain rfl : vs = [] := hv
    exact ⟨_, rfl, fun Q q => ⟨s, rfl, rfl, trivial, q⟩⟩
theorem ms_s1 {h : Str → Str → Str} : MS K (fun x xs H Q => ∃ a b, x = V.str a ∧ xs = [V.str b] ∧ a.length ≤ sizeLine ∧ Q (.str (h a b)) H) (dM1 (fun s y => .str (h s y)) sz1) := by
  intro H s vs ds z hv k
  unfold dM1 at k
  split at k
  · rename_i y
    split at k
    · rename_i hc
      cases k
      obtain ⟨v, rfl, hv'⟩ := hv.one
      cases (show v = .str y from hv')
      exact ⟨_, rfl, fun Q q => ⟨s, y, rfl, rfl, of_decide_eq_true hc, q⟩⟩
    · cases k
  · cases k
theorem ms_b1 {h : Str → Str → Bool} : MS K (fun x xs H Q => ∃ a b, x = V.str a ∧ xs = [V.str b] ∧ Q (.bl (h a b)) H) (dM1 (fun s y => .bl (h s y)) any1) := by
  intro H s vs ds z hv k
  unfold dM1 at k
  split at k
  · rename_i y
    cases k
    obtain ⟨v, rfl, hv'⟩ := hv.one
    cases (show v = .str y from hv')
    exact ⟨_, rfl, fun Q q => ⟨s, y, rfl, rfl, q⟩⟩
  · cases k
theorem ms_b1I {h : Str → Str → Int → Bool} : MS K (fun x xs H Q => ∃ (a b : Str) (i : Int), x = V.str a ∧ xs = [V.str b, V.int i] ∧ Q (.bl (h a b i)) H) (dM1I fun s y i => .bl (h s y i)) := by
  intro H s vs ds z hv k
  unfold dM1I at k
  split at k
  · rename_i y i
    cases k
    obtain ⟨v, w, rfl, hv, hw⟩ := hv.two
    cases (show v = .str y from hv)
    cases (show w = .int i from hw)
    exact ⟨_, rfl, fun Q q => ⟨s, y, i, rfl, rfl, q⟩⟩
  · cases k
theorem ms_i1I {h : Str → Str → Int → Int} : MS K (fun x xs H Q => ∃ (a b : Str) (i : Int), x = V.str a ∧ xs = [V.str b, V.int i] ∧ Q (.int (h a b i)) H) (dM1I fun s y i => .int (h s y i)) := by
  intro H s vs ds z hv k
  unfold dM1I at k
  split at k
  · rename_i y i
    cases k
    obtain ⟨v, w, rfl, hv, hw⟩ := hv.two
    cases (show v = .str y from hv)
    cases (show w = .int i from hw)
    exact ⟨_, rfl, fun Q q => ⟨s, y, i, rfl, rfl, q⟩⟩
  · cases k
theorem ms_i1II {h : Str → Str → Int → Int → Int} : MS K (fun x xs H Q => ∃ (a b : Str) (i j : Int), x = V.str a ∧ xs = [V.str b, V.int i, V.int j] ∧ Q (.int (h a b i j)) H) (dM1II fun s y i j => .int (h s y i j)) := by
  intro H s vs ds z hv k
  unfold dM1II at k
  split at k
  · rename_i y i j
    cases k
    obtain ⟨v, r, rfl, hv, hr⟩ := hv
    obtain ⟨w, u, rfl, hw, hu⟩ := hr.two
    cases (show v = .str y from hv)
    cases (show w = .int i from hw)
    cases (show u = .int j from hu)
    exact ⟨_, rfl, fun Q q => ⟨s, y, i, j, rfl, rfl, q⟩⟩
  · cases k
/-! ### x in y, one sign in a text -/
def rIn1 : R2 := fun x y H Q => ∃ (c : Nat) (z : Str), x = .str ⟨#[c]⟩ ∧ y = .str z ∧ Q (.bl (decide (c ∈ z.cps.toList))) H
def rNotIn1 : R2 := fun x y H Q => ∃ (c : Nat) (z : Str), x = .str ⟨#[c]⟩ ∧ y = .str z ∧ Q (.bl (!decide (c ∈ z.cps.toList))) H
theorem op_in1 {X : Cx} : OpR X (compareOp .In) rIn1 := op_in_sign
theorem op_notIn1 {X : Cx} : OpR X (compareOp .NotIn) rNotIn1 := op_notIn_sign
def dInS (d e : D) : Option D := match d, e with
  | .str x, .str y => if x.length = 1 then some (.bl (decide (x.cps.toList.headD 0 ∈ y.cps.toList))) else none
  | _, _ => none
def dNotInS (d e : D) : Option D := match d, e with
  | .str x, .str y => if x.length = 1 then some (.bl (!decide (x.cps.toList.headD 0 ∈ y.cps.toList))) else none
  | _, _ => none
theorem one_sign {x : Str} (h : x.length = 1) : x = ⟨#[x.cps.toList.headD 0]⟩ := by
  obtain ⟨⟨l⟩⟩ := x
  have h : l.length = 1 := h
  match l, h with
  | [c], _ => rfl
theorem s2_inS : S2 K rIn1 dInS := by
  intro H x y d e z hx hy k
  unfold dInS at k
  split at k
  · rename_i a b
    split at k
    · rename_i hl
      cases k
      cases (show x = .str a from hx)
      cases (show y = .str b from hy)
      exact ⟨_, rfl, fun Q q => ⟨a.cps.toList.headD 0, b, by rw [← one_sign hl], rfl, q⟩⟩
    · cases k
  · cases k
theorem s2_notInS : S2 K rNotIn1 dNotInS := by
  intro H x y d e z hx hy k
  unfold dNotInS at k
  split at k
  · rename_i a b
    split at k
    · rename_i hl
      cases k
      cases (show x = .str a from hx)
      cases (show y = .str b from hy)
      exact ⟨_, rfl, fun Q q => ⟨a.cps.toList.headD 0, b, by rw [← one_sign hl], rfl, q⟩⟩
    · cases k
  · cases k
/-! ### e.replace(y, z), y and z written -/
def dRepl (y z : Str) (d : D) : Option D := match d with
  | .str x => if x.length + (x.length + 1) * z.length ≤ 16777216 then some (.str (Txt.replace x y z)) else none
  | _ => none
theorem se_repl {y z : Str} {te : TE} {m : XO} (h : SO B te m) : SE B (CwR.tReplC te y z) (xS1 (dRepl y z) m) := by
  intro F H σ g τ o g' rl e Q q
  obtain ⟨⟨a, g1⟩, e1, e2⟩ := Option.bind_eq_some_iff.mp e
  obtain ⟨d, e3, e4⟩ := Option.bind_eq_some_iff.mp e2
  obtain ⟨w, e5, e6⟩ := Option.map_eq_some_iff.mp e4
  cases e6
  refine h F H σ g τ a g1 rl e1 _ fun F1 H1 v s1 r1 ok1 => ?_
  have rp := r1.view ok1 e3
  unfold dRepl at e5
  split at e5
  · rename_i x
    split at e5
    · rename_i hl
      cases e5
      exact ⟨x, rp, hl, q F1 H1 _ s1 (r1.addFr rfl)⟩
    · cases e5
  · cases e5
/-! ### slices -/
abbrev XPt := G → Option (Option Int × G)
def SPt (B : Bs) (t : TO) (m : XPt) : Prop := ∀ F H σ g τ p g', Rel B F H σ g τ → m g = some (p, g') → ∀ Q : Option Int → Hp → Prop, (∀ F' H', Same F F' → Rel B F' H' σ g' τ → Q p H') → t σ H Q
def pNo : XPt := fun g => some (none, g)
def pEx (m : XO) : XPt := fun g => (m g).bind fun p => match view p.2 p.1 with
  | some (.int i) => some (some i, p.2)
  | _ => none
theorem sp_no : SPt B tNoPart pNo := by
  intro F H σ g τ p g' r e Q q
  cases e
  exact q F H (Same.refl F) r
theorem sp_ex {t : TE} {m : XO} (h : SO B t m) : SPt B (tPart t) (pEx m) := by
  intro F H σ g τ p g' r e Q q
  obtain ⟨⟨a, g1⟩, e1, e2⟩ := Option.bind_eq_some_iff.mp e
  dsimp only at e2
  split at e2
  · rename_i i ei
    cases e2
    refine h F H σ g τ a _ r e1 _ fun F1 H1 v s1 r1 ok1 => ?_
    cases (show v = .int i from r1.view ok1 ei)
    exact ⟨i, rfl, q F1 H1 s1 r1⟩
  · cases e2
def cutD {α : Type} (xs : List α) (lo hi : Option Int) : List α := (xs.drop (HT.sIx xs.length 0 lo)).take (HT.sIx xs.length xs.length hi - HT.sIx xs.length 0 lo)
theorem RpL.cut {vs : List V} {ds : List D} (h : RpL K F vs ds) (lo hi : Option Int) : RpL K F (cutV vs lo hi) (cutD ds lo hi) := by
  unfold cutV cutD
  rw [h.length]
  exact (h.drop _).take _
/-- a slice of a text, a tuple or a list -/
def dSl (d : D) (lo hi : Option Int) : Option O := match d with
  | .str s => if s.length ≤ sizeLine then some (.fr (.str (Txt.slice s lo hi))) else none
  | .tup ds => some (.fr (.tup (cutD ds lo hi)))
  | .lst ds => some (.lst ((cutD ds lo hi).map O.fr))
  | _ => none
def rSlAll (K : PySem.W.Frag) : V → Option Int → Option Int → Hp → VK → Prop := fun x lo hi H Q => C8.rSlX x lo hi H Q ∨ rSlA K x lo hi H Q ∨ rSlL K x lo hi H Q
theorem sl_all {X : Cx} : SlR X (rSlAll X.K) := SlR.or C8.sl_txt (SlR.or sl_tupA sl_list)
def xSl (a : XO) (lo hi : XPt) : XE := fun g => (a g).bind fun p => (opdD p.1).bind fun d => (lo p.2).bind fun l => (hi l.2).bind fun h => (dSl d l.1 h.1).map fun z => (z, h.2)
theorem cutD_whole {α : Type} (xs : List α) (lo hi : Option Int) (h1 : HT.sIx xs.length 0 lo = 0) (h2 : HT.sIx xs.length xs.length hi = xs.length) : cutD xs lo hi = xs := by
  unfold cutD
  rw [h1, h2, List.drop_zero, Nat.sub_zero, List.take_length]
theorem se_sl {te : TE} {tl th : TO} {a : XO} {lo hi : XPt} (ha : SO B te a) (hl : SPt B tl lo) (hh : SPt B th hi) : SE B (tSl (rSlAll B.K) te tl th) (xSl a lo hi) := by
  intro F H σ g τ o g' rl e Q q
  obtain ⟨⟨p, g1⟩, e1, e2⟩ := Option.bind_eq_some_iff.mp e
  obtain ⟨d, e3, e4⟩ := Option.bind_eq_some_iff.mp e2
  obtain ⟨⟨l, g2⟩, e5, e6⟩ := Option.bind_eq_some_iff.mp e4
  obtain ⟨⟨h, g3⟩, e7, e8⟩ := Option.bind_eq_some_iff.mp e6
  obtain ⟨z, e9, e10⟩ := Option.map_eq_some_iff.mp e8
  cases e10
  refine ha F H σ g τ p g1 rl e1 _ fun F1 H1 v s1 r1 ok1 => ?_
  refine hl F1 H1 σ g1 τ l g2 r1 e5 _ fun F2 H2 s2 r2 => ?_
  refine hh F2 H2 σ g2 τ h g3 r2 e7 _ fun F3 H3 s3 r3 => ?_
  have rp : Rp B.K F3 v d := by
    cases p with
    | d x => cases e3; exact Rp.mono (s2.trans s3) _ _ ok1
    | br i => cases e3
  unfold dSl at e9
  split at e9
  · rename_i s
    split at e9
    · rename_i hz
      cases e9
      exact .inl ⟨s, rp, hz, q F3 H3 _ ((s1.trans s2).trans s3) (r3.addFr rfl)⟩
    · cases e9
  · rename_i ds
    cases e9
    obtain ⟨x, vs, rfl, h1, h2⟩ := rp
    have hs := Same.sqT r3.sub h1
    refine .inr (.inl ⟨x, vs, rfl, hs, fun hw => ?_, fun _ y hy => ?_⟩)
    · refine q F3 H3 (.ref x) ((s1.trans s2).trans s3) (r3.addFr ⟨x, vs, rfl, h1, ?_⟩)
      rw [cutD_whole ds _ _ (by rw [← h2.length]; exact hw.1) (by rw [← h2.length]; exact hw.2)]
      exact h2
    · exact made_tup (K := B.K) r3.sub hy (h2.cut _ _) fun F4 H4 w fp gr ow nd nw => q F4 H4 w (((s1.trans s2).trans s3).trans gr.f) (r3.made gr ow nd nw)
  · rename_i ds
    cases e9
    obtain ⟨x, vs, rfl, h1, h2⟩ := rp
    refine .inr (.inr ⟨x, vs, rfl, SqL.of (r3.sub _ _ h1), fun y hy => ?_⟩)
    exact made_lst (K := B.K) r3.sub hy (h2.cut _ _) fun F4 H4 w fp gr ow nd nw => q F4 H4 w (((s1.trans s2).trans s3).trans gr.f) (r3.made gr ow nd nw)
  · cases e9
end
end Mi

set_option Elab.async false
set_option linter.all false
set_option maxRecDepth 100000
/-! Mi14: tables of the top; augmented assignment; bodies that give out a token. -/
namespace Mi
open PySem PySem.Spec PyProof.Rows L2
section
variable {B : Bs} {F F' H H' : Hp} {σ : L2.St} {g : G} {τ : En} {K : PySem.W.Frag} {P : Program} {w : World} {mg : Str → Option Value} {base : Heap}
/-! ### a table of the top with text keys -/
inductive Tab : List DictEntry → List (Str × D) → Prop where
  | nil : Tab [] []
  | cons {e : DictEntry} {k : Str} {t : Tok} {d : D} {v : V} {es : List DictEntry} {kvs : List (Str × D)} (hk : e.key = .str k t) (hv : toV d = some v) (hr : RelV v e.val) (r : Tab es kvs) : Tab (e :: es) ((k, d) :: kvs)
theorem Tab.find {es : List DictEntry} {kvs : List (Str × D)} (h : Tab es kvs) (x : Str) : match kvs.lookup x with
    | some d => ∃ e v, es.find? (·.key.isStr x) = some e ∧ toV d = some v ∧ RelV v e.val
    | none => es.find? (·.key.isStr x) = none := by
  induction h with
  | nil => rfl
  | @cons e k t d v es kvs hk hv hr r ih =>
    have e1 : e.key.isStr x = (k == x) := by rw [hk]; rfl
    by_cases q : x = k
    · subst q
      have e2 : (x == x) = true := by simp
      simp only [List.lookup, e2, List.find?, e1]
      exact ⟨e, v, rfl, hv, hr⟩
    · have e2 : (x == k) = false := by simpa using q
      have e3 : (k == x) = false := by simpa using fun z => q z.symm
      simp only [List.lookup, e2, List.find?, e1, e3]
      exact ih
theorem Tab.noRef {es : List DictEntry} {kvs : List (Str × D)} (h : Tab es kvs) : es.any (·.refKey) = false := by
  induction h with
  | nil => rfl
  | @cons e k t d v es kvs hk hv hr r ih =>
    rw [List.any_cons, ih]
    unfold DictEntry.refKey
    rw [hk]
    rfl
structure KTab (K : PySem.W.Frag) (w : World) (mg : Str → Option Value) (x : Str) (kvs : List (Str × D)) where
  d : Addr
  es : Array DictEntry
  n : Nat
  g : mg x = some (.ref d)
  k : KDict K w d es n
  t : Tab es.toList kvs
theorem KTab.has {x : Str} {kvs : List (Str × D)} (T : KTab K w mg x kvs) (z : Str) : match kvs.lookup z with
    | some e => ∃ u v, PySem.W.nsIn K T.d z = some (some u) ∧ toV e = some v ∧ RelV v u
    | none => PySem.W.nsIn K T.d z = some none := by
  have h := T.t.find z
  have h2 := T.t.noRef
  have e : PySem.W.nsIn K T.d z = (match T.es.toList.find? (·.key.isStr z) with
      | some e => some (some e.val)
      | none => if T.es.toList.any (·.refKey) then none else some none) := by
    unfold PySem.W.nsIn
    rw [T.k.at_] <;> rfl
  cases q : kvs.lookup z with
  | some d =>
    rw [q] at h
    obtain ⟨en, v, h3, h4, h5⟩ := h
    rw [e, h3]
    exact ⟨en.val, v, rfl, h4, h5⟩
  | none =>
    rw [q] at h
    have h : T.es.toList.find? (·.key.isStr z) = none := h
    rw [e, h, h2]
    rfl
/-- x in TABLE -/
def dInK (kvs : List (Str × D)) (d : D) : Option D := match d with
  | .str z => some (.bl (kvs.lookup z).isSome)
  | _ => none
def rInK (K : PySem.W.Frag) (d : Addr) : R2 := fun x y H Q => ∃ (z : Str) (r : Option Value), x = .str z ∧ y = .ref d ∧ PySem.W.nsIn K d z = some r ∧ Q (.bl r.isSome) H
theorem op_inK {X : Cx} {x : Str} {kvs : List (Str × D)} (T : KTab X.K X.w mg x kvs) : OpR X (compareOp .In) (rInK X.K T.d) := op_in_kd T.k
theorem se_inK {x : Str} {kvs : List (Str × D)} {te : TE} {m : XO} (T : KTab B.K w mg x kvs) (h : SO B te m) : SE B (tOp (rInK B.K T.d) te (tC (.ref T.d))) (xS1 (dInK kvs) m) := by
  intro F H σ g τ o g' rl e Q q
  obtain ⟨⟨a, g1⟩, e1, e2⟩ := Option.bind_eq_some_iff.mp e
  obtain ⟨d, e3, e4⟩ := Option.bind_eq_some_iff.mp e2
  obtain ⟨z, e5, e6⟩ := Option.map_eq_some_iff.mp e4
  cases e6
  refine h F H σ g τ a g1 rl e1 _ fun F1 H1 v s1 r1 ok1 => ?_
  have rp := r1.view ok1 e3
  unfold dInK at e5
  split at e5
  · rename_i y
    cases e5
    have hh := T.has y
    cases q2 : kvs.lookup y with
    | some d2 =>
      rw [q2] at hh
      obtain ⟨u, v2, h3, h4, h5⟩ := hh
      exact ⟨y, some u, rp, rfl, h3, q F1 H1 _ s1 (r1.addFr (by rw [q2]; exact rfl))⟩
    | none =>
      rw [q2] at hh
      exact ⟨y, none, rp, rfl, hh, q F1 H1 _ s1 (r1.addFr (by rw [q2]; exact rfl))⟩
  · cases e5
/-- TABLE[x] -/
def dIxK (kvs : List (Str × D)) (d : D) : Option D := match d with
  | .str z => kvs.lookup z
  | _ => none
theorem se_ixK {x : Str} {kvs : List (Str × D)} {te : TE} {m : XO} (T : KTab B.K w mg x kvs) (h : SO B te m) : SE B (tOp (L2.rIxD B.K w) (tC (.ref T.d)) te) (xS1 (dIxK kvs) m) := by
  intro F H σ g τ o g' rl e Q q
  obtain ⟨⟨a, g1⟩, e1, e2⟩ := Option.bind_eq_some_iff.mp e
  obtain ⟨d, e3, e4⟩ := Option.bind_eq_some_iff.mp e2
  obtain ⟨z, e5, e6⟩ := Option.map_eq_some_iff.mp e4
  cases e6
  refine h F H σ g τ a g1 rl e1 _ fun F1 H1 v s1 r1 ok1 => ?_
  have rp := r1.view ok1 e3
  unfold dIxK at e5
  split at e5
  · rename_i y
    have hh := T.has y
    rw [e5] at hh
    obtain ⟨u, v2, h3, h4, h5⟩ := hh
    exact ⟨T.d, y, v2, rfl, rp, ⟨T.es, T.n, u, T.k.at_, T.k.lit, h3, h5⟩, q F1 H1 _ s1 (r1.addFr (toV_rp h4 F1))⟩
  · cases e5
/-! ### x += e -/
def dAddI (d e : D) : Option D := match d, e with
  | .int i, .int j => some (.int (i + j))
  | _, _ => none
def dSubI (d e : D) : Option D := match d, e with
  | .int i, .int j => some (.int (i - j))
  | _, _ => none
theorem ip2_add : S2i K (ipI fun i j => i + j) dAddI := by
  intro H x y d e z hx hy k
  unfold dAddI at k
  split at k
  · cases k
    exact ⟨_, rfl, fun Q q => ⟨_, _, hx, hy, q⟩⟩
  · cases k
theorem ip2_sub : S2i K (ipI fun i j => i - j) dSubI := by
  intro H x y d e z hx hy k
  unfold dSubI at k
  split at k
  · cases k
    exact ⟨_, rfl, fun Q q => ⟨_, _, hx, hy, q⟩⟩
  · cases k
/-! ### bodies that give out a token -/
theorem ok_fnT {x qual : Str} {st : Stmt} {f : Addr} {fd : FuncData} {N ps : List Str} {k : Nat} {pin : List Nat} {body : XS} (F : Fun K x qual st f fd) (S : FnScope N ps (defScope st)) (hp : ∀ j ∈ pin, j < ps.length) (hnc : ∀ y ∈ (defScope st).names, y.2 ≠ .cell) (h1 : 1 ≤ ps.length)
    (h : ∀ (cdv : Value) (A : Around) (outer : List Env) (s : Shared) (H : Hp) (E : XK), Room k (A.deeper (envOfC qual (defScope st) s.heap.objs.size f cdv)) →
      ∃ t, PSsT (cxOf CX0 P w K mg base N qual (defScope st) f cdv A outer s H E) (defBody st) t ∧ ∀ B : Bs, B.K = K → B.pin = pin → SS B t body) :
    FnOk P w K mg base CX0 (k + 1) f fd ps (spM K ps.length (runF N.length ps.length pin body)) := by
  obtain ⟨oc, od, kV, doc, pm, an, cdv, ct, osl, rfl, l, c⟩ := F.ex
  refine fn_ofT l c S hnc h1 (fun vs H Q E h => h.1) fun A outer s H vs Q E hr hsp => ?_
  obtain ⟨t, ht, hs⟩ := h cdv A outer s H E hr
  exact ⟨t, ht, run_ok hs hp hsp⟩
section
variable {X : Cx} {o e value : Expr} {ta tv te : TE} {f x : Str} {pos pos' : Pos}
theorem pst_fld (ha : PE X o ta) (hv : PET X value tv) (hs : swapsWith value (some (.Attribute o f pos')) pos.line X.env = pure false) : PST X (.Assign [.Attribute o f pos'] value pos) (sFld X.K ta tv f) := by
  intro pins s σ H D h0 I h
  refine plainObj_wpAny_Assign_Attribute (thn (hv pins s σ H _ h0 I h) fun u s1 ⟨y, H1, I1, ry, q⟩ => thn (ha.run pins s1 σ H1 _ I1 q) fun ov s2 ⟨x, H2, I2, rx, a, C, dx, fs, ex, ea, c, n, l, q2⟩ => ?_) hs
  subst ex
  obtain rfl : ov = Value.ref a := rx
  exact setattr_ok I2 ea c n l ry fun s3 I3 => ⟨σ, _, I3, q2⟩
theorem pst_set {i : Nat} (hN : X.N.Nodup) (hi : X.N[i]? = some x) (hx : Loc X.env.scope x) (he : PET X e te)
    (hs : swapsWith e (some (.Name x pos')) pos.line X.env = pure false := by rfl) (hf : X.fn x = true ∨ X.env.scope.names.lookup x = some .local := by first | exact .inl rfl | exact .inr rfl | assumption) :
    PST X (.Assign [.Name x pos'] e pos) (tAsg te (gName i)) := by
  intro pins s σ H D h0 I h
  refine wpAny_Assign_Name (thn (he pins s σ H _ h0 I h) fun u s1 ⟨v, H1, I1, r1, q1⟩ => ?_) hs
  exact store_ok (v := v) I1 hN hi hx r1 (fun s2 I2 => ⟨σ.set i (some v), H1, I2, q1⟩) hf
end
end
end Mi
namespace Mi
open PySem PySem.Spec PyProof.Rows L2
/-- a method as it stands -/
structure MtAt (K : PySem.W.Frag) (C : Addr) (x qual : Str) (st : Stmt) (ps : List Str) where
  f : Addr
  fd : FuncData
  m : Meth K C x f
  F : Fun K x qual st f fd
  b : Binds K fd ps []
theorem mtAt_mk {K : PySem.W.Frag} {C : Addr} {x qual : Str} {st : Stmt} {ps : List Str} {f : Addr} {oc : Value} {od an : Option Addr} {osl : Array (Option Value)} {kV doc pm cdv ct : Value}
    (a : PySem.W.findIn K (.ref C) x = some (some (.ref f))) (i : PySem.W.isFn K (.ref f) = true)
    (l : K.lookup f = some ⟨oc, od, .func (PySem.W.fnOf x qual (defArgs st) (defBody st) (defScope st) .none kV doc pm an cdv ct), osl⟩)
    (c : PySem.W.codeIn K cdv qual = true) (k : PySem.W.keepIn K (.ref f) = true)
    (hb : ∀ (kV doc pm : Value) (an : Option Addr) (cdv ct : Value) (us : List Value), us.length = ps.length → bindArgs (PySem.W.fnOf x qual (defArgs st) (defBody st) (defScope st) .none kV doc pm an cdv ct) ⟨us, []⟩ = pure (ps.zip us)) :
    Nonempty (MtAt K C x qual st ps) := by
  have F := fun_mk (st := st) l c k
  exact ⟨⟨f, _, ⟨a, i, k⟩, F, F.binds hb⟩⟩
/-- a class as it stands -/
structure ClAt (K : PySem.W.Frag) (mg : Str → Option Value) (x : Str) where
  C : Addr
  g : mg x = some (.ref C)
  cl : Cls K C
  mks : PySem.W.makesIn K C = true
  kp : PySem.W.keepIn K (.ref C) = true
theorem clAt_mk {K : PySem.W.Frag} {mg : Str → Option Value} {h : Heap} {x : Str} {C : Addr} (X : K.In h) (G : h.Ns mainGlobals mg) (a : PySem.W.nsIn K mainGlobals x = some (some (.ref C)))
    (pg : PySem.W.plainGet K C Str.empty = true) (hd : PySem.W.hasDictIn K C = true) (po : PySem.W.plainOver K C = true) (sa : PySem.W.findIn K (.ref C) "__setattr__" = some (some (.builtin "object.__setattr__"))) (mk : PySem.W.makesIn K C = true) (kc : PySem.W.keepIn K (.ref C) = true) :
    ∃ c : ClAt K mg x, c.C = C := ⟨⟨C, PySem.W.mg_of X G a, ⟨pg, hd, po, sa⟩, mk, kc⟩, rfl⟩
theorem ktab_mk {K : PySem.W.Frag} {w : World} {mg : Str → Option Value} {h : Heap} {x : Str} {kvs : List (Str × D)} {d : Addr} {es : Array DictEntry} {n : Nat} (X : K.In h) (G : h.Ns mainGlobals mg) (a : PySem.W.nsIn K mainGlobals x = some (some (.ref d)))
    (l : K.lookup d = some ⟨.type "dict", none, .dict es n, #[]⟩) (hl : PySem.W.KeysLit w.params es.toList) (low : (d == sysModules) = false) (t : Tab es.toList kvs) : Nonempty (KTab K w mg x kvs) :=
  ⟨⟨d, es, n, PySem.W.mg_of X G a, ⟨l, hl, low⟩, t⟩⟩
/-- the law's promise: True -/
def spT (K : PySem.W.Frag) : Sp := fun vs H Q _ => ∃ (a : Addr) (ns : List Int), vs = [.ref a] ∧ SqL K H a (ns.map V.int) ∧ ns.length ≤ 63 ∧ (∀ z ∈ ns, Builtin.Int.intBits z ≤ 1048576) ∧ ∀ H', Q (.bl true) H'
theorem FnOk.true {P : Program} {w : World} {K : PySem.W.Frag} {mg : Str → Option Value} {base : Heap} {k : Nat} {fa : Addr} {fd : FuncData} {ps : List Str} {f : List O → Option (O × List O)} (F : FnOk P w K mg base CX0 k fa fd ps (spM K 1 f)) (h : LawOk f) : FnOk P w K mg base CX0 k fa fd ps (spT K) :=
  F.imp fun vs H Q E ⟨a, ns, e, hS, hl, hb, q⟩ => by
    subst e
    obtain ⟨os, ef⟩ := h ns ⟨hl, hb⟩
    refine ⟨rfl, H, [.fr (.scr ns)], .fr (.bl Bool.true), os, [], Same.refl H, OwL.cons (f1 := []) (f2 := []) ⟨⟨a, rfl, hS⟩, rfl⟩ OwL.nil, List.nodup_nil, (fun _ z => nomatch z), ef, fun F' H' v fp' _ _ _ _ ow _ _ => ?_⟩
    obtain ⟨f1, f2, h1, _, _⟩ := ow.inv
    cases (show v = .bl Bool.true from h1.1)
    exact q H'
theorem walk_true {l : PySem.W.OpenLaw} {q : Program} {loose : List Str} {XP : (Str → Option Value) → Heap → Prop} {YP : World → Heap → Prop} {d : DefRec} {K : Params → PySem.W.Frag} {k : Nat} (hn : l.most = some 63) (hdf : d.params.defaults = []) (hr : Room k callerA)
    (hY : ∀ (w : World) (h : Heap), YP w h → (K w.params).In h)
    (F : ∀ (w : World) (mg : Str → Option Value) (fa : Addr) (h : Heap), (K w.params).In h → h.Ns mainGlobals mg → mg d.name = some (.ref fa) →
      ∃ fd : FuncData, (∀ (s : Shared) (u : Value), BindsTo s fd ⟨[u], []⟩ [("script", u)]) ∧ ∀ base : Heap, (K w.params).In base → base.Ns mainGlobals mg → FnOk l.prog w (K w.params) mg base CX0 k fa fd ["script"] (spT (K w.params))) :
    PySem.W.WalkO q loose XP YP l.row.toRowW d [] (fun f vs => PySem.call f vs) :=
  L2.walk_ofB (n := 63) (k := k) (x := "script") (CX := fun _ => CX0) (sp := fun w => spT (K w.params)) hn (by decide) hdf hr hY F (fun _ H a ns hl hb _ hS => ⟨a, ns, rfl, hS, hl, hb, fun _ => rfl⟩) fun _ _ _ _ _ z => z
end Mi

set_option Elab.async false
set_option linter.all false
set_option maxRecDepth 100000
/-! Mi15: mirrors of Mi11 to Mi14 at an open environment. -/
namespace Mi
open PySem PySem.Spec PyProof.Rows L2
section
variable {x : Option O} {g : G}
@[simp] theorem ev_sFldO {C : Addr} {i : Nat} {f : Str} {m : XE} : sFldO C i f m (x :: g) = bd (m (x :: g)) fun p => match p.2[i]? with
  | some (some (.ob C' fs os)) => if C' = C ∧ fs.length = os.length ∧ fs.length < 1000 then some (.nx (p.2.set i (some (.ob C (pF f fs) (pV f p.1 fs os))))) else none
  | _ => none := (rfl)
@[simp] theorem ev_xFld {C : Addr} {f : Str} {a : XO} : xFld C f a (x :: g) = bd (a (x :: g)) fun p => match p.1 with
  | .d (.ob C' fs ds) => if C' = C then mp (look f fs ds) fun z => (.fr z, p.2) else none
  | .br i => match p.2[i]? with
    | some (some (.ob C' fs os)) => if C' = C then mp (bd (look f fs os) oFr) fun z => (.fr z, p.2) else none
    | _ => none
  | _ => none := (rfl)
@[simp] theorem ev_xMeth {C : Addr} {m : Str} {f : List O → Option (O × List O)} {a : XO} {as : XA} : xMeth C m f a as (x :: g) = bd (a (x :: g)) fun p => if obAt C m p.2 p.1 = true then bd (as p.2) fun q => bd (pull (p.1 :: q.1) q.2) fun s => mp (f s.1) fun z => (z.1, push (p.1 :: q.1) z.2 s.2) else none := (rfl)
@[simp] theorem ev_xMake {C : Addr} {f : List O → Option (O × List O)} {as : XA} : xMake C f as (x :: g) = bd (as (x :: g)) fun p => bd (pull p.1 p.2) fun q => bd (f (.ob C [] [] :: q.1)) fun z => match z with
  | (.fr .non, o :: os') => some (o, push p.1 os' q.2)
  | _ => none := (rfl)
@[simp] theorem ev_xMS0 {f : Str → List D → Option D} {a : XO} : xMS0 f a (x :: g) = bd (a (x :: g)) fun p => match p.1 with
  | .d (.str s) => mp (f s []) fun z => (.fr z, p.2)
  | _ => none := (rfl)
@[simp] theorem ev_xSl {a : XO} {lo hi : XPt} : xSl a lo hi (x :: g) = bd (a (x :: g)) fun p => bd (opdD p.1) fun d => bd (lo p.2) fun l => bd (hi l.2) fun h => mp (dSl d l.1 h.1) fun z => (z, h.2) := (rfl)
@[simp] theorem ev_pNo : pNo (x :: g) = some (none, x :: g) := (rfl)
@[simp] theorem ev_pEx {m : XO} : pEx m (x :: g) = bd (m (x :: g)) fun p => match view p.2 p.1 with
  | some (.int i) => some (some i, p.2)
  | _ => none := (rfl)
@[simp] theorem ev_sAug {i : Nat} {f : D → D → Option D} {m : XO} : sAug i f m (x :: g) = (match (x :: g)[i]? with
  | some (some (.fr d)) => bd (m (x :: g)) fun p => bd (view p.2 p.1) fun e => bd (f d e) fun z => if i < p.2.length then some (.nx (p.2.set i (some (.fr z)))) else none
  | _ => none) := (rfl)
@[simp] theorem ev_sNo : sNo (x :: g) = none := (rfl)
@[simp] theorem ev_xNo : xNo (x :: g) = none := (rfl)
@[simp] theorem dAddI_int {i j : Int} : dAddI (.int i) (.int j) = some (.int (i + j)) := (rfl)
@[simp] theorem dSubI_int {i j : Int} : dSubI (.int i) (.int j) = some (.int (i - j)) := (rfl)
@[simp] theorem dM0_ev {f : Str → D} {c : Str → Bool} {s : Str} : dM0 f c s [] = if c s = true then some (f s) else none := (rfl)
@[simp] theorem dM1_ev {f : Str → Str → D} {c : Str → Bool} {s y : Str} : dM1 f c s [.str y] = if c s = true then some (f s y) else none := (rfl)
@[simp] theorem dM1I_ev {f : Str → Str → Int → D} {s y : Str} {i : Int} : dM1I f s [.str y, .int i] = some (f s y i) := (rfl)
@[simp] theorem dM1II_ev {f : Str → Str → Int → Int → D} {s y : Str} {i j : Int} : dM1II f s [.str y, .int i, .int j] = some (f s y i j) := (rfl)
@[simp] theorem any1_ev {s : Str} : any1 s = true := (rfl)
@[simp] theorem dTupOf_lst {es : List D} : dTupOf [.lst es] = some (.fr (.tup es)) := (rfl)
@[simp] theorem dTupOf_tup {es : List D} : dTupOf [.tup es] = some (.fr (.tup es)) := (rfl)
@[simp] theorem dSl_str {s : Str} {lo hi : Option Int} : dSl (.str s) lo hi = if s.length ≤ sizeLine then some (.fr (.str (Txt.slice s lo hi))) else none := (rfl)
@[simp] theorem dInK_str {kvs : List (Str × D)} {z : Str} : dInK kvs (.str z) = some (.bl (kvs.lookup z).isSome) := (rfl)
@[simp] theorem dIxK_str {kvs : List (Str × D)} {z : Str} : dIxK kvs (.str z) = kvs.lookup z := (rfl)
@[simp] theorem obAt_d {C C' : Addr} {m : Str} {fs : List Str} {ds : List D} : obAt C m g (.d (.ob C' fs ds)) = (decide (C' = C) && decide (m ∉ fs)) := (rfl)
end
end Mi


set_option Elab.async false
set_option linter.all false
set_option maxRecDepth 100000
set_option maxHeartbeats 4000000
namespace Lw
open PySem PySem.Spec PyProof.Rows L2 Mi
def b_is_number : XS :=
  (sRet (xAndV (oE (xIsi isInt (oVar 0))) (xNotV (oE (xIsi isBool (oVar 0))))))
def m_is_number : List O → Option (O × List O) := runF 1 1 [0] b_is_number
theorem m_len_is_number {os : List O} {r : O × List O} (e : m_is_number os = some r) : os.length = 1 ∧ r.2.length = 1 := runF_len e
def b_is_ratio : XS :=
  (sSeq (sIf (xOr (xNot (xTru (oE (xIsi isTup (oVar 0))))) (xB (oE (xS2 dNe (oE (xSN dLen (aCons (oVar 0) aNil))) (oE (eC (.int 2))))))) (sRet (eC (.bl false))) sNext)
    (sSeq (sAsg (eVar 0) (gTp 2 (gsCons (gN 1) (gsCons (gN 2) gsNil))))
    (sRet (xAndV (oE (xCall m_is_number (aCons (oVar 1) aNil))) (xAndV (oE (xCall m_is_number (aCons (oVar 2) aNil))) (xAndV (oE (xS2 dGe (oVar 2) (oE (eC (.int 1))))) (xS2 dEq (oE (xSN dGcd (aCons (oVar 1) (aCons (oVar 2) aNil)))) (oE (eC (.int 1))))))))))
def m_is_ratio : List O → Option (O × List O) := runF 3 1 [0] b_is_ratio
theorem m_len_is_ratio {os : List O} {r : O × List O} (e : m_is_ratio os = some r) : os.length = 1 ∧ r.2.length = 1 := runF_len e
def b_is_typed : XS :=
  (sRet (xAndV (oE (xCall m_is_ratio (aCons (oVar 0) aNil))) (xAndV (oE (xS2 dLe (oE (xSN dAbs (aCons (oE (xIx dIx oIx (oVar 0) (oE (eC (.int 0))))) aNil))) (oE (eC (.int 1000000))))) (xS2 dLe (oE (xIx dIx oIx (oVar 0) (oE (eC (.int 1))))) (oE (eC (.int 1000)))))))
def m_is_typed : List O → Option (O × List O) := runF 1 1 [0] b_is_typed
theorem m_len_is_typed {os : List O} {r : O × List O} (e : m_is_typed os = some r) : os.length = 1 ∧ r.2.length = 1 := runF_len e
def b_ratio : XS :=
  (sSeq (sAsg (xSN dGcd (aCons (oVar 0) (aCons (oVar 1) aNil))) (gN 2))
    (sSeq (sIf (xB (oE (xS2 dLt (oVar 1) (oE (eC (.int 0)))))) (sAsg (xS1 dNeg (oVar 2)) (gN 2)) sNext)
    (sRet (xTup (aCons (oE (xS2 dFdiv (oVar 0) (oVar 2))) (aCons (oE (xS2 dFdiv (oVar 1) (oVar 2))) aNil))))))
def m_ratio : List O → Option (O × List O) := runF 3 2 [0, 1] b_ratio
theorem m_len_ratio {os : List O} {r : O × List O} (e : m_ratio os = some r) : os.length = 2 ∧ r.2.length = 2 := runF_len e
def b_plus : XS :=
  (sRet (xCall m_ratio (aCons (oE (xA2 dAdd (oE (xA2 dMul (oE (xIx dIx oIx (oVar 0) (oE (eC (.int 0))))) (oE (xIx dIx oIx (oVar 1) (oE (eC (.int 1))))))) (oE (xA2 dMul (oE (xIx dIx oIx (oVar 1) (oE (eC (.int 0))))) (oE (xIx dIx oIx (oVar 0) (oE (eC (.int 1))))))))) (aCons (oE (xA2 dMul (oE (xIx dIx oIx (oVar 0) (oE (eC (.int 1))))) (oE (xIx dIx oIx (oVar 1) (oE (eC (.int 1))))))) aNil))))
def m_plus : List O → Option (O × List O) := runF 2 2 [0, 1] b_plus
theorem m_len_plus {os : List O} {r : O × List O} (e : m_plus os = some r) : os.length = 2 ∧ r.2.length = 2 := runF_len e
def b_minus : XS :=
  (sRet (xCall m_ratio (aCons (oE (xS2 dSub (oE (xA2 dMul (oE (xIx dIx oIx (oVar 0) (oE (eC (.int 0))))) (oE (xIx dIx oIx (oVar 1) (oE (eC (.int 1))))))) (oE (xA2 dMul (oE (xIx dIx oIx (oVar 1) (oE (eC (.int 0))))) (oE (xIx dIx oIx (oVar 0) (oE (eC (.int 1))))))))) (aCons (oE (xA2 dMul (oE (xIx dIx oIx (oVar 0) (oE (eC (.int 1))))) (oE (xIx dIx oIx (oVar 1) (oE (eC (.int 1))))))) aNil))))
def m_minus : List O → Option (O × List O) := runF 2 2 [0, 1] b_minus
theorem m_len_minus {os : List O} {r : O × List O} (e : m_minus os = some r) : os.length = 2 ∧ r.2.length = 2 := runF_len e
def b_product : XS :=
  (sRet (xCall m_ratio (aCons (oE (xA2 dMul (oE (xIx dIx oIx (oVar 0) (oE (eC (.int 0))))) (oE (xIx dIx oIx (oVar 1) (oE (eC (.int 0))))))) (aCons (oE (xA2 dMul (oE (xIx dIx oIx (oVar 0) (oE (eC (.int 1))))) (oE (xIx dIx oIx (oVar 1) (oE (eC (.int 1))))))) aNil))))
def m_product : List O → Option (O × List O) := runF 2 2 [0, 1] b_product
theorem m_len_product {os : List O} {r : O × List O} (e : m_product os = some r) : os.length = 2 ∧ r.2.length = 2 := runF_len e
def b_quotient : XS :=
  (sRet (xCall m_ratio (aCons (oE (xA2 dMul (oE (xIx dIx oIx (oVar 0) (oE (eC (.int 0))))) (oE (xIx dIx oIx (oVar 1) (oE (eC (.int 1))))))) (aCons (oE (xA2 dMul (oE (xIx dIx oIx (oVar 0) (oE (eC (.int 1))))) (oE (xIx dIx oIx (oVar 1) (oE (eC (.int 0))))))) aNil))))
def m_quotient : List O → Option (O × List O) := runF 2 2 [0, 1] b_quotient
theorem m_len_quotient {os : List O} {r : O × List O} (e : m_quotient os = some r) : os.length = 2 ∧ r.2.length = 2 := runF_len e
def b_compare : XS :=
  (sSeq (sAsg (xA2 dMul (oE (xIx dIx oIx (oVar 0) (oE (eC (.int 0))))) (oE (xIx dIx oIx (oVar 1) (oE (eC (.int 1)))))) (gN 2))
    (sSeq (sAsg (xA2 dMul (oE (xIx dIx oIx (oVar 1) (oE (eC (.int 0))))) (oE (xIx dIx oIx (oVar 0) (oE (eC (.int 1)))))) (gN 3))
    (sSeq (sIf (xB (oE (xS2 dEq (oVar 2) (oVar 3)))) (sRet (eC (.int 0))) sNext)
    (sRet (xIf (xB (oE (xS2 dLt (oVar 2) (oVar 3)))) (xS1 dNeg (oE (eC (.int 1)))) (eC (.int 1)))))))
def m_compare : List O → Option (O × List O) := runF 4 2 [0, 1] b_compare
theorem m_len_compare {os : List O} {r : O × List O} (e : m_compare os = some r) : os.length = 2 ∧ r.2.length = 2 := runF_len e
def b_write_ratio : XS :=
  (sSeq (sIf (xB (oE (xS2 dEq (oE (xIx dIx oIx (oVar 0) (oE (eC (.int 1))))) (oE (eC (.int 1)))))) (sRet (xS1 dFmt (oE (xIx dIx oIx (oVar 0) (oE (eC (.int 0))))))) sNext)
    (sRet (xJoined [(oE (xS1 dFmt (oE (xIx dIx oIx (oVar 0) (oE (eC (.int 0))))))), (oE (eC (.str (PySem.Str.ofString "/")))), (oE (xS1 dFmt (oE (xIx dIx oIx (oVar 0) (oE (eC (.int 1)))))))])))
def m_write_ratio : List O → Option (O × List O) := runF 1 1 [0] b_write_ratio
theorem m_len_write_ratio {os : List O} {r : O × List O} (e : m_write_ratio os = some r) : os.length = 1 ∧ r.2.length = 1 := runF_len e
def b__law_cell : XS :=
  (sSeq (sIf (xB (oE (xS2 dLt (oVar 1) (oE (xSN dLen (aCons (oVar 0) aNil)))))) (sRet (xIx dIx oIx (oVar 0) (oVar 1))) sNext)
    (sRet (eC (.int 0))))
def m__law_cell : List O → Option (O × List O) := runF 2 2 [0, 1] b__law_cell
theorem m_len__law_cell {os : List O} {r : O × List O} (e : m__law_cell os = some r) : os.length = 2 ∧ r.2.length = 2 := runF_len e
def b__law_digits_2 : XS :=
  (sIf (xB (oE (xS2 dGt (oVar 5) (oE (eC (.int 0)))))) (sSeq (sDrop (xApp 3 (xS2 dMod (oE (xSN dIntOf (aCons (oVar 5) aNil))) (oE (eC (.int 1000))))))
    (sAsg (xS2 dFdiv (oVar 5) (oE (eC (.int 1000)))) (gN 5))) sNext)
def b__law_digits_3 : XS :=
  (sSeq (sAsg (xS2 dMod (oE (xSN dIntOf (aCons (oE (xA2 dAdd (oE (xA2 dAdd (oE (xA2 dMul (oE (eVar 7)) (oE (eC (.int 16807))))) (oE (xA2 dMul (oE (eC (.int 7))) (oE (eVar 6)))))) (oE (eC (.int 1))))) aNil))) (oE (eC (.int 2147483647)))) (gN 7))
    (sDrop (xApp 3 (xS2 dMod (oE (xSN dIntOf (aCons (oE (xS2 dFdiv (oVar 7) (oE (eC (.int 997))))) aNil))) (oE (eC (.int 1000)))))))
def b__law_digits_1 : XS :=
  (sSeq (sAsg (xCall m__law_cell (aCons (oVar 0) (aCons (oVar 4) aNil))) (gN 5))
    (sSeq (sIf (xB (oE (xS2 dLt (oVar 5) (oE (eC (.int 0)))))) (sAsg (xS2 dSub (oE (eC (.int 1))) (oE (xA2 dMul (oE (eC (.int 2))) (oE (eVar 5))))) (gN 5)) sNext)
    (sSeq (sIf (xB (oE (xS2 dGt (oE (xSN dLen (aCons (oVar 3) aNil))) (oE (eC (.int 1500)))))) sBrk sNext)
    (sIf (xB (oE (xS2 dGe (oVar 5) (oE (xS2 dPow (oE (eC (.int 10))) (oE (eC (.int 18)))))))) (sFor (iR1 (oE (eC (.int 60)))) (gN 6) b__law_digits_2) (sSeq (sAsg (xS2 dMod (oE (xSN dIntOf (aCons (oE (xA2 dAdd (oE (xA2 dAdd (oE (xA2 dMul (oE (eVar 5)) (oE (eC (.int 48271))))) (oE (xA2 dMul (oE (eVar 4)) (oE (eC (.int 69621))))))) (oE (eC (.int 11))))) aNil))) (oE (eC (.int 2147483647)))) (gN 7))
    (sFor (iR1 (oE (eC (.int 12)))) (gN 6) b__law_digits_3))))))
def b__law_digits : XS :=
  (sSeq (sAsg (xLst aNil) (gN 3))
    (sSeq (sFor (iR2 (oVar 1) (oVar 2)) (gN 4) b__law_digits_1)
    (sRet (eMove 3))))
def m__law_digits : List O → Option (O × List O) := runF 8 3 [0, 1, 2] b__law_digits
theorem m_len__law_digits {os : List O} {r : O × List O} (e : m__law_digits os = some r) : os.length = 3 ∧ r.2.length = 3 := runF_len e
def b__law_draw : XS :=
  (sSeq (sAsg (xIx dIx oIx (oVar 0) (oE (eC (.int 1)))) (gN 2))
    (sSeq (sAsg (xA2 dAdd (oE (eVar 2)) (oE (eC (.int 1)))) (gSetL 0 (oE (eC (.int 1)))))
    (sSeq (sIf (xB (oE (xS2 dLt (oVar 2) (oE (xSN dLen (aCons (oE (xIx dIx oIx (oVar 0) (oE (eC (.int 0))))) aNil)))))) (sRet (xS2 dMod (oE (xSN dIntOf (aCons (oE (xIx dIx oIx (oE (xIx dIx oIx (oVar 0) (oE (eC (.int 0))))) (oVar 2))) aNil))) (oVar 1))) sNext)
    (sRet (xS2 dMod (oE (xSN dIntOf (aCons (oE (xA2 dMul (oE (eVar 2)) (oE (eC (.int 7))))) aNil))) (oVar 1))))))
def m__law_draw : List O → Option (O × List O) := runF 3 2 [0, 1] b__law_draw
theorem m_len__law_draw {os : List O} {r : O × List O} (e : m__law_draw os = some r) : os.length = 2 ∧ r.2.length = 2 := runF_len e
def b__law_pick : XS :=
  (sRet (xIx dIx oIx (oVar 1) (oE (xS2 dMod (oE (xSN dIntOf (aCons (oE (xCall m__law_draw (aCons (oVar 0) (aCons (oE (eC (.int 900))) aNil)))) aNil))) (oE (xSN dLen (aCons (oVar 1) aNil)))))))
def m__law_pick : List O → Option (O × List O) := runF 2 2 [0, 1] b__law_pick
theorem m_len__law_pick {os : List O} {r : O × List O} (e : m__law_pick os = some r) : os.length = 2 ∧ r.2.length = 2 := runF_len e
def b__law_like (m__law_like : Nat → List O → Option (O × List O)) (n : Nat) : XS :=
  (sSeq (sIf (xTru (oE (xIsi isTup (oVar 1)))) (sSeq (sIf (xOr (xNot (xTru (oE (xIsi isTup (oVar 0))))) (xB (oE (xS2 dNe (oE (xSN dLen (aCons (oVar 0) aNil))) (oE (xSN dLen (aCons (oVar 1) aNil))))))) (sRet (eC (.bl false))) sNext)
    (sRet (xS2 dEq (oE (eLc (iR1 (oE (xSN dLen (aCons (oVar 1) aNil)))) (gN 2) (xNot (xTru (oE (xCall (m__law_like n) (aCons (oE (xIx dIx oIx (oVar 0) (oVar 2))) (aCons (oE (xIx dIx oIx (oVar 1) (oVar 2))) aNil)))))) (eC (.int 1)) [2])) (oE (xLst aNil))))) sNext)
    (sSeq (sIf (xB (oE (xS2 dIsN (oVar 1) (oE (eC .non))))) (sRet (xS2 dIsN (oVar 0) (oE (eC .non)))) sNext)
    (sSeq (sIf (xB (oE (xS2 dIsB (oVar 1) (oE (eC (.bl true)))))) (sRet (xS2 dIsB (oVar 0) (oE (eC (.bl true))))) sNext)
    (sSeq (sIf (xB (oE (xS2 dIsB (oVar 1) (oE (eC (.bl false)))))) (sRet (xS2 dIsB (oVar 0) (oE (eC (.bl false))))) sNext)
    (sSeq (sIf (xTru (oE (xIsi isStr (oVar 1)))) (sRet (xAndV (oE (xIsi isStr (oVar 0))) (xS2 dEq (oE (xMS dJoin (oE (eC (.str (PySem.Str.ofString "")))) (aCons (oE (xLst (aCons (oE (eVar 0)) aNil))) aNil))) (oVar 1)))) sNext)
    (sRet (xAndV (oE (xIsi isInt (oVar 0))) (xAndV (oE (xNotV (oE (xIsi isBool (oVar 0))))) (xS2 dEq (oVar 0) (oVar 1))))))))))
def m__law_like : Nat → List O → Option (O × List O)
  | 0 => fun _ => none
  | n + 1 => runF 3 2 [0, 1] (b__law_like (fun _ => m__law_like n) n)
theorem m_len__law_like : ∀ (n : Nat) {os : List O} {r : O × List O}, m__law_like n os = some r → os.length = 2 ∧ r.2.length = 2
  | 0, _, _, e => by cases e
  | n + 1, _, _, e => runF_len e
def m__law_like_8 : List O → Option (O × List O) := m__law_like 8
theorem m_len__law_like_8 {os : List O} {r : O × List O} (e : m__law_like_8 os = some r) : os.length = 2 ∧ r.2.length = 2 := m_len__law_like 8 e
noncomputable def b__law_gcd_1 : XS :=
  (sPar 0 1 (aCons (oE (eVar 1)) (aCons (oE (xS2 dMod (oE (xSN dIntOf (aCons (oVar 0) aNil))) (oVar 1))) aNil)))
noncomputable def b__law_gcd : XS :=
  (sSeq (sWhile (xB (oE (xS2 dNe (oVar 1) (oE (eC (.int 0)))))) b__law_gcd_1)
    (sRet (eMove 0)))
noncomputable def m__law_gcd : List O → Option (O × List O) := runF 2 2 [] b__law_gcd
theorem m_len__law_gcd {os : List O} {r : O × List O} (e : m__law_gcd os = some r) : os.length = 2 ∧ r.2.length = 2 := runF_len e
noncomputable def b__law_ratio : XS :=
  (sSeq (sAsg (xCall m__law_gcd (aCons (oE (xSN dAbs (aCons (oVar 0) aNil))) (aCons (oVar 1) aNil))) (gN 2))
    (sRet (xTup (aCons (oE (xS2 dFdiv (oVar 0) (oVar 2))) (aCons (oE (xS2 dFdiv (oVar 1) (oVar 2))) aNil)))))
noncomputable def m__law_ratio : List O → Option (O × List O) := runF 3 2 [0, 1] b__law_ratio
theorem m_len__law_ratio {os : List O} {r : O × List O} (e : m__law_ratio os = some r) : os.length = 2 ∧ r.2.length = 2 := runF_len e
end Lw

set_option Elab.async false
set_option linter.all false
set_option maxRecDepth 100000
/-! Ls: what the helpers of the laws answer. -/
namespace Lw
open PySem PySem.Spec PyProof.Rows L2 Mi
def iL (ds : List Int) : List D := ds.map D.int
def iO (ds : List Int) : List O := ds.map fun i => .fr (.int i)
@[simp] theorem iL_len {ds : List Int} : (iL ds).length = ds.length := List.length_map ..
@[simp] theorem iO_len {ds : List Int} : (iO ds).length = ds.length := List.length_map ..
@[simp] theorem erL_iO : ∀ {ds : List Int}, erL (iO ds) = iL ds
  | [] => by rw [iO, List.map_nil, erL_nil]; rfl
  | d :: ds => by
    show erL (.fr (.int d) :: iO ds) = .int d :: iL ds
    rw [erL_cons, erL_iO, er_fr]
theorem iO_app {ds : List Int} {i : Int} : iO ds ++ [.fr (.int i)] = iO (ds ++ [i]) := by
  unfold iO
  rw [List.map_append]
  rfl
@[simp] theorem iL_map {ds : List Int} : (iL ds).map O.fr = iO ds := by
  unfold iL iO
  rw [List.map_map]
  rfl
theorem iL_get {ds : List Int} {k : Nat} : (iL ds)[k]? = (ds[k]?).map D.int := List.getElem?_map ..
/-! ### cells, digits -/
theorem cell_spec {ns : List Int} {i : Int} (h0 : 0 ≤ i) : Ev (m__law_cell [.fr (.scr ns), .fr (.int i)]) fun p => ∃ z, p.1 = .fr (.int z) ∧ p.2 = [.fr (.scr ns), .fr (.int i)] := by
  by_cases h : i < ns.length
  · obtain ⟨z, hz⟩ : ∃ z, atI ns i = some z := by
      obtain ⟨k, rfl⟩ : ∃ k : Nat, i = k := ⟨i.toNat, by omega⟩
      exact ⟨_, (atI_lt (by omega)).trans (List.getElem?_eq_getElem (by omega))⟩
    simp [m__law_cell, ev_runF, b__law_cell, h, hz]
  · simp [m__law_cell, ev_runF, b__law_cell, h]
def Dig (ds : List Int) : Prop := ∀ d ∈ ds, 0 ≤ d ∧ d < 1000
theorem Dig.app {ds : List Int} {i : Int} (h : Dig ds) : Dig (ds ++ [i.fmod 1000]) := fun d hd => by
  rcases List.mem_append.mp hd with k | k
  · exact h d k
  · cases List.mem_singleton.mp k
    rw [Int.fmod_eq_emod_of_nonneg _ (by decide)]
    omega
theorem iR_60 {x : Option O} {g : G} {n : Int} (h : 0 ≤ n ∧ n < 2 ^ 62) : iR1 (oE (eC (.int n))) (x :: g) = some (rgD 0 n.toNat, x :: g) := by
  simp
  omega
def DP (ns : List Int) (lo hi : Int) : G → Prop := fun g => ∃ ds a b c e, g = [some (.fr (.scr ns)), some (.fr (.int lo)), some (.fr (.int hi)), some (.lst (iO ds)), a, b, c, e] ∧ Dig ds ∧ ds.length ≤ 1600
theorem len_ok {n : Nat} (h : n ≤ 1600) : n < sizeLine := by
  have : (1600 : Nat) < sizeLine := by decide
  omega
theorem loop2 {ns : List Int} {lo hi q y : Int} {c e : Option O} {ds : List Int} (dg : Dig ds) (hb : ds.length ≤ 1500) : Ev (forL (gN 6) b__law_digits_2 (rgD 0 60) [some (.fr (.scr ns)), some (.fr (.int lo)), some (.fr (.int hi)), some (.lst (iO ds)), some (.fr (.int q)), some (.fr (.int y)), c, e]) (Goes (DP ns lo hi)) := by
  let P : Nat → G → Prop := fun k g => ∃ ds y c, g = [some (.fr (.scr ns)), some (.fr (.int lo)), some (.fr (.int hi)), some (.lst (iO ds)), some (.fr (.int q)), some (.fr (.int y)), c, e] ∧ Dig ds ∧ ds.length ≤ 1500 + k
  refine (forR (P := P) ⟨ds, y, c, rfl, dg, hb⟩ ?_).mono ?_
  · rintro k i hk hi g ⟨ds, y, c, rfl, dg, dl⟩
    have hl := len_ok (n := ds.length) (by omega)
    by_cases hy : 0 < y
    · simp [b__law_digits_2, hy, hl, iO_app]
      exact ⟨cdiv_ok (by decide) (by decide), ⟨_, _, _, rfl, dg.app, by simp; omega⟩⟩
    · simp [b__law_digits_2, hy]
      exact ⟨_, _, _, rfl, dg, by omega⟩
  · rintro x ⟨g, rfl, ds, y, c, rfl, dg, dl⟩
    exact ⟨ds, _, _, _, _, rfl, dg, by omega⟩
theorem loop3 {ns : List Int} {lo hi q y z : Int} {c : Option O} {ds : List Int} (dg : Dig ds) (hb : ds.length ≤ 1500) : Ev (forL (gN 6) b__law_digits_3 (rgD 0 12) [some (.fr (.scr ns)), some (.fr (.int lo)), some (.fr (.int hi)), some (.lst (iO ds)), some (.fr (.int q)), some (.fr (.int y)), c, some (.fr (.int z))]) (Goes (DP ns lo hi)) := by
  let P : Nat → G → Prop := fun k g => ∃ ds c z, g = [some (.fr (.scr ns)), some (.fr (.int lo)), some (.fr (.int hi)), some (.lst (iO ds)), some (.fr (.int q)), some (.fr (.int y)), c, some (.fr (.int z))] ∧ Dig ds ∧ ds.length ≤ 1500 + k
  refine (forR (P := P) ⟨ds, c, z, rfl, dg, hb⟩ ?_).mono ?_
  · rintro k i hk hi g ⟨ds, c, z, rfl, dg, dl⟩
    have hl := len_ok (n := ds.length) (by omega)
    simp [b__law_digits_3, hl, iO_app]
    exact ⟨cdiv_ok (by decide) (by decide), ⟨_, _, _, rfl, dg.app, by simp; omega⟩⟩
  · rintro x ⟨g, rfl, ds, c, z, rfl, dg, dl⟩
    exact ⟨ds, _, _, _, _, rfl, dg, by omega⟩
theorem digits_spec {ns : List Int} {lo hi : Int} (h0 : 0 ≤ lo) (h1 : lo < 2 ^ 62) (h2 : -(2 ^ 62) ≤ hi) (h3 : hi < 2 ^ 62) : Ev (m__law_digits [.fr (.scr ns), .fr (.int lo), .fr (.int hi)]) fun p => ∃ ds, p.1 = .lst (iO ds) ∧ Dig ds ∧ ds.length ≤ 1600 ∧ p.2 = [.fr (.scr ns), .fr (.int lo), .fr (.int hi)] := by
  simp [m__law_digits, ev_runF, b__law_digits]
  refine ⟨⟨by omega, by omega, by omega⟩, ?_⟩
  refine (forL_goes (P := DP ns lo hi) ⟨[], none, none, none, none, rfl, fun _ h => absurd h (List.not_mem_nil), by decide⟩ ?_).mono ?_
  · rintro d hd g ⟨ds, a, b, c, e, rfl, dg, dl⟩
    obtain ⟨q, hq, rfl⟩ : ∃ q : Int, 0 ≤ q ∧ d = .int q := by
      obtain ⟨k, hk, rfl⟩ := mem_rgD.mp hd
      exact ⟨_, by omega, rfl⟩
    have hc := cell_spec (ns := ns) hq
    simp [b__law_digits_1]
    refine hc.mono ?_
    rintro ⟨o, os⟩ ⟨z, h1, h2⟩
    cases h1
    cases h2
    simp
    refine Ev.mono (Q := fun a => ∃ y : Int, a = .nx [some (.fr (.scr ns)), some (.fr (.int lo)), some (.fr (.int hi)), some (.lst (iO ds)), some (.fr (.int q)), some (.fr (.int y)), c, e]) (Ev.ite (fun _ => by simp) (fun _ => by simp)) ?_
    rintro _ ⟨y, rfl⟩
    by_cases hb : (1500 : Int) < ds.length
    · simp [hb]
      exact ⟨ds, _, _, _, _, rfl, dg, dl⟩
    · have hb' : ds.length ≤ 1500 := by omega
      by_cases hy : (1000000000000000000 : Int) ≤ y
      · simp [hb, hy]
        exact loop2 dg (by omega)
      · simp [hb, hy]
        exact loop3 dg (by omega)
  · rintro x ⟨g, rfl, ds, a, b, c, d, rfl, dg, dl⟩
    simp
    exact ⟨ds, rfl, dg, dl⟩
/-! ### the box -/
abbrev bx (ds : List Int) (a : Int) : O := .lst [.fr (.lst (iL ds)), .fr (.int a)]
theorem draw_spec {ds : List Int} {a m : Int} (ha : 0 ≤ a) (hm : 0 < m) : Ev (m__law_draw [bx ds a, .fr (.int m)]) fun p => ∃ v, p = (.fr (.int v), [bx ds (a + 1), .fr (.int m)]) ∧ 0 ≤ v ∧ v < m := by
  have hv : ∀ z : Int, 0 ≤ z.fmod m ∧ z.fmod m < m := fun z => by
    rw [Int.fmod_eq_emod_of_nonneg _ (by omega)]
    exact ⟨Int.emod_nonneg _ (by omega), Int.emod_lt_of_pos _ hm⟩
  have hm0 : m ≠ 0 := by omega
  by_cases h : a < ds.length
  · obtain ⟨z, hz⟩ : ∃ z, atI (iL ds) a = some (.int z) := by
      obtain ⟨k, rfl⟩ : ∃ k : Nat, a = k := ⟨a.toNat, by omega⟩
      exact ⟨_, (atI_lt (by rw [iL_len]; omega)).trans (by rw [iL_get, List.getElem?_eq_getElem (by omega)]; rfl)⟩
    simp [m__law_draw, ev_runF, b__law_draw, h, hz, hm0]
    exact hv _
  · simp [m__law_draw, ev_runF, b__law_draw, h, hm0]
    exact hv _
/-- one of some things -/
theorem pick_spec {ds : List Int} {a : Int} {ts : List D} (ha : 0 ≤ a) (ht : ts ≠ []) : Ev (m__law_pick [bx ds a, .fr (.lst ts)]) fun p => ∃ t, p = (.fr t, [bx ds (a + 1), .fr (.lst ts)]) ∧ t ∈ ts := by
  have hl : 0 < ts.length := List.length_pos_iff.mpr ht
  have hl0 : ¬((ts.length : Int) = 0) := by omega
  simp [m__law_pick, ev_runF, b__law_pick]
  refine (draw_spec ha (by decide)).mono ?_
  rintro _ ⟨v, rfl, h3, h4⟩
  obtain ⟨k, hk, e⟩ : ∃ k : Nat, k < ts.length ∧ v.fmod ts.length = k := by
    have e := Int.fmod_eq_emod_of_nonneg v (b := (ts.length : Int)) (by omega)
    have e1 := Int.emod_nonneg v (b := (ts.length : Int)) (by omega)
    have e2 := Int.emod_lt_of_pos v (b := (ts.length : Int)) (by omega)
    exact ⟨(v.fmod ts.length).toNat, by omega, by omega⟩
  have hz : atI ts (v.fmod ts.length) = some ts[k] := by
    rw [e]
    exact (atI_lt hk).trans (List.getElem?_eq_getElem hk)
  simp [hl0, hz, ht]
theorem pick_specO {ds : List Int} {a : Int} {ts : List D} (ha : 0 ≤ a) (ht : ts ≠ []) : Ev (m__law_pick [bx ds a, .lst (ts.map O.fr)]) fun p => ∃ t, p = (.fr t, [bx ds (a + 1), .lst (ts.map O.fr)]) ∧ t ∈ ts := by
  have hl : 0 < ts.length := List.length_pos_iff.mpr ht
  have hl0 : ¬((ts.length : Int) = 0) := by omega
  have he : ∀ us : List D, erL (us.map O.fr) = us := fun us => by
    induction us with
    | nil => rw [List.map_nil, erL_nil]
    | cons u us ih => rw [List.map_cons, erL_cons, er_fr, ih]
  simp [m__law_pick, ev_runF, b__law_pick]
  refine (draw_spec ha (by decide)).mono ?_
  rintro _ ⟨v, rfl, h3, h4⟩
  obtain ⟨k, hk, e⟩ : ∃ k : Nat, k < ts.length ∧ v.fmod ts.length = k := by
    have e := Int.fmod_eq_emod_of_nonneg v (b := (ts.length : Int)) (by omega)
    have e1 := Int.emod_nonneg v (b := (ts.length : Int)) (by omega)
    have e2 := Int.emod_lt_of_pos v (b := (ts.length : Int)) (by omega)
    exact ⟨(v.fmod ts.length).toNat, by omega, by omega⟩
  have hz : atI (ts.map O.fr) (v.fmod ts.length) = some (.fr ts[k]) := by
    rw [e, atI_lt (by rw [List.length_map]; exact hk), List.getElem?_map, List.getElem?_eq_getElem hk]
    rfl
  simp [hl0, hz, ht, he]
/-! ### told and due -/
def LikeOk : Nat → D → Prop
  | 0, _ => False
  | n + 1, .tup ds => ds.length ≤ 1000000 ∧ ∀ d ∈ ds, LikeOk n d
  | _ + 1, .str s => s.length ≤ 16777216
  | _ + 1, .int _ => True
  | _ + 1, .bl _ => True
  | _ + 1, .non => True
  | _, _ => False
@[simp] theorem likeOk_tup {n : Nat} {ds : List D} : LikeOk (n + 1) (.tup ds) ↔ ds.length ≤ 1000000 ∧ ∀ d ∈ ds, LikeOk n d := .rfl
@[simp] theorem likeOk_str {n : Nat} {s : Str} : LikeOk (n + 1) (.str s) ↔ s.length ≤ 16777216 := .rfl
@[simp] theorem likeOk_int {n : Nat} {i : Int} : LikeOk (n + 1) (.int i) := trivial
@[simp] theorem likeOk_bl {n : Nat} {i : Bool} : LikeOk (n + 1) (.bl i) := trivial
@[simp] theorem likeOk_non {n : Nat} : LikeOk (n + 1) .non := trivial
theorem like_spec : ∀ {n : Nat} {d : D}, LikeOk n d → Ev (m__law_like n [.fr d, .fr d]) fun p => p = (.fr (.bl true), [.fr d, .fr d])
  | 0, _, h => h.elim
  | n + 1, .tup ds, h => by
    simp [m__law_like, ev_runF, b__law_like]
    obtain ⟨hl, hd⟩ := h
    refine ⟨by omega, ?_⟩
    refine (lcL_go (P := fun g => ∃ c, g = [some (.fr (.tup ds)), some (.fr (.tup ds)), c]) (f := fun _ => none) ⟨none, rfl⟩ ?_ ?_).mono ?_
    · rintro d hr g ⟨c, rfl⟩
      obtain ⟨k, hk, rfl⟩ := mem_rgD.mp hr
      generalize hq : (0 : Int) + k = q
      have hz : atI ds q = some ds[k] := by
        rw [← hq, Int.zero_add]
        exact (atI_lt hk).trans (List.getElem?_eq_getElem hk)
      simp [hz]
      refine (like_spec (hd _ (List.getElem_mem hk))).mono ?_
      rintro _ rfl
      simp
    · have : (1000000 : Nat) ≤ sizeLine := by decide
      rw [rgD_len]
      exact Nat.le_trans (by simpa using hl) this
    · rintro ⟨os, g⟩ ⟨h1, c, rfl⟩
      have h2 : os = [] := by rw [show os = _ from h1]; simp
      subst h2
      simp
  | n + 1, .str s, h => by
    have h : s.length ≤ 16777216 := h
    have e : dJoin (Str.ofString "") [.lst [.str s]] = some (.str s) := by
      show (if _ then _ else _) = _
      rw [if_pos (by
        have : (Str.ofString "").length = 0 := by decide +kernel
        show (s.length + 0) + 1 * (Str.ofString "").length ≤ _
        omega)]
      have : Txt.join (Str.ofString "") [s] = s := TL.join_eq _ _
      show some (D.str (Txt.join (Str.ofString "") [s])) = _
      rw [this]
    simp [m__law_like, ev_runF, b__law_like, e]
  | n + 1, .int i, h => by
    simp [m__law_like, ev_runF, b__law_like]
  | n + 1, .bl b, h => by
    cases b with
    | true => simp [m__law_like, ev_runF, b__law_like]
    | false => simp [m__law_like, ev_runF, b__law_like]
  | n + 1, .non, h => by
    simp [m__law_like, ev_runF, b__law_like]
/-! ### the greatest common divisor, by its turns -/
theorem gcd_spec {a b : Int} (ha : 0 ≤ a) (hb : 0 ≤ b) : Ev (m__law_gcd [.fr (.int a), .fr (.int b)]) fun p => p = (.fr (.int ((Nat.gcd a.natAbs b.natAbs : Nat) : Int)), [.fr (.int a), .fr (.int b)]) := by
  simp [m__law_gcd, ev_runF, b__law_gcd]
  refine (while_go (fun n g => ∃ x y : Int, g = [some (.fr (.int x)), some (.fr (.int y))] ∧ 0 ≤ x ∧ 0 ≤ y ∧ y.natAbs = n ∧ Nat.gcd x.natAbs y.natAbs = Nat.gcd a.natAbs b.natAbs) (fun x => ∃ y : Int, x = .nx [some (.fr (.int ((Nat.gcd a.natAbs b.natAbs : Nat) : Int))), some (.fr (.int y))]) ?_ ⟨a, b, rfl, ha, hb, rfl, rfl⟩).mono ?_
  · rintro n g ⟨x, y, rfl, hx, hy, hn, hg⟩
    by_cases h0 : y = 0
    · subst h0
      have : (x.natAbs : Int) = x := by omega
      have e : x = ((Nat.gcd a.natAbs b.natAbs : Nat) : Int) := by
        rw [← hg]
        simp
        exact this.symm
      simp [e]
    · simp [h0, b__law_gcd_1]
      have e := Int.fmod_eq_emod_of_nonneg x (b := y) (by omega)
      have e1 := Int.emod_nonneg x (b := y) (by omega)
      have e2 := Int.emod_lt_of_pos x (b := y) (by omega)
      refine ⟨_, ?_, y, x.fmod y, ⟨rfl, rfl⟩, hy, by omega, rfl, ?_⟩
      · omega
      · rw [← hg, e]
        have : (x % y).natAbs = x.natAbs % y.natAbs := by
          rw [Int.natAbs_emod_of_nonneg hx]
        rw [this, Nat.gcd_comm x.natAbs y.natAbs, Nat.gcd_comm y.natAbs]
        exact (Nat.gcd_rec _ _).symm
  · rintro x ⟨y, rfl⟩
    simp
theorem like8 {d : D} (h : LikeOk 8 d) : Ev (m__law_like_8 [.fr d, .fr d]) fun p => p = (.fr (.bl true), [.fr d, .fr d]) := like_spec h
theorem like8' {d e : D} (h : LikeOk 8 d) (k : e = d) : Ev (m__law_like_8 [.fr e, .fr d]) fun p => p = (.fr (.bl true), [.fr e, .fr d]) := by
  subst k
  exact like_spec h
/-- an integer's text -/
def sI (x : Int) : Str := Str.ofString (toString x)
theorem strOf_ok {x : Int} (h : x.natAbs.log2 < 1920) : dStrOf [.int x] = some (.str (sI x)) := if_pos h
theorem fmt_ok {x : Int} (h : x.natAbs.log2 < 1920) : dFmt (.int x) = some (.str (sI x)) := if_pos h
theorem sI_len {x : Int} (h : x.natAbs.log2 < 1920) : (sI x).length ≤ 1921 := by
  have e := int_text_length_le (k := 1920) (by decide) h
  unfold sI
  rw [PySem.ofString_length]
  exact e
theorem app_len (a b : Str) : (a ++ b).length = a.length + b.length := by
  show (a.cps ++ b.cps).size = _
  rw [Array.size_append]
  rfl
end Lw

set_option Elab.async false
set_option linter.all false
set_option maxRecDepth 100000
/-! Tx: texts as lists of code points: replace, find, slices, digits. -/
namespace Tx
open PySem PySem.Spec PyProof.Rows SX
open PySem.StrLaws
theorem joinL_cons {z p : List Nat} : ∀ {ps : List (List Nat)}, ps ≠ [] → TL.joinL z (p :: ps) = p ++ (z ++ TL.joinL z ps)
  | [], h => (h rfl).elim
  | _ :: _, _ => rfl
theorem spl_ne (b : List Nat) : ∀ (l : List Nat) (k : Nat) (acc : List Nat), TL.spl b k acc l ≠ []
  | [], k, acc => by rw [TL.spl_nil]; exact List.cons_ne_nil _ _
  | c :: r, 0, acc => by
    cases h : TL.pre b (c :: r) with
    | true => rw [TL.spl_hit h]; exact List.cons_ne_nil _ _
    | false => rw [TL.spl_miss h]; exact spl_ne b r 0 _
  | c :: r, k + 1, acc => spl_ne b r k acc
theorem repl_S {a b z : List Nat} (hb : b ≠ []) : Txt.replace (S a) (S b) (S z) = S (TL.joinL z (TL.spl b 0 [] a)) := by
  have hy : TL.tl (S b) ≠ [] := hb
  obtain ⟨f, g, hn⟩ := occ_tight (S a) (S b) (TL.len1 hy)
  have key := TL.parts_spl hy _ 0 f (Nat.zero_le _) g hn
  rw [List.drop_zero] at key
  have key : (partsFrom (S a) (S b).length 0 (Builtin.Str.occurrences (S a) (S b) 0 (S a).length ((S a).length + 1))).map TL.tl = TL.spl b 0 [] a := key
  have h0 : ((S b).length == 0) = false := by
    have := TL.len1 hy
    simpa using (by omega : ¬ (S b).length = 0)
  unfold Txt.replace
  rw [h0, Bool.false_and, Bool.or_false]
  by_cases he : (Builtin.Str.occurrences (S a) (S b) 0 (S a).length ((S a).length + 1)).isEmpty = true
  · rw [if_pos he]
    rw [List.isEmpty_iff.mp he] at key
    rw [← key]
    show S a = S (TL.tl (Builtin.Str.strSub (S a) 0 (S a).length))
    rw [sub_whole]
  · rw [if_neg he, glued_eq_join, partsBetween_eq]
    apply TL.ext_tl
    rw [TL.tl_join, key]
/-- one sign for a text -/
def r1 (p : Nat) (z : List Nat) : List Nat → List Nat
  | [] => []
  | c :: r => (if c = p then z else [c]) ++ r1 p z r
theorem join_spl1 (p : Nat) (z : List Nat) : ∀ (l acc : List Nat), TL.joinL z (TL.spl [p] 0 acc l) = acc ++ r1 p z l
  | [], acc => by rw [TL.spl_nil]; show acc = acc ++ []; rw [List.append_nil]
  | c :: r, acc => by
    by_cases h : c = p
    · subst h
      have e : TL.pre [c] (c :: r) = true := by simp [TL.pre]
      rw [TL.spl_hit e, joinL_cons (spl_ne _ _ _ _)]
      show acc ++ (z ++ TL.joinL z (TL.spl [c] 0 [] r)) = acc ++ ((if c = c then z else [c]) ++ r1 c z r)
      rw [join_spl1 c z r [], if_pos rfl, List.nil_append]
    · have e : TL.pre [p] (c :: r) = false := by simp [TL.pre, h]
      rw [TL.spl_miss e, join_spl1 p z r]
      show acc ++ [c] ++ _ = acc ++ ((if c = p then z else [c]) ++ r1 p z r)
      rw [if_neg h, List.append_assoc]
/-- two signs for a text -/
def r2 (p q : Nat) (z : List Nat) : List Nat → List Nat
  | [] => []
  | [c] => [c]
  | c :: d :: r => if c = p ∧ d = q then z ++ r2 p q z r else c :: r2 p q z (d :: r)
theorem join_spl2 (p q : Nat) (z : List Nat) : ∀ (n : Nat) (l acc : List Nat), l.length ≤ n → TL.joinL z (TL.spl [p, q] 0 acc l) = acc ++ r2 p q z l
  | _, [], acc, _ => by rw [TL.spl_nil]; show acc = acc ++ []; rw [List.append_nil]
  | 0, _ :: _, _, h => by cases h
  | n + 1, [c], acc, _ => by
    have e : TL.pre [p, q] [c] = false := by simp [TL.pre]
    rw [TL.spl_miss e, TL.spl_nil]
    rfl
  | n + 1, c :: d :: r, acc, h => by
    by_cases hh : c = p ∧ d = q
    · obtain ⟨rfl, rfl⟩ := hh
      have e : TL.pre [c, d] (c :: d :: r) = true := by simp [TL.pre]
      rw [TL.spl_hit e, joinL_cons (spl_ne _ _ _ _)]
      have e2 : TL.spl [c, d] ([c, d].length - 1) [] (d :: r) = TL.spl [c, d] 0 [] r := rfl
      rw [e2, join_spl2 c d z n r [] (by simp at h; omega)]
      show _ = acc ++ (if c = c ∧ d = d then z ++ r2 c d z r else _)
      rw [if_pos ⟨rfl, rfl⟩, List.nil_append]
    · have e : TL.pre [p, q] (c :: d :: r) = false := by
        have : ¬ (c = p ∧ d = q) := hh
        simp only [TL.pre, List.length_cons, List.length_nil, List.take_succ_cons, List.take_zero]
        simpa using hh
      rw [TL.spl_miss e, join_spl2 p q z n (d :: r) _ (by simp at h ⊢; omega)]
      show acc ++ [c] ++ _ = acc ++ (if c = p ∧ d = q then _ else c :: r2 p q z (d :: r))
      rw [if_neg hh, List.append_assoc]
      rfl
theorem repl1 (p : Nat) (z l : List Nat) : Txt.replace (S l) (S [p]) (S z) = S (r1 p z l) := by
  rw [repl_S (List.cons_ne_nil _ _), join_spl1]
  rfl
theorem repl2 (p q : Nat) (z l : List Nat) : Txt.replace (S l) (S [p, q]) (S z) = S (r2 p q z l) := by
  rw [repl_S (List.cons_ne_nil _ _), join_spl2 p q z l.length l [] (Nat.le_refl _)]
  rfl
/-! ### signs in a row: a plain sign, or a bar and a sign behind it -/
inductive Tk where
  | c (x : Nat) | e (x : Nat)
def Tk.raw : Tk → List Nat
  | .c x => [x]
  | .e x => [92, x]
def Tk.ok : Tk → Prop
  | .c x => x ≠ 92
  | .e x => x = 92 ∨ x = 34 ∨ x = 110
def flat (ts : List Tk) : List Nat := (ts.map Tk.raw).flatten
/-- the escapes of x become z -/
def stg (x : Nat) (z : List Nat) : Tk → List Tk
  | .c y => [.c y]
  | .e y => if y = x then z.map .c else [.e y]
theorem flat_nil : flat [] = [] := rfl
theorem flat_cons (t : Tk) (ts : List Tk) : flat (t :: ts) = t.raw ++ flat ts := rfl
theorem flat_append (a b : List Tk) : flat (a ++ b) = flat a ++ flat b := by
  unfold flat
  rw [List.map_append, List.flatten_append]
theorem flat_c (z : List Nat) : flat (z.map .c) = z := by
  induction z with
  | nil => rfl
  | cons c z ih =>
    show [c] ++ flat (z.map .c) = c :: z
    rw [ih]
    rfl
theorem r2_c {p q y : Nat} {z r : List Nat} (h : y ≠ p) : r2 p q z (y :: r) = y :: r2 p q z r := by
  cases r with
  | nil => rfl
  | cons d r =>
    show (if y = p ∧ d = q then _ else y :: r2 p q z (d :: r)) = _
    rw [if_neg fun k => h k.1]
theorem r2_stg {x : Nat} {z : List Nat} : ∀ {ts : List Tk}, (∀ t ∈ ts, match t with | .c y => y ≠ 92 | .e y => y = x ∨ y ≠ 92) → r2 92 x z (flat ts) = flat (ts.flatMap (stg x z))
  | [], _ => rfl
  | .c y :: ts, h => by
    have h1 : y ≠ 92 := h _ (List.mem_cons_self ..)
    have ih := r2_stg (x := x) (z := z) (ts := ts) fun t ht => h t (List.mem_cons_of_mem _ ht)
    show r2 92 x z (y :: flat ts) = y :: flat (ts.flatMap (stg x z))
    rw [r2_c h1, ih]
  | .e y :: ts, h => by
    have h1 : y = x ∨ y ≠ 92 := h _ (List.mem_cons_self ..)
    have ih := r2_stg (x := x) (z := z) (ts := ts) fun t ht => h t (List.mem_cons_of_mem _ ht)
    show r2 92 x z (92 :: y :: flat ts) = flat (stg x z (.e y) ++ ts.flatMap (stg x z))
    rw [flat_append, ← ih]
    by_cases hy : y = x
    · subst hy
      show (if 92 = 92 ∧ y = y then z ++ r2 92 y z (flat ts) else _) = flat (if y = y then z.map .c else [.e y]) ++ _
      rw [if_pos ⟨rfl, rfl⟩, if_pos rfl, flat_c]
    · have h2 : y ≠ 92 := h1.resolve_left hy
      show (if 92 = 92 ∧ y = x then _ else 92 :: r2 92 x z (y :: flat ts)) = flat (if y = x then z.map .c else [.e y]) ++ _
      rw [if_neg fun k => hy k.2, if_neg hy, r2_c h2]
      rfl
/-- the veil: escapes become two tabs -/
def veilT : Tk → List Nat
  | .c y => [y]
  | .e _ => [9, 9]
def veil (ts : List Tk) : List Nat := (ts.map veilT).flatten
theorem veil_cons (t : Tk) (ts : List Tk) : veil (t :: ts) = veilT t ++ veil ts := rfl
theorem veil_append (a b : List Tk) : veil (a ++ b) = veil a ++ veil b := by
  unfold veil
  rw [List.map_append, List.flatten_append]
theorem veil_len : ∀ ts : List Tk, (veil ts).length = (flat ts).length
  | [] => rfl
  | .c y :: ts => by rw [veil_cons, flat_cons, List.length_append, List.length_append, veil_len ts]; rfl
  | .e y :: ts => by rw [veil_cons, flat_cons, List.length_append, List.length_append, veil_len ts]; rfl
theorem stg3 (z1 z2 z3 : List Nat) : ∀ ts : List Tk, ((ts.flatMap (stg 92 z1)).flatMap (stg 34 z2)).flatMap (stg 110 z3) = ts.flatMap fun t => ((stg 92 z1 t).flatMap (stg 34 z2)).flatMap (stg 110 z3)
  | [] => rfl
  | t :: ts => by
    rw [List.flatMap_cons, List.flatMap_append, List.flatMap_append, stg3 z1 z2 z3 ts, List.flatMap_cons]
theorem stg_c (x : Nat) (z l : List Nat) : (l.map Tk.c).flatMap (stg x z) = l.map Tk.c := by
  induction l with
  | nil => rfl
  | cons a l ih => rw [List.map_cons, List.flatMap_cons, ih]; rfl
theorem flat_flatMap (f : Tk → List Tk) : ∀ ts : List Tk, flat (ts.flatMap f) = (ts.map fun t => flat (f t)).flatten
  | [] => rfl
  | t :: ts => by rw [List.flatMap_cons, flat_append, flat_flatMap f ts, List.map_cons, List.flatten_cons]
/-- three replaces of escapes, one behind the other -/
theorem three {z1 z2 z3 : List Nat} {ts : List Tk} (h : ∀ t ∈ ts, t.ok) (n1 : 92 ∉ z1) (n2 : 92 ∉ z2) : r2 92 110 z3 (r2 92 34 z2 (r2 92 92 z1 (flat ts))) = (ts.map fun t => match t with | .c y => [y] | .e y => if y = 92 then z1 else if y = 34 then z2 else z3).flatten := by
  have a1 : ∀ t ∈ ts, match t with | .c y => y ≠ 92 | .e y => y = 92 ∨ y ≠ 92 := fun t ht => by
    have := h t ht
    cases t with
    | c y => exact this
    | e y => exact Classical.em _
  rw [r2_stg a1]
  have a2 : ∀ t ∈ ts.flatMap (stg 92 z1), match t with | .c y => y ≠ 92 | .e y => y = 34 ∨ y = 110 := fun t ht => by
    obtain ⟨u, hu, hm⟩ := List.mem_flatMap.mp ht
    have := h u hu
    cases u with
    | c y =>
      cases List.mem_singleton.mp hm
      exact this
    | e y =>
      have hm : t ∈ (if y = 92 then z1.map Tk.c else [Tk.e y]) := hm
      by_cases hy : y = 92
      · rw [if_pos hy] at hm
        obtain ⟨b, hb, rfl⟩ := List.mem_map.mp hm
        exact fun q => n1 (q ▸ hb)
      · rw [if_neg hy] at hm
        cases List.mem_singleton.mp hm
        exact this.resolve_left hy
  rw [r2_stg (ts := ts.flatMap (stg 92 z1)) fun t ht => by
    have := a2 t ht
    cases t with
    | c y => exact this
    | e y => exact this.elim .inl fun q => .inr (by omega)]
  have a3 : ∀ t ∈ (ts.flatMap (stg 92 z1)).flatMap (stg 34 z2), match t with | .c y => y ≠ 92 | .e y => y = 110 ∨ y ≠ 92 := fun t ht => by
    obtain ⟨u, hu, hm⟩ := List.mem_flatMap.mp ht
    have := a2 u hu
    cases u with
    | c y =>
      cases List.mem_singleton.mp hm
      exact this
    | e y =>
      have hm : t ∈ (if y = 34 then z2.map Tk.c else [Tk.e y]) := hm
      by_cases hy : y = 34
      · rw [if_pos hy] at hm
        obtain ⟨b, hb, rfl⟩ := List.mem_map.mp hm
        exact fun q => n2 (q ▸ hb)
      · rw [if_neg hy] at hm
        cases List.mem_singleton.mp hm
        exact .inl (this.resolve_left hy)
  rw [r2_stg a3, stg3, flat_flatMap]
  congr 1
  refine List.map_congr_left fun t ht => ?_
  have := h t ht
  cases t with
  | c y => rfl
  | e y =>
    have : y = 92 ∨ y = 34 ∨ y = 110 := this
    rcases this with rfl | rfl | rfl
    · show flat (((z1.map Tk.c).flatMap (stg 34 z2)).flatMap (stg 110 z3)) = z1
      rw [stg_c, stg_c, flat_c]
    · show flat (((z2.map Tk.c) ++ []).flatMap (stg 110 z3)) = z2
      rw [List.append_nil, stg_c, flat_c]
    · show flat (z3.map Tk.c ++ []) = z3
      rw [List.append_nil, flat_c]
theorem veil3 {ts : List Tk} (h : ∀ t ∈ ts, t.ok) : r2 92 110 [9, 9] (r2 92 34 [9, 9] (r2 92 92 [9, 9] (flat ts))) = veil ts := by
  rw [three h (by decide) (by decide)]
  unfold veil
  congr 1
  refine List.map_congr_left fun t _ => ?_
  cases t with
  | c y => rfl
  | e y => show (if y = 92 then [9, 9] else if y = 34 then [9, 9] else [9, 9]) = [9, 9]; split <;> (try split) <;> rfl
/-! ### a text's signs as tokens -/
def tkOf (c : Nat) : Tk := if c = 92 then .e 92 else if c = 34 then .e 34 else if c = 10 then .e 110 else .c c
theorem tkOf_ok (c : Nat) : (tkOf c).ok := by
  unfold tkOf
  by_cases h1 : c = 92
  · rw [if_pos h1]; exact .inl rfl
  · rw [if_neg h1]
    by_cases h2 : c = 34
    · rw [if_pos h2]; exact .inr (.inl rfl)
    · rw [if_neg h2]
      by_cases h3 : c = 10
      · rw [if_pos h3]; exact .inr (.inr rfl)
      · rw [if_neg h3]; exact h1
theorem r1_append (p : Nat) (z : List Nat) : ∀ a b : List Nat, r1 p z (a ++ b) = r1 p z a ++ r1 p z b
  | [], _ => rfl
  | c :: a, b => by
    show (if c = p then z else [c]) ++ r1 p z (a ++ b) = (if c = p then z else [c]) ++ r1 p z a ++ r1 p z b
    rw [r1_append p z a b, List.append_assoc]
theorem r1_one (p c : Nat) (z : List Nat) : r1 p z [c] = if c = p then z else [c] := by
  show (if c = p then z else [c]) ++ [] = _
  rw [List.append_nil]
/-- what show_plain writes of a text -/
theorem esc3 : ∀ l : List Nat, r1 10 [92, 110] (r1 34 [92, 34] (r1 92 [92, 92] l)) = flat (l.map tkOf)
  | [] => rfl
  | c :: l => by
    have ih := esc3 l
    show r1 10 _ (r1 34 _ ((if c = 92 then [92, 92] else [c]) ++ r1 92 [92, 92] l)) = (tkOf c).raw ++ flat (l.map tkOf)
    rw [r1_append, r1_append, ih]
    congr 1
    unfold tkOf
    by_cases h1 : c = 92
    · subst h1; rfl
    · rw [if_neg h1, if_neg h1, r1_one]
      by_cases h2 : c = 34
      · subst h2; rfl
      · rw [if_neg h2, if_neg h2, r1_one]
        by_cases h3 : c = 10
        · subst h3; rfl
        · rw [if_neg h3, if_neg h3]
          rfl
/-- and what the reader makes of it again -/
theorem unesc {l : List Nat} (h : 9 ∉ l) : r1 9 [92] (r2 92 110 [10] (r2 92 34 [34] (r2 92 92 [9] (flat (l.map tkOf))))) = l := by
  rw [three (fun t ht => by obtain ⟨c, _, rfl⟩ := List.mem_map.mp ht; exact tkOf_ok c) (by decide) (by decide)]
  induction l with
  | nil => rfl
  | cons c l ih =>
    have h1 : c ≠ 9 := fun q => h (q ▸ List.mem_cons_self ..)
    have ih := ih fun q => h (List.mem_cons_of_mem _ q)
    rw [List.map_cons, List.map_cons, List.flatten_cons, r1_append, ih]
    unfold tkOf
    by_cases h2 : c = 92
    · subst h2; rfl
    · rw [if_neg h2]
      by_cases h3 : c = 34
      · subst h3; rfl
      · rw [if_neg h3]
        by_cases h4 : c = 10
        · subst h4; rfl
        · rw [if_neg h4]
          show r1 9 [92] [c] ++ l = c :: l
          rw [r1_one, if_neg h1]
          rfl
end Tx

set_option Elab.async false
set_option linter.all false
set_option maxRecDepth 100000
/-! Ty: slices, find, digits of texts as lists. -/
namespace Tx
open PySem PySem.Spec PyProof.Rows SX
open PySem.StrLaws
theorem slice_S {l : List Nat} {a b : Nat} : Txt.slice (S l) (some (a : Int)) (some (b : Int)) = S ((l.drop a).take (b - a)) := by
  rw [← C8.cutS_slice]
  unfold L2.cutS
  rw [HT.sIx_nat, HT.sIx_nat]
  have e : (S l).length = l.length := S_len l
  rw [e]
  show S ((l.drop (min a l.length)).take (min b l.length - min a l.length)) = _
  congr 1
  by_cases ha : a ≤ l.length
  · rw [Nat.min_eq_left ha]
    by_cases hb : b ≤ l.length
    · rw [Nat.min_eq_left hb]
    · rw [Nat.min_eq_right (show l.length ≤ b by omega), List.take_of_length_le (by simp), List.take_of_length_le (by simp; omega)]
  · rw [Nat.min_eq_right (show l.length ≤ a by omega), List.drop_length, List.drop_of_length_le (show l.length ≤ a by omega)]
    simp
theorem slice_at {p r : List Nat} {c : Nat} : Txt.slice (S (p ++ c :: r)) (some (p.length : Int)) (some ((p.length : Int) + 1)) = S [c] := by
  have := slice_S (l := p ++ c :: r) (a := p.length) (b := p.length + 1)
  rw [Int.natCast_add] at this
  refine this.trans ?_
  simp
theorem getD_S {l : List Nat} {k : Nat} : (S l).cps.getD k 0 = l.getD k 0 := by
  show (l.toArray).getD k 0 = _
  simp [Array.getD, List.getD]
  split
  · rename_i h; rw [List.getElem?_eq_getElem h]; rfl
  · rename_i h; rw [List.getElem?_eq_none (by omega)]; rfl
theorem find3_hit {p q r : List Nat} {c : Nat} (h : c ∉ q) : Txt.find3 (S (p ++ q ++ c :: r)) (S [c]) (p.length : Int) = ((p ++ q).length : Nat) := by
  have e0 : PySem.fromIndex (S (p ++ q ++ c :: r)).length (p.length : Int) = p.length := by
    unfold PySem.fromIndex
    rw [if_neg (by omega)]
    omega
  have hlen : (S (p ++ q ++ c :: r)).length = p.length + q.length + (r.length + 1) := by rw [S_len]; simp; omega
  have at_ : ∀ v, p.length ≤ v → v < p.length + q.length → (S (p ++ q ++ c :: r)).cps.getD v 0 ≠ c := fun v h1 h2 => by
    rw [getD_S]
    intro hv
    apply h
    have : (p ++ q ++ c :: r).getD v 0 = q.getD (v - p.length) 0 := by
      simp only [List.getD, List.append_assoc]
      rw [List.getElem?_append_right h1, List.getElem?_append_left (by omega)]
    rw [this] at hv
    rw [← hv, List.getD_eq_getElem?_getD, List.getElem?_eq_getElem (by omega)]
    exact List.getElem_mem _
  have hit : (S (p ++ q ++ c :: r)).cps.getD (p.length + q.length) 0 = c := by
    rw [getD_S]
    simp only [List.getD]
    rw [List.getElem?_append_right (by simp)]
    simp
  rcases find3_spec (S (p ++ q ++ c :: r)) c (p.length : Int) with ⟨h1, h2⟩ | ⟨k, h1, h2, h3, h4, h5⟩
  · exact (h2 (p.length + q.length) (by rw [e0]; omega) (by omega) hit).elim
  · refine h1.trans ?_
    rw [e0] at h2 h5
    have : k = p.length + q.length := by
      rcases Nat.lt_trichotomy k (p.length + q.length) with g | g | g
      · exact (at_ k h2 g h4).elim
      · exact g
      · exact (h5 _ (by omega) g hit).elim
    rw [this, List.length_append]
theorem findIn_none {l : List Nat} {c : Nat} {i j : Int} (h : c ∉ l) : Txt.findIn (S l) (S [c]) i j = -1 := by
  unfold Txt.findIn
  have hc : ∃ f, ChainTo (S l) (S [c]) (PySem.toIndexW (S l).length j) (PySem.fromIndex (S l).length i) (Builtin.Str.occurrences (S l) (S [c]) (PySem.fromIndex (S l).length i) (PySem.toIndexW (S l).length j) 1) f := by
    rw [occ_eq]
    exact ⟨_, occ_chainTo _ _ _ _ _ _ _ rfl⟩
  obtain ⟨f, hf⟩ := hc
  cases ho : Builtin.Str.occurrences (S l) (S [c]) (PySem.fromIndex (S l).length i) (PySem.toIndexW (S l).length j) 1 with
  | nil => rfl
  | cons k r =>
    rw [ho] at hf
    have hat := hf.2.1
    have hle : PySem.toIndexW (S l).length j ≤ (S l).length := Nat.min_le_right _ _
    have h2 := (subAt_one (S l) c k).mp ⟨Nat.le_trans hat.1 hle, hat.2⟩
    exact (h (List.mem_of_getElem? h2)).elim
theorem starts_S {p r : List Nat} {c d : Nat} : Txt.startswith3 (S (p ++ c :: r)) (S [d]) (p.length : Int) = decide (c = d) := by
  have e0 : PySem.fromIndex (S (p ++ c :: r)).length (p.length : Int) = p.length := by
    unfold PySem.fromIndex
    rw [if_neg (by omega)]
    omega
  unfold Txt.startswith3
  rw [e0]
  have hs := subAt_one (S (p ++ c :: r)) d p.length
  have hg : (S (p ++ c :: r)).cps.toList[p.length]? = some c := by
    show (p ++ c :: r)[p.length]? = some c
    rw [List.getElem?_append_right (Nat.le_refl _)]
    simp
  rw [hg] at hs
  by_cases h : c = d
  · have := hs.mpr (by rw [h])
    rw [decide_eq_true h, Bool.and_eq_true]
    exact ⟨decide_eq_true this.1, this.2⟩
  · rw [decide_eq_false h, Bool.and_eq_false_iff]
    cases q : Builtin.Str.subAt (S (p ++ c :: r)) (S [d]) p.length with
    | false => exact .inr rfl
    | true =>
      left
      refine decide_eq_false fun z => ?_
      have := hs.mp ⟨z, q⟩
      exact h (Option.some.inj this)
/-- the signs of an integer -/
def digI (i : Int) : List Nat := if i < 0 then 45 :: TL.numL i.natAbs else TL.numL i.natAbs
theorem sI_S (i : Int) : Lw.sI i = S (digI i) := by
  unfold Lw.sI digI
  cases i with
  | ofNat n =>
    rw [if_neg (show ¬ Int.ofNat n < 0 from fun h => by have := Int.natCast_nonneg n; exact absurd h (Int.not_lt.mpr this))]
    exact num_S n
  | negSucc n =>
    rw [if_pos (Int.negSucc_lt_zero n)]
    apply TL.ext_tl
    have e : toString (Int.negSucc n) = "-" ++ Nat.repr (n + 1) := rfl
    have e2 := TL.tl_num (n + 1)
    have e3 : toString (((n + 1 : Nat)) : Int) = Nat.repr (n + 1) := rfl
    rw [e3, TL.tl_ofString] at e2
    rw [e, TL.tl_ofString, String.toList_append, List.map_append, e2]
    rfl
theorem takeWhile_app {p : Nat → Bool} : ∀ {a b : List Nat}, (∀ c ∈ a, p c = true) → (∀ c, b.head? = some c → p c = false) → (a ++ b).takeWhile p = a
  | [], [], _, _ => rfl
  | [], c :: b, _, h => by
    have := h c rfl
    rw [List.nil_append, List.takeWhile_cons, this]
    rfl
  | c :: a, b, h1, h2 => by
    rw [List.cons_append, List.takeWhile_cons, h1 c (List.mem_cons_self ..)]
    show c :: (a ++ b).takeWhile p = _
    rw [takeWhile_app (fun d hd => h1 d (List.mem_cons_of_mem _ hd)) h2]
/-- the length of what is left without the digits in front -/
theorem lstrip_len {a b : List Nat} (ha : ∀ c ∈ a, 48 ≤ c ∧ c ≤ 57) (hb : ∀ c, b.head? = some c → c < 48 ∨ 57 < c) : (Txt.lstripChars (S (a ++ b)) (Str.ofString "0123456789")).length = b.length := by
  have hd : (Str.ofString "0123456789").cps = #[48, 49, 50, 51, 52, 53, 54, 55, 56, 57] := by decide +kernel
  have hp : ∀ c, (Str.ofString "0123456789").cps.contains c = (decide (48 ≤ c) && decide (c ≤ 57)) := fun c => by
    rw [hd]
    by_cases h : 48 ≤ c ∧ c ≤ 57
    · have : c = 48 ∨ c = 49 ∨ c = 50 ∨ c = 51 ∨ c = 52 ∨ c = 53 ∨ c = 54 ∨ c = 55 ∨ c = 56 ∨ c = 57 := by omega
      rcases this with rfl | rfl | rfl | rfl | rfl | rfl | rfl | rfl | rfl | rfl <;> decide +kernel
    · have h1 : ¬ (c = 48 ∨ c = 49 ∨ c = 50 ∨ c = 51 ∨ c = 52 ∨ c = 53 ∨ c = 54 ∨ c = 55 ∨ c = 56 ∨ c = 57) := by omega
      have e1 : (decide (48 ≤ c) && decide (c ≤ 57)) = false := by
        rw [Bool.and_eq_false_iff, decide_eq_false_iff_not, decide_eq_false_iff_not]
        omega
      rw [e1]
      cases q : (#[48, 49, 50, 51, 52, 53, 54, 55, 56, 57] : Array Nat).contains c with
      | false => rfl
      | true =>
        have hm := Array.contains_iff_mem.mp q
        exact (h1 (by simpa using hm)).elim
  unfold Txt.lstripChars
  rw [stripBy_eq, TL.len_tl, TL.tl_strSub]
  have e : stripLo (Str.ofString "0123456789").cps.contains true (S (a ++ b)) = a.length := by
    unfold stripLo
    rw [if_pos rfl]
    show ((a ++ b).takeWhile _).length = _
    rw [takeWhile_app (fun c hc => by rw [hp]; have := ha c hc; simp [this.1, this.2]) (fun c hc => by
      rw [hp]
      have := hb c hc
      rw [Bool.and_eq_false_iff, decide_eq_false_iff_not, decide_eq_false_iff_not]
      omega)]
  rw [e]
  unfold stripHi
  rw [if_neg Bool.false_ne_true, S_len]
  show (((a ++ b).drop a.length).take _).length = _
  simp
/-! ### what an integer's signs are -/
theorem numL_head {n : Nat} : ∀ c r, TL.numL n = c :: r → c = 48 → n = 0 ∧ r = [] := by
  induction n using Nat.strongRecOn with
  | _ n ih =>
    intro c r h hc
    by_cases hn : n < 10
    · rw [TL.numL_lt hn] at h
      injection h with h1 h2
      exact ⟨by omega, h2.symm⟩
    · rw [TL.numL_step (by omega)] at h
      cases q : TL.numL (n / 10) with
      | nil => exact (TL.numL_ne _ q).elim
      | cons d s =>
        rw [q] at h
        injection h with h1 h2
        obtain ⟨z, _⟩ := ih (n / 10) (by omega) d s q (by omega)
        omega
theorem digits_le {n : Nat} : ∀ c ∈ TL.numL n, 48 ≤ c ∧ c ≤ 57 := fun c hc => TL.numL_digits n c hc
theorem int_digI {i : Int} (h : i.natAbs < 10 ^ 100) : intText? (S (digI i)) = some i := by
  have hl : (TL.numL i.natAbs).length ≤ 100 := TL.numL_len (by decide) h
  unfold digI
  by_cases hi : i < 0
  · rw [if_pos hi]
    have := intText_neg (x := S (45 :: TL.numL i.natAbs)) rfl (TL.numL_digits _) (TL.numL_ne _) (by rw [S_len]; simp; omega)
    rw [this, TL.numL_val]
    congr 1
    omega
  · rw [if_neg hi]
    have := intText_digits (x := S (TL.numL i.natAbs)) (TL.numL_digits _) (TL.numL_ne _) (by rw [S_len]; omega)
    rw [this]
    show some ((NumText.digitsVal (TL.numL i.natAbs) : Nat) : Int) = some i
    rw [TL.numL_val]
    congr 1
    omega
end Tx

set_option Elab.async false
set_option linter.all false
set_option maxRecDepth 100000
set_option maxHeartbeats 4000000
namespace K37
open PySem PySem.Spec PyProof.Rows L2 Mi Lw
def topS (i : Nat) : Stmt := PySem.Challenge.pw_evenflow_k37_plain_there_and_back.main.body.getD i (.Pass ⟨0, 0, 0, 0⟩)
abbrev s_show_plain : Stmt := topS 8
abbrev N_show_plain : List Str := ["value", "member"]
theorem sc_show_plain : FnScope N_show_plain ["value"] (defScope s_show_plain) := ⟨rfl, rfl, rfl, by decide +kernel, rfl, by decide +kernel, by decide +kernel⟩
def b_show_plain (m_show_plain : Nat → List O → Option (O × List O)) (n : Nat) : XS :=
  (sSeq (sIf (xTru (oE (xIsi isStr (oVar 0)))) (sRet (xA2 dAdd (oE (xA2 dAdd (oE (eC (.str (PySem.Str.ofString "\"")))) (oE (xS1 (dRepl (PySem.Str.ofString "\n") (PySem.Str.ofString "\\n")) (oE (xS1 (dRepl (PySem.Str.ofString "\"") (PySem.Str.ofString "\\\"")) (oE (xS1 (dRepl (PySem.Str.ofString "\\") (PySem.Str.ofString "\\\\")) (oE (eVar 0)))))))))) (oE (eC (.str (PySem.Str.ofString "\"")))))) sNext)
    (sSeq (sIf (xTru (oE (xIsi isTup (oVar 0)))) (sRet (xA2 dAdd (oE (xA2 dAdd (oE (eC (.str (PySem.Str.ofString "(")))) (oE (xMS dJoin (oE (eC (.str (PySem.Str.ofString " ")))) (aCons (oE (eLc (iSeq (oE (eVar 0))) (gN 1) xYes (xCall (m_show_plain n) (aCons (oVar 1) aNil)) [1])) aNil))))) (oE (eC (.str (PySem.Str.ofString ")")))))) sNext)
    (sSeq (sIf (xB (oE (xS2 dIsN (oVar 0) (oE (eC .non))))) (sRet (eC (.str (PySem.Str.ofString "N")))) sNext)
    (sSeq (sIf (xB (oE (xS2 dIsB (oVar 0) (oE (eC (.bl true)))))) (sRet (eC (.str (PySem.Str.ofString "T")))) sNext)
    (sSeq (sIf (xB (oE (xS2 dIsB (oVar 0) (oE (eC (.bl false)))))) (sRet (eC (.str (PySem.Str.ofString "F")))) sNext)
    (sRet (xSN dStrOf (aCons (oVar 0) aNil))))))))
def m_show_plain : Nat → List O → Option (O × List O)
  | 0 => fun _ => none
  | n + 1 => runF 2 1 [0] (b_show_plain (fun _ => m_show_plain n) n)
theorem m_len_show_plain : ∀ (n : Nat) {os : List O} {r : O × List O}, m_show_plain n os = some r → os.length = 1 ∧ r.2.length = 1
  | 0, _, _, e => by cases e
  | n + 1, _, _, e => runF_len e
def m_show_plain_60 : List O → Option (O × List O) := m_show_plain 60
theorem m_len_show_plain_60 {os : List O} {r : O × List O} (e : m_show_plain_60 os = some r) : os.length = 1 ∧ r.2.length = 1 := m_len_show_plain 60 e
abbrev s_Reader_string : Stmt := L2.inClass (topS 10) 3
abbrev N_Reader_string : List Str := ["self", "at", "end", "stop", "raw", "slash"]
theorem sc_Reader_string : FnScope N_Reader_string ["self", "at"] (defScope s_Reader_string) := ⟨rfl, rfl, rfl, by decide +kernel, rfl, by decide +kernel, by decide +kernel⟩
def b_Reader_string (C_Reader : Addr) : XS :=
  (sSeq (sAsg (xMS (dM1I fun s y i => .int (PySem.Txt.find3 s y i)) (oE (xFld C_Reader "veiled" (oVar 0))) (aCons (oE (eC (.str (PySem.Str.ofString "\"")))) (aCons (oVar 1) aNil))) (gN 2))
    (sSeq (sAsg (xIf (xB (oE (xS2 dLt (oVar 2) (oE (eC (.int 0)))))) (xSN dLen (aCons (oE (xFld C_Reader "signs" (oVar 0))) aNil)) (eVar 2)) (gN 3))
    (sSeq (sAsg (xSl (oE (xFld C_Reader "signs" (oVar 0))) (pEx (oVar 1)) (pEx (oVar 3))) (gN 4))
    (sSeq (sAsg (xMS (dM1II fun s y i j => .int (PySem.Txt.findIn s y i j)) (oE (xFld C_Reader "veiled" (oVar 0))) (aCons (oE (eC (.str (PySem.Str.ofString "\\")))) (aCons (oVar 1) (aCons (oVar 3) aNil)))) (gN 5))
    (sSeq (sIf (xOr (xB (oE (xS2 dGe (oVar 5) (oE (eC (.int 0)))))) (xOr (xNot (xTru (oE (xMS0 (dM0 (fun s => .bl (PySem.Txt.isascii s)) any1) (oE (eVar 4)))))) (xNot (xTru (oE (xMS0 (dM0 (fun s => .bl (PySem.Txt.isprintable s)) any1) (oE (eVar 4)))))))) sNo sNext)
    (sSeq (sIf (xB (oE (xS2 dLt (oVar 2) (oE (eC (.int 0)))))) sNo sNext)
    (sSeq (sIf (xB (oE (xS2 dInS (oE (eC (.str (PySem.Str.ofString "\\")))) (oVar 4)))) (sAsg (xS1 (dRepl (PySem.Str.ofString "\t") (PySem.Str.ofString "\\")) (oE (xS1 (dRepl (PySem.Str.ofString "\\n") (PySem.Str.ofString "\n")) (oE (xS1 (dRepl (PySem.Str.ofString "\\\"") (PySem.Str.ofString "\"")) (oE (xS1 (dRepl (PySem.Str.ofString "\\\\") (PySem.Str.ofString "\t")) (oE (eVar 4))))))))) (gN 4)) sNext)
    (sRet (xTup (aCons (oE (eVar 4)) (aCons (oE (xA2 dAdd (oE (eVar 2)) (oE (eC (.int 1))))) aNil)))))))))))
def m_Reader_string (C_Reader : Addr) : List O → Option (O × List O) := runF 6 2 [0, 1] (b_Reader_string C_Reader)
theorem m_len_Reader_string (C_Reader : Addr) {os : List O} {r : O × List O} (e : m_Reader_string C_Reader os = some r) : os.length = 2 ∧ r.2.length = 2 := runF_len e
abbrev s_Reader_integer : Stmt := L2.inClass (topS 10) 5
abbrev N_Reader_integer : List Str := ["self", "at", "first", "window", "many"]
theorem sc_Reader_integer : FnScope N_Reader_integer ["self", "at"] (defScope s_Reader_integer) := ⟨rfl, rfl, rfl, by decide +kernel, rfl, by decide +kernel, by decide +kernel⟩
def b_Reader_integer (C_Reader : Addr) : XS :=
  (sSeq (sAsg (xIf (xTru (oE (xMS (dM1I fun s y i => .bl (PySem.Txt.startswith3 s y i)) (oE (xFld C_Reader "signs" (oVar 0))) (aCons (oE (eC (.str (PySem.Str.ofString "-")))) (aCons (oVar 1) aNil))))) (xA2 dAdd (oE (eVar 1)) (oE (eC (.int 1)))) (eVar 1)) (gN 2))
    (sSeq (sAsg (xSl (oE (xFld C_Reader "signs" (oVar 0))) (pEx (oVar 2)) (pEx (oE (xA2 dAdd (oE (xA2 dAdd (oE (eVar 2)) (oE (eC (.int 2000))))) (oE (eC (.int 1))))))) (gN 3))
    (sSeq (sAsg (xS2 dSub (oE (xSN dLen (aCons (oVar 3) aNil))) (oE (xSN dLen (aCons (oE (xMS (dM1 (fun s y => .str (PySem.Txt.lstripChars s y)) sz1) (oE (eVar 3)) (aCons (oE (eC (.str (PySem.Str.ofString "0123456789")))) aNil))) aNil)))) (gN 4))
    (sSeq (sIf (xB (oE (xS2 dEq (oVar 4) (oE (eC (.int 0)))))) sNo sNext)
    (sSeq (sIf (xAnd (xB (oE (xS2 dEq (oE (xIx dIx oIx (oVar 3) (oE (eC (.int 0))))) (oE (eC (.str (PySem.Str.ofString "0"))))))) (xB (oE (xS2 dGt (oVar 2) (oVar 1))))) sNo sNext)
    (sSeq (sIf (xAnd (xB (oE (xS2 dEq (oE (xIx dIx oIx (oVar 3) (oE (eC (.int 0))))) (oE (eC (.str (PySem.Str.ofString "0"))))))) (xB (oE (xS2 dGt (oVar 4) (oE (eC (.int 1))))))) sNo sNext)
    (sSeq (sIf (xB (oE (xS2 dGt (oVar 4) (oE (eC (.int 2000)))))) sNo sNext)
    (sRet (xTup (aCons (oE (xSN dIntOf (aCons (oE (xSl (oE (xFld C_Reader "signs" (oVar 0))) (pEx (oVar 1)) (pEx (oE (xA2 dAdd (oE (eVar 2)) (oE (eVar 4))))))) aNil))) (aCons (oE (xA2 dAdd (oE (eVar 2)) (oE (eVar 4)))) aNil)))))))))))
def m_Reader_integer (C_Reader : Addr) : List O → Option (O × List O) := runF 5 2 [0, 1] (b_Reader_integer C_Reader)
theorem m_len_Reader_integer (C_Reader : Addr) {os : List O} {r : O × List O} (e : m_Reader_integer C_Reader os = some r) : os.length = 2 ∧ r.2.length = 2 := runF_len e
abbrev s_Reader_value : Stmt := L2.inClass (topS 10) 1
abbrev N_Reader_value : List Str := ["self", "at", "depth", "sign"]
theorem sc_Reader_value : FnScope N_Reader_value ["self", "at", "depth"] (defScope s_Reader_value) := ⟨rfl, rfl, rfl, by decide +kernel, rfl, by decide +kernel, by decide +kernel⟩
noncomputable def b_Reader_value (C_Reader : Addr) (r_Reader_value : List O → Option (O × List O)) (r_Reader_row : List O → Option (O × List O)) : XS :=
  (sSeq (sAsg (xSl (oE (xFld C_Reader "signs" (oVar 0))) (pEx (oVar 1)) (pEx (oE (xA2 dAdd (oE (eVar 1)) (oE (eC (.int 1))))))) (gN 3))
    (sSeq (sIf (xB (oE (xS2 dEq (oVar 3) (oE (eC (.str (PySem.Str.ofString "\""))))))) (sRet (xMeth C_Reader "string" (m_Reader_string C_Reader) (oVar 0) (aCons (oE (xA2 dAdd (oE (eVar 1)) (oE (eC (.int 1))))) aNil))) sNext)
    (sSeq (sIf (xB (oE (xS2 dEq (oVar 3) (oE (eC (.str (PySem.Str.ofString "("))))))) (sSeq (sIf (xB (oE (xS2 dEq (oVar 2) (oE (eC (.int 40)))))) sNo sNext)
    (sRet (xMeth C_Reader "row" r_Reader_row (oVar 0) (aCons (oE (xA2 dAdd (oE (eVar 1)) (oE (eC (.int 1))))) (aCons (oE (xA2 dAdd (oE (eVar 2)) (oE (eC (.int 1))))) aNil))))) sNext)
    (sSeq (sIf (xB (oE (xS1 (dInK [(PySem.Str.ofString "T", .bl true), (PySem.Str.ofString "F", .bl false), (PySem.Str.ofString "N", .non)]) (oVar 3)))) (sRet (xTup (aCons (oE (xS1 (dIxK [(PySem.Str.ofString "T", .bl true), (PySem.Str.ofString "F", .bl false), (PySem.Str.ofString "N", .non)]) (oVar 3))) (aCons (oE (xA2 dAdd (oE (eVar 1)) (oE (eC (.int 1))))) aNil)))) sNext)
    (sRet (xMeth C_Reader "integer" (m_Reader_integer C_Reader) (oVar 0) (aCons (oVar 1) aNil)))))))
abbrev s_Reader_row : Stmt := L2.inClass (topS 10) 2
abbrev N_Reader_row : List Str := ["self", "at", "depth", "members", "member", "sign"]
theorem sc_Reader_row : FnScope N_Reader_row ["self", "at", "depth"] (defScope s_Reader_row) := ⟨rfl, rfl, rfl, by decide +kernel, rfl, by decide +kernel, by decide +kernel⟩
noncomputable def b_Reader_row_1 (C_Reader : Addr) (r_Reader_value : List O → Option (O × List O)) (r_Reader_row : List O → Option (O × List O)) : XS :=
  (sSeq (sAsg (xMeth C_Reader "value" r_Reader_value (oVar 0) (aCons (oVar 1) (aCons (oVar 2) aNil))) (gTp 2 (gsCons (gN 4) (gsCons (gN 1) gsNil))))
    (sSeq (sDrop (xApp 3 (eVar 4)))
    (sSeq (sAsg (xSl (oE (xFld C_Reader "signs" (oVar 0))) (pEx (oVar 1)) (pEx (oE (xA2 dAdd (oE (eVar 1)) (oE (eC (.int 1))))))) (gN 5))
    (sSeq (sIf (xB (oE (xS2 dEq (oVar 5) (oE (eC (.str (PySem.Str.ofString ")"))))))) (sRet (xTup (aCons (oE (xAN dTupOf (aCons (oE (eVar 3)) aNil))) (aCons (oE (xA2 dAdd (oE (eVar 1)) (oE (eC (.int 1))))) aNil)))) sNext)
    (sSeq (sIf (xB (oE (xS2 dNe (oVar 5) (oE (eC (.str (PySem.Str.ofString " "))))))) sNo sNext)
    (sAug 1 dAddI (oE (eC (.int 1)))))))))
noncomputable def b_Reader_row (C_Reader : Addr) (r_Reader_value : List O → Option (O × List O)) (r_Reader_row : List O → Option (O × List O)) : XS :=
  (sSeq (sIf (xTru (oE (xMS (dM1I fun s y i => .bl (PySem.Txt.startswith3 s y i)) (oE (xFld C_Reader "signs" (oVar 0))) (aCons (oE (eC (.str (PySem.Str.ofString ")")))) (aCons (oVar 1) aNil))))) (sRet (xTup (aCons (oE (xTup aNil)) (aCons (oE (xA2 dAdd (oE (eVar 1)) (oE (eC (.int 1))))) aNil)))) sNext)
    (sSeq (sAsg (xLst aNil) (gN 3))
    (sWhile (xTru (oE (eC (.bl true)))) (b_Reader_row_1 C_Reader r_Reader_value r_Reader_row))))
mutual
noncomputable def m_Reader_value (C_Reader : Addr) : Nat → List O → Option (O × List O)
  | 0 => fun _ => none
  | n + 1 => runF 4 3 [0, 1, 2] (b_Reader_value C_Reader (m_Reader_value C_Reader n) (m_Reader_row C_Reader n))
noncomputable def m_Reader_row (C_Reader : Addr) : Nat → List O → Option (O × List O)
  | 0 => fun _ => none
  | n + 1 => runF 6 3 [0, 2] (b_Reader_row C_Reader (m_Reader_value C_Reader n) (m_Reader_row C_Reader n))
end
theorem m_len_Reader_value (C_Reader : Addr) : ∀ (n : Nat) {os : List O} {r : O × List O}, m_Reader_value C_Reader n os = some r → os.length = 3 ∧ r.2.length = 3
  | 0, _, _, e => by rw [m_Reader_value] at e; cases e
  | n + 1, _, _, e => by rw [m_Reader_value] at e; exact runF_len e
noncomputable def m_Reader_value_90 (C_Reader : Addr) : List O → Option (O × List O) := m_Reader_value C_Reader 90
theorem m_len_Reader_value_90 (C_Reader : Addr) {os : List O} {r : O × List O} (e : m_Reader_value_90 C_Reader os = some r) : os.length = 3 ∧ r.2.length = 3 := m_len_Reader_value C_Reader 90 e
theorem m_len_Reader_row (C_Reader : Addr) : ∀ (n : Nat) {os : List O} {r : O × List O}, m_Reader_row C_Reader n os = some r → os.length = 3 ∧ r.2.length = 3
  | 0, _, _, e => by rw [m_Reader_row] at e; cases e
  | n + 1, _, _, e => by rw [m_Reader_row] at e; exact runF_len e
noncomputable def m_Reader_row_90 (C_Reader : Addr) : List O → Option (O × List O) := m_Reader_row C_Reader 90
theorem m_len_Reader_row_90 (C_Reader : Addr) {os : List O} {r : O × List O} (e : m_Reader_row_90 C_Reader os = some r) : os.length = 3 ∧ r.2.length = 3 := m_len_Reader_row C_Reader 90 e
abbrev s_Reader___init__ : Stmt := L2.inClass (topS 10) 0
abbrev N_Reader___init__ : List Str := ["self", "text"]
theorem sc_Reader___init__ : FnScope N_Reader___init__ ["self", "text"] (defScope s_Reader___init__) := ⟨rfl, rfl, rfl, by decide +kernel, rfl, by decide +kernel, by decide +kernel⟩
def b_Reader___init__ (C_Reader : Addr) : XS :=
  (sSeq (sFldO C_Reader 0 "signs" (eVar 1))
    (sFldO C_Reader 0 "veiled" (xS1 (dRepl (PySem.Str.ofString "\\n") (PySem.Str.ofString "\t\t")) (oE (xS1 (dRepl (PySem.Str.ofString "\\\"") (PySem.Str.ofString "\t\t")) (oE (xS1 (dRepl (PySem.Str.ofString "\\\\") (PySem.Str.ofString "\t\t")) (oE (eVar 1)))))))))
def m_Reader___init__ (C_Reader : Addr) : List O → Option (O × List O) := runF 2 2 [0, 1] (b_Reader___init__ C_Reader)
theorem m_len_Reader___init__ (C_Reader : Addr) {os : List O} {r : O × List O} (e : m_Reader___init__ C_Reader os = some r) : os.length = 2 ∧ r.2.length = 2 := runF_len e
abbrev s_read_plain : Stmt := topS 9
abbrev N_read_plain : List Str := ["text", "value", "end"]
theorem sc_read_plain : FnScope N_read_plain ["text"] (defScope s_read_plain) := ⟨rfl, rfl, rfl, by decide +kernel, rfl, by decide +kernel, by decide +kernel⟩
noncomputable def b_read_plain (C_Reader : Addr) : XS :=
  (sSeq (sAsg (xMeth C_Reader "value" (m_Reader_value_90 C_Reader) (oE (xMake C_Reader (m_Reader___init__ C_Reader) (aCons (oVar 0) aNil))) (aCons (oE (eC (.int 0))) (aCons (oE (eC (.int 0))) aNil))) (gTp 2 (gsCons (gN 1) (gsCons (gN 2) gsNil))))
    (sSeq (sIf (xB (oE (xS2 dLt (oVar 2) (oE (xSN dLen (aCons (oVar 0) aNil)))))) sNo sNext)
    (sRet (eMove 1))))
noncomputable def m_read_plain (C_Reader : Addr) : List O → Option (O × List O) := runF 3 1 [0] (b_read_plain C_Reader)
theorem m_len_read_plain (C_Reader : Addr) {os : List O} {r : O × List O} (e : m_read_plain C_Reader os = some r) : os.length = 1 ∧ r.2.length = 1 := runF_len e
abbrev s__law_cell : Stmt := topS 12
abbrev N__law_cell : List Str := ["script", "k"]
theorem sc__law_cell : FnScope N__law_cell ["script", "k"] (defScope s__law_cell) := ⟨rfl, rfl, rfl, by decide +kernel, rfl, by decide +kernel, by decide +kernel⟩
abbrev s__law_digits : Stmt := topS 13
abbrev N__law_digits : List Str := ["script", "first", "last", "digits", "k", "cell", "turn", "seed"]
theorem sc__law_digits : FnScope N__law_digits ["script", "first", "last"] (defScope s__law_digits) := ⟨rfl, rfl, rfl, by decide +kernel, rfl, by decide +kernel, by decide +kernel⟩
def b__law_digits_2 : XS :=
  (sIf (xB (oE (xS2 dGt (oVar 5) (oE (eC (.int 0)))))) (sSeq (sDrop (xApp 3 (xS2 dMod (oE (xSN dIntOf (aCons (oVar 5) aNil))) (oE (eC (.int 1000))))))
    (sAsg (xS2 dFdiv (oVar 5) (oE (eC (.int 1000)))) (gN 5))) sNext)
def b__law_digits_3 : XS :=
  (sSeq (sAsg (xS2 dMod (oE (xSN dIntOf (aCons (oE (xA2 dAdd (oE (xA2 dAdd (oE (xA2 dMul (oE (eVar 7)) (oE (eC (.int 16807))))) (oE (xA2 dMul (oE (eC (.int 7))) (oE (eVar 6)))))) (oE (eC (.int 1))))) aNil))) (oE (eC (.int 2147483647)))) (gN 7))
    (sDrop (xApp 3 (xS2 dMod (oE (xSN dIntOf (aCons (oE (xS2 dFdiv (oVar 7) (oE (eC (.int 997))))) aNil))) (oE (eC (.int 1000)))))))
def b__law_digits_1 : XS :=
  (sSeq (sIf (xB (oE (xS2 dGt (oE (xSN dLen (aCons (oVar 3) aNil))) (oE (eC (.int 1500)))))) sBrk sNext)
    (sSeq (sAsg (xCall m__law_cell (aCons (oVar 0) (aCons (oVar 4) aNil))) (gN 5))
    (sSeq (sIf (xB (oE (xS2 dLt (oVar 5) (oE (eC (.int 0)))))) (sAsg (xS2 dSub (oE (eC (.int 1))) (oE (xA2 dMul (oE (eC (.int 2))) (oE (eVar 5))))) (gN 5)) sNext)
    (sIf (xB (oE (xS2 dGe (oVar 5) (oE (xS2 dPow (oE (eC (.int 10))) (oE (eC (.int 18)))))))) (sFor (iR1 (oE (eC (.int 60)))) (gN 6) b__law_digits_2) (sSeq (sAsg (xS2 dMod (oE (xSN dIntOf (aCons (oE (xA2 dAdd (oE (xA2 dAdd (oE (xA2 dMul (oE (eVar 5)) (oE (eC (.int 48271))))) (oE (xA2 dMul (oE (eVar 4)) (oE (eC (.int 69621))))))) (oE (eC (.int 11))))) aNil))) (oE (eC (.int 2147483647)))) (gN 7))
    (sFor (iR1 (oE (eC (.int 12)))) (gN 6) b__law_digits_3))))))
def b__law_digits : XS :=
  (sSeq (sAsg (xLst aNil) (gN 3))
    (sSeq (sFor (iR2 (oVar 1) (oVar 2)) (gN 4) b__law_digits_1)
    (sRet (eMove 3))))
def m__law_digits : List O → Option (O × List O) := runF 8 3 [0, 1, 2] b__law_digits
theorem m_len__law_digits {os : List O} {r : O × List O} (e : m__law_digits os = some r) : os.length = 3 ∧ r.2.length = 3 := runF_len e
abbrev s__law_draw : Stmt := topS 14
abbrev N__law_draw : List Str := ["box", "many", "at"]
theorem sc__law_draw : FnScope N__law_draw ["box", "many"] (defScope s__law_draw) := ⟨rfl, rfl, rfl, by decide +kernel, rfl, by decide +kernel, by decide +kernel⟩
abbrev s__law_same : Stmt := topS 15
abbrev N__law_same : List Str := ["actual", "due", "k"]
theorem sc__law_same : FnScope N__law_same ["actual", "due"] (defScope s__law_same) := ⟨rfl, rfl, rfl, by decide +kernel, rfl, by decide +kernel, by decide +kernel⟩
def b__law_same_1 (m__law_same : Nat → List O → Option (O × List O)) (n : Nat) : XS :=
  (sIf (xNot (xTru (oE (xCall (m__law_same n) (aCons (oE (xIx dIx oIx (oVar 0) (oVar 2))) (aCons (oE (xIx dIx oIx (oVar 1) (oVar 2))) aNil)))))) (sRet (eC (.bl false))) sNext)
def b__law_same (m__law_same : Nat → List O → Option (O × List O)) (n : Nat) : XS :=
  (sSeq (sIf (xTru (oE (xIsi isTup (oVar 1)))) (sSeq (sIf (xOr (xNot (xTru (oE (xIsi isTup (oVar 0))))) (xB (oE (xS2 dNe (oE (xSN dLen (aCons (oVar 0) aNil))) (oE (xSN dLen (aCons (oVar 1) aNil))))))) (sRet (eC (.bl false))) sNext)
    (sSeq (sFor (iR1 (oE (xSN dLen (aCons (oVar 1) aNil)))) (gN 2) (b__law_same_1 m__law_same n))
    (sRet (eC (.bl true))))) sNext)
    (sSeq (sIf (xB (oE (xS2 dIsN (oVar 1) (oE (eC .non))))) (sRet (xS2 dIsN (oVar 0) (oE (eC .non)))) sNext)
    (sSeq (sIf (xB (oE (xS2 dIsB (oVar 1) (oE (eC (.bl true)))))) (sRet (xS2 dIsB (oVar 0) (oE (eC (.bl true))))) sNext)
    (sSeq (sIf (xB (oE (xS2 dIsB (oVar 1) (oE (eC (.bl false)))))) (sRet (xS2 dIsB (oVar 0) (oE (eC (.bl false))))) sNext)
    (sSeq (sIf (xTru (oE (xIsi isInt (oVar 1)))) (sRet (xAndV (oE (xIsi isInt (oVar 0))) (xAndV (oE (xNotV (oE (xIsi isBool (oVar 0))))) (xS2 dEq (oVar 0) (oVar 1))))) sNext)
    (sRet (xAndV (oE (xIsi isStr (oVar 0))) (xS2 dEq (oVar 0) (oVar 1)))))))))
def m__law_same : Nat → List O → Option (O × List O)
  | 0 => fun _ => none
  | n + 1 => runF 3 2 [0, 1] (b__law_same (fun _ => m__law_same n) n)
theorem m_len__law_same : ∀ (n : Nat) {os : List O} {r : O × List O}, m__law_same n os = some r → os.length = 2 ∧ r.2.length = 2
  | 0, _, _, e => by cases e
  | n + 1, _, _, e => runF_len e
def m__law_same_60 : List O → Option (O × List O) := m__law_same 60
theorem m_len__law_same_60 {os : List O} {r : O × List O} (e : m__law_same_60 os = some r) : os.length = 2 ∧ r.2.length = 2 := m_len__law_same 60 e
abbrev s__law_plain : Stmt := topS 16
abbrev N__law_plain : List Str := ["value", "one"]
theorem sc__law_plain : FnScope N__law_plain ["value"] (defScope s__law_plain) := ⟨rfl, rfl, rfl, by decide +kernel, rfl, by decide +kernel, by decide +kernel⟩
def b__law_plain (m__law_plain : Nat → List O → Option (O × List O)) (n : Nat) : XS :=
  (sSeq (sIf (xB (oE (xS2 dIsN (oVar 0) (oE (eC .non))))) (sRet (eC (.str (PySem.Str.ofString "N")))) sNext)
    (sSeq (sIf (xB (oE (xS2 dIsB (oVar 0) (oE (eC (.bl true)))))) (sRet (eC (.str (PySem.Str.ofString "T")))) sNext)
    (sSeq (sIf (xB (oE (xS2 dIsB (oVar 0) (oE (eC (.bl false)))))) (sRet (eC (.str (PySem.Str.ofString "F")))) sNext)
    (sSeq (sIf (xTru (oE (xIsi isInt (oVar 0)))) (sRet (xSN dStrOf (aCons (oVar 0) aNil))) sNext)
    (sSeq (sIf (xTru (oE (xIsi isTup (oVar 0)))) (sRet (xA2 dAdd (oE (xA2 dAdd (oE (eC (.str (PySem.Str.ofString "(")))) (oE (xMS dJoin (oE (eC (.str (PySem.Str.ofString " ")))) (aCons (oE (eLc (iSeq (oE (eVar 0))) (gN 1) xYes (xCall (m__law_plain n) (aCons (oVar 1) aNil)) [1])) aNil))))) (oE (eC (.str (PySem.Str.ofString ")")))))) sNext)
    (sRet (xA2 dAdd (oE (xA2 dAdd (oE (eC (.str (PySem.Str.ofString "\"")))) (oE (xS1 (dRepl (PySem.Str.ofString "\n") (PySem.Str.ofString "\\n")) (oE (xS1 (dRepl (PySem.Str.ofString "\"") (PySem.Str.ofString "\\\"")) (oE (xS1 (dRepl (PySem.Str.ofString "\\") (PySem.Str.ofString "\\\\")) (oE (eVar 0)))))))))) (oE (eC (.str (PySem.Str.ofString "\"")))))))))))
def m__law_plain : Nat → List O → Option (O × List O)
  | 0 => fun _ => none
  | n + 1 => runF 2 1 [0] (b__law_plain (fun _ => m__law_plain n) n)
theorem m_len__law_plain : ∀ (n : Nat) {os : List O} {r : O × List O}, m__law_plain n os = some r → os.length = 1 ∧ r.2.length = 1
  | 0, _, _, e => by cases e
  | n + 1, _, _, e => runF_len e
def m__law_plain_60 : List O → Option (O × List O) := m__law_plain 60
theorem m_len__law_plain_60 {os : List O} {r : O × List O} (e : m__law_plain_60 os = some r) : os.length = 1 ∧ r.2.length = 1 := m_len__law_plain 60 e
abbrev s__law_value : Stmt := topS 17
abbrev N__law_value : List Str := ["box", "deep", "kind", "number", "signs", "k"]
theorem sc__law_value : FnScope N__law_value ["box", "deep"] (defScope s__law_value) := ⟨rfl, rfl, rfl, by decide +kernel, rfl, by decide +kernel, by decide +kernel⟩
def b__law_value (m__law_value : Nat → List O → Option (O × List O)) (n : Nat) : XS :=
  (sSeq (sAsg (xCall m__law_draw (aCons (oVar 0) (aCons (oE (eC (.int 9))) aNil))) (gN 2))
    (sSeq (sIf (xAnd (xB (oE (xS2 dLt (oVar 2) (oE (eC (.int 3)))))) (xB (oE (xS2 dGt (oVar 1) (oE (eC (.int 0))))))) (sRet (xAN dTupOf (aCons (oE (eLc (iR1 (oE (xCall m__law_draw (aCons (oVar 0) (aCons (oE (eC (.int 4))) aNil))))) (gN 5) xYes (xCall (m__law_value n) (aCons (oVar 0) (aCons (oE (xS2 dSub (oVar 1) (oE (eC (.int 1))))) aNil))) [5])) aNil))) sNext)
    (sSeq (sIf (xB (oE (xS2 dEq (oVar 2) (oE (eC (.int 3)))))) (sRet (xIx dIx oIx (oE (xLst (aCons (oE (eC .non)) (aCons (oE (eC (.bl true))) (aCons (oE (eC (.bl false))) aNil))))) (oE (xCall m__law_draw (aCons (oVar 0) (aCons (oE (eC (.int 3))) aNil)))))) sNext)
    (sSeq (sIf (xB (oE (xS2 dEq (oVar 2) (oE (eC (.int 4)))))) (sSeq (sAsg (xS2 dSub (oE (xA2 dAdd (oE (xA2 dMul (oE (xCall m__law_draw (aCons (oVar 0) (aCons (oE (eC (.int 900))) aNil)))) (oE (xS2 dPow (oE (eC (.int 10))) (oE (eC (.int 16))))))) (oE (xCall m__law_draw (aCons (oVar 0) (aCons (oE (eC (.int 900))) aNil)))))) (oE (eC (.int 450)))) (gN 3))
    (sRet (xIx dIx oIx (oE (xLst (aCons (oE (eVar 3)) (aCons (oE (xS2 dSub (oE (eC (.int 0))) (oVar 3))) (aCons (oE (xA2 dAdd (oE (xS2 dPow (oE (eC (.int 10))) (oE (eC (.int 19))))) (oE (eVar 3)))) (aCons (oE (eC (.int 0))) aNil)))))) (oE (xCall m__law_draw (aCons (oVar 0) (aCons (oE (eC (.int 4))) aNil))))))) sNext)
    (sSeq (sIf (xB (oE (xS2 dEq (oVar 2) (oE (eC (.int 5)))))) (sRet (xS2 dSub (oE (xCall m__law_draw (aCons (oVar 0) (aCons (oE (eC (.int 30))) aNil)))) (oE (eC (.int 15))))) sNext)
    (sSeq (sAsg (eC (.str (PySem.Str.ofString " !\"#$&'()*+,-./0189:;<=>?@AZ[\\]^_`az{|}~\nnTFN"))) (gN 4))
    (sRet (xMS dJoin (oE (eC (.str (PySem.Str.ofString "")))) (aCons (oE (eLc (iR1 (oE (xCall m__law_draw (aCons (oVar 0) (aCons (oE (eC (.int 9))) aNil))))) (gN 5) xYes (xIx dIx oIx (oVar 4) (oE (xS2 dMod (oE (xSN dIntOf (aCons (oE (xCall m__law_draw (aCons (oVar 0) (aCons (oE (eC (.int 900))) aNil)))) aNil))) (oE (xSN dLen (aCons (oVar 4) aNil)))))) [5])) aNil)))))))))
def m__law_value : Nat → List O → Option (O × List O)
  | 0 => fun _ => none
  | n + 1 => runF 6 2 [0, 1] (b__law_value (fun _ => m__law_value n) n)
theorem m_len__law_value : ∀ (n : Nat) {os : List O} {r : O × List O}, m__law_value n os = some r → os.length = 2 ∧ r.2.length = 2
  | 0, _, _, e => by cases e
  | n + 1, _, _, e => runF_len e
def m__law_value_8 : List O → Option (O × List O) := m__law_value 8
theorem m_len__law_value_8 {os : List O} {r : O × List O} (e : m__law_value_8 os = some r) : os.length = 2 ∧ r.2.length = 2 := m_len__law_value 8 e
abbrev s_law : Stmt := topS 18
abbrev N_law : List Str := ["script", "box", "turn", "value", "k", "text"]
theorem sc_law : FnScope N_law ["script"] (defScope s_law) := ⟨rfl, rfl, rfl, by decide +kernel, rfl, by decide +kernel, by decide +kernel⟩
noncomputable def b_law_2 (C_Reader : Addr) : XS :=
  (sAsg (xTup (aCons (oE (eVar 3)) aNil)) (gN 3))
noncomputable def b_law_1 (C_Reader : Addr) : XS :=
  (sSeq (sAsg (xCall m__law_value_8 (aCons (oVar 1) (aCons (oE (eC (.int 4))) aNil))) (gN 3))
    (sSeq (sFor (iR1 (oE (xIx dIx oIx (oE (xLst (aCons (oE (eC (.int 0))) (aCons (oE (eC (.int 0))) (aCons (oE (eC (.int 0))) (aCons (oE (eC (.int 36))) aNil)))))) (oE (xCall m__law_draw (aCons (oVar 1) (aCons (oE (eC (.int 4))) aNil))))))) (gN 4) (b_law_2 C_Reader))
    (sSeq (sAsg (xCall m__law_plain_60 (aCons (oVar 3) aNil)) (gN 5))
    (sIf (xOr (xNot (xTru (oE (xCall m__law_same_60 (aCons (oE (xCall m_show_plain_60 (aCons (oVar 3) aNil))) (aCons (oVar 5) aNil)))))) (xNot (xTru (oE (xCall m__law_same_60 (aCons (oE (xCall (m_read_plain C_Reader) (aCons (oVar 5) aNil))) (aCons (oVar 3) aNil))))))) (sRet (eC (.bl false))) sNext))))
noncomputable def b_law (C_Reader : Addr) : XS :=
  (sSeq (sAsg (xLst (aCons (oE (xCall m__law_digits (aCons (oVar 0) (aCons (oE (eC (.int 0))) (aCons (oE (eC (.int 63))) aNil))))) (aCons (oE (eC (.int 0))) aNil))) (gN 1))
    (sSeq (sFor (iR1 (oE (eC (.int 6)))) (gN 2) (b_law_1 C_Reader))
    (sRet (eC (.bl true)))))
noncomputable def m_law (C_Reader : Addr) : List O → Option (O × List O) := runF 6 1 [0] (b_law C_Reader)
theorem m_len_law (C_Reader : Addr) {os : List O} {r : O × List O} (e : m_law C_Reader os = some r) : os.length = 1 ∧ r.2.length = 1 := runF_len e
structure Txt (K : PySem.W.Frag) (w : World) (mg : Str → Option Value) where
  c_Reader : ClAt K mg "Reader"
  n_Reader_signs : NoAttr K c_Reader.C "signs"
  n_Reader_veiled : NoAttr K c_Reader.C "veiled"
  d_show_plain : FnAt K mg "show_plain" (topS 8) ["value"]
  d_Reader_string : MtAt K c_Reader.C "string" "Reader.string" (L2.inClass (topS 10) 3) ["self", "at"]
  d_Reader_integer : MtAt K c_Reader.C "integer" "Reader.integer" (L2.inClass (topS 10) 5) ["self", "at"]
  d_Reader_value : MtAt K c_Reader.C "value" "Reader.value" (L2.inClass (topS 10) 1) ["self", "at", "depth"]
  d_Reader_row : MtAt K c_Reader.C "row" "Reader.row" (L2.inClass (topS 10) 2) ["self", "at", "depth"]
  d_Reader___init__ : MtAt K c_Reader.C "__init__" "Reader.__init__" (L2.inClass (topS 10) 0) ["self", "text"]
  d_read_plain : FnAt K mg "read_plain" (topS 9) ["text"]
  d__law_cell : FnAt K mg "_law_cell" (topS 12) ["script", "k"]
  d__law_digits : FnAt K mg "_law_digits" (topS 13) ["script", "first", "last"]
  d__law_draw : FnAt K mg "_law_draw" (topS 14) ["box", "many"]
  d__law_same : FnAt K mg "_law_same" (topS 15) ["actual", "due"]
  d__law_plain : FnAt K mg "_law_plain" (topS 16) ["value"]
  d__law_value : FnAt K mg "_law_value" (topS 17) ["box", "deep"]
  d_law : FnAt K mg "law" (topS 18) ["script"]
  z_bool : mg "bool" = none
  z_int : mg "int" = none
  z_isinstance : mg "isinstance" = none
  z_len : mg "len" = none
  z_range : mg "range" = none
  z_str : mg "str" = none
  z_tuple : mg "tuple" = none
  i_DEEPEST : ∃ t, mg "DEEPEST" = some (.int 40 t)
  i_MOST_DIGITS : ∃ t, mg "MOST_DIGITS" = some (.int 2000 t)
  s_DIGITS : ∃ t, mg "DIGITS" = some (.str (PySem.Str.ofString "0123456789") t)
  k_WORDS : KTab K w mg "WORDS" [(PySem.Str.ofString "T", .bl true), (PySem.Str.ofString "F", .bl false), (PySem.Str.ofString "N", .non)]
section
variable {P : Program} {w : World} {K : PySem.W.Frag} {mg : Str → Option Value} {base : Heap}
theorem ok_show_plain (T : Txt K w mg) : ∀ n : Nat, FnOk P w K mg base CX0 (n + 0) T.d_show_plain.f T.d_show_plain.fd ["value"] (spM K 1 (m_show_plain n))
  | 0 => FnOk.no
  | n + 1 => by
    have G := ok_show_plain T n
    refine ok_fnT (N := N_show_plain) (ps := ["value"]) (k := n + 0) (pin := [0]) (body := b_show_plain (fun _ => m_show_plain n) n) T.d_show_plain.F sc_show_plain (by decide) (by decide +kernel) (by decide) fun cdv A outer s H E hr => ?_
    have hu : _ < _ := hu_of hr
    have hu64 := hr.units
    refine ⟨_, (psst_cons (CwR.pst_if (pt_truth (pe_callB call_isi (by rfl) T.z_isinstance (by decide +kernel) (pa_cons (pv 0) (pa_cons (pe_bltn (v := .ty "str") (u := .type "str") (by rfl) T.z_str (by decide +kernel) rfl) pa_nil))) (by intro _; rfl)) (CwR.psst_one (CwR.pst_ret (CwR.pet_op op_addAll (CwR.pet_op op_addAll (CwR.PET.of pe_str) (CwR.pet_replT (y := (PySem.Str.ofString "\n")) (z := (PySem.Str.ofString "\\n")) (CwR.pet_replT (y := (PySem.Str.ofString "\"")) (z := (PySem.Str.ofString "\\\"")) (CwR.pet_replT (y := (PySem.Str.ofString "\\")) (z := (PySem.Str.ofString "\\\\")) (CwR.PET.of (pv 0)) (by decide +kernel)) (by decide +kernel)) (by decide +kernel))) (CwR.PET.of pe_str)))) CwR.psst_nil)
    (psst_cons (PST.of (ps_if (pt_truth (pe_callB call_isi (by rfl) T.z_isinstance (by decide +kernel) (pa_cons (pv 0) (pa_cons (pe_bltn (v := .ty "tuple") (u := .type "tuple") (by rfl) T.z_tuple (by decide +kernel) rfl) pa_nil))) (by intro _; rfl)) (pss_one (ps_ret (pe_op op_addAll (pe_op op_addAll pe_str (pe_bm PySem.F.plainAttrs_str PySem.F.slot_str_join PySem.F.type_str_join mt_joinK pe_str (pa_cons (pe_lcM (own := [("member", 1)]) rfl sc_show_plain.nd (pi_seq (pv 0)) (blkOk_by (own := [("member", 1)]) (N := N_show_plain) (sc := (defScope s_show_plain)) (by decide +kernel)) (fun _ _ _ _ _ => (pg_name (i := 1) sc_show_plain.nd rfl (Or.inl rfl))) (fun _ _ _ _ _ => pts_nil) (fun _ _ _ _ _ => (pe_call G (hr.mono (by first | decide | omega)) rfl T.d_show_plain.g T.d_show_plain.F.kp T.d_show_plain.b .nil pass0 (pa_cons (pv 1) pa_nil))) (fun _ _ _ _ _ => rfl) (fun _ _ _ _ _ => rfl) (fun _ _ _ _ _ => rfl)) pa_nil))) pe_str))) pss_nil))
    (psst_cons (PST.of (ps_if (pt_cmpR op_isN (pv 0) pe_non (nomark _)) (pss_one (ps_ret pe_str)) pss_nil))
    (psst_cons (PST.of (ps_if (pt_cmpR op_isBl1 (pv 0) pe_bl (nomark _)) (pss_one (ps_ret pe_str)) pss_nil))
    (psst_cons (PST.of (ps_if (pt_cmpR op_isBl1 (pv 0) pe_bl (nomark _)) (pss_one (ps_ret pe_str)) pss_nil))
    (CwR.psst_one (PST.of (ps_ret (pe_callTy call_strOf (by rfl) T.z_str (by decide +kernel) (pa_cons (pv 0) pa_nil)))))))))), fun B hK hp => ?_⟩
    subst hK
    exact (ss_seq (ss_if (st_tru (so_e (se_isi isTy_str so_var))) (ss_ret (se_a2 a2_add (so_e (se_a2 a2_add (so_e se_str) (so_e (se_repl (so_e (se_repl (so_e (se_repl (so_e se_var))))))))) (so_e se_str))) ss_next)
    (ss_seq (ss_if (st_tru (so_e (se_isi isTy_tup so_var))) (ss_ret (se_a2 a2_add (so_e (se_a2 a2_add (so_e se_str) (so_e (se_ms ms_join (so_e se_str) (sa_cons (so_e (se_lc (vs := [1]) (by rw [hp]; decide) (si_seq (so_e se_var)) (sgw_name (by rw [hp]; decide) (by decide)) st_yes (se_call (sa_cons so_var sa_nil) (fun os r e => m_len_show_plain n e)))) sa_nil))))) (so_e se_str))) ss_next)
    (ss_seq (ss_if (st_test (so_e (se_s2 s2_isN so_var (so_e se_non)))) (ss_ret se_str) ss_next)
    (ss_seq (ss_if (st_test (so_e (se_s2 s2_isB so_var (so_e se_bl)))) (ss_ret se_str) ss_next)
    (ss_seq (ss_if (st_test (so_e (se_s2 s2_isB so_var (so_e se_bl)))) (ss_ret se_str) ss_next)
    (ss_ret (se_sn sn_strOf (sa_cons so_var sa_nil))))))))
theorem ok_show_plain_60 (T : Txt K w mg) : FnOk P w K mg base CX0 60 T.d_show_plain.f T.d_show_plain.fd ["value"] (spM K 1 m_show_plain_60) := ok_show_plain T 60
theorem ok_Reader_string (T : Txt K w mg) : FnOk P w K mg base CX0 1 T.d_Reader_string.f T.d_Reader_string.fd ["self", "at"] (spM K 2 (m_Reader_string T.c_Reader.C)) := by
    refine ok_fnT (N := N_Reader_string) (ps := ["self", "at"]) (k := 0) (pin := [0, 1]) (body := b_Reader_string T.c_Reader.C) T.d_Reader_string.F sc_Reader_string (by decide) (by decide +kernel) (by decide) fun cdv A outer s H E hr => ?_
    have hu : _ < _ := hu_of hr
    have hu64 := hr.units
    refine ⟨_, (psst_cons (PST.of (ps_set (i := 2) sc_Reader_string.nd rfl (Or.inl rfl) (pe_bm PySem.F.plainAttrs_str PySem.F.slot_str_find PySem.F.type_str_find mt_find3 (pe_fld (pv 0) rfl) (pa_cons pe_str (pa_cons (pv 1) pa_nil)))))
    (psst_cons (PST.of (ps_set (i := 3) sc_Reader_string.nd rfl (Or.inl rfl) (pe_ifExp (pt_cmpR op_ltIS (pv 2) pe_int (nomark _)) (pe_callB call_lenAll (by rfl) T.z_len (by decide +kernel) (pa_cons (pe_fld (pv 0) rfl) pa_nil)) (pv 2))))
    (psst_cons (PST.of (ps_set (i := 4) sc_Reader_string.nd rfl (Or.inl rfl) (pe_slice sl_all (pe_fld (pv 0) rfl) (po_some (pv 1)) (po_some (pv 3)))))
    (psst_cons (PST.of (ps_set (i := 5) sc_Reader_string.nd rfl (Or.inl rfl) (pe_bm PySem.F.plainAttrs_str PySem.F.slot_str_find PySem.F.type_str_find mt_find4 (pe_fld (pv 0) rfl) (pa_cons pe_str (pa_cons (pv 1) (pa_cons (pv 3) pa_nil))))))
    (psst_cons (PST.of (ps_if (PW.pt (pw_or (pt_cmpR op_geIS (pv 5) pe_int (nomark _)) (pw_or (pt_not (pt_truth (pe_bm0 PySem.F.plainAttrs_str PySem.F.slot_str_isascii PySem.F.type_str_isascii mt_isascii (pv 4)) (by intro _; rfl))) (pw_or1 (pt_not (pt_truth (pe_bm0 PySem.F.plainAttrs_str PySem.F.slot_str_isprintable PySem.F.type_str_isprintable mt_isprintable (pv 4)) (by intro _; rfl))))))) (pss_one ps_no) pss_nil))
    (psst_cons (PST.of (ps_if (pt_cmpR op_ltIS (pv 2) pe_int (nomark _)) (pss_one ps_no) pss_nil))
    (psst_cons (CwR.pst_if (pt_cmpR op_in1 pe_str (pv 4) (by rfl)) (CwR.psst_one (pst_set (i := 4) sc_Reader_string.nd rfl (Or.inl rfl) (CwR.pet_replT (y := (PySem.Str.ofString "\t")) (z := (PySem.Str.ofString "\\")) (CwR.pet_replT (y := (PySem.Str.ofString "\\n")) (z := (PySem.Str.ofString "\n")) (CwR.pet_replT (y := (PySem.Str.ofString "\\\"")) (z := (PySem.Str.ofString "\"")) (CwR.pet_replT (y := (PySem.Str.ofString "\\\\")) (z := (PySem.Str.ofString "\t")) (CwR.PET.of (pv 4)) (by decide +kernel)) (by decide +kernel)) (by decide +kernel)) (by decide +kernel)))) CwR.psst_nil)
    (CwR.psst_one (PST.of (ps_ret (pe_tup (pa_cons (pv 4) (pa_cons (pe_op op_addAll (pv 2) pe_int) pa_nil))))))))))))), fun B hK hp => ?_⟩
    subst hK
    exact (ss_seq (ss_asg (se_ms ms_i1I (so_e (se_fld T.c_Reader.cl T.n_Reader_veiled so_var)) (sa_cons (so_e se_str) (sa_cons so_var sa_nil))) (sg_name (by rw [hp]; decide)))
    (ss_seq (ss_asg (se_if (st_test (so_e (se_s2 s2_lt so_var (so_e se_int)))) (se_sn sn_len (sa_cons (so_e (se_fld T.c_Reader.cl T.n_Reader_signs so_var)) sa_nil)) se_var) (sg_name (by rw [hp]; decide)))
    (ss_seq (ss_asg (se_sl (so_e (se_fld T.c_Reader.cl T.n_Reader_signs so_var)) (sp_ex so_var) (sp_ex so_var)) (sg_name (by rw [hp]; decide)))
    (ss_seq (ss_asg (se_ms ms_i1II (so_e (se_fld T.c_Reader.cl T.n_Reader_veiled so_var)) (sa_cons (so_e se_str) (sa_cons so_var (sa_cons so_var sa_nil)))) (sg_name (by rw [hp]; decide)))
    (ss_seq (ss_if (st_or (st_test (so_e (se_s2 s2_ge so_var (so_e se_int)))) (st_or (st_not (st_tru (so_e (se_ms0 ms_b0 (so_e se_var))))) (st_not (st_tru (so_e (se_ms0 ms_b0 (so_e se_var))))))) ss_no ss_next)
    (ss_seq (ss_if (st_test (so_e (se_s2 s2_lt so_var (so_e se_int)))) ss_no ss_next)
    (ss_seq (ss_if (st_test (so_e (se_s2 s2_inS (so_e se_str) so_var))) (ss_asg (se_repl (so_e (se_repl (so_e (se_repl (so_e (se_repl (so_e se_var)))))))) (sg_name (by rw [hp]; decide))) ss_next)
    (ss_ret (se_tup (sa_cons (so_e se_var) (sa_cons (so_e (se_a2 a2_add (so_e se_var) (so_e se_int))) sa_nil)))))))))))
theorem ok_Reader_integer (T : Txt K w mg) : FnOk P w K mg base CX0 1 T.d_Reader_integer.f T.d_Reader_integer.fd ["self", "at"] (spM K 2 (m_Reader_integer T.c_Reader.C)) := by
    refine ok_fn (N := N_Reader_integer) (ps := ["self", "at"]) (k := 0) (pin := [0, 1]) (body := b_Reader_integer T.c_Reader.C) T.d_Reader_integer.F sc_Reader_integer (by decide) fun cdv A outer s H E hr => ?_
    have hu : _ < _ := hu_of hr
    have hu64 := hr.units
    refine ⟨_, (pss_cons (ps_set (i := 2) sc_Reader_integer.nd rfl (Or.inl rfl) (pe_ifExp (pt_truth (pe_bm PySem.F.plainAttrs_str PySem.F.slot_str_startswith PySem.F.type_str_startswith mt_startswith3 (pe_fld (pv 0) rfl) (pa_cons pe_str (pa_cons (pv 1) pa_nil))) (by intro _; rfl)) (pe_op op_addAll (pv 1) pe_int) (pv 1)))
    (pss_cons (ps_set (i := 3) sc_Reader_integer.nd rfl (Or.inl rfl) (pe_slice sl_all (pe_fld (pv 0) rfl) (po_some (pv 2)) (po_some (pe_op op_addAll (pe_op op_addAll (pv 2) (pe_glob (v := .int 2000) rfl T.i_MOST_DIGITS.choose_spec ⟨_, rfl⟩)) pe_int))))
    (pss_cons (ps_set (i := 4) sc_Reader_integer.nd rfl (Or.inl rfl) (pe_op op_sub (pe_callB call_lenAll (by rfl) T.z_len (by decide +kernel) (pa_cons (pv 3) pa_nil)) (pe_callB call_lenAll (by rfl) T.z_len (by decide +kernel) (pa_cons (pe_bm PySem.F.plainAttrs_str PySem.F.slot_str_lstrip PySem.F.type_str_lstrip mt_lstripChars (pv 3) (pa_cons (pe_glob (v := .str (PySem.Str.ofString "0123456789")) rfl T.s_DIGITS.choose_spec ⟨_, rfl⟩) pa_nil)) pa_nil))))
    (pss_cons (ps_if (pt_cmpR (op_eqAll hu64) (pv 4) pe_int (nomark _)) (pss_one ps_no) pss_nil)
    (pss_cons (ps_if (PW.pt (pw_and (pt_cmpR (op_eqAll hu64) (pe_ix (ix_all hu) (pv 3) pe_int (fun _ _ => rfl)) pe_str (nomark _)) (pw_and1 (pt_cmpR op_gtIS (pv 2) (pv 1) (nomark _))))) (pss_one ps_no) pss_nil)
    (pss_cons (ps_if (PW.pt (pw_and (pt_cmpR (op_eqAll hu64) (pe_ix (ix_all hu) (pv 3) pe_int (fun _ _ => rfl)) pe_str (nomark _)) (pw_and1 (pt_cmpR op_gtIS (pv 4) pe_int (nomark _))))) (pss_one ps_no) pss_nil)
    (pss_cons (ps_if (pt_cmpR op_gtIS (pv 4) (pe_glob (v := .int 2000) rfl T.i_MOST_DIGITS.choose_spec ⟨_, rfl⟩) (nomark _)) (pss_one ps_no) pss_nil)
    (pss_one (ps_ret (pe_tup (pa_cons (pe_callTy call_intOf (by rfl) T.z_int (by decide +kernel) (pa_cons (pe_slice sl_all (pe_fld (pv 0) rfl) (po_some (pv 1)) (po_some (pe_op op_addAll (pv 2) (pv 4)))) pa_nil)) (pa_cons (pe_op op_addAll (pv 2) (pv 4)) pa_nil)))))))))))), fun B hK hp => ?_⟩
    subst hK
    exact (ss_seq (ss_asg (se_if (st_tru (so_e (se_ms ms_b1I (so_e (se_fld T.c_Reader.cl T.n_Reader_signs so_var)) (sa_cons (so_e se_str) (sa_cons so_var sa_nil))))) (se_a2 a2_add (so_e se_var) (so_e se_int)) se_var) (sg_name (by rw [hp]; decide)))
    (ss_seq (ss_asg (se_sl (so_e (se_fld T.c_Reader.cl T.n_Reader_signs so_var)) (sp_ex so_var) (sp_ex (so_e (se_a2 a2_add (so_e (se_a2 a2_add (so_e se_var) (so_e se_int))) (so_e se_int))))) (sg_name (by rw [hp]; decide)))
    (ss_seq (ss_asg (se_s2 s2_sub (so_e (se_sn sn_len (sa_cons so_var sa_nil))) (so_e (se_sn sn_len (sa_cons (so_e (se_ms ms_s1 (so_e se_var) (sa_cons (so_e se_str) sa_nil))) sa_nil)))) (sg_name (by rw [hp]; decide)))
    (ss_seq (ss_if (st_test (so_e (se_s2 s2_eq so_var (so_e se_int)))) ss_no ss_next)
    (ss_seq (ss_if (st_and (st_test (so_e (se_s2 s2_eq (so_e (se_ix ixOk_all ixOw_all so_var (so_e se_int))) (so_e se_str)))) (st_test (so_e (se_s2 s2_gt so_var so_var)))) ss_no ss_next)
    (ss_seq (ss_if (st_and (st_test (so_e (se_s2 s2_eq (so_e (se_ix ixOk_all ixOw_all so_var (so_e se_int))) (so_e se_str)))) (st_test (so_e (se_s2 s2_gt so_var (so_e se_int))))) ss_no ss_next)
    (ss_seq (ss_if (st_test (so_e (se_s2 s2_gt so_var (so_e se_int)))) ss_no ss_next)
    (ss_ret (se_tup (sa_cons (so_e (se_sn sn_intOf (sa_cons (so_e (se_sl (so_e (se_fld T.c_Reader.cl T.n_Reader_signs so_var)) (sp_ex so_var) (sp_ex (so_e (se_a2 a2_add (so_e se_var) (so_e se_var)))))) sa_nil))) (sa_cons (so_e (se_a2 a2_add (so_e se_var) (so_e se_var))) sa_nil)))))))))))
theorem okg_Reader_value_Reader_row (T : Txt K w mg) : ∀ n : Nat, FnOk P w K mg base CX0 (n + 1) T.d_Reader_value.f T.d_Reader_value.fd ["self", "at", "depth"] (spM K 3 (m_Reader_value T.c_Reader.C n)) ∧ FnOk P w K mg base CX0 (n + 1) T.d_Reader_row.f T.d_Reader_row.fd ["self", "at", "depth"] (spM K 3 (m_Reader_row T.c_Reader.C n))
  | 0 => by
    refine ⟨?_, ?_⟩
    · rw [m_Reader_value]; exact FnOk.no
    · rw [m_Reader_row]; exact FnOk.no
  | n + 1 => by
    obtain ⟨G0, G1⟩ := okg_Reader_value_Reader_row T n
    refine ⟨?_, ?_⟩
    · rw [m_Reader_value]
      refine ok_fn (N := N_Reader_value) (ps := ["self", "at", "depth"]) (k := n + 1) (pin := [0, 1, 2]) (body := b_Reader_value T.c_Reader.C (m_Reader_value T.c_Reader.C n) (m_Reader_row T.c_Reader.C n)) T.d_Reader_value.F sc_Reader_value (by decide) fun cdv A outer s H E hr => ?_
      have hu : _ < _ := hu_of hr
      have hu64 := hr.units
      refine ⟨_, (pss_cons (ps_set (i := 3) sc_Reader_value.nd rfl (Or.inl rfl) (pe_slice sl_all (pe_fld (pv 0) rfl) (po_some (pv 1)) (po_some (pe_op op_addAll (pv 1) pe_int))))
      (pss_cons (ps_if (pt_cmpR (op_eqAll hu64) (pv 3) pe_str (nomark _)) (pss_one (ps_ret (pe_meth (pv 0) T.c_Reader.cl T.d_Reader_string.m (ok_Reader_string T) (hr.mono (by first | decide | omega)) T.d_Reader_string.b .nil pass0 (pa_cons (pe_op op_addAll (pv 1) pe_int) pa_nil)))) pss_nil)
      (pss_cons (ps_if (pt_cmpR (op_eqAll hu64) (pv 3) pe_str (nomark _)) (pss_cons (ps_if (pt_cmpR (op_eqAll hu64) (pv 2) (pe_glob (v := .int 40) rfl T.i_DEEPEST.choose_spec ⟨_, rfl⟩) (nomark _)) (pss_one ps_no) pss_nil)
      (pss_one (ps_ret (pe_meth (pv 0) T.c_Reader.cl T.d_Reader_row.m G1 (hr.mono (by first | decide | omega)) T.d_Reader_row.b .nil pass0 (pa_cons (pe_op op_addAll (pv 1) pe_int) (pa_cons (pe_op op_addAll (pv 2) pe_int) pa_nil)))))) pss_nil)
      (pss_cons (ps_if (pt_cmpR (op_inK T.k_WORDS) (pv 3) (pe_glob (v := .ref T.k_WORDS.d) rfl T.k_WORDS.g rfl) (by rfl)) (pss_one (ps_ret (pe_tup (pa_cons (pe_ix ix_kdict (pe_glob (v := .ref T.k_WORDS.d) rfl T.k_WORDS.g rfl) (pv 3) (fun _ _ => rfl)) (pa_cons (pe_op op_addAll (pv 1) pe_int) pa_nil))))) pss_nil)
      (pss_one (ps_ret (pe_meth (pv 0) T.c_Reader.cl T.d_Reader_integer.m (ok_Reader_integer T) (hr.mono (by first | decide | omega)) T.d_Reader_integer.b .nil pass0 (pa_cons (pv 1) pa_nil)))))))), fun B hK hp => ?_⟩
      subst hK
      exact (ss_seq (ss_asg (se_sl (so_e (se_fld T.c_Reader.cl T.n_Reader_signs so_var)) (sp_ex so_var) (sp_ex (so_e (se_a2 a2_add (so_e se_var) (so_e se_int))))) (sg_name (by rw [hp]; decide)))
      (ss_seq (ss_if (st_test (so_e (se_s2 s2_eq so_var (so_e se_str)))) (ss_ret (se_meth so_var (sa_cons (so_e (se_a2 a2_add (so_e se_var) (so_e se_int))) sa_nil) (fun os r e => m_len_Reader_string T.c_Reader.C e))) ss_next)
      (ss_seq (ss_if (st_test (so_e (se_s2 s2_eq so_var (so_e se_str)))) (ss_seq (ss_if (st_test (so_e (se_s2 s2_eq so_var (so_e se_int)))) ss_no ss_next)
      (ss_ret (se_meth so_var (sa_cons (so_e (se_a2 a2_add (so_e se_var) (so_e se_int))) (sa_cons (so_e (se_a2 a2_add (so_e se_var) (so_e se_int))) sa_nil)) (fun os r e => m_len_Reader_row T.c_Reader.C n e)))) ss_next)
      (ss_seq (ss_if (st_test (so_e (se_inK T.k_WORDS so_var))) (ss_ret (se_tup (sa_cons (so_e (se_ixK T.k_WORDS so_var)) (sa_cons (so_e (se_a2 a2_add (so_e se_var) (so_e se_int))) sa_nil)))) ss_next)
      (ss_ret (se_meth so_var (sa_cons so_var sa_nil) (fun os r e => m_len_Reader_integer T.c_Reader.C e)))))))
    · rw [m_Reader_row]
      refine ok_fn (N := N_Reader_row) (ps := ["self", "at", "depth"]) (k := n + 1) (pin := [0, 2]) (body := b_Reader_row T.c_Reader.C (m_Reader_value T.c_Reader.C n) (m_Reader_row T.c_Reader.C n)) T.d_Reader_row.F sc_Reader_row (by decide) fun cdv A outer s H E hr => ?_
      have hu : _ < _ := hu_of hr
      have hu64 := hr.units
      refine ⟨_, (pss_cons (ps_if (pt_truth (pe_bm PySem.F.plainAttrs_str PySem.F.slot_str_startswith PySem.F.type_str_startswith mt_startswith3 (pe_fld (pv 0) rfl) (pa_cons pe_str (pa_cons (pv 1) pa_nil))) (by intro _; rfl)) (pss_one (ps_ret (pe_tup (pa_cons (pe_tup pa_nil) (pa_cons (pe_op op_addAll (pv 1) pe_int) pa_nil))))) pss_nil)
      (pss_cons (ps_set (i := 3) sc_Reader_row.nd rfl (Or.inl rfl) (pe_lst pa_nil))
      (pss_one (ps_while PassesOwn.never (pt_truth pe_bl (by intro _; rfl)) (pss_cons (ps_asg (pe_meth (pv 0) T.c_Reader.cl T.d_Reader_value.m G0 (hr.mono (by first | decide | omega)) T.d_Reader_value.b .nil pass0 (pa_cons (pv 1) (pa_cons (pv 2) pa_nil))) (pg_tup rfl (pgs_cons (pg_name (i := 4) sc_Reader_row.nd rfl (Or.inl rfl)) (pgs_cons (pg_name (i := 1) sc_Reader_row.nd rfl (Or.inl rfl)) pgs_nil))))
      (pss_cons (ps_expr (pe_bm PySem.F.plainAttrs_list PySem.F.slot_list_append PySem.F.type_list_append mt_append (pv 3) (pa_cons (pv 4) pa_nil)))
      (pss_cons (ps_set (i := 5) sc_Reader_row.nd rfl (Or.inl rfl) (pe_slice sl_all (pe_fld (pv 0) rfl) (po_some (pv 1)) (po_some (pe_op op_addAll (pv 1) pe_int))))
      (pss_cons (ps_if (pt_cmpR (op_eqAll hu64) (pv 5) pe_str (nomark _)) (pss_one (ps_ret (pe_tup (pa_cons (pe_callTy call_tupOf (by rfl) T.z_tuple (by decide +kernel) (pa_cons (pv 3) pa_nil)) (pa_cons (pe_op op_addAll (pv 1) pe_int) pa_nil))))) pss_nil)
      (pss_cons (ps_if (pt_cmpR (op_neAll hu64) (pv 5) pe_str (nomark _)) (pss_one ps_no) pss_nil)
      (pss_one (ps_aug (i := 1) sc_Reader_row.nd rfl (Or.inl rfl) pe_int ip_add))))))))))), fun B hK hp => ?_⟩
      subst hK
      exact (ss_seq (ss_if (st_tru (so_e (se_ms ms_b1I (so_e (se_fld T.c_Reader.cl T.n_Reader_signs so_var)) (sa_cons (so_e se_str) (sa_cons so_var sa_nil))))) (ss_ret (se_tup (sa_cons (so_e (se_tup sa_nil)) (sa_cons (so_e (se_a2 a2_add (so_e se_var) (so_e se_int))) sa_nil)))) ss_next)
      (ss_seq (ss_asg (se_lst sa_nil) (sg_name (by rw [hp]; decide)))
      (ss_while (st_tru (so_e se_bl)) (ss_seq (ss_asg (se_meth so_var (sa_cons so_var (sa_cons so_var sa_nil)) (fun os r e => m_len_Reader_value T.c_Reader.C n e)) (sg_tup (n := 2) (sgs_cons (sg_name (by rw [hp]; decide)) (sgs_cons (sg_name (by rw [hp]; decide)) sgs_nil))))
      (ss_seq (ss_drop (se_app se_var))
      (ss_seq (ss_asg (se_sl (so_e (se_fld T.c_Reader.cl T.n_Reader_signs so_var)) (sp_ex so_var) (sp_ex (so_e (se_a2 a2_add (so_e se_var) (so_e se_int))))) (sg_name (by rw [hp]; decide)))
      (ss_seq (ss_if (st_test (so_e (se_s2 s2_eq so_var (so_e se_str)))) (ss_ret (se_tup (sa_cons (so_e (se_an an_tupOf (sa_cons (so_e se_var) sa_nil))) (sa_cons (so_e (se_a2 a2_add (so_e se_var) (so_e se_int))) sa_nil)))) ss_next)
      (ss_seq (ss_if (st_test (so_e (se_s2 s2_ne so_var (so_e se_str)))) ss_no ss_next)
      (ss_aug (by rw [hp]; decide) ip2_add (so_e se_int))))))))))
theorem ok_Reader_value_90 (T : Txt K w mg) : FnOk P w K mg base CX0 91 T.d_Reader_value.f T.d_Reader_value.fd ["self", "at", "depth"] (spM K 3 (m_Reader_value T.c_Reader.C 90)) := (okg_Reader_value_Reader_row T 90).1
theorem ok_Reader_row_90 (T : Txt K w mg) : FnOk P w K mg base CX0 91 T.d_Reader_row.f T.d_Reader_row.fd ["self", "at", "depth"] (spM K 3 (m_Reader_row T.c_Reader.C 90)) := (okg_Reader_value_Reader_row T 90).2

theorem ok_Reader___init__ (T : Txt K w mg) : FnOk P w K mg base CX0 1 T.d_Reader___init__.f T.d_Reader___init__.fd ["self", "text"] (spM K 2 (m_Reader___init__ T.c_Reader.C)) := by
    refine ok_fnT (N := N_Reader___init__) (ps := ["self", "text"]) (k := 0) (pin := [0, 1]) (body := b_Reader___init__ T.c_Reader.C) T.d_Reader___init__.F sc_Reader___init__ (by decide) (by decide +kernel) (by decide) fun cdv A outer s H E hr => ?_
    have hu : _ < _ := hu_of hr
    have hu64 := hr.units
    refine ⟨_, (psst_cons (PST.of (ps_fld (pv 0) (pv 1) rfl))
    (CwR.psst_one (pst_fld (pv 0) (CwR.pet_replT (y := (PySem.Str.ofString "\\n")) (z := (PySem.Str.ofString "\t\t")) (CwR.pet_replT (y := (PySem.Str.ofString "\\\"")) (z := (PySem.Str.ofString "\t\t")) (CwR.pet_replT (y := (PySem.Str.ofString "\\\\")) (z := (PySem.Str.ofString "\t\t")) (CwR.PET.of (pv 1)) (by decide +kernel)) (by decide +kernel)) (by decide +kernel)) rfl))), fun B hK hp => ?_⟩
    subst hK
    exact (ss_seq (ss_fldO T.c_Reader.cl T.n_Reader_signs se_var)
    (ss_fldO T.c_Reader.cl T.n_Reader_veiled (se_repl (so_e (se_repl (so_e (se_repl (so_e se_var))))))))
theorem ok_read_plain (T : Txt K w mg) : FnOk P w K mg base CX0 92 T.d_read_plain.f T.d_read_plain.fd ["text"] (spM K 1 (m_read_plain T.c_Reader.C)) := by
    refine ok_fn (N := N_read_plain) (ps := ["text"]) (k := 91) (pin := [0]) (body := b_read_plain T.c_Reader.C) T.d_read_plain.F sc_read_plain (by decide) fun cdv A outer s H E hr => ?_
    have hu : _ < _ := hu_of hr
    have hu64 := hr.units
    refine ⟨_, (pss_cons (ps_asg (pe_meth (pe_make ⟨T.c_Reader.mks, T.d_Reader___init__.m.at_, T.d_Reader___init__.m.fn, T.c_Reader.kp⟩ (ok_Reader___init__ T) (hr.mono (by first | decide | omega)) rfl T.c_Reader.g T.d_Reader___init__.b .nil pass0 (pa_cons (pv 0) pa_nil)) T.c_Reader.cl T.d_Reader_value.m (ok_Reader_value_90 T) (hr.mono (by first | decide | omega)) T.d_Reader_value.b .nil pass0 (pa_cons pe_int (pa_cons pe_int pa_nil))) (pg_tup rfl (pgs_cons (pg_name (i := 1) sc_read_plain.nd rfl (Or.inl rfl)) (pgs_cons (pg_name (i := 2) sc_read_plain.nd rfl (Or.inl rfl)) pgs_nil))))
    (pss_cons (ps_if (pt_cmpR op_ltIS (pv 2) (pe_callB call_lenAll (by rfl) T.z_len (by decide +kernel) (pa_cons (pv 0) pa_nil)) (nomark _)) (pss_one ps_no) pss_nil)
    (pss_one (ps_ret (pv 1))))), fun B hK hp => ?_⟩
    subst hK
    exact (ss_seq (ss_asg (se_meth (so_e (se_make (sa_cons so_var sa_nil) (fun os r e => m_len_Reader___init__ T.c_Reader.C e))) (sa_cons (so_e se_int) (sa_cons (so_e se_int) sa_nil)) (fun os r e => m_len_Reader_value_90 T.c_Reader.C e)) (sg_tup (n := 2) (sgs_cons (sg_name (by rw [hp]; decide)) (sgs_cons (sg_name (by rw [hp]; decide)) sgs_nil))))
    (ss_seq (ss_if (st_test (so_e (se_s2 s2_lt so_var (so_e (se_sn sn_len (sa_cons so_var sa_nil)))))) ss_no ss_next)
    (ss_ret se_move)))
theorem ok__law_cell (T : Txt K w mg) : FnOk P w K mg base CX0 1 T.d__law_cell.f T.d__law_cell.fd ["script", "k"] (spM K 2 m__law_cell) := by
    refine ok_fn (N := N__law_cell) (ps := ["script", "k"]) (k := 0) (pin := [0, 1]) (body := b__law_cell) T.d__law_cell.F sc__law_cell (by decide) fun cdv A outer s H E hr => ?_
    have hu : _ < _ := hu_of hr
    have hu64 := hr.units
    refine ⟨_, (pss_cons (ps_if (pt_cmpR op_ltIS (pv 1) (pe_callB call_lenAll (by rfl) T.z_len (by decide +kernel) (pa_cons (pv 0) pa_nil)) (nomark _)) (pss_one (ps_ret (pe_ix (ix_all hu) (pv 0) (pv 1) (fun _ _ => rfl)))) pss_nil)
    (pss_one (ps_ret pe_int))), fun B hK hp => ?_⟩
    subst hK
    exact (ss_seq (ss_if (st_test (so_e (se_s2 s2_lt so_var (so_e (se_sn sn_len (sa_cons so_var sa_nil)))))) (ss_ret (se_ix ixOk_all ixOw_all so_var so_var)) ss_next)
    (ss_ret se_int))
theorem ok__law_digits (T : Txt K w mg) : FnOk P w K mg base CX0 2 T.d__law_digits.f T.d__law_digits.fd ["script", "first", "last"] (spM K 3 m__law_digits) := by
    refine ok_fn (N := N__law_digits) (ps := ["script", "first", "last"]) (k := 1) (pin := [0, 1, 2]) (body := b__law_digits) T.d__law_digits.F sc__law_digits (by decide) fun cdv A outer s H E hr => ?_
    have hu : _ < _ := hu_of hr
    have hu64 := hr.units
    refine ⟨_, (pss_cons (ps_set (i := 3) sc__law_digits.nd rfl (Or.inl rfl) (pe_lst pa_nil))
    (pss_cons (ps_for PassesOwn.never rfl (pi_range2 rfl T.z_range (pa_cons (pv 1) (pa_cons (pv 2) pa_nil))) (pg_name (i := 4) sc__law_digits.nd rfl (Or.inl rfl)) (pss_cons (ps_if (pt_cmpR op_gtIS (pe_callB call_lenAll (by rfl) T.z_len (by decide +kernel) (pa_cons (pv 3) pa_nil)) pe_int (nomark _)) (pss_one ps_break) pss_nil)
    (pss_cons (ps_set (i := 5) sc__law_digits.nd rfl (Or.inl rfl) (pe_call (ok__law_cell T) (hr.mono (by first | decide | omega)) rfl T.d__law_cell.g T.d__law_cell.F.kp T.d__law_cell.b .nil pass0 (pa_cons (pv 0) (pa_cons (pv 4) pa_nil))))
    (pss_cons (ps_if (pt_cmpR op_ltIS (pv 5) pe_int (nomark _)) (pss_one (ps_set (i := 5) sc__law_digits.nd rfl (Or.inl rfl) (pe_op op_sub pe_int (pe_op op_mulAll pe_int (pv 5))))) pss_nil)
    (pss_one (ps_if (pt_cmpR op_geIS (pv 5) (pe_op op_pow pe_int pe_int) (nomark _)) (pss_one (ps_for PassesOwn.never rfl (pi_range1 rfl T.z_range (pa_cons pe_int pa_nil)) (pg_name (i := 6) sc__law_digits.nd rfl (Or.inl rfl)) (pss_one (ps_if (pt_cmpR op_gtIS (pv 5) pe_int (nomark _)) (pss_cons (ps_expr (pe_bm PySem.F.plainAttrs_list PySem.F.slot_list_append PySem.F.type_list_append mt_append (pv 3) (pa_cons (pe_op op_modN (pe_callTy call_intOf (by rfl) T.z_int (by decide +kernel) (pa_cons (pv 5) pa_nil)) pe_int) pa_nil)))
    (pss_one (ps_set (i := 5) sc__law_digits.nd rfl (Or.inl rfl) (pe_op op_fdivX (pv 5) pe_int)))) pss_nil)))) (pss_cons (ps_set (i := 7) sc__law_digits.nd rfl (Or.inl rfl) (pe_op op_modN (pe_callTy call_intOf (by rfl) T.z_int (by decide +kernel) (pa_cons (pe_op op_addAll (pe_op op_addAll (pe_op op_mulAll (pv 5) pe_int) (pe_op op_mulAll (pv 4) pe_int)) pe_int) pa_nil)) pe_int))
    (pss_one (ps_for PassesOwn.never rfl (pi_range1 rfl T.z_range (pa_cons pe_int pa_nil)) (pg_name (i := 6) sc__law_digits.nd rfl (Or.inl rfl)) (pss_cons (ps_set (i := 7) sc__law_digits.nd rfl (Or.inl rfl) (pe_op op_modN (pe_callTy call_intOf (by rfl) T.z_int (by decide +kernel) (pa_cons (pe_op op_addAll (pe_op op_addAll (pe_op op_mulAll (pv 7) pe_int) (pe_op op_mulAll pe_int (pv 6))) pe_int) pa_nil)) pe_int))
    (pss_one (ps_expr (pe_bm PySem.F.plainAttrs_list PySem.F.slot_list_append PySem.F.type_list_append mt_append (pv 3) (pa_cons (pe_op op_modN (pe_callTy call_intOf (by rfl) T.z_int (by decide +kernel) (pa_cons (pe_op op_fdivX (pv 7) pe_int) pa_nil)) pe_int) pa_nil))))))))))))))
    (pss_one (ps_ret (pv 3))))), fun B hK hp => ?_⟩
    subst hK
    exact (ss_seq (ss_asg (se_lst sa_nil) (sg_name (by rw [hp]; decide)))
    (ss_seq (ss_for (si_r2 so_var so_var) (sg_name (by rw [hp]; decide)) (ss_seq (ss_if (st_test (so_e (se_s2 s2_gt (so_e (se_sn sn_len (sa_cons so_var sa_nil))) (so_e se_int)))) ss_brk ss_next)
    (ss_seq (ss_asg (se_call (sa_cons so_var (sa_cons so_var sa_nil)) (fun os r e => m_len__law_cell e)) (sg_name (by rw [hp]; decide)))
    (ss_seq (ss_if (st_test (so_e (se_s2 s2_lt so_var (so_e se_int)))) (ss_asg (se_s2 s2_sub (so_e se_int) (so_e (se_a2 a2_mul (so_e se_int) (so_e se_var)))) (sg_name (by rw [hp]; decide))) ss_next)
    (ss_if (st_test (so_e (se_s2 s2_ge so_var (so_e (se_s2 s2_pow (so_e se_int) (so_e se_int)))))) (ss_for (si_r1 (so_e se_int)) (sg_name (by rw [hp]; decide)) (ss_if (st_test (so_e (se_s2 s2_gt so_var (so_e se_int)))) (ss_seq (ss_drop (se_app (se_s2 s2_mod (so_e (se_sn sn_intOf (sa_cons so_var sa_nil))) (so_e se_int))))
    (ss_asg (se_s2 s2_fdiv so_var (so_e se_int)) (sg_name (by rw [hp]; decide)))) ss_next)) (ss_seq (ss_asg (se_s2 s2_mod (so_e (se_sn sn_intOf (sa_cons (so_e (se_a2 a2_add (so_e (se_a2 a2_add (so_e (se_a2 a2_mul (so_e se_var) (so_e se_int))) (so_e (se_a2 a2_mul (so_e se_var) (so_e se_int))))) (so_e se_int))) sa_nil))) (so_e se_int)) (sg_name (by rw [hp]; decide)))
    (ss_for (si_r1 (so_e se_int)) (sg_name (by rw [hp]; decide)) (ss_seq (ss_asg (se_s2 s2_mod (so_e (se_sn sn_intOf (sa_cons (so_e (se_a2 a2_add (so_e (se_a2 a2_add (so_e (se_a2 a2_mul (so_e se_var) (so_e se_int))) (so_e (se_a2 a2_mul (so_e se_int) (so_e se_var))))) (so_e se_int))) sa_nil))) (so_e se_int)) (sg_name (by rw [hp]; decide)))
    (ss_drop (se_app (se_s2 s2_mod (so_e (se_sn sn_intOf (sa_cons (so_e (se_s2 s2_fdiv so_var (so_e se_int))) sa_nil))) (so_e se_int))))))))))))
    (ss_ret se_move)))
theorem ok__law_draw (T : Txt K w mg) : FnOk P w K mg base CX0 1 T.d__law_draw.f T.d__law_draw.fd ["box", "many"] (spM K 2 m__law_draw) := by
    refine ok_fn (N := N__law_draw) (ps := ["box", "many"]) (k := 0) (pin := [0, 1]) (body := b__law_draw) T.d__law_draw.F sc__law_draw (by decide) fun cdv A outer s H E hr => ?_
    have hu : _ < _ := hu_of hr
    have hu64 := hr.units
    refine ⟨_, (pss_cons (ps_set (i := 2) sc__law_draw.nd rfl (Or.inl rfl) (pe_ix (ix_all hu) (pv 0) pe_int (fun _ _ => rfl)))
    (pss_cons (ps_asg (pe_op op_addAll (pv 2) pe_int) (pg_sub (pv 0) pe_int set_list))
    (pss_cons (ps_if (pt_cmpR op_ltIS (pv 2) (pe_callB call_lenAll (by rfl) T.z_len (by decide +kernel) (pa_cons (pe_ix (ix_all hu) (pv 0) pe_int (fun _ _ => rfl)) pa_nil)) (nomark _)) (pss_one (ps_ret (pe_op op_modN (pe_callTy call_intOf (by rfl) T.z_int (by decide +kernel) (pa_cons (pe_ix (ix_all hu) (pe_ix (ix_all hu) (pv 0) pe_int (fun _ _ => rfl)) (pv 2) (fun _ _ => rfl)) pa_nil)) (pv 1)))) pss_nil)
    (pss_one (ps_ret (pe_op op_modN (pe_callTy call_intOf (by rfl) T.z_int (by decide +kernel) (pa_cons (pe_op op_mulAll (pv 2) pe_int) pa_nil)) (pv 1))))))), fun B hK hp => ?_⟩
    subst hK
    exact (ss_seq (ss_asg (se_ix ixOk_all ixOw_all so_var (so_e se_int)) (sg_name (by rw [hp]; decide)))
    (ss_seq (ss_asg (se_a2 a2_add (so_e se_var) (so_e se_int)) (sg_setL (so_e se_int)))
    (ss_seq (ss_if (st_test (so_e (se_s2 s2_lt so_var (so_e (se_sn sn_len (sa_cons (so_e (se_ix ixOk_all ixOw_all so_var (so_e se_int))) sa_nil)))))) (ss_ret (se_s2 s2_mod (so_e (se_sn sn_intOf (sa_cons (so_e (se_ix ixOk_all ixOw_all (so_e (se_ix ixOk_all ixOw_all so_var (so_e se_int))) so_var)) sa_nil))) so_var)) ss_next)
    (ss_ret (se_s2 s2_mod (so_e (se_sn sn_intOf (sa_cons (so_e (se_a2 a2_mul (so_e se_var) (so_e se_int))) sa_nil))) so_var)))))
theorem ok__law_same (T : Txt K w mg) : ∀ n : Nat, FnOk P w K mg base CX0 (n + 0) T.d__law_same.f T.d__law_same.fd ["actual", "due"] (spM K 2 (m__law_same n))
  | 0 => FnOk.no
  | n + 1 => by
    have G := ok__law_same T n
    refine ok_fn (N := N__law_same) (ps := ["actual", "due"]) (k := n + 0) (pin := [0, 1]) (body := b__law_same (fun _ => m__law_same n) n) T.d__law_same.F sc__law_same (by decide) fun cdv A outer s H E hr => ?_
    have hu : _ < _ := hu_of hr
    have hu64 := hr.units
    refine ⟨_, (pss_cons (ps_if (pt_truth (pe_callB call_isi (by rfl) T.z_isinstance (by decide +kernel) (pa_cons (pv 1) (pa_cons (pe_bltn (v := .ty "tuple") (u := .type "tuple") (by rfl) T.z_tuple (by decide +kernel) rfl) pa_nil))) (by intro _; rfl)) (pss_cons (ps_if (PW.pt (pw_or (pt_not (pt_truth (pe_callB call_isi (by rfl) T.z_isinstance (by decide +kernel) (pa_cons (pv 0) (pa_cons (pe_bltn (v := .ty "tuple") (u := .type "tuple") (by rfl) T.z_tuple (by decide +kernel) rfl) pa_nil))) (by intro _; rfl))) (pw_or1 (pt_cmpR (op_neAll hu64) (pe_callB call_lenAll (by rfl) T.z_len (by decide +kernel) (pa_cons (pv 0) pa_nil)) (pe_callB call_lenAll (by rfl) T.z_len (by decide +kernel) (pa_cons (pv 1) pa_nil)) (nomark _))))) (pss_one (ps_ret pe_bl)) pss_nil)
    (pss_cons (ps_for PassesOwn.never rfl (pi_range1 rfl T.z_range (pa_cons (pe_callB call_lenAll (by rfl) T.z_len (by decide +kernel) (pa_cons (pv 1) pa_nil)) pa_nil)) (pg_name (i := 2) sc__law_same.nd rfl (Or.inl rfl)) (pss_one (ps_if (pt_not (pt_truth (pe_call G (hr.mono (by first | decide | omega)) rfl T.d__law_same.g T.d__law_same.F.kp T.d__law_same.b .nil pass0 (pa_cons (pe_ix (ix_all hu) (pv 0) (pv 2) (fun _ _ => rfl)) (pa_cons (pe_ix (ix_all hu) (pv 1) (pv 2) (fun _ _ => rfl)) pa_nil))) (by intro _; rfl))) (pss_one (ps_ret pe_bl)) pss_nil)))
    (pss_one (ps_ret pe_bl)))) pss_nil)
    (pss_cons (ps_if (pt_cmpR op_isN (pv 1) pe_non (nomark _)) (pss_one (ps_ret (pe_cmpR op_isN (pv 0) pe_non (nomark _)))) pss_nil)
    (pss_cons (ps_if (pt_cmpR op_isBl1 (pv 1) pe_bl (nomark _)) (pss_one (ps_ret (pe_cmpR op_isBl1 (pv 0) pe_bl (nomark _)))) pss_nil)
    (pss_cons (ps_if (pt_cmpR op_isBl1 (pv 1) pe_bl (nomark _)) (pss_one (ps_ret (pe_cmpR op_isBl1 (pv 0) pe_bl (nomark _)))) pss_nil)
    (pss_cons (ps_if (pt_truth (pe_callB call_isi (by rfl) T.z_isinstance (by decide +kernel) (pa_cons (pv 1) (pa_cons (pe_bltn (v := .ty "int") (u := .type "int") (by rfl) T.z_int (by decide +kernel) rfl) pa_nil))) (by intro _; rfl)) (pss_one (ps_ret (pe_andT (pe_callB call_isi (by rfl) T.z_isinstance (by decide +kernel) (pa_cons (pv 0) (pa_cons (pe_bltn (v := .ty "int") (u := .type "int") (by rfl) T.z_int (by decide +kernel) rfl) pa_nil))) (pe_andT (pe_notT (pe_callB call_isi (by rfl) T.z_isinstance (by decide +kernel) (pa_cons (pv 0) (pa_cons (pe_bltn (v := .ty "bool") (u := .type "bool") (by rfl) T.z_bool (by decide +kernel) rfl) pa_nil)))) (pe_one (pe_cmpR (op_eqAll hu64) (pv 0) (pv 1) (nomark _))))))) pss_nil)
    (pss_one (ps_ret (pe_andT (pe_callB call_isi (by rfl) T.z_isinstance (by decide +kernel) (pa_cons (pv 0) (pa_cons (pe_bltn (v := .ty "str") (u := .type "str") (by rfl) T.z_str (by decide +kernel) rfl) pa_nil))) (pe_one (pe_cmpR (op_eqAll hu64) (pv 0) (pv 1) (nomark _))))))))))), fun B hK hp => ?_⟩
    subst hK
    exact (ss_seq (ss_if (st_tru (so_e (se_isi isTy_tup so_var))) (ss_seq (ss_if (st_or (st_not (st_tru (so_e (se_isi isTy_tup so_var)))) (st_test (so_e (se_s2 s2_ne (so_e (se_sn sn_len (sa_cons so_var sa_nil))) (so_e (se_sn sn_len (sa_cons so_var sa_nil))))))) (ss_ret se_bl) ss_next)
    (ss_seq (ss_for (si_r1 (so_e (se_sn sn_len (sa_cons so_var sa_nil)))) (sg_name (by rw [hp]; decide)) (ss_if (st_not (st_tru (so_e (se_call (sa_cons (so_e (se_ix ixOk_all ixOw_all so_var so_var)) (sa_cons (so_e (se_ix ixOk_all ixOw_all so_var so_var)) sa_nil)) (fun os r e => m_len__law_same n e))))) (ss_ret se_bl) ss_next))
    (ss_ret se_bl))) ss_next)
    (ss_seq (ss_if (st_test (so_e (se_s2 s2_isN so_var (so_e se_non)))) (ss_ret (se_s2 s2_isN so_var (so_e se_non))) ss_next)
    (ss_seq (ss_if (st_test (so_e (se_s2 s2_isB so_var (so_e se_bl)))) (ss_ret (se_s2 s2_isB so_var (so_e se_bl))) ss_next)
    (ss_seq (ss_if (st_test (so_e (se_s2 s2_isB so_var (so_e se_bl)))) (ss_ret (se_s2 s2_isB so_var (so_e se_bl))) ss_next)
    (ss_seq (ss_if (st_tru (so_e (se_isi isTy_int so_var))) (ss_ret (se_andV (so_e (se_isi isTy_int so_var)) (se_andV (so_e (se_notV (so_e (se_isi isTy_bool so_var)))) (se_s2 s2_eq so_var so_var)))) ss_next)
    (ss_ret (se_andV (so_e (se_isi isTy_str so_var)) (se_s2 s2_eq so_var so_var))))))))
theorem ok__law_same_60 (T : Txt K w mg) : FnOk P w K mg base CX0 60 T.d__law_same.f T.d__law_same.fd ["actual", "due"] (spM K 2 m__law_same_60) := ok__law_same T 60
theorem ok__law_plain (T : Txt K w mg) : ∀ n : Nat, FnOk P w K mg base CX0 (n + 0) T.d__law_plain.f T.d__law_plain.fd ["value"] (spM K 1 (m__law_plain n))
  | 0 => FnOk.no
  | n + 1 => by
    have G := ok__law_plain T n
    refine ok_fnT (N := N__law_plain) (ps := ["value"]) (k := n + 0) (pin := [0]) (body := b__law_plain (fun _ => m__law_plain n) n) T.d__law_plain.F sc__law_plain (by decide) (by decide +kernel) (by decide) fun cdv A outer s H E hr => ?_
    have hu : _ < _ := hu_of hr
    have hu64 := hr.units
    refine ⟨_, (psst_cons (PST.of (ps_if (pt_cmpR op_isN (pv 0) pe_non (nomark _)) (pss_one (ps_ret pe_str)) pss_nil))
    (psst_cons (PST.of (ps_if (pt_cmpR op_isBl1 (pv 0) pe_bl (nomark _)) (pss_one (ps_ret pe_str)) pss_nil))
    (psst_cons (PST.of (ps_if (pt_cmpR op_isBl1 (pv 0) pe_bl (nomark _)) (pss_one (ps_ret pe_str)) pss_nil))
    (psst_cons (PST.of (ps_if (pt_truth (pe_callB call_isi (by rfl) T.z_isinstance (by decide +kernel) (pa_cons (pv 0) (pa_cons (pe_bltn (v := .ty "int") (u := .type "int") (by rfl) T.z_int (by decide +kernel) rfl) pa_nil))) (by intro _; rfl)) (pss_one (ps_ret (pe_callTy call_strOf (by rfl) T.z_str (by decide +kernel) (pa_cons (pv 0) pa_nil)))) pss_nil))
    (psst_cons (PST.of (ps_if (pt_truth (pe_callB call_isi (by rfl) T.z_isinstance (by decide +kernel) (pa_cons (pv 0) (pa_cons (pe_bltn (v := .ty "tuple") (u := .type "tuple") (by rfl) T.z_tuple (by decide +kernel) rfl) pa_nil))) (by intro _; rfl)) (pss_one (ps_ret (pe_op op_addAll (pe_op op_addAll pe_str (pe_bm PySem.F.plainAttrs_str PySem.F.slot_str_join PySem.F.type_str_join mt_joinK pe_str (pa_cons (pe_lcM (own := [("one", 1)]) rfl sc__law_plain.nd (pi_seq (pv 0)) (blkOk_by (own := [("one", 1)]) (N := N__law_plain) (sc := (defScope s__law_plain)) (by decide +kernel)) (fun _ _ _ _ _ => (pg_name (i := 1) sc__law_plain.nd rfl (Or.inl rfl))) (fun _ _ _ _ _ => pts_nil) (fun _ _ _ _ _ => (pe_call G (hr.mono (by first | decide | omega)) rfl T.d__law_plain.g T.d__law_plain.F.kp T.d__law_plain.b .nil pass0 (pa_cons (pv 1) pa_nil))) (fun _ _ _ _ _ => rfl) (fun _ _ _ _ _ => rfl) (fun _ _ _ _ _ => rfl)) pa_nil))) pe_str))) pss_nil))
    (CwR.psst_one (CwR.pst_ret (CwR.pet_op op_addAll (CwR.pet_op op_addAll (CwR.PET.of pe_str) (CwR.pet_replT (y := (PySem.Str.ofString "\n")) (z := (PySem.Str.ofString "\\n")) (CwR.pet_replT (y := (PySem.Str.ofString "\"")) (z := (PySem.Str.ofString "\\\"")) (CwR.pet_replT (y := (PySem.Str.ofString "\\")) (z := (PySem.Str.ofString "\\\\")) (CwR.PET.of (pv 0)) (by decide +kernel)) (by decide +kernel)) (by decide +kernel))) (CwR.PET.of pe_str))))))))), fun B hK hp => ?_⟩
    subst hK
    exact (ss_seq (ss_if (st_test (so_e (se_s2 s2_isN so_var (so_e se_non)))) (ss_ret se_str) ss_next)
    (ss_seq (ss_if (st_test (so_e (se_s2 s2_isB so_var (so_e se_bl)))) (ss_ret se_str) ss_next)
    (ss_seq (ss_if (st_test (so_e (se_s2 s2_isB so_var (so_e se_bl)))) (ss_ret se_str) ss_next)
    (ss_seq (ss_if (st_tru (so_e (se_isi isTy_int so_var))) (ss_ret (se_sn sn_strOf (sa_cons so_var sa_nil))) ss_next)
    (ss_seq (ss_if (st_tru (so_e (se_isi isTy_tup so_var))) (ss_ret (se_a2 a2_add (so_e (se_a2 a2_add (so_e se_str) (so_e (se_ms ms_join (so_e se_str) (sa_cons (so_e (se_lc (vs := [1]) (by rw [hp]; decide) (si_seq (so_e se_var)) (sgw_name (by rw [hp]; decide) (by decide)) st_yes (se_call (sa_cons so_var sa_nil) (fun os r e => m_len__law_plain n e)))) sa_nil))))) (so_e se_str))) ss_next)
    (ss_ret (se_a2 a2_add (so_e (se_a2 a2_add (so_e se_str) (so_e (se_repl (so_e (se_repl (so_e (se_repl (so_e se_var))))))))) (so_e se_str))))))))
theorem ok__law_plain_60 (T : Txt K w mg) : FnOk P w K mg base CX0 60 T.d__law_plain.f T.d__law_plain.fd ["value"] (spM K 1 m__law_plain_60) := ok__law_plain T 60
theorem ok__law_value (T : Txt K w mg) : ∀ n : Nat, FnOk P w K mg base CX0 (n + 1) T.d__law_value.f T.d__law_value.fd ["box", "deep"] (spM K 2 (m__law_value n))
  | 0 => FnOk.no
  | n + 1 => by
    have G := ok__law_value T n
    refine ok_fn (N := N__law_value) (ps := ["box", "deep"]) (k := n + 1) (pin := [0, 1]) (body := b__law_value (fun _ => m__law_value n) n) T.d__law_value.F sc__law_value (by decide) fun cdv A outer s H E hr => ?_
    have hu : _ < _ := hu_of hr
    have hu64 := hr.units
    refine ⟨_, (pss_cons (ps_set (i := 2) sc__law_value.nd rfl (Or.inl rfl) (pe_call (ok__law_draw T) (hr.mono (by first | decide | omega)) rfl T.d__law_draw.g T.d__law_draw.F.kp T.d__law_draw.b .nil pass0 (pa_cons (pv 0) (pa_cons pe_int pa_nil))))
    (pss_cons (ps_if (PW.pt (pw_and (pt_cmpR op_ltIS (pv 2) pe_int (nomark _)) (pw_and1 (pt_cmpR op_gtIS (pv 1) pe_int (nomark _))))) (pss_one (ps_ret (pe_callTy call_tupOf (by rfl) T.z_tuple (by decide +kernel) (pa_cons (pe_lcM (own := [("k", 5)]) rfl sc__law_value.nd (pi_range1 rfl T.z_range (pa_cons (pe_call (ok__law_draw T) (hr.mono (by first | decide | omega)) rfl T.d__law_draw.g T.d__law_draw.F.kp T.d__law_draw.b .nil pass0 (pa_cons (pv 0) (pa_cons pe_int pa_nil))) pa_nil)) (blkOk_by (own := [("k", 5)]) (N := N__law_value) (sc := (defScope s__law_value)) (by decide +kernel)) (fun _ _ _ _ _ => (pg_name (i := 5) sc__law_value.nd rfl (Or.inl rfl))) (fun _ _ _ _ _ => pts_nil) (fun _ _ _ _ _ => (pe_call G (hr.mono (by first | decide | omega)) rfl T.d__law_value.g T.d__law_value.F.kp T.d__law_value.b .nil pass0 (pa_cons (pv 0) (pa_cons (pe_op op_sub (pv 1) pe_int) pa_nil)))) (fun _ _ _ _ _ => rfl) (fun _ _ _ _ _ => rfl) (fun _ _ _ _ _ => rfl)) pa_nil)))) pss_nil)
    (pss_cons (ps_if (pt_cmpR (op_eqAll hu64) (pv 2) pe_int (nomark _)) (pss_one (ps_ret (pe_ix (ix_all hu) (pe_lst (pa_cons pe_non (pa_cons pe_bl (pa_cons pe_bl pa_nil)))) (pe_call (ok__law_draw T) (hr.mono (by first | decide | omega)) rfl T.d__law_draw.g T.d__law_draw.F.kp T.d__law_draw.b .nil pass0 (pa_cons (pv 0) (pa_cons pe_int pa_nil))) (fun _ _ => rfl)))) pss_nil)
    (pss_cons (ps_if (pt_cmpR (op_eqAll hu64) (pv 2) pe_int (nomark _)) (pss_cons (ps_set (i := 3) sc__law_value.nd rfl (Or.inl rfl) (pe_op op_sub (pe_op op_addAll (pe_op op_mulAll (pe_call (ok__law_draw T) (hr.mono (by first | decide | omega)) rfl T.d__law_draw.g T.d__law_draw.F.kp T.d__law_draw.b .nil pass0 (pa_cons (pv 0) (pa_cons pe_int pa_nil))) (pe_op op_pow pe_int pe_int)) (pe_call (ok__law_draw T) (hr.mono (by first | decide | omega)) rfl T.d__law_draw.g T.d__law_draw.F.kp T.d__law_draw.b .nil pass0 (pa_cons (pv 0) (pa_cons pe_int pa_nil)))) pe_int))
    (pss_one (ps_ret (pe_ix (ix_all hu) (pe_lst (pa_cons (pv 3) (pa_cons (pe_op op_sub pe_int (pv 3)) (pa_cons (pe_op op_addAll (pe_op op_pow pe_int pe_int) (pv 3)) (pa_cons pe_int pa_nil))))) (pe_call (ok__law_draw T) (hr.mono (by first | decide | omega)) rfl T.d__law_draw.g T.d__law_draw.F.kp T.d__law_draw.b .nil pass0 (pa_cons (pv 0) (pa_cons pe_int pa_nil))) (fun _ _ => rfl))))) pss_nil)
    (pss_cons (ps_if (pt_cmpR (op_eqAll hu64) (pv 2) pe_int (nomark _)) (pss_one (ps_ret (pe_op op_sub (pe_call (ok__law_draw T) (hr.mono (by first | decide | omega)) rfl T.d__law_draw.g T.d__law_draw.F.kp T.d__law_draw.b .nil pass0 (pa_cons (pv 0) (pa_cons pe_int pa_nil))) pe_int))) pss_nil)
    (pss_cons (ps_set (i := 4) sc__law_value.nd rfl (Or.inr rfl) pe_str)
    (pss_one (ps_ret (pe_bm PySem.F.plainAttrs_str PySem.F.slot_str_join PySem.F.type_str_join mt_joinK pe_str (pa_cons (pe_lcM (own := [("k", 5)]) rfl sc__law_value.nd (pi_range1 rfl T.z_range (pa_cons (pe_call (ok__law_draw T) (hr.mono (by first | decide | omega)) rfl T.d__law_draw.g T.d__law_draw.F.kp T.d__law_draw.b .nil pass0 (pa_cons (pv 0) (pa_cons pe_int pa_nil))) pa_nil)) (blkOk_by (own := [("k", 5)]) (N := N__law_value) (sc := (defScope s__law_value)) (by decide +kernel)) (fun _ _ _ _ _ => (pg_name (i := 5) sc__law_value.nd rfl (Or.inl rfl))) (fun _ _ _ _ _ => pts_nil) (fun _ _ _ _ _ => (pe_ix (ix_all hu) (pv 4) (pe_op op_modN (pe_callTy call_intOf (by rfl) T.z_int (by decide +kernel) (pa_cons (pe_call (ok__law_draw T) (hr.mono (by first | decide | omega)) rfl T.d__law_draw.g T.d__law_draw.F.kp T.d__law_draw.b .nil pass0 (pa_cons (pv 0) (pa_cons pe_int pa_nil))) pa_nil)) (pe_callB call_lenAll (by rfl) T.z_len (by decide +kernel) (pa_cons (pv 4) pa_nil))) (fun _ _ => rfl))) (fun _ _ _ _ _ => rfl) (fun _ _ _ _ _ => rfl) (fun _ _ _ _ _ => rfl)) pa_nil)))))))))), fun B hK hp => ?_⟩
    subst hK
    exact (ss_seq (ss_asg (se_call (sa_cons so_var (sa_cons (so_e se_int) sa_nil)) (fun os r e => m_len__law_draw e)) (sg_name (by rw [hp]; decide)))
    (ss_seq (ss_if (st_and (st_test (so_e (se_s2 s2_lt so_var (so_e se_int)))) (st_test (so_e (se_s2 s2_gt so_var (so_e se_int))))) (ss_ret (se_an an_tupOf (sa_cons (so_e (se_lc (vs := [5]) (by rw [hp]; decide) (si_r1 (so_e (se_call (sa_cons so_var (sa_cons (so_e se_int) sa_nil)) (fun os r e => m_len__law_draw e)))) (sgw_name (by rw [hp]; decide) (by decide)) st_yes (se_call (sa_cons so_var (sa_cons (so_e (se_s2 s2_sub so_var (so_e se_int))) sa_nil)) (fun os r e => m_len__law_value n e)))) sa_nil))) ss_next)
    (ss_seq (ss_if (st_test (so_e (se_s2 s2_eq so_var (so_e se_int)))) (ss_ret (se_ix ixOk_all ixOw_all (so_e (se_lst (sa_cons (so_e se_non) (sa_cons (so_e se_bl) (sa_cons (so_e se_bl) sa_nil))))) (so_e (se_call (sa_cons so_var (sa_cons (so_e se_int) sa_nil)) (fun os r e => m_len__law_draw e))))) ss_next)
    (ss_seq (ss_if (st_test (so_e (se_s2 s2_eq so_var (so_e se_int)))) (ss_seq (ss_asg (se_s2 s2_sub (so_e (se_a2 a2_add (so_e (se_a2 a2_mul (so_e (se_call (sa_cons so_var (sa_cons (so_e se_int) sa_nil)) (fun os r e => m_len__law_draw e))) (so_e (se_s2 s2_pow (so_e se_int) (so_e se_int))))) (so_e (se_call (sa_cons so_var (sa_cons (so_e se_int) sa_nil)) (fun os r e => m_len__law_draw e))))) (so_e se_int)) (sg_name (by rw [hp]; decide)))
    (ss_ret (se_ix ixOk_all ixOw_all (so_e (se_lst (sa_cons (so_e se_var) (sa_cons (so_e (se_s2 s2_sub (so_e se_int) so_var)) (sa_cons (so_e (se_a2 a2_add (so_e (se_s2 s2_pow (so_e se_int) (so_e se_int))) (so_e se_var))) (sa_cons (so_e se_int) sa_nil)))))) (so_e (se_call (sa_cons so_var (sa_cons (so_e se_int) sa_nil)) (fun os r e => m_len__law_draw e)))))) ss_next)
    (ss_seq (ss_if (st_test (so_e (se_s2 s2_eq so_var (so_e se_int)))) (ss_ret (se_s2 s2_sub (so_e (se_call (sa_cons so_var (sa_cons (so_e se_int) sa_nil)) (fun os r e => m_len__law_draw e))) (so_e se_int))) ss_next)
    (ss_seq (ss_asg se_str (sg_name (by rw [hp]; decide)))
    (ss_ret (se_ms ms_join (so_e se_str) (sa_cons (so_e (se_lc (vs := [5]) (by rw [hp]; decide) (si_r1 (so_e (se_call (sa_cons so_var (sa_cons (so_e se_int) sa_nil)) (fun os r e => m_len__law_draw e)))) (sgw_name (by rw [hp]; decide) (by decide)) st_yes (se_ix ixOk_all ixOw_all so_var (so_e (se_s2 s2_mod (so_e (se_sn sn_intOf (sa_cons (so_e (se_call (sa_cons so_var (sa_cons (so_e se_int) sa_nil)) (fun os r e => m_len__law_draw e))) sa_nil))) (so_e (se_sn sn_len (sa_cons so_var sa_nil)))))))) sa_nil)))))))))
theorem ok__law_value_8 (T : Txt K w mg) : FnOk P w K mg base CX0 9 T.d__law_value.f T.d__law_value.fd ["box", "deep"] (spM K 2 m__law_value_8) := ok__law_value T 8
theorem ok_law (T : Txt K w mg) : FnOk P w K mg base CX0 93 T.d_law.f T.d_law.fd ["script"] (spM K 1 (m_law T.c_Reader.C)) := by
    refine ok_fn (N := N_law) (ps := ["script"]) (k := 92) (pin := [0]) (body := b_law T.c_Reader.C) T.d_law.F sc_law (by decide) fun cdv A outer s H E hr => ?_
    have hu : _ < _ := hu_of hr
    have hu64 := hr.units
    refine ⟨_, (pss_cons (ps_set (i := 1) sc_law.nd rfl (Or.inl rfl) (pe_lst (pa_cons (pe_call (ok__law_digits T) (hr.mono (by first | decide | omega)) rfl T.d__law_digits.g T.d__law_digits.F.kp T.d__law_digits.b .nil pass0 (pa_cons (pv 0) (pa_cons pe_int (pa_cons pe_int pa_nil)))) (pa_cons pe_int pa_nil))))
    (pss_cons (ps_for PassesOwn.never rfl (pi_range1 rfl T.z_range (pa_cons pe_int pa_nil)) (pg_name (i := 2) sc_law.nd rfl (Or.inl rfl)) (pss_cons (ps_set (i := 3) sc_law.nd rfl (Or.inl rfl) (pe_call (ok__law_value_8 T) (hr.mono (by first | decide | omega)) rfl T.d__law_value.g T.d__law_value.F.kp T.d__law_value.b .nil pass0 (pa_cons (pv 1) (pa_cons pe_int pa_nil))))
    (pss_cons (ps_for PassesOwn.never rfl (pi_range1 rfl T.z_range (pa_cons (pe_ix (ix_all hu) (pe_lst (pa_cons pe_int (pa_cons pe_int (pa_cons pe_int (pa_cons pe_int pa_nil))))) (pe_call (ok__law_draw T) (hr.mono (by first | decide | omega)) rfl T.d__law_draw.g T.d__law_draw.F.kp T.d__law_draw.b .nil pass0 (pa_cons (pv 1) (pa_cons pe_int pa_nil))) (fun _ _ => rfl)) pa_nil)) (pg_name (i := 4) sc_law.nd rfl (Or.inl rfl)) (pss_one (ps_set (i := 3) sc_law.nd rfl (Or.inl rfl) (pe_tup (pa_cons (pv 3) pa_nil)))))
    (pss_cons (ps_set (i := 5) sc_law.nd rfl (Or.inl rfl) (pe_call (ok__law_plain_60 T) (hr.mono (by first | decide | omega)) rfl T.d__law_plain.g T.d__law_plain.F.kp T.d__law_plain.b .nil pass0 (pa_cons (pv 3) pa_nil)))
    (pss_one (ps_if (PW.pt (pw_or (pt_not (pt_truth (pe_call (ok__law_same_60 T) (hr.mono (by first | decide | omega)) rfl T.d__law_same.g T.d__law_same.F.kp T.d__law_same.b .nil pass0 (pa_cons (pe_call (ok_show_plain_60 T) (hr.mono (by first | decide | omega)) rfl T.d_show_plain.g T.d_show_plain.F.kp T.d_show_plain.b .nil pass0 (pa_cons (pv 3) pa_nil)) (pa_cons (pv 5) pa_nil))) (by intro _; rfl))) (pw_or1 (pt_not (pt_truth (pe_call (ok__law_same_60 T) (hr.mono (by first | decide | omega)) rfl T.d__law_same.g T.d__law_same.F.kp T.d__law_same.b .nil pass0 (pa_cons (pe_call (ok_read_plain T) (hr.mono (by first | decide | omega)) rfl T.d_read_plain.g T.d_read_plain.F.kp T.d_read_plain.b .nil pass0 (pa_cons (pv 5) pa_nil)) (pa_cons (pv 3) pa_nil))) (by intro _; rfl)))))) (pss_one (ps_ret pe_bl)) pss_nil))))))
    (pss_one (ps_ret pe_bl)))), fun B hK hp => ?_⟩
    subst hK
    exact (ss_seq (ss_asg (se_lst (sa_cons (so_e (se_call (sa_cons so_var (sa_cons (so_e se_int) (sa_cons (so_e se_int) sa_nil))) (fun os r e => m_len__law_digits e))) (sa_cons (so_e se_int) sa_nil))) (sg_name (by rw [hp]; decide)))
    (ss_seq (ss_for (si_r1 (so_e se_int)) (sg_name (by rw [hp]; decide)) (ss_seq (ss_asg (se_call (sa_cons so_var (sa_cons (so_e se_int) sa_nil)) (fun os r e => m_len__law_value_8 e)) (sg_name (by rw [hp]; decide)))
    (ss_seq (ss_for (si_r1 (so_e (se_ix ixOk_all ixOw_all (so_e (se_lst (sa_cons (so_e se_int) (sa_cons (so_e se_int) (sa_cons (so_e se_int) (sa_cons (so_e se_int) sa_nil)))))) (so_e (se_call (sa_cons so_var (sa_cons (so_e se_int) sa_nil)) (fun os r e => m_len__law_draw e)))))) (sg_name (by rw [hp]; decide)) (ss_asg (se_tup (sa_cons (so_e se_var) sa_nil)) (sg_name (by rw [hp]; decide))))
    (ss_seq (ss_asg (se_call (sa_cons so_var sa_nil) (fun os r e => m_len__law_plain_60 e)) (sg_name (by rw [hp]; decide)))
    (ss_if (st_or (st_not (st_tru (so_e (se_call (sa_cons (so_e (se_call (sa_cons so_var sa_nil) (fun os r e => m_len_show_plain_60 e))) (sa_cons so_var sa_nil)) (fun os r e => m_len__law_same_60 e))))) (st_not (st_tru (so_e (se_call (sa_cons (so_e (se_call (sa_cons so_var sa_nil) (fun os r e => m_len_read_plain T.c_Reader.C e))) (sa_cons so_var sa_nil)) (fun os r e => m_len__law_same_60 e)))))) (ss_ret se_bl) ss_next)))))
    (ss_ret se_bl)))
end
theorem txt_mk {K : PySem.W.Frag} {w : World} {mg : Str → Option Value} {C_Reader : Addr} (c_Reader : ∃ c : ClAt K mg "Reader", c.C = C_Reader) (n_Reader_signs : NoAttr K C_Reader "signs") (n_Reader_veiled : NoAttr K C_Reader "veiled") (d_show_plain : Nonempty (FnAt K mg "show_plain" (topS 8) ["value"])) (d_Reader_string : Nonempty (MtAt K C_Reader "string" "Reader.string" (L2.inClass (topS 10) 3) ["self", "at"])) (d_Reader_integer : Nonempty (MtAt K C_Reader "integer" "Reader.integer" (L2.inClass (topS 10) 5) ["self", "at"])) (d_Reader_value : Nonempty (MtAt K C_Reader "value" "Reader.value" (L2.inClass (topS 10) 1) ["self", "at", "depth"])) (d_Reader_row : Nonempty (MtAt K C_Reader "row" "Reader.row" (L2.inClass (topS 10) 2) ["self", "at", "depth"])) (d_Reader___init__ : Nonempty (MtAt K C_Reader "__init__" "Reader.__init__" (L2.inClass (topS 10) 0) ["self", "text"])) (d_read_plain : Nonempty (FnAt K mg "read_plain" (topS 9) ["text"])) (d__law_cell : Nonempty (FnAt K mg "_law_cell" (topS 12) ["script", "k"])) (d__law_digits : Nonempty (FnAt K mg "_law_digits" (topS 13) ["script", "first", "last"])) (d__law_draw : Nonempty (FnAt K mg "_law_draw" (topS 14) ["box", "many"])) (d__law_same : Nonempty (FnAt K mg "_law_same" (topS 15) ["actual", "due"])) (d__law_plain : Nonempty (FnAt K mg "_law_plain" (topS 16) ["value"])) (d__law_value : Nonempty (FnAt K mg "_law_value" (topS 17) ["box", "deep"])) (d_law : Nonempty (FnAt K mg "law" (topS 18) ["script"])) (z_bool : mg "bool" = none) (z_int : mg "int" = none) (z_isinstance : mg "isinstance" = none) (z_len : mg "len" = none) (z_range : mg "range" = none) (z_str : mg "str" = none) (z_tuple : mg "tuple" = none) (i_DEEPEST : ∃ t, mg "DEEPEST" = some (.int 40 t)) (i_MOST_DIGITS : ∃ t, mg "MOST_DIGITS" = some (.int 2000 t)) (s_DIGITS : ∃ t, mg "DIGITS" = some (.str (PySem.Str.ofString "0123456789") t)) (k_WORDS : Nonempty (KTab K w mg "WORDS" [(PySem.Str.ofString "T", .bl true), (PySem.Str.ofString "F", .bl false), (PySem.Str.ofString "N", .non)])) : Nonempty (Txt K w mg) := by
  obtain ⟨c_Reader, rfl⟩ := c_Reader
  obtain ⟨d_show_plain⟩ := d_show_plain
  obtain ⟨d_Reader_string⟩ := d_Reader_string
  obtain ⟨d_Reader_integer⟩ := d_Reader_integer
  obtain ⟨d_Reader_value⟩ := d_Reader_value
  obtain ⟨d_Reader_row⟩ := d_Reader_row
  obtain ⟨d_Reader___init__⟩ := d_Reader___init__
  obtain ⟨d_read_plain⟩ := d_read_plain
  obtain ⟨d__law_cell⟩ := d__law_cell
  obtain ⟨d__law_digits⟩ := d__law_digits
  obtain ⟨d__law_draw⟩ := d__law_draw
  obtain ⟨d__law_same⟩ := d__law_same
  obtain ⟨d__law_plain⟩ := d__law_plain
  obtain ⟨d__law_value⟩ := d__law_value
  obtain ⟨d_law⟩ := d_law
  obtain ⟨k_WORDS⟩ := k_WORDS
  exact ⟨⟨c_Reader, n_Reader_signs, n_Reader_veiled, d_show_plain, d_Reader_string, d_Reader_integer, d_Reader_value, d_Reader_row, d_Reader___init__, d_read_plain, d__law_cell, d__law_digits, d__law_draw, d__law_same, d__law_plain, d__law_value, d_law, z_bool, z_int, z_isinstance, z_len, z_range, z_str, z_tuple, i_DEEPEST, i_MOST_DIGITS, s_DIGITS, k_WORDS⟩⟩
theorem law_fin {K : PySem.W.Frag} {mg : Str → Option Value} {P : Program} {w : World} {fa : Addr} {h : Heap} (X : K.In h) (G : h.Ns mainGlobals mg) (hok : ∀ C_Reader : Addr, LawOk (m_law C_Reader)) (hfa : mg "law" = some (.ref fa)) {C_Reader : Addr} (c_Reader : ∃ c : ClAt K mg "Reader", c.C = C_Reader) (n_Reader_signs : NoAttr K C_Reader "signs") (n_Reader_veiled : NoAttr K C_Reader "veiled") (d_show_plain : Nonempty (FnAt K mg "show_plain" (topS 8) ["value"])) (d_Reader_string : Nonempty (MtAt K C_Reader "string" "Reader.string" (L2.inClass (topS 10) 3) ["self", "at"])) (d_Reader_integer : Nonempty (MtAt K C_Reader "integer" "Reader.integer" (L2.inClass (topS 10) 5) ["self", "at"])) (d_Reader_value : Nonempty (MtAt K C_Reader "value" "Reader.value" (L2.inClass (topS 10) 1) ["self", "at", "depth"])) (d_Reader_row : Nonempty (MtAt K C_Reader "row" "Reader.row" (L2.inClass (topS 10) 2) ["self", "at", "depth"])) (d_Reader___init__ : Nonempty (MtAt K C_Reader "__init__" "Reader.__init__" (L2.inClass (topS 10) 0) ["self", "text"])) (d_read_plain : Nonempty (FnAt K mg "read_plain" (topS 9) ["text"])) (d__law_cell : Nonempty (FnAt K mg "_law_cell" (topS 12) ["script", "k"])) (d__law_digits : Nonempty (FnAt K mg "_law_digits" (topS 13) ["script", "first", "last"])) (d__law_draw : Nonempty (FnAt K mg "_law_draw" (topS 14) ["box", "many"])) (d__law_same : Nonempty (FnAt K mg "_law_same" (topS 15) ["actual", "due"])) (d__law_plain : Nonempty (FnAt K mg "_law_plain" (topS 16) ["value"])) (d__law_value : Nonempty (FnAt K mg "_law_value" (topS 17) ["box", "deep"])) (d_law : Nonempty (FnAt K mg "law" (topS 18) ["script"])) (z_bool : mg "bool" = none) (z_int : mg "int" = none) (z_isinstance : mg "isinstance" = none) (z_len : mg "len" = none) (z_range : mg "range" = none) (z_str : mg "str" = none) (z_tuple : mg "tuple" = none) (i_DEEPEST : ∃ t, mg "DEEPEST" = some (.int 40 t)) (i_MOST_DIGITS : ∃ t, mg "MOST_DIGITS" = some (.int 2000 t)) (s_DIGITS : ∃ t, mg "DIGITS" = some (.str (PySem.Str.ofString "0123456789") t)) (k_WORDS : Nonempty (KTab K w mg "WORDS" [(PySem.Str.ofString "T", .bl true), (PySem.Str.ofString "F", .bl false), (PySem.Str.ofString "N", .non)])) : ∃ fd : FuncData, (∀ (s : Shared) (v : Value), BindsTo s fd ⟨[v], []⟩ [("script", v)]) ∧ ∀ base : Heap, K.In base → base.Ns mainGlobals mg → FnOk P w K mg base CX0 93 fa fd ["script"] (spT K) := by
  obtain ⟨T⟩ := txt_mk (w := w) c_Reader n_Reader_signs n_Reader_veiled d_show_plain d_Reader_string d_Reader_integer d_Reader_value d_Reader_row d_Reader___init__ d_read_plain d__law_cell d__law_digits d__law_draw d__law_same d__law_plain d__law_value d_law z_bool z_int z_isinstance z_len z_range z_str z_tuple i_DEEPEST i_MOST_DIGITS s_DIGITS k_WORDS
  have e := hfa.symm.trans T.d_law.g
  cases e
  refine ⟨T.d_law.fd, fun s v => ?_, fun base _ _ => FnOk.true (ok_law T) (hok T.c_Reader.C)⟩
  obtain ⟨oc, od, kV, doc, pm, an, cdv, ct, osl, e, _, _⟩ := T.d_law.F.ex
  rw [e]
  exact .of_eq rfl

end K37

set_option Elab.async false
set_option linter.all false
set_option maxRecDepth 100000
namespace K37
open PySem PySem.Spec PyProof.Rows L2 Mi Lw
open Tx (Tk flat tkOf digI r1)
open SX (S)
/-! ### a value's text, by tokens -/
mutual
def txt : D → List Tk
  | .non => [.c 78]
  | .bl b => [.c (if b = true then 84 else 70)]
  | .int i => (digI i).map .c
  | .str s => .c 34 :: (s.cps.toList.map tkOf ++ [.c 34])
  | .tup ds => .c 40 :: (txtL ds ++ [.c 41])
  | _ => []
def txtL : List D → List Tk
  | [] => []
  | d :: ds => txt d ++ txtR ds
def txtR : List D → List Tk
  | [] => []
  | d :: ds => .c 32 :: (txt d ++ txtR ds)
end
def Pch (c : Nat) : Prop := (32 ≤ c ∧ c ≤ 126) ∨ c = 10
def Vd : Nat → D → Prop
  | n + 1, .tup ds => ds.length ≤ 1000 ∧ ∀ d ∈ ds, Vd n d
  | _, .str s => ∀ c ∈ s.cps.toList, Pch c
  | _, .int i => i.natAbs < 10 ^ 100
  | _, .bl _ => True
  | _, .non => True
  | _, _ => False
theorem flat_join : ∀ (d : D) (ds : List D), TL.joinL [32] (flat (txt d) :: ds.map fun d => flat (txt d)) = flat (txt d ++ txtR ds)
  | d, [] => by
    rw [txtR, List.append_nil]
    rfl
  | d, e :: ds => by
    have ih := flat_join e ds
    rw [txtR, Tx.flat_append, Tx.flat_cons, ← ih]
    rfl
theorem flat_joinL (ds : List D) : TL.joinL [32] (ds.map fun d => flat (txt d)) = flat (txtL ds) := by
  cases ds with
  | nil => rw [txtL]; rfl
  | cons d ds => rw [txtL]; exact flat_join d ds
theorem r1_len {p : Nat} {z : List Nat} (hz : z.length = 2) : ∀ l : List Nat, (r1 p z l).length ≤ l.length * 2
  | [] => Nat.le_refl _
  | c :: l => by
    have ih := r1_len (p := p) hz l
    show ((if c = p then z else [c]) ++ r1 p z l).length ≤ (l.length + 1) * 2
    rw [List.length_append]
    split
    · omega
    · simp; omega
theorem tk_len : ∀ l : List Nat, l.length ≤ (flat (l.map tkOf)).length
  | [] => Nat.le_refl _
  | c :: l => by
    have ih := tk_len l
    rw [List.map_cons, Tx.flat_cons, List.length_append]
    have : 1 ≤ (tkOf c).raw.length := by
      cases tkOf c <;> simp [Tk.raw]
    simp
    omega
theorem dRepl1 {y z : Str} {p : Nat} {zs l : List Nat} (hy : y = S [p]) (hz : z = S zs) (h : l.length + (l.length + 1) * zs.length ≤ 16777216) : dRepl y z (.str (S l)) = some (.str (S (r1 p zs l))) := by
  subst hy hz
  show (if (S l).length + ((S l).length + 1) * (S zs).length ≤ 16777216 then some (D.str (Txt.replace (S l) (S [p]) (S zs))) else none) = _
  rw [Tx.repl1]
  exact if_pos (by rw [SX.S_len, SX.S_len]; exact h)
theorem dAddS {a b : List Nat} (h : a.length + b.length ≤ 16777216) : dAdd (.str (S a)) (.str (S b)) = some (.fr (.str (S (a ++ b)))) := by
  show (if (S a).length + (S b).length ≤ sizeLine then some (O.fr (.str (S a ++ S b))) else none) = _
  have : (16777216 : Nat) ≤ sizeLine := by decide
  rw [if_pos (by rw [SX.S_len, SX.S_len]; omega), SX.S_cat]
theorem bs_S : Str.ofString "\\" = S [92] := by decide +kernel
theorem bb_S : Str.ofString "\\\\" = S [92, 92] := by decide +kernel
theorem qt_S : Str.ofString "\"" = S [34] := by decide +kernel
theorem bq_S : Str.ofString "\\\"" = S [92, 34] := by decide +kernel
theorem nl_S : Str.ofString "\n" = S [10] := by decide +kernel
theorem bn_S : Str.ofString "\\n" = S [92, 110] := by decide +kernel
theorem sp_S : Str.ofString " " = S [32] := by decide +kernel
theorem op_S : Str.ofString "(" = S [40] := by decide +kernel
theorem cp_S : Str.ofString ")" = S [41] := by decide +kernel
theorem N_S : Str.ofString "N" = S [78] := by decide +kernel
theorem T_S : Str.ofString "T" = S [84] := by decide +kernel
theorem F_S : Str.ofString "F" = S [70] := by decide +kernel
/-- the three replaces of a text that is written -/
theorem esc_ok {l : List Nat} (h : l.length ≤ 100000) :
    dRepl (Str.ofString "\\") (Str.ofString "\\\\") (.str (S l)) = some (.str (S (r1 92 [92, 92] l))) ∧
    dRepl (Str.ofString "\"") (Str.ofString "\\\"") (.str (S (r1 92 [92, 92] l))) = some (.str (S (r1 34 [92, 34] (r1 92 [92, 92] l)))) ∧
    dRepl (Str.ofString "\n") (Str.ofString "\\n") (.str (S (r1 34 [92, 34] (r1 92 [92, 92] l)))) = some (.str (S (flat (l.map tkOf)))) := by
  have a1 := r1_len (p := 92) (z := [92, 92]) rfl l
  have a2 := r1_len (p := 34) (z := [92, 34]) rfl (r1 92 [92, 92] l)
  refine ⟨dRepl1 bs_S bb_S (by simp; omega), dRepl1 qt_S bq_S (by simp; omega), ?_⟩
  rw [dRepl1 nl_S bn_S (by simp; omega), Tx.esc3]
theorem strsOf_map (f : D → Str) : ∀ ds : List D, strsOf (ds.map fun d => .str (f d)) = some (ds.map f)
  | [] => rfl
  | d :: ds => by
    show (strsOf (ds.map fun d => .str (f d))).map _ = _
    rw [strsOf_map f ds]
    rfl
theorem sum_len : ∀ ds : List D, ((ds.map fun d => flat (txt d)).map (·.length)).sum + ds.length ≤ (flat (txtR ds)).length
  | [] => Nat.zero_le _
  | d :: ds => by
    have ih := sum_len ds
    rw [txtR, Tx.flat_cons, Tx.flat_append]
    simp [Tk.raw] at ih ⊢
    omega
theorem sum_lenL (ds : List D) : ((ds.map fun d => flat (txt d)).map (·.length)).sum + ds.length ≤ (flat (txtL ds)).length + 1 := by
  cases ds with
  | nil => simp
  | cons d ds =>
    have := sum_len ds
    rw [txtL, Tx.flat_append]
    simp at this ⊢
    omega
theorem mem_len {d : D} {ds : List D} (h : d ∈ ds) : (flat (txt d)).length ≤ ((ds.map fun d => flat (txt d)).map (·.length)).sum := by
  induction ds with
  | nil => cases h
  | cons e ds ih =>
    simp only [List.map_cons, List.sum_cons]
    rcases List.mem_cons.mp h with rfl | h
    · omega
    · have := ih h
      omega
theorem dJoin_ok {ds : List D} (h : (flat (txtL ds)).length ≤ 100000) : dJoin (Str.ofString " ") [.lst (ds.map fun d => .str (S (flat (txt d))))] = some (.str (S (flat (txtL ds)))) := by
  have hs := sum_lenL ds
  show ((strsOf (ds.map fun d => .str (S (flat (txt d))))).bind fun ys => if (ys.map (·.length)).sum + ys.length * (Str.ofString " ").length ≤ 16777216 then some (D.str (Txt.join (Str.ofString " ") ys)) else none) = _
  rw [strsOf_map]
  show (if ((ds.map fun d => S (flat (txt d))).map (·.length)).sum + (ds.map fun d => S (flat (txt d))).length * (Str.ofString " ").length ≤ 16777216 then some (D.str (Txt.join (Str.ofString " ") (ds.map fun d => S (flat (txt d))))) else none) = _
  have e1 : (ds.map fun d => S (flat (txt d))) = (ds.map fun d => flat (txt d)).map S := by rw [List.map_map]; rfl
  have e2 : (Str.ofString " ").length = 1 := by decide +kernel
  rw [e1, SX.lens, e2, if_pos (by simp at hs ⊢; omega), sp_S, SX.join_S, flat_joinL]
theorem sI_log {i : Int} (h : i.natAbs < 10 ^ 100) : i.natAbs.log2 < 1920 := Nat.lt_of_lt_of_le (log2_lt (k := 400) (Nat.lt_of_lt_of_le h (by decide)) (by decide)) (by decide)
theorem show_spec : ∀ {m n : Nat} {d : D}, Vd n d → n < m → (flat (txt d)).length ≤ 100000 → Ev (m_show_plain m [.fr d]) fun p => p = (.fr (.str (S (flat (txt d)))), [.fr d])
  | 0, n, d, _, h, _ => absurd h (Nat.not_lt_zero _)
  | m + 1, n, .non, _, _, _ => by
    simp [m_show_plain, ev_runF, b_show_plain, txt, N_S]
    rfl
  | m + 1, n, .bl b, _, _, _ => by
    cases b <;> simp [m_show_plain, ev_runF, b_show_plain, txt, T_S, F_S] <;> rfl
  | m + 1, n, .int i, h, _, _ => by
    have h : i.natAbs < 10 ^ 100 := by cases n <;> exact h
    simp [m_show_plain, ev_runF, b_show_plain, txt, strOf_ok (sI_log h), Tx.sI_S, Tx.flat_c]
  | m + 1, n, .str s, h, _, hl => by
    obtain ⟨l, rfl⟩ : ∃ l, s = S l := ⟨s.cps.toList, (SX.S_tl s).symm⟩
    have hl : (flat (.c 34 :: (l.map tkOf ++ [.c 34]))).length ≤ 100000 := by rw [txt] at hl; exact hl
    rw [Tx.flat_cons, Tx.flat_append, List.length_append, List.length_append] at hl
    have t1 := tk_len l
    obtain ⟨e1, e2, e3⟩ := esc_ok (l := l) (by omega)
    have e4 : dAdd (.str (S [34])) (.str (S (flat (l.map tkOf)))) = some (O.fr (.str (S (34 :: flat (l.map tkOf))))) := dAddS (by simp; omega)
    have e5 : dAdd (.str (S (34 :: flat (l.map tkOf)))) (.str (S [34])) = some (O.fr (.str (S (34 :: (flat (l.map tkOf) ++ [34]))))) := dAddS (a := 34 :: flat (l.map tkOf)) (by simp; omega)
    have e6 : flat (txt (.str (S l))) = 34 :: (flat (l.map tkOf) ++ [34]) := by rw [txt, Tx.flat_cons, Tx.flat_append]; rfl
    rw [e6]
    simp only [qt_S, bs_S, bb_S, bq_S, nl_S, bn_S] at e1 e2 e3
    simp [m_show_plain, ev_runF, b_show_plain, qt_S, bs_S, bb_S, bq_S, nl_S, bn_S, e1, e2, e3, e4, e5]
  | m + 1, 0, .tup ds, h, _, _ => h.elim
  | m + 1, n + 1, .tup ds, h, hm, hl => by
    have e6 : flat (txt (.tup ds)) = 40 :: (flat (txtL ds) ++ [41]) := by rw [txt, Tx.flat_cons, Tx.flat_append]; rfl
    rw [e6] at hl ⊢
    simp at hl
    have e3 := dJoin_ok (ds := ds) (by omega)
    have e4 : dAdd (.str (S [40])) (.str (S (flat (txtL ds)))) = some (O.fr (.str (S (40 :: flat (txtL ds))))) := dAddS (by simp; omega)
    have e5 : dAdd (.str (S (40 :: flat (txtL ds)))) (.str (S [41])) = some (O.fr (.str (S (40 :: (flat (txtL ds) ++ [41]))))) := dAddS (a := 40 :: flat (txtL ds)) (by simp; omega)
    have hs := sum_lenL ds
    simp [m_show_plain, ev_runF, b_show_plain, op_S, cp_S]
    refine (lcL_go (P := fun g => ∃ c, g = [some (.fr (.tup ds)), c]) (f := fun d => some (.fr (.str (S (flat (txt d)))))) ⟨none, rfl⟩ ?_ ?_).mono ?_
    · rintro d hd g ⟨c, rfl⟩
      have := mem_len hd
      simp
      refine (show_spec (h.2 d hd) (Nat.lt_of_succ_lt_succ hm) (by omega)).mono ?_
      rintro _ rfl
      simp
    · have : (1000 : Nat) ≤ sizeLine := by decide
      have := h.1
      simp
      omega
    · rintro ⟨os, g⟩ ⟨h1, c, rfl⟩
      have h2 : erL os = ds.map fun d => D.str (S (flat (txt d))) := by
        rw [show os = _ from h1, List.nil_append]
        have : ds.filterMap (fun d => some (O.fr (.str (S (flat (txt d)))))) = (ds.map fun d => D.str (S (flat (txt d)))).map O.fr := by
          rw [List.map_map]
          exact congrFun List.filterMap_eq_map ds
        rw [this, erL_fr]
      simp [h2, e3, e4, e5]
  | _ + 1, 0, .lst _, h, _, _ => h.elim
  | _ + 1, _ + 1, .lst _, h, _, _ => h.elim
  | _ + 1, 0, .dK _ _, h, _, _ => h.elim
  | _ + 1, _ + 1, .dK _ _, h, _, _ => h.elim
  | _ + 1, 0, .dT _ _, h, _, _ => h.elim
  | _ + 1, _ + 1, .dT _ _, h, _, _ => h.elim
  | _ + 1, 0, .scr _, h, _, _ => h.elim
  | _ + 1, _ + 1, .scr _, h, _, _ => h.elim
  | _ + 1, 0, .ob _ _ _, h, _, _ => h.elim
  | _ + 1, _ + 1, .ob _ _ _, h, _, _ => h.elim
theorem plain_spec : ∀ {m n : Nat} {d : D}, Vd n d → n < m → (flat (txt d)).length ≤ 100000 → Ev (m__law_plain m [.fr d]) fun p => p = (.fr (.str (S (flat (txt d)))), [.fr d])
  | 0, n, d, _, h, _ => absurd h (Nat.not_lt_zero _)
  | m + 1, n, .non, _, _, _ => by
    simp [m__law_plain, ev_runF, b__law_plain, txt, N_S]
    rfl
  | m + 1, n, .bl b, _, _, _ => by
    cases b <;> simp [m__law_plain, ev_runF, b__law_plain, txt, T_S, F_S] <;> rfl
  | m + 1, n, .int i, h, _, _ => by
    have h : i.natAbs < 10 ^ 100 := by cases n <;> exact h
    simp [m__law_plain, ev_runF, b__law_plain, txt, strOf_ok (sI_log h), Tx.sI_S, Tx.flat_c]
  | m + 1, n, .str s, h, _, hl => by
    obtain ⟨l, rfl⟩ : ∃ l, s = S l := ⟨s.cps.toList, (SX.S_tl s).symm⟩
    have hl : (flat (.c 34 :: (l.map tkOf ++ [.c 34]))).length ≤ 100000 := by rw [txt] at hl; exact hl
    rw [Tx.flat_cons, Tx.flat_append, List.length_append, List.length_append] at hl
    have t1 := tk_len l
    obtain ⟨e1, e2, e3⟩ := esc_ok (l := l) (by omega)
    have e4 : dAdd (.str (S [34])) (.str (S (flat (l.map tkOf)))) = some (O.fr (.str (S (34 :: flat (l.map tkOf))))) := dAddS (by simp; omega)
    have e5 : dAdd (.str (S (34 :: flat (l.map tkOf)))) (.str (S [34])) = some (O.fr (.str (S (34 :: (flat (l.map tkOf) ++ [34]))))) := dAddS (a := 34 :: flat (l.map tkOf)) (by simp; omega)
    have e6 : flat (txt (.str (S l))) = 34 :: (flat (l.map tkOf) ++ [34]) := by rw [txt, Tx.flat_cons, Tx.flat_append]; rfl
    rw [e6]
    simp only [qt_S, bs_S, bb_S, bq_S, nl_S, bn_S] at e1 e2 e3
    simp [m__law_plain, ev_runF, b__law_plain, qt_S, bs_S, bb_S, bq_S, nl_S, bn_S, e1, e2, e3, e4, e5]
  | m + 1, 0, .tup ds, h, _, _ => h.elim
  | m + 1, n + 1, .tup ds, h, hm, hl => by
    have e6 : flat (txt (.tup ds)) = 40 :: (flat (txtL ds) ++ [41]) := by rw [txt, Tx.flat_cons, Tx.flat_append]; rfl
    rw [e6] at hl ⊢
    simp at hl
    have e3 := dJoin_ok (ds := ds) (by omega)
    have e4 : dAdd (.str (S [40])) (.str (S (flat (txtL ds)))) = some (O.fr (.str (S (40 :: flat (txtL ds))))) := dAddS (by simp; omega)
    have e5 : dAdd (.str (S (40 :: flat (txtL ds)))) (.str (S [41])) = some (O.fr (.str (S (40 :: (flat (txtL ds) ++ [41]))))) := dAddS (a := 40 :: flat (txtL ds)) (by simp; omega)
    have hs := sum_lenL ds
    simp [m__law_plain, ev_runF, b__law_plain, op_S, cp_S]
    refine (lcL_go (P := fun g => ∃ c, g = [some (.fr (.tup ds)), c]) (f := fun d => some (.fr (.str (S (flat (txt d)))))) ⟨none, rfl⟩ ?_ ?_).mono ?_
    · rintro d hd g ⟨c, rfl⟩
      have := mem_len hd
      simp
      refine (plain_spec (h.2 d hd) (Nat.lt_of_succ_lt_succ hm) (by omega)).mono ?_
      rintro _ rfl
      simp
    · have : (1000 : Nat) ≤ sizeLine := by decide
      have := h.1
      simp
      omega
    · rintro ⟨os, g⟩ ⟨h1, c, rfl⟩
      have h2 : erL os = ds.map fun d => D.str (S (flat (txt d))) := by
        rw [show os = _ from h1, List.nil_append]
        have : ds.filterMap (fun d => some (O.fr (.str (S (flat (txt d)))))) = (ds.map fun d => D.str (S (flat (txt d)))).map O.fr := by
          rw [List.map_map]
          exact congrFun List.filterMap_eq_map ds
        rw [this, erL_fr]
      simp [h2, e3, e4, e5]
  | _ + 1, 0, .lst _, h, _, _ => h.elim
  | _ + 1, _ + 1, .lst _, h, _, _ => h.elim
  | _ + 1, 0, .dK _ _, h, _, _ => h.elim
  | _ + 1, _ + 1, .dK _ _, h, _, _ => h.elim
  | _ + 1, 0, .dT _ _, h, _, _ => h.elim
  | _ + 1, _ + 1, .dT _ _, h, _, _ => h.elim
  | _ + 1, 0, .scr _, h, _, _ => h.elim
  | _ + 1, _ + 1, .scr _, h, _, _ => h.elim
  | _ + 1, 0, .ob _ _ _, h, _, _ => h.elim
  | _ + 1, _ + 1, .ob _ _ _, h, _, _ => h.elim
theorem same_spec : ∀ {m n : Nat} {d : D}, Vd n d → n < m → Ev (m__law_same m [.fr d, .fr d]) fun p => p = (.fr (.bl true), [.fr d, .fr d])
  | 0, n, d, _, h => absurd h (Nat.not_lt_zero _)
  | m + 1, n, .non, _, _ => by simp [m__law_same, ev_runF, b__law_same]
  | m + 1, n, .bl b, _, _ => by cases b <;> simp [m__law_same, ev_runF, b__law_same]
  | m + 1, n, .int i, _, _ => by simp [m__law_same, ev_runF, b__law_same]
  | m + 1, n, .str s, _, _ => by simp [m__law_same, ev_runF, b__law_same]
  | m + 1, 0, .tup ds, h, _ => h.elim
  | m + 1, n + 1, .tup ds, h, hm => by
    have hl := h.1
    simp [m__law_same, ev_runF, b__law_same]
    refine ⟨by omega, ?_⟩
    refine (forR (P := fun _ g => ∃ c, g = [some (.fr (.tup ds)), some (.fr (.tup ds)), c]) ⟨none, rfl⟩ ?_).mono ?_
    · rintro k i hk hi g ⟨c, rfl⟩
      have hz : atI ds i = some ds[k] := by
        rw [hi, Int.zero_add]
        exact (atI_lt hk).trans (List.getElem?_eq_getElem hk)
      simp [b__law_same_1, hz]
      refine (same_spec (h.2 _ (List.getElem_mem hk)) (Nat.lt_of_succ_lt_succ hm)).mono ?_
      rintro _ rfl
      simp
    · rintro _ ⟨g, rfl, c, rfl⟩
      simp
  | _ + 1, 0, .lst _, h, _ => h.elim
  | _ + 1, _ + 1, .lst _, h, _ => h.elim
  | _ + 1, 0, .dK _ _, h, _ => h.elim
  | _ + 1, _ + 1, .dK _ _, h, _ => h.elim
  | _ + 1, 0, .dT _ _, h, _ => h.elim
  | _ + 1, _ + 1, .dT _ _, h, _ => h.elim
  | _ + 1, 0, .scr _, h, _ => h.elim
  | _ + 1, _ + 1, .scr _, h, _ => h.elim
  | _ + 1, 0, .ob _ _ _, h, _ => h.elim
  | _ + 1, _ + 1, .ob _ _ _, h, _ => h.elim
end K37

set_option Elab.async false
set_option linter.all false
set_option maxRecDepth 100000
namespace K37
open PySem PySem.Spec PyProof.Rows L2 Mi Lw
open Tx (Tk flat tkOf digI r1 r2 veil)
open SX (S)
/-! ### the reader -/
theorem tb_S : Str.ofString "\t" = S [9] := by decide +kernel
theorem tt_S : Str.ofString "\t\t" = S [9, 9] := by decide +kernel
theorem mi_S : Str.ofString "-" = S [45] := by decide +kernel
theorem ze_S : Str.ofString "0" = S [48] := by decide +kernel
theorem n1 : ¬ (Str.ofString "signs" = Str.ofString "veiled") := by decide +kernel
theorem n2 : ¬ (Str.ofString "veiled" = Str.ofString "signs") := by decide +kernel
abbrev fl : List Str := [Str.ofString "signs", Str.ofString "veiled"]
def rdr (C : Addr) (ts : List Tk) : D := .ob C fl [.str (S (flat ts)), .str (S (veil ts))]
theorem dRepl2 {y z : Str} {p q : Nat} {zs l : List Nat} (hy : y = S [p, q]) (hz : z = S zs) (h : l.length + (l.length + 1) * zs.length ≤ 16777216) : dRepl y z (.str (S l)) = some (.str (S (r2 p q zs l))) := by
  subst hy hz
  show (if (S l).length + ((S l).length + 1) * (S zs).length ≤ 16777216 then some (D.str (Txt.replace (S l) (S [p, q]) (S zs))) else none) = _
  rw [Tx.repl2]
  exact if_pos (by rw [SX.S_len, SX.S_len]; exact h)
theorem r2_len {p q : Nat} {z : List Nat} (hz : z.length ≤ 2) : ∀ (n : Nat) (l : List Nat), l.length ≤ n → (r2 p q z l).length ≤ l.length
  | _, [], _ => Nat.le_refl _
  | 0, _ :: _, h => by cases h
  | n + 1, [c], _ => Nat.le_refl _
  | n + 1, c :: d :: r, h => by
    have h : r.length + 1 + 1 ≤ n + 1 := h
    show (if c = p ∧ d = q then z ++ r2 p q z r else c :: r2 p q z (d :: r)).length ≤ r.length + 1 + 1
    split
    · have := r2_len (p := p) (q := q) hz n r (by omega)
      rw [List.length_append]
      omega
    · have := r2_len (p := p) (q := q) hz n (d :: r) (by show r.length + 1 ≤ n; omega)
      rw [List.length_cons]
      have e : (d :: r).length = r.length + 1 := rfl
      omega
theorem r2_le {p q : Nat} {z l : List Nat} (hz : z.length ≤ 2) : (r2 p q z l).length ≤ l.length := r2_len hz l.length l (Nat.le_refl _)
def TOk (ts : List Tk) : Prop := (∀ t ∈ ts, t.ok) ∧ (flat ts).length ≤ 100000
theorem init_spec {C : Addr} {ts : List Tk} (h : TOk ts) : Ev (m_Reader___init__ C [.ob C [] [], .fr (.str (S (flat ts)))]) fun p => p = (.fr .non, [.ob C fl [.fr (.str (S (flat ts))), .fr (.str (S (veil ts)))], .fr (.str (S (flat ts)))]) := by
  obtain ⟨h1, h2⟩ := h
  have e1 := dRepl2 (l := flat ts) bb_S tt_S (by simp; omega)
  have l1 := r2_le (p := 92) (q := 92) (z := [9, 9]) (l := flat ts) (by decide)
  have e2 := dRepl2 (l := r2 92 92 [9, 9] (flat ts)) bq_S tt_S (by simp; omega)
  have l2 := r2_le (p := 92) (q := 34) (z := [9, 9]) (l := r2 92 92 [9, 9] (flat ts)) (by decide)
  have e3 := dRepl2 (l := r2 92 34 [9, 9] (r2 92 92 [9, 9] (flat ts))) bn_S tt_S (by simp; omega)
  rw [Tx.veil3 h1] at e3
  simp only [bb_S, bq_S, bn_S, tt_S] at e1 e2 e3
  simp [m_Reader___init__, ev_runF, b_Reader___init__, bb_S, bq_S, bn_S, tt_S, e1, e2, e3, pF, pV, n1, n2]
theorem veil_no {ts : List Tk} (h : ∀ t ∈ ts, t.ok) : 92 ∉ veil ts := by
  intro hm
  obtain ⟨l, hl, hc⟩ := List.mem_flatten.mp hm
  obtain ⟨t, ht, rfl⟩ := List.mem_map.mp hl
  have := h t ht
  cases t with
  | c y =>
    cases List.mem_singleton.mp hc
    exact this rfl
  | e y =>
    have hc : (92 : Nat) ∈ [9, 9] := hc
    simp at hc
theorem veil_tk : ∀ l : List Nat, 34 ∉ veil (l.map tkOf)
  | [] => List.not_mem_nil
  | c :: l => by
    rw [List.map_cons, Tx.veil_cons]
    intro hm
    rcases List.mem_append.mp hm with hm | hm
    · unfold tkOf at hm
      by_cases h1 : c = 92
      · rw [if_pos h1] at hm
        have hm : (34 : Nat) ∈ [9, 9] := hm
        simp at hm
      · rw [if_neg h1] at hm
        by_cases h2 : c = 34
        · rw [if_pos h2] at hm
          have hm : (34 : Nat) ∈ [9, 9] := hm
          simp at hm
        · rw [if_neg h2] at hm
          by_cases h3 : c = 10
          · rw [if_pos h3] at hm
            have hm : (34 : Nat) ∈ [9, 9] := hm
            simp at hm
          · rw [if_neg h3] at hm
            have hm : (34 : Nat) ∈ [c] := hm
            simp at hm
            exact h2 hm.symm
    · exact veil_tk l hm
/-- the signs of a written text -/
theorem tk_range {l : List Nat} (h : ∀ c ∈ l, Pch c) : ∀ c ∈ flat (l.map tkOf), 32 ≤ c ∧ c ≤ 126 := by
  intro c hc
  obtain ⟨m, hm, hc⟩ := List.mem_flatten.mp hc
  obtain ⟨t, ht, rfl⟩ := List.mem_map.mp hm
  obtain ⟨d, hd, rfl⟩ := List.mem_map.mp ht
  have := h d hd
  unfold tkOf at hc
  by_cases h1 : d = 92
  · rw [if_pos h1] at hc
    have hc : c ∈ [92, 92] := hc
    simp at hc
    omega
  · rw [if_neg h1] at hc
    by_cases h2 : d = 34
    · rw [if_pos h2] at hc
      have hc : c ∈ [92, 34] := hc
      simp at hc
      omega
    · rw [if_neg h2] at hc
      by_cases h3 : d = 10
      · rw [if_pos h3] at hc
        have hc : c ∈ [92, 110] := hc
        simp at hc
        omega
      · rw [if_neg h3] at hc
        have hc : c ∈ [d] := hc
        simp at hc
        subst hc
        rcases this with h | h
        · exact h
        · exact (h3 h).elim
theorem no_bar : ∀ {l : List Nat}, 92 ∉ flat (l.map tkOf) → flat (l.map tkOf) = l
  | [], _ => rfl
  | c :: l, h => by
    rw [List.map_cons, Tx.flat_cons] at h ⊢
    have ih := no_bar fun q => h (List.mem_append_right _ q)
    rw [ih]
    have h1 : 92 ∉ (tkOf c).raw := fun q => h (List.mem_append_left _ q)
    have : (tkOf c).raw = [c] := by
      unfold tkOf at h1 ⊢
      by_cases h2 : c = 92
      · rw [if_pos h2] at h1
        exact (h1 (List.mem_cons_self ..)).elim
      · rw [if_neg h2] at h1 ⊢
        by_cases h3 : c = 34
        · rw [if_pos h3] at h1
          exact (h1 (List.mem_cons_self ..)).elim
        · rw [if_neg h3] at h1 ⊢
          by_cases h4 : c = 10
          · rw [if_pos h4] at h1
            exact (h1 (List.mem_cons_self ..)).elim
          · rw [if_neg h4]
            rfl
    rw [this]
    rfl
theorem printable {l : List Nat} (h : ∀ c ∈ l, 32 ≤ c ∧ c ≤ 126) : Txt.isascii (S l) = true ∧ Txt.isprintable (S l) = true := by
  have hp : ∀ c, 32 ≤ c ∧ c ≤ 126 → Unicode.isPrintable c = true := fun c hc => by
    have ha : (List.range 127).all (fun c => decide (c < 32) || Unicode.isPrintable c) = true := by decide +kernel
    have := List.all_eq_true.mp ha c (List.mem_range.mpr (by omega))
    rw [decide_eq_false (by omega), Bool.false_or] at this
    exact this
  refine ⟨?_, ?_⟩
  · show (l.toArray).all (· < 128) = true
    rw [List.all_toArray, List.all_eq_true]
    intro c hc
    have := h c hc
    exact decide_eq_true (by omega)
  · show (l.toArray).all Unicode.isPrintable = true
    rw [List.all_toArray, List.all_eq_true]
    exact fun c hc => hp c (h c hc)
theorem unesc_ok {l : List Nat} (h : l.length ≤ 100000) (hf : (flat (l.map tkOf)).length ≤ 100000) (h9 : 9 ∉ l) :
    dRepl (Str.ofString "\\\\") (Str.ofString "\t") (.str (S (flat (l.map tkOf)))) = some (.str (S (r2 92 92 [9] (flat (l.map tkOf))))) ∧
    dRepl (Str.ofString "\\\"") (Str.ofString "\"") (.str (S (r2 92 92 [9] (flat (l.map tkOf))))) = some (.str (S (r2 92 34 [34] (r2 92 92 [9] (flat (l.map tkOf)))))) ∧
    dRepl (Str.ofString "\\n") (Str.ofString "\n") (.str (S (r2 92 34 [34] (r2 92 92 [9] (flat (l.map tkOf)))))) = some (.str (S (r2 92 110 [10] (r2 92 34 [34] (r2 92 92 [9] (flat (l.map tkOf))))))) ∧
    dRepl (Str.ofString "\t") (Str.ofString "\\") (.str (S (r2 92 110 [10] (r2 92 34 [34] (r2 92 92 [9] (flat (l.map tkOf))))))) = some (.str (S l)) := by
  have l1 := r2_le (p := 92) (q := 92) (z := [9]) (l := flat (l.map tkOf)) (by decide)
  have l2 := r2_le (p := 92) (q := 34) (z := [34]) (l := r2 92 92 [9] (flat (l.map tkOf))) (by decide)
  have l3 := r2_le (p := 92) (q := 110) (z := [10]) (l := r2 92 34 [34] (r2 92 92 [9] (flat (l.map tkOf)))) (by decide)
  refine ⟨dRepl2 bb_S tb_S (by simp; omega), dRepl2 bq_S qt_S (by simp; omega), dRepl2 bn_S nl_S (by simp; omega), ?_⟩
  rw [dRepl1 tb_S bs_S (by simp; omega), Tx.unesc h9]
theorem string_spec {C : Addr} {ts A B : List Tk} {l : List Nat} {at_ : Int} (h : TOk ts) (e : ts = A ++ (l.map tkOf ++ .c 34 :: B)) (ha : at_ = ((flat A).length : Nat)) (hl : ∀ c ∈ l, Pch c) : Ev (m_Reader_string C [.fr (rdr C ts), .fr (.int at_)]) fun p => p = (.fr (.tup [.str (S l), .int (at_ + ((flat (l.map tkOf)).length : Nat) + 1)]), [.fr (rdr C ts), .fr (.int at_)]) := by
  generalize hF : flat (l.map tkOf) = F
  have eT : flat ts = flat A ++ (F ++ 34 :: flat B) := by
    rw [e, Tx.flat_append, Tx.flat_append, hF, Tx.flat_cons]
    rfl
  have eV : veil ts = veil A ++ veil (l.map tkOf) ++ 34 :: veil B := by
    rw [e, Tx.veil_append, Tx.veil_append, Tx.veil_cons, List.append_assoc]
    rfl
  have hVA : (veil A).length = (flat A).length := Tx.veil_len A
  have hVl : (veil (l.map tkOf)).length = F.length := by rw [Tx.veil_len, hF]
  have hlen : (flat ts).length = (flat A).length + (F.length + ((flat B).length + 1)) := by rw [eT]; simp
  have h2 := h.2
  generalize hk : at_ + (F.length : Nat) = k
  have f1 : Txt.find3 (S (veil ts)) (S [34]) at_ = k := by
    rw [eV, ha, ← hVA, Tx.find3_hit (veil_tk l), List.length_append, hVl, hVA, ← hk, ha]
    exact Int.natCast_add ..
  have f2 : Txt.findIn (S (veil ts)) (S [92]) at_ k = -1 := Tx.findIn_none (veil_no h.1)
  have f3 : Txt.slice (S (flat ts)) (some at_) (some k) = S F := by
    have : k = (((flat A).length + F.length : Nat) : Int) := by rw [← hk, ha, Int.natCast_add]
    rw [this, ha, Tx.slice_S, eT]
    congr 1
    rw [List.drop_left, Nat.add_sub_cancel_left, List.take_left]
  obtain ⟨p1, p2⟩ := printable (l := F) (by rw [← hF]; exact tk_range hl)
  have hsz : (S (flat ts)).length ≤ sizeLine := by
    have : (100000 : Nat) ≤ sizeLine := by decide
    rw [SX.S_len]
    omega
  have hk0 : ¬ k < 0 := by omega
  have h9 : 9 ∉ l := fun q => by
    have := hl 9 q
    unfold Pch at this
    omega
  have hll : l.length ≤ F.length := by rw [← hF]; exact tk_len l
  have hd : dInS (.str (S [92])) (.str (S F)) = some (.bl (decide (92 ∈ F))) := rfl
  obtain ⟨u1, u2, u3, u4⟩ := unesc_ok (l := l) (by omega) (by rw [hF]; omega) h9
  rw [hF] at u1 u2 u3 u4
  simp only [bb_S, tb_S, bq_S, qt_S, bn_S, nl_S, bs_S] at u1 u2 u3 u4
  simp [m_Reader_string, ev_runF, b_Reader_string, rdr, look, n1, n2, bb_S, tb_S, bq_S, qt_S, bn_S, nl_S, bs_S, f1, f2, f3, p1, p2, hsz, hk0, hd]
  refine Ev.mono (Q := fun o => o = Out.nx [some (O.fr (D.ob C fl [D.str (S (flat ts)), D.str (S (veil ts))])), some (O.fr (D.int at_)), some (O.fr (D.int k)), some (O.fr (D.int k)), some (O.fr (D.str (S l))), some (O.fr (D.int (-1)))]) (Ev.ite (fun hm => ?_) (fun hm => ?_)) ?_
  · simp [u1, u2, u3, u4]
  · have : F = l := by rw [← hF] at hm ⊢; exact no_bar hm
    simp [this]
  · rintro _ rfl
    simp
theorem integer_spec {C : Addr} {ts A B : List Tk} {i at_ : Int} (h : TOk ts) (e : ts = A ++ ((digI i).map .c ++ B)) (ha : at_ = ((flat A).length : Nat)) (hB : ∀ c, (flat B).head? = some c → c < 48 ∨ 57 < c) (hi : i.natAbs < 10 ^ 100) : Ev (m_Reader_integer C [.fr (rdr C ts), .fr (.int at_)]) fun p => p = (.fr (.tup [.int i, .int (at_ + ((digI i).length : Nat))]), [.fr (rdr C ts), .fr (.int at_)]) := by
  have eT : flat ts = flat A ++ (digI i ++ flat B) := by
    rw [e, Tx.flat_append, Tx.flat_append, Tx.flat_c]
  have hnl : (TL.numL i.natAbs).length ≤ 100 := TL.numL_len (by decide) hi
  have hne : TL.numL i.natAbs ≠ [] := TL.numL_ne _
  obtain ⟨c0, r0, hc0⟩ : ∃ c r, TL.numL i.natAbs = c :: r := by
    cases q : TL.numL i.natAbs with
    | nil => exact (hne q).elim
    | cons c r => exact ⟨c, r, rfl⟩
  have hsz : (S (flat ts)).length ≤ sizeLine := by
    have : (100000 : Nat) ≤ sizeLine := by decide
    have := h.2
    rw [SX.S_len]
    omega
  -- first: the place of the first digit
  obtain ⟨neg, hneg⟩ : ∃ b : Bool, b = decide (i < 0) := ⟨_, rfl⟩
  have hdig : digI i = (if neg = true then [45] else []) ++ TL.numL i.natAbs := by
    unfold Tx.digI
    by_cases q : i < 0
    · rw [if_pos q, hneg, if_pos (decide_eq_true q)]
      rfl
    · rw [if_neg q, hneg, if_neg (by simp [q])]
      rfl
  generalize hpre : (if neg = true then [45] else []) = pre at hdig
  have hprel : pre.length = if neg = true then 1 else 0 := by rw [← hpre]; cases neg <;> rfl
  generalize hfirst : at_ + (pre.length : Nat) = first
  have f1 : Txt.startswith3 (S (flat ts)) (S [45]) at_ = neg := by
    cases neg with
    | true =>
      have : pre = [45] := by rw [← hpre]; rfl
      rw [eT, hdig, this, ha]
      exact Tx.starts_S.trans (by rfl)
    | false =>
      have : pre = [] := by rw [← hpre]; rfl
      rw [eT, hdig, this, hc0, ha]
      refine Tx.starts_S.trans (decide_eq_false fun q => ?_)
      have := Tx.digits_le c0 (by rw [hc0]; exact List.mem_cons_self ..)
      omega
  have f2 : Txt.slice (S (flat ts)) (some first) (some (first + 2000 + 1)) = S (TL.numL i.natAbs ++ (flat B).take (2001 - (TL.numL i.natAbs).length)) := by
    have e1 : first = (((flat A).length + pre.length : Nat) : Int) := by rw [← hfirst, ha, Int.natCast_add]
    have e2 : first + 2000 + 1 = (((flat A).length + pre.length + 2001 : Nat) : Int) := by rw [e1]; omega
    rw [e2, e1, Tx.slice_S, eT, hdig]
    congr 1
    rw [Nat.add_sub_cancel_left, List.append_assoc, ← List.append_assoc, ← List.length_append, List.drop_left, List.take_append, List.take_of_length_le (by omega)]
  have hw0 : (S (TL.numL i.natAbs ++ (flat B).take (2001 - (TL.numL i.natAbs).length))).length = (TL.numL i.natAbs).length + ((flat B).take (2001 - (TL.numL i.natAbs).length)).length := by rw [SX.S_len, List.length_append]
  have f3 : (Txt.lstripChars (S (TL.numL i.natAbs ++ (flat B).take (2001 - (TL.numL i.natAbs).length))) (Str.ofString "0123456789")).length = ((flat B).take (2001 - (TL.numL i.natAbs).length)).length := by
    refine Tx.lstrip_len Tx.digits_le fun c hc => hB c ?_
    cases q : flat B with
    | nil => rw [q] at hc; simp at hc
    | cons d r =>
      rw [q] at hc
      have : 2001 - (TL.numL i.natAbs).length = (2000 - (TL.numL i.natAbs).length) + 1 := by omega
      rw [this, List.take_succ_cons] at hc
      exact hc
  have htl : ((flat B).take (2001 - (TL.numL i.natAbs).length)).length ≤ 2001 := by rw [List.length_take]; omega
  have f4 : dIx (.str (S (TL.numL i.natAbs ++ (flat B).take (2001 - (TL.numL i.natAbs).length)))) (.int 0) = some (.str (S [c0])) := by
    have : (10000 : Nat) ≤ sizeLine := by decide
    show (if (S (TL.numL i.natAbs ++ (flat B).take (2001 - (TL.numL i.natAbs).length))).length ≤ sizeLine then (atI (TL.numL i.natAbs ++ (flat B).take (2001 - (TL.numL i.natAbs).length)) 0).map fun c => D.str ⟨#[c]⟩ else none) = _
    rw [if_pos (by rw [hw0]; omega), hc0, List.cons_append, atI_0]
    rfl
  have f5 : Txt.slice (S (flat ts)) (some at_) (some (first + ((TL.numL i.natAbs).length : Nat))) = S (digI i) := by
    have e2 : first + ((TL.numL i.natAbs).length : Nat) = (((flat A).length + (digI i).length : Nat) : Int) := by rw [← hfirst, ha, hdig, List.length_append]; omega
    rw [e2, ha, Tx.slice_S, eT]
    congr 1
    rw [List.drop_left, Nat.add_sub_cancel_left, List.take_left]
  have f6 : dIntOf [.str (S (digI i))] = some (.int i) := by
    show (if (S (digI i)).length ≤ 640 then (intText? (S (digI i))).map D.int else none) = _
    rw [if_pos (by rw [SX.S_len, hdig, List.length_append, hprel]; split <;> omega), Tx.int_digI hi]
    rfl
  have f7 : first + ((TL.numL i.natAbs).length : Nat) = at_ + ((digI i).length : Nat) := by rw [← hfirst, hdig, List.length_append]; omega
  generalize hW : S (TL.numL i.natAbs ++ (flat B).take (2001 - (TL.numL i.natAbs).length)) = W at f2 f3 f4 hw0
  generalize hL : (TL.numL i.natAbs).length = L at *
  generalize hR : ((flat B).take (2001 - L)).length = R at *
  have hL0 : 0 < L := by rw [← hL, hc0]; exact Nat.zero_lt_succ _
  have g1 : W.length ≤ sizeLine := by
    have : (10000 : Nat) ≤ sizeLine := by decide
    omega
  have g2 : (Txt.lstripChars W (Str.ofString "0123456789")).length ≤ sizeLine := by rw [f3]; omega
  have g3 : ((W.length : Nat) : Int) - (((Txt.lstripChars W (Str.ofString "0123456789")).length : Nat) : Int) = (L : Int) := by rw [f3, hw0]; omega
  have c48 : c0 = 48 → L = 1 ∧ neg = false := fun q => by
    obtain ⟨z, hr⟩ := Tx.numL_head c0 r0 hc0 q
    refine ⟨by rw [← hL, hc0, hr]; rfl, ?_⟩
    rw [hneg]
    exact decide_eq_false (by omega)
  obtain ⟨Li, hLi⟩ : ∃ Li : Int, Li = (L : Int) := ⟨_, rfl⟩
  rw [← hLi] at g3 f5 f7
  have d0 : ¬ Li = 0 := by omega
  have d1 : ¬ (2000 : Int) < Li := by omega
  have hs48 : ∀ q : Prop, (S [c0] = S [48]) = (c0 = 48) := fun _ => propext ⟨fun z => by cases z; rfl, fun z => by rw [z]⟩
  cases neg with
  | true =>
    rw [f7] at f5
    have hf : at_ + 1 = first := by rw [← hfirst, hprel]; rfl
    have c1 : ¬ c0 = 48 := fun q => by have := (c48 q).2; cases this
    simp [m_Reader_integer, ev_runF, b_Reader_integer, rdr, look, n1, n2, mi_S, ze_S, f1, hf, f2, hsz, sz1, g1, g2, g3, f4, d0, d1, c1, f5, f6, f7]
  | false =>
    have hf : first = at_ := by rw [← hfirst, hprel]; simp
    rw [hf] at f2 f5 f7
    rw [f7] at f5
    have c1 : c0 = 48 → ¬ 1 < Li := fun q => by have := (c48 q).1; omega
    by_cases q : c0 = 48
    · have := c1 q
      simp [m_Reader_integer, ev_runF, b_Reader_integer, rdr, look, n1, n2, mi_S, ze_S, f1, f2, hsz, sz1, g1, g2, g3, f4, d0, d1, q, this, f5, f6, f7]
    · simp [m_Reader_integer, ev_runF, b_Reader_integer, rdr, look, n1, n2, mi_S, ze_S, f1, f2, hsz, sz1, g1, g2, g3, f4, d0, d1, q, f5, f6, f7]
end K37

set_option Elab.async false
set_option linter.all false
set_option maxRecDepth 100000
namespace K37
open PySem PySem.Spec PyProof.Rows L2 Mi Lw
open Tx (Tk flat tkOf digI r1 r2 veil)
open SX (S)
def EndOk (B : List Tk) : Prop := ∀ c, (flat B).head? = some c → c = 32 ∨ c = 41
theorem sign_at {ts A R : List Tk} {c : Nat} {r : List Nat} {at_ : Int} (e : ts = A ++ R) (hr : flat R = c :: r) (ha : at_ = ((flat A).length : Nat)) : Txt.slice (S (flat ts)) (some at_) (some (at_ + 1)) = S [c] := by
  rw [e, Tx.flat_append, hr, ha]
  exact Tx.slice_at
/-- the first sign of a value's text -/
theorem first_sign {n : Nat} {d : D} (h : Vd n d) : ∃ c r, flat (txt d) = c :: r ∧ c ≠ 41 ∧ c ≠ 32 := by
  cases d with
  | non => exact ⟨78, [], by rw [txt]; rfl, by decide, by decide⟩
  | bl b => cases b <;> exact ⟨_, [], by rw [txt]; rfl, by decide, by decide⟩
  | str s => exact ⟨34, _, by rw [txt, Tx.flat_cons]; rfl, by decide, by decide⟩
  | tup ds => exact ⟨40, _, by rw [txt, Tx.flat_cons]; rfl, by decide, by decide⟩
  | int i =>
    rw [txt, Tx.flat_c]
    unfold Tx.digI
    split
    · exact ⟨45, _, rfl, by decide, by decide⟩
    · cases q : TL.numL i.natAbs with
      | nil => exact (TL.numL_ne _ q).elim
      | cons c r =>
        have := Tx.digits_le c (by rw [q]; exact List.mem_cons_self ..)
        exact ⟨c, r, rfl, by omega, by omega⟩
  | lst _ => cases n <;> exact h.elim
  | dK _ _ => cases n <;> exact h.elim
  | dT _ _ => cases n <;> exact h.elim
  | scr _ => cases n <;> exact h.elim
  | ob _ _ _ => cases n <;> exact h.elim
def ValueOk (C : Addr) (n : Nat) : Prop := ∀ {m : Nat} {d : D} {ts A B : List Tk} {at_ dep : Int}, Vd n d → 2 * n + 1 ≤ m → TOk ts → ts = A ++ (txt d ++ B) → at_ = ((flat A).length : Nat) → EndOk B → dep + n ≤ 40 →
  Ev (m_Reader_value C m [.fr (rdr C ts), .fr (.int at_), .fr (.int dep)]) fun p => p = (.fr (.tup [d, .int (at_ + ((flat (txt d)).length : Nat))]), [.fr (rdr C ts), .fr (.int at_), .fr (.int dep)])
def RowOk (C : Addr) (n : Nat) : Prop := ∀ {m : Nat} {ds : List D} {ts A B : List Tk} {at_ dep : Int}, ds.length ≤ 1000 → (∀ d ∈ ds, Vd n d) → 2 * n + 2 ≤ m → TOk ts → ts = A ++ (txtL ds ++ .c 41 :: B) → at_ = ((flat A).length : Nat) → dep + n ≤ 40 →
  Ev (m_Reader_row C m [.fr (rdr C ts), .fr (.int at_), .fr (.int dep)]) fun p => p = (.fr (.tup [.tup ds, .int (at_ + ((flat (txtL ds)).length : Nat) + 1)]), [.fr (rdr C ts), .fr (.int at_), .fr (.int dep)])
theorem szT {ts : List Tk} (h : TOk ts) : (S (flat ts)).length ≤ sizeLine := by
  have : (100000 : Nat) ≤ sizeLine := by decide
  have := h.2
  rw [SX.S_len]
  omega
theorem S_one {a b : Nat} : (S [a] = S [b]) ↔ a = b := ⟨fun z => by cases z; rfl, fun z => by rw [z]⟩
/-- the row's turns: what is still to be read -/
def RI (C : Addr) (ts : List Tk) (B : List Tk) (ds : List D) (dep : Int) (k : Nat) (g : G) : Prop := ∃ don d rest A at_ c4 c5, g = [some (.fr (rdr C ts)), some (.fr (.int at_)), some (.fr (.int dep)), some (.lst (don.map O.fr)), c4, c5] ∧
  ds = don ++ d :: rest ∧ rest.length = k ∧ ts = A ++ (txt d ++ (txtR rest ++ .c 41 :: B)) ∧ at_ = ((flat A).length : Nat)
theorem row_of {C : Addr} {n : Nat} (hv : ValueOk C n) : RowOk C n := by
  intro m ds ts A B at_ dep hl hd hm hT e ha hdep
  obtain ⟨m, rfl⟩ : ∃ m', m = m' + 1 := ⟨m - 1, by omega⟩
  have hsz := szT hT
  cases ds with
  | nil =>
    have e' : ts = A ++ (.c 41 :: B) := by rw [e, txtL]; rfl
    have f1 : Txt.startswith3 (S (flat ts)) (S [41]) at_ = true := by
      rw [e', Tx.flat_append, Tx.flat_cons, ha]
      exact Tx.starts_S.trans (by rfl)
    have e2 : flat (txtL []) = [] := by rw [txtL]; rfl
    simp [m_Reader_row, ev_runF, b_Reader_row, rdr, look, n1, n2, cp_S, f1, e2]
  | cons d ds =>
    have e' : ts = A ++ (txt d ++ (txtR ds ++ .c 41 :: B)) := by rw [e, txtL, List.append_assoc]
    obtain ⟨c, r, hc, hc1, _⟩ := first_sign (hd d (List.mem_cons_self ..))
    have f1 : Txt.startswith3 (S (flat ts)) (S [41]) at_ = false := by
      rw [e', Tx.flat_append, Tx.flat_append, hc, ha]
      exact Tx.starts_S.trans (decide_eq_false hc1)
    simp [m_Reader_row, ev_runF, b_Reader_row, rdr, look, n1, n2, cp_S, f1]
    refine (while_go (RI C ts B (d :: ds) dep) (fun x => ∃ g1 g3 g4 g5, x = .rt (.fr (.tup [.tup (d :: ds), .int (at_ + ((flat (txtL (d :: ds))).length : Nat) + 1)])) [some (.fr (rdr C ts)), g1, some (.fr (.int dep)), g3, g4, g5]) ?_ ⟨[], d, ds, A, at_, none, none, rfl, rfl, rfl, e', ha⟩).mono ?_
    · rintro k g ⟨don, u, rest, A', a', c4, c5, rfl, eds, hk, et, ha'⟩
      have hu : Vd n u := hd u (by rw [eds]; exact List.mem_append_right _ (List.mem_cons_self ..))
      have hdl : don.length < sizeLine := by
        have h3 := congrArg List.length eds
        have : (1000 : Nat) < sizeLine := by decide
        simp at h3 hl
        omega
      simp [b_Reader_row_1]
      refine ⟨by simp [rdr, fl]; decide +kernel, ?_⟩
      refine (hv hu (by omega) hT et ha' ?_ hdep).mono ?_
      · intro c hc
        cases rest with
        | nil =>
          rw [txtR, List.nil_append, Tx.flat_cons] at hc
          right
          exact (Option.some.inj hc).symm
        | cons v rest =>
          rw [txtR, List.cons_append, Tx.flat_cons] at hc
          left
          exact (Option.some.inj hc).symm
      · rintro _ rfl
        generalize hb : a' + ((flat (txt u)).length : Nat) = b'
        have hb2 : b' = ((flat (A' ++ txt u)).length : Nat) := by rw [← hb, ha', Tx.flat_append, List.length_append, Int.natCast_add]
        have hap : List.map O.fr don ++ [O.fr u] = List.map O.fr (don ++ [u]) := by rw [List.map_append]; rfl
        cases rest with
        | nil =>
          have et2 : ts = (A' ++ txt u) ++ (.c 41 :: B) := by rw [et, txtR, List.nil_append, List.append_assoc]
          have hs : Txt.slice (S (flat ts)) (some b') (some (b' + 1)) = S [41] := sign_at et2 (Tx.flat_cons _ _) hb2
          have hlen : b' + 1 = at_ + ((flat (txtL (d :: ds))).length : Nat) + 1 := by
            have h1 := congrArg (fun l => (flat l).length) (e.symm.trans et2)
            simp only [Tx.flat_append, List.length_append] at h1
            rw [hb2, ha, Tx.flat_append, List.length_append]
            omega
          rw [hlen] at hs
          rw [eds] at hs hlen ⊢
          simp [hdl, hap, rdr, look, n1, n2, cp_S, sp_S, hsz, hs, erL_fr, hlen, -List.map_append]
        | cons v rest =>
          have et2 : ts = (A' ++ txt u) ++ (.c 32 :: (txt v ++ (txtR rest ++ .c 41 :: B))) := by
            rw [et, txtR, List.append_assoc, List.cons_append, List.append_assoc]
          have hs : Txt.slice (S (flat ts)) (some b') (some (b' + 1)) = S [32] := sign_at et2 (Tx.flat_cons _ _) hb2
          have h32 : ¬ (S [32] = S [41]) := fun z => by cases z
          simp [hdl, hap, rdr, look, n1, n2, cp_S, sp_S, hsz, hs, -List.map_append]
          refine ⟨rest.length, by rw [← hk]; exact Nat.lt_succ_self _, don ++ [u], v, rest, A' ++ txt u ++ [.c 32], b' + 1, _, _, rfl, by rw [eds, List.append_assoc]; rfl, rfl, by rw [et2, List.append_assoc (A' ++ txt u)]; rfl, ?_⟩
          rw [hb2, Tx.flat_append (A' ++ txt u), List.length_append, Int.natCast_add]
          rfl
    · rintro _ ⟨g1, g3, g4, g5, rfl⟩
      simp [rdr]
def tabW : List (Str × D) := [(Str.ofString "T", .bl true), (Str.ofString "F", .bl false), (Str.ofString "N", .non)]
theorem lookT : tabW.lookup (S [84]) = some (.bl true) := by
  have e : (S [84] == Str.ofString "T") = true := by decide +kernel
  simp [tabW, List.lookup, e]
theorem lookF : tabW.lookup (S [70]) = some (.bl false) := by
  have e1 : (S [70] == Str.ofString "T") = false := by decide +kernel
  have e : (S [70] == Str.ofString "F") = true := by decide +kernel
  simp [tabW, List.lookup, e, e1]
theorem lookN : tabW.lookup (S [78]) = some .non := by
  have e1 : (S [78] == Str.ofString "T") = false := by decide +kernel
  have e2 : (S [78] == Str.ofString "F") = false := by decide +kernel
  have e : (S [78] == Str.ofString "N") = true := by decide +kernel
  simp [tabW, List.lookup, e, e1, e2]
theorem lookNo {c : Nat} (h1 : c ≠ 84) (h2 : c ≠ 70) (h3 : c ≠ 78) : tabW.lookup (S [c]) = none := by
  have e1 : (S [c] == Str.ofString "T") = false := by rw [T_S]; simpa using fun z => h1 (S_one.mp z)
  have e2 : (S [c] == Str.ofString "F") = false := by rw [F_S]; simpa using fun z => h2 (S_one.mp z)
  have e3 : (S [c] == Str.ofString "N") = false := by rw [N_S]; simpa using fun z => h3 (S_one.mp z)
  simp [tabW, List.lookup, e1, e2, e3]
theorem value_step {C : Addr} {n : Nat} (hr : ∀ n', n = n' + 1 → RowOk C n') : ValueOk C n := by
  intro m d ts A B at_ dep hd hm hT e ha hB hdep
  obtain ⟨m, rfl⟩ : ∃ m', m = m' + 1 := ⟨m - 1, by omega⟩
  have hsz := szT hT
  obtain ⟨c, r, hc, _, _⟩ := first_sign hd
  have hs : Txt.slice (S (flat ts)) (some at_) (some (at_ + 1)) = S [c] := sign_at e (by rw [Tx.flat_append, hc, List.cons_append]) ha
  have ht : [(Str.ofString "T", D.bl true), (Str.ofString "F", D.bl false), (Str.ofString "N", D.non)] = tabW := rfl
  cases d with
  | non =>
    have : c = 78 := by rw [txt] at hc; exact (List.cons.inj hc).1.symm
    subst this
    have e2 : flat (txt .non) = [78] := by rw [txt]; rfl
    have q1 : ¬ (S [78] = S [34]) := fun z => by cases z
    have q2 : ¬ (S [78] = S [40]) := fun z => by cases z
    simp [m_Reader_value, ev_runF, b_Reader_value, rdr, look, n1, n2, qt_S, op_S, hsz, hs, q1, q2, ht, lookN, e2]
  | bl b =>
    cases b with
    | true =>
      have : c = 84 := by rw [txt] at hc; exact (List.cons.inj hc).1.symm
      subst this
      have e2 : flat (txt (.bl true)) = [84] := by rw [txt]; rfl
      have q1 : ¬ (S [84] = S [34]) := fun z => by cases z
      have q2 : ¬ (S [84] = S [40]) := fun z => by cases z
      simp [m_Reader_value, ev_runF, b_Reader_value, rdr, look, n1, n2, qt_S, op_S, hsz, hs, q1, q2, ht, lookT, e2]
    | false =>
      have : c = 70 := by rw [txt] at hc; exact (List.cons.inj hc).1.symm
      subst this
      have e2 : flat (txt (.bl false)) = [70] := by rw [txt]; rfl
      have q1 : ¬ (S [70] = S [34]) := fun z => by cases z
      have q2 : ¬ (S [70] = S [40]) := fun z => by cases z
      simp [m_Reader_value, ev_runF, b_Reader_value, rdr, look, n1, n2, qt_S, op_S, hsz, hs, q1, q2, ht, lookF, e2]
  | int i =>
    have hi : i.natAbs < 10 ^ 100 := by cases n <;> exact hd
    have e2 : flat (txt (.int i)) = digI i := by rw [txt, Tx.flat_c]
    have hcc : c = 45 ∨ (48 ≤ c ∧ c ≤ 57) := by
      rw [e2] at hc
      unfold Tx.digI at hc
      split at hc
      · left
        exact (List.cons.inj hc).1.symm
      · right
        exact Tx.digits_le c (by rw [hc]; exact List.mem_cons_self ..)
    have q1 : ¬ (S [c] = S [34]) := fun z => by have := S_one.mp z; omega
    have q2 : ¬ (S [c] = S [40]) := fun z => by have := S_one.mp z; omega
    have q3 : tabW.lookup (S [c]) = none := lookNo (by omega) (by omega) (by omega)
    have e3 : ts = A ++ ((digI i).map .c ++ B) := by rw [e, txt]
    simp [m_Reader_value, ev_runF, b_Reader_value, rdr, look, n1, n2, qt_S, op_S, hsz, hs, q1, q2, ht, q3]
    refine ⟨by first | decide +kernel | (simp [fl]; decide +kernel), ?_⟩
    refine (integer_spec hT e3 ha (fun c hc => by have := hB c hc; omega) hi).mono ?_
    rintro _ rfl
    simp [rdr, e2]
  | str s =>
    obtain ⟨l, rfl⟩ : ∃ l, s = S l := ⟨s.cps.toList, (SX.S_tl s).symm⟩
    have hl : ∀ c ∈ l, Pch c := by cases n <;> exact hd
    have e2 : flat (txt (.str (S l))) = 34 :: (flat (l.map tkOf) ++ [34]) := by rw [txt, Tx.flat_cons, Tx.flat_append]; rfl
    have : c = 34 := by rw [e2] at hc; exact (List.cons.inj hc).1.symm
    subst this
    have e3 : ts = (A ++ [.c 34]) ++ (l.map tkOf ++ .c 34 :: B) := by
      rw [e, txt]
      show A ++ (Tk.c 34 :: (l.map tkOf ++ [Tk.c 34]) ++ B) = _
      simp
    have ha2 : at_ + 1 = ((flat (A ++ [.c 34])).length : Nat) := by rw [Tx.flat_append, List.length_append, ha, Int.natCast_add]; rfl
    simp [m_Reader_value, ev_runF, b_Reader_value, rdr, look, n1, n2, qt_S, op_S, hsz, hs]
    refine ⟨by first | decide +kernel | (simp [fl]; decide +kernel), ?_⟩
    refine (string_spec hT e3 ha2 hl).mono ?_
    rintro _ rfl
    have : at_ + 1 + ((flat (l.map tkOf)).length : Nat) + 1 = at_ + ((flat (txt (.str (S l)))).length : Nat) := by
      rw [e2, List.length_cons, List.length_append]
      simp
      omega
    simp [rdr, this]
  | tup ds =>
    cases n with
    | zero => exact hd.elim
    | succ n =>
      have e2 : flat (txt (.tup ds)) = 40 :: (flat (txtL ds) ++ [41]) := by rw [txt, Tx.flat_cons, Tx.flat_append]; rfl
      have : c = 40 := by rw [e2] at hc; exact (List.cons.inj hc).1.symm
      subst this
      have e3 : ts = (A ++ [.c 40]) ++ (txtL ds ++ .c 41 :: B) := by
        rw [e, txt]
        show A ++ (Tk.c 40 :: (txtL ds ++ [Tk.c 41]) ++ B) = _
        simp
      have ha2 : at_ + 1 = ((flat (A ++ [.c 40])).length : Nat) := by rw [Tx.flat_append, List.length_append, ha, Int.natCast_add]; rfl
      have q1 : ¬ (S [40] = S [34]) := fun z => by cases z
      have hdd : ¬ dep = 40 := by omega
      simp [m_Reader_value, ev_runF, b_Reader_value, rdr, look, n1, n2, qt_S, op_S, hsz, hs, q1, hdd]
      refine ⟨by first | decide +kernel | (simp [fl]; decide +kernel), ?_⟩
      refine (hr n rfl hd.1 hd.2 (by omega) hT e3 ha2 (by omega)).mono ?_
      rintro _ rfl
      have : at_ + 1 + ((flat (txtL ds)).length : Nat) + 1 = at_ + ((flat (txt (.tup ds))).length : Nat) := by
        rw [e2, List.length_cons, List.length_append]
        simp
        omega
      simp [rdr, this]
  | lst _ => cases n <;> exact hd.elim
  | dK _ _ => cases n <;> exact hd.elim
  | dT _ _ => cases n <;> exact hd.elim
  | scr _ => cases n <;> exact hd.elim
  | ob _ _ _ => cases n <;> exact hd.elim
theorem value_ok (C : Addr) : ∀ n : Nat, ValueOk C n
  | 0 => value_step fun n' h => by cases h
  | n + 1 => value_step fun n' h => by
    cases h
    exact row_of (value_ok C n)
end K37

set_option Elab.async false
set_option linter.all false
set_option maxRecDepth 100000
namespace K37
open PySem PySem.Spec PyProof.Rows L2 Mi Lw
open Tx (Tk flat tkOf digI r1 r2 veil)
open SX (S)
theorem digI_ok {i : Int} : ∀ c ∈ digI i, c ≠ 92 := by
  intro c hc
  unfold Tx.digI at hc
  split at hc
  · rcases List.mem_cons.mp hc with rfl | hc
    · decide
    · have := Tx.digits_le c hc
      omega
  · have := Tx.digits_le c hc
    omega
mutual
theorem txt_ok : ∀ (d : D), ∀ t ∈ txt d, t.ok
  | .non, t, h => by
    rw [txt] at h
    cases List.mem_singleton.mp h
    show (78 : Nat) ≠ 92
    decide
  | .bl b, t, h => by
    rw [txt] at h
    cases List.mem_singleton.mp h
    show (if b = true then 84 else 70) ≠ 92
    cases b <;> decide
  | .int i, t, h => by
    rw [txt] at h
    obtain ⟨c, hc, rfl⟩ := List.mem_map.mp h
    exact digI_ok c hc
  | .str s, t, h => by
    rw [txt] at h
    rcases List.mem_cons.mp h with rfl | h
    · show (34 : Nat) ≠ 92
      decide
    · rcases List.mem_append.mp h with h | h
      · obtain ⟨c, hc, rfl⟩ := List.mem_map.mp h
        exact Tx.tkOf_ok c
      · cases List.mem_singleton.mp h
        show (34 : Nat) ≠ 92
        decide
  | .tup ds, t, h => by
    rw [txt] at h
    rcases List.mem_cons.mp h with rfl | h
    · show (40 : Nat) ≠ 92
      decide
    · rcases List.mem_append.mp h with h | h
      · exact txtL_ok ds t h
      · cases List.mem_singleton.mp h
        show (41 : Nat) ≠ 92
        decide
  | .lst _, t, h => by simp [txt] at h
  | .dK _ _, t, h => by simp [txt] at h
  | .dT _ _, t, h => by simp [txt] at h
  | .scr _, t, h => by simp [txt] at h
  | .ob _ _ _, t, h => by simp [txt] at h
theorem txtL_ok : ∀ (ds : List D), ∀ t ∈ txtL ds, t.ok
  | [], t, h => by rw [txtL] at h; cases h
  | d :: ds, t, h => by
    rw [txtL] at h
    rcases List.mem_append.mp h with h | h
    · exact txt_ok d t h
    · exact txtR_ok ds t h
theorem txtR_ok : ∀ (ds : List D), ∀ t ∈ txtR ds, t.ok
  | [], t, h => by rw [txtR] at h; cases h
  | d :: ds, t, h => by
    rw [txtR] at h
    rcases List.mem_cons.mp h with rfl | h
    · show (32 : Nat) ≠ 92
      decide
    · rcases List.mem_append.mp h with h | h
      · exact txt_ok d t h
      · exact txtR_ok ds t h
end
theorem read_spec {C : Addr} {n : Nat} {d : D} (hd : Vd n d) (hn : n ≤ 40) (hl : (flat (txt d)).length ≤ 100000) : Ev (m_read_plain C [.fr (.str (S (flat (txt d))))]) fun p => p = (.fr d, [.fr (.str (S (flat (txt d))))]) := by
  have hT : TOk (txt d) := ⟨txt_ok d, hl⟩
  simp [m_read_plain, ev_runF, b_read_plain]
  refine (init_spec hT).mono ?_
  rintro _ rfl
  have hq : ∀ ts, (O.ob C fl [.fr (.str (S (flat ts))), .fr (.str (S (veil ts)))]).er = rdr C ts := fun ts => by simp [rdr]
  simp
  refine ⟨by first | decide +kernel | (simp [fl]; decide +kernel), ?_⟩
  have hv := value_ok C n (m := 90) (d := d) (ts := txt d) (A := []) (B := []) (at_ := 0) (dep := 0) hd (by omega) hT (by simp) rfl (fun c hc => by simp [Tx.flat_nil] at hc) (by omega)
  refine Ev.mono (show Ev (m_Reader_value_90 C [.fr (rdr C (txt d)), .fr (.int 0), .fr (.int 0)]) _ from hv) ?_
  rintro _ rfl
  have hsz : (S (flat (txt d))).length ≤ sizeLine := szT hT
  have hln : ((S (flat (txt d))).length : Int) = ((flat (txt d)).length : Nat) := by rw [SX.S_len]
  simp [hsz, hln]
/-! ### the digits -/
theorem digits_spec' {ns : List Int} {lo hi : Int} (h0 : 0 ≤ lo) (h1 : lo < 2 ^ 62) (h2 : -(2 ^ 62) ≤ hi) (h3 : hi < 2 ^ 62) : Ev (m__law_digits [.fr (.scr ns), .fr (.int lo), .fr (.int hi)]) fun p => ∃ ds, p.1 = .lst (iO ds) ∧ Dig ds ∧ ds.length ≤ 1600 ∧ p.2 = [.fr (.scr ns), .fr (.int lo), .fr (.int hi)] := by
  simp [m__law_digits, ev_runF, b__law_digits]
  refine ⟨⟨by omega, by omega, by omega⟩, ?_⟩
  refine (forL_goes (P := DP ns lo hi) ⟨[], none, none, none, none, rfl, fun _ h => absurd h (List.not_mem_nil), by decide⟩ ?_).mono ?_
  · rintro d hd g ⟨ds, a, b, c, e, rfl, dg, dl⟩
    obtain ⟨q, hq, rfl⟩ : ∃ q : Int, 0 ≤ q ∧ d = .int q := by
      obtain ⟨k, hk, rfl⟩ := mem_rgD.mp hd
      exact ⟨_, by omega, rfl⟩
    have hc := cell_spec (ns := ns) hq
    by_cases hb : (1500 : Int) < ds.length
    · simp [b__law_digits_1, hb]
      exact ⟨ds, _, _, _, _, rfl, dg, dl⟩
    · simp [b__law_digits_1, hb]
      refine hc.mono ?_
      rintro ⟨o, os⟩ ⟨z, h1, h2⟩
      cases h1
      cases h2
      simp
      refine Ev.mono (Q := fun a => ∃ y : Int, a = .nx [some (.fr (.scr ns)), some (.fr (.int lo)), some (.fr (.int hi)), some (.lst (iO ds)), some (.fr (.int q)), some (.fr (.int y)), c, e]) (Ev.ite (fun _ => by simp) (fun _ => by simp)) ?_
      rintro _ ⟨y, rfl⟩
      by_cases hy : (1000000000000000000 : Int) ≤ y
      · simp [hy]
        exact loop2 dg (by omega)
      · simp [hy]
        exact loop3 dg (by omega)
  · rintro x ⟨g, rfl, ds, a, b, c, d, rfl, dg, dl⟩
    simp
    exact ⟨ds, rfl, dg, dl⟩
end K37

set_option Elab.async false
set_option linter.all false
set_option maxRecDepth 100000
namespace K37
open PySem PySem.Spec PyProof.Rows L2 Mi Lw
open Tx (Tk flat tkOf digI r1 r2 veil)
open SX (S)
def Lb : Nat → Nat
  | 0 => 30
  | n + 1 => 3 * Lb n + 4
theorem Lb_mono (n : Nat) : 30 ≤ Lb n := by
  induction n with
  | zero => exact Nat.le_refl _
  | succ n ih => show 30 ≤ 3 * Lb n + 4; omega
def Good (n : Nat) (d : D) : Prop := Vd n d ∧ (flat (txt d)).length ≤ Lb n
theorem good_int {n : Nat} {i : Int} (h : i.natAbs < 10 ^ 20) : Good n (.int i) := by
  have h1 : i.natAbs < 10 ^ 100 := Nat.lt_of_lt_of_le h (by decide)
  refine ⟨by cases n <;> exact h1, ?_⟩
  have hl : (TL.numL i.natAbs).length ≤ 20 := TL.numL_len (by decide) h
  have := Lb_mono n
  rw [txt, Tx.flat_c]
  unfold Tx.digI
  split
  · simp; omega
  · omega
theorem good_non {n : Nat} : Good n .non := ⟨by cases n <;> exact trivial, by rw [txt]; exact Nat.le_trans (by decide) (Lb_mono n)⟩
theorem good_bl {n : Nat} {b : Bool} : Good n (.bl b) := ⟨by cases n <;> exact trivial, by rw [txt]; exact Nat.le_trans (show 1 ≤ 30 by decide) (Lb_mono n)⟩
theorem tk_len2 : ∀ l : List Nat, (flat (l.map tkOf)).length ≤ 2 * l.length
  | [] => Nat.le_refl _
  | c :: l => by
    have ih := tk_len2 l
    rw [List.map_cons, Tx.flat_cons, List.length_append, List.length_cons]
    have : (tkOf c).raw.length ≤ 2 := by cases tkOf c <;> simp [Tk.raw]
    omega
theorem good_str {n : Nat} {l : List Nat} (h : ∀ c ∈ l, Pch c) (hl : l.length ≤ 8) : Good n (.str (S l)) := by
  refine ⟨by cases n <;> exact h, ?_⟩
  have e2 : flat (txt (.str (S l))) = 34 :: (flat (l.map tkOf) ++ [34]) := by rw [txt, Tx.flat_cons, Tx.flat_append]; rfl
  have := tk_len2 l
  have := Lb_mono n
  rw [e2]
  simp
  omega
theorem len_txtR : ∀ {n : Nat} {ds : List D}, (∀ d ∈ ds, Good n d) → (flat (txtR ds)).length ≤ ds.length * (Lb n + 1)
  | n, [], _ => by rw [txtR]; exact Nat.zero_le _
  | n, d :: ds, h => by
    have ih := len_txtR (n := n) (ds := ds) fun e he => h e (List.mem_cons_of_mem _ he)
    have h1 := (h d (List.mem_cons_self ..)).2
    rw [txtR, Tx.flat_cons, Tx.flat_append, List.length_append, List.length_append, List.length_cons, Nat.succ_mul]
    have : (Tk.raw (.c 32)).length = 1 := rfl
    omega
theorem good_tup {n : Nat} {ds : List D} (h : ∀ d ∈ ds, Good n d) (hl : ds.length ≤ 3) : Good (n + 1) (.tup ds) := by
  refine ⟨⟨by omega, fun d hd => (h d hd).1⟩, ?_⟩
  have e2 : flat (txt (.tup ds)) = 40 :: (flat (txtL ds) ++ [41]) := by rw [txt, Tx.flat_cons, Tx.flat_append]; rfl
  have h30 := Lb_mono n
  rw [e2]
  show (flat (txtL ds) ++ [41]).length + 1 ≤ 3 * Lb n + 4
  rw [List.length_append]
  cases ds with
  | nil => rw [txtL]; simp [Tx.flat_nil]
  | cons d ds =>
    have a1 := (h d (List.mem_cons_self ..)).2
    have a2 := len_txtR (n := n) (ds := ds) fun e he => h e (List.mem_cons_of_mem _ he)
    have a3 : ds.length * (Lb n + 1) ≤ 2 * (Lb n + 1) := Nat.mul_le_mul_right _ (by simp at hl; omega)
    rw [txtL, Tx.flat_append, List.length_append]
    simp
    omega
/-- the signs that are drawn -/
theorem signs_ok : ∀ c ∈ (Str.ofString " !\"#$&'()*+,-./0189:;<=>?@AZ[\\]^_`az{|}~\nnTFN").cps.toList, Pch c := by
  have h : (Str.ofString " !\"#$&'()*+,-./0189:;<=>?@AZ[\\]^_`az{|}~\nnTFN").cps.toList.all (fun c => (decide (32 ≤ c) && decide (c ≤ 126)) || decide (c = 10)) = true := by decide +kernel
  intro c hc
  have := List.all_eq_true.mp h c hc
  unfold Pch
  simpa using this
def sg : Str := Str.ofString " !\"#$&'()*+,-./0189:;<=>?@AZ[\\]^_`az{|}~\nnTFN"
theorem sg_len : sg.length = 45 := by decide +kernel
theorem sg_len2 : sg.cps.toList.length = 45 := by decide +kernel
theorem sg_eq : Str.ofString " !\"#$&'()*+,-./0189:;<=>?@AZ[\\]^_`az{|}~\nnTFN" = sg := rfl
theorem sg_pick (z : Int) : ∃ c ∈ sg.cps.toList, dIx (.str sg) (.int (z.fmod 45)) = some (.str ⟨#[c]⟩) := by
  obtain ⟨k, hk, hl⟩ : ∃ k : Nat, z.fmod 45 = k ∧ k < 45 := by
    rw [Int.fmod_eq_emod_of_nonneg _ (by omega)]
    exact ⟨(z % 45).toNat, by omega, by omega⟩
  have hl' : k < sg.cps.toList.length := by rw [sg_len2]; exact hl
  have h1 : sg.length ≤ sizeLine := by rw [sg_len]; decide
  refine ⟨sg.cps.toList[k], List.getElem_mem hl', ?_⟩
  rw [hk]
  show (if sg.length ≤ sizeLine then (atI sg.cps.toList (k : Int)).map fun c => D.str ⟨#[c]⟩ else none) = _
  rw [if_pos h1, atI_lt hl', List.getElem?_eq_getElem hl']
  rfl
theorem pick3 {n : Nat} {v : Int} (h0 : 0 ≤ v) (h1 : v < 3) : ∃ d, dIx (D.lst [.non, .bl true, .bl false]) (.int v) = some d ∧ Good n d := by
  have : v = (0 : Nat) ∨ v = (1 : Nat) ∨ v = (2 : Nat) := by omega
  rcases this with rfl | rfl | rfl
  · exact ⟨_, (atI_lt (by decide)).trans rfl, good_non⟩
  · exact ⟨_, (atI_lt (by decide)).trans rfl, good_bl⟩
  · exact ⟨_, (atI_lt (by decide)).trans rfl, good_bl⟩
theorem pick4 {n : Nat} {v a b c d : Int} (h0 : 0 ≤ v) (h1 : v < 4) (ha : a.natAbs < 10 ^ 20) (hb : b.natAbs < 10 ^ 20) (hc : c.natAbs < 10 ^ 20) (hd : d.natAbs < 10 ^ 20) : ∃ e, dIx (D.lst [.int a, .int b, .int c, .int d]) (.int v) = some e ∧ Good n e := by
  have : v = (0 : Nat) ∨ v = (1 : Nat) ∨ v = (2 : Nat) ∨ v = (3 : Nat) := by omega
  rcases this with rfl | rfl | rfl | rfl
  · exact ⟨_, (atI_lt (by simp)).trans rfl, good_int ha⟩
  · exact ⟨_, (atI_lt (by simp)).trans rfl, good_int hb⟩
  · exact ⟨_, (atI_lt (by simp)).trans rfl, good_int hc⟩
  · exact ⟨_, (atI_lt (by simp)).trans rfl, good_int hd⟩
def OkO (n : Nat) (o : O) : Prop := ∃ d, o = .fr d ∧ Good n d
theorem all_fr {n : Nat} : ∀ {os : List O}, (∀ o ∈ os, OkO n o) → ∃ ds : List D, os = ds.map O.fr ∧ ∀ d ∈ ds, Good n d
  | [], _ => ⟨[], rfl, fun _ h => absurd h (List.not_mem_nil)⟩
  | o :: os, h => by
    obtain ⟨d, rfl, hd⟩ := h o (List.mem_cons_self ..)
    obtain ⟨ds, rfl, hs⟩ := all_fr fun o ho => h o (List.mem_cons_of_mem _ ho)
    exact ⟨d :: ds, rfl, fun e he => by
      rcases List.mem_cons.mp he with rfl | he
      · exact hd
      · exact hs e he⟩
def VP (ds : List Int) (n : Nat) (deep : Int) (p : O × List O) : Prop := ∃ d a', p = (.fr d, [bx ds a', .fr (.int deep)]) ∧ 0 ≤ a' ∧ Good n d
def VG (ds : List Int) (deep : Int) (g : G) : Prop := ∃ a c1 c2 c3 c4, g = [some (bx ds a), some (.fr (.int deep)), c1, c2, c3, c4] ∧ 0 ≤ a
def VS (ds : List Int) (deep : Int) (g : G) : Prop := ∃ a c1 c2 c3, g = [some (bx ds a), some (.fr (.int deep)), c1, c2, some (.fr (.str sg)), c3] ∧ 0 ≤ a
def OkC (o : O) : Prop := ∃ c ∈ sg.cps.toList, o = .fr (.str (S [c]))
theorem all_ch : ∀ {os : List O}, (∀ o ∈ os, OkC o) → ∃ l : List Nat, os = (l.map fun c => D.str (S [c])).map O.fr ∧ ∀ c ∈ l, c ∈ sg.cps.toList
  | [], _ => ⟨[], rfl, fun _ h => absurd h (List.not_mem_nil)⟩
  | o :: os, h => by
    obtain ⟨c, hc, rfl⟩ := h o (List.mem_cons_self ..)
    obtain ⟨l, rfl, hs⟩ := all_ch fun o ho => h o (List.mem_cons_of_mem _ ho)
    exact ⟨c :: l, rfl, fun e he => by
      rcases List.mem_cons.mp he with rfl | he
      · exact hc
      · exact hs e he⟩
theorem join_nil : ∀ l : List Nat, TL.joinL [] (l.map fun c => [c]) = l
  | [] => rfl
  | [c] => rfl
  | c :: d :: l => by
    have ih := join_nil (d :: l)
    show [c] ++ [] ++ TL.joinL [] ((d :: l).map fun c => [c]) = _
    rw [ih]
    rfl
theorem sum_one (l : List Nat) : ((l.map fun c => [c]).map List.length).sum = l.length := by
  induction l with
  | nil => rfl
  | cons c l ih => simp only [List.map_cons, List.sum_cons, ih, List.length_cons, List.length_nil]; omega
theorem strsOf_ch : ∀ l : List Nat, strsOf (l.map fun c => .str (S [c])) = some (l.map fun c => S [c])
  | [] => rfl
  | c :: l => by
    show (strsOf (l.map fun c => .str (S [c]))).map _ = _
    rw [strsOf_ch l]
    rfl
theorem join_ch {l : List Nat} (h : l.length ≤ 1000) : dJoin (Str.ofString "") [.lst (l.map fun c => .str (S [c]))] = some (.str (S l)) := by
  show ((strsOf (l.map fun c => .str (S [c]))).bind fun ys => if (ys.map (·.length)).sum + ys.length * (Str.ofString "").length ≤ 16777216 then some (D.str (Txt.join (Str.ofString "") ys)) else none) = _
  rw [strsOf_ch]
  show (if ((l.map fun c => S [c]).map (·.length)).sum + (l.map fun c => S [c]).length * (Str.ofString "").length ≤ 16777216 then some (D.str (Txt.join (Str.ofString "") (l.map fun c => S [c]))) else none) = _
  have e1 : (l.map fun c => S [c]) = (l.map fun c => [c]).map S := by rw [List.map_map]; rfl
  have e2 : (Str.ofString "").length = 0 := by decide +kernel
  have e3 : Str.ofString "" = S [] := rfl
  have : ((l.map fun c => [c]).map (·.length)).sum = l.length := sum_one l
  rw [e1, SX.lens, e2, if_pos (by omega), e3, SX.join_S, join_nil]
theorem drawn_spec {ds : List Int} : ∀ {m n : Nat} {deep a : Int}, 0 ≤ a → deep = (n : Int) → n < m → Ev (m__law_value m [bx ds a, .fr (.int deep)]) (VP ds n deep)
  | 0, n, _, _, _, _, h => absurd h (Nat.not_lt_zero _)
  | m + 1, n, deep, a, ha, hd, hm => by
    simp [m__law_value, ev_runF, b__law_value]
    refine (draw_spec ha (by decide)).mono ?_
    rintro _ ⟨kd, rfl, k0, k1⟩
    simp
    by_cases c1 : kd < 3 ∧ 0 < deep
    · obtain ⟨n, rfl⟩ : ∃ n', n = n' + 1 := ⟨n - 1, by omega⟩
      simp [c1.1, c1.2]
      refine (draw_spec (by omega) (by decide)).mono ?_
      rintro _ ⟨q, rfl, q0, q1⟩
      simp
      refine ⟨⟨by omega, by omega⟩, ?_⟩
      refine (lcL_all (P := VG ds deep) (R := OkO n) ⟨_, _, _, _, _, rfl, by omega⟩ (fun _ h => absurd h (List.not_mem_nil)) ?_ ?_).mono ?_
      · rintro d hd2 g ⟨a2, c1, c2, c3, c4, rfl, ha2⟩
        simp
        refine (drawn_spec (m := m) (n := n) (deep := deep - 1) ha2 (by omega) (by omega)).mono ?_
        rintro _ ⟨d, a3, rfl, h3, h4⟩
        simp
        exact ⟨⟨d, rfl, h4⟩, _, _, _, _, _, rfl, h3⟩
      · rw [rgD_len]
        have : (1000 : Nat) ≤ sizeLine := by decide
        simp
        omega
      · rintro ⟨os, g⟩ ⟨h1, h2, a2, c1, c2, c3, c4, rfl, h3⟩
        obtain ⟨es, e1, e2⟩ := all_fr (os := os) h1
        have e1 : os = es.map O.fr := e1
        have h2 : os.length = [].length + (rgD 0 q.toNat).length := h2
        rw [rgD_len] at h2
        subst e1
        simp [erL_fr]
        exact ⟨_, a2, rfl, h3, good_tup e2 (by simp at h2; omega)⟩
    · have c1' : ¬ (kd < 3 ∧ 0 < deep) := c1
      have e1 : ∀ g : G, (if kd < 3 then some (decide (0 < deep), g) else some (false, g)) = some (false, g) := fun g => by
        by_cases h : kd < 3
        · rw [if_pos h, decide_eq_false fun z => c1 ⟨h, z⟩]
        · rw [if_neg h]
      simp [e1]
      by_cases k3 : kd = 3
      · simp [k3]
        refine (draw_spec (by omega) (by decide)).mono ?_
        rintro _ ⟨q, rfl, q0, q1⟩
        obtain ⟨d, e2, h2⟩ := pick3 (n := n) q0 q1
        simp [e2]
        exact ⟨_, _, rfl, by omega, h2⟩
      by_cases k4 : kd = 4
      · simp [k3, k4]
        refine (draw_spec (by omega) (by decide)).mono ?_
        rintro _ ⟨q, rfl, q0, q1⟩
        simp
        refine (draw_spec (by omega) (by decide)).mono ?_
        rintro _ ⟨r, rfl, r0, r1⟩
        simp
        refine (draw_spec (by omega) (by decide)).mono ?_
        rintro _ ⟨v, rfl, v0, v1⟩
        obtain ⟨d, e2, h2⟩ := pick4 (n := n) (a := q * 10000000000000000 + r - 450) (b := -(q * 10000000000000000 + r - 450)) (c := 10000000000000000000 + (q * 10000000000000000 + r - 450)) (d := 0) v0 v1 (by omega) (by omega) (by omega) (by omega)
        simp [e2]
        exact ⟨_, _, rfl, by omega, h2⟩
      by_cases k5 : kd = 5
      · simp [k3, k4, k5]
        refine (draw_spec (by omega) (by decide)).mono ?_
        rintro _ ⟨q, rfl, q0, q1⟩
        simp
        exact ⟨_, _, rfl, by omega, good_int (by omega)⟩
      · simp [k3, k4, k5, sg_eq]
        refine (draw_spec (by omega) (by decide)).mono ?_
        rintro _ ⟨q, rfl, q0, q1⟩
        simp
        refine ⟨⟨by omega, by omega⟩, ?_⟩
        refine (lcL_all (P := VS ds deep) (R := OkC) ⟨_, _, _, _, rfl, by omega⟩ (fun _ h => absurd h (List.not_mem_nil)) ?_ ?_).mono ?_
        · rintro d hd2 g ⟨a2, c1, c2, c3, rfl, ha2⟩
          simp
          refine (draw_spec (by omega) (by decide)).mono ?_
          rintro _ ⟨v, rfl, v0, v1⟩
          obtain ⟨c, hc, e2⟩ := sg_pick v
          simp [sg_len, e2]
          exact ⟨⟨c, hc, rfl⟩, _, _, _, _, rfl, by omega⟩
        · rw [rgD_len]
          have : (1000 : Nat) ≤ sizeLine := by decide
          simp
          omega
        · rintro ⟨os, g⟩ ⟨h1, h2, a2, c1, c2, c3, rfl, h3⟩
          have h2 : os.length = [].length + (rgD 0 q.toNat).length := h2
          rw [rgD_len] at h2
          obtain ⟨l, e1, e2⟩ := all_ch (os := os) h1
          have e1 : os = (l.map fun c => D.str (S [c])).map O.fr := e1
          subst e1
          have e3 : dJoin (Str.ofString "") [.lst (l.map fun c => D.str (S [c]))] = some (.str (S l)) := join_ch (by simp at h2; omega)
          have e4 : l.length = q.toNat := by simpa using h2
          generalize (l.map fun c => D.str (S [c])) = es at e3 ⊢
          simp [erL_fr, e3]
          exact ⟨_, a2, rfl, h3, good_str (fun c hc => signs_ok c (e2 c hc)) (by omega)⟩
end K37

set_option Elab.async false
set_option linter.all false
set_option maxRecDepth 100000
namespace K37
open PySem PySem.Spec PyProof.Rows L2 Mi Lw
open Tx (Tk flat tkOf digI r1 r2 veil)
open SX (S)
def GoodW (k : Nat) (d : D) : Prop := Vd (4 + k) d ∧ (flat (txt d)).length ≤ Lb 4 + 2 * k
theorem good_wrap {k : Nat} {d : D} (h : GoodW k d) : GoodW (k + 1) (.tup [d]) := by
  refine ⟨⟨by simp, fun e he => ?_⟩, ?_⟩
  · cases List.mem_singleton.mp he
    exact h.1
  · have e2 : flat (txt (.tup [d])) = 40 :: (flat (txtL [d]) ++ [41]) := by rw [txt, Tx.flat_cons, Tx.flat_append]; rfl
    have := h.2
    rw [e2, txtL, txtR, List.append_nil]
    simp
    omega
theorem same_str {m : Nat} {s : Str} : Ev (m__law_same (m + 1) [.fr (.str s), .fr (.str s)]) fun p => p = (.fr (.bl true), [.fr (.str s), .fr (.str s)]) := by
  simp [m__law_same, ev_runF, b__law_same]
theorem pick36 {v : Int} (h0 : 0 ≤ v) (h1 : v < 4) : ∃ k : Nat, dIx (D.lst [.int 0, .int 0, .int 0, .int 36]) (.int v) = some (.int (k : Int)) ∧ k ≤ 36 := by
  have : v = (0 : Nat) ∨ v = (1 : Nat) ∨ v = (2 : Nat) ∨ v = (3 : Nat) := by omega
  rcases this with rfl | rfl | rfl | rfl
  · exact ⟨0, (atI_lt (by simp)).trans rfl, by decide⟩
  · exact ⟨0, (atI_lt (by simp)).trans rfl, by decide⟩
  · exact ⟨0, (atI_lt (by simp)).trans rfl, by decide⟩
  · exact ⟨36, (atI_lt (by simp)).trans rfl, by decide⟩
def LP (ns ds : List Int) (g : G) : Prop := ∃ a c2 c3 c4 c5, g = [some (.fr (.scr ns)), some (bx ds a), c2, c3, c4, c5] ∧ 0 ≤ a
def WP (ns ds : List Int) (a : Int) (k : Nat) (g : G) : Prop := ∃ c2 d c4 c5, g = [some (.fr (.scr ns)), some (bx ds a), c2, some (.fr d), c4, c5] ∧ GoodW k d
theorem turn_spec {C : Addr} {ns ds : List Int} {i : Int} {g : G} (p : LP ns ds g) : Ev (gN 2 (.fr (.int i)) g) fun g1 => Ev (b_law_1 C g1) (Turn (LP ns ds)) := by
  obtain ⟨a, c2, c3, c4, c5, rfl, ha⟩ := p
  simp [b_law_1, m__law_value_8]
  refine (drawn_spec (m := 8) (n := 4) (deep := 4) ha (by decide) (by decide)).mono ?_
  rintro _ ⟨d, a1, rfl, h1, hd⟩
  simp
  refine (draw_spec h1 (by decide)).mono ?_
  rintro _ ⟨v, rfl, v0, v1⟩
  obtain ⟨k, e1, hk⟩ := pick36 v0 v1
  simp [e1]
  refine ⟨by omega, ?_⟩
  have w0 : WP ns ds (a1 + 1) 0 [some (.fr (.scr ns)), some (bx ds (a1 + 1)), some (O.fr (D.int i)), some (O.fr d), c4, c5] := ⟨_, d, _, _, rfl, hd⟩
  refine (forR (P := WP ns ds (a1 + 1)) w0 ?_).mono ?_
  · rintro j q hj hq g ⟨x2, e, x4, x5, rfl, he⟩
    simp [b_law_2]
    exact ⟨_, _, _, _, rfl, good_wrap he⟩
  · rintro _ ⟨g, rfl, x2, e, x4, x5, rfl, he⟩
    have hL : Lb 4 = 2590 := by decide
    have hl : (flat (txt e)).length ≤ 100000 := by have := he.2; omega
    have hp : Ev (m__law_plain_60 [.fr e]) fun p => p = (.fr (.str (S (flat (txt e)))), [.fr e]) := plain_spec he.1 (by omega) hl
    have hs : Ev (m_show_plain_60 [.fr e]) fun p => p = (.fr (.str (S (flat (txt e)))), [.fr e]) := show_spec he.1 (by omega) hl
    have ht : Ev (m__law_same_60 [.fr (.str (S (flat (txt e)))), .fr (.str (S (flat (txt e))))]) fun p => p = (.fr (.bl true), [.fr (.str (S (flat (txt e)))), .fr (.str (S (flat (txt e))))]) := same_str
    have hr := read_spec (C := C) he.1 (by omega) hl
    have hv : Ev (m__law_same_60 [.fr e, .fr e]) fun p => p = (.fr (.bl true), [.fr e, .fr e]) := same_spec he.1 (by omega)
    have hlp : ∀ x5, LP ns ds [some (.fr (.scr ns)), some (bx ds (a1 + 1)), x2, some (.fr e), x4, x5] := fun x5 => ⟨_, _, _, _, _, rfl, by omega⟩
    generalize (S (flat (txt e))) = t at hp hs ht hr
    simp
    refine hp.mono ?_
    rintro _ rfl
    simp
    refine hs.mono ?_
    rintro _ rfl
    simp
    refine ht.mono ?_
    rintro _ rfl
    simp
    refine hr.mono ?_
    rintro _ rfl
    simp
    refine hv.mono ?_
    rintro _ rfl
    simp
    exact hlp _
theorem law_ok : ∀ C_Reader : Addr, LawOk (m_law C_Reader) := fun C => lawOk_of fun ns hs => by
  simp [m_law, ev_runF, b_law]
  refine (digits_spec' (ns := ns) (lo := 0) (hi := 63) (by decide) (by decide) (by decide) (by decide)).mono ?_
  rintro ⟨o, os⟩ ⟨ds, h1, dg, dl, h2⟩
  cases h1
  cases h2
  simp
  refine (forR (P := fun _ => LP ns ds) ⟨0, _, _, _, _, rfl, by decide⟩ fun k i _ _ g p => turn_spec p).mono ?_
  rintro _ ⟨g, rfl, a0, c1, c2, c3, c4, rfl, ha⟩
  simp
end K37

open PySem PySem.W PyProof.Rows
set_option maxRecDepth 100000 in
set_option maxHeartbeats 0 in
theorem PySem.Challenge.cw_evenflow_k37_plain_there_and_back_holds : PySem.Challenge.rw_evenflow_k37_plain_there_and_back.Holds := by
  w_on; o_law; k_head; (case hw => w_witness2)
  k_fill
  refine Mi.walk_true (l := PySem.Challenge.rw_evenflow_k37_plain_there_and_back) (k := 93) rfl rfl ⟨rfl, by decide, by decide⟩ (fun w h Y => PySem.W.kIn_of Y) ?F
  case F =>
    intro w mg fa h KX G hmg
    exact K37.law_fin KX G K37.law_ok hmg
      (by refine' Mi.clAt_mk KX G ?a ?pg ?hd ?po ?sa ?mk ?kc; (case a => k_is); (case pg => k_is); (case hd => k_is); (case po => k_is); (case sa => k_is); (case mk => k_is); (case kc => k_is))
      (by show PySem.W.findIn _ _ _ = _; k_is)
      (by show PySem.W.findIn _ _ _ = _; k_is)
      (by refine' Mi.fnAt_mk KX G ?a ?l ?c ?k ?hb; (case a => k_is); (case l => k_is); (case c => k_is); (case k => k_is); (case hb => exact fun _ _ _ _ _ _ us hl => match us, hl with | [_], _ => rfl))
      (by refine' Mi.mtAt_mk ?a ?i ?l ?c ?k ?hb; (case a => k_is); (case i => k_is); (case l => k_is); (case c => k_is); (case k => k_is); (case hb => exact fun _ _ _ _ _ _ us hl => match us, hl with | [_, _], _ => rfl))
      (by refine' Mi.mtAt_mk ?a ?i ?l ?c ?k ?hb; (case a => k_is); (case i => k_is); (case l => k_is); (case c => k_is); (case k => k_is); (case hb => exact fun _ _ _ _ _ _ us hl => match us, hl with | [_, _], _ => rfl))
      (by refine' Mi.mtAt_mk ?a ?i ?l ?c ?k ?hb; (case a => k_is); (case i => k_is); (case l => k_is); (case c => k_is); (case k => k_is); (case hb => exact fun _ _ _ _ _ _ us hl => match us, hl with | [_, _, _], _ => rfl))
      (by refine' Mi.mtAt_mk ?a ?i ?l ?c ?k ?hb; (case a => k_is); (case i => k_is); (case l => k_is); (case c => k_is); (case k => k_is); (case hb => exact fun _ _ _ _ _ _ us hl => match us, hl with | [_, _, _], _ => rfl))
      (by refine' Mi.mtAt_mk ?a ?i ?l ?c ?k ?hb; (case a => k_is); (case i => k_is); (case l => k_is); (case c => k_is); (case k => k_is); (case hb => exact fun _ _ _ _ _ _ us hl => match us, hl with | [_, _], _ => rfl))
      (by refine' Mi.fnAt_mk KX G ?a ?l ?c ?k ?hb; (case a => k_is); (case l => k_is); (case c => k_is); (case k => k_is); (case hb => exact fun _ _ _ _ _ _ us hl => match us, hl with | [_], _ => rfl))
      (by refine' Mi.fnAt_mk KX G ?a ?l ?c ?k ?hb; (case a => k_is); (case l => k_is); (case c => k_is); (case k => k_is); (case hb => exact fun _ _ _ _ _ _ us hl => match us, hl with | [_, _], _ => rfl))
      (by refine' Mi.fnAt_mk KX G ?a ?l ?c ?k ?hb; (case a => k_is); (case l => k_is); (case c => k_is); (case k => k_is); (case hb => exact fun _ _ _ _ _ _ us hl => match us, hl with | [_, _, _], _ => rfl))
      (by refine' Mi.fnAt_mk KX G ?a ?l ?c ?k ?hb; (case a => k_is); (case l => k_is); (case c => k_is); (case k => k_is); (case hb => exact fun _ _ _ _ _ _ us hl => match us, hl with | [_, _], _ => rfl))
      (by refine' Mi.fnAt_mk KX G ?a ?l ?c ?k ?hb; (case a => k_is); (case l => k_is); (case c => k_is); (case k => k_is); (case hb => exact fun _ _ _ _ _ _ us hl => match us, hl with | [_, _], _ => rfl))
      (by refine' Mi.fnAt_mk KX G ?a ?l ?c ?k ?hb; (case a => k_is); (case l => k_is); (case c => k_is); (case k => k_is); (case hb => exact fun _ _ _ _ _ _ us hl => match us, hl with | [_], _ => rfl))
      (by refine' Mi.fnAt_mk KX G ?a ?l ?c ?k ?hb; (case a => k_is); (case l => k_is); (case c => k_is); (case k => k_is); (case hb => exact fun _ _ _ _ _ _ us hl => match us, hl with | [_, _], _ => rfl))
      (by refine' Mi.fnAt_mk KX G ?a ?l ?c ?k ?hb; (case a => k_is); (case l => k_is); (case c => k_is); (case k => k_is); (case hb => exact fun _ _ _ _ _ _ us hl => match us, hl with | [_], _ => rfl))
      (PySem.W.mg_none_of KX G (by k_is))
      (PySem.W.mg_none_of KX G (by k_is))
      (PySem.W.mg_none_of KX G (by k_is))
      (PySem.W.mg_none_of KX G (by k_is))
      (PySem.W.mg_none_of KX G (by k_is))
      (PySem.W.mg_none_of KX G (by k_is))
      (PySem.W.mg_none_of KX G (by k_is))
      ⟨_, PySem.W.mg_of KX G (by k_is)⟩
      ⟨_, PySem.W.mg_of KX G (by k_is)⟩
      ⟨_, PySem.W.mg_of KX G (by k_is)⟩
      (by refine' Mi.ktab_mk KX G ?ktA ?ktL ?ktH ?ktS ?ktT; (case ktA => k_is); (case ktL => k_is); (case ktH => exact ⟨⟨_, _, rfl, rfl⟩, ⟨⟨_, _, rfl, rfl⟩, ⟨⟨_, _, rfl, rfl⟩, trivial⟩⟩⟩); (case ktS => rfl); (case ktT => exact (.cons rfl rfl rfl (.cons rfl rfl rfl (.cons rfl rfl rfl .nil)))))

