import PyProof.Rows.All
import Wide.All
import OpenK.AllK
import Wide.FinOn
import HandS.ForMost
import HandS.Flow
import HandS.Gcd
import HandS.Wide
import HandS.IsInst
import HandS.FStr
import HandS.TupAny
import HandS.Deep
import HandS.RaiseMore
import PyProof.StrOps2
import HandS.StrMore
import HandS.EndBits
import HandS.DictComp
import HandS.SetBool
import HandS.ReplaceLit
import HandS.ReplaceDef
import HandS.Codes
import PyProof.StrLawsFrom
import PyProof.StrLawsReplace
import KE.IntTextLaws
import PyProof.Rows.StrAscii
import PyProof.FString
import PyProof.FString4
import KE.KExcSuper
import KE.KSuper
import KE.KStar
import HandS.Exc
import HandS.ExcInit
import HandS.ExcField
import HandS.ExcIs
import HandS.ExcSuper
import HandS.ExcOwn
import HandS.WordsExc
import KE.KExcIs
import PyProof.Conv_int
import KE.KIntText
import KE.IntText
import HandS.TryOnly
import HandS.Call
import HandS.Dict
import PyProof.Draws
import PyProof.SumAny
import HandS.MapObj
import HandS.MapSum
import PyProof.ListNew
import PyProof.ListStr
import HandS.Words
import HandS.Zip
import HandS.StrSplit
import PySem.Challenge.RW_evenflow_k39_journal_chained
set_option Elab.async false
set_option linter.all false
set_option maxRecDepth 100000
/-! Mi0: pure data, how they stand in a frozen heap; owned trees; entries. -/
namespace Mi
open PySem PySem.Spec PyProof.Rows L2

/-- immutable data -/
inductive D where
  | non | bl (b : Bool) | int (i : Int) | str (s : Str)
  | tup (ds : List D) | lst (ds : List D)
  | dK (ks : List Key) (ds : List D) | dT (ks : List (List Key)) (ds : List D)
  | scr (ns : List Int)
  | ob (C : Addr) (fs : List Str) (ds : List D)
  deriving Inhabited

mutual
def Rp (K : PySem.W.Frag) (F : Hp) : V → D → Prop
  | v, .non => v = .non
  | v, .bl b => v = .bl b
  | v, .int i => v = .int i
  | v, .str s => v = .str s
  | v, .tup ds => ∃ a vs, v = .ref a ∧ SqT K F a vs ∧ RpL K F vs ds
  | v, .lst ds => ∃ a vs, v = .ref a ∧ F a = some (.lst vs) ∧ RpL K F vs ds
  | v, .dK ks ds => ∃ a kvs, v = .ref a ∧ Rd F a (.dK kvs) ∧ kvs.map (·.1) = ks ∧ RpL K F (kvs.map (·.2)) ds
  | v, .dT ks ds => ∃ a kvs, v = .ref a ∧ Rd F a (.dT kvs) ∧ kvs.map (·.1) = ks ∧ RpL K F (kvs.map (·.2)) ds
  | v, .scr ns => ∃ a, v = .ref a ∧ SqL K F a (ns.map V.int)
  | v, .ob C fs ds => ∃ a dx vs, v = .ref a ∧ F a = some (.ins C dx (fs.zip vs)) ∧ RpL K F vs ds
def RpL (K : PySem.W.Frag) (F : Hp) : List V → List D → Prop
  | vs, [] => vs = []
  | vs, d :: ds => ∃ v r, vs = v :: r ∧ Rp K F v d ∧ RpL K F r ds
end

section
variable {K : PySem.W.Frag} {F F' H H' : Hp}
theorem Same.rd (e : Same F F') {a : Addr} {u : HO} (h : Rd F a u) : Rd F' a u := by
  rcases h with h | ⟨o, h⟩
  · exact .inl (e _ _ h)
  · exact .inr ⟨o, e _ _ h⟩
theorem Same.sqT (e : Same F F') {a : Addr} {xs : List V} (h : SqT K F a xs) : SqT K F' a xs := by
  rcases h with h | h
  · exact .inl (Same.rd e h)
  · exact .inr h
theorem Same.sqL (e : Same F F') {a : Addr} {xs : List V} (h : SqL K F a xs) : SqL K F' a xs := by
  rcases h with h | h
  · exact .inl (Same.rd e h)
  · exact .inr h
theorem same_upd {p : Addr} {o : HO} (h : H p = none) : Same H (upd H p o) := fun a u e => by
  rw [upd_ne (ne_of_none e h)]
  exact e
mutual
theorem Rp.mono (e : Same F F') : ∀ (d : D) (v : V), Rp K F v d → Rp K F' v d
  | .non, _, h => h
  | .bl _, _, h => h
  | .int _, _, h => h
  | .str _, _, h => h
  | .tup ds, v, h => by
    obtain ⟨a, vs, e1, e2, e3⟩ := h
    exact ⟨a, vs, e1, Same.sqT e e2, RpL.mono e ds vs e3⟩
  | .lst ds, v, h => by
    obtain ⟨a, vs, e1, e2, e3⟩ := h
    exact ⟨a, vs, e1, e _ _ e2, RpL.mono e ds vs e3⟩
  | .dK ks ds, v, h => by
    obtain ⟨a, kvs, e1, e2, e3, e4⟩ := h
    exact ⟨a, kvs, e1, Same.rd e e2, e3, RpL.mono e ds _ e4⟩
  | .dT ks ds, v, h => by
    obtain ⟨a, kvs, e1, e2, e3, e4⟩ := h
    exact ⟨a, kvs, e1, Same.rd e e2, e3, RpL.mono e ds _ e4⟩
  | .scr ns, v, h => by
    obtain ⟨a, e1, e2⟩ := h
    exact ⟨a, e1, Same.sqL e e2⟩
  | .ob C fs ds, v, h => by
    obtain ⟨a, dx, vs, e1, e2, e3⟩ := h
    exact ⟨a, dx, vs, e1, e _ _ e2, RpL.mono e ds vs e3⟩
theorem RpL.mono (e : Same F F') : ∀ (ds : List D) (vs : List V), RpL K F vs ds → RpL K F' vs ds
  | [], _, h => h
  | d :: ds, _, h => by
    obtain ⟨v, r, e1, e2, e3⟩ := h
    exact ⟨v, r, e1, Rp.mono e d v e2, RpL.mono e ds r e3⟩
end
theorem RpL.nil : RpL K F [] [] := rfl
theorem RpL.cons {v : V} {vs : List V} {d : D} {ds : List D} (h : Rp K F v d) (hs : RpL K F vs ds) : RpL K F (v :: vs) (d :: ds) := ⟨v, vs, rfl, h, hs⟩
theorem RpL.inv {v : V} {vs : List V} {d : D} {ds : List D} (h : RpL K F (v :: vs) (d :: ds)) : Rp K F v d ∧ RpL K F vs ds := by
  obtain ⟨w, r, e, h1, h2⟩ := h
  cases e
  exact ⟨h1, h2⟩
theorem RpL.length : ∀ {ds : List D} {vs : List V}, RpL K F vs ds → vs.length = ds.length
  | [], _, h => by
    obtain rfl : _ = [] := h
    rfl
  | d :: ds, _, h => by
    obtain ⟨v, r, rfl, _, h2⟩ := h
    rw [List.length_cons, List.length_cons, RpL.length h2]
theorem RpL.get : ∀ {ds : List D} {vs : List V} {i : Nat} {d : D}, RpL K F vs ds → ds[i]? = some d → ∃ v, vs[i]? = some v ∧ Rp K F v d
  | [], _, i, d, h, e => by simp at e
  | d :: ds, _, 0, d', h, e => by
    obtain ⟨v, r, rfl, h1, _⟩ := h
    simp at e
    subst e
    exact ⟨v, rfl, h1⟩
  | d :: ds, _, i + 1, d', h, e => by
    obtain ⟨v, r, rfl, _, h2⟩ := h
    simp at e
    obtain ⟨w, e1, e2⟩ := RpL.get h2 e
    exact ⟨w, by simpa using e1, e2⟩
theorem RpL.get' {ds : List D} {vs : List V} {i : Nat} {v : V} (h : RpL K F vs ds) (e : vs[i]? = some v) : ∃ d, ds[i]? = some d ∧ Rp K F v d := by
  have hi : i < ds.length := by
    rw [← h.length]
    exact (List.getElem?_eq_some_iff.mp e).1
  obtain ⟨w, e1, e2⟩ := h.get (List.getElem?_eq_getElem hi)
  rw [e] at e1
  cases e1
  exact ⟨_, List.getElem?_eq_getElem hi, e2⟩
theorem RpL.append : ∀ {ds es : List D} {vs ws : List V}, RpL K F vs ds → RpL K F ws es → RpL K F (vs ++ ws) (ds ++ es)
  | [], _, _, _, h, k => by
    obtain rfl : _ = [] := h
    exact k
  | d :: ds, _, _, _, h, k => by
    obtain ⟨v, r, rfl, h1, h2⟩ := h
    exact ⟨v, _, rfl, h1, RpL.append h2 k⟩
theorem RpL.take : ∀ {ds : List D} {vs : List V} (n : Nat), RpL K F vs ds → RpL K F (vs.take n) (ds.take n)
  | ds, vs, 0, _ => by rw [List.take_zero, List.take_zero]; exact RpL.nil
  | [], vs, n + 1, h => by
    obtain rfl : _ = [] := h
    exact RpL.nil
  | d :: ds, _, n + 1, h => by
    obtain ⟨v, r, rfl, h1, h2⟩ := h
    exact RpL.cons h1 (RpL.take n h2)
theorem RpL.drop : ∀ {ds : List D} {vs : List V} (n : Nat), RpL K F vs ds → RpL K F (vs.drop n) (ds.drop n)
  | ds, vs, 0, h => h
  | [], vs, n + 1, h => by
    obtain rfl : _ = [] := h
    exact RpL.nil
  | d :: ds, _, n + 1, h => by
    obtain ⟨v, r, rfl, h1, h2⟩ := h
    exact RpL.drop n h2
end

/-! ### owned trees -/
inductive O where
  | fr (d : D) | lst (os : List O) | dK (ks : List Key) (os : List O) | dT (ks : List (List Key)) (os : List O)
  | ob (C : Addr) (fs : List Str) (os : List O)
  deriving Inhabited
mutual
def O.er : O → D
  | .fr d => d
  | .lst os => .lst (erL os)
  | .dK ks os => .dK ks (erL os)
  | .dT ks os => .dT ks (erL os)
  | .ob C fs os => .ob C fs (erL os)
def erL : List O → List D
  | [] => []
  | o :: os => o.er :: erL os
end
@[simp] theorem er_fr (d : D) : (O.fr d).er = d := by rw [O.er]
@[simp] theorem er_lst (os : List O) : (O.lst os).er = .lst (erL os) := by rw [O.er]
@[simp] theorem er_dK (ks : List Key) (os : List O) : (O.dK ks os).er = .dK ks (erL os) := by rw [O.er]
@[simp] theorem er_dT (ks : List (List Key)) (os : List O) : (O.dT ks os).er = .dT ks (erL os) := by rw [O.er]
@[simp] theorem er_ob (C : Addr) (fs : List Str) (os : List O) : (O.ob C fs os).er = .ob C fs (erL os) := by rw [O.er]
@[simp] theorem erL_nil : erL [] = [] := by rw [erL]
@[simp] theorem erL_cons (o : O) (os : List O) : erL (o :: os) = o.er :: erL os := by rw [erL]
theorem erL_map (os : List O) : erL os = os.map O.er := by
  induction os with
  | nil => simp
  | cons o os ih => simp [ih]
@[simp] theorem erL_fr (ds : List D) : erL (ds.map O.fr) = ds := by
  induction ds with
  | nil => simp
  | cons o os ih => simp [ih]
@[simp] theorem erL_append (a b : List O) : erL (a ++ b) = erL a ++ erL b := by simp [erL_map]
theorem erL_length (a : List O) : (erL a).length = a.length := by simp [erL_map]

mutual
def Ow (K : PySem.W.Frag) (F H : Hp) : V → O → List Addr → Prop
  | v, .fr d, fp => Rp K F v d ∧ fp = []
  | v, .lst os, fp => ∃ a vs f, v = .ref a ∧ H a = some (.lst vs) ∧ OwL K F H vs os f ∧ fp = a :: f
  | v, .dK ks os, fp => ∃ a kvs f, v = .ref a ∧ H a = some (.dK kvs) ∧ kvs.map (·.1) = ks ∧ OwL K F H (kvs.map (·.2)) os f ∧ fp = a :: f
  | v, .dT ks os, fp => ∃ a kvs f, v = .ref a ∧ H a = some (.dT kvs) ∧ kvs.map (·.1) = ks ∧ OwL K F H (kvs.map (·.2)) os f ∧ fp = a :: f
  | v, .ob C fs os, fp => ∃ a dx vs f, v = .ref a ∧ H a = some (.ins C dx (fs.zip vs)) ∧ OwL K F H vs os f ∧ fp = a :: f
def OwL (K : PySem.W.Frag) (F H : Hp) : List V → List O → List Addr → Prop
  | vs, [], fp => vs = [] ∧ fp = []
  | vs, o :: os, fp => ∃ v r f1 f2, vs = v :: r ∧ Ow K F H v o f1 ∧ OwL K F H r os f2 ∧ fp = f1 ++ f2
end

section
variable {K : PySem.W.Frag} {F F' H H' : Hp}
mutual
theorem Ow.mono (e : Same F F') : ∀ (o : O) (v : V) (fp : List Addr), (∀ b ∈ fp, H' b = H b) → Ow K F H v o fp → Ow K F' H' v o fp
  | .fr d, v, fp, k, h => ⟨Rp.mono e d v h.1, h.2⟩
  | .lst os, v, fp, k, h => by
    obtain ⟨a, vs, f, e1, e2, e3, rfl⟩ := h
    exact ⟨a, vs, f, e1, by rw [k a List.mem_cons_self]; exact e2, OwL.mono e os vs f (fun b hb => k b (List.mem_cons_of_mem _ hb)) e3, rfl⟩
  | .dK ks os, v, fp, k, h => by
    obtain ⟨a, vs, f, e1, e2, e4, e3, rfl⟩ := h
    exact ⟨a, vs, f, e1, by rw [k a List.mem_cons_self]; exact e2, e4, OwL.mono e os _ f (fun b hb => k b (List.mem_cons_of_mem _ hb)) e3, rfl⟩
  | .dT ks os, v, fp, k, h => by
    obtain ⟨a, vs, f, e1, e2, e4, e3, rfl⟩ := h
    exact ⟨a, vs, f, e1, by rw [k a List.mem_cons_self]; exact e2, e4, OwL.mono e os _ f (fun b hb => k b (List.mem_cons_of_mem _ hb)) e3, rfl⟩
  | .ob C fs os, v, fp, k, h => by
    obtain ⟨a, dx, vs, f, e1, e2, e3, rfl⟩ := h
    exact ⟨a, dx, vs, f, e1, by rw [k a List.mem_cons_self]; exact e2, OwL.mono e os vs f (fun b hb => k b (List.mem_cons_of_mem _ hb)) e3, rfl⟩
theorem OwL.mono (e : Same F F') : ∀ (os : List O) (vs : List V) (fp : List Addr), (∀ b ∈ fp, H' b = H b) → OwL K F H vs os fp → OwL K F' H' vs os fp
  | [], vs, fp, k, h => h
  | o :: os, vs, fp, k, h => by
    obtain ⟨v, r, f1, f2, e1, e2, e3, rfl⟩ := h
    exact ⟨v, r, f1, f2, e1, Ow.mono e o v f1 (fun b hb => k b (List.mem_append_left _ hb)) e2, OwL.mono e os r f2 (fun b hb => k b (List.mem_append_right _ hb)) e3, rfl⟩
end
mutual
/-- seen as data in any heap that holds the frozen part and the tree's own -/
theorem Ow.rp (e : Same F F') : ∀ (o : O) (v : V) (fp : List Addr), (∀ b ∈ fp, F' b = H b) → Ow K F H v o fp → Rp K F' v o.er
  | .fr d, v, fp, k, h => by
    rw [er_fr]
    exact Rp.mono e d v h.1
  | .lst os, v, fp, k, h => by
    obtain ⟨a, vs, f, e1, e2, e3, rfl⟩ := h
    rw [er_lst]
    exact ⟨a, vs, e1, by rw [k a List.mem_cons_self]; exact e2, OwL.rp e os vs f (fun b hb => k b (List.mem_cons_of_mem _ hb)) e3⟩
  | .dK ks os, v, fp, k, h => by
    obtain ⟨a, vs, f, e1, e2, e4, e3, rfl⟩ := h
    rw [er_dK]
    exact ⟨a, vs, e1, .inl (by rw [k a List.mem_cons_self]; exact e2), e4, OwL.rp e os _ f (fun b hb => k b (List.mem_cons_of_mem _ hb)) e3⟩
  | .dT ks os, v, fp, k, h => by
    obtain ⟨a, vs, f, e1, e2, e4, e3, rfl⟩ := h
    rw [er_dT]
    exact ⟨a, vs, e1, .inl (by rw [k a List.mem_cons_self]; exact e2), e4, OwL.rp e os _ f (fun b hb => k b (List.mem_cons_of_mem _ hb)) e3⟩
  | .ob C fs os, v, fp, k, h => by
    obtain ⟨a, dx, vs, f, e1, e2, e3, rfl⟩ := h
    rw [er_ob]
    exact ⟨a, dx, vs, e1, by rw [k a List.mem_cons_self]; exact e2, OwL.rp e os vs f (fun b hb => k b (List.mem_cons_of_mem _ hb)) e3⟩
theorem OwL.rp (e : Same F F') : ∀ (os : List O) (vs : List V) (fp : List Addr), (∀ b ∈ fp, F' b = H b) → OwL K F H vs os fp → RpL K F' vs (erL os)
  | [], vs, fp, k, h => by
    rw [erL_nil]
    exact h.1
  | o :: os, vs, fp, k, h => by
    obtain ⟨v, r, f1, f2, e1, e2, e3, rfl⟩ := h
    rw [erL_cons]
    exact ⟨v, r, e1, Ow.rp e o v f1 (fun b hb => k b (List.mem_append_left _ hb)) e2, OwL.rp e os r f2 (fun b hb => k b (List.mem_append_right _ hb)) e3⟩
end
theorem OwL.nil : OwL K F H [] [] [] := ⟨rfl, rfl⟩
theorem OwL.cons {v : V} {o : O} {vs : List V} {os : List O} {f1 f2 : List Addr} (h : Ow K F H v o f1) (hs : OwL K F H vs os f2) : OwL K F H (v :: vs) (o :: os) (f1 ++ f2) := ⟨v, vs, f1, f2, rfl, h, hs, rfl⟩
theorem OwL.inv {v : V} {o : O} {vs : List V} {os : List O} {fp : List Addr} (h : OwL K F H (v :: vs) (o :: os) fp) : ∃ f1 f2, Ow K F H v o f1 ∧ OwL K F H vs os f2 ∧ fp = f1 ++ f2 := by
  obtain ⟨w, r, f1, f2, e, h1, h2, h3⟩ := h
  cases e
  exact ⟨f1, f2, h1, h2, h3⟩
theorem OwL.length : ∀ {os : List O} {vs : List V} {fp : List Addr}, OwL K F H vs os fp → vs.length = os.length
  | [], _, _, h => by rw [h.1]; rfl
  | o :: os, _, _, h => by
    obtain ⟨v, r, f1, f2, rfl, _, h2, _⟩ := h
    rw [List.length_cons, List.length_cons, OwL.length h2]
theorem OwL.append : ∀ {os ps : List O} {vs ws : List V} {f1 f2 : List Addr}, OwL K F H vs os f1 → OwL K F H ws ps f2 → OwL K F H (vs ++ ws) (os ++ ps) (f1 ++ f2)
  | [], _, _, _, _, _, h, k => by
    obtain ⟨rfl, rfl⟩ := h
    exact k
  | o :: os, _, _, _, _, _, h, k => by
    obtain ⟨v, r, g1, g2, rfl, h1, h2, rfl⟩ := h
    rw [List.append_assoc]
    exact OwL.cons h1 (OwL.append h2 k)
theorem OwL.frs : ∀ {ds : List D} {vs : List V}, RpL K F vs ds → OwL K F H vs (ds.map O.fr) []
  | [], _, h => by
    obtain rfl : _ = [] := h
    exact OwL.nil
  | d :: ds, _, h => by
    obtain ⟨v, r, rfl, h1, h2⟩ := h
    exact ⟨v, r, [], [], rfl, ⟨h1, rfl⟩, OwL.frs h2, rfl⟩
theorem OwL.ofFrs : ∀ {ds : List D} {vs : List V} {fp : List Addr}, OwL K F H vs (ds.map O.fr) fp → RpL K F vs ds ∧ fp = []
  | [], _, _, h => h
  | d :: ds, _, _, h => by
    obtain ⟨v, r, f1, f2, rfl, h1, h2, rfl⟩ := h
    obtain ⟨k1, k2⟩ := OwL.ofFrs h2
    refine ⟨⟨v, r, rfl, h1.1, k1⟩, ?_⟩
    rw [h1.2, k2]
    rfl

/-! ### entries: what a def holds, in any order -/
abbrev En := List (V × O)
def OwE (K : PySem.W.Frag) (F H : Hp) (E : En) (fp : List Addr) : Prop := OwL K F H (E.map (·.1)) (E.map (·.2)) fp
theorem OwE.nil : OwE K F H [] [] := OwL.nil
theorem OwE.cons {e : V × O} {E : En} {f1 f2 : List Addr} (h : Ow K F H e.1 e.2 f1) (hs : OwE K F H E f2) : OwE K F H (e :: E) (f1 ++ f2) := OwL.cons h hs
theorem OwE.inv {e : V × O} {E : En} {fp : List Addr} (h : OwE K F H (e :: E) fp) : ∃ f1 f2, Ow K F H e.1 e.2 f1 ∧ OwE K F H E f2 ∧ fp = f1 ++ f2 := OwL.inv h
theorem OwE.perm {E E' : En} (p : E.Perm E') : ∀ {fp : List Addr}, OwE K F H E fp → ∃ fp', OwE K F H E' fp' ∧ fp.Perm fp' := by
  induction p with
  | nil => exact fun {fp} h => ⟨fp, h, .refl _⟩
  | cons x p ih =>
    intro fp h
    obtain ⟨f1, f2, h1, h2, rfl⟩ := OwE.inv h
    obtain ⟨f3, h3, q⟩ := ih h2
    exact ⟨f1 ++ f3, OwE.cons h1 h3, q.append_left f1⟩
  | swap x y l =>
    intro fp h
    obtain ⟨f1, f2, h1, h2, rfl⟩ := OwE.inv h
    obtain ⟨f3, f4, h3, h4, rfl⟩ := OwE.inv h2
    refine ⟨f3 ++ (f1 ++ f4), OwE.cons h3 (OwE.cons h1 h4), ?_⟩
    rw [← List.append_assoc, ← List.append_assoc]
    exact List.perm_append_comm.append_right f4
  | trans p q ih1 ih2 =>
    intro fp h
    obtain ⟨f1, h1, q1⟩ := ih1 h
    obtain ⟨f2, h2, q2⟩ := ih2 h1
    exact ⟨f2, h2, q1.trans q2⟩
theorem OwE.append {E E' : En} {f1 f2 : List Addr} (h : OwE K F H E f1) (k : OwE K F H E' f2) : OwE K F H (E ++ E') (f1 ++ f2) := by
  unfold OwE
  rw [List.map_append, List.map_append]
  exact OwL.append h k
theorem OwE.mono {E : En} {fp : List Addr} (e : Same F F') (k : ∀ b ∈ fp, H' b = H b) (h : OwE K F H E fp) : OwE K F' H' E fp := OwL.mono e _ _ _ k h
end

mutual
/-- what a tree owns stands in H -/
theorem Ow.there {K : PySem.W.Frag} {F H : Hp} : ∀ (o : O) (v : V) (fp : List Addr), Ow K F H v o fp → ∀ b ∈ fp, ∃ x, H b = some x
  | .fr d, v, fp, h, b, hb => by
    rw [h.2] at hb
    cases hb
  | .lst os, v, fp, h, b, hb => by
    obtain ⟨a, vs, f, e1, e2, e3, rfl⟩ := h
    rcases List.mem_cons.mp hb with rfl | hb
    · exact ⟨_, e2⟩
    · exact OwL.there os vs f e3 b hb
  | .dK ks os, v, fp, h, b, hb => by
    obtain ⟨a, vs, f, e1, e2, e4, e3, rfl⟩ := h
    rcases List.mem_cons.mp hb with rfl | hb
    · exact ⟨_, e2⟩
    · exact OwL.there os _ f e3 b hb
  | .dT ks os, v, fp, h, b, hb => by
    obtain ⟨a, vs, f, e1, e2, e4, e3, rfl⟩ := h
    rcases List.mem_cons.mp hb with rfl | hb
    · exact ⟨_, e2⟩
    · exact OwL.there os _ f e3 b hb
  | .ob C fs os, v, fp, h, b, hb => by
    obtain ⟨a, dx, vs, f, e1, e2, e3, rfl⟩ := h
    rcases List.mem_cons.mp hb with rfl | hb
    · exact ⟨_, e2⟩
    · exact OwL.there os _ f e3 b hb
theorem OwL.there {K : PySem.W.Frag} {F H : Hp} : ∀ (os : List O) (vs : List V) (fp : List Addr), OwL K F H vs os fp → ∀ b ∈ fp, ∃ x, H b = some x
  | [], vs, fp, h, b, hb => by
    rw [h.2] at hb
    cases hb
  | o :: os, vs, fp, h, b, hb => by
    obtain ⟨v, r, f1, f2, e1, e2, e3, rfl⟩ := h
    rcases List.mem_append.mp hb with hb | hb
    · exact Ow.there o v f1 e2 b hb
    · exact OwL.there os r f2 e3 b hb
end
end Mi

set_option Elab.async false
set_option linter.all false
set_option maxRecDepth 100000
/-! Mi1: environments, the relation, expressions. -/
namespace Mi
open PySem PySem.Spec PyProof.Rows L2

abbrev G := List (Option O)
structure Bs where
  K : PySem.W.Frag
  F0 : Hp
  H0 : Hp
  M : List Addr
  pin : List Nat
  pv : List V
  W : Value → Option Addr → L2.St → Hp → Prop := fun _ _ _ _ => False

def Ents (B : Bs) (F H : Hp) (E : En) : Prop := ∃ fp, OwE B.K F H E fp ∧ fp.Nodup ∧ ∀ b ∈ fp, F b = none ∧ (B.H0 b = none ∨ b ∈ B.M)
def ents : L2.St → G → En
  | some v :: σ, some o :: g => (v, o) :: ents σ g
  | some _ :: σ, none :: g => ents σ g
  | none :: σ, _ :: g => ents σ g
  | _, _ => []

section
theorem ents_take : ∀ {σ : L2.St} {g : G} {i : Nat} {v : V} {o : O}, σ[i]? = some (some v) → g[i]? = some (some o) → (ents σ g).Perm ((v, o) :: ents σ (g.set i none))
  | [], _, i, v, o, h, _ => by simp at h
  | _ :: _, [], i, v, o, _, h => by simp at h
  | x :: σ, y :: g, 0, v, o, h, k => by
    simp at h k
    subst h k
    show ((v, o) :: ents σ g).Perm ((v, o) :: ents σ g)
    exact .refl _
  | x :: σ, y :: g, i + 1, v, o, h, k => by
    have ih := ents_take (σ := σ) (g := g) (i := i) (by simpa using h) (by simpa using k)
    cases x with
    | none => exact ih
    | some x =>
      cases y with
      | none => exact ih
      | some y => exact (ih.cons (x, y)).trans (.swap _ _ _)
theorem ents_put : ∀ {σ : L2.St} {g : G} {i : Nat} {v : V} {o : O}, i < σ.length → g.length = σ.length → (ents (σ.set i (some v)) (g.set i (some o))).Perm ((v, o) :: ents σ (g.set i none))
  | [], _, i, v, o, h, _ => by simp at h
  | _ :: _, [], i, v, o, _, h => by simp at h
  | x :: σ, y :: g, 0, v, o, h, k => by
    cases x with
    | none => exact .refl _
    | some x => exact .refl _
  | x :: σ, y :: g, i + 1, v, o, h, k => by
    have ih := ents_put (σ := σ) (g := g) (i := i) (v := v) (o := o) (by simpa using h) (by simpa using k)
    cases x with
    | none => exact ih
    | some x =>
      cases y with
      | none => exact ih
      | some y => exact (ih.cons (x, y)).trans (.swap _ _ _)
theorem ents_wipe : ∀ {σ : L2.St} {g : G} {i : Nat}, (ents σ g).Perm (ents σ (g.set i none)) ∨ ∃ v o, σ[i]? = some (some v) ∧ g[i]? = some (some o) ∧ (ents σ g).Perm ((v, o) :: ents σ (g.set i none)) := by
  intro σ g i
  cases h : σ[i]? with
  | none =>
    left
    have h1 : σ.length ≤ i := List.getElem?_eq_none_iff.mp h
    have : ∀ (σ : L2.St) (g : G) (i : Nat), σ.length ≤ i → ents σ g = ents σ (g.set i none) := by
      intro σ
      induction σ with
      | nil => intro g i _; cases g <;> rfl
      | cons x σ ih =>
        intro g i hi
        cases g with
        | nil => rfl
        | cons y g =>
          cases i with
          | zero => simp at hi
          | succ i =>
            have := ih g i (by simpa using hi)
            cases x with
            | none => exact this
            | some x =>
              cases y with
              | none => exact this
              | some y => show (x, y) :: ents σ g = (x, y) :: ents σ (g.set i none); rw [this]
    rw [this σ g i h1]
  | some x =>
    cases hg : g[i]? with
    | none =>
      left
      have h1 : g.length ≤ i := List.getElem?_eq_none_iff.mp hg
      rw [List.set_eq_of_length_le h1]
    | some y =>
      cases x with
      | none =>
        left
        have : ∀ (σ : L2.St) (g : G) (i : Nat), σ[i]? = some none → ents σ g = ents σ (g.set i none) := by
          intro σ
          induction σ with
          | nil => intro g i h; simp at h
          | cons x σ ih =>
            intro g i hi
            cases g with
            | nil => rfl
            | cons y g =>
              cases i with
              | zero =>
                simp at hi
                subst hi
                rfl
              | succ i =>
                have := ih g i (by simpa using hi)
                cases x with
                | none => exact this
                | some x =>
                  cases y with
                  | none => exact this
                  | some y => show (x, y) :: ents σ g = (x, y) :: ents σ (g.set i none); rw [this]
        rw [this σ g i h]
      | some v =>
        cases y with
        | none =>
          left
          have e : g.set i none = g := by
            apply List.ext_getElem?
            intro j
            by_cases hj : i = j
            · subst hj
              rw [List.getElem?_set_self (List.getElem?_eq_some_iff.mp hg).1, hg]
            · rw [List.getElem?_set_ne hj]
          rw [e]
        | some o => exact .inr ⟨v, o, rfl, rfl, ents_take h hg⟩
end

structure Rel (B : Bs) (F H : Hp) (σ : L2.St) (g : G) (τ : En) : Prop where
  len : g.length = σ.length
  cov : ∀ (i : Nat) (o : O), g[i]? = some (some o) → ∃ v : V, σ[i]? = some (some v)
  sub : Same F H
  f0 : Same B.F0 F
  keep : ∀ b o, B.H0 b = some o → b ∉ B.M → H b = some o
  new : ∀ b o, F b = some o → B.F0 b = some o ∨ B.H0 b = none ∨ b ∈ B.M
  pins : ∀ j ∈ B.pin, σ[j]? = (B.pv[j]?).map some
  ent : Ents B F H (ents σ g ++ τ)

structure Grow (F H F' H' : Hp) : Prop where
  f : Same F F'
  h : Same H H'
  s : Same F' H'
  n : ∀ b o, F' b = some o → F b = some o ∨ H b = none
theorem Grow.refl {F H : Hp} (s : Same F H) : Grow F H F H := ⟨Same.refl F, Same.refl H, s, fun _ _ e => .inl e⟩
theorem Grow.trans {F H F1 H1 F2 H2 : Hp} (a : Grow F H F1 H1) (b : Grow F1 H1 F2 H2) : Grow F H F2 H2 :=
  ⟨a.f.trans b.f, a.h.trans b.h, b.s, fun c o e => by
    rcases b.n c o e with e | e
    · exact a.n c o e
    · exact .inr (a.h.free e)⟩
theorem Grow.tup {F H : Hp} (s : Same F H) {p : Addr} (hp : H p = none) (o : HO) : Grow F H (upd F p o) (upd H p o) := by
  have fp : F p = none := s.free hp
  refine ⟨same_upd fp, same_upd hp, fun b u e => ?_, fun b u e => ?_⟩
  · unfold upd at e ⊢
    by_cases hb : b = p
    · rw [if_pos hb] at e ⊢
      exact e
    · rw [if_neg hb] at e ⊢
      exact s b u e
  · unfold upd at e
    by_cases hb : b = p
    · rw [hb]
      exact .inr hp
    · rw [if_neg hb] at e
      exact .inl e
theorem Grow.own {F H : Hp} (s : Same F H) {p : Addr} (hp : H p = none) (o : HO) : Grow F H F (upd H p o) :=
  ⟨Same.refl F, same_upd hp, s.trans (same_upd hp), fun _ _ e => .inl e⟩

section
variable {B : Bs} {F F' H H' : Hp} {σ : L2.St} {g : G} {τ : En} {E E' : En} {v : V} {o : O} {d : D}

theorem Ents.perm (h : Ents B F H E) (p : E.Perm E') : Ents B F H E' := by
  obtain ⟨fp, h1, h2, h3⟩ := h
  obtain ⟨fp', h4, q⟩ := h1.perm p
  exact ⟨fp', h4, q.nodup h2, fun b hb => h3 b (q.mem_iff.mpr hb)⟩
theorem Ents.drop {e : V × O} (h : Ents B F H (e :: E)) : Ents B F H E := by
  obtain ⟨fp, h1, h2, h3⟩ := h
  obtain ⟨f1, f2, _, k2, rfl⟩ := OwE.inv h1
  exact ⟨f2, k2, (List.nodup_append.mp h2).2.1, fun b hb => h3 b (List.mem_append_right _ hb)⟩
theorem Ents.frd (h : Ents B F H ((v, .fr d) :: E)) : Rp B.K F v d := by
  obtain ⟨fp, h1, h2, h3⟩ := h
  obtain ⟨f1, f2, k1, _, rfl⟩ := OwE.inv h1
  exact k1.1
theorem Ents.addFr (h : Ents B F H E) (r : Rp B.K F v d) : Ents B F H ((v, .fr d) :: E) := by
  obtain ⟨fp, h1, h2, h3⟩ := h
  exact ⟨[] ++ fp, OwE.cons (e := (v, .fr d)) ⟨r, rfl⟩ h1, h2, h3⟩
theorem Ents.rpH (h : Ents B F H ((v, o) :: E)) (s : Same F H) : Rp B.K H v o.er := by
  obtain ⟨fp, h1, h2, h3⟩ := h
  obtain ⟨f1, f2, k1, _, rfl⟩ := OwE.inv h1
  exact Ow.rp s o v f1 (fun _ _ => rfl) k1
theorem Ents.grow (h : Ents B F H E) (w : Grow F H F' H') : Ents B F' H' E := by
  obtain ⟨fp, h1, h2, h3⟩ := h
  have there := OwL.there _ _ fp h1
  refine ⟨fp, OwE.mono w.f (fun b hb => ?_) h1, h2, fun b hb => ?_⟩
  · obtain ⟨x, hx⟩ := there b hb
    rw [hx]
    exact w.h b x hx
  · obtain ⟨x, hx⟩ := there b hb
    obtain ⟨k1, k2⟩ := h3 b hb
    refine ⟨?_, k2⟩
    cases e : F' b with
    | none => rfl
    | some y =>
      rcases w.n b y e with e | e
      · rw [k1] at e
        cases e
      · rw [hx] at e
        cases e
/-- the frozen heap with what stands at fp in H -/
def frz (F H : Hp) (fp : List Addr) : Hp := fun b => if b ∈ fp then H b else F b
theorem frz_in {fp : List Addr} {b : Addr} (hb : b ∈ fp) : frz F H fp b = H b := if_pos hb
theorem frz_out {fp : List Addr} {b : Addr} (hb : b ∉ fp) : frz F H fp b = F b := if_neg hb
theorem Ents.freeze (h : Ents B F H ((v, o) :: E)) (s : Same F H) : ∃ F', Same F F' ∧ Same F' H ∧ (∀ b x, F' b = some x → F b = some x ∨ (B.H0 b = none ∨ b ∈ B.M)) ∧ Ents B F' H ((v, .fr o.er) :: E) := by
  obtain ⟨fp, h1, h2, h3⟩ := h
  obtain ⟨f1, f2, k1, k2, rfl⟩ := OwE.inv h1
  have sF : Same F (frz F H f1) := fun b x e => by
    by_cases hb : b ∈ f1
    · rw [(h3 b (List.mem_append_left _ hb)).1] at e
      cases e
    · rw [frz_out hb]
      exact e
  refine ⟨frz F H f1, sF, fun b x e => ?_, fun b x e => ?_, [] ++ f2, ?_, (List.nodup_append.mp h2).2.1, fun b hb => ?_⟩
  · by_cases hb : b ∈ f1
    · rw [frz_in hb] at e
      exact e
    · rw [frz_out hb] at e
      exact s b x e
  · by_cases hb : b ∈ f1
    · exact .inr (h3 b (List.mem_append_left _ hb)).2
    · rw [frz_out hb] at e
      exact .inl e
  · exact OwE.cons (e := (v, .fr o.er)) ⟨Ow.rp sF o v f1 (fun b hb => frz_in hb) k1, rfl⟩ (OwE.mono sF (fun _ _ => rfl) k2)
  · have hb1 : b ∉ f1 := fun z => (List.nodup_append.mp h2).2.2 b z b hb rfl
    rw [frz_out hb1]
    exact h3 b (List.mem_append_right _ hb)

theorem Rel.grow (r : Rel B F H σ g τ) (w : Grow F H F' H') : Rel B F' H' σ g τ where
  len := r.len
  cov := r.cov
  sub := w.s
  f0 := r.f0.trans w.f
  keep := fun b o e m => w.h b o (r.keep b o e m)
  new := fun b o e => by
    rcases w.n b o e with e | e
    · exact r.new b o e
    · cases q : B.H0 b with
      | none => exact .inr (.inl rfl)
      | some x =>
        by_cases m : b ∈ B.M
        · exact .inr (.inr m)
        · rw [r.keep b x q m] at e
          cases e
  pins := r.pins
  ent := r.ent.grow w
theorem Rel.with (r : Rel B F H σ g τ) {τ' : En} (h : Ents B F H (ents σ g ++ τ')) : Rel B F H σ g τ' := { r with ent := h }
theorem Rel.tperm (r : Rel B F H σ g τ) {τ' : En} (p : τ.Perm τ') : Rel B F H σ g τ' := r.with (r.ent.perm (p.append_left _))
theorem Rel.headE (r : Rel B F H σ g ((v, o) :: τ)) : Ents B F H ((v, o) :: (ents σ g ++ τ)) := r.ent.perm List.perm_middle
theorem Rel.ofHead (r : Rel B F H σ g τ) {v : V} {o : O} (h : Ents B F H ((v, o) :: (ents σ g ++ τ))) : Rel B F H σ g ((v, o) :: τ) := r.with (h.perm List.perm_middle.symm)
theorem Rel.drop {e : V × O} (r : Rel B F H σ g (e :: τ)) : Rel B F H σ g τ := r.with (r.ent.perm List.perm_middle).drop
theorem Rel.frd (r : Rel B F H σ g ((v, .fr d) :: τ)) : Rp B.K F v d := r.headE.frd
theorem Rel.addFr (r : Rel B F H σ g τ) (h : Rp B.K F v d) : Rel B F H σ g ((v, .fr d) :: τ) := r.ofHead (r.ent.addFr h)
theorem Rel.freeze (r : Rel B F H σ g ((v, o) :: τ)) : ∃ F', Same F F' ∧ Rel B F' H σ g ((v, .fr o.er) :: τ) := by
  obtain ⟨F', s1, s2, n, e⟩ := r.headE.freeze r.sub
  refine ⟨F', s1, r.len, r.cov, s2, r.f0.trans s1, r.keep, fun b x e => ?_, r.pins, e.perm List.perm_middle.symm⟩
  rcases n b x e with e | e
  · exact r.new b x e
  · exact .inr e
theorem Rel.take {i : Nat} (r : Rel B F H σ g τ) (hs : σ[i]? = some (some v)) (hg : g[i]? = some (some o)) : Rel B F H σ (g.set i none) ((v, o) :: τ) where
  len := by rw [List.length_set]; exact r.len
  cov := fun j o' e => by
    by_cases hj : i = j
    · subst hj
      exact ⟨v, hs⟩
    · rw [List.getElem?_set_ne hj] at e
      exact r.cov j o' e
  sub := r.sub
  f0 := r.f0
  keep := r.keep
  new := r.new
  pins := r.pins
  ent := by
    have p : (ents σ g ++ τ).Perm (ents σ (g.set i none) ++ (v, o) :: τ) := ((ents_take hs hg).append_right τ).trans List.perm_middle.symm
    exact r.ent.perm p
theorem Rel.slot {i : Nat} (r : Rel B F H σ g τ) (hg : g[i]? = some (some o)) : ∃ v, σ[i]? = some (some v) ∧ Rel B F H σ (g.set i none) ((v, o) :: τ) := by
  obtain ⟨v, hv⟩ := r.cov i o hg
  exact ⟨v, hv, r.take hv hg⟩
theorem set_back {i : Nat} {x : Option O} (hg : g[i]? = some x) : (g.set i none).set i x = g := by
  apply List.ext_getElem?
  intro j
  by_cases hj : i = j
  · subst hj
    have hi := (List.getElem?_eq_some_iff.mp hg).1
    rw [List.getElem?_set_self (by rw [List.length_set]; exact hi), hg]
  · rw [List.getElem?_set_ne hj, List.getElem?_set_ne hj]
/-- back into a slot that holds the value still -/
theorem Rel.back {i : Nat} (r : Rel B F H σ g ((v, o) :: τ)) (hs : σ[i]? = some (some v)) (hg : g[i]? = some none) : Rel B F H σ (g.set i (some o)) τ where
  len := by rw [List.length_set]; exact r.len
  cov := fun j o' e => by
    by_cases hj : i = j
    · subst hj
      exact ⟨v, hs⟩
    · rw [List.getElem?_set_ne hj] at e
      exact r.cov j o' e
  sub := r.sub
  f0 := r.f0
  keep := r.keep
  new := r.new
  pins := r.pins
  ent := by
    have hi := (List.getElem?_eq_some_iff.mp hg).1
    have p1 := ents_take (σ := σ) (g := g.set i (some o)) hs (List.getElem?_set_self hi)
    rw [List.set_set] at p1
    have e : g.set i none = g := by
      have := set_back hg
      rw [List.set_set] at this
      exact this
    rw [e] at p1
    exact r.ent.perm (List.perm_middle.trans (p1.append_right τ).symm)
theorem Rel.wipe (r : Rel B F H σ g τ) (i : Nat) : Rel B F H σ (g.set i none) τ where
  len := by rw [List.length_set]; exact r.len
  cov := fun j o' e => by
    by_cases hj : i = j
    · subst hj
      by_cases hi : i < g.length
      · rw [List.getElem?_set_self hi] at e
        cases e
      · rw [List.getElem?_eq_none_iff.mpr (by rw [List.length_set]; omega)] at e
        cases e
    · rw [List.getElem?_set_ne hj] at e
      exact r.cov j o' e
  sub := r.sub
  f0 := r.f0
  keep := r.keep
  new := r.new
  pins := r.pins
  ent := by
    rcases ents_wipe (σ := σ) (g := g) (i := i) with p | ⟨v, o, _, _, p⟩
    · exact r.ent.perm (p.append_right τ)
    · exact (r.ent.perm (p.append_right τ)).drop
/-- a value goes into a slot -/
theorem Rel.put {i : Nat} (r : Rel B F H σ g ((v, o) :: τ)) (hi : i < σ.length) (hp : i ∉ B.pin) : Rel B F H (σ.set i (some v)) (g.set i (some o)) τ := by
  have w := r.wipe i
  refine ⟨by rw [List.length_set, List.length_set]; exact r.len, fun j o' e => ?_, r.sub, r.f0, r.keep, r.new, fun j hj => ?_, ?_⟩
  · by_cases hj : i = j
    · subst hj
      exact ⟨v, List.getElem?_set_self hi⟩
    · rw [List.getElem?_set_ne hj] at e
      rw [List.getElem?_set_ne hj]
      exact r.cov j o' e
  · have : i ≠ j := fun z => hp (z ▸ hj)
    rw [List.getElem?_set_ne this]
    exact r.pins j hj
  · exact w.ent.perm (List.perm_middle.trans ((ents_put hi r.len).append_right τ).symm)
end

/-! ### expressions and operands -/
abbrev XE := G → Option (O × G)
inductive Opd where
  | d (x : D) | br (i : Nat)
abbrev XO := G → Option (Opd × G)
abbrev XA := G → Option (List Opd × G)
abbrev XT := G → Option (Bool × G)
def view (g : G) : Opd → Option D
  | .d x => some x
  | .br i => match g[i]? with
    | some (some o) => some o.er
    | _ => none
def views (g : G) : List Opd → Option (List D)
  | [] => some []
  | a :: r => (view g a).bind fun d => (views g r).map fun ds => d :: ds
def alld : List Opd → Option (List D)
  | [] => some []
  | .d x :: r => (alld r).map fun ds => x :: ds
  | .br _ :: _ => none
def OpdOk (B : Bs) (F : Hp) (σ : L2.St) (v : V) : Opd → Prop
  | .d x => Rp B.K F v x
  | .br i => σ[i]? = some (some v)
def OpdsOk (B : Bs) (F : Hp) (σ : L2.St) : List V → List Opd → Prop
  | vs, [] => vs = []
  | vs, a :: r => ∃ v ws, vs = v :: ws ∧ OpdOk B F σ v a ∧ OpdsOk B F σ ws r

def SE (B : Bs) (t : TE) (m : XE) : Prop := ∀ F H σ g τ o g', Rel B F H σ g τ → m g = some (o, g') → ∀ Q : VK,
  (∀ F' H' v, Same F F' → Rel B F' H' σ g' ((v, o) :: τ) → Q v H') → t σ H Q
def SO (B : Bs) (t : TE) (m : XO) : Prop := ∀ F H σ g τ a g', Rel B F H σ g τ → m g = some (a, g') → ∀ Q : VK,
  (∀ F' H' v, Same F F' → Rel B F' H' σ g' τ → OpdOk B F' σ v a → Q v H') → t σ H Q
def ST (B : Bs) (t : TT) (m : XT) : Prop := ∀ F H σ g τ b g', Rel B F H σ g τ → m g = some (b, g') → ∀ Q : Bool → Hp → Prop,
  (∀ F' H', Same F F' → Rel B F' H' σ g' τ → Q b H') → t σ H Q
def SA (B : Bs) (t : TA) (m : XA) : Prop := ∀ F H σ g τ as g', Rel B F H σ g τ → m g = some (as, g') → ∀ Q : List V → Hp → Prop,
  (∀ F' H' vs, Same F F' → Rel B F' H' σ g' τ → OpdsOk B F' σ vs as → Q vs H') → t σ H Q

section
variable {B : Bs} {F F' H H' : Hp} {σ : L2.St} {g : G} {τ : En}
theorem OpdOk.mono (e : Same F F') {v : V} : ∀ {a : Opd}, OpdOk B F σ v a → OpdOk B F' σ v a
  | .d x, h => Rp.mono e x v h
  | .br i, h => h
theorem OpdsOk.mono (e : Same F F') : ∀ {as : List Opd} {vs : List V}, OpdsOk B F σ vs as → OpdsOk B F' σ vs as
  | [], _, h => h
  | a :: r, _, h => by
    obtain ⟨v, ws, e1, h1, h2⟩ := h
    exact ⟨v, ws, e1, h1.mono e, OpdsOk.mono e h2⟩
theorem Rel.view (r : Rel B F H σ g τ) {v : V} {d : D} : ∀ {a : Opd}, OpdOk B F σ v a → view g a = some d → Rp B.K H v d
  | .d x, h, e => by
    cases e
    exact Rp.mono r.sub _ _ h
  | .br i, h, e => by
    change (match g[i]? with | some (some o) => some o.er | _ => none) = some d at e
    split at e
    · rename_i o eo
      cases e
      exact (r.take h eo).headE.rpH r.sub
    · cases e
theorem Rel.views (r : Rel B F H σ g τ) : ∀ {as : List Opd} {vs : List V} {ds : List D}, OpdsOk B F σ vs as → views g as = some ds → RpL B.K H vs ds
  | [], _, _, h, e => by
    cases e
    exact h
  | a :: as, _, _, h, e => by
    obtain ⟨v, ws, rfl, h1, h2⟩ := h
    unfold Mi.views at e
    cases e1 : Mi.view g a with
    | none => rw [e1] at e; cases e
    | some d =>
      cases e2 : Mi.views g as with
      | none => rw [e1, e2] at e; cases e
      | some ds =>
        rw [e1, e2] at e
        cases e
        exact RpL.cons (r.view h1 e1) (r.views h2 e2)
theorem alld_ok : ∀ {as : List Opd} {vs : List V} {ds : List D}, OpdsOk B F σ vs as → alld as = some ds → RpL B.K F vs ds
  | [], _, _, h, e => by
    cases e
    exact h
  | .d x :: as, _, _, h, e => by
    obtain ⟨v, ws, rfl, h1, h2⟩ := h
    unfold alld at e
    cases e2 : alld as with
    | none => rw [e2] at e; cases e
    | some ds =>
      rw [e2] at e
      cases e
      exact RpL.cons h1 (alld_ok h2 e2)
  | .br i :: as, _, _, h, e => by cases e

/-! variables and constants -/
def oVar (i : Nat) : XO := fun g => match g[i]? with
  | some (some (.fr d)) => some (.d d, g)
  | some (some _) => some (.br i, g)
  | _ => none
theorem so_var {i : Nat} : SO B (tVar i) (oVar i) := by
  intro F H σ g τ a g' r e Q q
  unfold oVar at e
  split at e
  · rename_i d ed
    cases e
    obtain ⟨v, hv, r2⟩ := r.slot ed
    exact ⟨v, hv, q F H v (Same.refl F) r r2.frd⟩
  · rename_i o _ eo
    cases e
    obtain ⟨v, hv⟩ := r.cov i o eo
    exact ⟨v, hv, q F H v (Same.refl F) r hv⟩
  · cases e
def eVar (i : Nat) : XE := fun g => match g[i]? with
  | some (some (.fr d)) => some (.fr d, g)
  | some (some o) => some (.fr o.er, g.set i (some (.fr o.er)))
  | _ => none
theorem Rel.copyFr {i : Nat} {d : D} (r : Rel B F H σ g τ) (e : g[i]? = some (some (.fr d))) {v : V} (hv : σ[i]? = some (some v)) : Rel B F H σ g ((v, .fr d) :: τ) := r.addFr (r.take hv e).frd
theorem se_var {i : Nat} : SE B (tVar i) (eVar i) := by
  intro F H σ g τ a g' r e Q q
  unfold eVar at e
  split at e
  · rename_i d ed
    cases e
    obtain ⟨v, hv⟩ := r.cov i _ ed
    exact ⟨v, hv, q F H v (Same.refl F) (r.copyFr ed hv)⟩
  · rename_i o _ eo
    cases e
    obtain ⟨v, hv, r2⟩ := r.slot eo
    obtain ⟨F', s, r3⟩ := r2.freeze
    have hi := (List.getElem?_eq_some_iff.mp eo).1
    have r4 := (r3.addFr r3.frd).back hv (List.getElem?_set_self hi)
    rw [List.set_set] at r4
    exact ⟨v, hv, q F' H v s r4⟩
  · cases e
/-- the slot's value goes away from the slot -/
def eMove (i : Nat) : XE := fun g => match g[i]? with
  | some (some (.fr d)) => some (.fr d, g)
  | some (some o) => some (o, g.set i none)
  | _ => none
theorem se_move {i : Nat} : SE B (tVar i) (eMove i) := by
  intro F H σ g τ a g' r e Q q
  unfold eMove at e
  split at e
  · rename_i d ed
    cases e
    obtain ⟨v, hv⟩ := r.cov i _ ed
    exact ⟨v, hv, q F H v (Same.refl F) (r.copyFr ed hv)⟩
  · rename_i o _ eo
    cases e
    obtain ⟨v, hv, r2⟩ := r.slot eo
    exact ⟨v, hv, q F H v (Same.refl F) r2⟩
  · cases e
def eC (d : D) : XE := fun g => some (.fr d, g)
theorem se_c {v : V} {d : D} (h : ∀ F, Rp B.K F v d) : SE B (tC v) (eC d) := by
  intro F H σ g τ a g' r e Q q
  cases e
  exact q F H v (Same.refl F) (r.addFr (h F))
theorem se_int {i : Int} : SE B (tC (.int i)) (eC (.int i)) := se_c fun _ => rfl
theorem se_str {s : Str} : SE B (tC (.str s)) (eC (.str s)) := se_c fun _ => rfl
theorem se_bl {b : Bool} : SE B (tC (.bl b)) (eC (.bl b)) := se_c fun _ => rfl
theorem se_non : SE B (tC .non) (eC .non) := se_c fun _ => rfl
def oE (m : XE) : XO := fun g => (m g).map fun p => (.d p.1.er, p.2)
theorem so_e {t : TE} {m : XE} (h : SE B t m) : SO B t (oE m) := by
  intro F H σ g τ a g' r e Q q
  obtain ⟨⟨o, g1⟩, e1, e2⟩ := Option.map_eq_some_iff.mp e
  cases e2
  refine h F H σ g τ o g1 r e1 Q fun F' H' v s r1 => ?_
  obtain ⟨F2, s2, r2⟩ := r1.freeze
  exact q F2 H' v (s.trans s2) r2.drop r2.frd
def aNil : XA := fun g => some ([], g)
def aCons (a : XO) (r : XA) : XA := fun g => (a g).bind fun p => (r p.2).map fun q => (p.1 :: q.1, q.2)
theorem sa_nil : SA B tNil aNil := by
  intro F H σ g τ a g' r e Q q
  cases e
  exact q F H [] (Same.refl F) r rfl
theorem sa_cons {t : TE} {tr : TA} {m : XO} {mr : XA} (h : SO B t m) (hr : SA B tr mr) : SA B (tCons t tr) (aCons m mr) := by
  intro F H σ g τ as g' r e Q q
  obtain ⟨⟨a, g1⟩, e1, e2⟩ := Option.bind_eq_some_iff.mp e
  obtain ⟨⟨bs, g2⟩, e3, e4⟩ := Option.map_eq_some_iff.mp e2
  cases e4
  refine h F H σ g τ a g1 r e1 _ fun F1 H1 v s1 r1 ok1 => ?_
  exact hr F1 H1 σ g1 τ bs g2 r1 e3 _ fun F2 H2 vs s2 r2 ok2 => q F2 H2 (v :: vs) (s1.trans s2) r2 ⟨v, vs, rfl, ok1.mono s2, ok2⟩

/-! operations by values: scalar answers; answers out of frozen data -/
def toV : D → Option V
  | .non => some .non
  | .bl b => some (.bl b)
  | .int i => some (.int i)
  | .str s => some (.str s)
  | _ => none
theorem toV_rp {K : PySem.W.Frag} {d : D} {w : V} (h : toV d = some w) (F : Hp) : Rp K F w d := by
  cases d with
  | non => cases h; exact rfl
  | bl b => cases h; exact rfl
  | int i => cases h; exact rfl
  | str s => cases h; exact rfl
  | tup _ => cases h
  | lst _ => cases h
  | dK _ _ => cases h
  | dT _ _ => cases h
  | scr _ => cases h
  | ob _ _ _ => cases h
def S1 (K : PySem.W.Frag) (r : V → Hp → VK → Prop) (f : D → Option D) : Prop := ∀ H x d z, Rp K H x d → f d = some z → ∃ w, toV z = some w ∧ ∀ Q : VK, Q w H → r x H Q
def S2 (K : PySem.W.Frag) (r : R2) (f : D → D → Option D) : Prop := ∀ H x y d e z, Rp K H x d → Rp K H y e → f d e = some z → ∃ w, toV z = some w ∧ ∀ Q : VK, Q w H → r x y H Q
def SN (K : PySem.W.Frag) (r : List V → Hp → VK → Prop) (f : List D → Option D) : Prop := ∀ H vs ds z, RpL K H vs ds → f ds = some z → ∃ w, toV z = some w ∧ ∀ Q : VK, Q w H → r vs H Q
/-- what is made of frozen data: perhaps new things, owned or frozen -/
def Made (K : PySem.W.Frag) (F H : Hp) (z : O) (Q : VK) : Prop := ∀ F' H' v fp, Grow F H F' H' → Ow K F' H' v z fp → fp.Nodup → (∀ b ∈ fp, H b = none ∧ F' b = none) → Q v H'
def A1 (K : PySem.W.Frag) (r : V → Hp → VK → Prop) (f : D → Option O) : Prop := ∀ F H x d z, Same F H → Rp K F x d → f d = some z → ∀ Q : VK, Made K F H z Q → r x H Q
def A2 (K : PySem.W.Frag) (r : R2) (f : D → D → Option O) : Prop := ∀ F H x y d e z, Same F H → Rp K F x d → Rp K F y e → f d e = some z → ∀ Q : VK, Made K F H z Q → r x y H Q
def AN (K : PySem.W.Frag) (r : List V → Hp → VK → Prop) (f : List D → Option O) : Prop := ∀ F H vs ds z, Same F H → RpL K F vs ds → f ds = some z → ∀ Q : VK, Made K F H z Q → r vs H Q

theorem Rel.made (r : Rel B F H σ g τ) {v : V} {z : O} {fp : List Addr} (w : Grow F H F' H') (h : Ow B.K F' H' v z fp) (nd : fp.Nodup) (nw : ∀ b ∈ fp, H b = none ∧ F' b = none) : Rel B F' H' σ g ((v, z) :: τ) := by
  have r' := r.grow w
  refine r'.ofHead ?_
  obtain ⟨f2, h1, h2, h3⟩ := r'.ent
  obtain ⟨f3, k1, k2, k3⟩ := r.ent
  have there := OwL.there _ _ f3 k1
  refine ⟨fp ++ f3, OwE.cons (e := (v, z)) h (OwE.mono w.f (fun b hb => ?_) k1), List.nodup_append.mpr ⟨nd, k2, fun a ha b hb e => ?_⟩, fun b hb => ?_⟩
  · obtain ⟨x, hx⟩ := there b hb
    rw [hx]
    exact w.h b x hx
  · subst e
    obtain ⟨x, hx⟩ := there a hb
    rw [(nw a ha).1] at hx
    cases hx
  · rcases List.mem_append.mp hb with hb | hb
    · refine ⟨(nw b hb).2, ?_⟩
      cases q : B.H0 b with
      | none => exact .inl rfl
      | some x =>
        by_cases m : b ∈ B.M
        · exact .inr m
        · have := r.keep b x q m
          rw [(nw b hb).1] at this
          cases this
    · obtain ⟨x, hx⟩ := there b hb
      refine ⟨?_, (k3 b hb).2⟩
      cases e : F' b with
      | none => rfl
      | some y =>
        rcases w.n b y e with e | e
        · rw [(k3 b hb).1] at e
          cases e
        · rw [hx] at e
          cases e

def xS1 (f : D → Option D) (a : XO) : XE := fun g => (a g).bind fun p => (view p.2 p.1).bind fun d => (f d).map fun z => (.fr z, p.2)
def xS2 (f : D → D → Option D) (a b : XO) : XE := fun g => (a g).bind fun p => (b p.2).bind fun q => (view q.2 p.1).bind fun d => (view q.2 q.1).bind fun e => (f d e).map fun z => (.fr z, q.2)
def xSN (f : List D → Option D) (as : XA) : XE := fun g => (as g).bind fun p => (views p.2 p.1).bind fun ds => (f ds).map fun z => (.fr z, p.2)
def opdD : Opd → Option D
  | .d x => some x
  | .br _ => none
def xA1 (f : D → Option O) (a : XO) : XE := fun g => (a g).bind fun p => (opdD p.1).bind fun d => (f d).map fun z => (z, p.2)
def xA2 (f : D → D → Option O) (a b : XO) : XE := fun g => (a g).bind fun p => (b p.2).bind fun q => (opdD p.1).bind fun d => (opdD q.1).bind fun e => (f d e).map fun z => (z, q.2)
def xAN (f : List D → Option O) (as : XA) : XE := fun g => (as g).bind fun p => (alld p.1).bind fun ds => (f ds).map fun z => (z, p.2)
theorem opdD_ok {v : V} {a : Opd} {d : D} (h : OpdOk B F σ v a) (e : opdD a = some d) : Rp B.K F v d := by
  cases a with
  | d x => cases e; exact h
  | br i => cases e

theorem se_s1 {r : V → Hp → VK → Prop} {f : D → Option D} {ta : TE} {ma : XO} (hr : S1 B.K r f) (ha : SO B ta ma) : SE B (tUn r ta) (xS1 f ma) := by
  intro F H σ g τ o g' rl e Q q
  obtain ⟨⟨a, g1⟩, e1, e2⟩ := Option.bind_eq_some_iff.mp e
  obtain ⟨d, e3, e4⟩ := Option.bind_eq_some_iff.mp e2
  obtain ⟨z, e5, e6⟩ := Option.map_eq_some_iff.mp e4
  cases e6
  refine ha F H σ g τ a g1 rl e1 _ fun F1 H1 v s1 r1 ok1 => ?_
  obtain ⟨w, hw, k⟩ := hr H1 v d z (r1.view ok1 e3) e5
  exact k Q (q F1 H1 w s1 (r1.addFr (toV_rp hw F1)))
theorem se_s2 {r : R2} {f : D → D → Option D} {ta tb : TE} {ma mb : XO} (hr : S2 B.K r f) (ha : SO B ta ma) (hb : SO B tb mb) : SE B (tOp r ta tb) (xS2 f ma mb) := by
  intro F H σ g τ o g' rl e Q q
  obtain ⟨⟨a, g1⟩, e1, e2⟩ := Option.bind_eq_some_iff.mp e
  obtain ⟨⟨b, g2⟩, e3, e4⟩ := Option.bind_eq_some_iff.mp e2
  obtain ⟨d, e5, e6⟩ := Option.bind_eq_some_iff.mp e4
  obtain ⟨d2, e7, e8⟩ := Option.bind_eq_some_iff.mp e6
  obtain ⟨z, e9, e10⟩ := Option.map_eq_some_iff.mp e8
  cases e10
  refine ha F H σ g τ a g1 rl e1 _ fun F1 H1 v s1 r1 ok1 => ?_
  refine hb F1 H1 σ g1 τ b g2 r1 e3 _ fun F2 H2 u s2 r2 ok2 => ?_
  obtain ⟨w, hw, k⟩ := hr H2 v u d d2 z (r2.view (ok1.mono s2) e5) (r2.view ok2 e7) e9
  exact k Q (q F2 H2 w (s1.trans s2) (r2.addFr (toV_rp hw F2)))
theorem se_sn {r : List V → Hp → VK → Prop} {f : List D → Option D} {ta : TA} {ma : XA} (hr : SN B.K r f) (ha : SA B ta ma) : SE B (tCB r ta) (xSN f ma) := by
  intro F H σ g τ o g' rl e Q q
  obtain ⟨⟨a, g1⟩, e1, e2⟩ := Option.bind_eq_some_iff.mp e
  obtain ⟨d, e3, e4⟩ := Option.bind_eq_some_iff.mp e2
  obtain ⟨z, e5, e6⟩ := Option.map_eq_some_iff.mp e4
  cases e6
  refine ha F H σ g τ a g1 rl e1 _ fun F1 H1 v s1 r1 ok1 => ?_
  obtain ⟨w, hw, k⟩ := hr H1 v d z (r1.views ok1 e3) e5
  exact k Q (q F1 H1 w s1 (r1.addFr (toV_rp hw F1)))
theorem se_a1 {r : V → Hp → VK → Prop} {f : D → Option O} {ta : TE} {ma : XO} (hr : A1 B.K r f) (ha : SO B ta ma) : SE B (tUn r ta) (xA1 f ma) := by
  intro F H σ g τ o g' rl e Q q
  obtain ⟨⟨a, g1⟩, e1, e2⟩ := Option.bind_eq_some_iff.mp e
  obtain ⟨d, e3, e4⟩ := Option.bind_eq_some_iff.mp e2
  obtain ⟨z, e5, e6⟩ := Option.map_eq_some_iff.mp e4
  cases e6
  refine ha F H σ g τ a g1 rl e1 _ fun F1 H1 v s1 r1 ok1 => ?_
  exact hr F1 H1 v d o r1.sub (opdD_ok ok1 e3) e5 Q fun F2 H2 w fp gr ow nd nw => q F2 H2 w (s1.trans gr.f) (r1.made gr ow nd nw)
theorem se_a2 {r : R2} {f : D → D → Option O} {ta tb : TE} {ma mb : XO} (hr : A2 B.K r f) (ha : SO B ta ma) (hb : SO B tb mb) : SE B (tOp r ta tb) (xA2 f ma mb) := by
  intro F H σ g τ o g' rl e Q q
  obtain ⟨⟨a, g1⟩, e1, e2⟩ := Option.bind_eq_some_iff.mp e
  obtain ⟨⟨b, g2⟩, e3, e4⟩ := Option.bind_eq_some_iff.mp e2
  obtain ⟨d, e5, e6⟩ := Option.bind_eq_some_iff.mp e4
  obtain ⟨d2, e7, e8⟩ := Option.bind_eq_some_iff.mp e6
  obtain ⟨z, e9, e10⟩ := Option.map_eq_some_iff.mp e8
  cases e10
  refine ha F H σ g τ a g1 rl e1 _ fun F1 H1 v s1 r1 ok1 => ?_
  refine hb F1 H1 σ g1 τ b g2 r1 e3 _ fun F2 H2 u s2 r2 ok2 => ?_
  exact hr F2 H2 v u d d2 o r2.sub (Rp.mono s2 _ _ (opdD_ok ok1 e5)) (opdD_ok ok2 e7) e9 Q fun F3 H3 w fp gr ow nd nw => q F3 H3 w ((s1.trans s2).trans gr.f) (r2.made gr ow nd nw)
theorem se_an {r : List V → Hp → VK → Prop} {f : List D → Option O} {ta : TA} {ma : XA} (hr : AN B.K r f) (ha : SA B ta ma) : SE B (tCB r ta) (xAN f ma) := by
  intro F H σ g τ o g' rl e Q q
  obtain ⟨⟨a, g1⟩, e1, e2⟩ := Option.bind_eq_some_iff.mp e
  obtain ⟨d, e3, e4⟩ := Option.bind_eq_some_iff.mp e2
  obtain ⟨z, e5, e6⟩ := Option.map_eq_some_iff.mp e4
  cases e6
  refine ha F H σ g τ a g1 rl e1 _ fun F1 H1 v s1 r1 ok1 => ?_
  exact hr F1 H1 v d o r1.sub (alld_ok ok1 e3) e5 Q fun F2 H2 w fp gr ow nd nw => q F2 H2 w (s1.trans gr.f) (r1.made gr ow nd nw)
end
end Mi

set_option Elab.async false
set_option linter.all false
set_option maxRecDepth 100000
/-! Mi2: tests, displays, statements, loops, calls. -/
namespace Mi
open PySem PySem.Spec PyProof.Rows L2

section
variable {B : Bs} {F F' H H' : Hp} {σ : L2.St} {g : G} {τ : En}

/-! ### tests -/
/-- a value that is a bool -/
def xB (m : XO) : XT := fun g => (m g).bind fun p => match view p.2 p.1 with
  | some (.bl b) => some (b, p.2)
  | _ => none
theorem st_test {t : TE} {m : XO} (h : SO B t m) : ST B (tTest t) (xB m) := by
  intro F H σ g τ b g' r e Q q
  obtain ⟨⟨a, g1⟩, e1, e2⟩ := Option.bind_eq_some_iff.mp e
  refine h F H σ g τ a g1 r e1 _ fun F1 H1 v s1 r1 ok1 => ?_
  dsimp only at e2
  split at e2
  · rename_i c ec
    cases e2
    have rp : v = .bl b := r1.view ok1 ec
    exact ⟨b, rp, q F1 H1 s1 r1⟩
  · cases e2
theorem st_B {t : TE} {m : XO} (h : SO B t m) : ST B (tB t) (xB m) := st_test h
def dTru : D → Option Bool
  | .non => some false
  | .bl b => some b
  | .int i => some (i != 0)
  | .str s => if s.length ≤ sizeLine then some ((s.length : Int) != 0) else none
  | .tup ds => some (!ds.isEmpty)
  | .lst ds => some (!ds.isEmpty)
  | .scr ns => some (!ns.isEmpty)
  | _ => none
theorem RpL.isEmpty {K : PySem.W.Frag} {H : Hp} {vs : List V} {ds : List D} (h : RpL K H vs ds) : vs.isEmpty = ds.isEmpty := by
  have := h.length
  cases vs with
  | nil =>
    cases ds with
    | nil => rfl
    | cons d ds => simp at this
  | cons v vs =>
    cases ds with
    | nil => simp at this
    | cons d ds => rfl
theorem tru_rp {K : PySem.W.Frag} {v : V} {d : D} {k : Bool} (h : Rp K H v d) (e : dTru d = some k) : TruV K v H k := by
  cases d with
  | non =>
    obtain rfl : v = .non := h
    cases e
    exact rfl
  | bl b =>
    obtain rfl : v = .bl b := h
    cases e
    exact rfl
  | int i =>
    obtain rfl : v = .int i := h
    cases e
    exact rfl
  | str s =>
    obtain rfl : v = .str s := h
    change (if s.length ≤ sizeLine then some ((s.length : Int) != 0) else none) = some k at e
    split at e
    · rename_i hs
      cases e
      exact ⟨hs, rfl⟩
    · cases e
  | tup ds =>
    obtain ⟨a, vs, rfl, e2, e3⟩ := h
    cases e
    exact .inr (.inl ⟨vs, e2, by rw [e3.isEmpty]⟩)
  | lst ds =>
    obtain ⟨a, vs, rfl, e2, e3⟩ := h
    cases e
    exact .inl ⟨vs, SqL.of e2, by rw [e3.isEmpty]⟩
  | dK _ _ => cases e
  | dT _ _ => cases e
  | ob _ _ _ => cases e
  | scr ns =>
    obtain ⟨a, rfl, e2⟩ := h
    cases e
    refine .inl ⟨_, e2, ?_⟩
    cases ns <;> rfl
def xTru (m : XO) : XT := fun g => (m g).bind fun p => (view p.2 p.1).bind fun d => (dTru d).map fun b => (b, p.2)
theorem st_tru {t : TE} {m : XO} (h : SO B t m) : ST B (fun σ H Q => t σ H fun x H' => ∃ k, TruV B.K x H' k ∧ Q k H') (xTru m) := by
  intro F H σ g τ b g' r e Q q
  obtain ⟨⟨a, g1⟩, e1, e2⟩ := Option.bind_eq_some_iff.mp e
  obtain ⟨d, e3, e4⟩ := Option.bind_eq_some_iff.mp e2
  obtain ⟨c, e5, e6⟩ := Option.map_eq_some_iff.mp e4
  cases e6
  refine h F H σ g τ a g1 r e1 _ fun F1 H1 v s1 r1 ok1 => ?_
  exact ⟨b, tru_rp (r1.view ok1 e3) e5, q F1 H1 s1 r1⟩
def xAnd (a b : XT) : XT := fun g => (a g).bind fun p => if p.1 = true then b p.2 else some (false, p.2)
def xOr (a b : XT) : XT := fun g => (a g).bind fun p => if p.1 = true then some (true, p.2) else b p.2
def xNot (a : XT) : XT := fun g => (a g).map fun p => (!p.1, p.2)
theorem st_and {t u : TT} {a b : XT} (ha : ST B t a) (hb : ST B u b) : ST B (tAnd t u) (xAnd a b) := by
  intro F H σ g τ c g' r e Q q
  obtain ⟨⟨k, g1⟩, e1, e2⟩ := Option.bind_eq_some_iff.mp e
  refine ha F H σ g τ k g1 r e1 _ fun F1 H1 s1 r1 => ?_
  cases k with
  | true => exact hb F1 H1 σ g1 τ c g' r1 e2 Q fun F2 H2 s2 r2 => q F2 H2 (s1.trans s2) r2
  | false =>
    cases e2
    exact q F1 H1 s1 r1
theorem st_or {t u : TT} {a b : XT} (ha : ST B t a) (hb : ST B u b) : ST B (tOr t u) (xOr a b) := by
  intro F H σ g τ c g' r e Q q
  obtain ⟨⟨k, g1⟩, e1, e2⟩ := Option.bind_eq_some_iff.mp e
  refine ha F H σ g τ k g1 r e1 _ fun F1 H1 s1 r1 => ?_
  cases k with
  | false => exact hb F1 H1 σ g1 τ c g' r1 e2 Q fun F2 H2 s2 r2 => q F2 H2 (s1.trans s2) r2
  | true =>
    cases e2
    exact q F1 H1 s1 r1
theorem st_not {t : TT} {a : XT} (ha : ST B t a) : ST B (tNot t) (xNot a) := by
  intro F H σ g τ c g' r e Q q
  obtain ⟨⟨k, g1⟩, e1, e2⟩ := Option.map_eq_some_iff.mp e
  cases e2
  exact ha F H σ g τ k _ r e1 _ fun F1 H1 s1 r1 => q F1 H1 s1 r1
def xYes : XT := fun g => some (true, g)

/-! ### values by truth, conditional expressions -/
def xAndV (a : XO) (b : XE) : XE := fun g => (a g).bind fun p => (opdD p.1).bind fun d => (dTru d).bind fun k => if k = true then b p.2 else some (.fr d, p.2)
def xOrV (a : XO) (b : XE) : XE := fun g => (a g).bind fun p => (opdD p.1).bind fun d => (dTru d).bind fun k => if k = true then some (.fr d, p.2) else b p.2
def xNotV (a : XO) : XE := fun g => (a g).bind fun p => (view p.2 p.1).bind fun d => (dTru d).map fun k => (.fr (.bl (!k)), p.2)
theorem se_andV {ta tb : TE} {a : XO} {b : XE} (ha : SO B ta a) (hb : SE B tb b) : SE B (tAndT B.K ta tb) (xAndV a b) := by
  intro F H σ g τ o g' r e Q q
  obtain ⟨⟨x, g1⟩, e1, e2⟩ := Option.bind_eq_some_iff.mp e
  obtain ⟨d, e3, e4⟩ := Option.bind_eq_some_iff.mp e2
  obtain ⟨k, e5, e6⟩ := Option.bind_eq_some_iff.mp e4
  refine ha F H σ g τ x g1 r e1 _ fun F1 H1 v s1 r1 ok1 => ?_
  have rp := opdD_ok ok1 e3
  refine ⟨k, tru_rp (Rp.mono r1.sub _ _ rp) e5, ?_⟩
  cases k with
  | true => exact hb F1 H1 σ g1 τ o g' r1 e6 Q fun F2 H2 w s2 r2 => q F2 H2 w (s1.trans s2) r2
  | false =>
    cases e6
    exact q F1 H1 v s1 (r1.addFr rp)
theorem se_orV {ta tb : TE} {a : XO} {b : XE} (ha : SO B ta a) (hb : SE B tb b) : SE B (tOrT B.K ta tb) (xOrV a b) := by
  intro F H σ g τ o g' r e Q q
  obtain ⟨⟨x, g1⟩, e1, e2⟩ := Option.bind_eq_some_iff.mp e
  obtain ⟨d, e3, e4⟩ := Option.bind_eq_some_iff.mp e2
  obtain ⟨k, e5, e6⟩ := Option.bind_eq_some_iff.mp e4
  refine ha F H σ g τ x g1 r e1 _ fun F1 H1 v s1 r1 ok1 => ?_
  have rp := opdD_ok ok1 e3
  refine ⟨k, tru_rp (Rp.mono r1.sub _ _ rp) e5, ?_⟩
  cases k with
  | false => exact hb F1 H1 σ g1 τ o g' r1 e6 Q fun F2 H2 w s2 r2 => q F2 H2 w (s1.trans s2) r2
  | true =>
    cases e6
    exact q F1 H1 v s1 (r1.addFr rp)
theorem se_notV {ta : TE} {a : XO} (ha : SO B ta a) : SE B (tNotT B.K ta) (xNotV a) := by
  intro F H σ g τ o g' r e Q q
  obtain ⟨⟨x, g1⟩, e1, e2⟩ := Option.bind_eq_some_iff.mp e
  obtain ⟨d, e3, e4⟩ := Option.bind_eq_some_iff.mp e2
  obtain ⟨k, e5, e6⟩ := Option.map_eq_some_iff.mp e4
  cases e6
  refine ha F H σ g τ x g1 r e1 _ fun F1 H1 v s1 r1 ok1 => ?_
  exact ⟨k, tru_rp (r1.view ok1 e3) e5, q F1 H1 _ s1 (r1.addFr rfl)⟩
def xIf (c : XT) (a b : XE) : XE := fun g => (c g).bind fun p => if p.1 = true then a p.2 else b p.2
theorem se_if {t : TT} {ta tb : TE} {c : XT} {a b : XE} (hc : ST B t c) (ha : SE B ta a) (hb : SE B tb b) : SE B (tIf t ta tb) (xIf c a b) := by
  intro F H σ g τ o g' r e Q q
  obtain ⟨⟨k, g1⟩, e1, e2⟩ := Option.bind_eq_some_iff.mp e
  refine hc F H σ g τ k g1 r e1 _ fun F1 H1 s1 r1 => ?_
  cases k with
  | true => exact ha F1 H1 σ g1 τ o g' r1 e2 Q fun F2 H2 w s2 r2 => q F2 H2 w (s1.trans s2) r2
  | false => exact hb F1 H1 σ g1 τ o g' r1 e2 Q fun F2 H2 w s2 r2 => q F2 H2 w (s1.trans s2) r2

/-! ### displays -/
def xTup (as : XA) : XE := fun g => (as g).bind fun p => (alld p.1).bind fun ds => if ds.length ≤ sizeLine then some (.fr (.tup ds), p.2) else none
theorem made_tup {K : PySem.W.Frag} {F H : Hp} (s : Same F H) {p : Addr} (hp : H p = none) {vs : List V} {ds : List D} (h : RpL K F vs ds) {Q : VK} (q : Made K F H (.fr (.tup ds)) Q) : Q (.ref p) (upd H p (.tup vs)) := by
  have gr := Grow.tup s hp (.tup vs)
  exact q (upd F p (.tup vs)) _ (.ref p) [] gr ⟨⟨p, vs, rfl, SqT.of upd_same, RpL.mono gr.f _ _ h⟩, rfl⟩ List.nodup_nil (fun _ z => nomatch z)
theorem made_lst {K : PySem.W.Frag} {F H : Hp} (s : Same F H) {p : Addr} (hp : H p = none) {vs : List V} {ds : List D} (h : RpL K F vs ds) {Q : VK} (q : Made K F H (.lst (ds.map O.fr)) Q) : Q (.ref p) (upd H p (.lst vs)) := by
  have gr := Grow.own s hp (.lst vs)
  refine q F _ (.ref p) [p] gr ⟨p, vs, [], rfl, upd_same, OwL.frs h, rfl⟩ (List.nodup_cons.mpr ⟨List.not_mem_nil, List.nodup_nil⟩) fun b hb => ?_
  rcases List.mem_singleton.mp hb with rfl
  exact ⟨hp, s.free hp⟩
theorem made_fr {K : PySem.W.Frag} {F H : Hp} (s : Same F H) {v : V} {d : D} (h : Rp K F v d) {Q : VK} (q : Made K F H (.fr d) Q) : Q v H :=
  q F H v [] (Grow.refl s) ⟨h, rfl⟩ List.nodup_nil (fun _ z => nomatch z)
theorem se_tup {ta : TA} {ma : XA} (ha : SA B ta ma) : SE B (tTup ta) (xTup ma) := by
  intro F H σ g τ o g' r e Q q
  obtain ⟨⟨a, g1⟩, e1, e2⟩ := Option.bind_eq_some_iff.mp e
  obtain ⟨ds, e3, e4⟩ := Option.bind_eq_some_iff.mp e2
  split at e4
  · rename_i hl
    cases e4
    refine ha F H σ g τ a g1 r e1 _ fun F1 H1 vs s1 r1 ok1 => ?_
    have rp := alld_ok ok1 e3
    refine ⟨by rw [rp.length]; exact hl, fun p hp => ?_⟩
    exact made_tup (K := B.K) r1.sub hp rp fun F2 H2 w fp gr ow nd nw => q F2 H2 w (s1.trans gr.f) (r1.made gr ow nd nw)
  · cases e4
def xLst (as : XA) : XE := fun g => (as g).bind fun p => (alld p.1).bind fun ds => if ds.length ≤ sizeLine then some (.lst (ds.map O.fr), p.2) else none
theorem se_lst {ta : TA} {ma : XA} (ha : SA B ta ma) : SE B (tLst ta) (xLst ma) := by
  intro F H σ g τ o g' r e Q q
  obtain ⟨⟨a, g1⟩, e1, e2⟩ := Option.bind_eq_some_iff.mp e
  obtain ⟨ds, e3, e4⟩ := Option.bind_eq_some_iff.mp e2
  split at e4
  · rename_i hl
    cases e4
    refine ha F H σ g τ a g1 r e1 _ fun F1 H1 vs s1 r1 ok1 => ?_
    have rp := alld_ok ok1 e3
    refine ⟨by rw [rp.length]; exact hl, fun p hp => ?_⟩
    exact made_lst (K := B.K) r1.sub hp rp fun F2 H2 w fp gr ow nd nw => q F2 H2 w (s1.trans gr.f) (r1.made gr ow nd nw)
  · cases e4
def xDct : XE := fun g => some (.dK [] [], g)
theorem se_dct : SE B tDNewK xDct := by
  intro F H σ g τ o g' r e Q q
  cases e
  intro p hp
  have gr := Grow.own r.sub hp (.dK [])
  refine q F _ (.ref p) (Same.refl F) (r.made (fp := [p]) gr ⟨p, [], [], rfl, upd_same, rfl, OwL.nil, rfl⟩ (List.nodup_cons.mpr ⟨List.not_mem_nil, List.nodup_nil⟩) fun b hb => ?_)
  rcases List.mem_singleton.mp hb with rfl
  exact ⟨hp, r.sub.free hp⟩
def xDctT : XE := fun g => some (.dT [] [], g)
theorem se_dctT : SE B tDNewT xDctT := by
  intro F H σ g τ o g' r e Q q
  cases e
  intro p hp
  have gr := Grow.own r.sub hp (.dT [])
  refine q F _ (.ref p) (Same.refl F) (r.made (fp := [p]) gr ⟨p, [], [], rfl, upd_same, rfl, OwL.nil, rfl⟩ (List.nodup_cons.mpr ⟨List.not_mem_nil, List.nodup_nil⟩) fun b hb => ?_)
  rcases List.mem_singleton.mp hb with rfl
  exact ⟨hp, r.sub.free hp⟩

/-! ### subscripts -/
def IxOk (K : PySem.W.Frag) (r : R2) (f : D → D → Option D) : Prop := ∀ F H x y d e z, Same F H → Rp K F x d → Rp K H y e → f d e = some z → ∃ w, Rp K F w z ∧ ∀ Q : VK, Q w H → r x y H Q
def IxOw (K : PySem.W.Frag) (r : R2) (f : O → D → Option D) : Prop := ∀ F H x y o e z fp, Same F H → Ow K F H x o fp → Rp K H y e → f o e = some z → ∃ w, Rp K F w z ∧ ∀ Q : VK, Q w H → r x y H Q
def xIx (f : D → D → Option D) (f' : O → D → Option D) (a b : XO) : XE := fun g => (a g).bind fun p => (b p.2).bind fun q => (view q.2 q.1).bind fun e => match p.1 with
  | .d d => (f d e).map fun z => (.fr z, q.2)
  | .br i => match q.2[i]? with
    | some (some o) => (f' o e).map fun z => (.fr z, q.2)
    | _ => none
theorem se_ix {r : R2} {f : D → D → Option D} {f' : O → D → Option D} {ta tb : TE} {ma mb : XO} (h1 : IxOk B.K r f) (h2 : IxOw B.K r f') (ha : SO B ta ma) (hb : SO B tb mb) : SE B (tOp r ta tb) (xIx f f' ma mb) := by
  intro F H σ g τ o g' rl e Q q
  obtain ⟨⟨a, g1⟩, e1, e2⟩ := Option.bind_eq_some_iff.mp e
  obtain ⟨⟨b, g2⟩, e3, e4⟩ := Option.bind_eq_some_iff.mp e2
  obtain ⟨d2, e5, e6⟩ := Option.bind_eq_some_iff.mp e4
  refine ha F H σ g τ a g1 rl e1 _ fun F1 H1 v s1 r1 ok1 => ?_
  refine hb F1 H1 σ g1 τ b g2 r1 e3 _ fun F2 H2 u s2 r2 ok2 => ?_
  have ru := r2.view ok2 e5
  have ok1' := ok1.mono s2
  dsimp only at e6
  cases a with
  | d x =>
    obtain ⟨z, e7, e8⟩ := Option.map_eq_some_iff.mp e6
    cases e8
    obtain ⟨w, hw, k⟩ := h1 F2 H2 v u x d2 z r2.sub ok1' ru e7
    exact k Q (q F2 H2 w (s1.trans s2) (r2.addFr hw))
  | br i =>
    dsimp only at e6
    split at e6
    · rename_i x ex
      obtain ⟨z, e7, e8⟩ := Option.map_eq_some_iff.mp e6
      cases e8
      have hE := (r2.take ok1' ex).headE
      obtain ⟨fp, k1, k2, k3⟩ := hE
      obtain ⟨f1, f2, m1, _, _⟩ := OwE.inv k1
      obtain ⟨w, hw, k⟩ := h2 F2 H2 v u x d2 z f1 r2.sub m1 ru e7
      exact k Q (q F2 H2 w (s1.trans s2) (r2.addFr hw))
    · cases e6
end

/-! ### statements -/
inductive Out where
  | nx (g : G) | rt (o : O) (g : G) | bk (g : G) | ct (g : G) | ex (C : Addr) (ns : List Str) (ds : List D) (g : G)
abbrev XS := G → Option Out
def Post (B : Bs) (F : Hp) (τ : En) (D : Ends) : Out → Prop
  | .nx g => ∀ F' H' σ', Same F F' → Rel B F' H' σ' g τ → D.nx σ' H'
  | .rt o g => ∀ F' H' σ' v, Same F F' → Rel B F' H' σ' g ((v, o) :: τ) → D.rt v H'
  | .bk g => ∀ F' H' σ', Same F F' → Rel B F' H' σ' g τ → D.bk σ' H'
  | .ct g => ∀ F' H' σ', Same F F' → Rel B F' H' σ' g τ → D.ct σ' H'
  | .ex C ns ds g => ∀ F' H' σ' d ws, Same F F' → Rel B F' H' σ' g τ → F' d = some (.xd (ns.zip ws)) → RpL B.K F' ws ds → B.W (.ref C) (some d) σ' H'
def SS (B : Bs) (t : TS) (m : XS) : Prop := ∀ F H σ g τ out, Rel B F H σ g τ → m g = some out → ∀ D : Ends, Post B F τ D out → t D σ H
theorem Post.mono {B : Bs} {F F' : Hp} {τ : En} {D : Ends} (e : Same F F') : ∀ {out : Out}, Post B F τ D out → Post B F' τ D out
  | .nx g, h => fun F2 H2 σ2 s => h F2 H2 σ2 (e.trans s)
  | .rt o g, h => fun F2 H2 σ2 v s => h F2 H2 σ2 v (e.trans s)
  | .bk g, h => fun F2 H2 σ2 s => h F2 H2 σ2 (e.trans s)
  | .ct g, h => fun F2 H2 σ2 s => h F2 H2 σ2 (e.trans s)
  | .ex C ns ds g, h => fun F2 H2 σ2 d ws s => h F2 H2 σ2 d ws (e.trans s)

section
variable {B : Bs} {F F' H H' : Hp} {σ : L2.St} {g : G} {τ : En}
def sNext : XS := fun g => some (.nx g)
theorem ss_next : SS B tNext sNext := by
  intro F H σ g τ out r e D p
  cases e
  exact p F H σ (Same.refl F) r
def sBrk : XS := fun g => some (.bk g)
theorem ss_brk : SS B tBreak sBrk := by
  intro F H σ g τ out r e D p
  cases e
  exact p F H σ (Same.refl F) r
def sCont : XS := fun g => some (.ct g)
theorem ss_cont : SS B tCont sCont := by
  intro F H σ g τ out r e D p
  cases e
  exact p F H σ (Same.refl F) r
def sSeq (a b : XS) : XS := fun g => (a g).bind fun x => match x with
  | .nx g' => b g'
  | .rt o g' => some (.rt o g')
  | .bk g' => some (.bk g')
  | .ct g' => some (.ct g')
  | .ex C ns ds g' => some (.ex C ns ds g')
theorem ss_seq {t u : TS} {a b : XS} (ha : SS B t a) (hb : SS B u b) : SS B (tSeq t u) (sSeq a b) := by
  intro F H σ g τ out r e D p
  obtain ⟨x, e1, e2⟩ := Option.bind_eq_some_iff.mp e
  refine ha F H σ g τ x r e1 _ ?_
  cases x with
  | nx g' => exact fun F1 H1 σ1 s1 r1 => hb F1 H1 σ1 g' τ out r1 e2 D (p.mono s1)
  | rt o g' => cases e2; exact p
  | bk g' => cases e2; exact p
  | ct g' => cases e2; exact p
  | ex C ns ds g' => cases e2; exact p
def sRet (m : XE) : XS := fun g => (m g).map fun p => .rt p.1 p.2
theorem ss_ret {t : TE} {m : XE} (h : SE B t m) : SS B (tRet t) (sRet m) := by
  intro F H σ g τ out r e D p
  obtain ⟨⟨o, g1⟩, e1, e2⟩ := Option.map_eq_some_iff.mp e
  cases e2
  exact h F H σ g τ o g1 r e1 _ fun F1 H1 v s1 r1 => p F1 H1 σ v s1 r1
def sRetN : XS := fun g => some (.rt (.fr .non) g)
theorem ss_retN : SS B tRetN sRetN := by
  intro F H σ g τ out r e D p
  cases e
  exact p F H σ .non (Same.refl F) (r.addFr rfl)
def sDrop (m : XE) : XS := fun g => (m g).map fun p => .nx p.2
theorem ss_drop {t : TE} {m : XE} (h : SE B t m) : SS B (tDrop t) (sDrop m) := by
  intro F H σ g τ out r e D p
  obtain ⟨⟨o, g1⟩, e1, e2⟩ := Option.map_eq_some_iff.mp e
  cases e2
  exact h F H σ g τ o g1 r e1 _ fun F1 H1 v s1 r1 => p F1 H1 σ s1 r1.drop
def sIf (c : XT) (a b : XS) : XS := fun g => (c g).bind fun p => if p.1 = true then a p.2 else b p.2
theorem ss_if {c : TT} {t u : TS} {m : XT} {a b : XS} (hc : ST B c m) (ha : SS B t a) (hb : SS B u b) : SS B (tIfS c t u) (sIf m a b) := by
  intro F H σ g τ out r e D p
  obtain ⟨⟨k, g1⟩, e1, e2⟩ := Option.bind_eq_some_iff.mp e
  refine hc F H σ g τ k g1 r e1 _ fun F1 H1 s1 r1 => ?_
  cases k with
  | true => exact ha F1 H1 σ g1 τ out r1 e2 D (p.mono s1)
  | false => exact hb F1 H1 σ g1 τ out r1 e2 D (p.mono s1)

/-! targets -/
abbrev XG := O → G → Option G
def SG (B : Bs) (t : TG) (m : XG) : Prop := ∀ F H σ g τ v o g', Rel B F H σ g ((v, o) :: τ) → m o g = some g' → ∀ Q : L2.St → Hp → Prop,
  (∀ F' H' σ', Same F F' → Rel B F' H' σ' g' τ → Q σ' H') → t v σ H Q
def SGs (B : Bs) (t : TGs) (m : List D → G → Option G) : Prop := ∀ F H σ g τ vs ds g', Rel B F H σ g τ → RpL B.K F vs ds → m ds g = some g' → ∀ Q : L2.St → Hp → Prop,
  (∀ F' H' σ', Same F F' → Rel B F' H' σ' g' τ → Q σ' H') → t vs σ H Q
def gN (i : Nat) : XG := fun o g => if i < g.length then some (g.set i (some o)) else none
theorem sg_name {i : Nat} (hp : i ∉ B.pin) : SG B (gName i) (gN i) := by
  intro F H σ g τ v o g' r e Q q
  unfold gN at e
  split at e
  · rename_i hi
    cases e
    exact q F H _ (Same.refl F) (r.put (by rw [← r.len]; exact hi) hp)
  · cases e
def gsNil : List D → G → Option G := fun ds g => match ds with
  | [] => some g
  | _ => none
def gsCons (a : XG) (b : List D → G → Option G) : List D → G → Option G := fun ds g => match ds with
  | d :: r => (a (.fr d) g).bind fun g1 => b r g1
  | [] => none
theorem sgs_nil : SGs B gNil gsNil := by
  intro F H σ g τ vs ds g' r rp e Q q
  cases ds with
  | nil =>
    cases e
    exact ⟨rp, q F H σ (Same.refl F) r⟩
  | cons d ds => cases e
theorem sgs_cons {t : TG} {u : TGs} {a : XG} {b : List D → G → Option G} (ha : SG B t a) (hb : SGs B u b) : SGs B (gCons t u) (gsCons a b) := by
  intro F H σ g τ vs ds g' r rp e Q q
  cases ds with
  | nil => cases e
  | cons d ds =>
    obtain ⟨g1, e1, e2⟩ := Option.bind_eq_some_iff.mp e
    obtain ⟨v, ws, rfl, h1, h2⟩ := rp
    refine ⟨v, ws, rfl, ?_⟩
    exact ha F H σ g τ v (.fr d) g1 (r.addFr h1) e1 _ fun F1 H1 σ1 s1 r1 => hb F1 H1 σ1 g1 τ ws ds g' r1 (RpL.mono s1 _ _ h2) e2 Q fun F2 H2 σ2 s2 r2 => q F2 H2 σ2 (s1.trans s2) r2
def gTp (n : Nat) (b : List D → G → Option G) : XG := fun o g => match o with
  | .fr (.tup ds) => if ds.length = n then b ds g else none
  | _ => none
theorem sg_tup {n : Nat} {u : TGs} {b : List D → G → Option G} (hb : SGs B u b) : SG B (gTup B.K n u) (gTp n b) := by
  intro F H σ g τ v o g' r e Q q
  unfold gTp at e
  split at e
  · rename_i ds
    split at e
    · rename_i hn
      obtain ⟨a, vs, rfl, h1, h2⟩ := r.frd
      refine ⟨a, vs, rfl, Same.sqT r.sub h1, by rw [h2.length]; exact hn, ?_⟩
      exact hb F H σ g τ vs ds g' r.drop h2 e Q q
    · cases e
  · cases e
def sAsg (m : XE) (a : XG) : XS := fun g => (m g).bind fun p => (a p.1 p.2).map .nx
theorem ss_asg {t : TE} {u : TG} {m : XE} {a : XG} (h : SE B t m) (ha : SG B u a) : SS B (tAsg t u) (sAsg m a) := by
  intro F H σ g τ out r e D p
  obtain ⟨⟨o, g1⟩, e1, e2⟩ := Option.bind_eq_some_iff.mp e
  obtain ⟨g2, e3, e4⟩ := Option.map_eq_some_iff.mp e2
  cases e4
  refine h F H σ g τ o g1 r e1 _ fun F1 H1 v s1 r1 => ?_
  exact ha F1 H1 σ g1 τ v o g2 r1 e3 _ fun F2 H2 σ2 s2 r2 => p F2 H2 σ2 (s1.trans s2) r2
/-- a, b = e1, e2 into two names -/
def sPar (i j : Nat) (m : XA) : XS := fun g => (m g).bind fun p => (alld p.1).bind fun ds => match ds with
  | [d, e] => if i < p.2.length then some (.nx ((p.2.set i (some (.fr d))).set j (some (.fr e)))) else none
  | _ => none
theorem ss_par {i j : Nat} {t : TA} {m : XA} (hi : i ∉ B.pin) (hj : j ∉ B.pin) (h : SA B t m) : SS B (tPar i j t) (sPar i j m) := by
  intro F H σ g τ out r e D p
  obtain ⟨⟨as, g1⟩, e1, e2⟩ := Option.bind_eq_some_iff.mp e
  obtain ⟨ds, e3, e4⟩ := Option.bind_eq_some_iff.mp e2
  dsimp only at e4
  split at e4
  · rename_i d d2
    split at e4
    · rename_i hl
      cases e4
      refine h F H σ g τ as g1 r e1 _ fun F1 H1 vs s1 r1 ok => ?_
      obtain ⟨v, ws, rfl, k1, k2⟩ := alld_ok ok e3
      obtain ⟨w, xs, rfl, k3, k4⟩ := k2
      obtain rfl : xs = [] := k4
      refine ⟨v, w, rfl, ?_⟩
      have r2 := (r1.addFr k1).put (i := i) (by rw [← r1.len]; exact hl) hi
      by_cases hjl : j < (σ.set i (some v)).length
      · exact p F1 H1 _ s1 ((r2.addFr k3).put hjl hj)
      · rw [List.set_eq_of_length_le (by omega)]
        rw [List.set_eq_of_length_le (by rw [r2.len]; omega)] at p
        exact p F1 H1 _ s1 r2
    · cases e4
  · cases e4
/-- x += e of a local -/
def S2i (K : PySem.W.Frag) (r : TIp) (f : D → D → Option D) : Prop := S2 K r f
def sAug (i : Nat) (f : D → D → Option D) (m : XO) : XS := fun g => match g[i]? with
  | some (some (.fr d)) => (m g).bind fun p => (view p.2 p.1).bind fun e => (f d e).bind fun z => if i < p.2.length then some (.nx (p.2.set i (some (.fr z)))) else none
  | _ => none
theorem ss_aug {i : Nat} {t : TE} {ti : TIp} {f : D → D → Option D} {m : XO} (hi : i ∉ B.pin) (hr : S2i B.K ti f) (h : SO B t m) : SS B (tAug i t ti) (sAug i f m) := by
  intro F H σ g τ out r e D p
  unfold sAug at e
  split at e
  · rename_i d ed
    obtain ⟨⟨a, g1⟩, e1, e2⟩ := Option.bind_eq_some_iff.mp e
    obtain ⟨d2, e3, e4⟩ := Option.bind_eq_some_iff.mp e2
    obtain ⟨z, e5, e6⟩ := Option.bind_eq_some_iff.mp e4
    split at e6
    · rename_i hl
      cases e6
      obtain ⟨v, hv, r0⟩ := r.slot ed
      refine ⟨v, hv, ?_⟩
      refine h F H σ g τ a g1 r e1 _ fun F1 H1 u s1 r1 ok => ?_
      obtain ⟨w, hw, k⟩ := hr H1 v u d d2 z (Rp.mono (s1.trans r1.sub) _ _ r0.frd) (r1.view ok e3) e5
      exact k _ (p F1 H1 _ s1 ((r1.addFr (toV_rp hw F1)).put (by rw [← r1.len]; exact hl) hi))
    · cases e6
  · cases e

/-! ### for -/
def Walks (K : PySem.W.Frag) (F : Hp) (J : It) (ds : List D) : Prop :=
  (∀ i F2 H2, Same F F2 → Same F2 H2 → i < ds.length → J.go i H2 ∧ ∀ x H3, J.yld i H2 x H3 → ∃ F3, Grow F2 H2 F3 H3 ∧ ∃ d, ds[i]? = some d ∧ Rp K F3 x d) ∧
  (∀ F2 H2, Same F F2 → Same F2 H2 → J.stop ds.length H2)
theorem Walks.mono {K : PySem.W.Frag} {F F' : Hp} {J : It} {ds : List D} (e : Same F F') (w : Walks K F J ds) : Walks K F' J ds :=
  ⟨fun i F2 H2 s => w.1 i F2 H2 (e.trans s), fun F2 H2 s => w.2 F2 H2 (e.trans s)⟩
abbrev XI := G → Option (List D × G)
def SI (B : Bs) (wi : TI) (m : XI) : Prop := ∀ F H σ g τ ds g', Rel B F H σ g τ → m g = some (ds, g') → ∀ R : It → Hp → Prop,
  (∀ F' H' J, Same F F' → Rel B F' H' σ g' τ → Walks B.K F' J ds → R J H') → wi σ H R
def forL (tg : XG) (body : XS) : List D → G → Option Out
  | [], g => some (.nx g)
  | d :: ds, g => (tg (.fr d) g).bind fun g1 => (body g1).bind fun x => match x with
    | .nx g2 => forL tg body ds g2
    | .ct g2 => forL tg body ds g2
    | .bk g2 => some (.nx g2)
    | .rt o g2 => some (.rt o g2)
    | .ex C ns ds g2 => some (.ex C ns ds g2)
def sFor (it : XI) (tg : XG) (body : XS) : XS := fun g => (it g).bind fun p => forL tg body p.1 p.2
theorem ss_for {wi : TI} {tg : TG} {tb : TS} {it : XI} {mg : XG} {mb : XS} (hi : SI B wi it) (hg : SG B tg mg) (hb : SS B tb mb) : SS B (tFor wi tg tb) (sFor it mg mb) := by
  intro F H σ g τ out r e D p
  obtain ⟨⟨ds, g1⟩, e1, e2⟩ := Option.bind_eq_some_iff.mp e
  refine hi F H σ g τ ds g1 r e1 _ fun F1 H1 J s1 r1 w1 => ?_
  refine ⟨fun i m σ' H' => m = ds.length - i ∧ i ≤ ds.length ∧ ∃ F' g', Same F1 F' ∧ Rel B F' H' σ' g' τ ∧ forL mg mb (ds.drop i) g' = some out, ⟨ds.length, by simp, Nat.zero_le _, F1, g1, Same.refl F1, r1, e2⟩, ?_⟩
  rintro i m σ' H' ⟨rfl, hil, F', g', s', r', e'⟩
  have w' := w1.mono s'
  by_cases hlt : i < ds.length
  · right
    obtain ⟨go, yld⟩ := w'.1 i F' H' (Same.refl F') r'.sub hlt
    have ed : ds.drop i = ds[i] :: ds.drop (i + 1) := List.drop_eq_getElem_cons hlt
    rw [ed] at e'
    obtain ⟨g2, e3, e4⟩ := Option.bind_eq_some_iff.mp e'
    obtain ⟨x, e5, e6⟩ := Option.bind_eq_some_iff.mp e4
    refine ⟨go, fun σ2 H2 => ∃ F2 g3, Same F1 F2 ∧ Rel B F2 H2 σ2 g3 τ ∧ forL mg mb (ds.drop (i + 1)) g3 = some out, fun σ2 H2 q => ⟨ds.length - (i + 1), by omega, rfl, by omega, q⟩, fun y H3 hy => ?_⟩
    obtain ⟨F3, gr, d, hd, rd⟩ := yld y H3 hy
    rw [List.getElem?_eq_getElem hlt] at hd
    cases hd
    have r3 := (r'.grow gr).addFr rd
    refine hg F3 H3 σ' g' τ y (.fr ds[i]) g2 r3 e3 _ fun F4 H4 σ4 s4 r4 => ?_
    refine hb F4 H4 σ4 g2 τ x r4 e5 _ ?_
    have s14 : Same F1 F4 := (s'.trans gr.f).trans s4
    cases x with
    | nx g3 => exact fun F5 H5 σ5 s5 r5 => ⟨F5, g3, s14.trans s5, r5, e6⟩
    | ct g3 => exact fun F5 H5 σ5 s5 r5 => ⟨F5, g3, s14.trans s5, r5, e6⟩
    | bk g3 =>
      cases e6
      exact fun F5 H5 σ5 s5 r5 => p F5 H5 σ5 (s1.trans (s14.trans s5)) r5
    | rt o g3 =>
      cases e6
      exact fun F5 H5 σ5 v s5 r5 => p F5 H5 σ5 v (s1.trans (s14.trans s5)) r5
    | ex C ns ds g3 =>
      cases e6
      exact fun F5 H5 σ5 d ws s5 r5 => p F5 H5 σ5 d ws (s1.trans (s14.trans s5)) r5
  · left
    have ei : i = ds.length := by omega
    subst ei
    refine ⟨w'.2 F' H' (Same.refl F') r'.sub, ?_⟩
    rw [List.drop_length] at e'
    cases e'
    exact p F' H' σ' (s1.trans s') r'

/-! what is walked -/
theorem walks_list {K : PySem.W.Frag} {a : Addr} {vs : List V} {ds : List D} (h : F a = some (.lst vs)) (hr : RpL K F vs ds) : Walks K F (Itl K a) ds := by
  refine ⟨fun i F2 H2 s s2 hi => ?_, fun F2 H2 s s2 => ?_⟩
  · have hq : H2 a = some (.lst vs) := s2 _ _ (s _ _ h)
    have hl := hr.length
    obtain ⟨v, hv, rv⟩ := hr.get (List.getElem?_eq_getElem hi)
    refine ⟨⟨vs, v, SqL.of hq, hv⟩, fun x H3 y => ?_⟩
    obtain ⟨rfl, y⟩ := y
    have e := y vs (SqL.of hq)
    rw [hv] at e
    cases e
    exact ⟨F2, Grow.refl s2, _, List.getElem?_eq_getElem hi, Rp.mono s _ _ rv⟩
  · exact ⟨vs, SqL.of (s2 _ _ (s _ _ h)), by rw [hr.length]; exact Nat.le_refl _⟩
theorem walks_tup {K : PySem.W.Frag} {a : Addr} {vs : List V} {ds : List D} (h : SqT K F a vs) (hr : RpL K F vs ds) : Walks K F (Itt K a) ds := by
  refine ⟨fun i F2 H2 s s2 hi => ?_, fun F2 H2 s s2 => ?_⟩
  · have hq : SqT K H2 a vs := Same.sqT s2 (Same.sqT s h)
    obtain ⟨v, hv, rv⟩ := hr.get (List.getElem?_eq_getElem hi)
    refine ⟨⟨vs, v, hq, hv⟩, fun x H3 y => ?_⟩
    obtain ⟨rfl, y⟩ := y
    have e := y vs hq
    rw [hv] at e
    cases e
    exact ⟨F2, Grow.refl s2, _, List.getElem?_eq_getElem hi, Rp.mono s _ _ rv⟩
  · exact ⟨vs, Same.sqT s2 (Same.sqT s h), by rw [hr.length]; exact Nat.le_refl _⟩
def rgD (lo : Int) (n : Nat) : List D := (List.range n).map fun i => .int (lo + (i : Nat))
theorem walks_rng {K : PySem.W.Frag} {lo : Int} {n : Nat} : Walks K F (Itr lo n) (rgD lo n) := by
  have hl : (rgD lo n).length = n := by unfold rgD; rw [List.length_map, List.length_range]
  refine ⟨fun i F2 H2 s s2 hi => ?_, fun F2 H2 s s2 => ?_⟩
  · rw [hl] at hi
    refine ⟨hi, fun x H3 y => ?_⟩
    obtain ⟨rfl, rfl⟩ := y
    refine ⟨F2, Grow.refl s2, .int (lo + (i : Nat)), ?_, rfl⟩
    unfold rgD
    rw [List.getElem?_map, List.getElem?_range hi]
    rfl
  · rw [hl]
    exact Nat.le_refl _
/-- over a frozen list -/
def iLst (m : XO) : XI := fun g => (m g).bind fun p => match p.1 with
  | .d (.lst ds) => some (ds, p.2)
  | _ => none
theorem si_lst {t : TE} {m : XO} (h : SO B t m) : SI B (iList B.K t) (iLst m) := by
  intro F H σ g τ ds g' r e R q
  obtain ⟨⟨a, g1⟩, e1, e2⟩ := Option.bind_eq_some_iff.mp e
  refine h F H σ g τ a g1 r e1 _ fun F1 H1 v s1 r1 ok => ?_
  dsimp only at e2
  split at e2
  · rename_i es
    cases e2
    obtain ⟨x, vs, rfl, k1, k2⟩ := ok
    exact ⟨x, rfl, ⟨vs, SqL.of (r1.sub _ _ k1)⟩, q F1 H1 _ s1 r1 (walks_list k1 k2)⟩
  · cases e2
def iTpl (m : XO) : XI := fun g => (m g).bind fun p => match p.1 with
  | .d (.tup ds) => some (ds, p.2)
  | _ => none
theorem si_tup {t : TE} {m : XO} (h : SO B t m) : SI B (iTup B.K t) (iTpl m) := by
  intro F H σ g τ ds g' r e R q
  obtain ⟨⟨a, g1⟩, e1, e2⟩ := Option.bind_eq_some_iff.mp e
  refine h F H σ g τ a g1 r e1 _ fun F1 H1 v s1 r1 ok => ?_
  dsimp only at e2
  split at e2
  · rename_i es
    cases e2
    obtain ⟨x, vs, rfl, k1, k2⟩ := ok
    exact ⟨x, rfl, ⟨vs, Same.sqT r1.sub k1⟩, q F1 H1 _ s1 r1 (walks_tup k1 k2)⟩
  · cases e2
def iR1 (m : XO) : XI := fun g => (m g).bind fun p => match view p.2 p.1 with
  | some (.int j) => if -(2 ^ 62) ≤ j ∧ j < 2 ^ 62 then some (rgD 0 j.toNat, p.2) else none
  | _ => none
theorem si_r1 {t : TE} {m : XO} (h : SO B t m) : SI B (iRng1 (tCons t tNil)) (iR1 m) := by
  intro F H σ g τ ds g' r e R q
  obtain ⟨⟨a, g1⟩, e1, e2⟩ := Option.bind_eq_some_iff.mp e
  refine h F H σ g τ a g1 r e1 _ fun F1 H1 v s1 r1 ok => ?_
  dsimp only at e2
  split at e2
  · rename_i j ej
    split at e2
    · rename_i hj
      cases e2
      obtain rfl : v = .int j := r1.view ok ej
      exact ⟨j, rfl, hj.1, hj.2, q F1 H1 _ s1 r1 walks_rng⟩
    · cases e2
  · cases e2
def iR2 (a b : XO) : XI := fun g => (a g).bind fun p => (b p.2).bind fun q => match view q.2 p.1, view q.2 q.1 with
  | some (.int i), some (.int j) => if (-(2 ^ 62) ≤ i ∧ i < 2 ^ 62) ∧ (-(2 ^ 62) ≤ j ∧ j < 2 ^ 62) then some (rgD i (j - i).toNat, q.2) else none
  | _, _ => none
theorem si_r2 {t u : TE} {m m' : XO} (h : SO B t m) (h' : SO B u m') : SI B (iRng2 (tCons t (tCons u tNil))) (iR2 m m') := by
  intro F H σ g τ ds g' r e R q
  obtain ⟨⟨a, g1⟩, e1, e2⟩ := Option.bind_eq_some_iff.mp e
  obtain ⟨⟨b, g2⟩, e3, e4⟩ := Option.bind_eq_some_iff.mp e2
  refine h F H σ g τ a g1 r e1 _ fun F1 H1 v s1 r1 ok => ?_
  refine h' F1 H1 σ g1 τ b g2 r1 e3 _ fun F2 H2 w s2 r2 ok2 => ?_
  dsimp only at e4
  split at e4
  · rename_i i j ei ej
    split at e4
    · rename_i hj
      cases e4
      obtain rfl : v = .int i := r2.view (ok.mono s2) ei
      obtain rfl : w = .int j := r2.view ok2 ej
      exact ⟨i, j, rfl, ⟨hj.1.1, hj.1.2, hj.2.1, hj.2.2⟩, q F2 H2 _ (s1.trans s2) r2 walks_rng⟩
    · cases e4
  · cases e4

/-! ### while -/
inductive WhN (c : XT) (b : XS) : Nat → G → Out → Prop
  | done {n : Nat} {g g1 : G} (h : c g = some (false, g1)) : WhN c b n g (.nx g1)
  | brk {n : Nat} {g g1 g2 : G} (h : c g = some (true, g1)) (k : b g1 = some (.bk g2)) : WhN c b n g (.nx g2)
  | ret {n : Nat} {g g1 g2 : G} {o : O} (h : c g = some (true, g1)) (k : b g1 = some (.rt o g2)) : WhN c b n g (.rt o g2)
  | exc {n : Nat} {g g1 g2 : G} {C : Addr} {ns : List Str} {ds : List D} (h : c g = some (true, g1)) (k : b g1 = some (.ex C ns ds g2)) : WhN c b n g (.ex C ns ds g2)
  | next {n : Nat} {g g1 g2 : G} {out : Out} (h : c g = some (true, g1)) (k : b g1 = some (.nx g2)) (w : WhN c b n g2 out) : WhN c b (n + 1) g out
  | cont {n : Nat} {g g1 g2 : G} {out : Out} (h : c g = some (true, g1)) (k : b g1 = some (.ct g2)) (w : WhN c b n g2 out) : WhN c b (n + 1) g out
theorem WhN.det {c : XT} {b : XS} {n : Nat} {g : G} {x : Out} (h : WhN c b n g x) : ∀ {m : Nat} {y : Out}, WhN c b m g y → x = y := by
  induction h with
  | done h =>
    intro m y z
    cases z with
    | done h' => rw [h] at h'; cases h'; rfl
    | brk h' k' => rw [h] at h'; cases h'
    | ret h' k' => rw [h] at h'; cases h'
    | exc h' k' => rw [h] at h'; cases h'
    | next h' k' w' => rw [h] at h'; cases h'
    | cont h' k' w' => rw [h] at h'; cases h'
  | brk h k =>
    intro m y z
    cases z with
    | done h' => rw [h] at h'; cases h'
    | brk h' k' => rw [h] at h'; cases h'; rw [k] at k'; cases k'; rfl
    | ret h' k' => rw [h] at h'; cases h'; rw [k] at k'; cases k'
    | exc h' k' => rw [h] at h'; cases h'; rw [k] at k'; cases k'
    | next h' k' w' => rw [h] at h'; cases h'; rw [k] at k'; cases k'
    | cont h' k' w' => rw [h] at h'; cases h'; rw [k] at k'; cases k'
  | ret h k =>
    intro m y z
    cases z with
    | done h' => rw [h] at h'; cases h'
    | brk h' k' => rw [h] at h'; cases h'; rw [k] at k'; cases k'
    | ret h' k' => rw [h] at h'; cases h'; rw [k] at k'; cases k'; rfl
    | exc h' k' => rw [h] at h'; cases h'; rw [k] at k'; cases k'
    | next h' k' w' => rw [h] at h'; cases h'; rw [k] at k'; cases k'
    | cont h' k' w' => rw [h] at h'; cases h'; rw [k] at k'; cases k'
  | exc h k =>
    intro m y z
    cases z with
    | done h' => rw [h] at h'; cases h'
    | brk h' k' => rw [h] at h'; cases h'; rw [k] at k'; cases k'
    | ret h' k' => rw [h] at h'; cases h'; rw [k] at k'; cases k'
    | exc h' k' => rw [h] at h'; cases h'; rw [k] at k'; cases k'; rfl
    | next h' k' w' => rw [h] at h'; cases h'; rw [k] at k'; cases k'
    | cont h' k' w' => rw [h] at h'; cases h'; rw [k] at k'; cases k'
  | next h k w ih =>
    intro m y z
    cases z with
    | done h' => rw [h] at h'; cases h'
    | brk h' k' => rw [h] at h'; cases h'; rw [k] at k'; cases k'
    | ret h' k' => rw [h] at h'; cases h'; rw [k] at k'; cases k'
    | exc h' k' => rw [h] at h'; cases h'; rw [k] at k'; cases k'
    | next h' k' w' => rw [h] at h'; cases h'; rw [k] at k'; cases k'; exact ih w'
    | cont h' k' w' => rw [h] at h'; cases h'; rw [k] at k'; cases k'
  | cont h k w ih =>
    intro m y z
    cases z with
    | done h' => rw [h] at h'; cases h'
    | brk h' k' => rw [h] at h'; cases h'; rw [k] at k'; cases k'
    | ret h' k' => rw [h] at h'; cases h'; rw [k] at k'; cases k'
    | exc h' k' => rw [h] at h'; cases h'; rw [k] at k'; cases k'
    | next h' k' w' => rw [h] at h'; cases h'; rw [k] at k'; cases k'
    | cont h' k' w' => rw [h] at h'; cases h'; rw [k] at k'; cases k'; exact ih w'
open Classical in
noncomputable def sWhile (c : XT) (b : XS) : XS := fun g => if h : ∃ out n, WhN c b n g out then some h.choose else none
theorem sWhile_eq {c : XT} {b : XS} {n : Nat} {g : G} {out : Out} (h : WhN c b n g out) : sWhile c b g = some out := by
  have hx : ∃ out n, WhN c b n g out := ⟨out, n, h⟩
  unfold sWhile
  rw [dif_pos hx]
  obtain ⟨m, hm⟩ := hx.choose_spec
  rw [hm.det h]
theorem sWhile_of {c : XT} {b : XS} {g : G} {out : Out} (h : sWhile c b g = some out) : ∃ n, WhN c b n g out := by
  unfold sWhile at h
  split at h
  · rename_i hx
    cases h
    exact hx.choose_spec
  · cases h
theorem ss_while {tc : TT} {tb : TS} {c : XT} {b : XS} (hc : ST B tc c) (hb : SS B tb b) : SS B (tWhile tc tb) (sWhile c b) := by
  intro F H σ g τ out r e D p
  obtain ⟨n, wn⟩ := sWhile_of e
  refine ⟨fun m σ' H' => ∃ F' g', Same F F' ∧ Rel B F' H' σ' g' τ ∧ WhN c b m g' out, ⟨n, F, g, Same.refl F, r, wn⟩, ?_⟩
  rintro m σ' H' ⟨F', g', s', r', w'⟩
  cases w' with
  | done h =>
    exact hc F' H' σ' g' τ _ _ r' h _ fun F1 H1 s1 r1 => p F1 H1 σ' (s'.trans s1) r1
  | brk h k =>
    refine hc F' H' σ' g' τ _ _ r' h _ fun F1 H1 s1 r1 => ?_
    exact ⟨fun _ _ => False, fun _ _ z => z.elim, hb F1 H1 σ' _ τ _ r1 k _ fun F2 H2 σ2 s2 r2 => p F2 H2 σ2 ((s'.trans s1).trans s2) r2⟩
  | ret h k =>
    refine hc F' H' σ' g' τ _ _ r' h _ fun F1 H1 s1 r1 => ?_
    exact ⟨fun _ _ => False, fun _ _ z => z.elim, hb F1 H1 σ' _ τ _ r1 k _ fun F2 H2 σ2 v s2 r2 => p F2 H2 σ2 v ((s'.trans s1).trans s2) r2⟩
  | exc h k =>
    refine hc F' H' σ' g' τ _ _ r' h _ fun F1 H1 s1 r1 => ?_
    exact ⟨fun _ _ => False, fun _ _ z => z.elim, hb F1 H1 σ' _ τ _ r1 k _ fun F2 H2 σ2 d ws s2 r2 => p F2 H2 σ2 d ws ((s'.trans s1).trans s2) r2⟩
  | @next n _ g1 g2 _ h k w =>
    refine hc F' H' σ' g' τ _ _ r' h _ fun F1 H1 s1 r1 => ?_
    exact ⟨fun σ2 H2 => ∃ F2, Same F F2 ∧ Rel B F2 H2 σ2 g2 τ, fun σ2 H2 ⟨F2, s2, r2⟩ => ⟨n, Nat.lt_succ_self n, F2, g2, s2, r2, w⟩, hb F1 H1 σ' _ τ _ r1 k _ fun F2 H2 σ2 s2 r2 => ⟨F2, (s'.trans s1).trans s2, r2⟩⟩
  | @cont n _ g1 g2 _ h k w =>
    refine hc F' H' σ' g' τ _ _ r' h _ fun F1 H1 s1 r1 => ?_
    exact ⟨fun σ2 H2 => ∃ F2, Same F F2 ∧ Rel B F2 H2 σ2 g2 τ, fun σ2 H2 ⟨F2, s2, r2⟩ => ⟨n, Nat.lt_succ_self n, F2, g2, s2, r2, w⟩, hb F1 H1 σ' _ τ _ r1 k _ fun F2 H2 σ2 s2 r2 => ⟨F2, (s'.trans s1).trans s2, r2⟩⟩
end
end Mi

set_option Elab.async false
set_option linter.all false
set_option maxRecDepth 100000
/-! Mi3: defs and calls. -/
namespace Mi
open PySem PySem.Spec PyProof.Rows L2

/-- a def's promise by its mirror: f takes the arguments' trees, gives the answer and what has become of the arguments -/
def spM (K : PySem.W.Frag) (n : Nat) (f : List O → Option (O × List O)) : Sp := fun vs H Q _ => vs.length = n ∧ ∃ F os r os' fp, Same F H ∧ OwL K F H vs os fp ∧ fp.Nodup ∧ (∀ b ∈ fp, F b = none) ∧ f os = some (r, os') ∧
  ∀ F' H' v fp', Same F F' → Same F' H' → (∀ b o, F' b = some o → F b = some o ∨ H b = none ∨ b ∈ fp) → (∀ b o, H b = some o → b ∉ fp → H' b = some o) →
    OwL K F' H' (v :: vs) (r :: os') fp' → fp'.Nodup → (∀ b ∈ fp', F' b = none ∧ (H b = none ∨ b ∈ fp)) → Q v H'

section
variable {B : Bs} {F F' H H' : Hp} {σ : L2.St} {g : G} {τ : En}
theorem Rel.back' {i : Nat} {v : V} {o : O} (r : Rel B F H σ g ((v, o) :: τ)) (hs : σ[i]? = some (some v)) : Rel B F H σ (g.set i (some o)) τ := by
  have r1 := r.wipe i
  have hi : i < g.length := by
    rw [r.len]
    exact (List.getElem?_eq_some_iff.mp hs).1
  have r2 := r1.back hs (List.getElem?_set_self hi)
  rw [List.set_set] at r2
  exact r2
theorem OwE.split {K : PySem.W.Frag} : ∀ {E E' : En} {fp : List Addr}, OwE K F H (E ++ E') fp → ∃ f1 f2, OwE K F H E f1 ∧ OwE K F H E' f2 ∧ fp = f1 ++ f2
  | [], E', fp, h => ⟨[], fp, OwE.nil, h, rfl⟩
  | e :: E, E', fp, h => by
    obtain ⟨f1, f2, h1, h2, rfl⟩ := OwE.inv h
    obtain ⟨f3, f4, h3, h4, rfl⟩ := OwE.split h2
    exact ⟨f1 ++ f3, f4, OwE.cons h1 h3, h4, by rw [List.append_assoc]⟩
theorem Ents.right : ∀ {E E' : En}, Ents B F H (E ++ E') → Ents B F H E'
  | [], _, h => h
  | _ :: E, _, h => Ents.right (E := E) h.drop
theorem owE_zip {K : PySem.W.Frag} {vs : List V} {os : List O} {fp : List Addr} (hl : vs.length = os.length) (h : OwE K F H (vs.zip os) fp) : OwL K F H vs os fp := by
  unfold OwE at h
  rw [List.map_fst_zip (Nat.le_of_eq hl), List.map_snd_zip (Nat.le_of_eq hl.symm)] at h
  exact h
theorem zip_owE {K : PySem.W.Frag} {vs : List V} {os : List O} {fp : List Addr} (h : OwL K F H vs os fp) : OwE K F H (vs.zip os) fp := by
  unfold OwE
  rw [List.map_fst_zip (Nat.le_of_eq h.length), List.map_snd_zip (Nat.le_of_eq h.length.symm)]
  exact h

def pull : List Opd → G → Option (List O × G)
  | [], g => some ([], g)
  | .d x :: r, g => (pull r g).map fun p => (.fr x :: p.1, p.2)
  | .br i :: r, g => match g[i]? with
    | some (some o) => (pull r (g.set i none)).map fun p => (o :: p.1, p.2)
    | _ => none
def push : List Opd → List O → G → G
  | .br i :: r, o :: os, g => (push r os g).set i (some o)
  | .d _ :: r, _ :: os, g => push r os g
  | _, _, g => g
theorem pull_ok : ∀ {as : List Opd} {g : G} {τ : En} {vs : List V} {os : List O} {g2 : G}, Rel B F H σ g τ → OpdsOk B F σ vs as → pull as g = some (os, g2) → Rel B F H σ g2 (vs.zip os ++ τ) ∧ vs.length = os.length ∧ os.length = as.length
  | [], g, τ, vs, os, g2, r, ok, e => by
    cases e
    obtain rfl : vs = [] := ok
    exact ⟨r, rfl, rfl⟩
  | .d x :: as, g, τ, vs, os, g2, r, ok, e => by
    obtain ⟨v, ws, rfl, h1, h2⟩ := ok
    obtain ⟨⟨ps, g3⟩, e1, e2⟩ := Option.map_eq_some_iff.mp e
    cases e2
    obtain ⟨k1, k2, k3⟩ := pull_ok r h2 e1
    exact ⟨k1.addFr h1, by rw [List.length_cons, List.length_cons, k2], by rw [List.length_cons, List.length_cons, k3]⟩
  | .br i :: as, g, τ, vs, os, g2, r, ok, e => by
    obtain ⟨v, ws, rfl, h1, h2⟩ := ok
    unfold pull at e
    split at e
    · rename_i o eo
      obtain ⟨⟨ps, g3⟩, e1, e2⟩ := Option.map_eq_some_iff.mp e
      cases e2
      obtain ⟨k1, k2, k3⟩ := pull_ok (r.take h1 eo) h2 e1
      exact ⟨k1.tperm List.perm_middle, by rw [List.length_cons, List.length_cons, k2], by rw [List.length_cons, List.length_cons, k3]⟩
    · cases e
theorem push_ok {F0 : Hp} : ∀ {as : List Opd} {g : G} {τ : En} {vs : List V} {os : List O}, OpdsOk B F0 σ vs as → os.length = as.length → Rel B F H σ g (vs.zip os ++ τ) → Rel B F H σ (push as os g) τ
  | [], g, τ, vs, os, ok, hl, r => by
    obtain rfl : vs = [] := ok
    obtain rfl : os = [] := List.length_eq_zero_iff.mp hl
    exact r
  | .d x :: as, g, τ, vs, os, ok, hl, r => by
    obtain ⟨v, ws, rfl, h1, h2⟩ := ok
    cases os with
    | nil => simp at hl
    | cons o os =>
      have r' : Rel B F H σ g (ws.zip os ++ τ) := r.drop
      exact push_ok (as := as) h2 (by simpa using hl) r'
  | .br i :: as, g, τ, vs, os, ok, hl, r => by
    obtain ⟨v, ws, rfl, h1, h2⟩ := ok
    cases os with
    | nil => simp at hl
    | cons o os => exact (push_ok (τ := (v, o) :: τ) h2 (by simpa using hl) (r.tperm List.perm_middle.symm)).back' h1

def xCall (f : List O → Option (O × List O)) (as : XA) : XE := fun g => (as g).bind fun p => (pull p.1 p.2).bind fun q => (f q.1).map fun z => (z.1, push p.1 z.2 q.2)
/-- behind a call: entries whose own things the callee had, and the rest -/
theorem Rel.called {vs : List V} {os os' : List O} {v : V} {r : O} {f1 f2 fp' : List Addr} (rl : Rel B F H σ g (vs.zip os ++ τ)) (h1 : OwE B.K F H (vs.zip os) f1) (h2 : OwE B.K F H (ents σ g ++ τ) f2) (nd : (f1 ++ f2).Nodup)
    (hn : ∀ b ∈ f1 ++ f2, F b = none ∧ (B.H0 b = none ∨ b ∈ B.M)) (sF : Same F F') (sH : Same F' H') (n : ∀ b o, F' b = some o → F b = some o ∨ H b = none ∨ b ∈ f1) (k : ∀ b o, H b = some o → b ∉ f1 → H' b = some o)
    (ow : OwL B.K F' H' (v :: vs) (r :: os') fp') (nd' : fp'.Nodup) (hn' : ∀ b ∈ fp', F' b = none ∧ (H b = none ∨ b ∈ f1)) : Rel B F' H' σ g (vs.zip os' ++ (v, r) :: τ) := by
  have h0 : ∀ b, H b = none → B.H0 b = none ∨ b ∈ B.M := fun b e => by
    cases q : B.H0 b with
    | none => exact .inl rfl
    | some x =>
      by_cases m : b ∈ B.M
      · exact .inr m
      · rw [rl.keep b x q m] at e
        cases e
  have there := OwL.there _ _ f2 h2
  have dis := (List.nodup_append.mp nd).2.2
  refine ⟨rl.len, rl.cov, sH, rl.f0.trans sF, fun b o e m => ?_, fun b o e => ?_, rl.pins, ?_⟩
  · refine k b o (rl.keep b o e m) fun hb => ?_
    rcases (hn b (List.mem_append_left _ hb)).2 with z | z
    · rw [z] at e
      cases e
    · exact m z
  · rcases n b o e with e | e | e
    · exact rl.new b o e
    · exact .inr (h0 b e)
    · exact .inr (hn b (List.mem_append_left _ e)).2
  · have hz : OwE B.K F' H' ((v, r) :: vs.zip os' ++ (ents σ g ++ τ)) (fp' ++ f2) := by
      refine OwE.append (zip_owE ow) (OwE.mono sF (fun b hb => ?_) h2)
      obtain ⟨x, hx⟩ := there b hb
      rw [hx]
      exact k b x hx fun z => dis b z b hb rfl
    have hE : Ents B F' H' ((v, r) :: vs.zip os' ++ (ents σ g ++ τ)) := by
      refine ⟨_, hz, List.nodup_append.mpr ⟨nd', (List.nodup_append.mp nd).2.1, fun a ha b hb e => ?_⟩, fun b hb => ?_⟩
      · subst e
        obtain ⟨x, hx⟩ := there a hb
        rcases (hn' a ha).2 with z | z
        · rw [z] at hx
          cases hx
        · exact dis a z a hb rfl
      · rcases List.mem_append.mp hb with hb | hb
        · refine ⟨(hn' b hb).1, ?_⟩
          rcases (hn' b hb).2 with z | z
          · exact h0 b z
          · exact (hn b (List.mem_append_left _ z)).2
        · obtain ⟨x, hx⟩ := there b hb
          have q := hn b (List.mem_append_right _ hb)
          refine ⟨?_, q.2⟩
          cases e : F' b with
          | none => rfl
          | some y =>
            rcases n b y e with e | e | e
            · rw [q.1] at e
              cases e
            · rw [hx] at e
              cases e
            · exact (dis b e b hb rfl).elim
    refine hE.perm ?_
    -- (v, r) :: Z ++ (G ++ T)  ~  G ++ (Z ++ (v, r) :: T)
    have p1 : ((v, r) :: vs.zip os' ++ (ents σ g ++ τ)).Perm (ents σ g ++ ((v, r) :: vs.zip os' ++ τ)) := by
      rw [← List.append_assoc, ← List.append_assoc]
      exact List.perm_append_comm.append_right τ
    exact p1.trans (List.perm_middle.symm.append_left _)
theorem se_call {n : Nat} {f : List O → Option (O × List O)} {E : XK} {ta : TA} {ma : XA} (ha : SA B ta ma) (hl : ∀ os r, f os = some r → os.length = n ∧ r.2.length = n) : SE B (tCall (spM B.K n f) [] E ta) (xCall f ma) := by
  intro F H σ g τ o g' rl e Q q
  obtain ⟨⟨as, g1⟩, e1, e2⟩ := Option.bind_eq_some_iff.mp e
  obtain ⟨⟨os, g2⟩, e3, e4⟩ := Option.bind_eq_some_iff.mp e2
  obtain ⟨⟨r, os'⟩, e5, e6⟩ := Option.map_eq_some_iff.mp e4
  obtain ⟨e7, e8⟩ := Prod.mk.inj e6
  subst e7 e8
  refine ha F H σ g τ as g1 rl e1 _ fun F1 H1 vs s1 r1 ok => ?_
  obtain ⟨r2, l1, l2⟩ := pull_ok r1 ok e3
  obtain ⟨hn, hn2⟩ := hl _ _ e5
  have hE := r2.ent.perm (show (ents σ g2 ++ (vs.zip os ++ τ)).Perm (vs.zip os ++ (ents σ g2 ++ τ)) by
    rw [← List.append_assoc, ← List.append_assoc]
    exact List.perm_append_comm.append_right τ)
  obtain ⟨fp, k1, k2, k3⟩ := hE
  obtain ⟨f1, f2, m1, m2, rfl⟩ := OwE.split k1
  show spM B.K n f (vs ++ []) H1 Q E
  rw [List.append_nil]
  refine ⟨by rw [l1]; exact hn, F1, os, r, os', f1, r1.sub, owE_zip l1 m1, (List.nodup_append.mp k2).1, fun b hb => (k3 b (List.mem_append_left _ hb)).1, e5, fun F' H' v fp' sF sH n' k' ow nd' hn' => ?_⟩
  have r3 := r2.called m1 m2 k2 k3 sF sH n' k' ow nd' hn'
  exact q F' H' v (s1.trans sF) (push_ok ok (by rw [hn2, ← hn]; exact l2) r3)

/-! ### a body's mirror -/
def outs (pin : List Nat) (g : G) : Nat → List O → Option (List O)
  | _, [] => some []
  | j, o :: os => if j ∈ pin then (match g[j]? with
      | some (some o') => (outs pin g (j + 1) os).map fun r => o' :: r
      | _ => none)
    else (match o with
      | .fr d => (outs pin g (j + 1) os).map fun r => .fr d :: r
      | _ => none)
def runF (N n : Nat) (pin : List Nat) (body : XS) : List O → Option (O × List O) := fun os => if os.length = n then
    (body (os.map some ++ List.replicate (N - n) none)).bind fun x => match x with
      | .rt r g => (outs pin g 0 os).map fun os' => (r, os')
      | .nx g => (outs pin g 0 os).map fun os' => (.fr .non, os')
      | _ => none
  else none
theorem outs_len {pin : List Nat} {g : G} : ∀ {os : List O} {j : Nat} {os' : List O}, outs pin g j os = some os' → os'.length = os.length
  | [], j, os', e => by cases e; rfl
  | o :: os, j, os', e => by
    unfold outs at e
    split at e
    · split at e
      · obtain ⟨r, e1, e2⟩ := Option.map_eq_some_iff.mp e
        cases e2
        rw [List.length_cons, List.length_cons, outs_len e1]
      · cases e
    · split at e
      · obtain ⟨r, e1, e2⟩ := Option.map_eq_some_iff.mp e
        cases e2
        rw [List.length_cons, List.length_cons, outs_len e1]
      · cases e
theorem runF_len {N n : Nat} {pin : List Nat} {body : XS} {os : List O} {r : O × List O} (e : runF N n pin body os = some r) : os.length = n ∧ r.2.length = n := by
  unfold runF at e
  split at e
  · rename_i hn
    refine ⟨hn, ?_⟩
    obtain ⟨x, e1, e2⟩ := Option.bind_eq_some_iff.mp e
    cases x with
    | rt o g =>
      obtain ⟨os', e3, e4⟩ := Option.map_eq_some_iff.mp e2
      cases e4
      rw [outs_len e3, hn]
    | nx g =>
      obtain ⟨os', e3, e4⟩ := Option.map_eq_some_iff.mp e2
      cases e4
      rw [outs_len e3, hn]
    | bk g => cases e2
    | ct g => cases e2
    | ex _ _ _ g => cases e2
  · cases e
theorem outs_ok {pin : List Nat} {vsA : List V} : ∀ {os : List O} {j : Nat} {os' : List O} {vs : List V} {g g2 : G} {τ : En}, outs pin g j os = some os' → vs.length = os.length → (∀ i, vsA[j + i]? = vs[i]?) →
    (∀ i ∈ pin, σ[i]? = (vsA[i]?).map some) → (∀ i, j ≤ i → g2[i]? = g[i]?) → (∀ (i : Nat) d, os[i]? = some (.fr d) → ∃ v, vs[i]? = some v ∧ Rp B.K F v d) → Rel B F H σ g2 τ → ∃ g3, Rel B F H σ g3 (vs.zip os' ++ τ)
  | [], j, os', vs, g, g2, τ, e, hl, hv, hp, hg, hf, r => by
    cases e
    obtain rfl : vs = [] := List.length_eq_zero_iff.mp hl
    exact ⟨g2, r⟩
  | o :: os, j, os', vs, g, g2, τ, e, hl, hv, hp, hg, hf, r => by
    cases vs with
    | nil => simp at hl
    | cons v vs =>
      have hl' : vs.length = os.length := by simpa using hl
      have hv' : ∀ i, vsA[j + 1 + i]? = vs[i]? := fun i => by
        have := hv (i + 1)
        rw [show j + (i + 1) = j + 1 + i by omega] at this
        simpa using this
      have hf' : ∀ (i : Nat) d, os[i]? = some (.fr d) → ∃ w, vs[i]? = some w ∧ Rp B.K F w d := fun i d hd => by
        obtain ⟨w, h1, h2⟩ := hf (i + 1) d (by simpa using hd)
        exact ⟨w, by simpa using h1, h2⟩
      unfold outs at e
      split at e
      · rename_i hj
        split at e
        · rename_i o' eo
          obtain ⟨r', e1, e2⟩ := Option.map_eq_some_iff.mp e
          cases e2
          have hs : σ[j]? = some (some v) := by
            have h0 := hv 0
            rw [hp j hj]
            rw [Nat.add_zero] at h0
            rw [h0]
            rfl
          have r1 := r.take hs (by rw [hg j (Nat.le_refl j)]; exact eo)
          obtain ⟨g3, r3⟩ := outs_ok (g2 := g2.set j none) e1 hl' hv' hp (fun i hi => by
            rw [List.getElem?_set_ne (by omega)]
            exact hg i (by omega)) hf' r1
          exact ⟨g3, r3.tperm List.perm_middle⟩
        · cases e
      · split at e
        · rename_i d
          obtain ⟨r', e1, e2⟩ := Option.map_eq_some_iff.mp e
          cases e2
          obtain ⟨g3, r3⟩ := outs_ok (g2 := g2) e1 hl' hv' hp (fun i hi => hg i (by omega)) hf' r
          obtain ⟨w, h1, h2⟩ := hf 0 d rfl
          obtain rfl : v = w := by simpa using h1
          exact ⟨g3, r3.addFr h2⟩
        · cases e
theorem ents_nil (k : Nat) : ents (List.replicate k none) (List.replicate k none) = [] := by
  induction k with
  | zero => rfl
  | succ k ih =>
    rw [List.replicate_succ, List.replicate_succ]
    exact ih
theorem ents_start : ∀ {vs : List V} {os : List O} (k : Nat), vs.length = os.length → ents (vs.map some ++ List.replicate k none) (os.map some ++ List.replicate k none) = vs.zip os
  | [], [], k, _ => ents_nil k
  | [], _ :: _, k, h => by simp at h
  | _ :: _, [], k, h => by simp at h
  | v :: vs, o :: os, k, h => by
    show (v, o) :: ents (vs.map some ++ List.replicate k none) (os.map some ++ List.replicate k none) = (v, o) :: vs.zip os
    rw [ents_start k (by simpa using h)]
theorem OwL.get {K : PySem.W.Frag} : ∀ {os : List O} {vs : List V} {fp : List Addr} {i : Nat} {d : D}, OwL K F H vs os fp → os[i]? = some (.fr d) → ∃ v, vs[i]? = some v ∧ Rp K F v d
  | [], _, _, i, d, h, e => by simp at e
  | o :: os, _, _, 0, d, h, e => by
    obtain ⟨v, r, f1, f2, rfl, h1, _, _⟩ := h
    simp at e
    subst e
    exact ⟨v, rfl, h1.1⟩
  | o :: os, _, _, i + 1, d, h, e => by
    obtain ⟨v, r, f1, f2, rfl, _, h2, _⟩ := h
    obtain ⟨w, h3, h4⟩ := OwL.get h2 (by simpa using e)
    exact ⟨w, by simpa using h3, h4⟩
theorem run_ok {K : PySem.W.Frag} {N : List Str} {n : Nat} {pin : List Nat} {body : XS} {t : TS} (h : ∀ B : Bs, B.K = K → B.pin = pin → SS B t body) {vs : List V} {H : Hp} {Q : VK} {E : XK} (hp : ∀ j ∈ pin, j < n) (hsp : spM K n (runF N.length n pin body) vs H Q E) :
    t { nx := fun _ H' => Q .non H', rt := Q } (L2.start N vs) H := by
  obtain ⟨hn, F, os, r, os', fp, sF, ow, nd, hF, e, q⟩ := hsp
  have hB := h ⟨K, F, H, fp, pin, vs, fun _ _ _ _ => False⟩ rfl rfl
  unfold runF at e
  split at e
  · rename_i hos
    obtain ⟨x, e1, e2⟩ := Option.bind_eq_some_iff.mp e
    have hl : vs.length = os.length := ow.length
    have r0 : Rel ⟨K, F, H, fp, pin, vs, fun _ _ _ _ => False⟩ F H (L2.start N vs) (os.map some ++ List.replicate (N.length - n) none) [] := by
      refine ⟨?_, fun i o ho => ?_, sF, Same.refl F, fun b o e _ => e, fun b o e => .inl e, fun j hj => ?_, ?_⟩
      · unfold L2.start
        rw [List.length_append, List.length_append, List.length_map, List.length_map, List.length_replicate, List.length_replicate, hn, hos]
      · have hi : i < os.length := by
          by_cases z : i < os.length
          · exact z
          · rw [List.getElem?_append_right (by rw [List.length_map]; omega), List.length_map, List.getElem?_replicate] at ho
            split at ho <;> cases ho
        unfold L2.start
        have hv : i < vs.length := by omega
        exact ⟨vs[i], by rw [List.getElem?_append_left (by rw [List.length_map]; exact hv), List.getElem?_map, List.getElem?_eq_getElem hv]; rfl⟩
      · unfold L2.start
        have hv : j < vs.length := by rw [hn]; exact hp j hj
        rw [List.getElem?_append_left (by rw [List.length_map]; exact hv), List.getElem?_map]
      · rw [List.append_nil]
        unfold L2.start
        rw [hn, ents_start _ hl]
        exact ⟨fp, zip_owE ow, nd, fun b hb => ⟨hF b hb, .inr hb⟩⟩
    have fin : ∀ (F' H' : Hp) (σ' : L2.St) (g' : G) (v : V) (rr : O), Same F F' → Rel ⟨K, F, H, fp, pin, vs, fun _ _ _ _ => False⟩ F' H' σ' g' [(v, rr)] → (outs pin g' 0 os).map (fun os' => (rr, os')) = some (r, os') → Q v H' := by
      intro F' H' σ' g' v rr s' r' eo
      obtain ⟨os2, e3, e4⟩ := Option.map_eq_some_iff.mp eo
      cases e4
      obtain ⟨g3, r3⟩ := outs_ok (B := ⟨K, F, H, fp, pin, vs, fun _ _ _ _ => False⟩) (vsA := vs) (g2 := g') e3 hl (fun i => by rw [Nat.zero_add]) r'.pins (fun i _ => rfl) (fun i d hd => by
        obtain ⟨w, h1, h2⟩ := ow.get hd
        exact ⟨w, h1, Rp.mono s' _ _ h2⟩) r'
      have hE : Ents ⟨K, F, H, fp, pin, vs, fun _ _ _ _ => False⟩ F' H' ((v, r) :: vs.zip os') := r3.ent.right.perm ((List.perm_append_comm (l₁ := vs.zip os')).trans (.refl _))
      obtain ⟨fp', k1, k2, k3⟩ := hE
      have k4 : OwL K F' H' (v :: vs) (r :: os') fp' := owE_zip (by rw [List.length_cons, List.length_cons, hl, outs_len e3]) (show OwE K F' H' ((v :: vs).zip (r :: os')) fp' from k1)
      refine q F' H' v fp' s' r'.sub (fun b o eb => ?_) (fun b o eb hb => r'.keep b o eb hb) k4 k2 k3
      rcases r'.new b o eb with z | z | z
      · exact .inl z
      · exact .inr (.inl z)
      · exact .inr (.inr z)
    refine hB F H _ _ [] x r0 e1 _ ?_
    cases x with
    | rt o g' => exact fun F' H' σ' v s' r' => fin F' H' σ' g' v o s' r' e2
    | nx g' => exact fun F' H' σ' s' r' => fin F' H' σ' g' .non (.fr .non) s' (r'.addFr rfl) e2
    | bk g' => cases e2
    | ct g' => cases e2
    | ex _ _ _ g' => cases e2
  · cases e
end

section
variable {P : Program} {w : World} {K : PySem.W.Frag} {mg : Str → Option Value} {base : Heap}
/-- a def keeps the promise of its mirror -/
theorem ok_fn {x qual : Str} {st : Stmt} {f : Addr} {fd : FuncData} {N ps : List Str} {k : Nat} {pin : List Nat} {body : XS} (F : Fun K x qual st f fd) (S : FnScope N ps (defScope st)) (hp : ∀ j ∈ pin, j < ps.length)
    (h : ∀ (cdv : Value) (A : Around) (outer : List Env) (s : Shared) (H : Hp) (E : XK), Room k (A.deeper (envOfC qual (defScope st) s.heap.objs.size f cdv)) →
      ∃ t, PSs (cxOf CX0 P w K mg base N qual (defScope st) f cdv A outer s H E).nox (defBody st) t ∧ ∀ B : Bs, B.K = K → B.pin = pin → SS B t body) :
    FnOk P w K mg base CX0 (k + 1) f fd ps (spM K ps.length (runF N.length ps.length pin body)) := by
  refine F.ok S (fun vs H Q E h => h.1) fun cdv A outer s H vs Q E hr hsp => ?_
  obtain ⟨t, ht, hs⟩ := h cdv A outer s H E hr
  exact ⟨t, ht, run_ok hs hp hsp⟩
/-- another mirror that gives no less -/
theorem FnOk.mirror {f : Addr} {fd : FuncData} {ps : List Str} {k n : Nat} {m m' : List O → Option (O × List O)} (F : FnOk P w K mg base CX0 k f fd ps (spM K n m)) (h : ∀ os r, m' os = some r → m os = some r) : FnOk P w K mg base CX0 k f fd ps (spM K n m') :=
  F.imp fun vs H Q E ⟨hn, Fz, os, r, os', fp, a, b, c, d, e, q⟩ => ⟨hn, Fz, os, r, os', fp, a, b, c, d, h _ _ e, q⟩
end
end Mi

set_option Elab.async false
set_option linter.all false
set_option maxRecDepth 100000
/-! Mi4: comprehensions, stores into owned things. -/
namespace Mi
open PySem PySem.Spec PyProof.Rows L2

section
variable {B : Bs} {F F' H H' : Hp} {σ : L2.St} {g : G} {τ : En}

/-! ### one owned object changes -/
theorem Rel.open {E1 : En} (r : Rel B F H σ g (E1 ++ τ)) : ∃ f1, OwE B.K F H E1 f1 ∧ f1.Nodup ∧ ∀ (a : Addr) (u : HO) (E2 : En) (f2 : List Addr), a ∈ f1 → OwE B.K F (upd H a u) E2 f2 → f2.Nodup → (∀ b ∈ f2, b ∈ f1) → Rel B F (upd H a u) σ g (E2 ++ τ) := by
  have hE := r.ent.perm (show (ents σ g ++ (E1 ++ τ)).Perm (E1 ++ (ents σ g ++ τ)) by
    rw [← List.append_assoc, ← List.append_assoc]
    exact List.perm_append_comm.append_right τ)
  obtain ⟨fp, k1, k2, k3⟩ := hE
  obtain ⟨f1, f3, m1, m2, rfl⟩ := OwE.split k1
  have dis := (List.nodup_append.mp k2).2.2
  refine ⟨f1, m1, (List.nodup_append.mp k2).1, fun a u E2 f2 ha ow nd sub => ?_⟩
  have ka := k3 a (List.mem_append_left _ ha)
  refine ⟨r.len, r.cov, fun b x e => ?_, r.f0, fun b x e m => ?_, r.new, r.pins, ?_⟩
  · rw [upd_ne (ne_of_none e ka.1)]
    exact r.sub b x e
  · have hb : b ≠ a := fun z => by
      subst z
      rcases ka.2 with q | q
      · rw [q] at e
        cases e
      · exact m q
    rw [upd_ne hb]
    exact r.keep b x e m
  · have hE2 : Ents B F (upd H a u) (E2 ++ (ents σ g ++ τ)) := by
      refine ⟨f2 ++ f3, OwE.append ow (OwE.mono (Same.refl F) (fun b hb => upd_ne fun z => dis a ha b hb z.symm) m2), List.nodup_append.mpr ⟨nd, (List.nodup_append.mp k2).2.1, fun x hx y hy => dis x (sub x hx) y hy⟩, fun b hb => ?_⟩
      rcases List.mem_append.mp hb with hb | hb
      · exact k3 b (List.mem_append_left _ (sub b hb))
      · exact k3 b (List.mem_append_right _ hb)
    refine hE2.perm ?_
    rw [← List.append_assoc, ← List.append_assoc]
    exact List.perm_append_comm.append_right τ
theorem OwE.one {K : PySem.W.Frag} {v : V} {o : O} {fp : List Addr} (h : OwE K F H [(v, o)] fp) : Ow K F H v o fp := by
  obtain ⟨f1, f2, h1, h2, rfl⟩ := OwE.inv h
  obtain rfl : f2 = [] := h2.2
  rw [List.append_nil]
  exact h1
theorem one_OwE {K : PySem.W.Frag} {v : V} {o : O} {fp : List Addr} (h : Ow K F H v o fp) : OwE K F H [(v, o)] fp := by
  have := OwE.cons (e := (v, o)) h OwE.nil
  rw [List.append_nil] at this
  exact this
theorem Rel.append {v y : V} {o : O} {os : List O} (r : Rel B F H σ g ((y, o) :: (v, .lst os) :: τ)) : ∃ a acc, v = .ref a ∧ H a = some (.lst acc) ∧ acc.length = os.length ∧ Rel B F (upd H a (.lst (acc ++ [y]))) σ g ((v, .lst (os ++ [o])) :: τ) := by
  obtain ⟨f1, k1, k2, k3⟩ := Rel.open (E1 := [(y, o), (v, .lst os)]) (τ := τ) r
  obtain ⟨fo, fl, m1, m2, rfl⟩ := OwE.inv k1
  obtain ⟨a, acc, f, rfl, e2, e3, rfl⟩ := OwE.one m2
  refine ⟨a, acc, rfl, e2, e3.length, k3 a _ [(.ref a, .lst (os ++ [o]))] (a :: (f ++ fo)) (by simp) (one_OwE ⟨a, acc ++ [y], f ++ fo, rfl, upd_same, ?_, rfl⟩) ?_ ?_⟩
  · have hn : ∀ b ∈ f ++ fo, upd H a (.lst (acc ++ [y])) b = H b := fun b hb => upd_ne fun z => by
      subst z
      have nd := List.nodup_append.mp k2
      rcases List.mem_append.mp hb with hb | hb
      · exact (List.nodup_cons.mp nd.2.1).1 hb
      · exact nd.2.2 b hb b List.mem_cons_self rfl
    have hf : OwL B.K F (upd H a (.lst (acc ++ [y]))) acc os f := OwL.mono (Same.refl F) _ _ _ (fun b hb => hn b (List.mem_append_left _ hb)) e3
    have ho : Ow B.K F (upd H a (.lst (acc ++ [y]))) y o fo := Ow.mono (Same.refl F) _ _ _ (fun b hb => hn b (List.mem_append_right _ hb)) m1
    have hz := OwL.append hf (OwL.cons ho OwL.nil)
    rw [List.append_nil] at hz
    exact hz
  · have p : (fo ++ a :: f).Perm (a :: (f ++ fo)) := List.perm_append_comm
    exact p.nodup k2
  · intro b hb
    rcases List.mem_cons.mp hb with rfl | hb
    · simp
    · rcases List.mem_append.mp hb with hb | hb
      · simp [hb]
      · simp [hb]

/-! ### slots that a comprehension has for itself -/
def wipeG (g : G) : List Nat → G
  | [] => g
  | v :: vs => (wipeG g vs).set v none
theorem wipeG_len (g : G) : ∀ vs, (wipeG g vs).length = g.length
  | [] => rfl
  | v :: vs => by
    show ((wipeG g vs).set v none).length = _
    rw [List.length_set, wipeG_len g vs]
theorem wipe_len (σ : L2.St) : ∀ vs, (L2.wipe σ vs).length = σ.length
  | [] => rfl
  | v :: vs => by
    show ((L2.wipe σ vs).set v none).length = _
    rw [List.length_set, wipe_len σ vs]
theorem wipe_out (σ : L2.St) {j : Nat} : ∀ {vs : List Nat}, j ∉ vs → (L2.wipe σ vs)[j]? = σ[j]?
  | [], _ => rfl
  | v :: vs, h => by
    show ((L2.wipe σ vs).set v none)[j]? = _
    rw [List.getElem?_set_ne (fun z => h (by simp [z])), wipe_out σ (fun z => h (by simp [z]))]
theorem wipe_in (σ : L2.St) {j : Nat} : ∀ {vs : List Nat}, j ∈ vs → j < σ.length → (L2.wipe σ vs)[j]? = some none
  | [], h, _ => by cases h
  | v :: vs, h, hl => by
    show ((L2.wipe σ vs).set v none)[j]? = _
    by_cases e : v = j
    · subst e
      rw [List.getElem?_set_self (by rw [wipe_len]; exact hl)]
    · rw [List.getElem?_set_ne e]
      rcases List.mem_cons.mp h with z | z
      · exact (e z.symm).elim
      · exact wipe_in σ z hl
theorem wipeG_out (g : G) {j : Nat} : ∀ {vs : List Nat}, j ∉ vs → (wipeG g vs)[j]? = g[j]?
  | [], _ => rfl
  | v :: vs, h => by
    show ((wipeG g vs).set v none)[j]? = _
    rw [List.getElem?_set_ne (fun z => h (by simp [z])), wipeG_out g (fun z => h (by simp [z]))]
theorem wipeG_in (g : G) {j : Nat} : ∀ {vs : List Nat}, j ∈ vs → ∀ o, (wipeG g vs)[j]? ≠ some (some o)
  | [], h, _ => by cases h
  | v :: vs, h, o => by
    show ((wipeG g vs).set v none)[j]? ≠ _
    by_cases e : v = j
    · subst e
      by_cases hl : v < (wipeG g vs).length
      · rw [List.getElem?_set_self hl]
        intro z
        cases z
      · rw [List.getElem?_eq_none_iff.mpr (by rw [List.length_set]; omega)]
        intro z
        cases z
    · rw [List.getElem?_set_ne e]
      rcases List.mem_cons.mp h with z | z
      · exact (e z.symm).elim
      · exact wipeG_in g z o
theorem wipe_ext {σ σ' : L2.St} {vs : List Nat} (hl : σ'.length = σ.length) (h : ∀ j, j ∉ vs → σ'[j]? = σ[j]?) : L2.wipe σ' vs = L2.wipe σ vs := by
  apply List.ext_getElem?
  intro j
  by_cases hj : j ∈ vs
  · by_cases hb : j < σ.length
    · rw [wipe_in σ hj hb, wipe_in σ' hj (by omega)]
    · rw [List.getElem?_eq_none_iff.mpr (by rw [wipe_len]; omega), List.getElem?_eq_none_iff.mpr (by rw [wipe_len]; omega)]
  · rw [wipe_out σ hj, wipe_out σ' hj, h j hj]
theorem wipe_wipe (σ : L2.St) (vs : List Nat) : L2.wipe (L2.wipe σ vs) vs = L2.wipe σ vs := wipe_ext (wipe_len σ vs) fun j hj => wipe_out σ hj
/-- where no slot of g is set, the values don't matter -/
theorem ents_ext : ∀ {σ σ' : L2.St} {g : G}, σ'.length = σ.length → (∀ (j : Nat) o, g[j]? = some (some o) → σ'[j]? = σ[j]?) → ents σ' g = ents σ g
  | [], [], g, _, _ => rfl
  | [], _ :: _, g, h, _ => by simp at h
  | _ :: _, [], g, h, _ => by simp at h
  | x :: σ, y :: σ', [], h, k => by cases x <;> cases y <;> rfl
  | x :: σ, y :: σ', z :: g, h, k => by
    have ih := ents_ext (σ := σ) (σ' := σ') (g := g) (by simpa using h) fun j o e => by
      have := k (j + 1) o (by simpa using e)
      simpa using this
    cases z with
    | none => cases x <;> cases y <;> exact ih
    | some o =>
      have e := k 0 o rfl
      simp at e
      subst e
      cases y with
      | none => exact ih
      | some v => show (v, o) :: ents σ' g = (v, o) :: ents σ g; rw [ih]
theorem Rel.vals {σ' : L2.St} (r : Rel B F H σ g τ) (hl : σ'.length = σ.length) (h : ∀ (j : Nat) o, g[j]? = some (some o) → σ'[j]? = σ[j]?) (hp : ∀ j ∈ B.pin, σ'[j]? = σ[j]?) : Rel B F H σ' g τ :=
  ⟨by rw [hl]; exact r.len, fun i o e => by
    rw [h i o e]
    exact r.cov i o e, r.sub, r.f0, r.keep, r.new, fun j hj => by rw [hp j hj]; exact r.pins j hj, by rw [ents_ext hl h]; exact r.ent⟩
theorem Rel.wipeGs (r : Rel B F H σ g τ) : ∀ vs, Rel B F H σ (wipeG g vs) τ
  | [] => r
  | v :: vs => (r.wipeGs vs).wipe v
theorem Rel.wipes (r : Rel B F H σ g τ) {vs : List Nat} (hp : ∀ j ∈ B.pin, j ∉ vs) : Rel B F H (L2.wipe σ vs) (wipeG g vs) τ :=
  (r.wipeGs vs).vals (wipe_len σ vs) (fun j o e => by
    by_cases hj : j ∈ vs
    · exact (wipeG_in g hj o e).elim
    · exact wipe_out σ hj) fun j hj => wipe_out σ (hp j hj)
def restG (g0 g : G) : List Nat → G
  | [] => g
  | i :: vs => match g0[i]? with
    | some (some (.fr d)) => (restG g0 g vs).set i (some (.fr d))
    | _ => restG g0 g vs
theorem Rel.rest {g0 : G} (h : ∀ (i : Nat) d, g0[i]? = some (some (.fr d)) → ∃ v, σ[i]? = some (some v) ∧ Rp B.K F v d) : ∀ {vs : List Nat} {g : G}, Rel B F H σ g τ → Rel B F H σ (restG g0 g vs) τ
  | [], g, r => r
  | i :: vs, g, r => by
    unfold restG
    split
    · rename_i d ed
      obtain ⟨v, hv, rp⟩ := h i d ed
      exact ((Rel.rest h r).addFr rp).back' hv
    · exact Rel.rest h r

/-! ### comprehensions -/
/-- a target that stores in the slots of vs alone -/
def SGw (B : Bs) (vs : List Nat) (t : TG) (m : XG) : Prop := ∀ F H σ g τ v o g', Rel B F H σ g ((v, o) :: τ) → m o g = some g' → ∀ Q : L2.St → Hp → Prop,
  (∀ F' H' σ', Same F F' → Rel B F' H' σ' g' τ → σ'.length = σ.length → (∀ j, j ∉ vs → σ'[j]? = σ[j]?) → Q σ' H') → t v σ H Q
def SGsw (B : Bs) (ws : List Nat) (t : TGs) (m : List D → G → Option G) : Prop := ∀ F H σ g τ vs ds g', Rel B F H σ g τ → RpL B.K F vs ds → m ds g = some g' → ∀ Q : L2.St → Hp → Prop,
  (∀ F' H' σ', Same F F' → Rel B F' H' σ' g' τ → σ'.length = σ.length → (∀ j, j ∉ ws → σ'[j]? = σ[j]?) → Q σ' H') → t vs σ H Q
theorem sgw_name {vs : List Nat} {i : Nat} (hp : i ∉ B.pin) (hi : i ∈ vs) : SGw B vs (gName i) (gN i) := by
  intro F H σ g τ v o g' r e Q q
  unfold gN at e
  split at e
  · rename_i hl
    cases e
    exact q F H _ (Same.refl F) (r.put (by rw [← r.len]; exact hl) hp) (List.length_set) fun j hj => List.getElem?_set_ne fun z => hj (by rw [← z]; exact hi)
  · cases e
theorem sgsw_nil {ws : List Nat} : SGsw B ws gNil gsNil := by
  intro F H σ g τ vs ds g' r rp e Q q
  cases ds with
  | nil =>
    cases e
    exact ⟨rp, q F H σ (Same.refl F) r rfl fun _ _ => rfl⟩
  | cons d ds => cases e
theorem sgsw_cons {ws : List Nat} {t : TG} {u : TGs} {a : XG} {b : List D → G → Option G} (ha : SGw B ws t a) (hb : SGsw B ws u b) : SGsw B ws (gCons t u) (gsCons a b) := by
  intro F H σ g τ vs ds g' r rp e Q q
  cases ds with
  | nil => cases e
  | cons d ds =>
    obtain ⟨g1, e1, e2⟩ := Option.bind_eq_some_iff.mp e
    obtain ⟨v, xs, rfl, h1, h2⟩ := rp
    refine ⟨v, xs, rfl, ?_⟩
    exact ha F H σ g τ v (.fr d) g1 (r.addFr h1) e1 _ fun F1 H1 σ1 s1 r1 l1 w1 => hb F1 H1 σ1 g1 τ xs ds g' r1 (RpL.mono s1 _ _ h2) e2 Q fun F2 H2 σ2 s2 r2 l2 w2 => q F2 H2 σ2 (s1.trans s2) r2 (l2.trans l1) fun j hj => (w2 j hj).trans (w1 j hj)
theorem sgw_tup {ws : List Nat} {n : Nat} {u : TGs} {b : List D → G → Option G} (hb : SGsw B ws u b) : SGw B ws (gTup B.K n u) (gTp n b) := by
  intro F H σ g τ v o g' r e Q q
  unfold gTp at e
  split at e
  · rename_i ds
    split at e
    · rename_i hn
      obtain ⟨a, vs, rfl, h1, h2⟩ := r.frd
      refine ⟨a, vs, rfl, Same.sqT r.sub h1, by rw [h2.length]; exact hn, ?_⟩
      exact hb F H σ g τ vs ds g' r.drop h2 e Q q
    · cases e
  · cases e
def lcL (tg : XG) (tt : XT) (te : XE) (vs : List Nat) : List D → G → List O → Option (List O × G)
  | [], g, acc => some (acc, g)
  | d :: ds, g, acc => (tg (.fr d) (wipeG g vs)).bind fun g1 => (tt g1).bind fun p => if p.1 = true then
      (te p.2).bind fun q => if acc.length < sizeLine then lcL tg tt te vs ds q.2 (acc ++ [q.1]) else none
    else lcL tg tt te vs ds p.2 acc
def eLc (it : XI) (tg : XG) (tt : XT) (te : XE) (vs : List Nat) : XE := fun g => (it g).bind fun p => (lcL tg tt te vs p.1 p.2 []).map fun q => (.lst q.1, restG p.2 (wipeG q.2 vs) vs)
theorem Rel.frds (r : Rel B F H σ g τ) : ∀ (i : Nat) d, g[i]? = some (some (.fr d)) → ∃ v, σ[i]? = some (some v) ∧ Rp B.K F v d := fun i d e => by
  obtain ⟨v, hv, r2⟩ := r.slot e
  exact ⟨v, hv, r2.frd⟩
theorem se_lc {wi : TI} {tg : TG} {tt : TT} {te : TE} {vs : List Nat} {it : XI} {mg : XG} {mt : XT} {me : XE} (hp : ∀ j ∈ B.pin, j ∉ vs) (hi : SI B wi it) (hg : SGw B vs tg mg) (ht : ST B tt mt) (he : SE B te me) : SE B (tLc wi tg tt te vs) (eLc it mg mt me vs) := by
  intro F H σ g τ o g' r e Q q
  obtain ⟨⟨ds, g1⟩, e1, e2⟩ := Option.bind_eq_some_iff.mp e
  obtain ⟨⟨os, g2⟩, e3, e4⟩ := Option.map_eq_some_iff.mp e2
  cases e4
  dsimp only at e3
  refine hi F H σ g τ ds g1 r e1 _ fun F1 H1 J s1 r1 w1 => ?_
  intro Dl hD
  have r0 : Rel B F1 (upd H1 Dl (.lst [])) σ g1 ((.ref Dl, .lst []) :: τ) := by
    have gr := Grow.own r1.sub hD (.lst [])
    refine r1.made (fp := [Dl]) gr ⟨Dl, [], [], rfl, upd_same, OwL.nil, rfl⟩ (List.nodup_cons.mpr ⟨List.not_mem_nil, List.nodup_nil⟩) fun b hb => ?_
    rcases List.mem_singleton.mp hb with rfl
    exact ⟨hD, r1.sub.free hD⟩
  refine ⟨fun i m H' => m = ds.length - i ∧ i ≤ ds.length ∧ ∃ F' σ' g' acc, Same F1 F' ∧ L2.wipe σ' vs = L2.wipe σ vs ∧ Rel B F' H' σ' g' ((.ref Dl, .lst acc) :: τ) ∧ lcL mg mt me vs (ds.drop i) g' acc = some (os, g2),
    ⟨ds.length, by simp, Nat.zero_le _, F1, σ, g1, [], Same.refl F1, rfl, r0, e3⟩, ?_⟩
  rintro i m H' ⟨rfl, hil, F', σ', g', acc, s', hw, r', e'⟩
  have w' := w1.mono s'
  have rw' : Rel B F' H' (L2.wipe σ vs) (wipeG g' vs) ((.ref Dl, .lst acc) :: τ) := by
    rw [← hw]
    exact r'.wipes hp
  by_cases hlt : i < ds.length
  · right
    obtain ⟨go, yld⟩ := w'.1 i F' H' (Same.refl F') r'.sub hlt
    have ed : ds.drop i = ds[i] :: ds.drop (i + 1) := List.drop_eq_getElem_cons hlt
    rw [ed] at e'
    obtain ⟨g3, e5, e6⟩ := Option.bind_eq_some_iff.mp e'
    obtain ⟨⟨k, g4⟩, e7, e8⟩ := Option.bind_eq_some_iff.mp e6
    refine ⟨go, fun H2 => ∃ F2 σ2 g5 acc2, Same F1 F2 ∧ L2.wipe σ2 vs = L2.wipe σ vs ∧ Rel B F2 H2 σ2 g5 ((.ref Dl, .lst acc2) :: τ) ∧ lcL mg mt me vs (ds.drop (i + 1)) g5 acc2 = some (os, g2), fun H2 z => ⟨ds.length - (i + 1), by omega, rfl, by omega, z⟩, fun y H3 hy => ?_⟩
    obtain ⟨F3, gr, d, hd, rd⟩ := yld y H3 hy
    rw [List.getElem?_eq_getElem hlt] at hd
    cases hd
    have r3 := (rw'.grow gr).addFr rd
    refine hg F3 H3 (L2.wipe σ vs) (wipeG g' vs) _ y (.fr ds[i]) g3 r3 e5 _ fun F4 H4 σ4 s4 r4 l4 o4 => ?_
    have hw4 : L2.wipe σ4 vs = L2.wipe σ vs := by
      rw [← wipe_wipe σ vs]
      exact wipe_ext l4 o4
    refine ⟨hw4, ?_⟩
    refine ht F4 H4 σ4 g3 _ k g4 r4 e7 _ fun F5 H5 s5 r5 => ?_
    have s15 : Same F1 F5 := ((s'.trans gr.f).trans s4).trans s5
    cases k with
    | false =>
      exact ⟨F5, σ4, g4, acc, s15, hw4, r5, e8⟩
    | true =>
      obtain ⟨⟨o, g6⟩, e9, e10⟩ := Option.bind_eq_some_iff.mp e8
      split at e10
      · rename_i hlen
        refine he F5 H5 σ4 g4 _ o g6 r5 e9 _ fun F6 H6 x s6 r6 => ?_
        obtain ⟨a, ac, ea, h1, h2, r7⟩ := r6.append
        cases ea
        exact ⟨ac, h1, by rw [h2]; exact hlen, F6, σ4, g6, acc ++ [o], s15.trans s6, hw4, r7, e10⟩
      · cases e10
  · left
    have ei : i = ds.length := by omega
    subst ei
    refine ⟨w'.2 F' H' (Same.refl F') r'.sub, ?_⟩
    rw [List.drop_length] at e'
    cases e'
    have r8 : Rel B F' H' σ (wipeG g2 vs) ((.ref Dl, .lst os) :: τ) := by
      exact rw'.vals (wipe_len σ vs).symm (fun j o ej => by
        by_cases hj : j ∈ vs
        · exact (wipeG_in g2 hj o ej).elim
        · exact (wipe_out σ hj).symm) fun j hj => (wipe_out σ (hp j hj)).symm
    exact q F' H' (.ref Dl) (s1.trans s') (Rel.rest (fun i d ed => by
      obtain ⟨v, hv, rp⟩ := r1.frds i d ed
      exact ⟨v, hv, Rp.mono s' _ _ rp⟩) r8)

/-! ### methods of owned lists -/
def xApp (i : Nat) (m : XE) : XE := fun g => match g[i]? with
  | some (some (.lst _)) => (m g).bind fun p => match p.2[i]? with
    | some (some (.lst os)) => if os.length < sizeLine then some (.fr .non, p.2.set i (some (.lst (os ++ [p.1])))) else none
    | _ => none
  | _ => none
theorem Rel.lstAt {i : Nat} {os : List O} (r : Rel B F H σ g τ) (hg : g[i]? = some (some (.lst os))) : ∃ a acc, σ[i]? = some (some (.ref a)) ∧ H a = some (.lst acc) ∧ acc.length = os.length ∧ Rel B F H σ (g.set i none) ((.ref a, .lst os) :: τ) := by
  obtain ⟨v, hv, r2⟩ := r.slot hg
  obtain ⟨f1, k1, _, _⟩ := Rel.open (E1 := [(v, .lst os)]) (τ := τ) r2
  obtain ⟨a, acc, f, rfl, e2, e3, _⟩ := OwE.one k1
  exact ⟨a, acc, hv, e2, e3.length, r2⟩
theorem se_app {i : Nat} {te : TE} {me : XE} (he : SE B te me) : SE B (tBM B.K "list" rAppend (tVar i) (tCons te tNil)) (xApp i me) := by
  intro F H σ g τ o g' r e Q q
  unfold xApp at e
  split at e
  · rename_i os0 eg
    obtain ⟨⟨x, g1⟩, e1, e2⟩ := Option.bind_eq_some_iff.mp e
    dsimp only at e2
    split at e2
    · rename_i os eg1
      split at e2
      · rename_i hl
        cases e2
        obtain ⟨a, acc0, hv, h0, _, _⟩ := r.lstAt eg
        refine ⟨.ref a, hv, .inl ⟨rfl, acc0, SqL.of h0⟩, ?_⟩
        refine he F H σ g τ x g1 r e1 _ fun F1 H1 y s1 r1 => ?_
        have r2 := r1.take hv eg1
        obtain ⟨a', acc, ea, h1, h2, r3⟩ := Rel.append (r2.tperm (.swap _ _ _))
        cases ea
        refine ⟨a, acc, y, rfl, rfl, h1, by rw [h2]; exact hl, ?_⟩
        have r4 := r3.back' hv
        rw [List.set_set] at r4
        exact q F1 _ .non s1 (r4.addFr rfl)
      · cases e2
    · cases e2
  · cases e
/-- xs.pop() -/
def xPop (i : Nat) : XE := fun g => match g[i]? with
  | some (some (.lst os)) => match os.getLast? with
    | some o => some (o, g.set i (some (.lst os.dropLast)))
    | none => none
  | _ => none
theorem OwL.splitLast {K : PySem.W.Frag} : ∀ {os : List O} {vs : List V} {fp : List Addr} {o : O}, OwL K F H vs os fp → os.getLast? = some o → ∃ v f1 f2, vs[vs.length - 1]? = some v ∧ OwL K F H vs.dropLast os.dropLast f1 ∧ Ow K F H v o f2 ∧ fp = f1 ++ f2
  | [], _, _, _, _, e => by simp at e
  | [x], _, _, o, h, e => by
    obtain ⟨v, r, f1, f2, rfl, h1, h2, rfl⟩ := h
    obtain ⟨rfl, rfl⟩ := h2
    have ex : x = o := by simpa using e
    subst ex
    exact ⟨v, [], f1, rfl, OwL.nil, h1, by simp⟩
  | x :: y :: os, _, _, o, h, e => by
    obtain ⟨v, r, f1, f2, rfl, h1, h2, rfl⟩ := h
    have e' : (y :: os).getLast? = some o := by simpa [List.getLast?_cons_cons] using e
    obtain ⟨w, f3, f4, k1, k2, k3, rfl⟩ := OwL.splitLast h2 e'
    have hr : r ≠ [] := by
      intro z
      subst z
      simp at k1
    obtain ⟨z, r', rfl⟩ := List.exists_cons_of_ne_nil hr
    refine ⟨w, f1 ++ f3, f4, ?_, ?_, k3, by rw [List.append_assoc]⟩
    · simpa using k1
    · show OwL K F H (v :: (z :: r').dropLast) (x :: (y :: os).dropLast) (f1 ++ f3)
      exact OwL.cons h1 k2
theorem Rel.popLast {v : V} {os : List O} {o : O} (r : Rel B F H σ g ((v, .lst os) :: τ)) (e : os.getLast? = some o) : ∃ a acc y, v = .ref a ∧ H a = some (.lst acc) ∧ acc[acc.length - 1]? = some y ∧ Rel B F (upd H a (.lst acc.dropLast)) σ g ((v, .lst os.dropLast) :: (y, o) :: τ) := by
  obtain ⟨f1, k1, k2, k3⟩ := Rel.open (E1 := [(v, .lst os)]) (τ := τ) r
  obtain ⟨a, acc, f, rfl, e2, e3, rfl⟩ := OwE.one k1
  obtain ⟨y, g1, g2, h1, h2, h3, rfl⟩ := e3.splitLast e
  have nd := List.nodup_cons.mp k2
  have hn : ∀ b ∈ g1 ++ g2, upd H a (.lst acc.dropLast) b = H b := fun b hb => upd_ne fun z => nd.1 (z ▸ hb)
  refine ⟨a, acc, y, rfl, e2, h1, k3 a _ [(.ref a, .lst os.dropLast), (y, o)] ((a :: g1) ++ g2) List.mem_cons_self (OwE.cons (e := (.ref a, .lst os.dropLast)) ⟨a, acc.dropLast, g1, rfl, upd_same, OwL.mono (Same.refl F) _ _ _ (fun b hb => hn b (List.mem_append_left _ hb)) h2, rfl⟩ (one_OwE (Ow.mono (Same.refl F) _ _ _ (fun b hb => hn b (List.mem_append_right _ hb)) h3))) k2 (fun b hb => hb)⟩
theorem se_pop {i : Nat} : SE B (tBM0 B.K "list" rPop (tVar i)) (xPop i) := by
  intro F H σ g τ o g' r e Q q
  unfold xPop at e
  split at e
  · rename_i os eg
    split at e
    · rename_i x ex
      cases e
      obtain ⟨a, acc, hv, h0, h1, r2⟩ := r.lstAt eg
      obtain ⟨a', acc', y, ea, k1, k2, r3⟩ := r2.popLast ex
      cases ea
      refine ⟨.ref a, hv, .inl ⟨rfl, acc, SqL.of h0⟩, a, acc', y, rfl, rfl, k1, k2, ?_⟩
      have r4 := r3.back' hv
      rw [List.set_set] at r4
      exact q F _ y (Same.refl F) r4
    · cases e
  · cases e

/-! ### xs[i] = v of an owned list -/
theorem OwL.setAt {K : PySem.W.Frag} {y : V} {o : O} {fo : List Addr} (ho : Ow K F H y o fo) : ∀ {os : List O} {vs : List V} {fp : List Addr} {j : Nat}, OwL K F H vs os fp → j < os.length → ∃ f2, OwL K F H (vs.set j y) (os.set j o) f2 ∧ ∃ f3, (f2 ++ f3).Perm (fp ++ fo)
  | [], _, _, j, h, hj => by simp at hj
  | x :: os, _, _, 0, h, _ => by
    obtain ⟨v, r, f1, f2, rfl, h1, h2, rfl⟩ := h
    refine ⟨fo ++ f2, OwL.cons ho h2, f1, ?_⟩
    have p : (fo ++ f2 ++ f1).Perm (f1 ++ (fo ++ f2)) := List.perm_append_comm
    refine p.trans ?_
    rw [List.append_assoc]
    exact List.Perm.append_left _ List.perm_append_comm
  | x :: os, _, _, j + 1, h, hj => by
    obtain ⟨v, r, f1, f2, rfl, h1, h2, rfl⟩ := h
    obtain ⟨f3, k1, f4, p⟩ := OwL.setAt ho h2 (by simpa using hj)
    refine ⟨f1 ++ f3, OwL.cons h1 k1, f4, ?_⟩
    rw [List.append_assoc, List.append_assoc]
    exact p.append_left f1
theorem Rel.setAt {v y : V} {o : O} {os : List O} {j : Nat} (r : Rel B F H σ g ((v, .lst os) :: (y, o) :: τ)) (hj : j < os.length) : ∃ a acc, v = .ref a ∧ H a = some (.lst acc) ∧ acc.length = os.length ∧ Rel B F (upd H a (.lst (acc.set j y))) σ g ((v, .lst (os.set j o)) :: τ) := by
  obtain ⟨f1, k1, k2, k3⟩ := Rel.open (E1 := [(v, .lst os), (y, o)]) (τ := τ) r
  obtain ⟨fl, fo, m1, m2, rfl⟩ := OwE.inv k1
  have m2 := OwE.one m2
  obtain ⟨a, acc, f, rfl, e2, e3, rfl⟩ := m1
  obtain ⟨f2, h1, f3, p⟩ := e3.setAt m2 hj
  have nd := List.nodup_cons.mp k2
  have hin : ∀ b ∈ f2, b ∈ f ++ fo := fun b hb => p.mem_iff.mp (List.mem_append_left _ hb)
  have hn : ∀ b ∈ f2, upd H a (.lst (acc.set j y)) b = H b := fun b hb => upd_ne fun z => nd.1 (z ▸ hin b hb)
  refine ⟨a, acc, rfl, e2, e3.length, k3 a _ [(.ref a, .lst (os.set j o))] (a :: f2) (by simp) (one_OwE ⟨a, acc.set j y, f2, rfl, upd_same, OwL.mono (Same.refl F) _ _ _ hn h1, rfl⟩) ?_ fun b hb => ?_⟩
  · refine List.nodup_cons.mpr ⟨fun z => nd.1 (hin a z), ?_⟩
    exact (List.nodup_append.mp (p.symm.nodup nd.2)).1
  · rcases List.mem_cons.mp hb with rfl | hb
    · simp
    · exact List.mem_cons_of_mem _ (hin b hb)
def gSetL (i : Nat) (mi : XO) : XG := fun o g => match g[i]? with
  | some (some (.lst _)) => (mi g).bind fun p => match view p.2 p.1, p.2[i]? with
    | some (.int k), some (some (.lst os)) => (ixN os.length k).map fun j => p.2.set i (some (.lst (os.set j o)))
    | _, _ => none
  | _ => none
theorem sg_setL {i : Nat} {ti : TE} {mi : XO} (hi : SO B ti mi) : SG B (gSub (tVar i) ti rSetL) (gSetL i mi) := by
  intro F H σ g τ v o g' r e Q q
  unfold gSetL at e
  split at e
  · rename_i os0 eg
    obtain ⟨⟨x, g1⟩, e1, e2⟩ := Option.bind_eq_some_iff.mp e
    dsimp only at e2
    split at e2
    · rename_i k os ek eg1
      obtain ⟨j, e3, e4⟩ := Option.map_eq_some_iff.mp e2
      cases e4
      obtain ⟨a, acc0, hv, h0, _, _⟩ := r.lstAt eg
      refine ⟨.ref a, hv, ?_⟩
      refine hi F H σ g _ x g1 r e1 _ fun F1 H1 y s1 r1 ok => ?_
      obtain rfl : y = .int k := r1.view ok ek
      have r2 := r1.take hv eg1
      obtain ⟨a', acc, ea, h1, h2, r3⟩ := r2.setAt (ixN_seq e3).2.1
      cases ea
      refine ⟨a, acc, k, j, rfl, rfl, h1, by rw [h2]; exact e3, ?_⟩
      have r4 := r3.back' hv
      rw [List.set_set] at r4
      exact q F1 _ σ s1 r4
    · cases e2
  · cases e
end
end Mi

set_option Elab.async false
set_option linter.all false
set_option maxRecDepth 100000
/-! Mi5: operations by data. -/
namespace Mi
open PySem PySem.Spec PyProof.Rows L2

/-! ### data compared -/
mutual
def toPy : D → Option PyData
  | .non => some .none
  | .bl b => some (.bool b)
  | .int i => some (.int i)
  | .str s => some (.str s)
  | .tup ds => (toPyL ds).map .tuple
  | .lst ds => (toPyL ds).map .list
  | .dK _ _ => none
  | .dT _ _ => none
  | .scr _ => none
  | .ob _ _ _ => none
def toPyL : List D → Option (List PyData)
  | [] => some []
  | d :: ds => (toPy d).bind fun p => (toPyL ds).map fun ps => p :: ps
end
section
variable {K : PySem.W.Frag} {H : Hp}
mutual
theorem toPy_dp : ∀ (d : D) (v : V) (p : PyData), Rp K H v d → toPy d = some p → Dp K H v p
  | .non, v, p, h, e => by
    obtain rfl : v = .non := h
    rw [toPy] at e
    cases e
    exact .non
  | .bl b, v, p, h, e => by
    obtain rfl : v = .bl b := h
    rw [toPy] at e
    cases e
    exact .bl b
  | .int b, v, p, h, e => by
    obtain rfl : v = .int b := h
    rw [toPy] at e
    cases e
    exact .int b
  | .str b, v, p, h, e => by
    obtain rfl : v = .str b := h
    rw [toPy] at e
    cases e
    exact .str b
  | .tup ds, v, p, h, e => by
    obtain ⟨a, vs, rfl, h1, h2⟩ := h
    rw [toPy] at e
    obtain ⟨ps, e1, rfl⟩ := Option.map_eq_some_iff.mp e
    exact .tup h1 (toPyL_dp ds vs ps h2 e1)
  | .lst ds, v, p, h, e => by
    obtain ⟨a, vs, rfl, h1, h2⟩ := h
    rw [toPy] at e
    obtain ⟨ps, e1, rfl⟩ := Option.map_eq_some_iff.mp e
    exact .lst (SqL.of h1) (toPyL_dp ds vs ps h2 e1)
  | .dK _ _, v, p, h, e => by
    rw [toPy] at e
    cases e
  | .dT _ _, v, p, h, e => by
    rw [toPy] at e
    cases e
  | .scr _, v, p, h, e => by
    rw [toPy] at e
    cases e
  | .ob _ _ _, v, p, h, e => by
    rw [toPy] at e
    cases e
theorem toPyL_dp : ∀ (ds : List D) (vs : List V) (ps : List PyData), RpL K H vs ds → toPyL ds = some ps → DpAll K H vs ps
  | [], vs, ps, h, e => by
    obtain rfl : vs = [] := h
    rw [toPyL] at e
    cases e
    exact .nil
  | d :: ds, vs, ps, h, e => by
    obtain ⟨v, r, rfl, h1, h2⟩ := h
    rw [toPyL] at e
    obtain ⟨p, e1, e2⟩ := Option.bind_eq_some_iff.mp e
    obtain ⟨qs, e3, rfl⟩ := Option.map_eq_some_iff.mp e2
    exact .cons (toPy_dp d v p h1 e1) (toPyL_dp ds r qs h2 e3)
end
end
def deepEq (d e : D) : Option Bool := (toPy d).bind fun p => (toPy e).bind fun q => if SeqAt.shaped p = true ∧ SeqAt.shaped q = true then some (PyData.eqv p q) else none
def dEqB (d e : D) : Option Bool := match d, e with
  | .int i, .int j => some (decide (i = j))
  | .str i, .str j => some (decide (i = j))
  | .bl i, .bl j => some (decide (i = j))
  | .non, .non => some true
  | .non, .int _ => some false
  | .int _, .non => some false
  | .non, .str _ => some false
  | .str _, .non => some false
  | .non, .bl _ => some false
  | .bl _, .non => some false
  | .int _, .str _ => some false
  | .str _, .int _ => some false
  | .bl _, .str _ => some false
  | .str _, .bl _ => some false
  | d, e => deepEq d e
def dEq (d e : D) : Option D := (dEqB d e).map .bl
def dNe (d e : D) : Option D := (dEqB d e).map fun b => .bl (!b)
def rEqAll (K : PySem.W.Frag) : R2 := fun x y H Q => rEq x y H Q ∨ rEqD K x y H Q
def rNeAll (K : PySem.W.Frag) : R2 := fun x y H Q => rNe x y H Q ∨ rNeD K x y H Q
theorem op_eqAll {X : Cx} (hu : X.A.units + 64 < cLine) : OpR X (compareOp .Eq) (rEqAll X.K) := OpR.or op_eq (op_eqD hu)
theorem op_neAll {X : Cx} (hu : X.A.units + 64 < cLine) : OpR X (compareOp .NotEq) (rNeAll X.K) := OpR.or op_ne (op_neD hu)
/-- either scalars that == tells apart as data does, or data at any depth -/
theorem dEqB_cases {K : PySem.W.Frag} {H : Hp} {x y : V} {d e : D} {b : Bool} (hx : Rp K H x d) (hy : Rp K H y e) (h : dEqB d e = some b) : (scal x y = true ∧ decide (x = y) = b) ∨ ∃ p q, Dp K H x p ∧ Dp K H y q ∧ SeqAt.shaped p = true ∧ SeqAt.shaped q = true ∧ PyData.eqv p q = b := by
  unfold dEqB at h
  split at h
  case h_15 =>
    right
    obtain ⟨p, e1, h⟩ := Option.bind_eq_some_iff.mp h
    obtain ⟨q, e2, h⟩ := Option.bind_eq_some_iff.mp h
    split at h
    · rename_i hs
      cases h
      exact ⟨p, q, toPy_dp _ _ _ hx e1, toPy_dp _ _ _ hy e2, hs.1, hs.2, rfl⟩
    · cases h
  all_goals
    left
    cases h
    cases (show x = _ from hx)
    cases (show y = _ from hy)
    refine ⟨rfl, ?_⟩
    simp
theorem s2_eq {K : PySem.W.Frag} : S2 K (rEqAll K) dEq := by
  intro H x y d e z hx hy h
  obtain ⟨b, h1, rfl⟩ := Option.map_eq_some_iff.mp h
  refine ⟨.bl b, rfl, fun Q q => ?_⟩
  rcases dEqB_cases hx hy h1 with ⟨k1, k2⟩ | ⟨p, r, k1, k2, k3, k4, k5⟩
  · exact .inl ⟨k1, by rw [k2]; exact q⟩
  · exact .inr ⟨p, r, k1, k2, k3, k4, by rw [k5]; exact q⟩
theorem s2_ne {K : PySem.W.Frag} : S2 K (rNeAll K) dNe := by
  intro H x y d e z hx hy h
  obtain ⟨b, h1, rfl⟩ := Option.map_eq_some_iff.mp h
  refine ⟨.bl (!b), rfl, fun Q q => ?_⟩
  rcases dEqB_cases hx hy h1 with ⟨k1, k2⟩ | ⟨p, r, k1, k2, k3, k4, k5⟩
  · exact .inl ⟨k1, by rw [k2]; exact q⟩
  · exact .inr ⟨p, r, k1, k2, k3, k4, by rw [k5]; exact q⟩

/-! ### order -/
def sLt (i j : Str) : Bool := decide (i.cps.toList < j.cps.toList)
def dLt (d e : D) : Option D := match d, e with
  | .int i, .int j => some (.bl (decide (i < j)))
  | .str i, .str j => some (.bl (sLt i j))
  | _, _ => none
def dLe (d e : D) : Option D := match d, e with
  | .int i, .int j => some (.bl (decide (i ≤ j)))
  | .str i, .str j => some (.bl (!sLt j i))
  | _, _ => none
def dGt (d e : D) : Option D := match d, e with
  | .int i, .int j => some (.bl (decide (j < i)))
  | .str i, .str j => some (.bl (sLt j i))
  | _, _ => none
def dGe (d e : D) : Option D := match d, e with
  | .int i, .int j => some (.bl (decide (j ≤ i)))
  | .str i, .str j => some (.bl (!sLt i j))
  | _, _ => none
def rCmpIS (f : Int → Int → Bool) (g : Str → Str → Bool) : R2 := fun x y H Q => (rI0 (fun i j => .bl (f i j))) x y H Q ∨ (∃ i j, x = .str i ∧ y = .str j ∧ Q (.bl (g i j)) H)
theorem op_ltIS {X : Cx} : OpR X (compareOp .Lt) (rCmpIS (fun i j => decide (i < j)) fun i j => sLt i j) := OpR.or op_lt op_lt_str
theorem op_leIS {X : Cx} : OpR X (compareOp .LtE) (rCmpIS (fun i j => decide (i ≤ j)) fun i j => !sLt j i) := OpR.or op_le op_le_str
theorem op_gtIS {X : Cx} : OpR X (compareOp .Gt) (rCmpIS (fun i j => decide (j < i)) fun i j => sLt j i) := OpR.or op_gt op_gt_str
theorem op_geIS {X : Cx} : OpR X (compareOp .GtE) (rCmpIS (fun i j => decide (j ≤ i)) fun i j => !sLt i j) := OpR.or op_ge op_ge_str
theorem s2_is {K : PySem.W.Frag} {f : Int → Int → Bool} {g : Str → Str → Bool} {h : D → D → Option D} (hi : ∀ i j, h (.int i) (.int j) = some (.bl (f i j))) (hs : ∀ i j, h (.str i) (.str j) = some (.bl (g i j)))
    (ho : ∀ d e z, h d e = some z → (∃ i j, d = .int i ∧ e = .int j) ∨ ∃ i j, d = .str i ∧ e = .str j) : S2 K (rCmpIS f g) h := by
  intro H x y d e z hx hy k
  rcases ho d e z k with ⟨i, j, rfl, rfl⟩ | ⟨i, j, rfl, rfl⟩
  · rw [hi] at k
    cases k
    exact ⟨_, rfl, fun Q q => .inl ⟨i, j, hx, hy, q⟩⟩
  · rw [hs] at k
    cases k
    exact ⟨_, rfl, fun Q q => .inr ⟨i, j, hx, hy, q⟩⟩
theorem s2_lt {K : PySem.W.Frag} : S2 K (rCmpIS (fun i j => decide (i < j)) fun i j => sLt i j) dLt := s2_is (fun _ _ => rfl) (fun _ _ => rfl) fun d e z k => by
  cases d <;> cases e <;> first | cases k; fail | exact .inl ⟨_, _, rfl, rfl⟩ | exact .inr ⟨_, _, rfl, rfl⟩ | cases k
theorem s2_le {K : PySem.W.Frag} : S2 K (rCmpIS (fun i j => decide (i ≤ j)) fun i j => !sLt j i) dLe := s2_is (fun _ _ => rfl) (fun _ _ => rfl) fun d e z k => by
  cases d <;> cases e <;> first | cases k; fail | exact .inl ⟨_, _, rfl, rfl⟩ | exact .inr ⟨_, _, rfl, rfl⟩ | cases k
theorem s2_gt {K : PySem.W.Frag} : S2 K (rCmpIS (fun i j => decide (j < i)) fun i j => sLt j i) dGt := s2_is (fun _ _ => rfl) (fun _ _ => rfl) fun d e z k => by
  cases d <;> cases e <;> first | cases k; fail | exact .inl ⟨_, _, rfl, rfl⟩ | exact .inr ⟨_, _, rfl, rfl⟩ | cases k
theorem s2_ge {K : PySem.W.Frag} : S2 K (rCmpIS (fun i j => decide (j ≤ i)) fun i j => !sLt i j) dGe := s2_is (fun _ _ => rfl) (fun _ _ => rfl) fun d e z k => by
  cases d <;> cases e <;> first | cases k; fail | exact .inl ⟨_, _, rfl, rfl⟩ | exact .inr ⟨_, _, rfl, rfl⟩ | cases k

/-! ### is -/
def isNonD : D → Bool | .non => true | _ => false
def dIsN (d e : D) : Option D := match e with
  | .non => some (.bl (isNonD d))
  | _ => none
def dNotN (d e : D) : Option D := match e with
  | .non => some (.bl (!isNonD d))
  | _ => none
theorem rp_non {K : PySem.W.Frag} {H : Hp} {x : V} {d : D} (h : Rp K H x d) : decide (x = .non) = isNonD d := by
  cases d with
  | non => cases (show x = .non from h); rfl
  | bl b => cases (show x = .bl b from h); rfl
  | int b => cases (show x = .int b from h); rfl
  | str b => cases (show x = .str b from h); rfl
  | tup ds => obtain ⟨a, vs, rfl, _⟩ := h; rfl
  | lst ds => obtain ⟨a, vs, rfl, _⟩ := h; rfl
  | dK _ ds => obtain ⟨a, vs, rfl, _⟩ := h; rfl
  | dT _ ds => obtain ⟨a, vs, rfl, _⟩ := h; rfl
  | scr ns => obtain ⟨a, rfl, _⟩ := h; rfl
  | ob _ _ _ => obtain ⟨a, dx, vs, rfl, _⟩ := h; rfl
theorem s2_isN {K : PySem.W.Frag} : S2 K (fun x y H Q => y = .non ∧ Q (.bl (decide (x = .non))) H) dIsN := by
  intro H x y d e z hx hy k
  unfold dIsN at k
  split at k
  · cases k
    cases (show y = .non from hy)
    exact ⟨_, rfl, fun Q q => ⟨rfl, by rw [rp_non hx]; exact q⟩⟩
  · cases k
theorem s2_notN {K : PySem.W.Frag} : S2 K (fun x y H Q => y = .non ∧ Q (.bl (!decide (x = .non))) H) dNotN := by
  intro H x y d e z hx hy k
  unfold dNotN at k
  split at k
  · cases k
    cases (show y = .non from hy)
    exact ⟨_, rfl, fun Q q => ⟨rfl, by rw [rp_non hx]; exact q⟩⟩
  · cases k
def rIsBl : R2 := fun x y H Q => ∃ b, y = .bl b ∧ Q (.bl (decide (x = .bl b))) H
def rNotBl : R2 := fun x y H Q => ∃ b, y = .bl b ∧ Q (.bl (!decide (x = .bl b))) H
theorem is_plainV {x : V} {u : Value} {b : Bool} (rx : RelV x u) : plainIs u (.bool b) = true ∧ (u == Value.bool b) = decide (x = .bl b) := by
  cases x with
  | non => cases rx; exact ⟨rfl, rfl⟩
  | bl c =>
    cases rx
    refine ⟨rfl, ?_⟩
    by_cases e : c = b
    · subst e; simp
    · have e1 : (Value.bool c == Value.bool b) = false := by simpa using e
      have e2 : ¬ (V.bl c = V.bl b) := fun z => e (V.bl.inj z)
      rw [e1, decide_eq_false e2]
  | int i => obtain ⟨t, rfl⟩ := rx; exact ⟨rfl, rfl⟩
  | str i => obtain ⟨t, rfl⟩ := rx; exact ⟨rfl, rfl⟩
  | byt i => obtain ⟨t, rfl⟩ := rx; exact ⟨rfl, rfl⟩
  | flt i => obtain ⟨t, rfl⟩ := rx; exact ⟨rfl, rfl⟩
  | ref a => cases rx; exact ⟨rfl, rfl⟩
  | ty n => cases rx; exact ⟨rfl, rfl⟩
theorem op_isBl1 {X : Cx} : OpR X (compareOp .Is) rIsBl := by
  intro pins s σ H x y v u Q I rx ry h
  obtain ⟨b, rfl, q⟩ := h
  cases (show u = Value.bool b from ry)
  obtain ⟨h1, h2⟩ := is_plainV (b := b) rx
  exact wpAny_is_plain h1 ⟨.bl _, H, I, rfl, by rw [h2]; exact q⟩
theorem op_notBl1 {X : Cx} : OpR X (compareOp .IsNot) rNotBl := by
  intro pins s σ H x y v u Q I rx ry h
  obtain ⟨b, rfl, q⟩ := h
  cases (show u = Value.bool b from ry)
  obtain ⟨h1, h2⟩ := is_plainV (b := b) rx
  exact wpAny_isNot_plain h1 ⟨.bl _, H, I, rfl, by rw [h2]; exact q⟩
def isBl (d : D) (b : Bool) : Bool := match d with | .bl c => c == b | _ => false
def dIsB (d e : D) : Option D := match e with
  | .bl b => some (.bl (isBl d b))
  | _ => none
def dNotB (d e : D) : Option D := match e with
  | .bl b => some (.bl (!isBl d b))
  | _ => none
theorem rp_bl {K : PySem.W.Frag} {H : Hp} {x : V} {d : D} {b : Bool} (h : Rp K H x d) : decide (x = .bl b) = isBl d b := by
  cases d with
  | non => cases (show x = .non from h); rfl
  | bl c =>
    cases (show x = .bl c from h)
    rw [dec_bl]
    rfl
  | int b => cases (show x = .int b from h); rfl
  | str b => cases (show x = .str b from h); rfl
  | tup ds => obtain ⟨a, vs, rfl, _⟩ := h; rfl
  | lst ds => obtain ⟨a, vs, rfl, _⟩ := h; rfl
  | dK _ ds => obtain ⟨a, vs, rfl, _⟩ := h; rfl
  | dT _ ds => obtain ⟨a, vs, rfl, _⟩ := h; rfl
  | scr ns => obtain ⟨a, rfl, _⟩ := h; rfl
  | ob _ _ _ => obtain ⟨a, dx, vs, rfl, _⟩ := h; rfl
theorem s2_isB {K : PySem.W.Frag} : S2 K rIsBl dIsB := by
  intro H x y d e z hx hy k
  unfold dIsB at k
  split at k
  · rename_i b
    cases k
    exact ⟨_, rfl, fun Q q => ⟨b, hy, by rw [rp_bl hx]; exact q⟩⟩
  · cases k
theorem s2_notB {K : PySem.W.Frag} : S2 K rNotBl dNotB := by
  intro H x y d e z hx hy k
  unfold dNotB at k
  split at k
  · rename_i b
    cases k
    exact ⟨_, rfl, fun Q q => ⟨b, hy, by rw [rp_bl hx]; exact q⟩⟩
  · cases k

/-! ### arithmetic -/
section
variable {K : PySem.W.Frag}
def dSub (d e : D) : Option D := match d, e with
  | .int i, .int j => some (.int (i - j))
  | _, _ => none
theorem s2_sub : S2 K (rI0 fun i j => .int (i - j)) dSub := by
  intro H x y d e z hx hy k
  unfold dSub at k
  split at k
  · cases k
    exact ⟨_, rfl, fun Q q => ⟨_, _, hx, hy, q⟩⟩
  · cases k
def dMod (d e : D) : Option D := match d, e with
  | .int i, .int j => if j ≠ 0 then some (.int (i.fmod j)) else none
  | _, _ => none
theorem s2_mod : S2 K (rI (fun _ j => j ≠ 0) fun i j => .int (i.fmod j)) dMod := by
  intro H x y d e z hx hy k
  unfold dMod at k
  split at k
  · split at k
    · rename_i hj
      cases k
      exact ⟨_, rfl, fun Q q => ⟨_, _, hx, hy, hj, q⟩⟩
    · cases k
  · cases k
def CDivX (_ j : Int) : Prop := j ≠ 0 ∧ j.natAbs.log2 < 9000
instance (i j : Int) : Decidable (CDivX i j) := by unfold CDivX; exact inferInstance
theorem op_fdivX {X : Cx} : OpR X (binaryOp .FloorDiv) (rI CDivX fun i j => .int (i.fdiv j)) := opI fun i j _ _ _ _ _ hc q => floordiv_int hc.1 q (.inl (PyProof.noPylong_of_log2 hc.2))
def dFdiv (d e : D) : Option D := match d, e with
  | .int i, .int j => if CDivX i j then some (.int (i.fdiv j)) else none
  | _, _ => none
theorem s2_fdiv : S2 K (rI CDivX fun i j => .int (i.fdiv j)) dFdiv := by
  intro H x y d e z hx hy k
  unfold dFdiv at k
  split at k
  · split at k
    · rename_i hj
      cases k
      exact ⟨_, rfl, fun Q q => ⟨_, _, hx, hy, hj, q⟩⟩
    · cases k
  · cases k
def dPow (d e : D) : Option D := match d, e with
  | .int i, .int j => if 0 ≤ j ∧ j ≤ 1000000 ∧ i.natAbs < 2 ^ 64 then some (.int (i ^ j.toNat)) else none
  | _, _ => none
theorem s2_pow : S2 K (rI CPow fun i j => .int (i ^ j.toNat)) dPow := by
  intro H x y d e z hx hy k
  unfold dPow at k
  split at k
  · split at k
    · rename_i hj
      cases k
      exact ⟨_, rfl, fun Q q => ⟨_, _, hx, hy, hj, q⟩⟩
    · cases k
  · cases k
def dNeg (d : D) : Option D := match d with
  | .int i => some (.int (-i))
  | _ => none
theorem s1_neg : S1 K (rU fun i => .int (-i)) dNeg := by
  intro H x d z hx k
  unfold dNeg at k
  split at k
  · cases k
    exact ⟨_, rfl, fun Q q => ⟨_, hx, q⟩⟩
  · cases k

/-! + : ints, texts, lists, tuples -/
def rAddAll (K : PySem.W.Frag) : R2 := fun x y H Q => (rI0 (fun i j => .int (i + j))) x y H Q ∨ (∃ i j, x = .str i ∧ y = .str j ∧ i.length + j.length ≤ sizeLine ∧ Q (.str (i ++ j)) H) ∨ rCat x y H Q ∨ rCatA K x y H Q
theorem op_addAll {X : Cx} : OpR X (binaryOp .Add) (rAddAll X.K) := OpR.or op_add (OpR.or op_add_str (OpR.or op_cat op_catA))
def dAdd (d e : D) : Option O := match d, e with
  | .int i, .int j => some (.fr (.int (i + j)))
  | .str i, .str j => if i.length + j.length ≤ sizeLine then some (.fr (.str (i ++ j))) else none
  | .lst a, .lst b => if a.length + b.length ≤ sizeLine then some (.lst ((a ++ b).map O.fr)) else none
  | .tup a, .tup b => if a.length + b.length ≤ sizeLine then some (.fr (.tup (a ++ b))) else none
  | _, _ => none
theorem a2_add : A2 K (rAddAll K) dAdd := by
  intro F H x y d e z s hx hy k Q q
  unfold dAdd at k
  split at k
  · cases k
    exact .inl ⟨_, _, hx, hy, made_fr (K := K) s (v := V.int _) (d := D.int _) rfl q⟩
  · split at k
    · rename_i hl
      cases k
      exact .inr (.inl ⟨_, _, hx, hy, hl, made_fr (K := K) s (v := V.str _) (d := D.str _) rfl q⟩)
    · cases k
  · split at k
    · rename_i hl
      cases k
      obtain ⟨a, vs, rfl, h1, h2⟩ := hx
      obtain ⟨b, ws, rfl, h3, h4⟩ := hy
      exact .inr (.inr (.inl ⟨a, b, vs, ws, rfl, rfl, s _ _ h1, s _ _ h3, by rw [h2.length, h4.length]; exact hl, fun p hp => made_lst (K := K) s hp (h2.append h4) q⟩))
    · cases k
  · split at k
    · rename_i hl
      cases k
      obtain ⟨a, vs, rfl, h1, h2⟩ := hx
      obtain ⟨b, ws, rfl, h3, h4⟩ := hy
      refine .inr (.inr (.inr ⟨a, b, vs, ws, rfl, rfl, Same.sqT s h1, Same.sqT s h3, by rw [h2.length, h4.length]; exact hl, fun hv => ?_, fun _ hv => ?_, fun _ _ p hp => made_tup (K := K) s hp (h2.append h4) q⟩))
      · subst hv
        have e1 := h2.length
        rw [List.length_nil] at e1
        obtain rfl := List.length_eq_zero_iff.mp e1.symm
        exact made_fr (K := K) s (v := .ref b) (d := .tup _) ⟨b, ws, rfl, h3, h4⟩ q
      · subst hv
        have e1 := h4.length
        rw [List.length_nil] at e1
        obtain rfl := List.length_eq_zero_iff.mp e1.symm
        rw [List.append_nil] at q
        exact made_fr (K := K) s (v := .ref a) (d := .tup _) ⟨a, vs, rfl, h1, h2⟩ q
    · cases k
  · cases k

/-! * : ints, a list by an int -/
def mulOk (i j : Int) : Bool := decide (-(2 ^ 64) < i ∧ i < 2 ^ 64) || decide (-(2 ^ 64) < j ∧ j < 2 ^ 64) || decide (i.natAbs.log2 + j.natAbs.log2 < 1000000)
/-- a text k times -/
def repS (a : Str) (k : Int) : Str := if k < 1 then Str.empty else if (k == 1 || a.length == 0) = true then a else ⟨(List.replicate k.toNat a.cps).foldl (· ++ ·) #[]⟩
theorem foldl_size : ∀ (n : Nat) (b acc : Array Nat), ((List.replicate n b).foldl (· ++ ·) acc).size = acc.size + n * b.size
  | 0, b, acc => by simp
  | n + 1, b, acc => by
    rw [List.replicate_succ, List.foldl_cons, foldl_size n b, Array.size_append, Nat.add_mul]
    omega
def rRepS : R2 := fun x y H Q => ∃ (a : Str) (k : Int), x = .str a ∧ y = .int k ∧ -(2 ^ 63) ≤ k ∧ k < 2 ^ 63 ∧ a.length * k.toNat ≤ 16777216 ∧ Q (.str (repS a k)) H
theorem op_repS {X : Cx} : OpR X (binaryOp .Mult) rRepS := by
  intro pins s σ H x y v u Q I rx ry h
  obtain ⟨a, k, rfl, rfl, h1, h2, hz, q⟩ := h
  obtain ⟨t, rfl⟩ := rx
  obtain ⟨t', rfl⟩ := ry
  have hs : sizeLine = 16777216 := sizeLine_eq
  refine P.mul_str (by rw [decide_eq_false (by omega), decide_eq_false (by omega)]; rfl) (fun h3 _ => ?_) (fun h3 _ => ?_) ?_
  · have : (a.length : Int) ≤ (2 ^ 63 - 1) / k := by
      rw [Int.le_ediv_iff_mul_le (by omega)]
      have : ((a.length * k.toNat : Nat) : Int) ≤ 16777216 := Int.ofNat_le.mpr hz
      rw [Int.natCast_mul, Int.toNat_of_nonneg (by omega)] at this
      omega
    omega
  · unfold Builtin.Str.tooLong
    exact decide_eq_false (by omega)
  · unfold repS at q
    split
    · rename_i h3
      rw [if_pos h3] at q
      exact ⟨by rw [hs]; exact Nat.zero_le _, .str Str.empty, H, I.tok _, ⟨_, rfl⟩, q⟩
    · rename_i h3
      rw [if_neg h3] at q
      split
      · rename_i h4
        rw [if_pos h4] at q
        exact ⟨.str a, H, I, ⟨_, rfl⟩, q⟩
      · rename_i h4
        rw [if_neg h4] at q
        refine ⟨?_, .str _, H, I.tok _, ⟨_, rfl⟩, q⟩
        show ((List.replicate k.toNat a.cps).foldl (· ++ ·) #[]).size ≤ sizeLine
        rw [foldl_size, hs]
        have : a.cps.size * k.toNat ≤ 16777216 := hz
        rw [Nat.mul_comm] at this
        simpa using this
def rMulAll : R2 := fun x y H Q => rI CMul (fun i j => .int (i * j)) x y H Q ∨ rI CMulW (fun i j => .int (i * j)) x y H Q ∨ rRep x y H Q ∨ rRepS x y H Q
theorem op_mulAll {X : Cx} : OpR X (binaryOp .Mult) rMulAll := OpR.or op_mul (OpR.or op_mulW (OpR.or op_rep op_repS))
def dMul (d e : D) : Option O := match d, e with
  | .int i, .int j => if mulOk i j = true then some (.fr (.int (i * j))) else none
  | .lst a, .int k => if (-(2 ^ 63) ≤ k ∧ k < 2 ^ 63) ∧ a.length * k.toNat ≤ sizeLine then some (.lst ((List.replicate k.toNat a).flatten.map O.fr)) else none
  | .str a, .int k => if (-(2 ^ 63) ≤ k ∧ k < 2 ^ 63) ∧ a.length * k.toNat ≤ 16777216 then some (.fr (.str (repS a k))) else none
  | _, _ => none
theorem RpL.rep {F : Hp} {vs : List V} {ds : List D} (h : RpL K F vs ds) : ∀ n : Nat, RpL K F (List.replicate n vs).flatten (List.replicate n ds).flatten
  | 0 => RpL.nil
  | n + 1 => by
    rw [List.replicate_succ, List.replicate_succ, List.flatten_cons, List.flatten_cons]
    exact h.append (RpL.rep h n)
theorem a2_mul : A2 K rMulAll dMul := by
  intro F H x y d e z s hx hy k Q q
  unfold dMul at k
  split at k
  · rename_i i j
    split at k
    · rename_i hm
      cases k
      have hq : Q (.int (i * j)) H := made_fr (K := K) s (v := V.int _) (d := D.int _) rfl q
      unfold mulOk at hm
      rw [Bool.or_eq_true, Bool.or_eq_true] at hm
      rcases hm with (hm | hm) | hm
      · exact .inl ⟨i, j, hx, hy, .inl (of_decide_eq_true hm), hq⟩
      · exact .inl ⟨i, j, hx, hy, .inr (of_decide_eq_true hm), hq⟩
      · exact .inr (.inl ⟨i, j, hx, hy, (show CMulW i j from (of_decide_eq_true hm : i.natAbs.log2 + j.natAbs.log2 < 1000000)), hq⟩)
    · cases k
  · split at k
    · rename_i hk
      cases k
      obtain ⟨a, vs, rfl, h1, h2⟩ := hx
      exact .inr (.inr (.inl ⟨a, _, vs, rfl, hy, s _ _ h1, hk.1.1, hk.1.2, by rw [h2.length]; exact hk.2, fun p hp => made_lst (K := K) s hp (h2.rep _) q⟩))
    · cases k
  · split at k
    · rename_i a j hk
      cases k
      exact .inr (.inr (.inr ⟨a, j, hx, hy, hk.1.1, hk.1.2, hk.2, made_fr (K := K) s (v := V.str _) (d := D.str _) rfl q⟩))
    · cases k
  · cases k

/-! ### built-in calls -/
def dAbs (ds : List D) : Option D := match ds with
  | [.int i] => some (.int (if i < 0 then -i else i))
  | _ => none
theorem RpL.one {H : Hp} {vs : List V} {d : D} (h : RpL K H vs [d]) : ∃ v, vs = [v] ∧ Rp K H v d := by
  obtain ⟨v, r, rfl, h1, h2⟩ := h
  obtain rfl : r = [] := h2
  exact ⟨v, rfl, h1⟩
theorem RpL.two {H : Hp} {vs : List V} {d e : D} (h : RpL K H vs [d, e]) : ∃ v w, vs = [v, w] ∧ Rp K H v d ∧ Rp K H w e := by
  obtain ⟨v, r, rfl, h1, h2⟩ := h
  obtain ⟨w, rfl, h3⟩ := h2.one
  exact ⟨v, w, rfl, h1, h3⟩
theorem sn_abs : SN K (fun xs H Q => ∃ i, xs = [.int i] ∧ Q (.int (if i < 0 then -i else i)) H) dAbs := by
  intro H vs ds z h k
  unfold dAbs at k
  split at k
  · rename_i i
    cases k
    obtain ⟨v, rfl, hv⟩ := h.one
    cases (show v = V.int i from hv)
    exact ⟨_, rfl, fun Q q => ⟨i, rfl, q⟩⟩
  · cases k
def dGcd (ds : List D) : Option D := match ds with
  | [.int a, .int b] => some (.int ((Nat.gcd a.natAbs b.natAbs : Nat) : Int))
  | _ => none
theorem sn_gcd : SN K rGcd dGcd := by
  intro H vs ds z h k
  unfold dGcd at k
  split at k
  · rename_i a b
    cases k
    obtain ⟨v, w, rfl, hv, hw⟩ := h.two
    cases (show v = V.int a from hv)
    cases (show w = V.int b from hw)
    exact ⟨_, rfl, fun Q q => ⟨a, b, rfl, q⟩⟩
  · cases k
/-- int(n), int(flag), int(text) -/
def rIntOf : List V → Hp → VK → Prop := fun xs H Q => ((∃ i, xs = [.int i] ∧ Q (.int i) H) ∨ ∃ k, xs = [.bl k] ∧ Q (.int (if k then 1 else 0)) H) ∨ ∃ a n, xs = [.str a] ∧ PySem.intText? a = some n ∧ a.length ≤ 640 ∧ Q (.int n) H
theorem call_intOf {X : Cx} : CallR X (.type "int") rIntOf := CallR.or call_int1 call_int_str
def dIntOf (ds : List D) : Option D := match ds with
  | [.int i] => some (.int i)
  | [.bl k] => some (.int (if k then 1 else 0))
  | [.str a] => if a.length ≤ 640 then (PySem.intText? a).map .int else none
  | _ => none
theorem sn_intOf : SN K rIntOf dIntOf := by
  intro H vs ds z h k
  unfold dIntOf at k
  split at k
  · rename_i i
    cases k
    obtain ⟨v, rfl, hv⟩ := h.one
    cases (show v = V.int i from hv)
    exact ⟨_, rfl, fun Q q => .inl (.inl ⟨i, rfl, q⟩)⟩
  · rename_i b
    cases k
    obtain ⟨v, rfl, hv⟩ := h.one
    cases (show v = V.bl b from hv)
    exact ⟨_, rfl, fun Q q => .inl (.inr ⟨b, rfl, q⟩)⟩
  · rename_i a
    split at k
    · rename_i hl
      obtain ⟨n, hn, rfl⟩ := Option.map_eq_some_iff.mp k
      obtain ⟨v, rfl, hv⟩ := h.one
      cases (show v = V.str a from hv)
      exact ⟨_, rfl, fun Q q => .inr ⟨a, n, rfl, hn, hl, q⟩⟩
    · cases k
  · cases k
/-- str(n), str(text) -/
def rStrOf : List V → Hp → VK → Prop := fun xs H Q => (∃ i, xs = [.int i] ∧ i.natAbs.log2 < 1920 ∧ Q (.str (toString i)) H) ∨ ∃ a, xs = [.str a] ∧ Q (.str a) H
theorem call_strOf {X : Cx} : CallR X (.type "str") rStrOf := CallR.or call_str_int SkE.call_str_str
def dStrOf (ds : List D) : Option D := match ds with
  | [.int i] => if i.natAbs.log2 < 1920 then some (.str (toString i)) else none
  | [.str a] => some (.str a)
  | _ => none
theorem sn_strOf : SN K rStrOf dStrOf := by
  intro H vs ds z h k
  unfold dStrOf at k
  split at k
  · rename_i i
    split at k
    · rename_i hl
      cases k
      obtain ⟨v, rfl, hv⟩ := h.one
      cases (show v = V.int i from hv)
      exact ⟨_, rfl, fun Q q => .inl ⟨i, rfl, hl, q⟩⟩
    · cases k
  · rename_i a
    cases k
    obtain ⟨v, rfl, hv⟩ := h.one
    cases (show v = V.str a from hv)
    exact ⟨_, rfl, fun Q q => .inr ⟨a, rfl, q⟩⟩
  · cases k
/-- len -/
def rLenAll (K : PySem.W.Frag) : List V → Hp → VK → Prop := fun xs H Q => (∃ x n, xs = [x] ∧ LenV K x H n ∧ Q (.int n) H) ∨ (∃ a kvs, xs = [V.ref a] ∧ H a = some (.dK kvs) ∧ Q (.int kvs.length) H)
theorem call_lenAll {X : Cx} : CallR X (.builtin "len") (rLenAll X.K) := CallR.or call_len call_lenD
def dLen (ds : List D) : Option D := match ds with
  | [.str s] => if s.length ≤ sizeLine then some (.int (s.length : Nat)) else none
  | [.tup es] => some (.int (es.length : Nat))
  | [.lst es] => some (.int (es.length : Nat))
  | [.scr ns] => some (.int (ns.length : Nat))
  | _ => none
theorem sn_len : SN K (rLenAll K) dLen := by
  intro H vs ds z h k
  unfold dLen at k
  split at k
  · rename_i a
    split at k
    · rename_i hl
      cases k
      obtain ⟨v, rfl, hv⟩ := h.one
      cases (show v = V.str a from hv)
      exact ⟨_, rfl, fun Q q => .inl ⟨_, _, rfl, ⟨hl, rfl⟩, q⟩⟩
    · cases k
  · cases k
    obtain ⟨v, rfl, hv⟩ := h.one
    obtain ⟨a, ws, rfl, h1, h2⟩ := hv
    exact ⟨_, rfl, fun Q q => .inl ⟨_, _, rfl, .inr ⟨ws, h1, h2.length.symm⟩, q⟩⟩
  · cases k
    obtain ⟨v, rfl, hv⟩ := h.one
    obtain ⟨a, ws, rfl, h1, h2⟩ := hv
    exact ⟨_, rfl, fun Q q => .inl ⟨_, _, rfl, .inl ⟨ws, SqL.of h1, h2.length.symm⟩, q⟩⟩
  · cases k
    obtain ⟨v, rfl, hv⟩ := h.one
    obtain ⟨a, rfl, h1⟩ := hv
    exact ⟨_, rfl, fun Q q => .inl ⟨_, _, rfl, .inl ⟨_, h1, by rw [List.length_map]⟩, q⟩⟩
  · cases k
/-- tuple(..), list(..) -/
def rTupOf (K : PySem.W.Frag) : List V → Hp → VK → Prop := fun xs H Q => ∃ p ys, xs = [.ref p] ∧ ((SqL K H p ys ∧ ∀ l, H l = none → Q (.ref l) (upd H l (.tup ys))) ∨ (SqT K H p ys ∧ Q (.ref p) H))
theorem call_tupOf {X : Cx} : CallR X (.type "tuple") (rTupOf X.K) := call_tuple_of
def dTupOf (ds : List D) : Option O := match ds with
  | [.lst es] => some (.fr (.tup es))
  | [.tup es] => some (.fr (.tup es))
  | _ => none
theorem an_tupOf : AN K (rTupOf K) dTupOf := by
  intro F H vs ds z s h k Q q
  unfold dTupOf at k
  split at k
  · cases k
    obtain ⟨v, rfl, hv⟩ := h.one
    obtain ⟨a, ws, rfl, h1, h2⟩ := hv
    exact ⟨a, ws, rfl, .inl ⟨SqL.of (s _ _ h1), fun p hp => made_tup (K := K) s hp h2 q⟩⟩
  · cases k
    obtain ⟨v, rfl, hv⟩ := h.one
    have hv' := hv
    obtain ⟨a, ws, rfl, h1, h2⟩ := hv
    exact ⟨a, ws, rfl, .inr ⟨Same.sqT s h1, made_fr (K := K) s hv' q⟩⟩
  · cases k
def rLstOf (K : PySem.W.Frag) : List V → Hp → VK → Prop := fun xs H Q => ∃ p ys, xs = [.ref p] ∧ (SqL K H p ys ∨ SqT K H p ys) ∧ ∀ l, H l = none → Q (.ref l) (upd H l (.lst ys))
theorem call_lstOf {X : Cx} : CallR X (.type "list") (rLstOf X.K) := call_list_of
def dLstOf (ds : List D) : Option O := match ds with
  | [.lst es] => some (.lst (es.map O.fr))
  | [.tup es] => some (.lst (es.map O.fr))
  | _ => none
theorem an_lstOf : AN K (rLstOf K) dLstOf := by
  intro F H vs ds z s h k Q q
  unfold dLstOf at k
  split at k
  · cases k
    obtain ⟨v, rfl, hv⟩ := h.one
    obtain ⟨a, ws, rfl, h1, h2⟩ := hv
    exact ⟨a, ws, rfl, .inl (SqL.of (s _ _ h1)), fun p hp => made_lst (K := K) s hp h2 q⟩
  · cases k
    obtain ⟨v, rfl, hv⟩ := h.one
    obtain ⟨a, ws, rfl, h1, h2⟩ := hv
    exact ⟨a, ws, rfl, .inr (Same.sqT s h1), fun p hp => made_lst (K := K) s hp h2 q⟩
  · cases k
end

/-! ### isinstance of a built-in type -/
def tyN : D → String
  | .non => "NoneType" | .bl _ => "bool" | .int _ => "int" | .str _ => "str" | .tup _ => "tuple" | .lst _ => "list" | .dK _ _ => "dict" | .dT _ _ => "dict" | .scr _ => "list" | .ob _ _ _ => "NoneType"
def isDT : D → Bool | .dT _ _ => true | .ob _ _ _ => true | _ => false
theorem tyN_x {K : PySem.W.Frag} {H : Hp} {v : V} {d : D} (h : Rp K H v d) (hd : isDT d ≠ true) : TyX K H v (.type (tyN d)) := by
  cases d with
  | non => cases (show v = .non from h); exact .base .non
  | bl b => cases (show v = .bl b from h); exact .base (.bl b)
  | int b => cases (show v = .int b from h); exact .base (.int b)
  | str b => cases (show v = .str b from h); exact .base (.str b)
  | tup ds =>
    obtain ⟨a, vs, rfl, h1, _⟩ := h
    rcases h1 with (h1 | ⟨o, h1⟩) | ⟨o, its, n, hk, hc, _⟩
    · exact .base (.tup h1)
    · exact .fTuple h1
    · exact .kTuple hk hc
  | lst ds =>
    obtain ⟨a, vs, rfl, h1, _⟩ := h
    exact .base (.lst h1)
  | dK ks ds =>
    obtain ⟨a, kvs, rfl, h1, _⟩ := h
    rcases h1 with h1 | ⟨o, h1⟩
    · exact .base (.dK h1)
    · exact .fDict h1
  | dT ks ds => exact (hd rfl).elim
  | ob _ _ _ => exact (hd rfl).elim
  | scr ns =>
    obtain ⟨a, rfl, h1⟩ := h
    rcases h1 with (h1 | ⟨o, h1⟩) | ⟨o, its, n, hk, hc, _⟩
    · exact .base (.lst h1)
    · exact .base (.frz h1)
    · exact .kList hk hc
/-- isinstance(x, T): f tells by the data -/
structure IsTy (T : String) (f : D → Bool) : Prop where
  ok : ∀ d, kitB (tyN d) T = some (f d)
def xIsi (f : D → Bool) (m : XO) : XE := fun g => (m g).bind fun p => (view p.2 p.1).bind fun d => if isDT d = true then none else some (.fr (.bl (f d)), p.2)
theorem se_isi {B : Bs} {T : String} {f : D → Bool} {t : TE} {m : XO} (hT : IsTy T f) (h : SO B t m) : SE B (tCB (rIsi B.K) (tCons t (tCons (tC (.ty T)) tNil))) (xIsi f m) := by
  intro F H σ g τ o g' rl e Q q
  obtain ⟨⟨a, g1⟩, e1, e2⟩ := Option.bind_eq_some_iff.mp e
  obtain ⟨d, e3, e4⟩ := Option.bind_eq_some_iff.mp e2
  split at e4
  · cases e4
  · rename_i hd
    cases e4
    refine h F H σ g τ a g1 rl e1 _ fun F1 H1 v s1 r1 ok1 => ?_
    have rp := r1.view ok1 e3
    exact ⟨v, .ty T, .type (tyN d), .type T, f d, rfl, .ty T, tyN_x rp hd, kit_ty (hT.ok d), q F1 H1 _ s1 (r1.addFr rfl)⟩
def isInt : D → Bool | .int _ => true | .bl _ => true | _ => false
def isBool : D → Bool | .bl _ => true | _ => false
def isStr : D → Bool | .str _ => true | _ => false
def isTup : D → Bool | .tup _ => true | _ => false
def isLst : D → Bool | .lst _ => true | .scr _ => true | _ => false
def isDct : D → Bool | .dK _ _ => true | .dT _ _ => true | _ => false
theorem isTy_int : IsTy "int" isInt := ⟨fun d => match d with
  | .non => (by decide +kernel : kitB "NoneType" "int" = some false)
  | .bl _ => (by decide +kernel : kitB "bool" "int" = some true)
  | .int _ => (by decide +kernel : kitB "int" "int" = some true)
  | .str _ => (by decide +kernel : kitB "str" "int" = some false)
  | .tup _ => (by decide +kernel : kitB "tuple" "int" = some false)
  | .lst _ => (by decide +kernel : kitB "list" "int" = some false)
  | .dK _ _ => (by decide +kernel : kitB "dict" "int" = some false)
  | .dT _ _ => (by decide +kernel : kitB "dict" "int" = some false)
  | .scr _ => (by decide +kernel : kitB "list" "int" = some false)
  | .ob _ _ _ => (by decide +kernel : kitB "NoneType" "int" = some false)⟩
theorem isTy_bool : IsTy "bool" isBool := ⟨fun d => match d with
  | .non => (by decide +kernel : kitB "NoneType" "bool" = some false)
  | .bl _ => (by decide +kernel : kitB "bool" "bool" = some true)
  | .int _ => (by decide +kernel : kitB "int" "bool" = some false)
  | .str _ => (by decide +kernel : kitB "str" "bool" = some false)
  | .tup _ => (by decide +kernel : kitB "tuple" "bool" = some false)
  | .lst _ => (by decide +kernel : kitB "list" "bool" = some false)
  | .dK _ _ => (by decide +kernel : kitB "dict" "bool" = some false)
  | .dT _ _ => (by decide +kernel : kitB "dict" "bool" = some false)
  | .scr _ => (by decide +kernel : kitB "list" "bool" = some false)
  | .ob _ _ _ => (by decide +kernel : kitB "NoneType" "bool" = some false)⟩
theorem isTy_str : IsTy "str" isStr := ⟨fun d => match d with
  | .non => (by decide +kernel : kitB "NoneType" "str" = some false)
  | .bl _ => (by decide +kernel : kitB "bool" "str" = some false)
  | .int _ => (by decide +kernel : kitB "int" "str" = some false)
  | .str _ => (by decide +kernel : kitB "str" "str" = some true)
  | .tup _ => (by decide +kernel : kitB "tuple" "str" = some false)
  | .lst _ => (by decide +kernel : kitB "list" "str" = some false)
  | .dK _ _ => (by decide +kernel : kitB "dict" "str" = some false)
  | .dT _ _ => (by decide +kernel : kitB "dict" "str" = some false)
  | .scr _ => (by decide +kernel : kitB "list" "str" = some false)
  | .ob _ _ _ => (by decide +kernel : kitB "NoneType" "str" = some false)⟩
theorem isTy_tup : IsTy "tuple" isTup := ⟨fun d => match d with
  | .non => (by decide +kernel : kitB "NoneType" "tuple" = some false)
  | .bl _ => (by decide +kernel : kitB "bool" "tuple" = some false)
  | .int _ => (by decide +kernel : kitB "int" "tuple" = some false)
  | .str _ => (by decide +kernel : kitB "str" "tuple" = some false)
  | .tup _ => (by decide +kernel : kitB "tuple" "tuple" = some true)
  | .lst _ => (by decide +kernel : kitB "list" "tuple" = some false)
  | .dK _ _ => (by decide +kernel : kitB "dict" "tuple" = some false)
  | .dT _ _ => (by decide +kernel : kitB "dict" "tuple" = some false)
  | .scr _ => (by decide +kernel : kitB "list" "tuple" = some false)
  | .ob _ _ _ => (by decide +kernel : kitB "NoneType" "tuple" = some false)⟩
theorem isTy_lst : IsTy "list" isLst := ⟨fun d => match d with
  | .non => (by decide +kernel : kitB "NoneType" "list" = some false)
  | .bl _ => (by decide +kernel : kitB "bool" "list" = some false)
  | .int _ => (by decide +kernel : kitB "int" "list" = some false)
  | .str _ => (by decide +kernel : kitB "str" "list" = some false)
  | .tup _ => (by decide +kernel : kitB "tuple" "list" = some false)
  | .lst _ => (by decide +kernel : kitB "list" "list" = some true)
  | .dK _ _ => (by decide +kernel : kitB "dict" "list" = some false)
  | .dT _ _ => (by decide +kernel : kitB "dict" "list" = some false)
  | .scr _ => (by decide +kernel : kitB "list" "list" = some true)
  | .ob _ _ _ => (by decide +kernel : kitB "NoneType" "list" = some false)⟩
theorem isTy_dct : IsTy "dict" isDct := ⟨fun d => match d with
  | .non => (by decide +kernel : kitB "NoneType" "dict" = some false)
  | .bl _ => (by decide +kernel : kitB "bool" "dict" = some false)
  | .int _ => (by decide +kernel : kitB "int" "dict" = some false)
  | .str _ => (by decide +kernel : kitB "str" "dict" = some false)
  | .tup _ => (by decide +kernel : kitB "tuple" "dict" = some false)
  | .lst _ => (by decide +kernel : kitB "list" "dict" = some false)
  | .dK _ _ => (by decide +kernel : kitB "dict" "dict" = some true)
  | .dT _ _ => (by decide +kernel : kitB "dict" "dict" = some true)
  | .scr _ => (by decide +kernel : kitB "list" "dict" = some false)
  | .ob _ _ _ => (by decide +kernel : kitB "NoneType" "dict" = some false)⟩
end Mi

set_option Elab.async false
set_option linter.all false
set_option maxRecDepth 100000
/-! Mi6: subscripts, texts. -/
namespace Mi
open PySem PySem.Spec PyProof.Rows L2

section
variable {K : PySem.W.Frag} {F H : Hp}
theorem RpL.atI {vs : List V} {ds : List D} {i : Int} {d : D} (h : RpL K F vs ds) (e : atI ds i = some d) : ∃ v, L2.atI vs i = some v ∧ Rp K F v d := by
  unfold L2.atI at e ⊢
  cases q : ixN ds.length i with
  | none => rw [q] at e; cases e
  | some j =>
    rw [q] at e
    obtain ⟨v, h1, h2⟩ := h.get (show ds[j]? = some d from e)
    exact ⟨v, by rw [h.length, q]; exact h1, h2⟩
theorem OwL.getO : ∀ {os : List O} {vs : List V} {fp : List Addr} {i : Nat} {d : D}, OwL K F H vs os fp → os[i]? = some (.fr d) → ∃ v, vs[i]? = some v ∧ Rp K F v d := fun h e => h.get e

/-! ### subscripts -/
def rIxD : R2 := fun x y H Q => ∃ a v, x = .ref a ∧ DGet H a y (some v) ∧ Q v H
theorem ix_dict {X : Cx} (hu : X.A.units + 1 < cLine) : IxR X rIxD := by
  intro value slice pins s σ H x y v u Q I rx ry h hs
  obtain ⟨a, w, rfl, g, q⟩ := h
  cases rx
  exact tail_any (dict_typeIs I g) PySem.F.slot_dict_getitem.lookup (d_getItem hu I g ry fun w' s' I' rw' => ⟨w, H, I', rw', q⟩) hs
def rIxAll (K : PySem.W.Frag) : R2 := fun x y H Q => rIx K x y H Q ∨ rIxD x y H Q
theorem ix_all {X : Cx} (hu : X.A.units + 1 < cLine) : IxR X (rIxAll X.K) := IxR.or ix_seq (ix_dict hu)
def keyD : D → Option Key
  | .int i => some (.inl i)
  | .str s => some (.inr s)
  | _ => none
theorem keyD_v {v : V} {d : D} {k : Key} (h : Rp K H v d) (e : keyD d = some k) : v = kV k := by
  cases d with
  | int i => cases e; exact h
  | str i => cases e; exact h
  | non => cases e
  | bl b => cases e
  | tup _ => cases e
  | lst _ => cases e
  | dK _ _ => cases e
  | dT _ _ => cases e
  | scr _ => cases e
  | ob _ _ _ => cases e
/-- the place of a key -/
def look {α : Type} {β : Type} [DecidableEq α] (k : α) : List α → List β → Option β
  | a :: as, b :: bs => if a = k then some b else look k as bs
  | _, _ => none
theorem look_rp {κ : Type} [DecidableEq κ] {k : κ} {d : D} : ∀ {kvs : List (κ × V)} {ds : List D}, RpL K F (kvs.map (·.2)) ds → look k (kvs.map (·.1)) ds = some d → ∃ v, valV kvs k = some v ∧ Rp K F v d
  | [], ds, h, e => by
    cases ds <;> cases e
  | p :: kvs, ds, h, e => by
    cases ds with
    | nil => cases e
    | cons x ds =>
      obtain ⟨h1, h2⟩ := h.inv
      unfold look at e
      rw [List.map_cons] at e
      dsimp only at e
      by_cases q : p.1 = k
      · rw [if_pos q] at e
        cases e
        exact ⟨p.2, valV_pos q, h1⟩
      · rw [if_neg q] at e
        obtain ⟨v, h3, h4⟩ := look_rp h2 e
        exact ⟨v, by rw [valV_neg q]; exact h3, h4⟩
def dIx (d e : D) : Option D := match d, e with
  | .tup ds, .int i => atI ds i
  | .lst ds, .int i => atI ds i
  | .scr ns, .int i => (atI ns i).map .int
  | .str s, .int i => if s.length ≤ sizeLine then (atI s.cps.toList i).map fun c => .str ⟨#[c]⟩ else none
  | .dK ks ds, e => (keyD e).bind fun k => look k ks ds
  | _, _ => none
theorem ixOk_all : IxOk K (rIxAll K) dIx := by
  intro F H x y d e z s hx hy k
  unfold dIx at k
  split at k
  · obtain ⟨a, vs, rfl, h1, h2⟩ := hx
    obtain ⟨v, h3, h4⟩ := h2.atI k
    exact ⟨v, h4, fun Q q => .inl (.inr (.inl ⟨a, vs, _, v, rfl, hy, Same.sqT s h1, h3, q⟩))⟩
  · obtain ⟨a, vs, rfl, h1, h2⟩ := hx
    obtain ⟨v, h3, h4⟩ := h2.atI k
    exact ⟨v, h4, fun Q q => .inl (.inl ⟨a, vs, _, v, rfl, hy, SqL.of (s _ _ h1), h3, q⟩)⟩
  · rename_i ns i
    obtain ⟨a, rfl, h1⟩ := hx
    obtain ⟨n, h2, rfl⟩ := Option.map_eq_some_iff.mp k
    refine ⟨.int n, rfl, fun Q q => .inl (.inl ⟨a, _, _, .int n, rfl, hy, Same.sqL s h1, ?_, q⟩)⟩
    unfold atI at h2 ⊢
    rw [List.length_map]
    cases q : ixN ns.length i with
    | none => rw [q] at h2; cases h2
    | some j =>
      rw [q] at h2
      show (ns.map V.int)[j]? = _
      rw [List.getElem?_map, show ns[j]? = some n from h2]
      rfl
  · split at k
    · rename_i st i hl
      obtain ⟨c, h2, rfl⟩ := Option.map_eq_some_iff.mp k
      cases (show x = .str st from hx)
      exact ⟨.str ⟨#[c]⟩, rfl, fun Q q => .inl (.inr (.inr ⟨st, i, c, rfl, hy, hl, h2, q⟩))⟩
    · cases k
  · obtain ⟨a, kvs, rfl, h1, rfl, h3⟩ := hx
    obtain ⟨k', h4, h5⟩ := Option.bind_eq_some_iff.mp k
    obtain ⟨v, h6, h7⟩ := look_rp h3 h5
    have ev := keyD_v hy h4
    exact ⟨v, h7, fun Q q => .inr ⟨a, v, rfl, .inl ⟨kvs, k', Same.rd s h1, ev, h6.symm⟩, q⟩⟩
  · cases k
def oFr : O → Option D
  | .fr d => some d
  | _ => none
def oIx (o : O) (e : D) : Option D := match o, e with
  | .fr d, e => dIx d e
  | .lst os, .int i => (atI os i).bind oFr
  | .dK ks os, e => (keyD e).bind fun k => (look k ks os).bind oFr
  | _, _ => none
theorem look_ow {κ : Type} [DecidableEq κ] {k : κ} {d : D} : ∀ {kvs : List (κ × V)} {os : List O} {fp : List Addr}, OwL K F H (kvs.map (·.2)) os fp → look k (kvs.map (·.1)) os = some (.fr d) → ∃ v, valV kvs k = some v ∧ Rp K F v d
  | [], os, fp, h, e => by
    cases os <;> cases e
  | p :: kvs, os, fp, h, e => by
    cases os with
    | nil => cases e
    | cons x os =>
      obtain ⟨f1, f2, h1, h2, rfl⟩ := OwL.inv h
      unfold look at e
      rw [List.map_cons] at e
      dsimp only at e
      by_cases q : p.1 = k
      · rw [if_pos q] at e
        cases e
        exact ⟨p.2, valV_pos q, h1.1⟩
      · rw [if_neg q] at e
        obtain ⟨v, h3, h4⟩ := look_ow h2 e
        exact ⟨v, by rw [valV_neg q]; exact h3, h4⟩
theorem ixOw_all : IxOw K (rIxAll K) oIx := by
  intro F H x y o e z fp s hx hy k
  unfold oIx at k
  split at k
  · obtain ⟨v, h1, h2⟩ := ixOk_all F H x y _ e z s hx.1 hy k
    exact ⟨v, h1, h2⟩
  · rename_i os i
    obtain ⟨a, vs, f, rfl, h1, h2, rfl⟩ := hx
    obtain ⟨c, h3, h4⟩ := Option.bind_eq_some_iff.mp k
    cases c with
    | fr d =>
      cases h4
      unfold atI at h3
      cases q : ixN os.length i with
      | none => rw [q] at h3; cases h3
      | some j =>
        rw [q] at h3
        obtain ⟨v, h5, h6⟩ := h2.get (show os[j]? = some (.fr z) from h3)
        refine ⟨v, h6, fun Q qq => .inl (.inl ⟨a, vs, _, v, rfl, hy, SqL.of h1, ?_, qq⟩)⟩
        unfold atI
        rw [h2.length, q]
        exact h5
    | lst _ => cases h4
    | dK _ _ => cases h4
    | dT _ _ => cases h4
    | ob _ _ _ => cases h4
  · obtain ⟨a, kvs, f, rfl, h1, rfl, h3, rfl⟩ := hx
    obtain ⟨k', h4, h5⟩ := Option.bind_eq_some_iff.mp k
    obtain ⟨c, h6, h7⟩ := Option.bind_eq_some_iff.mp h5
    cases c with
    | fr d =>
      cases h7
      obtain ⟨v, h8, h9⟩ := look_ow h3 h6
      have ev := keyD_v hy h4
      exact ⟨v, h9, fun Q q => .inr ⟨a, v, rfl, .inl ⟨kvs, k', .inl h1, ev, h8.symm⟩, q⟩⟩
    | lst _ => cases h7
    | dK _ _ => cases h7
    | dT _ _ => cases h7
    | ob _ _ _ => cases h7
  · cases k
end

/-! ### f-strings -/
section
variable {B : Bs}
def dFmt : D → Option D
  | .str y => if y.length ≤ sizeLine then some (.str y) else none
  | .int i => if i.natAbs.log2 < 1920 then some (.str (toString i)) else none
  | _ => none
def rFmt : V → Hp → VK → Prop := fun x H1 Q => (∃ y : Str, x = .str y ∧ y.length ≤ sizeLine ∧ Q (.str y) H1) ∨ ∃ i : Int, x = .int i ∧ i.natAbs.log2 < 1920 ∧ Q (.str (toString i)) H1
theorem s1_fmt {K : PySem.W.Frag} : S1 K rFmt dFmt := by
  intro H x d z hx k
  unfold dFmt at k
  split at k
  · split at k
    · rename_i y hl
      cases k
      exact ⟨_, rfl, fun Q q => .inl ⟨y, hx, hl, q⟩⟩
    · cases k
  · split at k
    · rename_i y hl
      cases k
      exact ⟨_, rfl, fun Q q => .inr ⟨y, hx, hl, q⟩⟩
    · cases k
  · cases k
theorem se_fmt {t : TE} {m : XO} (h : SO B t m) : SE B (tFmt t) (xS1 dFmt m) := se_s1 (r := rFmt) s1_fmt h
inductive SOs (B : Bs) : List TE → List XO → Prop where
  | nil : SOs B [] []
  | cons {t : TE} {m : XO} {ts : List TE} {ms : List XO} (h : SO B t m) (r : SOs B ts ms) : SOs B (t :: ts) (m :: ms)
def xJs : List XO → Str → G → Option (Str × G)
  | [], acc, g => some (acc, g)
  | m :: ms, acc, g => (m g).bind fun p => match view p.2 p.1 with
    | some (.str y) => if (acc ++ y).length ≤ sizeLine then xJs ms (acc ++ y) p.2 else none
    | _ => none
def xJoined (ms : List XO) : XE := fun g => (xJs ms Str.empty g).map fun p => (.fr (.str p.1), p.2)
theorem js_ok {ts : List TE} {ms : List XO} (h : SOs B ts ms) : ∀ (acc : Str) (F H : Hp) (σ : L2.St) (g : G) (τ : En) (out : Str) (g' : G), Rel B F H σ g τ → xJs ms acc g = some (out, g') → ∀ Q : Str → Hp → Prop,
    (∀ F' H', Same F F' → Rel B F' H' σ g' τ → Q out H') → tJs ts acc σ H Q := by
  induction h with
  | nil =>
    intro acc F H σ g τ out g' r e Q q
    cases e
    exact q F H (Same.refl F) r
  | @cons t m ts ms hm hr ih =>
    intro acc F H σ g τ out g' r e Q q
    obtain ⟨⟨a, g1⟩, e1, e2⟩ := Option.bind_eq_some_iff.mp e
    dsimp only at e2
    split at e2
    · rename_i y ey
      split at e2
      · rename_i hl
        refine hm F H σ g τ a g1 r e1 _ fun F1 H1 v s1 r1 ok => ?_
        exact ⟨y, r1.view ok ey, hl, ih (acc ++ y) F1 H1 σ g1 τ out g' r1 e2 Q fun F2 H2 s2 r2 => q F2 H2 (s1.trans s2) r2⟩
      · cases e2
    · cases e2
theorem se_joined {ts : List TE} {ms : List XO} (h : SOs B ts ms) : SE B (fun σ H Q => tJs ts Str.empty σ H fun out H1 => Q (.str out) H1) (xJoined ms) := by
  intro F H σ g τ o g' r e Q q
  obtain ⟨⟨out, g1⟩, e1, e2⟩ := Option.map_eq_some_iff.mp e
  cases e2
  exact js_ok h Str.empty F H σ g τ out g1 r e1 _ fun F' H' s' r' => q F' H' _ s' (r'.addFr rfl)
end

/-! ### methods of texts -/
def MS (K : PySem.W.Frag) (r : V → List V → Hp → VK → Prop) (f : Str → List D → Option D) : Prop := ∀ H s vs ds z, RpL K H vs ds → f s ds = some z → ∃ w, toV z = some w ∧ ∀ Q : VK, Q w H → r (.str s) vs H Q
def MA (K : PySem.W.Frag) (r : V → List V → Hp → VK → Prop) (f : Str → List D → Option O) : Prop := ∀ F H s vs ds z, Same F H → RpL K F vs ds → f s ds = some z → ∀ Q : VK, Made K F H z Q → r (.str s) vs H Q
section
variable {B : Bs}
def xMS (f : Str → List D → Option D) (a : XO) (as : XA) : XE := fun g => (a g).bind fun p => match p.1 with
  | .d (.str s) => (as p.2).bind fun q => (views q.2 q.1).bind fun ds => (f s ds).map fun z => (.fr z, q.2)
  | _ => none
theorem se_ms {r : V → List V → Hp → VK → Prop} {f : Str → List D → Option D} {to : TE} {t : TA} {a : XO} {as : XA} (hr : MS B.K r f) (ha : SO B to a) (hs : SA B t as) : SE B (tBM B.K "str" r to t) (xMS f a as) := by
  intro F H σ g τ o g' rl e Q q
  obtain ⟨⟨x, g1⟩, e1, e2⟩ := Option.bind_eq_some_iff.mp e
  dsimp only at e2
  split at e2
  · rename_i s
    obtain ⟨⟨as', g2⟩, e3, e4⟩ := Option.bind_eq_some_iff.mp e2
    obtain ⟨ds, e5, e6⟩ := Option.bind_eq_some_iff.mp e4
    obtain ⟨z, e7, e8⟩ := Option.map_eq_some_iff.mp e6
    cases e8
    refine ha F H σ g τ _ g1 rl e1 _ fun F1 H1 v s1 r1 ok1 => ?_
    cases (show v = .str s from ok1)
    refine ⟨rfl, ?_⟩
    refine hs F1 H1 σ g1 τ as' g2 r1 e3 _ fun F2 H2 vs s2 r2 ok2 => ?_
    obtain ⟨w, hw, k⟩ := hr H2 s vs ds z (r2.views ok2 e5) e7
    exact k Q (q F2 H2 w (s1.trans s2) (r2.addFr (toV_rp hw F2)))
  · cases e2
def xMS0 (f : Str → List D → Option D) (a : XO) : XE := fun g => (a g).bind fun p => match p.1 with
  | .d (.str s) => (f s []).map fun z => (.fr z, p.2)
  | _ => none
theorem se_ms0 {r : V → List V → Hp → VK → Prop} {f : Str → List D → Option D} {to : TE} {a : XO} (hr : MS B.K r f) (ha : SO B to a) : SE B (tBM0 B.K "str" r to) (xMS0 f a) := by
  intro F H σ g τ o g' rl e Q q
  obtain ⟨⟨x, g1⟩, e1, e2⟩ := Option.bind_eq_some_iff.mp e
  dsimp only at e2
  split at e2
  · rename_i s
    obtain ⟨z, e7, e8⟩ := Option.map_eq_some_iff.mp e2
    cases e8
    refine ha F H σ g τ _ _ rl e1 _ fun F1 H1 v s1 r1 ok1 => ?_
    cases (show v = .str s from ok1)
    refine ⟨rfl, ?_⟩
    obtain ⟨w, hw, k⟩ := hr H1 s [] [] z RpL.nil e7
    exact k Q (q F1 H1 w s1 (r1.addFr (toV_rp hw F1)))
  · cases e2
def xMA (f : Str → List D → Option O) (a : XO) (as : XA) : XE := fun g => (a g).bind fun p => match p.1 with
  | .d (.str s) => (as p.2).bind fun q => (alld q.1).bind fun ds => (f s ds).map fun z => (z, q.2)
  | _ => none
theorem se_ma {r : V → List V → Hp → VK → Prop} {f : Str → List D → Option O} {to : TE} {t : TA} {a : XO} {as : XA} (hr : MA B.K r f) (ha : SO B to a) (hs : SA B t as) : SE B (tBM B.K "str" r to t) (xMA f a as) := by
  intro F H σ g τ o g' rl e Q q
  obtain ⟨⟨x, g1⟩, e1, e2⟩ := Option.bind_eq_some_iff.mp e
  dsimp only at e2
  split at e2
  · rename_i s
    obtain ⟨⟨as', g2⟩, e3, e4⟩ := Option.bind_eq_some_iff.mp e2
    obtain ⟨ds, e5, e6⟩ := Option.bind_eq_some_iff.mp e4
    obtain ⟨z, e7, e8⟩ := Option.map_eq_some_iff.mp e6
    cases e8
    refine ha F H σ g τ _ g1 rl e1 _ fun F1 H1 v s1 r1 ok1 => ?_
    cases (show v = .str s from ok1)
    refine ⟨rfl, ?_⟩
    refine hs F1 H1 σ g1 τ as' g2 r1 e3 _ fun F2 H2 vs s2 r2 ok2 => ?_
    exact hr F2 H2 s vs ds o r2.sub (alld_ok ok2 e5) e7 Q fun F3 H3 w fp gr ow nd nw => q F3 H3 w ((s1.trans s2).trans gr.f) (r2.made gr ow nd nw)
  · cases e2
end
section
variable {K : PySem.W.Frag}
def strsOf : List D → Option (List Str)
  | [] => some []
  | .str s :: r => (strsOf r).map fun ss => s :: ss
  | _ => none
theorem strsOf_ok {H : Hp} : ∀ {ds : List D} {vs : List V} {ss : List Str}, RpL K H vs ds → strsOf ds = some ss → vs = ss.map V.str
  | [], _, _, h, e => by
    cases e
    exact h
  | d :: ds, _, ss, h, e => by
    obtain ⟨v, r, rfl, h1, h2⟩ := h
    unfold strsOf at e
    split at e
    · rename_i heq
      cases heq
    · rename_i s r' heq
      cases heq
      obtain ⟨ts, e1, rfl⟩ := Option.map_eq_some_iff.mp e
      cases (show v = .str s from h1)
      rw [strsOf_ok h2 e1]
      rfl
    · cases e
def rJoin (K : PySem.W.Frag) : V → List V → Hp → VK → Prop := fun x xs H Q => ∃ a p, ∃ ys : List Str, x = .str a ∧ xs = [.ref p] ∧ (SqL K H p (ys.map V.str) ∨ SqT K H p (ys.map V.str)) ∧ (ys.map (·.length)).sum + ys.length * a.length ≤ 16777216 ∧ Q (.str (Txt.join a ys)) H
theorem mt_joinK {X : Cx} : MtR X "str.join" (rJoin X.K) := mt_join
def dJoin (a : Str) (ds : List D) : Option D := match ds with
  | [.lst es] => (strsOf es).bind fun ys => if (ys.map (·.length)).sum + ys.length * a.length ≤ 16777216 then some (.str (Txt.join a ys)) else none
  | [.tup es] => (strsOf es).bind fun ys => if (ys.map (·.length)).sum + ys.length * a.length ≤ 16777216 then some (.str (Txt.join a ys)) else none
  | _ => none
theorem ms_join : MS K (rJoin K) dJoin := by
  intro H s vs ds z h k
  unfold dJoin at k
  split at k
  · obtain ⟨ys, k1, k2⟩ := Option.bind_eq_some_iff.mp k
    split at k2
    · rename_i hl
      cases k2
      obtain ⟨v, rfl, hv⟩ := h.one
      obtain ⟨a, ws, rfl, h1, h2⟩ := hv
      obtain rfl := strsOf_ok h2 k1
      exact ⟨_, rfl, fun Q q => ⟨s, a, ys, rfl, rfl, .inl (SqL.of h1), hl, q⟩⟩
    · cases k2
  · obtain ⟨ys, k1, k2⟩ := Option.bind_eq_some_iff.mp k
    split at k2
    · rename_i hl
      cases k2
      obtain ⟨v, rfl, hv⟩ := h.one
      obtain ⟨a, ws, rfl, h1, h2⟩ := hv
      obtain rfl := strsOf_ok h2 k1
      exact ⟨_, rfl, fun Q q => ⟨s, a, ys, rfl, rfl, .inr h1, hl, q⟩⟩
    · cases k2
  · cases k
end
end Mi

set_option Elab.async false
set_option linter.all false
set_option maxRecDepth 100000
/-! Mi7: a list or a tuple walked; a def as it stands; the law's end. -/
namespace Mi
open PySem PySem.Spec PyProof.Rows L2

/-- a list or a tuple -/
def iSq (K : PySem.W.Frag) (tl : TE) : TI := fun σ H R => tl σ H fun x H1 => (∃ a, x = .ref a ∧ (∃ xs, SqL K H1 a xs) ∧ R (Itl K a) H1) ∨ (∃ a, x = .ref a ∧ (∃ xs, SqT K H1 a xs) ∧ R (Itt K a) H1)
theorem pi_seq {X : Cx} {tg : Expr} {l : Expr} {tl : TE} (hl : PE X l tl) : PI X tg l (iSq X.K tl) := by
  refine ⟨fun pins s σ H R I h => ?_⟩
  refine thn (hl.run pins s σ H _ I h) fun v s1 ⟨x, H1, I1, r1, q1⟩ => ?_
  rcases q1 with ⟨a, e, ⟨xs, hq⟩, q⟩ | ⟨a, e, ⟨xs, hq⟩, q⟩
  · subst e
    cases r1
    obtain ⟨its, rv, p, hz⟩ := I1.list hq
    refine wpAny_pyIter_list p.isList ?_
    refine ⟨s1.heap.objs.size, [s1.heap.objs.size], _, _, H1, rfl, I1.kept (t' := s1.toks) fun b o e => Heap.get?_push_of_some _ e, turn_list a _, ⟨_, Heap.get?_push_size _ rfl, rfl, rfl⟩, fun b hb => ?_, q⟩
    have e : b = s1.heap.objs.size := by simpa using hb
    subst e
    exact I1.fpOk (Nat.le_refl _) (I1.hok.fresh (Nat.le_refl _))
  · subst e
    cases r1
    obtain ⟨its, rv, p, hz⟩ := I1.tuple hq
    refine wpAny_pyIter_tuple (show s1.heap.IsTuple a its.toArray from p) ?_
    refine ⟨s1.heap.objs.size, [s1.heap.objs.size], _, _, H1, rfl, I1.kept (t' := s1.toks) fun b o e => Heap.get?_push_of_some _ e, turn_tuple a _, ⟨_, Heap.get?_push_size _ rfl, rfl, rfl⟩, fun b hb => ?_, q⟩
    have e : b = s1.heap.objs.size := by simpa using hb
    subst e
    exact I1.fpOk (Nat.le_refl _) (I1.hok.fresh (Nat.le_refl _))
section
variable {B : Bs}
theorem st_yes : ST B tYes xYes := by
  intro F H σ g τ b g' r e Q q
  cases e
  exact q F H (.refl F) r
def iSeq (m : XO) : XI := fun g => (m g).bind fun p => match p.1 with
  | .d (.lst ds) => some (ds, p.2)
  | .d (.tup ds) => some (ds, p.2)
  | _ => none
theorem si_seq {t : TE} {m : XO} (h : SO B t m) : SI B (iSq B.K t) (iSeq m) := by
  intro F H σ g τ ds g' r e R q
  obtain ⟨⟨a, g1⟩, e1, e2⟩ := Option.bind_eq_some_iff.mp e
  refine h F H σ g τ a g1 r e1 _ fun F1 H1 v s1 r1 ok => ?_
  dsimp only at e2
  split at e2
  · cases e2
    obtain ⟨x, vs, rfl, k1, k2⟩ := ok
    exact .inl ⟨x, rfl, ⟨vs, SqL.of (r1.sub _ _ k1)⟩, q F1 H1 _ s1 r1 (walks_list k1 k2)⟩
  · cases e2
    obtain ⟨x, vs, rfl, k1, k2⟩ := ok
    exact .inr ⟨x, rfl, ⟨vs, Same.sqT r1.sub k1⟩, q F1 H1 _ s1 r1 (walks_tup k1 k2)⟩
  · cases e2
end

section
variable {P : Program} {w : World} {K : PySem.W.Frag} {mg : Str → Option Value} {base : Heap}
/-- nothing is promised -/
theorem FnOk.no {f : Addr} {fd : FuncData} {ps : List Str} {k : Nat} : FnOk P w K mg base CX0 k f fd ps (spM K ps.length (fun _ => none)) :=
  ⟨fun vs H Q E h => h.1, fun A outer s H args us vs Q E hr he hb hv hs => by
    obtain ⟨_, _, _, _, _, _, _, _, _, _, e, _⟩ := hs
    cases e⟩
/-- a def of the top -/
structure FnAt (K : PySem.W.Frag) (mg : Str → Option Value) (x : Str) (st : Stmt) (ps : List Str) where
  f : Addr
  fd : FuncData
  g : mg x = some (.ref f)
  F : Fun K x x st f fd
  b : Binds K fd ps []
theorem fnAt_mk {x : Str} {st : Stmt} {ps : List Str} {h : Heap} (X : K.In h) (G : h.Ns mainGlobals mg) {f : Addr} {oc : Value} {od an : Option Addr} {osl : Array (Option Value)} {kV doc pm cdv ct : Value}
    (a : PySem.W.nsIn K mainGlobals x = some (some (.ref f)))
    (l : K.lookup f = some ⟨oc, od, .func (PySem.W.fnOf x x (defArgs st) (defBody st) (defScope st) .none kV doc pm an cdv ct), osl⟩)
    (c : PySem.W.codeIn K cdv x = true) (k : PySem.W.keepIn K (.ref f) = true)
    (hb : ∀ (kV doc pm : Value) (an : Option Addr) (cdv ct : Value) (us : List Value), us.length = ps.length → bindArgs (PySem.W.fnOf x x (defArgs st) (defBody st) (defScope st) .none kV doc pm an cdv ct) ⟨us, []⟩ = pure (ps.zip us)) :
    Nonempty (FnAt K mg x st ps) := by
  have F := fun_mk (st := st) l c k
  exact ⟨⟨f, _, PySem.W.mg_of X G a, F, F.binds hb⟩⟩
end

/-! ### the law's end -/
/-- the script's weight -/
def ScrOk (ns : List Int) : Prop := ns.length ≤ 63 ∧ ∀ z ∈ ns, Builtin.Int.intBits z ≤ 1048576
/-- what the law's mirror must give: True for every script -/
def LawOk (f : List O → Option (O × List O)) : Prop := ∀ ns : List Int, ScrOk ns → ∃ os, f [.fr (.scr ns)] = some (.fr (.bl true), os)
theorem law_sp {K : PySem.W.Frag} {f : List O → Option (O × List O)} (h : LawOk f) (H : Hp) (a : Addr) (ns : List Int) (hl : ns.length ≤ 63) (hb : ∀ z ∈ ns, Builtin.Int.intBits z ≤ 1048576) (hS : SqL K H a (ns.map V.int)) :
    spM K 1 f [.ref a] H (fun v _ => v = .bl true) fun _ _ _ => False := by
  obtain ⟨os, e⟩ := h ns ⟨hl, hb⟩
  refine ⟨rfl, H, [.fr (.scr ns)], .fr (.bl true), os, [], Same.refl H, ?_, List.nodup_nil, (fun _ z => nomatch z), e, fun F' H' v fp' _ _ _ _ ow _ _ => ?_⟩
  · exact ⟨.ref a, [], [], [], rfl, ⟨⟨a, rfl, hS⟩, rfl⟩, OwL.nil, rfl⟩
  · obtain ⟨f1, f2, h1, _, _⟩ := OwL.inv ow
    exact h1.1
theorem walk_law {l : PySem.W.OpenLaw} {q : Program} {loose : List Str} {XP : (Str → Option Value) → Heap → Prop} {YP : World → Heap → Prop} {d : DefRec} {K : Params → PySem.W.Frag} {k : Nat} {f : List O → Option (O × List O)} (hn : l.most = some 63) (hdf : d.params.defaults = []) (hr : Room k callerA)
    (hY : ∀ (w : World) (h : Heap), YP w h → (K w.params).In h) (hf : LawOk f)
    (F : ∀ (w : World) (mg : Str → Option Value) (fa : Addr) (h : Heap), (K w.params).In h → h.Ns mainGlobals mg → mg d.name = some (.ref fa) →
      ∃ fd : FuncData, (∀ (s : Shared) (u : Value), BindsTo s fd ⟨[u], []⟩ [("script", u)]) ∧ ∀ base : Heap, (K w.params).In base → base.Ns mainGlobals mg → FnOk l.prog w (K w.params) mg base CX0 k fa fd ["script"] (spM (K w.params) 1 f)) :
    PySem.W.WalkO q loose XP YP l.row.toRowW d [] (fun f vs => PySem.call f vs) :=
  L2.walk_ofB (n := 63) (k := k) (x := "script") (CX := fun _ => CX0) (sp := fun w => spM (K w.params) 1 f) hn (by decide) hdf hr hY F (fun _ H a ns hl hb _ hS => law_sp hf H a ns hl hb hS) fun _ _ _ _ _ z => z
end Mi

set_option Elab.async false
set_option linter.all false
set_option maxRecDepth 100000
/-! Mi8: comprehensions whose inner readings speak of the block's own context. -/
namespace Mi
open PySem PySem.Spec PyProof.Rows L2
section
variable {X : Cx}
abbrev BF (α : Type) := Shared → Hp → Addr → List (Str × Addr) → List Addr → α
theorem pe_lcM {elt tg iter : Expr} {ifs : List Expr} {scope : Scope} {own : List (Str × Nat)} {pos : Pos} {wi : TI} {g : BF TG} {tt : BF TT} {te : BF TE} (hc : X.calm = true) (hN : X.N.Nodup) (hi : PI X tg iter wi) (ok : BlkOk X.N X.env.scope scope own)
    (hg : ∀ (s : Shared) (H : Hp) (C : Addr) (cl : List (Str × Addr)) (fp : List Addr), PG (X.blk s H scope (compEnvC scope cl C X.env) fp) tg (g s H C cl fp)) (ht : ∀ (s : Shared) (H : Hp) (C : Addr) (cl : List (Str × Addr)) (fp : List Addr), PTs (X.blk s H scope (compEnvC scope cl C X.env) fp) ifs (tt s H C cl fp))
    (he : ∀ (s : Shared) (H : Hp) (C : Addr) (cl : List (Str × Addr)) (fp : List Addr), PE (X.blk s H scope (compEnvC scope cl C X.env) fp) elt (te s H C cl fp))
    (qg : ∀ s H C cl fp, g s H C cl fp = g X.s_0 X.H_0 0 [] []) (qt : ∀ s H C cl fp, tt s H C cl fp = tt X.s_0 X.H_0 0 [] []) (qe : ∀ s H C cl fp, te s H C cl fp = te X.s_0 X.H_0 0 [] [])
    (hs : ∀ x, foldedSetIterable iter X.env x = pure x := by intro _; rfl) :
    PE X (.ListComp elt [⟨tg, iter, ifs, 0⟩] scope pos) (tLc wi (g X.s_0 X.H_0 0 [] []) (tt X.s_0 X.H_0 0 [] []) (te X.s_0 X.H_0 0 [] []) (own.map (·.2))) :=
  pe_lc hc hN hi ok (fun s H C cl fp => (qg s H C cl fp) ▸ hg s H C cl fp) (fun s H C cl fp => (qt s H C cl fp) ▸ ht s H C cl fp) (fun s H C cl fp => (qe s H C cl fp) ▸ he s H C cl fp) hs
theorem ps_setLcM {i : Nat} {y : Str} {py : Pos} {elt tg iter : Expr} {ifs : List Expr} {scope : Scope} {own : List (Str × Nat)} {pos spos : Pos} {wi : TI} {g : BF TG} {tt : BF TT} {te : BF TE} (hc : X.calm = true) (hN : X.N.Nodup) (hy : X.N[i]? = some y) (hyl : X.env.scope.names.lookup y = some .local)
    (hsw : swapsWith (.ListComp elt [⟨tg, iter, ifs, 0⟩] scope pos) (some (.Name y py)) spos.line X.env = pure true) (hi : PI X tg iter wi) (ok : BlkOk X.N X.env.scope scope own)
    (hg : ∀ (s : Shared) (H : Hp) (C : Addr) (cl : List (Str × Addr)) (fp : List Addr), PG (X.blk s H scope (compEnvC scope cl C X.env) fp) tg (g s H C cl fp)) (ht : ∀ (s : Shared) (H : Hp) (C : Addr) (cl : List (Str × Addr)) (fp : List Addr), PTs (X.blk s H scope (compEnvC scope cl C X.env) fp) ifs (tt s H C cl fp))
    (he : ∀ (s : Shared) (H : Hp) (C : Addr) (cl : List (Str × Addr)) (fp : List Addr), PE (X.blk s H scope (compEnvC scope cl C X.env) fp) elt (te s H C cl fp))
    (qg : ∀ s H C cl fp, g s H C cl fp = g X.s_0 X.H_0 0 [] []) (qt : ∀ s H C cl fp, tt s H C cl fp = tt X.s_0 X.H_0 0 [] []) (qe : ∀ s H C cl fp, te s H C cl fp = te X.s_0 X.H_0 0 [] [])
    (hs : ∀ x, foldedSetIterable iter X.env x = pure x := by intro _; rfl) :
    PS X (.Assign [.Name y py] (.ListComp elt [⟨tg, iter, ifs, 0⟩] scope pos) spos) (tAsg (tLc wi (g X.s_0 X.H_0 0 [] []) (tt X.s_0 X.H_0 0 [] []) (te X.s_0 X.H_0 0 [] []) (own.map (·.2))) (gName i)) :=
  ps_setLc hc hN hy hyl hsw hi ok (fun s H C cl fp => (qg s H C cl fp) ▸ hg s H C cl fp) (fun s H C cl fp => (qt s H C cl fp) ▸ ht s H C cl fp) (fun s H C cl fp => (qe s H C cl fp) ▸ he s H C cl fp) hs
end
end Mi

set_option Elab.async false
set_option linter.all false
set_option maxRecDepth 100000
/-! Mi9: a mirror at an open environment, by simp. -/
namespace Mi
open PySem PySem.Spec PyProof.Rows L2
def bd {α β : Type} (o : Option α) (f : α → Option β) : Option β := o.bind f
def mp {α β : Type} (o : Option α) (f : α → β) : Option β := o.map f
@[simp] theorem bd_some {α β : Type} {a : α} {f : α → Option β} : bd (some a) f = f a := (rfl)
@[simp] theorem mp_some {α β : Type} {a : α} {f : α → β} : mp (some a) f = some (f a) := (rfl)
@[simp] theorem bd_none {α β : Type} {f : α → Option β} : bd none f = none := (rfl)
@[simp] theorem mp_none {α β : Type} {f : α → β} : mp none f = none := (rfl)
section
variable {x : Option O} {g : G}
@[simp] theorem view_d {d : D} {g : G} : view g (.d d) = some d := (rfl)
@[simp] theorem view_br {i : Nat} {g : G} : view g (.br i) = (match g[i]? with | some (some o) => some o.er | _ => none) := (rfl)
@[simp] theorem views_nil {g : G} : views g [] = some [] := (rfl)
@[simp] theorem views_cons {g : G} {a : Opd} {r : List Opd} : views g (a :: r) = bd (view g a) fun d => mp (views g r) fun ds => d :: ds := (rfl)
@[simp] theorem alld_nil : alld [] = some [] := (rfl)
@[simp] theorem alld_d {d : D} {r : List Opd} : alld (.d d :: r) = mp (alld r) fun ds => d :: ds := (rfl)
@[simp] theorem opdD_d {d : D} : opdD (.d d) = some d := (rfl)
@[simp] theorem ev_oVar {i : Nat} : oVar i (x :: g) = (match (x :: g)[i]? with
  | some (some (.fr d)) => some (.d d, x :: g)
  | some (some _) => some (.br i, x :: g)
  | _ => none) := (rfl)
@[simp] theorem ev_eVar {i : Nat} : eVar i (x :: g) = (match (x :: g)[i]? with
  | some (some (.fr d)) => some (.fr d, x :: g)
  | some (some o) => some (.fr o.er, (x :: g).set i (some (.fr o.er)))
  | _ => none) := (rfl)
@[simp] theorem ev_eMove {i : Nat} : eMove i (x :: g) = (match (x :: g)[i]? with
  | some (some (.fr d)) => some (.fr d, x :: g)
  | some (some o) => some (o, (x :: g).set i none)
  | _ => none) := (rfl)
@[simp] theorem ev_eC {d : D} : eC d (x :: g) = some (.fr d, x :: g) := (rfl)
@[simp] theorem ev_oE {m : XE} : oE m (x :: g) = mp (m (x :: g)) fun p => (.d p.1.er, p.2) := (rfl)
@[simp] theorem ev_aNil : aNil (x :: g) = some ([], x :: g) := (rfl)
@[simp] theorem ev_aCons {a : XO} {r : XA} : aCons a r (x :: g) = bd (a (x :: g)) fun p => mp (r p.2) fun q => (p.1 :: q.1, q.2) := (rfl)
@[simp] theorem ev_xS1 {f : D → Option D} {a : XO} : xS1 f a (x :: g) = bd (a (x :: g)) fun p => bd (view p.2 p.1) fun d => mp (f d) fun z => (.fr z, p.2) := (rfl)
@[simp] theorem ev_xS2 {f : D → D → Option D} {a b : XO} : xS2 f a b (x :: g) = bd (a (x :: g)) fun p => bd (b p.2) fun q => bd (view q.2 p.1) fun d => bd (view q.2 q.1) fun e => mp (f d e) fun z => (.fr z, q.2) := (rfl)
@[simp] theorem ev_xSN {f : List D → Option D} {as : XA} : xSN f as (x :: g) = bd (as (x :: g)) fun p => bd (views p.2 p.1) fun ds => mp (f ds) fun z => (.fr z, p.2) := (rfl)
@[simp] theorem ev_xA1 {f : D → Option O} {a : XO} : xA1 f a (x :: g) = bd (a (x :: g)) fun p => bd (opdD p.1) fun d => mp (f d) fun z => (z, p.2) := (rfl)
@[simp] theorem ev_xA2 {f : D → D → Option O} {a b : XO} : xA2 f a b (x :: g) = bd (a (x :: g)) fun p => bd (b p.2) fun q => bd (opdD p.1) fun d => bd (opdD q.1) fun e => mp (f d e) fun z => (z, q.2) := (rfl)
@[simp] theorem ev_xAN {f : List D → Option O} {as : XA} : xAN f as (x :: g) = bd (as (x :: g)) fun p => bd (alld p.1) fun ds => mp (f ds) fun z => (z, p.2) := (rfl)
@[simp] theorem ev_xB {m : XO} : xB m (x :: g) = bd (m (x :: g)) fun p => match view p.2 p.1 with
  | some (.bl b) => some (b, p.2)
  | _ => none := (rfl)
@[simp] theorem ev_xTru {m : XO} : xTru m (x :: g) = bd (m (x :: g)) fun p => bd (view p.2 p.1) fun d => mp (dTru d) fun b => (b, p.2) := (rfl)
@[simp] theorem ev_xAnd {a b : XT} : xAnd a b (x :: g) = bd (a (x :: g)) fun p => if p.1 = true then b p.2 else some (false, p.2) := (rfl)
@[simp] theorem ev_xOr {a b : XT} : xOr a b (x :: g) = bd (a (x :: g)) fun p => if p.1 = true then some (true, p.2) else b p.2 := (rfl)
@[simp] theorem ev_xNot {a : XT} : xNot a (x :: g) = mp (a (x :: g)) fun p => (!p.1, p.2) := (rfl)
@[simp] theorem ev_xYes : xYes (x :: g) = some (true, x :: g) := (rfl)
@[simp] theorem ev_xAndV {a : XO} {b : XE} : xAndV a b (x :: g) = bd (a (x :: g)) fun p => bd (opdD p.1) fun d => bd (dTru d) fun k => if k = true then b p.2 else some (.fr d, p.2) := (rfl)
@[simp] theorem ev_xOrV {a : XO} {b : XE} : xOrV a b (x :: g) = bd (a (x :: g)) fun p => bd (opdD p.1) fun d => bd (dTru d) fun k => if k = true then some (.fr d, p.2) else b p.2 := (rfl)
@[simp] theorem ev_xNotV {a : XO} : xNotV a (x :: g) = bd (a (x :: g)) fun p => bd (view p.2 p.1) fun d => mp (dTru d) fun k => (.fr (.bl (!k)), p.2) := (rfl)
@[simp] theorem ev_xIf {c : XT} {a b : XE} : xIf c a b (x :: g) = bd (c (x :: g)) fun p => if p.1 = true then a p.2 else b p.2 := (rfl)
@[simp] theorem ev_xTup {as : XA} : xTup as (x :: g) = bd (as (x :: g)) fun p => bd (alld p.1) fun ds => if ds.length ≤ sizeLine then some (.fr (.tup ds), p.2) else none := (rfl)
@[simp] theorem ev_xLst {as : XA} : xLst as (x :: g) = bd (as (x :: g)) fun p => bd (alld p.1) fun ds => if ds.length ≤ sizeLine then some (.lst (ds.map O.fr), p.2) else none := (rfl)
@[simp] theorem ev_xIx {f : D → D → Option D} {f' : O → D → Option D} {a b : XO} : xIx f f' a b (x :: g) = bd (a (x :: g)) fun p => bd (b p.2) fun q => bd (view q.2 q.1) fun e => match p.1 with
  | .d d => mp (f d e) fun z => (.fr z, q.2)
  | .br i => match q.2[i]? with
    | some (some o) => mp (f' o e) fun z => (.fr z, q.2)
    | _ => none := (rfl)
@[simp] theorem ev_sNext : sNext (x :: g) = some (.nx (x :: g)) := (rfl)
@[simp] theorem ev_sBrk : sBrk (x :: g) = some (.bk (x :: g)) := (rfl)
@[simp] theorem ev_sCont : sCont (x :: g) = some (.ct (x :: g)) := (rfl)
@[simp] theorem ev_sSeq {a b : XS} : sSeq a b (x :: g) = bd (a (x :: g)) fun x => match x with
  | .nx g' => b g'
  | .rt o g' => some (.rt o g')
  | .bk g' => some (.bk g')
  | .ct g' => some (.ct g')
  | .ex C ns ds g' => some (.ex C ns ds g') := (rfl)
@[simp] theorem ev_sRet {m : XE} : sRet m (x :: g) = mp (m (x :: g)) fun p => .rt p.1 p.2 := (rfl)
@[simp] theorem ev_sRetN : sRetN (x :: g) = some (.rt (.fr .non) (x :: g)) := (rfl)
@[simp] theorem ev_sDrop {m : XE} : sDrop m (x :: g) = mp (m (x :: g)) fun p => .nx p.2 := (rfl)
@[simp] theorem ev_sIf {c : XT} {a b : XS} : sIf c a b (x :: g) = bd (c (x :: g)) fun p => if p.1 = true then a p.2 else b p.2 := (rfl)
@[simp] theorem ev_gN {i : Nat} {o : O} : gN i o (x :: g) = if i < (x :: g).length then some ((x :: g).set i (some o)) else none := (rfl)
@[simp] theorem ev_gsNil : gsNil [] (x :: g) = some (x :: g) := (rfl)
@[simp] theorem ev_gsCons {a : XG} {b : List D → G → Option G} {d : D} {r : List D} : gsCons a b (d :: r) (x :: g) = bd (a (.fr d) (x :: g)) fun g1 => b r g1 := (rfl)
@[simp] theorem ev_gTp {n : Nat} {b : List D → G → Option G} {ds : List D} : gTp n b (.fr (.tup ds)) (x :: g) = if ds.length = n then b ds (x :: g) else none := (rfl)
@[simp] theorem ev_sAsg {m : XE} {a : XG} : sAsg m a (x :: g) = bd (m (x :: g)) fun p => mp (a p.1 p.2) .nx := (rfl)
@[simp] theorem ev_sPar {i j : Nat} {m : XA} : sPar i j m (x :: g) = bd (m (x :: g)) fun p => bd (alld p.1) fun ds => match ds with
  | [d, e] => if i < p.2.length then some (.nx ((p.2.set i (some (.fr d))).set j (some (.fr e)))) else none
  | _ => none := (rfl)
@[simp] theorem ev_sFor {it : XI} {tg : XG} {body : XS} : sFor it tg body (x :: g) = bd (it (x :: g)) fun p => forL tg body p.1 p.2 := (rfl)
@[simp] theorem ev_iLst {m : XO} : iLst m (x :: g) = bd (m (x :: g)) fun p => match p.1 with
  | .d (.lst ds) => some (ds, p.2)
  | _ => none := (rfl)
@[simp] theorem ev_iTpl {m : XO} : iTpl m (x :: g) = bd (m (x :: g)) fun p => match p.1 with
  | .d (.tup ds) => some (ds, p.2)
  | _ => none := (rfl)
@[simp] theorem ev_iSeq {m : XO} : iSeq m (x :: g) = bd (m (x :: g)) fun p => match p.1 with
  | .d (.lst ds) => some (ds, p.2)
  | .d (.tup ds) => some (ds, p.2)
  | _ => none := (rfl)
@[simp] theorem ev_iR1 {m : XO} : iR1 m (x :: g) = bd (m (x :: g)) fun p => match view p.2 p.1 with
  | some (.int j) => if -(2 ^ 62) ≤ j ∧ j < 2 ^ 62 then some (rgD 0 j.toNat, p.2) else none
  | _ => none := (rfl)
@[simp] theorem ev_iR2 {a b : XO} : iR2 a b (x :: g) = bd (a (x :: g)) fun p => bd (b p.2) fun q => match view q.2 p.1, view q.2 q.1 with
  | some (.int i), some (.int j) => if (-(2 ^ 62) ≤ i ∧ i < 2 ^ 62) ∧ (-(2 ^ 62) ≤ j ∧ j < 2 ^ 62) then some (rgD i (j - i).toNat, q.2) else none
  | _, _ => none := (rfl)
@[simp] theorem pull_nil : pull [] g = some ([], g) := (rfl)
@[simp] theorem pull_d {d : D} {r : List Opd} : pull (.d d :: r) g = mp (pull r g) fun p => (.fr d :: p.1, p.2) := (rfl)
@[simp] theorem pull_br {i : Nat} {r : List Opd} : pull (.br i :: r) g = (match g[i]? with
    | some (some o) => mp (pull r (g.set i none)) fun p => (o :: p.1, p.2)
    | _ => none) := (rfl)
@[simp] theorem push_br {i : Nat} {r : List Opd} {o : O} {os : List O} : push (.br i :: r) (o :: os) g = (push r os g).set i (some o) := (rfl)
@[simp] theorem push_d {d : D} {r : List Opd} {o : O} {os : List O} : push (.d d :: r) (o :: os) g = push r os g := (rfl)
@[simp] theorem push_nil : push [] [] g = g := (rfl)
@[simp] theorem ev_xCall {f : List O → Option (O × List O)} {as : XA} : xCall f as (x :: g) = bd (as (x :: g)) fun p => bd (pull p.1 p.2) fun q => mp (f q.1) fun z => (z.1, push p.1 z.2 q.2) := (rfl)
@[simp] theorem ev_xIsi {f : D → Bool} {m : XO} : xIsi f m (x :: g) = bd (m (x :: g)) fun p => bd (view p.2 p.1) fun d => if isDT d = true then none else some (.fr (.bl (f d)), p.2) := (rfl)
@[simp] theorem ev_xApp {i : Nat} {m : XE} : xApp i m (x :: g) = (match (x :: g)[i]? with
  | some (some (.lst _)) => bd (m (x :: g)) fun p => match p.2[i]? with
    | some (some (.lst os)) => if os.length < sizeLine then some (.fr .non, p.2.set i (some (.lst (os ++ [p.1])))) else none
    | _ => none
  | _ => none) := (rfl)
@[simp] theorem ev_gSetL {i : Nat} {mi : XO} {o : O} : gSetL i mi o (x :: g) = (match (x :: g)[i]? with
  | some (some (.lst _)) => bd (mi (x :: g)) fun p => match view p.2 p.1, p.2[i]? with
    | some (.int k), some (some (.lst os)) => mp (ixN os.length k) fun j => p.2.set i (some (.lst (os.set j o)))
    | _, _ => none
  | _ => none) := (rfl)
@[simp] theorem ev_xJoined {ms : List XO} : xJoined ms (x :: g) = mp (xJs ms Str.empty (x :: g)) fun p => (.fr (.str p.1), p.2) := (rfl)
@[simp] theorem ev_xJs0 {acc : Str} : xJs [] acc (x :: g) = some (acc, x :: g) := (rfl)
@[simp] theorem ev_xJs {m : XO} {ms : List XO} {acc : Str} : xJs (m :: ms) acc (x :: g) = bd (m (x :: g)) fun p => match view p.2 p.1 with
    | some (.str y) => if (acc ++ y).length ≤ sizeLine then xJs ms (acc ++ y) p.2 else none
    | _ => none := (rfl)
@[simp] theorem ev_xMS {f : Str → List D → Option D} {a : XO} {as : XA} : xMS f a as (x :: g) = bd (a (x :: g)) fun p => match p.1 with
  | .d (.str s) => bd (as p.2) fun q => bd (views q.2 q.1) fun ds => mp (f s ds) fun z => (.fr z, q.2)
  | _ => none := (rfl)
@[simp] theorem ev_eLc {it : XI} {tg : XG} {tt : XT} {te : XE} {vs : List Nat} : eLc it tg tt te vs (x :: g) = bd (it (x :: g)) fun p => mp (lcL tg tt te vs p.1 p.2 []) fun q => (.lst q.1, restG p.2 (wipeG q.2 vs) vs) := (rfl)
theorem ev_runF {N n : Nat} {pin : List Nat} {body : XS} {os : List O} (h : os.length = n) : runF N n pin body os = bd (body (os.map some ++ List.replicate (N - n) none)) fun x => match x with
      | .rt r g => mp (outs pin g 0 os) fun os' => (r, os')
      | .nx g => mp (outs pin g 0 os) fun os' => (.fr .non, os')
      | _ => none := by
  unfold runF
  rw [if_pos h]
  rfl
@[simp] theorem outs_nil {pin : List Nat} {j : Nat} : outs pin g j [] = some [] := (rfl)
@[simp] theorem outs_cons {pin : List Nat} {j : Nat} {o : O} {os : List O} : outs pin g j (o :: os) = if j ∈ pin then (match g[j]? with
      | some (some o') => mp (outs pin g (j + 1) os) fun r => o' :: r
      | _ => none)
    else (match o with
      | .fr d => mp (outs pin g (j + 1) os) fun r => .fr d :: r
      | _ => none) := (rfl)
@[simp] theorem dTru_bl {b : Bool} : dTru (.bl b) = some b := (rfl)
@[simp] theorem dTru_int {i : Int} : dTru (.int i) = some (i != 0) := (rfl)
@[simp] theorem dTru_tup {ds : List D} : dTru (.tup ds) = some (!ds.isEmpty) := (rfl)
@[simp] theorem dTru_lst {ds : List D} : dTru (.lst ds) = some (!ds.isEmpty) := (rfl)
@[simp] theorem dTru_non : dTru .non = some false := (rfl)
@[simp] theorem dEq_int {i j : Int} : dEq (.int i) (.int j) = some (.bl (decide (i = j))) := (rfl)
@[simp] theorem dNe_int {i j : Int} : dNe (.int i) (.int j) = some (.bl (!decide (i = j))) := (rfl)
@[simp] theorem dEq_str {i j : Str} : dEq (.str i) (.str j) = some (.bl (decide (i = j))) := (rfl)
@[simp] theorem dNe_str {i j : Str} : dNe (.str i) (.str j) = some (.bl (!decide (i = j))) := (rfl)
@[simp] theorem dLt_int {i j : Int} : dLt (.int i) (.int j) = some (.bl (decide (i < j))) := (rfl)
@[simp] theorem dLe_int {i j : Int} : dLe (.int i) (.int j) = some (.bl (decide (i ≤ j))) := (rfl)
@[simp] theorem dGt_int {i j : Int} : dGt (.int i) (.int j) = some (.bl (decide (j < i))) := (rfl)
@[simp] theorem dGe_int {i j : Int} : dGe (.int i) (.int j) = some (.bl (decide (j ≤ i))) := (rfl)
@[simp] theorem dIsN_ev {d : D} : dIsN d .non = some (.bl (isNonD d)) := (rfl)
@[simp] theorem dNotN_ev {d : D} : dNotN d .non = some (.bl (!isNonD d)) := (rfl)
@[simp] theorem dIsB_ev {d : D} {b : Bool} : dIsB d (.bl b) = some (.bl (isBl d b)) := (rfl)
@[simp] theorem dNotB_ev {d : D} {b : Bool} : dNotB d (.bl b) = some (.bl (!isBl d b)) := (rfl)
@[simp] theorem dSub_int {i j : Int} : dSub (.int i) (.int j) = some (.int (i - j)) := (rfl)
@[simp] theorem dMod_int {i j : Int} : dMod (.int i) (.int j) = if j ≠ 0 then some (.int (i.fmod j)) else none := (rfl)
@[simp] theorem dFdiv_int {i j : Int} : dFdiv (.int i) (.int j) = if CDivX i j then some (.int (i.fdiv j)) else none := (rfl)
@[simp] theorem dPow_int {i j : Int} : dPow (.int i) (.int j) = if 0 ≤ j ∧ j ≤ 1000000 ∧ i.natAbs < 2 ^ 64 then some (.int (i ^ j.toNat)) else none := (rfl)
@[simp] theorem dNeg_int {i : Int} : dNeg (.int i) = some (.int (-i)) := (rfl)
@[simp] theorem dAdd_int {i j : Int} : dAdd (.int i) (.int j) = some (.fr (.int (i + j))) := (rfl)
@[simp] theorem dMul_int {i j : Int} : dMul (.int i) (.int j) = if mulOk i j = true then some (.fr (.int (i * j))) else none := (rfl)
@[simp] theorem dAbs_int {i : Int} : dAbs [.int i] = some (.int (if i < 0 then -i else i)) := (rfl)
@[simp] theorem dGcd_int {a b : Int} : dGcd [.int a, .int b] = some (.int ((Nat.gcd a.natAbs b.natAbs : Nat) : Int)) := (rfl)
@[simp] theorem dIntOf_int {a : Int} : dIntOf [.int a] = some (.int a) := (rfl)
@[simp] theorem dIntOf_bl {a : Bool} : dIntOf [.bl a] = some (.int (if a then 1 else 0)) := (rfl)
@[simp] theorem dLen_tup {es : List D} : dLen [.tup es] = some (.int (es.length : Nat)) := (rfl)
@[simp] theorem dLen_lst {es : List D} : dLen [.lst es] = some (.int (es.length : Nat)) := (rfl)
@[simp] theorem dLen_scr {es : List Int} : dLen [.scr es] = some (.int (es.length : Nat)) := (rfl)
@[simp] theorem dLen_str {s : Str} : dLen [.str s] = if s.length ≤ sizeLine then some (.int (s.length : Nat)) else none := (rfl)
@[simp] theorem dIx_tup {ds : List D} {i : Int} : dIx (.tup ds) (.int i) = atI ds i := (rfl)
@[simp] theorem dIx_lst {ds : List D} {i : Int} : dIx (.lst ds) (.int i) = atI ds i := (rfl)
@[simp] theorem dIx_scr {ds : List Int} {i : Int} : dIx (.scr ds) (.int i) = mp (atI ds i) .int := (rfl)
@[simp] theorem oIx_lst {os : List O} {i : Int} : oIx (.lst os) (.int i) = bd (atI os i) oFr := (rfl)
@[simp] theorem oFr_fr {d : D} : oFr (.fr d) = some d := (rfl)
@[simp] theorem isDT_bl {b : Bool} : isDT (.bl b) = false := (rfl)
@[simp] theorem isDT_int {b : Int} : isDT (.int b) = false := (rfl)
@[simp] theorem isDT_str {b : Str} : isDT (.str b) = false := (rfl)
@[simp] theorem isDT_tup {b : List D} : isDT (.tup b) = false := (rfl)
@[simp] theorem isDT_lst {b : List D} : isDT (.lst b) = false := (rfl)
@[simp] theorem isDT_scr {b : List Int} : isDT (.scr b) = false := (rfl)
@[simp] theorem isDT_non : isDT .non = false := (rfl)
@[simp] theorem isNonD_non : isNonD .non = true := (rfl)
@[simp] theorem isNonD_bl {b : Bool} : isNonD (.bl b) = false := (rfl)
@[simp] theorem isNonD_int {b : Int} : isNonD (.int b) = false := (rfl)
@[simp] theorem isNonD_str {b : Str} : isNonD (.str b) = false := (rfl)
@[simp] theorem isNonD_tup {b : List D} : isNonD (.tup b) = false := (rfl)
@[simp] theorem isNonD_lst {b : List D} : isNonD (.lst b) = false := (rfl)
@[simp] theorem isBl_bl {b c : Bool} : isBl (.bl c) b = (c == b) := (rfl)
@[simp] theorem isBl_int {b : Int} {c : Bool} : isBl (.int b) c = false := (rfl)
@[simp] theorem isBl_non {c : Bool} : isBl .non c = false := (rfl)
@[simp] theorem isBl_str {b : Str} {c : Bool} : isBl (.str b) c = false := (rfl)
@[simp] theorem isBl_tup {b : List D} {c : Bool} : isBl (.tup b) c = false := (rfl)
@[simp] theorem isBl_lst {b : List D} {c : Bool} : isBl (.lst b) c = false := (rfl)
@[simp] theorem wipeG_nil {g : G} : wipeG g [] = g := (rfl)
@[simp] theorem wipeG_cons {g : G} {v : Nat} {vs : List Nat} : wipeG g (v :: vs) = (wipeG g vs).set v none := (rfl)
@[simp] theorem restG_nil {g0 g : G} : restG g0 g [] = g := (rfl)
@[simp] theorem restG_cons {g0 g : G} {i : Nat} {vs : List Nat} : restG g0 g (i :: vs) = (match g0[i]? with
    | some (some (.fr d)) => (restG g0 g vs).set i (some (.fr d))
    | _ => restG g0 g vs) := (rfl)
@[simp] theorem lcL_nil {tg : XG} {tt : XT} {te : XE} {vs : List Nat} {g : G} {acc : List O} : lcL tg tt te vs [] g acc = some (acc, g) := (rfl)
@[simp] theorem lcL_cons {tg : XG} {tt : XT} {te : XE} {vs : List Nat} {d : D} {ds : List D} {acc : List O} : lcL tg tt te vs (d :: ds) (x :: g) acc = bd (tg (.fr d) (wipeG (x :: g) vs)) fun g1 => bd (tt g1) fun p => if p.1 = true then
      bd (te p.2) fun q => if acc.length < sizeLine then lcL tg tt te vs ds q.2 (acc ++ [q.1]) else none
    else lcL tg tt te vs ds p.2 acc := (rfl)
@[simp] theorem forL_nil {tg : XG} {body : XS} {g : G} : forL tg body [] g = some (.nx g) := (rfl)
@[simp] theorem forL_cons {tg : XG} {body : XS} {d : D} {ds : List D} : forL tg body (d :: ds) (x :: g) = bd (tg (.fr d) (x :: g)) fun g1 => bd (body g1) fun x => match x with
    | .nx g2 => forL tg body ds g2
    | .ct g2 => forL tg body ds g2
    | .bk g2 => some (.nx g2)
    | .rt o g2 => some (.rt o g2)
    | .ex C ns ds g2 => some (.ex C ns ds g2) := (rfl)
@[simp] theorem dEq_nil : dEq (.lst []) (.lst []) = some (.bl true) := (rfl)
@[simp] theorem dNe_nil : dNe (.lst []) (.lst []) = some (.bl false) := (rfl)
theorem atI_lt {α : Type} {ys : List α} {k : Nat} (h : k < ys.length) : atI ys (k : Int) = ys[k]? := by
  unfold atI ixN
  rw [if_pos (by omega), if_pos (by omega)]
  rfl
@[simp] theorem atI_0 {α : Type} {y : α} {ys : List α} : atI (y :: ys) 0 = some y := (atI_lt (k := 0) (by simp)).trans rfl
@[simp] theorem atI_1 {α : Type} {y z : α} {ys : List α} : atI (y :: z :: ys) 1 = some z := (atI_lt (k := 1) (by simp)).trans rfl
@[simp] theorem atI_2 {α : Type} {y z u : α} {ys : List α} : atI (y :: z :: u :: ys) 2 = some u := (atI_lt (k := 2) (by simp)).trans rfl
@[simp] theorem ixN_0 {n : Nat} : ixN (n + 1) 0 = some 0 := by
  unfold ixN
  rw [if_pos (by omega), if_pos (by omega)]
  rfl
@[simp] theorem ixN_1 {n : Nat} : ixN (n + 1 + 1) 1 = some 1 := by
  unfold ixN
  rw [if_pos (by omega), if_pos (by omega)]
  rfl
end
end Mi

set_option Elab.async false
set_option linter.all false
set_option maxRecDepth 100000
/-! Mi10: what a mirror answers, by what must hold of it. -/
namespace Mi
open PySem PySem.Spec PyProof.Rows L2
def Ev {α : Type} (o : Option α) (Q : α → Prop) : Prop := ∃ a, o = some a ∧ Q a
section
variable {α β : Type}
theorem Ev.mono {o : Option α} {Q R : α → Prop} (h : Ev o Q) (k : ∀ a, Q a → R a) : Ev o R := h.elim fun a z => ⟨a, z.1, k a z.2⟩
@[simp] theorem ev_some {a : α} {Q : α → Prop} : Ev (some a) Q ↔ Q a := ⟨fun ⟨b, e, q⟩ => by cases e; exact q, fun q => ⟨a, rfl, q⟩⟩
@[simp] theorem ev_none {Q : α → Prop} : Ev none Q ↔ False := ⟨fun ⟨b, e, q⟩ => by (cases e), False.elim⟩
@[simp ↓] theorem ev_bd {o : Option α} {f : α → Option β} {Q : β → Prop} : Ev (bd o f) Q ↔ Ev o fun a => Ev (f a) Q := by
  cases o with
  | none => exact ⟨fun ⟨b, e, q⟩ => by (cases e), fun ⟨b, e, q⟩ => by (cases e)⟩
  | some a => exact ⟨fun h => ⟨a, rfl, h⟩, fun ⟨b, e, q⟩ => by cases e; exact q⟩
@[simp ↓] theorem ev_mp {o : Option α} {f : α → β} {Q : β → Prop} : Ev (mp o f) Q ↔ Ev o fun a => Q (f a) := by
  cases o with
  | none => exact ⟨fun ⟨b, e, q⟩ => by (cases e), fun ⟨b, e, q⟩ => by (cases e)⟩
  | some a => exact ⟨fun ⟨b, e, q⟩ => by cases e; exact ⟨a, rfl, q⟩, fun ⟨b, e, q⟩ => by cases e; exact ⟨_, rfl, q⟩⟩
theorem ev_bind {o : Option α} {f : α → Option β} {Q : β → Prop} : Ev (o.bind f) Q ↔ Ev o fun a => Ev (f a) Q := ev_bd
@[simp] theorem ev_ifN {c : Prop} [Decidable c] {o : Option α} {Q : α → Prop} : Ev (if c then o else none) Q ↔ c ∧ Ev o Q := by
  by_cases h : c
  · rw [if_pos h]; exact ⟨fun q => ⟨h, q⟩, fun q => q.2⟩
  · rw [if_neg h]; exact ⟨fun q => (ev_none.mp q).elim, fun q => (h q.1).elim⟩
@[simp] theorem ev_Nif {c : Prop} [Decidable c] {o : Option α} {Q : α → Prop} : Ev (if c then none else o) Q ↔ ¬c ∧ Ev o Q := by
  by_cases h : c
  · rw [if_pos h]; exact ⟨fun q => (ev_none.mp q).elim, fun q => (q.1 h).elim⟩
  · rw [if_neg h]; exact ⟨fun q => ⟨h, q⟩, fun q => q.2⟩
theorem ev_if {c : Prop} [Decidable c] {o o' : Option α} {Q : α → Prop} : Ev (if c then o else o') Q ↔ if c then Ev o Q else Ev o' Q := by
  by_cases h : c
  · rw [if_pos h, if_pos h]
  · rw [if_neg h, if_neg h]
theorem Ev.ite {c : Prop} [Decidable c] {o o' : Option α} {Q : α → Prop} (h1 : c → Ev o Q) (h2 : ¬c → Ev o' Q) : Ev (if c then o else o') Q := by
  by_cases h : c
  · rw [if_pos h]; exact h1 h
  · rw [if_neg h]; exact h2 h
theorem Ev.of {o : Option α} {a : α} {Q : α → Prop} (e : o = some a) (q : Q a) : Ev o Q := ⟨a, e, q⟩
@[simp] theorem boolIf {p : Prop} [Decidable p] {c : Bool} {g : G} : (if p then some (O.fr (.bl c), g) else some (O.fr (.bl (decide p)), g)) = some (O.fr (.bl (decide p && c)), g) := by
  by_cases h : p <;> simp [h]
@[simp] theorem boolIfB {p c : Bool} {g : G} : (if p = true then some (O.fr (.bl c), g) else some (O.fr (.bl p), g)) = some (O.fr (.bl (p && c)), g) := by
  cases p <;> rfl
@[simp] theorem boolIfO {p : Prop} [Decidable p] {c : Bool} {g : G} : (if p then some (O.fr (.bl (decide p)), g) else some (O.fr (.bl c), g)) = some (O.fr (.bl (decide p || c)), g) := by
  by_cases h : p <;> simp [h]
@[simp] theorem boolIfOB {p c : Bool} {g : G} : (if p = true then some (O.fr (.bl p), g) else some (O.fr (.bl c), g)) = some (O.fr (.bl (p || c)), g) := by
  cases p <;> rfl
end

/-- how a turn ends: on, with P -/
def Goes (P : G → Prop) : Out → Prop
  | .nx g => P g
  | .ct g => P g
  | .bk g => P g
  | .rt _ _ => False
  | .ex _ _ _ _ => False
@[simp] theorem goes_nx {P : G → Prop} {g : G} : Goes P (.nx g) ↔ P g := .rfl
@[simp] theorem goes_ct {P : G → Prop} {g : G} : Goes P (.ct g) ↔ P g := .rfl
@[simp] theorem goes_bk {P : G → Prop} {g : G} : Goes P (.bk g) ↔ P g := .rfl
@[simp] theorem goes_ex {P : G → Prop} {C : Addr} {ns : List Str} {ds : List D} {g : G} : Goes P (.ex C ns ds g) ↔ False := .rfl
@[simp] theorem goes_rt {P : G → Prop} {g : G} {o : O} : Goes P (.rt o g) ↔ False := .rfl
/-- a loop that is never left by return -/
theorem forL_goes {tg : XG} {body : XS} {P : G → Prop} : ∀ {ds : List D} {g : G}, P g → (∀ d ∈ ds, ∀ g, P g → Ev (tg (.fr d) g) fun g1 => Ev (body g1) (Goes P)) → Ev (forL tg body ds g) fun x => ∃ g', x = .nx g' ∧ P g'
  | [], g, p, _ => ⟨_, rfl, g, rfl, p⟩
  | d :: ds, g, p, h => by
    obtain ⟨g1, e1, x, e2, q⟩ := h d (.head _) g p
    have h' := fun d' hd => h d' (.tail _ hd)
    cases x with
    | nx g2 =>
      obtain ⟨y, e3, k⟩ := forL_goes (ds := ds) (g := g2) q h'
      exact ⟨y, by show (tg (.fr d) g).bind _ = _; rw [e1]; show (body g1).bind _ = _; rw [e2]; exact e3, k⟩
    | ct g2 =>
      obtain ⟨y, e3, k⟩ := forL_goes (ds := ds) (g := g2) q h'
      exact ⟨y, by show (tg (.fr d) g).bind _ = _; rw [e1]; show (body g1).bind _ = _; rw [e2]; exact e3, k⟩
    | bk g2 => exact ⟨.nx g2, by show (tg (.fr d) g).bind _ = _; rw [e1]; show (body g1).bind _ = _; rw [e2]; rfl, g2, rfl, q⟩
    | rt o g2 => exact q.elim
    | ex _ _ _ g2 => exact q.elim
/-- how a turn of a loop ends that is gone through -/
def Turn (P : G → Prop) : Out → Prop
  | .nx g => P g
  | .ct g => P g
  | .bk _ => False
  | .rt _ _ => False
  | .ex _ _ _ _ => False
@[simp] theorem turn_nx {P : G → Prop} {g : G} : Turn P (.nx g) ↔ P g := .rfl
@[simp] theorem turn_ct {P : G → Prop} {g : G} : Turn P (.ct g) ↔ P g := .rfl
@[simp] theorem turn_bk {P : G → Prop} {g : G} : Turn P (.bk g) ↔ False := .rfl
@[simp] theorem turn_ex {P : G → Prop} {C : Addr} {ns : List Str} {ds : List D} {g : G} : Turn P (.ex C ns ds g) ↔ False := .rfl
@[simp] theorem turn_rt {P : G → Prop} {g : G} {o : O} : Turn P (.rt o g) ↔ False := .rfl
theorem forL_from {tg : XG} {body : XS} {P : Nat → G → Prop} : ∀ {ds : List D} {n : Nat} {g : G}, P n g → (∀ k (hk : k < ds.length) g, P (n + k) g → Ev (tg (.fr ds[k]) g) fun g1 => Ev (body g1) (Turn (P (n + k + 1)))) → Ev (forL tg body ds g) fun x => ∃ g', x = .nx g' ∧ P (n + ds.length) g'
  | [], n, g, p, _ => ⟨_, rfl, g, rfl, p⟩
  | d :: ds, n, g, p, h => by
    obtain ⟨g1, e1, x, e2, q⟩ := h 0 (Nat.zero_lt_succ _) g p
    have e1 : tg (.fr d) g = some g1 := e1
    have h' : ∀ {g2 : G}, P (n + 1) g2 → Ev (forL tg body ds g2) fun x => ∃ g', x = .nx g' ∧ P (n + (d :: ds).length) g' := fun {g2} q => by
      have := forL_from (tg := tg) (body := body) (P := P) (ds := ds) (n := n + 1) (g := g2) q fun k hk g pk => by
        have := h (k + 1) (Nat.succ_lt_succ hk) g (by rw [← Nat.add_assoc, Nat.add_right_comm]; exact pk)
        rw [List.getElem_cons_succ] at this
        rw [show n + 1 + k + 1 = n + (k + 1) + 1 by omega]
        exact this
      rw [List.length_cons, show n + (ds.length + 1) = n + 1 + ds.length by omega]
      exact this
    cases x with
    | nx g2 =>
      obtain ⟨y, e3, k⟩ := h' q
      exact ⟨y, by show (tg (.fr d) g).bind _ = _; rw [e1]; show (body g1).bind _ = _; rw [e2]; exact e3, k⟩
    | ct g2 =>
      obtain ⟨y, e3, k⟩ := h' q
      exact ⟨y, by show (tg (.fr d) g).bind _ = _; rw [e1]; show (body g1).bind _ = _; rw [e2]; exact e3, k⟩
    | bk g2 => exact q.elim
    | rt o g2 => exact q.elim
    | ex _ _ _ g2 => exact q.elim
/-- a loop gone through, by its turns -/
theorem forL_idx {tg : XG} {body : XS} {P : Nat → G → Prop} {ds : List D} {g : G} (h0 : P 0 g) (h : ∀ k (hk : k < ds.length) g, P k g → Ev (tg (.fr ds[k]) g) fun g1 => Ev (body g1) (Turn (P (k + 1)))) : Ev (forL tg body ds g) fun x => ∃ g', x = .nx g' ∧ P ds.length g' := by
  have := forL_from (n := 0) h0 fun k hk g p => by
    have := h k hk g (by rw [Nat.zero_add] at p; exact p)
    rw [Nat.zero_add]
    exact this
  rw [Nat.zero_add] at this
  exact this
theorem rgD_get {lo : Int} {n k : Nat} (h : k < (rgD lo n).length) : (rgD lo n)[k] = .int (lo + k) := by
  simp [rgD]
/-- a range gone through -/
theorem forR {tg : XG} {body : XS} {P : Nat → G → Prop} {lo : Int} {n : Nat} {g : G} (h0 : P 0 g) (h : ∀ (k : Nat) (i : Int), k < n → i = lo + k → ∀ g, P k g → Ev (tg (.fr (.int i)) g) fun g1 => Ev (body g1) (Turn (P (k + 1)))) : Ev (forL tg body (rgD lo n) g) fun x => ∃ g', x = .nx g' ∧ P n g' := by
  have := forL_idx (ds := rgD lo n) h0 fun k hk g p => by
    rw [rgD_get hk]
    exact h k _ (by unfold rgD at hk; rw [List.length_map, List.length_range] at hk; exact hk) rfl g p
  rw [show (rgD lo n).length = n by unfold rgD; rw [List.length_map, List.length_range]] at this
  exact this
/-- a list comprehension: what it lists -/
theorem lcL_go {tg : XG} {tt : XT} {te : XE} {vs : List Nat} {P : G → Prop} {f : D → Option O} : ∀ {ds : List D} {g : G} {acc : List O}, P g → (∀ d ∈ ds, ∀ g, P g → Ev (tg (.fr d) (wipeG g vs)) fun g1 => Ev (tt g1) fun p => (p.1 = true → Ev (te p.2) fun q => f d = some q.1 ∧ P q.2) ∧ (p.1 = false → f d = none ∧ P p.2)) → acc.length + ds.length ≤ sizeLine → Ev (lcL tg tt te vs ds g acc) fun q => q.1 = acc ++ ds.filterMap f ∧ P q.2
  | [], g, acc, p, _, _ => ⟨_, rfl, by simp, p⟩
  | d :: ds, g, acc, p, h, hl => by
    obtain ⟨g1, e1, ⟨b, g2⟩, e2, k1, k2⟩ := h d (.head _) g p
    have h' := fun d' hd => h d' (.tail _ hd)
    rw [List.length_cons] at hl
    cases b with
    | true =>
      obtain ⟨⟨o, g3⟩, e3, ef, p3⟩ := k1 rfl
      obtain ⟨y, e4, k⟩ := lcL_go (ds := ds) (g := g3) (acc := acc ++ [o]) p3 h' (by simp; omega)
      refine ⟨y, ?_, ?_, k.2⟩
      · show (tg (.fr d) (wipeG g vs)).bind _ = _
        rw [e1]
        show (tt g1).bind _ = _
        rw [e2]
        show (te g2).bind _ = _
        rw [e3]
        show (if acc.length < sizeLine then _ else none) = _
        rw [if_pos (by omega)]
        exact e4
      · rw [k.1, List.filterMap_cons_some ef]
        simp
    | false =>
      obtain ⟨ef, p3⟩ := k2 rfl
      obtain ⟨y, e4, k⟩ := lcL_go (ds := ds) (g := g2) (acc := acc) p3 h' (by omega)
      refine ⟨y, ?_, ?_, k.2⟩
      · show (tg (.fr d) (wipeG g vs)).bind _ = _
        rw [e1]
        show (tt g1).bind _ = _
        rw [e2]
        exact e4
      · rw [k.1, List.filterMap_cons_none ef]
/-- a list comprehension without a test: what holds of each item -/
theorem lcL_all {tg : XG} {te : XE} {vs : List Nat} {P : G → Prop} {R : O → Prop} : ∀ {ds : List D} {g : G} {acc : List O}, P g → (∀ o ∈ acc, R o) → (∀ d ∈ ds, ∀ g, P g → Ev (tg (.fr d) (wipeG g vs)) fun g1 => Ev (te g1) fun q => R q.1 ∧ P q.2) → acc.length + ds.length ≤ sizeLine → Ev (lcL tg xYes te vs ds g acc) fun q => (∀ o ∈ q.1, R o) ∧ q.1.length = acc.length + ds.length ∧ P q.2
  | [], g, acc, p, ha, _, _ => ⟨_, rfl, ha, rfl, p⟩
  | d :: ds, g, acc, p, ha, h, hl => by
    obtain ⟨g1, e1, ⟨o, g3⟩, e3, ro, p3⟩ := h d (.head _) g p
    have h' := fun d' hd => h d' (.tail _ hd)
    rw [List.length_cons] at hl
    obtain ⟨y, e4, k1, k2, k3⟩ := lcL_all (ds := ds) (g := g3) (acc := acc ++ [o]) p3 (fun x hx => by
      rcases List.mem_append.mp hx with hx | hx
      · exact ha x hx
      · cases List.mem_singleton.mp hx
        exact ro) h' (by simp; omega)
    refine ⟨y, ?_, k1, by rw [k2, List.length_append, List.length_cons, List.length_cons, List.length_nil]; omega, k3⟩
    show (tg (.fr d) (wipeG g vs)).bind _ = _
    rw [e1]
    show (te g1).bind _ = _
    rw [e3]
    show (if acc.length < sizeLine then _ else none) = _
    rw [if_pos (by omega)]
    exact e4
/-- a while, by a measure -/
theorem while_go {c : XT} {b : XS} (I : Nat → G → Prop) (Q : Out → Prop) (h : ∀ n g, I n g → Ev (c g) fun p => if p.1 = true then Ev (b p.2) (fun x => match x with
      | .nx g' => ∃ m, m < n ∧ I m g'
      | .ct g' => ∃ m, m < n ∧ I m g'
      | .bk g' => Q (.nx g')
      | .rt o g' => Q (.rt o g')
      | .ex C ns ds g' => Q (.ex C ns ds g')) else Q (.nx p.2)) {n : Nat} {g : G} (i : I n g) : Ev (sWhile c b g) Q := by
  suffices hs : ∀ n g, I n g → ∃ out m, WhN c b m g out ∧ Q out by
    obtain ⟨out, m, w, q⟩ := hs n g i
    exact ⟨out, sWhile_eq w, q⟩
  intro n
  induction n using Nat.strongRecOn with
  | ind n ih =>
    intro g i
    obtain ⟨⟨k, g1⟩, e1, k1⟩ := h n g i
    cases k with
    | false =>
      rw [if_neg (by intro z; cases z)] at k1
      exact ⟨_, 0, .done e1, k1⟩
    | true =>
      rw [if_pos rfl] at k1
      obtain ⟨x, e2, k2⟩ := k1
      cases x with
      | nx g2 =>
        obtain ⟨m, hm, i2⟩ := k2
        obtain ⟨out, m2, w, q⟩ := ih m hm g2 i2
        exact ⟨out, m2 + 1, .next e1 e2 w, q⟩
      | ct g2 =>
        obtain ⟨m, hm, i2⟩ := k2
        obtain ⟨out, m2, w, q⟩ := ih m hm g2 i2
        exact ⟨out, m2 + 1, .cont e1 e2 w, q⟩
      | bk g2 => exact ⟨_, 0, .brk e1 e2, k2⟩
      | rt o g2 => exact ⟨_, 0, .ret e1 e2, k2⟩
      | ex C ns ds g2 => exact ⟨_, 0, .exc e1 e2, k2⟩
theorem mem_rgD {lo : Int} {n : Nat} {d : D} : d ∈ rgD lo n ↔ ∃ k : Nat, k < n ∧ d = .int (lo + k) := by
  unfold rgD
  rw [List.mem_map]
  constructor
  · rintro ⟨k, hk, rfl⟩
    exact ⟨k, List.mem_range.mp hk, rfl⟩
  · rintro ⟨k, hk, rfl⟩
    exact ⟨k, List.mem_range.mpr hk, rfl⟩
theorem rgD_len {lo : Int} {n : Nat} : (rgD lo n).length = n := by
  unfold rgD
  rw [List.length_map, List.length_range]
@[simp] theorem isInt_int {i : Int} : Mi.isInt (.int i) = true := rfl
@[simp] theorem isInt_bl {i : Bool} : Mi.isInt (.bl i) = true := rfl
@[simp] theorem isInt_str {i : Str} : Mi.isInt (.str i) = false := rfl
@[simp] theorem isInt_tup {i : List D} : Mi.isInt (.tup i) = false := rfl
@[simp] theorem isInt_lst {i : List D} : Mi.isInt (.lst i) = false := rfl
@[simp] theorem isInt_non : Mi.isInt .non = false := rfl
@[simp] theorem isBool_int {i : Int} : isBool (.int i) = false := rfl
@[simp] theorem isBool_bl {i : Bool} : isBool (.bl i) = true := rfl
@[simp] theorem isBool_str {i : Str} : isBool (.str i) = false := rfl
@[simp] theorem isBool_tup {i : List D} : isBool (.tup i) = false := rfl
@[simp] theorem isBool_lst {i : List D} : isBool (.lst i) = false := rfl
@[simp] theorem isBool_non : isBool .non = false := rfl
@[simp] theorem isStr_int {i : Int} : isStr (.int i) = false := rfl
@[simp] theorem isStr_bl {i : Bool} : isStr (.bl i) = false := rfl
@[simp] theorem isStr_str {i : Str} : isStr (.str i) = true := rfl
@[simp] theorem isStr_tup {i : List D} : isStr (.tup i) = false := rfl
@[simp] theorem isStr_lst {i : List D} : isStr (.lst i) = false := rfl
@[simp] theorem isStr_non : isStr .non = false := rfl
@[simp] theorem isTup_int {i : Int} : isTup (.int i) = false := rfl
@[simp] theorem isTup_bl {i : Bool} : isTup (.bl i) = false := rfl
@[simp] theorem isTup_str {i : Str} : isTup (.str i) = false := rfl
@[simp] theorem isTup_tup {i : List D} : isTup (.tup i) = true := rfl
@[simp] theorem isTup_lst {i : List D} : isTup (.lst i) = false := rfl
@[simp] theorem isTup_non : isTup .non = false := rfl
@[simp] theorem isLst_int {i : Int} : isLst (.int i) = false := rfl
@[simp] theorem isLst_bl {i : Bool} : isLst (.bl i) = false := rfl
@[simp] theorem isLst_str {i : Str} : isLst (.str i) = false := rfl
@[simp] theorem isLst_tup {i : List D} : isLst (.tup i) = false := rfl
@[simp] theorem isLst_lst {i : List D} : isLst (.lst i) = true := rfl
@[simp] theorem isLst_non : isLst .non = false := rfl
@[simp] theorem mulOk_l {i j : Int} (h : -(2 ^ 64) < i ∧ i < 2 ^ 64) : mulOk i j = true := by
  unfold mulOk
  rw [decide_eq_true h]
  rfl
@[simp] theorem mulOk_r {i j : Int} (h : -(2 ^ 64) < j ∧ j < 2 ^ 64) : mulOk i j = true := by
  unfold mulOk
  rw [decide_eq_true h]
  simp
theorem log2_lt {n k : Nat} (h : n < 2 ^ k) (hk : 0 < k) : n.log2 < k := by
  by_cases h0 : n = 0
  · subst h0
    exact hk
  · exact (Nat.log2_lt h0).mpr h
theorem mulOk_big {i j : Int} (hi : i.natAbs < 2 ^ 400000) (hj : j.natAbs < 2 ^ 400000) : mulOk i j = true := by
  unfold mulOk
  have a := log2_lt hi (by decide)
  have b := log2_lt hj (by decide)
  have : decide (i.natAbs.log2 + j.natAbs.log2 < 1000000) = true := decide_eq_true (by omega)
  rw [this]
  simp
theorem cdiv_ok {i j : Int} (h0 : j ≠ 0) (hj : j.natAbs < 2 ^ 9000) : CDivX i j := ⟨h0, log2_lt hj (by decide)⟩
@[simp] theorem one_size : 1 ≤ sizeLine := by decide
@[simp] theorem two_size : 2 ≤ sizeLine := by decide
@[simp] theorem small_size {n : Nat} (h : n ≤ 10000) : n ≤ sizeLine := Nat.le_trans h (by decide)
theorem lawOk_of {f : List O → Option (O × List O)} (h : ∀ ns : List Int, ScrOk ns → Ev (f [.fr (.scr ns)]) fun p => p.1 = .fr (.bl true)) : LawOk f := fun ns k => by
  obtain ⟨⟨o, os⟩, e, q⟩ := h ns k
  cases q
  exact ⟨os, e⟩
end Mi

set_option Elab.async false
set_option linter.all false
set_option maxRecDepth 100000
/-! Mi11: objects; code that is never come to. -/
namespace Mi
open PySem PySem.Spec PyProof.Rows L2
section
variable {B : Bs} {F F' H H' : Hp} {σ : L2.St} {g : G} {τ : En} {K : PySem.W.Frag}
/-! ### fields -/
def pF (f : Str) : List Str → List Str
  | [] => [f]
  | h :: hs => if h = f then h :: hs else h :: pF f hs
def pV {α : Type} (f : Str) (x : α) : List Str → List α → List α
  | h :: hs, y :: ys => if h = f then x :: ys else y :: pV f x hs ys
  | _, _ => [x]
theorem putF_zip (f : Str) (y : V) : ∀ (fs : List Str) (vs : List V), fs.length = vs.length → putF f y (fs.zip vs) = (pF f fs).zip (pV f y fs vs)
  | [], [], _ => rfl
  | [], _ :: _, h => by cases h
  | _ :: _, [], h => by cases h
  | h :: hs, v :: vs, hl => by
    have ih := putF_zip f y hs vs (Nat.succ.inj hl)
    show (if h = f then (h, y) :: hs.zip vs else (h, v) :: putF f y (hs.zip vs)) = (if h = f then h :: hs else h :: pF f hs).zip (if h = f then y :: vs else v :: pV f y hs vs)
    by_cases q : h = f
    · rw [if_pos q, if_pos q, if_pos q]
      rfl
    · rw [if_neg q, if_neg q, if_neg q, ih]
      rfl
theorem ow_pV {y : V} {o : O} {f2 : List Addr} (f : Str) (ho : Ow K F H y o f2) : ∀ (fs : List Str) (vs : List V) (os : List O) (f1 : List Addr), fs.length = vs.length → OwL K F H vs os f1 → ∃ fp r, OwL K F H (pV f y fs vs) (pV f o fs os) fp ∧ (f2 ++ f1).Perm (fp ++ r)
  | [], [], os, f1, _, h => by
    have : os = [] := by
      have := h.length
      cases os with
      | nil => rfl
      | cons _ _ => cases this
    subst this
    obtain ⟨_, rfl⟩ := h
    exact ⟨f2 ++ [], [], OwL.cons ho OwL.nil, by simp⟩
  | [], _ :: _, _, _, h, _ => by cases h
  | _ :: _, [], _, _, h, _ => by cases h
  | h :: hs, v :: vs, [], f1, hl, hw => by
    have := hw.length
    cases this
  | h :: hs, v :: vs, o' :: os, f1, hl, hw => by
    obtain ⟨g1, g2, k1, k2, rfl⟩ := hw.inv
    show ∃ fp r, OwL K F H (if h = f then y :: vs else v :: pV f y hs vs) (if h = f then o :: os else o' :: pV f o hs os) fp ∧ _
    by_cases q : h = f
    · rw [if_pos q, if_pos q]
      refine ⟨f2 ++ g2, g1, OwL.cons ho k2, ?_⟩
      rw [List.append_assoc]
      exact List.perm_append_comm.append_left _
    · rw [if_neg q, if_neg q]
      obtain ⟨fp, r, m1, m2⟩ := ow_pV f ho hs vs os g2 (Nat.succ.inj hl) k2
      refine ⟨g1 ++ fp, r, OwL.cons k1 m1, ?_⟩
      have p1 : (f2 ++ (g1 ++ g2)).Perm (g1 ++ (f2 ++ g2)) := by
        rw [← List.append_assoc, ← List.append_assoc]
        exact List.perm_append_comm.append_right g2
      rw [List.append_assoc]
      exact p1.trans (m2.append_left g1)
theorem Rel.putFld {v y : V} {o : O} {C : Addr} {fs : List Str} {os : List O} (f : Str) (hl : fs.length = os.length) (r : Rel B F H σ g ((y, o) :: (v, .ob C fs os) :: τ)) : ∃ a dx vs, v = .ref a ∧ H a = some (.ins C dx (fs.zip vs)) ∧ vs.length = os.length ∧ Rel B F (upd H a (.ins C dx (putF f y (fs.zip vs)))) σ g ((v, .ob C (pF f fs) (pV f o fs os)) :: τ) := by
  obtain ⟨f1, k1, k2, k3⟩ := Rel.open (E1 := [(y, o), (v, .ob C fs os)]) (τ := τ) r
  obtain ⟨fo, fl, m1, m2, rfl⟩ := OwE.inv k1
  obtain ⟨a, dx, vs, ff, rfl, e2, e3, rfl⟩ := OwE.one m2
  have hlv : fs.length = vs.length := by rw [hl, e3.length]
  have nd := List.nodup_append.mp k2
  have hn : ∀ (u : HO), ∀ b ∈ fo ++ ff, upd H a u b = H b := fun u b hb => upd_ne fun z => by
    subst z
    rcases List.mem_append.mp hb with hb | hb
    · exact nd.2.2 b hb b List.mem_cons_self rfl
    · exact (List.nodup_cons.mp nd.2.1).1 hb
  refine ⟨a, dx, vs, rfl, e2, e3.length, ?_⟩
  generalize hu : (HO.ins C dx (putF f y (fs.zip vs))) = u
  have ho : Ow B.K F (upd H a u) y o fo := Ow.mono (Same.refl F) _ _ _ (fun b hb => hn u b (List.mem_append_left _ hb)) m1
  have hf : OwL B.K F (upd H a u) vs os ff := OwL.mono (Same.refl F) _ _ _ (fun b hb => hn u b (List.mem_append_right _ hb)) e3
  obtain ⟨fp, rr, q1, q2⟩ := ow_pV f ho fs vs os ff hlv hf
  have nd2 : (fo ++ ff).Nodup := by
    have p : (fo ++ a :: ff).Perm (a :: (fo ++ ff)) := List.perm_middle
    exact (List.nodup_cons.mp (p.nodup k2)).2
  have nd3 := List.nodup_append.mp (q2.nodup nd2)
  have mem : ∀ b ∈ fp, b ∈ fo ++ ff := fun b hb => q2.mem_iff.mpr (List.mem_append_left _ hb)
  refine k3 a u [(.ref a, .ob C (pF f fs) (pV f o fs os))] (a :: fp) (by simp) (one_OwE ⟨a, dx, pV f y fs vs, fp, rfl, ?_, q1, rfl⟩) (List.nodup_cons.mpr ⟨fun z => ?_, nd3.1⟩) (fun b hb => ?_)
  · rw [upd_same, ← hu, putF_zip f y fs vs hlv]
  · rcases List.mem_append.mp (mem a z) with hb | hb
    · exact nd.2.2 a hb a List.mem_cons_self rfl
    · exact (List.nodup_cons.mp nd.2.1).1 hb
  · rcases List.mem_cons.mp hb with rfl | hb
    · simp
    · rcases List.mem_append.mp (mem b hb) with hb | hb
      · simp [hb]
      · simp [hb]
/-- self.f = e, self an owned object in slot i -/
def sFldO (C : Addr) (i : Nat) (f : Str) (m : XE) : XS := fun g => (m g).bind fun p => match p.2[i]? with
  | some (some (.ob C' fs os)) => if C' = C ∧ fs.length = os.length ∧ fs.length < 1000 then some (.nx (p.2.set i (some (.ob C (pF f fs) (pV f p.1 fs os))))) else none
  | _ => none
theorem ss_fldO {C : Addr} {i : Nat} {f : Str} {te : TE} {m : XE} (hc : Cls B.K C) (hn : NoAttr B.K C f) (h : SE B te m) : SS B (sFld B.K (tVar i) te f) (sFldO C i f m) := by
  intro F H σ g τ out r e D p
  obtain ⟨⟨o, g1⟩, e1, e2⟩ := Option.bind_eq_some_iff.mp e
  dsimp only at e2
  split at e2
  · rename_i C' fs os eg
    split at e2
    · rename_i hh
      obtain ⟨rfl, hl, h1000⟩ := hh
      cases e2
      refine h F H σ g τ o g1 r e1 _ fun F1 H1 y s1 r1 => ?_
      obtain ⟨v, hv, _⟩ := r1.slot eg
      have r2 := r1.take hv eg
      obtain ⟨a, dx, vs, ea, h1, h2, r3⟩ := Rel.putFld f hl (r2.tperm (.swap _ _ _))
      subst ea
      refine ⟨.ref a, hv, a, C', dx, fs.zip vs, rfl, h1, hc, hn, by rw [List.length_zip]; omega, ?_⟩
      have r4 := r3.back' hv
      rw [List.set_set] at r4
      exact p F1 _ σ s1 r4
    · cases e2
  · cases e2
/-! ### e.f -/
theorem zip_look {f : Str} {d : D} : ∀ {fs : List Str} {vs : List V} {ds : List D}, RpL K F vs ds → look f fs ds = some d → ∃ v, (fs.zip vs).lookup f = some v ∧ Rp K F v d
  | [], _, _, _, e => by cases e
  | _ :: _, _, [], _, e => by cases e
  | h :: hs, _, d' :: ds, r, e => by
    obtain ⟨v, vs, rfl, h1, h2⟩ := r
    unfold look at e
    split at e
    · rename_i q
      cases e
      subst q
      refine ⟨v, ?_, h1⟩
      show List.lookup h ((h, v) :: hs.zip vs) = _
      simp [List.lookup]
    · rename_i q
      obtain ⟨w, h3, h4⟩ := zip_look h2 e
      refine ⟨w, ?_, h4⟩
      show List.lookup f ((h, v) :: hs.zip vs) = _
      have : (f == h) = false := by simpa using fun z => q z.symm
      simp only [List.lookup, this]
      exact h3
theorem zip_lookO {f : Str} {d : D} : ∀ {fs : List Str} {vs : List V} {os : List O} {fp : List Addr}, OwL K F H vs os fp → look f fs os = some (.fr d) → ∃ v, (fs.zip vs).lookup f = some v ∧ Rp K F v d
  | [], _, _, _, _, e => by cases e
  | _ :: _, _, [], _, _, e => by cases e
  | h :: hs, _, d' :: ds, _, r, e => by
    obtain ⟨v, vs, f1, f2, rfl, h1, h2, rfl⟩ := r
    unfold look at e
    split at e
    · rename_i q
      cases e
      subst q
      refine ⟨v, ?_, h1.1⟩
      show List.lookup h ((h, v) :: hs.zip vs) = _
      simp [List.lookup]
    · rename_i q
      obtain ⟨w, h3, h4⟩ := zip_lookO h2 e
      refine ⟨w, ?_, h4⟩
      show List.lookup f ((h, v) :: hs.zip vs) = _
      have : (f == h) = false := by simpa using fun z => q z.symm
      simp only [List.lookup, this]
      exact h3
def xFld (C : Addr) (f : Str) (a : XO) : XE := fun g => (a g).bind fun p => match p.1 with
  | .d (.ob C' fs ds) => if C' = C then (look f fs ds).map fun z => (.fr z, p.2) else none
  | .br i => match p.2[i]? with
    | some (some (.ob C' fs os)) => if C' = C then ((look f fs os).bind oFr).map fun z => (.fr z, p.2) else none
    | _ => none
  | _ => none
theorem se_fld {C : Addr} {f : Str} {ta : TE} {ma : XO} (hc : Cls B.K C) (hn : NoAttr B.K C f) (h : SO B ta ma) : SE B (tFld B.K ta f) (xFld C f ma) := by
  intro F H σ g τ o g' r e Q q
  obtain ⟨⟨a, g1⟩, e1, e2⟩ := Option.bind_eq_some_iff.mp e
  refine h F H σ g τ a g1 r e1 _ fun F1 H1 v s1 r1 ok => ?_
  dsimp only at e2
  split at e2
  · rename_i C' fs ds
    split at e2
    · rename_i hC
      subst hC
      obtain ⟨z, e3, e4⟩ := Option.map_eq_some_iff.mp e2
      cases e4
      obtain ⟨x, dx, vs, rfl, h1, h2⟩ := ok
      obtain ⟨w, h3, h4⟩ := zip_look h2 e3
      exact ⟨x, C', dx, _, w, rfl, r1.sub _ _ h1, hc, hn, h3, q F1 H1 w s1 (r1.addFr h4)⟩
    · cases e2
  · rename_i i
    split at e2
    · rename_i C' fs os eg
      split at e2
      · rename_i hC
        subst hC
        obtain ⟨z, e3, e4⟩ := Option.map_eq_some_iff.mp e2
        cases e4
        obtain ⟨c, e5, e6⟩ := Option.bind_eq_some_iff.mp e3
        cases c with
        | fr d =>
          cases e6
          have ok : σ[i]? = some (some v) := ok
          have r2 := r1.take ok eg
          obtain ⟨fp, k1, k2, k3⟩ := r2.headE
          obtain ⟨f1, f2, m1, m2, rfl⟩ := OwE.inv k1
          obtain ⟨x, dx, vs, ff, ex, h1, h2, rfl⟩ := m1
          have ex : v = .ref x := ex
          subst ex
          obtain ⟨w, h3, h4⟩ := zip_lookO h2 e5
          exact ⟨x, C', dx, _, w, rfl, h1, hc, hn, h3, q F1 H1 w s1 (r1.addFr h4)⟩
        | lst _ => cases e6
        | dK _ _ => cases e6
        | dT _ _ => cases e6
        | ob _ _ _ => cases e6
      · cases e2
    · cases e2
  · cases e2
end
end Mi

set_option Elab.async false
set_option linter.all false
set_option maxRecDepth 100000
/-! Mi12: methods called, instances made; code that is never come to. -/
namespace Mi
open PySem PySem.Spec PyProof.Rows L2
section
variable {B : Bs} {F F' H H' : Hp} {σ : L2.St} {g : G} {τ : En} {K : PySem.W.Frag}
theorem zip_noLook {m : Str} : ∀ {fs : List Str} {vs : List V}, m ∉ fs → (fs.zip vs).lookup m = none
  | [], _, _ => rfl
  | _ :: _, [], _ => rfl
  | h :: hs, v :: vs, n => by
    have hne : m ≠ h := fun z => n (by rw [z]; exact List.mem_cons_self)
    have : (m == h) = false := by simpa using hne
    show List.lookup m ((h, v) :: hs.zip vs) = none
    simp only [List.lookup, this]
    exact zip_noLook fun z => n (List.mem_cons_of_mem _ z)
/-- an instance of C that has no field m -/
def obAt (C : Addr) (m : Str) (g : G) : Opd → Bool
  | .d (.ob C' fs _) => decide (C' = C) && decide (m ∉ fs)
  | .br i => match g[i]? with
    | some (some (.ob C' fs _)) => decide (C' = C) && decide (m ∉ fs)
    | some (some (.fr (.ob C' fs _))) => decide (C' = C) && decide (m ∉ fs)
    | _ => false
  | _ => false
theorem obAt_ok {C : Addr} {m : Str} {a : Opd} {v : V} (r : Rel B F H σ g τ) (ok : OpdOk B F σ v a) (h : obAt C m g a = true) : ∃ x dx fs, v = .ref x ∧ H x = some (.ins C dx fs) ∧ fs.lookup m = none := by
  unfold obAt at h
  split at h
  · rename_i C' fs ds
    rw [Bool.and_eq_true, decide_eq_true_eq, decide_eq_true_eq] at h
    obtain ⟨rfl, hm⟩ := h
    obtain ⟨x, dx, vs, rfl, h1, h2⟩ := ok
    exact ⟨x, dx, _, rfl, r.sub _ _ h1, zip_noLook hm⟩
  · rename_i i
    have ok : σ[i]? = some (some v) := ok
    split at h
    · rename_i C' fs os eg
      rw [Bool.and_eq_true, decide_eq_true_eq, decide_eq_true_eq] at h
      obtain ⟨rfl, hm⟩ := h
      obtain ⟨fp, k1, k2, k3⟩ := (r.take ok eg).headE
      obtain ⟨f1, f2, m1, m2, rfl⟩ := OwE.inv k1
      obtain ⟨x, dx, vs, ff, ex, h1, h2, rfl⟩ := m1
      exact ⟨x, dx, _, ex, h1, zip_noLook hm⟩
    · rename_i C' fs ds eg
      rw [Bool.and_eq_true, decide_eq_true_eq, decide_eq_true_eq] at h
      obtain ⟨rfl, hm⟩ := h
      obtain ⟨x, dx, vs, ex, h1, h2⟩ := (r.take ok eg).frd
      exact ⟨x, dx, _, ex, r.sub _ _ h1, zip_noLook hm⟩
    · cases h
  · cases h
def xMeth (C : Addr) (m : Str) (f : List O → Option (O × List O)) (a : XO) (as : XA) : XE := fun g => (a g).bind fun p => if obAt C m p.2 p.1 = true then (as p.2).bind fun q => (pull (p.1 :: q.1) q.2).bind fun s => (f s.1).map fun z => (z.1, push (p.1 :: q.1) z.2 s.2) else none
theorem se_meth {C : Addr} {m : Str} {n : Nat} {f : List O → Option (O × List O)} {E : XK} {te : TE} {me : XO} {ta : TA} {ma : XA} (he : SO B te me) (ha : SA B ta ma) (hl : ∀ os r, f os = some r → os.length = n ∧ r.2.length = n) : SE B (tMeth C m (spM B.K n f) [] E te ta) (xMeth C m f me ma) := by
  intro F H σ g τ o g' rl e Q q
  obtain ⟨⟨a, g1⟩, e1, e2⟩ := Option.bind_eq_some_iff.mp e
  dsimp only at e2
  split at e2
  · rename_i hob
    obtain ⟨⟨as, g2⟩, e3, e4⟩ := Option.bind_eq_some_iff.mp e2
    obtain ⟨⟨os, g3⟩, e5, e6⟩ := Option.bind_eq_some_iff.mp e4
    obtain ⟨⟨r, os'⟩, e7, e8⟩ := Option.map_eq_some_iff.mp e6
    obtain ⟨e9, e10⟩ := Prod.mk.inj e8
    subst e9 e10
    refine he F H σ g τ a g1 rl e1 _ fun F1 H1 v s1 r1 ok1 => ?_
    obtain ⟨x, dx, fs, rfl, hx, hf⟩ := obAt_ok r1 ok1 hob
    refine ⟨x, dx, fs, rfl, hx, hf, ?_⟩
    refine ha F1 H1 σ g1 τ as g2 r1 e3 _ fun F2 H2 vs s2 r2 ok2 => ?_
    have ok : OpdsOk B F2 σ (.ref x :: vs) (a :: as) := ⟨_, _, rfl, ok1.mono s2, ok2⟩
    obtain ⟨r3, l1, l2⟩ := pull_ok r2 ok e5
    obtain ⟨hn, hn2⟩ := hl _ _ e7
    have hE := r3.ent.perm (show (ents σ g3 ++ ((V.ref x :: vs).zip os ++ τ)).Perm ((V.ref x :: vs).zip os ++ (ents σ g3 ++ τ)) by
      rw [← List.append_assoc, ← List.append_assoc]
      exact List.perm_append_comm.append_right τ)
    obtain ⟨fp, k1, k2, k3⟩ := hE
    obtain ⟨f1, f2, m1, m2, rfl⟩ := OwE.split k1
    show spM B.K n f (.ref x :: (vs ++ [])) H2 Q E
    rw [List.append_nil]
    refine ⟨by rw [l1]; exact hn, F2, os, r, os', f1, r2.sub, owE_zip l1 m1, (List.nodup_append.mp k2).1, fun b hb => (k3 b (List.mem_append_left _ hb)).1, e7, fun F' H' v fp' sF sH n' k' ow nd' hn' => ?_⟩
    have r4 := r3.called m1 m2 k2 k3 sF sH n' k' ow nd' hn'
    exact q F' H' v ((s1.trans s2).trans sF) (push_ok ok (by rw [hn2, ← hn]; exact l2) r4)
  · cases e2
/-- C(..), self pinned in __init__ -/
def xMake (C : Addr) (f : List O → Option (O × List O)) (as : XA) : XE := fun g => (as g).bind fun p => (pull p.1 p.2).bind fun q => (f (.ob C [] [] :: q.1)).bind fun z => match z with
  | (.fr .non, o :: os') => some (o, push p.1 os' q.2)
  | _ => none
theorem se_make {C : Addr} {n : Nat} {f : List O → Option (O × List O)} {E : XK} {ta : TA} {ma : XA} (ha : SA B ta ma) (hl : ∀ os r, f os = some r → os.length = n ∧ r.2.length = n) : SE B (tMake C (spM B.K n f) [] E ta) (xMake C f ma) := by
  intro F H σ g τ o g' rl e Q q
  obtain ⟨⟨as, g1⟩, e1, e2⟩ := Option.bind_eq_some_iff.mp e
  obtain ⟨⟨os, g2⟩, e3, e4⟩ := Option.bind_eq_some_iff.mp e2
  obtain ⟨z, e5, e6⟩ := Option.bind_eq_some_iff.mp e4
  dsimp only at e6
  split at e6
  · rename_i o1 os'
    cases e6
    refine ha F H σ g τ as g1 rl e1 _ fun F1 H1 vs s1 r1 ok => fun x dx hx hdx hne => ?_
    have w1 := Grow.own r1.sub hdx (.own x)
    have r2 := r1.grow w1
    have hx2 : upd H1 dx (.own x) x = none := by rw [upd_ne (Ne.symm hne)]; exact hx
    have w2 := Grow.own r2.sub hx2 (.ins C dx [])
    have r3 : Rel B F1 (upd (upd H1 dx (.own x)) x (.ins C dx [])) σ g1 ((.ref x, .ob C [] []) :: τ) := r2.made (fp := [x]) w2 ⟨x, dx, [], [], rfl, upd_same, OwL.nil, rfl⟩ (List.nodup_cons.mpr ⟨List.not_mem_nil, List.nodup_nil⟩) fun b hb => by
      rcases List.mem_singleton.mp hb with rfl
      exact ⟨hx2, r2.sub.free hx2⟩
    obtain ⟨r4, l1, l2⟩ := pull_ok r3 ok e3
    obtain ⟨hn, hn2⟩ := hl _ _ e5
    have r5 : Rel B F1 (upd (upd H1 dx (.own x)) x (.ins C dx [])) σ g2 ((V.ref x :: vs).zip (O.ob C [] [] :: os) ++ τ) := r4.tperm List.perm_middle
    have l3 : (V.ref x :: vs).length = (O.ob C [] [] :: os).length := by rw [List.length_cons, List.length_cons, l1]
    have hE := r5.ent.perm (show (ents σ g2 ++ ((V.ref x :: vs).zip (O.ob C [] [] :: os) ++ τ)).Perm ((V.ref x :: vs).zip (O.ob C [] [] :: os) ++ (ents σ g2 ++ τ)) by
      rw [← List.append_assoc, ← List.append_assoc]
      exact List.perm_append_comm.append_right τ)
    obtain ⟨fp, k1, k2, k3⟩ := hE
    obtain ⟨f1, f2, m1, m2, rfl⟩ := OwE.split k1
    show spM B.K n f (.ref x :: (vs ++ [])) _ _ E
    rw [List.append_nil]
    refine ⟨by rw [l3]; exact hn, F1, _, .fr .non, o :: os', f1, r3.sub, owE_zip l3 m1, (List.nodup_append.mp k2).1, fun b hb => (k3 b (List.mem_append_left _ hb)).1, e5, fun F' H' v fp' sF sH n' k' ow nd' hn' => ?_⟩
    have r6 := r5.called m1 m2 k2 k3 sF sH n' k' ow nd' hn'
    have hv : v = .non := by
      obtain ⟨fa, fb, a1, _, _⟩ := ow.inv
      exact a1.1
    refine ⟨hv, ?_⟩
    have r7 : Rel B F' H' σ g2 (vs.zip os' ++ (.ref x, o) :: τ) := by
      have p : ((V.ref x :: vs).zip (o :: os') ++ (v, .fr .non) :: τ).Perm ((v, .fr .non) :: (vs.zip os' ++ (.ref x, o) :: τ)) := by
        refine List.perm_middle.trans (.cons _ ?_)
        exact List.perm_middle.symm
      exact (r6.tperm p).drop
    refine q F' H' (.ref x) (s1.trans sF) (push_ok ok ?_ r7)
    have a1 : (o :: os').length = n := hn2
    have a2 : (O.ob C [] [] :: os).length = n := hn
    rw [List.length_cons] at a1 a2
    omega
  · cases e6
/-! ### code that is never come to -/
def tNever : TE := fun _ _ _ => False
def sNever : TS := fun _ _ _ => False
theorem pe_no {X : Cx} {e : Expr} : PE X e tNever := ⟨fun _ _ _ _ _ _ h => h.elim⟩
theorem ps_no {X : Cx} {s : Stmt} : PS X s sNever := ⟨fun _ _ _ _ _ _ h => h.elim⟩
def xNo : XE := fun _ => none
def sNo : XS := fun _ => none
theorem se_no : SE B tNever xNo := fun _ _ _ _ _ _ _ _ e => by cases e
theorem ss_no : SS B sNever sNo := fun _ _ _ _ _ _ _ e => by cases e
end
end Mi

set_option Elab.async false
set_option linter.all false
set_option maxRecDepth 100000
/-! Mi13: more of texts; slices; tables of the top; bodies that give out a token. -/
namespace Mi
open PySem PySem.Spec PyProof.Rows L2
section
variable {B : Bs} {F F' H H' : Hp} {σ : L2.St} {g : G} {τ : En} {K : PySem.W.Frag}
/-! ### methods of texts that answer by a value -/
def dM0 (f : Str → D) (c : Str → Bool) (s : Str) (ds : List D) : Option D := match ds with
  | [] => if c s = true then some (f s) else none
  | _ => none
def dM1 (f : Str → Str → D) (c : Str → Bool) (s : Str) (ds : List D) : Option D := match ds with
  | [.str y] => if c s = true then some (f s y) else none
  | _ => none
def dM1I (f : Str → Str → Int → D) (s : Str) (ds : List D) : Option D := match ds with
  | [.str y, .int i] => some (f s y i)
  | _ => none
def dM1II (f : Str → Str → Int → Int → D) (s : Str) (ds : List D) : Option D := match ds with
  | [.str y, .int i, .int j] => some (f s y i j)
  | _ => none
def any1 (_ : Str) : Bool := true
def sz1 (s : Str) : Bool := decide (s.length ≤ sizeLine)
theorem ms_b0 {h : Str → Bool} : MS K (fun x xs H Q => ∃ a, x = V.str a ∧ xs = [] ∧ True ∧ Q (.bl (h a)) H) (dM0 (fun s => .bl (h s)) any1) := by
  intro H s vs ds z hv k
  cases ds with
  | cons d ds => cases k
  | nil =>
    cases k
    obtain rfl : vs = [] := hv
    exact ⟨_, rfl, fun Q q => ⟨s, rfl, rfl, trivial, q⟩⟩
theorem ms_s1 {h : Str → Str → Str} : MS K (fun x xs H Q => ∃ a b, x = V.str a ∧ xs = [V.str b] ∧ a.length ≤ sizeLine ∧ Q (.str (h a b)) H) (dM1 (fun s y => .str (h s y)) sz1) := by
  intro H s vs ds z hv k
  unfold dM1 at k
  split at k
  · rename_i y
    split at k
    · rename_i hc
      cases k
      obtain ⟨v, rfl, hv'⟩ := hv.one
      cases (show v = .str y from hv')
      exact ⟨_, rfl, fun Q q => ⟨s, y, rfl, rfl, of_decide_eq_true hc, q⟩⟩
    · cases k
  · cases k
theorem ms_b1 {h : Str → Str → Bool} : MS K (fun x xs H Q => ∃ a b, x = V.str a ∧ xs = [V.str b] ∧ Q (.bl (h a b)) H) (dM1 (fun s y => .bl (h s y)) any1) := by
  intro H s vs ds z hv k
  unfold dM1 at k
  split at k
  · rename_i y
    cases k
    obtain ⟨v, rfl, hv'⟩ := hv.one
    cases (show v = .str y from hv')
    exact ⟨_, rfl, fun Q q => ⟨s, y, rfl, rfl, q⟩⟩
  · cases k
theorem ms_b1I {h : Str → Str → Int → Bool} : MS K (fun x xs H Q => ∃ (a b : Str) (i : Int), x = V.str a ∧ xs = [V.str b, V.int i] ∧ Q (.bl (h a b i)) H) (dM1I fun s y i => .bl (h s y i)) := by
  intro H s vs ds z hv k
  unfold dM1I at k
  split at k
  · rename_i y i
    cases k
    obtain ⟨v, w, rfl, hv, hw⟩ := hv.two
    cases (show v = .str y from hv)
    cases (show w = .int i from hw)
    exact ⟨_, rfl, fun Q q => ⟨s, y, i, rfl, rfl, q⟩⟩
  · cases k
theorem ms_i1I {h : Str → Str → Int → Int} : MS K (fun x xs H Q => ∃ (a b : Str) (i : Int), x = V.str a ∧ xs = [V.str b, V.int i] ∧ Q (.int (h a b i)) H) (dM1I fun s y i => .int (h s y i)) := by
  intro H s vs ds z hv k
  unfold dM1I at k
  split at k
  · rename_i y i
    cases k
    obtain ⟨v, w, rfl, hv, hw⟩ := hv.two
    cases (show v = .str y from hv)
    cases (show w = .int i from hw)
    exact ⟨_, rfl, fun Q q => ⟨s, y, i, rfl, rfl, q⟩⟩
  · cases k
theorem ms_i1II {h : Str → Str → Int → Int → Int} : MS K (fun x xs H Q => ∃ (a b : Str) (i j : Int), x = V.str a ∧ xs = [V.str b, V.int i, V.int j] ∧ Q (.int (h a b i j)) H) (dM1II fun s y i j => .int (h s y i j)) := by
  intro H s vs ds z hv k
  unfold dM1II at k
  split at k
  · rename_i y i j
    cases k
    obtain ⟨v, r, rfl, hv, hr⟩ := hv
    obtain ⟨w, u, rfl, hw, hu⟩ := hr.two
    cases (show v = .str y from hv)
    cases (show w = .int i from hw)
    cases (show u = .int j from hu)
    exact ⟨_, rfl, fun Q q => ⟨s, y, i, j, rfl, rfl, q⟩⟩
  · cases k
/-! ### x in y, one sign in a text -/
def rIn1 : R2 := fun x y H Q => ∃ (c : Nat) (z : Str), x = .str ⟨#[c]⟩ ∧ y = .str z ∧ Q (.bl (decide (c ∈ z.cps.toList))) H
def rNotIn1 : R2 := fun x y H Q => ∃ (c : Nat) (z : Str), x = .str ⟨#[c]⟩ ∧ y = .str z ∧ Q (.bl (!decide (c ∈ z.cps.toList))) H
theorem op_in1 {X : Cx} : OpR X (compareOp .In) rIn1 := op_in_sign
theorem op_notIn1 {X : Cx} : OpR X (compareOp .NotIn) rNotIn1 := op_notIn_sign
def dInS (d e : D) : Option D := match d, e with
  | .str x, .str y => if x.length = 1 then some (.bl (decide (x.cps.toList.headD 0 ∈ y.cps.toList))) else none
  | _, _ => none
def dNotInS (d e : D) : Option D := match d, e with
  | .str x, .str y => if x.length = 1 then some (.bl (!decide (x.cps.toList.headD 0 ∈ y.cps.toList))) else none
  | _, _ => none
theorem one_sign {x : Str} (h : x.length = 1) : x = ⟨#[x.cps.toList.headD 0]⟩ := by
  obtain ⟨⟨l⟩⟩ := x
  have h : l.length = 1 := h
  match l, h with
  | [c], _ => rfl
theorem s2_inS : S2 K rIn1 dInS := by
  intro H x y d e z hx hy k
  unfold dInS at k
  split at k
  · rename_i a b
    split at k
    · rename_i hl
      cases k
      cases (show x = .str a from hx)
      cases (show y = .str b from hy)
      exact ⟨_, rfl, fun Q q => ⟨a.cps.toList.headD 0, b, by rw [← one_sign hl], rfl, q⟩⟩
    · cases k
  · cases k
theorem s2_notInS : S2 K rNotIn1 dNotInS := by
  intro H x y d e z hx hy k
  unfold dNotInS at k
  split at k
  · rename_i a b
    split at k
    · rename_i hl
      cases k
      cases (show x = .str a from hx)
      cases (show y = .str b from hy)
      exact ⟨_, rfl, fun Q q => ⟨a.cps.toList.headD 0, b, by rw [← one_sign hl], rfl, q⟩⟩
    · cases k
  · cases k
/-! ### e.replace(y, z), y and z written -/
def dRepl (y z : Str) (d : D) : Option D := match d with
  | .str x => if x.length + (x.length + 1) * z.length ≤ 16777216 then some (.str (Txt.replace x y z)) else none
  | _ => none
theorem se_repl {y z : Str} {te : TE} {m : XO} (h : SO B te m) : SE B (CwR.tReplC te y z) (xS1 (dRepl y z) m) := by
  intro F H σ g τ o g' rl e Q q
  obtain ⟨⟨a, g1⟩, e1, e2⟩ := Option.bind_eq_some_iff.mp e
  obtain ⟨d, e3, e4⟩ := Option.bind_eq_some_iff.mp e2
  obtain ⟨w, e5, e6⟩ := Option.map_eq_some_iff.mp e4
  cases e6
  refine h F H σ g τ a g1 rl e1 _ fun F1 H1 v s1 r1 ok1 => ?_
  have rp := r1.view ok1 e3
  unfold dRepl at e5
  split at e5
  · rename_i x
    split at e5
    · rename_i hl
      cases e5
      exact ⟨x, rp, hl, q F1 H1 _ s1 (r1.addFr rfl)⟩
    · cases e5
  · cases e5
/-! ### slices -/
abbrev XPt := G → Option (Option Int × G)
def SPt (B : Bs) (t : TO) (m : XPt) : Prop := ∀ F H σ g τ p g', Rel B F H σ g τ → m g = some (p, g') → ∀ Q : Option Int → Hp → Prop, (∀ F' H', Same F F' → Rel B F' H' σ g' τ → Q p H') → t σ H Q
def pNo : XPt := fun g => some (none, g)
def pEx (m : XO) : XPt := fun g => (m g).bind fun p => match view p.2 p.1 with
  | some (.int i) => some (some i, p.2)
  | _ => none
theorem sp_no : SPt B tNoPart pNo := by
  intro F H σ g τ p g' r e Q q
  cases e
  exact q F H (Same.refl F) r
theorem sp_ex {t : TE} {m : XO} (h : SO B t m) : SPt B (tPart t) (pEx m) := by
  intro F H σ g τ p g' r e Q q
  obtain ⟨⟨a, g1⟩, e1, e2⟩ := Option.bind_eq_some_iff.mp e
  dsimp only at e2
  split at e2
  · rename_i i ei
    cases e2
    refine h F H σ g τ a _ r e1 _ fun F1 H1 v s1 r1 ok1 => ?_
    cases (show v = .int i from r1.view ok1 ei)
    exact ⟨i, rfl, q F1 H1 s1 r1⟩
  · cases e2
def cutD {α : Type} (xs : List α) (lo hi : Option Int) : List α := (xs.drop (HT.sIx xs.length 0 lo)).take (HT.sIx xs.length xs.length hi - HT.sIx xs.length 0 lo)
theorem RpL.cut {vs : List V} {ds : List D} (h : RpL K F vs ds) (lo hi : Option Int) : RpL K F (cutV vs lo hi) (cutD ds lo hi) := by
  unfold cutV cutD
  rw [h.length]
  exact (h.drop _).take _
/-- a slice of a text, a tuple or a list -/
def dSl (d : D) (lo hi : Option Int) : Option O := match d with
  | .str s => if s.length ≤ sizeLine then some (.fr (.str (Txt.slice s lo hi))) else none
  | .tup ds => some (.fr (.tup (cutD ds lo hi)))
  | .lst ds => some (.lst ((cutD ds lo hi).map O.fr))
  | _ => none
def rSlAll (K : PySem.W.Frag) : V → Option Int → Option Int → Hp → VK → Prop := fun x lo hi H Q => C8.rSlX x lo hi H Q ∨ rSlA K x lo hi H Q ∨ rSlL K x lo hi H Q
theorem sl_all {X : Cx} : SlR X (rSlAll X.K) := SlR.or C8.sl_txt (SlR.or sl_tupA sl_list)
def xSl (a : XO) (lo hi : XPt) : XE := fun g => (a g).bind fun p => (opdD p.1).bind fun d => (lo p.2).bind fun l => (hi l.2).bind fun h => (dSl d l.1 h.1).map fun z => (z, h.2)
theorem cutD_whole {α : Type} (xs : List α) (lo hi : Option Int) (h1 : HT.sIx xs.length 0 lo = 0) (h2 : HT.sIx xs.length xs.length hi = xs.length) : cutD xs lo hi = xs := by
  unfold cutD
  rw [h1, h2, List.drop_zero, Nat.sub_zero, List.take_length]
theorem se_sl {te : TE} {tl th : TO} {a : XO} {lo hi : XPt} (ha : SO B te a) (hl : SPt B tl lo) (hh : SPt B th hi) : SE B (tSl (rSlAll B.K) te tl th) (xSl a lo hi) := by
  intro F H σ g τ o g' rl e Q q
  obtain ⟨⟨p, g1⟩, e1, e2⟩ := Option.bind_eq_some_iff.mp e
  obtain ⟨d, e3, e4⟩ := Option.bind_eq_some_iff.mp e2
  obtain ⟨⟨l, g2⟩, e5, e6⟩ := Option.bind_eq_some_iff.mp e4
  obtain ⟨⟨h, g3⟩, e7, e8⟩ := Option.bind_eq_some_iff.mp e6
  obtain ⟨z, e9, e10⟩ := Option.map_eq_some_iff.mp e8
  cases e10
  refine ha F H σ g τ p g1 rl e1 _ fun F1 H1 v s1 r1 ok1 => ?_
  refine hl F1 H1 σ g1 τ l g2 r1 e5 _ fun F2 H2 s2 r2 => ?_
  refine hh F2 H2 σ g2 τ h g3 r2 e7 _ fun F3 H3 s3 r3 => ?_
  have rp : Rp B.K F3 v d := by
    cases p with
    | d x => cases e3; exact Rp.mono (s2.trans s3) _ _ ok1
    | br i => cases e3
  unfold dSl at e9
  split at e9
  · rename_i s
    split at e9
    · rename_i hz
      cases e9
      exact .inl ⟨s, rp, hz, q F3 H3 _ ((s1.trans s2).trans s3) (r3.addFr rfl)⟩
    · cases e9
  · rename_i ds
    cases e9
    obtain ⟨x, vs, rfl, h1, h2⟩ := rp
    have hs := Same.sqT r3.sub h1
    refine .inr (.inl ⟨x, vs, rfl, hs, fun hw => ?_, fun _ y hy => ?_⟩)
    · refine q F3 H3 (.ref x) ((s1.trans s2).trans s3) (r3.addFr ⟨x, vs, rfl, h1, ?_⟩)
      rw [cutD_whole ds _ _ (by rw [← h2.length]; exact hw.1) (by rw [← h2.length]; exact hw.2)]
      exact h2
    · exact made_tup (K := B.K) r3.sub hy (h2.cut _ _) fun F4 H4 w fp gr ow nd nw => q F4 H4 w (((s1.trans s2).trans s3).trans gr.f) (r3.made gr ow nd nw)
  · rename_i ds
    cases e9
    obtain ⟨x, vs, rfl, h1, h2⟩ := rp
    refine .inr (.inr ⟨x, vs, rfl, SqL.of (r3.sub _ _ h1), fun y hy => ?_⟩)
    exact made_lst (K := B.K) r3.sub hy (h2.cut _ _) fun F4 H4 w fp gr ow nd nw => q F4 H4 w (((s1.trans s2).trans s3).trans gr.f) (r3.made gr ow nd nw)
  · cases e9
end
end Mi

set_option Elab.async false
set_option linter.all false
set_option maxRecDepth 100000
/-! Mi14: tables of the top; augmented assignment; bodies that give out a token. -/
namespace Mi
open PySem PySem.Spec PyProof.Rows L2
section
variable {B : Bs} {F F' H H' : Hp} {σ : L2.St} {g : G} {τ : En} {K : PySem.W.Frag} {P : Program} {w : World} {mg : Str → Option Value} {base : Heap}
/-! ### a table of the top with text keys -/
inductive Tab : List DictEntry → List (Str × D) → Prop where
  | nil : Tab [] []
  | cons {e : DictEntry} {k : Str} {t : Tok} {d : D} {v : V} {es : List DictEntry} {kvs : List (Str × D)} (hk : e.key = .str k t) (hv : toV d = some v) (hr : RelV v e.val) (r : Tab es kvs) : Tab (e :: es) ((k, d) :: kvs)
theorem Tab.find {es : List DictEntry} {kvs : List (Str × D)} (h : Tab es kvs) (x : Str) : match kvs.lookup x with
    | some d => ∃ e v, es.find? (·.key.isStr x) = some e ∧ toV d = some v ∧ RelV v e.val
    | none => es.find? (·.key.isStr x) = none := by
  induction h with
  | nil => rfl
  | @cons e k t d v es kvs hk hv hr r ih =>
    have e1 : e.key.isStr x = (k == x) := by rw [hk]; rfl
    by_cases q : x = k
    · subst q
      have e2 : (x == x) = true := by simp
      simp only [List.lookup, e2, List.find?, e1]
      exact ⟨e, v, rfl, hv, hr⟩
    · have e2 : (x == k) = false := by simpa using q
      have e3 : (k == x) = false := by simpa using fun z => q z.symm
      simp only [List.lookup, e2, List.find?, e1, e3]
      exact ih
theorem Tab.noRef {es : List DictEntry} {kvs : List (Str × D)} (h : Tab es kvs) : es.any (·.refKey) = false := by
  induction h with
  | nil => rfl
  | @cons e k t d v es kvs hk hv hr r ih =>
    rw [List.any_cons, ih]
    unfold DictEntry.refKey
    rw [hk]
    rfl
structure KTab (K : PySem.W.Frag) (w : World) (mg : Str → Option Value) (x : Str) (kvs : List (Str × D)) where
  d : Addr
  es : Array DictEntry
  n : Nat
  g : mg x = some (.ref d)
  k : KDict K w d es n
  t : Tab es.toList kvs
theorem KTab.has {x : Str} {kvs : List (Str × D)} (T : KTab K w mg x kvs) (z : Str) : match kvs.lookup z with
    | some e => ∃ u v, PySem.W.nsIn K T.d z = some (some u) ∧ toV e = some v ∧ RelV v u
    | none => PySem.W.nsIn K T.d z = some none := by
  have h := T.t.find z
  have h2 := T.t.noRef
  have e : PySem.W.nsIn K T.d z = (match T.es.toList.find? (·.key.isStr z) with
      | some e => some (some e.val)
      | none => if T.es.toList.any (·.refKey) then none else some none) := by
    unfold PySem.W.nsIn
    rw [T.k.at_] <;> rfl
  cases q : kvs.lookup z with
  | some d =>
    rw [q] at h
    obtain ⟨en, v, h3, h4, h5⟩ := h
    rw [e, h3]
    exact ⟨en.val, v, rfl, h4, h5⟩
  | none =>
    rw [q] at h
    have h : T.es.toList.find? (·.key.isStr z) = none := h
    rw [e, h, h2]
    rfl
/-- x in TABLE -/
def dInK (kvs : List (Str × D)) (d : D) : Option D := match d with
  | .str z => some (.bl (kvs.lookup z).isSome)
  | _ => none
def rInK (K : PySem.W.Frag) (d : Addr) : R2 := fun x y H Q => ∃ (z : Str) (r : Option Value), x = .str z ∧ y = .ref d ∧ PySem.W.nsIn K d z = some r ∧ Q (.bl r.isSome) H
theorem op_inK {X : Cx} {x : Str} {kvs : List (Str × D)} (T : KTab X.K X.w mg x kvs) : OpR X (compareOp .In) (rInK X.K T.d) := op_in_kd T.k
theorem se_inK {x : Str} {kvs : List (Str × D)} {te : TE} {m : XO} (T : KTab B.K w mg x kvs) (h : SO B te m) : SE B (tOp (rInK B.K T.d) te (tC (.ref T.d))) (xS1 (dInK kvs) m) := by
  intro F H σ g τ o g' rl e Q q
  obtain ⟨⟨a, g1⟩, e1, e2⟩ := Option.bind_eq_some_iff.mp e
  obtain ⟨d, e3, e4⟩ := Option.bind_eq_some_iff.mp e2
  obtain ⟨z, e5, e6⟩ := Option.map_eq_some_iff.mp e4
  cases e6
  refine h F H σ g τ a g1 rl e1 _ fun F1 H1 v s1 r1 ok1 => ?_
  have rp := r1.view ok1 e3
  unfold dInK at e5
  split at e5
  · rename_i y
    cases e5
    have hh := T.has y
    cases q2 : kvs.lookup y with
    | some d2 =>
      rw [q2] at hh
      obtain ⟨u, v2, h3, h4, h5⟩ := hh
      exact ⟨y, some u, rp, rfl, h3, q F1 H1 _ s1 (r1.addFr (by rw [q2]; exact rfl))⟩
    | none =>
      rw [q2] at hh
      exact ⟨y, none, rp, rfl, hh, q F1 H1 _ s1 (r1.addFr (by rw [q2]; exact rfl))⟩
  · cases e5
/-- TABLE[x] -/
def dIxK (kvs : List (Str × D)) (d : D) : Option D := match d with
  | .str z => kvs.lookup z
  | _ => none
theorem se_ixK {x : Str} {kvs : List (Str × D)} {te : TE} {m : XO} (T : KTab B.K w mg x kvs) (h : SO B te m) : SE B (tOp (L2.rIxD B.K w) (tC (.ref T.d)) te) (xS1 (dIxK kvs) m) := by
  intro F H σ g τ o g' rl e Q q
  obtain ⟨⟨a, g1⟩, e1, e2⟩ := Option.bind_eq_some_iff.mp e
  obtain ⟨d, e3, e4⟩ := Option.bind_eq_some_iff.mp e2
  obtain ⟨z, e5, e6⟩ := Option.map_eq_some_iff.mp e4
  cases e6
  refine h F H σ g τ a g1 rl e1 _ fun F1 H1 v s1 r1 ok1 => ?_
  have rp := r1.view ok1 e3
  unfold dIxK at e5
  split at e5
  · rename_i y
    have hh := T.has y
    rw [e5] at hh
    obtain ⟨u, v2, h3, h4, h5⟩ := hh
    exact ⟨T.d, y, v2, rfl, rp, ⟨T.es, T.n, u, T.k.at_, T.k.lit, h3, h5⟩, q F1 H1 _ s1 (r1.addFr (toV_rp h4 F1))⟩
  · cases e5
/-! ### x += e -/
def dAddI (d e : D) : Option D := match d, e with
  | .int i, .int j => some (.int (i + j))
  | _, _ => none
def dSubI (d e : D) : Option D := match d, e with
  | .int i, .int j => some (.int (i - j))
  | _, _ => none
theorem ip2_add : S2i K (ipI fun i j => i + j) dAddI := by
  intro H x y d e z hx hy k
  unfold dAddI at k
  split at k
  · cases k
    exact ⟨_, rfl, fun Q q => ⟨_, _, hx, hy, q⟩⟩
  · cases k
theorem ip2_sub : S2i K (ipI fun i j => i - j) dSubI := by
  intro H x y d e z hx hy k
  unfold dSubI at k
  split at k
  · cases k
    exact ⟨_, rfl, fun Q q => ⟨_, _, hx, hy, q⟩⟩
  · cases k
/-! ### bodies that give out a token -/
theorem ok_fnT {x qual : Str} {st : Stmt} {f : Addr} {fd : FuncData} {N ps : List Str} {k : Nat} {pin : List Nat} {body : XS} (F : Fun K x qual st f fd) (S : FnScope N ps (defScope st)) (hp : ∀ j ∈ pin, j < ps.length) (hnc : ∀ y ∈ (defScope st).names, y.2 ≠ .cell) (h1 : 1 ≤ ps.length)
    (h : ∀ (cdv : Value) (A : Around) (outer : List Env) (s : Shared) (H : Hp) (E : XK), Room k (A.deeper (envOfC qual (defScope st) s.heap.objs.size f cdv)) →
      ∃ t, PSsT (cxOf CX0 P w K mg base N qual (defScope st) f cdv A outer s H E) (defBody st) t ∧ ∀ B : Bs, B.K = K → B.pin = pin → SS B t body) :
    FnOk P w K mg base CX0 (k + 1) f fd ps (spM K ps.length (runF N.length ps.length pin body)) := by
  obtain ⟨oc, od, kV, doc, pm, an, cdv, ct, osl, rfl, l, c⟩ := F.ex
  refine fn_ofT l c S hnc h1 (fun vs H Q E h => h.1) fun A outer s H vs Q E hr hsp => ?_
  obtain ⟨t, ht, hs⟩ := h cdv A outer s H E hr
  exact ⟨t, ht, run_ok hs hp hsp⟩
section
variable {X : Cx} {o e value : Expr} {ta tv te : TE} {f x : Str} {pos pos' : Pos}
theorem pst_fld (ha : PE X o ta) (hv : PET X value tv) (hs : swapsWith value (some (.Attribute o f pos')) pos.line X.env = pure false) : PST X (.Assign [.Attribute o f pos'] value pos) (sFld X.K ta tv f) := by
  intro pins s σ H D h0 I h
  refine plainObj_wpAny_Assign_Attribute (thn (hv pins s σ H _ h0 I h) fun u s1 ⟨y, H1, I1, ry, q⟩ => thn (ha.run pins s1 σ H1 _ I1 q) fun ov s2 ⟨x, H2, I2, rx, a, C, dx, fs, ex, ea, c, n, l, q2⟩ => ?_) hs
  subst ex
  obtain rfl : ov = Value.ref a := rx
  exact setattr_ok I2 ea c n l ry fun s3 I3 => ⟨σ, _, I3, q2⟩
theorem pst_set {i : Nat} (hN : X.N.Nodup) (hi : X.N[i]? = some x) (hx : Loc X.env.scope x) (he : PET X e te)
    (hs : swapsWith e (some (.Name x pos')) pos.line X.env = pure false := by rfl) (hf : X.fn x = true ∨ X.env.scope.names.lookup x = some .local := by first | exact .inl rfl | exact .inr rfl | assumption) :
    PST X (.Assign [.Name x pos'] e pos) (tAsg te (gName i)) := by
  intro pins s σ H D h0 I h
  refine wpAny_Assign_Name (thn (he pins s σ H _ h0 I h) fun u s1 ⟨v, H1, I1, r1, q1⟩ => ?_) hs
  exact store_ok (v := v) I1 hN hi hx r1 (fun s2 I2 => ⟨σ.set i (some v), H1, I2, q1⟩) hf
end
end
end Mi
namespace Mi
open PySem PySem.Spec PyProof.Rows L2
/-- a method as it stands -/
structure MtAt (K : PySem.W.Frag) (C : Addr) (x qual : Str) (st : Stmt) (ps : List Str) where
  f : Addr
  fd : FuncData
  m : Meth K C x f
  F : Fun K x qual st f fd
  b : Binds K fd ps []
theorem mtAt_mk {K : PySem.W.Frag} {C : Addr} {x qual : Str} {st : Stmt} {ps : List Str} {f : Addr} {oc : Value} {od an : Option Addr} {osl : Array (Option Value)} {kV doc pm cdv ct : Value}
    (a : PySem.W.findIn K (.ref C) x = some (some (.ref f))) (i : PySem.W.isFn K (.ref f) = true)
    (l : K.lookup f = some ⟨oc, od, .func (PySem.W.fnOf x qual (defArgs st) (defBody st) (defScope st) .none kV doc pm an cdv ct), osl⟩)
    (c : PySem.W.codeIn K cdv qual = true) (k : PySem.W.keepIn K (.ref f) = true)
    (hb : ∀ (kV doc pm : Value) (an : Option Addr) (cdv ct : Value) (us : List Value), us.length = ps.length → bindArgs (PySem.W.fnOf x qual (defArgs st) (defBody st) (defScope st) .none kV doc pm an cdv ct) ⟨us, []⟩ = pure (ps.zip us)) :
    Nonempty (MtAt K C x qual st ps) := by
  have F := fun_mk (st := st) l c k
  exact ⟨⟨f, _, ⟨a, i, k⟩, F, F.binds hb⟩⟩
/-- a class as it stands -/
structure ClAt (K : PySem.W.Frag) (mg : Str → Option Value) (x : Str) where
  C : Addr
  g : mg x = some (.ref C)
  cl : Cls K C
  mks : PySem.W.makesIn K C = true
  kp : PySem.W.keepIn K (.ref C) = true
theorem clAt_mk {K : PySem.W.Frag} {mg : Str → Option Value} {h : Heap} {x : Str} {C : Addr} (X : K.In h) (G : h.Ns mainGlobals mg) (a : PySem.W.nsIn K mainGlobals x = some (some (.ref C)))
    (pg : PySem.W.plainGet K C Str.empty = true) (hd : PySem.W.hasDictIn K C = true) (po : PySem.W.plainOver K C = true) (sa : PySem.W.findIn K (.ref C) "__setattr__" = some (some (.builtin "object.__setattr__"))) (mk : PySem.W.makesIn K C = true) (kc : PySem.W.keepIn K (.ref C) = true) :
    ∃ c : ClAt K mg x, c.C = C := ⟨⟨C, PySem.W.mg_of X G a, ⟨pg, hd, po, sa⟩, mk, kc⟩, rfl⟩
theorem ktab_mk {K : PySem.W.Frag} {w : World} {mg : Str → Option Value} {h : Heap} {x : Str} {kvs : List (Str × D)} {d : Addr} {es : Array DictEntry} {n : Nat} (X : K.In h) (G : h.Ns mainGlobals mg) (a : PySem.W.nsIn K mainGlobals x = some (some (.ref d)))
    (l : K.lookup d = some ⟨.type "dict", none, .dict es n, #[]⟩) (hl : PySem.W.KeysLit w.params es.toList) (low : (d == sysModules) = false) (t : Tab es.toList kvs) : Nonempty (KTab K w mg x kvs) :=
  ⟨⟨d, es, n, PySem.W.mg_of X G a, ⟨l, hl, low⟩, t⟩⟩
/-- the law's promise: True -/
def spT (K : PySem.W.Frag) : Sp := fun vs H Q _ => ∃ (a : Addr) (ns : List Int), vs = [.ref a] ∧ SqL K H a (ns.map V.int) ∧ ns.length ≤ 63 ∧ (∀ z ∈ ns, Builtin.Int.intBits z ≤ 1048576) ∧ ∀ H', Q (.bl true) H'
theorem FnOk.true {P : Program} {w : World} {K : PySem.W.Frag} {mg : Str → Option Value} {base : Heap} {k : Nat} {fa : Addr} {fd : FuncData} {ps : List Str} {f : List O → Option (O × List O)} (F : FnOk P w K mg base CX0 k fa fd ps (spM K 1 f)) (h : LawOk f) : FnOk P w K mg base CX0 k fa fd ps (spT K) :=
  F.imp fun vs H Q E ⟨a, ns, e, hS, hl, hb, q⟩ => by
    subst e
    obtain ⟨os, ef⟩ := h ns ⟨hl, hb⟩
    refine ⟨rfl, H, [.fr (.scr ns)], .fr (.bl Bool.true), os, [], Same.refl H, OwL.cons (f1 := []) (f2 := []) ⟨⟨a, rfl, hS⟩, rfl⟩ OwL.nil, List.nodup_nil, (fun _ z => nomatch z), ef, fun F' H' v fp' _ _ _ _ ow _ _ => ?_⟩
    obtain ⟨f1, f2, h1, _, _⟩ := ow.inv
    cases (show v = .bl Bool.true from h1.1)
    exact q H'
theorem walk_true {l : PySem.W.OpenLaw} {q : Program} {loose : List Str} {XP : (Str → Option Value) → Heap → Prop} {YP : World → Heap → Prop} {d : DefRec} {K : Params → PySem.W.Frag} {k : Nat} (hn : l.most = some 63) (hdf : d.params.defaults = []) (hr : Room k callerA)
    (hY : ∀ (w : World) (h : Heap), YP w h → (K w.params).In h)
    (F : ∀ (w : World) (mg : Str → Option Value) (fa : Addr) (h : Heap), (K w.params).In h → h.Ns mainGlobals mg → mg d.name = some (.ref fa) →
      ∃ fd : FuncData, (∀ (s : Shared) (u : Value), BindsTo s fd ⟨[u], []⟩ [("script", u)]) ∧ ∀ base : Heap, (K w.params).In base → base.Ns mainGlobals mg → FnOk l.prog w (K w.params) mg base CX0 k fa fd ["script"] (spT (K w.params))) :
    PySem.W.WalkO q loose XP YP l.row.toRowW d [] (fun f vs => PySem.call f vs) :=
  L2.walk_ofB (n := 63) (k := k) (x := "script") (CX := fun _ => CX0) (sp := fun w => spT (K w.params)) hn (by decide) hdf hr hY F (fun _ H a ns hl hb _ hS => ⟨a, ns, rfl, hS, hl, hb, fun _ => rfl⟩) fun _ _ _ _ _ z => z
end Mi

set_option Elab.async false
set_option linter.all false
set_option maxRecDepth 100000
/-! Mi15: mirrors of Mi11 to Mi14 at an open environment. -/
namespace Mi
open PySem PySem.Spec PyProof.Rows L2
section
variable {x : Option O} {g : G}
@[simp] theorem ev_sFldO {C : Addr} {i : Nat} {f : Str} {m : XE} : sFldO C i f m (x :: g) = bd (m (x :: g)) fun p => match p.2[i]? with
  | some (some (.ob C' fs os)) => if C' = C ∧ fs.length = os.length ∧ fs.length < 1000 then some (.nx (p.2.set i (some (.ob C (pF f fs) (pV f p.1 fs os))))) else none
  | _ => none := (rfl)
@[simp] theorem ev_xFld {C : Addr} {f : Str} {a : XO} : xFld C f a (x :: g) = bd (a (x :: g)) fun p => match p.1 with
  | .d (.ob C' fs ds) => if C' = C then mp (look f fs ds) fun z => (.fr z, p.2) else none
  | .br i => match p.2[i]? with
    | some (some (.ob C' fs os)) => if C' = C then mp (bd (look f fs os) oFr) fun z => (.fr z, p.2) else none
    | _ => none
  | _ => none := (rfl)
@[simp] theorem ev_xMeth {C : Addr} {m : Str} {f : List O → Option (O × List O)} {a : XO} {as : XA} : xMeth C m f a as (x :: g) = bd (a (x :: g)) fun p => if obAt C m p.2 p.1 = true then bd (as p.2) fun q => bd (pull (p.1 :: q.1) q.2) fun s => mp (f s.1) fun z => (z.1, push (p.1 :: q.1) z.2 s.2) else none := (rfl)
@[simp] theorem ev_xMake {C : Addr} {f : List O → Option (O × List O)} {as : XA} : xMake C f as (x :: g) = bd (as (x :: g)) fun p => bd (pull p.1 p.2) fun q => bd (f (.ob C [] [] :: q.1)) fun z => match z with
  | (.fr .non, o :: os') => some (o, push p.1 os' q.2)
  | _ => none := (rfl)
@[simp] theorem ev_xMS0 {f : Str → List D → Option D} {a : XO} : xMS0 f a (x :: g) = bd (a (x :: g)) fun p => match p.1 with
  | .d (.str s) => mp (f s []) fun z => (.fr z, p.2)
  | _ => none := (rfl)
@[simp] theorem ev_xSl {a : XO} {lo hi : XPt} : xSl a lo hi (x :: g) = bd (a (x :: g)) fun p => bd (opdD p.1) fun d => bd (lo p.2) fun l => bd (hi l.2) fun h => mp (dSl d l.1 h.1) fun z => (z, h.2) := (rfl)
@[simp] theorem ev_pNo : pNo (x :: g) = some (none, x :: g) := (rfl)
@[simp] theorem ev_pEx {m : XO} : pEx m (x :: g) = bd (m (x :: g)) fun p => match view p.2 p.1 with
  | some (.int i) => some (some i, p.2)
  | _ => none := (rfl)
@[simp] theorem ev_sAug {i : Nat} {f : D → D → Option D} {m : XO} : sAug i f m (x :: g) = (match (x :: g)[i]? with
  | some (some (.fr d)) => bd (m (x :: g)) fun p => bd (view p.2 p.1) fun e => bd (f d e) fun z => if i < p.2.length then some (.nx (p.2.set i (some (.fr z)))) else none
  | _ => none) := (rfl)
@[simp] theorem ev_sNo : sNo (x :: g) = none := (rfl)
@[simp] theorem ev_xNo : xNo (x :: g) = none := (rfl)
@[simp] theorem dAddI_int {i j : Int} : dAddI (.int i) (.int j) = some (.int (i + j)) := (rfl)
@[simp] theorem dSubI_int {i j : Int} : dSubI (.int i) (.int j) = some (.int (i - j)) := (rfl)
@[simp] theorem dM0_ev {f : Str → D} {c : Str → Bool} {s : Str} : dM0 f c s [] = if c s = true then some (f s) else none := (rfl)
@[simp] theorem dM1_ev {f : Str → Str → D} {c : Str → Bool} {s y : Str} : dM1 f c s [.str y] = if c s = true then some (f s y) else none := (rfl)
@[simp] theorem dM1I_ev {f : Str → Str → Int → D} {s y : Str} {i : Int} : dM1I f s [.str y, .int i] = some (f s y i) := (rfl)
@[simp] theorem dM1II_ev {f : Str → Str → Int → Int → D} {s y : Str} {i j : Int} : dM1II f s [.str y, .int i, .int j] = some (f s y i j) := (rfl)
@[simp] theorem any1_ev {s : Str} : any1 s = true := (rfl)
@[simp] theorem dTupOf_lst {es : List D} : dTupOf [.lst es] = some (.fr (.tup es)) := (rfl)
@[simp] theorem dTupOf_tup {es : List D} : dTupOf [.tup es] = some (.fr (.tup es)) := (rfl)
@[simp] theorem dSl_str {s : Str} {lo hi : Option Int} : dSl (.str s) lo hi = if s.length ≤ sizeLine then some (.fr (.str (Txt.slice s lo hi))) else none := (rfl)
@[simp] theorem dInK_str {kvs : List (Str × D)} {z : Str} : dInK kvs (.str z) = some (.bl (kvs.lookup z).isSome) := (rfl)
@[simp] theorem dIxK_str {kvs : List (Str × D)} {z : Str} : dIxK kvs (.str z) = kvs.lookup z := (rfl)
@[simp] theorem obAt_d {C C' : Addr} {m : Str} {fs : List Str} {ds : List D} : obAt C m g (.d (.ob C' fs ds)) = (decide (C' = C) && decide (m ∉ fs)) := (rfl)
end
end Mi


set_option Elab.async false
set_option linter.all false
set_option maxRecDepth 100000
set_option maxHeartbeats 4000000
namespace Lw
open PySem PySem.Spec PyProof.Rows L2 Mi
def b_is_number : XS :=
  (sRet (xAndV (oE (xIsi isInt (oVar 0))) (xNotV (oE (xIsi isBool (oVar 0))))))
def m_is_number : List O → Option (O × List O) := runF 1 1 [0] b_is_number
theorem m_len_is_number {os : List O} {r : O × List O} (e : m_is_number os = some r) : os.length = 1 ∧ r.2.length = 1 := runF_len e
def b_is_ratio : XS :=
  (sSeq (sIf (xOr (xNot (xTru (oE (xIsi isTup (oVar 0))))) (xB (oE (xS2 dNe (oE (xSN dLen (aCons (oVar 0) aNil))) (oE (eC (.int 2))))))) (sRet (eC (.bl false))) sNext)
    (sSeq (sAsg (eVar 0) (gTp 2 (gsCons (gN 1) (gsCons (gN 2) gsNil))))
    (sRet (xAndV (oE (xCall m_is_number (aCons (oVar 1) aNil))) (xAndV (oE (xCall m_is_number (aCons (oVar 2) aNil))) (xAndV (oE (xS2 dGe (oVar 2) (oE (eC (.int 1))))) (xS2 dEq (oE (xSN dGcd (aCons (oVar 1) (aCons (oVar 2) aNil)))) (oE (eC (.int 1))))))))))
def m_is_ratio : List O → Option (O × List O) := runF 3 1 [0] b_is_ratio
theorem m_len_is_ratio {os : List O} {r : O × List O} (e : m_is_ratio os = some r) : os.length = 1 ∧ r.2.length = 1 := runF_len e
def b_is_typed : XS :=
  (sRet (xAndV (oE (xCall m_is_ratio (aCons (oVar 0) aNil))) (xAndV (oE (xS2 dLe (oE (xSN dAbs (aCons (oE (xIx dIx oIx (oVar 0) (oE (eC (.int 0))))) aNil))) (oE (eC (.int 1000000))))) (xS2 dLe (oE (xIx dIx oIx (oVar 0) (oE (eC (.int 1))))) (oE (eC (.int 1000)))))))
def m_is_typed : List O → Option (O × List O) := runF 1 1 [0] b_is_typed
theorem m_len_is_typed {os : List O} {r : O × List O} (e : m_is_typed os = some r) : os.length = 1 ∧ r.2.length = 1 := runF_len e
def b_ratio : XS :=
  (sSeq (sAsg (xSN dGcd (aCons (oVar 0) (aCons (oVar 1) aNil))) (gN 2))
    (sSeq (sIf (xB (oE (xS2 dLt (oVar 1) (oE (eC (.int 0)))))) (sAsg (xS1 dNeg (oVar 2)) (gN 2)) sNext)
    (sRet (xTup (aCons (oE (xS2 dFdiv (oVar 0) (oVar 2))) (aCons (oE (xS2 dFdiv (oVar 1) (oVar 2))) aNil))))))
def m_ratio : List O → Option (O × List O) := runF 3 2 [0, 1] b_ratio
theorem m_len_ratio {os : List O} {r : O × List O} (e : m_ratio os = some r) : os.length = 2 ∧ r.2.length = 2 := runF_len e
def b_plus : XS :=
  (sRet (xCall m_ratio (aCons (oE (xA2 dAdd (oE (xA2 dMul (oE (xIx dIx oIx (oVar 0) (oE (eC (.int 0))))) (oE (xIx dIx oIx (oVar 1) (oE (eC (.int 1))))))) (oE (xA2 dMul (oE (xIx dIx oIx (oVar 1) (oE (eC (.int 0))))) (oE (xIx dIx oIx (oVar 0) (oE (eC (.int 1))))))))) (aCons (oE (xA2 dMul (oE (xIx dIx oIx (oVar 0) (oE (eC (.int 1))))) (oE (xIx dIx oIx (oVar 1) (oE (eC (.int 1))))))) aNil))))
def m_plus : List O → Option (O × List O) := runF 2 2 [0, 1] b_plus
theorem m_len_plus {os : List O} {r : O × List O} (e : m_plus os = some r) : os.length = 2 ∧ r.2.length = 2 := runF_len e
def b_minus : XS :=
  (sRet (xCall m_ratio (aCons (oE (xS2 dSub (oE (xA2 dMul (oE (xIx dIx oIx (oVar 0) (oE (eC (.int 0))))) (oE (xIx dIx oIx (oVar 1) (oE (eC (.int 1))))))) (oE (xA2 dMul (oE (xIx dIx oIx (oVar 1) (oE (eC (.int 0))))) (oE (xIx dIx oIx (oVar 0) (oE (eC (.int 1))))))))) (aCons (oE (xA2 dMul (oE (xIx dIx oIx (oVar 0) (oE (eC (.int 1))))) (oE (xIx dIx oIx (oVar 1) (oE (eC (.int 1))))))) aNil))))
def m_minus : List O → Option (O × List O) := runF 2 2 [0, 1] b_minus
theorem m_len_minus {os : List O} {r : O × List O} (e : m_minus os = some r) : os.length = 2 ∧ r.2.length = 2 := runF_len e
def b_product : XS :=
  (sRet (xCall m_ratio (aCons (oE (xA2 dMul (oE (xIx dIx oIx (oVar 0) (oE (eC (.int 0))))) (oE (xIx dIx oIx (oVar 1) (oE (eC (.int 0))))))) (aCons (oE (xA2 dMul (oE (xIx dIx oIx (oVar 0) (oE (eC (.int 1))))) (oE (xIx dIx oIx (oVar 1) (oE (eC (.int 1))))))) aNil))))
def m_product : List O → Option (O × List O) := runF 2 2 [0, 1] b_product
theorem m_len_product {os : List O} {r : O × List O} (e : m_product os = some r) : os.length = 2 ∧ r.2.length = 2 := runF_len e
def b_quotient : XS :=
  (sRet (xCall m_ratio (aCons (oE (xA2 dMul (oE (xIx dIx oIx (oVar 0) (oE (eC (.int 0))))) (oE (xIx dIx oIx (oVar 1) (oE (eC (.int 1))))))) (aCons (oE (xA2 dMul (oE (xIx dIx oIx (oVar 0) (oE (eC (.int 1))))) (oE (xIx dIx oIx (oVar 1) (oE (eC (.int 0))))))) aNil))))
def m_quotient : List O → Option (O × List O) := runF 2 2 [0, 1] b_quotient
theorem m_len_quotient {os : List O} {r : O × List O} (e : m_quotient os = some r) : os.length = 2 ∧ r.2.length = 2 := runF_len e
def b_compare : XS :=
  (sSeq (sAsg (xA2 dMul (oE (xIx dIx oIx (oVar 0) (oE (eC (.int 0))))) (oE (xIx dIx oIx (oVar 1) (oE (eC (.int 1)))))) (gN 2))
    (sSeq (sAsg (xA2 dMul (oE (xIx dIx oIx (oVar 1) (oE (eC (.int 0))))) (oE (xIx dIx oIx (oVar 0) (oE (eC (.int 1)))))) (gN 3))
    (sSeq (sIf (xB (oE (xS2 dEq (oVar 2) (oVar 3)))) (sRet (eC (.int 0))) sNext)
    (sRet (xIf (xB (oE (xS2 dLt (oVar 2) (oVar 3)))) (xS1 dNeg (oE (eC (.int 1)))) (eC (.int 1)))))))
def m_compare : List O → Option (O × List O) := runF 4 2 [0, 1] b_compare
theorem m_len_compare {os : List O} {r : O × List O} (e : m_compare os = some r) : os.length = 2 ∧ r.2.length = 2 := runF_len e
def b_write_ratio : XS :=
  (sSeq (sIf (xB (oE (xS2 dEq (oE (xIx dIx oIx (oVar 0) (oE (eC (.int 1))))) (oE (eC (.int 1)))))) (sRet (xS1 dFmt (oE (xIx dIx oIx (oVar 0) (oE (eC (.int 0))))))) sNext)
    (sRet (xJoined [(oE (xS1 dFmt (oE (xIx dIx oIx (oVar 0) (oE (eC (.int 0))))))), (oE (eC (.str (PySem.Str.ofString "/")))), (oE (xS1 dFmt (oE (xIx dIx oIx (oVar 0) (oE (eC (.int 1)))))))])))
def m_write_ratio : List O → Option (O × List O) := runF 1 1 [0] b_write_ratio
theorem m_len_write_ratio {os : List O} {r : O × List O} (e : m_write_ratio os = some r) : os.length = 1 ∧ r.2.length = 1 := runF_len e
def b__law_cell : XS :=
  (sSeq (sIf (xB (oE (xS2 dLt (oVar 1) (oE (xSN dLen (aCons (oVar 0) aNil)))))) (sRet (xIx dIx oIx (oVar 0) (oVar 1))) sNext)
    (sRet (eC (.int 0))))
def m__law_cell : List O → Option (O × List O) := runF 2 2 [0, 1] b__law_cell
theorem m_len__law_cell {os : List O} {r : O × List O} (e : m__law_cell os = some r) : os.length = 2 ∧ r.2.length = 2 := runF_len e
def b__law_digits_2 : XS :=
  (sIf (xB (oE (xS2 dGt (oVar 5) (oE (eC (.int 0)))))) (sSeq (sDrop (xApp 3 (xS2 dMod (oE (xSN dIntOf (aCons (oVar 5) aNil))) (oE (eC (.int 1000))))))
    (sAsg (xS2 dFdiv (oVar 5) (oE (eC (.int 1000)))) (gN 5))) sNext)
def b__law_digits_3 : XS :=
  (sSeq (sAsg (xS2 dMod (oE (xSN dIntOf (aCons (oE (xA2 dAdd (oE (xA2 dAdd (oE (xA2 dMul (oE (eVar 7)) (oE (eC (.int 16807))))) (oE (xA2 dMul (oE (eC (.int 7))) (oE (eVar 6)))))) (oE (eC (.int 1))))) aNil))) (oE (eC (.int 2147483647)))) (gN 7))
    (sDrop (xApp 3 (xS2 dMod (oE (xSN dIntOf (aCons (oE (xS2 dFdiv (oVar 7) (oE (eC (.int 997))))) aNil))) (oE (eC (.int 1000)))))))
def b__law_digits_1 : XS :=
  (sSeq (sAsg (xCall m__law_cell (aCons (oVar 0) (aCons (oVar 4) aNil))) (gN 5))
    (sSeq (sIf (xB (oE (xS2 dLt (oVar 5) (oE (eC (.int 0)))))) (sAsg (xS2 dSub (oE (eC (.int 1))) (oE (xA2 dMul (oE (eC (.int 2))) (oE (eVar 5))))) (gN 5)) sNext)
    (sSeq (sIf (xB (oE (xS2 dGt (oE (xSN dLen (aCons (oVar 3) aNil))) (oE (eC (.int 1500)))))) sBrk sNext)
    (sIf (xB (oE (xS2 dGe (oVar 5) (oE (xS2 dPow (oE (eC (.int 10))) (oE (eC (.int 18)))))))) (sFor (iR1 (oE (eC (.int 60)))) (gN 6) b__law_digits_2) (sSeq (sAsg (xS2 dMod (oE (xSN dIntOf (aCons (oE (xA2 dAdd (oE (xA2 dAdd (oE (xA2 dMul (oE (eVar 5)) (oE (eC (.int 48271))))) (oE (xA2 dMul (oE (eVar 4)) (oE (eC (.int 69621))))))) (oE (eC (.int 11))))) aNil))) (oE (eC (.int 2147483647)))) (gN 7))
    (sFor (iR1 (oE (eC (.int 12)))) (gN 6) b__law_digits_3))))))
def b__law_digits : XS :=
  (sSeq (sAsg (xLst aNil) (gN 3))
    (sSeq (sFor (iR2 (oVar 1) (oVar 2)) (gN 4) b__law_digits_1)
    (sRet (eMove 3))))
def m__law_digits : List O → Option (O × List O) := runF 8 3 [0, 1, 2] b__law_digits
theorem m_len__law_digits {os : List O} {r : O × List O} (e : m__law_digits os = some r) : os.length = 3 ∧ r.2.length = 3 := runF_len e
def b__law_draw : XS :=
  (sSeq (sAsg (xIx dIx oIx (oVar 0) (oE (eC (.int 1)))) (gN 2))
    (sSeq (sAsg (xA2 dAdd (oE (eVar 2)) (oE (eC (.int 1)))) (gSetL 0 (oE (eC (.int 1)))))
    (sSeq (sIf (xB (oE (xS2 dLt (oVar 2) (oE (xSN dLen (aCons (oE (xIx dIx oIx (oVar 0) (oE (eC (.int 0))))) aNil)))))) (sRet (xS2 dMod (oE (xSN dIntOf (aCons (oE (xIx dIx oIx (oE (xIx dIx oIx (oVar 0) (oE (eC (.int 0))))) (oVar 2))) aNil))) (oVar 1))) sNext)
    (sRet (xS2 dMod (oE (xSN dIntOf (aCons (oE (xA2 dMul (oE (eVar 2)) (oE (eC (.int 7))))) aNil))) (oVar 1))))))
def m__law_draw : List O → Option (O × List O) := runF 3 2 [0, 1] b__law_draw
theorem m_len__law_draw {os : List O} {r : O × List O} (e : m__law_draw os = some r) : os.length = 2 ∧ r.2.length = 2 := runF_len e
def b__law_pick : XS :=
  (sRet (xIx dIx oIx (oVar 1) (oE (xS2 dMod (oE (xSN dIntOf (aCons (oE (xCall m__law_draw (aCons (oVar 0) (aCons (oE (eC (.int 900))) aNil)))) aNil))) (oE (xSN dLen (aCons (oVar 1) aNil)))))))
def m__law_pick : List O → Option (O × List O) := runF 2 2 [0, 1] b__law_pick
theorem m_len__law_pick {os : List O} {r : O × List O} (e : m__law_pick os = some r) : os.length = 2 ∧ r.2.length = 2 := runF_len e
def b__law_like (m__law_like : Nat → List O → Option (O × List O)) (n : Nat) : XS :=
  (sSeq (sIf (xTru (oE (xIsi isTup (oVar 1)))) (sSeq (sIf (xOr (xNot (xTru (oE (xIsi isTup (oVar 0))))) (xB (oE (xS2 dNe (oE (xSN dLen (aCons (oVar 0) aNil))) (oE (xSN dLen (aCons (oVar 1) aNil))))))) (sRet (eC (.bl false))) sNext)
    (sRet (xS2 dEq (oE (eLc (iR1 (oE (xSN dLen (aCons (oVar 1) aNil)))) (gN 2) (xNot (xTru (oE (xCall (m__law_like n) (aCons (oE (xIx dIx oIx (oVar 0) (oVar 2))) (aCons (oE (xIx dIx oIx (oVar 1) (oVar 2))) aNil)))))) (eC (.int 1)) [2])) (oE (xLst aNil))))) sNext)
    (sSeq (sIf (xB (oE (xS2 dIsN (oVar 1) (oE (eC .non))))) (sRet (xS2 dIsN (oVar 0) (oE (eC .non)))) sNext)
    (sSeq (sIf (xB (oE (xS2 dIsB (oVar 1) (oE (eC (.bl true)))))) (sRet (xS2 dIsB (oVar 0) (oE (eC (.bl true))))) sNext)
    (sSeq (sIf (xB (oE (xS2 dIsB (oVar 1) (oE (eC (.bl false)))))) (sRet (xS2 dIsB (oVar 0) (oE (eC (.bl false))))) sNext)
    (sSeq (sIf (xTru (oE (xIsi isStr (oVar 1)))) (sRet (xAndV (oE (xIsi isStr (oVar 0))) (xS2 dEq (oE (xMS dJoin (oE (eC (.str (PySem.Str.ofString "")))) (aCons (oE (xLst (aCons (oE (eVar 0)) aNil))) aNil))) (oVar 1)))) sNext)
    (sRet (xAndV (oE (xIsi isInt (oVar 0))) (xAndV (oE (xNotV (oE (xIsi isBool (oVar 0))))) (xS2 dEq (oVar 0) (oVar 1))))))))))
def m__law_like : Nat → List O → Option (O × List O)
  | 0 => fun _ => none
  | n + 1 => runF 3 2 [0, 1] (b__law_like (fun _ => m__law_like n) n)
theorem m_len__law_like : ∀ (n : Nat) {os : List O} {r : O × List O}, m__law_like n os = some r → os.length = 2 ∧ r.2.length = 2
  | 0, _, _, e => by cases e
  | n + 1, _, _, e => runF_len e
def m__law_like_8 : List O → Option (O × List O) := m__law_like 8
theorem m_len__law_like_8 {os : List O} {r : O × List O} (e : m__law_like_8 os = some r) : os.length = 2 ∧ r.2.length = 2 := m_len__law_like 8 e
noncomputable def b__law_gcd_1 : XS :=
  (sPar 0 1 (aCons (oE (eVar 1)) (aCons (oE (xS2 dMod (oE (xSN dIntOf (aCons (oVar 0) aNil))) (oVar 1))) aNil)))
noncomputable def b__law_gcd : XS :=
  (sSeq (sWhile (xB (oE (xS2 dNe (oVar 1) (oE (eC (.int 0)))))) b__law_gcd_1)
    (sRet (eMove 0)))
noncomputable def m__law_gcd : List O → Option (O × List O) := runF 2 2 [] b__law_gcd
theorem m_len__law_gcd {os : List O} {r : O × List O} (e : m__law_gcd os = some r) : os.length = 2 ∧ r.2.length = 2 := runF_len e
noncomputable def b__law_ratio : XS :=
  (sSeq (sAsg (xCall m__law_gcd (aCons (oE (xSN dAbs (aCons (oVar 0) aNil))) (aCons (oVar 1) aNil))) (gN 2))
    (sRet (xTup (aCons (oE (xS2 dFdiv (oVar 0) (oVar 2))) (aCons (oE (xS2 dFdiv (oVar 1) (oVar 2))) aNil)))))
noncomputable def m__law_ratio : List O → Option (O × List O) := runF 3 2 [0, 1] b__law_ratio
theorem m_len__law_ratio {os : List O} {r : O × List O} (e : m__law_ratio os = some r) : os.length = 2 ∧ r.2.length = 2 := runF_len e
end Lw

set_option Elab.async false
set_option linter.all false
set_option maxRecDepth 100000
/-! Ls: what the helpers of the laws answer. -/
namespace Lw
open PySem PySem.Spec PyProof.Rows L2 Mi
def iL (ds : List Int) : List D := ds.map D.int
def iO (ds : List Int) : List O := ds.map fun i => .fr (.int i)
@[simp] theorem iL_len {ds : List Int} : (iL ds).length = ds.length := List.length_map ..
@[simp] theorem iO_len {ds : List Int} : (iO ds).length = ds.length := List.length_map ..
@[simp] theorem erL_iO : ∀ {ds : List Int}, erL (iO ds) = iL ds
  | [] => by rw [iO, List.map_nil, erL_nil]; rfl
  | d :: ds => by
    show erL (.fr (.int d) :: iO ds) = .int d :: iL ds
    rw [erL_cons, erL_iO, er_fr]
theorem iO_app {ds : List Int} {i : Int} : iO ds ++ [.fr (.int i)] = iO (ds ++ [i]) := by
  unfold iO
  rw [List.map_append]
  rfl
@[simp] theorem iL_map {ds : List Int} : (iL ds).map O.fr = iO ds := by
  unfold iL iO
  rw [List.map_map]
  rfl
theorem iL_get {ds : List Int} {k : Nat} : (iL ds)[k]? = (ds[k]?).map D.int := List.getElem?_map ..
/-! ### cells, digits -/
theorem cell_spec {ns : List Int} {i : Int} (h0 : 0 ≤ i) : Ev (m__law_cell [.fr (.scr ns), .fr (.int i)]) fun p => ∃ z, p.1 = .fr (.int z) ∧ p.2 = [.fr (.scr ns), .fr (.int i)] := by
  by_cases h : i < ns.length
  · obtain ⟨z, hz⟩ : ∃ z, atI ns i = some z := by
      obtain ⟨k, rfl⟩ : ∃ k : Nat, i = k := ⟨i.toNat, by omega⟩
      exact ⟨_, (atI_lt (by omega)).trans (List.getElem?_eq_getElem (by omega))⟩
    simp [m__law_cell, ev_runF, b__law_cell, h, hz]
  · simp [m__law_cell, ev_runF, b__law_cell, h]
def Dig (ds : List Int) : Prop := ∀ d ∈ ds, 0 ≤ d ∧ d < 1000
theorem Dig.app {ds : List Int} {i : Int} (h : Dig ds) : Dig (ds ++ [i.fmod 1000]) := fun d hd => by
  rcases List.mem_append.mp hd with k | k
  · exact h d k
  · cases List.mem_singleton.mp k
    rw [Int.fmod_eq_emod_of_nonneg _ (by decide)]
    omega
theorem iR_60 {x : Option O} {g : G} {n : Int} (h : 0 ≤ n ∧ n < 2 ^ 62) : iR1 (oE (eC (.int n))) (x :: g) = some (rgD 0 n.toNat, x :: g) := by
  simp
  omega
def DP (ns : List Int) (lo hi : Int) : G → Prop := fun g => ∃ ds a b c e, g = [some (.fr (.scr ns)), some (.fr (.int lo)), some (.fr (.int hi)), some (.lst (iO ds)), a, b, c, e] ∧ Dig ds ∧ ds.length ≤ 1600
theorem len_ok {n : Nat} (h : n ≤ 1600) : n < sizeLine := by
  have : (1600 : Nat) < sizeLine := by decide
  omega
theorem loop2 {ns : List Int} {lo hi q y : Int} {c e : Option O} {ds : List Int} (dg : Dig ds) (hb : ds.length ≤ 1500) : Ev (forL (gN 6) b__law_digits_2 (rgD 0 60) [some (.fr (.scr ns)), some (.fr (.int lo)), some (.fr (.int hi)), some (.lst (iO ds)), some (.fr (.int q)), some (.fr (.int y)), c, e]) (Goes (DP ns lo hi)) := by
  let P : Nat → G → Prop := fun k g => ∃ ds y c, g = [some (.fr (.scr ns)), some (.fr (.int lo)), some (.fr (.int hi)), some (.lst (iO ds)), some (.fr (.int q)), some (.fr (.int y)), c, e] ∧ Dig ds ∧ ds.length ≤ 1500 + k
  refine (forR (P := P) ⟨ds, y, c, rfl, dg, hb⟩ ?_).mono ?_
  · rintro k i hk hi g ⟨ds, y, c, rfl, dg, dl⟩
    have hl := len_ok (n := ds.length) (by omega)
    by_cases hy : 0 < y
    · simp [b__law_digits_2, hy, hl, iO_app]
      exact ⟨cdiv_ok (by decide) (by decide), ⟨_, _, _, rfl, dg.app, by simp; omega⟩⟩
    · simp [b__law_digits_2, hy]
      exact ⟨_, _, _, rfl, dg, by omega⟩
  · rintro x ⟨g, rfl, ds, y, c, rfl, dg, dl⟩
    exact ⟨ds, _, _, _, _, rfl, dg, by omega⟩
theorem loop3 {ns : List Int} {lo hi q y z : Int} {c : Option O} {ds : List Int} (dg : Dig ds) (hb : ds.length ≤ 1500) : Ev (forL (gN 6) b__law_digits_3 (rgD 0 12) [some (.fr (.scr ns)), some (.fr (.int lo)), some (.fr (.int hi)), some (.lst (iO ds)), some (.fr (.int q)), some (.fr (.int y)), c, some (.fr (.int z))]) (Goes (DP ns lo hi)) := by
  let P : Nat → G → Prop := fun k g => ∃ ds c z, g = [some (.fr (.scr ns)), some (.fr (.int lo)), some (.fr (.int hi)), some (.lst (iO ds)), some (.fr (.int q)), some (.fr (.int y)), c, some (.fr (.int z))] ∧ Dig ds ∧ ds.length ≤ 1500 + k
  refine (forR (P := P) ⟨ds, c, z, rfl, dg, hb⟩ ?_).mono ?_
  · rintro k i hk hi g ⟨ds, c, z, rfl, dg, dl⟩
    have hl := len_ok (n := ds.length) (by omega)
    simp [b__law_digits_3, hl, iO_app]
    exact ⟨cdiv_ok (by decide) (by decide), ⟨_, _, _, rfl, dg.app, by simp; omega⟩⟩
  · rintro x ⟨g, rfl, ds, c, z, rfl, dg, dl⟩
    exact ⟨ds, _, _, _, _, rfl, dg, by omega⟩
theorem digits_spec {ns : List Int} {lo hi : Int} (h0 : 0 ≤ lo) (h1 : lo < 2 ^ 62) (h2 : -(2 ^ 62) ≤ hi) (h3 : hi < 2 ^ 62) : Ev (m__law_digits [.fr (.scr ns), .fr (.int lo), .fr (.int hi)]) fun p => ∃ ds, p.1 = .lst (iO ds) ∧ Dig ds ∧ ds.length ≤ 1600 ∧ p.2 = [.fr (.scr ns), .fr (.int lo), .fr (.int hi)] := by
  simp [m__law_digits, ev_runF, b__law_digits]
  refine ⟨⟨by omega, by omega, by omega⟩, ?_⟩
  refine (forL_goes (P := DP ns lo hi) ⟨[], none, none, none, none, rfl, fun _ h => absurd h (List.not_mem_nil), by decide⟩ ?_).mono ?_
  · rintro d hd g ⟨ds, a, b, c, e, rfl, dg, dl⟩
    obtain ⟨q, hq, rfl⟩ : ∃ q : Int, 0 ≤ q ∧ d = .int q := by
      obtain ⟨k, hk, rfl⟩ := mem_rgD.mp hd
      exact ⟨_, by omega, rfl⟩
    have hc := cell_spec (ns := ns) hq
    simp [b__law_digits_1]
    refine hc.mono ?_
    rintro ⟨o, os⟩ ⟨z, h1, h2⟩
    cases h1
    cases h2
    simp
    refine Ev.mono (Q := fun a => ∃ y : Int, a = .nx [some (.fr (.scr ns)), some (.fr (.int lo)), some (.fr (.int hi)), some (.lst (iO ds)), some (.fr (.int q)), some (.fr (.int y)), c, e]) (Ev.ite (fun _ => by simp) (fun _ => by simp)) ?_
    rintro _ ⟨y, rfl⟩
    by_cases hb : (1500 : Int) < ds.length
    · simp [hb]
      exact ⟨ds, _, _, _, _, rfl, dg, dl⟩
    · have hb' : ds.length ≤ 1500 := by omega
      by_cases hy : (1000000000000000000 : Int) ≤ y
      · simp [hb, hy]
        exact loop2 dg (by omega)
      · simp [hb, hy]
        exact loop3 dg (by omega)
  · rintro x ⟨g, rfl, ds, a, b, c, d, rfl, dg, dl⟩
    simp
    exact ⟨ds, rfl, dg, dl⟩
/-! ### the box -/
abbrev bx (ds : List Int) (a : Int) : O := .lst [.fr (.lst (iL ds)), .fr (.int a)]
theorem draw_spec {ds : List Int} {a m : Int} (ha : 0 ≤ a) (hm : 0 < m) : Ev (m__law_draw [bx ds a, .fr (.int m)]) fun p => ∃ v, p = (.fr (.int v), [bx ds (a + 1), .fr (.int m)]) ∧ 0 ≤ v ∧ v < m := by
  have hv : ∀ z : Int, 0 ≤ z.fmod m ∧ z.fmod m < m := fun z => by
    rw [Int.fmod_eq_emod_of_nonneg _ (by omega)]
    exact ⟨Int.emod_nonneg _ (by omega), Int.emod_lt_of_pos _ hm⟩
  have hm0 : m ≠ 0 := by omega
  by_cases h : a < ds.length
  · obtain ⟨z, hz⟩ : ∃ z, atI (iL ds) a = some (.int z) := by
      obtain ⟨k, rfl⟩ : ∃ k : Nat, a = k := ⟨a.toNat, by omega⟩
      exact ⟨_, (atI_lt (by rw [iL_len]; omega)).trans (by rw [iL_get, List.getElem?_eq_getElem (by omega)]; rfl)⟩
    simp [m__law_draw, ev_runF, b__law_draw, h, hz, hm0]
    exact hv _
  · simp [m__law_draw, ev_runF, b__law_draw, h, hm0]
    exact hv _
/-- one of some things -/
theorem pick_spec {ds : List Int} {a : Int} {ts : List D} (ha : 0 ≤ a) (ht : ts ≠ []) : Ev (m__law_pick [bx ds a, .fr (.lst ts)]) fun p => ∃ t, p = (.fr t, [bx ds (a + 1), .fr (.lst ts)]) ∧ t ∈ ts := by
  have hl : 0 < ts.length := List.length_pos_iff.mpr ht
  have hl0 : ¬((ts.length : Int) = 0) := by omega
  simp [m__law_pick, ev_runF, b__law_pick]
  refine (draw_spec ha (by decide)).mono ?_
  rintro _ ⟨v, rfl, h3, h4⟩
  obtain ⟨k, hk, e⟩ : ∃ k : Nat, k < ts.length ∧ v.fmod ts.length = k := by
    have e := Int.fmod_eq_emod_of_nonneg v (b := (ts.length : Int)) (by omega)
    have e1 := Int.emod_nonneg v (b := (ts.length : Int)) (by omega)
    have e2 := Int.emod_lt_of_pos v (b := (ts.length : Int)) (by omega)
    exact ⟨(v.fmod ts.length).toNat, by omega, by omega⟩
  have hz : atI ts (v.fmod ts.length) = some ts[k] := by
    rw [e]
    exact (atI_lt hk).trans (List.getElem?_eq_getElem hk)
  simp [hl0, hz, ht]
theorem pick_specO {ds : List Int} {a : Int} {ts : List D} (ha : 0 ≤ a) (ht : ts ≠ []) : Ev (m__law_pick [bx ds a, .lst (ts.map O.fr)]) fun p => ∃ t, p = (.fr t, [bx ds (a + 1), .lst (ts.map O.fr)]) ∧ t ∈ ts := by
  have hl : 0 < ts.length := List.length_pos_iff.mpr ht
  have hl0 : ¬((ts.length : Int) = 0) := by omega
  have he : ∀ us : List D, erL (us.map O.fr) = us := fun us => by
    induction us with
    | nil => rw [List.map_nil, erL_nil]
    | cons u us ih => rw [List.map_cons, erL_cons, er_fr, ih]
  simp [m__law_pick, ev_runF, b__law_pick]
  refine (draw_spec ha (by decide)).mono ?_
  rintro _ ⟨v, rfl, h3, h4⟩
  obtain ⟨k, hk, e⟩ : ∃ k : Nat, k < ts.length ∧ v.fmod ts.length = k := by
    have e := Int.fmod_eq_emod_of_nonneg v (b := (ts.length : Int)) (by omega)
    have e1 := Int.emod_nonneg v (b := (ts.length : Int)) (by omega)
    have e2 := Int.emod_lt_of_pos v (b := (ts.length : Int)) (by omega)
    exact ⟨(v.fmod ts.length).toNat, by omega, by omega⟩
  have hz : atI (ts.map O.fr) (v.fmod ts.length) = some (.fr ts[k]) := by
    rw [e, atI_lt (by rw [List.length_map]; exact hk), List.getElem?_map, List.getElem?_eq_getElem hk]
    rfl
  simp [hl0, hz, ht, he]
/-! ### told and due -/
def LikeOk : Nat → D → Prop
  | 0, _ => False
  | n + 1, .tup ds => ds.length ≤ 1000000 ∧ ∀ d ∈ ds, LikeOk n d
  | _ + 1, .str s => s.length ≤ 16777216
  | _ + 1, .int _ => True
  | _ + 1, .bl _ => True
  | _ + 1, .non => True
  | _, _ => False
@[simp] theorem likeOk_tup {n : Nat} {ds : List D} : LikeOk (n + 1) (.tup ds) ↔ ds.length ≤ 1000000 ∧ ∀ d ∈ ds, LikeOk n d := .rfl
@[simp] theorem likeOk_str {n : Nat} {s : Str} : LikeOk (n + 1) (.str s) ↔ s.length ≤ 16777216 := .rfl
@[simp] theorem likeOk_int {n : Nat} {i : Int} : LikeOk (n + 1) (.int i) := trivial
@[simp] theorem likeOk_bl {n : Nat} {i : Bool} : LikeOk (n + 1) (.bl i) := trivial
@[simp] theorem likeOk_non {n : Nat} : LikeOk (n + 1) .non := trivial
theorem like_spec : ∀ {n : Nat} {d : D}, LikeOk n d → Ev (m__law_like n [.fr d, .fr d]) fun p => p = (.fr (.bl true), [.fr d, .fr d])
  | 0, _, h => h.elim
  | n + 1, .tup ds, h => by
    simp [m__law_like, ev_runF, b__law_like]
    obtain ⟨hl, hd⟩ := h
    refine ⟨by omega, ?_⟩
    refine (lcL_go (P := fun g => ∃ c, g = [some (.fr (.tup ds)), some (.fr (.tup ds)), c]) (f := fun _ => none) ⟨none, rfl⟩ ?_ ?_).mono ?_
    · rintro d hr g ⟨c, rfl⟩
      obtain ⟨k, hk, rfl⟩ := mem_rgD.mp hr
      generalize hq : (0 : Int) + k = q
      have hz : atI ds q = some ds[k] := by
        rw [← hq, Int.zero_add]
        exact (atI_lt hk).trans (List.getElem?_eq_getElem hk)
      simp [hz]
      refine (like_spec (hd _ (List.getElem_mem hk))).mono ?_
      rintro _ rfl
      simp
    · have : (1000000 : Nat) ≤ sizeLine := by decide
      rw [rgD_len]
      exact Nat.le_trans (by simpa using hl) this
    · rintro ⟨os, g⟩ ⟨h1, c, rfl⟩
      have h2 : os = [] := by rw [show os = _ from h1]; simp
      subst h2
      simp
  | n + 1, .str s, h => by
    have h : s.length ≤ 16777216 := h
    have e : dJoin (Str.ofString "") [.lst [.str s]] = some (.str s) := by
      show (if _ then _ else _) = _
      rw [if_pos (by
        have : (Str.ofString "").length = 0 := by decide +kernel
        show (s.length + 0) + 1 * (Str.ofString "").length ≤ _
        omega)]
      have : Txt.join (Str.ofString "") [s] = s := TL.join_eq _ _
      show some (D.str (Txt.join (Str.ofString "") [s])) = _
      rw [this]
    simp [m__law_like, ev_runF, b__law_like, e]
  | n + 1, .int i, h => by
    simp [m__law_like, ev_runF, b__law_like]
  | n + 1, .bl b, h => by
    cases b with
    | true => simp [m__law_like, ev_runF, b__law_like]
    | false => simp [m__law_like, ev_runF, b__law_like]
  | n + 1, .non, h => by
    simp [m__law_like, ev_runF, b__law_like]
/-! ### the greatest common divisor, by its turns -/
theorem gcd_spec {a b : Int} (ha : 0 ≤ a) (hb : 0 ≤ b) : Ev (m__law_gcd [.fr (.int a), .fr (.int b)]) fun p => p = (.fr (.int ((Nat.gcd a.natAbs b.natAbs : Nat) : Int)), [.fr (.int a), .fr (.int b)]) := by
  simp [m__law_gcd, ev_runF, b__law_gcd]
  refine (while_go (fun n g => ∃ x y : Int, g = [some (.fr (.int x)), some (.fr (.int y))] ∧ 0 ≤ x ∧ 0 ≤ y ∧ y.natAbs = n ∧ Nat.gcd x.natAbs y.natAbs = Nat.gcd a.natAbs b.natAbs) (fun x => ∃ y : Int, x = .nx [some (.fr (.int ((Nat.gcd a.natAbs b.natAbs : Nat) : Int))), some (.fr (.int y))]) ?_ ⟨a, b, rfl, ha, hb, rfl, rfl⟩).mono ?_
  · rintro n g ⟨x, y, rfl, hx, hy, hn, hg⟩
    by_cases h0 : y = 0
    · subst h0
      have : (x.natAbs : Int) = x := by omega
      have e : x = ((Nat.gcd a.natAbs b.natAbs : Nat) : Int) := by
        rw [← hg]
        simp
        exact this.symm
      simp [e]
    · simp [h0, b__law_gcd_1]
      have e := Int.fmod_eq_emod_of_nonneg x (b := y) (by omega)
      have e1 := Int.emod_nonneg x (b := y) (by omega)
      have e2 := Int.emod_lt_of_pos x (b := y) (by omega)
      refine ⟨_, ?_, y, x.fmod y, ⟨rfl, rfl⟩, hy, by omega, rfl, ?_⟩
      · omega
      · rw [← hg, e]
        have : (x % y).natAbs = x.natAbs % y.natAbs := by
          rw [Int.natAbs_emod_of_nonneg hx]
        rw [this, Nat.gcd_comm x.natAbs y.natAbs, Nat.gcd_comm y.natAbs]
        exact (Nat.gcd_rec _ _).symm
  · rintro x ⟨y, rfl⟩
    simp
theorem like8 {d : D} (h : LikeOk 8 d) : Ev (m__law_like_8 [.fr d, .fr d]) fun p => p = (.fr (.bl true), [.fr d, .fr d]) := like_spec h
theorem like8' {d e : D} (h : LikeOk 8 d) (k : e = d) : Ev (m__law_like_8 [.fr e, .fr d]) fun p => p = (.fr (.bl true), [.fr e, .fr d]) := by
  subst k
  exact like_spec h
/-- an integer's text -/
def sI (x : Int) : Str := Str.ofString (toString x)
theorem strOf_ok {x : Int} (h : x.natAbs.log2 < 1920) : dStrOf [.int x] = some (.str (sI x)) := if_pos h
theorem fmt_ok {x : Int} (h : x.natAbs.log2 < 1920) : dFmt (.int x) = some (.str (sI x)) := if_pos h
theorem sI_len {x : Int} (h : x.natAbs.log2 < 1920) : (sI x).length ≤ 1921 := by
  have e := int_text_length_le (k := 1920) (by decide) h
  unfold sI
  rw [PySem.ofString_length]
  exact e
theorem app_len (a b : Str) : (a ++ b).length = a.length + b.length := by
  show (a.cps ++ b.cps).size = _
  rw [Array.size_append]
  rfl
end Lw

set_option Elab.async false
set_option linter.all false
set_option maxRecDepth 100000
/-! Tx: texts as lists of code points: replace, find, slices, digits. -/
namespace Tx
open PySem PySem.Spec PyProof.Rows SX
open PySem.StrLaws
theorem joinL_cons {z p : List Nat} : ∀ {ps : List (List Nat)}, ps ≠ [] → TL.joinL z (p :: ps) = p ++ (z ++ TL.joinL z ps)
  | [], h => (h rfl).elim
  | _ :: _, _ => rfl
theorem spl_ne (b : List Nat) : ∀ (l : List Nat) (k : Nat) (acc : List Nat), TL.spl b k acc l ≠ []
  | [], k, acc => by rw [TL.spl_nil]; exact List.cons_ne_nil _ _
  | c :: r, 0, acc => by
    cases h : TL.pre b (c :: r) with
    | true => rw [TL.spl_hit h]; exact List.cons_ne_nil _ _
    | false => rw [TL.spl_miss h]; exact spl_ne b r 0 _
  | c :: r, k + 1, acc => spl_ne b r k acc
theorem repl_S {a b z : List Nat} (hb : b ≠ []) : Txt.replace (S a) (S b) (S z) = S (TL.joinL z (TL.spl b 0 [] a)) := by
  have hy : TL.tl (S b) ≠ [] := hb
  obtain ⟨f, g, hn⟩ := occ_tight (S a) (S b) (TL.len1 hy)
  have key := TL.parts_spl hy _ 0 f (Nat.zero_le _) g hn
  rw [List.drop_zero] at key
  have key : (partsFrom (S a) (S b).length 0 (Builtin.Str.occurrences (S a) (S b) 0 (S a).length ((S a).length + 1))).map TL.tl = TL.spl b 0 [] a := key
  have h0 : ((S b).length == 0) = false := by
    have := TL.len1 hy
    simpa using (by omega : ¬ (S b).length = 0)
  unfold Txt.replace
  rw [h0, Bool.false_and, Bool.or_false]
  by_cases he : (Builtin.Str.occurrences (S a) (S b) 0 (S a).length ((S a).length + 1)).isEmpty = true
  · rw [if_pos he]
    rw [List.isEmpty_iff.mp he] at key
    rw [← key]
    show S a = S (TL.tl (Builtin.Str.strSub (S a) 0 (S a).length))
    rw [sub_whole]
  · rw [if_neg he, glued_eq_join, partsBetween_eq]
    apply TL.ext_tl
    rw [TL.tl_join, key]
/-- one sign for a text -/
def r1 (p : Nat) (z : List Nat) : List Nat → List Nat
  | [] => []
  | c :: r => (if c = p then z else [c]) ++ r1 p z r
theorem join_spl1 (p : Nat) (z : List Nat) : ∀ (l acc : List Nat), TL.joinL z (TL.spl [p] 0 acc l) = acc ++ r1 p z l
  | [], acc => by rw [TL.spl_nil]; show acc = acc ++ []; rw [List.append_nil]
  | c :: r, acc => by
    by_cases h : c = p
    · subst h
      have e : TL.pre [c] (c :: r) = true := by simp [TL.pre]
      rw [TL.spl_hit e, joinL_cons (spl_ne _ _ _ _)]
      show acc ++ (z ++ TL.joinL z (TL.spl [c] 0 [] r)) = acc ++ ((if c = c then z else [c]) ++ r1 c z r)
      rw [join_spl1 c z r [], if_pos rfl, List.nil_append]
    · have e : TL.pre [p] (c :: r) = false := by simp [TL.pre, h]
      rw [TL.spl_miss e, join_spl1 p z r]
      show acc ++ [c] ++ _ = acc ++ ((if c = p then z else [c]) ++ r1 p z r)
      rw [if_neg h, List.append_assoc]
/-- two signs for a text -/
def r2 (p q : Nat) (z : List Nat) : List Nat → List Nat
  | [] => []
  | [c] => [c]
  | c :: d :: r => if c = p ∧ d = q then z ++ r2 p q z r else c :: r2 p q z (d :: r)
theorem join_spl2 (p q : Nat) (z : List Nat) : ∀ (n : Nat) (l acc : List Nat), l.length ≤ n → TL.joinL z (TL.spl [p, q] 0 acc l) = acc ++ r2 p q z l
  | _, [], acc, _ => by rw [TL.spl_nil]; show acc = acc ++ []; rw [List.append_nil]
  | 0, _ :: _, _, h => by cases h
  | n + 1, [c], acc, _ => by
    have e : TL.pre [p, q] [c] = false := by simp [TL.pre]
    rw [TL.spl_miss e, TL.spl_nil]
    rfl
  | n + 1, c :: d :: r, acc, h => by
    by_cases hh : c = p ∧ d = q
    · obtain ⟨rfl, rfl⟩ := hh
      have e : TL.pre [c, d] (c :: d :: r) = true := by simp [TL.pre]
      rw [TL.spl_hit e, joinL_cons (spl_ne _ _ _ _)]
      have e2 : TL.spl [c, d] ([c, d].length - 1) [] (d :: r) = TL.spl [c, d] 0 [] r := rfl
      rw [e2, join_spl2 c d z n r [] (by simp at h; omega)]
      show _ = acc ++ (if c = c ∧ d = d then z ++ r2 c d z r else _)
      rw [if_pos ⟨rfl, rfl⟩, List.nil_append]
    · have e : TL.pre [p, q] (c :: d :: r) = false := by
        have : ¬ (c = p ∧ d = q) := hh
        simp only [TL.pre, List.length_cons, List.length_nil, List.take_succ_cons, List.take_zero]
        simpa using hh
      rw [TL.spl_miss e, join_spl2 p q z n (d :: r) _ (by simp at h ⊢; omega)]
      show acc ++ [c] ++ _ = acc ++ (if c = p ∧ d = q then _ else c :: r2 p q z (d :: r))
      rw [if_neg hh, List.append_assoc]
      rfl
theorem repl1 (p : Nat) (z l : List Nat) : Txt.replace (S l) (S [p]) (S z) = S (r1 p z l) := by
  rw [repl_S (List.cons_ne_nil _ _), join_spl1]
  rfl
theorem repl2 (p q : Nat) (z l : List Nat) : Txt.replace (S l) (S [p, q]) (S z) = S (r2 p q z l) := by
  rw [repl_S (List.cons_ne_nil _ _), join_spl2 p q z l.length l [] (Nat.le_refl _)]
  rfl
/-! ### signs in a row: a plain sign, or a bar and a sign behind it -/
inductive Tk where
  | c (x : Nat) | e (x : Nat)
def Tk.raw : Tk → List Nat
  | .c x => [x]
  | .e x => [92, x]
def Tk.ok : Tk → Prop
  | .c x => x ≠ 92
  | .e x => x = 92 ∨ x = 34 ∨ x = 110
def flat (ts : List Tk) : List Nat := (ts.map Tk.raw).flatten
/-- the escapes of x become z -/
def stg (x : Nat) (z : List Nat) : Tk → List Tk
  | .c y => [.c y]
  | .e y => if y = x then z.map .c else [.e y]
theorem flat_nil : flat [] = [] := rfl
theorem flat_cons (t : Tk) (ts : List Tk) : flat (t :: ts) = t.raw ++ flat ts := rfl
theorem flat_append (a b : List Tk) : flat (a ++ b) = flat a ++ flat b := by
  unfold flat
  rw [List.map_append, List.flatten_append]
theorem flat_c (z : List Nat) : flat (z.map .c) = z := by
  induction z with
  | nil => rfl
  | cons c z ih =>
    show [c] ++ flat (z.map .c) = c :: z
    rw [ih]
    rfl
theorem r2_c {p q y : Nat} {z r : List Nat} (h : y ≠ p) : r2 p q z (y :: r) = y :: r2 p q z r := by
  cases r with
  | nil => rfl
  | cons d r =>
    show (if y = p ∧ d = q then _ else y :: r2 p q z (d :: r)) = _
    rw [if_neg fun k => h k.1]
theorem r2_stg {x : Nat} {z : List Nat} : ∀ {ts : List Tk}, (∀ t ∈ ts, match t with | .c y => y ≠ 92 | .e y => y = x ∨ y ≠ 92) → r2 92 x z (flat ts) = flat (ts.flatMap (stg x z))
  | [], _ => rfl
  | .c y :: ts, h => by
    have h1 : y ≠ 92 := h _ (List.mem_cons_self ..)
    have ih := r2_stg (x := x) (z := z) (ts := ts) fun t ht => h t (List.mem_cons_of_mem _ ht)
    show r2 92 x z (y :: flat ts) = y :: flat (ts.flatMap (stg x z))
    rw [r2_c h1, ih]
  | .e y :: ts, h => by
    have h1 : y = x ∨ y ≠ 92 := h _ (List.mem_cons_self ..)
    have ih := r2_stg (x := x) (z := z) (ts := ts) fun t ht => h t (List.mem_cons_of_mem _ ht)
    show r2 92 x z (92 :: y :: flat ts) = flat (stg x z (.e y) ++ ts.flatMap (stg x z))
    rw [flat_append, ← ih]
    by_cases hy : y = x
    · subst hy
      show (if 92 = 92 ∧ y = y then z ++ r2 92 y z (flat ts) else _) = flat (if y = y then z.map .c else [.e y]) ++ _
      rw [if_pos ⟨rfl, rfl⟩, if_pos rfl, flat_c]
    · have h2 : y ≠ 92 := h1.resolve_left hy
      show (if 92 = 92 ∧ y = x then _ else 92 :: r2 92 x z (y :: flat ts)) = flat (if y = x then z.map .c else [.e y]) ++ _
      rw [if_neg fun k => hy k.2, if_neg hy, r2_c h2]
      rfl
/-- the veil: escapes become two tabs -/
def veilT : Tk → List Nat
  | .c y => [y]
  | .e _ => [9, 9]
def veil (ts : List Tk) : List Nat := (ts.map veilT).flatten
theorem veil_cons (t : Tk) (ts : List Tk) : veil (t :: ts) = veilT t ++ veil ts := rfl
theorem veil_append (a b : List Tk) : veil (a ++ b) = veil a ++ veil b := by
  unfold veil
  rw [List.map_append, List.flatten_append]
theorem veil_len : ∀ ts : List Tk, (veil ts).length = (flat ts).length
  | [] => rfl
  | .c y :: ts => by rw [veil_cons, flat_cons, List.length_append, List.length_append, veil_len ts]; rfl
  | .e y :: ts => by rw [veil_cons, flat_cons, List.length_append, List.length_append, veil_len ts]; rfl
theorem stg3 (z1 z2 z3 : List Nat) : ∀ ts : List Tk, ((ts.flatMap (stg 92 z1)).flatMap (stg 34 z2)).flatMap (stg 110 z3) = ts.flatMap fun t => ((stg 92 z1 t).flatMap (stg 34 z2)).flatMap (stg 110 z3)
  | [] => rfl
  | t :: ts => by
    rw [List.flatMap_cons, List.flatMap_append, List.flatMap_append, stg3 z1 z2 z3 ts, List.flatMap_cons]
theorem stg_c (x : Nat) (z l : List Nat) : (l.map Tk.c).flatMap (stg x z) = l.map Tk.c := by
  induction l with
  | nil => rfl
  | cons a l ih => rw [List.map_cons, List.flatMap_cons, ih]; rfl
theorem flat_flatMap (f : Tk → List Tk) : ∀ ts : List Tk, flat (ts.flatMap f) = (ts.map fun t => flat (f t)).flatten
  | [] => rfl
  | t :: ts => by rw [List.flatMap_cons, flat_append, flat_flatMap f ts, List.map_cons, List.flatten_cons]
/-- three replaces of escapes, one behind the other -/
theorem three {z1 z2 z3 : List Nat} {ts : List Tk} (h : ∀ t ∈ ts, t.ok) (n1 : 92 ∉ z1) (n2 : 92 ∉ z2) : r2 92 110 z3 (r2 92 34 z2 (r2 92 92 z1 (flat ts))) = (ts.map fun t => match t with | .c y => [y] | .e y => if y = 92 then z1 else if y = 34 then z2 else z3).flatten := by
  have a1 : ∀ t ∈ ts, match t with | .c y => y ≠ 92 | .e y => y = 92 ∨ y ≠ 92 := fun t ht => by
    have := h t ht
    cases t with
    | c y => exact this
    | e y => exact Classical.em _
  rw [r2_stg a1]
  have a2 : ∀ t ∈ ts.flatMap (stg 92 z1), match t with | .c y => y ≠ 92 | .e y => y = 34 ∨ y = 110 := fun t ht => by
    obtain ⟨u, hu, hm⟩ := List.mem_flatMap.mp ht
    have := h u hu
    cases u with
    | c y =>
      cases List.mem_singleton.mp hm
      exact this
    | e y =>
      have hm : t ∈ (if y = 92 then z1.map Tk.c else [Tk.e y]) := hm
      by_cases hy : y = 92
      · rw [if_pos hy] at hm
        obtain ⟨b, hb, rfl⟩ := List.mem_map.mp hm
        exact fun q => n1 (q ▸ hb)
      · rw [if_neg hy] at hm
        cases List.mem_singleton.mp hm
        exact this.resolve_left hy
  rw [r2_stg (ts := ts.flatMap (stg 92 z1)) fun t ht => by
    have := a2 t ht
    cases t with
    | c y => exact this
    | e y => exact this.elim .inl fun q => .inr (by omega)]
  have a3 : ∀ t ∈ (ts.flatMap (stg 92 z1)).flatMap (stg 34 z2), match t with | .c y => y ≠ 92 | .e y => y = 110 ∨ y ≠ 92 := fun t ht => by
    obtain ⟨u, hu, hm⟩ := List.mem_flatMap.mp ht
    have := a2 u hu
    cases u with
    | c y =>
      cases List.mem_singleton.mp hm
      exact this
    | e y =>
      have hm : t ∈ (if y = 34 then z2.map Tk.c else [Tk.e y]) := hm
      by_cases hy : y = 34
      · rw [if_pos hy] at hm
        obtain ⟨b, hb, rfl⟩ := List.mem_map.mp hm
        exact fun q => n2 (q ▸ hb)
      · rw [if_neg hy] at hm
        cases List.mem_singleton.mp hm
        exact .inl (this.resolve_left hy)
  rw [r2_stg a3, stg3, flat_flatMap]
  congr 1
  refine List.map_congr_left fun t ht => ?_
  have := h t ht
  cases t with
  | c y => rfl
  | e y =>
    have : y = 92 ∨ y = 34 ∨ y = 110 := this
    rcases this with rfl | rfl | rfl
    · show flat (((z1.map Tk.c).flatMap (stg 34 z2)).flatMap (stg 110 z3)) = z1
      rw [stg_c, stg_c, flat_c]
    · show flat (((z2.map Tk.c) ++ []).flatMap (stg 110 z3)) = z2
      rw [List.append_nil, stg_c, flat_c]
    · show flat (z3.map Tk.c ++ []) = z3
      rw [List.append_nil, flat_c]
theorem veil3 {ts : List Tk} (h : ∀ t ∈ ts, t.ok) : r2 92 110 [9, 9] (r2 92 34 [9, 9] (r2 92 92 [9, 9] (flat ts))) = veil ts := by
  rw [three h (by decide) (by decide)]
  unfold veil
  congr 1
  refine List.map_congr_left fun t _ => ?_
  cases t with
  | c y => rfl
  | e y => show (if y = 92 then [9, 9] else if y = 34 then [9, 9] else [9, 9]) = [9, 9]; split <;> (try split) <;> rfl
/-! ### a text's signs as tokens -/
def tkOf (c : Nat) : Tk := if c = 92 then .e 92 else if c = 34 then .e 34 else if c = 10 then .e 110 else .c c
theorem tkOf_ok (c : Nat) : (tkOf c).ok := by
  unfold tkOf
  by_cases h1 : c = 92
  · rw [if_pos h1]; exact .inl rfl
  · rw [if_neg h1]
    by_cases h2 : c = 34
    · rw [if_pos h2]; exact .inr (.inl rfl)
    · rw [if_neg h2]
      by_cases h3 : c = 10
      · rw [if_pos h3]; exact .inr (.inr rfl)
      · rw [if_neg h3]; exact h1
theorem r1_append (p : Nat) (z : List Nat) : ∀ a b : List Nat, r1 p z (a ++ b) = r1 p z a ++ r1 p z b
  | [], _ => rfl
  | c :: a, b => by
    show (if c = p then z else [c]) ++ r1 p z (a ++ b) = (if c = p then z else [c]) ++ r1 p z a ++ r1 p z b
    rw [r1_append p z a b, List.append_assoc]
theorem r1_one (p c : Nat) (z : List Nat) : r1 p z [c] = if c = p then z else [c] := by
  show (if c = p then z else [c]) ++ [] = _
  rw [List.append_nil]
/-- what show_plain writes of a text -/
theorem esc3 : ∀ l : List Nat, r1 10 [92, 110] (r1 34 [92, 34] (r1 92 [92, 92] l)) = flat (l.map tkOf)
  | [] => rfl
  | c :: l => by
    have ih := esc3 l
    show r1 10 _ (r1 34 _ ((if c = 92 then [92, 92] else [c]) ++ r1 92 [92, 92] l)) = (tkOf c).raw ++ flat (l.map tkOf)
    rw [r1_append, r1_append, ih]
    congr 1
    unfold tkOf
    by_cases h1 : c = 92
    · subst h1; rfl
    · rw [if_neg h1, if_neg h1, r1_one]
      by_cases h2 : c = 34
      · subst h2; rfl
      · rw [if_neg h2, if_neg h2, r1_one]
        by_cases h3 : c = 10
        · subst h3; rfl
        · rw [if_neg h3, if_neg h3]
          rfl
/-- and what the reader makes of it again -/
theorem unesc {l : List Nat} (h : 9 ∉ l) : r1 9 [92] (r2 92 110 [10] (r2 92 34 [34] (r2 92 92 [9] (flat (l.map tkOf))))) = l := by
  rw [three (fun t ht => by obtain ⟨c, _, rfl⟩ := List.mem_map.mp ht; exact tkOf_ok c) (by decide) (by decide)]
  induction l with
  | nil => rfl
  | cons c l ih =>
    have h1 : c ≠ 9 := fun q => h (q ▸ List.mem_cons_self ..)
    have ih := ih fun q => h (List.mem_cons_of_mem _ q)
    rw [List.map_cons, List.map_cons, List.flatten_cons, r1_append, ih]
    unfold tkOf
    by_cases h2 : c = 92
    · subst h2; rfl
    · rw [if_neg h2]
      by_cases h3 : c = 34
      · subst h3; rfl
      · rw [if_neg h3]
        by_cases h4 : c = 10
        · subst h4; rfl
        · rw [if_neg h4]
          show r1 9 [92] [c] ++ l = c :: l
          rw [r1_one, if_neg h1]
          rfl
end Tx

set_option Elab.async false
set_option linter.all false
set_option maxRecDepth 100000
/-! Ty: slices, find, digits of texts as lists. -/
namespace Tx
open PySem PySem.Spec PyProof.Rows SX
open PySem.StrLaws
theorem slice_S {l : List Nat} {a b : Nat} : Txt.slice (S l) (some (a : Int)) (some (b : Int)) = S ((l.drop a).take (b - a)) := by
  rw [← C8.cutS_slice]
  unfold L2.cutS
  rw [HT.sIx_nat, HT.sIx_nat]
  have e : (S l).length = l.length := S_len l
  rw [e]
  show S ((l.drop (min a l.length)).take (min b l.length - min a l.length)) = _
  congr 1
  by_cases ha : a ≤ l.length
  · rw [Nat.min_eq_left ha]
    by_cases hb : b ≤ l.length
    · rw [Nat.min_eq_left hb]
    · rw [Nat.min_eq_right (show l.length ≤ b by omega), List.take_of_length_le (by simp), List.take_of_length_le (by simp; omega)]
  · rw [Nat.min_eq_right (show l.length ≤ a by omega), List.drop_length, List.drop_of_length_le (show l.length ≤ a by omega)]
    simp
theorem slice_at {p r : List Nat} {c : Nat} : Txt.slice (S (p ++ c :: r)) (some (p.length : Int)) (some ((p.length : Int) + 1)) = S [c] := by
  have := slice_S (l := p ++ c :: r) (a := p.length) (b := p.length + 1)
  rw [Int.natCast_add] at this
  refine this.trans ?_
  simp
theorem getD_S {l : List Nat} {k : Nat} : (S l).cps.getD k 0 = l.getD k 0 := by
  show (l.toArray).getD k 0 = _
  simp [Array.getD, List.getD]
  split
  · rename_i h; rw [List.getElem?_eq_getElem h]; rfl
  · rename_i h; rw [List.getElem?_eq_none (by omega)]; rfl
theorem find3_hit {p q r : List Nat} {c : Nat} (h : c ∉ q) : Txt.find3 (S (p ++ q ++ c :: r)) (S [c]) (p.length : Int) = ((p ++ q).length : Nat) := by
  have e0 : PySem.fromIndex (S (p ++ q ++ c :: r)).length (p.length : Int) = p.length := by
    unfold PySem.fromIndex
    rw [if_neg (by omega)]
    omega
  have hlen : (S (p ++ q ++ c :: r)).length = p.length + q.length + (r.length + 1) := by rw [S_len]; simp; omega
  have at_ : ∀ v, p.length ≤ v → v < p.length + q.length → (S (p ++ q ++ c :: r)).cps.getD v 0 ≠ c := fun v h1 h2 => by
    rw [getD_S]
    intro hv
    apply h
    have : (p ++ q ++ c :: r).getD v 0 = q.getD (v - p.length) 0 := by
      simp only [List.getD, List.append_assoc]
      rw [List.getElem?_append_right h1, List.getElem?_append_left (by omega)]
    rw [this] at hv
    rw [← hv, List.getD_eq_getElem?_getD, List.getElem?_eq_getElem (by omega)]
    exact List.getElem_mem _
  have hit : (S (p ++ q ++ c :: r)).cps.getD (p.length + q.length) 0 = c := by
    rw [getD_S]
    simp only [List.getD]
    rw [List.getElem?_append_right (by simp)]
    simp
  rcases find3_spec (S (p ++ q ++ c :: r)) c (p.length : Int) with ⟨h1, h2⟩ | ⟨k, h1, h2, h3, h4, h5⟩
  · exact (h2 (p.length + q.length) (by rw [e0]; omega) (by omega) hit).elim
  · refine h1.trans ?_
    rw [e0] at h2 h5
    have : k = p.length + q.length := by
      rcases Nat.lt_trichotomy k (p.length + q.length) with g | g | g
      · exact (at_ k h2 g h4).elim
      · exact g
      · exact (h5 _ (by omega) g hit).elim
    rw [this, List.length_append]
theorem findIn_none {l : List Nat} {c : Nat} {i j : Int} (h : c ∉ l) : Txt.findIn (S l) (S [c]) i j = -1 := by
  unfold Txt.findIn
  have hc : ∃ f, ChainTo (S l) (S [c]) (PySem.toIndexW (S l).length j) (PySem.fromIndex (S l).length i) (Builtin.Str.occurrences (S l) (S [c]) (PySem.fromIndex (S l).length i) (PySem.toIndexW (S l).length j) 1) f := by
    rw [occ_eq]
    exact ⟨_, occ_chainTo _ _ _ _ _ _ _ rfl⟩
  obtain ⟨f, hf⟩ := hc
  cases ho : Builtin.Str.occurrences (S l) (S [c]) (PySem.fromIndex (S l).length i) (PySem.toIndexW (S l).length j) 1 with
  | nil => rfl
  | cons k r =>
    rw [ho] at hf
    have hat := hf.2.1
    have hle : PySem.toIndexW (S l).length j ≤ (S l).length := Nat.min_le_right _ _
    have h2 := (subAt_one (S l) c k).mp ⟨Nat.le_trans hat.1 hle, hat.2⟩
    exact (h (List.mem_of_getElem? h2)).elim
theorem starts_S {p r : List Nat} {c d : Nat} : Txt.startswith3 (S (p ++ c :: r)) (S [d]) (p.length : Int) = decide (c = d) := by
  have e0 : PySem.fromIndex (S (p ++ c :: r)).length (p.length : Int) = p.length := by
    unfold PySem.fromIndex
    rw [if_neg (by omega)]
    omega
  unfold Txt.startswith3
  rw [e0]
  have hs := subAt_one (S (p ++ c :: r)) d p.length
  have hg : (S (p ++ c :: r)).cps.toList[p.length]? = some c := by
    show (p ++ c :: r)[p.length]? = some c
    rw [List.getElem?_append_right (Nat.le_refl _)]
    simp
  rw [hg] at hs
  by_cases h : c = d
  · have := hs.mpr (by rw [h])
    rw [decide_eq_true h, Bool.and_eq_true]
    exact ⟨decide_eq_true this.1, this.2⟩
  · rw [decide_eq_false h, Bool.and_eq_false_iff]
    cases q : Builtin.Str.subAt (S (p ++ c :: r)) (S [d]) p.length with
    | false => exact .inr rfl
    | true =>
      left
      refine decide_eq_false fun z => ?_
      have := hs.mp ⟨z, q⟩
      exact h (Option.some.inj this)
/-- the signs of an integer -/
def digI (i : Int) : List Nat := if i < 0 then 45 :: TL.numL i.natAbs else TL.numL i.natAbs
theorem sI_S (i : Int) : Lw.sI i = S (digI i) := by
  unfold Lw.sI digI
  cases i with
  | ofNat n =>
    rw [if_neg (show ¬ Int.ofNat n < 0 from fun h => by have := Int.natCast_nonneg n; exact absurd h (Int.not_lt.mpr this))]
    exact num_S n
  | negSucc n =>
    rw [if_pos (Int.negSucc_lt_zero n)]
    apply TL.ext_tl
    have e : toString (Int.negSucc n) = "-" ++ Nat.repr (n + 1) := rfl
    have e2 := TL.tl_num (n + 1)
    have e3 : toString (((n + 1 : Nat)) : Int) = Nat.repr (n + 1) := rfl
    rw [e3, TL.tl_ofString] at e2
    rw [e, TL.tl_ofString, String.toList_append, List.map_append, e2]
    rfl
theorem takeWhile_app {p : Nat → Bool} : ∀ {a b : List Nat}, (∀ c ∈ a, p c = true) → (∀ c, b.head? = some c → p c = false) → (a ++ b).takeWhile p = a
  | [], [], _, _ => rfl
  | [], c :: b, _, h => by
    have := h c rfl
    rw [List.nil_append, List.takeWhile_cons, this]
    rfl
  | c :: a, b, h1, h2 => by
    rw [List.cons_append, List.takeWhile_cons, h1 c (List.mem_cons_self ..)]
    show c :: (a ++ b).takeWhile p = _
    rw [takeWhile_app (fun d hd => h1 d (List.mem_cons_of_mem _ hd)) h2]
/-- the length of what is left without the digits in front -/
theorem lstrip_len {a b : List Nat} (ha : ∀ c ∈ a, 48 ≤ c ∧ c ≤ 57) (hb : ∀ c, b.head? = some c → c < 48 ∨ 57 < c) : (Txt.lstripChars (S (a ++ b)) (Str.ofString "0123456789")).length = b.length := by
  have hd : (Str.ofString "0123456789").cps = #[48, 49, 50, 51, 52, 53, 54, 55, 56, 57] := by decide +kernel
  have hp : ∀ c, (Str.ofString "0123456789").cps.contains c = (decide (48 ≤ c) && decide (c ≤ 57)) := fun c => by
    rw [hd]
    by_cases h : 48 ≤ c ∧ c ≤ 57
    · have : c = 48 ∨ c = 49 ∨ c = 50 ∨ c = 51 ∨ c = 52 ∨ c = 53 ∨ c = 54 ∨ c = 55 ∨ c = 56 ∨ c = 57 := by omega
      rcases this with rfl | rfl | rfl | rfl | rfl | rfl | rfl | rfl | rfl | rfl <;> decide +kernel
    · have h1 : ¬ (c = 48 ∨ c = 49 ∨ c = 50 ∨ c = 51 ∨ c = 52 ∨ c = 53 ∨ c = 54 ∨ c = 55 ∨ c = 56 ∨ c = 57) := by omega
      have e1 : (decide (48 ≤ c) && decide (c ≤ 57)) = false := by
        rw [Bool.and_eq_false_iff, decide_eq_false_iff_not, decide_eq_false_iff_not]
        omega
      rw [e1]
      cases q : (#[48, 49, 50, 51, 52, 53, 54, 55, 56, 57] : Array Nat).contains c with
      | false => rfl
      | true =>
        have hm := Array.contains_iff_mem.mp q
        exact (h1 (by simpa using hm)).elim
  unfold Txt.lstripChars
  rw [stripBy_eq, TL.len_tl, TL.tl_strSub]
  have e : stripLo (Str.ofString "0123456789").cps.contains true (S (a ++ b)) = a.length := by
    unfold stripLo
    rw [if_pos rfl]
    show ((a ++ b).takeWhile _).length = _
    rw [takeWhile_app (fun c hc => by rw [hp]; have := ha c hc; simp [this.1, this.2]) (fun c hc => by
      rw [hp]
      have := hb c hc
      rw [Bool.and_eq_false_iff, decide_eq_false_iff_not, decide_eq_false_iff_not]
      omega)]
  rw [e]
  unfold stripHi
  rw [if_neg Bool.false_ne_true, S_len]
  show (((a ++ b).drop a.length).take _).length = _
  simp
/-! ### what an integer's signs are -/
theorem numL_head {n : Nat} : ∀ c r, TL.numL n = c :: r → c = 48 → n = 0 ∧ r = [] := by
  induction n using Nat.strongRecOn with
  | _ n ih =>
    intro c r h hc
    by_cases hn : n < 10
    · rw [TL.numL_lt hn] at h
      injection h with h1 h2
      exact ⟨by omega, h2.symm⟩
    · rw [TL.numL_step (by omega)] at h
      cases q : TL.numL (n / 10) with
      | nil => exact (TL.numL_ne _ q).elim
      | cons d s =>
        rw [q] at h
        injection h with h1 h2
        obtain ⟨z, _⟩ := ih (n / 10) (by omega) d s q (by omega)
        omega
theorem digits_le {n : Nat} : ∀ c ∈ TL.numL n, 48 ≤ c ∧ c ≤ 57 := fun c hc => TL.numL_digits n c hc
theorem int_digI {i : Int} (h : i.natAbs < 10 ^ 100) : intText? (S (digI i)) = some i := by
  have hl : (TL.numL i.natAbs).length ≤ 100 := TL.numL_len (by decide) h
  unfold digI
  by_cases hi : i < 0
  · rw [if_pos hi]
    have := intText_neg (x := S (45 :: TL.numL i.natAbs)) rfl (TL.numL_digits _) (TL.numL_ne _) (by rw [S_len]; simp; omega)
    rw [this, TL.numL_val]
    congr 1
    omega
  · rw [if_neg hi]
    have := intText_digits (x := S (TL.numL i.natAbs)) (TL.numL_digits _) (TL.numL_ne _) (by rw [S_len]; omega)
    rw [this]
    show some ((NumText.digitsVal (TL.numL i.natAbs) : Nat) : Int) = some i
    rw [TL.numL_val]
    congr 1
    omega
end Tx

set_option Elab.async false
set_option linter.all false
set_option maxRecDepth 100000
set_option maxHeartbeats 4000000
/-! Xe1: own error classes whose __init__ says super().__init__(f'..') and keeps one field or two. -/
namespace PySem
namespace Xe
open PySem.W PySem.Calls PyProof.Rows PySem.HandSPX
abbrev mw (x : Addr) : Obj := { cls := .type "method-wrapper", dict := none, data := .fields #[.builtin "ValueError.__init__", .ref x], slots := #[] }
section
variable {prog : Program} {w : World} {A : Around} {E : Value → Shared → Prop} {h : Heap} {g : Array GenState} {d : Drawn} {t : Nat} {os : OsState}
variable {nm q : Str} {C N : Addr} {bs bm : List Value} {hdct : Bool} {sn : List Str} {sub : List Value} {ab : Bool} {col : Option Bool} {dd : Option Addr} {k0 k1 k2 k3 k5 : Option Value}
/-- the bound ValueError.__init__ called -/
theorem call_mw {u e t0 : Addr} {rest : List Value} {Q : Value → Shared → Prop}
    (hC : h.get? C = some (excClassObj nm q C N bs bm hdct sn sub ab col dd k0 k1 k2 k3 k5 "ValueError.__new__")) (he : h.get? e = some (HandSPX.excO C t0)) (hu : h.get? u = some (mw e)) (hrest : rest.length ≤ sizeLine)
    (hq : ∀ h' t1, (∀ b o, b ≠ e → h.get? b = some o → h'.get? b = some o) → h'.get? e = some (HandSPX.excO C t1) → Q .none ⟨h', g, d, t, os⟩) :
    wpAny (model prog w) A (call (.ref u) rest) Q E ⟨h, g, d, t, os⟩ := by
  refine wpAny_call (codeAny_of_tree ?_)
  show wpAny _ A.in1 (callAny (.ref u) ⟨rest, []⟩) _ _ _
  simp only [callAny]
  refine wpAny_bind (wpAny_load hu ?_)
  simp only [mw, show (Value.type "method-wrapper" == Value.type "method" || Value.type "method-wrapper" == Value.type "builtin_function_or_method" || Value.type "method-wrapper" == Value.type "method-wrapper") = true by decide, if_true]
  refine W.KFB.if_so (by decide) ?_
  refine wpAny_bind (ESX.check_bound F.excBase_ValueError hC he rfl ?_)
  refine wpAny_bind (wpAny_pure (wpAny_pure ?_))
  refine ⟨Code.quiet_builtin _ (by decide +kernel), codeAny_builtin F.excBase_ValueError.initEntry ?_⟩
  rw [Around.under_plainId F.excBase_ValueError.init.plain _]
  wp_walk
  refine hq _ h.objs.size (fun b o hb ho => ?_) ?_
  · rw [Heap.get?_update_other _ _ (Ne.symm hb)]
    exact Heap.get?_push_of_some _ ho
  · rw [Heap.get?_update_self _ (Heap.get?_push_of_some _ he) rfl]
    rfl
end
/-- what the written part and the program say of the class -/
structure ClsX (K : Frag) (C : Addr) : Prop where
  cls : ∃ nm q N bs bm sn sub ab col dd k0 k1 k2 k3 k5, K.lookup C = some (excClassObj nm q C N bs bm true sn sub ab col dd k0 k1 k2 k3 k5 "ValueError.__new__") ∧ refsVE bm = true
  sa : findIn K (.ref C) "__setattr__" = some (some (.builtin "object.__setattr__"))
  kC : keepIn K (.ref C) = true
  exC : subIn K (.ref C) (.type "BaseException") = some true
  tyC : typeIn K (.ref C) = some (.type "type")
  veC : subIn K (.ref C) (.type "ValueError") = some true
  mro : mroIn K C (.ref C) = some true
  sup : ks_superIn K C C "__init__" = some (some (.builtin "ValueError.__init__"))
  any : nsIn K cStatics "thirdparty.any" = some none
/-- its __init__ -/
structure InitX (P : Program) (K : Frag) (mg : Str → Option Value) (C fI : Addr) (qual : Str) (ar : Arguments) (body : List Stmt) (sc : Scope) : Prop where
  iC : findIn K (.ref C) "__init__" = some (some (.ref fI))
  tC : typeIn K (.ref fI) = some (.type "function")
  fn : ∃ (oc : Value) (od : Option Addr) (doc pm : Value) (an : Option Addr) (cda cc : Addr) (ct : Value) (osl : Array (Option Value)),
    K.lookup fI = some ⟨oc, od, .func (ksFn "__init__" qual ar body sc .none .none doc pm an (.ref cda) ct cc), osl⟩ ∧ codeIn K (.ref cda) qual = true ∧
    (∃ (ccl : Value) (cdd : Option Addr) (vs : Array Value) (ccs : Array (Option Value)) (file : Str) (tf : Tok), K.lookup cda = some ⟨ccl, cdd, .fields vs, ccs⟩ ∧ vs[2]? = some (.str file tf) ∧ ((P.main.file : Str) == file) = true) ∧
    ∃ (cl : Value) (cld : Option Addr) (csl : Array (Option Value)), K.lookup cc = some ⟨cl, cld, .cell (some (.ref C)), csl⟩
  mgS : mg "super" = none
  top : (P.main.scope.names.lookup ("super" : Str)).isSome = false
section
variable {P : Program} {w : World} {A : Around} {E : Value → Shared → Prop} {K : Frag} {mg : Str → Option Value} {base : Heap} {C fI cda cc L x t0 : Addr} {qual : Str} {ar : Arguments} {body : List Stmt} {sc : Scope}
  {m : Str → Option Value} {h : Heap} {g : Array GenState} {d : Drawn} {t : Nat} {os : OsState} {fd : FuncData} {a1 : Arg}
/-- super() -/
theorem super_node {p0 p1 : Pos} {whole : Sem Value} {Q : Value → Shared → Prop} {oc : Value} {od : Option Addr} {osl : Array (Option Value)} {vs : Array Value} {file : Str} {tf : Tok} {ccl cl : Value} {cdd cld : Option Addr} {ccs csl : Array (Option Value)} {mb : Str → Option Value}
    (T : ClsX K C) (X : K.In h) (hg : h.Ns mainGlobals mg) (hb : h.Ns builtinsNs mb) (hbt : ∀ x : Str, x ≠ "__name__" → mb x = bootBuiltins x) (hmS : mg "super" = none)
    (hf : K.lookup fI = some ⟨oc, od, .func fd, osl⟩) (hp : (fd.params.posonlyargs ++ fd.params.args).head? = some a1) (hn : h.Ns L m) (hv : m a1.arg = some (.ref x)) (hx : h.get? x = some (excO C t0))
    (hcode : K.lookup cda = some ⟨ccl, cdd, .fields vs, ccs⟩) (hvs : vs[2]? = some (.str file tf)) (hfile : ((P.main.file : Str) == file) = true) (hcell : K.lookup cc = some ⟨cl, cld, .cell (some (.ref C)), csl⟩)
    (hks : sc.names.lookup ("super" : Str) = some .globalImplicit) (hkc : sc.names.lookup ("__class__" : Str) = some .free) (hka : sc.names.lookup a1.arg = some .local) (hk : sc.kind = .function)
    (htop : (P.main.scope.names.lookup ("super" : Str)).isSome = false)
    (hq : ∀ h', h'.get? h.objs.size = some { cls := .type "super", dict := none, data := .fields #[.ref C, .ref x, .ref C], slots := #[] } → (∀ y o, h.get? y = some o → h'.get? y = some o) → Q (.ref h.objs.size) ⟨h', g, d, t, os⟩) :
    _root_.PySem.wpAt (model P w) A (.func body (ksEnv qual sc L fI (.ref cda) cc)) (attributeBase (.Call (.Name "super" p0) [] [] p1) "__init__" (ksEnv qual sc L fI (.ref cda) cc) whole) Q E ⟨h, g, d, t, os⟩ := by
  obtain ⟨nm, q, N, bs, bm, sn, sub, ab, col, dd, k0, k1, k2, k3, k5, hC, hbm⟩ := T.cls
  have hC' := X _ _ hC
  refine ks_wpAt_super_base (env := ksEnv qual sc L fI (.ref cda) cc) hks hkc (by decide) rfl (X _ _ hf) rfl hp rfl (X _ _ hcode) rfl hvs hfile htop ?_
  refine ks_loadName_global hk hks (loadGlobal_builtin (env := ksEnv qual sc L fI (.ref cda) cc) hg hmS hb ((hbt _ (by decide +kernel)).trans PyProof.Rows.Boot.«super») ⟨rfl, ?_⟩)
  refine wpAny_loadName_free hk hkc rfl ⟨_, X _ _ hcell, rfl⟩ ?_
  refine wpAny_loadName_local hk hka hn hv ?_
  refine ks_wpAny_isType_cls hC' rfl ⟨rfl, ?_⟩
  exact ks_wpAny_call_super hC' rfl hx rfl (fun c e => by cases e) (looks_mroIn X T.mro) hq
/-- super().__init__(e) -/
theorem super_stmt {p0 p1 p2 p3 p4 : Pos} {e : Expr} {pl : Sem Bool} {Q : Flow → Shared → Prop} {oc : Value} {od : Option Addr} {osl : Array (Option Value)} {vs : Array Value} {file : Str} {tf : Tok} {ccl cl : Value} {cdd cld : Option Addr} {ccs csl : Array (Option Value)} {mb : Str → Option Value}
    (T : ClsX K C) (X : K.In h) (hg : h.Ns mainGlobals mg) (hb : h.Ns builtinsNs mb) (hbt : ∀ x : Str, x ≠ "__name__" → mb x = bootBuiltins x) (hmS : mg "super" = none)
    (hf : K.lookup fI = some ⟨oc, od, .func fd, osl⟩) (hp : (fd.params.posonlyargs ++ fd.params.args).head? = some a1) (hn : h.Ns L m) (hv : m a1.arg = some (.ref x)) (hx : h.get? x = some (excO C t0))
    (hcode : K.lookup cda = some ⟨ccl, cdd, .fields vs, ccs⟩) (hvs : vs[2]? = some (.str file tf)) (hfile : ((P.main.file : Str) == file) = true) (hcell : K.lookup cc = some ⟨cl, cld, .cell (some (.ref C)), csl⟩)
    (hks : sc.names.lookup ("super" : Str) = some .globalImplicit) (hkc : sc.names.lookup ("__class__" : Str) = some .free) (hka : sc.names.lookup a1.arg = some .local) (hk : sc.kind = .function)
    (htop : (P.main.scope.names.lookup ("super" : Str)).isSome = false)
    (hev : ∀ (h' : Heap) (t' : Nat) (Q' : Value → Shared → Prop), h'.Ns L m → (∀ y tk t2, Q' (.str y tk) ⟨h', g, d, t2, os⟩) → wpAny (model P w) A (eval e (ksEnv qual sc L fI (.ref cda) cc)) Q' E ⟨h', g, d, t', os⟩)
    (hq : ∀ h' t' t1, (∀ b o, b ≠ x → h.get? b = some o → h'.get? b = some o) → h'.get? x = some (excO C t1) → Q .next ⟨h', g, d, t', os⟩)
    (hsw : swapsWith (.Call (.Attribute (.Call (.Name "super" p0) [] [] p1) "__init__" p2) [e] [] p3) none p4.line (ksEnv qual sc L fI (.ref cda) cc) = pure false)
    (hin : interactive (ksEnv qual sc L fI (.ref cda) cc) = false)
    (hcl : eval (.Call (.Attribute (.Call (.Name "super" p0) [] [] p1) "__init__" p2) [e] [] p3) (ksEnv qual sc L fI (.ref cda) cc) = (do
      let ov ← attributeBase (.Call (.Name "super" p0) [] [] p1) "__init__" (ksEnv qual sc L fI (.ref cda) cc) (eval (.Call (.Name "super" p0) [] [] p1) (ksEnv qual sc L fI (.ref cda) cc))
      standAt p2.atName
      let (f, first) ← holding [ov] (getMethod ov "__init__" pl)
      callWith p3 f first (backTo p3 (starEach [e] (ksEnv qual sc L fI (.ref cda) cc))) []))
    (hst : starEach [e] (ksEnv qual sc L fI (.ref cda) cc) = (false, eval e (ksEnv qual sc L fI (.ref cda) cc)) :: starEach [] (ksEnv qual sc L fI (.ref cda) cc)) :
    _root_.PySem.wpAt (model P w) A (.func body (ksEnv qual sc L fI (.ref cda) cc)) (exec (.Expr (.Call (.Attribute (.Call (.Name "super" p0) [] [] p1) "__init__" p2) [e] [] p3) p4) (ksEnv qual sc L fI (.ref cda) cc)) Q E ⟨h, g, d, t, os⟩ := by
  obtain ⟨nm, q, N, bs, bm, sn, sub, ab, col, dd, k0, k1, k2, k3, k5, hC, hbm⟩ := T.cls
  refine ks_wpAt_Expr_any (ks_wpAt_MethodCall (super_node T X hg hb hbt hmS hf hp hn hv hx hcode hvs hfile hcell hks hkc hka hk htop fun h2 so k2 => ?_) hcl) hin hsw
  have X2 : K.In h2 := X.keeps k2
  have hx2 := k2 _ _ hx
  have I : InstAt h2 x (excO C t0) C none := ⟨hx2, rfl, rfl, trivial⟩
  have hI : Looks (model P w) h2 (isInstance (.ref x) (.type "ValueError")) true := I.type.andThen (looks_subIn X2 T.veC)
  have hm := T.sup
  have hn2 : h2.Ns L m := by
    obtain ⟨oL, es, ep, hL, r⟩ := hn
    exact ⟨oL, es, ep, k2 _ _ hL, r⟩
  cases hc : clsIn K C with
  | none => unfold ks_superIn at hm; rw [hc] at hm; cases hm
  | some cd =>
    unfold ks_superIn at hm
    rw [hc] at hm
    refine kxs_getMethod kxs_ValueError so (looks_opaque X2 T.any) (l₀ := cd.mro) ?_ rfl X2 hm hI (ks_ne X2 I hc) (by decide) ?_
    · exact fun A Q E s k q => wpAny_bind ((looks_clsIn X2 hc) A _ E s k (wpAny_pure q))
    · have k3 : ∀ y o, h2.get? y = some o → (h2.push (mw x)).get? y = some o := fun y o e => Heap.get?_push_of_some _ e
      have hu : (h2.push (mw x)).get? h2.objs.size = some (mw x) := Heap.get?_push_at rfl rfl
      have hn3 : (h2.push (mw x)).Ns L m := by
        obtain ⟨oL, es, ep, hL, r⟩ := hn2
        exact ⟨oL, es, ep, k3 _ _ hL, r⟩
      show wpAny _ _ (callWith p3 (.ref h2.objs.size) [] (backTo p3 (starEach [e] _)) []) _ _ _
      have hz : ([] : List Value).length + 1 ≤ sizeLine := by rw [sizeLine_eq]; decide
      have z : wpAny (model P w) A (spliced (backTo p3 (starEach [e] (ksEnv qual sc L fI (.ref cda) cc)))) (fun vs s' => KxsAt "ValueError.__init__" h2.objs.size x s'.heap ∧ wpAny (model P w) A (call (.ref h2.objs.size) vs) (fun _ s' => Q .next s') E s') E ⟨h2.push (mw x), g, d, t + 1, os⟩ := by
        refine wpAny_items_cons (hev _ _ _ hn3 fun y tk t2 => wpAny_items_nil ⟨hu, ?_⟩) hst
        refine call_mw (t0 := t0) ((X2.keeps k3) _ _ hC) (k3 _ _ hx2) hu hz fun h' t1 k4 e4 => ?_
        exact hq h' _ t1 (fun b o hb e => k4 b o hb (k3 _ _ (k2 _ _ e))) e4
      rw [hst] at z ⊢
      exact kxs_callWith (i := "ValueError.__init__") (x := x) rfl (evalArgs_plain z)
end
end Xe
end PySem

set_option Elab.async false
set_option linter.all false
set_option maxRecDepth 100000
set_option maxHeartbeats 4000000
/-! Xe2: __init__ of the two error classes. -/
namespace PySem
namespace Xe
open PySem.W PySem.Calls PyProof.Rows PySem.HandSPX
/-- what __init__ leaves of a fresh exception at x -/
structure InitEnd (h h' : Heap) (x C dx : Addr) (mf : Str → Option Value) : Prop where
  keep : ∀ b o, b ≠ x → h.get? b = some o → h'.get? b = some o
  obj : ∃ t1, h'.get? x = some { cls := .ref C, dict := some dx, data := .fields #[.ref t1, .none, .none, .none, .bool false, .none] }
  dbig : h.objs.size ≤ dx
  dne : dx ≠ x
  ns : h'.Ns1 dx mf
theorem kept_but {K : Frag} {h h' : Heap} {x : Addr} (X : K.In h) (hx : K.lookup x = none) (k : ∀ b o, b ≠ x → h.get? b = some o → h'.get? b = some o) : K.In h' := fun a o e =>
  k a o (fun z => by rw [z, hx] at e; cases e) (X a o e)
theorem ldE {M : Model} {s : Shared} {env : Env} {m : Str → Option Value} {x : Str} {pos : Pos} {v : Value} {Q : Value → Shared → Prop} {A : Around} {E : Value → Shared → Prop} (hn : s.heap.Ns env.locals m) (hv : m x = some v) (h : Q v s)
    (hk : env.scope.kind = .function) (hl : env.kindOf x = some .local) (hd : (x == ("__debug__" : Str)) = false) : wpAny M A (eval (.Name x pos) env) Q E s := wpAny_Name (wpAny_loadName_local hk hl hn hv h) hd
theorem len3 {a b : Str} {i : Int} (ha : a.length ≤ 100) (hb : b.length ≤ 100) (h : i.natAbs.log2 < 1920) : (Str.empty ++ a).length ≤ sizeLine ∧ (Str.empty ++ a ++ Lw.sI i).length ≤ sizeLine ∧ (Str.empty ++ a ++ Lw.sI i ++ b).length ≤ sizeLine := by
  have e := Lw.sI_len h
  have z : Str.empty.length = 0 := rfl
  have hs : sizeLine = 16777216 := sizeLine_eq
  refine ⟨?_, ?_, ?_⟩
  · rw [Lw.app_len, z, hs]; omega
  · rw [Lw.app_len, Lw.app_len, z, hs]; omega
  · rw [Lw.app_len, Lw.app_len, Lw.app_len, z, hs]; omega
/-- the call is one on a line (its positions are known to be so) -/
def CallOk (o : Expr) (name : Str) (apos : Pos) (args : List Expr) (pos : Pos) : Prop := ∀ env : Env, ∃ pl, eval (.Call (.Attribute o name apos) args [] pos) env = (do
      let ov ← attributeBase o name env (eval o env)
      standAt apos.atName
      let (f, first) ← holding [ov] (getMethod ov name pl)
      callWith pos f first (backTo pos (starEach args env)) [])
/-! ### BadPlain: one field -/
def bpA (p1 p2 : Pos) : Arguments := { posonlyargs := [], args := [{ arg := "self", annotation := none, pos := p1 }, { arg := "place", annotation := none, pos := p2 }], vararg := none, kwonlyargs := [], kw_defaults := [], kwarg := none, defaults := [] }
def bpE (r1 r2 r3 r4 r5 : Pos) : Expr := .JoinedStr [.Constant (.str "no plain text from sign ") 0 r1, .FormattedValue (.Name "place" r2) (-1) none r3, .Constant (.str " on") 0 r4] r5
def bpB (q0 q1 q2 q3 q4 r1 r2 r3 r4 r5 s1 s2 s3 s4 : Pos) : List Stmt := [.Expr (.Call (.Attribute (.Call (.Name "super" q0) [] [] q1) "__init__" q2) [bpE r1 r2 r3 r4 r5] [] q3) q4,
  .Assign [.Attribute (.Name "self" s1) "place" s2] (.Name "place" s3) s4]
def bpS : Scope := { kind := .function, names := [(PySem.Str.ofString "self", .local), (PySem.Str.ofString "place", .local), (PySem.Str.ofString "__class__", .free), (PySem.Str.ofString "super", .globalImplicit)], isGenerator := false, isCoroutine := false, more := [] }
section
variable {P : Program} {w : World} {A : Around} {E : Value → Shared → Prop} {R : Result → Shared → Prop} {s : Shared} {K : Frag} {mg mb : Str → Option Value} {C fI : Addr} {q : Str}
theorem bp_text {r1 r2 r3 r4 r5 : Pos} {env : Env} {m : Str → Option Value} {i : Int} {tk : Tok} {Q : Value → Shared → Prop} {h : Heap} {g : Array GenState} {d : Drawn} {t : Nat} {os : OsState} (hn : h.Ns env.locals m) (hv : m "place" = some (.int i tk)) (hi : i.natAbs.log2 < 1920)
    (hk : env.scope.kind = .function) (hl : env.kindOf "place" = some .local) (hq : ∀ y tk t2, Q (.str y tk) ⟨h, g, d, t2, os⟩) : wpAny (model P w) A (eval (bpE r1 r2 r3 r4 r5) env) Q E ⟨h, g, d, t, os⟩ := by
  obtain ⟨l1, l2, l3⟩ := len3 (a := "no plain text from sign ") (b := " on") (by decide +kernel) (by decide +kernel) hi
  refine wpAny_JoinedStr ?_
  rw [show evalEach [Expr.Constant (.str "no plain text from sign ") 0 r1, .FormattedValue (.Name "place" r2) (-1) none r3, .Constant (.str " on") 0 r4] env = [eval (Expr.Constant (.str "no plain text from sign ") 0 r1) env, eval (.FormattedValue (.Name "place" r2) (-1) none r3) env, eval (.Constant (.str " on") 0 r4) env] by first | rfl | simp [evalEach]]
  refine Calls.Constant_str ⟨_, _, rfl, l1, ?_⟩
  refine wpAny_FormattedValue_plain (ldE hn hv ?_ hk hl (by decide))
  refine wpAny_formatField_int hi ⟨_, _, rfl, l2, ?_⟩
  exact Calls.Constant_str ⟨_, _, rfl, l3, l3, hq _ _ _⟩
theorem bp_init {p1 p2 q0 q1 q2 q3 q4 r1 r2 r3 r4 r5 s1 s2 s3 s4 : Pos} (T : ClsX K C) (Z : InitX P K mg C fI q (bpA p1 p2) (bpB q0 q1 q2 q3 q4 r1 r2 r3 r4 r5 s1 s2 s3 s4) bpS) (no : findIn K (.ref C) "place" = some none) (ck : CallOk (.Call (.Name "super" q0) [] [] q1) "__init__" q2 [bpE r1 r2 r3 r4 r5] q3)
    {x t0 : Addr} {i : Int} {tk : Tok} (X : K.In s.heap) (hg : s.heap.Ns mainGlobals mg) (hb : s.heap.Ns builtinsNs mb) (hbt : ∀ x : Str, x ≠ "__name__" → mb x = bootBuiltins x) (hlim : s.heap.NoLimit) (hx : s.heap.get? x = some (excO C t0)) (hnx : K.lookup x = none)
    (hroom : A.depth < recursionLimit) (hi : i.natAbs.log2 < 1920)
    (hq : ∀ h' tk' dx, InitEnd s.heap h' x C dx (fun y => if y = "place" then some (.int i tk) else none) → R (.ok (.ret .none)) { s with heap := h', toks := tk' }) :
    codeAny (model P w) A (.call (.ref fI) ⟨[.ref x, .int i tk], []⟩) R s := by
  obtain ⟨oc, od, doc, pm, an, cda, cc, ct, osl, ho, hcd, ⟨ccl, cdd, vs, ccs, file, tf, hcode, hvs, hfile⟩, ⟨cl, cld, csl, hcell⟩⟩ := Z.fn
  obtain ⟨nm, qq, N, bs, bm, sn, sub, ab, col, dd, k0, k1, k2, k3, k5, hC, hbm⟩ := T.cls
  have hcl : clsIn K C = some { name := nm, bases := bs, mro := .ref C :: bm, ns := N, qualname := qq, hasDict := true, slotNames := sn, subclasses := sub, abstract := ab, collection := col, hasDel := false } := by unfold clsIn; rw [hC] <;> rfl
  obtain ⟨hp, g, d, t, os⟩ := s
  refine ks_codeAny_call_defAt (fd := ksFn "__init__" q (bpA p1 p2) (bpB q0 q1 q2 q3 q4 r1 r2 r3 r4 r5 s1 s2 s3 s4) bpS .none .none doc pm an (.ref cda) ct cc) (binds := [("self", .ref x), ("place", .int i tk)]) hroom (X _ _ ho) rfl hlim (codeRec_of X hcd) rfl
    (BindsTo.of_eq (by first | rfl | with_unfolding_all rfl)) (show ∀ y ∈ bpS.names, y.2 ≠ .cell by decide) (locs rfl) (fun h₁ hns k => ?_)
  have hxL : hp.objs.size ≠ x := Nat.ne_of_gt (Heap.lt_size hx)
  have m1 : (fun y => List.lookup y (List.reverse [(PySem.Str.ofString "self", Value.ref x), ("place", .int i tk)])) "self" = some (.ref x) := by first | rfl | decide +kernel | kernel_rfl
  have m2 : (fun y => List.lookup y (List.reverse [(PySem.Str.ofString "self", Value.ref x), ("place", .int i tk)])) "place" = some (.int i tk) := by first | rfl | decide +kernel | kernel_rfl
  obtain ⟨pl, hck⟩ := ck (ksEnv q bpS hp.objs.size fI (.ref cda) cc)
  refine ks_wpAt_execs_cons (super_stmt (pl := pl) (qual := q) (sc := bpS) (a1 := { arg := "self", annotation := none, pos := p1 }) (m := fun y => List.lookup y (List.reverse [(PySem.Str.ofString "self", Value.ref x), ("place", .int i tk)])) T (X.keeps k) (hg.keeps k) (hb.keeps k) hbt Z.mgS ho rfl hns m1 (k _ _ hx) hcode hvs hfile hcell rfl rfl rfl rfl Z.top
    (fun h' t' Q' hn' hq' => bp_text hn' m2 hi rfl rfl hq') (fun h' t' t1 k' e' => ?_) (by rfl) (by rfl) hck (by rfl))
  have hL : h'.Ns hp.objs.size (fun y => List.lookup y (List.reverse [(PySem.Str.ofString "self", Value.ref x), ("place", .int i tk)])) := by
    obtain ⟨oL, es, ep, hL, r⟩ := hns
    exact ⟨oL, es, ep, k' _ _ hxL hL, r⟩
  have X' : K.In h' := kept_but (X.keeps k) hnx k'
  refine _root_.PySem.wpAt_of_wpAny (wpAny_execs_cons (plainObj_wpAny_Assign_Attribute ?_))
  refine ldE hL m2 (ldE hL m1 ?_ rfl rfl (by decide)) rfl rfl (by decide)
  refine set_plain X' (ox := excO C t1) (od := none) ⟨e', rfl, rfl, trivial⟩ T.sa ?_
  refine exc_osa X' e' hcl (show refsVE (.ref C :: bm) = true from hbm) rfl no (fun h₃ tk₃ dx k₃ dn dne hx₃ hn₃ => ?_)
  show wpAny _ _ (execs _ _) _ _ _
  have z : hp.objs.size < h'.objs.size := hL.lt
  exact wpAny_execs_nil (hq h₃ tk₃ dx ⟨fun b o hb e => k₃ b o hb (k' b o hb (k b o e)), ⟨_, hx₃⟩, Nat.le_of_lt (Nat.lt_of_lt_of_le z dn), dne, hn₃⟩)
end
end Xe
end PySem

set_option Elab.async false
set_option linter.all false
set_option maxRecDepth 100000
set_option maxHeartbeats 4000000
/-! Xe3: an error made and raised. -/
namespace PySem
namespace Xe
open PySem.W PySem.Calls PyProof.Rows PySem.HandSPX
/-- a made error -/
structure OwnMade (h h' : Heap) (e C d : Addr) (mf : Str → Option Value) : Prop where
  keep : ∀ b o, h.get? b = some o → h'.get? b = some o
  new : h.objs.size ≤ e
  obj : ∃ oe vs, h'.get? e = some oe ∧ oe.cls = .ref C ∧ oe.dict = some d ∧ oe.data = .fields vs ∧ vs[1]? = some .none
  dbig : h.objs.size ≤ d
  dne : d ≠ e
  ns : h'.Ns1 d mf
theorem one_size (v : Value) : [v].length ≤ sizeLine := by
  rw [sizeLine_eq]
  exact (by decide : 1 ≤ 16777216)
section
variable {P : Program} {w : World} {A : Around} {E : Value → Shared → Prop} {R : Result → Shared → Prop} {s : Shared} {K : Frag} {mg mb : Str → Option Value} {C fI : Addr} {q : Str}
theorem bp_made {p1 p2 q0 q1 q2 q3 q4 r1 r2 r3 r4 r5 s1 s2 s3 s4 : Pos} (T : ClsX K C) (Z : InitX P K mg C fI q (bpA p1 p2) (bpB q0 q1 q2 q3 q4 r1 r2 r3 r4 r5 s1 s2 s3 s4) bpS) (no : findIn K (.ref C) "place" = some none) (ck : CallOk (.Call (.Name "super" q0) [] [] q1) "__init__" q2 [bpE r1 r2 r3 r4 r5] q3)
    {i : Int} {tk0 : Tok} (X : K.In s.heap) (hg : s.heap.Ns mainGlobals mg) (hb : s.heap.Ns builtinsNs mb) (hbt : ∀ x : Str, x ≠ "__name__" → mb x = bootBuiltins x) (hlim : s.heap.NoLimit)
    (hroom : A.depth + 1 < recursionLimit) (hi : i.natAbs.log2 < 1920)
    (hq : ∀ h' tk e d, OwnMade s.heap h' e C d (fun y => if y = "place" then some (.int i tk0) else none) → R (.ok (.ret (.ref e))) { s with heap := h', toks := tk }) :
    codeAny (model P w) A (.call (.ref C) ⟨[.int i tk0], []⟩) R s := by
  obtain ⟨nm, qq, N, bs, bm, sn, sub, ab, col, dd, k0, k1, k2, k3, k5, hC, hbm⟩ := T.cls
  obtain ⟨hp, g, dr, tk, os⟩ := s
  have k : ∀ b o, hp.get? b = some o → ((hp.push (kdv_tup [Value.int i tk0])).push (excO C hp.objs.size)).get? b = some o := fun b o e => Heap.get?_push_of_some _ (Heap.get?_push_of_some _ e)
  have hget : ((hp.push (kdv_tup [Value.int i tk0])).push (excO C hp.objs.size)).get? (hp.objs.size + 1) = some (excO C hp.objs.size) := by heap_get
  have hnx : K.lookup (hp.objs.size + 1) = none := by
    cases e : K.lookup (hp.objs.size + 1) with
    | none => rfl
    | some o =>
      have z : hp.get? (hp.objs.size + 1) = some o := X _ _ e
      exact absurd (Nat.lt_of_succ_lt (Heap.lt_size z)) (Nat.lt_irrefl _)
  refine call_own F.excBase_ValueError (fun X => refsVE_contains X bm hbm) (X _ _ hC) (looks_findIn X Z.iC) (fun self => bind_fn X self Z.tC) (one_size _) ?_
  refine bp_init (s := ⟨(hp.push (kdv_tup [Value.int i tk0])).push (excO C hp.objs.size), g, dr, tk, os⟩) T Z no ck (X.keeps k) (hg.keeps k) (hb.keeps k) hbt (hlim.keeps k) hget hnx ?_ hi fun h' tk' dx ⟨k', ⟨t1, hx⟩, dn, dne, hns⟩ => ?_
  · show A.depth + 1 < recursionLimit
    exact hroom
  · have old : ∀ b o, hp.get? b = some o → h'.get? b = some o := fun b o e => k' b o (Nat.ne_of_lt (Nat.lt_succ_of_lt (Heap.lt_size e))) (k b o e)
    have z : hp.objs.size + 1 + 1 ≤ dx := by
      first
        | (simpa only [Heap.size_push] using dn)
        | exact dn
        | (have q := dn; rw [Heap.size_push, Heap.size_push] at q; exact q)
    exact ⟨rfl, hq h' tk' (hp.objs.size + 1) dx ⟨old, Nat.le_succ _, ⟨_, _, hx, rfl, rfl, rfl, rfl⟩, Nat.le_trans (Nat.le_trans (Nat.le_succ _) (Nat.le_succ _)) z, dne, hns⟩⟩
end
end Xe
end PySem
namespace L2
open PySem PySem.Spec PyProof.Rows
section
variable {X : Cx} {C fI : Addr}
/-- the end of the making, within the context -/
theorem mkp_own {pins : List (Addr × Obj)} {σ : St} {H1 : Hp} {Q : XK} {hp h' : Heap} {g : Array GenState} {dr : Drawn} {tk tk' : Nat} {os : OsState} {e d : Addr} {mf : Str → Option Value} {fs : List (Str × V)} (T : PySem.Xe.ClsX X.K C) (I1 : Inv X pins σ H1 ⟨hp, g, dr, tk, os⟩)
    (M : PySem.Xe.OwnMade hp h' e C d mf) (rel : ∀ f, RelO (fs.lookup f) (mf f)) (q : ∀ d, H1 d = none → Q (.ref C) (some d) (upd H1 d (.xd fs))) : MkP X pins σ Q (.ref e) ⟨h', g, dr, tk', os⟩ := by
  obtain ⟨oe, fv, hoe, hc, hd, hdat, h1⟩ := M.obj
  have hns := M.ns
  obtain ⟨G', g1, g2⟩ := restrict h' fun b => decide (b ≠ e)
  have gk : ∀ b, b ≠ e → G'.get? b = h'.get? b := fun b hb => g1 b (decide_eq_true hb)
  have ge : G'.get? e = none := g2 e (by simp)
  have old : ∀ b o, hp.get? b = some o → G'.get? b = some o := fun b o q => (gk b (Nat.ne_of_lt (Nat.lt_of_lt_of_le (Heap.lt_size q) M.new))).trans (M.keep b o q)
  have ob : ObjOk X.prog X.w (upd H1 d (.xd fs)) G' d (.xd fs) := ⟨_, hns.at (fun o q => (gk d M.dne).trans q), rel⟩
  have J : Inv X pins σ (upd H1 d (.xd fs)) ⟨G', g, dr, tk', os⟩ := I1.laid (t' := tk') old M.dbig ob
  refine ⟨e, oe, fv, ⟨G', g, dr, tk', os⟩, _, .ref C, some d, rfl, J, fun b o q => ?_, ge, hoe, ⟨hc, hd⟩, hdat, h1, ?_, rfl, I1.bare, raises_own T.exC T.tyC, q d (I1.hok.fresh M.dbig)⟩
  · by_cases hb : b = e
    · have q' : G'.get? b = some o := q
      rw [hb, ge] at q'; cases q'
    · exact (gk b hb).symm.trans q
  · rw [upd_ne (Ne.symm M.dne)]
    exact I1.hok.fresh M.new
theorem relO_1 {n : Str} {v : V} {u : Value} (r : RelV v u) (f : Str) : RelO (List.lookup f [(n, v)]) (if f = n then some u else none) := by
  have := relO_put (f := n) (fs := []) (mA := fun _ => none) r (fun g => True.intro) f
  exact this
/-- BadPlain(e) -/
def tMkP (C : Addr) (ta : TA) : St → Hp → XK → Prop := fun σ H Q => ta σ H fun vs H1 => ∃ i : Int, vs = [.int i] ∧ i.natAbs.log2 < 1920 ∧ ∀ d, H1 d = none → Q (.ref C) (some d) (upd H1 d (.xd [(("place" : Str), .int i)]))
theorem pmk_p {p1 p2 q0 q1 q2 q3 q4 r1 r2 r3 r4 r5 s1 s2 s3 s4 : Pos} {n qual : Str} {a : Expr} {ta : TA} {p pos : Pos} {k : Nat} (T : PySem.Xe.ClsX X.K C) (Z : PySem.Xe.InitX X.prog X.K X.mg C fI qual (PySem.Xe.bpA p1 p2) (PySem.Xe.bpB q0 q1 q2 q3 q4 r1 r2 r3 r4 r5 s1 s2 s3 s4) PySem.Xe.bpS) (no : PySem.W.findIn X.K (.ref C) "place" = some none)
    (ck : PySem.Xe.CallOk (.Call (.Name "super" q0) [] [] q1) "__init__" q2 [PySem.Xe.bpE r1 r2 r3 r4 r5] q3)
    (hr : Room k X.A) (hk1 : 2 ≤ k) (gC : X.mg n = some (.ref C)) (ha : PA X [a] ta) (hg : Gl X n) (hdb : (n == ("__debug__" : Str)) = false)
    (he : starEach (a :: []) X.env = (false, eval a X.env) :: starEach [] X.env) (hpl : (backTo pos (starEach [] X.env)).any (·.1) = false) :
    PMk X (.Call (.Name n p) [a] [] pos) (tMkP C ta) := by
  intro pins s σ H Q I h
  refine wpAny_Call_Name_kw (ld_glob I hg gC ?_ hdb)
  refine PySem.W.callWith_K (h₀ := X.base) I.ok.mod.kin T.kC (thn (ha.run pos pins s σ H _ I h) fun us s1 hh => ?_) he hpl
  obtain ⟨vs, H1, I1, r1, i, ev, hi, q1⟩ := hh
  subst ev
  refine ⟨I1.kIn, ?_⟩
  cases r1 with
  | cons rv rn =>
    rename_i v' us'
    cases rn
    obtain ⟨tk0, rfl⟩ := rv
    show wpAny _ _ (call (.ref C) [.int i tk0]) _ _ _
    have hlim := I1.nolimit
    obtain ⟨mb, hb1, hb2⟩ := I1.mod.blt
    obtain ⟨hp, g, dr, tk, os⟩ := s1
    refine wpAny_call (PySem.Xe.bp_made T Z no ck I1.kIn (I1.mod.glob.keeps I1.bk) (hb1.keeps I1.bk) hb2 hlim (by have := hr.dp; omega) hi fun h' tk' e d M => ?_)
    exact mkp_own T I1 M (relO_1 (v := .int i) (u := .int i tk0) (show RelV (.int i) (.int i tk0) from ⟨tk0, rfl⟩)) q1
end
end L2

set_option Elab.async false
set_option linter.all false
set_option maxRecDepth 100000
/-! Mi16: defs that may raise. -/
namespace Mi
open PySem PySem.Spec PyProof.Rows L2
/-- what a def that may raise comes to -/
inductive Rs where
  | ok (o : O) | ex (C : Addr) (ns : List Str) (ds : List D)
def RsQ (K : PySem.W.Frag) (F H : Hp) (vs : List V) (os' : List O) (fp : List Addr) (Q : VK) (E : XK) : Rs → Prop
  | .ok r => ∀ F' H' v fp', Same F F' → Same F' H' → (∀ b o, F' b = some o → F b = some o ∨ H b = none ∨ b ∈ fp) → (∀ b o, H b = some o → b ∉ fp → H' b = some o) →
    OwL K F' H' (v :: vs) (r :: os') fp' → fp'.Nodup → (∀ b ∈ fp', F' b = none ∧ (H b = none ∨ b ∈ fp)) → Q v H'
  | .ex C ns ds => ∀ F' H' d ws fp', Same F F' → Same F' H' → (∀ b o, F' b = some o → F b = some o ∨ H b = none ∨ b ∈ fp) → (∀ b o, H b = some o → b ∉ fp → H' b = some o) →
    OwL K F' H' (.non :: vs) (.fr .non :: os') fp' → fp'.Nodup → (∀ b ∈ fp', F' b = none ∧ (H b = none ∨ b ∈ fp)) → F' d = some (.xd (ns.zip ws)) → RpL K F' ws ds → E (.ref C) (some d) H'
def spX (K : PySem.W.Frag) (n : Nat) (f : List O → Option (Rs × List O)) : Sp := fun vs H Q E => vs.length = n ∧ ∃ F os r os' fp, Same F H ∧ OwL K F H vs os fp ∧ fp.Nodup ∧ (∀ b ∈ fp, F b = none) ∧ f os = some (r, os') ∧ RsQ K F H vs os' fp Q E r
def runX (N n : Nat) (pin : List Nat) (body : XS) : List O → Option (Rs × List O) := fun os => if os.length = n then
    (body (os.map some ++ List.replicate (N - n) none)).bind fun x => match x with
      | .rt r g => (outs pin g 0 os).map fun os' => (.ok r, os')
      | .nx g => (outs pin g 0 os).map fun os' => (.ok (.fr .non), os')
      | .ex C ns ds g => (outs pin g 0 os).map fun os' => (.ex C ns ds, os')
      | _ => none
  else none
section
variable {B : Bs} {F F' H H' : Hp} {σ : L2.St} {g : G} {τ : En}
theorem runX_len {N n : Nat} {pin : List Nat} {body : XS} {os : List O} {r : Rs × List O} (e : runX N n pin body os = some r) : os.length = n ∧ r.2.length = n := by
  unfold runX at e
  split at e
  · rename_i hn
    refine ⟨hn, ?_⟩
    obtain ⟨x, e1, e2⟩ := Option.bind_eq_some_iff.mp e
    cases x with
    | rt o g =>
      obtain ⟨os', e3, e4⟩ := Option.map_eq_some_iff.mp e2
      cases e4
      rw [outs_len e3, hn]
    | nx g =>
      obtain ⟨os', e3, e4⟩ := Option.map_eq_some_iff.mp e2
      cases e4
      rw [outs_len e3, hn]
    | ex C ns ds g =>
      obtain ⟨os', e3, e4⟩ := Option.map_eq_some_iff.mp e2
      cases e4
      rw [outs_len e3, hn]
    | bk g => cases e2
    | ct g => cases e2
  · cases e
theorem run_okX {K : PySem.W.Frag} {N : List Str} {n : Nat} {pin : List Nat} {body : XS} {t : TS} {E : XK} (h : ∀ B : Bs, B.K = K → B.pin = pin → B.W = (fun cls d _ H => E cls d H) → SS B t body) {vs : List V} {H : Hp} {Q : VK} (hp : ∀ j ∈ pin, j < n) (hsp : spX K n (runX N.length n pin body) vs H Q E) :
    t { nx := fun _ H' => Q .non H', rt := Q } (L2.start N vs) H := by
  obtain ⟨hn, F, os, r, os', fp, sF, ow, nd, hF, e, q⟩ := hsp
  have hB := h ⟨K, F, H, fp, pin, vs, fun cls d _ H => E cls d H⟩ rfl rfl rfl
  unfold runX at e
  split at e
  · rename_i hos
    obtain ⟨x, e1, e2⟩ := Option.bind_eq_some_iff.mp e
    have hl : vs.length = os.length := ow.length
    have r0 : Rel ⟨K, F, H, fp, pin, vs, fun cls d _ H => E cls d H⟩ F H (L2.start N vs) (os.map some ++ List.replicate (N.length - n) none) [] := by
      refine ⟨?_, fun i o ho => ?_, sF, Same.refl F, fun b o e _ => e, fun b o e => .inl e, fun j hj => ?_, ?_⟩
      · unfold L2.start
        rw [List.length_append, List.length_append, List.length_map, List.length_map, List.length_replicate, List.length_replicate, hn, hos]
      · have hi : i < os.length := by
          by_cases z : i < os.length
          · exact z
          · rw [List.getElem?_append_right (by rw [List.length_map]; omega), List.length_map, List.getElem?_replicate] at ho
            split at ho <;> cases ho
        unfold L2.start
        have hv : i < vs.length := by omega
        exact ⟨vs[i], by rw [List.getElem?_append_left (by rw [List.length_map]; exact hv), List.getElem?_map, List.getElem?_eq_getElem hv]; rfl⟩
      · unfold L2.start
        have hv : j < vs.length := by rw [hn]; exact hp j hj
        rw [List.getElem?_append_left (by rw [List.length_map]; exact hv), List.getElem?_map]
      · rw [List.append_nil]
        unfold L2.start
        rw [hn, ents_start _ hl]
        exact ⟨fp, zip_owE ow, nd, fun b hb => ⟨hF b hb, .inr hb⟩⟩
    have fin : ∀ (F' H' : Hp) (σ' : L2.St) (g' : G) (v : V) (rr : O) (os2 : List O) (P : Prop), Same F F' → Rel ⟨K, F, H, fp, pin, vs, fun cls d _ H => E cls d H⟩ F' H' σ' g' [(v, rr)] → outs pin g' 0 os = some os2 →
        (∀ fp', Same F' H' → (∀ b o, F' b = some o → F b = some o ∨ H b = none ∨ b ∈ fp) → (∀ b o, H b = some o → b ∉ fp → H' b = some o) → OwL K F' H' (v :: vs) (rr :: os2) fp' → fp'.Nodup → (∀ b ∈ fp', F' b = none ∧ (H b = none ∨ b ∈ fp)) → P) → P := by
      intro F' H' σ' g' v rr os2 P s' r' e3 q
      obtain ⟨g3, r3⟩ := outs_ok (B := ⟨K, F, H, fp, pin, vs, fun cls d _ H => E cls d H⟩) (vsA := vs) (g2 := g') e3 hl (fun i => by rw [Nat.zero_add]) r'.pins (fun i _ => rfl) (fun i d hd => by
        obtain ⟨w, h1, h2⟩ := ow.get hd
        exact ⟨w, h1, Rp.mono s' _ _ h2⟩) r'
      have hE : Ents ⟨K, F, H, fp, pin, vs, fun cls d _ H => E cls d H⟩ F' H' ((v, rr) :: vs.zip os2) := r3.ent.right.perm ((List.perm_append_comm (l₁ := vs.zip os2)).trans (.refl _))
      obtain ⟨fp', k1, k2, k3⟩ := hE
      have k4 : OwL K F' H' (v :: vs) (rr :: os2) fp' := owE_zip (by rw [List.length_cons, List.length_cons, hl, outs_len e3]) (show OwE K F' H' ((v :: vs).zip (rr :: os2)) fp' from k1)
      refine q fp' r'.sub (fun b o eb => ?_) (fun b o eb hb => r'.keep b o eb hb) k4 k2 k3
      rcases r'.new b o eb with z | z | z
      · exact .inl z
      · exact .inr (.inl z)
      · exact .inr (.inr z)
    refine hB F H _ _ [] x r0 e1 _ ?_
    cases x with
    | rt o g' =>
      obtain ⟨os2, e3, e4⟩ := Option.map_eq_some_iff.mp e2
      cases e4
      exact fun F' H' σ' v s' r' => fin F' H' σ' g' v o _ _ s' r' e3 fun fp' a b c d e f => q F' H' v fp' s' a b c d e f
    | nx g' =>
      obtain ⟨os2, e3, e4⟩ := Option.map_eq_some_iff.mp e2
      cases e4
      exact fun F' H' σ' s' r' => fin F' H' σ' g' .non (.fr .non) _ _ s' (r'.addFr rfl) e3 fun fp' a b c d e f => q F' H' .non fp' s' a b c d e f
    | ex C ns ds g' =>
      obtain ⟨os2, e3, e4⟩ := Option.map_eq_some_iff.mp e2
      cases e4
      exact fun F' H' σ' d ws s' r' hd hw => fin F' H' σ' g' .non (.fr .non) _ _ s' (r'.addFr rfl) e3 fun fp' a b c dd e f => q F' H' d ws fp' s' a b c dd e f hd hw
    | bk g' => cases e2
    | ct g' => cases e2
  · cases e
end
section
variable {P : Program} {w : World} {K : PySem.W.Frag} {mg : Str → Option Value} {base : Heap}
/-- a def that may raise keeps the promise of its mirror -/
theorem ok_fnX {x qual : Str} {st : Stmt} {f : Addr} {fd : FuncData} {N ps : List Str} {k : Nat} {pin : List Nat} {body : XS} (F : Fun K x qual st f fd) (S : FnScope N ps (defScope st)) (hp : ∀ j ∈ pin, j < ps.length)
    (h : ∀ (cdv : Value) (A : Around) (outer : List Env) (s : Shared) (H : Hp) (E : XK), Room k (A.deeper (envOfC qual (defScope st) s.heap.objs.size f cdv)) →
      ∃ t, PSs (cxOf (L2.CX P w) P w K mg base N qual (defScope st) f cdv A outer s H E) (defBody st) t ∧ ∀ B : Bs, B.K = K → B.pin = pin → B.W = (fun cls d _ H => E cls d H) → SS B t body) :
    FnOk P w K mg base (L2.CX P w) (k + 1) f fd ps (spX K ps.length (runX N.length ps.length pin body)) := by
  refine F.okX S (fun vs H Q E h => h.1) fun cdv A outer s H vs Q E hr hsp => ?_
  obtain ⟨t, ht, hs⟩ := h cdv A outer s H E hr
  exact ⟨t, ht, run_okX hs hp hsp⟩
end
end Mi

set_option Elab.async false
set_option linter.all false
set_option maxRecDepth 100000
/-! Mi17: raising calls, raise, try. -/
namespace Mi
open PySem PySem.Spec PyProof.Rows L2
abbrev XR := G → Option (Rs × G)
def RsP (B : Bs) (F : Hp) (σ : L2.St) (g' : G) (τ : En) (Q : VK) : Rs → Prop
  | .ok o => ∀ F' H' v, Same F F' → Rel B F' H' σ g' ((v, o) :: τ) → Q v H'
  | .ex C ns ds => ∀ F' H' d ws, Same F F' → Rel B F' H' σ g' τ → F' d = some (.xd (ns.zip ws)) → RpL B.K F' ws ds → B.W (.ref C) (some d) σ H'
/-- an expression that may raise -/
def SR (B : Bs) (t : TE) (m : XR) : Prop := ∀ F H σ g τ r g', Rel B F H σ g τ → m g = some (r, g') → ∀ Q : VK, RsP B F σ g' τ Q r → t σ H Q
section
variable {B : Bs} {F F' H H' : Hp} {σ : L2.St} {g : G} {τ : En}
def rOk (m : XE) : XR := fun g => (m g).map fun p => (.ok p.1, p.2)
theorem sr_ok {t : TE} {m : XE} (h : SE B t m) : SR B t (rOk m) := by
  intro F H σ g τ r g' rl e Q q
  obtain ⟨⟨o, g1⟩, e1, e2⟩ := Option.map_eq_some_iff.mp e
  cases e2
  exact h F H σ g τ o _ rl e1 Q q
def rCall (f : List O → Option (Rs × List O)) (as : XA) : XR := fun g => (as g).bind fun p => (pull p.1 p.2).bind fun q => (f q.1).map fun z => (z.1, push p.1 z.2 q.2)
theorem sr_sp {n : Nat} {f : List O → Option (Rs × List O)} {as : List Opd} {vs : List V} {os os' : List O} {r : Rs} {g2 : G} {Q : VK} (rl : Rel B F H σ g τ) (ok : OpdsOk B F σ vs as) (ep : pull as g = some (os, g2)) (hl : ∀ os r, f os = some r → os.length = n ∧ r.2.length = n)
    (ef : f os = some (r, os')) (q : RsP B F σ (push as os' g2) τ Q r) : spX B.K n f vs H Q (WE B.W σ) := by
  obtain ⟨r2, l1, l2⟩ := pull_ok rl ok ep
  obtain ⟨hn, hn2⟩ := hl _ _ ef
  have hE := r2.ent.perm (show (ents σ g2 ++ (vs.zip os ++ τ)).Perm (vs.zip os ++ (ents σ g2 ++ τ)) by
    rw [← List.append_assoc, ← List.append_assoc]
    exact List.perm_append_comm.append_right τ)
  obtain ⟨fp, k1, k2, k3⟩ := hE
  obtain ⟨f1, f2, m1, m2, rfl⟩ := OwE.split k1
  refine ⟨by rw [l1]; exact hn, F, os, r, os', f1, rl.sub, owE_zip l1 m1, (List.nodup_append.mp k2).1, fun b hb => (k3 b (List.mem_append_left _ hb)).1, ef, ?_⟩
  cases r with
  | ok o => exact fun F' H' v fp' sF sH n' k' ow nd' hn' => q F' H' v sF (push_ok ok (by rw [hn2, ← hn]; exact l2) (r2.called m1 m2 k2 k3 sF sH n' k' ow nd' hn'))
  | ex C ns ds => exact fun F' H' d ws fp' sF sH n' k' ow nd' hn' hd hw => q F' H' d ws sF (push_ok ok (by rw [hn2, ← hn]; exact l2) (r2.called m1 m2 k2 k3 sF sH n' k' ow nd' hn')).drop hd hw
theorem RsP.mono {Q : VK} {r : Rs} {g' : G} (s : Same F F') (h : RsP B F σ g' τ Q r) : RsP B F' σ g' τ Q r := by
  cases r with
  | ok o => exact fun F2 H2 v s2 => h F2 H2 v (s.trans s2)
  | ex C ns ds => exact fun F2 H2 d ws s2 => h F2 H2 d ws (s.trans s2)
theorem sr_call {n : Nat} {f : List O → Option (Rs × List O)} {ta : TA} {ma : XA} (ha : SA B ta ma) (hl : ∀ os r, f os = some r → os.length = n ∧ r.2.length = n) : SR B (tCallS (spX B.K n f) (WE B.W) ta) (rCall f ma) := by
  intro F H σ g τ r g' rl e Q q
  obtain ⟨⟨as, g1⟩, e1, e2⟩ := Option.bind_eq_some_iff.mp e
  obtain ⟨⟨os, g2⟩, e3, e4⟩ := Option.bind_eq_some_iff.mp e2
  obtain ⟨⟨r1, os'⟩, e5, e6⟩ := Option.map_eq_some_iff.mp e4
  obtain ⟨e7, e8⟩ := Prod.mk.inj e6
  subst e7 e8
  exact ha F H σ g τ as g1 rl e1 _ fun F1 H1 vs s1 r1 ok => sr_sp r1 ok e3 hl e5 (q.mono s1)
def tMethX (C : Addr) (m : Str) (sp : Sp) (E : L2.St → XK) (ta : TE) (t : TA) : TE := fun σ H Q => ta σ H fun x H1 => ∃ a dx fs, x = .ref a ∧ H1 a = some (.ins C dx fs) ∧ fs.lookup m = none ∧ t σ H1 fun vs H2 => sp (x :: vs) H2 Q (E σ)
def rMeth (C : Addr) (m : Str) (f : List O → Option (Rs × List O)) (a : XO) (as : XA) : XR := fun g => (a g).bind fun p => if obAt C m p.2 p.1 = true then (as p.2).bind fun q => (pull (p.1 :: q.1) q.2).bind fun s => (f s.1).map fun z => (z.1, push (p.1 :: q.1) z.2 s.2) else none
theorem sr_meth {C : Addr} {m : Str} {n : Nat} {f : List O → Option (Rs × List O)} {te : TE} {me : XO} {ta : TA} {ma : XA} (he : SO B te me) (ha : SA B ta ma) (hl : ∀ os r, f os = some r → os.length = n ∧ r.2.length = n) : SR B (tMethX C m (spX B.K n f) (WE B.W) te ta) (rMeth C m f me ma) := by
  intro F H σ g τ r g' rl e Q q
  obtain ⟨⟨a, g1⟩, e1, e2⟩ := Option.bind_eq_some_iff.mp e
  dsimp only at e2
  split at e2
  · rename_i hob
    obtain ⟨⟨as, g2⟩, e3, e4⟩ := Option.bind_eq_some_iff.mp e2
    obtain ⟨⟨os, g3⟩, e5, e6⟩ := Option.bind_eq_some_iff.mp e4
    obtain ⟨⟨r1, os'⟩, e7, e8⟩ := Option.map_eq_some_iff.mp e6
    obtain ⟨e9, e10⟩ := Prod.mk.inj e8
    subst e9 e10
    refine he F H σ g τ a g1 rl e1 _ fun F1 H1 v s1 r1 ok1 => ?_
    obtain ⟨x, dx, fs, rfl, hx, hf⟩ := obAt_ok r1 ok1 hob
    refine ⟨x, dx, fs, rfl, hx, hf, ?_⟩
    refine ha F1 H1 σ g1 τ as g2 r1 e3 _ fun F2 H2 vs s2 r2 ok2 => ?_
    have ok : OpdsOk B F2 σ (.ref x :: vs) (a :: as) := ⟨_, _, rfl, ok1.mono s2, ok2⟩
    exact sr_sp r2 ok e5 hl e7 (q.mono (s1.trans s2))
  · cases e2
/-- (c, e), e may raise -/
def rTupC (c : D) (m : XR) : XR := fun g => (m g).bind fun p => match p.1 with
  | .ok o => some (.ok (.fr (.tup [c, o.er])), p.2)
  | .ex C ns ds => some (.ex C ns ds, p.2)
def sAsgR (m : XR) (a : XG) : XS := fun g => (m g).bind fun p => match p.1 with
  | .ok o => (a o p.2).map .nx
  | .ex C ns ds => some (.ex C ns ds p.2)
theorem ss_asgR {t : TE} {u : TG} {m : XR} {a : XG} (h : SR B t m) (ha : SG B u a) : SS B (tAsg t u) (sAsgR m a) := by
  intro F H σ g τ out rl e D p
  obtain ⟨⟨r, g1⟩, e1, e2⟩ := Option.bind_eq_some_iff.mp e
  cases r with
  | ok o =>
    obtain ⟨g2, e3, e4⟩ := Option.map_eq_some_iff.mp e2
    cases e4
    exact h F H σ g τ (.ok o) g1 rl e1 _ fun F1 H1 v s1 r1 => ha F1 H1 σ g1 τ v o g2 r1 e3 _ fun F2 H2 σ2 s2 r2 => p F2 H2 σ2 (s1.trans s2) r2
  | ex C ns ds =>
    cases e2
    exact h F H σ g τ (.ex C ns ds) g1 rl e1 _ fun F1 H1 d ws s1 r1 => p F1 H1 σ d ws s1 r1
def sRetR (m : XR) : XS := fun g => (m g).bind fun p => match p.1 with
  | .ok o => some (.rt o p.2)
  | .ex C ns ds => some (.ex C ns ds p.2)
theorem ss_retR {t : TE} {m : XR} (h : SR B t m) : SS B (tRet t) (sRetR m) := by
  intro F H σ g τ out rl e D p
  obtain ⟨⟨r, g1⟩, e1, e2⟩ := Option.bind_eq_some_iff.mp e
  cases r with
  | ok o =>
    cases e2
    exact h F H σ g τ (.ok o) g1 rl e1 _ fun F1 H1 v s1 r1 => p F1 H1 σ v s1 r1
  | ex C ns ds =>
    cases e2
    exact h F H σ g τ (.ex C ns ds) g1 rl e1 _ fun F1 H1 d ws s1 r1 => p F1 H1 σ d ws s1 r1
def sDropR (m : XR) : XS := fun g => (m g).bind fun p => match p.1 with
  | .ok _ => some (.nx p.2)
  | .ex C ns ds => some (.ex C ns ds p.2)
theorem ss_dropR {t : TE} {m : XR} (h : SR B t m) : SS B (tDrop t) (sDropR m) := by
  intro F H σ g τ out rl e D p
  obtain ⟨⟨r, g1⟩, e1, e2⟩ := Option.bind_eq_some_iff.mp e
  cases r with
  | ok o =>
    cases e2
    exact h F H σ g τ (.ok o) g1 rl e1 _ fun F1 H1 v s1 r1 => p F1 H1 σ s1 r1.drop
  | ex C ns ds =>
    cases e2
    exact h F H σ g τ (.ex C ns ds) g1 rl e1 _ fun F1 H1 d ws s1 r1 => p F1 H1 σ d ws s1 r1
/-- raise BadPlain(e) -/
def sRaiseP (C : Addr) (ma : XA) : XS := fun g => (ma g).bind fun p => (alld p.1).bind fun ds => match ds with
  | [.int i] => if i.natAbs.log2 < 1920 then some (.ex C ["place"] [.int i] p.2) else none
  | _ => none
theorem ss_raiseP {C : Addr} {ta : TA} {ma : XA} (ha : SA B ta ma) : SS B (fun _ σ H => tMkP C ta σ H fun cls d H' => B.W cls d σ H') (sRaiseP C ma) := by
  intro F H σ g τ out rl e D p
  obtain ⟨⟨as, g1⟩, e1, e2⟩ := Option.bind_eq_some_iff.mp e
  obtain ⟨ds, e3, e4⟩ := Option.bind_eq_some_iff.mp e2
  dsimp only at e4
  split at e4
  · rename_i i
    split at e4
    · rename_i hi
      cases e4
      refine ha F H σ g τ as g1 rl e1 _ fun F1 H1 vs s1 r1 ok => ?_
      have rp := alld_ok ok e3
      obtain ⟨v, rfl, hv⟩ := rp.one
      obtain rfl : v = .int i := hv
      refine ⟨i, rfl, hi, fun d hd => ?_⟩
      have gr := Grow.tup r1.sub hd (.xd [(("place" : Str), .int i)])
      exact p _ _ σ d [.int i] (s1.trans gr.f) (r1.grow gr) upd_same (RpL.mono gr.f _ _ rp)
    · cases e4
  · cases e4
/-- (c, e): what c reads is a constant -/
theorem sr_tupC {c : D} {v : V} {t : TE} {m : XR} (hc : ∀ F, Rp B.K F v c) (h : SR B t m) : SR B (tTup (tCons (tC v) (tCons t tNil))) (rTupC c m) := by
  intro F H σ g τ r g' rl e Q q
  obtain ⟨⟨r1, g1⟩, e1, e2⟩ := Option.bind_eq_some_iff.mp e
  cases r1 with
  | ok o =>
    cases e2
    refine h F H σ g τ (.ok o) g1 rl e1 _ fun F1 H1 x s1 r1 => ?_
    obtain ⟨F2, s2, r2⟩ := r1.freeze
    have rx := r2.frd
    refine ⟨by show 2 ≤ sizeLine; decide, fun p hp => ?_⟩
    have rp : RpL B.K F2 [v, x] [c, o.er] := ⟨_, _, rfl, hc _, _, _, rfl, rx, rfl⟩
    exact made_tup (K := B.K) r2.sub hp rp fun F3 H3 w fp gr ow nd nw => q F3 H3 w ((s1.trans s2).trans gr.f) (r2.drop.made gr ow nd nw)
  | ex C ns ds =>
    cases e2
    exact h F H σ g τ (.ex C ns ds) _ rl e1 _ fun F1 H1 d ws s1 r1 => q F1 H1 d ws s1 r1
end
end Mi

set_option Elab.async false
set_option linter.all false
set_option maxRecDepth 100000
/-! Mi18: try .. except C as e. -/
namespace Mi
open PySem PySem.Spec PyProof.Rows L2
theorem ents_none : ∀ {σ : L2.St} {g : G} {i : Nat} {x : Option V}, ents (σ.set i x) (g.set i none) = ents σ (g.set i none)
  | [], _, _, _ => rfl
  | _ :: _, [], i, x => by
    cases i <;> simp [ents] <;> (split <;> first | rfl | simp_all)
  | y :: σ, z :: g, 0, x => by
    show ents (x :: σ) (none :: g) = ents (y :: σ) (none :: g)
    cases x <;> cases y <;> rfl
  | y :: σ, z :: g, i + 1, x => by
    have ih := ents_none (σ := σ) (g := g) (i := i) (x := x)
    show ents (y :: σ.set i x) (z :: g.set i none) = ents (y :: σ) (z :: g.set i none)
    cases y <;> cases z <;> first | exact ih | exact congrArg _ ih
/-- the base of a handler -/
def Bs.hand (B : Bs) (F : Hp) (i : Nat) (pv : List V) : Bs := ⟨B.K, F, B.H0, B.M, i :: B.pin, pv, B.W⟩
section
variable {B : Bs} {F F' H H' : Hp} {σ : L2.St} {g : G} {τ : En}
theorem Rel.enter {i : Nat} {a : Addr} {pv : List V} (r : Rel B F H σ g τ) (hi : i < g.length) (hp : i ∉ B.pin) (h1 : pv[i]? = some (.ref a)) (h2 : ∀ j ∈ B.pin, pv[j]? = B.pv[j]?) : Rel (B.hand F i pv) F H (σ.set i (some (.ref a))) (g.set i none) τ := by
  have w := r.wipe i
  refine ⟨by rw [List.length_set, List.length_set]; exact r.len, fun j o hj => ?_, r.sub, Same.refl F, r.keep, fun b o e => .inl e, fun j hj => ?_, ?_⟩
  · by_cases e : i = j
    · subst e
      rw [List.getElem?_set_self hi] at hj
      cases hj
    · rw [List.getElem?_set_ne e]
      exact w.cov j o hj
  · rcases List.mem_cons.mp hj with rfl | hj
    · rw [List.getElem?_set_self (by rw [← r.len]; exact hi)]
      show _ = (pv[j]?).map some
      rw [h1]
      rfl
    · have e : i ≠ j := fun z => hp (z ▸ hj)
      rw [List.getElem?_set_ne e, r.pins j hj]
      show _ = (pv[j]?).map some
      rw [h2 j hj]
  · have := w.ent
    rw [ents_none]
    exact this
theorem Rel.leave {i : Nat} {pv : List V} {F0 : Hp} {H0 : Hp} {σ0 : L2.St} {g0 : G} {τ0 : En} (r0 : Rel B F0 H0 σ0 g0 τ0) (r : Rel (B.hand F0 i pv) F H σ g τ) (hp : i ∉ B.pin) (h2 : ∀ j ∈ B.pin, pv[j]? = B.pv[j]?) : Rel B F H (σ.set i none) (g.set i none) τ := by
  have w := r.wipe i
  refine ⟨by rw [List.length_set, List.length_set]; exact r.len, fun j o hj => ?_, r.sub, r0.f0.trans r.f0, r.keep, fun b o e => ?_, fun j hj => ?_, ?_⟩
  · by_cases e : i = j
    · subst e
      by_cases hi : i < g.length
      · rw [List.getElem?_set_self hi] at hj
        cases hj
      · rw [List.getElem?_eq_none_iff.mpr (by rw [List.length_set]; omega)] at hj
        cases hj
    · rw [List.getElem?_set_ne e]
      exact w.cov j o hj
  · rcases r.new b o e with e | e
    · exact r0.new b o e
    · exact .inr e
  · have e : i ≠ j := fun z => hp (z ▸ hj)
    rw [List.getElem?_set_ne e, r.pins j (List.mem_cons_of_mem _ hj)]
    show (pv[j]?).map some = _
    rw [h2 j hj]
  · have := w.ent
    rw [ents_none]
    exact this
def outW (i : Nat) : Out → Option Out
  | .nx g => some (.nx (g.set i none))
  | .rt o g => some (.rt o (g.set i none))
  | .bk g => some (.bk (g.set i none))
  | .ct g => some (.ct (g.set i none))
  | .ex _ _ _ _ => none
/-- try: body; except .. as e (slot i): h -/
def sTry (body : XS) (mt : Addr → Option Bool) (i : Nat) (h : Addr → List Str → List D → XS) : XS := fun g => (body g).bind fun x => match x with
  | .ex C ns ds g' => (mt C).bind fun b => if b = true then (if i < g'.length then (h C ns ds (g'.set i none)).bind (outW i) else none) else some (.ex C ns ds g')
  | .nx g' => some (.nx g')
  | .rt o g' => some (.rt o g')
  | .bk g' => some (.bk g')
  | .ct g' => some (.ct g')
theorem ss_try {c : Value} {i : Nat} {tb : WX → TS} {ts : Addr → Value → Option Addr → TS} {body : XS} {mt : Addr → Option Bool} {h : Addr → List Str → List D → XS} (hp : i ∉ B.pin)
    (hm : ∀ C b, mt C = some b → PySem.W.exmOne B.K (.ref C) c = some b)
    (hb : ∀ W : WX, SS { B with W := W } (tb W) body)
    (hh : ∀ (C a d : Addr) (ns : List Str) (ds : List D) (ws : List V) (F : Hp) (pv : List V), pv[i]? = some (.ref a) → F d = some (.xd (ns.zip ws)) → RpL B.K F ws ds → SS (B.hand F i pv) (ts a (.ref C) (some d)) (h C ns ds)) :
    SS B (fun D σ H => tb (wAs B.K c i ts B.W D) D σ H) (sTry body mt i h) := by
  intro F H σ g τ out rl e D p
  obtain ⟨x, e1, e2⟩ := Option.bind_eq_some_iff.mp e
  have rl' : Rel { B with W := wAs B.K c i ts B.W D } F H σ g τ := ⟨rl.len, rl.cov, rl.sub, rl.f0, rl.keep, rl.new, rl.pins, rl.ent⟩
  have bk : ∀ {F H σ g τ}, Rel { B with W := wAs B.K c i ts B.W D } F H σ g τ → Rel B F H σ g τ := fun r => ⟨r.len, r.cov, r.sub, r.f0, r.keep, r.new, r.pins, r.ent⟩
  refine hb _ F H σ g τ x rl' e1 D ?_
  cases x with
  | nx g' => cases e2; exact fun F' H' σ' s r => p F' H' σ' s (bk r)
  | rt o g' => cases e2; exact fun F' H' σ' v s r => p F' H' σ' v s (bk r)
  | bk g' => cases e2; exact fun F' H' σ' s r => p F' H' σ' s (bk r)
  | ct g' => cases e2; exact fun F' H' σ' s r => p F' H' σ' s (bk r)
  | ex C ns ds g' =>
    intro F' H' σ' d ws s r hd hw
    have r := bk r
    obtain ⟨b, e3, e4⟩ := Option.bind_eq_some_iff.mp e2
    refine ⟨b, hm _ _ e3, fun hbt a ha => ?_, fun hbf => ?_⟩
    · subst hbt
      rw [if_pos rfl] at e4
      split at e4
      · rename_i hi
        obtain ⟨y, e5, e6⟩ := Option.bind_eq_some_iff.mp e4
        have hi' : i < σ'.length := by rw [← r.len]; exact hi
        -- the values that are pinned
        have hpv : ∀ j ∈ B.pin, (((List.range σ'.length).map fun j => if j = i then V.ref a else (B.pv[j]?).getD .non))[j]? = B.pv[j]? := fun j hj => by
          have e := r.pins j hj
          have ne : j ≠ i := fun z => hp (z ▸ hj)
          by_cases hjl : j < σ'.length
          · rw [List.getElem?_map, List.getElem?_range hjl]
            show some (if j = i then V.ref a else (B.pv[j]?).getD .non) = _
            rw [if_neg ne]
            cases q : B.pv[j]? with
            | none =>
              rw [q, List.getElem?_eq_getElem hjl] at e
              cases e
            | some v => rfl
          · rw [List.getElem?_eq_none_iff.mpr (by omega)] at e
            cases q : B.pv[j]? with
            | none =>
              rw [List.getElem?_eq_none_iff.mpr (by rw [List.length_map, List.length_range]; omega)]
            | some v =>
              rw [q] at e
              cases e
        have h1 : (((List.range σ'.length).map fun j => if j = i then V.ref a else (B.pv[j]?).getD .non))[i]? = some (.ref a) := by
          rw [List.getElem?_map, List.getElem?_range hi']
          show some (if i = i then V.ref a else _) = _
          rw [if_pos rfl]
        generalize ((List.range σ'.length).map fun j => if j = i then V.ref a else (B.pv[j]?).getD .non) = pv at hpv h1
        have re := r.enter hi hp h1 hpv
        refine hh C a d ns ds ws F' pv h1 hd hw F' H' _ _ τ y re e5 _ ?_
        cases y with
        | nx g2 => cases e6; exact fun F2 H2 σ2 s2 r2 => p F2 H2 _ (s.trans s2) (r.leave r2 hp hpv)
        | rt o g2 => cases e6; exact fun F2 H2 σ2 v s2 r2 => p F2 H2 _ v (s.trans s2) (r.leave r2 hp hpv)
        | bk g2 => cases e6; exact fun F2 H2 σ2 s2 r2 => p F2 H2 _ (s.trans s2) (r.leave r2 hp hpv)
        | ct g2 => cases e6; exact fun F2 H2 σ2 s2 r2 => p F2 H2 _ (s.trans s2) (r.leave r2 hp hpv)
        | ex _ _ _ g2 => cases e6
      · cases e4
    · subst hbf
      rw [if_neg (by intro z; cases z)] at e4
      cases e4
      exact p F' H' σ' d ws s r hd hw
end
end Mi

set_option Elab.async false
set_option linter.all false
set_option maxRecDepth 100000
/-! Mi19: what a handler reads of its error; calls of methods that may raise; their values at an open environment. -/
namespace L2
open PySem PySem.Spec PyProof.Rows
/-- o.m(e, ..), what it lets out told at the slots -/
theorem pe_methX {X : Cx} {CX : CXT} {k : Nat} {f C : Addr} {fd : FuncData} {ps : List Str} {sp : Sp} {E : St → XK} {m : Str} {pos apos : Pos} {e o : Expr} {es : List Expr} {ta : TE} {t : TA} {pl : Sem Bool} (he : PE X o ta) (c : Cls X.K C) (hm : Meth X.K C m f) (F : FnOk X.prog X.w X.K X.mg X.base CX k f fd ps sp) (hr : Room k X.A) (hb : Binds X.K fd ps []) (hx : ∀ σ, PassesAt CX X σ (E σ)) (ha : PA X (e :: es) t)
    (hst : starEach (e :: es) X.env = (false, eval e X.env) :: starEach es X.env := by rfl) (hpl : (backTo pos (starEach es X.env)).any (·.1) = false := by rfl)
    (ht : eval (.Call (.Attribute o m apos) (e :: es) [] pos) X.env = (do
      let ov ← eval o X.env
      standAt apos.atName
      let (f, first) ← holding [ov] (getMethod ov m pl)
      callWith pos f first (backTo pos (starEach (e :: es) X.env)) (backToKw pos (keywordEach [] X.env))) := by rfl) :
    PE X (.Call (.Attribute o m apos) (e :: es) [] pos) (Mi.tMethX C m sp E ta t) := by
  refine ⟨fun pins s σ H Q I h => ?_⟩
  refine PySem.W.methodCall_KW (pl := pl) (thn (he.run pins s σ H _ I h) fun u s1 ⟨x, H1, I1, rx, a, dx, fs, ex, ea, l, q⟩ => ?_) ht
  subst ex
  obtain rfl : u = Value.ref a := rx
  refine getmeth_ok I1 ea c hm l ?_
  refine PySem.W.callWith_K (first := [.ref a]) (h₀ := X.base) I.ok.mod.kin hm.kp (thn (ha.run pos pins s1 σ H1 _ I1 q) fun us s2 ⟨vs, H2, I2, r, q2⟩ => ⟨I2.kIn, ?_⟩) hst hpl
  exact run_fnS (us := .ref a :: us) (vs := .ref a :: vs) F hr hb (hx σ) I2 (.cons rfl r) q2
end L2
namespace Mi
open PySem PySem.Spec PyProof.Rows L2
section
variable {B : Bs} {F F' H H' : Hp} {σ : L2.St} {g : G} {τ : En}
/-- e.f in the handler -/
def hFld (ns : List Str) (ds : List D) (f : Str) : XE := fun g => match (ns.zip ds).lookup f with
  | some d => some (.fr d, g)
  | none => none
theorem zip_lookX {K : PySem.W.Frag} {F : Hp} {f : Str} {d : D} : ∀ {ns : List Str} {ws : List V} {ds : List D}, RpL K F ws ds → (ns.zip ds).lookup f = some d → ∃ v, (ns.zip ws).lookup f = some v ∧ Rp K F v d
  | [], _, _, _, h => by simp at h
  | n :: ns, ws, [], _, h => by simp at h
  | n :: ns, ws, x :: ds, r, h => by
    obtain ⟨w, ws', rfl, r1, r2⟩ := r
    rw [List.zip_cons_cons] at h ⊢
    unfold List.lookup at h ⊢
    split at h
    · cases h
      exact ⟨w, rfl, r1⟩
    · exact zip_lookX r2 h
theorem se_hFld {i : Nat} {pv : List V} {a d C : Addr} {C' : Addr} {ns : List Str} {ds : List D} {ws : List V} {f : Str} (h1 : pv[i]? = some (.ref a)) (hd : F d = some (.xd (ns.zip ws))) (hw : RpL B.K F ws ds) (hC : C' = C) :
    SE (B.hand F i pv) (tXf a (.ref C') (some d) C f (tVar i)) (hFld ns ds f) := by
  intro F1 H σ g τ o g' rl e Q q
  unfold hFld at e
  split at e
  · rename_i x hx
    cases e
    obtain ⟨v, hv, rv⟩ := zip_lookX hw hx
    have hs : σ[i]? = some (some (.ref a)) := by
      rw [rl.pins i (List.mem_cons_self ..)]
      show (pv[i]?).map some = _
      rw [h1]
      rfl
    have s1 : Same F F1 := rl.f0
    refine ⟨.ref a, hs, rfl, by rw [hC], d, _, v, rfl, rl.sub _ _ (s1 _ _ hd), hv, ?_⟩
    exact q F1 H v (Same.refl F1) (rl.addFr (Rp.mono s1 _ _ rv))
  · cases e
end
end Mi
namespace L2
open PySem PySem.Spec PyProof.Rows
/-- isinstance(e, c), e the error that the suite holds, of an own class with a dict -/
def rIsX (K : PySem.W.Frag) (C a : Addr) (cls : Value) (d : Option Addr) : List V → Hp → VK → Prop := fun xs H Q => cls = .ref C ∧ ∃ (dd : Addr) (fs : List (Str × V)) (c : V) (cv : Value) (b : Bool), d = some dd ∧ H dd = some (.xd fs) ∧ xs = [.ref a, c] ∧ (∀ u, RelV c u → u = cv) ∧ PySem.W.kitOne K (.ref C) cv = some b ∧ Q (.bl b) H
theorem call_isX {X : Cx} {a C : Addr} {cls : Value} {d : Option Addr} {oe : Obj} {pn : List (Addr × Obj)} (T : ExcC X.K C) (hz : Zc cls d oe) (hf : ∃ vs, oe.data = .fields vs) : CallR (X.suite a ((a, oe) :: pn)) (.builtin "isinstance") (rIsX X.K C a cls d) := by
  intro pins s σ H xs us Q I r h
  obtain ⟨rfl, dd, fs, c, cv, b, rfl, ea, rfl, hcv, e, q⟩ := h
  cases r with
  | cons rx rr =>
    cases rr with
    | cons rt rr =>
      cases rr
      cases rx
      have ec := hcv _ rt
      subst ec
      obtain ⟨hget, _⟩ := I.pin (a, oe) (List.mem_append.mpr (.inl List.mem_cons_self))
      obtain ⟨vs, hv⟩ := hf
      have hx : ObjOk X.prog X.w H s.heap dd (.xd fs) := I.hok dd _ ea
      obtain ⟨mA, hns, hr⟩ := hx
      obtain ⟨od, ho, hl⟩ := lookIn_ns hns
      have J : PySem.W.InstAt s.heap a oe C (some od) := ⟨hget, hz.1, by unfold PySem.W.notCls; rw [hv] <;> rfl, by rw [hz.2]; exact ho⟩
      have hcl : (PySem.W.clsIn X.K C).isSome = true := by
        obtain ⟨cd, hc, _⟩ := PySem.W.any_some T.hd
        rw [hc]
        rfl
      exact PySem.W.kia_one (PySem.W.kitx_exc hcl T.hg T.hk T.hs T.ha T.hn T.ht T.hm) I.kIn J e (fun z => nomatch z) fun tk => ⟨.bl b, H, I.kept (t' := tk) fun _ _ z => z, rfl, q⟩
end L2
namespace Mi
open PySem PySem.Spec PyProof.Rows L2
section
variable {B : Bs} {F F' H H' : Hp} {σ : L2.St} {g : G} {τ : En}
/-- isinstance(e, T) in the handler -/
def hIs (b : Bool) : XE := fun g => some (.fr (.bl b), g)
theorem se_hIs {i : Nat} {pv : List V} {a d C C' : Addr} {ns : List Str} {ws : List V} {c : V} {cv : Value} {b : Bool} (h1 : pv[i]? = some (.ref a)) (hd : F d = some (.xd (ns.zip ws))) (hC : C' = C) (hcv : ∀ u, RelV c u → u = cv) (hk : PySem.W.kitOne B.K (.ref C) cv = some b) :
    SE (B.hand F i pv) (tCB (rIsX B.K C a (.ref C') (some d)) (tCons (tVar i) (tCons (tC c) tNil))) (hIs b) := by
  intro F1 H σ g τ o g' rl e Q q
  cases e
  have hs : σ[i]? = some (some (.ref a)) := by
    rw [rl.pins i (List.mem_cons_self ..)]
    show (pv[i]?).map some = _
    rw [h1]
    rfl
  have s1 : Same F F1 := rl.f0
  refine ⟨.ref a, hs, ⟨by rw [hC], d, _, c, cv, b, rfl, rl.sub _ _ (s1 _ _ hd), rfl, hcv, hk, ?_⟩⟩
  exact q F1 H (.bl b) (Same.refl F1) (rl.addFr rfl)
end
end Mi

set_option Elab.async false
set_option linter.all false
set_option maxRecDepth 100000
/-! Mi20: Mi16 to Mi19 at an open environment. -/
namespace Mi
open PySem PySem.Spec PyProof.Rows L2
section
variable {x : Option O} {g : G}
theorem ev_runX {N n : Nat} {pin : List Nat} {body : XS} {os : List O} (h : os.length = n) : runX N n pin body os = bd (body (os.map some ++ List.replicate (N - n) none)) fun x => match x with
      | .rt r g => mp (outs pin g 0 os) fun os' => (.ok r, os')
      | .nx g => mp (outs pin g 0 os) fun os' => (.ok (.fr .non), os')
      | .ex C ns ds g => mp (outs pin g 0 os) fun os' => (.ex C ns ds, os')
      | _ => none := by
  unfold runX
  rw [if_pos h]
  rfl
@[simp] theorem ev_rOk {m : XE} : rOk m (x :: g) = mp (m (x :: g)) fun p => (.ok p.1, p.2) := (rfl)
@[simp] theorem ev_rCall {f : List O → Option (Rs × List O)} {as : XA} : rCall f as (x :: g) = bd (as (x :: g)) fun p => bd (pull p.1 p.2) fun q => mp (f q.1) fun z => (z.1, push p.1 z.2 q.2) := (rfl)
@[simp] theorem ev_rMeth {C : Addr} {m : Str} {f : List O → Option (Rs × List O)} {a : XO} {as : XA} : rMeth C m f a as (x :: g) = bd (a (x :: g)) fun p => if obAt C m p.2 p.1 = true then bd (as p.2) fun q => bd (pull (p.1 :: q.1) q.2) fun s => mp (f s.1) fun z => (z.1, push (p.1 :: q.1) z.2 s.2) else none := (rfl)
@[simp] theorem ev_rTupC {c : D} {m : XR} : rTupC c m (x :: g) = bd (m (x :: g)) fun p => match p.1 with
  | .ok o => some (.ok (.fr (.tup [c, o.er])), p.2)
  | .ex C ns ds => some (.ex C ns ds, p.2) := (rfl)
@[simp] theorem ev_sAsgR {m : XR} {a : XG} : sAsgR m a (x :: g) = bd (m (x :: g)) fun p => match p.1 with
  | .ok o => mp (a o p.2) .nx
  | .ex C ns ds => some (.ex C ns ds p.2) := (rfl)
@[simp] theorem ev_sRetR {m : XR} : sRetR m (x :: g) = bd (m (x :: g)) fun p => match p.1 with
  | .ok o => some (.rt o p.2)
  | .ex C ns ds => some (.ex C ns ds p.2) := (rfl)
@[simp] theorem ev_sDropR {m : XR} : sDropR m (x :: g) = bd (m (x :: g)) fun p => match p.1 with
  | .ok _ => some (.nx p.2)
  | .ex C ns ds => some (.ex C ns ds p.2) := (rfl)
@[simp] theorem ev_sRaiseP {C : Addr} {ma : XA} : sRaiseP C ma (x :: g) = bd (ma (x :: g)) fun p => bd (alld p.1) fun ds => match ds with
  | [.int i] => if i.natAbs.log2 < 1920 then some (.ex C ["place"] [.int i] p.2) else none
  | _ => none := (rfl)
@[simp] theorem ev_sTry {body : XS} {mt : Addr → Option Bool} {i : Nat} {h : Addr → List Str → List D → XS} : sTry body mt i h (x :: g) = bd (body (x :: g)) fun y => match y with
  | .ex C ns ds g' => bd (mt C) fun b => if b = true then (if i < g'.length then bd (h C ns ds (g'.set i none)) (outW i) else none) else some (.ex C ns ds g')
  | .nx g' => some (.nx g')
  | .rt o g' => some (.rt o g')
  | .bk g' => some (.bk g')
  | .ct g' => some (.ct g') := (rfl)
@[simp] theorem ev_hFld {ns : List Str} {ds : List D} {f : Str} : hFld ns ds f (x :: g) = match (ns.zip ds).lookup f with
  | some d => some (.fr d, x :: g)
  | none => none := (rfl)
@[simp] theorem ev_hIs {b : Bool} : hIs b (x :: g) = some (.fr (.bl b), x :: g) := (rfl)
@[simp] theorem outW_nx {i : Nat} : outW i (.nx g) = some (.nx (g.set i none)) := (rfl)
@[simp] theorem outW_rt {i : Nat} {o : O} : outW i (.rt o g) = some (.rt o (g.set i none)) := (rfl)
end
section
variable {P : Program} {w : World} {K : PySem.W.Frag} {mg : Str → Option Value} {base : Heap}
/-- a body that gives out a token and may raise -/
theorem ok_fnTX {x qual : Str} {st : Stmt} {f : Addr} {fd : FuncData} {N ps : List Str} {k : Nat} {pin : List Nat} {body : XS} (F : Fun K x qual st f fd) (S : FnScope N ps (defScope st)) (hp : ∀ j ∈ pin, j < ps.length) (hnc : ∀ y ∈ (defScope st).names, y.2 ≠ .cell) (h1 : 1 ≤ ps.length)
    (h : ∀ (cdv : Value) (A : Around) (outer : List Env) (s : Shared) (H : Hp) (E : XK), Room k (A.deeper (envOfC qual (defScope st) s.heap.objs.size f cdv)) →
      ∃ t, PSsT (cxOf (L2.CX P w) P w K mg base N qual (defScope st) f cdv A outer s H E) (defBody st) t ∧ ∀ B : Bs, B.K = K → B.pin = pin → B.W = (fun cls d _ H => E cls d H) → SS B t body) :
    FnOk P w K mg base (L2.CX P w) (k + 1) f fd ps (spX K ps.length (runX N.length ps.length pin body)) := by
  obtain ⟨oc, od, kV, doc, pm, an, cdv, ct, osl, rfl, l, c⟩ := F.ex
  refine fn_ofT l c S hnc h1 (fun vs H Q E h => h.1) fun A outer s H vs Q E hr hsp => ?_
  obtain ⟨t, ht, hs⟩ := h cdv A outer s H E hr
  exact ⟨t, ht, run_okX hs hp hsp⟩
theorem FnOk.noX {f : Addr} {fd : FuncData} {ps : List Str} {k : Nat} : FnOk P w K mg base (L2.CX P w) k f fd ps (spX K ps.length (fun _ => none)) :=
  ⟨fun vs H Q E h => h.1, fun A outer s H args us vs Q E _ _ _ _ h => by
    obtain ⟨_, _, _, _, _, _, _, _, _, _, e, _⟩ := h
    cases e⟩
end
end Mi

set_option Elab.async false
set_option linter.all false
set_option maxRecDepth 100000
set_option maxHeartbeats 4000000
/-! Mi21: int of long texts, chains of comparisons, displays of dicts, get, ord, unpacking lists or tuples. -/
namespace PySem.W
open PySem PySem.Calls PySem.NumText PyProof.Rows
namespace KIN
theorem limit_K {K : Frag} {M : Model} {h : Heap} (X : K.In h) (e : nsIn K cStatics "sys.int_max_str_digits" = some none) : Looks M h Builtin.intMaxStrDigits 4300 := by
  unfold Builtin.intMaxStrDigits
  exact Looks.andThen (looks_nsIn X e) .now
theorem wp_textL {K : Frag} {M : Model} {A : Around} {E : Value → Shared → Prop} {s : Shared} {Q : Value → Shared → Prop} {v : Value} {text : List Nat} {n : Int} (X : K.In s.heap) (e : nsIn K cStatics "sys.int_max_str_digits" = some none)
    (hs : ¬ (text.takeWhile (· != 0)).length ≤ 640) (hr : (int_private% "readNumeral") 4300 10 (text.takeWhile (· != 0)) = (int_private% "Numeral.value") n)
    (ha : ((text.takeWhile (· != 0)).length == text.length) = true) (h : Q (.int n s.toks) { s with toks := s.toks + 1 }) :
    wpAny M A ((int_private% "intFromText") v text 10) Q E s := by
  show wpAny M A (do
    let limit ← if (text.takeWhile (· != 0)).length ≤ 640 then pure 0 else Builtin.intMaxStrDigits
    _) Q E s
  rw [if_neg hs]
  refine wpAny_bind ((limit_K X e).here ?_)
  dsimp only
  rw [hr]
  dsimp only
  rw [if_pos ha]
  exact wpAny_mkInt h
set_option maxHeartbeats 4000000 in
theorem meets_textL {x : PySem.Str} {u : Tok} {n : Int} (hl : ¬ (numSeenOf x).length ≤ 640) (hx : x.length ≤ sizeLine) (hn : PySem.intText? x = some n) : Meets (Builtin.«int.__new__» ⟨[.type "int", .str x u], []⟩) (fun A R s => ∃ K : Frag, K.In s.heap ∧ nsIn K cStatics "sys.int_max_str_digits" = some none ∧ R (.ok (.ret (.int n s.toks))) { s with toks := s.toks + 1 }) :=
  .of_wp fun P w A R s ⟨K, X, e, h⟩ => by
    obtain ⟨hp, g, d, tk, os⟩ := s
    have f1 := F.conv_sub_int
    have f2 := F.madeHere_int
    have f3 := str_int
    have f4 := str_idx
    have f5 := str_trunc
    have f6 : typeOf (.str x u) = pure (.type "str") := rfl
    have hr : (int_private% "readNumeral") 4300 10 (numSeenOf x) = (int_private% "Numeral.value") n ∧ ((numSeenOf x).length == (numTextOf x).length) = true := by
      rcases read4300 x hx with ⟨m, h1, h2, h3⟩ | ⟨h1, _⟩
      · rw [hn] at h1
        injection h1 with h1
        subst h1
        exact ⟨h3, h2⟩
      · rw [hn] at h1
        cases h1
    have hk := Hid.mk (And.intro hl hr)
    have hX := Hid.mk (And.intro X e)
    clear hr hl hn hx X e
    repeat (any_goals (first
      | assumption
      | ((with_reducible show wpAny _ _ ((int_private% "intFromText") _ _ _) _ _ _); refine wp_textL hX.out.1 hX.out.2 hk.out.1 hk.out.2.1 hk.out.2.2 ?_)
      | wp_step))
    all_goals first | exact ⟨_, rfl, h⟩ | skip
set_option maxHeartbeats 4000000 in
theorem meets_text0 {x : PySem.Str} {u : Tok} {n : Int} (hl : (numSeenOf x).length ≤ 640) (hn : PySem.intText? x = some n) : Gives (Builtin.«int.__new__» ⟨[.type "int", .str x u], []⟩) (.int n) :=
  .of_wp fun M A E s Q h => by
    obtain ⟨hp, g, d, tk, os⟩ := s
    have f1 := F.conv_sub_int
    have f2 := F.madeHere_int
    have f3 := str_int
    have f4 := str_idx
    have f5 := str_trunc
    have f6 : typeOf (.str x u) = pure (.type "str") := rfl
    have hr : (int_private% "readNumeral") 0 10 (numSeenOf x) = (int_private% "Numeral.value") n ∧ ((numSeenOf x).length == (numTextOf x).length) = true := by
      rcases read0 x hl with ⟨m, h1, h2, h3⟩ | ⟨h1, _⟩
      · rw [hn] at h1
        injection h1 with h1
        subst h1
        exact ⟨h3, h2⟩
      · rw [hn] at h1
        cases h1
    have hk := Hid.mk (And.intro hl hr)
    clear hr hl hn
    repeat (any_goals (first
      | assumption
      | ((with_reducible show wpAny _ _ ((int_private% "intFromText") _ _ _) _ _ _); refine wp_text hk.out.1 hk.out.2.1 hk.out.2.2 ?_)
      | wp_step))
    all_goals first | exact ⟨_, rfl, h⟩ | skip
end KIN
end PySem.W
namespace L2
open PySem PySem.Spec PyProof.Rows
/-- int(text), also a long one -/
theorem call_int_strL {X : Cx} (e : PySem.W.nsIn X.K cStatics "sys.int_max_str_digits" = some none) : CallR X (.type "int") (fun xs H Q => ∃ a n, xs = [.str a] ∧ PySem.intText? a = some n ∧ a.length ≤ sizeLine ∧ Q (.int n) H) := by
  intro pins s σ H xs us Q I rs h
  obtain ⟨a, n, rfl, hn, hl, h⟩ := h
  cases rs with
  | cons r1 rs =>
    cases rs
    obtain ⟨t, rfl⟩ := r1
    by_cases hs : (numSeenOf a).length ≤ 640
    · exact PySem.call_int_1 (PySem.W.KIN.meets_text0 hs hn).meets (show (Made.int n).post _ s from ⟨rfl, ⟨.int n, H, I.tok _, ⟨_, rfl⟩, h⟩⟩)
    · exact PySem.call_int_1 (PySem.W.KIN.meets_textL hs hl hn) ⟨X.K, I.kIn, e, ⟨rfl, ⟨.int n, H, I.tok _, ⟨_, rfl⟩, h⟩⟩⟩
end L2

set_option Elab.async false
set_option linter.all false
set_option maxRecDepth 100000
set_option maxHeartbeats 1000000
/-! Mi22: chains, displays of dicts, get, ord, int of long texts, unpacking lists or tuples. -/
namespace L2
open PySem PySem.Spec PyProof.Rows
def gTl (K : PySem.W.Frag) (n : Nat) (t : TGs) : TG := fun v σ H Q => gTup K n t v σ H Q ∨ gLst K n t v σ H Q
theorem pg_tl {X : Cx} {pos : Pos} {es : List Expr} {k : Nat} {t : TGs} {n : Nat} (hc : X.calm = true) (h : PGs X es t)
    (hn : (assignEach es X.env).length = n := by rfl) (hst : (assignEach es X.env).findIdx? (·.1) = none := by rfl) : PG X (.Tuple es k pos) (gTl X.K n t) :=
  ⟨fun pins s σ H v u Q I r hw => hw.elim (fun z => (pg_tup hc h hn hst).run pins s σ H v u Q I r z) (fun z => (pg_lst hc h hn hst).run pins s σ H v u Q I r z)⟩
end L2
namespace Mi
open PySem PySem.Spec PyProof.Rows L2
section
variable {B : Bs} {F F' H H' : Hp} {σ : L2.St} {g : G} {τ : En} {K : PySem.W.Frag}
/-! ### a < b < c -/
def xChain (f f' : D → D → Option D) (a b c : XO) : XE := fun g => (a g).bind fun p => (b p.2).bind fun q => (view q.2 p.1).bind fun d => (view q.2 q.1).bind fun e => (f d e).bind fun z => match z with
  | .bl true => (c q.2).bind fun s => (view s.2 q.1).bind fun e' => (view s.2 s.1).bind fun h => (f' e' h).map fun w => (.fr w, s.2)
  | .bl false => some (.fr (.bl false), q.2)
  | _ => none
theorem se_chain {r r' : R2} {f f' : D → D → Option D} {ta tb tc : TE} {a b c : XO} (h1 : S2 B.K r f) (h2 : S2 B.K r' f') (ha : SO B ta a) (hb : SO B tb b) (hc : SO B tc c) : SE B (tChain r r' ta tb tc) (xChain f f' a b c) := by
  intro F H σ g τ o g' rl e Q q
  obtain ⟨⟨x, g1⟩, e1, e2⟩ := Option.bind_eq_some_iff.mp e
  obtain ⟨⟨y, g2⟩, e3, e4⟩ := Option.bind_eq_some_iff.mp e2
  obtain ⟨d, e5, e6⟩ := Option.bind_eq_some_iff.mp e4
  obtain ⟨d2, e7, e8⟩ := Option.bind_eq_some_iff.mp e6
  obtain ⟨z, e9, e10⟩ := Option.bind_eq_some_iff.mp e8
  refine ha F H σ g τ x g1 rl e1 _ fun F1 H1 v s1 r1 ok1 => ?_
  refine hb F1 H1 σ g1 τ y g2 r1 e3 _ fun F2 H2 u s2 r2 ok2 => ?_
  obtain ⟨w, hw, k⟩ := h1 H2 v u d d2 z (r2.view (ok1.mono s2) e5) (r2.view ok2 e7) e9
  refine k _ ?_
  dsimp only at e10
  split at e10
  · cases hw
    refine ⟨true, rfl, ?_⟩
    rw [if_pos rfl]
    obtain ⟨⟨s, g3⟩, e11, e12⟩ := Option.bind_eq_some_iff.mp e10
    obtain ⟨d3, e13, e14⟩ := Option.bind_eq_some_iff.mp e12
    obtain ⟨d4, e15, e16⟩ := Option.bind_eq_some_iff.mp e14
    obtain ⟨y2, e17, e18⟩ := Option.map_eq_some_iff.mp e16
    cases e18
    refine hc F2 H2 σ g2 τ s g3 r2 e11 _ fun F3 H3 v3 s3 r3 ok3 => ?_
    obtain ⟨w2, hw2, k2⟩ := h2 H3 u v3 d3 d4 y2 (r3.view (ok2.mono s3) e13) (r3.view ok3 e15) e17
    exact k2 Q (q F3 H3 w2 ((s1.trans s2).trans s3) (r3.addFr (toV_rp hw2 F3)))
  · cases hw
    refine ⟨false, rfl, ?_⟩
    rw [if_neg (by intro z; cases z)]
    cases e10
    exact q F2 H2 _ (s1.trans s2) (r2.addFr rfl)
  · cases e10
/-! ### a, b = a list or a tuple -/
def gTlm (n : Nat) (b : List D → G → Option G) : XG := fun o g => match o.er with
  | .tup ds => if ds.length = n then b ds g else none
  | .lst ds => if ds.length = n then b ds g else none
  | _ => none
theorem sg_tl {n : Nat} {u : TGs} {b : List D → G → Option G} (hb : SGs B u b) : SG B (gTl B.K n u) (gTlm n b) := by
  intro F H σ g τ v o g' r e Q q
  obtain ⟨F1, s1, r1⟩ := r.freeze
  unfold gTlm at e
  split at e
  · rename_i ds eo
    rw [eo] at r1
    split at e
    · rename_i hn
      obtain ⟨a, vs, rfl, h1, h2⟩ := r1.frd
      refine .inl ⟨a, vs, rfl, Same.sqT r1.sub h1, by rw [h2.length]; exact hn, ?_⟩
      exact hb F1 H σ g τ vs ds g' r1.drop h2 e Q fun F2 H2 σ2 s2 r2 => q F2 H2 σ2 (s1.trans s2) r2
    · cases e
  · rename_i ds eo
    rw [eo] at r1
    split at e
    · rename_i hn
      obtain ⟨a, vs, rfl, h1, h2⟩ := r1.frd
      refine .inr ⟨a, vs, rfl, SqL.of (r1.sub _ _ h1), by rw [h2.length]; exact hn, ?_⟩
      exact hb F1 H σ g τ vs ds g' r1.drop h2 e Q fun F2 H2 σ2 s2 r2 => q F2 H2 σ2 (s1.trans s2) r2
    · cases e
  · cases e
/-! ### {k: v, ..} -/
def xPs : List (XO × XO) → G → Option (List (D × D) × G)
  | [], g => some ([], g)
  | m :: r, g => (m.1 g).bind fun p => (opdD p.1).bind fun d => (m.2 p.2).bind fun q => (opdD q.1).bind fun e => (xPs r q.2).map fun s => ((d, e) :: s.1, s.2)
inductive SPp (B : Bs) : List (TE × TE) → List (XO × XO) → Prop where
  | nil : SPp B [] []
  | cons {tk tv : TE} {mk mv : XO} {r : List (TE × TE)} {ms : List (XO × XO)} : SO B tk mk → SO B tv mv → SPp B r ms → SPp B ((tk, tv) :: r) ((mk, mv) :: ms)
theorem sp_run {trs : List (TE × TE)} {ms : List (XO × XO)} (h : SPp B trs ms) : ∀ {F H : Hp} {σ : L2.St} {g : G} {τ : En} {ds : List (D × D)} {g' : G}, Rel B F H σ g τ → xPs ms g = some (ds, g') → ∀ Q : List (V × V) → Hp → Prop,
    (∀ F' H' ps, Same F F' → Rel B F' H' σ g' τ → RpL B.K F' (ps.map (·.1)) (ds.map (·.1)) → RpL B.K F' (ps.map (·.2)) (ds.map (·.2)) → Q ps H') → tPairs trs σ H Q := by
  induction h with
  | nil =>
    intro F H σ g τ ds g' r e Q q
    cases e
    exact q F H [] (Same.refl F) r RpL.nil RpL.nil
  | @cons tk tv mk mv r ms hk hv _ ih =>
    intro F H σ g τ ds g' rl e Q q
    obtain ⟨⟨x, g1⟩, e1, e2⟩ := Option.bind_eq_some_iff.mp e
    obtain ⟨d, e3, e4⟩ := Option.bind_eq_some_iff.mp e2
    obtain ⟨⟨y, g2⟩, e5, e6⟩ := Option.bind_eq_some_iff.mp e4
    obtain ⟨d2, e7, e8⟩ := Option.bind_eq_some_iff.mp e6
    obtain ⟨⟨ds1, g3⟩, e9, e10⟩ := Option.map_eq_some_iff.mp e8
    cases e10
    refine hk F H σ g τ x g1 rl e1 _ fun F1 H1 v s1 r1 ok1 => ?_
    refine hv F1 H1 σ g1 τ y g2 r1 e5 _ fun F2 H2 u s2 r2 ok2 => ?_
    refine ih r2 e9 _ fun F3 H3 ps s3 r3 h1 h2 => ?_
    exact q F3 H3 _ ((s1.trans s2).trans s3) r3 (RpL.cons (Rp.mono (s2.trans s3) _ _ (opdD_ok ok1 e3)) h1) (RpL.cons (Rp.mono s3 _ _ (opdD_ok ok2 e7)) h2)
def keysD : List D → Option (List Key)
  | [] => some []
  | d :: r => (keyD d).bind fun k => (keysD r).map fun ks => k :: ks
theorem keysD_rp : ∀ {ds : List D} {vs : List V} {ks : List Key}, RpL K F vs ds → keysD ds = some ks → vs = ks.map kV
  | [], vs, ks, h, e => by
    cases e
    exact h
  | d :: ds, vs, ks, h, e => by
    obtain ⟨v, r, rfl, h1, h2⟩ := h
    obtain ⟨k, e1, e2⟩ := Option.bind_eq_some_iff.mp e
    obtain ⟨ks', e3, e4⟩ := Option.map_eq_some_iff.mp e2
    cases e4
    rw [keyD_v h1 e1, keysD_rp h2 e3]
    rfl
theorem putK_app {κ : Type} [DecidableEq κ] {kvs : List (κ × V)} {k : κ} {v : V} (h : k ∉ kvs.map (·.1)) : putK kvs k v = kvs ++ [(k, v)] := by
  refine putK_new v ?_
  cases e : valV kvs k with
  | none => rfl
  | some x =>
    have := valV_any k kvs
    rw [e] at this
    obtain ⟨p, hp, hk⟩ := List.any_eq_true.mp this
    exact (h (List.mem_map.mpr ⟨p, hp, of_decide_eq_true hk⟩)).elim
theorem mergeK_nd : ∀ {more kvs : List (Key × V)}, (kvs.map (·.1) ++ more.map (·.1)).Nodup → mergeK kvs more = kvs ++ more
  | [], kvs, _ => (List.append_nil kvs).symm
  | p :: more, kvs, h => by
    have h1 : p.1 ∉ kvs.map (·.1) := fun z => (List.nodup_append.mp h).2.2 p.1 z p.1 (List.mem_cons_self ..) rfl
    show mergeK (putK kvs p.1 p.2) more = _
    rw [putK_app h1, mergeK_nd (by rw [List.map_append, List.append_assoc]; exact h), List.append_assoc]
    rfl
def xDisp (ms : List (XO × XO)) : XE := fun g => (xPs ms g).bind fun q => (keysD (q.1.map (·.1))).bind fun ks => if ks.Nodup ∧ ks.length ≤ 15 then some (.dK ks (q.1.map fun p => .fr p.2), q.2) else none
theorem se_disp {trs : List (TE × TE)} {ms : List (XO × XO)} (h : SPp B trs ms) : SE B (tDisp trs) (xDisp ms) := by
  intro F H σ g τ o g' rl e Q q
  obtain ⟨⟨ds, g1⟩, e1, e2⟩ := Option.bind_eq_some_iff.mp e
  obtain ⟨ks, e3, e4⟩ := Option.bind_eq_some_iff.mp e2
  split at e4
  · rename_i hc
    cases e4
    intro p hp
    have gr := Grow.own rl.sub hp (.dK [])
    have r0 : Rel B F (upd H p (.dK [])) σ g ((.ref p, .dK [] []) :: τ) := rl.made (fp := [p]) gr ⟨p, [], [], rfl, upd_same, rfl, OwL.nil, rfl⟩ (List.nodup_cons.mpr ⟨List.not_mem_nil, List.nodup_nil⟩) fun b hb => by
      rcases List.mem_singleton.mp hb with rfl
      exact ⟨hp, rl.sub.free hp⟩
    refine sp_run h r0 e1 _ fun F1 H1 ps s1 r1 h1 h2 => ?_
    obtain ⟨f1, k1, k2, k3⟩ := Rel.open (E1 := [(.ref p, .dK [] [])]) (τ := τ) r1
    obtain ⟨a, kvs, f, ea, e5, e6, e7, rfl⟩ := OwE.one k1
    cases ea
    obtain rfl : kvs = [] := List.map_eq_nil_iff.mp e6
    have ek := keysD_rp h1 e3
    have hl : ks.length = ps.length := by
      have := congrArg List.length ek
      simpa using this.symm
    have hz1 : (ks.zip (ps.map (·.2))).map (·.1) = ks := List.map_fst_zip (by simp; omega)
    have hz2 : (ks.zip (ps.map (·.2))).map (·.2) = ps.map (·.2) := List.map_snd_zip (by simp; omega)
    refine ⟨e5, ks.zip (ps.map (·.2)), ?_, by rw [List.length_zip, List.length_map]; omega, ?_⟩
    · apply List.ext_getElem?
      intro i
      have q1 : (ps.map (·.1))[i]? = (ks.map kV)[i]? := by rw [ek]
      rw [List.getElem?_map, List.getElem?_map] at q1
      rw [List.getElem?_map]
      by_cases hi : i < ps.length
      · have hi2 : i < ks.length := by omega
        rw [List.getElem?_eq_getElem hi, List.getElem?_eq_getElem hi2] at q1
        rw [List.getElem?_eq_getElem hi, List.getElem?_eq_getElem (by simp; omega)]
        simp at q1 ⊢
        exact Prod.ext q1 rfl
      · rw [List.getElem?_eq_none (by omega), List.getElem?_eq_none (by simp; omega)]
        rfl
    · rw [mergeK_nd (kvs := []) (by rw [hz1]; exact hc.1), List.nil_append]
      refine q F1 _ (.ref p) s1 (k3 p _ [(.ref p, .dK ks (ds.map fun (q : D × D) => O.fr q.2))] [p] List.mem_cons_self (one_OwE ⟨p, _, [], rfl, upd_same, hz1, ?_, rfl⟩) (List.nodup_cons.mpr ⟨List.not_mem_nil, List.nodup_nil⟩) fun b hb => ?_)
      · rw [hz2]
        have : (ds.map fun (q : D × D) => O.fr q.2) = (ds.map (·.2)).map O.fr := by rw [List.map_map]; rfl
        rw [this]
        exact OwL.frs h2
      · rcases List.mem_singleton.mp hb with rfl
        exact List.mem_cons_self
  · cases e4
/-! ### d.get(k, x) -/
theorem look_none {κ : Type} [DecidableEq κ] {k : κ} : ∀ {kvs : List (κ × V)} {α : Type} {ds : List α}, kvs.length = ds.length → look k (kvs.map (·.1)) ds = none → valV kvs k = none
  | [], _, _, _, _ => rfl
  | p :: kvs, _, [], h, _ => by simp at h
  | p :: kvs, _, d :: ds, h, e => by
    rw [List.map_cons] at e
    unfold look at e
    split at e
    · cases e
    · rename_i q
      rw [valV_neg q]
      exact look_none (by simpa using h) e
def xGet2 (a b c : XO) : XE := fun g => (a g).bind fun p => (b p.2).bind fun q => (c q.2).bind fun s => (view s.2 q.1).bind fun e => (opdD s.1).bind fun z => match p.1 with
  | .d (.dK ks ds) => (keyD e).map fun k => (.fr ((look k ks ds).getD z), s.2)
  | .br i => match s.2[i]? with
    | some (some (.dK ks os)) => (keyD e).bind fun k => match look k ks os with
      | some o => (oFr o).map fun d => (.fr d, s.2)
      | none => some (.fr z, s.2)
    | _ => none
  | _ => none
theorem se_get2 {td ty tx : TE} {a b c : XO} (ha : SO B td a) (hb : SO B ty b) (hc : SO B tx c) (hbr : ∀ g p, a g = some p → ∀ i, p.1 = .br i → ∃ ks os, p.2[i]? = some (some (.dK ks os))) : SE B (tDGet2 td ty tx) (xGet2 a b c) := by
  intro F H σ g τ o g' rl e Q q
  obtain ⟨⟨x, g1⟩, e1, e2⟩ := Option.bind_eq_some_iff.mp e
  obtain ⟨⟨y, g2⟩, e3, e4⟩ := Option.bind_eq_some_iff.mp e2
  obtain ⟨⟨w, g3⟩, e5, e6⟩ := Option.bind_eq_some_iff.mp e4
  obtain ⟨d, e7, e8⟩ := Option.bind_eq_some_iff.mp e6
  obtain ⟨z, e9, e10⟩ := Option.bind_eq_some_iff.mp e8
  refine ha F H σ g τ x g1 rl e1 _ fun F1 H1 v s1 r1 ok1 => ?_
  cases x with
  | d dd =>
    dsimp only at e10
    split at e10
    · rename_i ks ds eq
      cases eq
      obtain ⟨k, e11, e12⟩ := Option.map_eq_some_iff.mp e10
      cases e12
      obtain ⟨ad, kvs, rfl, h1, rfl, h3⟩ := ok1
      refine ⟨ad, rfl, .inl ⟨kvs, Same.rd r1.sub h1⟩, ?_⟩
      refine hb F1 H1 σ g1 τ y g2 r1 e3 _ fun F2 H2 v2 s2 r2 ok2 => ?_
      refine hc F2 H2 σ g2 τ w _ r2 e5 _ fun F3 H3 v3 s3 r3 ok3 => ?_
      have ev := keyD_v (r3.view (ok2.mono s3) e7) e11
      refine ⟨valV kvs k, .inl ⟨kvs, k, Same.rd r3.sub (Same.rd (s2.trans s3) h1), ev, rfl⟩, ?_⟩
      have hz : Rp B.K F3 v3 z := opdD_ok ok3 e9
      cases el : look k (kvs.map (·.1)) ds with
      | some d2 =>
        obtain ⟨v4, h6, h7⟩ := look_rp h3 el
        rw [h6]
        exact q F3 H3 _ ((s1.trans s2).trans s3) (r3.addFr (by rw [el]; exact Rp.mono (s2.trans s3) _ _ h7))
      | none =>
        rw [look_none (by rw [← h3.length, List.length_map]) el]
        exact q F3 H3 _ ((s1.trans s2).trans s3) (r3.addFr (by rw [el]; exact hz))
    · rename_i eq; cases eq
    · cases e10
  | br i =>
    obtain ⟨ks0, os0, eg0⟩ := hbr g (.br i, g1) e1 i rfl
    have r1' := r1.take ok1 eg0
    obtain ⟨f1, k1, _, _⟩ := Rel.open (E1 := [(v, .dK ks0 os0)]) (τ := τ) r1'
    obtain ⟨ad, kvs, f, rfl, h1, _, _, _⟩ := OwE.one k1
    refine ⟨ad, rfl, .inl ⟨kvs, .inl h1⟩, ?_⟩
    refine hb F1 H1 σ g1 τ y g2 r1 e3 _ fun F2 H2 v2 s2 r2 ok2 => ?_
    refine hc F2 H2 σ g2 τ w g3 r2 e5 _ fun F3 H3 v3 s3 r3 ok3 => ?_
    dsimp only at e10
    split at e10
    · rename_i ks os eg3
      obtain ⟨k, e11, e12⟩ := Option.bind_eq_some_iff.mp e10
      have ev := keyD_v (r3.view (ok2.mono s3) e7) e11
      have r3' := r3.take ok1 eg3
      obtain ⟨f1, k1, _, _⟩ := Rel.open (E1 := [(V.ref ad, .dK ks os)]) (τ := τ) r3'
      obtain ⟨ad', kvs', f, ea, h1', rfl, h3, _⟩ := OwE.one k1
      cases ea
      have hz : Rp B.K F3 v3 z := opdD_ok ok3 e9
      refine ⟨valV kvs' k, .inl ⟨kvs', k, .inl h1', ev, rfl⟩, ?_⟩
      split at e12
      · rename_i o2 el
        obtain ⟨d2, e13, e14⟩ := Option.map_eq_some_iff.mp e12
        cases e14
        cases o2 with
        | fr d3 =>
          cases e13
          obtain ⟨v4, h6, h7⟩ := look_ow h3 el
          rw [h6]
          exact q F3 H3 _ ((s1.trans s2).trans s3) (r3.addFr h7)
        | lst _ => cases e13
        | dK _ _ => cases e13
        | dT _ _ => cases e13
        | ob _ _ _ => cases e13
      · rename_i el
        cases e12
        rw [look_none (by rw [← h3.length, List.length_map]) el]
        exact q F3 H3 _ ((s1.trans s2).trans s3) (r3.addFr hz)
    · cases e10
theorem hbr_oE {m : XE} : ∀ g p, oE m g = some p → ∀ i, p.1 = .br i → ∃ ks os, p.2[i]? = some (some (.dK ks os)) := by
  intro g p e i z
  obtain ⟨w, _, rfl⟩ := Option.map_eq_some_iff.mp e
  cases z
/-! ### ord -/
def dOrd (ds : List D) : Option D := match ds with
  | [.str x] => if x.length = 1 then some (.int (x.cps.getD 0 0 : Nat)) else none
  | _ => none
theorem sn_ord : SN K (fun xs H Q => ∃ x, xs = [V.str x] ∧ x.length = 1 ∧ Q (.int (x.cps.getD 0 0 : Nat)) H) dOrd := by
  intro H vs ds z h e
  unfold dOrd at e
  split at e
  · split at e
    · rename_i x hx
      cases e
      obtain ⟨v, rfl, hv⟩ := h.one
      obtain rfl : v = .str x := hv
      exact ⟨_, rfl, fun Q q => ⟨x, rfl, hx, q⟩⟩
    · cases e
  · cases e
/-! ### int(text), long -/
def rIntOfL : List V → Hp → VK → Prop := fun xs H Q => ((∃ i, xs = [.int i] ∧ Q (.int i) H) ∨ ∃ k, xs = [.bl k] ∧ Q (.int (if k then 1 else 0)) H) ∨ ∃ a n, xs = [.str a] ∧ PySem.intText? a = some n ∧ a.length ≤ sizeLine ∧ Q (.int n) H
theorem call_intOfL {X : Cx} (e : PySem.W.nsIn X.K cStatics "sys.int_max_str_digits" = some none) : CallR X (.type "int") rIntOfL := CallR.or call_int1 (call_int_strL e)
def dIntOfL (ds : List D) : Option D := match ds with
  | [.int i] => some (.int i)
  | [.bl k] => some (.int (if k then 1 else 0))
  | [.str a] => if a.length ≤ sizeLine then (PySem.intText? a).map .int else none
  | _ => none
theorem sn_intOfL : SN K rIntOfL dIntOfL := by
  intro H vs ds z h e
  unfold dIntOfL at e
  split at e
  · rename_i i
    cases e
    obtain ⟨v, rfl, hv⟩ := h.one
    obtain rfl : v = .int i := hv
    exact ⟨_, rfl, fun Q q => .inl (.inl ⟨_, rfl, q⟩)⟩
  · rename_i i
    cases e
    obtain ⟨v, rfl, hv⟩ := h.one
    obtain rfl : v = .bl i := hv
    exact ⟨_, rfl, fun Q q => .inl (.inr ⟨_, rfl, q⟩)⟩
  · rename_i a
    split at e
    · rename_i hl
      obtain ⟨n, e1, rfl⟩ := Option.map_eq_some_iff.mp e
      obtain ⟨v, rfl, hv⟩ := h.one
      obtain rfl : v = .str a := hv
      exact ⟨_, rfl, fun Q q => .inr ⟨a, n, rfl, e1, hl, q⟩⟩
    · cases e
  · cases e
end
/-! ### at an open environment -/
section
variable {x : Option O} {g : G}
@[simp] theorem ev_xChain {f f' : D → D → Option D} {a b c : XO} : xChain f f' a b c (x :: g) = bd (a (x :: g)) fun p => bd (b p.2) fun q => bd (view q.2 p.1) fun d => bd (view q.2 q.1) fun e => bd (f d e) fun z => match z with
  | .bl true => bd (c q.2) fun s => bd (view s.2 q.1) fun e' => bd (view s.2 s.1) fun h => mp (f' e' h) fun w => (.fr w, s.2)
  | .bl false => some (.fr (.bl false), q.2)
  | _ => none := (rfl)
@[simp] theorem ev_gTlT {n : Nat} {b : List D → G → Option G} {ds : List D} : gTlm n b (.fr (.tup ds)) (x :: g) = if ds.length = n then b ds (x :: g) else none := by
  unfold gTlm
  rw [er_fr]
@[simp] theorem ev_gTlL {n : Nat} {b : List D → G → Option G} {os : List O} : gTlm n b (.lst os) (x :: g) = if (erL os).length = n then b (erL os) (x :: g) else none := by
  unfold gTlm
  rw [er_lst]
@[simp] theorem xPs_nil : xPs [] g = some ([], g) := (rfl)
@[simp] theorem ev_xPs {m : XO × XO} {r : List (XO × XO)} : xPs (m :: r) (x :: g) = bd (m.1 (x :: g)) fun p => bd (opdD p.1) fun d => bd (m.2 p.2) fun q => bd (opdD q.1) fun e => mp (xPs r q.2) fun s => ((d, e) :: s.1, s.2) := (rfl)
@[simp] theorem keysD_nil : keysD [] = some [] := (rfl)
@[simp] theorem keysD_cons {d : D} {r : List D} : keysD (d :: r) = bd (keyD d) fun k => mp (keysD r) fun ks => k :: ks := (rfl)
@[simp] theorem keyD_str {s : Str} : keyD (.str s) = some (.inr s) := (rfl)
@[simp] theorem keyD_int {s : Int} : keyD (.int s) = some (.inl s) := (rfl)
@[simp] theorem ev_xDisp {ms : List (XO × XO)} : xDisp ms (x :: g) = bd (xPs ms (x :: g)) fun q => bd (keysD (q.1.map (·.1))) fun ks => if ks.Nodup ∧ ks.length ≤ 15 then some (.dK ks (q.1.map fun p => .fr p.2), q.2) else none := (rfl)
@[simp] theorem ev_xGet2 {a b c : XO} : xGet2 a b c (x :: g) = bd (a (x :: g)) fun p => bd (b p.2) fun q => bd (c q.2) fun s => bd (view s.2 q.1) fun e => bd (opdD s.1) fun z => match p.1 with
  | .d (.dK ks ds) => mp (keyD e) fun k => (.fr ((look k ks ds).getD z), s.2)
  | .br i => match s.2[i]? with
    | some (some (.dK ks os)) => bd (keyD e) fun k => match look k ks os with
      | some o => mp (oFr o) fun d => (.fr d, s.2)
      | none => some (.fr z, s.2)
    | _ => none
  | _ => none := (rfl)
end
end Mi

set_option Elab.async false
set_option linter.all false
set_option maxRecDepth 100000
set_option maxHeartbeats 1000000
/-! Mi23: facts of error classes, raise and try as gen.py prints them. -/
namespace L2
open PySem PySem.Spec PyProof.Rows
def oeD : Obj := ⟨.none, none, .fields #[], #[]⟩
/-- try .. except x as n, the suite's reading told with all that stands ahead of it -/
theorem ps_try_asM {X : Cx} {x n : Str} {c : Value} {i : Nat} {body suite : List Stmt} {b₀ : Stmt} {np pos pos' : Pos} {tb : WX → TS} {ts : Addr → Obj → Value → Option Addr → List (Addr × Obj) → TS} {Wout : WX} (hs : X.stack = X.env :: X.outer) (hf : X.env.frame = some X.env.locals) (hN : X.N.Nodup) (hi : X.N[i]? = some n) (hln : X.env.kindOf n = some .local) (hc : Names X x c) (tk : Takes X Wout)
    (hb : ∀ (W : WX) (pn : List (Addr × Obj)) (xe : Value → Shared → Prop), Takes (X.tr pn xe) W → PassesOwn (model X.prog X.w) X.A X.env xe → PSs (X.tr pn xe) body (tb W))
    (hsu : ∀ (a : Addr) (oe : Obj) (cls : Value) (d : Option Addr) (pn : List (Addr × Obj)), Zc cls d oe → (∃ vs, oe.data = .fields vs) → PSs (X.suite a ((a, oe) :: pn)) (b₀ :: suite) (ts a oe cls d pn))
    (qs : ∀ a oe cls d pn, ts a oe cls d pn = ts a oeD cls d []) :
    PS X (.Try body [.ExceptHandler (some (.Name x np)) (some n) (b₀ :: suite) pos'] [] [] pos) (fun D σ H => tb (wAs X.K c i (fun a cls d => ts a oeD cls d []) Wout D) D σ H) :=
  ps_try_as hs hf hN hi hln hc tk hb fun a oe cls d pn hz hf => (qs a oe cls d pn) ▸ hsu a oe cls d pn hz hf
end L2
namespace Mi
open PySem PySem.Spec PyProof.Rows L2
/-- BadPlain -/
structure BpAt (P : Program) (K : PySem.W.Frag) (mg : Str → Option Value) (x : Str) where
  C : Addr
  fI : Addr
  q : Str
  p1 : Pos
  p2 : Pos
  q0 : Pos
  q1 : Pos
  q2 : Pos
  q3 : Pos
  q4 : Pos
  r1 : Pos
  r2 : Pos
  r3 : Pos
  r4 : Pos
  r5 : Pos
  s1 : Pos
  s2 : Pos
  s3 : Pos
  s4 : Pos
  g : mg x = some (.ref C)
  T : PySem.Xe.ClsX K C
  Z : PySem.Xe.InitX P K mg C fI q (PySem.Xe.bpA p1 p2) (PySem.Xe.bpB q0 q1 q2 q3 q4 r1 r2 r3 r4 r5 s1 s2 s3 s4) PySem.Xe.bpS
  no : PySem.W.findIn K (.ref C) "place" = some none
  ck : PySem.Xe.CallOk (.Call (.Name "super" q0) [] [] q1) "__init__" q2 [PySem.Xe.bpE r1 r2 r3 r4 r5] q3
  xc : ExcC K C
  xf : XfC K C
  te : PySem.W.exmOne K (.ref C) (.ref C) = some true
theorem exm_self {K : PySem.W.Frag} {S : Addr} (h1 : PySem.W.subIn K (.ref S) (.type "BaseException") = some true) (h2 : PySem.W.isClsIn K S = true) (h3 : PySem.W.typeIn K (.ref S) = some (.type "type")) (h4 : PySem.W.subIn K (.ref S) (.ref S) = some true) :
    PySem.W.exmOne K (.ref S) (.ref S) = some true := by
  have e1 : (PySem.W.subIn K (.ref S) (.type "BaseException") == some true) = true := by rw [h1] <;> rfl
  have e2 : ((PySem.W.clsIn K S).isSome && PySem.W.typeIn K (.ref S) == some (.type "type")) = true := by
    have h2' : (PySem.W.clsIn K S).isSome = true := h2
    rw [h2', h3] <;> rfl
  show (if (PySem.W.subIn K (.ref S) (.type "BaseException") == some true) = true then (if ((PySem.W.clsIn K S).isSome && PySem.W.typeIn K (.ref S) == some (.type "type")) = true then PySem.W.subIn K (.ref S) (.ref S) else none) else none) = some true
  rw [if_pos e1, if_pos e2]
  exact h4
theorem sup_of {K : PySem.W.Frag} {C D N N' : Addr} {nm qn nm' qn' : Str} {bs bm bs' bm' : List Value} {sn sn' : List Str} {sub sub' : List Value} {hdct ab hdct' ab' : Bool} {col col' : Option Bool} {dd dd' : Option Addr} {k0 k1 k2 k3 k5 k0' k1' k2' k3' k5' : Option Value} {r : Option Value}
    (xL : K.lookup C = some (excClassObj nm qn C N bs bm hdct sn sub ab col dd k0 k1 k2 k3 k5 "ValueError.__new__")) (eb : bm = .ref D :: bm')
    (xD : K.lookup D = some (excClassObj nm' qn' D N' bs' bm' hdct' sn' sub' ab' col' dd' k0' k1' k2' k3' k5' "ValueError.__new__")) (fD : PySem.W.findIn K (.ref D) "__init__" = some r) : PySem.W.ks_superIn K C C "__init__" = some r := by
  subst eb
  unfold PySem.W.findIn at fD
  dsimp only at fD
  rw [xD] at fD
  unfold PySem.W.ks_superIn PySem.W.clsIn
  rw [xL]
  show PySem.W.alongIn K _ (((Value.ref C :: .ref D :: bm').dropWhile (· != .ref C)).drop 1) = _
  have : (Value.ref C :: .ref D :: bm').dropWhile (· != .ref C) = Value.ref C :: .ref D :: bm' := by
    rw [List.dropWhile_cons]
    simp
  rw [this]
  exact fD
theorem bpAt_mk {P : Program} {K : PySem.W.Frag} {mg : Str → Option Value} {x q : Str} {h : Heap} {C fI cda cc : Addr} (X : K.In h) (G : h.Ns mainGlobals mg) {p1 p2 q0 q1 q2 q3 q4 r1 r2 r3 r4 r5 s1 s2 s3 s4 : Pos}
    {nm qn : Str} {N : Addr} {bs bm : List Value} {sn : List Str} {sub : List Value} {ab : Bool} {col : Option Bool} {dd : Option Addr} {k0 k1 k2 k3 k5 : Option Value} {oc : Value} {od : Option Addr} {doc pm : Value} {an : Option Addr} {ct : Value} {osl : Array (Option Value)}
    {ccl : Value} {cdd : Option Addr} {vs : Array Value} {ccs : Array (Option Value)} {file : Str} {tf : Tok} {cl : Value} {cld : Option Addr} {csl : Array (Option Value)}
    (a : PySem.W.nsIn K mainGlobals x = some (some (.ref C)))
    (xL : K.lookup C = some (excClassObj nm qn C N bs bm true sn sub ab col dd k0 k1 k2 k3 k5 "ValueError.__new__")) (rv : PySem.HandSPX.refsVE bm = true)
    (sa : PySem.W.findIn K (.ref C) "__setattr__" = some (some (.builtin "object.__setattr__"))) (kC : PySem.W.keepIn K (.ref C) = true) (exC : PySem.W.subIn K (.ref C) (.type "BaseException") = some true) (tyC : PySem.W.typeIn K (.ref C) = some (.type "type")) (veC : PySem.W.subIn K (.ref C) (.type "ValueError") = some true)
    (mro : PySem.W.mroIn K C (.ref C) = some true) {nm' qn' : Str} {D N' : Addr} {bs' bm' : List Value} {sn' : List Str} {sub' : List Value} {hdct' ab' : Bool} {col' : Option Bool} {dd' : Option Addr} {k0' k1' k2' k3' k5' : Option Value}
    (eb : bm = .ref D :: bm') (xD : K.lookup D = some (excClassObj nm' qn' D N' bs' bm' hdct' sn' sub' ab' col' dd' k0' k1' k2' k3' k5' "ValueError.__new__")) (fD : PySem.W.findIn K (.ref D) "__init__" = some (some (.builtin "ValueError.__init__"))) (any : PySem.W.nsIn K cStatics "thirdparty.any" = some none)
    (iC : PySem.W.findIn K (.ref C) "__init__" = some (some (.ref fI))) (tC : PySem.W.typeIn K (.ref fI) = some (.type "function"))
    (l : K.lookup fI = some ⟨oc, od, .func (PySem.W.ksFn "__init__" q (PySem.Xe.bpA p1 p2) (PySem.Xe.bpB q0 q1 q2 q3 q4 r1 r2 r3 r4 r5 s1 s2 s3 s4) PySem.Xe.bpS .none .none doc pm an (.ref cda) ct cc), osl⟩) (c : PySem.W.codeIn K (.ref cda) q = true)
    (l2 : K.lookup cda = some ⟨ccl, cdd, .fields vs, ccs⟩) (hv : vs[2]? = some (.str file tf)) (hf : ((P.main.file : Str) == file) = true) (l3 : K.lookup cc = some ⟨cl, cld, .cell (some (.ref C)), csl⟩)
    (mgS : PySem.W.nsIn K mainGlobals "super" = some none) (top : (P.main.scope.names.lookup ("super" : Str)).isSome = false)
    (no : PySem.W.findIn K (.ref C) "place" = some none)
    (ck : PySem.Xe.CallOk (.Call (.Name "super" q0) [] [] q1) "__init__" q2 [PySem.Xe.bpE r1 r2 r3 r4 r5] q3)
    (hg : PySem.W.findIn K (.ref C) "__getattribute__" = some (some (.builtin "BaseException.__getattribute__"))) (hk : PySem.W.findIn K (.ref C) "__getattr__" = some none) (hd : PySem.W.hasDictIn K C = true) (ha : PySem.W.findIn K (.ref C) "__class__" = some (some (.builtin "object.__class__")))
    (hn : PySem.W.specialIn K (.builtin "object.__class__") "__get__" = some (some (.builtin "getset_descriptor.__get__"))) (ht : PySem.W.takesIn K (.builtin "object.__class__") = some true) (hm : PySem.W.mroIn K C (.type "object") = some true)
    (ic : PySem.W.isClsIn K C = true) (sc : PySem.W.subIn K (.ref C) (.ref C) = some true) : ∃ c : BpAt P K mg x, c.C = C :=
  ⟨⟨C, fI, q, p1, p2, q0, q1, q2, q3, q4, r1, r2, r3, r4, r5, s1, s2, s3, s4, PySem.W.mg_of X G a, ⟨⟨nm, qn, N, bs, bm, sn, sub, ab, col, dd, k0, k1, k2, k3, k5, xL, rv⟩, sa, kC, exC, tyC, veC, mro, sup_of xL eb xD fD, any⟩,
    ⟨iC, tC, ⟨oc, od, doc, pm, an, cda, cc, ct, osl, l, c, ⟨ccl, cdd, vs, ccs, file, tf, l2, hv, hf⟩, ⟨cl, cld, csl, l3⟩⟩, PySem.W.mg_none_of X G mgS, top⟩, no, ck, ⟨hg, hk, exC, hd, ha, hn, ht, hm⟩, ⟨hg, hk, exC, hd⟩, exm_self exC ic tyC sc⟩, rfl⟩
/-- isinstance(e, x), e of the class C -/
structure IsAt (K : PySem.W.Frag) (mg : Str → Option Value) (C : Addr) (x : Str) (b : Bool) where
  D : Addr
  g : mg x = some (.ref D)
  k : PySem.W.kitOne K (.ref C) (.ref D) = some b
theorem kit_own {K : PySem.W.Frag} {C D : Addr} {b : Bool} (ne : (Value.ref C == Value.ref D) = false) (ic : PySem.W.isClsIn K D = true) (ty : PySem.W.typeIn K (.ref D) = some (.type "type")) (su : PySem.W.subIn K (.ref C) (.ref D) = some b) : PySem.W.kitOne K (.ref C) (.ref D) = some b := by
  unfold PySem.W.kitOne
  rw [ne, if_neg (by intro z; cases z)]
  have e2 : ((PySem.W.clsIn K D).isSome && PySem.W.typeIn K (.ref D) == some (.type "type")) = true := by
    have h2' : (PySem.W.clsIn K D).isSome = true := ic
    rw [h2', ty] <;> rfl
  show (if ((PySem.W.clsIn K D).isSome && PySem.W.typeIn K (.ref D) == some (.type "type")) = true then PySem.W.subIn K (.ref C) (.ref D) else none) = _
  rw [if_pos e2]
  exact su
theorem kit_blt {K : PySem.W.Frag} {C : Addr} {T : String} {b : Bool} (km : PySem.W.kitMeta T = true) (su : PySem.W.subIn K (.ref C) (.type T) = some b) : PySem.W.kitOne K (.ref C) (.type T) = some b := by
  unfold PySem.W.kitOne
  rw [show (Value.ref C == Value.type T) = false from rfl, if_neg (by intro z; cases z)]
  show (if PySem.W.kitMeta T = true then PySem.W.subIn K (.ref C) (.type T) else none) = _
  rw [if_pos km]
  exact su
theorem isAt_mk {K : PySem.W.Frag} {mg : Str → Option Value} {C D : Addr} {x : Str} {b : Bool} {h : Heap} (X : K.In h) (G : h.Ns mainGlobals mg) (a : PySem.W.nsIn K mainGlobals x = some (some (.ref D))) (ne : (Value.ref C == Value.ref D) = false) (ic : PySem.W.isClsIn K D = true) (ty : PySem.W.typeIn K (.ref D) = some (.type "type")) (su : PySem.W.subIn K (.ref C) (.ref D) = some b) : Nonempty (IsAt K mg C x b) :=
  ⟨⟨D, PySem.W.mg_of X G a, kit_own ne ic ty su⟩⟩
section
variable {B : Bs} {F F' H H' : Hp} {σ : L2.St} {g : G} {τ : En}
theorem ss_raisePW {W : WX} {C : Addr} {ta : TA} {ma : XA} (hW : B.W = W) (ha : SA B ta ma) : SS B (fun _ σ H => tMkP C ta σ H fun cls d H' => W cls d σ H') (sRaiseP C ma) := by
  subst hW
  exact ss_raiseP ha
theorem sr_callW {W : WX} {n : Nat} {f : List O → Option (Rs × List O)} {ta : TA} {ma : XA} (hW : B.W = W) (ha : SA B ta ma) (hl : ∀ os r, f os = some r → os.length = n ∧ r.2.length = n) : SR B (tCallS (spX B.K n f) (WE W) ta) (rCall f ma) := by
  subst hW
  exact sr_call ha hl
theorem sr_methW {W : WX} {C : Addr} {m : Str} {n : Nat} {f : List O → Option (Rs × List O)} {te : TE} {me : XO} {ta : TA} {ma : XA} (hW : B.W = W) (he : SO B te me) (ha : SA B ta ma) (hl : ∀ os r, f os = some r → os.length = n ∧ r.2.length = n) : SR B (tMethX C m (spX B.K n f) (WE W) te ta) (rMeth C m f me ma) := by
  subst hW
  exact sr_meth he ha hl
theorem sr_tupStr {s : Str} {t : TE} {m : XR} (h : SR B t m) : SR B (tTup (tCons (tC (.str s)) (tCons t tNil))) (rTupC (.str s) m) := sr_tupC (fun _ => rfl) h
/-- try: body; except C0 as e (slot i): h; no other error comes -/
def sTryN (body : XS) (C0 : Addr) (i : Nat) (h : List Str → List D → XS) : XS := fun g => (body g).bind fun x => match x with
  | .ex C ns ds g' => if C = C0 ∧ i < g'.length then (h ns ds (g'.set i none)).bind (outW i) else none
  | .nx g' => some (.nx g')
  | .rt o g' => some (.rt o g')
  | .bk g' => some (.bk g')
  | .ct g' => some (.ct g')
theorem ss_tryN {c : Value} {i : Nat} {tb : WX → TS} {ts : Addr → Value → Option Addr → TS} {body : XS} {C0 : Addr} {h : List Str → List D → XS} {Wout : WX} (hp : i ∉ B.pin)
    (hm : PySem.W.exmOne B.K (.ref C0) c = some true)
    (hb : ∀ W : WX, SS { B with W := W } (tb W) body)
    (hh : ∀ (a d : Addr) (ns : List Str) (ds : List D) (ws : List V) (F : Hp) (pv : List V), pv[i]? = some (.ref a) → F d = some (.xd (ns.zip ws)) → RpL B.K F ws ds → SS (B.hand F i pv) (ts a (.ref C0) (some d)) (h ns ds)) :
    SS B (fun D σ H => tb (wAs B.K c i ts Wout D) D σ H) (sTryN body C0 i h) := by
  intro F H σ g τ out rl e D p
  obtain ⟨x, e1, e2⟩ := Option.bind_eq_some_iff.mp e
  have rl' : Rel { B with W := wAs B.K c i ts Wout D } F H σ g τ := ⟨rl.len, rl.cov, rl.sub, rl.f0, rl.keep, rl.new, rl.pins, rl.ent⟩
  have bk : ∀ {F H σ g τ}, Rel { B with W := wAs B.K c i ts Wout D } F H σ g τ → Rel B F H σ g τ := fun r => ⟨r.len, r.cov, r.sub, r.f0, r.keep, r.new, r.pins, r.ent⟩
  refine hb _ F H σ g τ x rl' e1 D ?_
  cases x with
  | nx g' => cases e2; exact fun F' H' σ' s r => p F' H' σ' s (bk r)
  | rt o g' => cases e2; exact fun F' H' σ' v s r => p F' H' σ' v s (bk r)
  | bk g' => cases e2; exact fun F' H' σ' s r => p F' H' σ' s (bk r)
  | ct g' => cases e2; exact fun F' H' σ' s r => p F' H' σ' s (bk r)
  | ex C ns ds g' =>
    intro F' H' σ' d ws s r hd hw
    have r := bk r
    dsimp only at e2
    split at e2
    · rename_i hc
      obtain ⟨rfl, hi⟩ := hc
      obtain ⟨y, e5, e6⟩ := Option.bind_eq_some_iff.mp e2
      refine ⟨true, hm, fun _ a ha => ?_, fun z => by cases z⟩
      have hi' : i < σ'.length := by rw [← r.len]; exact hi
      have hpv : ∀ j ∈ B.pin, (((List.range σ'.length).map fun j => if j = i then V.ref a else (B.pv[j]?).getD .non))[j]? = B.pv[j]? := fun j hj => by
        have e := r.pins j hj
        have ne : j ≠ i := fun z => hp (z ▸ hj)
        by_cases hjl : j < σ'.length
        · rw [List.getElem?_map, List.getElem?_range hjl]
          show some (if j = i then V.ref a else (B.pv[j]?).getD .non) = _
          rw [if_neg ne]
          cases q : B.pv[j]? with
          | none =>
            rw [q, List.getElem?_eq_getElem hjl] at e
            cases e
          | some v => rfl
        · rw [List.getElem?_eq_none_iff.mpr (by omega)] at e
          cases q : B.pv[j]? with
          | none =>
            rw [List.getElem?_eq_none_iff.mpr (by rw [List.length_map, List.length_range]; omega)]
          | some v =>
            rw [q] at e
            cases e
      have h1 : (((List.range σ'.length).map fun j => if j = i then V.ref a else (B.pv[j]?).getD .non))[i]? = some (.ref a) := by
        rw [List.getElem?_map, List.getElem?_range hi']
        show some (if i = i then V.ref a else _) = _
        rw [if_pos rfl]
      generalize ((List.range σ'.length).map fun j => if j = i then V.ref a else (B.pv[j]?).getD .non) = pv at hpv h1
      have re := r.enter hi hp h1 hpv
      refine hh a d ns ds ws F' pv h1 hd hw F' H' _ _ τ y re e5 _ ?_
      cases y with
      | nx g2 => cases e6; exact fun F2 H2 σ2 s2 r2 => p F2 H2 _ (s.trans s2) (r.leave r2 hp hpv)
      | rt o g2 => cases e6; exact fun F2 H2 σ2 v s2 r2 => p F2 H2 _ v (s.trans s2) (r.leave r2 hp hpv)
      | bk g2 => cases e6; exact fun F2 H2 σ2 s2 r2 => p F2 H2 _ (s.trans s2) (r.leave r2 hp hpv)
      | ct g2 => cases e6; exact fun F2 H2 σ2 s2 r2 => p F2 H2 _ (s.trans s2) (r.leave r2 hp hpv)
      | ex _ _ _ g2 => cases e6
    · cases e2
end
section
variable {x : Option O} {g : G}
@[simp] theorem ev_sTryN {body : XS} {C0 : Addr} {i : Nat} {h : List Str → List D → XS} : sTryN body C0 i h (x :: g) = bd (body (x :: g)) fun y => match y with
  | .ex C ns ds g' => if C = C0 ∧ i < g'.length then bd (h ns ds (g'.set i none)) (outW i) else none
  | .nx g' => some (.nx g')
  | .rt o g' => some (.rt o g')
  | .bk g' => some (.bk g')
  | .ct g' => some (.ct g') := (rfl)
end
end Mi

set_option Elab.async false
set_option linter.all false
set_option maxRecDepth 100000
/-! Mi24: further rules of what a mirror answers. -/
namespace Mi
open PySem PySem.Spec PyProof.Rows L2
/-- a loop that is left in the middle -/
theorem forL_out {tg : XG} {body : XS} {Q : Out → Prop} : ∀ {m : Nat} {P : Nat → G → Prop} {ds : List D} {g : G} (hm : m < ds.length), P 0 g →
    (∀ k (hk : k < m) g, P k g → Ev (tg (.fr (ds[k]'(by omega))) g) fun g1 => Ev (body g1) (Turn (P (k + 1)))) →
    (∀ g, P m g → Ev (tg (.fr ds[m]) g) fun g1 => Ev (body g1) fun x => match x with
      | .nx _ => False
      | .ct _ => False
      | .bk g' => Q (.nx g')
      | .rt o g' => Q (.rt o g')
      | .ex C ns es g' => Q (.ex C ns es g')) → Ev (forL tg body ds g) Q
  | _, _, [], _, hm, _, _, _ => by cases hm
  | 0, P, d :: ds, g, hm, p, _, h => by
    obtain ⟨g1, e1, x, e2, q⟩ := h g p
    have e1 : tg (.fr d) g = some g1 := e1
    cases x with
    | nx g2 => exact q.elim
    | ct g2 => exact q.elim
    | bk g2 => exact ⟨.nx g2, by show (tg (.fr d) g).bind _ = _; rw [e1]; show (body g1).bind _ = _; rw [e2]; rfl, q⟩
    | rt o g2 => exact ⟨.rt o g2, by show (tg (.fr d) g).bind _ = _; rw [e1]; show (body g1).bind _ = _; rw [e2]; rfl, q⟩
    | ex C ns es g2 => exact ⟨.ex C ns es g2, by show (tg (.fr d) g).bind _ = _; rw [e1]; show (body g1).bind _ = _; rw [e2]; rfl, q⟩
  | m + 1, P, d :: ds, g, hm, p, h1, h2 => by
    obtain ⟨g1, e1, x, e2, q⟩ := h1 0 (Nat.zero_lt_succ _) g p
    have e1 : tg (.fr d) g = some g1 := e1
    have hm' : m < ds.length := Nat.lt_of_succ_lt_succ hm
    have ih : ∀ {g2 : G}, P 1 g2 → Ev (forL tg body ds g2) Q := fun {g2} q => forL_out (m := m) (P := fun k => P (k + 1)) hm' q (fun k hk g pk => by
      have := h1 (k + 1) (Nat.succ_lt_succ hk) g pk
      exact this) (fun g pm => by
      have := h2 g pm
      exact this)
    cases x with
    | nx g2 =>
      obtain ⟨y, e3, k⟩ := ih q
      exact ⟨y, by show (tg (.fr d) g).bind _ = _; rw [e1]; show (body g1).bind _ = _; rw [e2]; exact e3, k⟩
    | ct g2 =>
      obtain ⟨y, e3, k⟩ := ih q
      exact ⟨y, by show (tg (.fr d) g).bind _ = _; rw [e1]; show (body g1).bind _ = _; rw [e2]; exact e3, k⟩
    | bk g2 => exact q.elim
    | rt o g2 => exact q.elim
    | ex _ _ _ g2 => exact q.elim
/-- a while, one turn -/
theorem while_1 {c : XT} {b : XS} {Q : Out → Prop} {g : G} (h : Ev (c g) fun p => if p.1 = true then Ev (b p.2) (fun x => match x with
      | .nx g' => Ev (sWhile c b g') Q
      | .ct g' => Ev (sWhile c b g') Q
      | .bk g' => Q (.nx g')
      | .rt o g' => Q (.rt o g')
      | .ex C ns ds g' => Q (.ex C ns ds g')) else Q (.nx p.2)) : Ev (sWhile c b g) Q := by
  obtain ⟨⟨k, g1⟩, e1, k1⟩ := h
  cases k with
  | false =>
    rw [if_neg (by intro z; cases z)] at k1
    exact ⟨_, sWhile_eq (n := 0) (.done e1), k1⟩
  | true =>
    rw [if_pos rfl] at k1
    obtain ⟨x, e2, k2⟩ := k1
    cases x with
    | nx g2 =>
      obtain ⟨out, e3, q⟩ := k2
      obtain ⟨m, w⟩ := sWhile_of e3
      exact ⟨out, sWhile_eq (.next e1 e2 w), q⟩
    | ct g2 =>
      obtain ⟨out, e3, q⟩ := k2
      obtain ⟨m, w⟩ := sWhile_of e3
      exact ⟨out, sWhile_eq (.cont e1 e2 w), q⟩
    | bk g2 => exact ⟨_, sWhile_eq (n := 0) (.brk e1 e2), k2⟩
    | rt o g2 => exact ⟨_, sWhile_eq (n := 0) (.ret e1 e2), k2⟩
    | ex C ns ds g2 => exact ⟨_, sWhile_eq (n := 0) (.exc e1 e2), k2⟩
end Mi

set_option Elab.async false
set_option linter.all false
set_option maxRecDepth 100000
/-! Tz: texts that are cut in two: find in a window, slices, the veil of any text. -/
namespace Tx
open PySem PySem.Spec PyProof.Rows SX
open PySem.StrLaws Builtin Builtin.Str
theorem occ_in (x y : Str) (lo hi : Nat) : (occurrences x y lo hi 1 = [] ∧ ∀ i, lo ≤ i → ¬ At x y hi i) ∨
    ∃ i r, occurrences x y lo hi 1 = i :: r ∧ lo ≤ i ∧ At x y hi i ∧ ∀ k, lo ≤ k → k < i → ¬ At x y hi k := by
  rw [occ_eq]
  rcases occ_first x y hi 1 (Nat.le_refl 1) (List.range' lo (hi + 1 - lo)) lo (fun i hi => by have := List.mem_range'_1.mp hi; omega) with ⟨h0, hn⟩ | ⟨pre, a, post, e, h0, ha, hn⟩
  · refine .inl ⟨by rw [h0], fun i hlo hi => ?_⟩
    exact hn i (by have := hi.1; rw [List.mem_range'_1]; omega) hi
  · have hs := range'_split_from e
    refine .inr ⟨a, ((forIn (List.range' lo (hi + 1 - lo)) ((#[] : Array Nat), lo) (occBody x y hi 1)).run.fst.toList).tail, ?_, hs.1, ha, fun k hk0 hk => hn k (hs.2 k hk0 hk)⟩
    generalize (forIn (List.range' lo (hi + 1 - lo)) ((#[] : Array Nat), lo) (occBody x y hi 1)).run.fst = arr at h0
    have h1 : arr.toList[0]? = some a := by simpa using h0
    cases hL : arr.toList with
    | nil => rw [hL] at h1; cases h1
    | cons b t => rw [hL] at h1; simp at h1; rw [h1]; rfl
theorem at_one {l : List Nat} {c hi k : Nat} (hh : hi ≤ l.length) : At (S l) (S [c]) hi k ↔ k < hi ∧ l[k]? = some c := by
  have hs := subAt_one (S l) c k
  have e : (S l).length = l.length := S_len l
  have hg : (S l).cps.toList[k]? = l[k]? := rfl
  rw [e, hg] at hs
  constructor
  · intro h
    have h1 : k + 1 ≤ hi := h.1
    exact ⟨h1, hs.mp ⟨by show k + 1 ≤ l.length; omega, h.2⟩⟩
  · intro h
    exact ⟨h.1, (hs.mpr h.2).2⟩
theorem fromIx {n k : Nat} (h : k ≤ n) : PySem.fromIndex n (k : Int) = k := by
  unfold PySem.fromIndex
  rw [if_neg (by omega)]
  omega
theorem toIx {n k : Nat} (h : k ≤ n) : PySem.toIndexW n (k : Int) = k := by
  unfold PySem.toIndexW
  rw [if_neg (by omega)]
  omega
/-- the first c in a window -/
theorem findIn_cases {l : List Nat} {c a b : Nat} (ha : a ≤ l.length) (hb : b ≤ l.length) :
    (Txt.findIn (S l) (S [c]) a b = -1 ∧ ∀ k, a ≤ k → k < b → l[k]? ≠ some c) ∨ ∃ k : Nat, Txt.findIn (S l) (S [c]) a b = (k : Int) ∧ a ≤ k ∧ k < b ∧ l[k]? = some c ∧ ∀ v, a ≤ v → v < k → l[v]? ≠ some c := by
  unfold Txt.findIn
  have e : (S l).length = l.length := S_len l
  rw [e, fromIx ha, toIx hb]
  rcases occ_in (S l) (S [c]) a b with ⟨h0, hn⟩ | ⟨i, r, h0, h1, h2, hn⟩
  · rw [h0]
    exact .inl ⟨rfl, fun k h1 h2 h3 => hn k h1 ((at_one hb).mpr ⟨h2, h3⟩)⟩
  · rw [h0]
    have h3 := (at_one hb).mp h2
    exact .inr ⟨i, rfl, h1, h3.1, h3.2, fun v h4 h5 h6 => hn v h4 h5 ((at_one hb).mpr ⟨by omega, h6⟩)⟩
theorem findIn_hit {p q r : List Nat} {c b : Nat} (h : c ∉ q) (h1 : p.length + q.length < b) (h2 : b ≤ (p ++ (q ++ c :: r)).length) : Txt.findIn (S (p ++ (q ++ c :: r))) (S [c]) (p.length : Int) (b : Int) = ((p.length + q.length : Nat) : Int) := by
  have hit : (p ++ (q ++ c :: r))[p.length + q.length]? = some c := by
    rw [List.getElem?_append_right (by omega), List.getElem?_append_right (by omega)]
    simp
  have no : ∀ v, p.length ≤ v → v < p.length + q.length → (p ++ (q ++ c :: r))[v]? ≠ some c := fun v g1 g2 z => by
    rw [List.getElem?_append_right g1, List.getElem?_append_left (by omega)] at z
    exact h (List.mem_of_getElem? z)
  rcases findIn_cases (l := p ++ (q ++ c :: r)) (c := c) (a := p.length) (b := b) (by simp) h2 with ⟨_, h4⟩ | ⟨k, h3, h4, h5, h6, h7⟩
  · exact (h4 _ (by omega) h1 hit).elim
  · rw [h3]
    rcases Nat.lt_trichotomy k (p.length + q.length) with g | g | g
    · exact (no k h4 g h6).elim
    · rw [g]
    · exact (h7 _ (by omega) g hit).elim
theorem findIn_no {p q r : List Nat} {c b : Nat} (h : c ∉ q) (hb : b ≤ p.length + q.length) : Txt.findIn (S (p ++ (q ++ r))) (S [c]) (p.length : Int) (b : Int) = -1 := by
  rcases findIn_cases (l := p ++ (q ++ r)) (c := c) (a := p.length) (b := b) (by simp) (by simp; omega) with ⟨h3, _⟩ | ⟨k, h3, h4, h5, h6, h7⟩
  · exact h3
  · rw [List.getElem?_append_right h4, List.getElem?_append_left (by omega)] at h6
    exact (h (List.mem_of_getElem? h6)).elim
theorem getD_get {l : List Nat} {v : Nat} (h : v < l.length) : (S l).cps.getD v 0 = l[v] := by
  rw [getD_S]
  simp [List.getD, h]
theorem find3_cases {l : List Nat} {c a : Nat} (ha : a ≤ l.length) :
    (Txt.find3 (S l) (S [c]) (a : Int) = -1 ∧ ∀ k, a ≤ k → l[k]? ≠ some c) ∨ ∃ k : Nat, Txt.find3 (S l) (S [c]) (a : Int) = (k : Int) ∧ a ≤ k ∧ l[k]? = some c ∧ ∀ v, a ≤ v → v < k → l[v]? ≠ some c := by
  have e : (S l).length = l.length := S_len l
  rcases find3_spec (S l) c (a : Int) with ⟨h1, h2⟩ | ⟨k, h1, h2, h3, h4, h5⟩
  · rw [e, fromIx ha] at h2
    refine .inl ⟨h1, fun k h3 h4 => ?_⟩
    have hk := (List.getElem?_eq_some_iff.mp h4).1
    exact h2 k h3 hk (by rw [getD_get hk]; exact (List.getElem?_eq_some_iff.mp h4).2)
  · rw [e, fromIx ha] at h2 h5
    rw [e] at h3
    refine .inr ⟨k, h1, h2, ?_, fun v h6 h7 h8 => ?_⟩
    · rw [List.getElem?_eq_getElem h3, ← getD_get h3, h4]
    · have hk := (List.getElem?_eq_some_iff.mp h8).1
      exact h5 v h6 h7 (by rw [getD_get hk]; exact (List.getElem?_eq_some_iff.mp h8).2)
theorem find3_no {p q : List Nat} {c : Nat} (h : c ∉ q) : Txt.find3 (S (p ++ q)) (S [c]) (p.length : Int) = -1 := by
  rcases find3_cases (l := p ++ q) (c := c) (a := p.length) (by simp) with ⟨h1, _⟩ | ⟨k, h1, h2, h3, h4⟩
  · exact h1
  · rw [List.getElem?_append_right h2] at h3
    exact (h (List.mem_of_getElem? h3)).elim
/-- one sign from a place on -/
theorem slice1 {p r : List Nat} : Txt.slice (S (p ++ r)) (some (p.length : Int)) (some ((p.length : Int) + 1)) = S (r.take 1) := by
  have := slice_S (l := p ++ r) (a := p.length) (b := p.length + 1)
  rw [Int.natCast_add] at this
  refine this.trans ?_
  simp
theorem sliceTo {p q r : List Nat} {b : Nat} (hb : b = p.length + q.length) : Txt.slice (S (p ++ (q ++ r))) (some (p.length : Int)) (some (b : Int)) = S q := by
  rw [slice_S, hb]
  simp
theorem starts_any {p r : List Nat} {d : Nat} : Txt.startswith3 (S (p ++ r)) (S [d]) (p.length : Int) = decide (r.head? = some d) := by
  cases r with
  | cons c r =>
    rw [starts_S]
    simp
  | nil =>
    have e0 : PySem.fromIndex (S (p ++ [])).length (p.length : Int) = p.length := by
      rw [S_len]
      exact fromIx (by simp)
    unfold Txt.startswith3
    rw [e0]
    have : decide (p.length + (S [d]).length ≤ (S (p ++ [])).length) = false := decide_eq_false (by rw [S_len, S_len]; simp)
    rw [this]
    rfl
/-- the veil of any text -/
def vl : List Nat → List Nat
  | [] => []
  | [c] => [c]
  | c :: d :: r => if c = 92 then (if d = 92 ∨ d = 34 ∨ d = 110 then 9 :: 9 :: vl r else c :: vl (d :: r)) else c :: vl (d :: r)
theorem vl_esc {d : Nat} {r : List Nat} (h : d = 92 ∨ d = 34 ∨ d = 110) : vl (92 :: d :: r) = 9 :: 9 :: vl r := by
  rw [vl, if_pos rfl, if_pos h]
theorem vl_c {c : Nat} {r : List Nat} (h : c ≠ 92) : vl (c :: r) = c :: vl r := by
  cases r with
  | nil => rfl
  | cons d r => rw [vl, if_neg h]
theorem vl_bad {r : List Nat} (h : ∀ d s, r = d :: s → ¬ (d = 92 ∨ d = 34 ∨ d = 110)) : vl (92 :: r) = 92 :: vl r := by
  cases r with
  | nil => rfl
  | cons d r => rw [vl, if_pos rfl, if_neg (h d r rfl)]
theorem r2_c' {p q y : Nat} {z r : List Nat} (h : y ≠ p) : r2 p q z (y :: r) = y :: r2 p q z r := r2_c h
theorem r2_hit {p q : Nat} {z r : List Nat} : r2 p q z (p :: q :: r) = z ++ r2 p q z r := if_pos ⟨rfl, rfl⟩
theorem r2_miss {p q d : Nat} {z r : List Nat} (h : d ≠ q) : r2 p q z (p :: d :: r) = p :: r2 p q z (d :: r) := if_neg fun k => h k.2
/-- the reader's three replaces -/
def vl3 (l : List Nat) : List Nat := r2 92 110 [9, 9] (r2 92 34 [9, 9] (r2 92 92 [9, 9] l))
theorem vl3_vl : ∀ (n : Nat) (l : List Nat), l.length ≤ n → vl3 l = vl l
  | _, [], _ => rfl
  | 0, _ :: _, h => by cases h
  | n + 1, c :: l, hl => by
    have hl' : l.length ≤ n := Nat.le_of_succ_le_succ hl
    clear hl
    by_cases hc : c = 92
    · subst hc
      cases l with
      | nil => rfl
      | cons d r =>
        have hr : r.length ≤ n := by simp at hl'; omega
        have ih := vl3_vl n r hr
        unfold vl3 at ih ⊢
        by_cases h1 : d = 92
        · subst h1
          rw [r2_hit, List.cons_append, List.cons_append, List.nil_append, r2_c (by decide), r2_c (by decide), r2_c (by decide), r2_c (by decide), ih, vl_esc (.inl rfl)]
        by_cases h2 : d = 34
        · subst h2
          rw [r2_miss h1, r2_c h1, r2_hit, List.cons_append, List.cons_append, List.nil_append, r2_c (by decide), r2_c (by decide), ih, vl_esc (.inr (.inl rfl))]
        by_cases h3 : d = 110
        · subst h3
          rw [r2_miss h1, r2_c h1, r2_miss h2, r2_c (p := 92) (q := 34) (y := 110) (by decide), r2_hit, ih, vl_esc (.inr (.inr rfl))]
          rfl
        · rw [r2_miss h1, r2_c h1, r2_miss h2, r2_c (p := 92) (q := 34) (y := d) h1, r2_miss h3, r2_c (p := 92) (q := 110) (y := d) h1, ih, vl, if_pos rfl, if_neg (by omega), vl_c h1]
    · have ih := vl3_vl n l hl'
      unfold vl3 at ih ⊢
      rw [r2_c hc, r2_c hc, r2_c hc, ih, vl_c hc]
theorem vl_len : ∀ (n : Nat) (l : List Nat), l.length ≤ n → (vl l).length = l.length
  | _, [], _ => rfl
  | 0, _ :: _, h => by cases h
  | n + 1, [c], _ => rfl
  | n + 1, c :: d :: r, h => by
    have i1 := vl_len n r (by simp at h; omega)
    have i2 := vl_len n (d :: r) (Nat.le_of_succ_le_succ h)
    rw [vl]
    split
    · split
      · simp [i1]
      · rw [List.length_cons, i2]; rfl
    · rw [List.length_cons, i2]; rfl
theorem vlen (l : List Nat) : (vl l).length = l.length := vl_len l.length l (Nat.le_refl _)
/-- no sign of it is bound to what comes behind -/
def Cl (a : List Nat) : Prop := ∀ b, vl (a ++ b) = vl a ++ vl b
theorem Cl.nil : Cl [] := fun b => rfl
theorem Cl.app {a b : List Nat} (h : Cl a) (k : Cl b) : Cl (a ++ b) := fun c => by
  rw [List.append_assoc, h, k, h, List.append_assoc]
theorem Cl.c {c : Nat} (h : c ≠ 92) : Cl [c] := fun b => by
  show vl (c :: b) = _
  rw [vl_c h]
  rfl
theorem Cl.e {d : Nat} (h : d = 92 ∨ d = 34 ∨ d = 110) : Cl [92, d] := fun b => by
  show vl (92 :: d :: b) = _
  rw [vl_esc h, vl_esc h]
  rfl
theorem cl_flat : ∀ {ts : List Tk}, (∀ t ∈ ts, t.ok) → Cl (flat ts)
  | [], _ => Cl.nil
  | t :: ts, h => by
    rw [flat_cons]
    refine Cl.app ?_ (cl_flat fun t ht => h t (List.mem_cons_of_mem _ ht))
    have := h t (List.mem_cons_self ..)
    cases t with
    | c y => exact Cl.c this
    | e y => exact Cl.e this
theorem vl_flat : ∀ {ts : List Tk}, (∀ t ∈ ts, t.ok) → vl (flat ts) = veil ts
  | [], _ => rfl
  | t :: ts, h => by
    have ih := vl_flat fun t ht => h t (List.mem_cons_of_mem _ ht)
    have := h t (List.mem_cons_self ..)
    rw [flat_cons, veil_cons]
    cases t with
    | c y =>
      show vl ([y] ++ _) = _
      rw [Cl.c (c := y) this, ih]
      rfl
    | e y =>
      show vl ([92, y] ++ _) = _
      rw [Cl.e (d := y) this, ih, vl_esc this]
      rfl
theorem cl_of {l : List Nat} (h : 92 ∉ l) : Cl l := by
  induction l with
  | nil => exact Cl.nil
  | cons c l ih => exact Cl.app (a := [c]) (Cl.c fun z => h (by rw [z]; exact List.mem_cons_self ..)) (ih fun z => h (List.mem_cons_of_mem _ z))
end Tx

set_option Elab.async false
set_option linter.all false
set_option maxRecDepth 100000
set_option maxHeartbeats 1000000
/-! Xa1: sum(accumulate(xs)), xs a list of whole numbers: the kit has nothing of itertools.accumulate. -/
namespace AcR
open PySem PySem.Spec PyProof.Rows
/-! ### facts of the type -/
theorem owner_ac : Manifest.owners.lookup (String.ofList ['e', 't', 'a', 'l', 'u', 'm', 'u', 'c', 'c', 'a', '.', 's', 'l', 'o', 'o', 't', 'r', 'e', 't', 'i'].reverse) = some Manifest.sig_itertools_accumulate := by kernel_rfl
theorem slot_ac_next : Slot "itertools.accumulate" "__next__" "itertools.accumulate.__next__" :=
  .of (owner := "itertools.accumulate") (n := "__next__") (by rw [typeLookup_type, builtinLookup_eq_fast]; kernel_rfl) (by decide +kernel) (by decide +kernel) (by decide +kernel)
    (by first | exact .inl (by decide +kernel) | exact .inr (by decide +kernel)) (by rw [isSubtype_type]; kernel_rfl)
theorem entry_ac_next : entryFor table "itertools.accumulate.__next__" = some Builtin.«itertools.accumulate.__next__» := entryFor_of_tree (by kernel_rfl)
theorem args_ac_next (a : Value) : argsOk "itertools.accumulate.__next__" ⟨[a], []⟩ := by
  unfold argsOk; rw [signature?_of (id := "itertools.accumulate.__next__") (n := ['_', '_', 't', 'x', 'e', 'n', '_', '_']) (o := ['e', 't', 'a', 'l', 'u', 'm', 'u', 'c', 'c', 'a', '.', 's', 'l', 'o', 'o', 't', 'r', 'e', 't', 'i']) (by kernel_rfl) owner_ac]; kernel_rfl
theorem slot_ac_iter : Slot "itertools.accumulate" "__iter__" "itertools.accumulate.__iter__" :=
  .of (owner := "itertools.accumulate") (n := "__iter__") (by rw [typeLookup_type, builtinLookup_eq_fast]; kernel_rfl) (by decide +kernel) (by decide +kernel) (by decide +kernel)
    (by first | exact .inl (by decide +kernel) | exact .inr (by decide +kernel)) (by rw [isSubtype_type]; kernel_rfl)
theorem args_ac_iter (a : Value) : argsOk "itertools.accumulate.__iter__" ⟨[a], []⟩ := by
  unfold argsOk; rw [signature?_of (id := "itertools.accumulate.__iter__") (n := ['_', '_', 'r', 'e', 't', 'i', '_', '_']) (o := ['e', 't', 'a', 'l', 'u', 'm', 'u', 'c', 'c', 'a', '.', 's', 'l', 'o', 'o', 't', 'r', 'e', 't', 'i']) (by kernel_rfl) owner_ac]; kernel_rfl
theorem entry_ac_iter : entryFor table "itertools.accumulate.__iter__" = some Builtin.«dict_keyiterator.__iter__» :=
  entryFor_alias (id' := "dict_keyiterator.__iter__") (by kernel_rfl) (by first | rfl | decide +kernel | (unfold String.splitOn; simp +decide [String.splitOnAux])) (by decide +kernel) (by kernel_rfl)
theorem slot_ac_init : Slot "itertools.accumulate" "__init__" "object.__init__" :=
  .of (owner := "object") (n := "__init__") (by rw [typeLookup_type, builtinLookup_eq_fast]; kernel_rfl) (by decide +kernel) (by decide +kernel) (by decide +kernel)
    (by first | exact .inl (by decide +kernel) | exact .inr (by decide +kernel)) (by rw [isSubtype_type]; kernel_rfl)
theorem mro_ac : mroOf (.type "itertools.accumulate") = pure [.type "itertools.accumulate", .type "object"] := by rw [mroOf_type]; kernel_rfl
theorem lookup_ac_new : typeLookup (.type "itertools.accumulate") "__new__" = pure (some (.builtin "itertools.accumulate.__new__")) := by rw [typeLookup_type, builtinLookup_eq_fast]; kernel_rfl
theorem sub_ac : isSubtype (.type "itertools.accumulate") (.type "itertools.accumulate") = pure true := by rw [isSubtype_type]; kernel_rfl
theorem called_ac : TypeCalled "itertools.accumulate" "itertools.accumulate.__new__" "object.__init__" :=
  ⟨by decide +kernel, by decide +kernel, ⟨_, _, mro_ac⟩, madeBy_type mro_ac lookup_ac_new (by decide +kernel), by decide +kernel, sub_ac, slot_ac_init⟩
theorem typeCall_ac (a : Value) : checkTypeCall "itertools.accumulate" ⟨[a], []⟩ = pure () := by kernel_rfl
theorem newCall_ac (a : Value) : checkBuiltinCall "itertools.accumulate.__new__" ⟨[.type "itertools.accumulate", a], []⟩ = pure () := by kernel_rfl
theorem entry_ac_new : entryFor table "itertools.accumulate.__new__" = some Builtin.«itertools.accumulate.__new__» := entryFor_of_tree (by kernel_rfl)
theorem class_ac (a : Value) : Builtin.Itertools.itClassAndRest "accumulate" ⟨[.type "itertools.accumulate", a], []⟩ = pure (.type "itertools.accumulate", [a]) := by
  unfold Builtin.Itertools.itClassAndRest
  have e : (Value.type ("itertools." ++ "accumulate")) = .type "itertools.accumulate" := by decide
  simp only [isType, e, sub_ac, pure_bind, Bool.not_true, Bool.false_eq_true, if_false]
theorem bind_ac (a : Value) : Builtin.Itertools.itBindNamed "accumulate" ["iterable", "func", "initial"] 1 2 [a] [] = pure [some a, none, none] := by rfl
theorem nodict_ac : typeHasDict (.type "itertools.accumulate") = false := by decide +kernel

/-! ### the object -/
abbrev IsAc (h : Heap) (m it : Addr) (v : Value) : Prop := h.get? m = some { cls := .type "itertools.accumulate", dict := none, data := .fields #[.ref it, .none, v, .none], slots := #[] }
section
variable {prog : Program} {w : World} {A : Around} {E : Value → Shared → Prop} {s : Shared}
theorem new_ac (x : Value) : MeetsIn prog w (Builtin.«itertools.accumulate.__new__» ⟨[.type "itertools.accumulate", x], []⟩)
    (fun A R s => wpAny (model prog w) A.in1 (pyIter x) (fun itv s1 => R (.ok (.ret (.ref s1.heap.objs.size))) { s1 with heap := s1.heap.push { cls := .type "itertools.accumulate", data := .fields #[itv, .none, .int 0 0, .none] } }) (fun e s1 => R (.error e) s1) s) :=
  .of_wp fun A R s h => by
    unfold Builtin.«itertools.accumulate.__new__»
    refine wpAny_bind (wpAny_of_eq (class_ac _) ?_)
    try dsimp only
    refine wpAny_bind (wpAny_of_eq (bind_ac _) ?_)
    try dsimp only
    refine wpAny_bind (wpAny_mono h (fun itv s1 hR => ?_) fun _ _ z => z)
    show wpAny _ _ (Builtin.Itertools.itNewRecord (.type "itertools.accumulate") [itv, .none, .int 0 0, .none] >>= _) _ _ _
    unfold Builtin.Itertools.itNewRecord
    rw [nodict_ac]
    refine wpAny_bind ?_
    show wpAny _ _ (newObj (.type "itertools.accumulate") (.fields #[itv, .none, .int 0 0, .none]) >>= fun r => pure r) _ _ _
    refine wpAny_bind (wpAny_newObj_type ?_)
    refine wpAny_pure ?_
    exact wpAny_pure ⟨_, rfl, hR⟩
theorem call_ac {x : Value} {Q : Value → Shared → Prop}
    (hx : wpAny (model prog w) A.in1.in1 (pyIter x) (fun itv s1 => Q (.ref s1.heap.objs.size) { s1 with heap := s1.heap.push { cls := .type "itertools.accumulate", data := .fields #[itv, .none, .int 0 0, .none] } }) E s) :
    wpAny (model prog w) A (call (.type "itertools.accumulate") [x]) Q E s := by
  refine callType_newIn called_ac (by decide) (typeCall_ac _) (newCall_ac _) (fun obj => F.args_object_init_2 obj _) entry_ac_new (new_ac x) ?_
  show wpAny (model prog w) A.in1.in1 (pyIter x) _ _ _
  refine wpAny_mono hx (fun itv s1 h => ?_) fun _ _ z => z
  exact ⟨⟨_, Heap.get?_push_size _ rfl, rfl⟩, h⟩

/-! ### the list's iterator, asked raw -/
theorem raw_of {it : Addr} {Q : Value → Shared → Prop} (h : wpAny (model prog w) A (callSpecial? (.ref it) (Str.ofString "__next__")) (fun r s' => ∃ v, r = some v ∧ Q v s') E s) :
    wpAny (model prog w) A (Builtin.Itertools.itRawNext (.ref it)) Q E s := by
  unfold Builtin.Itertools.itRawNext
  refine wpAny_bind (wpAny_mono h (fun r s' z => ?_) fun _ _ z => z)
  obtain ⟨v, rfl, hq⟩ := z
  exact wpAny_pure hq
theorem raw_item {it l : Addr} {i : Nat} {items : Array Value} {x : Value} {Q : Value → Shared → Prop} (hit : s.heap.IsListIter it l i) (hl : s.heap.IsList l items) (hx : items[i]? = some x)
    (hQ : ∀ h', h'.IsListIter it l (i + 1) → Heap.SameBut it s.heap h' → Q x { s with heap := h' }) : wpAny (model prog w) A (Builtin.Itertools.itRawNext (.ref it)) Q E s := by
  obtain ⟨o, ho, hc, hd⟩ := id hit
  obtain ⟨ol, hol, _, nl, hdl⟩ := hl
  refine raw_of (wpAny_callSpecial?_slot (name := Str.ofString "__next__") hit.typeIs slot_listiter_next (wpAny_call_entry slot_listiter_next hit.typeIs entry_listiter_next ?_ (args_listiter_next _)))
  show wpAny _ _ (field (.ref it) 0 >>= _) _ _ s
  refine wpAny_bind (wpAny_field ho hd (x := .ref l) rfl ?_)
  rw [if_neg (show ¬ ((Value.ref l == Value.none) = true) from Bool.false_ne_true)]
  show wpAny _ _ (field (.ref it) 1 >>= _) _ _ s
  refine wpAny_bind (wpAny_field ho hd (x := .int i 0) rfl (wpAny_bind (wpAny_seqItems hol hdl ?_)))
  simp only [Int.toNat_natCast, hx]
  refine wpAny_bind (wpAny_setField ho hd (by simp) (wpAny_pure ⟨x, rfl, ⟨x, rfl, hQ _ ?_ (Heap.SameBut.update ..)⟩⟩))
  exact ⟨_, Heap.get?_update_self _ ho (Obj.isFreed_of_fields (Obj.data_mapFields hd _)), (Obj.cls_mapFields ..).trans hc, by
    rw [Obj.data_mapFields hd]; simp [rawInt]⟩
theorem raw_end {it l : Addr} {i : Nat} {items : Array Value} {Q : Value → Shared → Prop} (hh : A.handled = none) (hit : s.heap.IsListIter it l i) (hl : s.heap.IsList l items) (hx : items[i]? = none)
    (hE : ∀ h' e, Heap.ExtBut it s.heap h' → (∃ o, h'.get? e = some o ∧ o.cls = .type "StopIteration") → E (.ref e) { s with heap := h' }) : wpAny (model prog w) A (Builtin.Itertools.itRawNext (.ref it)) Q E s := by
  obtain ⟨o, ho, hc, hd⟩ := id hit
  obtain ⟨ol, hol, _, nl, hdl⟩ := hl
  refine raw_of (wpAny_callSpecial?_slot (name := Str.ofString "__next__") hit.typeIs slot_listiter_next (wpAny_call_entry slot_listiter_next hit.typeIs entry_listiter_next ?_ (args_listiter_next _)))
  show wpAny _ _ (field (.ref it) 0 >>= _) _ _ s
  refine wpAny_bind (wpAny_field ho hd (x := .ref l) rfl ?_)
  rw [if_neg (show ¬ ((Value.ref l == Value.none) = true) from Bool.false_ne_true)]
  show wpAny _ _ (field (.ref it) 1 >>= _) _ _ s
  refine wpAny_bind (wpAny_field ho hd (x := .int i 0) rfl (wpAny_bind (wpAny_seqItems hol hdl ?_)))
  simp only [Int.toNat_natCast, hx]
  refine wpAny_bind (wpAny_rule (wpAny_bind (wpAny_setField ho hd (by simp) ?_)))
  show wpAny _ _ (newExc (.type "StopIteration") [] >>= _) _ _ _
  refine wpAny_bind ?_
  simp only [newExc, newTuple]
  refine wpAny_bind (wpAny_newObj_type ?_ (by size_fits))
  refine wpAny_bind (m := firstArgMember _ _) (wpAny_of_eq (a := Value.none) (by first | rfl | (simp only [firstArgMember]; rfl)) ?_)
  refine wpAny_newObj_type ?_ (by size_fits)
  simp only [raiseNew]
  refine wpAny_bind (wpAny_handled ?_)
  first | rw [show A.in1.handled = none from hh] | rw [hh]
  refine wpAny_bind (wpAny_pure (wpAny_throw ?_))
  exact hE _ _ (((Heap.SameBut.update ..).extBut.push _).push _) ⟨_, Heap.get?_push_size _ rfl, rfl⟩
/-! ### __next__, __iter__ -/
/-- what the sum is ahead of item i -/
def pre (ns : List Int) (i : Nat) : Int := (ns.take i).sum
theorem pre_succ {ns : List Int} {i : Nat} {v : Int} (h : ns[i]? = some v) : pre ns (i + 1) = pre ns i + v := by
  unfold pre
  rw [List.take_succ, h]
  simp
theorem ac_next_item {m it l : Addr} {i : Nat} {items : Array Value} {p v : Int} {t tu : Tok} {Q : Value → Shared → Prop}
    (hm : IsAc s.heap m it (.int p t)) (hit : s.heap.IsListIter it l i) (hl : s.heap.IsList l items) (hx : items[i]? = some (.int v tu)) (hmi : m ≠ it) (hml : m ≠ l) (hli : l ≠ it)
    (hQ : ∀ t' s', IsAc s'.heap m it (.int (p + v) t') → s'.heap.IsListIter it l (i + 1) → s'.heap.IsList l items → (∀ b o, b ≠ it → b ≠ m → s.heap.get? b = some o → s'.heap.get? b = some o) →
      s'.gens = s.gens → s'.drawn = s.drawn → s'.os = s.os → Q (.int (p + v) t') s') :
    wpAny (model prog w) A (Builtin.«itertools.accumulate.__next__» ⟨[.ref m], []⟩) (fun fin s' => ∃ v, fin = .done (.ret v) ∧ Q v s') E s := by
  show wpAny _ _ (field (.ref m) 3 >>= _) _ _ _
  refine wpAny_bind (wpAny_field hm rfl (x := .none) rfl ?_)
  rw [if_neg (by decide)]
  show wpAny _ _ (field (.ref m) 0 >>= _) _ _ _
  refine wpAny_bind (wpAny_field hm rfl (x := .ref it) rfl ?_)
  refine wpAny_bind (raw_item hit hl hx fun h' hit' hs' => ?_)
  have hm' : IsAc h' m it (.int p t) := hs'.extBut _ _ hmi hm
  have hl' : h'.IsList l items := hl.extBut hs'.extBut hli
  show wpAny _ _ (field (.ref m) 2 >>= _) _ _ _
  refine wpAny_bind (wpAny_field hm' rfl (x := .int p t) rfl ?_)
  have fin : ∀ (t' : Tok) (k : Nat), wpAny (model prog w) A (ret (.int (p + v) t')) (fun fin s' => ∃ v, fin = .done (.ret v) ∧ Q v s') E { s with heap := h'.update m (Obj.mapFields (·.setIfInBounds 2 (.int (p + v) t'))), toks := k } := by
    intro t' k
    have g := Heap.get?_update_self (Obj.mapFields (·.setIfInBounds 2 (Value.int (p + v) t'))) hm' rfl
    have kp : ∀ b o, b ≠ m → h'.get? b = some o → (h'.update m (Obj.mapFields (·.setIfInBounds 2 (Value.int (p + v) t')))).get? b = some o := fun b o hb e => (Heap.get?_update_other _ _ (Ne.symm hb)).trans e
    refine wpAny_pure ⟨_, rfl, hQ t' _ g (hit'.at fun o e => kp _ o (Ne.symm hmi) e) (hl'.at fun o e => kp _ o (Ne.symm hml) e) (fun b o h1 h2 e => kp b o h2 (hs'.extBut b o h1 e)) rfl rfl rfl⟩
  by_cases h0 : (Value.int p t == Builtin.Itertools.itNothing) = true
  · rw [if_pos h0]
    refine wpAny_bind (wpAny_rule ?_)
    refine wpAny_bind (wpAny_setField hm' rfl (by simp) ?_)
    have hp : p = 0 := by
      have := eq_of_beq h0
      injection this
    subst hp
    have := fin tu s.toks
    rw [Int.zero_add] at this
    exact this
  · rw [if_neg h0]
    show wpAny _ _ (field (.ref m) 1 >>= _) _ _ _
    refine wpAny_bind (wpAny_field hm' rfl (x := .none) rfl ?_)
    refine wpAny_bind (wpAny_holding ?_)
    rw [if_pos (by decide)]
    refine wpAny_add_int ?_
    refine wpAny_bind (wpAny_setField hm' rfl (by simp) ?_)
    refine wpAny_bind (wpAny_letGo ?_)
    exact fin _ _
theorem ac_pyNext_item {m it l : Addr} {i : Nat} {items : Array Value} {p v : Int} {t tu : Tok} {Q : Option Value → Shared → Prop}
    (hm : IsAc s.heap m it (.int p t)) (hit : s.heap.IsListIter it l i) (hl : s.heap.IsList l items) (hx : items[i]? = some (.int v tu)) (hmi : m ≠ it) (hml : m ≠ l) (hli : l ≠ it)
    (hQ : ∀ t' s', IsAc s'.heap m it (.int (p + v) t') → s'.heap.IsListIter it l (i + 1) → s'.heap.IsList l items → (∀ b o, b ≠ it → b ≠ m → s.heap.get? b = some o → s'.heap.get? b = some o) →
      s'.gens = s.gens → s'.drawn = s.drawn → s'.os = s.os → Q (some (.int (p + v) t')) s') :
    wpAny (model prog w) A (pyNext (.ref m)) Q E s := by
  have hT0 : s.TypeIs (.ref m) "itertools.accumulate" := ⟨_, hm, rfl⟩
  unfold pyNext
  exact wpAny_bind (wpAny_attempt (wpAny_callSpecial?_slot (name := Str.ofString "__next__") hT0 slot_ac_next
    (wpAny_call_entry slot_ac_next hT0 entry_ac_next
      (ac_next_item hm hit hl hx hmi hml hli fun t' s' a b c k g1 g2 g3 => wpAny_pure (hQ t' s' a b c k g1 g2 g3)) (args_ac_next _))))
theorem ac_pyNext_end {m it l : Addr} {i : Nat} {items : Array Value} {x : Value} {Q : Option Value → Shared → Prop} (hh : A.handled = none)
    (hm : IsAc s.heap m it x) (hit : s.heap.IsListIter it l i) (hl : s.heap.IsList l items) (hx : items[i]? = none)
    (hQ : ∀ h', Heap.ExtBut it s.heap h' → Q none { s with heap := h' }) : wpAny (model prog w) A (pyNext (.ref m)) Q E s := by
  have hT0 : s.TypeIs (.ref m) "itertools.accumulate" := ⟨_, hm, rfl⟩
  have hh1 : A.in1.handled = none := hh
  unfold pyNext
  refine wpAny_bind (wpAny_attempt (wpAny_callSpecial?_slot (name := Str.ofString "__next__") hT0 slot_ac_next
    (wpAny_call_entry slot_ac_next hT0 entry_ac_next ?_ (args_ac_next _))))
  show wpAny _ _ (field (.ref m) 3 >>= _) _ _ _
  refine wpAny_bind (wpAny_field hm rfl (x := .none) rfl ?_)
  rw [if_neg (by decide)]
  show wpAny _ _ (field (.ref m) 0 >>= _) _ _ _
  refine wpAny_bind (wpAny_field hm rfl (x := .ref it) rfl ?_)
  refine wpAny_bind (raw_end hh1 hit hl hx fun h' e he' hx' => ?_)
  obtain ⟨o, ho, hc⟩ := hx'
  refine wpAny_bind (wpAny_isInstance (T := "StopIteration") (b := true) ⟨o, ho, hc⟩ isSubtype_stop ?_)
  exact wpAny_pure (hQ _ he')
theorem ac_pyIter {m it : Addr} {x : Value} {Q : Value → Shared → Prop} (hm : IsAc s.heap m it x) (h : Q (.ref m) s) : wpAny (model prog w) A (pyIter (.ref m)) Q E s := by
  have hT : s.TypeIs (.ref m) "itertools.accumulate" := ⟨_, hm, rfl⟩
  refine wpAny_pyIter_slot hT slot_ac_iter (wpAny_call_entry slot_ac_iter hT entry_ac_iter ?_ (args_ac_iter _))
  show wpAny _ _ (ret (.ref m)) _ _ s
  exact wpAny_pure ⟨_, rfl, "itertools.accumulate", _, hT, slot_ac_next.lookup, h⟩
end
theorem walks_ac {prog : Program} {w : World} {A : Around} {m it l : Addr} {items : Array Value} {ns : List Int} (hh : A.handled = none) (hz : items.size = ns.length) (hi : ∀ (i : Nat) (n : Int), ns[i]? = some n → ∃ t, items[i]? = some (.int n t)) (hmi : m ≠ it) (hml : m ≠ l) (hli : l ≠ it) :
    WalksS prog w A m [m, it, l] [m, it] (fun a b => b = a) ns.length (fun i v => ∃ t, v = .int (pre ns (i + 1)) t) (fun i s => (∃ t, IsAc s.heap m it (.int (pre ns i) t)) ∧ s.heap.IsListIter it l i ∧ s.heap.IsList l items) where
  sub := fun b hb => by
    rcases List.mem_cons.mp hb with rfl | hb
    · exact List.mem_cons_self
    · rw [List.mem_singleton.mp hb]; simp
  grefl := fun _ => rfl
  gtrans := fun _ _ _ h1 h2 => h2.trans h1
  frame := fun i s h' tk st _ hk => by
    obtain ⟨⟨t, h1⟩, h2, h3⟩ := st
    exact ⟨⟨t, hk m (by simp) _ h1⟩, h2.at fun o e => hk it (by simp) o e, h3.at fun o e => hk l (by simp) o e⟩
  item := fun i s Q E hlt st hQ => by
    obtain ⟨⟨t, h1⟩, h2, h3⟩ := st
    have hn : ns[i]? = some ns[i] := List.getElem?_eq_getElem hlt
    obtain ⟨tu, hu⟩ := hi i _ hn
    refine wpAny_with_toks (Nat.le_refl s.toks) (ac_pyNext_item h1 h2 h3 hu hmi hml hli fun t' s' a b c k g1 g2 g3 htk => ?_)
    rw [← pre_succ hn] at a ⊢
    exact hQ _ s' ⟨t', rfl⟩ ⟨⟨t', a⟩, b, c⟩ ⟨fun b ob hb e => k b ob (fun h => hb (by simp [h])) (fun h => hb (by simp [h])) e, g1, g2, g3, htk⟩
  done := fun s Q E st hQ => by
    obtain ⟨⟨t, h1⟩, h2, h3⟩ := st
    exact ac_pyNext_end hh h1 h2 h3 (by simp [hz]) fun h' hx => hQ _ ⟨fun b ob hb e => hx b ob (fun h => hb (by simp [h])) e, rfl, rfl, rfl, Nat.le_refl _⟩
  self := fun i s Q E st hQ => by
    obtain ⟨⟨t, h1⟩, h2, h3⟩ := st
    exact ac_pyIter h1 hQ
section
variable {prog : Program} {w : World} {A : Around} {E : Value → Shared → Prop} {s : Shared}
theorem sum_ac_list {l : Addr} {its : Array Value} {ns : List Int} {Q : Value → Shared → Prop} (hh : A.handled = none) (hl : s.heap.IsList l its) (hz : its.size = ns.length) (hi : ∀ (i : Nat) (n : Int), ns[i]? = some n → ∃ t, its[i]? = some (.int n t))
    (hq : ∀ h' t' k, (∀ b o, s.heap.get? b = some o → h'.get? b = some o) → Q (.int (preSum (fun i => pre ns (i + 1)) ns.length) t') { s with heap := h', toks := k }) :
    wpAny (model prog w) A (call (.type "itertools.accumulate") [.ref l]) (fun v s1 => wpAny (model prog w) A (call (.builtin "sum") [v]) Q E s1) E s := by
  have hh1 : A.in1.handled = none := hh
  have ll : l < s.heap.objs.size := by obtain ⟨o, ho, _⟩ := hl; exact Heap.lt_size ho
  refine call_ac (wpAny_pyIter_list hl ?_)
  have hs1 : (s.heap.push { cls := .type "list_iterator", data := .fields #[.ref l, .int 0 0] }).objs.size = s.heap.objs.size + 1 := Heap.size_push ..
  generalize hg : (s.heap.push { cls := .type "list_iterator", data := .fields #[.ref l, .int 0 0] }) = h1 at hs1 ⊢
  have hit1 : h1.IsListIter s.heap.objs.size l 0 := by rw [← hg]; exact ⟨_, Heap.get?_push_size _ rfl, rfl, rfl⟩
  have hl1 : h1.IsList l its := by rw [← hg]; exact hl.push _
  have k1 : ∀ b o, s.heap.get? b = some o → h1.get? b = some o := fun b o e => by rw [← hg]; exact Heap.get?_push_of_some _ e
  have hm : IsAc (h1.push { cls := .type "itertools.accumulate", data := .fields #[.ref s.heap.objs.size, .none, .int 0 0, .none] }) h1.objs.size s.heap.objs.size (.int 0 0) := Heap.get?_push_size _ rfl
  have k2 : ∀ b o, h1.get? b = some o → (h1.push { cls := .type "itertools.accumulate", data := .fields #[.ref s.heap.objs.size, .none, .int 0 0, .none] }).get? b = some o := fun b o e => Heap.get?_push_of_some _ e
  have hit := hit1.at fun o e => k2 _ o e
  have hL := hl1.at fun o e => k2 _ o e
  have W := walks_ac (prog := prog) (w := w) (A := A.in1) (m := h1.objs.size) (it := s.heap.objs.size) (l := l) (items := its) (ns := ns) hh1 hz hi (by rw [hs1]; exact Nat.succ_ne_self _) (by rw [hs1]; exact Nat.ne_of_gt (Nat.lt_succ_of_lt ll)) (Nat.ne_of_lt ll)
  refine call_sum_walkAnyS (ac_pyIter hm ?_)
  refine ⟨_, _, _, _, _, _, _, fun i => pre ns (i + 1), rfl, W, ⟨⟨0, hm⟩, hit, hL⟩, fun b hb => ?_, fun i v hv => hv, fun s' t' hm' => ?_⟩
  · rcases List.mem_cons.mp hb with rfl | hb
    · exact Heap.lt_size hm
    · rcases List.mem_cons.mp hb with rfl | hb
      · obtain ⟨o, ho, _⟩ := hit
        exact Heap.lt_size ho
      · rw [List.mem_singleton.mp hb]
        obtain ⟨o, ho, _⟩ := hL
        exact Heap.lt_size ho
  · rw [Moved.eq_with hm']
    exact hq s'.heap t' s'.toks fun b o e => hm'.heap b o (fun hmem => by
      have := Heap.lt_size e
      rcases List.mem_cons.mp hmem with z | z
      · rw [z, hs1] at this
        exact absurd this (Nat.not_lt.mpr (Nat.le_succ _))
      · rw [List.mem_singleton.mp z] at this
        exact absurd this (Nat.lt_irrefl _)) (k2 _ _ (k1 _ _ e))
end
end AcR

set_option Elab.async false
set_option linter.all false
set_option maxRecDepth 100000
set_option maxHeartbeats 1000000
/-! Xa2: list(map(ord, text)); the rules of list(map(ord, e)) and of sum(accumulate(e)). -/
namespace AcR
open PySem PySem.Spec PyProof.Rows MpR
section
variable {prog : Program} {w : World} {A : Around} {E : Value → Shared → Prop} {s : Shared}
variable {I : Addr} {fp wr : List Addr} {G : Array GenState → Array GenState → Prop} {n : Nat} {P : Nat → Value → Prop} {St : Nat → Shared → Prop}
theorem extend_map {R : Result → Shared → Prop} (W : WalksS prog w A.in1 I fp wr G n P St) (hT : ∀ i s, St i s → s.TypeIs (.ref I) "map") (S : Addr) (res : Value) (c₀ : Nat) (hst : St 0 s) (hSf : S ∉ fp) (hI : I ∈ fp)
    (hS : s.heap.get? S = some { cls := .type "list", data := .seq #[] c₀ })
    (hR : ∀ s' acc' c', Moved (S :: wr) G s s' → s'.heap.get? S = some { cls := .type "list", dict := none, data := .seq acc' c', slots := #[] } → ItemsOf P acc' n → R (.ok (.ret res)) s') (hn : n ≤ sizeLine) :
    wpAny (model prog w) A.in1 (Builtin.List.listExtendWith (.ref S) (.ref I) res)
      (fun fin s' => match fin with | .done f => R (.ok f) s' | .again c' => c'.quiet = true ∧ codeAny (model prog w) A c' R s') (fun e s' => R (.error e) s') s := by
  have hSI : S ≠ I := fun e => hSf (e ▸ hI)
  unfold Builtin.List.listExtendWith
  refine wpAny_bind (wpAny_typeOf (hT 0 _ hst) ?_)
  have h1 : Builtin.List.listSameRef (.ref S) (.ref I) = false := by simp [Builtin.List.listSameRef, hSI]
  have h2 : (Value.type "map" == Value.type "list") = false := by decide
  have h3 : (Value.type "map" == Value.type "tuple") = false := by decide
  simp only [h1, h2, h3, Bool.or_false, Bool.false_eq_true, if_false]
  refine wpAny_bind (W.self 0 _ _ _ hst (wpAny_bind (wpAny_holding ?_)))
  unfold Builtin.List.listLengthHint
  refine wpAny_bind (wpAny_specialOf (hT 0 _ hst) nolen_mp ?_)
  show wpAny _ A.in1 (specialOf (Value.ref I) (Str.ofString "__length_hint__") >>= _) _ _ _
  refine wpAny_bind (wpAny_specialOf (hT 0 _ hst) nohint_mp (wpAny_pure ?_))
  show wpAny _ A.in1 (rule "list.extend.makes-room" >>= fun _ => Builtin.List.listTouch (.ref S) >>= fun _ =>
    again (.builtin "list.extend.loop" ⟨[.ref S, .ref I, res], []⟩)) _ _ _
  refine wpAny_bind (wpAny_rule (wpAny_bind ?_))
  show wpAny _ A.in1 (updateSeq S (·.push .none) >>= fun _ => updateSeq S (·.pop)) _ _ _
  refine wpAny_bind (wpAny_updateSeq hS rfl ?_)
  have hS₂ := Heap.get?_update_self (Obj.mapSeq (·.push Value.none)) hS rfl
  refine wpAny_updateSeq (hz := by seq_fits) hS₂ rfl ?_
  have hS₃ := Heap.get?_update_self (Obj.mapSeq (·.pop)) hS₂ rfl
  have oth : ∀ b o, b ≠ S → s.heap.get? b = some o → ((s.heap.update S (Obj.mapSeq (·.push Value.none))).update S (Obj.mapSeq (·.pop))).get? b = some o :=
    fun b o hb e => (Heap.get?_update_other _ _ (Ne.symm hb)).trans ((Heap.get?_update_other _ _ (Ne.symm hb)).trans e)
  refine wpAny_pure ⟨plainId_quiet F.plain_extend_loop _, codeAny_extend_loopS W hn _ hSf _ n 0 _ _ _ rfl (Nat.zero_le _)
    (W.frame 0 s _ s.toks hst (Nat.le_refl _) fun b hb o e => oth b o (fun h => hSf (h ▸ hb)) e) hS₃ (ItemsOf.nil P) fun s' acc' c' hm hS' hacc => ?_⟩
  exact hR s' acc' c' (Moved.trans W.gtrans ((Moved.refl W.grefl).then_heap (Nat.le_refl _) fun b o hb e => oth b o (fun h => hb (h ▸ List.mem_cons_self)) e) hm) hS' hacc
theorem call_list_map {Q : Value → Shared → Prop} (W : WalksS prog w A.in1.in1 I fp wr G n P St) (hT : ∀ i s, St i s → s.TypeIs (.ref I) "map") (hst : St 0 s) (hfp : ∀ b ∈ fp, b < s.heap.objs.size) (hI : I ∈ fp)
    (hQ : ∀ s' acc' c', Moved (s.heap.objs.size :: wr) G { s with heap := s.heap.push { cls := .type "list", data := .seq #[] } } s' →
      s'.heap.get? s.heap.objs.size = some { cls := .type "list", dict := none, data := .seq acc' c', slots := #[] } → ItemsOf P acc' n → Q (.ref s.heap.objs.size) s') (hn : n ≤ sizeLine) :
    wpAny (model prog w) A (call (.type "list") [.ref I]) Q E s := by
  have hSf : s.heap.objs.size ∉ fp := fun hm => Nat.lt_irrefl _ (hfp _ hm)
  refine callType_codes (Q₁ := fun obj s₁ => obj = .ref s.heap.objs.size ∧ s₁ = { s with heap := s.heap.push { cls := .type "list", data := .seq #[] } }) F.called_list (F.typeCall_list_1 _) F.entry_list_init
    (code_list_new _ ⟨rfl, rfl⟩) fun obj s₁ h₁ => ?_
  obtain ⟨rfl, rfl⟩ := h₁
  have hS : (s.heap.push { cls := .type "list", data := .seq #[] }).get? s.heap.objs.size = some { cls := .type "list", data := .seq #[] } := Heap.get?_push_size _ rfl
  refine ⟨⟨_, hS, rfl⟩, F.args_list_init_2 _ _, ?_⟩
  show wpAny _ A.in1.in1 (do let old ← Builtin.List.listItems (.ref s.heap.objs.size); Builtin.List.listUpdate (.ref s.heap.objs.size) (fun _ => #[]); letGo old.toList.reverse; Builtin.List.listExtendWith (.ref s.heap.objs.size) (.ref I) .none) _ _ _
  refine wpAny_bind ?_
  unfold Builtin.List.listItems
  refine wpAny_bind (wpAny_seqItems hS rfl (wpAny_pure ?_))
  show wpAny _ A.in1.in1 (updateSeq s.heap.objs.size (fun _ => #[]) >>= fun _ => letGo (#[] : Array Value).toList.reverse >>= fun _ => Builtin.List.listExtendWith (.ref s.heap.objs.size) (.ref I) .none) _ _ _
  refine wpAny_bind (wpAny_updateSeq hS rfl ?_)
  have hS₂ := Heap.get?_update_self (Obj.mapSeq (fun _ => (#[] : Array Value))) hS rfl
  have oth : ∀ b o, b ≠ s.heap.objs.size → (s.heap.push { cls := .type "list", data := .seq #[] }).get? b = some o → ((s.heap.push { cls := .type "list", data := .seq #[] }).update s.heap.objs.size (Obj.mapSeq (fun _ => (#[] : Array Value)))).get? b = some o :=
    fun b o hb e => (Heap.get?_update_other _ _ (Ne.symm hb)).trans e
  refine wpAny_bind (wpAny_letGo ?_)
  refine extend_map (A := A.in1) W hT s.heap.objs.size .none _ (W.frame 0 s _ s.toks hst (Nat.le_refl _) fun b hb o e => oth b o (fun h => hSf (h ▸ hb)) (Heap.get?_push_of_some _ e)) hSf hI hS₂ (fun s' acc' c' hm hS' hacc => ?_) hn
  exact ⟨rfl, hQ s' acc' c' (Moved.trans W.gtrans ((Moved.refl W.grefl).then_heap (Nat.le_refl _) fun b o hb e => oth b o (fun h => hb (h ▸ List.mem_cons_self)) e) hm) hS' hacc⟩
end
section
variable {prog : Program} {w : World} {A : Around} {E : Value → Shared → Prop} {s : Shared}
theorem mapF_ord : MapF prog w (.builtin "ord") (fun u => ∃ c t, u = .str ⟨#[c]⟩ t) (fun u v => ∃ c t t', u = .str ⟨#[c]⟩ t ∧ v = .int (c : Nat) t') := by
  intro A E Q s u hh hc hq
  obtain ⟨c, t, rfl⟩ := hc
  exact PySem.P.ord_of_char (hq _ _ ⟨c, t, _, rfl, rfl⟩ ⟨fun _ _ _ e => e, rfl, rfl, rfl, Nat.le_succ _⟩)
theorem draws_str (hh : A.handled = none) (x : Str) (t : Tok) (it : Addr) : Draws prog w A it [it] x.cps.size (fun i v => ∃ c u, x.cps[i]? = some c ∧ v = .str ⟨#[c]⟩ u) (fun i h => h.IsStrIter it (strIterType x) x t i) := by
  unfold strIterType
  split
  · exact Draws.strAscii hh it x t
  · exact Draws.strWide hh it x t
theorem list_map_ord {x : Str} {t : Tok} {Q : Value → Shared → Prop} (hh : A.handled = none) (hn : x.cps.size ≤ sizeLine)
    (hq : ∀ a h' k acc c', a ≥ s.heap.objs.size → (∀ b o, s.heap.get? b = some o → h'.get? b = some o) → h'.get? a = some { cls := .type "list", dict := none, data := .seq acc c', slots := #[] } →
      ItemsOf (fun i v => ∃ c t', x.cps[i]? = some c ∧ v = .int (c : Nat) t') acc x.cps.size → Q (.ref a) { s with heap := h', toks := k }) :
    wpAny (model prog w) A (call (.type "map") [.builtin "ord", .str x t]) (fun v s1 => wpAny (model prog w) A (call (.type "list") [v]) Q E s1) E s := by
  have hh1 : A.in1.in1.in1.handled = none := hh
  refine call_map (wpAny_pyIter_strU ?_)
  have hs1 : (s.heap.push { cls := .type (strIterType x), data := .fields #[.str x t, .int 0 0] }).objs.size = s.heap.objs.size + 1 := Heap.size_push ..
  generalize hg : (s.heap.push { cls := .type (strIterType x), data := .fields #[.str x t, .int 0 0] }) = h1 at hs1 ⊢
  have hit1 : h1.IsStrIter s.heap.objs.size (strIterType x) x t 0 := by rw [← hg]; exact ⟨_, Heap.get?_push_size _ rfl, rfl, rfl⟩
  have k1 : ∀ b o, s.heap.get? b = some o → h1.get? b = some o := fun b o e => by rw [← hg]; exact Heap.get?_push_of_some _ e
  intro h' hO hM hsz hk
  have D := draws_str (prog := prog) (w := w) (A := A.in1.in1.in1) hh1 x t s.heap.objs.size
  have hit := D.frame _ _ h' hit1 fun b _ o e => hk b o e
  have W := walks_map (A := A.in1.in1) (m := h1.objs.size + 1) (T := h1.objs.size) (it := s.heap.objs.size) hh1 D mapF_ord (by rw [hs1]; exact Nat.ne_of_gt (Nat.lt_succ_of_lt (Nat.lt_succ_self _))) (by rw [hs1]; exact Nat.succ_ne_self _) (by simp) (fun i u z => by
    obtain ⟨c, u', _, rfl⟩ := z
    exact ⟨c, u', rfl⟩)
  refine call_list_map (s := { s with heap := h' }) W (fun i s' st => ⟨_, st.1, rfl⟩) ⟨hM, hO, hit⟩ (fun b hb => ?_) (by simp) (fun s' acc c' hm hS hacc => ?_) hn
  · show b < h'.objs.size
    rw [hsz, hs1]
    rcases List.mem_cons.mp hb with rfl | hb
    · rw [hs1]; exact Nat.lt_succ_self _
    · rcases List.mem_cons.mp hb with rfl | hb
      · rw [hs1]; exact Nat.lt_succ_of_lt (Nat.lt_succ_self _)
      · rw [List.mem_singleton.mp hb]; exact Nat.lt_succ_of_lt (Nat.lt_succ_of_lt (Nat.lt_succ_self _))
  · rw [Moved.eq_with hm]
    refine hq _ s'.heap s'.toks acc c' (by show s.heap.objs.size ≤ h'.objs.size; rw [hsz, hs1]; exact Nat.le_succ_of_le (Nat.le_succ_of_le (Nat.le_succ _))) (fun b o e => hm.heap b o (fun hmem => ?_) (Heap.get?_push_of_some _ (hk _ _ (k1 _ _ e)))) hS ⟨hacc.1, fun i v hv => ?_⟩
    · have hb := Heap.lt_size e
      rcases List.mem_cons.mp hmem with z | z
      · rw [z] at hb
        have : s.heap.objs.size ≤ h'.objs.size := by rw [hsz, hs1]; exact Nat.le_succ_of_le (Nat.le_succ_of_le (Nat.le_succ _))
        exact absurd hb (Nat.not_lt.mpr this)
      · rw [List.mem_singleton.mp z] at hb
        exact absurd hb (Nat.lt_irrefl _)
    · obtain ⟨u, ⟨c, u', hc, rfl⟩, c2, t2, t3, e, rfl⟩ := hacc.2 i v hv
      injection e with e1 e2
      injection e1 with e1
      have : c = c2 := by simpa using e1
      subst this
      exact ⟨c, t3, hc, rfl⟩
end
end AcR
namespace L2
open PySem PySem.Spec PyProof.Rows
section
variable {X : Cx}
def rLsOrd : List V → Hp → VK → Prop := fun xs H Q => ∃ a : Str, xs = [.str a] ∧ a.cps.size ≤ sizeLine ∧ ∀ p, H p = none → Q (.ref p) (upd H p (.lst (a.cps.toList.map fun c => V.int ((c : Nat) : Int))))
theorem ord_vals {x : Str} {acc : Array Value} (h : ItemsOf (fun i v => ∃ c t', x.cps[i]? = some c ∧ v = .int (c : Nat) t') acc x.cps.size) : Vals (x.cps.toList.map fun c => V.int ((c : Nat) : Int)) acc.toList := by
  obtain ⟨h1, h2⟩ := h
  have key : ∀ (cs : List Nat) (us : List Value), us.length = cs.length → (∀ (i : Nat) (v : Value), us[i]? = some v → ∃ c t', cs[i]? = some c ∧ v = Value.int ((c : Nat) : Int) t') → Vals (cs.map fun c => V.int ((c : Nat) : Int)) us := by
    intro cs
    induction cs with
    | nil =>
      intro us hl _
      cases us with
      | nil => exact .nil
      | cons _ _ => cases hl
    | cons c cs ih =>
      intro us hl hv
      cases us with
      | nil => cases hl
      | cons u us =>
        obtain ⟨c', t', e1, e2⟩ := hv 0 u rfl
        simp at e1
        subst e1 e2
        exact .cons ⟨t', rfl⟩ (ih us (by simpa using hl) fun i v e => by simpa using hv (i + 1) v (by simpa using e))
  refine key _ _ (by simpa using h1) fun i v e => ?_
  obtain ⟨c, t', e1, e2⟩ := h2 i v (by simpa using e)
  exact ⟨c, t', by simpa using e1, e2⟩
theorem pe_lsMapOrd {e : Expr} {ta : TA} {p0 p p3 pos pos2 : Pos} (hc : X.calm = true) (hgl : Gl X "list") (hml : X.mg "list" = none) (hg : Gl X "map") (hm : X.mg "map" = none) (hgo : Gl X "ord") (hmo : X.mg "ord" = none) (ha : PA X [e] ta)
    (hs1 : starEach [.Call (.Name "map" p) [.Name "ord" p3, e] [] pos2] X.env = (false, eval (.Call (.Name "map" p) [.Name "ord" p3, e] [] pos2) X.env) :: starEach [] X.env := by rfl)
    (hp1 : (backTo pos (starEach [] X.env)).any (·.1) = false := by rfl) (hs : starEach [.Name "ord" p3, e] X.env = (false, eval (.Name "ord" p3) X.env) :: starEach [e] X.env := by rfl) (hpl : (backTo pos2 (starEach [e] X.env)).any (·.1) = false := by rfl) :
    PE X (.Call (.Name "list" p0) [.Call (.Name "map" p) [.Name "ord" p3, e] [] pos2] [] pos) (tCB rLsOrd ta) := by
  refine ⟨fun pins s σ H Q I h => ?_⟩
  refine wpAny_Call_Name_kw (ld_blt I hgl hml boot_list ?_)
  refine PyProof.Rows.callWith_type1 ?_ hs1 hp1
  rw [hs1]
  show wpAny _ _ (spliced ((false, eval (.Call (.Name "map" p) [.Name "ord" p3, e] [] pos2) X.env) :: backTo pos (starEach [] X.env))) _ _ s
  refine Calls.spliced_cons ?_
  refine wpAny_Call_Name_kw (ld_blt I hg hm boot_map ?_)
  refine PyProof.Rows.callWith_type1 ?_ hs hpl
  rw [hs]
  show wpAny _ _ (spliced ((false, eval (.Name "ord" p3) X.env) :: backTo pos2 (starEach [e] X.env))) _ _ s
  refine Calls.spliced_cons ((pf_bltn hgo hmo boot_ord).run pins s σ H _ I fun s2 I2 => ?_)
  refine thn (ha.run pos2 pins s2 σ H _ I2 h) fun us s3 ⟨vs, H2, I3, r3, q3⟩ => ?_
  · obtain ⟨a, rfl, hn, q3⟩ := q3
    cases r3 with
    | cons r rr =>
      cases rr
      obtain ⟨t, rfl⟩ := r
      refine wpAny_mono (AcR.list_map_ord (x := a) (Q := EP X pins σ Q) (E := X.xe) (I3.ok.hd hc) hn fun l h' k acc c' hl hk hl' hacc => ?_) (fun v s4 h4 => Calls.spliced_nil h4) fun _ _ z => z
      have rv := ord_vals hacc
      exact ⟨.ref l, _, I3.laid (t' := k) hk hl (show ObjOk X.prog X.w _ h' l (.lst _) from ⟨by simpa using hn, acc.toList, c', rv, hl'⟩), rfl, q3 l (I3.hok.fresh hl)⟩
/-- sum(accumulate(e)) -/
def psum (ns : List Int) : Int := preSum (fun i => AcR.pre ns (i + 1)) ns.length
def rSumAc (K : PySem.W.Frag) : List V → Hp → VK → Prop := fun xs H Q => ∃ (q : Addr) (ns : List Int), xs = [.ref q] ∧ SqL K H q (ns.map V.int) ∧ Q (.int (psum ns)) H
theorem pe_sumAc {e : Expr} {ta : TA} {p0 p pos pos2 : Pos} (hc : X.calm = true) (hgs : Gl X "sum") (hms : X.mg "sum" = none) (hg : Gl X "accumulate") (hm : X.mg "accumulate" = some (.type "itertools.accumulate")) (ha : PA X [e] ta)
    (hs1 : starEach [.Call (.Name "accumulate" p) [e] [] pos2] X.env = (false, eval (.Call (.Name "accumulate" p) [e] [] pos2) X.env) :: starEach [] X.env := by rfl)
    (hp1 : (backTo pos (starEach [] X.env)).any (·.1) = false := by rfl) (hs : starEach [e] X.env = (false, eval e X.env) :: starEach [] X.env := by rfl) (hpl : (backTo pos2 (starEach [] X.env)).any (·.1) = false := by rfl) :
    PE X (.Call (.Name "sum" p0) [.Call (.Name "accumulate" p) [e] [] pos2] [] pos) (tCB (rSumAc X.K) ta) := by
  refine ⟨fun pins s σ H Q I h => ?_⟩
  refine wpAny_Call_Name_kw (ld_blt I hgs hms boot_sum ?_)
  refine PyProof.Rows.callWith_builtin1 ?_ hs1 hp1
  rw [hs1]
  show wpAny _ _ (spliced ((false, eval (.Call (.Name "accumulate" p) [e] [] pos2) X.env) :: backTo pos (starEach [] X.env))) _ _ s
  refine Calls.spliced_cons ?_
  refine wpAny_Call_Name_kw (ld_glob I hg hm ?_)
  refine PyProof.Rows.callWith_type1 ?_ hs hpl
  refine thn (ha.run pos2 pins s σ H _ I h) fun us s3 ⟨vs, H2, I3, r3, q3⟩ => ?_
  · obtain ⟨q, ns, rfl, hq, q3⟩ := q3
    cases r3 with
    | cons r rr =>
      cases rr
      cases r
      obtain ⟨its, rv, pl, hsz⟩ := I3.list hq
      have hl : its.length = ns.length := by rw [← rv.length, List.length_map]
      refine wpAny_mono (AcR.sum_ac_list (ns := ns) (Q := EP X pins σ Q) (E := X.xe) (I3.ok.hd hc) pl.isList (by simpa using hl) (fun i n hn => ?_) fun h' t' k hk => ?_) (fun v s4 h4 => Calls.spliced_nil h4) fun _ _ z => z
      · obtain ⟨u, hu, ru⟩ := rv.get (i := i) (x := .int n) (by rw [List.getElem?_map, hn]; rfl)
        obtain ⟨t, rfl⟩ := ru
        exact ⟨t, by simpa using hu⟩
      · exact ⟨.int _, H2, I3.kept (t' := k) hk, ⟨t', rfl⟩, q3⟩
end
end L2

set_option Elab.async false
set_option linter.all false
set_option maxRecDepth 100000
set_option maxHeartbeats 1000000
/-! Mi25: sum(accumulate(..)), list(map(ord, ..)), xs.reverse(), enumerate, zip, all, any, in a sequence, tuples of the module, split, lower. -/
namespace Mi
open PySem PySem.Spec PyProof.Rows L2
section
variable {B : Bs} {F F' H H' : Hp} {σ : L2.St} {g : G} {τ : En} {K : PySem.W.Frag}
/-! ### new lists of scalars -/
theorem frL_mk {F : Hp} : ∀ {vs : List V} {ds : List D}, RpL K F vs ds → OwL K F H vs (ds.map O.fr) [] := fun h => OwL.frs h
theorem made_li {F H : Hp} {vs : List V} {ds : List D} {p : Addr} {Q : VK} (s : Same F H) (hp : H p = none) (h : RpL K F vs ds) (q : Made K F H (.lst (ds.map O.fr)) Q) : Q (.ref p) (upd H p (.lst vs)) := by
  have gr := Grow.own s hp (.lst vs)
  refine q F _ (.ref p) [p] gr ⟨p, vs, [], rfl, upd_same, OwL.frs h, rfl⟩ (List.nodup_cons.mpr ⟨List.not_mem_nil, List.nodup_nil⟩) fun b hb => ?_
  rcases List.mem_singleton.mp hb with rfl
  exact ⟨hp, s.free hp⟩
theorem rpL_ints {F : Hp} : ∀ ns : List Int, RpL K F (ns.map V.int) (ns.map D.int)
  | [] => RpL.nil
  | n :: ns => RpL.cons (d := .int n) rfl (rpL_ints ns)
theorem rpL_strs {F : Hp} : ∀ ns : List Str, RpL K F (ns.map V.str) (ns.map D.str)
  | [] => RpL.nil
  | n :: ns => RpL.cons (d := .str n) rfl (rpL_strs ns)
/-! ### list(map(ord, text)) -/
def codesD (a : Str) : List D := a.cps.toList.map fun c => D.int ((c : Nat) : Int)
def dLsOrd (ds : List D) : Option O := match ds with
  | [.str a] => if a.cps.size ≤ sizeLine then some (.lst ((codesD a).map O.fr)) else none
  | _ => none
theorem an_lsOrd : AN K rLsOrd dLsOrd := by
  intro F H vs ds z s h e Q q
  unfold dLsOrd at e
  split at e
  · rename_i a
    split at e
    · rename_i hl
      cases e
      obtain ⟨v, rfl, hv⟩ := h.one
      obtain rfl : v = .str a := hv
      refine ⟨a, rfl, hl, fun p hp => made_li s hp ?_ q⟩
      have := rpL_ints (K := K) (F := F) (a.cps.toList.map fun c => ((c : Nat) : Int))
      rw [List.map_map, List.map_map] at this
      exact this
    · cases e
  · cases e
/-! ### sum(accumulate(xs)) -/
def intsD : List D → Option (List Int)
  | [] => some []
  | .int n :: r => (intsD r).map fun ns => n :: ns
  | _ :: _ => none
theorem intsD_ok {H : Hp} : ∀ {ds : List D} {vs : List V} {ns : List Int}, RpL K H vs ds → intsD ds = some ns → vs = ns.map V.int
  | [], vs, ns, h, e => by
    cases e
    exact h
  | .int n :: ds, vs, ns, h, e => by
    obtain ⟨v, r, rfl, h1, h2⟩ := h
    obtain ⟨ns', e1, rfl⟩ := Option.map_eq_some_iff.mp e
    rw [intsD_ok h2 e1]
    obtain rfl : v = .int n := h1
    rfl
  | .non :: _, _, _, _, e => by cases e
  | .bl _ :: _, _, _, _, e => by cases e
  | .str _ :: _, _, _, _, e => by cases e
  | .tup _ :: _, _, _, _, e => by cases e
  | .lst _ :: _, _, _, _, e => by cases e
  | .dK _ _ :: _, _, _, _, e => by cases e
  | .dT _ _ :: _, _, _, _, e => by cases e
  | .scr _ :: _, _, _, _, e => by cases e
  | .ob _ _ _ :: _, _, _, _, e => by cases e
@[simp] theorem intsD_ints : ∀ ns : List Int, intsD (ns.map D.int) = some ns
  | [] => rfl
  | n :: ns => by
    show (intsD (ns.map D.int)).map _ = _
    rw [intsD_ints ns]
    rfl
def dSumAc (ds : List D) : Option D := match ds with
  | [.lst es] => (intsD es).map fun ns => .int (psum ns)
  | _ => none
theorem sn_sumAc : SN K (rSumAc K) dSumAc := by
  intro H vs ds z h e
  unfold dSumAc at e
  split at e
  · rename_i es
    obtain ⟨ns, e1, rfl⟩ := Option.map_eq_some_iff.mp e
    obtain ⟨v, rfl, a, ws, rfl, h1, h2⟩ := h.one
    rw [intsD_ok h2 e1] at h1
    exact ⟨_, rfl, fun Q q => ⟨a, ns, rfl, SqL.of h1, q⟩⟩
  · cases e
/-! ### xs.reverse() -/
def xRev (i : Nat) : XE := fun g => match g[i]? with
  | some (some (.lst os)) => some (.fr .non, g.set i (some (.lst os.reverse)))
  | _ => none
theorem OwL.rev {os : List O} : ∀ {vs : List V} {fp : List Addr}, OwL K F H vs os fp → ∃ f2, OwL K F H vs.reverse os.reverse f2 ∧ f2.Perm fp := by
  induction os with
  | nil =>
    intro vs fp h
    obtain ⟨rfl, rfl⟩ := h
    exact ⟨[], OwL.nil, .refl _⟩
  | cons o os ih =>
    intro vs fp h
    obtain ⟨v, r, f1, f2, rfl, h1, h2, rfl⟩ := h
    obtain ⟨f3, h3, p⟩ := ih h2
    have := OwL.append h3 (OwL.cons h1 OwL.nil)
    rw [List.append_nil] at this
    rw [List.reverse_cons, List.reverse_cons]
    exact ⟨_, this, (p.append_right f1).trans List.perm_append_comm⟩
theorem Rel.revL {v : V} {os : List O} (r : Rel B F H σ g ((v, .lst os) :: τ)) : ∃ a acc, v = .ref a ∧ H a = some (.lst acc) ∧ Rel B F (upd H a (.lst acc.reverse)) σ g ((v, .lst os.reverse) :: τ) := by
  obtain ⟨f1, k1, k2, k3⟩ := Rel.open (E1 := [(v, .lst os)]) (τ := τ) r
  obtain ⟨a, acc, f, rfl, e2, e3, rfl⟩ := OwE.one k1
  have nd := List.nodup_cons.mp k2
  obtain ⟨f2, h2, p⟩ := e3.rev
  refine ⟨a, acc, rfl, e2, k3 a _ [(.ref a, .lst os.reverse)] (a :: f2) List.mem_cons_self (one_OwE ⟨a, acc.reverse, f2, rfl, upd_same, OwL.mono (Same.refl F) _ _ _ (fun b hb => upd_ne fun z => nd.1 (z ▸ p.mem_iff.mp hb)) h2, rfl⟩) (List.nodup_cons.mpr ⟨fun z => nd.1 (p.mem_iff.mp z), p.symm.nodup nd.2⟩) fun b hb => ?_⟩
  rcases List.mem_cons.mp hb with rfl | hb
  · exact List.mem_cons_self
  · exact List.mem_cons_of_mem _ (p.mem_iff.mp hb)
theorem se_rev {i : Nat} : SE B (tBM0 B.K "list" rReverse (tVar i)) (xRev i) := by
  intro F H σ g τ o g' r e Q q
  unfold xRev at e
  split at e
  · rename_i os eg
    cases e
    obtain ⟨a, acc, hv, h0, h1, r2⟩ := r.lstAt eg
    obtain ⟨a', acc', ea, k1, r3⟩ := r2.revL
    cases ea
    refine ⟨.ref a, hv, .inl ⟨rfl, acc, SqL.of h0⟩, a, acc', rfl, rfl, k1, ?_⟩
    have r4 := r3.back' hv
    rw [List.set_set] at r4
    exact q F _ .non (Same.refl F) (r4.addFr rfl)
  · cases e
/-! ### enumerate, zip -/
def enumD : Nat → List D → List D
  | _, [] => []
  | i, d :: ds => .tup [.int (i : Nat), d] :: enumD (i + 1) ds
theorem enumD_get : ∀ (ds : List D) (i j : Nat), (enumD j ds)[i]? = ds[i]?.map fun d => .tup [.int ((j + i : Nat) : Int), d]
  | [], i, j => by simp [enumD]
  | d :: ds, 0, j => by simp [enumD]
  | d :: ds, i + 1, j => by
    show (enumD (j + 1) ds)[i]? = _
    rw [enumD_get ds i (j + 1)]
    simp [Nat.add_assoc, Nat.add_comm 1]
theorem enumD_len : ∀ (ds : List D) (j : Nat), (enumD j ds).length = ds.length
  | [], _ => rfl
  | d :: ds, j => by
    show (enumD (j + 1) ds).length + 1 = _
    rw [enumD_len ds (j + 1)]
    rfl
def iEn (m : XO) : XI := fun g => (m g).bind fun p => match p.1 with
  | .d (.lst ds) => some (enumD 0 ds, p.2)
  | _ => none
theorem si_en {t : TE} {m : XO} (h : SO B t m) : SI B (iEnum B.K (tCons t tNil)) (iEn m) := by
  intro F H σ g τ ds g' r e R q
  obtain ⟨⟨a, g1⟩, e1, e2⟩ := Option.bind_eq_some_iff.mp e
  refine h F H σ g τ a g1 r e1 _ fun F1 H1 v s1 r1 ok => ?_
  dsimp only at e2
  split at e2
  · rename_i es
    cases e2
    obtain ⟨x, vs, rfl, k1, k2⟩ := ok
    refine ⟨x, vs, rfl, SqL.of (r1.sub _ _ k1), q F1 H1 _ s1 r1 ⟨fun i F2 H2 s2 s3 hi => ?_, fun F2 H2 s2 s3 => ⟨vs, SqL.of (s3 _ _ (s2 _ _ k1)), by rw [enumD_len, k2.length]; exact Nat.le_refl _⟩⟩⟩
    rw [enumD_len] at hi
    obtain ⟨y, hy, ry⟩ := k2.get (List.getElem?_eq_getElem hi)
    have kx : SqL B.K H2 x vs := SqL.of (s3 _ _ (s2 _ _ k1))
    refine ⟨⟨vs, y, kx, hy⟩, fun z H3 hz => ?_⟩
    obtain ⟨T, y', rfl, hT, rfl, hall⟩ := hz
    obtain rfl : y = y' := Option.some.inj (hy.symm.trans (hall vs kx))
    refine ⟨_, Grow.tup s3 hT (.tup [.int (i : Nat), y]), _, by rw [enumD_get, List.getElem?_eq_getElem hi]; rfl, ?_⟩
    have sT : Same F2 (upd F2 T (.tup [.int (i : Nat), y])) := same_upd (s3.free hT)
    exact ⟨T, [.int (i : Nat), y], rfl, .inl (.inl upd_same), RpL.cons (d := .int _) (by simp; rfl) (RpL.cons (Rp.mono (s2.trans sT) _ _ ry) RpL.nil)⟩
  · cases e2
def zipD : List D → List D → List D
  | d :: ds, e :: es => .tup [d, e] :: zipD ds es
  | _, _ => []
theorem zipD_get : ∀ (ds es : List D) (i : Nat), (zipD ds es)[i]? = (ds[i]?).bind fun d => (es[i]?).map fun e => .tup [d, e]
  | [], es, i => by simp [zipD]
  | d :: ds, [], i => by simp [zipD]
  | d :: ds, e :: es, 0 => by simp [zipD]
  | d :: ds, e :: es, i + 1 => by
    show (zipD ds es)[i]? = _
    rw [zipD_get ds es i]
    simp
theorem zipD_len : ∀ (ds es : List D), (zipD ds es).length = min ds.length es.length
  | [], es => by simp [zipD]
  | d :: ds, [] => by simp [zipD]
  | d :: ds, e :: es => by
    show (zipD ds es).length + 1 = _
    rw [zipD_len ds es]
    simp
def iZp (m m' : XO) : XI := fun g => (m g).bind fun p => (m' p.2).bind fun q => match p.1, q.1 with
  | .d (.lst ds), .d (.lst es) => some (zipD ds es, q.2)
  | .d (.tup ds), .d (.tup es) => some (zipD ds es, q.2)
  | _, _ => none
theorem si_zp {t u : TE} {m m' : XO} (h : SO B t m) (h' : SO B u m') : SI B (RZ.iZipA B.K (tCons t (tCons u tNil))) (iZp m m') := by
  intro F H σ g τ ds g' r e R q
  obtain ⟨⟨a, g1⟩, e1, e2⟩ := Option.bind_eq_some_iff.mp e
  obtain ⟨⟨b, g2⟩, e3, e4⟩ := Option.bind_eq_some_iff.mp e2
  refine h F H σ g τ a g1 r e1 _ fun F1 H1 v s1 r1 ok => ?_
  refine h' F1 H1 σ g1 τ b g2 r1 e3 _ fun F2 H2 w s2 r2 ok2 => ?_
  have ok1 := ok.mono s2
  have fin : ∀ {x y : Addr} {vs ws : List V} {ds es : List D} (i : Nat) (F3 H3 : Hp), Same F2 F3 → Same F3 H3 → RpL B.K F2 vs ds → RpL B.K F2 ws es → i < (zipD ds es).length →
      ∃ (p q : V), vs[i]? = some p ∧ ws[i]? = some q ∧ ∀ (T : Addr) (H4 : Hp), H3 T = none → H4 = upd H3 T (.tup [p, q]) → ∃ F4, Grow F3 H3 F4 H4 ∧ ∃ d, (zipD ds es)[i]? = some d ∧ Rp B.K F4 (.ref T) d := by
    intro x y vs ws ds es i F3 H3 s3 s4 k1 k2 hi
    rw [zipD_len] at hi
    have hi1 : i < ds.length := Nat.lt_of_lt_of_le hi (Nat.min_le_left ..)
    have hi2 : i < es.length := Nat.lt_of_lt_of_le hi (Nat.min_le_right ..)
    obtain ⟨p, hp, rp⟩ := k1.get (List.getElem?_eq_getElem hi1)
    obtain ⟨z, hz, rz⟩ := k2.get (List.getElem?_eq_getElem hi2)
    refine ⟨p, z, hp, hz, fun T H4 hT e4 => ?_⟩
    subst e4
    have sT : Same F3 (upd F3 T (.tup [p, z])) := same_upd (s4.free hT)
    exact ⟨_, Grow.tup s4 hT (.tup [p, z]), .tup [ds[i], es[i]], by rw [zipD_get, List.getElem?_eq_getElem hi1, List.getElem?_eq_getElem hi2]; rfl,
      show Rp B.K _ (.ref T) (.tup [ds[i], es[i]]) from ⟨T, [p, z], rfl, .inl (.inl upd_same), RpL.cons (Rp.mono (s3.trans sT) _ _ rp) (RpL.cons (Rp.mono (s3.trans sT) _ _ rz) RpL.nil)⟩⟩
  have stop : ∀ {vs ws : List V} {ds es : List D}, RpL B.K F2 vs ds → RpL B.K F2 ws es → vs.length ≤ (zipD ds es).length ∨ ws.length ≤ (zipD ds es).length := by
    intro vs ws ds es k1 k2
    rw [zipD_len, k1.length, k2.length]
    omega
  dsimp only at e4
  split at e4
  · rename_i d1 d2
    cases e4
    obtain ⟨x, vs, rfl, k1, k2⟩ := ok1
    obtain ⟨y, ws, rfl, k3, k4⟩ := ok2
    refine ⟨x, y, vs, ws, rfl, .inl ⟨SqL.of (r2.sub _ _ k1), SqL.of (r2.sub _ _ k3), q F2 H2 _ (s1.trans s2) r2 ⟨fun i F3 H3 s3 s4 hi => ?_, fun F3 H3 s3 s4 => ⟨vs, ws, SqL.of (s4 _ _ (s3 _ _ k1)), SqL.of (s4 _ _ (s3 _ _ k3)), stop k2 k4⟩⟩⟩⟩
    obtain ⟨p, z, hp, hz, fn⟩ := fin (x := x) (y := y) i F3 H3 s3 s4 k2 k4 hi
    have kx : SqL B.K H3 x vs := SqL.of (s4 _ _ (s3 _ _ k1))
    have ky : SqL B.K H3 y ws := SqL.of (s4 _ _ (s3 _ _ k3))
    refine ⟨⟨vs, ws, p, z, kx, ky, hp, hz⟩, fun u H4 hu => ?_⟩
    obtain ⟨T, p', z', rfl, hT, e5, h6, h7⟩ := hu
    obtain rfl : p = p' := Option.some.inj (hp.symm.trans (h6 vs kx))
    obtain rfl : z = z' := Option.some.inj (hz.symm.trans (h7 ws ky))
    exact fn T H4 hT e5
  · rename_i d1 d2
    cases e4
    obtain ⟨x, vs, rfl, k1, k2⟩ := ok1
    obtain ⟨y, ws, rfl, k3, k4⟩ := ok2
    refine ⟨x, y, vs, ws, rfl, .inr ⟨Same.sqT r2.sub k1, Same.sqT r2.sub k3, q F2 H2 _ (s1.trans s2) r2 ⟨fun i F3 H3 s3 s4 hi => ?_, fun F3 H3 s3 s4 => ⟨vs, ws, Same.sqT s4 (Same.sqT s3 k1), Same.sqT s4 (Same.sqT s3 k3), stop k2 k4⟩⟩⟩⟩
    obtain ⟨p, z, hp, hz, fn⟩ := fin (x := x) (y := y) i F3 H3 s3 s4 k2 k4 hi
    have kx : SqT B.K H3 x vs := Same.sqT s4 (Same.sqT s3 k1)
    have ky : SqT B.K H3 y ws := Same.sqT s4 (Same.sqT s3 k3)
    refine ⟨⟨vs, ws, p, z, kx, ky, hp, hz⟩, fun u H4 hu => ?_⟩
    obtain ⟨T, p', z', rfl, hT, e5, h6, h7⟩ := hu
    obtain rfl : p = p' := Option.some.inj (hp.symm.trans (h6 vs kx))
    obtain rfl : z = z' := Option.some.inj (hz.symm.trans (h7 ws ky))
    exact fn T H4 hT e5
  · cases e4
/-! ### all, any -/
def blsD : List D → Option (List Bool)
  | [] => some []
  | .bl b :: r => (blsD r).map fun bs => b :: bs
  | _ :: _ => none
theorem blsD_ok {H : Hp} : ∀ {ds : List D} {vs : List V} {bs : List Bool}, RpL K H vs ds → blsD ds = some bs → vs = bs.map V.bl
  | [], vs, bs, h, e => by
    cases e
    exact h
  | .bl b :: ds, vs, bs, h, e => by
    obtain ⟨v, r, rfl, h1, h2⟩ := h
    obtain ⟨bs', e1, rfl⟩ := Option.map_eq_some_iff.mp e
    rw [blsD_ok h2 e1]
    obtain rfl : v = .bl b := h1
    rfl
  | .non :: _, _, _, _, e => by cases e
  | .int _ :: _, _, _, _, e => by cases e
  | .str _ :: _, _, _, _, e => by cases e
  | .tup _ :: _, _, _, _, e => by cases e
  | .lst _ :: _, _, _, _, e => by cases e
  | .dK _ _ :: _, _, _, _, e => by cases e
  | .dT _ _ :: _, _, _, _, e => by cases e
  | .scr _ :: _, _, _, _, e => by cases e
  | .ob _ _ _ :: _, _, _, _, e => by cases e
@[simp] theorem blsD_bls : ∀ bs : List Bool, blsD (bs.map D.bl) = some bs
  | [] => rfl
  | n :: ns => by
    show (blsD (ns.map D.bl)).map _ = _
    rw [blsD_bls ns]
    rfl
def dAllB (ds : List D) : Option D := match ds with
  | [.lst es] => (blsD es).map fun bs => .bl (bs.all id)
  | _ => none
def dAnyB (ds : List D) : Option D := match ds with
  | [.lst es] => (blsD es).map fun bs => .bl (bs.any id)
  | _ => none
theorem sn_all : SN K (rAll K) dAllB := by
  intro H vs ds z h e
  unfold dAllB at e
  split at e
  · rename_i es
    obtain ⟨ns, e1, rfl⟩ := Option.map_eq_some_iff.mp e
    obtain ⟨v, rfl, a, ws, rfl, h1, h2⟩ := h.one
    rw [blsD_ok h2 e1] at h1
    exact ⟨_, rfl, fun Q q => ⟨a, ns, rfl, SqL.of h1, q⟩⟩
  · cases e
theorem sn_any : SN K (rAny K) dAnyB := by
  intro H vs ds z h e
  unfold dAnyB at e
  split at e
  · rename_i es
    obtain ⟨ns, e1, rfl⟩ := Option.map_eq_some_iff.mp e
    obtain ⟨v, rfl, a, ws, rfl, h1, h2⟩ := h.one
    rw [blsD_ok h2 e1] at h1
    exact ⟨_, rfl, fun Q q => ⟨a, ns, rfl, SqL.of h1, q⟩⟩
  · cases e
/-! ### x in a list or tuple of scalars -/
def toVs : List D → Option (List V)
  | [] => some []
  | d :: r => (toV d).bind fun v => (toVs r).map fun vs => v :: vs
theorem toV_eq {H : Hp} {v w : V} {d : D} (h : Rp K H v d) (e : toV d = some w) : v = w := by
  cases d with
  | non => cases e; exact h
  | bl b => cases e; exact h
  | int i => cases e; exact h
  | str s => cases e; exact h
  | tup _ => cases e
  | lst _ => cases e
  | dK _ _ => cases e
  | dT _ _ => cases e
  | scr _ => cases e
  | ob _ _ _ => cases e
theorem toVs_eq {H : Hp} : ∀ {ds : List D} {vs ws : List V}, RpL K H vs ds → toVs ds = some ws → vs = ws
  | [], vs, ws, h, e => by
    cases e
    exact h
  | d :: ds, vs, ws, h, e => by
    obtain ⟨v, r, rfl, h1, h2⟩ := h
    obtain ⟨w, e1, e2⟩ := Option.bind_eq_some_iff.mp e
    obtain ⟨ws', e3, rfl⟩ := Option.map_eq_some_iff.mp e2
    rw [toV_eq h1 e1, toVs_eq h2 e3]
theorem toV_flat {d : D} {v : V} (e : toV d = some v) : flatV v = true := by
  cases d <;> cases e <;> rfl
theorem toVs_flat : ∀ {ds : List D} {ws : List V}, toVs ds = some ws → ws.all flatV = true
  | [], ws, e => by
    cases e
    rfl
  | d :: ds, ws, e => by
    obtain ⟨w, e1, e2⟩ := Option.bind_eq_some_iff.mp e
    obtain ⟨ws', e3, rfl⟩ := Option.map_eq_some_iff.mp e2
    rw [List.all_cons, toV_flat e1, toVs_flat e3]
    rfl
def inD (d : D) (ds : List D) : Option Bool := (toV d).bind fun v => (toVs ds).map fun vs => inV v vs
def dIn (d e : D) : Option D := match e with
  | .tup ds => (inD d ds).map .bl
  | .lst ds => (inD d ds).map .bl
  | _ => none
def dNotIn (d e : D) : Option D := match e with
  | .tup ds => (inD d ds).map fun b => .bl (!b)
  | .lst ds => (inD d ds).map fun b => .bl (!b)
  | _ => none
theorem s2_inSeq : S2 K (rIn K false) dIn := by
  intro H x y d e z hx hy h
  unfold dIn at h
  split at h
  · rename_i ds
    obtain ⟨b, e1, rfl⟩ := Option.map_eq_some_iff.mp h
    obtain ⟨v, e2, e3⟩ := Option.bind_eq_some_iff.mp e1
    obtain ⟨vs, e4, rfl⟩ := Option.map_eq_some_iff.mp e3
    obtain ⟨a, ws, rfl, h1, h2⟩ := hy
    rw [toV_eq hx e2]
    rw [toVs_eq h2 e4] at h1
    exact ⟨_, rfl, fun Q q => ⟨a, vs, rfl, .inr h1, toV_flat e2, toVs_flat e4, q⟩⟩
  · rename_i ds
    obtain ⟨b, e1, rfl⟩ := Option.map_eq_some_iff.mp h
    obtain ⟨v, e2, e3⟩ := Option.bind_eq_some_iff.mp e1
    obtain ⟨vs, e4, rfl⟩ := Option.map_eq_some_iff.mp e3
    obtain ⟨a, ws, rfl, h1, h2⟩ := hy
    rw [toV_eq hx e2]
    rw [toVs_eq h2 e4] at h1
    exact ⟨_, rfl, fun Q q => ⟨a, vs, rfl, .inl (SqL.of h1), toV_flat e2, toVs_flat e4, q⟩⟩
  · cases h
theorem s2_notInSeq : S2 K (rIn K true) dNotIn := by
  intro H x y d e z hx hy h
  unfold dNotIn at h
  split at h
  · rename_i ds
    obtain ⟨b, e1, rfl⟩ := Option.map_eq_some_iff.mp h
    obtain ⟨v, e2, e3⟩ := Option.bind_eq_some_iff.mp e1
    obtain ⟨vs, e4, rfl⟩ := Option.map_eq_some_iff.mp e3
    obtain ⟨a, ws, rfl, h1, h2⟩ := hy
    rw [toV_eq hx e2]
    rw [toVs_eq h2 e4] at h1
    exact ⟨_, rfl, fun Q q => ⟨a, vs, rfl, .inr h1, toV_flat e2, toVs_flat e4, q⟩⟩
  · rename_i ds
    obtain ⟨b, e1, rfl⟩ := Option.map_eq_some_iff.mp h
    obtain ⟨v, e2, e3⟩ := Option.bind_eq_some_iff.mp e1
    obtain ⟨vs, e4, rfl⟩ := Option.map_eq_some_iff.mp e3
    obtain ⟨a, ws, rfl, h1, h2⟩ := hy
    rw [toV_eq hx e2]
    rw [toVs_eq h2 e4] at h1
    exact ⟨_, rfl, fun Q q => ⟨a, vs, rfl, .inl (SqL.of h1), toV_flat e2, toVs_flat e4, q⟩⟩
  · cases h
/-! ### tuples of the module -/
inductive TupV : List Value → List D → Prop where
  | nil : TupV [] []
  | cons {u : Value} {d : D} {v : V} {us : List Value} {ds : List D} (hv : toV d = some v) (hr : RelV v u) (r : TupV us ds) : TupV (u :: us) (d :: ds)
theorem TupV.vals {us : List Value} {ds : List D} (h : TupV us ds) : ∃ vs, Vals vs us ∧ ∀ F, RpL K F vs ds := by
  induction h with
  | nil => exact ⟨[], .nil, fun _ => RpL.nil⟩
  | @cons u d v us ds hv hr _ ih =>
    obtain ⟨vs, h1, h2⟩ := ih
    exact ⟨v :: vs, .cons hr h1, fun F => RpL.cons (toV_rp hv F) (h2 F)⟩
structure KTup (K : PySem.W.Frag) (mg : Str → Option Value) (x : Str) (ds : List D) where
  a : Addr
  g : mg x = some (.ref a)
  q : ∀ F, Rp K F (.ref a) (.tup ds)
theorem ktup_mk {K : PySem.W.Frag} {mg : Str → Option Value} {h : Heap} {x : Str} {ds : List D} {a : Addr} {its : Array Value} {n : Nat} {dd : Option Addr} {sl : Array (Option Value)} (X : K.In h) (G : h.Ns mainGlobals mg) (e : PySem.W.nsIn K mainGlobals x = some (some (.ref a)))
    (l : K.lookup a = some ⟨.type "tuple", dd, .seq its n, sl⟩) (hz : its.size ≤ sizeLine) (t : TupV its.toList ds) : Nonempty (KTup K mg x ds) := by
  obtain ⟨vs, h1, h2⟩ := t.vals (K := K)
  exact ⟨⟨a, PySem.W.mg_of X G e, fun F => ⟨a, vs, rfl, .inr ⟨_, its, n, l, rfl, rfl, hz, h1⟩, h2 F⟩⟩⟩
/-! ### methods of texts that give lists; lower -/
def dSplit1 (s : Str) (ds : List D) : Option O := match ds with
  | [.str b] => if (b.length == 0) = false ∧ s.length + 2 ≤ sizeLine then some (.lst (((Txt.split s b).map D.str).map O.fr)) else none
  | _ => none
theorem ma_split1 : MA K (fun x xs H Q => ∃ a b, x = V.str a ∧ xs = [V.str b] ∧ (b.length == 0) = false ∧ a.length + 2 ≤ sizeLine ∧ rNewStrs (Txt.split a b) H Q) dSplit1 := by
  intro F H s vs ds z sm h e Q q
  unfold dSplit1 at e
  split at e
  · rename_i b
    split at e
    · rename_i hc
      cases e
      obtain ⟨v, rfl, hv⟩ := h.one
      obtain rfl : v = .str b := hv
      exact ⟨s, b, rfl, rfl, hc.1, hc.2, fun p hp => made_li sm hp (rpL_strs _) q⟩
    · cases e
  · cases e
def dSplit2 (s : Str) (ds : List D) : Option O := match ds with
  | [.str b, .int k] => if (b.length == 0) = false ∧ (-(2 ^ 63) ≤ k ∧ k < 2 ^ 63) ∧ s.length + 2 ≤ sizeLine then some (.lst (((Txt.splitMax s b k).map D.str).map O.fr)) else none
  | _ => none
theorem ma_split2 : MA K (fun x xs H Q => ∃ (a b : Str) (k : Int), x = V.str a ∧ xs = [V.str b, V.int k] ∧ (b.length == 0) = false ∧ -(2 ^ 63) ≤ k ∧ k < 2 ^ 63 ∧ a.length + 2 ≤ sizeLine ∧ rNewStrs (Txt.splitMax a b k) H Q) dSplit2 := by
  intro F H s vs ds z sm h e Q q
  unfold dSplit2 at e
  split at e
  · rename_i b k
    split at e
    · rename_i hc
      cases e
      obtain ⟨v, v', rfl, hv, hv'⟩ := h.two
      obtain rfl : v = .str b := hv
      obtain rfl : v' = .int k := hv'
      exact ⟨s, b, k, rfl, rfl, hc.1, hc.2.1.1, hc.2.1.2, hc.2.2, fun p hp => made_li sm hp (rpL_strs _) q⟩
    · cases e
  · cases e
def szLow (s : Str) : Bool := decide (s.length ≤ 5592405)
theorem ms_lower : MS K (fun x xs H Q => ∃ a, x = V.str a ∧ xs = [] ∧ a.length ≤ 5592405 ∧ Q (.str (Txt.lower a)) H) (dM0 (fun s => .str (Txt.lower s)) szLow) := by
  intro H s vs ds z h e
  unfold dM0 at e
  split at e
  · split at e
    · rename_i hc
      cases e
      obtain rfl : vs = [] := h
      exact ⟨_, rfl, fun Q q => ⟨s, rfl, rfl, of_decide_eq_true hc, q⟩⟩
    · cases e
  · cases e
end
/-! ### at an open environment -/
section
variable {x : Option O} {g : G}
@[simp] theorem ev_iEn {m : XO} : iEn m (x :: g) = bd (m (x :: g)) fun p => match p.1 with
  | .d (.lst ds) => some (enumD 0 ds, p.2)
  | _ => none := (rfl)
@[simp] theorem ev_iZp {m m' : XO} : iZp m m' (x :: g) = bd (m (x :: g)) fun p => bd (m' p.2) fun q => match p.1, q.1 with
  | .d (.lst ds), .d (.lst es) => some (zipD ds es, q.2)
  | .d (.tup ds), .d (.tup es) => some (zipD ds es, q.2)
  | _, _ => none := (rfl)
@[simp] theorem ev_xRev {i : Nat} : xRev i (x :: g) = match (x :: g)[i]? with
  | some (some (.lst os)) => some (.fr .non, (x :: g).set i (some (.lst os.reverse)))
  | _ => none := (rfl)
@[simp] theorem dLsOrd_str {a : Str} : dLsOrd [.str a] = if a.cps.size ≤ sizeLine then some (.lst ((codesD a).map O.fr)) else none := (rfl)
@[simp] theorem dSumAc_lst {es : List D} : dSumAc [.lst es] = mp (intsD es) fun ns => .int (psum ns) := (rfl)
@[simp] theorem dAllB_lst {es : List D} : dAllB [.lst es] = mp (blsD es) fun bs => .bl (bs.all id) := (rfl)
@[simp] theorem dAnyB_lst {es : List D} : dAnyB [.lst es] = mp (blsD es) fun bs => .bl (bs.any id) := (rfl)
@[simp] theorem dIn_tup {d : D} {ds : List D} : dIn d (.tup ds) = mp (inD d ds) .bl := (rfl)
@[simp] theorem dIn_lst {d : D} {ds : List D} : dIn d (.lst ds) = mp (inD d ds) .bl := (rfl)
@[simp] theorem dNotIn_tup {d : D} {ds : List D} : dNotIn d (.tup ds) = mp (inD d ds) fun b => .bl (!b) := (rfl)
@[simp] theorem dNotIn_lst {d : D} {ds : List D} : dNotIn d (.lst ds) = mp (inD d ds) fun b => .bl (!b) := (rfl)
@[simp] theorem dSplit1_str {s b : Str} : dSplit1 s [.str b] = if (b.length == 0) = false ∧ s.length + 2 ≤ sizeLine then some (.lst (((Txt.split s b).map D.str).map O.fr)) else none := (rfl)
@[simp] theorem dSplit2_str {s b : Str} {k : Int} : dSplit2 s [.str b, .int k] = if (b.length == 0) = false ∧ (-(2 ^ 63) ≤ k ∧ k < 2 ^ 63) ∧ s.length + 2 ≤ sizeLine then some (.lst (((Txt.splitMax s b k).map D.str).map O.fr)) else none := (rfl)
end
end Mi

set_option Elab.async false
set_option linter.all false
set_option maxRecDepth 100000
set_option maxHeartbeats 1000000
/-! Mi26: try .. except C (no name). -/
namespace L2
open PySem PySem.Spec PyProof.Rows
theorem ps_try_onlyM {X : Cx} {x : Str} {c : Value} {body suite : List Stmt} {b₀ : Stmt} {np pos pos' : Pos} {tb : WX → TS} {ts : Addr → Obj → Value → Option Addr → List (Addr × Obj) → TS} {Wout : WX} (hs : X.stack = X.env :: X.outer) (hf : X.env.frame = some X.env.locals) (hc : Names X x c) (tk : Takes X Wout)
    (hb : ∀ (W : WX) (pn : List (Addr × Obj)) (xe : Value → Shared → Prop), Takes (X.tr pn xe) W → PassesOwn (model X.prog X.w) X.A X.env xe → PSs (X.tr pn xe) body (tb W))
    (hsu : ∀ (a : Addr) (oe : Obj) (cls : Value) (d : Option Addr) (pn : List (Addr × Obj)), Zc cls d oe → (∃ vs, oe.data = .fields vs) → PSs (X.suite a ((a, oe) :: pn)) (b₀ :: suite) (ts a oe cls d pn))
    (qs : ∀ a oe cls d pn, ts a oe cls d pn = ts a oeD cls d []) :
    PS X (.Try body [.ExceptHandler (some (.Name x np)) none (b₀ :: suite) pos'] [] [] pos) (fun D σ H => tb (wOnly X.K c (fun a cls d => ts a oeD cls d []) Wout D) D σ H) :=
  ps_try_only hs hf hc tk hb fun a oe cls d pn hz hf => (qs a oe cls d pn) ▸ hsu a oe cls d pn hz hf
end L2
namespace Mi
open PySem PySem.Spec PyProof.Rows L2
section
variable {B : Bs} {F F' H H' : Hp} {σ : L2.St} {g : G} {τ : En}
/-- try: body; except C0: h; no other error comes -/
def sTryO (body : XS) (C0 : Addr) (h : XS) : XS := fun g => (body g).bind fun x => match x with
  | .ex C ns ds g' => if C = C0 then h g' else none
  | .nx g' => some (.nx g')
  | .rt o g' => some (.rt o g')
  | .bk g' => some (.bk g')
  | .ct g' => some (.ct g')
theorem ss_tryO {c : Value} {tb : WX → TS} {ts : Addr → Value → Option Addr → TS} {body : XS} {C0 : Addr} {h : XS} {Wout : WX}
    (hm : PySem.W.exmOne B.K (.ref C0) c = some true)
    (hb : ∀ W : WX, SS { B with W := W } (tb W) body)
    (hh : ∀ (a d : Addr), SS B (ts a (.ref C0) (some d)) h) :
    SS B (fun D σ H => tb (wOnly B.K c ts Wout D) D σ H) (sTryO body C0 h) := by
  intro F H σ g τ out rl e D p
  obtain ⟨x, e1, e2⟩ := Option.bind_eq_some_iff.mp e
  have rl' : Rel { B with W := wOnly B.K c ts Wout D } F H σ g τ := ⟨rl.len, rl.cov, rl.sub, rl.f0, rl.keep, rl.new, rl.pins, rl.ent⟩
  have bk : ∀ {F H σ g τ}, Rel { B with W := wOnly B.K c ts Wout D } F H σ g τ → Rel B F H σ g τ := fun r => ⟨r.len, r.cov, r.sub, r.f0, r.keep, r.new, r.pins, r.ent⟩
  refine hb _ F H σ g τ x rl' e1 D ?_
  cases x with
  | nx g' => cases e2; exact fun F' H' σ' s r => p F' H' σ' s (bk r)
  | rt o g' => cases e2; exact fun F' H' σ' v s r => p F' H' σ' v s (bk r)
  | bk g' => cases e2; exact fun F' H' σ' s r => p F' H' σ' s (bk r)
  | ct g' => cases e2; exact fun F' H' σ' s r => p F' H' σ' s (bk r)
  | ex C ns ds g' =>
    intro F' H' σ' d ws s r hd hw
    have r := bk r
    dsimp only at e2
    split at e2
    · rename_i hc
      subst hc
      refine ⟨true, hm, fun _ a ha => ?_, fun z => by cases z⟩
      refine hh a d F' H' σ' g' τ out r e2 _ ?_
      cases out with
      | nx g2 => exact fun F2 H2 σ2 s2 r2 => p F2 H2 _ (s.trans s2) r2
      | rt o g2 => exact fun F2 H2 σ2 v s2 r2 => p F2 H2 _ v (s.trans s2) r2
      | bk g2 => exact fun F2 H2 σ2 s2 r2 => p F2 H2 _ (s.trans s2) r2
      | ct g2 => exact fun F2 H2 σ2 s2 r2 => p F2 H2 _ (s.trans s2) r2
      | ex C2 ns2 ds2 g2 => exact fun F2 H2 σ2 d2 ws2 s2 r2 => p F2 H2 _ d2 ws2 (s.trans s2) r2
    · cases e2
end
section
variable {x : Option O} {g : G}
@[simp] theorem ev_sTryO {body : XS} {C0 : Addr} {h : XS} : sTryO body C0 h (x :: g) = bd (body (x :: g)) fun y => match y with
  | .ex C ns ds g' => if C = C0 then h g' else none
  | .nx g' => some (.nx g')
  | .rt o g' => some (.rt o g')
  | .bk g' => some (.bk g')
  | .ct g' => some (.ct g') := (rfl)
end
end Mi
namespace Mi
open PySem PySem.Spec PyProof.Rows L2
section
variable {K : PySem.W.Frag} {mg : Str → Option Value}
/-- a def of the top by another name -/
structure FnAs (K : PySem.W.Frag) (mg : Str → Option Value) (x y : Str) (st : Stmt) (ps : List Str) where
  f : Addr
  fd : FuncData
  g : mg x = some (.ref f)
  F : Fun K y y st f fd
  b : Binds K fd ps []
theorem fnAs_mk {x y : Str} {st : Stmt} {ps : List Str} {h : Heap} (X : K.In h) (G : h.Ns mainGlobals mg) {f : Addr} {oc : Value} {od an : Option Addr} {osl : Array (Option Value)} {kV doc pm cdv ct : Value}
    (a : PySem.W.nsIn K mainGlobals x = some (some (.ref f)))
    (l : K.lookup f = some ⟨oc, od, .func (PySem.W.fnOf y y (defArgs st) (defBody st) (defScope st) .none kV doc pm an cdv ct), osl⟩)
    (c : PySem.W.codeIn K cdv y = true) (k : PySem.W.keepIn K (.ref f) = true)
    (hb : ∀ (kV doc pm : Value) (an : Option Addr) (cdv ct : Value) (us : List Value), us.length = ps.length → bindArgs (PySem.W.fnOf y y (defArgs st) (defBody st) (defScope st) .none kV doc pm an cdv ct) ⟨us, []⟩ = pure (ps.zip us)) :
    Nonempty (FnAs K mg x y st ps) := by
  have F := fun_mk (st := st) l c k
  exact ⟨⟨f, _, PySem.W.mg_of X G a, F, F.binds hb⟩⟩
end
end Mi

set_option Elab.async false
set_option linter.all false
set_option maxRecDepth 100000
/-! Mi27: further simp lemmas. -/
namespace Mi
open PySem PySem.Spec PyProof.Rows L2
section
variable {x : Option O} {g : G}
@[simp] theorem ev_xMA {f : Str → List D → Option O} {a : XO} {as : XA} : xMA f a as (x :: g) = bd (a (x :: g)) fun p => match p.1 with
  | .d (.str s) => bd (as p.2) fun q => bd (alld q.1) fun ds => mp (f s ds) fun z => (z, q.2)
  | _ => none := (rfl)
end
end Mi

set_option Elab.async false
set_option linter.all false
set_option maxRecDepth 100000
/-! Tw: split by one sign, at most k times, and split. -/
namespace Tx
open PySem PySem.Spec PyProof.Rows PySem.StrLaws PySem.Builtin.Str
open SX (S)
def hdc (y : Nat) : List (List Nat) → List (List Nat)
  | p :: ps => (y :: p) :: ps
  | [] => []
def spk (c : Nat) : Nat → List Nat → List (List Nat)
  | _, [] => [[]]
  | 0, y :: r => [y :: r]
  | k + 1, y :: r => if y = c then [] :: spk c k r else hdc y (spk c (k + 1) r)
theorem spk_zero (c : Nat) (l : List Nat) : spk c 0 l = [l] := by cases l <;> rfl
theorem spk_free {c : Nat} : ∀ {a : List Nat} {k : Nat}, c ∉ a → spk c k a = [a]
  | [], k, _ => by cases k <;> rfl
  | y :: a, 0, _ => rfl
  | y :: a, k + 1, h => by
    have h1 : ¬ y = c := fun z => h (z ▸ List.mem_cons_self ..)
    rw [spk, if_neg h1, spk_free (fun z => h (List.mem_cons_of_mem _ z))]
    rfl
theorem spk_cut {c : Nat} : ∀ {a r : List Nat} {k : Nat}, c ∉ a → spk c (k + 1) (a ++ c :: r) = a :: spk c k r
  | [], r, k, _ => by
    show spk c (k + 1) (c :: r) = _
    rw [spk, if_pos rfl]
  | y :: a, r, k, h => by
    have h1 : ¬ y = c := fun z => h (z ▸ List.mem_cons_self ..)
    show spk c (k + 1) (y :: (a ++ c :: r)) = _
    rw [spk, if_neg h1, spk_cut (fun z => h (List.mem_cons_of_mem _ z))]
    rfl
/-! the places of a sign -/
def ats (l : List Nat) (c : Nat) (a n : Nat) : List Nat := (List.range' a n).filter fun i => decide (l[i]? = some c)
theorem occ_run {l : List Nat} {c limit : Nat} : ∀ (n a : Nat) (found : Array Nat) (free : Nat), free ≤ a → a + n ≤ l.length + 1 →
    (forIn (List.range' a n) (found, free) (occBody (S l) (S [c]) l.length limit)).run.fst.toList = found.toList ++ (ats l c a n).take (limit - found.size)
  | 0, a, found, free, _, _ => by simp [ats]
  | n + 1, a, found, free, hf, hn => by
    have e : List.range' a (n + 1) = a :: List.range' (a + 1) n := rfl
    unfold ats
    rw [e, List.forIn_cons, List.filter_cons]
    unfold occBody
    by_cases hc : l[a]? = some c
    · have hat : a < l.length := by
        have := List.getElem?_eq_some_iff.mp hc
        exact this.1
      obtain ⟨k1, k2⟩ := (at_one (l := l) (c := c) (hi := l.length) (k := a) (Nat.le_refl _)).mpr ⟨hat, hc⟩
      rw [if_pos (decide_eq_true hc)]
      by_cases hl : found.size < limit
      · rw [if_pos ⟨⟨⟨hl, hf⟩, k1⟩, k2⟩]
        have ih := occ_run (l := l) (c := c) (limit := limit) n (a + 1) (found.push a) (a + (S [c]).length) (by rw [SX.S_len]; exact Nat.le_refl _) (by omega)
        refine ih.trans ?_
        obtain ⟨m, hm⟩ : ∃ m, limit - found.size = m + 1 := ⟨limit - found.size - 1, by omega⟩
        have hm2 : limit - (found.push a).size = m := by rw [Array.size_push]; omega
        rw [hm, hm2, List.take_succ_cons]
        simp [ats]
      · rw [if_neg (fun z => hl z.1.1.1)]
        have ih := occ_run (l := l) (c := c) (limit := limit) n (a + 1) found free (by omega) (by omega)
        refine ih.trans ?_
        have hz : limit - found.size = 0 := by omega
        rw [hz, List.take_zero, List.take_zero]
    · rw [if_neg (fun z => hc (of_decide_eq_true z))]
      rw [if_neg (fun z => hc ((at_one (l := l) (c := c) (hi := l.length) (k := a) (Nat.le_refl _)).mp ⟨z.1.2, z.2⟩).2)]
      exact occ_run n (a + 1) found free (by omega) (by omega)
theorem occ_ats {l : List Nat} {c limit : Nat} : occurrences (S l) (S [c]) 0 (S l).length limit = (ats l c 0 l.length).take limit := by
  rw [occ_eq, SX.S_len]
  have := occ_run (l := l) (c := c) (limit := limit) (l.length + 1) 0 #[] 0 (Nat.le_refl _) (by omega)
  rw [Nat.sub_zero]
  refine this.trans ?_
  · have e : ats l c 0 (l.length + 1) = ats l c 0 l.length := by
      unfold ats
      rw [List.range'_concat, List.filter_append]
      have : l[0 + 1 * l.length]? = none := by rw [List.getElem?_eq_none_iff]; omega
      simp
    rw [e]
    simp
/-! the parts -/
theorem sub_S {l : List Nat} {a b : Nat} : TL.tl (strSub (S l) a b) = (l.drop a).take (b - a) := TL.tl_strSub (S l) a b
theorem ats_cons {l : List Nat} {c a n : Nat} : ats l c a (n + 1) = if l[a]? = some c then a :: ats l c (a + 1) n else ats l c (a + 1) n := by
  unfold ats
  rw [show List.range' a (n + 1) = a :: List.range' (a + 1) n from rfl, List.filter_cons]
  by_cases h : l[a]? = some c
  · rw [if_pos (decide_eq_true h), if_pos h]
  · rw [if_neg (fun z => h (of_decide_eq_true z)), if_neg h]
theorem ats_ge {l : List Nat} {c a n x : Nat} (h : x ∈ ats l c a n) : a ≤ x := by
  unfold ats at h
  have := (List.mem_filter.mp h).1
  rw [List.mem_range'] at this
  obtain ⟨i, _, rfl⟩ := this
  omega
theorem parts_hd {l : List Nat} {a : Nat} {y : Nat} (hy : l[a]? = some y) (cuts : List Nat) (hc : ∀ x ∈ cuts, a + 1 ≤ x) : (partsFrom (S l) 1 a cuts).map TL.tl = hdc y ((partsFrom (S l) 1 (a + 1) cuts).map TL.tl) := by
  have hd : l.drop a = y :: l.drop (a + 1) := by
    obtain ⟨h1, h2⟩ := List.getElem?_eq_some_iff.mp hy
    rw [← h2]
    exact List.drop_eq_getElem_cons h1
  cases cuts with
  | nil =>
    show [TL.tl (strSub (S l) a (S l).length)] = [y :: TL.tl (strSub (S l) (a + 1) (S l).length)]
    rw [sub_S, sub_S, hd, SX.S_len]
    have hl := (List.getElem?_eq_some_iff.mp hy).1
    obtain ⟨m, hm⟩ : ∃ m, l.length - a = m + 1 := ⟨l.length - a - 1, by omega⟩
    rw [hm, List.take_succ_cons, show l.length - (a + 1) = m by omega]
  | cons x r =>
    show TL.tl (strSub (S l) a x) :: _ = (y :: TL.tl (strSub (S l) (a + 1) x)) :: _
    have := hc x (List.mem_cons_self ..)
    obtain ⟨m, hm⟩ : ∃ m, x - a = m + 1 := ⟨x - a - 1, by omega⟩
    rw [sub_S, sub_S, hd, hm, List.take_succ_cons, show x - (a + 1) = m by omega]
theorem parts_spk {l : List Nat} {c : Nat} : ∀ (n a k : Nat), a + n = l.length → (partsFrom (S l) 1 a ((ats l c a n).take k)).map TL.tl = spk c k (l.drop a)
  | 0, a, k, h => by
    have : l.drop a = [] := List.drop_eq_nil_of_le (by omega)
    rw [this]
    have e : ats l c a 0 = [] := rfl
    rw [e, List.take_nil]
    show [TL.tl (strSub (S l) a (S l).length)] = _
    rw [sub_S, this, List.take_nil]
    cases k <;> rfl
  | n + 1, a, 0, h => by
    rw [List.take_zero, spk_zero]
    show [TL.tl (strSub (S l) a (S l).length)] = _
    rw [sub_S, SX.S_len, List.take_of_length_le (by rw [List.length_drop]; omega)]
  | n + 1, a, k + 1, h => by
    have hl : a < l.length := by omega
    have hd : l.drop a = l[a] :: l.drop (a + 1) := List.drop_eq_getElem_cons hl
    rw [hd, ats_cons]
    by_cases hc : l[a] = c
    · rw [if_pos (by rw [List.getElem?_eq_getElem hl, hc]), List.take_succ_cons, spk, if_pos hc]
      show TL.tl (strSub (S l) a a) :: (partsFrom (S l) 1 (a + 1) _).map TL.tl = _
      rw [sub_S, Nat.sub_self, List.take_zero, parts_spk n (a + 1) k (by omega)]
    · rw [if_neg (by rw [List.getElem?_eq_getElem hl]; intro z; exact hc (Option.some.inj z)), spk, if_neg hc, ← parts_spk n (a + 1) (k + 1) (by omega)]
      exact parts_hd (List.getElem?_eq_getElem hl) _ fun x hx => ats_ge (List.mem_of_mem_take hx)
theorem map_S_tl (ps : List Str) : (ps.map TL.tl).map S = ps := by
  rw [List.map_map]
  have : (S ∘ TL.tl) = id := funext fun x => TL.mk_tl x
  rw [this, List.map_id]
theorem splitMax_S {l : List Nat} {c k : Nat} (hc : c < 256) : Txt.splitMax (S l) (S [c]) (k : Int) = (spk c k l).map S := by
  have hk : ¬ Builtin.Str.strKind (S l) < Builtin.Str.strKind (S [c]) := TL.kind_ok (by simp [S]; exact hc)
  have hlim : limitOf (S l) (k : Int) = k := by
    unfold limitOf
    rw [if_neg (by omega)]
    simp
  have key := parts_spk (l := l) (c := c) l.length 0 k (by omega)
  rw [List.drop_zero] at key
  unfold Txt.splitMax
  rw [hlim, occ_ats]
  by_cases h1 : (decide ((S l).length < (S [c]).length) || decide (Builtin.Str.strKind (S l) < Builtin.Str.strKind (S [c]))) = true
  · rw [if_pos h1]
    have hlt : l = [] := by
      simp only [Bool.or_eq_true, decide_eq_true_eq] at h1
      rcases h1 with h | h
      · rw [SX.S_len, SX.S_len] at h
        exact List.length_eq_zero_iff.mp (by simpa using h)
      · exact absurd h hk
    subst hlt
    cases k <;> rfl
  · rw [if_neg h1]
    by_cases h2 : ((ats l c 0 l.length).take k).isEmpty = true
    · rw [if_pos h2]
      rw [List.isEmpty_iff.mp h2] at key
      rw [← key]
      show [S l] = [S (TL.tl (strSub (S l) 0 (S l).length))]
      rw [sub_S, List.drop_zero, SX.S_len, Nat.sub_zero, List.take_length]
    · rw [if_neg h2, partsBetween_eq, ← key]
      exact (map_S_tl _).symm
theorem split_S {l : List Nat} {c : Nat} (hc : c < 256) : Txt.split (S l) (S [c]) = (TL.spl [c] 0 [] l).map S := by
  have hk : ¬ Builtin.Str.strKind (S l) < Builtin.Str.strKind (S [c]) := TL.kind_ok (by simp [S]; exact hc)
  have := TL.split_spl (S l) (S [c]) (List.cons_ne_nil _ _) hk
  rw [← map_S_tl (Txt.split (S l) (S [c])), this]
end Tx

set_option Elab.async false
set_option linter.all false
set_option maxRecDepth 100000
set_option maxHeartbeats 4000000
namespace K39
open PySem PySem.Spec PyProof.Rows L2 Mi Lw
def topS (i : Nat) : Stmt := PySem.Challenge.pw_evenflow_k39_journal_chained.main.body.getD i (.Pass ⟨0, 0, 0, 0⟩)
abbrev s_is_name_fforms : Stmt := topS 7
abbrev N_is_name_fforms : List Str := ["thing"]
theorem sc_is_name_fforms : FnScope N_is_name_fforms ["thing"] (defScope s_is_name_fforms) := ⟨rfl, rfl, rfl, by decide +kernel, rfl, by decide +kernel, by decide +kernel⟩
def b_is_name_fforms : XS :=
  (sSeq (sIf (xOr (xNot (xTru (oE (xIsi isStr (oVar 0))))) (xNot (xB (oE (xChain dLe dLe (oE (eC (.int 1))) (oE (xSN dLen (aCons (oVar 0) aNil))) (oE (eC (.int 12)))))))) (sRet (eC (.bl false))) sNext)
    (sRet (xAndV (oE (xMS0 (dM0 (fun s => .bl (PySem.Txt.isascii s)) any1) (oE (eVar 0)))) (xAndV (oE (xMS0 (dM0 (fun s => .bl (PySem.Txt.isalnum s)) any1) (oE (eVar 0)))) (xAndV (oE (xMS0 (dM0 (fun s => .bl (PySem.Txt.isalpha s)) any1) (oE (xIx dIx oIx (oVar 0) (oE (eC (.int 0))))))) (xS2 dEq (oVar 0) (oE (xMS0 (dM0 (fun s => .str (PySem.Txt.lower s)) szLow) (oE (eVar 0))))))))))
def m_is_name_fforms : List O → Option (O × List O) := runF 1 1 [0] b_is_name_fforms
theorem m_len_is_name_fforms {os : List O} {r : O × List O} (e : m_is_name_fforms os = some r) : os.length = 1 ∧ r.2.length = 1 := runF_len e
abbrev s_is_count : Stmt := topS 9
abbrev N_is_count : List Str := ["thing"]
theorem sc_is_count : FnScope N_is_count ["thing"] (defScope s_is_count) := ⟨rfl, rfl, rfl, by decide +kernel, rfl, by decide +kernel, by decide +kernel⟩
def b_is_count : XS :=
  (sRet (xAndV (oE (xIsi isInt (oVar 0))) (xAndV (oE (xNotV (oE (xIsi isBool (oVar 0))))) (xS2 dGe (oVar 0) (oE (eC (.int 0)))))))
def m_is_count : List O → Option (O × List O) := runF 1 1 [0] b_is_count
theorem m_len_is_count {os : List O} {r : O × List O} (e : m_is_count os = some r) : os.length = 1 ∧ r.2.length = 1 := runF_len e
abbrev s_is_number_aforms : Stmt := topS 12
abbrev N_is_number_aforms : List Str := ["thing"]
theorem sc_is_number_aforms : FnScope N_is_number_aforms ["thing"] (defScope s_is_number_aforms) := ⟨rfl, rfl, rfl, by decide +kernel, rfl, by decide +kernel, by decide +kernel⟩
def b_is_number_aforms : XS :=
  (sRet (xAndV (oE (xIsi isInt (oVar 0))) (xNotV (oE (xIsi isBool (oVar 0))))))
def m_is_number_aforms : List O → Option (O × List O) := runF 1 1 [0] b_is_number_aforms
theorem m_len_is_number_aforms {os : List O} {r : O × List O} (e : m_is_number_aforms os = some r) : os.length = 1 ∧ r.2.length = 1 := runF_len e
abbrev s_is_name_aforms : Stmt := topS 14
abbrev N_is_name_aforms : List Str := ["thing"]
theorem sc_is_name_aforms : FnScope N_is_name_aforms ["thing"] (defScope s_is_name_aforms) := ⟨rfl, rfl, rfl, by decide +kernel, rfl, by decide +kernel, by decide +kernel⟩
def b_is_name_aforms : XS :=
  (sSeq (sIf (xOr (xNot (xTru (oE (xIsi isStr (oVar 0))))) (xNot (xB (oE (xChain dLe dLe (oE (eC (.int 1))) (oE (xSN dLen (aCons (oVar 0) aNil))) (oE (eC (.int 12)))))))) (sRet (eC (.bl false))) sNext)
    (sRet (xAndV (oE (xMS0 (dM0 (fun s => .bl (PySem.Txt.isascii s)) any1) (oE (eVar 0)))) (xAndV (oE (xMS0 (dM0 (fun s => .bl (PySem.Txt.isalnum s)) any1) (oE (eVar 0)))) (xAndV (oE (xS2 dEq (oVar 0) (oE (xMS0 (dM0 (fun s => .str (PySem.Txt.lower s)) szLow) (oE (eVar 0)))))) (xMS0 (dM0 (fun s => .bl (PySem.Txt.isalpha s)) any1) (oE (xIx dIx oIx (oVar 0) (oE (eC (.int 0)))))))))))
def m_is_name_aforms : List O → Option (O × List O) := runF 1 1 [0] b_is_name_aforms
theorem m_len_is_name_aforms {os : List O} {r : O × List O} (e : m_is_name_aforms os = some r) : os.length = 1 ∧ r.2.length = 1 := runF_len e
abbrev s_is_rising_aforms : Stmt := topS 16
abbrev N_is_rising_aforms : List Str := ["row", "one", "other"]
theorem sc_is_rising_aforms : FnScope N_is_rising_aforms ["row"] (defScope s_is_rising_aforms) := ⟨rfl, rfl, rfl, by decide +kernel, rfl, by decide +kernel, by decide +kernel⟩
def b_is_rising_aforms : XS :=
  (sRet (xSN dAllB (aCons (oE (eLc (iZp (oE (eVar 0)) (oE (xSl (oE (eVar 0)) (pEx (oE (eC (.int 1)))) pNo))) (gTp 2 (gsCons (gN 1) (gsCons (gN 2) gsNil))) xYes (xS2 dLt (oVar 1) (oVar 2)) [1, 2])) aNil)))
def m_is_rising_aforms : List O → Option (O × List O) := runF 3 1 [0] b_is_rising_aforms
theorem m_len_is_rising_aforms {os : List O} {r : O × List O} (e : m_is_rising_aforms os = some r) : os.length = 1 ∧ r.2.length = 1 := runF_len e
abbrev s_are_names : Stmt := topS 18
abbrev N_are_names : List Str := ["thing", "name"]
theorem sc_are_names : FnScope N_are_names ["thing"] (defScope s_are_names) := ⟨rfl, rfl, rfl, by decide +kernel, rfl, by decide +kernel, by decide +kernel⟩
def b_are_names : XS :=
  (sRet (xAndV (oE (xIsi isTup (oVar 0))) (xAndV (oE (xSN dAllB (aCons (oE (eLc (iSeq (oE (eVar 0))) (gN 1) xYes (xCall m_is_name_aforms (aCons (oVar 1) aNil)) [1])) aNil))) (xCall m_is_rising_aforms (aCons (oVar 0) aNil)))))
def m_are_names : List O → Option (O × List O) := runF 2 1 [0] b_are_names
theorem m_len_are_names {os : List O} {r : O × List O} (e : m_are_names os = some r) : os.length = 1 ∧ r.2.length = 1 := runF_len e
abbrev s_is_ratio : Stmt := topS 22
abbrev N_is_ratio : List Str := ["thing", "a", "b"]
theorem sc_is_ratio : FnScope N_is_ratio ["thing"] (defScope s_is_ratio) := ⟨rfl, rfl, rfl, by decide +kernel, rfl, by decide +kernel, by decide +kernel⟩
def b_is_ratio : XS :=
  (sSeq (sIf (xOr (xNot (xTru (oE (xIsi isTup (oVar 0))))) (xB (oE (xS2 dNe (oE (xSN dLen (aCons (oVar 0) aNil))) (oE (eC (.int 2))))))) (sRet (eC (.bl false))) sNext)
    (sSeq (sAsg (eVar 0) (gTlm 2 (gsCons (gN 1) (gsCons (gN 2) gsNil))))
    (sRet (xAndV (oE (xCall m_is_number_aforms (aCons (oVar 1) aNil))) (xAndV (oE (xCall m_is_number_aforms (aCons (oVar 2) aNil))) (xAndV (oE (xS2 dGe (oVar 2) (oE (eC (.int 1))))) (xS2 dEq (oE (xSN dGcd (aCons (oVar 1) (aCons (oVar 2) aNil)))) (oE (eC (.int 1))))))))))
def m_is_ratio : List O → Option (O × List O) := runF 3 1 [0] b_is_ratio
theorem m_len_is_ratio {os : List O} {r : O × List O} (e : m_is_ratio os = some r) : os.length = 1 ∧ r.2.length = 1 := runF_len e
abbrev s_is_typed : Stmt := topS 23
abbrev N_is_typed : List Str := ["thing"]
theorem sc_is_typed : FnScope N_is_typed ["thing"] (defScope s_is_typed) := ⟨rfl, rfl, rfl, by decide +kernel, rfl, by decide +kernel, by decide +kernel⟩
def b_is_typed : XS :=
  (sRet (xAndV (oE (xCall m_is_ratio (aCons (oVar 0) aNil))) (xAndV (oE (xS2 dLe (oE (xSN dAbs (aCons (oE (xIx dIx oIx (oVar 0) (oE (eC (.int 0))))) aNil))) (oE (eC (.int 1000000))))) (xS2 dLe (oE (xIx dIx oIx (oVar 0) (oE (eC (.int 1))))) (oE (eC (.int 1000)))))))
def m_is_typed : List O → Option (O × List O) := runF 1 1 [0] b_is_typed
theorem m_len_is_typed {os : List O} {r : O × List O} (e : m_is_typed os = some r) : os.length = 1 ∧ r.2.length = 1 := runF_len e
abbrev s_is_wire_nets : Stmt := topS 27
abbrev N_is_wire_nets : List Str := ["thing", "places"]
theorem sc_is_wire_nets : FnScope N_is_wire_nets ["thing", "places"] (defScope s_is_wire_nets) := ⟨rfl, rfl, rfl, by decide +kernel, rfl, by decide +kernel, by decide +kernel⟩
def b_is_wire_nets : XS :=
  (sSeq (sIf (xOr (xNot (xTru (oE (xIsi isTup (oVar 0))))) (xOr (xB (oE (xS2 dNe (oE (xSN dLen (aCons (oVar 0) aNil))) (oE (eC (.int 4)))))) (xNot (xTru (oE (xCall m_is_name_aforms (aCons (oE (xIx dIx oIx (oVar 0) (oE (eC (.int 0))))) aNil))))))) (sRet (eC (.bl false))) sNext)
    (sSeq (sIf (xOr (xB (oE (xS2 dNotIn (oE (xIx dIx oIx (oVar 0) (oE (eC (.int 1))))) (oVar 1)))) (xOr (xB (oE (xS2 dNotIn (oE (xIx dIx oIx (oVar 0) (oE (eC (.int 2))))) (oVar 1)))) (xB (oE (xS2 dEq (oE (xIx dIx oIx (oVar 0) (oE (eC (.int 1))))) (oE (xIx dIx oIx (oVar 0) (oE (eC (.int 2)))))))))) (sRet (eC (.bl false))) sNext)
    (sRet (xAndV (oE (xCall m_is_typed (aCons (oE (xIx dIx oIx (oVar 0) (oE (eC (.int 3))))) aNil))) (xS2 dGt (oE (xIx dIx oIx (oE (xIx dIx oIx (oVar 0) (oE (eC (.int 3))))) (oE (eC (.int 0))))) (oE (eC (.int 0))))))))
def m_is_wire_nets : List O → Option (O × List O) := runF 2 2 [0, 1] b_is_wire_nets
theorem m_len_is_wire_nets {os : List O} {r : O × List O} (e : m_is_wire_nets os = some r) : os.length = 2 ∧ r.2.length = 2 := runF_len e
abbrev s_is_network : Stmt := topS 29
abbrev N_is_network : List Str := ["thing", "places", "wires", "wire"]
theorem sc_is_network : FnScope N_is_network ["thing"] (defScope s_is_network) := ⟨rfl, rfl, rfl, by decide +kernel, rfl, by decide +kernel, by decide +kernel⟩
def b_is_network : XS :=
  (sSeq (sIf (xOr (xNot (xTru (oE (xIsi isTup (oVar 0))))) (xOr (xB (oE (xS2 dNe (oE (xSN dLen (aCons (oVar 0) aNil))) (oE (eC (.int 3)))))) (xB (oE (xS2 dNe (oE (xIx dIx oIx (oVar 0) (oE (eC (.int 0))))) (oE (eC (.str (PySem.Str.ofString "network"))))))))) (sRet (eC (.bl false))) sNext)
    (sSeq (sAsg (xTup (aCons (oE (xIx dIx oIx (oVar 0) (oE (eC (.int 1))))) (aCons (oE (xIx dIx oIx (oVar 0) (oE (eC (.int 2))))) aNil))) (gTlm 2 (gsCons (gN 1) (gsCons (gN 2) gsNil))))
    (sSeq (sIf (xOr (xNot (xTru (oE (xCall m_are_names (aCons (oVar 1) aNil))))) (xNot (xB (oE (xChain dLe dLe (oE (eC (.int 1))) (oE (xSN dLen (aCons (oVar 1) aNil))) (oE (eC (.int 24)))))))) (sRet (eC (.bl false))) sNext)
    (sSeq (sIf (xOr (xNot (xTru (oE (xIsi isTup (oVar 2))))) (xB (oE (xS2 dGt (oE (xSN dLen (aCons (oVar 2) aNil))) (oE (eC (.int 60))))))) (sRet (eC (.bl false))) sNext)
    (sRet (xAndV (oE (xSN dAllB (aCons (oE (eLc (iSeq (oE (eVar 2))) (gN 3) xYes (xCall m_is_wire_nets (aCons (oVar 3) (aCons (oVar 1) aNil))) [3])) aNil))) (xCall m_is_rising_aforms (aCons (oE (eLc (iSeq (oE (eVar 2))) (gN 3) xYes (xIx dIx oIx (oVar 3) (oE (eC (.int 0)))) [3])) aNil))))))))
def m_is_network : List O → Option (O × List O) := runF 4 1 [0] b_is_network
theorem m_len_is_network {os : List O} {r : O × List O} (e : m_is_network os = some r) : os.length = 1 ∧ r.2.length = 1 := runF_len e
abbrev s_is_name_enames : Stmt := topS 31
abbrev N_is_name_enames : List Str := ["thing"]
theorem sc_is_name_enames : FnScope N_is_name_enames ["thing"] (defScope s_is_name_enames) := ⟨rfl, rfl, rfl, by decide +kernel, rfl, by decide +kernel, by decide +kernel⟩
def b_is_name_enames : XS :=
  (sSeq (sIf (xOr (xNot (xTru (oE (xIsi isStr (oVar 0))))) (xNot (xB (oE (xChain dLe dLe (oE (eC (.int 1))) (oE (xSN dLen (aCons (oVar 0) aNil))) (oE (eC (.int 12)))))))) (sRet (eC (.bl false))) sNext)
    (sRet (xAndV (oE (xMS0 (dM0 (fun s => .bl (PySem.Txt.isascii s)) any1) (oE (eVar 0)))) (xAndV (oE (xMS0 (dM0 (fun s => .bl (PySem.Txt.isalnum s)) any1) (oE (eVar 0)))) (xAndV (oE (xS2 dEq (oVar 0) (oE (xMS0 (dM0 (fun s => .str (PySem.Txt.lower s)) szLow) (oE (eVar 0)))))) (xMS0 (dM0 (fun s => .bl (PySem.Txt.isalpha s)) any1) (oE (xIx dIx oIx (oVar 0) (oE (eC (.int 0)))))))))))
def m_is_name_enames : List O → Option (O × List O) := runF 1 1 [0] b_is_name_enames
theorem m_len_is_name_enames {os : List O} {r : O × List O} (e : m_is_name_enames os = some r) : os.length = 1 ∧ r.2.length = 1 := runF_len e
abbrev s_is_number_enames : Stmt := topS 33
abbrev N_is_number_enames : List Str := ["thing", "least", "most"]
theorem sc_is_number_enames : FnScope N_is_number_enames ["thing", "least", "most"] (defScope s_is_number_enames) := ⟨rfl, rfl, rfl, by decide +kernel, rfl, by decide +kernel, by decide +kernel⟩
def b_is_number_enames : XS :=
  (sRet (xAndV (oE (xIsi isInt (oVar 0))) (xAndV (oE (xNotV (oE (xIsi isBool (oVar 0))))) (xChain dLe dLe (oVar 1) (oVar 0) (oVar 2)))))
def m_is_number_enames : List O → Option (O × List O) := runF 3 3 [0, 1, 2] b_is_number_enames
theorem m_len_is_number_enames {os : List O} {r : O × List O} (e : m_is_number_enames os = some r) : os.length = 3 ∧ r.2.length = 3 := runF_len e
abbrev s_is_rising_enames : Stmt := topS 35
abbrev N_is_rising_enames : List Str := ["members", "one", "other"]
theorem sc_is_rising_enames : FnScope N_is_rising_enames ["members"] (defScope s_is_rising_enames) := ⟨rfl, rfl, rfl, by decide +kernel, rfl, by decide +kernel, by decide +kernel⟩
def b_is_rising_enames : XS :=
  (sRet (xSN dAllB (aCons (oE (eLc (iZp (oE (eVar 0)) (oE (xSl (oE (eVar 0)) (pEx (oE (eC (.int 1)))) pNo))) (gTp 2 (gsCons (gN 1) (gsCons (gN 2) gsNil))) xYes (xS2 dLt (oVar 1) (oVar 2)) [1, 2])) aNil)))
def m_is_rising_enames : List O → Option (O × List O) := runF 3 1 [0] b_is_rising_enames
theorem m_len_is_rising_enames {os : List O} {r : O × List O} (e : m_is_rising_enames os = some r) : os.length = 1 ∧ r.2.length = 1 := runF_len e
abbrev s_is_rows : Stmt := topS 37
abbrev N_is_rows : List Str := ["thing", "least", "most", "row"]
theorem sc_is_rows : FnScope N_is_rows ["thing", "least", "most"] (defScope s_is_rows) := ⟨rfl, rfl, rfl, by decide +kernel, rfl, by decide +kernel, by decide +kernel⟩
def b_is_rows_1 : XS :=
  (sSeq (sIf (xOr (xNot (xTru (oE (xIsi isTup (oVar 3))))) (xB (oE (xS2 dNe (oE (xSN dLen (aCons (oVar 3) aNil))) (oE (eC (.int 2))))))) (sRet (eC (.bl false))) sNext)
    (sIf (xOr (xNot (xTru (oE (xCall m_is_name_enames (aCons (oE (xIx dIx oIx (oVar 3) (oE (eC (.int 0))))) aNil))))) (xNot (xTru (oE (xCall m_is_number_enames (aCons (oE (xIx dIx oIx (oVar 3) (oE (eC (.int 1))))) (aCons (oVar 1) (aCons (oVar 2) aNil)))))))) (sRet (eC (.bl false))) sNext))
def b_is_rows : XS :=
  (sSeq (sIf (xNot (xTru (oE (xIsi isTup (oVar 0))))) (sRet (eC (.bl false))) sNext)
    (sSeq (sFor (iSeq (oE (eVar 0))) (gN 3) b_is_rows_1)
    (sRet (xCall m_is_rising_enames (aCons (oE (eLc (iSeq (oE (eVar 0))) (gN 3) xYes (xIx dIx oIx (oVar 3) (oE (eC (.int 0)))) [3])) aNil)))))
def m_is_rows : List O → Option (O × List O) := runF 4 3 [0, 1, 2] b_is_rows
theorem m_len_is_rows {os : List O} {r : O × List O} (e : m_is_rows os = some r) : os.length = 3 ∧ r.2.length = 3 := runF_len e
abbrev s_show_plain : Stmt := topS 43
abbrev N_show_plain : List Str := ["value", "member"]
theorem sc_show_plain : FnScope N_show_plain ["value"] (defScope s_show_plain) := ⟨rfl, rfl, rfl, by decide +kernel, rfl, by decide +kernel, by decide +kernel⟩
def b_show_plain (m_show_plain : Nat → List O → Option (O × List O)) (n : Nat) : XS :=
  (sSeq (sIf (xTru (oE (xIsi isStr (oVar 0)))) (sRet (xA2 dAdd (oE (xA2 dAdd (oE (eC (.str (PySem.Str.ofString "\"")))) (oE (xS1 (dRepl (PySem.Str.ofString "\n") (PySem.Str.ofString "\\n")) (oE (xS1 (dRepl (PySem.Str.ofString "\"") (PySem.Str.ofString "\\\"")) (oE (xS1 (dRepl (PySem.Str.ofString "\\") (PySem.Str.ofString "\\\\")) (oE (eVar 0)))))))))) (oE (eC (.str (PySem.Str.ofString "\"")))))) sNext)
    (sSeq (sIf (xTru (oE (xIsi isTup (oVar 0)))) (sRet (xA2 dAdd (oE (xA2 dAdd (oE (eC (.str (PySem.Str.ofString "(")))) (oE (xMS dJoin (oE (eC (.str (PySem.Str.ofString " ")))) (aCons (oE (eLc (iSeq (oE (eVar 0))) (gN 1) xYes (xCall (m_show_plain n) (aCons (oVar 1) aNil)) [1])) aNil))))) (oE (eC (.str (PySem.Str.ofString ")")))))) sNext)
    (sSeq (sIf (xB (oE (xS2 dIsN (oVar 0) (oE (eC .non))))) (sRet (eC (.str (PySem.Str.ofString "N")))) sNext)
    (sSeq (sIf (xB (oE (xS2 dIsB (oVar 0) (oE (eC (.bl true)))))) (sRet (eC (.str (PySem.Str.ofString "T")))) sNext)
    (sSeq (sIf (xB (oE (xS2 dIsB (oVar 0) (oE (eC (.bl false)))))) (sRet (eC (.str (PySem.Str.ofString "F")))) sNext)
    (sRet (xSN dStrOf (aCons (oVar 0) aNil))))))))
def m_show_plain : Nat → List O → Option (O × List O)
  | 0 => fun _ => none
  | n + 1 => runF 2 1 [0] (b_show_plain (fun _ => m_show_plain n) n)
theorem m_len_show_plain : ∀ (n : Nat) {os : List O} {r : O × List O}, m_show_plain n os = some r → os.length = 1 ∧ r.2.length = 1
  | 0, _, _, e => by cases e
  | n + 1, _, _, e => runF_len e
def m_show_plain_9 : List O → Option (O × List O) := m_show_plain 9
theorem m_len_show_plain_9 {os : List O} {r : O × List O} (e : m_show_plain_9 os = some r) : os.length = 1 ∧ r.2.length = 1 := m_len_show_plain 9 e
abbrev s_Reader_wrong_sign : Stmt := L2.inClass (topS 45) 4
abbrev N_Reader_wrong_sign : List Str := ["self", "at", "stop", "slash", "place"]
theorem sc_Reader_wrong_sign : FnScope N_Reader_wrong_sign ["self", "at", "stop", "slash"] (defScope s_Reader_wrong_sign) := ⟨rfl, rfl, rfl, by decide +kernel, rfl, by decide +kernel, by decide +kernel⟩
def b_Reader_wrong_sign_1 (C_Reader : Addr) : XS :=
  (sSeq (sIf (xNot (xB (oE (xChain dLe dLe (oE (eC (.str (PySem.Str.ofString " ")))) (oE (xIx dIx oIx (oE (xFld C_Reader "signs" (oVar 0))) (oVar 4))) (oE (eC (.str (PySem.Str.ofString "~")))))))) (sRet (eMove 4)) sNext)
    (sIf (xB (oE (xS2 dEq (oVar 4) (oVar 3)))) (sRet (xA2 dAdd (oE (eVar 4)) (oE (eC (.int 1))))) sNext))
def b_Reader_wrong_sign (C_Reader : Addr) : XS :=
  (sSeq (sFor (iR2 (oVar 1) (oVar 2)) (gN 4) (b_Reader_wrong_sign_1 C_Reader))
    (sRet (eVar 2)))
def m_Reader_wrong_sign (C_Reader : Addr) : List O → Option (O × List O) := runF 5 4 [0, 1, 2, 3] (b_Reader_wrong_sign C_Reader)
theorem m_len_Reader_wrong_sign (C_Reader : Addr) {os : List O} {r : O × List O} (e : m_Reader_wrong_sign C_Reader os = some r) : os.length = 4 ∧ r.2.length = 4 := runF_len e
abbrev s_Reader_string : Stmt := L2.inClass (topS 45) 3
abbrev N_Reader_string : List Str := ["self", "at", "end", "stop", "raw", "slash"]
theorem sc_Reader_string : FnScope N_Reader_string ["self", "at"] (defScope s_Reader_string) := ⟨rfl, rfl, rfl, by decide +kernel, rfl, by decide +kernel, by decide +kernel⟩
def b_Reader_string (C_BadPlain : Addr) (C_Reader : Addr) : XS :=
  (sSeq (sAsg (xMS (dM1I fun s y i => .int (PySem.Txt.find3 s y i)) (oE (xFld C_Reader "veiled" (oVar 0))) (aCons (oE (eC (.str (PySem.Str.ofString "\"")))) (aCons (oVar 1) aNil))) (gN 2))
    (sSeq (sAsg (xIf (xB (oE (xS2 dLt (oVar 2) (oE (eC (.int 0)))))) (xSN dLen (aCons (oE (xFld C_Reader "signs" (oVar 0))) aNil)) (eVar 2)) (gN 3))
    (sSeq (sAsg (xSl (oE (xFld C_Reader "signs" (oVar 0))) (pEx (oVar 1)) (pEx (oVar 3))) (gN 4))
    (sSeq (sAsg (xMS (dM1II fun s y i j => .int (PySem.Txt.findIn s y i j)) (oE (xFld C_Reader "veiled" (oVar 0))) (aCons (oE (eC (.str (PySem.Str.ofString "\\")))) (aCons (oVar 1) (aCons (oVar 3) aNil)))) (gN 5))
    (sSeq (sIf (xOr (xB (oE (xS2 dGe (oVar 5) (oE (eC (.int 0)))))) (xOr (xNot (xTru (oE (xMS0 (dM0 (fun s => .bl (PySem.Txt.isascii s)) any1) (oE (eVar 4)))))) (xNot (xTru (oE (xMS0 (dM0 (fun s => .bl (PySem.Txt.isprintable s)) any1) (oE (eVar 4)))))))) (sRaiseP C_BadPlain (aCons (oE (xMeth C_Reader "wrong_sign" (m_Reader_wrong_sign C_Reader) (oVar 0) (aCons (oVar 1) (aCons (oVar 3) (aCons (oVar 5) aNil))))) aNil)) sNext)
    (sSeq (sIf (xB (oE (xS2 dLt (oVar 2) (oE (eC (.int 0)))))) (sRaiseP C_BadPlain (aCons (oE (eVar 3)) aNil)) sNext)
    (sSeq (sIf (xB (oE (xS2 dInS (oE (eC (.str (PySem.Str.ofString "\\")))) (oVar 4)))) (sAsg (xS1 (dRepl (PySem.Str.ofString "\t") (PySem.Str.ofString "\\")) (oE (xS1 (dRepl (PySem.Str.ofString "\\n") (PySem.Str.ofString "\n")) (oE (xS1 (dRepl (PySem.Str.ofString "\\\"") (PySem.Str.ofString "\"")) (oE (xS1 (dRepl (PySem.Str.ofString "\\\\") (PySem.Str.ofString "\t")) (oE (eVar 4))))))))) (gN 4)) sNext)
    (sRet (xTup (aCons (oE (eVar 4)) (aCons (oE (xA2 dAdd (oE (eVar 2)) (oE (eC (.int 1))))) aNil)))))))))))
def m_Reader_string (C_BadPlain : Addr) (C_Reader : Addr) : List O → Option (Rs × List O) := runX 6 2 [0, 1] (b_Reader_string C_BadPlain C_Reader)
theorem m_len_Reader_string (C_BadPlain : Addr) (C_Reader : Addr) {os : List O} {r : Rs × List O} (e : m_Reader_string C_BadPlain C_Reader os = some r) : os.length = 2 ∧ r.2.length = 2 := runX_len e
abbrev s_Reader_integer : Stmt := L2.inClass (topS 45) 5
abbrev N_Reader_integer : List Str := ["self", "at", "first", "window", "many"]
theorem sc_Reader_integer : FnScope N_Reader_integer ["self", "at"] (defScope s_Reader_integer) := ⟨rfl, rfl, rfl, by decide +kernel, rfl, by decide +kernel, by decide +kernel⟩
def b_Reader_integer (C_BadPlain : Addr) (C_Reader : Addr) : XS :=
  (sSeq (sAsg (xIf (xTru (oE (xMS (dM1I fun s y i => .bl (PySem.Txt.startswith3 s y i)) (oE (xFld C_Reader "signs" (oVar 0))) (aCons (oE (eC (.str (PySem.Str.ofString "-")))) (aCons (oVar 1) aNil))))) (xA2 dAdd (oE (eVar 1)) (oE (eC (.int 1)))) (eVar 1)) (gN 2))
    (sSeq (sAsg (xSl (oE (xFld C_Reader "signs" (oVar 0))) (pEx (oVar 2)) (pEx (oE (xA2 dAdd (oE (xA2 dAdd (oE (eVar 2)) (oE (eC (.int 2000))))) (oE (eC (.int 1))))))) (gN 3))
    (sSeq (sAsg (xS2 dSub (oE (xSN dLen (aCons (oVar 3) aNil))) (oE (xSN dLen (aCons (oE (xMS (dM1 (fun s y => .str (PySem.Txt.lstripChars s y)) sz1) (oE (eVar 3)) (aCons (oE (eC (.str (PySem.Str.ofString "0123456789")))) aNil))) aNil)))) (gN 4))
    (sSeq (sIf (xB (oE (xS2 dEq (oVar 4) (oE (eC (.int 0)))))) (sRaiseP C_BadPlain (aCons (oE (eVar 2)) aNil)) sNext)
    (sSeq (sIf (xAnd (xB (oE (xS2 dEq (oE (xIx dIx oIx (oVar 3) (oE (eC (.int 0))))) (oE (eC (.str (PySem.Str.ofString "0"))))))) (xB (oE (xS2 dGt (oVar 2) (oVar 1))))) (sRaiseP C_BadPlain (aCons (oE (eVar 2)) aNil)) sNext)
    (sSeq (sIf (xAnd (xB (oE (xS2 dEq (oE (xIx dIx oIx (oVar 3) (oE (eC (.int 0))))) (oE (eC (.str (PySem.Str.ofString "0"))))))) (xB (oE (xS2 dGt (oVar 4) (oE (eC (.int 1))))))) (sRaiseP C_BadPlain (aCons (oE (xA2 dAdd (oE (eVar 2)) (oE (eC (.int 1))))) aNil)) sNext)
    (sSeq (sIf (xB (oE (xS2 dGt (oVar 4) (oE (eC (.int 2000)))))) (sRaiseP C_BadPlain (aCons (oE (xA2 dAdd (oE (eVar 2)) (oE (eC (.int 2000))))) aNil)) sNext)
    (sRet (xTup (aCons (oE (xSN dIntOfL (aCons (oE (xSl (oE (xFld C_Reader "signs" (oVar 0))) (pEx (oVar 1)) (pEx (oE (xA2 dAdd (oE (eVar 2)) (oE (eVar 4))))))) aNil))) (aCons (oE (xA2 dAdd (oE (eVar 2)) (oE (eVar 4)))) aNil)))))))))))
def m_Reader_integer (C_BadPlain : Addr) (C_Reader : Addr) : List O → Option (Rs × List O) := runX 5 2 [0, 1] (b_Reader_integer C_BadPlain C_Reader)
theorem m_len_Reader_integer (C_BadPlain : Addr) (C_Reader : Addr) {os : List O} {r : Rs × List O} (e : m_Reader_integer C_BadPlain C_Reader os = some r) : os.length = 2 ∧ r.2.length = 2 := runX_len e
abbrev s_Reader_value : Stmt := L2.inClass (topS 45) 1
abbrev N_Reader_value : List Str := ["self", "at", "depth", "sign"]
theorem sc_Reader_value : FnScope N_Reader_value ["self", "at", "depth"] (defScope s_Reader_value) := ⟨rfl, rfl, rfl, by decide +kernel, rfl, by decide +kernel, by decide +kernel⟩
noncomputable def b_Reader_value (C_BadPlain : Addr) (C_Reader : Addr) (r_Reader_value : List O → Option (Rs × List O)) (r_Reader_row : List O → Option (Rs × List O)) : XS :=
  (sSeq (sAsg (xSl (oE (xFld C_Reader "signs" (oVar 0))) (pEx (oVar 1)) (pEx (oE (xA2 dAdd (oE (eVar 1)) (oE (eC (.int 1))))))) (gN 3))
    (sSeq (sIf (xB (oE (xS2 dEq (oVar 3) (oE (eC (.str (PySem.Str.ofString "\""))))))) (sRetR (rMeth C_Reader "string" (m_Reader_string C_BadPlain C_Reader) (oVar 0) (aCons (oE (xA2 dAdd (oE (eVar 1)) (oE (eC (.int 1))))) aNil))) sNext)
    (sSeq (sIf (xB (oE (xS2 dEq (oVar 3) (oE (eC (.str (PySem.Str.ofString "("))))))) (sSeq (sIf (xB (oE (xS2 dEq (oVar 2) (oE (eC (.int 40)))))) (sRaiseP C_BadPlain (aCons (oE (eVar 1)) aNil)) sNext)
    (sRetR (rMeth C_Reader "row" r_Reader_row (oVar 0) (aCons (oE (xA2 dAdd (oE (eVar 1)) (oE (eC (.int 1))))) (aCons (oE (xA2 dAdd (oE (eVar 2)) (oE (eC (.int 1))))) aNil))))) sNext)
    (sSeq (sIf (xB (oE (xS1 (dInK [(PySem.Str.ofString "T", .bl true), (PySem.Str.ofString "F", .bl false), (PySem.Str.ofString "N", .non)]) (oVar 3)))) (sRet (xTup (aCons (oE (xS1 (dIxK [(PySem.Str.ofString "T", .bl true), (PySem.Str.ofString "F", .bl false), (PySem.Str.ofString "N", .non)]) (oVar 3))) (aCons (oE (xA2 dAdd (oE (eVar 1)) (oE (eC (.int 1))))) aNil)))) sNext)
    (sRetR (rMeth C_Reader "integer" (m_Reader_integer C_BadPlain C_Reader) (oVar 0) (aCons (oVar 1) aNil)))))))
abbrev s_Reader_row : Stmt := L2.inClass (topS 45) 2
abbrev N_Reader_row : List Str := ["self", "at", "depth", "members", "member", "sign"]
theorem sc_Reader_row : FnScope N_Reader_row ["self", "at", "depth"] (defScope s_Reader_row) := ⟨rfl, rfl, rfl, by decide +kernel, rfl, by decide +kernel, by decide +kernel⟩
noncomputable def b_Reader_row_1 (C_BadPlain : Addr) (C_Reader : Addr) (r_Reader_value : List O → Option (Rs × List O)) (r_Reader_row : List O → Option (Rs × List O)) : XS :=
  (sSeq (sAsgR (rMeth C_Reader "value" r_Reader_value (oVar 0) (aCons (oVar 1) (aCons (oVar 2) aNil))) (gTlm 2 (gsCons (gN 4) (gsCons (gN 1) gsNil))))
    (sSeq (sDrop (xApp 3 (eVar 4)))
    (sSeq (sAsg (xSl (oE (xFld C_Reader "signs" (oVar 0))) (pEx (oVar 1)) (pEx (oE (xA2 dAdd (oE (eVar 1)) (oE (eC (.int 1))))))) (gN 5))
    (sSeq (sIf (xB (oE (xS2 dEq (oVar 5) (oE (eC (.str (PySem.Str.ofString ")"))))))) (sRet (xTup (aCons (oE (xAN dTupOf (aCons (oE (eVar 3)) aNil))) (aCons (oE (xA2 dAdd (oE (eVar 1)) (oE (eC (.int 1))))) aNil)))) sNext)
    (sSeq (sIf (xB (oE (xS2 dNe (oVar 5) (oE (eC (.str (PySem.Str.ofString " "))))))) (sRaiseP C_BadPlain (aCons (oE (eVar 1)) aNil)) sNext)
    (sAug 1 dAddI (oE (eC (.int 1)))))))))
noncomputable def b_Reader_row (C_BadPlain : Addr) (C_Reader : Addr) (r_Reader_value : List O → Option (Rs × List O)) (r_Reader_row : List O → Option (Rs × List O)) : XS :=
  (sSeq (sIf (xTru (oE (xMS (dM1I fun s y i => .bl (PySem.Txt.startswith3 s y i)) (oE (xFld C_Reader "signs" (oVar 0))) (aCons (oE (eC (.str (PySem.Str.ofString ")")))) (aCons (oVar 1) aNil))))) (sRet (xTup (aCons (oE (xTup aNil)) (aCons (oE (xA2 dAdd (oE (eVar 1)) (oE (eC (.int 1))))) aNil)))) sNext)
    (sSeq (sAsg (xLst aNil) (gN 3))
    (sWhile (xTru (oE (eC (.bl true)))) (b_Reader_row_1 C_BadPlain C_Reader r_Reader_value r_Reader_row))))
mutual
noncomputable def m_Reader_value (C_BadPlain : Addr) (C_Reader : Addr) : Nat → List O → Option (Rs × List O)
  | 0 => fun _ => none
  | n + 1 => runX 4 3 [0, 1, 2] (b_Reader_value C_BadPlain C_Reader (m_Reader_value C_BadPlain C_Reader n) (m_Reader_row C_BadPlain C_Reader n))
noncomputable def m_Reader_row (C_BadPlain : Addr) (C_Reader : Addr) : Nat → List O → Option (Rs × List O)
  | 0 => fun _ => none
  | n + 1 => runX 6 3 [0, 2] (b_Reader_row C_BadPlain C_Reader (m_Reader_value C_BadPlain C_Reader n) (m_Reader_row C_BadPlain C_Reader n))
end
theorem m_len_Reader_value (C_BadPlain : Addr) (C_Reader : Addr) : ∀ (n : Nat) {os : List O} {r : Rs × List O}, m_Reader_value C_BadPlain C_Reader n os = some r → os.length = 3 ∧ r.2.length = 3
  | 0, _, _, e => by rw [m_Reader_value] at e; cases e
  | n + 1, _, _, e => by rw [m_Reader_value] at e; exact runX_len e
noncomputable def m_Reader_value_24 (C_BadPlain : Addr) (C_Reader : Addr) : List O → Option (Rs × List O) := m_Reader_value C_BadPlain C_Reader 24
theorem m_len_Reader_value_24 (C_BadPlain : Addr) (C_Reader : Addr) {os : List O} {r : Rs × List O} (e : m_Reader_value_24 C_BadPlain C_Reader os = some r) : os.length = 3 ∧ r.2.length = 3 := m_len_Reader_value C_BadPlain C_Reader 24 e
theorem m_len_Reader_row (C_BadPlain : Addr) (C_Reader : Addr) : ∀ (n : Nat) {os : List O} {r : Rs × List O}, m_Reader_row C_BadPlain C_Reader n os = some r → os.length = 3 ∧ r.2.length = 3
  | 0, _, _, e => by rw [m_Reader_row] at e; cases e
  | n + 1, _, _, e => by rw [m_Reader_row] at e; exact runX_len e
noncomputable def m_Reader_row_24 (C_BadPlain : Addr) (C_Reader : Addr) : List O → Option (Rs × List O) := m_Reader_row C_BadPlain C_Reader 24
theorem m_len_Reader_row_24 (C_BadPlain : Addr) (C_Reader : Addr) {os : List O} {r : Rs × List O} (e : m_Reader_row_24 C_BadPlain C_Reader os = some r) : os.length = 3 ∧ r.2.length = 3 := m_len_Reader_row C_BadPlain C_Reader 24 e
abbrev s_Reader___init__ : Stmt := L2.inClass (topS 45) 0
abbrev N_Reader___init__ : List Str := ["self", "text"]
theorem sc_Reader___init__ : FnScope N_Reader___init__ ["self", "text"] (defScope s_Reader___init__) := ⟨rfl, rfl, rfl, by decide +kernel, rfl, by decide +kernel, by decide +kernel⟩
def b_Reader___init__ (C_Reader : Addr) : XS :=
  (sSeq (sFldO C_Reader 0 "signs" (eVar 1))
    (sFldO C_Reader 0 "veiled" (xS1 (dRepl (PySem.Str.ofString "\\n") (PySem.Str.ofString "\t\t")) (oE (xS1 (dRepl (PySem.Str.ofString "\\\"") (PySem.Str.ofString "\t\t")) (oE (xS1 (dRepl (PySem.Str.ofString "\\\\") (PySem.Str.ofString "\t\t")) (oE (eVar 1)))))))))
def m_Reader___init__ (C_Reader : Addr) : List O → Option (O × List O) := runF 2 2 [0, 1] (b_Reader___init__ C_Reader)
theorem m_len_Reader___init__ (C_Reader : Addr) {os : List O} {r : O × List O} (e : m_Reader___init__ C_Reader os = some r) : os.length = 2 ∧ r.2.length = 2 := runF_len e
abbrev s_read_plain : Stmt := topS 44
abbrev N_read_plain : List Str := ["text", "value", "end"]
theorem sc_read_plain : FnScope N_read_plain ["text"] (defScope s_read_plain) := ⟨rfl, rfl, rfl, by decide +kernel, rfl, by decide +kernel, by decide +kernel⟩
noncomputable def b_read_plain (C_BadPlain : Addr) (C_Reader : Addr) : XS :=
  (sSeq (sAsgR (rMeth C_Reader "value" (m_Reader_value_24 C_BadPlain C_Reader) (oE (xMake C_Reader (m_Reader___init__ C_Reader) (aCons (oVar 0) aNil))) (aCons (oE (eC (.int 0))) (aCons (oE (eC (.int 0))) aNil))) (gTlm 2 (gsCons (gN 1) (gsCons (gN 2) gsNil))))
    (sSeq (sIf (xB (oE (xS2 dLt (oVar 2) (oE (xSN dLen (aCons (oVar 0) aNil)))))) (sRaiseP C_BadPlain (aCons (oE (eVar 2)) aNil)) sNext)
    (sRet (eMove 1))))
noncomputable def m_read_plain (C_BadPlain : Addr) (C_Reader : Addr) : List O → Option (Rs × List O) := runX 3 1 [0] (b_read_plain C_BadPlain C_Reader)
theorem m_len_read_plain (C_BadPlain : Addr) (C_Reader : Addr) {os : List O} {r : Rs × List O} (e : m_read_plain C_BadPlain C_Reader os = some r) : os.length = 1 ∧ r.2.length = 1 := runX_len e
abbrev s_is_wire_notices : Stmt := topS 48
abbrev N_is_wire_notices : List Str := ["thing", "name", "one", "other", "conductance"]
theorem sc_is_wire_notices : FnScope N_is_wire_notices ["thing"] (defScope s_is_wire_notices) := ⟨rfl, rfl, rfl, by decide +kernel, rfl, by decide +kernel, by decide +kernel⟩
def b_is_wire_notices : XS :=
  (sSeq (sIf (xOr (xNot (xTru (oE (xIsi isTup (oVar 0))))) (xB (oE (xS2 dNe (oE (xSN dLen (aCons (oVar 0) aNil))) (oE (eC (.int 4))))))) (sRet (eC (.bl false))) sNext)
    (sSeq (sAsg (eVar 0) (gTlm 4 (gsCons (gN 1) (gsCons (gN 2) (gsCons (gN 3) (gsCons (gN 4) gsNil))))))
    (sSeq (sIf (xOr (xNot (xTru (oE (xCall m_is_name_enames (aCons (oVar 1) aNil))))) (xOr (xNot (xTru (oE (xCall m_is_name_enames (aCons (oVar 2) aNil))))) (xOr (xNot (xTru (oE (xCall m_is_name_enames (aCons (oVar 3) aNil))))) (xB (oE (xS2 dEq (oVar 2) (oVar 3))))))) (sRet (eC (.bl false))) sNext)
    (sRet (xAndV (oE (xCall m_is_typed (aCons (oVar 4) aNil))) (xS2 dGt (oE (xIx dIx oIx (oVar 4) (oE (eC (.int 0))))) (oE (eC (.int 0)))))))))
def m_is_wire_notices : List O → Option (O × List O) := runF 5 1 [0] b_is_wire_notices
theorem m_len_is_wire_notices {os : List O} {r : O × List O} (e : m_is_wire_notices os = some r) : os.length = 1 ∧ r.2.length = 1 := runF_len e
abbrev s_is_notice : Stmt := topS 47
abbrev N_is_notice : List Str := ["thing", "_", "number", "act"]
theorem sc_is_notice : FnScope N_is_notice ["thing"] (defScope s_is_notice) := ⟨rfl, rfl, rfl, by decide +kernel, rfl, by decide +kernel, by decide +kernel⟩
def b_is_notice : XS :=
  (sSeq (sIf (xOr (xNot (xTru (oE (xIsi isTup (oVar 0))))) (xOr (xB (oE (xS2 dNe (oE (xSN dLen (aCons (oVar 0) aNil))) (oE (eC (.int 3)))))) (xB (oE (xS2 dNe (oE (xIx dIx oIx (oVar 0) (oE (eC (.int 0))))) (oE (eC (.str (PySem.Str.ofString "notice"))))))))) (sRet (eC (.bl false))) sNext)
    (sSeq (sAsg (eVar 0) (gTlm 3 (gsCons (gN 1) (gsCons (gN 2) (gsCons (gN 3) gsNil)))))
    (sSeq (sIf (xOr (xNot (xTru (oE (xCall m_is_number_enames (aCons (oVar 2) (aCons (oE (eC (.int 1))) (aCons (oE (eC (.int 999))) aNil))))))) (xOr (xNot (xTru (oE (xIsi isTup (oVar 3))))) (xB (oE (xS2 dNe (oE (xSN dLen (aCons (oVar 3) aNil))) (oE (eC (.int 2)))))))) (sRet (eC (.bl false))) sNext)
    (sSeq (sIf (xB (oE (xS2 dEq (oE (xIx dIx oIx (oVar 3) (oE (eC (.int 0))))) (oE (eC (.str (PySem.Str.ofString "wire"))))))) (sRet (xCall m_is_wire_notices (aCons (oE (xIx dIx oIx (oVar 3) (oE (eC (.int 1))))) aNil))) sNext)
    (sSeq (sIf (xB (oE (xS2 dEq (oE (xIx dIx oIx (oVar 3) (oE (eC (.int 0))))) (oE (eC (.str (PySem.Str.ofString "off"))))))) (sRet (xCall m_is_name_enames (aCons (oE (xIx dIx oIx (oVar 3) (oE (eC (.int 1))))) aNil))) sNext)
    (sSeq (sIf (xB (oE (xS2 dEq (oE (xIx dIx oIx (oVar 3) (oE (eC (.int 0))))) (oE (eC (.str (PySem.Str.ofString "withdraw"))))))) (sRet (xCall m_is_number_enames (aCons (oE (xIx dIx oIx (oVar 3) (oE (eC (.int 1))))) (aCons (oE (eC (.int 1))) (aCons (oE (xS2 dSub (oVar 2) (oE (eC (.int 1))))) aNil))))) sNext)
    (sRet (eC (.bl false)))))))))
def m_is_notice : List O → Option (O × List O) := runF 4 1 [0] b_is_notice
theorem m_len_is_notice {os : List O} {r : O × List O} (e : m_is_notice os = some r) : os.length = 1 ∧ r.2.length = 1 := runF_len e
abbrev s_is_limit : Stmt := topS 52
abbrev N_is_limit : List Str := ["one", "other", "limit"]
theorem sc_is_limit : FnScope N_is_limit ["one", "other", "limit"] (defScope s_is_limit) := ⟨rfl, rfl, rfl, by decide +kernel, rfl, by decide +kernel, by decide +kernel⟩
def b_is_limit : XS :=
  (sSeq (sIf (xOr (xNot (xTru (oE (xCall m_is_name_enames (aCons (oVar 0) aNil))))) (xOr (xNot (xTru (oE (xCall m_is_name_enames (aCons (oVar 1) aNil))))) (xB (oE (xS2 dEq (oVar 0) (oVar 1)))))) (sRet (eC (.bl false))) sNext)
    (sRet (xAndV (oE (xCall m_is_typed (aCons (oVar 2) aNil))) (xS2 dGe (oE (xIx dIx oIx (oVar 2) (oE (eC (.int 0))))) (oE (eC (.int 0)))))))
def m_is_limit : List O → Option (O × List O) := runF 3 3 [0, 1, 2] b_is_limit
theorem m_len_is_limit {os : List O} {r : O × List O} (e : m_is_limit os = some r) : os.length = 3 ∧ r.2.length = 3 := runF_len e
abbrev s_is_told : Stmt := topS 53
abbrev N_is_told : List Str := ["thing", "kind", "least"]
theorem sc_is_told : FnScope N_is_told ["thing", "kind", "least"] (defScope s_is_told) := ⟨rfl, rfl, rfl, by decide +kernel, rfl, by decide +kernel, by decide +kernel⟩
def b_is_told : XS :=
  (sSeq (sIf (xOr (xNot (xTru (oE (xIsi isTup (oVar 0))))) (xOr (xB (oE (xS2 dNe (oE (xSN dLen (aCons (oVar 0) aNil))) (oE (eC (.int 2)))))) (xB (oE (xS2 dNe (oE (xIx dIx oIx (oVar 0) (oE (eC (.int 0))))) (oVar 1)))))) (sRet (eC (.bl false))) sNext)
    (sRet (xCall m_is_rows (aCons (oE (xIx dIx oIx (oVar 0) (oE (eC (.int 1))))) (aCons (oVar 2) (aCons (oE (eC (.int 1000))) aNil))))))
def m_is_told : List O → Option (O × List O) := runF 3 3 [0, 1, 2] b_is_told
theorem m_len_is_told {os : List O} {r : O × List O} (e : m_is_told os = some r) : os.length = 3 ∧ r.2.length = 3 := runF_len e
abbrev s_is_promise : Stmt := topS 51
abbrev N_is_promise : List Str := ["thing", "kind"]
theorem sc_is_promise : FnScope N_is_promise ["thing"] (defScope s_is_promise) := ⟨rfl, rfl, rfl, by decide +kernel, rfl, by decide +kernel, by decide +kernel⟩
def b_is_promise : XS :=
  (sSeq (sIf (xOr (xNot (xTru (oE (xIsi isTup (oVar 0))))) (xOr (xB (oE (xS2 dLt (oE (xSN dLen (aCons (oVar 0) aNil))) (oE (eC (.int 3)))))) (xNot (xTru (oE (xCall m_is_name_enames (aCons (oE (xIx dIx oIx (oVar 0) (oE (eC (.int 1))))) aNil))))))) (sRet (eC (.bl false))) sNext)
    (sSeq (sAsg (xIx dIx oIx (oVar 0) (oE (eC (.int 0)))) (gN 1))
    (sSeq (sIf (xB (oE (xS2 dEq (oVar 1) (oE (eC (.str (PySem.Str.ofString "trees"))))))) (sRet (xAndV (oE (xS2 dEq (oE (xSN dLen (aCons (oVar 0) aNil))) (oE (eC (.int 3))))) (xCall m_is_number_enames (aCons (oE (xIx dIx oIx (oVar 0) (oE (eC (.int 2))))) (aCons (oE (eC (.int 0))) (aCons (oE (eC (.int 1000000))) aNil)))))) sNext)
    (sSeq (sIf (xB (oE (xS2 dEq (oVar 1) (oE (eC (.str (PySem.Str.ofString "ring"))))))) (sRet (xAndV (oE (xS2 dEq (oE (xSN dLen (aCons (oVar 0) aNil))) (oE (eC (.int 3))))) (xCall m_is_name_enames (aCons (oE (xIx dIx oIx (oVar 0) (oE (eC (.int 2))))) aNil)))) sNext)
    (sSeq (sIf (xB (oE (xS2 dEq (oVar 1) (oE (eC (.str (PySem.Str.ofString "resists"))))))) (sRet (xAndV (oE (xS2 dEq (oE (xSN dLen (aCons (oVar 0) aNil))) (oE (eC (.int 5))))) (xCall m_is_limit (aCons (oE (xIx dIx oIx (oVar 0) (oE (eC (.int 2))))) (aCons (oE (xIx dIx oIx (oVar 0) (oE (eC (.int 3))))) (aCons (oE (xIx dIx oIx (oVar 0) (oE (eC (.int 4))))) aNil)))))) sNext)
    (sSeq (sIf (xB (oE (xS2 dEq (oVar 1) (oE (eC (.str (PySem.Str.ofString "won"))))))) (sRet (xAndV (oE (xS2 dEq (oE (xSN dLen (aCons (oVar 0) aNil))) (oE (eC (.int 3))))) (xCall m_is_told (aCons (oE (xIx dIx oIx (oVar 0) (oE (eC (.int 2))))) (aCons (oE (eC (.str (PySem.Str.ofString "books")))) (aCons (oE (xS1 dNeg (oE (eC (.int 1000))))) aNil)))))) sNext)
    (sSeq (sIf (xB (oE (xS2 dEq (oVar 1) (oE (eC (.str (PySem.Str.ofString "recurs"))))))) (sRet (xAndV (oE (xS2 dEq (oE (xSN dLen (aCons (oVar 0) aNil))) (oE (eC (.int 4))))) (xAndV (oE (xCall m_is_name_enames (aCons (oE (xIx dIx oIx (oVar 0) (oE (eC (.int 2))))) aNil))) (xCall m_is_told (aCons (oE (xIx dIx oIx (oVar 0) (oE (eC (.int 3))))) (aCons (oE (eC (.str (PySem.Str.ofString "pile")))) (aCons (oE (eC (.int 0))) aNil))))))) sNext)
    (sRet (eC (.bl false))))))))))
def m_is_promise : List O → Option (O × List O) := runF 2 1 [0] b_is_promise
theorem m_len_is_promise {os : List O} {r : O × List O} (e : m_is_promise os = some r) : os.length = 1 ∧ r.2.length = 1 := runF_len e
abbrev s_is_question : Stmt := topS 58
abbrev N_is_question : List Str := ["thing", "kind"]
theorem sc_is_question : FnScope N_is_question ["thing"] (defScope s_is_question) := ⟨rfl, rfl, rfl, by decide +kernel, rfl, by decide +kernel, by decide +kernel⟩
def b_is_question : XS :=
  (sSeq (sIf (xOr (xNot (xTru (oE (xIsi isTup (oVar 0))))) (xB (oE (xS2 dEq (oE (xSN dLen (aCons (oVar 0) aNil))) (oE (eC (.int 0))))))) (sRet (eC (.bl false))) sNext)
    (sSeq (sAsg (xIx dIx oIx (oVar 0) (oE (eC (.int 0)))) (gN 1))
    (sSeq (sIf (xB (oE (xS2 dEq (oE (xSN dLen (aCons (oVar 0) aNil))) (oE (eC (.int 1)))))) (sRet (xS2 dIn (oVar 1) (oE (eC (.tup [.str (PySem.Str.ofString "known"), .str (PySem.Str.ofString "trees"), .str (PySem.Str.ofString "bridges"), .str (PySem.Str.ofString "blocks")]))))) sNext)
    (sSeq (sIf (xB (oE (xS2 dEq (oE (xSN dLen (aCons (oVar 0) aNil))) (oE (eC (.int 3)))))) (sRet (xAndV (oE (xS2 dEq (oVar 1) (oE (eC (.str (PySem.Str.ofString "resistance")))))) (xAndV (oE (xCall m_is_name_fforms (aCons (oE (xIx dIx oIx (oVar 0) (oE (eC (.int 1))))) aNil))) (xCall m_is_name_fforms (aCons (oE (xIx dIx oIx (oVar 0) (oE (eC (.int 2))))) aNil))))) sNext)
    (sSeq (sIf (xB (oE (xS2 dNe (oE (xSN dLen (aCons (oVar 0) aNil))) (oE (eC (.int 2)))))) (sRet (eC (.bl false))) sNext)
    (sSeq (sIf (xB (oE (xS2 dIn (oVar 1) (oE (eC (.tup [.str (PySem.Str.ofString "stands"), .str (PySem.Str.ofString "causes"), .str (PySem.Str.ofString "cures")])))))) (sRet (xCall m_is_name_fforms (aCons (oE (xIx dIx oIx (oVar 0) (oE (eC (.int 1))))) aNil))) sNext)
    (sSeq (sIf (xB (oE (xS2 dEq (oVar 1) (oE (eC (.str (PySem.Str.ofString "shaken"))))))) (sRet (xAndV (oE (xCall m_is_count (aCons (oE (xIx dIx oIx (oVar 0) (oE (eC (.int 1))))) aNil))) (xS2 dLe (oE (xIx dIx oIx (oVar 0) (oE (eC (.int 1))))) (oE (eC (.int 999)))))) sNext)
    (sRet (xAndV (oE (xS2 dEq (oVar 1) (oE (eC (.str (PySem.Str.ofString "won")))))) (xCall m_is_promise (aCons (oE (xTup (aCons (oE (eC (.str (PySem.Str.ofString "won")))) (aCons (oE (eC (.str (PySem.Str.ofString "books")))) (aCons (oE (xIx dIx oIx (oVar 0) (oE (eC (.int 1))))) aNil))))) aNil)))))))))))
def m_is_question : List O → Option (O × List O) := runF 2 1 [0] b_is_question
theorem m_len_is_question {os : List O} {r : O × List O} (e : m_is_question os = some r) : os.length = 1 ∧ r.2.length = 1 := runF_len e
abbrev s_sum_of : Stmt := topS 63
abbrev N_sum_of : List Str := ["n", "before", "text", "codes"]
theorem sc_sum_of : FnScope N_sum_of ["n", "before", "text"] (defScope s_sum_of) := ⟨rfl, rfl, rfl, by decide +kernel, rfl, by decide +kernel, by decide +kernel⟩
def b_sum_of : XS :=
  (sSeq (sAsg (xAN dLsOrd (aCons (oE (eVar 2)) aNil)) (gN 3))
    (sSeq (sDrop (xRev 3))
    (sRet (xS2 dMod (oE (xA2 dAdd (oE (xA2 dAdd (oE (eVar 1)) (oE (eVar 0)))) (oE (xSN dSumAc (aCons (oVar 3) aNil))))) (oE (eC (.int 99991)))))))
def m_sum_of : List O → Option (O × List O) := runF 4 3 [0, 1, 2] b_sum_of
theorem m_len_sum_of {os : List O} {r : O × List O} (e : m_sum_of os = some r) : os.length = 3 ∧ r.2.length = 3 := runF_len e
abbrev s_journal_line : Stmt := topS 62
abbrev N_journal_line : List Str := ["n", "before", "entry", "text"]
theorem sc_journal_line : FnScope N_journal_line ["n", "before", "entry"] (defScope s_journal_line) := ⟨rfl, rfl, rfl, by decide +kernel, rfl, by decide +kernel, by decide +kernel⟩
def b_journal_line : XS :=
  (sSeq (sAsg (xCall m_show_plain_9 (aCons (oVar 2) aNil)) (gN 3))
    (sRet (xJoined [(oE (xS1 dFmt (oVar 0))), (oE (eC (.str (PySem.Str.ofString " ")))), (oE (xS1 dFmt (oE (xCall m_sum_of (aCons (oVar 0) (aCons (oVar 1) (aCons (oVar 3) aNil))))))), (oE (eC (.str (PySem.Str.ofString " ")))), (oE (xS1 dFmt (oVar 3))), (oE (eC (.str (PySem.Str.ofString "\n"))))])))
def m_journal_line : List O → Option (O × List O) := runF 4 3 [0, 1, 2] b_journal_line
theorem m_len_journal_line {os : List O} {r : O × List O} (e : m_journal_line os = some r) : os.length = 3 ∧ r.2.length = 3 := runF_len e
abbrev s_sum_in : Stmt := topS 64
abbrev N_sum_in : List Str := ["line"]
theorem sc_sum_in : FnScope N_sum_in ["line"] (defScope s_sum_in) := ⟨rfl, rfl, rfl, by decide +kernel, rfl, by decide +kernel, by decide +kernel⟩
def b_sum_in : XS :=
  (sRet (xSN dIntOf (aCons (oE (xIx dIx oIx (oE (xMA dSplit2 (oE (eVar 0)) (aCons (oE (eC (.str (PySem.Str.ofString " ")))) (aCons (oE (eC (.int 2))) aNil)))) (oE (eC (.int 1))))) aNil)))
def m_sum_in : List O → Option (O × List O) := runF 1 1 [0] b_sum_in
theorem m_len_sum_in {os : List O} {r : O × List O} (e : m_sum_in os = some r) : os.length = 1 ∧ r.2.length = 1 := runF_len e
abbrev s_is_first_entry : Stmt := topS 67
abbrev N_is_first_entry : List Str := ["entry"]
theorem sc_is_first_entry : FnScope N_is_first_entry ["entry"] (defScope s_is_first_entry) := ⟨rfl, rfl, rfl, by decide +kernel, rfl, by decide +kernel, by decide +kernel⟩
def b_is_first_entry : XS :=
  (sSeq (sIf (xNot (xTru (oE (xIsi isTup (oVar 0))))) (sRet (eC (.bl false))) sNext)
    (sSeq (sIf (xB (oE (xS2 dEq (oE (xSN dLen (aCons (oVar 0) aNil))) (oE (eC (.int 2)))))) (sRet (xS2 dEq (oE (xIx dIx oIx (oVar 0) (oE (eC (.int 0))))) (oE (eC (.str (PySem.Str.ofString "short")))))) sNext)
    (sRet (xAndV (oE (xS2 dEq (oE (xSN dLen (aCons (oVar 0) aNil))) (oE (eC (.int 4))))) (xAndV (oE (xS2 dEq (oE (xIx dIx oIx (oVar 0) (oE (eC (.int 0))))) (oE (eC (.str (PySem.Str.ofString "shop")))))) (xAndV (oE (xCall m_is_name_fforms (aCons (oE (xIx dIx oIx (oVar 0) (oE (eC (.int 1))))) aNil))) (xCall m_is_network (aCons (oE (xIx dIx oIx (oVar 0) (oE (eC (.int 3))))) aNil))))))))
def m_is_first_entry : List O → Option (O × List O) := runF 1 1 [0] b_is_first_entry
theorem m_len_is_first_entry {os : List O} {r : O × List O} (e : m_is_first_entry os = some r) : os.length = 1 ∧ r.2.length = 1 := runF_len e
abbrev s_is_known : Stmt := topS 69
abbrev N_is_known : List Str := ["thing"]
theorem sc_is_known : FnScope N_is_known ["thing"] (defScope s_is_known) := ⟨rfl, rfl, rfl, by decide +kernel, rfl, by decide +kernel, by decide +kernel⟩
def b_is_known : XS :=
  (sRet (xAndV (oE (xCall m_is_count (aCons (oVar 0) aNil))) (xS2 dLe (oVar 0) (oE (eC (.int 999))))))
def m_is_known : List O → Option (O × List O) := runF 1 1 [0] b_is_known
theorem m_len_is_known {os : List O} {r : O × List O} (e : m_is_known os = some r) : os.length = 1 ∧ r.2.length = 1 := runF_len e
abbrev s_is_later_entry : Stmt := topS 68
abbrev N_is_later_entry : List Str := ["entry"]
theorem sc_is_later_entry : FnScope N_is_later_entry ["entry"] (defScope s_is_later_entry) := ⟨rfl, rfl, rfl, by decide +kernel, rfl, by decide +kernel, by decide +kernel⟩
def b_is_later_entry : XS :=
  (sSeq (sIf (xNot (xTru (oE (xIsi isTup (oVar 0))))) (sRet (eC (.bl false))) sNext)
    (sSeq (sIf (xB (oE (xS2 dEq (oE (xSN dLen (aCons (oVar 0) aNil))) (oE (eC (.int 2)))))) (sRet (xAndV (oE (xS2 dIn (oE (xIx dIx oIx (oVar 0) (oE (eC (.int 0))))) (oE (xTup (aCons (oE (eC (.str (PySem.Str.ofString "published")))) (aCons (oE (eC (.str (PySem.Str.ofString "heard")))) aNil)))))) (xCall m_is_notice (aCons (oE (xIx dIx oIx (oVar 0) (oE (eC (.int 1))))) aNil)))) sNext)
    (sSeq (sIf (xB (oE (xS2 dEq (oE (xSN dLen (aCons (oVar 0) aNil))) (oE (eC (.int 3)))))) (sRet (xAndV (oE (xS2 dEq (oE (xIx dIx oIx (oVar 0) (oE (eC (.int 0))))) (oE (eC (.str (PySem.Str.ofString "given")))))) (xAndV (oE (xCall m_is_promise (aCons (oE (xIx dIx oIx (oVar 0) (oE (eC (.int 1))))) aNil))) (xCall m_is_known (aCons (oE (xIx dIx oIx (oVar 0) (oE (eC (.int 2))))) aNil))))) sNext)
    (sRet (xAndV (oE (xS2 dEq (oE (xSN dLen (aCons (oVar 0) aNil))) (oE (eC (.int 4))))) (xAndV (oE (xS2 dEq (oE (xIx dIx oIx (oVar 0) (oE (eC (.int 0))))) (oE (eC (.str (PySem.Str.ofString "told")))))) (xAndV (oE (xCall m_is_question (aCons (oE (xIx dIx oIx (oVar 0) (oE (eC (.int 1))))) aNil))) (xAndV (oE (xIsi isStr (oE (xIx dIx oIx (oVar 0) (oE (eC (.int 2))))))) (xCall m_is_known (aCons (oE (xIx dIx oIx (oVar 0) (oE (eC (.int 3))))) aNil))))))))))
def m_is_later_entry : List O → Option (O × List O) := runF 1 1 [0] b_is_later_entry
theorem m_len_is_later_entry {os : List O} {r : O × List O} (e : m_is_later_entry os = some r) : os.length = 1 ∧ r.2.length = 1 := runF_len e
abbrev s_entry_of : Stmt := topS 66
abbrev N_entry_of : List Str := ["n", "before", "line", "parts", "entry", "right"]
theorem sc_entry_of : FnScope N_entry_of ["n", "before", "line"] (defScope s_entry_of) := ⟨rfl, rfl, rfl, by decide +kernel, rfl, by decide +kernel, by decide +kernel⟩
noncomputable def b_entry_of (C_BadPlain : Addr) (C_Reader : Addr) : XS :=
  (sSeq (sAsg (xMA dSplit2 (oE (eVar 2)) (aCons (oE (eC (.str (PySem.Str.ofString " ")))) (aCons (oE (eC (.int 2))) aNil))) (gN 3))
    (sSeq (sIf (xOr (xB (oE (xS2 dLt (oE (xSN dLen (aCons (oVar 3) aNil))) (oE (eC (.int 3)))))) (xOr (xB (oE (xS2 dNe (oE (xIx dIx oIx (oVar 3) (oE (eC (.int 0))))) (oE (xSN dStrOf (aCons (oVar 0) aNil)))))) (xB (oE (xS2 dNe (oE (xIx dIx oIx (oVar 3) (oE (eC (.int 1))))) (oE (xSN dStrOf (aCons (oE (xCall m_sum_of (aCons (oVar 0) (aCons (oVar 1) (aCons (oE (xIx dIx oIx (oVar 3) (oE (eC (.int 2))))) aNil))))) aNil)))))))) (sRet (eC .non)) sNext)
    (sSeq (sTryO ((sAsgR (rCall (m_read_plain C_BadPlain C_Reader) (aCons (oE (xIx dIx oIx (oVar 3) (oE (eC (.int 2))))) aNil)) (gN 4))) C_BadPlain ((sRet (eC .non))))
    (sSeq (sAsg (xIf (xB (oE (xS2 dEq (oVar 0) (oE (eC (.int 0)))))) (xCall m_is_first_entry (aCons (oVar 4) aNil)) (xCall m_is_later_entry (aCons (oVar 4) aNil))) (gN 5))
    (sRet (xIf (xTru (oVar 5)) (eVar 4) (eC .non)))))))
noncomputable def m_entry_of (C_BadPlain : Addr) (C_Reader : Addr) : List O → Option (O × List O) := runF 6 3 [0, 1, 2] (b_entry_of C_BadPlain C_Reader)
theorem m_len_entry_of (C_BadPlain : Addr) (C_Reader : Addr) {os : List O} {r : O × List O} (e : m_entry_of C_BadPlain C_Reader os = some r) : os.length = 3 ∧ r.2.length = 3 := runF_len e
abbrev s_read_journal : Stmt := topS 65
abbrev N_read_journal : List Str := ["text", "entries", "before", "many", "n", "line", "entry"]
theorem sc_read_journal : FnScope N_read_journal ["text"] (defScope s_read_journal) := ⟨rfl, rfl, rfl, by decide +kernel, rfl, by decide +kernel, by decide +kernel⟩
noncomputable def b_read_journal_1 (C_BadPlain : Addr) (C_Reader : Addr) : XS :=
  (sSeq (sAsg (xCall (m_entry_of C_BadPlain C_Reader) (aCons (oVar 4) (aCons (oVar 2) (aCons (oVar 5) aNil)))) (gN 6))
    (sSeq (sIf (xB (oE (xS2 dIsN (oVar 6) (oE (eC .non))))) sBrk sNext)
    (sSeq (sDrop (xApp 1 (eVar 6)))
    (sSeq (sAsg (xCall m_sum_in (aCons (oVar 5) aNil)) (gN 2))
    (sAug 3 dAddI (oE (xA2 dAdd (oE (xSN dLen (aCons (oVar 5) aNil))) (oE (eC (.int 1))))))))))
noncomputable def b_read_journal (C_BadPlain : Addr) (C_Reader : Addr) : XS :=
  (sSeq (sAsg (xLst aNil) (gN 1))
    (sSeq (sAsg (eC (.int 0)) (gN 2))
    (sSeq (sAsg (eC (.int 0)) (gN 3))
    (sSeq (sFor (iEn (oE (xSl (oE (xMA dSplit1 (oE (eVar 0)) (aCons (oE (eC (.str (PySem.Str.ofString "\n")))) aNil))) pNo (pEx (oE (xS1 dNeg (oE (eC (.int 1))))))))) (gTp 2 (gsCons (gN 4) (gsCons (gN 5) gsNil))) (b_read_journal_1 C_BadPlain C_Reader))
    (sRet (xTup (aCons (oE (xAN dTupOf (aCons (oE (eVar 1)) aNil))) (aCons (oE (eVar 3)) aNil))))))))
noncomputable def m_read_journal (C_BadPlain : Addr) (C_Reader : Addr) : List O → Option (O × List O) := runF 7 1 [0] (b_read_journal C_BadPlain C_Reader)
theorem m_len_read_journal (C_BadPlain : Addr) (C_Reader : Addr) {os : List O} {r : O × List O} (e : m_read_journal C_BadPlain C_Reader os = some r) : os.length = 1 ∧ r.2.length = 1 := runF_len e
abbrev s__law_cell : Stmt := topS 71
abbrev N__law_cell : List Str := ["script", "k"]
theorem sc__law_cell : FnScope N__law_cell ["script", "k"] (defScope s__law_cell) := ⟨rfl, rfl, rfl, by decide +kernel, rfl, by decide +kernel, by decide +kernel⟩
abbrev s__law_digits : Stmt := topS 72
abbrev N__law_digits : List Str := ["script", "first", "last", "digits", "k", "cell", "turn", "seed"]
theorem sc__law_digits : FnScope N__law_digits ["script", "first", "last"] (defScope s__law_digits) := ⟨rfl, rfl, rfl, by decide +kernel, rfl, by decide +kernel, by decide +kernel⟩
abbrev s__law_draw : Stmt := topS 73
abbrev N__law_draw : List Str := ["box", "many", "at"]
theorem sc__law_draw : FnScope N__law_draw ["box", "many"] (defScope s__law_draw) := ⟨rfl, rfl, rfl, by decide +kernel, rfl, by decide +kernel, by decide +kernel⟩
abbrev s__law_pick : Stmt := topS 74
abbrev N__law_pick : List Str := ["box", "things"]
theorem sc__law_pick : FnScope N__law_pick ["box", "things"] (defScope s__law_pick) := ⟨rfl, rfl, rfl, by decide +kernel, rfl, by decide +kernel, by decide +kernel⟩
abbrev s__law_like : Stmt := topS 75
abbrev N__law_like : List Str := ["told", "due", "k"]
theorem sc__law_like : FnScope N__law_like ["told", "due"] (defScope s__law_like) := ⟨rfl, rfl, rfl, by decide +kernel, rfl, by decide +kernel, by decide +kernel⟩
abbrev s__law_start : Stmt := topS 76
abbrev N__law_start : List Str := []
theorem sc__law_start : FnScope N__law_start [] (defScope s__law_start) := ⟨rfl, rfl, rfl, by decide +kernel, rfl, by decide +kernel, by decide +kernel⟩
def b__law_start : XS :=
  (sRet (xTup (aCons (oE (eC (.str (PySem.Str.ofString "network")))) (aCons (oE (xTup (aCons (oE (eC (.str (PySem.Str.ofString "a")))) (aCons (oE (eC (.str (PySem.Str.ofString "b")))) aNil)))) (aCons (oE (xTup (aCons (oE (xTup (aCons (oE (eC (.str (PySem.Str.ofString "u")))) (aCons (oE (eC (.str (PySem.Str.ofString "a")))) (aCons (oE (eC (.str (PySem.Str.ofString "b")))) (aCons (oE (xTup (aCons (oE (eC (.int 1))) (aCons (oE (eC (.int 1))) aNil)))) aNil)))))) (aCons (oE (xTup (aCons (oE (eC (.str (PySem.Str.ofString "v")))) (aCons (oE (eC (.str (PySem.Str.ofString "b")))) (aCons (oE (eC (.str (PySem.Str.ofString "a")))) (aCons (oE (xTup (aCons (oE (eC (.int 1))) (aCons (oE (eC (.int 2))) aNil)))) aNil)))))) aNil)))) aNil)))))
def m__law_start : List O → Option (O × List O) := runF 0 0 [] b__law_start
theorem m_len__law_start {os : List O} {r : O × List O} (e : m__law_start os = some r) : os.length = 0 ∧ r.2.length = 0 := runF_len e
abbrev s__law_entry : Stmt := topS 77
abbrev N__law_entry : List Str := ["box", "at", "notice", "rows"]
theorem sc__law_entry : FnScope N__law_entry ["box", "at"] (defScope s__law_entry) := ⟨rfl, rfl, rfl, by decide +kernel, rfl, by decide +kernel, by decide +kernel⟩
def b__law_entry : XS :=
  (sSeq (sAsg (xTup (aCons (oE (eC (.str (PySem.Str.ofString "notice")))) (aCons (oE (xA2 dAdd (oE (eC (.int 1))) (oE (eVar 1)))) (aCons (oE (xTup (aCons (oE (eC (.str (PySem.Str.ofString "wire")))) (aCons (oE (xTup (aCons (oE (eC (.str (PySem.Str.ofString "u")))) (aCons (oE (eC (.str (PySem.Str.ofString "a")))) (aCons (oE (eC (.str (PySem.Str.ofString "b")))) (aCons (oE (xTup (aCons (oE (xA2 dAdd (oE (eC (.int 1))) (oE (xCall m__law_draw (aCons (oVar 0) (aCons (oE (eC (.int 9))) aNil)))))) (aCons (oE (eC (.int 1))) aNil)))) aNil)))))) aNil)))) aNil)))) (gN 2))
    (sSeq (sIf (xB (oE (xS2 dEq (oVar 1) (oE (eC (.int 0)))))) (sRet (xIx dIx oIx (oE (xLst (aCons (oE (xTup (aCons (oE (eC (.str (PySem.Str.ofString "shop")))) (aCons (oE (eC (.str (PySem.Str.ofString "ha")))) (aCons (oE (xTup (aCons (oE (eC (.str (PySem.Str.ofString "hb")))) aNil))) (aCons (oE (xCall m__law_start aNil)) aNil)))))) (aCons (oE (xTup (aCons (oE (eC (.str (PySem.Str.ofString "short")))) (aCons (oE (xTup (aCons (oE (eC (.int 1))) (aCons (oE (xTup (aCons (oE (eC (.str (PySem.Str.ofString "a")))) (aCons (oE (eC .non)) aNil)))) aNil)))) aNil)))) aNil)))) (oE (xCall m__law_draw (aCons (oVar 0) (aCons (oE (eC (.int 2))) aNil)))))) sNext)
    (sSeq (sAsg (xLst (aCons (oE (xTup (aCons (oE (eC (.str (PySem.Str.ofString "published")))) (aCons (oE (eVar 2)) aNil)))) (aCons (oE (xTup (aCons (oE (eC (.str (PySem.Str.ofString "heard")))) (aCons (oE (eVar 2)) aNil)))) (aCons (oE (xTup (aCons (oE (eC (.str (PySem.Str.ofString "given")))) (aCons (oE (xTup (aCons (oE (eC (.str (PySem.Str.ofString "ring")))) (aCons (oE (eC (.str (PySem.Str.ofString "pa")))) (aCons (oE (eC (.str (PySem.Str.ofString "u")))) aNil))))) (aCons (oE (xCall m__law_draw (aCons (oVar 0) (aCons (oE (eC (.int 4))) aNil)))) aNil))))) (aCons (oE (xTup (aCons (oE (eC (.str (PySem.Str.ofString "told")))) (aCons (oE (xTup (aCons (oE (eC (.str (PySem.Str.ofString "known")))) aNil))) (aCons (oE (eC (.str (PySem.Str.ofString "3")))) (aCons (oE (eC (.int 3))) aNil)))))) (aCons (oE (xTup (aCons (oE (eC (.str (PySem.Str.ofString "told")))) (aCons (oE (xTup (aCons (oE (eC (.str (PySem.Str.ofString "stands")))) (aCons (oE (eC (.str (PySem.Str.ofString "pa")))) aNil)))) (aCons (oE (eC (.str (PySem.Str.ofString "missing")))) (aCons (oE (eC (.int 0))) aNil)))))) aNil)))))) (gN 3))
    (sRet (xCall m__law_pick (aCons (oVar 0) (aCons (oVar 3) aNil)))))))
def m__law_entry : List O → Option (O × List O) := runF 4 2 [0, 1] b__law_entry
theorem m_len__law_entry {os : List O} {r : O × List O} (e : m__law_entry os = some r) : os.length = 2 ∧ r.2.length = 2 := runF_len e
abbrev s__law_wrong : Stmt := topS 78
abbrev N__law_wrong : List Str := ["box", "rows"]
theorem sc__law_wrong : FnScope N__law_wrong ["box"] (defScope s__law_wrong) := ⟨rfl, rfl, rfl, by decide +kernel, rfl, by decide +kernel, by decide +kernel⟩
def b__law_wrong : XS :=
  (sSeq (sAsg (xLst (aCons (oE (xTup (aCons (oE (eC (.str (PySem.Str.ofString "published")))) (aCons (oE (xTup aNil)) aNil)))) (aCons (oE (xTup (aCons (oE (eC (.str (PySem.Str.ofString "published")))) aNil))) (aCons (oE (xTup (aCons (oE (eC (.str (PySem.Str.ofString "heard")))) (aCons (oE (xTup (aCons (oE (eC (.str (PySem.Str.ofString "notice")))) (aCons (oE (eC (.int 1))) (aCons (oE (xTup (aCons (oE (eC (.str (PySem.Str.ofString "withdraw")))) (aCons (oE (eC (.int 1))) aNil)))) aNil))))) aNil)))) (aCons (oE (xTup (aCons (oE (eC (.str (PySem.Str.ofString "given")))) (aCons (oE (eC (.int 5))) (aCons (oE (eC (.int 1))) aNil))))) (aCons (oE (xTup (aCons (oE (eC (.str (PySem.Str.ofString "given")))) (aCons (oE (xTup (aCons (oE (eC (.str (PySem.Str.ofString "ring")))) (aCons (oE (eC (.str (PySem.Str.ofString "P")))) (aCons (oE (eC (.str (PySem.Str.ofString "u")))) aNil))))) (aCons (oE (eC (.int 1))) aNil))))) aNil)))))) (gN 1))
    (sSeq (sAsg (xA2 dAdd (oE (eVar 1)) (oE (xLst (aCons (oE (xTup (aCons (oE (eC (.str (PySem.Str.ofString "given")))) (aCons (oE (xTup (aCons (oE (eC (.str (PySem.Str.ofString "ring")))) (aCons (oE (eC (.str (PySem.Str.ofString "pa")))) (aCons (oE (eC (.str (PySem.Str.ofString "u")))) aNil))))) aNil)))) (aCons (oE (xTup (aCons (oE (eC (.str (PySem.Str.ofString "told")))) (aCons (oE (eC (.int 5))) (aCons (oE (eC (.str (PySem.Str.ofString "")))) (aCons (oE (eC (.int 1))) aNil)))))) aNil))))) (gN 1))
    (sSeq (sAsg (xA2 dAdd (oE (eVar 1)) (oE (xLst (aCons (oE (xTup (aCons (oE (eC (.str (PySem.Str.ofString "told")))) (aCons (oE (xTup (aCons (oE (eC (.str (PySem.Str.ofString "known")))) aNil))) (aCons (oE (eC (.int 5))) (aCons (oE (eC (.int 1))) aNil)))))) (aCons (oE (xTup (aCons (oE (eC (.str (PySem.Str.ofString "told")))) (aCons (oE (xTup (aCons (oE (eC (.str (PySem.Str.ofString "known")))) aNil))) (aCons (oE (eC (.str (PySem.Str.ofString "3")))) (aCons (oE (eC (.str (PySem.Str.ofString "1")))) aNil)))))) (aCons (oE (xTup (aCons (oE (eC (.str (PySem.Str.ofString "told")))) (aCons (oE (xTup (aCons (oE (eC (.str (PySem.Str.ofString "known")))) aNil))) (aCons (oE (eC (.str (PySem.Str.ofString "3")))) aNil))))) (aCons (oE (xTup (aCons (oE (eC (.str (PySem.Str.ofString "jump")))) (aCons (oE (eC (.int 1))) aNil)))) (aCons (oE (xTup aNil)) (aCons (oE (eC (.int 7))) (aCons (oE (xTup (aCons (oE (eC (.str (PySem.Str.ofString "shop")))) (aCons (oE (eC (.str (PySem.Str.ofString "ha")))) (aCons (oE (xTup aNil)) (aCons (oE (xCall m__law_start aNil)) aNil)))))) (aCons (oE (xTup (aCons (oE (eC (.str (PySem.Str.ofString "short")))) (aCons (oE (eC (.int 3))) aNil)))) aNil))))))))))) (gN 1))
    (sRet (xCall m__law_pick (aCons (oVar 0) (aCons (oVar 1) aNil)))))))
def m__law_wrong : List O → Option (O × List O) := runF 2 1 [0] b__law_wrong
theorem m_len__law_wrong {os : List O} {r : O × List O} (e : m__law_wrong os = some r) : os.length = 1 ∧ r.2.length = 1 := runF_len e
abbrev s__law_sum : Stmt := topS 79
abbrev N__law_sum : List Str := ["n", "before", "text", "total", "k"]
theorem sc__law_sum : FnScope N__law_sum ["n", "before", "text"] (defScope s__law_sum) := ⟨rfl, rfl, rfl, by decide +kernel, rfl, by decide +kernel, by decide +kernel⟩
def b__law_sum_1 : XS :=
  (sAsg (xA2 dAdd (oE (eVar 3)) (oE (xA2 dMul (oE (xA2 dAdd (oE (eVar 4)) (oE (eC (.int 1))))) (oE (xSN dOrd (aCons (oE (xIx dIx oIx (oVar 2) (oVar 4))) aNil)))))) (gN 3))
def b__law_sum : XS :=
  (sSeq (sAsg (xA2 dAdd (oE (eVar 1)) (oE (eVar 0))) (gN 3))
    (sSeq (sFor (iR1 (oE (xSN dLen (aCons (oVar 2) aNil)))) (gN 4) b__law_sum_1)
    (sRet (xS2 dMod (oE (xSN dIntOf (aCons (oVar 3) aNil))) (oE (eC (.int 99991)))))))
def m__law_sum : List O → Option (O × List O) := runF 5 3 [0, 1, 2] b__law_sum
theorem m_len__law_sum {os : List O} {r : O × List O} (e : m__law_sum os = some r) : os.length = 3 ∧ r.2.length = 3 := runF_len e
abbrev s__law_lines : Stmt := topS 80
abbrev N__law_lines : List Str := ["entries", "lines", "before", "n", "text"]
theorem sc__law_lines : FnScope N__law_lines ["entries"] (defScope s__law_lines) := ⟨rfl, rfl, rfl, by decide +kernel, rfl, by decide +kernel, by decide +kernel⟩
def b__law_lines_1 : XS :=
  (sSeq (sAsg (xCall m_show_plain_9 (aCons (oE (xIx dIx oIx (oVar 0) (oVar 3))) aNil)) (gN 4))
    (sSeq (sAsg (xCall m__law_sum (aCons (oVar 3) (aCons (oVar 2) (aCons (oVar 4) aNil)))) (gN 2))
    (sDrop (xApp 1 (xA2 dAdd (oE (xA2 dAdd (oE (xA2 dAdd (oE (xA2 dAdd (oE (xSN dStrOf (aCons (oVar 3) aNil))) (oE (eC (.str (PySem.Str.ofString " ")))))) (oE (xSN dStrOf (aCons (oVar 2) aNil))))) (oE (eC (.str (PySem.Str.ofString " ")))))) (oE (eVar 4)))))))
def b__law_lines : XS :=
  (sSeq (sAsg (xLst aNil) (gN 1))
    (sSeq (sAsg (eC (.int 0)) (gN 2))
    (sSeq (sFor (iR1 (oE (xSN dLen (aCons (oVar 0) aNil)))) (gN 3) b__law_lines_1)
    (sRet (eMove 1)))))
def m__law_lines : List O → Option (O × List O) := runF 5 1 [0] b__law_lines
theorem m_len__law_lines {os : List O} {r : O × List O} (e : m__law_lines os = some r) : os.length = 1 ∧ r.2.length = 1 := runF_len e
abbrev s__law_shifted : Stmt := topS 81
abbrev N__law_shifted : List Str := ["box", "lines", "at", "kind", "words", "place", "sign", "text", "line"]
theorem sc__law_shifted : FnScope N__law_shifted ["box", "lines"] (defScope s__law_shifted) := ⟨rfl, rfl, rfl, by decide +kernel, rfl, by decide +kernel, by decide +kernel⟩
def b__law_shifted : XS :=
  (sSeq (sAsg (xS2 dMod (oE (xSN dIntOf (aCons (oE (xCall m__law_draw (aCons (oVar 0) (aCons (oE (eC (.int 900))) aNil)))) aNil))) (oE (xSN dLen (aCons (oVar 1) aNil)))) (gN 2))
    (sSeq (sAsg (xCall m__law_draw (aCons (oVar 0) (aCons (oE (eC (.int 9))) aNil))) (gN 3))
    (sSeq (sAsg (xMA dSplit2 (oE (xIx dIx oIx (oVar 1) (oVar 2))) (aCons (oE (eC (.str (PySem.Str.ofString " ")))) (aCons (oE (eC (.int 2))) aNil))) (gN 4))
    (sSeq (sIf (xB (oE (xS2 dEq (oVar 3) (oE (eC (.int 0)))))) (sAsg (xA2 dAdd (oE (xSl (oE (eVar 1)) pNo (pEx (oVar 2)))) (oE (xSl (oE (eVar 1)) (pEx (oE (xA2 dAdd (oE (eVar 2)) (oE (eC (.int 1)))))) pNo))) (gN 1)) (sIf (xB (oE (xS2 dEq (oVar 3) (oE (eC (.int 1)))))) (sAsg (xA2 dAdd (oE (xSl (oE (eVar 1)) pNo (pEx (oE (xA2 dAdd (oE (eVar 2)) (oE (eC (.int 1)))))))) (oE (xSl (oE (eVar 1)) (pEx (oVar 2)) pNo))) (gN 1)) (sIf (xAnd (xB (oE (xS2 dEq (oVar 3) (oE (eC (.int 2)))))) (xB (oE (xS2 dLt (oE (xA2 dAdd (oE (eVar 2)) (oE (eC (.int 1))))) (oE (xSN dLen (aCons (oVar 1) aNil))))))) (sAsg (xA2 dAdd (oE (xA2 dAdd (oE (xSl (oE (eVar 1)) pNo (pEx (oVar 2)))) (oE (xLst (aCons (oE (xIx dIx oIx (oVar 1) (oE (xA2 dAdd (oE (eVar 2)) (oE (eC (.int 1))))))) (aCons (oE (xIx dIx oIx (oVar 1) (oVar 2))) aNil)))))) (oE (xSl (oE (eVar 1)) (pEx (oE (xA2 dAdd (oE (eVar 2)) (oE (eC (.int 2)))))) pNo))) (gN 1)) (sIf (xB (oE (xS2 dEq (oVar 3) (oE (eC (.int 3)))))) (sAsg (xA2 dAdd (oE (xA2 dAdd (oE (xSl (oE (eVar 1)) pNo (pEx (oVar 2)))) (oE (xLst (aCons (oE (xCall m__law_pick (aCons (oVar 0) (aCons (oE (xLst (aCons (oE (xA2 dAdd (oE (eC (.str (PySem.Str.ofString "0")))) (oE (xIx dIx oIx (oVar 1) (oVar 2))))) (aCons (oE (xA2 dAdd (oE (xA2 dAdd (oE (xA2 dAdd (oE (xA2 dAdd (oE (xIx dIx oIx (oVar 4) (oE (eC (.int 0))))) (oE (eC (.str (PySem.Str.ofString "  ")))))) (oE (xIx dIx oIx (oVar 4) (oE (eC (.int 1))))))) (oE (eC (.str (PySem.Str.ofString " ")))))) (oE (xIx dIx oIx (oVar 4) (oE (eC (.int 2))))))) (aCons (oE (xA2 dAdd (oE (xA2 dAdd (oE (xA2 dAdd (oE (xA2 dAdd (oE (xIx dIx oIx (oVar 4) (oE (eC (.int 0))))) (oE (eC (.str (PySem.Str.ofString " 0")))))) (oE (xIx dIx oIx (oVar 4) (oE (eC (.int 1))))))) (oE (eC (.str (PySem.Str.ofString " ")))))) (oE (xIx dIx oIx (oVar 4) (oE (eC (.int 2))))))) (aCons (oE (xA2 dAdd (oE (xIx dIx oIx (oVar 1) (oVar 2))) (oE (eC (.str (PySem.Str.ofString " ")))))) (aCons (oE (eC (.str (PySem.Str.ofString "")))) aNil))))))) aNil)))) aNil))))) (oE (xSl (oE (eVar 1)) (pEx (oE (xA2 dAdd (oE (eVar 2)) (oE (eC (.int 1)))))) pNo))) (gN 1)) (sIf (xB (oE (xS2 dEq (oVar 3) (oE (eC (.int 4)))))) (sSeq (sAsg (xS2 dMod (oE (xSN dIntOf (aCons (oE (xCall m__law_draw (aCons (oVar 0) (aCons (oE (eC (.int 900))) aNil)))) aNil))) (oE (xSN dLen (aCons (oE (xIx dIx oIx (oVar 1) (oVar 2))) aNil)))) (gN 5))
    (sSeq (sAsg (xCall m__law_pick (aCons (oVar 0) (aCons (oE (xLst (aCons (oE (eC (.str (PySem.Str.ofString "0")))) (aCons (oE (eC (.str (PySem.Str.ofString "1")))) (aCons (oE (eC (.str (PySem.Str.ofString "7")))) (aCons (oE (eC (.str (PySem.Str.ofString " ")))) (aCons (oE (eC (.str (PySem.Str.ofString "p")))) aNil))))))) aNil))) (gN 6))
    (sAsg (xA2 dAdd (oE (xA2 dAdd (oE (xSl (oE (eVar 1)) pNo (pEx (oVar 2)))) (oE (xLst (aCons (oE (xA2 dAdd (oE (xA2 dAdd (oE (xSl (oE (xIx dIx oIx (oVar 1) (oVar 2))) pNo (pEx (oVar 5)))) (oE (eVar 6)))) (oE (xSl (oE (xIx dIx oIx (oVar 1) (oVar 2))) (pEx (oE (xA2 dAdd (oE (eVar 5)) (oE (eC (.int 1)))))) pNo)))) aNil))))) (oE (xSl (oE (eVar 1)) (pEx (oE (xA2 dAdd (oE (eVar 2)) (oE (eC (.int 1)))))) pNo))) (gN 1)))) sNext)))))
    (sSeq (sAsg (xMS dJoin (oE (eC (.str (PySem.Str.ofString "")))) (aCons (oE (eLc (iSeq (oE (eVar 1))) (gN 8) xYes (xA2 dAdd (oE (eVar 8)) (oE (eC (.str (PySem.Str.ofString "\n"))))) [8])) aNil)) (gN 7))
    (sSeq (sIf (xB (oE (xS2 dEq (oVar 3) (oE (eC (.int 5)))))) (sRet (xSl (oE (eVar 7)) pNo (pEx (oE (xS2 dMod (oE (xSN dIntOf (aCons (oE (xCall m__law_draw (aCons (oVar 0) (aCons (oE (eC (.int 900))) aNil)))) aNil))) (oE (xA2 dAdd (oE (xSN dLen (aCons (oVar 7) aNil))) (oE (eC (.int 1)))))))))) sNext)
    (sSeq (sIf (xB (oE (xS2 dEq (oVar 3) (oE (eC (.int 6)))))) (sRet (xSl (oE (eVar 7)) pNo (pEx (oE (xS1 dNeg (oE (eC (.int 1)))))))) sNext)
    (sRet (eMove 7)))))))))
def m__law_shifted : List O → Option (O × List O) := runF 9 2 [0] b__law_shifted
theorem m_len__law_shifted {os : List O} {r : O × List O} (e : m__law_shifted os = some r) : os.length = 2 ∧ r.2.length = 2 := runF_len e
abbrev s__law_due : Stmt := topS 82
abbrev N__law_due : List Str := ["entries", "lines", "text", "kept", "signs", "line"]
theorem sc__law_due : FnScope N__law_due ["entries", "lines", "text"] (defScope s__law_due) := ⟨rfl, rfl, rfl, by decide +kernel, rfl, by decide +kernel, by decide +kernel⟩
def b__law_due_1 : XS :=
  (sSeq (sIf (xB (oE (xS2 dNe (oE (xSl (oE (eVar 2)) (pEx (oVar 4)) (pEx (oE (xA2 dAdd (oE (xA2 dAdd (oE (eVar 4)) (oE (xSN dLen (aCons (oVar 5) aNil))))) (oE (eC (.int 1)))))))) (oE (xA2 dAdd (oE (eVar 5)) (oE (eC (.str (PySem.Str.ofString "\n"))))))))) sBrk sNext)
    (sSeq (sAsg (xA2 dAdd (oE (eVar 3)) (oE (eC (.int 1)))) (gN 3))
    (sAsg (xA2 dAdd (oE (xA2 dAdd (oE (eVar 4)) (oE (xSN dLen (aCons (oVar 5) aNil))))) (oE (eC (.int 1)))) (gN 4))))
def b__law_due : XS :=
  (sSeq (sAsg (eC (.int 0)) (gN 3))
    (sSeq (sAsg (eC (.int 0)) (gN 4))
    (sSeq (sFor (iSeq (oE (eVar 1))) (gN 5) b__law_due_1)
    (sRet (xTup (aCons (oE (xAN dTupOf (aCons (oE (xSl (oE (eVar 0)) pNo (pEx (oVar 3)))) aNil))) (aCons (oE (eVar 4)) aNil)))))))
def m__law_due : List O → Option (O × List O) := runF 6 3 [0, 1, 2] b__law_due
theorem m_len__law_due {os : List O} {r : O × List O} (e : m__law_due os = some r) : os.length = 3 ∧ r.2.length = 3 := runF_len e
abbrev s_law : Stmt := topS 83
abbrev N_law : List Str := ["script", "box", "turn", "entries", "lines", "before", "n", "text", "wrong", "headless", "at", "line"]
theorem sc_law : FnScope N_law ["script"] (defScope s_law) := ⟨rfl, rfl, rfl, by decide +kernel, rfl, by decide +kernel, by decide +kernel⟩
noncomputable def b_law_2 (C_BadPlain : Addr) (C_Reader : Addr) : XS :=
  (sSeq (sIf (xNot (xTru (oE (xCall m__law_like_8 (aCons (oE (xCall m_journal_line (aCons (oVar 6) (aCons (oVar 5) (aCons (oE (xIx dIx oIx (oVar 3) (oVar 6))) aNil))))) (aCons (oE (xA2 dAdd (oE (xIx dIx oIx (oVar 4) (oVar 6))) (oE (eC (.str (PySem.Str.ofString "\n")))))) aNil)))))) (sRet (eC (.bl false))) sNext)
    (sAsg (xSN dIntOf (aCons (oE (xIx dIx oIx (oE (xMA dSplit1 (oE (xIx dIx oIx (oVar 4) (oVar 6))) (aCons (oE (eC (.str (PySem.Str.ofString " ")))) aNil))) (oE (eC (.int 1))))) aNil)) (gN 5)))
noncomputable def b_law_1 (C_BadPlain : Addr) (C_Reader : Addr) : XS :=
  (sSeq (sAsg (eLc (iR1 (oE (xA2 dAdd (oE (eC (.int 1))) (oE (xCall m__law_draw (aCons (oVar 1) (aCons (oE (eC (.int 7))) aNil))))))) (gN 10) xYes (xCall m__law_entry (aCons (oVar 1) (aCons (oVar 10) aNil))) [10]) (gN 3))
    (sSeq (sAsg (xCall m__law_lines (aCons (oVar 3) aNil)) (gN 4))
    (sSeq (sAsg (eC (.int 0)) (gN 5))
    (sSeq (sFor (iR1 (oE (xSN dLen (aCons (oVar 3) aNil)))) (gN 6) (b_law_2 C_BadPlain C_Reader))
    (sSeq (sAsg (xCall m__law_shifted (aCons (oVar 1) (aCons (oE (eVar 4)) aNil))) (gN 7))
    (sSeq (sIf (xNot (xTru (oE (xCall m__law_like_8 (aCons (oE (xCall (m_read_journal C_BadPlain C_Reader) (aCons (oVar 7) aNil))) (aCons (oE (xCall m__law_due (aCons (oVar 3) (aCons (oVar 4) (aCons (oVar 7) aNil))))) aNil)))))) (sRet (eC (.bl false))) sNext)
    (sSeq (sAsg (xA2 dAdd (oE (eVar 3)) (oE (xLst (aCons (oE (xCall m__law_wrong (aCons (oVar 1) aNil))) aNil)))) (gN 8))
    (sSeq (sAsg (xMS dJoin (oE (eC (.str (PySem.Str.ofString "")))) (aCons (oE (eLc (iSeq (oE (xCall m__law_lines (aCons (oVar 8) aNil)))) (gN 11) xYes (xA2 dAdd (oE (eVar 11)) (oE (eC (.str (PySem.Str.ofString "\n"))))) [11])) aNil)) (gN 7))
    (sIf (xNot (xTru (oE (xCall m__law_like_8 (aCons (oE (xCall (m_read_journal C_BadPlain C_Reader) (aCons (oVar 7) aNil))) (aCons (oE (xCall m__law_due (aCons (oVar 3) (aCons (oVar 4) (aCons (oE (xMS dJoin (oE (eC (.str (PySem.Str.ofString "")))) (aCons (oE (eLc (iSeq (oE (eVar 4))) (gN 11) xYes (xA2 dAdd (oE (eVar 11)) (oE (eC (.str (PySem.Str.ofString "\n"))))) [11])) aNil))) aNil))))) aNil)))))) (sRet (eC (.bl false))) sNext)))))))))
noncomputable def b_law (C_BadPlain : Addr) (C_Reader : Addr) : XS :=
  (sSeq (sAsg (xLst (aCons (oE (xCall m__law_digits (aCons (oVar 0) (aCons (oE (eC (.int 0))) (aCons (oE (eC (.int 63))) aNil))))) (aCons (oE (eC (.int 0))) aNil))) (gN 1))
    (sSeq (sFor (iR1 (oE (eC (.int 3)))) (gN 2) (b_law_1 C_BadPlain C_Reader))
    (sSeq (sAsg (xA2 dAdd (oE (xLst (aCons (oE (xCall m__law_entry (aCons (oVar 1) (aCons (oE (eC (.int 1))) aNil)))) aNil))) (oE (xLst (aCons (oE (xCall m__law_entry (aCons (oVar 1) (aCons (oE (eC (.int 1))) aNil)))) aNil)))) (gN 9))
    (sRet (xCall m__law_like_8 (aCons (oE (xCall (m_read_journal C_BadPlain C_Reader) (aCons (oE (xMS dJoin (oE (eC (.str (PySem.Str.ofString "")))) (aCons (oE (eLc (iSeq (oE (xCall m__law_lines (aCons (oVar 9) aNil)))) (gN 11) xYes (xA2 dAdd (oE (eVar 11)) (oE (eC (.str (PySem.Str.ofString "\n"))))) [11])) aNil))) aNil))) (aCons (oE (xTup (aCons (oE (xTup aNil)) (aCons (oE (eC (.int 0))) aNil)))) aNil)))))))
noncomputable def m_law (C_BadPlain : Addr) (C_Reader : Addr) : List O → Option (O × List O) := runF 12 1 [0] (b_law C_BadPlain C_Reader)
theorem m_len_law (C_BadPlain : Addr) (C_Reader : Addr) {os : List O} {r : O × List O} (e : m_law C_BadPlain C_Reader os = some r) : os.length = 1 ∧ r.2.length = 1 := runF_len e
structure Txt (P : Program) (K : PySem.W.Frag) (w : World) (mg : Str → Option Value) where
  c_BadPlain : BpAt P K mg "BadPlain"
  c_Reader : ClAt K mg "Reader"
  n_Reader_signs : NoAttr K c_Reader.C "signs"
  n_Reader_veiled : NoAttr K c_Reader.C "veiled"
  d_is_name_fforms : FnAs K mg "is_name_fforms" "is_name" (topS 7) ["thing"]
  d_is_count : FnAt K mg "is_count" (topS 9) ["thing"]
  d_is_number_aforms : FnAs K mg "is_number_aforms" "is_number" (topS 12) ["thing"]
  d_is_name_aforms : FnAs K mg "is_name_aforms" "is_name" (topS 14) ["thing"]
  d_is_rising_aforms : FnAs K mg "is_rising_aforms" "is_rising" (topS 16) ["row"]
  d_are_names : FnAt K mg "are_names" (topS 18) ["thing"]
  d_is_ratio : FnAt K mg "is_ratio" (topS 22) ["thing"]
  d_is_typed : FnAt K mg "is_typed" (topS 23) ["thing"]
  d_is_wire_nets : FnAs K mg "is_wire_nets" "is_wire" (topS 27) ["thing", "places"]
  d_is_network : FnAt K mg "is_network" (topS 29) ["thing"]
  d_is_name_enames : FnAs K mg "is_name_enames" "is_name" (topS 31) ["thing"]
  d_is_number_enames : FnAs K mg "is_number_enames" "is_number" (topS 33) ["thing", "least", "most"]
  d_is_rising_enames : FnAs K mg "is_rising_enames" "is_rising" (topS 35) ["members"]
  d_is_rows : FnAt K mg "is_rows" (topS 37) ["thing", "least", "most"]
  d_show_plain : FnAt K mg "show_plain" (topS 43) ["value"]
  d_Reader_wrong_sign : MtAt K c_Reader.C "wrong_sign" "Reader.wrong_sign" (L2.inClass (topS 45) 4) ["self", "at", "stop", "slash"]
  d_Reader_string : MtAt K c_Reader.C "string" "Reader.string" (L2.inClass (topS 45) 3) ["self", "at"]
  d_Reader_integer : MtAt K c_Reader.C "integer" "Reader.integer" (L2.inClass (topS 45) 5) ["self", "at"]
  d_Reader_value : MtAt K c_Reader.C "value" "Reader.value" (L2.inClass (topS 45) 1) ["self", "at", "depth"]
  d_Reader_row : MtAt K c_Reader.C "row" "Reader.row" (L2.inClass (topS 45) 2) ["self", "at", "depth"]
  d_Reader___init__ : MtAt K c_Reader.C "__init__" "Reader.__init__" (L2.inClass (topS 45) 0) ["self", "text"]
  d_read_plain : FnAt K mg "read_plain" (topS 44) ["text"]
  d_is_wire_notices : FnAs K mg "is_wire_notices" "is_wire" (topS 48) ["thing"]
  d_is_notice : FnAt K mg "is_notice" (topS 47) ["thing"]
  d_is_limit : FnAt K mg "is_limit" (topS 52) ["one", "other", "limit"]
  d_is_told : FnAt K mg "is_told" (topS 53) ["thing", "kind", "least"]
  d_is_promise : FnAt K mg "is_promise" (topS 51) ["thing"]
  d_is_question : FnAt K mg "is_question" (topS 58) ["thing"]
  d_sum_of : FnAt K mg "sum_of" (topS 63) ["n", "before", "text"]
  d_journal_line : FnAt K mg "journal_line" (topS 62) ["n", "before", "entry"]
  d_sum_in : FnAt K mg "sum_in" (topS 64) ["line"]
  d_is_first_entry : FnAt K mg "is_first_entry" (topS 67) ["entry"]
  d_is_known : FnAt K mg "is_known" (topS 69) ["thing"]
  d_is_later_entry : FnAt K mg "is_later_entry" (topS 68) ["entry"]
  d_entry_of : FnAt K mg "entry_of" (topS 66) ["n", "before", "line"]
  d_read_journal : FnAt K mg "read_journal" (topS 65) ["text"]
  d__law_cell : FnAt K mg "_law_cell" (topS 71) ["script", "k"]
  d__law_digits : FnAt K mg "_law_digits" (topS 72) ["script", "first", "last"]
  d__law_draw : FnAt K mg "_law_draw" (topS 73) ["box", "many"]
  d__law_pick : FnAt K mg "_law_pick" (topS 74) ["box", "things"]
  d__law_like : FnAt K mg "_law_like" (topS 75) ["told", "due"]
  d__law_start : FnAt K mg "_law_start" (topS 76) []
  d__law_entry : FnAt K mg "_law_entry" (topS 77) ["box", "at"]
  d__law_wrong : FnAt K mg "_law_wrong" (topS 78) ["box"]
  d__law_sum : FnAt K mg "_law_sum" (topS 79) ["n", "before", "text"]
  d__law_lines : FnAt K mg "_law_lines" (topS 80) ["entries"]
  d__law_shifted : FnAt K mg "_law_shifted" (topS 81) ["box", "lines"]
  d__law_due : FnAt K mg "_law_due" (topS 82) ["entries", "lines", "text"]
  d_law : FnAt K mg "law" (topS 83) ["script"]
  h_dg : PySem.W.nsIn K cStatics "sys.int_max_str_digits" = some none
  z_abs : mg "abs" = none
  z_all : mg "all" = none
  z_bool : mg "bool" = none
  z_enumerate : mg "enumerate" = none
  z_int : mg "int" = none
  z_isinstance : mg "isinstance" = none
  z_len : mg "len" = none
  z_list : mg "list" = none
  z_map : mg "map" = none
  z_ord : mg "ord" = none
  z_range : mg "range" = none
  z_str : mg "str" = none
  z_sum : mg "sum" = none
  z_tuple : mg "tuple" = none
  z_zip : mg "zip" = none
  b_gcd : mg "gcd" = some (.builtin "math.gcd")
  b_accumulate : mg "accumulate" = some (.type "itertools.accumulate")
  i_DEEPEST : ∃ t, mg "DEEPEST" = some (.int 40 t)
  i_LONGEST_NAME_aforms : ∃ t, mg "LONGEST_NAME_aforms" = some (.int 12 t)
  i_LONGEST_NAME_fforms : ∃ t, mg "LONGEST_NAME_fforms" = some (.int 12 t)
  i_MODULUS : ∃ t, mg "MODULUS" = some (.int 99991 t)
  i_MOST_ABOVE : ∃ t, mg "MOST_ABOVE" = some (.int 1000000 t)
  i_MOST_BELOW : ∃ t, mg "MOST_BELOW" = some (.int 1000 t)
  i_MOST_DIGITS : ∃ t, mg "MOST_DIGITS" = some (.int 2000 t)
  i_MOST_KNOWN_journal : ∃ t, mg "MOST_KNOWN_journal" = some (.int 999 t)
  i_MOST_KNOWN_questions : ∃ t, mg "MOST_KNOWN_questions" = some (.int 999 t)
  i_MOST_PLACES : ∃ t, mg "MOST_PLACES" = some (.int 24 t)
  i_MOST_WIRES : ∃ t, mg "MOST_WIRES" = some (.int 60 t)
  s_DIGITS : ∃ t, mg "DIGITS" = some (.str (PySem.Str.ofString "0123456789") t)
  t_ALONE : KTup K mg "ALONE" [.str (PySem.Str.ofString "known"), .str (PySem.Str.ofString "trees"), .str (PySem.Str.ofString "bridges"), .str (PySem.Str.ofString "blocks")]
  t_NAMED : KTup K mg "NAMED" [.str (PySem.Str.ofString "stands"), .str (PySem.Str.ofString "causes"), .str (PySem.Str.ofString "cures")]
  k_WORDS : KTab K w mg "WORDS" [(PySem.Str.ofString "T", .bl true), (PySem.Str.ofString "F", .bl false), (PySem.Str.ofString "N", .non)]
section
variable {P : Program} {w : World} {K : PySem.W.Frag} {mg : Str → Option Value} {base : Heap}
theorem ok_is_name_fforms (T : Txt P K w mg) : FnOk P w K mg base CX0 1 T.d_is_name_fforms.f T.d_is_name_fforms.fd ["thing"] (spM K 1 m_is_name_fforms) := by
    refine ok_fn (N := N_is_name_fforms) (ps := ["thing"]) (k := 0) (pin := [0]) (body := b_is_name_fforms) T.d_is_name_fforms.F sc_is_name_fforms (by decide) fun cdv A outer s H E hr => ?_
    have hu : _ < _ := hu_of hr
    have hu64 := hr.units
    refine ⟨_, (pss_cons (ps_if (PW.pt (pw_or (pt_not (pt_truth (pe_callB call_isi (by rfl) T.z_isinstance (by decide +kernel) (pa_cons (pv 0) (pa_cons (pe_bltn (v := .ty "str") (u := .type "str") (by rfl) T.z_str (by decide +kernel) rfl) pa_nil))) (by intro _; rfl))) (pw_or1 (pt_not (pt_chain op_leIS op_leIS pe_int (pe_callB call_lenAll (by rfl) T.z_len (by decide +kernel) (pa_cons (pv 0) pa_nil)) (pe_glob (v := .int 12) rfl T.i_LONGEST_NAME_fforms.choose_spec ⟨_, rfl⟩)))))) (pss_one (ps_ret pe_bl)) pss_nil)
    (pss_one (ps_ret (pe_andT (pe_bm0 PySem.F.plainAttrs_str PySem.F.slot_str_isascii PySem.F.type_str_isascii mt_isascii (pv 0)) (pe_andT (pe_bm0 PySem.F.plainAttrs_str PySem.F.slot_str_isalnum PySem.F.type_str_isalnum mt_isalnum (pv 0)) (pe_andT (pe_bm0 PySem.F.plainAttrs_str PySem.F.slot_str_isalpha PySem.F.type_str_isalpha mt_isalpha (pe_ix (ix_all hu) (pv 0) pe_int (fun _ _ => rfl))) (pe_one (pe_cmpR (op_eqAll hu64) (pv 0) (pe_bm0 PySem.F.plainAttrs_str PySem.F.slot_str_lower PySem.F.type_str_lower mt_lower (pv 0)) (nomark _))))))))), fun B hK hp => ?_⟩
    subst hK
    exact (ss_seq (ss_if (st_or (st_not (st_tru (so_e (se_isi isTy_str so_var)))) (st_not (st_test (so_e (se_chain s2_le s2_le (so_e se_int) (so_e (se_sn sn_len (sa_cons so_var sa_nil))) (so_e se_int)))))) (ss_ret se_bl) ss_next)
    (ss_ret (se_andV (so_e (se_ms0 ms_b0 (so_e se_var))) (se_andV (so_e (se_ms0 ms_b0 (so_e se_var))) (se_andV (so_e (se_ms0 ms_b0 (so_e (se_ix ixOk_all ixOw_all so_var (so_e se_int))))) (se_s2 s2_eq so_var (so_e (se_ms0 ms_lower (so_e se_var)))))))))
theorem ok_is_count (T : Txt P K w mg) : FnOk P w K mg base CX0 1 T.d_is_count.f T.d_is_count.fd ["thing"] (spM K 1 m_is_count) := by
    refine ok_fn (N := N_is_count) (ps := ["thing"]) (k := 0) (pin := [0]) (body := b_is_count) T.d_is_count.F sc_is_count (by decide) fun cdv A outer s H E hr => ?_
    have hu : _ < _ := hu_of hr
    have hu64 := hr.units
    refine ⟨_, (pss_one (ps_ret (pe_andT (pe_callB call_isi (by rfl) T.z_isinstance (by decide +kernel) (pa_cons (pv 0) (pa_cons (pe_bltn (v := .ty "int") (u := .type "int") (by rfl) T.z_int (by decide +kernel) rfl) pa_nil))) (pe_andT (pe_notT (pe_callB call_isi (by rfl) T.z_isinstance (by decide +kernel) (pa_cons (pv 0) (pa_cons (pe_bltn (v := .ty "bool") (u := .type "bool") (by rfl) T.z_bool (by decide +kernel) rfl) pa_nil)))) (pe_one (pe_cmpR op_geIS (pv 0) pe_int (nomark _))))))), fun B hK hp => ?_⟩
    subst hK
    exact (ss_ret (se_andV (so_e (se_isi isTy_int so_var)) (se_andV (so_e (se_notV (so_e (se_isi isTy_bool so_var)))) (se_s2 s2_ge so_var (so_e se_int)))))
theorem ok_is_number_aforms (T : Txt P K w mg) : FnOk P w K mg base CX0 1 T.d_is_number_aforms.f T.d_is_number_aforms.fd ["thing"] (spM K 1 m_is_number_aforms) := by
    refine ok_fn (N := N_is_number_aforms) (ps := ["thing"]) (k := 0) (pin := [0]) (body := b_is_number_aforms) T.d_is_number_aforms.F sc_is_number_aforms (by decide) fun cdv A outer s H E hr => ?_
    have hu : _ < _ := hu_of hr
    have hu64 := hr.units
    refine ⟨_, (pss_one (ps_ret (pe_andT (pe_callB call_isi (by rfl) T.z_isinstance (by decide +kernel) (pa_cons (pv 0) (pa_cons (pe_bltn (v := .ty "int") (u := .type "int") (by rfl) T.z_int (by decide +kernel) rfl) pa_nil))) (pe_one (pe_notT (pe_callB call_isi (by rfl) T.z_isinstance (by decide +kernel) (pa_cons (pv 0) (pa_cons (pe_bltn (v := .ty "bool") (u := .type "bool") (by rfl) T.z_bool (by decide +kernel) rfl) pa_nil)))))))), fun B hK hp => ?_⟩
    subst hK
    exact (ss_ret (se_andV (so_e (se_isi isTy_int so_var)) (se_notV (so_e (se_isi isTy_bool so_var)))))
theorem ok_is_name_aforms (T : Txt P K w mg) : FnOk P w K mg base CX0 1 T.d_is_name_aforms.f T.d_is_name_aforms.fd ["thing"] (spM K 1 m_is_name_aforms) := by
    refine ok_fn (N := N_is_name_aforms) (ps := ["thing"]) (k := 0) (pin := [0]) (body := b_is_name_aforms) T.d_is_name_aforms.F sc_is_name_aforms (by decide) fun cdv A outer s H E hr => ?_
    have hu : _ < _ := hu_of hr
    have hu64 := hr.units
    refine ⟨_, (pss_cons (ps_if (PW.pt (pw_or (pt_not (pt_truth (pe_callB call_isi (by rfl) T.z_isinstance (by decide +kernel) (pa_cons (pv 0) (pa_cons (pe_bltn (v := .ty "str") (u := .type "str") (by rfl) T.z_str (by decide +kernel) rfl) pa_nil))) (by intro _; rfl))) (pw_or1 (pt_not (pt_chain op_leIS op_leIS pe_int (pe_callB call_lenAll (by rfl) T.z_len (by decide +kernel) (pa_cons (pv 0) pa_nil)) (pe_glob (v := .int 12) rfl T.i_LONGEST_NAME_aforms.choose_spec ⟨_, rfl⟩)))))) (pss_one (ps_ret pe_bl)) pss_nil)
    (pss_one (ps_ret (pe_andT (pe_bm0 PySem.F.plainAttrs_str PySem.F.slot_str_isascii PySem.F.type_str_isascii mt_isascii (pv 0)) (pe_andT (pe_bm0 PySem.F.plainAttrs_str PySem.F.slot_str_isalnum PySem.F.type_str_isalnum mt_isalnum (pv 0)) (pe_andT (pe_cmpR (op_eqAll hu64) (pv 0) (pe_bm0 PySem.F.plainAttrs_str PySem.F.slot_str_lower PySem.F.type_str_lower mt_lower (pv 0)) (nomark _)) (pe_one (pe_bm0 PySem.F.plainAttrs_str PySem.F.slot_str_isalpha PySem.F.type_str_isalpha mt_isalpha (pe_ix (ix_all hu) (pv 0) pe_int (fun _ _ => rfl)))))))))), fun B hK hp => ?_⟩
    subst hK
    exact (ss_seq (ss_if (st_or (st_not (st_tru (so_e (se_isi isTy_str so_var)))) (st_not (st_test (so_e (se_chain s2_le s2_le (so_e se_int) (so_e (se_sn sn_len (sa_cons so_var sa_nil))) (so_e se_int)))))) (ss_ret se_bl) ss_next)
    (ss_ret (se_andV (so_e (se_ms0 ms_b0 (so_e se_var))) (se_andV (so_e (se_ms0 ms_b0 (so_e se_var))) (se_andV (so_e (se_s2 s2_eq so_var (so_e (se_ms0 ms_lower (so_e se_var))))) (se_ms0 ms_b0 (so_e (se_ix ixOk_all ixOw_all so_var (so_e se_int)))))))))
theorem ok_is_rising_aforms (T : Txt P K w mg) : FnOk P w K mg base CX0 1 T.d_is_rising_aforms.f T.d_is_rising_aforms.fd ["row"] (spM K 1 m_is_rising_aforms) := by
    refine ok_fn (N := N_is_rising_aforms) (ps := ["row"]) (k := 0) (pin := [0]) (body := b_is_rising_aforms) T.d_is_rising_aforms.F sc_is_rising_aforms (by decide) fun cdv A outer s H E hr => ?_
    have hu : _ < _ := hu_of hr
    have hu64 := hr.units
    refine ⟨_, (pss_one (ps_ret (pe_callB (cr_all rfl) (by rfl) T.z_all (by decide +kernel) (pa_cons (pe_lcM (own := [("one", 1), ("other", 2)]) rfl sc_is_rising_aforms.nd (RZ.pi_zipA rfl T.z_zip (pa_cons (pv 0) (pa_cons (pe_slice sl_all (pv 0) (po_some pe_int) po_none) pa_nil))) (blkOk_by (own := [("one", 1), ("other", 2)]) (N := N_is_rising_aforms) (sc := (defScope s_is_rising_aforms)) (by decide +kernel)) (fun _ _ _ _ _ => (pg_tup (n := 2) rfl (pgs_cons (pg_name (i := 1) sc_is_rising_aforms.nd rfl (Or.inl rfl)) (pgs_cons (pg_name (i := 2) sc_is_rising_aforms.nd rfl (Or.inl rfl)) pgs_nil)))) (fun _ _ _ _ _ => pts_nil) (fun _ _ _ _ _ => (pe_cmpR op_ltIS (pv 1) (pv 2) (nomark _))) (fun _ _ _ _ _ => rfl) (fun _ _ _ _ _ => rfl) (fun _ _ _ _ _ => rfl)) pa_nil)))), fun B hK hp => ?_⟩
    subst hK
    exact (ss_ret (se_sn sn_all (sa_cons (so_e (se_lc (vs := [1, 2]) (by rw [hp]; decide) (si_zp (so_e se_var) (so_e (se_sl (so_e se_var) (sp_ex (so_e se_int)) sp_no))) (sgw_tup (n := 2) (sgsw_cons (sgw_name (by rw [hp]; decide) (by decide)) (sgsw_cons (sgw_name (by rw [hp]; decide) (by decide)) sgsw_nil))) st_yes (se_s2 s2_lt so_var so_var))) sa_nil)))
theorem ok_are_names (T : Txt P K w mg) : FnOk P w K mg base CX0 2 T.d_are_names.f T.d_are_names.fd ["thing"] (spM K 1 m_are_names) := by
    refine ok_fn (N := N_are_names) (ps := ["thing"]) (k := 1) (pin := [0]) (body := b_are_names) T.d_are_names.F sc_are_names (by decide) fun cdv A outer s H E hr => ?_
    have hu : _ < _ := hu_of hr
    have hu64 := hr.units
    refine ⟨_, (pss_one (ps_ret (pe_andT (pe_callB call_isi (by rfl) T.z_isinstance (by decide +kernel) (pa_cons (pv 0) (pa_cons (pe_bltn (v := .ty "tuple") (u := .type "tuple") (by rfl) T.z_tuple (by decide +kernel) rfl) pa_nil))) (pe_andT (pe_callB (cr_all rfl) (by rfl) T.z_all (by decide +kernel) (pa_cons (pe_lcM (own := [("name", 1)]) rfl sc_are_names.nd (pi_seq (pv 0)) (blkOk_by (own := [("name", 1)]) (N := N_are_names) (sc := (defScope s_are_names)) (by decide +kernel)) (fun _ _ _ _ _ => (pg_name (i := 1) sc_are_names.nd rfl (Or.inl rfl))) (fun _ _ _ _ _ => pts_nil) (fun _ _ _ _ _ => (pe_call (ok_is_name_aforms T) (hr.mono (by first | decide | omega)) rfl T.d_is_name_aforms.g T.d_is_name_aforms.F.kp T.d_is_name_aforms.b .nil pass0 (pa_cons (pv 1) pa_nil))) (fun _ _ _ _ _ => rfl) (fun _ _ _ _ _ => rfl) (fun _ _ _ _ _ => rfl)) pa_nil)) (pe_one (pe_call (ok_is_rising_aforms T) (hr.mono (by first | decide | omega)) rfl T.d_is_rising_aforms.g T.d_is_rising_aforms.F.kp T.d_is_rising_aforms.b .nil pass0 (pa_cons (pv 0) pa_nil))))))), fun B hK hp => ?_⟩
    subst hK
    exact (ss_ret (se_andV (so_e (se_isi isTy_tup so_var)) (se_andV (so_e (se_sn sn_all (sa_cons (so_e (se_lc (vs := [1]) (by rw [hp]; decide) (si_seq (so_e se_var)) (sgw_name (by rw [hp]; decide) (by decide)) st_yes (se_call (sa_cons so_var sa_nil) (fun os r e => m_len_is_name_aforms e)))) sa_nil))) (se_call (sa_cons so_var sa_nil) (fun os r e => m_len_is_rising_aforms e)))))
theorem ok_is_ratio (T : Txt P K w mg) : FnOk P w K mg base CX0 2 T.d_is_ratio.f T.d_is_ratio.fd ["thing"] (spM K 1 m_is_ratio) := by
    refine ok_fn (N := N_is_ratio) (ps := ["thing"]) (k := 1) (pin := [0]) (body := b_is_ratio) T.d_is_ratio.F sc_is_ratio (by decide) fun cdv A outer s H E hr => ?_
    have hu : _ < _ := hu_of hr
    have hu64 := hr.units
    refine ⟨_, (pss_cons (ps_if (PW.pt (pw_or (pt_not (pt_truth (pe_callB call_isi (by rfl) T.z_isinstance (by decide +kernel) (pa_cons (pv 0) (pa_cons (pe_bltn (v := .ty "tuple") (u := .type "tuple") (by rfl) T.z_tuple (by decide +kernel) rfl) pa_nil))) (by intro _; rfl))) (pw_or1 (pt_cmpR (op_neAll hu64) (pe_callB call_lenAll (by rfl) T.z_len (by decide +kernel) (pa_cons (pv 0) pa_nil)) pe_int (nomark _))))) (pss_one (ps_ret pe_bl)) pss_nil)
    (pss_cons (ps_asg (pv 0) (pg_tl rfl (pgs_cons (pg_name (i := 1) sc_is_ratio.nd rfl (Or.inl rfl)) (pgs_cons (pg_name (i := 2) sc_is_ratio.nd rfl (Or.inl rfl)) pgs_nil))))
    (pss_one (ps_ret (pe_andT (pe_call (ok_is_number_aforms T) (hr.mono (by first | decide | omega)) rfl T.d_is_number_aforms.g T.d_is_number_aforms.F.kp T.d_is_number_aforms.b .nil pass0 (pa_cons (pv 1) pa_nil)) (pe_andT (pe_call (ok_is_number_aforms T) (hr.mono (by first | decide | omega)) rfl T.d_is_number_aforms.g T.d_is_number_aforms.F.kp T.d_is_number_aforms.b .nil pass0 (pa_cons (pv 2) pa_nil)) (pe_andT (pe_cmpR op_geIS (pv 2) pe_int (nomark _)) (pe_one (pe_cmpR (op_eqAll hu64) (pe_callBfun cr_gcd rfl T.b_gcd (pa_cons (pv 1) (pa_cons (pv 2) pa_nil))) pe_int (nomark _)))))))))), fun B hK hp => ?_⟩
    subst hK
    exact (ss_seq (ss_if (st_or (st_not (st_tru (so_e (se_isi isTy_tup so_var)))) (st_test (so_e (se_s2 s2_ne (so_e (se_sn sn_len (sa_cons so_var sa_nil))) (so_e se_int))))) (ss_ret se_bl) ss_next)
    (ss_seq (ss_asg se_var (sg_tl (n := 2) (sgs_cons (sg_name (by rw [hp]; decide)) (sgs_cons (sg_name (by rw [hp]; decide)) sgs_nil))))
    (ss_ret (se_andV (so_e (se_call (sa_cons so_var sa_nil) (fun os r e => m_len_is_number_aforms e))) (se_andV (so_e (se_call (sa_cons so_var sa_nil) (fun os r e => m_len_is_number_aforms e))) (se_andV (so_e (se_s2 s2_ge so_var (so_e se_int))) (se_s2 s2_eq (so_e (se_sn sn_gcd (sa_cons so_var (sa_cons so_var sa_nil)))) (so_e se_int))))))))
theorem ok_is_typed (T : Txt P K w mg) : FnOk P w K mg base CX0 3 T.d_is_typed.f T.d_is_typed.fd ["thing"] (spM K 1 m_is_typed) := by
    refine ok_fn (N := N_is_typed) (ps := ["thing"]) (k := 2) (pin := [0]) (body := b_is_typed) T.d_is_typed.F sc_is_typed (by decide) fun cdv A outer s H E hr => ?_
    have hu : _ < _ := hu_of hr
    have hu64 := hr.units
    refine ⟨_, (pss_one (ps_ret (pe_andT (pe_call (ok_is_ratio T) (hr.mono (by first | decide | omega)) rfl T.d_is_ratio.g T.d_is_ratio.F.kp T.d_is_ratio.b .nil pass0 (pa_cons (pv 0) pa_nil)) (pe_andT (pe_cmpR op_leIS (pe_callB call_abs (by rfl) T.z_abs (by decide +kernel) (pa_cons (pe_ix (ix_all hu) (pv 0) pe_int (fun _ _ => rfl)) pa_nil)) (pe_glob (v := .int 1000000) rfl T.i_MOST_ABOVE.choose_spec ⟨_, rfl⟩) (nomark _)) (pe_one (pe_cmpR op_leIS (pe_ix (ix_all hu) (pv 0) pe_int (fun _ _ => rfl)) (pe_glob (v := .int 1000) rfl T.i_MOST_BELOW.choose_spec ⟨_, rfl⟩) (nomark _))))))), fun B hK hp => ?_⟩
    subst hK
    exact (ss_ret (se_andV (so_e (se_call (sa_cons so_var sa_nil) (fun os r e => m_len_is_ratio e))) (se_andV (so_e (se_s2 s2_le (so_e (se_sn sn_abs (sa_cons (so_e (se_ix ixOk_all ixOw_all so_var (so_e se_int))) sa_nil))) (so_e se_int))) (se_s2 s2_le (so_e (se_ix ixOk_all ixOw_all so_var (so_e se_int))) (so_e se_int)))))
theorem ok_is_wire_nets (T : Txt P K w mg) : FnOk P w K mg base CX0 4 T.d_is_wire_nets.f T.d_is_wire_nets.fd ["thing", "places"] (spM K 2 m_is_wire_nets) := by
    refine ok_fn (N := N_is_wire_nets) (ps := ["thing", "places"]) (k := 3) (pin := [0, 1]) (body := b_is_wire_nets) T.d_is_wire_nets.F sc_is_wire_nets (by decide) fun cdv A outer s H E hr => ?_
    have hu : _ < _ := hu_of hr
    have hu64 := hr.units
    refine ⟨_, (pss_cons (ps_if (PW.pt (pw_or (pt_not (pt_truth (pe_callB call_isi (by rfl) T.z_isinstance (by decide +kernel) (pa_cons (pv 0) (pa_cons (pe_bltn (v := .ty "tuple") (u := .type "tuple") (by rfl) T.z_tuple (by decide +kernel) rfl) pa_nil))) (by intro _; rfl))) (pw_or (pt_cmpR (op_neAll hu64) (pe_callB call_lenAll (by rfl) T.z_len (by decide +kernel) (pa_cons (pv 0) pa_nil)) pe_int (nomark _)) (pw_or1 (pt_not (pt_truth (pe_call (ok_is_name_aforms T) (hr.mono (by first | decide | omega)) rfl T.d_is_name_aforms.g T.d_is_name_aforms.F.kp T.d_is_name_aforms.b .nil pass0 (pa_cons (pe_ix (ix_all hu) (pv 0) pe_int (fun _ _ => rfl)) pa_nil)) (by intro _; rfl))))))) (pss_one (ps_ret pe_bl)) pss_nil)
    (pss_cons (ps_if (PW.pt (pw_or (pt_cmpR op_notIn_seq (pe_ix (ix_all hu) (pv 0) pe_int (fun _ _ => rfl)) (pv 1) (by rfl)) (pw_or (pt_cmpR op_notIn_seq (pe_ix (ix_all hu) (pv 0) pe_int (fun _ _ => rfl)) (pv 1) (by rfl)) (pw_or1 (pt_cmpR (op_eqAll hu64) (pe_ix (ix_all hu) (pv 0) pe_int (fun _ _ => rfl)) (pe_ix (ix_all hu) (pv 0) pe_int (fun _ _ => rfl)) (nomark _)))))) (pss_one (ps_ret pe_bl)) pss_nil)
    (pss_one (ps_ret (pe_andT (pe_call (ok_is_typed T) (hr.mono (by first | decide | omega)) rfl T.d_is_typed.g T.d_is_typed.F.kp T.d_is_typed.b .nil pass0 (pa_cons (pe_ix (ix_all hu) (pv 0) pe_int (fun _ _ => rfl)) pa_nil)) (pe_one (pe_cmpR op_gtIS (pe_ix (ix_all hu) (pe_ix (ix_all hu) (pv 0) pe_int (fun _ _ => rfl)) pe_int (fun _ _ => rfl)) pe_int (nomark _)))))))), fun B hK hp => ?_⟩
    subst hK
    exact (ss_seq (ss_if (st_or (st_not (st_tru (so_e (se_isi isTy_tup so_var)))) (st_or (st_test (so_e (se_s2 s2_ne (so_e (se_sn sn_len (sa_cons so_var sa_nil))) (so_e se_int)))) (st_not (st_tru (so_e (se_call (sa_cons (so_e (se_ix ixOk_all ixOw_all so_var (so_e se_int))) sa_nil) (fun os r e => m_len_is_name_aforms e))))))) (ss_ret se_bl) ss_next)
    (ss_seq (ss_if (st_or (st_test (so_e (se_s2 s2_notInSeq (so_e (se_ix ixOk_all ixOw_all so_var (so_e se_int))) so_var))) (st_or (st_test (so_e (se_s2 s2_notInSeq (so_e (se_ix ixOk_all ixOw_all so_var (so_e se_int))) so_var))) (st_test (so_e (se_s2 s2_eq (so_e (se_ix ixOk_all ixOw_all so_var (so_e se_int))) (so_e (se_ix ixOk_all ixOw_all so_var (so_e se_int)))))))) (ss_ret se_bl) ss_next)
    (ss_ret (se_andV (so_e (se_call (sa_cons (so_e (se_ix ixOk_all ixOw_all so_var (so_e se_int))) sa_nil) (fun os r e => m_len_is_typed e))) (se_s2 s2_gt (so_e (se_ix ixOk_all ixOw_all (so_e (se_ix ixOk_all ixOw_all so_var (so_e se_int))) (so_e se_int))) (so_e se_int))))))
theorem ok_is_network (T : Txt P K w mg) : FnOk P w K mg base CX0 5 T.d_is_network.f T.d_is_network.fd ["thing"] (spM K 1 m_is_network) := by
    refine ok_fn (N := N_is_network) (ps := ["thing"]) (k := 4) (pin := [0]) (body := b_is_network) T.d_is_network.F sc_is_network (by decide) fun cdv A outer s H E hr => ?_
    have hu : _ < _ := hu_of hr
    have hu64 := hr.units
    refine ⟨_, (pss_cons (ps_if (PW.pt (pw_or (pt_not (pt_truth (pe_callB call_isi (by rfl) T.z_isinstance (by decide +kernel) (pa_cons (pv 0) (pa_cons (pe_bltn (v := .ty "tuple") (u := .type "tuple") (by rfl) T.z_tuple (by decide +kernel) rfl) pa_nil))) (by intro _; rfl))) (pw_or (pt_cmpR (op_neAll hu64) (pe_callB call_lenAll (by rfl) T.z_len (by decide +kernel) (pa_cons (pv 0) pa_nil)) pe_int (nomark _)) (pw_or1 (pt_cmpR (op_neAll hu64) (pe_ix (ix_all hu) (pv 0) pe_int (fun _ _ => rfl)) pe_str (nomark _)))))) (pss_one (ps_ret pe_bl)) pss_nil)
    (pss_cons (ps_asg (pe_tup (pa_cons (pe_ix (ix_all hu) (pv 0) pe_int (fun _ _ => rfl)) (pa_cons (pe_ix (ix_all hu) (pv 0) pe_int (fun _ _ => rfl)) pa_nil))) (pg_tl rfl (pgs_cons (pg_name (i := 1) sc_is_network.nd rfl (Or.inr rfl)) (pgs_cons (pg_name (i := 2) sc_is_network.nd rfl (Or.inl rfl)) pgs_nil))))
    (pss_cons (ps_if (PW.pt (pw_or (pt_not (pt_truth (pe_call (ok_are_names T) (hr.mono (by first | decide | omega)) rfl T.d_are_names.g T.d_are_names.F.kp T.d_are_names.b .nil pass0 (pa_cons (pv 1) pa_nil)) (by intro _; rfl))) (pw_or1 (pt_not (pt_chain op_leIS op_leIS pe_int (pe_callB call_lenAll (by rfl) T.z_len (by decide +kernel) (pa_cons (pv 1) pa_nil)) (pe_glob (v := .int 24) rfl T.i_MOST_PLACES.choose_spec ⟨_, rfl⟩)))))) (pss_one (ps_ret pe_bl)) pss_nil)
    (pss_cons (ps_if (PW.pt (pw_or (pt_not (pt_truth (pe_callB call_isi (by rfl) T.z_isinstance (by decide +kernel) (pa_cons (pv 2) (pa_cons (pe_bltn (v := .ty "tuple") (u := .type "tuple") (by rfl) T.z_tuple (by decide +kernel) rfl) pa_nil))) (by intro _; rfl))) (pw_or1 (pt_cmpR op_gtIS (pe_callB call_lenAll (by rfl) T.z_len (by decide +kernel) (pa_cons (pv 2) pa_nil)) (pe_glob (v := .int 60) rfl T.i_MOST_WIRES.choose_spec ⟨_, rfl⟩) (nomark _))))) (pss_one (ps_ret pe_bl)) pss_nil)
    (pss_one (ps_ret (pe_andT (pe_callB (cr_all rfl) (by rfl) T.z_all (by decide +kernel) (pa_cons (pe_lcM (own := [("wire", 3)]) rfl sc_is_network.nd (pi_seq (pv 2)) (blkOk_by (own := [("wire", 3)]) (N := N_is_network) (sc := (defScope s_is_network)) (by decide +kernel)) (fun _ _ _ _ _ => (pg_name (i := 3) sc_is_network.nd rfl (Or.inl rfl))) (fun _ _ _ _ _ => pts_nil) (fun _ _ _ _ _ => (pe_call (ok_is_wire_nets T) (hr.mono (by first | decide | omega)) rfl T.d_is_wire_nets.g T.d_is_wire_nets.F.kp T.d_is_wire_nets.b .nil pass0 (pa_cons (pv 3) (pa_cons (pv 1) pa_nil)))) (fun _ _ _ _ _ => rfl) (fun _ _ _ _ _ => rfl) (fun _ _ _ _ _ => rfl)) pa_nil)) (pe_one (pe_call (ok_is_rising_aforms T) (hr.mono (by first | decide | omega)) rfl T.d_is_rising_aforms.g T.d_is_rising_aforms.F.kp T.d_is_rising_aforms.b .nil pass0 (pa_cons (pe_lcM (own := [("wire", 3)]) rfl sc_is_network.nd (pi_seq (pv 2)) (blkOk_by (own := [("wire", 3)]) (N := N_is_network) (sc := (defScope s_is_network)) (by decide +kernel)) (fun _ _ _ _ _ => (pg_name (i := 3) sc_is_network.nd rfl (Or.inl rfl))) (fun _ _ _ _ _ => pts_nil) (fun _ _ _ _ _ => (pe_ix (ix_all hu) (pv 3) pe_int (fun _ _ => rfl))) (fun _ _ _ _ _ => rfl) (fun _ _ _ _ _ => rfl) (fun _ _ _ _ _ => rfl)) pa_nil)))))))))), fun B hK hp => ?_⟩
    subst hK
    exact (ss_seq (ss_if (st_or (st_not (st_tru (so_e (se_isi isTy_tup so_var)))) (st_or (st_test (so_e (se_s2 s2_ne (so_e (se_sn sn_len (sa_cons so_var sa_nil))) (so_e se_int)))) (st_test (so_e (se_s2 s2_ne (so_e (se_ix ixOk_all ixOw_all so_var (so_e se_int))) (so_e se_str)))))) (ss_ret se_bl) ss_next)
    (ss_seq (ss_asg (se_tup (sa_cons (so_e (se_ix ixOk_all ixOw_all so_var (so_e se_int))) (sa_cons (so_e (se_ix ixOk_all ixOw_all so_var (so_e se_int))) sa_nil))) (sg_tl (n := 2) (sgs_cons (sg_name (by rw [hp]; decide)) (sgs_cons (sg_name (by rw [hp]; decide)) sgs_nil))))
    (ss_seq (ss_if (st_or (st_not (st_tru (so_e (se_call (sa_cons so_var sa_nil) (fun os r e => m_len_are_names e))))) (st_not (st_test (so_e (se_chain s2_le s2_le (so_e se_int) (so_e (se_sn sn_len (sa_cons so_var sa_nil))) (so_e se_int)))))) (ss_ret se_bl) ss_next)
    (ss_seq (ss_if (st_or (st_not (st_tru (so_e (se_isi isTy_tup so_var)))) (st_test (so_e (se_s2 s2_gt (so_e (se_sn sn_len (sa_cons so_var sa_nil))) (so_e se_int))))) (ss_ret se_bl) ss_next)
    (ss_ret (se_andV (so_e (se_sn sn_all (sa_cons (so_e (se_lc (vs := [3]) (by rw [hp]; decide) (si_seq (so_e se_var)) (sgw_name (by rw [hp]; decide) (by decide)) st_yes (se_call (sa_cons so_var (sa_cons so_var sa_nil)) (fun os r e => m_len_is_wire_nets e)))) sa_nil))) (se_call (sa_cons (so_e (se_lc (vs := [3]) (by rw [hp]; decide) (si_seq (so_e se_var)) (sgw_name (by rw [hp]; decide) (by decide)) st_yes (se_ix ixOk_all ixOw_all so_var (so_e se_int)))) sa_nil) (fun os r e => m_len_is_rising_aforms e))))))))
theorem ok_is_name_enames (T : Txt P K w mg) : FnOk P w K mg base CX0 1 T.d_is_name_enames.f T.d_is_name_enames.fd ["thing"] (spM K 1 m_is_name_enames) := by
    refine ok_fn (N := N_is_name_enames) (ps := ["thing"]) (k := 0) (pin := [0]) (body := b_is_name_enames) T.d_is_name_enames.F sc_is_name_enames (by decide) fun cdv A outer s H E hr => ?_
    have hu : _ < _ := hu_of hr
    have hu64 := hr.units
    refine ⟨_, (pss_cons (ps_if (PW.pt (pw_or (pt_not (pt_truth (pe_callB call_isi (by rfl) T.z_isinstance (by decide +kernel) (pa_cons (pv 0) (pa_cons (pe_bltn (v := .ty "str") (u := .type "str") (by rfl) T.z_str (by decide +kernel) rfl) pa_nil))) (by intro _; rfl))) (pw_or1 (pt_not (pt_chain op_leIS op_leIS pe_int (pe_callB call_lenAll (by rfl) T.z_len (by decide +kernel) (pa_cons (pv 0) pa_nil)) pe_int))))) (pss_one (ps_ret pe_bl)) pss_nil)
    (pss_one (ps_ret (pe_andT (pe_bm0 PySem.F.plainAttrs_str PySem.F.slot_str_isascii PySem.F.type_str_isascii mt_isascii (pv 0)) (pe_andT (pe_bm0 PySem.F.plainAttrs_str PySem.F.slot_str_isalnum PySem.F.type_str_isalnum mt_isalnum (pv 0)) (pe_andT (pe_cmpR (op_eqAll hu64) (pv 0) (pe_bm0 PySem.F.plainAttrs_str PySem.F.slot_str_lower PySem.F.type_str_lower mt_lower (pv 0)) (nomark _)) (pe_one (pe_bm0 PySem.F.plainAttrs_str PySem.F.slot_str_isalpha PySem.F.type_str_isalpha mt_isalpha (pe_ix (ix_all hu) (pv 0) pe_int (fun _ _ => rfl)))))))))), fun B hK hp => ?_⟩
    subst hK
    exact (ss_seq (ss_if (st_or (st_not (st_tru (so_e (se_isi isTy_str so_var)))) (st_not (st_test (so_e (se_chain s2_le s2_le (so_e se_int) (so_e (se_sn sn_len (sa_cons so_var sa_nil))) (so_e se_int)))))) (ss_ret se_bl) ss_next)
    (ss_ret (se_andV (so_e (se_ms0 ms_b0 (so_e se_var))) (se_andV (so_e (se_ms0 ms_b0 (so_e se_var))) (se_andV (so_e (se_s2 s2_eq so_var (so_e (se_ms0 ms_lower (so_e se_var))))) (se_ms0 ms_b0 (so_e (se_ix ixOk_all ixOw_all so_var (so_e se_int)))))))))
theorem ok_is_number_enames (T : Txt P K w mg) : FnOk P w K mg base CX0 1 T.d_is_number_enames.f T.d_is_number_enames.fd ["thing", "least", "most"] (spM K 3 m_is_number_enames) := by
    refine ok_fn (N := N_is_number_enames) (ps := ["thing", "least", "most"]) (k := 0) (pin := [0, 1, 2]) (body := b_is_number_enames) T.d_is_number_enames.F sc_is_number_enames (by decide) fun cdv A outer s H E hr => ?_
    have hu : _ < _ := hu_of hr
    have hu64 := hr.units
    refine ⟨_, (pss_one (ps_ret (pe_andT (pe_callB call_isi (by rfl) T.z_isinstance (by decide +kernel) (pa_cons (pv 0) (pa_cons (pe_bltn (v := .ty "int") (u := .type "int") (by rfl) T.z_int (by decide +kernel) rfl) pa_nil))) (pe_andT (pe_notT (pe_callB call_isi (by rfl) T.z_isinstance (by decide +kernel) (pa_cons (pv 0) (pa_cons (pe_bltn (v := .ty "bool") (u := .type "bool") (by rfl) T.z_bool (by decide +kernel) rfl) pa_nil)))) (pe_one (pe_chain op_leIS op_leIS (pv 1) (pv 0) (pv 2))))))), fun B hK hp => ?_⟩
    subst hK
    exact (ss_ret (se_andV (so_e (se_isi isTy_int so_var)) (se_andV (so_e (se_notV (so_e (se_isi isTy_bool so_var)))) (se_chain s2_le s2_le so_var so_var so_var))))
theorem ok_is_rising_enames (T : Txt P K w mg) : FnOk P w K mg base CX0 1 T.d_is_rising_enames.f T.d_is_rising_enames.fd ["members"] (spM K 1 m_is_rising_enames) := by
    refine ok_fn (N := N_is_rising_enames) (ps := ["members"]) (k := 0) (pin := [0]) (body := b_is_rising_enames) T.d_is_rising_enames.F sc_is_rising_enames (by decide) fun cdv A outer s H E hr => ?_
    have hu : _ < _ := hu_of hr
    have hu64 := hr.units
    refine ⟨_, (pss_one (ps_ret (pe_callB (cr_all rfl) (by rfl) T.z_all (by decide +kernel) (pa_cons (pe_lcM (own := [("one", 1), ("other", 2)]) rfl sc_is_rising_enames.nd (RZ.pi_zipA rfl T.z_zip (pa_cons (pv 0) (pa_cons (pe_slice sl_all (pv 0) (po_some pe_int) po_none) pa_nil))) (blkOk_by (own := [("one", 1), ("other", 2)]) (N := N_is_rising_enames) (sc := (defScope s_is_rising_enames)) (by decide +kernel)) (fun _ _ _ _ _ => (pg_tup (n := 2) rfl (pgs_cons (pg_name (i := 1) sc_is_rising_enames.nd rfl (Or.inl rfl)) (pgs_cons (pg_name (i := 2) sc_is_rising_enames.nd rfl (Or.inl rfl)) pgs_nil)))) (fun _ _ _ _ _ => pts_nil) (fun _ _ _ _ _ => (pe_cmpR op_ltIS (pv 1) (pv 2) (nomark _))) (fun _ _ _ _ _ => rfl) (fun _ _ _ _ _ => rfl) (fun _ _ _ _ _ => rfl)) pa_nil)))), fun B hK hp => ?_⟩
    subst hK
    exact (ss_ret (se_sn sn_all (sa_cons (so_e (se_lc (vs := [1, 2]) (by rw [hp]; decide) (si_zp (so_e se_var) (so_e (se_sl (so_e se_var) (sp_ex (so_e se_int)) sp_no))) (sgw_tup (n := 2) (sgsw_cons (sgw_name (by rw [hp]; decide) (by decide)) (sgsw_cons (sgw_name (by rw [hp]; decide) (by decide)) sgsw_nil))) st_yes (se_s2 s2_lt so_var so_var))) sa_nil)))
theorem ok_is_rows (T : Txt P K w mg) : FnOk P w K mg base CX0 2 T.d_is_rows.f T.d_is_rows.fd ["thing", "least", "most"] (spM K 3 m_is_rows) := by
    refine ok_fn (N := N_is_rows) (ps := ["thing", "least", "most"]) (k := 1) (pin := [0, 1, 2]) (body := b_is_rows) T.d_is_rows.F sc_is_rows (by decide) fun cdv A outer s H E hr => ?_
    have hu : _ < _ := hu_of hr
    have hu64 := hr.units
    refine ⟨_, (pss_cons (ps_if (pt_not (pt_truth (pe_callB call_isi (by rfl) T.z_isinstance (by decide +kernel) (pa_cons (pv 0) (pa_cons (pe_bltn (v := .ty "tuple") (u := .type "tuple") (by rfl) T.z_tuple (by decide +kernel) rfl) pa_nil))) (by intro _; rfl))) (pss_one (ps_ret pe_bl)) pss_nil)
    (pss_cons (ps_for PassesOwn.never rfl (pi_seq (pv 0)) (pg_name (i := 3) sc_is_rows.nd rfl (Or.inl rfl)) (pss_cons (ps_if (PW.pt (pw_or (pt_not (pt_truth (pe_callB call_isi (by rfl) T.z_isinstance (by decide +kernel) (pa_cons (pv 3) (pa_cons (pe_bltn (v := .ty "tuple") (u := .type "tuple") (by rfl) T.z_tuple (by decide +kernel) rfl) pa_nil))) (by intro _; rfl))) (pw_or1 (pt_cmpR (op_neAll hu64) (pe_callB call_lenAll (by rfl) T.z_len (by decide +kernel) (pa_cons (pv 3) pa_nil)) pe_int (nomark _))))) (pss_one (ps_ret pe_bl)) pss_nil)
    (pss_one (ps_if (PW.pt (pw_or (pt_not (pt_truth (pe_call (ok_is_name_enames T) (hr.mono (by first | decide | omega)) rfl T.d_is_name_enames.g T.d_is_name_enames.F.kp T.d_is_name_enames.b .nil pass0 (pa_cons (pe_ix (ix_all hu) (pv 3) pe_int (fun _ _ => rfl)) pa_nil)) (by intro _; rfl))) (pw_or1 (pt_not (pt_truth (pe_call (ok_is_number_enames T) (hr.mono (by first | decide | omega)) rfl T.d_is_number_enames.g T.d_is_number_enames.F.kp T.d_is_number_enames.b .nil pass0 (pa_cons (pe_ix (ix_all hu) (pv 3) pe_int (fun _ _ => rfl)) (pa_cons (pv 1) (pa_cons (pv 2) pa_nil)))) (by intro _; rfl)))))) (pss_one (ps_ret pe_bl)) pss_nil))))
    (pss_one (ps_ret (pe_call (ok_is_rising_enames T) (hr.mono (by first | decide | omega)) rfl T.d_is_rising_enames.g T.d_is_rising_enames.F.kp T.d_is_rising_enames.b .nil pass0 (pa_cons (pe_lcM (own := [("row", 3)]) rfl sc_is_rows.nd (pi_seq (pv 0)) (blkOk_by (own := [("row", 3)]) (N := N_is_rows) (sc := (defScope s_is_rows)) (by decide +kernel)) (fun _ _ _ _ _ => (pg_name (i := 3) sc_is_rows.nd rfl (Or.inl rfl))) (fun _ _ _ _ _ => pts_nil) (fun _ _ _ _ _ => (pe_ix (ix_all hu) (pv 3) pe_int (fun _ _ => rfl))) (fun _ _ _ _ _ => rfl) (fun _ _ _ _ _ => rfl) (fun _ _ _ _ _ => rfl)) pa_nil)))))), fun B hK hp => ?_⟩
    subst hK
    exact (ss_seq (ss_if (st_not (st_tru (so_e (se_isi isTy_tup so_var)))) (ss_ret se_bl) ss_next)
    (ss_seq (ss_for (si_seq (so_e se_var)) (sg_name (by rw [hp]; decide)) (ss_seq (ss_if (st_or (st_not (st_tru (so_e (se_isi isTy_tup so_var)))) (st_test (so_e (se_s2 s2_ne (so_e (se_sn sn_len (sa_cons so_var sa_nil))) (so_e se_int))))) (ss_ret se_bl) ss_next)
    (ss_if (st_or (st_not (st_tru (so_e (se_call (sa_cons (so_e (se_ix ixOk_all ixOw_all so_var (so_e se_int))) sa_nil) (fun os r e => m_len_is_name_enames e))))) (st_not (st_tru (so_e (se_call (sa_cons (so_e (se_ix ixOk_all ixOw_all so_var (so_e se_int))) (sa_cons so_var (sa_cons so_var sa_nil))) (fun os r e => m_len_is_number_enames e)))))) (ss_ret se_bl) ss_next)))
    (ss_ret (se_call (sa_cons (so_e (se_lc (vs := [3]) (by rw [hp]; decide) (si_seq (so_e se_var)) (sgw_name (by rw [hp]; decide) (by decide)) st_yes (se_ix ixOk_all ixOw_all so_var (so_e se_int)))) sa_nil) (fun os r e => m_len_is_rising_enames e)))))
theorem ok_show_plain (T : Txt P K w mg) : ∀ n : Nat, FnOk P w K mg base CX0 (n + 0) T.d_show_plain.f T.d_show_plain.fd ["value"] (spM K 1 (m_show_plain n))
  | 0 => FnOk.no
  | n + 1 => by
    have G := ok_show_plain T n
    refine ok_fnT (N := N_show_plain) (ps := ["value"]) (k := n + 0) (pin := [0]) (body := b_show_plain (fun _ => m_show_plain n) n) T.d_show_plain.F sc_show_plain (by decide) (by decide +kernel) (by decide) fun cdv A outer s H E hr => ?_
    have hu : _ < _ := hu_of hr
    have hu64 := hr.units
    refine ⟨_, (psst_cons (CwR.pst_if (pt_truth (pe_callB call_isi (by rfl) T.z_isinstance (by decide +kernel) (pa_cons (pv 0) (pa_cons (pe_bltn (v := .ty "str") (u := .type "str") (by rfl) T.z_str (by decide +kernel) rfl) pa_nil))) (by intro _; rfl)) (CwR.psst_one (CwR.pst_ret (CwR.pet_op op_addAll (CwR.pet_op op_addAll (CwR.PET.of pe_str) (CwR.pet_replT (y := (PySem.Str.ofString "\n")) (z := (PySem.Str.ofString "\\n")) (CwR.pet_replT (y := (PySem.Str.ofString "\"")) (z := (PySem.Str.ofString "\\\"")) (CwR.pet_replT (y := (PySem.Str.ofString "\\")) (z := (PySem.Str.ofString "\\\\")) (CwR.PET.of (pv 0)) (by decide +kernel)) (by decide +kernel)) (by decide +kernel))) (CwR.PET.of pe_str)))) CwR.psst_nil)
    (psst_cons (PST.of (ps_if (pt_truth (pe_callB call_isi (by rfl) T.z_isinstance (by decide +kernel) (pa_cons (pv 0) (pa_cons (pe_bltn (v := .ty "tuple") (u := .type "tuple") (by rfl) T.z_tuple (by decide +kernel) rfl) pa_nil))) (by intro _; rfl)) (pss_one (ps_ret (pe_op op_addAll (pe_op op_addAll pe_str (pe_bm PySem.F.plainAttrs_str PySem.F.slot_str_join PySem.F.type_str_join mt_joinK pe_str (pa_cons (pe_lcM (own := [("member", 1)]) rfl sc_show_plain.nd (pi_seq (pv 0)) (blkOk_by (own := [("member", 1)]) (N := N_show_plain) (sc := (defScope s_show_plain)) (by decide +kernel)) (fun _ _ _ _ _ => (pg_name (i := 1) sc_show_plain.nd rfl (Or.inl rfl))) (fun _ _ _ _ _ => pts_nil) (fun _ _ _ _ _ => (pe_call G (hr.mono (by first | decide | omega)) rfl T.d_show_plain.g T.d_show_plain.F.kp T.d_show_plain.b .nil pass0 (pa_cons (pv 1) pa_nil))) (fun _ _ _ _ _ => rfl) (fun _ _ _ _ _ => rfl) (fun _ _ _ _ _ => rfl)) pa_nil))) pe_str))) pss_nil))
    (psst_cons (PST.of (ps_if (pt_cmpR op_isN (pv 0) pe_non (nomark _)) (pss_one (ps_ret pe_str)) pss_nil))
    (psst_cons (PST.of (ps_if (pt_cmpR op_isBl1 (pv 0) pe_bl (nomark _)) (pss_one (ps_ret pe_str)) pss_nil))
    (psst_cons (PST.of (ps_if (pt_cmpR op_isBl1 (pv 0) pe_bl (nomark _)) (pss_one (ps_ret pe_str)) pss_nil))
    (CwR.psst_one (PST.of (ps_ret (pe_callTy call_strOf (by rfl) T.z_str (by decide +kernel) (pa_cons (pv 0) pa_nil)))))))))), fun B hK hp => ?_⟩
    subst hK
    exact (ss_seq (ss_if (st_tru (so_e (se_isi isTy_str so_var))) (ss_ret (se_a2 a2_add (so_e (se_a2 a2_add (so_e se_str) (so_e (se_repl (so_e (se_repl (so_e (se_repl (so_e se_var))))))))) (so_e se_str))) ss_next)
    (ss_seq (ss_if (st_tru (so_e (se_isi isTy_tup so_var))) (ss_ret (se_a2 a2_add (so_e (se_a2 a2_add (so_e se_str) (so_e (se_ms ms_join (so_e se_str) (sa_cons (so_e (se_lc (vs := [1]) (by rw [hp]; decide) (si_seq (so_e se_var)) (sgw_name (by rw [hp]; decide) (by decide)) st_yes (se_call (sa_cons so_var sa_nil) (fun os r e => m_len_show_plain n e)))) sa_nil))))) (so_e se_str))) ss_next)
    (ss_seq (ss_if (st_test (so_e (se_s2 s2_isN so_var (so_e se_non)))) (ss_ret se_str) ss_next)
    (ss_seq (ss_if (st_test (so_e (se_s2 s2_isB so_var (so_e se_bl)))) (ss_ret se_str) ss_next)
    (ss_seq (ss_if (st_test (so_e (se_s2 s2_isB so_var (so_e se_bl)))) (ss_ret se_str) ss_next)
    (ss_ret (se_sn sn_strOf (sa_cons so_var sa_nil))))))))
theorem ok_show_plain_9 (T : Txt P K w mg) : FnOk P w K mg base CX0 9 T.d_show_plain.f T.d_show_plain.fd ["value"] (spM K 1 m_show_plain_9) := ok_show_plain T 9
theorem ok_Reader_wrong_sign (T : Txt P K w mg) : FnOk P w K mg base CX0 1 T.d_Reader_wrong_sign.f T.d_Reader_wrong_sign.fd ["self", "at", "stop", "slash"] (spM K 4 (m_Reader_wrong_sign T.c_Reader.C)) := by
    refine ok_fn (N := N_Reader_wrong_sign) (ps := ["self", "at", "stop", "slash"]) (k := 0) (pin := [0, 1, 2, 3]) (body := b_Reader_wrong_sign T.c_Reader.C) T.d_Reader_wrong_sign.F sc_Reader_wrong_sign (by decide) fun cdv A outer s H E hr => ?_
    have hu : _ < _ := hu_of hr
    have hu64 := hr.units
    refine ⟨_, (pss_cons (ps_for PassesOwn.never rfl (pi_range2 rfl T.z_range (pa_cons (pv 1) (pa_cons (pv 2) pa_nil))) (pg_name (i := 4) sc_Reader_wrong_sign.nd rfl (Or.inl rfl)) (pss_cons (ps_if (pt_not (pt_chain op_leIS op_leIS pe_str (pe_ix (ix_all hu) (pe_fld (pv 0) rfl) (pv 4) (fun _ _ => rfl)) pe_str)) (pss_one (ps_ret (pv 4))) pss_nil)
    (pss_one (ps_if (pt_cmpR (op_eqAll hu64) (pv 4) (pv 3) (nomark _)) (pss_one (ps_ret (pe_op op_addAll (pv 4) pe_int))) pss_nil))))
    (pss_one (ps_ret (pv 2)))), fun B hK hp => ?_⟩
    subst hK
    exact (ss_seq (ss_for (si_r2 so_var so_var) (sg_name (by rw [hp]; decide)) (ss_seq (ss_if (st_not (st_test (so_e (se_chain s2_le s2_le (so_e se_str) (so_e (se_ix ixOk_all ixOw_all (so_e (se_fld T.c_Reader.cl T.n_Reader_signs so_var)) so_var)) (so_e se_str))))) (ss_ret se_move) ss_next)
    (ss_if (st_test (so_e (se_s2 s2_eq so_var so_var))) (ss_ret (se_a2 a2_add (so_e se_var) (so_e se_int))) ss_next)))
    (ss_ret se_var))
theorem ok_Reader_string (T : Txt P K w mg) : FnOk P w K mg base (L2.CX P w) 3 T.d_Reader_string.f T.d_Reader_string.fd ["self", "at"] (spX K 2 (m_Reader_string T.c_BadPlain.C T.c_Reader.C)) := by
    refine ok_fnTX (N := N_Reader_string) (ps := ["self", "at"]) (k := 2) (pin := [0, 1]) (body := b_Reader_string T.c_BadPlain.C T.c_Reader.C) T.d_Reader_string.F sc_Reader_string (by decide) (by decide +kernel) (by decide) fun cdv A outer s H E hr => ?_
    have hu : _ < _ := hu_of hr
    have hu64 := hr.units
    refine ⟨_, (psst_cons (PST.of (ps_set (i := 2) sc_Reader_string.nd rfl (Or.inl rfl) (pe_bm PySem.F.plainAttrs_str PySem.F.slot_str_find PySem.F.type_str_find mt_find3 (pe_fld (pv 0) rfl) (pa_cons pe_str (pa_cons (pv 1) pa_nil)))))
    (psst_cons (PST.of (ps_set (i := 3) sc_Reader_string.nd rfl (Or.inl rfl) (pe_ifExp (pt_cmpR op_ltIS (pv 2) pe_int (nomark _)) (pe_callB call_lenAll (by rfl) T.z_len (by decide +kernel) (pa_cons (pe_fld (pv 0) rfl) pa_nil)) (pv 2))))
    (psst_cons (PST.of (ps_set (i := 4) sc_Reader_string.nd rfl (Or.inl rfl) (pe_slice sl_all (pe_fld (pv 0) rfl) (po_some (pv 1)) (po_some (pv 3)))))
    (psst_cons (PST.of (ps_set (i := 5) sc_Reader_string.nd rfl (Or.inl rfl) (pe_bm PySem.F.plainAttrs_str PySem.F.slot_str_find PySem.F.type_str_find mt_find4 (pe_fld (pv 0) rfl) (pa_cons pe_str (pa_cons (pv 1) (pa_cons (pv 3) pa_nil))))))
    (psst_cons (PST.of (ps_if (PW.pt (pw_or (pt_cmpR op_geIS (pv 5) pe_int (nomark _)) (pw_or (pt_not (pt_truth (pe_bm0 PySem.F.plainAttrs_str PySem.F.slot_str_isascii PySem.F.type_str_isascii mt_isascii (pv 4)) (by intro _; rfl))) (pw_or1 (pt_not (pt_truth (pe_bm0 PySem.F.plainAttrs_str PySem.F.slot_str_isprintable PySem.F.type_str_isprintable mt_isprintable (pv 4)) (by intro _; rfl))))))) (pss_one (ps_raise rfl (takes_of rfl rfl rfl rfl) (pmk_p T.c_BadPlain.T T.c_BadPlain.Z T.c_BadPlain.no T.c_BadPlain.ck (hr.mono (Nat.le_refl _)) (by first | decide | omega) T.c_BadPlain.g (pa_cons (pe_meth (pv 0) T.c_Reader.cl T.d_Reader_wrong_sign.m (ok_Reader_wrong_sign T) (hr.mono (by first | decide | omega)) T.d_Reader_wrong_sign.b .nil pass0 (pa_cons (pv 1) (pa_cons (pv 3) (pa_cons (pv 5) pa_nil)))) pa_nil) rfl (by decide) (by rfl) (by rfl)))) pss_nil))
    (psst_cons (PST.of (ps_if (pt_cmpR op_ltIS (pv 2) pe_int (nomark _)) (pss_one (ps_raise rfl (takes_of rfl rfl rfl rfl) (pmk_p T.c_BadPlain.T T.c_BadPlain.Z T.c_BadPlain.no T.c_BadPlain.ck (hr.mono (Nat.le_refl _)) (by first | decide | omega) T.c_BadPlain.g (pa_cons (pv 3) pa_nil) rfl (by decide) (by rfl) (by rfl)))) pss_nil))
    (psst_cons (CwR.pst_if (pt_cmpR op_in1 pe_str (pv 4) (by rfl)) (CwR.psst_one (pst_set (i := 4) sc_Reader_string.nd rfl (Or.inl rfl) (CwR.pet_replT (y := (PySem.Str.ofString "\t")) (z := (PySem.Str.ofString "\\")) (CwR.pet_replT (y := (PySem.Str.ofString "\\n")) (z := (PySem.Str.ofString "\n")) (CwR.pet_replT (y := (PySem.Str.ofString "\\\"")) (z := (PySem.Str.ofString "\"")) (CwR.pet_replT (y := (PySem.Str.ofString "\\\\")) (z := (PySem.Str.ofString "\t")) (CwR.PET.of (pv 4)) (by decide +kernel)) (by decide +kernel)) (by decide +kernel)) (by decide +kernel)))) CwR.psst_nil)
    (CwR.psst_one (PST.of (ps_ret (pe_tup (pa_cons (pv 4) (pa_cons (pe_op op_addAll (pv 2) pe_int) pa_nil))))))))))))), fun B hK hp hW => ?_⟩
    subst hK
    exact (ss_seq (ss_asg (se_ms ms_i1I (so_e (se_fld T.c_Reader.cl T.n_Reader_veiled so_var)) (sa_cons (so_e se_str) (sa_cons so_var sa_nil))) (sg_name (by rw [hp]; decide)))
    (ss_seq (ss_asg (se_if (st_test (so_e (se_s2 s2_lt so_var (so_e se_int)))) (se_sn sn_len (sa_cons (so_e (se_fld T.c_Reader.cl T.n_Reader_signs so_var)) sa_nil)) se_var) (sg_name (by rw [hp]; decide)))
    (ss_seq (ss_asg (se_sl (so_e (se_fld T.c_Reader.cl T.n_Reader_signs so_var)) (sp_ex so_var) (sp_ex so_var)) (sg_name (by rw [hp]; decide)))
    (ss_seq (ss_asg (se_ms ms_i1II (so_e (se_fld T.c_Reader.cl T.n_Reader_veiled so_var)) (sa_cons (so_e se_str) (sa_cons so_var (sa_cons so_var sa_nil)))) (sg_name (by rw [hp]; decide)))
    (ss_seq (ss_if (st_or (st_test (so_e (se_s2 s2_ge so_var (so_e se_int)))) (st_or (st_not (st_tru (so_e (se_ms0 ms_b0 (so_e se_var))))) (st_not (st_tru (so_e (se_ms0 ms_b0 (so_e se_var))))))) (ss_raisePW hW (sa_cons (so_e (se_meth so_var (sa_cons so_var (sa_cons so_var (sa_cons so_var sa_nil))) (fun os r e => m_len_Reader_wrong_sign T.c_Reader.C e))) sa_nil)) ss_next)
    (ss_seq (ss_if (st_test (so_e (se_s2 s2_lt so_var (so_e se_int)))) (ss_raisePW hW (sa_cons (so_e se_var) sa_nil)) ss_next)
    (ss_seq (ss_if (st_test (so_e (se_s2 s2_inS (so_e se_str) so_var))) (ss_asg (se_repl (so_e (se_repl (so_e (se_repl (so_e (se_repl (so_e se_var)))))))) (sg_name (by rw [hp]; decide))) ss_next)
    (ss_ret (se_tup (sa_cons (so_e se_var) (sa_cons (so_e (se_a2 a2_add (so_e se_var) (so_e se_int))) sa_nil)))))))))))
theorem ok_Reader_integer (T : Txt P K w mg) : FnOk P w K mg base (L2.CX P w) 3 T.d_Reader_integer.f T.d_Reader_integer.fd ["self", "at"] (spX K 2 (m_Reader_integer T.c_BadPlain.C T.c_Reader.C)) := by
    refine ok_fnX (N := N_Reader_integer) (ps := ["self", "at"]) (k := 2) (pin := [0, 1]) (body := b_Reader_integer T.c_BadPlain.C T.c_Reader.C) T.d_Reader_integer.F sc_Reader_integer (by decide) fun cdv A outer s H E hr => ?_
    have hu : _ < _ := hu_of hr
    have hu64 := hr.units
    refine ⟨_, (pss_cons (ps_set (i := 2) sc_Reader_integer.nd rfl (Or.inl rfl) (pe_ifExp (pt_truth (pe_bm PySem.F.plainAttrs_str PySem.F.slot_str_startswith PySem.F.type_str_startswith mt_startswith3 (pe_fld (pv 0) rfl) (pa_cons pe_str (pa_cons (pv 1) pa_nil))) (by intro _; rfl)) (pe_op op_addAll (pv 1) pe_int) (pv 1)))
    (pss_cons (ps_set (i := 3) sc_Reader_integer.nd rfl (Or.inl rfl) (pe_slice sl_all (pe_fld (pv 0) rfl) (po_some (pv 2)) (po_some (pe_op op_addAll (pe_op op_addAll (pv 2) (pe_glob (v := .int 2000) rfl T.i_MOST_DIGITS.choose_spec ⟨_, rfl⟩)) pe_int))))
    (pss_cons (ps_set (i := 4) sc_Reader_integer.nd rfl (Or.inl rfl) (pe_op op_sub (pe_callB call_lenAll (by rfl) T.z_len (by decide +kernel) (pa_cons (pv 3) pa_nil)) (pe_callB call_lenAll (by rfl) T.z_len (by decide +kernel) (pa_cons (pe_bm PySem.F.plainAttrs_str PySem.F.slot_str_lstrip PySem.F.type_str_lstrip mt_lstripChars (pv 3) (pa_cons (pe_glob (v := .str (PySem.Str.ofString "0123456789")) rfl T.s_DIGITS.choose_spec ⟨_, rfl⟩) pa_nil)) pa_nil))))
    (pss_cons (ps_if (pt_cmpR (op_eqAll hu64) (pv 4) pe_int (nomark _)) (pss_one (ps_raise rfl (takes_of rfl rfl rfl rfl) (pmk_p T.c_BadPlain.T T.c_BadPlain.Z T.c_BadPlain.no T.c_BadPlain.ck (hr.mono (Nat.le_refl _)) (by first | decide | omega) T.c_BadPlain.g (pa_cons (pv 2) pa_nil) rfl (by decide) (by rfl) (by rfl)))) pss_nil)
    (pss_cons (ps_if (PW.pt (pw_and (pt_cmpR (op_eqAll hu64) (pe_ix (ix_all hu) (pv 3) pe_int (fun _ _ => rfl)) pe_str (nomark _)) (pw_and1 (pt_cmpR op_gtIS (pv 2) (pv 1) (nomark _))))) (pss_one (ps_raise rfl (takes_of rfl rfl rfl rfl) (pmk_p T.c_BadPlain.T T.c_BadPlain.Z T.c_BadPlain.no T.c_BadPlain.ck (hr.mono (Nat.le_refl _)) (by first | decide | omega) T.c_BadPlain.g (pa_cons (pv 2) pa_nil) rfl (by decide) (by rfl) (by rfl)))) pss_nil)
    (pss_cons (ps_if (PW.pt (pw_and (pt_cmpR (op_eqAll hu64) (pe_ix (ix_all hu) (pv 3) pe_int (fun _ _ => rfl)) pe_str (nomark _)) (pw_and1 (pt_cmpR op_gtIS (pv 4) pe_int (nomark _))))) (pss_one (ps_raise rfl (takes_of rfl rfl rfl rfl) (pmk_p T.c_BadPlain.T T.c_BadPlain.Z T.c_BadPlain.no T.c_BadPlain.ck (hr.mono (Nat.le_refl _)) (by first | decide | omega) T.c_BadPlain.g (pa_cons (pe_op op_addAll (pv 2) pe_int) pa_nil) rfl (by decide) (by rfl) (by rfl)))) pss_nil)
    (pss_cons (ps_if (pt_cmpR op_gtIS (pv 4) (pe_glob (v := .int 2000) rfl T.i_MOST_DIGITS.choose_spec ⟨_, rfl⟩) (nomark _)) (pss_one (ps_raise rfl (takes_of rfl rfl rfl rfl) (pmk_p T.c_BadPlain.T T.c_BadPlain.Z T.c_BadPlain.no T.c_BadPlain.ck (hr.mono (Nat.le_refl _)) (by first | decide | omega) T.c_BadPlain.g (pa_cons (pe_op op_addAll (pv 2) (pe_glob (v := .int 2000) rfl T.i_MOST_DIGITS.choose_spec ⟨_, rfl⟩)) pa_nil) rfl (by decide) (by rfl) (by rfl)))) pss_nil)
    (pss_one (ps_ret (pe_tup (pa_cons (pe_callTy (call_intOfL T.h_dg) (by rfl) T.z_int (by decide +kernel) (pa_cons (pe_slice sl_all (pe_fld (pv 0) rfl) (po_some (pv 1)) (po_some (pe_op op_addAll (pv 2) (pv 4)))) pa_nil)) (pa_cons (pe_op op_addAll (pv 2) (pv 4)) pa_nil)))))))))))), fun B hK hp hW => ?_⟩
    subst hK
    exact (ss_seq (ss_asg (se_if (st_tru (so_e (se_ms ms_b1I (so_e (se_fld T.c_Reader.cl T.n_Reader_signs so_var)) (sa_cons (so_e se_str) (sa_cons so_var sa_nil))))) (se_a2 a2_add (so_e se_var) (so_e se_int)) se_var) (sg_name (by rw [hp]; decide)))
    (ss_seq (ss_asg (se_sl (so_e (se_fld T.c_Reader.cl T.n_Reader_signs so_var)) (sp_ex so_var) (sp_ex (so_e (se_a2 a2_add (so_e (se_a2 a2_add (so_e se_var) (so_e se_int))) (so_e se_int))))) (sg_name (by rw [hp]; decide)))
    (ss_seq (ss_asg (se_s2 s2_sub (so_e (se_sn sn_len (sa_cons so_var sa_nil))) (so_e (se_sn sn_len (sa_cons (so_e (se_ms ms_s1 (so_e se_var) (sa_cons (so_e se_str) sa_nil))) sa_nil)))) (sg_name (by rw [hp]; decide)))
    (ss_seq (ss_if (st_test (so_e (se_s2 s2_eq so_var (so_e se_int)))) (ss_raisePW hW (sa_cons (so_e se_var) sa_nil)) ss_next)
    (ss_seq (ss_if (st_and (st_test (so_e (se_s2 s2_eq (so_e (se_ix ixOk_all ixOw_all so_var (so_e se_int))) (so_e se_str)))) (st_test (so_e (se_s2 s2_gt so_var so_var)))) (ss_raisePW hW (sa_cons (so_e se_var) sa_nil)) ss_next)
    (ss_seq (ss_if (st_and (st_test (so_e (se_s2 s2_eq (so_e (se_ix ixOk_all ixOw_all so_var (so_e se_int))) (so_e se_str)))) (st_test (so_e (se_s2 s2_gt so_var (so_e se_int))))) (ss_raisePW hW (sa_cons (so_e (se_a2 a2_add (so_e se_var) (so_e se_int))) sa_nil)) ss_next)
    (ss_seq (ss_if (st_test (so_e (se_s2 s2_gt so_var (so_e se_int)))) (ss_raisePW hW (sa_cons (so_e (se_a2 a2_add (so_e se_var) (so_e se_int))) sa_nil)) ss_next)
    (ss_ret (se_tup (sa_cons (so_e (se_sn sn_intOfL (sa_cons (so_e (se_sl (so_e (se_fld T.c_Reader.cl T.n_Reader_signs so_var)) (sp_ex so_var) (sp_ex (so_e (se_a2 a2_add (so_e se_var) (so_e se_var)))))) sa_nil))) (sa_cons (so_e (se_a2 a2_add (so_e se_var) (so_e se_var))) sa_nil)))))))))))
theorem okg_Reader_value_Reader_row (T : Txt P K w mg) : ∀ n : Nat, FnOk P w K mg base (L2.CX P w) (n + 3) T.d_Reader_value.f T.d_Reader_value.fd ["self", "at", "depth"] (spX K 3 (m_Reader_value T.c_BadPlain.C T.c_Reader.C n)) ∧ FnOk P w K mg base (L2.CX P w) (n + 3) T.d_Reader_row.f T.d_Reader_row.fd ["self", "at", "depth"] (spX K 3 (m_Reader_row T.c_BadPlain.C T.c_Reader.C n))
  | 0 => by
    refine ⟨?_, ?_⟩
    · rw [m_Reader_value]; exact FnOk.noX
    · rw [m_Reader_row]; exact FnOk.noX
  | n + 1 => by
    obtain ⟨G0, G1⟩ := okg_Reader_value_Reader_row T n
    refine ⟨?_, ?_⟩
    · rw [m_Reader_value]
      refine ok_fnX (N := N_Reader_value) (ps := ["self", "at", "depth"]) (k := n + 3) (pin := [0, 1, 2]) (body := b_Reader_value T.c_BadPlain.C T.c_Reader.C (m_Reader_value T.c_BadPlain.C T.c_Reader.C n) (m_Reader_row T.c_BadPlain.C T.c_Reader.C n)) T.d_Reader_value.F sc_Reader_value (by decide) fun cdv A outer s H E hr => ?_
      have hu : _ < _ := hu_of hr
      have hu64 := hr.units
      refine ⟨_, (pss_cons (ps_set (i := 3) sc_Reader_value.nd rfl (Or.inl rfl) (pe_slice sl_all (pe_fld (pv 0) rfl) (po_some (pv 1)) (po_some (pe_op op_addAll (pv 1) pe_int))))
      (pss_cons (ps_if (pt_cmpR (op_eqAll hu64) (pv 3) pe_str (nomark _)) (pss_one (ps_ret (pe_methX (pv 0) T.c_Reader.cl T.d_Reader_string.m (ok_Reader_string T) (hr.mono (by first | decide | omega)) T.d_Reader_string.b (fun σ => passAt (takes_of rfl rfl rfl rfl) σ) (pa_cons (pe_op op_addAll (pv 1) pe_int) pa_nil)))) pss_nil)
      (pss_cons (ps_if (pt_cmpR (op_eqAll hu64) (pv 3) pe_str (nomark _)) (pss_cons (ps_if (pt_cmpR (op_eqAll hu64) (pv 2) (pe_glob (v := .int 40) rfl T.i_DEEPEST.choose_spec ⟨_, rfl⟩) (nomark _)) (pss_one (ps_raise rfl (takes_of rfl rfl rfl rfl) (pmk_p T.c_BadPlain.T T.c_BadPlain.Z T.c_BadPlain.no T.c_BadPlain.ck (hr.mono (Nat.le_refl _)) (by first | decide | omega) T.c_BadPlain.g (pa_cons (pv 1) pa_nil) rfl (by decide) (by rfl) (by rfl)))) pss_nil)
      (pss_one (ps_ret (pe_methX (pv 0) T.c_Reader.cl T.d_Reader_row.m G1 (hr.mono (by first | decide | omega)) T.d_Reader_row.b (fun σ => passAt (takes_of rfl rfl rfl rfl) σ) (pa_cons (pe_op op_addAll (pv 1) pe_int) (pa_cons (pe_op op_addAll (pv 2) pe_int) pa_nil)))))) pss_nil)
      (pss_cons (ps_if (pt_cmpR (op_inK T.k_WORDS) (pv 3) (pe_glob (v := .ref T.k_WORDS.d) rfl T.k_WORDS.g rfl) (by rfl)) (pss_one (ps_ret (pe_tup (pa_cons (pe_ix ix_kdict (pe_glob (v := .ref T.k_WORDS.d) rfl T.k_WORDS.g rfl) (pv 3) (fun _ _ => rfl)) (pa_cons (pe_op op_addAll (pv 1) pe_int) pa_nil))))) pss_nil)
      (pss_one (ps_ret (pe_methX (pv 0) T.c_Reader.cl T.d_Reader_integer.m (ok_Reader_integer T) (hr.mono (by first | decide | omega)) T.d_Reader_integer.b (fun σ => passAt (takes_of rfl rfl rfl rfl) σ) (pa_cons (pv 1) pa_nil)))))))), fun B hK hp hW => ?_⟩
      subst hK
      exact (ss_seq (ss_asg (se_sl (so_e (se_fld T.c_Reader.cl T.n_Reader_signs so_var)) (sp_ex so_var) (sp_ex (so_e (se_a2 a2_add (so_e se_var) (so_e se_int))))) (sg_name (by rw [hp]; decide)))
      (ss_seq (ss_if (st_test (so_e (se_s2 s2_eq so_var (so_e se_str)))) (ss_retR (sr_methW hW so_var (sa_cons (so_e (se_a2 a2_add (so_e se_var) (so_e se_int))) sa_nil) (fun os r e => m_len_Reader_string T.c_BadPlain.C T.c_Reader.C e))) ss_next)
      (ss_seq (ss_if (st_test (so_e (se_s2 s2_eq so_var (so_e se_str)))) (ss_seq (ss_if (st_test (so_e (se_s2 s2_eq so_var (so_e se_int)))) (ss_raisePW hW (sa_cons (so_e se_var) sa_nil)) ss_next)
      (ss_retR (sr_methW hW so_var (sa_cons (so_e (se_a2 a2_add (so_e se_var) (so_e se_int))) (sa_cons (so_e (se_a2 a2_add (so_e se_var) (so_e se_int))) sa_nil)) (fun os r e => m_len_Reader_row T.c_BadPlain.C T.c_Reader.C n e)))) ss_next)
      (ss_seq (ss_if (st_test (so_e (se_inK T.k_WORDS so_var))) (ss_ret (se_tup (sa_cons (so_e (se_ixK T.k_WORDS so_var)) (sa_cons (so_e (se_a2 a2_add (so_e se_var) (so_e se_int))) sa_nil)))) ss_next)
      (ss_retR (sr_methW hW so_var (sa_cons so_var sa_nil) (fun os r e => m_len_Reader_integer T.c_BadPlain.C T.c_Reader.C e)))))))
    · rw [m_Reader_row]
      refine ok_fnX (N := N_Reader_row) (ps := ["self", "at", "depth"]) (k := n + 3) (pin := [0, 2]) (body := b_Reader_row T.c_BadPlain.C T.c_Reader.C (m_Reader_value T.c_BadPlain.C T.c_Reader.C n) (m_Reader_row T.c_BadPlain.C T.c_Reader.C n)) T.d_Reader_row.F sc_Reader_row (by decide) fun cdv A outer s H E hr => ?_
      have hu : _ < _ := hu_of hr
      have hu64 := hr.units
      refine ⟨_, (pss_cons (ps_if (pt_truth (pe_bm PySem.F.plainAttrs_str PySem.F.slot_str_startswith PySem.F.type_str_startswith mt_startswith3 (pe_fld (pv 0) rfl) (pa_cons pe_str (pa_cons (pv 1) pa_nil))) (by intro _; rfl)) (pss_one (ps_ret (pe_tup (pa_cons (pe_tup pa_nil) (pa_cons (pe_op op_addAll (pv 1) pe_int) pa_nil))))) pss_nil)
      (pss_cons (ps_set (i := 3) sc_Reader_row.nd rfl (Or.inl rfl) (pe_lst pa_nil))
      (pss_one (ps_while (passes_of rfl) (pt_truth pe_bl (by intro _; rfl)) (pss_cons (ps_asg (pe_methX (pv 0) T.c_Reader.cl T.d_Reader_value.m G0 (hr.mono (by first | decide | omega)) T.d_Reader_value.b (fun σ => passAt (takes_of rfl rfl rfl rfl) σ) (pa_cons (pv 1) (pa_cons (pv 2) pa_nil))) (pg_tl rfl (pgs_cons (pg_name (i := 4) sc_Reader_row.nd rfl (Or.inl rfl)) (pgs_cons (pg_name (i := 1) sc_Reader_row.nd rfl (Or.inl rfl)) pgs_nil))))
      (pss_cons (ps_expr (pe_bm PySem.F.plainAttrs_list PySem.F.slot_list_append PySem.F.type_list_append mt_append (pv 3) (pa_cons (pv 4) pa_nil)))
      (pss_cons (ps_set (i := 5) sc_Reader_row.nd rfl (Or.inl rfl) (pe_slice sl_all (pe_fld (pv 0) rfl) (po_some (pv 1)) (po_some (pe_op op_addAll (pv 1) pe_int))))
      (pss_cons (ps_if (pt_cmpR (op_eqAll hu64) (pv 5) pe_str (nomark _)) (pss_one (ps_ret (pe_tup (pa_cons (pe_callTy call_tupOf (by rfl) T.z_tuple (by decide +kernel) (pa_cons (pv 3) pa_nil)) (pa_cons (pe_op op_addAll (pv 1) pe_int) pa_nil))))) pss_nil)
      (pss_cons (ps_if (pt_cmpR (op_neAll hu64) (pv 5) pe_str (nomark _)) (pss_one (ps_raise rfl (takes_of rfl rfl rfl rfl) (pmk_p T.c_BadPlain.T T.c_BadPlain.Z T.c_BadPlain.no T.c_BadPlain.ck (hr.mono (Nat.le_refl _)) (by first | decide | omega) T.c_BadPlain.g (pa_cons (pv 1) pa_nil) rfl (by decide) (by rfl) (by rfl)))) pss_nil)
      (pss_one (ps_aug (i := 1) sc_Reader_row.nd rfl (Or.inl rfl) pe_int ip_add))))))))))), fun B hK hp hW => ?_⟩
      subst hK
      exact (ss_seq (ss_if (st_tru (so_e (se_ms ms_b1I (so_e (se_fld T.c_Reader.cl T.n_Reader_signs so_var)) (sa_cons (so_e se_str) (sa_cons so_var sa_nil))))) (ss_ret (se_tup (sa_cons (so_e (se_tup sa_nil)) (sa_cons (so_e (se_a2 a2_add (so_e se_var) (so_e se_int))) sa_nil)))) ss_next)
      (ss_seq (ss_asg (se_lst sa_nil) (sg_name (by rw [hp]; decide)))
      (ss_while (st_tru (so_e se_bl)) (ss_seq (ss_asgR (sr_methW hW so_var (sa_cons so_var (sa_cons so_var sa_nil)) (fun os r e => m_len_Reader_value T.c_BadPlain.C T.c_Reader.C n e)) (sg_tl (n := 2) (sgs_cons (sg_name (by rw [hp]; decide)) (sgs_cons (sg_name (by rw [hp]; decide)) sgs_nil))))
      (ss_seq (ss_drop (se_app se_var))
      (ss_seq (ss_asg (se_sl (so_e (se_fld T.c_Reader.cl T.n_Reader_signs so_var)) (sp_ex so_var) (sp_ex (so_e (se_a2 a2_add (so_e se_var) (so_e se_int))))) (sg_name (by rw [hp]; decide)))
      (ss_seq (ss_if (st_test (so_e (se_s2 s2_eq so_var (so_e se_str)))) (ss_ret (se_tup (sa_cons (so_e (se_an an_tupOf (sa_cons (so_e se_var) sa_nil))) (sa_cons (so_e (se_a2 a2_add (so_e se_var) (so_e se_int))) sa_nil)))) ss_next)
      (ss_seq (ss_if (st_test (so_e (se_s2 s2_ne so_var (so_e se_str)))) (ss_raisePW hW (sa_cons (so_e se_var) sa_nil)) ss_next)
      (ss_aug (by rw [hp]; decide) ip2_add (so_e se_int))))))))))
theorem ok_Reader_value_24 (T : Txt P K w mg) : FnOk P w K mg base (L2.CX P w) 27 T.d_Reader_value.f T.d_Reader_value.fd ["self", "at", "depth"] (spX K 3 (m_Reader_value T.c_BadPlain.C T.c_Reader.C 24)) := (okg_Reader_value_Reader_row T 24).1
theorem ok_Reader_row_24 (T : Txt P K w mg) : FnOk P w K mg base (L2.CX P w) 27 T.d_Reader_row.f T.d_Reader_row.fd ["self", "at", "depth"] (spX K 3 (m_Reader_row T.c_BadPlain.C T.c_Reader.C 24)) := (okg_Reader_value_Reader_row T 24).2

theorem ok_Reader___init__ (T : Txt P K w mg) : FnOk P w K mg base CX0 1 T.d_Reader___init__.f T.d_Reader___init__.fd ["self", "text"] (spM K 2 (m_Reader___init__ T.c_Reader.C)) := by
    refine ok_fnT (N := N_Reader___init__) (ps := ["self", "text"]) (k := 0) (pin := [0, 1]) (body := b_Reader___init__ T.c_Reader.C) T.d_Reader___init__.F sc_Reader___init__ (by decide) (by decide +kernel) (by decide) fun cdv A outer s H E hr => ?_
    have hu : _ < _ := hu_of hr
    have hu64 := hr.units
    refine ⟨_, (psst_cons (PST.of (ps_fld (pv 0) (pv 1) rfl))
    (CwR.psst_one (pst_fld (pv 0) (CwR.pet_replT (y := (PySem.Str.ofString "\\n")) (z := (PySem.Str.ofString "\t\t")) (CwR.pet_replT (y := (PySem.Str.ofString "\\\"")) (z := (PySem.Str.ofString "\t\t")) (CwR.pet_replT (y := (PySem.Str.ofString "\\\\")) (z := (PySem.Str.ofString "\t\t")) (CwR.PET.of (pv 1)) (by decide +kernel)) (by decide +kernel)) (by decide +kernel)) rfl))), fun B hK hp => ?_⟩
    subst hK
    exact (ss_seq (ss_fldO T.c_Reader.cl T.n_Reader_signs se_var)
    (ss_fldO T.c_Reader.cl T.n_Reader_veiled (se_repl (so_e (se_repl (so_e (se_repl (so_e se_var))))))))
theorem ok_read_plain (T : Txt P K w mg) : FnOk P w K mg base (L2.CX P w) 28 T.d_read_plain.f T.d_read_plain.fd ["text"] (spX K 1 (m_read_plain T.c_BadPlain.C T.c_Reader.C)) := by
    refine ok_fnX (N := N_read_plain) (ps := ["text"]) (k := 27) (pin := [0]) (body := b_read_plain T.c_BadPlain.C T.c_Reader.C) T.d_read_plain.F sc_read_plain (by decide) fun cdv A outer s H E hr => ?_
    have hu : _ < _ := hu_of hr
    have hu64 := hr.units
    refine ⟨_, (pss_cons (ps_asg (pe_methX (pe_make ⟨T.c_Reader.mks, T.d_Reader___init__.m.at_, T.d_Reader___init__.m.fn, T.c_Reader.kp⟩ (ok_Reader___init__ T) (hr.mono (by first | decide | omega)) rfl T.c_Reader.g T.d_Reader___init__.b .nil pass0 (pa_cons (pv 0) pa_nil)) T.c_Reader.cl T.d_Reader_value.m (ok_Reader_value_24 T) (hr.mono (by first | decide | omega)) T.d_Reader_value.b (fun σ => passAt (takes_of rfl rfl rfl rfl) σ) (pa_cons pe_int (pa_cons pe_int pa_nil))) (pg_tl rfl (pgs_cons (pg_name (i := 1) sc_read_plain.nd rfl (Or.inl rfl)) (pgs_cons (pg_name (i := 2) sc_read_plain.nd rfl (Or.inl rfl)) pgs_nil))))
    (pss_cons (ps_if (pt_cmpR op_ltIS (pv 2) (pe_callB call_lenAll (by rfl) T.z_len (by decide +kernel) (pa_cons (pv 0) pa_nil)) (nomark _)) (pss_one (ps_raise rfl (takes_of rfl rfl rfl rfl) (pmk_p T.c_BadPlain.T T.c_BadPlain.Z T.c_BadPlain.no T.c_BadPlain.ck (hr.mono (Nat.le_refl _)) (by first | decide | omega) T.c_BadPlain.g (pa_cons (pv 2) pa_nil) rfl (by decide) (by rfl) (by rfl)))) pss_nil)
    (pss_one (ps_ret (pv 1))))), fun B hK hp hW => ?_⟩
    subst hK
    exact (ss_seq (ss_asgR (sr_methW hW (so_e (se_make (sa_cons so_var sa_nil) (fun os r e => m_len_Reader___init__ T.c_Reader.C e))) (sa_cons (so_e se_int) (sa_cons (so_e se_int) sa_nil)) (fun os r e => m_len_Reader_value_24 T.c_BadPlain.C T.c_Reader.C e)) (sg_tl (n := 2) (sgs_cons (sg_name (by rw [hp]; decide)) (sgs_cons (sg_name (by rw [hp]; decide)) sgs_nil))))
    (ss_seq (ss_if (st_test (so_e (se_s2 s2_lt so_var (so_e (se_sn sn_len (sa_cons so_var sa_nil)))))) (ss_raisePW hW (sa_cons (so_e se_var) sa_nil)) ss_next)
    (ss_ret se_move)))
theorem ok_is_wire_notices (T : Txt P K w mg) : FnOk P w K mg base CX0 4 T.d_is_wire_notices.f T.d_is_wire_notices.fd ["thing"] (spM K 1 m_is_wire_notices) := by
    refine ok_fn (N := N_is_wire_notices) (ps := ["thing"]) (k := 3) (pin := [0]) (body := b_is_wire_notices) T.d_is_wire_notices.F sc_is_wire_notices (by decide) fun cdv A outer s H E hr => ?_
    have hu : _ < _ := hu_of hr
    have hu64 := hr.units
    refine ⟨_, (pss_cons (ps_if (PW.pt (pw_or (pt_not (pt_truth (pe_callB call_isi (by rfl) T.z_isinstance (by decide +kernel) (pa_cons (pv 0) (pa_cons (pe_bltn (v := .ty "tuple") (u := .type "tuple") (by rfl) T.z_tuple (by decide +kernel) rfl) pa_nil))) (by intro _; rfl))) (pw_or1 (pt_cmpR (op_neAll hu64) (pe_callB call_lenAll (by rfl) T.z_len (by decide +kernel) (pa_cons (pv 0) pa_nil)) pe_int (nomark _))))) (pss_one (ps_ret pe_bl)) pss_nil)
    (pss_cons (ps_asg (pv 0) (pg_tl rfl (pgs_cons (pg_name (i := 1) sc_is_wire_notices.nd rfl (Or.inl rfl)) (pgs_cons (pg_name (i := 2) sc_is_wire_notices.nd rfl (Or.inl rfl)) (pgs_cons (pg_name (i := 3) sc_is_wire_notices.nd rfl (Or.inl rfl)) (pgs_cons (pg_name (i := 4) sc_is_wire_notices.nd rfl (Or.inl rfl)) pgs_nil))))))
    (pss_cons (ps_if (PW.pt (pw_or (pt_not (pt_truth (pe_call (ok_is_name_enames T) (hr.mono (by first | decide | omega)) rfl T.d_is_name_enames.g T.d_is_name_enames.F.kp T.d_is_name_enames.b .nil pass0 (pa_cons (pv 1) pa_nil)) (by intro _; rfl))) (pw_or (pt_not (pt_truth (pe_call (ok_is_name_enames T) (hr.mono (by first | decide | omega)) rfl T.d_is_name_enames.g T.d_is_name_enames.F.kp T.d_is_name_enames.b .nil pass0 (pa_cons (pv 2) pa_nil)) (by intro _; rfl))) (pw_or (pt_not (pt_truth (pe_call (ok_is_name_enames T) (hr.mono (by first | decide | omega)) rfl T.d_is_name_enames.g T.d_is_name_enames.F.kp T.d_is_name_enames.b .nil pass0 (pa_cons (pv 3) pa_nil)) (by intro _; rfl))) (pw_or1 (pt_cmpR (op_eqAll hu64) (pv 2) (pv 3) (nomark _))))))) (pss_one (ps_ret pe_bl)) pss_nil)
    (pss_one (ps_ret (pe_andT (pe_call (ok_is_typed T) (hr.mono (by first | decide | omega)) rfl T.d_is_typed.g T.d_is_typed.F.kp T.d_is_typed.b .nil pass0 (pa_cons (pv 4) pa_nil)) (pe_one (pe_cmpR op_gtIS (pe_ix (ix_all hu) (pv 4) pe_int (fun _ _ => rfl)) pe_int (nomark _))))))))), fun B hK hp => ?_⟩
    subst hK
    exact (ss_seq (ss_if (st_or (st_not (st_tru (so_e (se_isi isTy_tup so_var)))) (st_test (so_e (se_s2 s2_ne (so_e (se_sn sn_len (sa_cons so_var sa_nil))) (so_e se_int))))) (ss_ret se_bl) ss_next)
    (ss_seq (ss_asg se_var (sg_tl (n := 4) (sgs_cons (sg_name (by rw [hp]; decide)) (sgs_cons (sg_name (by rw [hp]; decide)) (sgs_cons (sg_name (by rw [hp]; decide)) (sgs_cons (sg_name (by rw [hp]; decide)) sgs_nil))))))
    (ss_seq (ss_if (st_or (st_not (st_tru (so_e (se_call (sa_cons so_var sa_nil) (fun os r e => m_len_is_name_enames e))))) (st_or (st_not (st_tru (so_e (se_call (sa_cons so_var sa_nil) (fun os r e => m_len_is_name_enames e))))) (st_or (st_not (st_tru (so_e (se_call (sa_cons so_var sa_nil) (fun os r e => m_len_is_name_enames e))))) (st_test (so_e (se_s2 s2_eq so_var so_var)))))) (ss_ret se_bl) ss_next)
    (ss_ret (se_andV (so_e (se_call (sa_cons so_var sa_nil) (fun os r e => m_len_is_typed e))) (se_s2 s2_gt (so_e (se_ix ixOk_all ixOw_all so_var (so_e se_int))) (so_e se_int)))))))
theorem ok_is_notice (T : Txt P K w mg) : FnOk P w K mg base CX0 5 T.d_is_notice.f T.d_is_notice.fd ["thing"] (spM K 1 m_is_notice) := by
    refine ok_fn (N := N_is_notice) (ps := ["thing"]) (k := 4) (pin := [0]) (body := b_is_notice) T.d_is_notice.F sc_is_notice (by decide) fun cdv A outer s H E hr => ?_
    have hu : _ < _ := hu_of hr
    have hu64 := hr.units
    refine ⟨_, (pss_cons (ps_if (PW.pt (pw_or (pt_not (pt_truth (pe_callB call_isi (by rfl) T.z_isinstance (by decide +kernel) (pa_cons (pv 0) (pa_cons (pe_bltn (v := .ty "tuple") (u := .type "tuple") (by rfl) T.z_tuple (by decide +kernel) rfl) pa_nil))) (by intro _; rfl))) (pw_or (pt_cmpR (op_neAll hu64) (pe_callB call_lenAll (by rfl) T.z_len (by decide +kernel) (pa_cons (pv 0) pa_nil)) pe_int (nomark _)) (pw_or1 (pt_cmpR (op_neAll hu64) (pe_ix (ix_all hu) (pv 0) pe_int (fun _ _ => rfl)) pe_str (nomark _)))))) (pss_one (ps_ret pe_bl)) pss_nil)
    (pss_cons (ps_asg (pv 0) (pg_tl rfl (pgs_cons (pg_name (i := 1) sc_is_notice.nd rfl (Or.inl rfl)) (pgs_cons (pg_name (i := 2) sc_is_notice.nd rfl (Or.inl rfl)) (pgs_cons (pg_name (i := 3) sc_is_notice.nd rfl (Or.inl rfl)) pgs_nil)))))
    (pss_cons (ps_if (PW.pt (pw_or (pt_not (pt_truth (pe_call (ok_is_number_enames T) (hr.mono (by first | decide | omega)) rfl T.d_is_number_enames.g T.d_is_number_enames.F.kp T.d_is_number_enames.b .nil pass0 (pa_cons (pv 2) (pa_cons pe_int (pa_cons pe_int pa_nil)))) (by intro _; rfl))) (pw_or (pt_not (pt_truth (pe_callB call_isi (by rfl) T.z_isinstance (by decide +kernel) (pa_cons (pv 3) (pa_cons (pe_bltn (v := .ty "tuple") (u := .type "tuple") (by rfl) T.z_tuple (by decide +kernel) rfl) pa_nil))) (by intro _; rfl))) (pw_or1 (pt_cmpR (op_neAll hu64) (pe_callB call_lenAll (by rfl) T.z_len (by decide +kernel) (pa_cons (pv 3) pa_nil)) pe_int (nomark _)))))) (pss_one (ps_ret pe_bl)) pss_nil)
    (pss_cons (ps_if (pt_cmpR (op_eqAll hu64) (pe_ix (ix_all hu) (pv 3) pe_int (fun _ _ => rfl)) pe_str (nomark _)) (pss_one (ps_ret (pe_call (ok_is_wire_notices T) (hr.mono (by first | decide | omega)) rfl T.d_is_wire_notices.g T.d_is_wire_notices.F.kp T.d_is_wire_notices.b .nil pass0 (pa_cons (pe_ix (ix_all hu) (pv 3) pe_int (fun _ _ => rfl)) pa_nil)))) pss_nil)
    (pss_cons (ps_if (pt_cmpR (op_eqAll hu64) (pe_ix (ix_all hu) (pv 3) pe_int (fun _ _ => rfl)) pe_str (nomark _)) (pss_one (ps_ret (pe_call (ok_is_name_enames T) (hr.mono (by first | decide | omega)) rfl T.d_is_name_enames.g T.d_is_name_enames.F.kp T.d_is_name_enames.b .nil pass0 (pa_cons (pe_ix (ix_all hu) (pv 3) pe_int (fun _ _ => rfl)) pa_nil)))) pss_nil)
    (pss_cons (ps_if (pt_cmpR (op_eqAll hu64) (pe_ix (ix_all hu) (pv 3) pe_int (fun _ _ => rfl)) pe_str (nomark _)) (pss_one (ps_ret (pe_call (ok_is_number_enames T) (hr.mono (by first | decide | omega)) rfl T.d_is_number_enames.g T.d_is_number_enames.F.kp T.d_is_number_enames.b .nil pass0 (pa_cons (pe_ix (ix_all hu) (pv 3) pe_int (fun _ _ => rfl)) (pa_cons pe_int (pa_cons (pe_op op_sub (pv 2) pe_int) pa_nil)))))) pss_nil)
    (pss_one (ps_ret pe_bl)))))))), fun B hK hp => ?_⟩
    subst hK
    exact (ss_seq (ss_if (st_or (st_not (st_tru (so_e (se_isi isTy_tup so_var)))) (st_or (st_test (so_e (se_s2 s2_ne (so_e (se_sn sn_len (sa_cons so_var sa_nil))) (so_e se_int)))) (st_test (so_e (se_s2 s2_ne (so_e (se_ix ixOk_all ixOw_all so_var (so_e se_int))) (so_e se_str)))))) (ss_ret se_bl) ss_next)
    (ss_seq (ss_asg se_var (sg_tl (n := 3) (sgs_cons (sg_name (by rw [hp]; decide)) (sgs_cons (sg_name (by rw [hp]; decide)) (sgs_cons (sg_name (by rw [hp]; decide)) sgs_nil)))))
    (ss_seq (ss_if (st_or (st_not (st_tru (so_e (se_call (sa_cons so_var (sa_cons (so_e se_int) (sa_cons (so_e se_int) sa_nil))) (fun os r e => m_len_is_number_enames e))))) (st_or (st_not (st_tru (so_e (se_isi isTy_tup so_var)))) (st_test (so_e (se_s2 s2_ne (so_e (se_sn sn_len (sa_cons so_var sa_nil))) (so_e se_int)))))) (ss_ret se_bl) ss_next)
    (ss_seq (ss_if (st_test (so_e (se_s2 s2_eq (so_e (se_ix ixOk_all ixOw_all so_var (so_e se_int))) (so_e se_str)))) (ss_ret (se_call (sa_cons (so_e (se_ix ixOk_all ixOw_all so_var (so_e se_int))) sa_nil) (fun os r e => m_len_is_wire_notices e))) ss_next)
    (ss_seq (ss_if (st_test (so_e (se_s2 s2_eq (so_e (se_ix ixOk_all ixOw_all so_var (so_e se_int))) (so_e se_str)))) (ss_ret (se_call (sa_cons (so_e (se_ix ixOk_all ixOw_all so_var (so_e se_int))) sa_nil) (fun os r e => m_len_is_name_enames e))) ss_next)
    (ss_seq (ss_if (st_test (so_e (se_s2 s2_eq (so_e (se_ix ixOk_all ixOw_all so_var (so_e se_int))) (so_e se_str)))) (ss_ret (se_call (sa_cons (so_e (se_ix ixOk_all ixOw_all so_var (so_e se_int))) (sa_cons (so_e se_int) (sa_cons (so_e (se_s2 s2_sub so_var (so_e se_int))) sa_nil))) (fun os r e => m_len_is_number_enames e))) ss_next)
    (ss_ret se_bl)))))))
theorem ok_is_limit (T : Txt P K w mg) : FnOk P w K mg base CX0 4 T.d_is_limit.f T.d_is_limit.fd ["one", "other", "limit"] (spM K 3 m_is_limit) := by
    refine ok_fn (N := N_is_limit) (ps := ["one", "other", "limit"]) (k := 3) (pin := [0, 1, 2]) (body := b_is_limit) T.d_is_limit.F sc_is_limit (by decide) fun cdv A outer s H E hr => ?_
    have hu : _ < _ := hu_of hr
    have hu64 := hr.units
    refine ⟨_, (pss_cons (ps_if (PW.pt (pw_or (pt_not (pt_truth (pe_call (ok_is_name_enames T) (hr.mono (by first | decide | omega)) rfl T.d_is_name_enames.g T.d_is_name_enames.F.kp T.d_is_name_enames.b .nil pass0 (pa_cons (pv 0) pa_nil)) (by intro _; rfl))) (pw_or (pt_not (pt_truth (pe_call (ok_is_name_enames T) (hr.mono (by first | decide | omega)) rfl T.d_is_name_enames.g T.d_is_name_enames.F.kp T.d_is_name_enames.b .nil pass0 (pa_cons (pv 1) pa_nil)) (by intro _; rfl))) (pw_or1 (pt_cmpR (op_eqAll hu64) (pv 0) (pv 1) (nomark _)))))) (pss_one (ps_ret pe_bl)) pss_nil)
    (pss_one (ps_ret (pe_andT (pe_call (ok_is_typed T) (hr.mono (by first | decide | omega)) rfl T.d_is_typed.g T.d_is_typed.F.kp T.d_is_typed.b .nil pass0 (pa_cons (pv 2) pa_nil)) (pe_one (pe_cmpR op_geIS (pe_ix (ix_all hu) (pv 2) pe_int (fun _ _ => rfl)) pe_int (nomark _))))))), fun B hK hp => ?_⟩
    subst hK
    exact (ss_seq (ss_if (st_or (st_not (st_tru (so_e (se_call (sa_cons so_var sa_nil) (fun os r e => m_len_is_name_enames e))))) (st_or (st_not (st_tru (so_e (se_call (sa_cons so_var sa_nil) (fun os r e => m_len_is_name_enames e))))) (st_test (so_e (se_s2 s2_eq so_var so_var))))) (ss_ret se_bl) ss_next)
    (ss_ret (se_andV (so_e (se_call (sa_cons so_var sa_nil) (fun os r e => m_len_is_typed e))) (se_s2 s2_ge (so_e (se_ix ixOk_all ixOw_all so_var (so_e se_int))) (so_e se_int)))))
theorem ok_is_told (T : Txt P K w mg) : FnOk P w K mg base CX0 3 T.d_is_told.f T.d_is_told.fd ["thing", "kind", "least"] (spM K 3 m_is_told) := by
    refine ok_fn (N := N_is_told) (ps := ["thing", "kind", "least"]) (k := 2) (pin := [0, 1, 2]) (body := b_is_told) T.d_is_told.F sc_is_told (by decide) fun cdv A outer s H E hr => ?_
    have hu : _ < _ := hu_of hr
    have hu64 := hr.units
    refine ⟨_, (pss_cons (ps_if (PW.pt (pw_or (pt_not (pt_truth (pe_callB call_isi (by rfl) T.z_isinstance (by decide +kernel) (pa_cons (pv 0) (pa_cons (pe_bltn (v := .ty "tuple") (u := .type "tuple") (by rfl) T.z_tuple (by decide +kernel) rfl) pa_nil))) (by intro _; rfl))) (pw_or (pt_cmpR (op_neAll hu64) (pe_callB call_lenAll (by rfl) T.z_len (by decide +kernel) (pa_cons (pv 0) pa_nil)) pe_int (nomark _)) (pw_or1 (pt_cmpR (op_neAll hu64) (pe_ix (ix_all hu) (pv 0) pe_int (fun _ _ => rfl)) (pv 1) (nomark _)))))) (pss_one (ps_ret pe_bl)) pss_nil)
    (pss_one (ps_ret (pe_call (ok_is_rows T) (hr.mono (by first | decide | omega)) rfl T.d_is_rows.g T.d_is_rows.F.kp T.d_is_rows.b .nil pass0 (pa_cons (pe_ix (ix_all hu) (pv 0) pe_int (fun _ _ => rfl)) (pa_cons (pv 2) (pa_cons pe_int pa_nil))))))), fun B hK hp => ?_⟩
    subst hK
    exact (ss_seq (ss_if (st_or (st_not (st_tru (so_e (se_isi isTy_tup so_var)))) (st_or (st_test (so_e (se_s2 s2_ne (so_e (se_sn sn_len (sa_cons so_var sa_nil))) (so_e se_int)))) (st_test (so_e (se_s2 s2_ne (so_e (se_ix ixOk_all ixOw_all so_var (so_e se_int))) so_var))))) (ss_ret se_bl) ss_next)
    (ss_ret (se_call (sa_cons (so_e (se_ix ixOk_all ixOw_all so_var (so_e se_int))) (sa_cons so_var (sa_cons (so_e se_int) sa_nil))) (fun os r e => m_len_is_rows e))))
theorem ok_is_promise (T : Txt P K w mg) : FnOk P w K mg base CX0 5 T.d_is_promise.f T.d_is_promise.fd ["thing"] (spM K 1 m_is_promise) := by
    refine ok_fn (N := N_is_promise) (ps := ["thing"]) (k := 4) (pin := [0]) (body := b_is_promise) T.d_is_promise.F sc_is_promise (by decide) fun cdv A outer s H E hr => ?_
    have hu : _ < _ := hu_of hr
    have hu64 := hr.units
    refine ⟨_, (pss_cons (ps_if (PW.pt (pw_or (pt_not (pt_truth (pe_callB call_isi (by rfl) T.z_isinstance (by decide +kernel) (pa_cons (pv 0) (pa_cons (pe_bltn (v := .ty "tuple") (u := .type "tuple") (by rfl) T.z_tuple (by decide +kernel) rfl) pa_nil))) (by intro _; rfl))) (pw_or (pt_cmpR op_ltIS (pe_callB call_lenAll (by rfl) T.z_len (by decide +kernel) (pa_cons (pv 0) pa_nil)) pe_int (nomark _)) (pw_or1 (pt_not (pt_truth (pe_call (ok_is_name_enames T) (hr.mono (by first | decide | omega)) rfl T.d_is_name_enames.g T.d_is_name_enames.F.kp T.d_is_name_enames.b .nil pass0 (pa_cons (pe_ix (ix_all hu) (pv 0) pe_int (fun _ _ => rfl)) pa_nil)) (by intro _; rfl))))))) (pss_one (ps_ret pe_bl)) pss_nil)
    (pss_cons (ps_set (i := 1) sc_is_promise.nd rfl (Or.inl rfl) (pe_ix (ix_all hu) (pv 0) pe_int (fun _ _ => rfl)))
    (pss_cons (ps_if (pt_cmpR (op_eqAll hu64) (pv 1) pe_str (nomark _)) (pss_one (ps_ret (pe_andT (pe_cmpR (op_eqAll hu64) (pe_callB call_lenAll (by rfl) T.z_len (by decide +kernel) (pa_cons (pv 0) pa_nil)) pe_int (nomark _)) (pe_one (pe_call (ok_is_number_enames T) (hr.mono (by first | decide | omega)) rfl T.d_is_number_enames.g T.d_is_number_enames.F.kp T.d_is_number_enames.b .nil pass0 (pa_cons (pe_ix (ix_all hu) (pv 0) pe_int (fun _ _ => rfl)) (pa_cons pe_int (pa_cons pe_int pa_nil)))))))) pss_nil)
    (pss_cons (ps_if (pt_cmpR (op_eqAll hu64) (pv 1) pe_str (nomark _)) (pss_one (ps_ret (pe_andT (pe_cmpR (op_eqAll hu64) (pe_callB call_lenAll (by rfl) T.z_len (by decide +kernel) (pa_cons (pv 0) pa_nil)) pe_int (nomark _)) (pe_one (pe_call (ok_is_name_enames T) (hr.mono (by first | decide | omega)) rfl T.d_is_name_enames.g T.d_is_name_enames.F.kp T.d_is_name_enames.b .nil pass0 (pa_cons (pe_ix (ix_all hu) (pv 0) pe_int (fun _ _ => rfl)) pa_nil)))))) pss_nil)
    (pss_cons (ps_if (pt_cmpR (op_eqAll hu64) (pv 1) pe_str (nomark _)) (pss_one (ps_ret (pe_andT (pe_cmpR (op_eqAll hu64) (pe_callB call_lenAll (by rfl) T.z_len (by decide +kernel) (pa_cons (pv 0) pa_nil)) pe_int (nomark _)) (pe_one (pe_call (ok_is_limit T) (hr.mono (by first | decide | omega)) rfl T.d_is_limit.g T.d_is_limit.F.kp T.d_is_limit.b .nil pass0 (pa_cons (pe_ix (ix_all hu) (pv 0) pe_int (fun _ _ => rfl)) (pa_cons (pe_ix (ix_all hu) (pv 0) pe_int (fun _ _ => rfl)) (pa_cons (pe_ix (ix_all hu) (pv 0) pe_int (fun _ _ => rfl)) pa_nil)))))))) pss_nil)
    (pss_cons (ps_if (pt_cmpR (op_eqAll hu64) (pv 1) pe_str (nomark _)) (pss_one (ps_ret (pe_andT (pe_cmpR (op_eqAll hu64) (pe_callB call_lenAll (by rfl) T.z_len (by decide +kernel) (pa_cons (pv 0) pa_nil)) pe_int (nomark _)) (pe_one (pe_call (ok_is_told T) (hr.mono (by first | decide | omega)) rfl T.d_is_told.g T.d_is_told.F.kp T.d_is_told.b .nil pass0 (pa_cons (pe_ix (ix_all hu) (pv 0) pe_int (fun _ _ => rfl)) (pa_cons pe_str (pa_cons (pe_un un_neg pe_int) pa_nil)))))))) pss_nil)
    (pss_cons (ps_if (pt_cmpR (op_eqAll hu64) (pv 1) pe_str (nomark _)) (pss_one (ps_ret (pe_andT (pe_cmpR (op_eqAll hu64) (pe_callB call_lenAll (by rfl) T.z_len (by decide +kernel) (pa_cons (pv 0) pa_nil)) pe_int (nomark _)) (pe_andT (pe_call (ok_is_name_enames T) (hr.mono (by first | decide | omega)) rfl T.d_is_name_enames.g T.d_is_name_enames.F.kp T.d_is_name_enames.b .nil pass0 (pa_cons (pe_ix (ix_all hu) (pv 0) pe_int (fun _ _ => rfl)) pa_nil)) (pe_one (pe_call (ok_is_told T) (hr.mono (by first | decide | omega)) rfl T.d_is_told.g T.d_is_told.F.kp T.d_is_told.b .nil pass0 (pa_cons (pe_ix (ix_all hu) (pv 0) pe_int (fun _ _ => rfl)) (pa_cons pe_str (pa_cons pe_int pa_nil))))))))) pss_nil)
    (pss_one (ps_ret pe_bl))))))))), fun B hK hp => ?_⟩
    subst hK
    exact (ss_seq (ss_if (st_or (st_not (st_tru (so_e (se_isi isTy_tup so_var)))) (st_or (st_test (so_e (se_s2 s2_lt (so_e (se_sn sn_len (sa_cons so_var sa_nil))) (so_e se_int)))) (st_not (st_tru (so_e (se_call (sa_cons (so_e (se_ix ixOk_all ixOw_all so_var (so_e se_int))) sa_nil) (fun os r e => m_len_is_name_enames e))))))) (ss_ret se_bl) ss_next)
    (ss_seq (ss_asg (se_ix ixOk_all ixOw_all so_var (so_e se_int)) (sg_name (by rw [hp]; decide)))
    (ss_seq (ss_if (st_test (so_e (se_s2 s2_eq so_var (so_e se_str)))) (ss_ret (se_andV (so_e (se_s2 s2_eq (so_e (se_sn sn_len (sa_cons so_var sa_nil))) (so_e se_int))) (se_call (sa_cons (so_e (se_ix ixOk_all ixOw_all so_var (so_e se_int))) (sa_cons (so_e se_int) (sa_cons (so_e se_int) sa_nil))) (fun os r e => m_len_is_number_enames e)))) ss_next)
    (ss_seq (ss_if (st_test (so_e (se_s2 s2_eq so_var (so_e se_str)))) (ss_ret (se_andV (so_e (se_s2 s2_eq (so_e (se_sn sn_len (sa_cons so_var sa_nil))) (so_e se_int))) (se_call (sa_cons (so_e (se_ix ixOk_all ixOw_all so_var (so_e se_int))) sa_nil) (fun os r e => m_len_is_name_enames e)))) ss_next)
    (ss_seq (ss_if (st_test (so_e (se_s2 s2_eq so_var (so_e se_str)))) (ss_ret (se_andV (so_e (se_s2 s2_eq (so_e (se_sn sn_len (sa_cons so_var sa_nil))) (so_e se_int))) (se_call (sa_cons (so_e (se_ix ixOk_all ixOw_all so_var (so_e se_int))) (sa_cons (so_e (se_ix ixOk_all ixOw_all so_var (so_e se_int))) (sa_cons (so_e (se_ix ixOk_all ixOw_all so_var (so_e se_int))) sa_nil))) (fun os r e => m_len_is_limit e)))) ss_next)
    (ss_seq (ss_if (st_test (so_e (se_s2 s2_eq so_var (so_e se_str)))) (ss_ret (se_andV (so_e (se_s2 s2_eq (so_e (se_sn sn_len (sa_cons so_var sa_nil))) (so_e se_int))) (se_call (sa_cons (so_e (se_ix ixOk_all ixOw_all so_var (so_e se_int))) (sa_cons (so_e se_str) (sa_cons (so_e (se_s1 s1_neg (so_e se_int))) sa_nil))) (fun os r e => m_len_is_told e)))) ss_next)
    (ss_seq (ss_if (st_test (so_e (se_s2 s2_eq so_var (so_e se_str)))) (ss_ret (se_andV (so_e (se_s2 s2_eq (so_e (se_sn sn_len (sa_cons so_var sa_nil))) (so_e se_int))) (se_andV (so_e (se_call (sa_cons (so_e (se_ix ixOk_all ixOw_all so_var (so_e se_int))) sa_nil) (fun os r e => m_len_is_name_enames e))) (se_call (sa_cons (so_e (se_ix ixOk_all ixOw_all so_var (so_e se_int))) (sa_cons (so_e se_str) (sa_cons (so_e se_int) sa_nil))) (fun os r e => m_len_is_told e))))) ss_next)
    (ss_ret se_bl))))))))
theorem ok_is_question (T : Txt P K w mg) : FnOk P w K mg base CX0 6 T.d_is_question.f T.d_is_question.fd ["thing"] (spM K 1 m_is_question) := by
    refine ok_fn (N := N_is_question) (ps := ["thing"]) (k := 5) (pin := [0]) (body := b_is_question) T.d_is_question.F sc_is_question (by decide) fun cdv A outer s H E hr => ?_
    have hu : _ < _ := hu_of hr
    have hu64 := hr.units
    refine ⟨_, (pss_cons (ps_if (PW.pt (pw_or (pt_not (pt_truth (pe_callB call_isi (by rfl) T.z_isinstance (by decide +kernel) (pa_cons (pv 0) (pa_cons (pe_bltn (v := .ty "tuple") (u := .type "tuple") (by rfl) T.z_tuple (by decide +kernel) rfl) pa_nil))) (by intro _; rfl))) (pw_or1 (pt_cmpR (op_eqAll hu64) (pe_callB call_lenAll (by rfl) T.z_len (by decide +kernel) (pa_cons (pv 0) pa_nil)) pe_int (nomark _))))) (pss_one (ps_ret pe_bl)) pss_nil)
    (pss_cons (ps_set (i := 1) sc_is_question.nd rfl (Or.inl rfl) (pe_ix (ix_all hu) (pv 0) pe_int (fun _ _ => rfl)))
    (pss_cons (ps_if (pt_cmpR (op_eqAll hu64) (pe_callB call_lenAll (by rfl) T.z_len (by decide +kernel) (pa_cons (pv 0) pa_nil)) pe_int (nomark _)) (pss_one (ps_ret (pe_cmpR op_in_seq (pv 1) (pe_glob (v := .ref T.t_ALONE.a) rfl T.t_ALONE.g rfl) (by rfl)))) pss_nil)
    (pss_cons (ps_if (pt_cmpR (op_eqAll hu64) (pe_callB call_lenAll (by rfl) T.z_len (by decide +kernel) (pa_cons (pv 0) pa_nil)) pe_int (nomark _)) (pss_one (ps_ret (pe_andT (pe_cmpR (op_eqAll hu64) (pv 1) pe_str (nomark _)) (pe_andT (pe_call (ok_is_name_fforms T) (hr.mono (by first | decide | omega)) rfl T.d_is_name_fforms.g T.d_is_name_fforms.F.kp T.d_is_name_fforms.b .nil pass0 (pa_cons (pe_ix (ix_all hu) (pv 0) pe_int (fun _ _ => rfl)) pa_nil)) (pe_one (pe_call (ok_is_name_fforms T) (hr.mono (by first | decide | omega)) rfl T.d_is_name_fforms.g T.d_is_name_fforms.F.kp T.d_is_name_fforms.b .nil pass0 (pa_cons (pe_ix (ix_all hu) (pv 0) pe_int (fun _ _ => rfl)) pa_nil))))))) pss_nil)
    (pss_cons (ps_if (pt_cmpR (op_neAll hu64) (pe_callB call_lenAll (by rfl) T.z_len (by decide +kernel) (pa_cons (pv 0) pa_nil)) pe_int (nomark _)) (pss_one (ps_ret pe_bl)) pss_nil)
    (pss_cons (ps_if (pt_cmpR op_in_seq (pv 1) (pe_glob (v := .ref T.t_NAMED.a) rfl T.t_NAMED.g rfl) (by rfl)) (pss_one (ps_ret (pe_call (ok_is_name_fforms T) (hr.mono (by first | decide | omega)) rfl T.d_is_name_fforms.g T.d_is_name_fforms.F.kp T.d_is_name_fforms.b .nil pass0 (pa_cons (pe_ix (ix_all hu) (pv 0) pe_int (fun _ _ => rfl)) pa_nil)))) pss_nil)
    (pss_cons (ps_if (pt_cmpR (op_eqAll hu64) (pv 1) pe_str (nomark _)) (pss_one (ps_ret (pe_andT (pe_call (ok_is_count T) (hr.mono (by first | decide | omega)) rfl T.d_is_count.g T.d_is_count.F.kp T.d_is_count.b .nil pass0 (pa_cons (pe_ix (ix_all hu) (pv 0) pe_int (fun _ _ => rfl)) pa_nil)) (pe_one (pe_cmpR op_leIS (pe_ix (ix_all hu) (pv 0) pe_int (fun _ _ => rfl)) (pe_glob (v := .int 999) rfl T.i_MOST_KNOWN_questions.choose_spec ⟨_, rfl⟩) (nomark _)))))) pss_nil)
    (pss_one (ps_ret (pe_andT (pe_cmpR (op_eqAll hu64) (pv 1) pe_str (nomark _)) (pe_one (pe_call (ok_is_promise T) (hr.mono (by first | decide | omega)) rfl T.d_is_promise.g T.d_is_promise.F.kp T.d_is_promise.b .nil pass0 (pa_cons (pe_tup (pa_cons pe_str (pa_cons pe_str (pa_cons (pe_ix (ix_all hu) (pv 0) pe_int (fun _ _ => rfl)) pa_nil)))) pa_nil))))))))))))), fun B hK hp => ?_⟩
    subst hK
    exact (ss_seq (ss_if (st_or (st_not (st_tru (so_e (se_isi isTy_tup so_var)))) (st_test (so_e (se_s2 s2_eq (so_e (se_sn sn_len (sa_cons so_var sa_nil))) (so_e se_int))))) (ss_ret se_bl) ss_next)
    (ss_seq (ss_asg (se_ix ixOk_all ixOw_all so_var (so_e se_int)) (sg_name (by rw [hp]; decide)))
    (ss_seq (ss_if (st_test (so_e (se_s2 s2_eq (so_e (se_sn sn_len (sa_cons so_var sa_nil))) (so_e se_int)))) (ss_ret (se_s2 s2_inSeq so_var (so_e (se_c T.t_ALONE.q)))) ss_next)
    (ss_seq (ss_if (st_test (so_e (se_s2 s2_eq (so_e (se_sn sn_len (sa_cons so_var sa_nil))) (so_e se_int)))) (ss_ret (se_andV (so_e (se_s2 s2_eq so_var (so_e se_str))) (se_andV (so_e (se_call (sa_cons (so_e (se_ix ixOk_all ixOw_all so_var (so_e se_int))) sa_nil) (fun os r e => m_len_is_name_fforms e))) (se_call (sa_cons (so_e (se_ix ixOk_all ixOw_all so_var (so_e se_int))) sa_nil) (fun os r e => m_len_is_name_fforms e))))) ss_next)
    (ss_seq (ss_if (st_test (so_e (se_s2 s2_ne (so_e (se_sn sn_len (sa_cons so_var sa_nil))) (so_e se_int)))) (ss_ret se_bl) ss_next)
    (ss_seq (ss_if (st_test (so_e (se_s2 s2_inSeq so_var (so_e (se_c T.t_NAMED.q))))) (ss_ret (se_call (sa_cons (so_e (se_ix ixOk_all ixOw_all so_var (so_e se_int))) sa_nil) (fun os r e => m_len_is_name_fforms e))) ss_next)
    (ss_seq (ss_if (st_test (so_e (se_s2 s2_eq so_var (so_e se_str)))) (ss_ret (se_andV (so_e (se_call (sa_cons (so_e (se_ix ixOk_all ixOw_all so_var (so_e se_int))) sa_nil) (fun os r e => m_len_is_count e))) (se_s2 s2_le (so_e (se_ix ixOk_all ixOw_all so_var (so_e se_int))) (so_e se_int)))) ss_next)
    (ss_ret (se_andV (so_e (se_s2 s2_eq so_var (so_e se_str))) (se_call (sa_cons (so_e (se_tup (sa_cons (so_e se_str) (sa_cons (so_e se_str) (sa_cons (so_e (se_ix ixOk_all ixOw_all so_var (so_e se_int))) sa_nil))))) sa_nil) (fun os r e => m_len_is_promise e)))))))))))
theorem ok_sum_of (T : Txt P K w mg) : FnOk P w K mg base CX0 1 T.d_sum_of.f T.d_sum_of.fd ["n", "before", "text"] (spM K 3 m_sum_of) := by
    refine ok_fn (N := N_sum_of) (ps := ["n", "before", "text"]) (k := 0) (pin := [0, 1, 2]) (body := b_sum_of) T.d_sum_of.F sc_sum_of (by decide) fun cdv A outer s H E hr => ?_
    have hu : _ < _ := hu_of hr
    have hu64 := hr.units
    refine ⟨_, (pss_cons (ps_set (i := 3) sc_sum_of.nd rfl (Or.inl rfl) (pe_lsMapOrd rfl rfl T.z_list rfl T.z_map rfl T.z_ord (pa_cons (pv 2) pa_nil)))
    (pss_cons (ps_expr (pe_bm0 PySem.F.plainAttrs_list PySem.F.slot_list_reverse PySem.F.type_list_reverse mt_reverse (pv 3)))
    (pss_one (ps_ret (pe_op op_modN (pe_op op_addAll (pe_op op_addAll (pv 1) (pv 0)) (pe_sumAc rfl rfl T.z_sum rfl T.b_accumulate (pa_cons (pv 3) pa_nil))) (pe_glob (v := .int 99991) rfl T.i_MODULUS.choose_spec ⟨_, rfl⟩)))))), fun B hK hp => ?_⟩
    subst hK
    exact (ss_seq (ss_asg (se_an an_lsOrd (sa_cons (so_e se_var) sa_nil)) (sg_name (by rw [hp]; decide)))
    (ss_seq (ss_drop se_rev)
    (ss_ret (se_s2 s2_mod (so_e (se_a2 a2_add (so_e (se_a2 a2_add (so_e se_var) (so_e se_var))) (so_e (se_sn sn_sumAc (sa_cons so_var sa_nil))))) (so_e se_int)))))
theorem ok_journal_line (T : Txt P K w mg) : FnOk P w K mg base CX0 10 T.d_journal_line.f T.d_journal_line.fd ["n", "before", "entry"] (spM K 3 m_journal_line) := by
    refine ok_fn (N := N_journal_line) (ps := ["n", "before", "entry"]) (k := 9) (pin := [0, 1, 2]) (body := b_journal_line) T.d_journal_line.F sc_journal_line (by decide) fun cdv A outer s H E hr => ?_
    have hu : _ < _ := hu_of hr
    have hu64 := hr.units
    refine ⟨_, (pss_cons (ps_set (i := 3) sc_journal_line.nd rfl (Or.inl rfl) (pe_call (ok_show_plain_9 T) (hr.mono (by first | decide | omega)) rfl T.d_show_plain.g T.d_show_plain.F.kp T.d_show_plain.b .nil pass0 (pa_cons (pv 2) pa_nil)))
    (pss_one (ps_ret (pe_joined (.cons (pe_fmt (pv 0)) (.cons pe_str (.cons (pe_fmt (pe_call (ok_sum_of T) (hr.mono (by first | decide | omega)) rfl T.d_sum_of.g T.d_sum_of.F.kp T.d_sum_of.b .nil pass0 (pa_cons (pv 0) (pa_cons (pv 1) (pa_cons (pv 3) pa_nil))))) (.cons pe_str (.cons (pe_fmt (pv 3)) (.cons pe_str .nil)))))))))), fun B hK hp => ?_⟩
    subst hK
    exact (ss_seq (ss_asg (se_call (sa_cons so_var sa_nil) (fun os r e => m_len_show_plain_9 e)) (sg_name (by rw [hp]; decide)))
    (ss_ret (se_joined (.cons (so_e (se_fmt so_var)) (.cons (so_e se_str) (.cons (so_e (se_fmt (so_e (se_call (sa_cons so_var (sa_cons so_var (sa_cons so_var sa_nil))) (fun os r e => m_len_sum_of e))))) (.cons (so_e se_str) (.cons (so_e (se_fmt so_var)) (.cons (so_e se_str) .nil)))))))))
theorem ok_sum_in (T : Txt P K w mg) : FnOk P w K mg base CX0 1 T.d_sum_in.f T.d_sum_in.fd ["line"] (spM K 1 m_sum_in) := by
    refine ok_fn (N := N_sum_in) (ps := ["line"]) (k := 0) (pin := [0]) (body := b_sum_in) T.d_sum_in.F sc_sum_in (by decide) fun cdv A outer s H E hr => ?_
    have hu : _ < _ := hu_of hr
    have hu64 := hr.units
    refine ⟨_, (pss_one (ps_ret (pe_callTy call_intOf (by rfl) T.z_int (by decide +kernel) (pa_cons (pe_ix (ix_all hu) (pe_bm PySem.F.plainAttrs_str PySem.F.slot_str_split PySem.F.type_str_split mt_splitMax (pv 0) (pa_cons pe_str (pa_cons pe_int pa_nil))) pe_int (fun _ _ => rfl)) pa_nil)))), fun B hK hp => ?_⟩
    subst hK
    exact (ss_ret (se_sn sn_intOf (sa_cons (so_e (se_ix ixOk_all ixOw_all (so_e (se_ma ma_split2 (so_e se_var) (sa_cons (so_e se_str) (sa_cons (so_e se_int) sa_nil)))) (so_e se_int))) sa_nil)))
theorem ok_is_first_entry (T : Txt P K w mg) : FnOk P w K mg base CX0 6 T.d_is_first_entry.f T.d_is_first_entry.fd ["entry"] (spM K 1 m_is_first_entry) := by
    refine ok_fn (N := N_is_first_entry) (ps := ["entry"]) (k := 5) (pin := [0]) (body := b_is_first_entry) T.d_is_first_entry.F sc_is_first_entry (by decide) fun cdv A outer s H E hr => ?_
    have hu : _ < _ := hu_of hr
    have hu64 := hr.units
    refine ⟨_, (pss_cons (ps_if (pt_not (pt_truth (pe_callB call_isi (by rfl) T.z_isinstance (by decide +kernel) (pa_cons (pv 0) (pa_cons (pe_bltn (v := .ty "tuple") (u := .type "tuple") (by rfl) T.z_tuple (by decide +kernel) rfl) pa_nil))) (by intro _; rfl))) (pss_one (ps_ret pe_bl)) pss_nil)
    (pss_cons (ps_if (pt_cmpR (op_eqAll hu64) (pe_callB call_lenAll (by rfl) T.z_len (by decide +kernel) (pa_cons (pv 0) pa_nil)) pe_int (nomark _)) (pss_one (ps_ret (pe_cmpR (op_eqAll hu64) (pe_ix (ix_all hu) (pv 0) pe_int (fun _ _ => rfl)) pe_str (nomark _)))) pss_nil)
    (pss_one (ps_ret (pe_andT (pe_cmpR (op_eqAll hu64) (pe_callB call_lenAll (by rfl) T.z_len (by decide +kernel) (pa_cons (pv 0) pa_nil)) pe_int (nomark _)) (pe_andT (pe_cmpR (op_eqAll hu64) (pe_ix (ix_all hu) (pv 0) pe_int (fun _ _ => rfl)) pe_str (nomark _)) (pe_andT (pe_call (ok_is_name_fforms T) (hr.mono (by first | decide | omega)) rfl T.d_is_name_fforms.g T.d_is_name_fforms.F.kp T.d_is_name_fforms.b .nil pass0 (pa_cons (pe_ix (ix_all hu) (pv 0) pe_int (fun _ _ => rfl)) pa_nil)) (pe_one (pe_call (ok_is_network T) (hr.mono (by first | decide | omega)) rfl T.d_is_network.g T.d_is_network.F.kp T.d_is_network.b .nil pass0 (pa_cons (pe_ix (ix_all hu) (pv 0) pe_int (fun _ _ => rfl)) pa_nil)))))))))), fun B hK hp => ?_⟩
    subst hK
    exact (ss_seq (ss_if (st_not (st_tru (so_e (se_isi isTy_tup so_var)))) (ss_ret se_bl) ss_next)
    (ss_seq (ss_if (st_test (so_e (se_s2 s2_eq (so_e (se_sn sn_len (sa_cons so_var sa_nil))) (so_e se_int)))) (ss_ret (se_s2 s2_eq (so_e (se_ix ixOk_all ixOw_all so_var (so_e se_int))) (so_e se_str))) ss_next)
    (ss_ret (se_andV (so_e (se_s2 s2_eq (so_e (se_sn sn_len (sa_cons so_var sa_nil))) (so_e se_int))) (se_andV (so_e (se_s2 s2_eq (so_e (se_ix ixOk_all ixOw_all so_var (so_e se_int))) (so_e se_str))) (se_andV (so_e (se_call (sa_cons (so_e (se_ix ixOk_all ixOw_all so_var (so_e se_int))) sa_nil) (fun os r e => m_len_is_name_fforms e))) (se_call (sa_cons (so_e (se_ix ixOk_all ixOw_all so_var (so_e se_int))) sa_nil) (fun os r e => m_len_is_network e))))))))
theorem ok_is_known (T : Txt P K w mg) : FnOk P w K mg base CX0 2 T.d_is_known.f T.d_is_known.fd ["thing"] (spM K 1 m_is_known) := by
    refine ok_fn (N := N_is_known) (ps := ["thing"]) (k := 1) (pin := [0]) (body := b_is_known) T.d_is_known.F sc_is_known (by decide) fun cdv A outer s H E hr => ?_
    have hu : _ < _ := hu_of hr
    have hu64 := hr.units
    refine ⟨_, (pss_one (ps_ret (pe_andT (pe_call (ok_is_count T) (hr.mono (by first | decide | omega)) rfl T.d_is_count.g T.d_is_count.F.kp T.d_is_count.b .nil pass0 (pa_cons (pv 0) pa_nil)) (pe_one (pe_cmpR op_leIS (pv 0) (pe_glob (v := .int 999) rfl T.i_MOST_KNOWN_journal.choose_spec ⟨_, rfl⟩) (nomark _)))))), fun B hK hp => ?_⟩
    subst hK
    exact (ss_ret (se_andV (so_e (se_call (sa_cons so_var sa_nil) (fun os r e => m_len_is_count e))) (se_s2 s2_le so_var (so_e se_int))))
theorem ok_is_later_entry (T : Txt P K w mg) : FnOk P w K mg base CX0 7 T.d_is_later_entry.f T.d_is_later_entry.fd ["entry"] (spM K 1 m_is_later_entry) := by
    refine ok_fn (N := N_is_later_entry) (ps := ["entry"]) (k := 6) (pin := [0]) (body := b_is_later_entry) T.d_is_later_entry.F sc_is_later_entry (by decide) fun cdv A outer s H E hr => ?_
    have hu : _ < _ := hu_of hr
    have hu64 := hr.units
    refine ⟨_, (pss_cons (ps_if (pt_not (pt_truth (pe_callB call_isi (by rfl) T.z_isinstance (by decide +kernel) (pa_cons (pv 0) (pa_cons (pe_bltn (v := .ty "tuple") (u := .type "tuple") (by rfl) T.z_tuple (by decide +kernel) rfl) pa_nil))) (by intro _; rfl))) (pss_one (ps_ret pe_bl)) pss_nil)
    (pss_cons (ps_if (pt_cmpR (op_eqAll hu64) (pe_callB call_lenAll (by rfl) T.z_len (by decide +kernel) (pa_cons (pv 0) pa_nil)) pe_int (nomark _)) (pss_one (ps_ret (pe_andT (pe_cmpR op_in_seq (pe_ix (ix_all hu) (pv 0) pe_int (fun _ _ => rfl)) (pe_tup (pa_cons pe_str (pa_cons pe_str pa_nil))) (by rfl)) (pe_one (pe_call (ok_is_notice T) (hr.mono (by first | decide | omega)) rfl T.d_is_notice.g T.d_is_notice.F.kp T.d_is_notice.b .nil pass0 (pa_cons (pe_ix (ix_all hu) (pv 0) pe_int (fun _ _ => rfl)) pa_nil)))))) pss_nil)
    (pss_cons (ps_if (pt_cmpR (op_eqAll hu64) (pe_callB call_lenAll (by rfl) T.z_len (by decide +kernel) (pa_cons (pv 0) pa_nil)) pe_int (nomark _)) (pss_one (ps_ret (pe_andT (pe_cmpR (op_eqAll hu64) (pe_ix (ix_all hu) (pv 0) pe_int (fun _ _ => rfl)) pe_str (nomark _)) (pe_andT (pe_call (ok_is_promise T) (hr.mono (by first | decide | omega)) rfl T.d_is_promise.g T.d_is_promise.F.kp T.d_is_promise.b .nil pass0 (pa_cons (pe_ix (ix_all hu) (pv 0) pe_int (fun _ _ => rfl)) pa_nil)) (pe_one (pe_call (ok_is_known T) (hr.mono (by first | decide | omega)) rfl T.d_is_known.g T.d_is_known.F.kp T.d_is_known.b .nil pass0 (pa_cons (pe_ix (ix_all hu) (pv 0) pe_int (fun _ _ => rfl)) pa_nil))))))) pss_nil)
    (pss_one (ps_ret (pe_andT (pe_cmpR (op_eqAll hu64) (pe_callB call_lenAll (by rfl) T.z_len (by decide +kernel) (pa_cons (pv 0) pa_nil)) pe_int (nomark _)) (pe_andT (pe_cmpR (op_eqAll hu64) (pe_ix (ix_all hu) (pv 0) pe_int (fun _ _ => rfl)) pe_str (nomark _)) (pe_andT (pe_call (ok_is_question T) (hr.mono (by first | decide | omega)) rfl T.d_is_question.g T.d_is_question.F.kp T.d_is_question.b .nil pass0 (pa_cons (pe_ix (ix_all hu) (pv 0) pe_int (fun _ _ => rfl)) pa_nil)) (pe_andT (pe_callB call_isi (by rfl) T.z_isinstance (by decide +kernel) (pa_cons (pe_ix (ix_all hu) (pv 0) pe_int (fun _ _ => rfl)) (pa_cons (pe_bltn (v := .ty "str") (u := .type "str") (by rfl) T.z_str (by decide +kernel) rfl) pa_nil))) (pe_one (pe_call (ok_is_known T) (hr.mono (by first | decide | omega)) rfl T.d_is_known.g T.d_is_known.F.kp T.d_is_known.b .nil pass0 (pa_cons (pe_ix (ix_all hu) (pv 0) pe_int (fun _ _ => rfl)) pa_nil)))))))))))), fun B hK hp => ?_⟩
    subst hK
    exact (ss_seq (ss_if (st_not (st_tru (so_e (se_isi isTy_tup so_var)))) (ss_ret se_bl) ss_next)
    (ss_seq (ss_if (st_test (so_e (se_s2 s2_eq (so_e (se_sn sn_len (sa_cons so_var sa_nil))) (so_e se_int)))) (ss_ret (se_andV (so_e (se_s2 s2_inSeq (so_e (se_ix ixOk_all ixOw_all so_var (so_e se_int))) (so_e (se_tup (sa_cons (so_e se_str) (sa_cons (so_e se_str) sa_nil)))))) (se_call (sa_cons (so_e (se_ix ixOk_all ixOw_all so_var (so_e se_int))) sa_nil) (fun os r e => m_len_is_notice e)))) ss_next)
    (ss_seq (ss_if (st_test (so_e (se_s2 s2_eq (so_e (se_sn sn_len (sa_cons so_var sa_nil))) (so_e se_int)))) (ss_ret (se_andV (so_e (se_s2 s2_eq (so_e (se_ix ixOk_all ixOw_all so_var (so_e se_int))) (so_e se_str))) (se_andV (so_e (se_call (sa_cons (so_e (se_ix ixOk_all ixOw_all so_var (so_e se_int))) sa_nil) (fun os r e => m_len_is_promise e))) (se_call (sa_cons (so_e (se_ix ixOk_all ixOw_all so_var (so_e se_int))) sa_nil) (fun os r e => m_len_is_known e))))) ss_next)
    (ss_ret (se_andV (so_e (se_s2 s2_eq (so_e (se_sn sn_len (sa_cons so_var sa_nil))) (so_e se_int))) (se_andV (so_e (se_s2 s2_eq (so_e (se_ix ixOk_all ixOw_all so_var (so_e se_int))) (so_e se_str))) (se_andV (so_e (se_call (sa_cons (so_e (se_ix ixOk_all ixOw_all so_var (so_e se_int))) sa_nil) (fun os r e => m_len_is_question e))) (se_andV (so_e (se_isi isTy_str (so_e (se_ix ixOk_all ixOw_all so_var (so_e se_int))))) (se_call (sa_cons (so_e (se_ix ixOk_all ixOw_all so_var (so_e se_int))) sa_nil) (fun os r e => m_len_is_known e))))))))))
theorem ok_entry_of (T : Txt P K w mg) : FnOk P w K mg base CX0 29 T.d_entry_of.f T.d_entry_of.fd ["n", "before", "line"] (spM K 3 (m_entry_of T.c_BadPlain.C T.c_Reader.C)) := by
    refine ok_fn (N := N_entry_of) (ps := ["n", "before", "line"]) (k := 28) (pin := [0, 1, 2]) (body := b_entry_of T.c_BadPlain.C T.c_Reader.C) T.d_entry_of.F sc_entry_of (by decide) fun cdv A outer s H E hr => ?_
    have hu : _ < _ := hu_of hr
    have hu64 := hr.units
    refine ⟨_, (pss_cons (ps_set (i := 3) sc_entry_of.nd rfl (Or.inl rfl) (pe_bm PySem.F.plainAttrs_str PySem.F.slot_str_split PySem.F.type_str_split mt_splitMax (pv 2) (pa_cons pe_str (pa_cons pe_int pa_nil))))
    (pss_cons (ps_if (PW.pt (pw_or (pt_cmpR op_ltIS (pe_callB call_lenAll (by rfl) T.z_len (by decide +kernel) (pa_cons (pv 3) pa_nil)) pe_int (nomark _)) (pw_or (pt_cmpR (op_neAll hu64) (pe_ix (ix_all hu) (pv 3) pe_int (fun _ _ => rfl)) (pe_callTy call_strOf (by rfl) T.z_str (by decide +kernel) (pa_cons (pv 0) pa_nil)) (nomark _)) (pw_or1 (pt_cmpR (op_neAll hu64) (pe_ix (ix_all hu) (pv 3) pe_int (fun _ _ => rfl)) (pe_callTy call_strOf (by rfl) T.z_str (by decide +kernel) (pa_cons (pe_call (ok_sum_of T) (hr.mono (by first | decide | omega)) rfl T.d_sum_of.g T.d_sum_of.F.kp T.d_sum_of.b .nil pass0 (pa_cons (pv 0) (pa_cons (pv 1) (pa_cons (pe_ix (ix_all hu) (pv 3) pe_int (fun _ _ => rfl)) pa_nil)))) pa_nil)) (nomark _)))))) (pss_one (ps_ret pe_non)) pss_nil)
    (pss_cons (ps_try_onlyM (Wout := fun _ _ _ _ => False) rfl rfl ⟨rfl, by decide, .inl T.c_BadPlain.g⟩ takes0 (fun W pn xe tk po => (pss_one (ps_asg (pe_callS (ok_read_plain T) (hr.mono (by first | decide | omega)) rfl T.d_read_plain.g T.d_read_plain.F.kp T.d_read_plain.b (fun σ => passAt tk σ) (pa_cons (pe_ix (show IxR _ (rIxAll K) from ix_all hu) (pv 3) pe_int (fun _ _ => rfl)) pa_nil)) (pg_name (i := 4) sc_entry_of.nd rfl (Or.inl rfl))))) (fun a oe cls d pn hz hf => (pss_one (ps_ret pe_non))) (fun _ _ _ _ _ => rfl))
    (pss_cons (ps_set (i := 5) sc_entry_of.nd rfl (Or.inl rfl) (pe_ifExp (pt_cmpR (op_eqAll hu64) (pv 0) pe_int (nomark _)) (pe_call (ok_is_first_entry T) (hr.mono (by first | decide | omega)) rfl T.d_is_first_entry.g T.d_is_first_entry.F.kp T.d_is_first_entry.b .nil pass0 (pa_cons (pv 4) pa_nil)) (pe_call (ok_is_later_entry T) (hr.mono (by first | decide | omega)) rfl T.d_is_later_entry.g T.d_is_later_entry.F.kp T.d_is_later_entry.b .nil pass0 (pa_cons (pv 4) pa_nil))))
    (pss_one (ps_ret (pe_ifExp (pt_truth (pv 5) (by intro _; rfl)) (pv 4) pe_non))))))), fun B hK hp => ?_⟩
    subst hK
    exact (ss_seq (ss_asg (se_ma ma_split2 (so_e se_var) (sa_cons (so_e se_str) (sa_cons (so_e se_int) sa_nil))) (sg_name (by rw [hp]; decide)))
    (ss_seq (ss_if (st_or (st_test (so_e (se_s2 s2_lt (so_e (se_sn sn_len (sa_cons so_var sa_nil))) (so_e se_int)))) (st_or (st_test (so_e (se_s2 s2_ne (so_e (se_ix ixOk_all ixOw_all so_var (so_e se_int))) (so_e (se_sn sn_strOf (sa_cons so_var sa_nil)))))) (st_test (so_e (se_s2 s2_ne (so_e (se_ix ixOk_all ixOw_all so_var (so_e se_int))) (so_e (se_sn sn_strOf (sa_cons (so_e (se_call (sa_cons so_var (sa_cons so_var (sa_cons (so_e (se_ix ixOk_all ixOw_all so_var (so_e se_int))) sa_nil))) (fun os r e => m_len_sum_of e))) sa_nil)))))))) (ss_ret se_non) ss_next)
    (ss_seq (ss_tryO (C0 := T.c_BadPlain.C) T.c_BadPlain.te (fun W => (ss_asgR (sr_callW rfl (sa_cons (so_e (se_ix ixOk_all ixOw_all so_var (so_e se_int))) sa_nil) (fun os r e => m_len_read_plain T.c_BadPlain.C T.c_Reader.C e)) (sg_name (by show _ ∉ B.pin; rw [hp]; decide)))) (fun a d => (ss_ret se_non)))
    (ss_seq (ss_asg (se_if (st_test (so_e (se_s2 s2_eq so_var (so_e se_int)))) (se_call (sa_cons so_var sa_nil) (fun os r e => m_len_is_first_entry e)) (se_call (sa_cons so_var sa_nil) (fun os r e => m_len_is_later_entry e))) (sg_name (by rw [hp]; decide)))
    (ss_ret (se_if (st_tru so_var) se_var se_non))))))
theorem ok_read_journal (T : Txt P K w mg) : FnOk P w K mg base CX0 30 T.d_read_journal.f T.d_read_journal.fd ["text"] (spM K 1 (m_read_journal T.c_BadPlain.C T.c_Reader.C)) := by
    refine ok_fn (N := N_read_journal) (ps := ["text"]) (k := 29) (pin := [0]) (body := b_read_journal T.c_BadPlain.C T.c_Reader.C) T.d_read_journal.F sc_read_journal (by decide) fun cdv A outer s H E hr => ?_
    have hu : _ < _ := hu_of hr
    have hu64 := hr.units
    refine ⟨_, (pss_cons (ps_set (i := 1) sc_read_journal.nd rfl (Or.inl rfl) (pe_lst pa_nil))
    (pss_cons (ps_set (i := 2) sc_read_journal.nd rfl (Or.inl rfl) pe_int)
    (pss_cons (ps_set (i := 3) sc_read_journal.nd rfl (Or.inl rfl) pe_int)
    (pss_cons (ps_for PassesOwn.never rfl (pi_enum rfl T.z_enumerate (pa_cons (pe_slice sl_all (pe_bm PySem.F.plainAttrs_str PySem.F.slot_str_split PySem.F.type_str_split mt_split (pv 0) (pa_cons pe_str pa_nil)) po_none (po_some (pe_un un_neg pe_int))) pa_nil)) (pg_tup (n := 2) rfl (pgs_cons (pg_name (i := 4) sc_read_journal.nd rfl (Or.inl rfl)) (pgs_cons (pg_name (i := 5) sc_read_journal.nd rfl (Or.inl rfl)) pgs_nil))) (pss_cons (ps_set (i := 6) sc_read_journal.nd rfl (Or.inl rfl) (pe_call (ok_entry_of T) (hr.mono (by first | decide | omega)) rfl T.d_entry_of.g T.d_entry_of.F.kp T.d_entry_of.b .nil pass0 (pa_cons (pv 4) (pa_cons (pv 2) (pa_cons (pv 5) pa_nil)))))
    (pss_cons (ps_if (pt_cmpR op_isN (pv 6) pe_non (nomark _)) (pss_one ps_break) pss_nil)
    (pss_cons (ps_expr (pe_bm PySem.F.plainAttrs_list PySem.F.slot_list_append PySem.F.type_list_append mt_append (pv 1) (pa_cons (pv 6) pa_nil)))
    (pss_cons (ps_set (i := 2) sc_read_journal.nd rfl (Or.inl rfl) (pe_call (ok_sum_in T) (hr.mono (by first | decide | omega)) rfl T.d_sum_in.g T.d_sum_in.F.kp T.d_sum_in.b .nil pass0 (pa_cons (pv 5) pa_nil)))
    (pss_one (ps_aug (i := 3) sc_read_journal.nd rfl (Or.inl rfl) (pe_op op_addAll (pe_callB call_lenAll (by rfl) T.z_len (by decide +kernel) (pa_cons (pv 5) pa_nil)) pe_int) ip_add)))))))
    (pss_one (ps_ret (pe_tup (pa_cons (pe_callTy call_tupOf (by rfl) T.z_tuple (by decide +kernel) (pa_cons (pv 1) pa_nil)) (pa_cons (pv 3) pa_nil))))))))), fun B hK hp => ?_⟩
    subst hK
    exact (ss_seq (ss_asg (se_lst sa_nil) (sg_name (by rw [hp]; decide)))
    (ss_seq (ss_asg se_int (sg_name (by rw [hp]; decide)))
    (ss_seq (ss_asg se_int (sg_name (by rw [hp]; decide)))
    (ss_seq (ss_for (si_en (so_e (se_sl (so_e (se_ma ma_split1 (so_e se_var) (sa_cons (so_e se_str) sa_nil))) sp_no (sp_ex (so_e (se_s1 s1_neg (so_e se_int))))))) (sg_tup (n := 2) (sgs_cons (sg_name (by rw [hp]; decide)) (sgs_cons (sg_name (by rw [hp]; decide)) sgs_nil))) (ss_seq (ss_asg (se_call (sa_cons so_var (sa_cons so_var (sa_cons so_var sa_nil))) (fun os r e => m_len_entry_of T.c_BadPlain.C T.c_Reader.C e)) (sg_name (by rw [hp]; decide)))
    (ss_seq (ss_if (st_test (so_e (se_s2 s2_isN so_var (so_e se_non)))) ss_brk ss_next)
    (ss_seq (ss_drop (se_app se_var))
    (ss_seq (ss_asg (se_call (sa_cons so_var sa_nil) (fun os r e => m_len_sum_in e)) (sg_name (by rw [hp]; decide)))
    (ss_aug (by rw [hp]; decide) ip2_add (so_e (se_a2 a2_add (so_e (se_sn sn_len (sa_cons so_var sa_nil))) (so_e se_int)))))))))
    (ss_ret (se_tup (sa_cons (so_e (se_an an_tupOf (sa_cons (so_e se_var) sa_nil))) (sa_cons (so_e se_var) sa_nil))))))))
theorem ok__law_cell (T : Txt P K w mg) : FnOk P w K mg base CX0 1 T.d__law_cell.f T.d__law_cell.fd ["script", "k"] (spM K 2 m__law_cell) := by
    refine ok_fn (N := N__law_cell) (ps := ["script", "k"]) (k := 0) (pin := [0, 1]) (body := b__law_cell) T.d__law_cell.F sc__law_cell (by decide) fun cdv A outer s H E hr => ?_
    have hu : _ < _ := hu_of hr
    have hu64 := hr.units
    refine ⟨_, (pss_cons (ps_if (pt_cmpR op_ltIS (pv 1) (pe_callB call_lenAll (by rfl) T.z_len (by decide +kernel) (pa_cons (pv 0) pa_nil)) (nomark _)) (pss_one (ps_ret (pe_ix (ix_all hu) (pv 0) (pv 1) (fun _ _ => rfl)))) pss_nil)
    (pss_one (ps_ret pe_int))), fun B hK hp => ?_⟩
    subst hK
    exact (ss_seq (ss_if (st_test (so_e (se_s2 s2_lt so_var (so_e (se_sn sn_len (sa_cons so_var sa_nil)))))) (ss_ret (se_ix ixOk_all ixOw_all so_var so_var)) ss_next)
    (ss_ret se_int))
theorem ok__law_digits (T : Txt P K w mg) : FnOk P w K mg base CX0 2 T.d__law_digits.f T.d__law_digits.fd ["script", "first", "last"] (spM K 3 m__law_digits) := by
    refine ok_fn (N := N__law_digits) (ps := ["script", "first", "last"]) (k := 1) (pin := [0, 1, 2]) (body := b__law_digits) T.d__law_digits.F sc__law_digits (by decide) fun cdv A outer s H E hr => ?_
    have hu : _ < _ := hu_of hr
    have hu64 := hr.units
    refine ⟨_, (pss_cons (ps_set (i := 3) sc__law_digits.nd rfl (Or.inl rfl) (pe_lst pa_nil))
    (pss_cons (ps_for PassesOwn.never rfl (pi_range2 rfl T.z_range (pa_cons (pv 1) (pa_cons (pv 2) pa_nil))) (pg_name (i := 4) sc__law_digits.nd rfl (Or.inl rfl)) (pss_cons (ps_set (i := 5) sc__law_digits.nd rfl (Or.inl rfl) (pe_call (ok__law_cell T) (hr.mono (by first | decide | omega)) rfl T.d__law_cell.g T.d__law_cell.F.kp T.d__law_cell.b .nil pass0 (pa_cons (pv 0) (pa_cons (pv 4) pa_nil))))
    (pss_cons (ps_if (pt_cmpR op_ltIS (pv 5) pe_int (nomark _)) (pss_one (ps_set (i := 5) sc__law_digits.nd rfl (Or.inl rfl) (pe_op op_sub pe_int (pe_op op_mulAll pe_int (pv 5))))) pss_nil)
    (pss_cons (ps_if (pt_cmpR op_gtIS (pe_callB call_lenAll (by rfl) T.z_len (by decide +kernel) (pa_cons (pv 3) pa_nil)) pe_int (nomark _)) (pss_one ps_break) pss_nil)
    (pss_one (ps_if (pt_cmpR op_geIS (pv 5) (pe_op op_pow pe_int pe_int) (nomark _)) (pss_one (ps_for PassesOwn.never rfl (pi_range1 rfl T.z_range (pa_cons pe_int pa_nil)) (pg_name (i := 6) sc__law_digits.nd rfl (Or.inl rfl)) (pss_one (ps_if (pt_cmpR op_gtIS (pv 5) pe_int (nomark _)) (pss_cons (ps_expr (pe_bm PySem.F.plainAttrs_list PySem.F.slot_list_append PySem.F.type_list_append mt_append (pv 3) (pa_cons (pe_op op_modN (pe_callTy call_intOf (by rfl) T.z_int (by decide +kernel) (pa_cons (pv 5) pa_nil)) pe_int) pa_nil)))
    (pss_one (ps_set (i := 5) sc__law_digits.nd rfl (Or.inl rfl) (pe_op op_fdivX (pv 5) pe_int)))) pss_nil)))) (pss_cons (ps_set (i := 7) sc__law_digits.nd rfl (Or.inl rfl) (pe_op op_modN (pe_callTy call_intOf (by rfl) T.z_int (by decide +kernel) (pa_cons (pe_op op_addAll (pe_op op_addAll (pe_op op_mulAll (pv 5) pe_int) (pe_op op_mulAll (pv 4) pe_int)) pe_int) pa_nil)) pe_int))
    (pss_one (ps_for PassesOwn.never rfl (pi_range1 rfl T.z_range (pa_cons pe_int pa_nil)) (pg_name (i := 6) sc__law_digits.nd rfl (Or.inl rfl)) (pss_cons (ps_set (i := 7) sc__law_digits.nd rfl (Or.inl rfl) (pe_op op_modN (pe_callTy call_intOf (by rfl) T.z_int (by decide +kernel) (pa_cons (pe_op op_addAll (pe_op op_addAll (pe_op op_mulAll (pv 7) pe_int) (pe_op op_mulAll pe_int (pv 6))) pe_int) pa_nil)) pe_int))
    (pss_one (ps_expr (pe_bm PySem.F.plainAttrs_list PySem.F.slot_list_append PySem.F.type_list_append mt_append (pv 3) (pa_cons (pe_op op_modN (pe_callTy call_intOf (by rfl) T.z_int (by decide +kernel) (pa_cons (pe_op op_fdivX (pv 7) pe_int) pa_nil)) pe_int) pa_nil))))))))))))))
    (pss_one (ps_ret (pv 3))))), fun B hK hp => ?_⟩
    subst hK
    exact (ss_seq (ss_asg (se_lst sa_nil) (sg_name (by rw [hp]; decide)))
    (ss_seq (ss_for (si_r2 so_var so_var) (sg_name (by rw [hp]; decide)) (ss_seq (ss_asg (se_call (sa_cons so_var (sa_cons so_var sa_nil)) (fun os r e => m_len__law_cell e)) (sg_name (by rw [hp]; decide)))
    (ss_seq (ss_if (st_test (so_e (se_s2 s2_lt so_var (so_e se_int)))) (ss_asg (se_s2 s2_sub (so_e se_int) (so_e (se_a2 a2_mul (so_e se_int) (so_e se_var)))) (sg_name (by rw [hp]; decide))) ss_next)
    (ss_seq (ss_if (st_test (so_e (se_s2 s2_gt (so_e (se_sn sn_len (sa_cons so_var sa_nil))) (so_e se_int)))) ss_brk ss_next)
    (ss_if (st_test (so_e (se_s2 s2_ge so_var (so_e (se_s2 s2_pow (so_e se_int) (so_e se_int)))))) (ss_for (si_r1 (so_e se_int)) (sg_name (by rw [hp]; decide)) (ss_if (st_test (so_e (se_s2 s2_gt so_var (so_e se_int)))) (ss_seq (ss_drop (se_app (se_s2 s2_mod (so_e (se_sn sn_intOf (sa_cons so_var sa_nil))) (so_e se_int))))
    (ss_asg (se_s2 s2_fdiv so_var (so_e se_int)) (sg_name (by rw [hp]; decide)))) ss_next)) (ss_seq (ss_asg (se_s2 s2_mod (so_e (se_sn sn_intOf (sa_cons (so_e (se_a2 a2_add (so_e (se_a2 a2_add (so_e (se_a2 a2_mul (so_e se_var) (so_e se_int))) (so_e (se_a2 a2_mul (so_e se_var) (so_e se_int))))) (so_e se_int))) sa_nil))) (so_e se_int)) (sg_name (by rw [hp]; decide)))
    (ss_for (si_r1 (so_e se_int)) (sg_name (by rw [hp]; decide)) (ss_seq (ss_asg (se_s2 s2_mod (so_e (se_sn sn_intOf (sa_cons (so_e (se_a2 a2_add (so_e (se_a2 a2_add (so_e (se_a2 a2_mul (so_e se_var) (so_e se_int))) (so_e (se_a2 a2_mul (so_e se_int) (so_e se_var))))) (so_e se_int))) sa_nil))) (so_e se_int)) (sg_name (by rw [hp]; decide)))
    (ss_drop (se_app (se_s2 s2_mod (so_e (se_sn sn_intOf (sa_cons (so_e (se_s2 s2_fdiv so_var (so_e se_int))) sa_nil))) (so_e se_int))))))))))))
    (ss_ret se_move)))
theorem ok__law_draw (T : Txt P K w mg) : FnOk P w K mg base CX0 1 T.d__law_draw.f T.d__law_draw.fd ["box", "many"] (spM K 2 m__law_draw) := by
    refine ok_fn (N := N__law_draw) (ps := ["box", "many"]) (k := 0) (pin := [0, 1]) (body := b__law_draw) T.d__law_draw.F sc__law_draw (by decide) fun cdv A outer s H E hr => ?_
    have hu : _ < _ := hu_of hr
    have hu64 := hr.units
    refine ⟨_, (pss_cons (ps_set (i := 2) sc__law_draw.nd rfl (Or.inl rfl) (pe_ix (ix_all hu) (pv 0) pe_int (fun _ _ => rfl)))
    (pss_cons (ps_asg (pe_op op_addAll (pv 2) pe_int) (pg_sub (pv 0) pe_int set_list))
    (pss_cons (ps_if (pt_cmpR op_ltIS (pv 2) (pe_callB call_lenAll (by rfl) T.z_len (by decide +kernel) (pa_cons (pe_ix (ix_all hu) (pv 0) pe_int (fun _ _ => rfl)) pa_nil)) (nomark _)) (pss_one (ps_ret (pe_op op_modN (pe_callTy call_intOf (by rfl) T.z_int (by decide +kernel) (pa_cons (pe_ix (ix_all hu) (pe_ix (ix_all hu) (pv 0) pe_int (fun _ _ => rfl)) (pv 2) (fun _ _ => rfl)) pa_nil)) (pv 1)))) pss_nil)
    (pss_one (ps_ret (pe_op op_modN (pe_callTy call_intOf (by rfl) T.z_int (by decide +kernel) (pa_cons (pe_op op_mulAll (pv 2) pe_int) pa_nil)) (pv 1))))))), fun B hK hp => ?_⟩
    subst hK
    exact (ss_seq (ss_asg (se_ix ixOk_all ixOw_all so_var (so_e se_int)) (sg_name (by rw [hp]; decide)))
    (ss_seq (ss_asg (se_a2 a2_add (so_e se_var) (so_e se_int)) (sg_setL (so_e se_int)))
    (ss_seq (ss_if (st_test (so_e (se_s2 s2_lt so_var (so_e (se_sn sn_len (sa_cons (so_e (se_ix ixOk_all ixOw_all so_var (so_e se_int))) sa_nil)))))) (ss_ret (se_s2 s2_mod (so_e (se_sn sn_intOf (sa_cons (so_e (se_ix ixOk_all ixOw_all (so_e (se_ix ixOk_all ixOw_all so_var (so_e se_int))) so_var)) sa_nil))) so_var)) ss_next)
    (ss_ret (se_s2 s2_mod (so_e (se_sn sn_intOf (sa_cons (so_e (se_a2 a2_mul (so_e se_var) (so_e se_int))) sa_nil))) so_var)))))
theorem ok__law_pick (T : Txt P K w mg) : FnOk P w K mg base CX0 2 T.d__law_pick.f T.d__law_pick.fd ["box", "things"] (spM K 2 m__law_pick) := by
    refine ok_fn (N := N__law_pick) (ps := ["box", "things"]) (k := 1) (pin := [0, 1]) (body := b__law_pick) T.d__law_pick.F sc__law_pick (by decide) fun cdv A outer s H E hr => ?_
    have hu : _ < _ := hu_of hr
    have hu64 := hr.units
    refine ⟨_, (pss_one (ps_ret (pe_ix (ix_all hu) (pv 1) (pe_op op_modN (pe_callTy call_intOf (by rfl) T.z_int (by decide +kernel) (pa_cons (pe_call (ok__law_draw T) (hr.mono (by first | decide | omega)) rfl T.d__law_draw.g T.d__law_draw.F.kp T.d__law_draw.b .nil pass0 (pa_cons (pv 0) (pa_cons pe_int pa_nil))) pa_nil)) (pe_callB call_lenAll (by rfl) T.z_len (by decide +kernel) (pa_cons (pv 1) pa_nil))) (fun _ _ => rfl)))), fun B hK hp => ?_⟩
    subst hK
    exact (ss_ret (se_ix ixOk_all ixOw_all so_var (so_e (se_s2 s2_mod (so_e (se_sn sn_intOf (sa_cons (so_e (se_call (sa_cons so_var (sa_cons (so_e se_int) sa_nil)) (fun os r e => m_len__law_draw e))) sa_nil))) (so_e (se_sn sn_len (sa_cons so_var sa_nil)))))))
theorem ok__law_like (T : Txt P K w mg) : ∀ n : Nat, FnOk P w K mg base CX0 (n + 0) T.d__law_like.f T.d__law_like.fd ["told", "due"] (spM K 2 (m__law_like n))
  | 0 => FnOk.no
  | n + 1 => by
    have G := ok__law_like T n
    refine ok_fn (N := N__law_like) (ps := ["told", "due"]) (k := n + 0) (pin := [0, 1]) (body := b__law_like (fun _ => m__law_like n) n) T.d__law_like.F sc__law_like (by decide) fun cdv A outer s H E hr => ?_
    have hu : _ < _ := hu_of hr
    have hu64 := hr.units
    refine ⟨_, (pss_cons (ps_if (pt_truth (pe_callB call_isi (by rfl) T.z_isinstance (by decide +kernel) (pa_cons (pv 1) (pa_cons (pe_bltn (v := .ty "tuple") (u := .type "tuple") (by rfl) T.z_tuple (by decide +kernel) rfl) pa_nil))) (by intro _; rfl)) (pss_cons (ps_if (PW.pt (pw_or (pt_not (pt_truth (pe_callB call_isi (by rfl) T.z_isinstance (by decide +kernel) (pa_cons (pv 0) (pa_cons (pe_bltn (v := .ty "tuple") (u := .type "tuple") (by rfl) T.z_tuple (by decide +kernel) rfl) pa_nil))) (by intro _; rfl))) (pw_or1 (pt_cmpR (op_neAll hu64) (pe_callB call_lenAll (by rfl) T.z_len (by decide +kernel) (pa_cons (pv 0) pa_nil)) (pe_callB call_lenAll (by rfl) T.z_len (by decide +kernel) (pa_cons (pv 1) pa_nil)) (nomark _))))) (pss_one (ps_ret pe_bl)) pss_nil)
    (pss_one (ps_ret (pe_cmpR (op_eqAll hu64) (pe_lcM (own := [("k", 2)]) rfl sc__law_like.nd (pi_range1 rfl T.z_range (pa_cons (pe_callB call_lenAll (by rfl) T.z_len (by decide +kernel) (pa_cons (pv 1) pa_nil)) pa_nil)) (blkOk_by (own := [("k", 2)]) (N := N__law_like) (sc := (defScope s__law_like)) (by decide +kernel)) (fun _ _ _ _ _ => (pg_name (i := 2) sc__law_like.nd rfl (Or.inl rfl))) (fun _ _ _ _ _ => (pts_one (pt_not (pt_truth (pe_call G (hr.mono (by first | decide | omega)) rfl T.d__law_like.g T.d__law_like.F.kp T.d__law_like.b .nil pass0 (pa_cons (pe_ix (ix_all hu) (pv 0) (pv 2) (fun _ _ => rfl)) (pa_cons (pe_ix (ix_all hu) (pv 1) (pv 2) (fun _ _ => rfl)) pa_nil))) (by intro _; rfl))))) (fun _ _ _ _ _ => pe_int) (fun _ _ _ _ _ => rfl) (fun _ _ _ _ _ => rfl) (fun _ _ _ _ _ => rfl)) (pe_lst pa_nil) (nomark _))))) pss_nil)
    (pss_cons (ps_if (pt_cmpR op_isN (pv 1) pe_non (nomark _)) (pss_one (ps_ret (pe_cmpR op_isN (pv 0) pe_non (nomark _)))) pss_nil)
    (pss_cons (ps_if (pt_cmpR op_isBl1 (pv 1) pe_bl (nomark _)) (pss_one (ps_ret (pe_cmpR op_isBl1 (pv 0) pe_bl (nomark _)))) pss_nil)
    (pss_cons (ps_if (pt_cmpR op_isBl1 (pv 1) pe_bl (nomark _)) (pss_one (ps_ret (pe_cmpR op_isBl1 (pv 0) pe_bl (nomark _)))) pss_nil)
    (pss_cons (ps_if (pt_truth (pe_callB call_isi (by rfl) T.z_isinstance (by decide +kernel) (pa_cons (pv 1) (pa_cons (pe_bltn (v := .ty "str") (u := .type "str") (by rfl) T.z_str (by decide +kernel) rfl) pa_nil))) (by intro _; rfl)) (pss_one (ps_ret (pe_andT (pe_callB call_isi (by rfl) T.z_isinstance (by decide +kernel) (pa_cons (pv 0) (pa_cons (pe_bltn (v := .ty "str") (u := .type "str") (by rfl) T.z_str (by decide +kernel) rfl) pa_nil))) (pe_one (pe_cmpR (op_eqAll hu64) (pe_bm PySem.F.plainAttrs_str PySem.F.slot_str_join PySem.F.type_str_join mt_joinK pe_str (pa_cons (pe_lst (pa_cons (pv 0) pa_nil)) pa_nil)) (pv 1) (nomark _)))))) pss_nil)
    (pss_one (ps_ret (pe_andT (pe_callB call_isi (by rfl) T.z_isinstance (by decide +kernel) (pa_cons (pv 0) (pa_cons (pe_bltn (v := .ty "int") (u := .type "int") (by rfl) T.z_int (by decide +kernel) rfl) pa_nil))) (pe_andT (pe_notT (pe_callB call_isi (by rfl) T.z_isinstance (by decide +kernel) (pa_cons (pv 0) (pa_cons (pe_bltn (v := .ty "bool") (u := .type "bool") (by rfl) T.z_bool (by decide +kernel) rfl) pa_nil)))) (pe_one (pe_cmpR (op_eqAll hu64) (pv 0) (pv 1) (nomark _)))))))))))), fun B hK hp => ?_⟩
    subst hK
    exact (ss_seq (ss_if (st_tru (so_e (se_isi isTy_tup so_var))) (ss_seq (ss_if (st_or (st_not (st_tru (so_e (se_isi isTy_tup so_var)))) (st_test (so_e (se_s2 s2_ne (so_e (se_sn sn_len (sa_cons so_var sa_nil))) (so_e (se_sn sn_len (sa_cons so_var sa_nil))))))) (ss_ret se_bl) ss_next)
    (ss_ret (se_s2 s2_eq (so_e (se_lc (vs := [2]) (by rw [hp]; decide) (si_r1 (so_e (se_sn sn_len (sa_cons so_var sa_nil)))) (sgw_name (by rw [hp]; decide) (by decide)) (st_not (st_tru (so_e (se_call (sa_cons (so_e (se_ix ixOk_all ixOw_all so_var so_var)) (sa_cons (so_e (se_ix ixOk_all ixOw_all so_var so_var)) sa_nil)) (fun os r e => m_len__law_like n e))))) se_int)) (so_e (se_lst sa_nil))))) ss_next)
    (ss_seq (ss_if (st_test (so_e (se_s2 s2_isN so_var (so_e se_non)))) (ss_ret (se_s2 s2_isN so_var (so_e se_non))) ss_next)
    (ss_seq (ss_if (st_test (so_e (se_s2 s2_isB so_var (so_e se_bl)))) (ss_ret (se_s2 s2_isB so_var (so_e se_bl))) ss_next)
    (ss_seq (ss_if (st_test (so_e (se_s2 s2_isB so_var (so_e se_bl)))) (ss_ret (se_s2 s2_isB so_var (so_e se_bl))) ss_next)
    (ss_seq (ss_if (st_tru (so_e (se_isi isTy_str so_var))) (ss_ret (se_andV (so_e (se_isi isTy_str so_var)) (se_s2 s2_eq (so_e (se_ms ms_join (so_e se_str) (sa_cons (so_e (se_lst (sa_cons (so_e se_var) sa_nil))) sa_nil))) so_var))) ss_next)
    (ss_ret (se_andV (so_e (se_isi isTy_int so_var)) (se_andV (so_e (se_notV (so_e (se_isi isTy_bool so_var)))) (se_s2 s2_eq so_var so_var)))))))))
theorem ok__law_like_8 (T : Txt P K w mg) : FnOk P w K mg base CX0 8 T.d__law_like.f T.d__law_like.fd ["told", "due"] (spM K 2 m__law_like_8) := ok__law_like T 8
theorem ok__law_start (T : Txt P K w mg) : FnOk P w K mg base CX0 1 T.d__law_start.f T.d__law_start.fd [] (spM K 0 m__law_start) := by
    refine ok_fn (N := N__law_start) (ps := []) (k := 0) (pin := []) (body := b__law_start) T.d__law_start.F sc__law_start (by decide) fun cdv A outer s H E hr => ?_
    have hu : _ < _ := hu_of hr
    have hu64 := hr.units
    refine ⟨_, (pss_one (ps_ret (pe_tup (pa_cons pe_str (pa_cons (pe_tup (pa_cons pe_str (pa_cons pe_str pa_nil))) (pa_cons (pe_tup (pa_cons (pe_tup (pa_cons pe_str (pa_cons pe_str (pa_cons pe_str (pa_cons (pe_tup (pa_cons pe_int (pa_cons pe_int pa_nil))) pa_nil))))) (pa_cons (pe_tup (pa_cons pe_str (pa_cons pe_str (pa_cons pe_str (pa_cons (pe_tup (pa_cons pe_int (pa_cons pe_int pa_nil))) pa_nil))))) pa_nil))) pa_nil)))))), fun B hK hp => ?_⟩
    subst hK
    exact (ss_ret (se_tup (sa_cons (so_e se_str) (sa_cons (so_e (se_tup (sa_cons (so_e se_str) (sa_cons (so_e se_str) sa_nil)))) (sa_cons (so_e (se_tup (sa_cons (so_e (se_tup (sa_cons (so_e se_str) (sa_cons (so_e se_str) (sa_cons (so_e se_str) (sa_cons (so_e (se_tup (sa_cons (so_e se_int) (sa_cons (so_e se_int) sa_nil)))) sa_nil)))))) (sa_cons (so_e (se_tup (sa_cons (so_e se_str) (sa_cons (so_e se_str) (sa_cons (so_e se_str) (sa_cons (so_e (se_tup (sa_cons (so_e se_int) (sa_cons (so_e se_int) sa_nil)))) sa_nil)))))) sa_nil)))) sa_nil)))))
theorem ok__law_entry (T : Txt P K w mg) : FnOk P w K mg base CX0 3 T.d__law_entry.f T.d__law_entry.fd ["box", "at"] (spM K 2 m__law_entry) := by
    refine ok_fn (N := N__law_entry) (ps := ["box", "at"]) (k := 2) (pin := [0, 1]) (body := b__law_entry) T.d__law_entry.F sc__law_entry (by decide) fun cdv A outer s H E hr => ?_
    have hu : _ < _ := hu_of hr
    have hu64 := hr.units
    refine ⟨_, (pss_cons (ps_set (i := 2) sc__law_entry.nd rfl (Or.inl rfl) (pe_tup (pa_cons pe_str (pa_cons (pe_op op_addAll pe_int (pv 1)) (pa_cons (pe_tup (pa_cons pe_str (pa_cons (pe_tup (pa_cons pe_str (pa_cons pe_str (pa_cons pe_str (pa_cons (pe_tup (pa_cons (pe_op op_addAll pe_int (pe_call (ok__law_draw T) (hr.mono (by first | decide | omega)) rfl T.d__law_draw.g T.d__law_draw.F.kp T.d__law_draw.b .nil pass0 (pa_cons (pv 0) (pa_cons pe_int pa_nil)))) (pa_cons pe_int pa_nil))) pa_nil))))) pa_nil))) pa_nil)))))
    (pss_cons (ps_if (pt_cmpR (op_eqAll hu64) (pv 1) pe_int (nomark _)) (pss_one (ps_ret (pe_ix (ix_all hu) (pe_lst (pa_cons (pe_tup (pa_cons pe_str (pa_cons pe_str (pa_cons (pe_tup (pa_cons pe_str pa_nil)) (pa_cons (pe_call0 (ok__law_start T) (hr.mono (by first | decide | omega)) rfl T.d__law_start.g T.d__law_start.F.kp T.d__law_start.b .nil pass0 ) pa_nil))))) (pa_cons (pe_tup (pa_cons pe_str (pa_cons (pe_tup (pa_cons pe_int (pa_cons (pe_tup (pa_cons pe_str (pa_cons pe_non pa_nil))) pa_nil))) pa_nil))) pa_nil))) (pe_call (ok__law_draw T) (hr.mono (by first | decide | omega)) rfl T.d__law_draw.g T.d__law_draw.F.kp T.d__law_draw.b .nil pass0 (pa_cons (pv 0) (pa_cons pe_int pa_nil))) (fun _ _ => rfl)))) pss_nil)
    (pss_cons (ps_set (i := 3) sc__law_entry.nd rfl (Or.inl rfl) (pe_lst (pa_cons (pe_tup (pa_cons pe_str (pa_cons (pv 2) pa_nil))) (pa_cons (pe_tup (pa_cons pe_str (pa_cons (pv 2) pa_nil))) (pa_cons (pe_tup (pa_cons pe_str (pa_cons (pe_tup (pa_cons pe_str (pa_cons pe_str (pa_cons pe_str pa_nil)))) (pa_cons (pe_call (ok__law_draw T) (hr.mono (by first | decide | omega)) rfl T.d__law_draw.g T.d__law_draw.F.kp T.d__law_draw.b .nil pass0 (pa_cons (pv 0) (pa_cons pe_int pa_nil))) pa_nil)))) (pa_cons (pe_tup (pa_cons pe_str (pa_cons (pe_tup (pa_cons pe_str pa_nil)) (pa_cons pe_str (pa_cons pe_int pa_nil))))) (pa_cons (pe_tup (pa_cons pe_str (pa_cons (pe_tup (pa_cons pe_str (pa_cons pe_str pa_nil))) (pa_cons pe_str (pa_cons pe_int pa_nil))))) pa_nil)))))))
    (pss_one (ps_ret (pe_call (ok__law_pick T) (hr.mono (by first | decide | omega)) rfl T.d__law_pick.g T.d__law_pick.F.kp T.d__law_pick.b .nil pass0 (pa_cons (pv 0) (pa_cons (pv 3) pa_nil)))))))), fun B hK hp => ?_⟩
    subst hK
    exact (ss_seq (ss_asg (se_tup (sa_cons (so_e se_str) (sa_cons (so_e (se_a2 a2_add (so_e se_int) (so_e se_var))) (sa_cons (so_e (se_tup (sa_cons (so_e se_str) (sa_cons (so_e (se_tup (sa_cons (so_e se_str) (sa_cons (so_e se_str) (sa_cons (so_e se_str) (sa_cons (so_e (se_tup (sa_cons (so_e (se_a2 a2_add (so_e se_int) (so_e (se_call (sa_cons so_var (sa_cons (so_e se_int) sa_nil)) (fun os r e => m_len__law_draw e))))) (sa_cons (so_e se_int) sa_nil)))) sa_nil)))))) sa_nil)))) sa_nil)))) (sg_name (by rw [hp]; decide)))
    (ss_seq (ss_if (st_test (so_e (se_s2 s2_eq so_var (so_e se_int)))) (ss_ret (se_ix ixOk_all ixOw_all (so_e (se_lst (sa_cons (so_e (se_tup (sa_cons (so_e se_str) (sa_cons (so_e se_str) (sa_cons (so_e (se_tup (sa_cons (so_e se_str) sa_nil))) (sa_cons (so_e (se_call sa_nil (fun os r e => m_len__law_start e))) sa_nil)))))) (sa_cons (so_e (se_tup (sa_cons (so_e se_str) (sa_cons (so_e (se_tup (sa_cons (so_e se_int) (sa_cons (so_e (se_tup (sa_cons (so_e se_str) (sa_cons (so_e se_non) sa_nil)))) sa_nil)))) sa_nil)))) sa_nil)))) (so_e (se_call (sa_cons so_var (sa_cons (so_e se_int) sa_nil)) (fun os r e => m_len__law_draw e))))) ss_next)
    (ss_seq (ss_asg (se_lst (sa_cons (so_e (se_tup (sa_cons (so_e se_str) (sa_cons (so_e se_var) sa_nil)))) (sa_cons (so_e (se_tup (sa_cons (so_e se_str) (sa_cons (so_e se_var) sa_nil)))) (sa_cons (so_e (se_tup (sa_cons (so_e se_str) (sa_cons (so_e (se_tup (sa_cons (so_e se_str) (sa_cons (so_e se_str) (sa_cons (so_e se_str) sa_nil))))) (sa_cons (so_e (se_call (sa_cons so_var (sa_cons (so_e se_int) sa_nil)) (fun os r e => m_len__law_draw e))) sa_nil))))) (sa_cons (so_e (se_tup (sa_cons (so_e se_str) (sa_cons (so_e (se_tup (sa_cons (so_e se_str) sa_nil))) (sa_cons (so_e se_str) (sa_cons (so_e se_int) sa_nil)))))) (sa_cons (so_e (se_tup (sa_cons (so_e se_str) (sa_cons (so_e (se_tup (sa_cons (so_e se_str) (sa_cons (so_e se_str) sa_nil)))) (sa_cons (so_e se_str) (sa_cons (so_e se_int) sa_nil)))))) sa_nil)))))) (sg_name (by rw [hp]; decide)))
    (ss_ret (se_call (sa_cons so_var (sa_cons so_var sa_nil)) (fun os r e => m_len__law_pick e))))))
theorem ok__law_wrong (T : Txt P K w mg) : FnOk P w K mg base CX0 3 T.d__law_wrong.f T.d__law_wrong.fd ["box"] (spM K 1 m__law_wrong) := by
    refine ok_fn (N := N__law_wrong) (ps := ["box"]) (k := 2) (pin := [0]) (body := b__law_wrong) T.d__law_wrong.F sc__law_wrong (by decide) fun cdv A outer s H E hr => ?_
    have hu : _ < _ := hu_of hr
    have hu64 := hr.units
    refine ⟨_, (pss_cons (ps_set (i := 1) sc__law_wrong.nd rfl (Or.inl rfl) (pe_lst (pa_cons (pe_tup (pa_cons pe_str (pa_cons (pe_tup pa_nil) pa_nil))) (pa_cons (pe_tup (pa_cons pe_str pa_nil)) (pa_cons (pe_tup (pa_cons pe_str (pa_cons (pe_tup (pa_cons pe_str (pa_cons pe_int (pa_cons (pe_tup (pa_cons pe_str (pa_cons pe_int pa_nil))) pa_nil)))) pa_nil))) (pa_cons (pe_tup (pa_cons pe_str (pa_cons pe_int (pa_cons pe_int pa_nil)))) (pa_cons (pe_tup (pa_cons pe_str (pa_cons (pe_tup (pa_cons pe_str (pa_cons pe_str (pa_cons pe_str pa_nil)))) (pa_cons pe_int pa_nil)))) pa_nil)))))))
    (pss_cons (ps_set (i := 1) sc__law_wrong.nd rfl (Or.inl rfl) (pe_op op_addAll (pv 1) (pe_lst (pa_cons (pe_tup (pa_cons pe_str (pa_cons (pe_tup (pa_cons pe_str (pa_cons pe_str (pa_cons pe_str pa_nil)))) pa_nil))) (pa_cons (pe_tup (pa_cons pe_str (pa_cons pe_int (pa_cons pe_str (pa_cons pe_int pa_nil))))) pa_nil)))))
    (pss_cons (ps_set (i := 1) sc__law_wrong.nd rfl (Or.inl rfl) (pe_op op_addAll (pv 1) (pe_lst (pa_cons (pe_tup (pa_cons pe_str (pa_cons (pe_tup (pa_cons pe_str pa_nil)) (pa_cons pe_int (pa_cons pe_int pa_nil))))) (pa_cons (pe_tup (pa_cons pe_str (pa_cons (pe_tup (pa_cons pe_str pa_nil)) (pa_cons pe_str (pa_cons pe_str pa_nil))))) (pa_cons (pe_tup (pa_cons pe_str (pa_cons (pe_tup (pa_cons pe_str pa_nil)) (pa_cons pe_str pa_nil)))) (pa_cons (pe_tup (pa_cons pe_str (pa_cons pe_int pa_nil))) (pa_cons (pe_tup pa_nil) (pa_cons pe_int (pa_cons (pe_tup (pa_cons pe_str (pa_cons pe_str (pa_cons (pe_tup pa_nil) (pa_cons (pe_call0 (ok__law_start T) (hr.mono (by first | decide | omega)) rfl T.d__law_start.g T.d__law_start.F.kp T.d__law_start.b .nil pass0 ) pa_nil))))) (pa_cons (pe_tup (pa_cons pe_str (pa_cons pe_int pa_nil))) pa_nil)))))))))))
    (pss_one (ps_ret (pe_call (ok__law_pick T) (hr.mono (by first | decide | omega)) rfl T.d__law_pick.g T.d__law_pick.F.kp T.d__law_pick.b .nil pass0 (pa_cons (pv 0) (pa_cons (pv 1) pa_nil)))))))), fun B hK hp => ?_⟩
    subst hK
    exact (ss_seq (ss_asg (se_lst (sa_cons (so_e (se_tup (sa_cons (so_e se_str) (sa_cons (so_e (se_tup sa_nil)) sa_nil)))) (sa_cons (so_e (se_tup (sa_cons (so_e se_str) sa_nil))) (sa_cons (so_e (se_tup (sa_cons (so_e se_str) (sa_cons (so_e (se_tup (sa_cons (so_e se_str) (sa_cons (so_e se_int) (sa_cons (so_e (se_tup (sa_cons (so_e se_str) (sa_cons (so_e se_int) sa_nil)))) sa_nil))))) sa_nil)))) (sa_cons (so_e (se_tup (sa_cons (so_e se_str) (sa_cons (so_e se_int) (sa_cons (so_e se_int) sa_nil))))) (sa_cons (so_e (se_tup (sa_cons (so_e se_str) (sa_cons (so_e (se_tup (sa_cons (so_e se_str) (sa_cons (so_e se_str) (sa_cons (so_e se_str) sa_nil))))) (sa_cons (so_e se_int) sa_nil))))) sa_nil)))))) (sg_name (by rw [hp]; decide)))
    (ss_seq (ss_asg (se_a2 a2_add (so_e se_var) (so_e (se_lst (sa_cons (so_e (se_tup (sa_cons (so_e se_str) (sa_cons (so_e (se_tup (sa_cons (so_e se_str) (sa_cons (so_e se_str) (sa_cons (so_e se_str) sa_nil))))) sa_nil)))) (sa_cons (so_e (se_tup (sa_cons (so_e se_str) (sa_cons (so_e se_int) (sa_cons (so_e se_str) (sa_cons (so_e se_int) sa_nil)))))) sa_nil))))) (sg_name (by rw [hp]; decide)))
    (ss_seq (ss_asg (se_a2 a2_add (so_e se_var) (so_e (se_lst (sa_cons (so_e (se_tup (sa_cons (so_e se_str) (sa_cons (so_e (se_tup (sa_cons (so_e se_str) sa_nil))) (sa_cons (so_e se_int) (sa_cons (so_e se_int) sa_nil)))))) (sa_cons (so_e (se_tup (sa_cons (so_e se_str) (sa_cons (so_e (se_tup (sa_cons (so_e se_str) sa_nil))) (sa_cons (so_e se_str) (sa_cons (so_e se_str) sa_nil)))))) (sa_cons (so_e (se_tup (sa_cons (so_e se_str) (sa_cons (so_e (se_tup (sa_cons (so_e se_str) sa_nil))) (sa_cons (so_e se_str) sa_nil))))) (sa_cons (so_e (se_tup (sa_cons (so_e se_str) (sa_cons (so_e se_int) sa_nil)))) (sa_cons (so_e (se_tup sa_nil)) (sa_cons (so_e se_int) (sa_cons (so_e (se_tup (sa_cons (so_e se_str) (sa_cons (so_e se_str) (sa_cons (so_e (se_tup sa_nil)) (sa_cons (so_e (se_call sa_nil (fun os r e => m_len__law_start e))) sa_nil)))))) (sa_cons (so_e (se_tup (sa_cons (so_e se_str) (sa_cons (so_e se_int) sa_nil)))) sa_nil))))))))))) (sg_name (by rw [hp]; decide)))
    (ss_ret (se_call (sa_cons so_var (sa_cons so_var sa_nil)) (fun os r e => m_len__law_pick e))))))
theorem ok__law_sum (T : Txt P K w mg) : FnOk P w K mg base CX0 1 T.d__law_sum.f T.d__law_sum.fd ["n", "before", "text"] (spM K 3 m__law_sum) := by
    refine ok_fn (N := N__law_sum) (ps := ["n", "before", "text"]) (k := 0) (pin := [0, 1, 2]) (body := b__law_sum) T.d__law_sum.F sc__law_sum (by decide) fun cdv A outer s H E hr => ?_
    have hu : _ < _ := hu_of hr
    have hu64 := hr.units
    refine ⟨_, (pss_cons (ps_set (i := 3) sc__law_sum.nd rfl (Or.inl rfl) (pe_op op_addAll (pv 1) (pv 0)))
    (pss_cons (ps_for PassesOwn.never rfl (pi_range1 rfl T.z_range (pa_cons (pe_callB call_lenAll (by rfl) T.z_len (by decide +kernel) (pa_cons (pv 2) pa_nil)) pa_nil)) (pg_name (i := 4) sc__law_sum.nd rfl (Or.inl rfl)) (pss_one (ps_set (i := 3) sc__law_sum.nd rfl (Or.inl rfl) (pe_op op_addAll (pv 3) (pe_op op_mulAll (pe_op op_addAll (pv 4) pe_int) (pe_callB call_ord (by rfl) T.z_ord (by decide +kernel) (pa_cons (pe_ix (ix_all hu) (pv 2) (pv 4) (fun _ _ => rfl)) pa_nil)))))))
    (pss_one (ps_ret (pe_op op_modN (pe_callTy call_intOf (by rfl) T.z_int (by decide +kernel) (pa_cons (pv 3) pa_nil)) pe_int))))), fun B hK hp => ?_⟩
    subst hK
    exact (ss_seq (ss_asg (se_a2 a2_add (so_e se_var) (so_e se_var)) (sg_name (by rw [hp]; decide)))
    (ss_seq (ss_for (si_r1 (so_e (se_sn sn_len (sa_cons so_var sa_nil)))) (sg_name (by rw [hp]; decide)) (ss_asg (se_a2 a2_add (so_e se_var) (so_e (se_a2 a2_mul (so_e (se_a2 a2_add (so_e se_var) (so_e se_int))) (so_e (se_sn sn_ord (sa_cons (so_e (se_ix ixOk_all ixOw_all so_var so_var)) sa_nil)))))) (sg_name (by rw [hp]; decide))))
    (ss_ret (se_s2 s2_mod (so_e (se_sn sn_intOf (sa_cons so_var sa_nil))) (so_e se_int)))))
theorem ok__law_lines (T : Txt P K w mg) : FnOk P w K mg base CX0 10 T.d__law_lines.f T.d__law_lines.fd ["entries"] (spM K 1 m__law_lines) := by
    refine ok_fn (N := N__law_lines) (ps := ["entries"]) (k := 9) (pin := [0]) (body := b__law_lines) T.d__law_lines.F sc__law_lines (by decide) fun cdv A outer s H E hr => ?_
    have hu : _ < _ := hu_of hr
    have hu64 := hr.units
    refine ⟨_, (pss_cons (ps_set (i := 1) sc__law_lines.nd rfl (Or.inl rfl) (pe_lst pa_nil))
    (pss_cons (ps_set (i := 2) sc__law_lines.nd rfl (Or.inl rfl) pe_int)
    (pss_cons (ps_for PassesOwn.never rfl (pi_range1 rfl T.z_range (pa_cons (pe_callB call_lenAll (by rfl) T.z_len (by decide +kernel) (pa_cons (pv 0) pa_nil)) pa_nil)) (pg_name (i := 3) sc__law_lines.nd rfl (Or.inl rfl)) (pss_cons (ps_set (i := 4) sc__law_lines.nd rfl (Or.inl rfl) (pe_call (ok_show_plain_9 T) (hr.mono (by first | decide | omega)) rfl T.d_show_plain.g T.d_show_plain.F.kp T.d_show_plain.b .nil pass0 (pa_cons (pe_ix (ix_all hu) (pv 0) (pv 3) (fun _ _ => rfl)) pa_nil)))
    (pss_cons (ps_set (i := 2) sc__law_lines.nd rfl (Or.inl rfl) (pe_call (ok__law_sum T) (hr.mono (by first | decide | omega)) rfl T.d__law_sum.g T.d__law_sum.F.kp T.d__law_sum.b .nil pass0 (pa_cons (pv 3) (pa_cons (pv 2) (pa_cons (pv 4) pa_nil)))))
    (pss_one (ps_expr (pe_bm PySem.F.plainAttrs_list PySem.F.slot_list_append PySem.F.type_list_append mt_append (pv 1) (pa_cons (pe_op op_addAll (pe_op op_addAll (pe_op op_addAll (pe_op op_addAll (pe_callTy call_strOf (by rfl) T.z_str (by decide +kernel) (pa_cons (pv 3) pa_nil)) pe_str) (pe_callTy call_strOf (by rfl) T.z_str (by decide +kernel) (pa_cons (pv 2) pa_nil))) pe_str) (pv 4)) pa_nil)))))))
    (pss_one (ps_ret (pv 1)))))), fun B hK hp => ?_⟩
    subst hK
    exact (ss_seq (ss_asg (se_lst sa_nil) (sg_name (by rw [hp]; decide)))
    (ss_seq (ss_asg se_int (sg_name (by rw [hp]; decide)))
    (ss_seq (ss_for (si_r1 (so_e (se_sn sn_len (sa_cons so_var sa_nil)))) (sg_name (by rw [hp]; decide)) (ss_seq (ss_asg (se_call (sa_cons (so_e (se_ix ixOk_all ixOw_all so_var so_var)) sa_nil) (fun os r e => m_len_show_plain_9 e)) (sg_name (by rw [hp]; decide)))
    (ss_seq (ss_asg (se_call (sa_cons so_var (sa_cons so_var (sa_cons so_var sa_nil))) (fun os r e => m_len__law_sum e)) (sg_name (by rw [hp]; decide)))
    (ss_drop (se_app (se_a2 a2_add (so_e (se_a2 a2_add (so_e (se_a2 a2_add (so_e (se_a2 a2_add (so_e (se_sn sn_strOf (sa_cons so_var sa_nil))) (so_e se_str))) (so_e (se_sn sn_strOf (sa_cons so_var sa_nil))))) (so_e se_str))) (so_e se_var)))))))
    (ss_ret se_move))))
theorem ok__law_shifted (T : Txt P K w mg) : FnOk P w K mg base CX0 3 T.d__law_shifted.f T.d__law_shifted.fd ["box", "lines"] (spM K 2 m__law_shifted) := by
    refine ok_fn (N := N__law_shifted) (ps := ["box", "lines"]) (k := 2) (pin := [0]) (body := b__law_shifted) T.d__law_shifted.F sc__law_shifted (by decide) fun cdv A outer s H E hr => ?_
    have hu : _ < _ := hu_of hr
    have hu64 := hr.units
    refine ⟨_, (pss_cons (ps_set (i := 2) sc__law_shifted.nd rfl (Or.inl rfl) (pe_op op_modN (pe_callTy call_intOf (by rfl) T.z_int (by decide +kernel) (pa_cons (pe_call (ok__law_draw T) (hr.mono (by first | decide | omega)) rfl T.d__law_draw.g T.d__law_draw.F.kp T.d__law_draw.b .nil pass0 (pa_cons (pv 0) (pa_cons pe_int pa_nil))) pa_nil)) (pe_callB call_lenAll (by rfl) T.z_len (by decide +kernel) (pa_cons (pv 1) pa_nil))))
    (pss_cons (ps_set (i := 3) sc__law_shifted.nd rfl (Or.inl rfl) (pe_call (ok__law_draw T) (hr.mono (by first | decide | omega)) rfl T.d__law_draw.g T.d__law_draw.F.kp T.d__law_draw.b .nil pass0 (pa_cons (pv 0) (pa_cons pe_int pa_nil))))
    (pss_cons (ps_set (i := 4) sc__law_shifted.nd rfl (Or.inl rfl) (pe_bm PySem.F.plainAttrs_str PySem.F.slot_str_split PySem.F.type_str_split mt_splitMax (pe_ix (ix_all hu) (pv 1) (pv 2) (fun _ _ => rfl)) (pa_cons pe_str (pa_cons pe_int pa_nil))))
    (pss_cons (ps_if (pt_cmpR (op_eqAll hu64) (pv 3) pe_int (nomark _)) (pss_one (ps_set (i := 1) sc__law_shifted.nd rfl (Or.inl rfl) (pe_op op_addAll (pe_slice sl_all (pv 1) po_none (po_some (pv 2))) (pe_slice sl_all (pv 1) (po_some (pe_op op_addAll (pv 2) pe_int)) po_none)))) (pss_one (ps_if (pt_cmpR (op_eqAll hu64) (pv 3) pe_int (nomark _)) (pss_one (ps_set (i := 1) sc__law_shifted.nd rfl (Or.inl rfl) (pe_op op_addAll (pe_slice sl_all (pv 1) po_none (po_some (pe_op op_addAll (pv 2) pe_int))) (pe_slice sl_all (pv 1) (po_some (pv 2)) po_none)))) (pss_one (ps_if (PW.pt (pw_and (pt_cmpR (op_eqAll hu64) (pv 3) pe_int (nomark _)) (pw_and1 (pt_cmpR op_ltIS (pe_op op_addAll (pv 2) pe_int) (pe_callB call_lenAll (by rfl) T.z_len (by decide +kernel) (pa_cons (pv 1) pa_nil)) (nomark _))))) (pss_one (ps_set (i := 1) sc__law_shifted.nd rfl (Or.inl rfl) (pe_op op_addAll (pe_op op_addAll (pe_slice sl_all (pv 1) po_none (po_some (pv 2))) (pe_lst (pa_cons (pe_ix (ix_all hu) (pv 1) (pe_op op_addAll (pv 2) pe_int) (fun _ _ => rfl)) (pa_cons (pe_ix (ix_all hu) (pv 1) (pv 2) (fun _ _ => rfl)) pa_nil)))) (pe_slice sl_all (pv 1) (po_some (pe_op op_addAll (pv 2) pe_int)) po_none)))) (pss_one (ps_if (pt_cmpR (op_eqAll hu64) (pv 3) pe_int (nomark _)) (pss_one (ps_set (i := 1) sc__law_shifted.nd rfl (Or.inl rfl) (pe_op op_addAll (pe_op op_addAll (pe_slice sl_all (pv 1) po_none (po_some (pv 2))) (pe_lst (pa_cons (pe_call (ok__law_pick T) (hr.mono (by first | decide | omega)) rfl T.d__law_pick.g T.d__law_pick.F.kp T.d__law_pick.b .nil pass0 (pa_cons (pv 0) (pa_cons (pe_lst (pa_cons (pe_op op_addAll pe_str (pe_ix (ix_all hu) (pv 1) (pv 2) (fun _ _ => rfl))) (pa_cons (pe_op op_addAll (pe_op op_addAll (pe_op op_addAll (pe_op op_addAll (pe_ix (ix_all hu) (pv 4) pe_int (fun _ _ => rfl)) pe_str) (pe_ix (ix_all hu) (pv 4) pe_int (fun _ _ => rfl))) pe_str) (pe_ix (ix_all hu) (pv 4) pe_int (fun _ _ => rfl))) (pa_cons (pe_op op_addAll (pe_op op_addAll (pe_op op_addAll (pe_op op_addAll (pe_ix (ix_all hu) (pv 4) pe_int (fun _ _ => rfl)) pe_str) (pe_ix (ix_all hu) (pv 4) pe_int (fun _ _ => rfl))) pe_str) (pe_ix (ix_all hu) (pv 4) pe_int (fun _ _ => rfl))) (pa_cons (pe_op op_addAll (pe_ix (ix_all hu) (pv 1) (pv 2) (fun _ _ => rfl)) pe_str) (pa_cons pe_str pa_nil)))))) pa_nil))) pa_nil))) (pe_slice sl_all (pv 1) (po_some (pe_op op_addAll (pv 2) pe_int)) po_none)))) (pss_one (ps_if (pt_cmpR (op_eqAll hu64) (pv 3) pe_int (nomark _)) (pss_cons (ps_set (i := 5) sc__law_shifted.nd rfl (Or.inl rfl) (pe_op op_modN (pe_callTy call_intOf (by rfl) T.z_int (by decide +kernel) (pa_cons (pe_call (ok__law_draw T) (hr.mono (by first | decide | omega)) rfl T.d__law_draw.g T.d__law_draw.F.kp T.d__law_draw.b .nil pass0 (pa_cons (pv 0) (pa_cons pe_int pa_nil))) pa_nil)) (pe_callB call_lenAll (by rfl) T.z_len (by decide +kernel) (pa_cons (pe_ix (ix_all hu) (pv 1) (pv 2) (fun _ _ => rfl)) pa_nil))))
    (pss_cons (ps_set (i := 6) sc__law_shifted.nd rfl (Or.inl rfl) (pe_call (ok__law_pick T) (hr.mono (by first | decide | omega)) rfl T.d__law_pick.g T.d__law_pick.F.kp T.d__law_pick.b .nil pass0 (pa_cons (pv 0) (pa_cons (pe_lst (pa_cons pe_str (pa_cons pe_str (pa_cons pe_str (pa_cons pe_str (pa_cons pe_str pa_nil)))))) pa_nil))))
    (pss_one (ps_set (i := 1) sc__law_shifted.nd rfl (Or.inl rfl) (pe_op op_addAll (pe_op op_addAll (pe_slice sl_all (pv 1) po_none (po_some (pv 2))) (pe_lst (pa_cons (pe_op op_addAll (pe_op op_addAll (pe_slice sl_all (pe_ix (ix_all hu) (pv 1) (pv 2) (fun _ _ => rfl)) po_none (po_some (pv 5))) (pv 6)) (pe_slice sl_all (pe_ix (ix_all hu) (pv 1) (pv 2) (fun _ _ => rfl)) (po_some (pe_op op_addAll (pv 5) pe_int)) po_none)) pa_nil))) (pe_slice sl_all (pv 1) (po_some (pe_op op_addAll (pv 2) pe_int)) po_none)))))) pss_nil)))))))))
    (pss_cons (ps_set (i := 7) sc__law_shifted.nd rfl (Or.inl rfl) (pe_bm PySem.F.plainAttrs_str PySem.F.slot_str_join PySem.F.type_str_join mt_joinK pe_str (pa_cons (pe_lcM (own := [("line", 8)]) rfl sc__law_shifted.nd (pi_seq (pv 1)) (blkOk_by (own := [("line", 8)]) (N := N__law_shifted) (sc := (defScope s__law_shifted)) (by decide +kernel)) (fun _ _ _ _ _ => (pg_name (i := 8) sc__law_shifted.nd rfl (Or.inl rfl))) (fun _ _ _ _ _ => pts_nil) (fun _ _ _ _ _ => (pe_op op_addAll (pv 8) pe_str)) (fun _ _ _ _ _ => rfl) (fun _ _ _ _ _ => rfl) (fun _ _ _ _ _ => rfl)) pa_nil)))
    (pss_cons (ps_if (pt_cmpR (op_eqAll hu64) (pv 3) pe_int (nomark _)) (pss_one (ps_ret (pe_slice sl_all (pv 7) po_none (po_some (pe_op op_modN (pe_callTy call_intOf (by rfl) T.z_int (by decide +kernel) (pa_cons (pe_call (ok__law_draw T) (hr.mono (by first | decide | omega)) rfl T.d__law_draw.g T.d__law_draw.F.kp T.d__law_draw.b .nil pass0 (pa_cons (pv 0) (pa_cons pe_int pa_nil))) pa_nil)) (pe_op op_addAll (pe_callB call_lenAll (by rfl) T.z_len (by decide +kernel) (pa_cons (pv 7) pa_nil)) pe_int)))))) pss_nil)
    (pss_cons (ps_if (pt_cmpR (op_eqAll hu64) (pv 3) pe_int (nomark _)) (pss_one (ps_ret (pe_slice sl_all (pv 7) po_none (po_some (pe_un un_neg pe_int))))) pss_nil)
    (pss_one (ps_ret (pv 7)))))))))), fun B hK hp => ?_⟩
    subst hK
    exact (ss_seq (ss_asg (se_s2 s2_mod (so_e (se_sn sn_intOf (sa_cons (so_e (se_call (sa_cons so_var (sa_cons (so_e se_int) sa_nil)) (fun os r e => m_len__law_draw e))) sa_nil))) (so_e (se_sn sn_len (sa_cons so_var sa_nil)))) (sg_name (by rw [hp]; decide)))
    (ss_seq (ss_asg (se_call (sa_cons so_var (sa_cons (so_e se_int) sa_nil)) (fun os r e => m_len__law_draw e)) (sg_name (by rw [hp]; decide)))
    (ss_seq (ss_asg (se_ma ma_split2 (so_e (se_ix ixOk_all ixOw_all so_var so_var)) (sa_cons (so_e se_str) (sa_cons (so_e se_int) sa_nil))) (sg_name (by rw [hp]; decide)))
    (ss_seq (ss_if (st_test (so_e (se_s2 s2_eq so_var (so_e se_int)))) (ss_asg (se_a2 a2_add (so_e (se_sl (so_e se_var) sp_no (sp_ex so_var))) (so_e (se_sl (so_e se_var) (sp_ex (so_e (se_a2 a2_add (so_e se_var) (so_e se_int)))) sp_no))) (sg_name (by rw [hp]; decide))) (ss_if (st_test (so_e (se_s2 s2_eq so_var (so_e se_int)))) (ss_asg (se_a2 a2_add (so_e (se_sl (so_e se_var) sp_no (sp_ex (so_e (se_a2 a2_add (so_e se_var) (so_e se_int)))))) (so_e (se_sl (so_e se_var) (sp_ex so_var) sp_no))) (sg_name (by rw [hp]; decide))) (ss_if (st_and (st_test (so_e (se_s2 s2_eq so_var (so_e se_int)))) (st_test (so_e (se_s2 s2_lt (so_e (se_a2 a2_add (so_e se_var) (so_e se_int))) (so_e (se_sn sn_len (sa_cons so_var sa_nil))))))) (ss_asg (se_a2 a2_add (so_e (se_a2 a2_add (so_e (se_sl (so_e se_var) sp_no (sp_ex so_var))) (so_e (se_lst (sa_cons (so_e (se_ix ixOk_all ixOw_all so_var (so_e (se_a2 a2_add (so_e se_var) (so_e se_int))))) (sa_cons (so_e (se_ix ixOk_all ixOw_all so_var so_var)) sa_nil)))))) (so_e (se_sl (so_e se_var) (sp_ex (so_e (se_a2 a2_add (so_e se_var) (so_e se_int)))) sp_no))) (sg_name (by rw [hp]; decide))) (ss_if (st_test (so_e (se_s2 s2_eq so_var (so_e se_int)))) (ss_asg (se_a2 a2_add (so_e (se_a2 a2_add (so_e (se_sl (so_e se_var) sp_no (sp_ex so_var))) (so_e (se_lst (sa_cons (so_e (se_call (sa_cons so_var (sa_cons (so_e (se_lst (sa_cons (so_e (se_a2 a2_add (so_e se_str) (so_e (se_ix ixOk_all ixOw_all so_var so_var)))) (sa_cons (so_e (se_a2 a2_add (so_e (se_a2 a2_add (so_e (se_a2 a2_add (so_e (se_a2 a2_add (so_e (se_ix ixOk_all ixOw_all so_var (so_e se_int))) (so_e se_str))) (so_e (se_ix ixOk_all ixOw_all so_var (so_e se_int))))) (so_e se_str))) (so_e (se_ix ixOk_all ixOw_all so_var (so_e se_int))))) (sa_cons (so_e (se_a2 a2_add (so_e (se_a2 a2_add (so_e (se_a2 a2_add (so_e (se_a2 a2_add (so_e (se_ix ixOk_all ixOw_all so_var (so_e se_int))) (so_e se_str))) (so_e (se_ix ixOk_all ixOw_all so_var (so_e se_int))))) (so_e se_str))) (so_e (se_ix ixOk_all ixOw_all so_var (so_e se_int))))) (sa_cons (so_e (se_a2 a2_add (so_e (se_ix ixOk_all ixOw_all so_var so_var)) (so_e se_str))) (sa_cons (so_e se_str) sa_nil))))))) sa_nil)) (fun os r e => m_len__law_pick e))) sa_nil))))) (so_e (se_sl (so_e se_var) (sp_ex (so_e (se_a2 a2_add (so_e se_var) (so_e se_int)))) sp_no))) (sg_name (by rw [hp]; decide))) (ss_if (st_test (so_e (se_s2 s2_eq so_var (so_e se_int)))) (ss_seq (ss_asg (se_s2 s2_mod (so_e (se_sn sn_intOf (sa_cons (so_e (se_call (sa_cons so_var (sa_cons (so_e se_int) sa_nil)) (fun os r e => m_len__law_draw e))) sa_nil))) (so_e (se_sn sn_len (sa_cons (so_e (se_ix ixOk_all ixOw_all so_var so_var)) sa_nil)))) (sg_name (by rw [hp]; decide)))
    (ss_seq (ss_asg (se_call (sa_cons so_var (sa_cons (so_e (se_lst (sa_cons (so_e se_str) (sa_cons (so_e se_str) (sa_cons (so_e se_str) (sa_cons (so_e se_str) (sa_cons (so_e se_str) sa_nil))))))) sa_nil)) (fun os r e => m_len__law_pick e)) (sg_name (by rw [hp]; decide)))
    (ss_asg (se_a2 a2_add (so_e (se_a2 a2_add (so_e (se_sl (so_e se_var) sp_no (sp_ex so_var))) (so_e (se_lst (sa_cons (so_e (se_a2 a2_add (so_e (se_a2 a2_add (so_e (se_sl (so_e (se_ix ixOk_all ixOw_all so_var so_var)) sp_no (sp_ex so_var))) (so_e se_var))) (so_e (se_sl (so_e (se_ix ixOk_all ixOw_all so_var so_var)) (sp_ex (so_e (se_a2 a2_add (so_e se_var) (so_e se_int)))) sp_no)))) sa_nil))))) (so_e (se_sl (so_e se_var) (sp_ex (so_e (se_a2 a2_add (so_e se_var) (so_e se_int)))) sp_no))) (sg_name (by rw [hp]; decide))))) ss_next)))))
    (ss_seq (ss_asg (se_ms ms_join (so_e se_str) (sa_cons (so_e (se_lc (vs := [8]) (by rw [hp]; decide) (si_seq (so_e se_var)) (sgw_name (by rw [hp]; decide) (by decide)) st_yes (se_a2 a2_add (so_e se_var) (so_e se_str)))) sa_nil)) (sg_name (by rw [hp]; decide)))
    (ss_seq (ss_if (st_test (so_e (se_s2 s2_eq so_var (so_e se_int)))) (ss_ret (se_sl (so_e se_var) sp_no (sp_ex (so_e (se_s2 s2_mod (so_e (se_sn sn_intOf (sa_cons (so_e (se_call (sa_cons so_var (sa_cons (so_e se_int) sa_nil)) (fun os r e => m_len__law_draw e))) sa_nil))) (so_e (se_a2 a2_add (so_e (se_sn sn_len (sa_cons so_var sa_nil))) (so_e se_int)))))))) ss_next)
    (ss_seq (ss_if (st_test (so_e (se_s2 s2_eq so_var (so_e se_int)))) (ss_ret (se_sl (so_e se_var) sp_no (sp_ex (so_e (se_s1 s1_neg (so_e se_int)))))) ss_next)
    (ss_ret se_move))))))))
theorem ok__law_due (T : Txt P K w mg) : FnOk P w K mg base CX0 1 T.d__law_due.f T.d__law_due.fd ["entries", "lines", "text"] (spM K 3 m__law_due) := by
    refine ok_fn (N := N__law_due) (ps := ["entries", "lines", "text"]) (k := 0) (pin := [0, 1, 2]) (body := b__law_due) T.d__law_due.F sc__law_due (by decide) fun cdv A outer s H E hr => ?_
    have hu : _ < _ := hu_of hr
    have hu64 := hr.units
    refine ⟨_, (pss_cons (ps_set (i := 3) sc__law_due.nd rfl (Or.inl rfl) pe_int)
    (pss_cons (ps_set (i := 4) sc__law_due.nd rfl (Or.inl rfl) pe_int)
    (pss_cons (ps_for PassesOwn.never rfl (pi_seq (pv 1)) (pg_name (i := 5) sc__law_due.nd rfl (Or.inl rfl)) (pss_cons (ps_if (pt_cmpR (op_neAll hu64) (pe_slice sl_all (pv 2) (po_some (pv 4)) (po_some (pe_op op_addAll (pe_op op_addAll (pv 4) (pe_callB call_lenAll (by rfl) T.z_len (by decide +kernel) (pa_cons (pv 5) pa_nil))) pe_int))) (pe_op op_addAll (pv 5) pe_str) (nomark _)) (pss_one ps_break) pss_nil)
    (pss_cons (ps_set (i := 3) sc__law_due.nd rfl (Or.inl rfl) (pe_op op_addAll (pv 3) pe_int))
    (pss_one (ps_set (i := 4) sc__law_due.nd rfl (Or.inl rfl) (pe_op op_addAll (pe_op op_addAll (pv 4) (pe_callB call_lenAll (by rfl) T.z_len (by decide +kernel) (pa_cons (pv 5) pa_nil))) pe_int))))))
    (pss_one (ps_ret (pe_tup (pa_cons (pe_callTy call_tupOf (by rfl) T.z_tuple (by decide +kernel) (pa_cons (pe_slice sl_all (pv 0) po_none (po_some (pv 3))) pa_nil)) (pa_cons (pv 4) pa_nil)))))))), fun B hK hp => ?_⟩
    subst hK
    exact (ss_seq (ss_asg se_int (sg_name (by rw [hp]; decide)))
    (ss_seq (ss_asg se_int (sg_name (by rw [hp]; decide)))
    (ss_seq (ss_for (si_seq (so_e se_var)) (sg_name (by rw [hp]; decide)) (ss_seq (ss_if (st_test (so_e (se_s2 s2_ne (so_e (se_sl (so_e se_var) (sp_ex so_var) (sp_ex (so_e (se_a2 a2_add (so_e (se_a2 a2_add (so_e se_var) (so_e (se_sn sn_len (sa_cons so_var sa_nil))))) (so_e se_int)))))) (so_e (se_a2 a2_add (so_e se_var) (so_e se_str)))))) ss_brk ss_next)
    (ss_seq (ss_asg (se_a2 a2_add (so_e se_var) (so_e se_int)) (sg_name (by rw [hp]; decide)))
    (ss_asg (se_a2 a2_add (so_e (se_a2 a2_add (so_e se_var) (so_e (se_sn sn_len (sa_cons so_var sa_nil))))) (so_e se_int)) (sg_name (by rw [hp]; decide))))))
    (ss_ret (se_tup (sa_cons (so_e (se_an an_tupOf (sa_cons (so_e (se_sl (so_e se_var) sp_no (sp_ex so_var))) sa_nil))) (sa_cons (so_e se_var) sa_nil)))))))
theorem ok_law (T : Txt P K w mg) : FnOk P w K mg base CX0 31 T.d_law.f T.d_law.fd ["script"] (spM K 1 (m_law T.c_BadPlain.C T.c_Reader.C)) := by
    refine ok_fn (N := N_law) (ps := ["script"]) (k := 30) (pin := [0]) (body := b_law T.c_BadPlain.C T.c_Reader.C) T.d_law.F sc_law (by decide) fun cdv A outer s H E hr => ?_
    have hu : _ < _ := hu_of hr
    have hu64 := hr.units
    refine ⟨_, (pss_cons (ps_set (i := 1) sc_law.nd rfl (Or.inr rfl) (pe_lst (pa_cons (pe_call (ok__law_digits T) (hr.mono (by first | decide | omega)) rfl T.d__law_digits.g T.d__law_digits.F.kp T.d__law_digits.b .nil pass0 (pa_cons (pv 0) (pa_cons pe_int (pa_cons pe_int pa_nil)))) (pa_cons pe_int pa_nil))))
    (pss_cons (ps_for PassesOwn.never rfl (pi_range1 rfl T.z_range (pa_cons pe_int pa_nil)) (pg_name (i := 2) sc_law.nd rfl (Or.inl rfl)) (pss_cons (ps_setLcM (i := 3) (own := [("at", 10)]) rfl sc_law.nd rfl rfl (sw_true rfl rfl rfl (by decide +kernel)) (pi_range1 rfl T.z_range (pa_cons (pe_op op_addAll pe_int (pe_call (ok__law_draw T) (hr.mono (by first | decide | omega)) rfl T.d__law_draw.g T.d__law_draw.F.kp T.d__law_draw.b .nil pass0 (pa_cons (pv 1) (pa_cons pe_int pa_nil)))) pa_nil)) (blkOk_by (own := [("at", 10)]) (N := N_law) (sc := (defScope s_law)) (by decide +kernel)) (fun _ _ _ _ _ => (pg_name (i := 10) sc_law.nd rfl (Or.inl rfl))) (fun _ _ _ _ _ => pts_nil) (fun _ _ _ _ _ => (pe_call (ok__law_entry T) (hr.mono (by first | decide | omega)) rfl T.d__law_entry.g T.d__law_entry.F.kp T.d__law_entry.b .nil pass0 (pa_cons (pv 1) (pa_cons (pv 10) pa_nil)))) (fun _ _ _ _ _ => rfl) (fun _ _ _ _ _ => rfl) (fun _ _ _ _ _ => rfl))
    (pss_cons (ps_set (i := 4) sc_law.nd rfl (Or.inl rfl) (pe_call (ok__law_lines T) (hr.mono (by first | decide | omega)) rfl T.d__law_lines.g T.d__law_lines.F.kp T.d__law_lines.b .nil pass0 (pa_cons (pv 3) pa_nil)))
    (pss_cons (ps_set (i := 5) sc_law.nd rfl (Or.inl rfl) pe_int)
    (pss_cons (ps_for PassesOwn.never rfl (pi_range1 rfl T.z_range (pa_cons (pe_callB call_lenAll (by rfl) T.z_len (by decide +kernel) (pa_cons (pv 3) pa_nil)) pa_nil)) (pg_name (i := 6) sc_law.nd rfl (Or.inl rfl)) (pss_cons (ps_if (pt_not (pt_truth (pe_call (ok__law_like_8 T) (hr.mono (by first | decide | omega)) rfl T.d__law_like.g T.d__law_like.F.kp T.d__law_like.b .nil pass0 (pa_cons (pe_call (ok_journal_line T) (hr.mono (by first | decide | omega)) rfl T.d_journal_line.g T.d_journal_line.F.kp T.d_journal_line.b .nil pass0 (pa_cons (pv 6) (pa_cons (pv 5) (pa_cons (pe_ix (ix_all hu) (pv 3) (pv 6) (fun _ _ => rfl)) pa_nil)))) (pa_cons (pe_op op_addAll (pe_ix (ix_all hu) (pv 4) (pv 6) (fun _ _ => rfl)) pe_str) pa_nil))) (by intro _; rfl))) (pss_one (ps_ret pe_bl)) pss_nil)
    (pss_one (ps_set (i := 5) sc_law.nd rfl (Or.inl rfl) (pe_callTy call_intOf (by rfl) T.z_int (by decide +kernel) (pa_cons (pe_ix (ix_all hu) (pe_bm PySem.F.plainAttrs_str PySem.F.slot_str_split PySem.F.type_str_split mt_split (pe_ix (ix_all hu) (pv 4) (pv 6) (fun _ _ => rfl)) (pa_cons pe_str pa_nil)) pe_int (fun _ _ => rfl)) pa_nil))))))
    (pss_cons (ps_set (i := 7) sc_law.nd rfl (Or.inl rfl) (pe_call (ok__law_shifted T) (hr.mono (by first | decide | omega)) rfl T.d__law_shifted.g T.d__law_shifted.F.kp T.d__law_shifted.b .nil pass0 (pa_cons (pv 1) (pa_cons (pv 4) pa_nil))))
    (pss_cons (ps_if (pt_not (pt_truth (pe_call (ok__law_like_8 T) (hr.mono (by first | decide | omega)) rfl T.d__law_like.g T.d__law_like.F.kp T.d__law_like.b .nil pass0 (pa_cons (pe_call (ok_read_journal T) (hr.mono (by first | decide | omega)) rfl T.d_read_journal.g T.d_read_journal.F.kp T.d_read_journal.b .nil pass0 (pa_cons (pv 7) pa_nil)) (pa_cons (pe_call (ok__law_due T) (hr.mono (by first | decide | omega)) rfl T.d__law_due.g T.d__law_due.F.kp T.d__law_due.b .nil pass0 (pa_cons (pv 3) (pa_cons (pv 4) (pa_cons (pv 7) pa_nil)))) pa_nil))) (by intro _; rfl))) (pss_one (ps_ret pe_bl)) pss_nil)
    (pss_cons (ps_set (i := 8) sc_law.nd rfl (Or.inl rfl) (pe_op op_addAll (pv 3) (pe_lst (pa_cons (pe_call (ok__law_wrong T) (hr.mono (by first | decide | omega)) rfl T.d__law_wrong.g T.d__law_wrong.F.kp T.d__law_wrong.b .nil pass0 (pa_cons (pv 1) pa_nil)) pa_nil))))
    (pss_cons (ps_set (i := 7) sc_law.nd rfl (Or.inl rfl) (pe_bm PySem.F.plainAttrs_str PySem.F.slot_str_join PySem.F.type_str_join mt_joinK pe_str (pa_cons (pe_lcM (own := [("line", 11)]) rfl sc_law.nd (pi_seq (pe_call (ok__law_lines T) (hr.mono (by first | decide | omega)) rfl T.d__law_lines.g T.d__law_lines.F.kp T.d__law_lines.b .nil pass0 (pa_cons (pv 8) pa_nil))) (blkOk_by (own := [("line", 11)]) (N := N_law) (sc := (defScope s_law)) (by decide +kernel)) (fun _ _ _ _ _ => (pg_name (i := 11) sc_law.nd rfl (Or.inl rfl))) (fun _ _ _ _ _ => pts_nil) (fun _ _ _ _ _ => (pe_op op_addAll (pv 11) pe_str)) (fun _ _ _ _ _ => rfl) (fun _ _ _ _ _ => rfl) (fun _ _ _ _ _ => rfl)) pa_nil)))
    (pss_one (ps_if (pt_not (pt_truth (pe_call (ok__law_like_8 T) (hr.mono (by first | decide | omega)) rfl T.d__law_like.g T.d__law_like.F.kp T.d__law_like.b .nil pass0 (pa_cons (pe_call (ok_read_journal T) (hr.mono (by first | decide | omega)) rfl T.d_read_journal.g T.d_read_journal.F.kp T.d_read_journal.b .nil pass0 (pa_cons (pv 7) pa_nil)) (pa_cons (pe_call (ok__law_due T) (hr.mono (by first | decide | omega)) rfl T.d__law_due.g T.d__law_due.F.kp T.d__law_due.b .nil pass0 (pa_cons (pv 3) (pa_cons (pv 4) (pa_cons (pe_bm PySem.F.plainAttrs_str PySem.F.slot_str_join PySem.F.type_str_join mt_joinK pe_str (pa_cons (pe_lcM (own := [("line", 11)]) rfl sc_law.nd (pi_seq (pv 4)) (blkOk_by (own := [("line", 11)]) (N := N_law) (sc := (defScope s_law)) (by decide +kernel)) (fun _ _ _ _ _ => (pg_name (i := 11) sc_law.nd rfl (Or.inl rfl))) (fun _ _ _ _ _ => pts_nil) (fun _ _ _ _ _ => (pe_op op_addAll (pv 11) pe_str)) (fun _ _ _ _ _ => rfl) (fun _ _ _ _ _ => rfl) (fun _ _ _ _ _ => rfl)) pa_nil)) pa_nil)))) pa_nil))) (by intro _; rfl))) (pss_one (ps_ret pe_bl)) pss_nil)))))))))))
    (pss_cons (ps_set (i := 9) sc_law.nd rfl (Or.inl rfl) (pe_op op_addAll (pe_lst (pa_cons (pe_call (ok__law_entry T) (hr.mono (by first | decide | omega)) rfl T.d__law_entry.g T.d__law_entry.F.kp T.d__law_entry.b .nil pass0 (pa_cons (pv 1) (pa_cons pe_int pa_nil))) pa_nil)) (pe_lst (pa_cons (pe_call (ok__law_entry T) (hr.mono (by first | decide | omega)) rfl T.d__law_entry.g T.d__law_entry.F.kp T.d__law_entry.b .nil pass0 (pa_cons (pv 1) (pa_cons pe_int pa_nil))) pa_nil))))
    (pss_one (ps_ret (pe_call (ok__law_like_8 T) (hr.mono (by first | decide | omega)) rfl T.d__law_like.g T.d__law_like.F.kp T.d__law_like.b .nil pass0 (pa_cons (pe_call (ok_read_journal T) (hr.mono (by first | decide | omega)) rfl T.d_read_journal.g T.d_read_journal.F.kp T.d_read_journal.b .nil pass0 (pa_cons (pe_bm PySem.F.plainAttrs_str PySem.F.slot_str_join PySem.F.type_str_join mt_joinK pe_str (pa_cons (pe_lcM (own := [("line", 11)]) rfl sc_law.nd (pi_seq (pe_call (ok__law_lines T) (hr.mono (by first | decide | omega)) rfl T.d__law_lines.g T.d__law_lines.F.kp T.d__law_lines.b .nil pass0 (pa_cons (pv 9) pa_nil))) (blkOk_by (own := [("line", 11)]) (N := N_law) (sc := (defScope s_law)) (by decide +kernel)) (fun _ _ _ _ _ => (pg_name (i := 11) sc_law.nd rfl (Or.inl rfl))) (fun _ _ _ _ _ => pts_nil) (fun _ _ _ _ _ => (pe_op op_addAll (pv 11) pe_str)) (fun _ _ _ _ _ => rfl) (fun _ _ _ _ _ => rfl) (fun _ _ _ _ _ => rfl)) pa_nil)) pa_nil)) (pa_cons (pe_tup (pa_cons (pe_tup pa_nil) (pa_cons pe_int pa_nil))) pa_nil)))))))), fun B hK hp => ?_⟩
    subst hK
    exact (ss_seq (ss_asg (se_lst (sa_cons (so_e (se_call (sa_cons so_var (sa_cons (so_e se_int) (sa_cons (so_e se_int) sa_nil))) (fun os r e => m_len__law_digits e))) (sa_cons (so_e se_int) sa_nil))) (sg_name (by rw [hp]; decide)))
    (ss_seq (ss_for (si_r1 (so_e se_int)) (sg_name (by rw [hp]; decide)) (ss_seq (ss_asg (se_lc (vs := [10]) (by rw [hp]; decide) (si_r1 (so_e (se_a2 a2_add (so_e se_int) (so_e (se_call (sa_cons so_var (sa_cons (so_e se_int) sa_nil)) (fun os r e => m_len__law_draw e)))))) (sgw_name (by rw [hp]; decide) (by decide)) st_yes (se_call (sa_cons so_var (sa_cons so_var sa_nil)) (fun os r e => m_len__law_entry e))) (sg_name (by rw [hp]; decide)))
    (ss_seq (ss_asg (se_call (sa_cons so_var sa_nil) (fun os r e => m_len__law_lines e)) (sg_name (by rw [hp]; decide)))
    (ss_seq (ss_asg se_int (sg_name (by rw [hp]; decide)))
    (ss_seq (ss_for (si_r1 (so_e (se_sn sn_len (sa_cons so_var sa_nil)))) (sg_name (by rw [hp]; decide)) (ss_seq (ss_if (st_not (st_tru (so_e (se_call (sa_cons (so_e (se_call (sa_cons so_var (sa_cons so_var (sa_cons (so_e (se_ix ixOk_all ixOw_all so_var so_var)) sa_nil))) (fun os r e => m_len_journal_line e))) (sa_cons (so_e (se_a2 a2_add (so_e (se_ix ixOk_all ixOw_all so_var so_var)) (so_e se_str))) sa_nil)) (fun os r e => m_len__law_like_8 e))))) (ss_ret se_bl) ss_next)
    (ss_asg (se_sn sn_intOf (sa_cons (so_e (se_ix ixOk_all ixOw_all (so_e (se_ma ma_split1 (so_e (se_ix ixOk_all ixOw_all so_var so_var)) (sa_cons (so_e se_str) sa_nil))) (so_e se_int))) sa_nil)) (sg_name (by rw [hp]; decide)))))
    (ss_seq (ss_asg (se_call (sa_cons so_var (sa_cons (so_e se_var) sa_nil)) (fun os r e => m_len__law_shifted e)) (sg_name (by rw [hp]; decide)))
    (ss_seq (ss_if (st_not (st_tru (so_e (se_call (sa_cons (so_e (se_call (sa_cons so_var sa_nil) (fun os r e => m_len_read_journal T.c_BadPlain.C T.c_Reader.C e))) (sa_cons (so_e (se_call (sa_cons so_var (sa_cons so_var (sa_cons so_var sa_nil))) (fun os r e => m_len__law_due e))) sa_nil)) (fun os r e => m_len__law_like_8 e))))) (ss_ret se_bl) ss_next)
    (ss_seq (ss_asg (se_a2 a2_add (so_e se_var) (so_e (se_lst (sa_cons (so_e (se_call (sa_cons so_var sa_nil) (fun os r e => m_len__law_wrong e))) sa_nil)))) (sg_name (by rw [hp]; decide)))
    (ss_seq (ss_asg (se_ms ms_join (so_e se_str) (sa_cons (so_e (se_lc (vs := [11]) (by rw [hp]; decide) (si_seq (so_e (se_call (sa_cons so_var sa_nil) (fun os r e => m_len__law_lines e)))) (sgw_name (by rw [hp]; decide) (by decide)) st_yes (se_a2 a2_add (so_e se_var) (so_e se_str)))) sa_nil)) (sg_name (by rw [hp]; decide)))
    (ss_if (st_not (st_tru (so_e (se_call (sa_cons (so_e (se_call (sa_cons so_var sa_nil) (fun os r e => m_len_read_journal T.c_BadPlain.C T.c_Reader.C e))) (sa_cons (so_e (se_call (sa_cons so_var (sa_cons so_var (sa_cons (so_e (se_ms ms_join (so_e se_str) (sa_cons (so_e (se_lc (vs := [11]) (by rw [hp]; decide) (si_seq (so_e se_var)) (sgw_name (by rw [hp]; decide) (by decide)) st_yes (se_a2 a2_add (so_e se_var) (so_e se_str)))) sa_nil))) sa_nil))) (fun os r e => m_len__law_due e))) sa_nil)) (fun os r e => m_len__law_like_8 e))))) (ss_ret se_bl) ss_next))))))))))
    (ss_seq (ss_asg (se_a2 a2_add (so_e (se_lst (sa_cons (so_e (se_call (sa_cons so_var (sa_cons (so_e se_int) sa_nil)) (fun os r e => m_len__law_entry e))) sa_nil))) (so_e (se_lst (sa_cons (so_e (se_call (sa_cons so_var (sa_cons (so_e se_int) sa_nil)) (fun os r e => m_len__law_entry e))) sa_nil)))) (sg_name (by rw [hp]; decide)))
    (ss_ret (se_call (sa_cons (so_e (se_call (sa_cons (so_e (se_ms ms_join (so_e se_str) (sa_cons (so_e (se_lc (vs := [11]) (by rw [hp]; decide) (si_seq (so_e (se_call (sa_cons so_var sa_nil) (fun os r e => m_len__law_lines e)))) (sgw_name (by rw [hp]; decide) (by decide)) st_yes (se_a2 a2_add (so_e se_var) (so_e se_str)))) sa_nil))) sa_nil) (fun os r e => m_len_read_journal T.c_BadPlain.C T.c_Reader.C e))) (sa_cons (so_e (se_tup (sa_cons (so_e (se_tup sa_nil)) (sa_cons (so_e se_int) sa_nil)))) sa_nil)) (fun os r e => m_len__law_like_8 e))))))
end
theorem txt_mk {P : Program} {K : PySem.W.Frag} {w : World} {mg : Str → Option Value} {C_BadPlain : Addr} {C_Reader : Addr} (c_BadPlain : ∃ c : BpAt P K mg "BadPlain", c.C = C_BadPlain) (c_Reader : ∃ c : ClAt K mg "Reader", c.C = C_Reader) (n_Reader_signs : NoAttr K C_Reader "signs") (n_Reader_veiled : NoAttr K C_Reader "veiled") (d_is_name_fforms : Nonempty (FnAs K mg "is_name_fforms" "is_name" (topS 7) ["thing"])) (d_is_count : Nonempty (FnAt K mg "is_count" (topS 9) ["thing"])) (d_is_number_aforms : Nonempty (FnAs K mg "is_number_aforms" "is_number" (topS 12) ["thing"])) (d_is_name_aforms : Nonempty (FnAs K mg "is_name_aforms" "is_name" (topS 14) ["thing"])) (d_is_rising_aforms : Nonempty (FnAs K mg "is_rising_aforms" "is_rising" (topS 16) ["row"])) (d_are_names : Nonempty (FnAt K mg "are_names" (topS 18) ["thing"])) (d_is_ratio : Nonempty (FnAt K mg "is_ratio" (topS 22) ["thing"])) (d_is_typed : Nonempty (FnAt K mg "is_typed" (topS 23) ["thing"])) (d_is_wire_nets : Nonempty (FnAs K mg "is_wire_nets" "is_wire" (topS 27) ["thing", "places"])) (d_is_network : Nonempty (FnAt K mg "is_network" (topS 29) ["thing"])) (d_is_name_enames : Nonempty (FnAs K mg "is_name_enames" "is_name" (topS 31) ["thing"])) (d_is_number_enames : Nonempty (FnAs K mg "is_number_enames" "is_number" (topS 33) ["thing", "least", "most"])) (d_is_rising_enames : Nonempty (FnAs K mg "is_rising_enames" "is_rising" (topS 35) ["members"])) (d_is_rows : Nonempty (FnAt K mg "is_rows" (topS 37) ["thing", "least", "most"])) (d_show_plain : Nonempty (FnAt K mg "show_plain" (topS 43) ["value"])) (d_Reader_wrong_sign : Nonempty (MtAt K C_Reader "wrong_sign" "Reader.wrong_sign" (L2.inClass (topS 45) 4) ["self", "at", "stop", "slash"])) (d_Reader_string : Nonempty (MtAt K C_Reader "string" "Reader.string" (L2.inClass (topS 45) 3) ["self", "at"])) (d_Reader_integer : Nonempty (MtAt K C_Reader "integer" "Reader.integer" (L2.inClass (topS 45) 5) ["self", "at"])) (d_Reader_value : Nonempty (MtAt K C_Reader "value" "Reader.value" (L2.inClass (topS 45) 1) ["self", "at", "depth"])) (d_Reader_row : Nonempty (MtAt K C_Reader "row" "Reader.row" (L2.inClass (topS 45) 2) ["self", "at", "depth"])) (d_Reader___init__ : Nonempty (MtAt K C_Reader "__init__" "Reader.__init__" (L2.inClass (topS 45) 0) ["self", "text"])) (d_read_plain : Nonempty (FnAt K mg "read_plain" (topS 44) ["text"])) (d_is_wire_notices : Nonempty (FnAs K mg "is_wire_notices" "is_wire" (topS 48) ["thing"])) (d_is_notice : Nonempty (FnAt K mg "is_notice" (topS 47) ["thing"])) (d_is_limit : Nonempty (FnAt K mg "is_limit" (topS 52) ["one", "other", "limit"])) (d_is_told : Nonempty (FnAt K mg "is_told" (topS 53) ["thing", "kind", "least"])) (d_is_promise : Nonempty (FnAt K mg "is_promise" (topS 51) ["thing"])) (d_is_question : Nonempty (FnAt K mg "is_question" (topS 58) ["thing"])) (d_sum_of : Nonempty (FnAt K mg "sum_of" (topS 63) ["n", "before", "text"])) (d_journal_line : Nonempty (FnAt K mg "journal_line" (topS 62) ["n", "before", "entry"])) (d_sum_in : Nonempty (FnAt K mg "sum_in" (topS 64) ["line"])) (d_is_first_entry : Nonempty (FnAt K mg "is_first_entry" (topS 67) ["entry"])) (d_is_known : Nonempty (FnAt K mg "is_known" (topS 69) ["thing"])) (d_is_later_entry : Nonempty (FnAt K mg "is_later_entry" (topS 68) ["entry"])) (d_entry_of : Nonempty (FnAt K mg "entry_of" (topS 66) ["n", "before", "line"])) (d_read_journal : Nonempty (FnAt K mg "read_journal" (topS 65) ["text"])) (d__law_cell : Nonempty (FnAt K mg "_law_cell" (topS 71) ["script", "k"])) (d__law_digits : Nonempty (FnAt K mg "_law_digits" (topS 72) ["script", "first", "last"])) (d__law_draw : Nonempty (FnAt K mg "_law_draw" (topS 73) ["box", "many"])) (d__law_pick : Nonempty (FnAt K mg "_law_pick" (topS 74) ["box", "things"])) (d__law_like : Nonempty (FnAt K mg "_law_like" (topS 75) ["told", "due"])) (d__law_start : Nonempty (FnAt K mg "_law_start" (topS 76) [])) (d__law_entry : Nonempty (FnAt K mg "_law_entry" (topS 77) ["box", "at"])) (d__law_wrong : Nonempty (FnAt K mg "_law_wrong" (topS 78) ["box"])) (d__law_sum : Nonempty (FnAt K mg "_law_sum" (topS 79) ["n", "before", "text"])) (d__law_lines : Nonempty (FnAt K mg "_law_lines" (topS 80) ["entries"])) (d__law_shifted : Nonempty (FnAt K mg "_law_shifted" (topS 81) ["box", "lines"])) (d__law_due : Nonempty (FnAt K mg "_law_due" (topS 82) ["entries", "lines", "text"])) (d_law : Nonempty (FnAt K mg "law" (topS 83) ["script"])) (h_dg : PySem.W.nsIn K cStatics "sys.int_max_str_digits" = some none) (z_abs : mg "abs" = none) (z_all : mg "all" = none) (z_bool : mg "bool" = none) (z_enumerate : mg "enumerate" = none) (z_int : mg "int" = none) (z_isinstance : mg "isinstance" = none) (z_len : mg "len" = none) (z_list : mg "list" = none) (z_map : mg "map" = none) (z_ord : mg "ord" = none) (z_range : mg "range" = none) (z_str : mg "str" = none) (z_sum : mg "sum" = none) (z_tuple : mg "tuple" = none) (z_zip : mg "zip" = none) (b_gcd : mg "gcd" = some (.builtin "math.gcd")) (b_accumulate : mg "accumulate" = some (.type "itertools.accumulate")) (i_DEEPEST : ∃ t, mg "DEEPEST" = some (.int 40 t)) (i_LONGEST_NAME_aforms : ∃ t, mg "LONGEST_NAME_aforms" = some (.int 12 t)) (i_LONGEST_NAME_fforms : ∃ t, mg "LONGEST_NAME_fforms" = some (.int 12 t)) (i_MODULUS : ∃ t, mg "MODULUS" = some (.int 99991 t)) (i_MOST_ABOVE : ∃ t, mg "MOST_ABOVE" = some (.int 1000000 t)) (i_MOST_BELOW : ∃ t, mg "MOST_BELOW" = some (.int 1000 t)) (i_MOST_DIGITS : ∃ t, mg "MOST_DIGITS" = some (.int 2000 t)) (i_MOST_KNOWN_journal : ∃ t, mg "MOST_KNOWN_journal" = some (.int 999 t)) (i_MOST_KNOWN_questions : ∃ t, mg "MOST_KNOWN_questions" = some (.int 999 t)) (i_MOST_PLACES : ∃ t, mg "MOST_PLACES" = some (.int 24 t)) (i_MOST_WIRES : ∃ t, mg "MOST_WIRES" = some (.int 60 t)) (s_DIGITS : ∃ t, mg "DIGITS" = some (.str (PySem.Str.ofString "0123456789") t)) (t_ALONE : Nonempty (KTup K mg "ALONE" [.str (PySem.Str.ofString "known"), .str (PySem.Str.ofString "trees"), .str (PySem.Str.ofString "bridges"), .str (PySem.Str.ofString "blocks")])) (t_NAMED : Nonempty (KTup K mg "NAMED" [.str (PySem.Str.ofString "stands"), .str (PySem.Str.ofString "causes"), .str (PySem.Str.ofString "cures")])) (k_WORDS : Nonempty (KTab K w mg "WORDS" [(PySem.Str.ofString "T", .bl true), (PySem.Str.ofString "F", .bl false), (PySem.Str.ofString "N", .non)])) : Nonempty (Txt P K w mg) := by
  obtain ⟨c_BadPlain, rfl⟩ := c_BadPlain
  obtain ⟨c_Reader, rfl⟩ := c_Reader
  obtain ⟨d_is_name_fforms⟩ := d_is_name_fforms
  obtain ⟨d_is_count⟩ := d_is_count
  obtain ⟨d_is_number_aforms⟩ := d_is_number_aforms
  obtain ⟨d_is_name_aforms⟩ := d_is_name_aforms
  obtain ⟨d_is_rising_aforms⟩ := d_is_rising_aforms
  obtain ⟨d_are_names⟩ := d_are_names
  obtain ⟨d_is_ratio⟩ := d_is_ratio
  obtain ⟨d_is_typed⟩ := d_is_typed
  obtain ⟨d_is_wire_nets⟩ := d_is_wire_nets
  obtain ⟨d_is_network⟩ := d_is_network
  obtain ⟨d_is_name_enames⟩ := d_is_name_enames
  obtain ⟨d_is_number_enames⟩ := d_is_number_enames
  obtain ⟨d_is_rising_enames⟩ := d_is_rising_enames
  obtain ⟨d_is_rows⟩ := d_is_rows
  obtain ⟨d_show_plain⟩ := d_show_plain
  obtain ⟨d_Reader_wrong_sign⟩ := d_Reader_wrong_sign
  obtain ⟨d_Reader_string⟩ := d_Reader_string
  obtain ⟨d_Reader_integer⟩ := d_Reader_integer
  obtain ⟨d_Reader_value⟩ := d_Reader_value
  obtain ⟨d_Reader_row⟩ := d_Reader_row
  obtain ⟨d_Reader___init__⟩ := d_Reader___init__
  obtain ⟨d_read_plain⟩ := d_read_plain
  obtain ⟨d_is_wire_notices⟩ := d_is_wire_notices
  obtain ⟨d_is_notice⟩ := d_is_notice
  obtain ⟨d_is_limit⟩ := d_is_limit
  obtain ⟨d_is_told⟩ := d_is_told
  obtain ⟨d_is_promise⟩ := d_is_promise
  obtain ⟨d_is_question⟩ := d_is_question
  obtain ⟨d_sum_of⟩ := d_sum_of
  obtain ⟨d_journal_line⟩ := d_journal_line
  obtain ⟨d_sum_in⟩ := d_sum_in
  obtain ⟨d_is_first_entry⟩ := d_is_first_entry
  obtain ⟨d_is_known⟩ := d_is_known
  obtain ⟨d_is_later_entry⟩ := d_is_later_entry
  obtain ⟨d_entry_of⟩ := d_entry_of
  obtain ⟨d_read_journal⟩ := d_read_journal
  obtain ⟨d__law_cell⟩ := d__law_cell
  obtain ⟨d__law_digits⟩ := d__law_digits
  obtain ⟨d__law_draw⟩ := d__law_draw
  obtain ⟨d__law_pick⟩ := d__law_pick
  obtain ⟨d__law_like⟩ := d__law_like
  obtain ⟨d__law_start⟩ := d__law_start
  obtain ⟨d__law_entry⟩ := d__law_entry
  obtain ⟨d__law_wrong⟩ := d__law_wrong
  obtain ⟨d__law_sum⟩ := d__law_sum
  obtain ⟨d__law_lines⟩ := d__law_lines
  obtain ⟨d__law_shifted⟩ := d__law_shifted
  obtain ⟨d__law_due⟩ := d__law_due
  obtain ⟨d_law⟩ := d_law
  obtain ⟨t_ALONE⟩ := t_ALONE
  obtain ⟨t_NAMED⟩ := t_NAMED
  obtain ⟨k_WORDS⟩ := k_WORDS
  exact ⟨⟨c_BadPlain, c_Reader, n_Reader_signs, n_Reader_veiled, d_is_name_fforms, d_is_count, d_is_number_aforms, d_is_name_aforms, d_is_rising_aforms, d_are_names, d_is_ratio, d_is_typed, d_is_wire_nets, d_is_network, d_is_name_enames, d_is_number_enames, d_is_rising_enames, d_is_rows, d_show_plain, d_Reader_wrong_sign, d_Reader_string, d_Reader_integer, d_Reader_value, d_Reader_row, d_Reader___init__, d_read_plain, d_is_wire_notices, d_is_notice, d_is_limit, d_is_told, d_is_promise, d_is_question, d_sum_of, d_journal_line, d_sum_in, d_is_first_entry, d_is_known, d_is_later_entry, d_entry_of, d_read_journal, d__law_cell, d__law_digits, d__law_draw, d__law_pick, d__law_like, d__law_start, d__law_entry, d__law_wrong, d__law_sum, d__law_lines, d__law_shifted, d__law_due, d_law, h_dg, z_abs, z_all, z_bool, z_enumerate, z_int, z_isinstance, z_len, z_list, z_map, z_ord, z_range, z_str, z_sum, z_tuple, z_zip, b_gcd, b_accumulate, i_DEEPEST, i_LONGEST_NAME_aforms, i_LONGEST_NAME_fforms, i_MODULUS, i_MOST_ABOVE, i_MOST_BELOW, i_MOST_DIGITS, i_MOST_KNOWN_journal, i_MOST_KNOWN_questions, i_MOST_PLACES, i_MOST_WIRES, s_DIGITS, t_ALONE, t_NAMED, k_WORDS⟩⟩
theorem law_fin {K : PySem.W.Frag} {mg : Str → Option Value} {P : Program} {w : World} {fa : Addr} {h : Heap} (X : K.In h) (G : h.Ns mainGlobals mg) (hok : ∀ C_BadPlain : Addr, ∀ C_Reader : Addr, LawOk (m_law C_BadPlain C_Reader)) (hfa : mg "law" = some (.ref fa)) {C_BadPlain : Addr} {C_Reader : Addr} (c_BadPlain : ∃ c : BpAt P K mg "BadPlain", c.C = C_BadPlain) (c_Reader : ∃ c : ClAt K mg "Reader", c.C = C_Reader) (n_Reader_signs : NoAttr K C_Reader "signs") (n_Reader_veiled : NoAttr K C_Reader "veiled") (d_is_name_fforms : Nonempty (FnAs K mg "is_name_fforms" "is_name" (topS 7) ["thing"])) (d_is_count : Nonempty (FnAt K mg "is_count" (topS 9) ["thing"])) (d_is_number_aforms : Nonempty (FnAs K mg "is_number_aforms" "is_number" (topS 12) ["thing"])) (d_is_name_aforms : Nonempty (FnAs K mg "is_name_aforms" "is_name" (topS 14) ["thing"])) (d_is_rising_aforms : Nonempty (FnAs K mg "is_rising_aforms" "is_rising" (topS 16) ["row"])) (d_are_names : Nonempty (FnAt K mg "are_names" (topS 18) ["thing"])) (d_is_ratio : Nonempty (FnAt K mg "is_ratio" (topS 22) ["thing"])) (d_is_typed : Nonempty (FnAt K mg "is_typed" (topS 23) ["thing"])) (d_is_wire_nets : Nonempty (FnAs K mg "is_wire_nets" "is_wire" (topS 27) ["thing", "places"])) (d_is_network : Nonempty (FnAt K mg "is_network" (topS 29) ["thing"])) (d_is_name_enames : Nonempty (FnAs K mg "is_name_enames" "is_name" (topS 31) ["thing"])) (d_is_number_enames : Nonempty (FnAs K mg "is_number_enames" "is_number" (topS 33) ["thing", "least", "most"])) (d_is_rising_enames : Nonempty (FnAs K mg "is_rising_enames" "is_rising" (topS 35) ["members"])) (d_is_rows : Nonempty (FnAt K mg "is_rows" (topS 37) ["thing", "least", "most"])) (d_show_plain : Nonempty (FnAt K mg "show_plain" (topS 43) ["value"])) (d_Reader_wrong_sign : Nonempty (MtAt K C_Reader "wrong_sign" "Reader.wrong_sign" (L2.inClass (topS 45) 4) ["self", "at", "stop", "slash"])) (d_Reader_string : Nonempty (MtAt K C_Reader "string" "Reader.string" (L2.inClass (topS 45) 3) ["self", "at"])) (d_Reader_integer : Nonempty (MtAt K C_Reader "integer" "Reader.integer" (L2.inClass (topS 45) 5) ["self", "at"])) (d_Reader_value : Nonempty (MtAt K C_Reader "value" "Reader.value" (L2.inClass (topS 45) 1) ["self", "at", "depth"])) (d_Reader_row : Nonempty (MtAt K C_Reader "row" "Reader.row" (L2.inClass (topS 45) 2) ["self", "at", "depth"])) (d_Reader___init__ : Nonempty (MtAt K C_Reader "__init__" "Reader.__init__" (L2.inClass (topS 45) 0) ["self", "text"])) (d_read_plain : Nonempty (FnAt K mg "read_plain" (topS 44) ["text"])) (d_is_wire_notices : Nonempty (FnAs K mg "is_wire_notices" "is_wire" (topS 48) ["thing"])) (d_is_notice : Nonempty (FnAt K mg "is_notice" (topS 47) ["thing"])) (d_is_limit : Nonempty (FnAt K mg "is_limit" (topS 52) ["one", "other", "limit"])) (d_is_told : Nonempty (FnAt K mg "is_told" (topS 53) ["thing", "kind", "least"])) (d_is_promise : Nonempty (FnAt K mg "is_promise" (topS 51) ["thing"])) (d_is_question : Nonempty (FnAt K mg "is_question" (topS 58) ["thing"])) (d_sum_of : Nonempty (FnAt K mg "sum_of" (topS 63) ["n", "before", "text"])) (d_journal_line : Nonempty (FnAt K mg "journal_line" (topS 62) ["n", "before", "entry"])) (d_sum_in : Nonempty (FnAt K mg "sum_in" (topS 64) ["line"])) (d_is_first_entry : Nonempty (FnAt K mg "is_first_entry" (topS 67) ["entry"])) (d_is_known : Nonempty (FnAt K mg "is_known" (topS 69) ["thing"])) (d_is_later_entry : Nonempty (FnAt K mg "is_later_entry" (topS 68) ["entry"])) (d_entry_of : Nonempty (FnAt K mg "entry_of" (topS 66) ["n", "before", "line"])) (d_read_journal : Nonempty (FnAt K mg "read_journal" (topS 65) ["text"])) (d__law_cell : Nonempty (FnAt K mg "_law_cell" (topS 71) ["script", "k"])) (d__law_digits : Nonempty (FnAt K mg "_law_digits" (topS 72) ["script", "first", "last"])) (d__law_draw : Nonempty (FnAt K mg "_law_draw" (topS 73) ["box", "many"])) (d__law_pick : Nonempty (FnAt K mg "_law_pick" (topS 74) ["box", "things"])) (d__law_like : Nonempty (FnAt K mg "_law_like" (topS 75) ["told", "due"])) (d__law_start : Nonempty (FnAt K mg "_law_start" (topS 76) [])) (d__law_entry : Nonempty (FnAt K mg "_law_entry" (topS 77) ["box", "at"])) (d__law_wrong : Nonempty (FnAt K mg "_law_wrong" (topS 78) ["box"])) (d__law_sum : Nonempty (FnAt K mg "_law_sum" (topS 79) ["n", "before", "text"])) (d__law_lines : Nonempty (FnAt K mg "_law_lines" (topS 80) ["entries"])) (d__law_shifted : Nonempty (FnAt K mg "_law_shifted" (topS 81) ["box", "lines"])) (d__law_due : Nonempty (FnAt K mg "_law_due" (topS 82) ["entries", "lines", "text"])) (d_law : Nonempty (FnAt K mg "law" (topS 83) ["script"])) (h_dg : PySem.W.nsIn K cStatics "sys.int_max_str_digits" = some none) (z_abs : mg "abs" = none) (z_all : mg "all" = none) (z_bool : mg "bool" = none) (z_enumerate : mg "enumerate" = none) (z_int : mg "int" = none) (z_isinstance : mg "isinstance" = none) (z_len : mg "len" = none) (z_list : mg "list" = none) (z_map : mg "map" = none) (z_ord : mg "ord" = none) (z_range : mg "range" = none) (z_str : mg "str" = none) (z_sum : mg "sum" = none) (z_tuple : mg "tuple" = none) (z_zip : mg "zip" = none) (b_gcd : mg "gcd" = some (.builtin "math.gcd")) (b_accumulate : mg "accumulate" = some (.type "itertools.accumulate")) (i_DEEPEST : ∃ t, mg "DEEPEST" = some (.int 40 t)) (i_LONGEST_NAME_aforms : ∃ t, mg "LONGEST_NAME_aforms" = some (.int 12 t)) (i_LONGEST_NAME_fforms : ∃ t, mg "LONGEST_NAME_fforms" = some (.int 12 t)) (i_MODULUS : ∃ t, mg "MODULUS" = some (.int 99991 t)) (i_MOST_ABOVE : ∃ t, mg "MOST_ABOVE" = some (.int 1000000 t)) (i_MOST_BELOW : ∃ t, mg "MOST_BELOW" = some (.int 1000 t)) (i_MOST_DIGITS : ∃ t, mg "MOST_DIGITS" = some (.int 2000 t)) (i_MOST_KNOWN_journal : ∃ t, mg "MOST_KNOWN_journal" = some (.int 999 t)) (i_MOST_KNOWN_questions : ∃ t, mg "MOST_KNOWN_questions" = some (.int 999 t)) (i_MOST_PLACES : ∃ t, mg "MOST_PLACES" = some (.int 24 t)) (i_MOST_WIRES : ∃ t, mg "MOST_WIRES" = some (.int 60 t)) (s_DIGITS : ∃ t, mg "DIGITS" = some (.str (PySem.Str.ofString "0123456789") t)) (t_ALONE : Nonempty (KTup K mg "ALONE" [.str (PySem.Str.ofString "known"), .str (PySem.Str.ofString "trees"), .str (PySem.Str.ofString "bridges"), .str (PySem.Str.ofString "blocks")])) (t_NAMED : Nonempty (KTup K mg "NAMED" [.str (PySem.Str.ofString "stands"), .str (PySem.Str.ofString "causes"), .str (PySem.Str.ofString "cures")])) (k_WORDS : Nonempty (KTab K w mg "WORDS" [(PySem.Str.ofString "T", .bl true), (PySem.Str.ofString "F", .bl false), (PySem.Str.ofString "N", .non)])) : ∃ fd : FuncData, (∀ (s : Shared) (v : Value), BindsTo s fd ⟨[v], []⟩ [("script", v)]) ∧ ∀ base : Heap, K.In base → base.Ns mainGlobals mg → FnOk P w K mg base CX0 31 fa fd ["script"] (spT K) := by
  obtain ⟨T⟩ := txt_mk (P := P) (w := w) c_BadPlain c_Reader n_Reader_signs n_Reader_veiled d_is_name_fforms d_is_count d_is_number_aforms d_is_name_aforms d_is_rising_aforms d_are_names d_is_ratio d_is_typed d_is_wire_nets d_is_network d_is_name_enames d_is_number_enames d_is_rising_enames d_is_rows d_show_plain d_Reader_wrong_sign d_Reader_string d_Reader_integer d_Reader_value d_Reader_row d_Reader___init__ d_read_plain d_is_wire_notices d_is_notice d_is_limit d_is_told d_is_promise d_is_question d_sum_of d_journal_line d_sum_in d_is_first_entry d_is_known d_is_later_entry d_entry_of d_read_journal d__law_cell d__law_digits d__law_draw d__law_pick d__law_like d__law_start d__law_entry d__law_wrong d__law_sum d__law_lines d__law_shifted d__law_due d_law h_dg z_abs z_all z_bool z_enumerate z_int z_isinstance z_len z_list z_map z_ord z_range z_str z_sum z_tuple z_zip b_gcd b_accumulate i_DEEPEST i_LONGEST_NAME_aforms i_LONGEST_NAME_fforms i_MODULUS i_MOST_ABOVE i_MOST_BELOW i_MOST_DIGITS i_MOST_KNOWN_journal i_MOST_KNOWN_questions i_MOST_PLACES i_MOST_WIRES s_DIGITS t_ALONE t_NAMED k_WORDS
  have e := hfa.symm.trans T.d_law.g
  cases e
  refine ⟨T.d_law.fd, fun s v => ?_, fun base _ _ => FnOk.true (ok_law T) (hok T.c_BadPlain.C T.c_Reader.C)⟩
  obtain ⟨oc, od, kV, doc, pm, an, cdv, ct, osl, e, _, _⟩ := T.d_law.F.ex
  rw [e]
  exact .of_eq rfl

end K39

set_option Elab.async false
set_option linter.all false
set_option maxRecDepth 100000
namespace K39
open PySem PySem.Spec PyProof.Rows L2 Mi Lw
open Tx (Tk flat tkOf digI r1)
open SX (S)
mutual
def txt : D → List Tk
  | .non => [.c 78]
  | .bl b => [.c (if b = true then 84 else 70)]
  | .int i => (digI i).map .c
  | .str s => .c 34 :: (s.cps.toList.map tkOf ++ [.c 34])
  | .tup ds => .c 40 :: (txtL ds ++ [.c 41])
  | _ => []
def txtL : List D → List Tk
  | [] => []
  | d :: ds => txt d ++ txtR ds
def txtR : List D → List Tk
  | [] => []
  | d :: ds => .c 32 :: (txt d ++ txtR ds)
end
def Pch (c : Nat) : Prop := (32 ≤ c ∧ c ≤ 126) ∨ c = 10
def Vd : Nat → D → Prop
  | n + 1, .tup ds => ds.length ≤ 1000 ∧ ∀ d ∈ ds, Vd n d
  | _, .str s => ∀ c ∈ s.cps.toList, Pch c
  | _, .int i => i.natAbs < 10 ^ 100
  | _, .bl _ => True
  | _, .non => True
  | _, _ => False
theorem flat_join : ∀ (d : D) (ds : List D), TL.joinL [32] (flat (txt d) :: ds.map fun d => flat (txt d)) = flat (txt d ++ txtR ds)
  | d, [] => by
    rw [txtR, List.append_nil]
    rfl
  | d, e :: ds => by
    have ih := flat_join e ds
    rw [txtR, Tx.flat_append, Tx.flat_cons, ← ih]
    rfl
theorem flat_joinL (ds : List D) : TL.joinL [32] (ds.map fun d => flat (txt d)) = flat (txtL ds) := by
  cases ds with
  | nil => rw [txtL]; rfl
  | cons d ds => rw [txtL]; exact flat_join d ds
theorem r1_len {p : Nat} {z : List Nat} (hz : z.length = 2) : ∀ l : List Nat, (r1 p z l).length ≤ l.length * 2
  | [] => Nat.le_refl _
  | c :: l => by
    have ih := r1_len (p := p) hz l
    show ((if c = p then z else [c]) ++ r1 p z l).length ≤ (l.length + 1) * 2
    rw [List.length_append]
    split
    · omega
    · simp; omega
theorem tk_len : ∀ l : List Nat, l.length ≤ (flat (l.map tkOf)).length
  | [] => Nat.le_refl _
  | c :: l => by
    have ih := tk_len l
    rw [List.map_cons, Tx.flat_cons, List.length_append]
    have : 1 ≤ (tkOf c).raw.length := by
      cases tkOf c <;> simp [Tk.raw]
    simp
    omega
theorem dRepl1 {y z : Str} {p : Nat} {zs l : List Nat} (hy : y = S [p]) (hz : z = S zs) (h : l.length + (l.length + 1) * zs.length ≤ 16777216) : dRepl y z (.str (S l)) = some (.str (S (r1 p zs l))) := by
  subst hy hz
  show (if (S l).length + ((S l).length + 1) * (S zs).length ≤ 16777216 then some (D.str (Txt.replace (S l) (S [p]) (S zs))) else none) = _
  rw [Tx.repl1]
  exact if_pos (by rw [SX.S_len, SX.S_len]; exact h)
theorem dAddS {a b : List Nat} (h : a.length + b.length ≤ 16777216) : dAdd (.str (S a)) (.str (S b)) = some (.fr (.str (S (a ++ b)))) := by
  show (if (S a).length + (S b).length ≤ sizeLine then some (O.fr (.str (S a ++ S b))) else none) = _
  have : (16777216 : Nat) ≤ sizeLine := by decide
  rw [if_pos (by rw [SX.S_len, SX.S_len]; omega), SX.S_cat]
theorem bs_S : Str.ofString "\\" = S [92] := by decide +kernel
theorem bb_S : Str.ofString "\\\\" = S [92, 92] := by decide +kernel
theorem qt_S : Str.ofString "\"" = S [34] := by decide +kernel
theorem bq_S : Str.ofString "\\\"" = S [92, 34] := by decide +kernel
theorem nl_S : Str.ofString "\n" = S [10] := by decide +kernel
theorem bn_S : Str.ofString "\\n" = S [92, 110] := by decide +kernel
theorem sp_S : Str.ofString " " = S [32] := by decide +kernel
theorem op_S : Str.ofString "(" = S [40] := by decide +kernel
theorem cp_S : Str.ofString ")" = S [41] := by decide +kernel
theorem N_S : Str.ofString "N" = S [78] := by decide +kernel
theorem T_S : Str.ofString "T" = S [84] := by decide +kernel
theorem F_S : Str.ofString "F" = S [70] := by decide +kernel
/-- the three replaces of a text that is written -/
theorem esc_ok {l : List Nat} (h : l.length ≤ 100000) :
    dRepl (Str.ofString "\\") (Str.ofString "\\\\") (.str (S l)) = some (.str (S (r1 92 [92, 92] l))) ∧
    dRepl (Str.ofString "\"") (Str.ofString "\\\"") (.str (S (r1 92 [92, 92] l))) = some (.str (S (r1 34 [92, 34] (r1 92 [92, 92] l)))) ∧
    dRepl (Str.ofString "\n") (Str.ofString "\\n") (.str (S (r1 34 [92, 34] (r1 92 [92, 92] l)))) = some (.str (S (flat (l.map tkOf)))) := by
  have a1 := r1_len (p := 92) (z := [92, 92]) rfl l
  have a2 := r1_len (p := 34) (z := [92, 34]) rfl (r1 92 [92, 92] l)
  refine ⟨dRepl1 bs_S bb_S (by simp; omega), dRepl1 qt_S bq_S (by simp; omega), ?_⟩
  rw [dRepl1 nl_S bn_S (by simp; omega), Tx.esc3]
theorem strsOf_map (f : D → Str) : ∀ ds : List D, strsOf (ds.map fun d => .str (f d)) = some (ds.map f)
  | [] => rfl
  | d :: ds => by
    show (strsOf (ds.map fun d => .str (f d))).map _ = _
    rw [strsOf_map f ds]
    rfl
theorem sum_len : ∀ ds : List D, ((ds.map fun d => flat (txt d)).map (·.length)).sum + ds.length ≤ (flat (txtR ds)).length
  | [] => Nat.zero_le _
  | d :: ds => by
    have ih := sum_len ds
    rw [txtR, Tx.flat_cons, Tx.flat_append]
    simp [Tk.raw] at ih ⊢
    omega
theorem sum_lenL (ds : List D) : ((ds.map fun d => flat (txt d)).map (·.length)).sum + ds.length ≤ (flat (txtL ds)).length + 1 := by
  cases ds with
  | nil => simp
  | cons d ds =>
    have := sum_len ds
    rw [txtL, Tx.flat_append]
    simp at this ⊢
    omega
theorem mem_len {d : D} {ds : List D} (h : d ∈ ds) : (flat (txt d)).length ≤ ((ds.map fun d => flat (txt d)).map (·.length)).sum := by
  induction ds with
  | nil => cases h
  | cons e ds ih =>
    simp only [List.map_cons, List.sum_cons]
    rcases List.mem_cons.mp h with rfl | h
    · omega
    · have := ih h
      omega
theorem dJoin_ok {ds : List D} (h : (flat (txtL ds)).length ≤ 100000) : dJoin (Str.ofString " ") [.lst (ds.map fun d => .str (S (flat (txt d))))] = some (.str (S (flat (txtL ds)))) := by
  have hs := sum_lenL ds
  show ((strsOf (ds.map fun d => .str (S (flat (txt d))))).bind fun ys => if (ys.map (·.length)).sum + ys.length * (Str.ofString " ").length ≤ 16777216 then some (D.str (Txt.join (Str.ofString " ") ys)) else none) = _
  rw [strsOf_map]
  show (if ((ds.map fun d => S (flat (txt d))).map (·.length)).sum + (ds.map fun d => S (flat (txt d))).length * (Str.ofString " ").length ≤ 16777216 then some (D.str (Txt.join (Str.ofString " ") (ds.map fun d => S (flat (txt d))))) else none) = _
  have e1 : (ds.map fun d => S (flat (txt d))) = (ds.map fun d => flat (txt d)).map S := by rw [List.map_map]; rfl
  have e2 : (Str.ofString " ").length = 1 := by decide +kernel
  rw [e1, SX.lens, e2, if_pos (by simp at hs ⊢; omega), sp_S, SX.join_S, flat_joinL]
theorem sI_log {i : Int} (h : i.natAbs < 10 ^ 100) : i.natAbs.log2 < 1920 := Nat.lt_of_lt_of_le (log2_lt (k := 400) (Nat.lt_of_lt_of_le h (by decide)) (by decide)) (by decide)
theorem show_spec : ∀ {m n : Nat} {d : D}, Vd n d → n < m → (flat (txt d)).length ≤ 100000 → Ev (m_show_plain m [.fr d]) fun p => p = (.fr (.str (S (flat (txt d)))), [.fr d])
  | 0, n, d, _, h, _ => absurd h (Nat.not_lt_zero _)
  | m + 1, n, .non, _, _, _ => by
    simp [m_show_plain, ev_runF, b_show_plain, txt, N_S]
    rfl
  | m + 1, n, .bl b, _, _, _ => by
    cases b <;> simp [m_show_plain, ev_runF, b_show_plain, txt, T_S, F_S] <;> rfl
  | m + 1, n, .int i, h, _, _ => by
    have h : i.natAbs < 10 ^ 100 := by cases n <;> exact h
    simp [m_show_plain, ev_runF, b_show_plain, txt, strOf_ok (sI_log h), Tx.sI_S, Tx.flat_c]
  | m + 1, n, .str s, h, _, hl => by
    obtain ⟨l, rfl⟩ : ∃ l, s = S l := ⟨s.cps.toList, (SX.S_tl s).symm⟩
    have hl : (flat (.c 34 :: (l.map tkOf ++ [.c 34]))).length ≤ 100000 := by rw [txt] at hl; exact hl
    rw [Tx.flat_cons, Tx.flat_append, List.length_append, List.length_append] at hl
    have t1 := tk_len l
    obtain ⟨e1, e2, e3⟩ := esc_ok (l := l) (by omega)
    have e4 : dAdd (.str (S [34])) (.str (S (flat (l.map tkOf)))) = some (O.fr (.str (S (34 :: flat (l.map tkOf))))) := dAddS (by simp; omega)
    have e5 : dAdd (.str (S (34 :: flat (l.map tkOf)))) (.str (S [34])) = some (O.fr (.str (S (34 :: (flat (l.map tkOf) ++ [34]))))) := dAddS (a := 34 :: flat (l.map tkOf)) (by simp; omega)
    have e6 : flat (txt (.str (S l))) = 34 :: (flat (l.map tkOf) ++ [34]) := by rw [txt, Tx.flat_cons, Tx.flat_append]; rfl
    rw [e6]
    simp only [qt_S, bs_S, bb_S, bq_S, nl_S, bn_S] at e1 e2 e3
    simp [m_show_plain, ev_runF, b_show_plain, qt_S, bs_S, bb_S, bq_S, nl_S, bn_S, e1, e2, e3, e4, e5]
  | m + 1, 0, .tup ds, h, _, _ => h.elim
  | m + 1, n + 1, .tup ds, h, hm, hl => by
    have e6 : flat (txt (.tup ds)) = 40 :: (flat (txtL ds) ++ [41]) := by rw [txt, Tx.flat_cons, Tx.flat_append]; rfl
    rw [e6] at hl ⊢
    simp at hl
    have e3 := dJoin_ok (ds := ds) (by omega)
    have e4 : dAdd (.str (S [40])) (.str (S (flat (txtL ds)))) = some (O.fr (.str (S (40 :: flat (txtL ds))))) := dAddS (by simp; omega)
    have e5 : dAdd (.str (S (40 :: flat (txtL ds)))) (.str (S [41])) = some (O.fr (.str (S (40 :: (flat (txtL ds) ++ [41]))))) := dAddS (a := 40 :: flat (txtL ds)) (by simp; omega)
    have hs := sum_lenL ds
    simp [m_show_plain, ev_runF, b_show_plain, op_S, cp_S]
    refine (lcL_go (P := fun g => ∃ c, g = [some (.fr (.tup ds)), c]) (f := fun d => some (.fr (.str (S (flat (txt d)))))) ⟨none, rfl⟩ ?_ ?_).mono ?_
    · rintro d hd g ⟨c, rfl⟩
      have := mem_len hd
      simp
      refine (show_spec (h.2 d hd) (Nat.lt_of_succ_lt_succ hm) (by omega)).mono ?_
      rintro _ rfl
      simp
    · have : (1000 : Nat) ≤ sizeLine := by decide
      have := h.1
      simp
      omega
    · rintro ⟨os, g⟩ ⟨h1, c, rfl⟩
      have h2 : erL os = ds.map fun d => D.str (S (flat (txt d))) := by
        rw [show os = _ from h1, List.nil_append]
        have : ds.filterMap (fun d => some (O.fr (.str (S (flat (txt d)))))) = (ds.map fun d => D.str (S (flat (txt d)))).map O.fr := by
          rw [List.map_map]
          exact congrFun List.filterMap_eq_map ds
        rw [this, erL_fr]
      simp [h2, e3, e4, e5]
  | _ + 1, 0, .lst _, h, _, _ => h.elim
  | _ + 1, _ + 1, .lst _, h, _, _ => h.elim
  | _ + 1, 0, .dK _ _, h, _, _ => h.elim
  | _ + 1, _ + 1, .dK _ _, h, _, _ => h.elim
  | _ + 1, 0, .dT _ _, h, _, _ => h.elim
  | _ + 1, _ + 1, .dT _ _, h, _, _ => h.elim
  | _ + 1, 0, .scr _, h, _, _ => h.elim
  | _ + 1, _ + 1, .scr _, h, _, _ => h.elim
  | _ + 1, 0, .ob _ _ _, h, _, _ => h.elim
  | _ + 1, _ + 1, .ob _ _ _, h, _, _ => h.elim
end K39

set_option Elab.async false
set_option linter.all false
set_option maxRecDepth 100000
namespace K39
open PySem PySem.Spec PyProof.Rows L2 Mi Lw
open Tx (Tk flat tkOf digI r1 r2 veil vl Cl)
open SX (S)
theorem tb_S : Str.ofString "\t" = S [9] := by decide +kernel
theorem tt_S : Str.ofString "\t\t" = S [9, 9] := by decide +kernel
theorem mi_S : Str.ofString "-" = S [45] := by decide +kernel
theorem ze_S : Str.ofString "0" = S [48] := by decide +kernel
theorem ti_S : Str.ofString "~" = S [126] := by decide +kernel
theorem n_S : Str.ofString "n" = S [110] := by decide +kernel
theorem em_S : Str.ofString "" = S [] := by decide +kernel
theorem es_S : Str.ofString "\\\"n" = S [92, 34, 110] := by decide +kernel
theorem n1 : ¬ (Str.ofString "signs" = Str.ofString "veiled") := by decide +kernel
theorem n2 : ¬ (Str.ofString "veiled" = Str.ofString "signs") := by decide +kernel
abbrev fl : List Str := [Str.ofString "signs", Str.ofString "veiled"]
def rd (C : Addr) (T : List Nat) : D := .ob C fl [.str (S T), .str (S (vl T))]
def Ch (c : Nat) : Prop := 32 ≤ c ∧ c ≤ 126 ∧ c ≠ 37
/-- how a reading ends: with a value and what is left behind it, or at a fault: what stands there -/
inductive PR where
  | ok (d : D) (R : List Nat) | bad (R : List Nat)
def prV (CB : Addr) (n : Int) : PR → Rs
  | .ok d R => .ok (.fr (.tup [d, .int (n - (R.length : Nat))]))
  | .bad R => .ex CB ["place"] [.int (n - (R.length : Nat))]
def TS (ts : List Tk) : Prop := ∀ t ∈ ts, match t with
  | .c y => y ≠ 92 ∧ y ≠ 34
  | .e y => y = 92 ∨ y = 34 ∨ y = 110
theorem TS.ok {ts : List Tk} (h : TS ts) : ∀ t ∈ ts, t.ok := fun t ht => by
  have := h t ht
  cases t with
  | c y => exact this.1
  | e y => exact this
def NE (r : List Nat) : Prop := ∀ d s, r = d :: s → ¬ (d = 92 ∨ d = 34 ∨ d = 110)
/-- what a token stands for -/
def un : Tk → List Nat
  | .c y => [y]
  | .e y => if y = 110 then [10] else [y]
def uns (ts : List Tk) : List Nat := (ts.map un).flatten
theorem un_len (t : Tk) : (un t).length = 1 := by
  cases t with
  | c y => rfl
  | e y => show (if y = 110 then [10] else [y]).length = 1; split <;> rfl
theorem raw_len (t : Tk) : 1 ≤ t.raw.length := by cases t <;> simp [Tk.raw]
theorem uns_len (ts : List Tk) : (uns ts).length = ts.length := by
  unfold uns
  induction ts with
  | nil => rfl
  | cons t ts ih => rw [List.map_cons, List.flatten_cons, List.length_append, ih, un_len, List.length_cons]; omega
theorem flat_len (ts : List Tk) : ts.length ≤ (flat ts).length := by
  induction ts with
  | nil => exact Nat.le_refl _
  | cons t ts ih =>
    have := raw_len t
    rw [Tx.flat_cons, List.length_append, List.length_cons]
    omega
theorem sizeT {T : List Nat} (h : T.length ≤ 100000) : (S T).length ≤ sizeLine := by
  have : (100000 : Nat) ≤ sizeLine := by decide
  rw [SX.S_len]
  omega
theorem item {A R : List Nat} {c : Nat} {at_ : Int} (h : (A ++ c :: R).length ≤ 100000) (ha : at_ = (A.length : Nat)) : dIx (.str (S (A ++ c :: R))) (.int at_) = some (.str (S [c])) := by
  show (if (S (A ++ c :: R)).length ≤ sizeLine then (atI (A ++ c :: R) at_).map fun c => D.str ⟨#[c]⟩ else none) = _
  rw [if_pos (sizeT h), ha, atI_lt (by simp)]
  simp
theorem S_one {a b : Nat} : (S [a] = S [b]) ↔ a = b := ⟨fun z => by cases z; rfl, fun z => by rw [z]⟩
theorem lt_one {a b : Nat} : sLt (S [a]) (S [b]) = decide (a < b) := by
  unfold sLt
  congr 1
  apply propext
  show [a] < [b] ↔ a < b
  constructor
  · intro h
    cases (show List.Lex (· < ·) [a] [b] from h) with
    | rel h => exact h
    | cons h => cases h
  · exact fun h => List.Lex.rel h
theorem dLtS {a b : Nat} : dLt (.str (S [a])) (.str (S [b])) = some (.bl (decide (a < b))) := by
  show some (D.bl (sLt (S [a]) (S [b]))) = _
  rw [lt_one]
theorem dGtS {a b : Nat} : dGt (.str (S [a])) (.str (S [b])) = some (.bl (decide (b < a))) := by
  show some (D.bl (sLt (S [b]) (S [a]))) = _
  rw [lt_one]
theorem dLeS {a b : Nat} : dLe (.str (S [a])) (.str (S [b])) = some (.bl (decide (a ≤ b))) := by
  show some (D.bl (!sLt (S [b]) (S [a]))) = _
  rw [lt_one]
  congr 2
  by_cases h : b < a
  · rw [decide_eq_true h, decide_eq_false (by omega)]; rfl
  · rw [decide_eq_false h, decide_eq_true (by omega)]; rfl
theorem dOrdS {a : Nat} : dOrd [.str (S [a])] = some (.int (a : Nat)) := rfl
theorem inS {a : Nat} {l : List Nat} : dInS (.str (S [a])) (.str (S l)) = some (.bl (decide (a ∈ l))) := rfl
theorem notInS {a : Nat} {l : List Nat} : dNotInS (.str (S [a])) (.str (S l)) = some (.bl (!decide (a ∈ l))) := rfl
theorem getN {y : Nat} : (look (Sum.inr (S [y]) : Key) [Sum.inr (S [110])] [D.str (S [10])]).getD (D.str (S [y])) = D.str (S (un (.e y))) := by
  unfold look look
  show (if _ then _ else _ : Option D).getD _ = D.str (S (if y = 110 then [10] else [y]))
  by_cases h : y = 110
  · subst h
    simp
  · have : ¬ ((Sum.inr (S [110]) : Key) = Sum.inr (S [y])) := fun z => by
      have := S_one.mp (Sum.inr.inj z)
      exact h this.symm
    rw [if_neg this, if_neg h]
    rfl
theorem dLenS {T : List Nat} {n : Int} (h : T.length ≤ 100000) (hn : n = (T.length : Nat)) : dLen [.str (S T)] = some (.int n) := by
  show (if (S T).length ≤ sizeLine then some (D.int ((S T).length : Nat)) else none) = _
  rw [if_pos (sizeT h), hn, SX.S_len]
end K39

set_option Elab.async false
set_option linter.all false
set_option maxRecDepth 100000
namespace K39
open PySem PySem.Spec PyProof.Rows L2 Mi Lw
open Tx (Tk flat tkOf digI r1 r2 veil vl Cl)
open SX (S)
theorem dRepl2 {y z : Str} {p q : Nat} {zs l : List Nat} (hy : y = S [p, q]) (hz : z = S zs) (h : l.length + (l.length + 1) * zs.length ≤ 16777216) : dRepl y z (.str (S l)) = some (.str (S (r2 p q zs l))) := by
  subst hy hz
  show (if (S l).length + ((S l).length + 1) * (S zs).length ≤ 16777216 then some (D.str (Txt.replace (S l) (S [p, q]) (S zs))) else none) = _
  rw [Tx.repl2]
  exact if_pos (by rw [SX.S_len, SX.S_len]; exact h)
theorem r2_len {p q : Nat} {z : List Nat} (hz : z.length ≤ 2) : ∀ (n : Nat) (l : List Nat), l.length ≤ n → (r2 p q z l).length ≤ l.length
  | _, [], _ => Nat.le_refl _
  | 0, _ :: _, h => by cases h
  | n + 1, [c], _ => Nat.le_refl _
  | n + 1, c :: d :: r, h => by
    have h : r.length + 1 + 1 ≤ n + 1 := h
    show (if c = p ∧ d = q then z ++ r2 p q z r else c :: r2 p q z (d :: r)).length ≤ r.length + 1 + 1
    split
    · have := r2_len (p := p) (q := q) hz n r (by omega)
      rw [List.length_append]
      omega
    · have := r2_len (p := p) (q := q) hz n (d :: r) (by show r.length + 1 ≤ n; omega)
      rw [List.length_cons]
      have e : (d :: r).length = r.length + 1 := rfl
      omega
theorem r2_le {p q : Nat} {z l : List Nat} (hz : z.length ≤ 2) : (r2 p q z l).length ≤ l.length := r2_len hz l.length l (Nat.le_refl _)
theorem veil_no {ts : List Tk} (h : ∀ t ∈ ts, t.ok) : 92 ∉ veil ts := by
  intro hm
  obtain ⟨l, hl, hc⟩ := List.mem_flatten.mp hm
  obtain ⟨t, ht, rfl⟩ := List.mem_map.mp hl
  have := h t ht
  cases t with
  | c y =>
    cases List.mem_singleton.mp hc
    exact this rfl
  | e y =>
    have hc : (92 : Nat) ∈ [9, 9] := hc
    simp at hc
theorem printable {l : List Nat} (h : ∀ c ∈ l, 32 ≤ c ∧ c ≤ 126) : Txt.isascii (S l) = true ∧ Txt.isprintable (S l) = true := by
  have hp : ∀ c, 32 ≤ c ∧ c ≤ 126 → Unicode.isPrintable c = true := fun c hc => by
    have ha : (List.range 127).all (fun c => decide (c < 32) || Unicode.isPrintable c) = true := by decide +kernel
    have := List.all_eq_true.mp ha c (List.mem_range.mpr (by omega))
    rw [decide_eq_false (by omega), Bool.false_or] at this
    exact this
  refine ⟨?_, ?_⟩
  · show (l.toArray).all (· < 128) = true
    rw [List.all_toArray, List.all_eq_true]
    intro c hc
    have := h c hc
    exact decide_eq_true (by omega)
  · show (l.toArray).all Unicode.isPrintable = true
    rw [List.all_toArray, List.all_eq_true]
    exact fun c hc => hp c (h c hc)

/-- what is told of the signs behind a quote -/
def SR (R : List Nat) (pr : PR) : Prop := ∃ ts, TS ts ∧ ((∃ r, R = flat ts ++ 34 :: r ∧ pr = .ok (.str (S (uns ts))) r) ∨ (R = flat ts ∧ pr = .bad []) ∨ ∃ r, R = flat ts ++ 92 :: r ∧ NE r ∧ pr = .bad r)
theorem veil34 {ts : List Tk} (h : TS ts) : 34 ∉ veil ts := by
  intro hm
  obtain ⟨l, hl, hc⟩ := List.mem_flatten.mp hm
  obtain ⟨t, ht, rfl⟩ := List.mem_map.mp hl
  have := h t ht
  cases t with
  | c y =>
    cases List.mem_singleton.mp hc
    exact this.2 rfl
  | e y =>
    have hc : (34 : Nat) ∈ [9, 9] := hc
    simp at hc
theorem unesc_gen {ts : List Tk} (h : TS ts) (h9 : ∀ c ∈ flat ts, Ch c) : r1 9 [92] (r2 92 110 [10] (r2 92 34 [34] (r2 92 92 [9] (flat ts)))) = uns ts := by
  rw [Tx.three h.ok (by decide) (by decide)]
  induction ts with
  | nil => rfl
  | cons t ts ih =>
    have ih := ih (fun t ht => h t (List.mem_cons_of_mem _ ht)) fun c hc => h9 c (by rw [Tx.flat_cons]; exact List.mem_append_right _ hc)
    have ht := h t (List.mem_cons_self ..)
    rw [List.map_cons, List.flatten_cons, Tx.r1_append, ih]
    show _ = un t ++ uns ts
    congr 1
    cases t with
    | c y =>
      have := h9 y (by rw [Tx.flat_cons]; exact List.mem_cons_self ..)
      show r1 9 [92] [y] = [y]
      rw [Tx.r1_one, if_neg (by have := this.1; omega)]
    | e y =>
      have ht : y = 92 ∨ y = 34 ∨ y = 110 := ht
      rcases ht with rfl | rfl | rfl <;> rfl
theorem plain_uns {ts : List Tk} (h : 92 ∉ flat ts) : flat ts = uns ts := by
  induction ts with
  | nil => rfl
  | cons t ts ih =>
    rw [Tx.flat_cons] at h ⊢
    have := ih fun z => h (List.mem_append_right _ z)
    rw [this]
    show _ = un t ++ uns ts
    cases t with
    | c y => rfl
    | e y => exact (h (List.mem_append_left _ (List.mem_cons_self ..))).elim
theorem unesc_run {ts : List Tk} (h : TS ts) (h9 : ∀ c ∈ flat ts, Ch c) (hf : (flat ts).length ≤ 100000) :
    dRepl (Str.ofString "\\\\") (Str.ofString "\t") (.str (S (flat ts))) = some (.str (S (r2 92 92 [9] (flat ts)))) ∧
    dRepl (Str.ofString "\\\"") (Str.ofString "\"") (.str (S (r2 92 92 [9] (flat ts)))) = some (.str (S (r2 92 34 [34] (r2 92 92 [9] (flat ts))))) ∧
    dRepl (Str.ofString "\\n") (Str.ofString "\n") (.str (S (r2 92 34 [34] (r2 92 92 [9] (flat ts))))) = some (.str (S (r2 92 110 [10] (r2 92 34 [34] (r2 92 92 [9] (flat ts)))))) ∧
    dRepl (Str.ofString "\t") (Str.ofString "\\") (.str (S (r2 92 110 [10] (r2 92 34 [34] (r2 92 92 [9] (flat ts)))))) = some (.str (S (uns ts))) := by
  have l1 := r2_le (p := 92) (q := 92) (z := [9]) (l := flat ts) (by decide)
  have l2 := r2_le (p := 92) (q := 34) (z := [34]) (l := r2 92 92 [9] (flat ts)) (by decide)
  have l3 := r2_le (p := 92) (q := 110) (z := [10]) (l := r2 92 34 [34] (r2 92 92 [9] (flat ts))) (by decide)
  refine ⟨dRepl2 bb_S tb_S (by simp; omega), dRepl2 bq_S qt_S (by simp; omega), dRepl2 bn_S nl_S (by simp; omega), ?_⟩
  rw [dRepl1 tb_S bs_S (by simp; omega), unesc_gen h h9]
/-- the place behind the bar -/
theorem wrong_spec {C : Addr} {T : List Nat} {at_ stop slash : Int} (hT : T.length ≤ 100000) (hch : ∀ c ∈ T, Ch c) (h0 : 0 ≤ at_) (h1 : at_ ≤ slash) (h2 : slash < stop) (h3 : stop ≤ (T.length : Nat)) : Ev (m_Reader_wrong_sign C [.fr (rd C T), .fr (.int at_), .fr (.int stop), .fr (.int slash)]) fun p => p = (.fr (.int (slash + 1)), [.fr (rd C T), .fr (.int at_), .fr (.int stop), .fr (.int slash)]) := by
  simp [m_Reader_wrong_sign, ev_runF, b_Reader_wrong_sign]
  refine ⟨by omega, ?_⟩
  let W : G → Prop := fun g => ∃ x, g = [some (.fr (rd C T)), some (.fr (.int at_)), some (.fr (.int stop)), some (.fr (.int slash)), x]
  refine Ev.mono (Q := fun x => ∃ y, x = .rt (.fr (.int (slash + 1))) [some (.fr (rd C T)), some (.fr (.int at_)), some (.fr (.int stop)), some (.fr (.int slash)), y]) (forL_out (m := (slash - at_).toNat) (P := fun _ => W) (by rw [rgD_len]; omega) ⟨_, rfl⟩ ?_ ?_) ?_
  · rintro k hk g ⟨x, rfl⟩
    rw [rgD_get]
    obtain ⟨j, hj, hj2⟩ : ∃ j : Nat, at_ + k = j ∧ j < T.length := ⟨(at_ + k).toNat, by omega, by omega⟩
    have hi : dIx (.str (S T)) (.int (j : Int)) = some (.str (S [T[j]])) := by
      have e : T = T.take j ++ T[j] :: T.drop (j + 1) := by rw [List.getElem_cons_drop, List.take_append_drop]
      have := item (A := T.take j) (R := T.drop (j + 1)) (c := T[j]) (at_ := j) (by rw [← e]; exact hT) (by rw [List.length_take]; omega)
      rw [← e] at this
      exact this
    have hc := hch T[j] (List.getElem_mem hj2)
    have q1 : 32 ≤ T[j] := hc.1
    have q2 : T[j] ≤ 126 := hc.2.1
    have q3 : ¬ ((j : Int) = slash) := by omega
    rw [hj]
    generalize (j : Int) = ji at hi q3
    simp [b_Reader_wrong_sign_1, rd, look, n1, n2, sp_S, ti_S, dLeS, hi, q1, q2, q3]
    exact ⟨_, rfl⟩
  · rintro g ⟨x, rfl⟩
    rw [rgD_get]
    obtain ⟨j, hj, hj2⟩ : ∃ j : Nat, slash = j ∧ j < T.length := ⟨slash.toNat, by omega, by omega⟩
    have hi : dIx (.str (S T)) (.int (j : Int)) = some (.str (S [T[j]])) := by
      have e : T = T.take j ++ T[j] :: T.drop (j + 1) := by rw [List.getElem_cons_drop, List.take_append_drop]
      have := item (A := T.take j) (R := T.drop (j + 1)) (c := T[j]) (at_ := j) (by rw [← e]; exact hT) (by rw [List.length_take]; omega)
      rw [← e] at this
      exact this
    have hc := hch T[j] (List.getElem_mem hj2)
    have q1 : 32 ≤ T[j] := hc.1
    have q2 : T[j] ≤ 126 := hc.2.1
    have q4 : at_ + ((slash - at_).toNat : Nat) = slash := by omega
    rw [q4]
    rw [← hj] at hi
    simp [b_Reader_wrong_sign_1, rd, look, n1, n2, sp_S, ti_S, dLeS, hi, q1, q2]
  · rintro _ ⟨y, rfl⟩
    simp
end K39

set_option Elab.async false
set_option linter.all false
set_option maxRecDepth 100000
namespace K39
open PySem PySem.Spec PyProof.Rows L2 Mi Lw
open Tx (Tk flat tkOf digI r1 r2 veil vl Cl)
open SX (S)
theorem asc {l : List Nat} (h : ∀ c ∈ l, Ch c) : Txt.isascii (S l) = true ∧ Txt.isprintable (S l) = true := printable fun c hc => ⟨(h c hc).1, (h c hc).2.1⟩
theorem flat_eq {ts : List Tk} (h : ¬ 92 ∈ flat ts) : S (flat ts) = S (uns ts) := by rw [plain_uns h]
theorem string_spec {CB C : Addr} {T A R : List Nat} {at_ : Int} {pr : PR} (hT : T.length ≤ 100000) (hch : ∀ c ∈ T, Ch c) (e : T = A ++ R) (hA : Cl A) (ha : at_ = (A.length : Nat)) (hs : SR R pr) :
    Ev (m_Reader_string CB C [.fr (rd C T), .fr (.int at_)]) fun p => p = (prV CB (T.length : Nat) pr, [.fr (rd C T), .fr (.int at_)]) := by
  obtain ⟨n, hn⟩ : ∃ n : Int, n = (T.length : Nat) := ⟨_, rfl⟩
  rw [← hn]
  obtain ⟨ts, h1, h2⟩ := hs
  have hvA : (vl A).length = A.length := Tx.vlen A
  have hvT : vl T = vl A ++ vl R := by rw [e]; exact hA R
  have hf : ∀ c ∈ flat ts, Ch c := fun c hc => hch c (by
    rw [e]
    refine List.mem_append_right _ ?_
    rcases h2 with ⟨r, hR, _⟩ | ⟨hR, _⟩ | ⟨r, hR, _, _⟩
    · rw [hR]; exact List.mem_append_left _ hc
    · rw [hR]; exact hc
    · rw [hR]; exact List.mem_append_left _ hc)
  obtain ⟨p1, p2⟩ := asc hf
  have hlf : (flat ts).length = (veil ts).length := (Tx.veil_len ts).symm
  have v34 := veil34 h1
  have v92 := veil_no h1.ok
  have hcl := Tx.cl_flat h1.ok
  have hvf := Tx.vl_flat h1.ok
  rcases h2 with ⟨r, hR, rfl⟩ | ⟨hR, rfl⟩ | ⟨r, hR, hN, rfl⟩
  · have hvR : vl R = veil ts ++ 34 :: vl r := by rw [hR, hcl, hvf, Tx.vl_c (by decide)]
    obtain ⟨k, hk⟩ : ∃ k : Int, k = ((A.length + (flat ts).length : Nat) : Int) := ⟨_, rfl⟩
    have f1 : Txt.find3 (S (vl T)) (S [34]) at_ = k := by
      rw [hvT, hvR, ha, ← hvA, ← List.append_assoc, Tx.find3_hit v34, List.length_append, ← hlf, hvA, hk]
    have f2 : Txt.findIn (S (vl T)) (S [92]) at_ k = -1 := by
      rw [hvT, hvR, ha, hk, ← hvA]
      exact Tx.findIn_no v92 (by rw [hlf]; exact Nat.le_refl _)
    have f3 : Txt.slice (S T) (some at_) (some k) = S (flat ts) := by
      rw [e, hR, ha, hk]
      exact Tx.sliceTo rfl
    have hk0 : ¬ k < 0 := by omega
    have hsz := sizeT hT
    have hlen : (flat ts).length ≤ 100000 := by rw [e, hR] at hT; simp at hT; omega
    obtain ⟨u1, u2, u3, u4⟩ := unesc_run h1 hf hlen
    have hkn : k + 1 = n - (r.length : Nat) := by rw [hk, hn, e, hR]; simp; omega
    have hd : dInS (.str (S [92])) (.str (S (flat ts))) = some (.bl (decide (92 ∈ flat ts))) := rfl
    simp only [bb_S, tb_S, bq_S, qt_S, bn_S, nl_S, bs_S] at u1 u2 u3 u4
    simp [m_Reader_string, ev_runX, b_Reader_string, rd, look, n1, n2, bb_S, tb_S, bq_S, qt_S, bn_S, nl_S, bs_S, f1, f2, f3, p1, p2, hsz, hk0, hd]
    refine Ev.mono (Q := fun o => o = Out.nx [some (O.fr (rd C T)), some (O.fr (D.int at_)), some (O.fr (D.int k)), some (O.fr (D.int k)), some (O.fr (D.str (S (uns ts)))), some (O.fr (D.int (-1)))]) (Ev.ite (fun hm => ?_) (fun hm => ?_)) ?_
    · simp [u1, u2, u3, u4, rd]
    · simp [rd, flat_eq hm]
    · rintro _ rfl
      simp [rd, prV, hkn]
  · have hvR : vl R = veil ts := by rw [hR, hvf]
    have f1 : Txt.find3 (S (vl T)) (S [34]) at_ = -1 := by
      rw [hvT, hvR, ha, ← hvA]
      exact Tx.find3_no v34
    have f2 : Txt.findIn (S (vl T)) (S [92]) at_ n = -1 := by
      have hnn : n = ((A.length + (flat ts).length : Nat) : Int) := by rw [hn, e, hR, List.length_append]
      have := Tx.findIn_no (p := vl A) (q := veil ts) (r := []) (c := 92) (b := A.length + (flat ts).length) v92 (by rw [hvA, hlf]; exact Nat.le_refl _)
      rw [List.append_nil, hvA] at this
      rw [hvT, hvR, ha, hnn]
      exact this
    have f3 : Txt.slice (S T) (some at_) (some n) = S (flat ts) := by
      have := Tx.sliceTo (p := A) (q := flat ts) (r := []) (b := A.length + (flat ts).length) rfl
      rw [List.append_nil] at this
      rw [e, hR, ha, hn, e, hR, List.length_append]
      exact this
    have hL := dLenS hT hn
    have hsz := sizeT hT
    have hLn : ((S T).length : Int) = n := by rw [SX.S_len, hn]
    have hlog : n.natAbs.log2 < 1920 := Nat.lt_of_lt_of_le (log2_lt (k := 20) (by rw [hn]; omega) (by decide)) (by decide)
    simp [m_Reader_string, ev_runX, b_Reader_string, rd, look, n1, n2, qt_S, bs_S, f1, hL, hsz, hLn, f2, f3, p1, p2, hlog]
    simp [prV]
  · have hvR : vl R = veil ts ++ 92 :: vl r := by rw [hR, hcl, hvf, Tx.vl_bad hN]
    obtain ⟨p, hp⟩ : ∃ p : Nat, p = A.length + (flat ts).length := ⟨_, rfl⟩
    have hTl : T.length = p + 1 + r.length := by rw [e, hR, hp]; simp; omega
    have at92 : (vl T)[p]? = some 92 := by
      rw [hvT, hvR, hp, hlf, ← hvA, List.getElem?_append_right (by omega), List.getElem?_append_right (by omega)]
      simp
    have no34 : ∀ v, A.length ≤ v → v ≤ p → (vl T)[v]? ≠ some 34 := fun v g1 g2 z => by
      by_cases g3 : v = p
      · rw [g3, at92] at z
        cases z
      · rw [hvT, hvR, List.getElem?_append_right (by omega), List.getElem?_append_left (by omega)] at z
        exact v34 (List.mem_of_getElem? z)
    have hvTl : (vl T).length = T.length := Tx.vlen T
    -- the window's end
    obtain ⟨en, st, f1, hst, hst2, hst3⟩ : ∃ (en : Int) (st : Nat), Txt.find3 (S (vl T)) (S [34]) at_ = en ∧ (en < 0 ∧ st = T.length ∨ en = st ∧ ¬ en < 0) ∧ p < st ∧ st ≤ T.length := by
      rcases Tx.find3_cases (l := vl T) (c := 34) (a := A.length) (by rw [hvTl, hTl]; omega) with ⟨q1, _⟩ | ⟨k, q1, q2, q3, _⟩
      · exact ⟨-1, T.length, by rw [ha]; exact q1, .inl ⟨by decide, rfl⟩, by omega, Nat.le_refl _⟩
      · refine ⟨k, k, by rw [ha]; exact q1, .inr ⟨rfl, by omega⟩, ?_, ?_⟩
        · by_cases g : p < k
          · exact g
          · exact (no34 k q2 (by omega) q3).elim
        · have := (List.getElem?_eq_some_iff.mp q3).1
          omega
    obtain ⟨sti, hsti⟩ : ∃ sti : Int, sti = (st : Int) := ⟨_, rfl⟩
    obtain ⟨pi, hpi⟩ : ∃ pi : Int, pi = (p : Int) := ⟨_, rfl⟩
    have f2 : Txt.findIn (S (vl T)) (S [92]) at_ sti = pi := by
      have hb : st ≤ (vl A ++ (veil ts ++ 92 :: vl r)).length := by rw [← hvR, ← hvT, hvTl]; exact hst3
      have := Tx.findIn_hit (p := vl A) (q := veil ts) (r := vl r) (c := 92) (b := st) v92 (by omega) hb
      rw [hvT, hvR, ha, hsti, ← hvA, this, hpi, hp, hlf, hvA]
    have hw := wrong_spec (C := C) (T := T) (at_ := at_) (stop := sti) (slash := pi) hT hch (by omega) (by omega) (by omega) (by omega)
    have hpn : pi + 1 = n - (r.length : Nat) := by rw [hpi, hn, hTl]; omega
    have hlog : (pi + 1).natAbs.log2 < 1920 := Nat.lt_of_lt_of_le (log2_lt (k := 20) (by omega) (by decide)) (by decide)
    have hL := dLenS hT hn
    have hsz := sizeT hT
    have hLn : ((S T).length : Int) = n := by rw [SX.S_len, hn]
    have hpi0 : 0 ≤ pi := by omega
    obtain ⟨q, f3⟩ : ∃ q, dSl (.str (S T)) (some at_) (some sti) = some (.fr (.str q)) := by
      show ∃ q, (if (S T).length ≤ sizeLine then some (O.fr (.str (Txt.slice (S T) (some at_) (some sti)))) else none) = _
      rw [if_pos hsz]
      exact ⟨_, rfl⟩
    have hst4 : (en < 0 ∧ sti = n) ∨ (en = sti ∧ ¬ en < 0) := by
      rcases hst with ⟨q1, q2⟩ | ⟨q1, q2⟩
      · exact .inl ⟨q1, by rw [hsti, hn, q2]⟩
      · exact .inr ⟨by rw [q1, hsti], q2⟩
    have hob : obAt C (Str.ofString "wrong_sign") [some (O.fr (D.ob C fl [D.str (S T), D.str (S (vl T))])), some (O.fr (D.int at_)), some (O.fr (D.int en)), some (O.fr (D.int sti)), some (O.fr (D.str q)), some (O.fr (D.int pi))] (.d (D.ob C fl [D.str (S T), D.str (S (vl T))])) = true := by
      first | decide +kernel | (simp [obAt, fl]; decide +kernel)
    rcases hst4 with ⟨q1, q2⟩ | ⟨q1, q2⟩
    · rw [q2] at f2 f3 hw hob
      simp [m_Reader_string, ev_runX, b_Reader_string, rd, look, n1, n2, qt_S, bs_S, f1, q1, hL, hsz, hLn, f2, f3, hpi0, hob]
      refine hw.mono ?_
      rintro _ rfl
      simp [prV, hpn]
      rw [← hpn]
      exact hlog
    · rw [← q1] at f2 f3 hw hob
      simp [m_Reader_string, ev_runX, b_Reader_string, rd, look, n1, n2, qt_S, bs_S, f1, q2, hL, hsz, hLn, f2, f3, hpi0, hob]
      refine hw.mono ?_
      rintro _ rfl
      simp [prV, hpn]
      rw [← hpn]
      exact hlog
end K39

set_option Elab.async false
set_option linter.all false
set_option maxRecDepth 100000
namespace K39
open PySem PySem.Spec PyProof.Rows L2 Mi Lw
open Tx (Tk flat tkOf digI r1 r2 veil vl Cl)
open SX (S)
def Dg (c : Nat) : Prop := 48 ≤ c ∧ c ≤ 57
def ND (R : List Nat) : Prop := ∀ c, R.head? = some c → c < 48 ∨ 57 < c
theorem digs_ex : ∀ R : List Nat, ∃ D R3, R = D ++ R3 ∧ (∀ c ∈ D, Dg c) ∧ ND R3
  | [] => ⟨[], [], rfl, fun _ h => absurd h (List.not_mem_nil), fun c h => by cases h⟩
  | c :: R => by
    by_cases h : Dg c
    · obtain ⟨D, R3, rfl, h1, h2⟩ := digs_ex R
      exact ⟨c :: D, R3, rfl, fun d hd => by
        rcases List.mem_cons.mp hd with rfl | hd
        · exact h
        · exact h1 d hd, h2⟩
    · refine ⟨[], c :: R, rfl, fun _ h => absurd h (List.not_mem_nil), fun d hd => ?_⟩
      cases hd
      unfold Dg at h
      omega
theorem digS : Str.ofString "0123456789" = S [48, 49, 50, 51, 52, 53, 54, 55, 56, 57] := by decide +kernel
theorem mem_dig {c : Nat} : c ∈ [48, 49, 50, 51, 52, 53, 54, 55, 56, 57] ↔ Dg c := by
  unfold Dg
  simp
  omega
/-- the sign ahead, the digits, what is left; what the law tells and what the program tells -/
inductive IR : Bool → List Nat → List Nat → PR → PR → Prop where
  | no {b : Bool} {R3 : List Nat} : IR b [] R3 (.bad R3) (.bad R3)
  | neg0 {D R3 : List Nat} : IR true (48 :: D) R3 (.bad (48 :: (D ++ R3))) (.bad (48 :: (D ++ R3)))
  | zero {R3 : List Nat} : IR false [48] R3 (.ok (.int 0) R3) (.ok (.int 0) R3)
  | lead {d : Nat} {D R3 : List Nat} : IR false (48 :: d :: D) R3 (.ok (.int 0) (d :: (D ++ R3))) (.bad (d :: (D ++ R3)))
  | num {b : Bool} {c : Nat} {D R3 : List Nat} {i : Int} : c ≠ 48 → (c :: D).length ≤ 2000 → PySem.intText? (S ((if b = true then [45] else []) ++ c :: D)) = some i → IR b (c :: D) R3 (.ok (.int i) R3) (.ok (.int i) R3)
  | long {b : Bool} {c : Nat} {D R3 : List Nat} : c ≠ 48 → 2000 < (c :: D).length → IR b (c :: D) R3 (.bad ((c :: D).drop 2000 ++ R3)) (.bad ((c :: D).drop 2000 ++ R3))
theorem text_int {b : Bool} {c : Nat} {D : List Nat} (h : ∀ d ∈ c :: D, Dg d) (hl : (c :: D).length ≤ 2000) : ∃ i, PySem.intText? (S ((if b = true then [45] else []) ++ c :: D)) = some i := by
  cases b with
  | true => exact ⟨_, intText_neg (x := S (45 :: c :: D)) rfl h (List.cons_ne_nil _ _) (by rw [SX.S_len]; simp at hl ⊢; omega)⟩
  | false => exact ⟨_, intText_digits (x := S (c :: D)) h (List.cons_ne_nil _ _) (by rw [SX.S_len]; omega)⟩
theorem ir_ex {b : Bool} {D R3 : List Nat} (h : ∀ d ∈ D, Dg d) : ∃ pl pp, IR b D R3 pl pp := by
  cases D with
  | nil => exact ⟨_, _, .no⟩
  | cons c D =>
    by_cases hc : c = 48
    · subst hc
      cases b with
      | true => exact ⟨_, _, .neg0⟩
      | false =>
        cases D with
        | nil => exact ⟨_, _, .zero⟩
        | cons d D => exact ⟨_, _, .lead⟩
    · by_cases hl : (c :: D).length ≤ 2000
      · obtain ⟨i, hi⟩ := text_int (b := b) h hl
        exact ⟨_, _, .num hc hl hi⟩
      · exact ⟨_, _, .long hc (by omega)⟩
def sgn (b : Bool) : List Nat := if b = true then [45] else []
theorem sgn_len (b : Bool) : (sgn b).length = if b = true then 1 else 0 := by cases b <;> rfl
theorem log_ok {x : Int} (h : x.natAbs ≤ 200000) : x.natAbs.log2 < 1920 := Nat.lt_of_lt_of_le (log2_lt (k := 20) (by omega) (by decide)) (by decide)
/-- the reader's integers -/
theorem integer_spec {CB C : Addr} {T A D R3 : List Nat} {b : Bool} {at_ : Int} {pl pp : PR} (hT : T.length ≤ 100000) (e : T = A ++ (sgn b ++ (D ++ R3))) (ha : at_ = (A.length : Nat)) (hb : b = false → (D ++ R3).head? ≠ some 45) (hD : ∀ d ∈ D, Dg d) (hN : ND R3) (hi : IR b D R3 pl pp) :
    Ev (m_Reader_integer CB C [.fr (rd C T), .fr (.int at_)]) fun p => p = (prV CB (T.length : Nat) pp, [.fr (rd C T), .fr (.int at_)]) := by
  obtain ⟨n, hn⟩ : ∃ n : Int, n = (T.length : Nat) := ⟨_, rfl⟩
  rw [← hn]
  have hsz := sizeT hT
  obtain ⟨first, hfi⟩ : ∃ first : Int, first = ((A.length + (sgn b).length : Nat) : Int) := ⟨_, rfl⟩
  have f1 : Txt.startswith3 (S T) (S [45]) at_ = b := by
    rw [e, ha, Tx.starts_any]
    cases b with
    | true => rfl
    | false => exact decide_eq_false (hb rfl)
  have e2 : T = (A ++ sgn b) ++ (D ++ R3) := by rw [e, List.append_assoc]
  have hTl : T.length = A.length + (sgn b).length + D.length + R3.length := by rw [e]; simp <;> omega
  obtain ⟨W, hW⟩ : ∃ W, W = D.take 2001 ++ R3.take (2001 - D.length) := ⟨_, rfl⟩
  have f2 : Txt.slice (S T) (some first) (some (first + 2000 + 1)) = S W := by
    have e3 : first = (((A ++ sgn b).length : Nat) : Int) := by rw [hfi, List.length_append]
    have e4 : first + 2000 + 1 = (((A ++ sgn b).length + 2001 : Nat) : Int) := by rw [e3]; omega
    rw [e4, e3, Tx.slice_S, e2, hW]
    congr 1
    rw [List.drop_left, Nat.add_sub_cancel_left, List.take_append]
  obtain ⟨m, hm⟩ : ∃ m : Nat, m = (D.take 2001).length := ⟨_, rfl⟩
  have hml : m = min 2001 D.length := by rw [hm, List.length_take]
  have f3 : (Txt.lstripChars (S W) (Str.ofString "0123456789")).length = (R3.take (2001 - D.length)).length := by
    rw [hW]
    refine Tx.lstrip_len (fun c hc => hD c (List.mem_of_mem_take hc)) fun c hc => hN c ?_
    cases R3 with
    | nil => simp at hc
    | cons d R3 =>
      cases q : 2001 - D.length with
      | zero => rw [q] at hc; simp at hc
      | succ q' => rw [q] at hc; simpa using hc
  have hWl : (S W).length = m + (R3.take (2001 - D.length)).length := by rw [SX.S_len, hW, List.length_append, hm]
  have hW2 : (S W).length ≤ 5000 := by rw [hWl, hml]; rw [List.length_take]; omega
  have g1 : (S W).length ≤ sizeLine := by
    have : (10000 : Nat) ≤ sizeLine := by decide
    omega
  have g2 : (Txt.lstripChars (S W) (Str.ofString "0123456789")).length ≤ sizeLine := by rw [f3]; omega
  obtain ⟨mi, hmi⟩ : ∃ mi : Int, mi = (m : Int) := ⟨_, rfl⟩
  have g3 : (((S W).length : Nat) : Int) - (((Txt.lstripChars (S W) (Str.ofString "0123456789")).length : Nat) : Int) = mi := by rw [f3, hWl, hmi]; omega
  have hfirst : (if b = true then at_ + 1 else at_) = first := by rw [hfi, sgn_len, ha]; cases b <;> simp
  have hgt : decide (at_ < first) = b := by
    rw [hfi, sgn_len, ha]
    cases b with
    | true => exact decide_eq_true (by rw [if_pos rfl]; omega)
    | false => exact decide_eq_false (by rw [if_neg (by intro z; cases z)]; omega)
  have hdec0 : dIntOfL [.str (S [48])] = some (.int 0) := by
    show (if (S [48]).length ≤ sizeLine then (PySem.intText? (S [48])).map Mi.D.int else none) = _
    rw [if_pos (by rw [SX.S_len]; decide), intText_digits (x := S [48]) (fun c hc => by cases List.mem_singleton.mp hc; decide) (List.cons_ne_nil _ _) (by rw [SX.S_len]; decide)]
    rfl
  -- the head of the window
  have f4 : ∀ c D', D = c :: D' → dIx (.str (S W)) (.int 0) = some (.str (S [c])) := fun c D' z => by
    show (if (S W).length ≤ sizeLine then (atI W 0).map fun c => Mi.D.str ⟨#[c]⟩ else none) = _
    rw [if_pos g1, hW, z, List.take_succ_cons, List.cons_append, atI_0]
    rfl
  generalize hLS : Txt.lstripChars (S W) (Str.ofString "0123456789") = LS at g2 g3
  generalize hWW : S W = WW at f2 f4 g1 g3 hLS
  have hs1 : sz1 WW = true := decide_eq_true g1
  cases hi with
  | no =>
    have hm0 : mi = 0 := by rw [hmi, hml]; simp
    have hp : first = n - (R3.length : Nat) := by rw [hfi, hn, hTl]; simp <;> omega
    have hlog := log_ok (x := first) (by rw [hfi]; simp at hTl <;> omega)
    cases b with
    | true =>
      have hfirst : at_ + 1 = first := hfirst
      simp [m_Reader_integer, ev_runX, b_Reader_integer, rd, look, n1, n2, mi_S, ze_S, hsz, hs1, f1, hfirst, f2, g1, g2, hLS, g3, hm0, hlog]
      simp [prV, hp]
    | false =>
      have hfirst : at_ = first := hfirst
      rw [← hfirst] at f2 hp hlog
      simp [m_Reader_integer, ev_runX, b_Reader_integer, rd, look, n1, n2, mi_S, ze_S, hsz, hs1, f1, f2, g1, g2, hLS, g3, hm0, hlog]
      simp [prV, ← hp]
  | @neg0 D =>
    have hm0 : ¬ mi = 0 := by rw [hmi, hml]; simp <;> omega
    have hfirst : at_ + 1 = first := hfirst
    have hgt : at_ < first := of_decide_eq_true hgt
    have hp : first = n - ((48 :: (D ++ R3)).length : Nat) := by rw [hfi, hn, hTl]; simp <;> omega
    have hlog := log_ok (x := first) (by rw [hfi]; simp at hTl <;> omega)
    simp [m_Reader_integer, ev_runX, b_Reader_integer, rd, look, n1, n2, mi_S, ze_S, hsz, hs1, f1, hfirst, f2, g1, g2, hLS, g3, hm0, f4 _ _ rfl, hgt, hlog]
    simp only [prV, hp]
  | zero =>
    have hfirst : at_ = first := hfirst
    have hm1 : mi = 1 := by rw [hmi, hml]; rfl
    have f5 : Txt.slice (S T) (some at_) (some (at_ + 1)) = S [48] := by
      rw [e, ha]
      exact Tx.slice1
    have f6 := hdec0
    have hp : at_ + 1 = n - (R3.length : Nat) := by rw [ha, hn, hTl]; simp [sgn] <;> omega
    rw [← hfirst] at f2
    simp [m_Reader_integer, ev_runX, b_Reader_integer, rd, look, n1, n2, mi_S, ze_S, hsz, hs1, f1, f2, g1, g2, hLS, g3, hm1, f4 _ _ rfl, f5, f6]
    simp [prV, hp]
  | @lead d D =>
    have hfirst : at_ = first := hfirst
    have hm0 : ¬ mi = 0 := by rw [hmi, hml]; simp <;> omega
    have hm1 : 1 < mi := by rw [hmi, hml]; simp <;> omega
    have hp : at_ + 1 = n - ((d :: (D ++ R3)).length : Nat) := by rw [ha, hn, hTl]; simp [sgn] <;> omega
    have hlog := log_ok (x := at_ + 1) (by rw [ha]; omega)
    rw [← hfirst] at f2
    simp [m_Reader_integer, ev_runX, b_Reader_integer, rd, look, n1, n2, mi_S, ze_S, hsz, hs1, f1, f2, g1, g2, hLS, g3, hm0, hm1, f4 _ _ rfl, hlog]
    simp only [prV, hp]
  | @num _ c D _ i hc hl hx =>
    have hm0 : ¬ mi = 0 := by rw [hmi, hml]; simp <;> omega
    have hmx : mi = ((c :: D).length : Nat) := by rw [hmi, hml]; omega
    have hm2 : ¬ 2000 < mi := by rw [hmx]; omega
    have hq : ¬ (S [c] = S [48]) := fun z => hc (S_one.mp z)
    have f5 : Txt.slice (S T) (some at_) (some (first + mi)) = S (sgn b ++ c :: D) := by
      have e5 : first + mi = ((A.length + (sgn b ++ c :: D).length : Nat) : Int) := by rw [hfi, hmx, List.length_append]; omega
      have e6 : T = A ++ ((sgn b ++ c :: D) ++ R3) := by rw [e]; simp
      rw [e5, ha, e6]
      exact Tx.sliceTo rfl
    have f6 : dIntOfL [.str (S (sgn b ++ c :: D))] = some (.int i) := by
      show (if (S (sgn b ++ c :: D)).length ≤ sizeLine then (PySem.intText? (S (sgn b ++ c :: D))).map Mi.D.int else none) = _
      rw [if_pos (sizeT (by rw [List.length_append, sgn_len]; split <;> omega))]
      have hx : PySem.intText? (S (sgn b ++ c :: D)) = some i := hx
      rw [hx]
      rfl
    have hp : first + mi = n - (R3.length : Nat) := by rw [hfi, hmx, hn, hTl]; omega
    generalize S (sgn b ++ c :: D) = X at f5 f6
    cases b with
    | true =>
      have hfirst : at_ + 1 = first := hfirst
      simp [m_Reader_integer, ev_runX, b_Reader_integer, rd, look, n1, n2, mi_S, ze_S, hsz, hs1, f1, hfirst, f2, g1, g2, hLS, g3, hm0, hm2, f4 _ _ rfl, hq, f5, f6]
      simp [prV, hp]
    | false =>
      have hfirst : at_ = first := hfirst
      rw [← hfirst] at f2 f5 hp
      simp [m_Reader_integer, ev_runX, b_Reader_integer, rd, look, n1, n2, mi_S, ze_S, hsz, hs1, f1, f2, g1, g2, hLS, g3, hm0, hm2, f4 _ _ rfl, hq, f5, f6]
      simp [prV, hp]
  | @long _ c D _ hc hl =>
    have hm0 : ¬ mi = 0 := by rw [hmi, hml]; simp <;> omega
    have hm2 : 2000 < mi := by rw [hmi, hml]; omega
    have hq : ¬ (S [c] = S [48]) := fun z => hc (S_one.mp z)
    have hp : first + 2000 = n - (((c :: D).drop 2000 ++ R3).length : Nat) := by rw [hfi, hn, hTl, List.length_append, List.length_drop]; omega
    have hlog := log_ok (x := first + 2000) (by rw [hfi]; omega)
    cases b with
    | true =>
      have hfirst : at_ + 1 = first := hfirst
      simp [m_Reader_integer, ev_runX, b_Reader_integer, rd, look, n1, n2, mi_S, ze_S, hsz, hs1, f1, hfirst, f2, g1, g2, hLS, g3, hm0, hm2, f4 _ _ rfl, hq, hlog]
      simp only [prV, hp]
      rfl
    | false =>
      have hfirst : at_ = first := hfirst
      rw [← hfirst] at f2 hp hlog
      simp [m_Reader_integer, ev_runX, b_Reader_integer, rd, look, n1, n2, mi_S, ze_S, hsz, hs1, f1, f2, g1, g2, hLS, g3, hm0, hm2, f4 _ _ rfl, hq, hlog]
      simp only [prV, hp]
      rfl
end K39

set_option Elab.async false
set_option linter.all false
set_option maxRecDepth 100000
namespace K39
open PySem PySem.Spec PyProof.Rows L2 Mi Lw
open Tx (Tk flat tkOf digI r1 r2 veil vl Cl)
open SX (S)
def PrIs (CB C : Addr) (T : List Nat) (dep : Int) (at_ : Int) (pp : PR) (f : Nat) : Prop := Ev (m_Reader_value CB C f [.fr (rd C T), .fr (.int at_), .fr (.int dep)]) fun p => p = (prV CB (T.length : Nat) pp, [.fr (rd C T), .fr (.int at_), .fr (.int dep)])
def PrEnd (CB C : Addr) (T : List Nat) (di n : Int) : PR → Out → Prop
  | .ok d R, x => ∃ a b c e, x = .rt (.fr (.tup [d, .int (n - (R.length : Nat))])) [some (.fr (rd C T)), a, some (.fr (.int di)), b, c, e]
  | .bad R, x => ∃ a b c e, x = .ex CB ["place"] [.int (n - (R.length : Nat))] [some (.fr (rd C T)), a, some (.fr (.int di)), b, c, e]
theorem obV {C : Addr} {T : List Nat} {g : G} : obAt C (Str.ofString "value") g (.d (rd C T)) = true := by
  unfold rd
  rw [obAt_d]
  simp
  decide +kernel
theorem obS {C : Addr} {T : List Nat} {g : G} : obAt C (Str.ofString "string") g (.d (rd C T)) = true := by
  unfold rd
  rw [obAt_d]
  simp
  decide +kernel
theorem obI {C : Addr} {T : List Nat} {g : G} : obAt C (Str.ofString "integer") g (.d (rd C T)) = true := by
  unfold rd
  rw [obAt_d]
  simp
  decide +kernel
theorem obR {C : Addr} {T : List Nat} {g : G} : obAt C (Str.ofString "row") g (.d (rd C T)) = true := by
  unfold rd
  rw [obAt_d]
  simp
  decide +kernel
/-- one sign from a place -/
theorem sign1 {T A R : List Nat} {at_ : Int} (e : T = A ++ R) (ha : at_ = (A.length : Nat)) : Txt.slice (S T) (some at_) (some (at_ + 1)) = S (R.take 1) := by
  rw [e, ha]
  exact Tx.slice1
theorem while_w {c : XT} {b : XS} {Q : Out → Prop} {g : G} (W : XS) (hW : W = sWhile c b) (h : Ev (c g) fun p => if p.1 = true then Ev (b p.2) (fun x => match x with
      | .nx g' => Ev (W g') Q
      | .ct g' => Ev (W g') Q
      | .bk g' => Q (.nx g')
      | .rt o g' => Q (.rt o g')
      | .ex C ns ds g' => Q (.ex C ns ds g')) else Q (.nx p.2)) : Ev (W g) Q := by
  subst hW
  exact while_1 h
theorem map_snoc {ds : List D} {d : D} : List.map O.fr ds ++ [O.fr d] = List.map O.fr (ds ++ [d]) := by rw [List.map_append]; rfl
def PRun (CB C : Addr) (T : List Nat) (di n : Int) (f : Nat) (at_ : Int) (ds : List D) (pr : PR) : Prop := ∀ x4 x5, Ev (sWhile (xTru (oE (eC (.bl true)))) (b_Reader_row_1 CB C (m_Reader_value CB C f) (m_Reader_row CB C f)) [some (.fr (rd C T)), some (.fr (.int at_)), some (.fr (.int di)), some (.lst (ds.map O.fr)), x4, x5]) (PrEnd CB C T di n pr)
theorem pr_bad {CB C : Addr} {T : List Nat} {di n at_ : Int} {f : Nat} {ds : List D} {R : List Nat} (hn : n = (T.length : Nat)) (h : PrIs CB C T di at_ (.bad R) f) : PRun CB C T di n f at_ ds (.bad R) := by
  intro x4 x5
  have h : Ev (m_Reader_value CB C f [.fr (rd C T), .fr (.int at_), .fr (.int di)]) _ := h
  rw [← hn] at h
  obtain ⟨W, hW⟩ : ∃ W, W = sWhile (xTru (oE (eC (.bl true)))) (b_Reader_row_1 CB C (m_Reader_value CB C f) (m_Reader_row CB C f)) := ⟨_, rfl⟩
  rw [← hW]
  refine while_w W hW ?_
  clear hW
  simp [b_Reader_row_1, obV]
  refine h.mono ?_
  rintro _ rfl
  simp [prV]
  exact ⟨_, _, _, _, rfl⟩
theorem pr_next {CB C : Addr} {T A' R' : List Nat} {di n at_ en : Int} {f : Nat} {d : D} {ds : List D} {pr : PR} (hT : T.length ≤ 100000) (hn : n = (T.length : Nat)) (e' : T = A' ++ R') (hen : en = (A'.length : Nat)) (hl : ds.length ≤ 200000) (h : PrIs CB C T di at_ (.ok d R') f)
    (hpr : (R' = [] ∧ pr = .bad []) ∨ (∃ R2, R' = 41 :: R2 ∧ pr = .ok (.tup (ds ++ [d])) R2) ∨ (∃ c R2, R' = c :: R2 ∧ c ≠ 41 ∧ c ≠ 32 ∧ pr = .bad R') ∨ ∃ R2, R' = 32 :: R2 ∧ PRun CB C T di n f (en + 1) (ds ++ [d]) pr) : PRun CB C T di n f at_ ds pr := by
  intro x4 x5
  have h : Ev (m_Reader_value CB C f [.fr (rd C T), .fr (.int at_), .fr (.int di)]) _ := h
  rw [← hn] at h
  have hp : n - (R'.length : Nat) = en := by rw [hn, e', hen]; simp
  have hlog := log_ok (x := en) (by rw [hen]; rw [e', List.length_append] at hT; omega)
  have hsl := sign1 e' hen
  have hsz := sizeT hT
  have hdl : ds.length < sizeLine := by
    have : (200001 : Nat) ≤ sizeLine := by decide
    omega
  obtain ⟨W, hW⟩ : ∃ W, W = sWhile (xTru (oE (eC (.bl true)))) (b_Reader_row_1 CB C (m_Reader_value CB C f) (m_Reader_row CB C f)) := ⟨_, rfl⟩
  unfold PRun at hpr
  rw [← hW] at hpr ⊢
  refine while_w W hW ?_
  clear hW
  simp [b_Reader_row_1, obV]
  refine h.mono ?_
  rintro _ rfl
  rw [prV, hp]
  rcases hpr with ⟨rfl, rfl⟩ | ⟨R2, rfl, rfl⟩ | ⟨c, R2, rfl, h1, h2, rfl⟩ | ⟨R2, rfl, hr⟩
  · have hsl : Txt.slice (S T) (some en) (some (en + 1)) = S [] := hsl
    simp [hdl, map_snoc, rd, look, n1, n2, hsz, hsl, cp_S, sp_S, hlog, -List.map_append]
    exact ⟨_, _, _, _, by rw [← hp]; rfl⟩
  · have hsl : Txt.slice (S T) (some en) (some (en + 1)) = S [41] := hsl
    have hp2 : en + 1 = n - (R2.length : Nat) := by rw [← hp]; simp <;> omega
    rw [hp2] at hsl
    simp [hdl, map_snoc, rd, look, n1, n2, hsz, hsl, cp_S, sp_S, hlog, erL_fr, hp2, -List.map_append]
    exact ⟨_, _, _, _, rfl⟩
  · have hsl : Txt.slice (S T) (some en) (some (en + 1)) = S [c] := hsl
    simp [hdl, map_snoc, rd, look, n1, n2, hsz, hsl, cp_S, sp_S, hlog, h1, h2, -List.map_append]
    exact ⟨_, _, _, _, by rw [← hp]; rfl⟩
  · have hsl : Txt.slice (S T) (some en) (some (en + 1)) = S [32] := hsl
    simp [hdl, map_snoc, rd, look, n1, n2, hsz, hsl, cp_S, sp_S, hlog, -List.map_append]
    exact hr _ _
def tabW : List (Str × D) := [(S [84], .bl true), (S [70], .bl false), (S [78], .non)]
theorem look0 : tabW.lookup (S []) = none := by
  have e1 : (S [] == S [84]) = false := by decide +kernel
  have e2 : (S [] == S [70]) = false := by decide +kernel
  have e3 : (S [] == S [78]) = false := by decide +kernel
  simp [tabW, List.lookup, e1, e2, e3]
theorem lookNo {c : Nat} (h1 : c ≠ 84) (h2 : c ≠ 70) (h3 : c ≠ 78) : tabW.lookup (S [c]) = none := by
  have e1 : (S [c] == S [84]) = false := by simpa using h1
  have e2 : (S [c] == S [70]) = false := by simpa using h2
  have e3 : (S [c] == S [78]) = false := by simpa using h3
  simp [tabW, List.lookup, e1, e2, e3]
theorem lookYes {c : Nat} {d : D} (h : (c = 84 ∧ d = .bl true) ∨ (c = 70 ∧ d = .bl false) ∨ (c = 78 ∧ d = .non)) : tabW.lookup (S [c]) = some d := by
  rcases h with ⟨rfl, rfl⟩ | ⟨rfl, rfl⟩ | ⟨rfl, rfl⟩
  · have e : (S [84] == S [84]) = true := by decide +kernel
    simp [tabW, List.lookup, e]
  · have e1 : (S [70] == S [84]) = false := by decide +kernel
    have e : (S [70] == S [70]) = true := by decide +kernel
    simp [tabW, List.lookup, e, e1]
  · have e1 : (S [78] == S [84]) = false := by decide +kernel
    have e2 : (S [78] == S [70]) = false := by decide +kernel
    have e : (S [78] == S [78]) = true := by decide +kernel
    simp [tabW, List.lookup, e, e1, e2]
theorem tab_eq : [(S [84], D.bl true), (S [70], D.bl false), (S [78], D.non)] = tabW := rfl
theorem row_is {CB C : Addr} {T A R : List Nat} {di n at_ : Int} {f : Nat} {pr : PR} (e : T = A ++ R) (ha : at_ = (A.length : Nat)) (hne : R.head? ≠ some 41) (h : PRun CB C T di n f at_ [] pr) : Ev (m_Reader_row CB C (f + 1) [.fr (rd C T), .fr (.int at_), .fr (.int di)]) fun p => p = (prV CB n pr, [.fr (rd C T), .fr (.int at_), .fr (.int di)]) := by
  have f1 : Txt.startswith3 (S T) (S [41]) at_ = false := by
    rw [e, ha, Tx.starts_any]
    exact decide_eq_false hne
  have h := h none none
  simp [m_Reader_row, ev_runX, b_Reader_row, rd, look, n1, n2, cp_S, f1]
  refine Ev.mono h ?_
  intro x hx
  cases pr with
  | ok d R =>
    obtain ⟨a, b, c, e, rfl⟩ := hx
    simp [prV, rd]
  | bad R =>
    obtain ⟨a, b, c, e, rfl⟩ := hx
    simp [prV, rd]
theorem row_nil {CB C : Addr} {T A R : List Nat} {di n at_ : Int} {f : Nat} (hn : n = (T.length : Nat)) (e : T = A ++ 41 :: R) (ha : at_ = (A.length : Nat)) : Ev (m_Reader_row CB C (f + 1) [.fr (rd C T), .fr (.int at_), .fr (.int di)]) fun p => p = (prV CB n (.ok (.tup []) R), [.fr (rd C T), .fr (.int at_), .fr (.int di)]) := by
  have f1 : Txt.startswith3 (S T) (S [41]) at_ = true := by
    rw [e, ha, Tx.starts_any]
    exact decide_eq_true rfl
  have hp : at_ + 1 = n - (R.length : Nat) := by rw [hn, e, ha]; simp <;> omega
  simp [m_Reader_row, ev_runX, b_Reader_row, rd, look, n1, n2, cp_S, f1]
  simp [prV, hp]
section
variable {CB C : Addr} {T : List Nat} {w : List Nat} {di n at_ : Int} {f : Nat} {pp : PR}
theorem pr_int (hT : T.length ≤ 100000) (hs : Txt.slice (S T) (some at_) (some (at_ + 1)) = S w) (h1 : w ≠ [34]) (h2 : w ≠ [40]) (h3 : tabW.lookup (S w) = none)
    (hi : Ev (m_Reader_integer CB C [.fr (rd C T), .fr (.int at_)]) fun p => p = (prV CB (T.length : Nat) pp, [.fr (rd C T), .fr (.int at_)])) : PrIs CB C T di at_ pp (f + 1) := by
  have hsz := sizeT hT
  have q1 : ¬ (S w = S [34]) := fun z => h1 (by injection z with z; exact Array.mk.inj (by injection z with z; exact congrArg _ z))
  have q2 : ¬ (S w = S [40]) := fun z => h2 (by injection z with z; exact Array.mk.inj (by injection z with z; exact congrArg _ z))
  generalize S w = sw at hs q1 q2 h3
  show Ev _ _
  simp [m_Reader_value, ev_runX, b_Reader_value, rd, look, n1, n2, qt_S, op_S, T_S, F_S, N_S, hsz, hs, q1, q2, tab_eq, h3]
  refine ⟨by first | decide +kernel | (simp [fl]; decide +kernel) | simp, ?_⟩
  refine Ev.mono hi ?_
  rintro _ rfl
  cases pp <;> simp [prV, rd]
theorem pr_str (hT : T.length ≤ 100000) (hs : Txt.slice (S T) (some at_) (some (at_ + 1)) = S [34])
    (hi : Ev (m_Reader_string CB C [.fr (rd C T), .fr (.int (at_ + 1))]) fun p => p = (prV CB (T.length : Nat) pp, [.fr (rd C T), .fr (.int (at_ + 1))])) : PrIs CB C T di at_ pp (f + 1) := by
  have hsz := sizeT hT
  show Ev _ _
  simp [m_Reader_value, ev_runX, b_Reader_value, rd, look, n1, n2, qt_S, op_S, hsz, hs]
  refine ⟨by first | decide +kernel | (simp [fl]; decide +kernel) | simp, ?_⟩
  refine Ev.mono hi ?_
  rintro _ rfl
  cases pp <;> simp [prV, rd]
theorem pr_word {c : Nat} {d : D} {R : List Nat} (hT : T.length ≤ 100000) (hn : at_ + 1 = (T.length : Int) - (R.length : Nat)) (hs : Txt.slice (S T) (some at_) (some (at_ + 1)) = S [c]) (h : (c = 84 ∧ d = .bl true) ∨ (c = 70 ∧ d = .bl false) ∨ (c = 78 ∧ d = .non)) : PrIs CB C T di at_ (.ok d R) (f + 1) := by
  have hsz := sizeT hT
  have hl := lookYes h
  have q1 : ¬ c = 34 := by rcases h with ⟨rfl, _⟩ | ⟨rfl, _⟩ | ⟨rfl, _⟩ <;> decide
  have q2 : ¬ c = 40 := by rcases h with ⟨rfl, _⟩ | ⟨rfl, _⟩ | ⟨rfl, _⟩ <;> decide
  show Ev _ _
  simp [m_Reader_value, ev_runX, b_Reader_value, rd, look, n1, n2, qt_S, op_S, T_S, F_S, N_S, hsz, hs, q1, q2, tab_eq, hl]
  simp [prV]
  omega
theorem pr_deep {R : List Nat} (hT : T.length ≤ 100000) (h0 : 0 ≤ at_) (hn : at_ = (T.length : Int) - (R.length : Nat)) (hs : Txt.slice (S T) (some at_) (some (at_ + 1)) = S [40]) (hd : di = 40) : PrIs CB C T di at_ (.bad R) (f + 1) := by
  have hsz := sizeT hT
  have hlog := log_ok (x := at_) (by omega)
  show Ev _ _
  simp [m_Reader_value, ev_runX, b_Reader_value, rd, look, n1, n2, qt_S, op_S, hsz, hs, hd, hlog]
  simp [prV]
  exact hn
theorem pr_row (hT : T.length ≤ 100000) (hs : Txt.slice (S T) (some at_) (some (at_ + 1)) = S [40]) (hd : ¬ di = 40)
    (hi : Ev (m_Reader_row CB C f [.fr (rd C T), .fr (.int (at_ + 1)), .fr (.int (di + 1))]) fun p => p = (prV CB (T.length : Nat) pp, [.fr (rd C T), .fr (.int (at_ + 1)), .fr (.int (di + 1))])) : PrIs CB C T di at_ pp (f + 1) := by
  have hsz := sizeT hT
  show Ev _ _
  simp [m_Reader_value, ev_runX, b_Reader_value, rd, look, n1, n2, qt_S, op_S, hsz, hs, hd]
  refine ⟨by first | decide +kernel | (simp [fl]; decide +kernel) | simp, ?_⟩
  refine Ev.mono hi ?_
  rintro _ rfl
  cases pp <;> simp [prV, rd]
end
theorem cl_dig {D : List Nat} (h : ∀ d ∈ D, Dg d) : Cl D := Tx.cl_of fun z => by
  have := h _ z
  unfold Dg at this
  omega
theorem cl_sgn (b : Bool) : Cl (sgn b) := by
  cases b
  · exact Cl.nil
  · exact Cl.c (by decide)
theorem init_spec {C : Addr} {T : List Nat} (hT : T.length ≤ 100000) : Ev (m_Reader___init__ C [.ob C [] [], .fr (.str (S T))]) fun p => p = (.fr .non, [.ob C fl [.fr (.str (S T)), .fr (.str (S (vl T)))], .fr (.str (S T))]) := by
  have e1 := dRepl2 (l := T) bb_S tt_S (by simp; omega)
  have l1 := r2_le (p := 92) (q := 92) (z := [9, 9]) (l := T) (by decide)
  have e2 := dRepl2 (l := r2 92 92 [9, 9] T) bq_S tt_S (by simp; omega)
  have l2 := r2_le (p := 92) (q := 34) (z := [9, 9]) (l := r2 92 92 [9, 9] T) (by decide)
  have e3 := dRepl2 (l := r2 92 34 [9, 9] (r2 92 92 [9, 9] T)) bn_S tt_S (by simp; omega)
  have hv : r2 92 110 [9, 9] (r2 92 34 [9, 9] (r2 92 92 [9, 9] T)) = vl T := Tx.vl3_vl T.length T (Nat.le_refl _)
  rw [hv] at e3
  simp only [bb_S, bq_S, bn_S, tt_S] at e1 e2 e3
  simp [m_Reader___init__, ev_runF, b_Reader___init__, bb_S, bq_S, bn_S, tt_S, e1, e2, e3, pF, pV, n1, n2]
theorem read_plain {CB C : Addr} {T : List Nat} {pp : PR} (hT : T.length ≤ 100000) (hlR : ∀ d R, pp = .ok d R → R.length ≤ T.length) (h : PrIs CB C T 0 0 pp 24) : Ev (m_read_plain CB C [.fr (.str (S T))]) fun p => p.2 = [.fr (.str (S T))] ∧ (match pp with
    | .ok d [] => p.1 = .ok (.fr d)
    | .ok _ R => p.1 = .ex CB ["place"] [.int ((T.length : Nat) - (R.length : Nat))]
    | .bad R => p.1 = .ex CB ["place"] [.int ((T.length : Nat) - (R.length : Nat))]) := by
  obtain ⟨n, hn⟩ : ∃ n : Int, n = (T.length : Nat) := ⟨_, rfl⟩
  have hL := dLenS hT hn
  have h : Ev (m_Reader_value_24 CB C [.fr (rd C T), .fr (.int 0), .fr (.int 0)]) _ := h
  rw [← hn] at h ⊢
  simp [m_read_plain, ev_runX, b_read_plain]
  refine (init_spec hT).mono ?_
  rintro _ rfl
  have hq : (O.ob C fl [.fr (.str (S T)), .fr (.str (S (vl T)))]).er = rd C T := by simp [rd]
  simp
  refine ⟨by first | decide +kernel | (simp [fl]; decide +kernel), ?_⟩
  refine Ev.mono h ?_
  rintro _ rfl
  cases pp with
  | bad R => simp [prV]
  | ok d R =>
    have := hlR d R rfl
    cases R with
    | nil => simp [prV, hL]
    | cons c R =>
      obtain ⟨en, hen⟩ : ∃ en : Int, en = n - ((c :: R).length : Nat) := ⟨_, rfl⟩
      have h1 : en < n := by rw [hen]; simp <;> omega
      have hlog := log_ok (x := en) (by rw [hen]; omega)
      simp only [prV, ← hen]
      simp [h1, hL, hlog]
end K39

set_option Elab.async false
set_option linter.all false
set_option maxRecDepth 100000
namespace K39
open PySem PySem.Spec PyProof.Rows L2 Mi Lw
open Tx (Tk flat tkOf digI r1 r2 veil vl Cl)
open SX (S)
/-- the first sign of a value's text -/
theorem first_sign {n : Nat} {d : D} (h : Vd n d) : ∃ c r, flat (txt d) = c :: r ∧ c ≠ 41 ∧ c ≠ 32 := by
  cases d with
  | non => exact ⟨78, [], by rw [txt]; rfl, by decide, by decide⟩
  | bl b => cases b <;> exact ⟨_, [], by rw [txt]; rfl, by decide, by decide⟩
  | str s => exact ⟨34, _, by rw [txt, Tx.flat_cons]; rfl, by decide, by decide⟩
  | tup ds => exact ⟨40, _, by rw [txt, Tx.flat_cons]; rfl, by decide, by decide⟩
  | int i =>
    rw [txt, Tx.flat_c]
    unfold Tx.digI
    split
    · exact ⟨45, _, rfl, by decide, by decide⟩
    · cases q : TL.numL i.natAbs with
      | nil => exact (TL.numL_ne _ q).elim
      | cons c r =>
        have := Tx.digits_le c (by rw [q]; exact List.mem_cons_self ..)
        exact ⟨c, r, rfl, by omega, by omega⟩
  | lst _ => cases n <;> exact h.elim
  | dK _ _ => cases n <;> exact h.elim
  | dT _ _ => cases n <;> exact h.elim
  | scr _ => cases n <;> exact h.elim
  | ob _ _ _ => cases n <;> exact h.elim
theorem digI_ok {i : Int} : ∀ c ∈ digI i, c ≠ 92 := by
  intro c hc
  unfold Tx.digI at hc
  split at hc
  · rcases List.mem_cons.mp hc with rfl | hc
    · decide
    · have := Tx.digits_le c hc
      omega
  · have := Tx.digits_le c hc
    omega
mutual
theorem txt_ok : ∀ (d : D), ∀ t ∈ txt d, t.ok
  | .non, t, h => by
    rw [txt] at h
    cases List.mem_singleton.mp h
    show (78 : Nat) ≠ 92
    decide
  | .bl b, t, h => by
    rw [txt] at h
    cases List.mem_singleton.mp h
    show (if b = true then 84 else 70) ≠ 92
    cases b <;> decide
  | .int i, t, h => by
    rw [txt] at h
    obtain ⟨c, hc, rfl⟩ := List.mem_map.mp h
    exact digI_ok c hc
  | .str s, t, h => by
    rw [txt] at h
    rcases List.mem_cons.mp h with rfl | h
    · show (34 : Nat) ≠ 92
      decide
    · rcases List.mem_append.mp h with h | h
      · obtain ⟨c, hc, rfl⟩ := List.mem_map.mp h
        exact Tx.tkOf_ok c
      · cases List.mem_singleton.mp h
        show (34 : Nat) ≠ 92
        decide
  | .tup ds, t, h => by
    rw [txt] at h
    rcases List.mem_cons.mp h with rfl | h
    · show (40 : Nat) ≠ 92
      decide
    · rcases List.mem_append.mp h with h | h
      · exact txtL_ok ds t h
      · cases List.mem_singleton.mp h
        show (41 : Nat) ≠ 92
        decide
  | .lst _, t, h => by simp [txt] at h
  | .dK _ _, t, h => by simp [txt] at h
  | .dT _ _, t, h => by simp [txt] at h
  | .scr _, t, h => by simp [txt] at h
  | .ob _ _ _, t, h => by simp [txt] at h
theorem txtL_ok : ∀ (ds : List D), ∀ t ∈ txtL ds, t.ok
  | [], t, h => by rw [txtL] at h; cases h
  | d :: ds, t, h => by
    rw [txtL] at h
    rcases List.mem_append.mp h with h | h
    · exact txt_ok d t h
    · exact txtR_ok ds t h
theorem txtR_ok : ∀ (ds : List D), ∀ t ∈ txtR ds, t.ok
  | [], t, h => by rw [txtR] at h; cases h
  | d :: ds, t, h => by
    rw [txtR] at h
    rcases List.mem_cons.mp h with rfl | h
    · show (32 : Nat) ≠ 92
      decide
    · rcases List.mem_append.mp h with h | h
      · exact txt_ok d t h
      · exact txtR_ok ds t h
end
end K39

set_option Elab.async false
set_option linter.all false
set_option maxRecDepth 100000
namespace K39
open PySem PySem.Spec PyProof.Rows L2 Mi Lw
open Tx (Tk flat tkOf digI r1 r2 veil vl Cl)
open SX (S)
def EndOk (R : List Nat) : Prop := ∀ c, R.head? = some c → c = 32 ∨ c = 41
theorem TS_tk (l : List Nat) : TS (l.map tkOf) := fun t ht => by
  obtain ⟨c, _, rfl⟩ := List.mem_map.mp ht
  unfold Tx.tkOf
  by_cases h1 : c = 92
  · rw [if_pos h1]; exact .inl rfl
  · rw [if_neg h1]
    by_cases h2 : c = 34
    · rw [if_pos h2]; exact .inr (.inl rfl)
    · rw [if_neg h2]
      by_cases h3 : c = 10
      · rw [if_pos h3]; exact .inr (.inr rfl)
      · rw [if_neg h3]; exact ⟨h1, h2⟩
theorem uns_tk : ∀ l : List Nat, uns (l.map tkOf) = l
  | [] => rfl
  | c :: l => by
    have e : un (tkOf c) = [c] := by
      unfold Tx.tkOf
      by_cases h1 : c = 92
      · rw [if_pos h1, h1]; rfl
      · rw [if_neg h1]
        by_cases h2 : c = 34
        · rw [if_pos h2, h2]; rfl
        · rw [if_neg h2]
          by_cases h3 : c = 10
          · rw [if_pos h3, h3]; rfl
          · rw [if_neg h3]; rfl
    show un (tkOf c) ++ uns (l.map tkOf) = _
    rw [e, uns_tk l]
    rfl
theorem digI_sgn (i : Int) : digI i = sgn (decide (i < 0)) ++ TL.numL i.natAbs := by
  unfold Tx.digI sgn
  by_cases q : i < 0
  · rw [if_pos q, decide_eq_true q]; rfl
  · rw [if_neg q, decide_eq_false q]; rfl
theorem ir_int {i : Int} {R : List Nat} (h : i.natAbs < 10 ^ 100) : ∃ pl, IR (decide (i < 0)) (TL.numL i.natAbs) R pl (.ok (.int i) R) := by
  have hl : (TL.numL i.natAbs).length ≤ 100 := TL.numL_len (by decide) h
  have ht := Tx.int_digI h
  rw [digI_sgn] at ht
  cases q : TL.numL i.natAbs with
  | nil => exact (TL.numL_ne _ q).elim
  | cons c D =>
    rw [q] at hl ht
    by_cases hc : c = 48
    · obtain ⟨h0, hD⟩ := Tx.numL_head c D q hc
      have : i = 0 := by omega
      subst this
      subst hc hD
      exact ⟨_, .zero⟩
    · exact ⟨_, .num hc (by omega) ht⟩
theorem flat_ok (d : D) : Cl (flat (txt d)) := Tx.cl_flat (txt_ok d)
section
variable {CB C : Addr} {T : List Nat}
theorem val_int {A R : List Nat} {i at_ di : Int} {f : Nat} (hT : T.length ≤ 100000) (e : T = A ++ (digI i ++ R)) (ha : at_ = (A.length : Nat)) (hR : ND R) (hi : i.natAbs < 10 ^ 100) : PrIs CB C T di at_ (.ok (.int i) R) (f + 1) := by
  obtain ⟨pl, hr⟩ := ir_int (R := R) hi
  have e2 : T = A ++ (sgn (decide (i < 0)) ++ (TL.numL i.natAbs ++ R)) := by rw [e, digI_sgn, List.append_assoc]
  obtain ⟨c0, r0, hc0⟩ : ∃ c r, TL.numL i.natAbs = c :: r := by
    cases q : TL.numL i.natAbs with
    | nil => exact (TL.numL_ne _ q).elim
    | cons c r => exact ⟨c, r, rfl⟩
  have hd0 := Tx.digits_le (n := i.natAbs) c0 (by rw [hc0]; exact List.mem_cons_self ..)
  have hb : decide (i < 0) = false → (TL.numL i.natAbs ++ R).head? ≠ some 45 := fun _ => by
    rw [hc0]
    simp
    omega
  have hs := integer_spec (CB := CB) (C := C) hT e2 ha hb (fun d hd => Tx.digits_le d hd) hR hr
  obtain ⟨c, r, hcr, hc⟩ : ∃ c r, digI i ++ R = c :: r ∧ (c = 45 ∨ Dg c) := by
    rw [digI_sgn, hc0]
    unfold sgn
    cases decide (i < 0) with
    | true => exact ⟨45, _, rfl, .inl rfl⟩
    | false => exact ⟨c0, _, rfl, .inr hd0⟩
  have hsl := sign1 e ha
  rw [hcr] at hsl
  have ne : ∀ x : Nat, x ≠ 45 → ¬ Dg x → c ≠ x := fun x h1 h2 z => by
    subst z
    exact hc.elim h1 h2
  refine pr_int hT (w := [c]) (by rw [hsl]; rfl) ?_ ?_ (lookNo (ne 84 (by decide) (fun z => by unfold Dg at z; omega)) (ne 70 (by decide) (fun z => by unfold Dg at z; omega)) (ne 78 (by decide) (fun z => by unfold Dg at z; omega))) hs
  · intro z
    exact ne 34 (by decide) (fun z => by unfold Dg at z; omega) (List.cons.inj z).1
  · intro z
    exact ne 40 (by decide) (fun z => by unfold Dg at z; omega) (List.cons.inj z).1
theorem end_nd {R : List Nat} (h : EndOk R) : ND R := fun c hc => by
  rcases h c hc with rfl | rfl
  · exact .inl (by decide)
  · exact .inl (by decide)
theorem val_str {A R l : List Nat} {at_ di : Int} {f : Nat} (hT : T.length ≤ 100000) (hch : ∀ c ∈ T, Ch c) (e : T = A ++ (34 :: (flat (l.map tkOf) ++ 34 :: R))) (hA : Cl A) (ha : at_ = (A.length : Nat)) : PrIs CB C T di at_ (.ok (.str (S l)) R) (f + 1) := by
  have e2 : T = (A ++ [34]) ++ (flat (l.map tkOf) ++ 34 :: R) := by rw [e]; simp
  have hs := string_spec (CB := CB) (C := C) (pr := .ok (.str (S l)) R) hT hch e2 (hA.app (Cl.c (by decide))) (at_ := at_ + 1) (by rw [ha]; simp) ⟨l.map tkOf, TS_tk l, .inl ⟨R, rfl, by rw [uns_tk]⟩⟩
  exact pr_str hT (by rw [sign1 e ha]; rfl) hs
theorem rows_ok {di n : Int} {f : Nat} {V : D → Prop} (hT : T.length ≤ 100000) (hn : n = (T.length : Nat)) (hf : ∀ d, V d → ∃ c r, flat (txt d) = c :: r ∧ c ≠ 41 ∧ c ≠ 32)
    (hv : ∀ (d : D) (A R : List Nat) (at_ : Int), V d → T = A ++ (flat (txt d) ++ R) → Cl A → at_ = (A.length : Nat) → EndOk R → PrIs CB C T di at_ (.ok d R) f) :
    ∀ (ds : List D) (d : D) (acc : List D) (A R : List Nat) (at_ : Int), V d → (∀ x ∈ ds, V x) → acc.length + ds.length ≤ 1000 → T = A ++ (flat (txt d) ++ (flat (txtR ds) ++ 41 :: R)) → Cl A → at_ = (A.length : Nat) → PRun CB C T di n f at_ acc (.ok (.tup (acc ++ d :: ds)) R)
  | [], d, acc, A, R, at_, hd, _, hl, e, hA, ha => by
    have e2 : T = (A ++ flat (txt d)) ++ 41 :: R := by rw [e, txtR]; simp [Tx.flat_nil]
    have e1 : T = A ++ (flat (txt d) ++ 41 :: R) := by rw [e, txtR]; simp [Tx.flat_nil]
    exact pr_next hT hn e2 rfl (by omega) (hv d A (41 :: R) at_ hd e1 hA ha (fun c hc => by simp at hc; exact .inr hc.symm)) (.inr (.inl ⟨R, rfl, rfl⟩))
  | x :: ds, d, acc, A, R, at_, hd, hx, hl, e, hA, ha => by
    have e0 : flat (txtR (x :: ds)) = 32 :: (flat (txt x) ++ flat (txtR ds)) := by rw [txtR, Tx.flat_cons, Tx.flat_append]; rfl
    have e2 : T = (A ++ flat (txt d)) ++ 32 :: (flat (txt x) ++ (flat (txtR ds) ++ 41 :: R)) := by rw [e, e0]; simp
    have e1 : T = A ++ (flat (txt d) ++ 32 :: (flat (txt x) ++ (flat (txtR ds) ++ 41 :: R))) := by rw [e, e0]; simp
    have e3 : T = (A ++ (flat (txt d) ++ [32])) ++ (flat (txt x) ++ (flat (txtR ds) ++ 41 :: R)) := by rw [e, e0]; simp
    have hA2 : Cl (A ++ (flat (txt d) ++ [32])) := hA.app ((flat_ok d).app (Cl.c (by decide)))
    simp at hl
    have ih := rows_ok hT hn hf hv ds x (acc ++ [d]) (A ++ (flat (txt d) ++ [32])) R (((A ++ flat (txt d)).length : Nat) + 1) (hx x (List.mem_cons_self ..)) (fun y hy => hx y (List.mem_cons_of_mem _ hy)) (by simp; omega) e3 hA2 (by simp; omega)
    rw [List.append_assoc, List.cons_append, List.nil_append] at ih
    exact pr_next hT hn e2 rfl (by omega) (hv d A _ at_ hd e1 hA ha (fun c hc => by simp at hc; exact .inl hc.symm)) (.inr (.inr (.inr ⟨_, rfl, ih⟩)))
theorem value_ok (hT : T.length ≤ 100000) (hch : ∀ c ∈ T, Ch c) : ∀ (n : Nat) (d : D) (A R : List Nat) (at_ di : Int) (f : Nat), Vd n d → T = A ++ (flat (txt d) ++ R) → Cl A → at_ = (A.length : Nat) → EndOk R → 0 ≤ di → di + n ≤ 40 → 2 * n + 1 ≤ f → PrIs CB C T di at_ (.ok d R) f := by
  intro n
  induction n with
  | zero =>
    intro d A R at_ di f hd e hA ha hR h0 hn hf
    obtain ⟨f, rfl⟩ : ∃ k, f = k + 1 := ⟨f - 1, by omega⟩
    cases d with
    | non =>
      rw [txt] at e
      exact pr_word (c := 78) hT (by rw [e, ha]; simp [Tx.flat_cons, Tx.flat_nil, Tk.raw]; omega) (by rw [sign1 e ha]; rfl) (.inr (.inr ⟨rfl, rfl⟩))
    | bl b =>
      rw [txt] at e
      cases b
      · exact pr_word (c := 70) hT (by rw [e, ha]; simp [Tx.flat_cons, Tx.flat_nil, Tk.raw]; omega) (by rw [sign1 e ha]; rfl) (.inr (.inl ⟨rfl, rfl⟩))
      · exact pr_word (c := 84) hT (by rw [e, ha]; simp [Tx.flat_cons, Tx.flat_nil, Tk.raw]; omega) (by rw [sign1 e ha]; rfl) (.inl ⟨rfl, rfl⟩)
    | int i =>
      rw [txt, Tx.flat_c] at e
      exact val_int hT e ha (end_nd hR) hd
    | str s =>
      obtain ⟨l, rfl⟩ : ∃ l, s = S l := ⟨s.cps.toList, (SX.S_tl s).symm⟩
      rw [txt, Tx.flat_cons, Tx.flat_append] at e
      exact val_str hT hch (by rw [e]; simp [Tk.raw, Tx.flat_cons, Tx.flat_nil]) hA ha
    | tup ds => exact hd.elim
    | lst _ => exact hd.elim
    | dK _ _ => exact hd.elim
    | dT _ _ => exact hd.elim
    | scr _ => exact hd.elim
    | ob _ _ _ => exact hd.elim
  | succ n ih =>
    intro d A R at_ di f hd e hA ha hR h0 hn hf
    obtain ⟨f, rfl⟩ : ∃ k, f = k + 1 := ⟨f - 1, by omega⟩
    cases d with
    | non =>
      rw [txt] at e
      exact pr_word (c := 78) hT (by rw [e, ha]; simp [Tx.flat_cons, Tx.flat_nil, Tk.raw]; omega) (by rw [sign1 e ha]; rfl) (.inr (.inr ⟨rfl, rfl⟩))
    | bl b =>
      rw [txt] at e
      cases b
      · exact pr_word (c := 70) hT (by rw [e, ha]; simp [Tx.flat_cons, Tx.flat_nil, Tk.raw]; omega) (by rw [sign1 e ha]; rfl) (.inr (.inl ⟨rfl, rfl⟩))
      · exact pr_word (c := 84) hT (by rw [e, ha]; simp [Tx.flat_cons, Tx.flat_nil, Tk.raw]; omega) (by rw [sign1 e ha]; rfl) (.inl ⟨rfl, rfl⟩)
    | int i =>
      rw [txt, Tx.flat_c] at e
      exact val_int hT e ha (end_nd hR) hd
    | str s =>
      obtain ⟨l, rfl⟩ : ∃ l, s = S l := ⟨s.cps.toList, (SX.S_tl s).symm⟩
      rw [txt, Tx.flat_cons, Tx.flat_append] at e
      exact val_str hT hch (by rw [e]; simp [Tk.raw, Tx.flat_cons, Tx.flat_nil]) hA ha
    | tup ds =>
      obtain ⟨hl, hds⟩ := hd
      rw [txt, Tx.flat_cons, Tx.flat_append] at e
      have e1 : T = A ++ 40 :: (flat (txtL ds) ++ 41 :: R) := by rw [e]; simp [Tk.raw, Tx.flat_cons, Tx.flat_nil]
      have hA1 : Cl (A ++ [40]) := hA.app (Cl.c (by decide))
      obtain ⟨f, rfl⟩ : ∃ k, f = k + 1 := ⟨f - 1, by omega⟩
      refine pr_row hT (by rw [sign1 e1 ha]; rfl) (by omega) ?_
      cases ds with
      | nil =>
        have e2 : T = (A ++ [40]) ++ 41 :: R := by rw [e1, txtL]; simp [Tx.flat_nil]
        exact row_nil rfl e2 (by rw [ha]; simp)
      | cons d ds =>
        have e2 : T = (A ++ [40]) ++ (flat (txt d) ++ (flat (txtR ds) ++ 41 :: R)) := by rw [e1, txtL, Tx.flat_append]; simp
        obtain ⟨c, r, hc, h41, _⟩ := first_sign (hds d (List.mem_cons_self ..))
        refine row_is e2 (by rw [ha]; simp) (by rw [hc]; simp; exact h41) ?_
        have := rows_ok (CB := CB) (C := C) (di := di + 1) (n := (T.length : Nat)) (f := f) (V := Vd n) hT rfl (fun d hd => first_sign hd) (fun d A R at_ hd e hA ha hR => ih d A R at_ (di + 1) f hd e hA ha hR (by omega) (by omega) (by omega)) ds d [] (A ++ [40]) R (at_ + 1) (hds d (List.mem_cons_self ..)) (fun x hx => hds x (List.mem_cons_of_mem _ hx)) (by simp at hl ⊢; omega) e2 hA1 (by rw [ha]; simp)
        exact this
    | lst _ => exact hd.elim
    | dK _ _ => exact hd.elim
    | dT _ _ => exact hd.elim
    | scr _ => exact hd.elim
    | ob _ _ _ => exact hd.elim
/-- a shown value is read back -/
theorem read_back {n : Nat} {d : D} (hd : Vd n d) (hn : n ≤ 11) (hl : (flat (txt d)).length ≤ 100000) (hch : ∀ c ∈ flat (txt d), Ch c) : Ev (m_read_plain CB C [.fr (.str (S (flat (txt d))))]) fun p => p = (.ok (.fr d), [.fr (.str (S (flat (txt d))))]) := by
  have h := value_ok (CB := CB) (C := C) hl hch n d [] [] 0 0 24 hd (by simp) Cl.nil (by simp) (fun c hc => by cases hc) (by omega) (by omega) (by omega)
  refine (read_plain hl (fun d' R z => by cases z; simp) h).mono ?_
  rintro ⟨r, os⟩ ⟨h1, h2⟩
  exact Prod.ext h2 h1
end
end K39

set_option Elab.async false
set_option linter.all false
set_option maxRecDepth 100000
namespace K39
open PySem PySem.Spec PyProof.Rows L2 Mi Lw
open Tx (Tk flat tkOf digI r1 r2 veil vl Cl)
open SX (S)
/-! ### the sum of a text -/
def wn : Nat → List Nat → Nat
  | _, [] => 0
  | k, c :: l => (k + 1) * c + wn (k + 1) l
def W (l : List Nat) : Nat := wn 0 l
theorem wn_snoc : ∀ (l : List Nat) (k c : Nat), wn k (l ++ [c]) = wn k l + (k + l.length + 1) * c
  | [], k, c => by simp [wn]
  | d :: l, k, c => by
    show (k + 1) * d + wn (k + 1) (l ++ [c]) = (k + 1) * d + wn (k + 1) l + (k + (l.length + 1) + 1) * c
    rw [wn_snoc l (k + 1) c, show k + 1 + l.length + 1 = k + (l.length + 1) + 1 by omega]
    exact (Nat.add_assoc _ _ _).symm
theorem W_snoc (l : List Nat) (c : Nat) : W (l ++ [c]) = W l + (l.length + 1) * c := by
  unfold W
  rw [wn_snoc, Nat.zero_add]
theorem wn_app : ∀ (a b : List Nat) (k : Nat), wn k (a ++ b) = wn k a + wn (k + a.length) b
  | [], b, k => by simp [wn]
  | d :: a, b, k => by
    show (k + 1) * d + wn (k + 1) (a ++ b) = (k + 1) * d + wn (k + 1) a + wn (k + (a.length + 1)) b
    rw [wn_app a b (k + 1), show k + 1 + a.length = k + (a.length + 1) by omega]
    exact (Nat.add_assoc _ _ _).symm
theorem preSum_peel (c : Int) (ns : List Int) : ∀ n : Nat, preSum (fun i => AcR.pre (c :: ns) (i + 1)) (n + 1) = ((n + 1 : Nat) : Int) * c + preSum (fun i => AcR.pre ns (i + 1)) n
  | 0 => by
    show preSum _ 0 + AcR.pre (c :: ns) 1 = _ + preSum _ 0
    show (0 : Int) + AcR.pre (c :: ns) 1 = _ + 0
    simp [AcR.pre]
  | n + 1 => by
    have ih := preSum_peel c ns n
    show preSum _ (n + 1) + AcR.pre (c :: ns) (n + 1 + 1) = _ + (preSum _ n + AcR.pre ns (n + 1))
    rw [ih]
    have e : AcR.pre (c :: ns) (n + 1 + 1) = c + AcR.pre ns (n + 1) := by simp [AcR.pre]
    rw [e]
    have : ((n + 1 + 1 : Nat) : Int) * c = ((n + 1 : Nat) : Int) * c + c := by
      rw [show ((n + 1 + 1 : Nat) : Int) = ((n + 1 : Nat) : Int) + 1 from rfl, Int.add_mul, Int.one_mul]
    omega
theorem psum_cons (c : Int) (ns : List Int) : psum (c :: ns) = ((ns.length + 1 : Nat) : Int) * c + psum ns := preSum_peel c ns ns.length
theorem psum_rev : ∀ (n : Nat) (l : List Nat), l.length = n → psum ((l.map fun c => ((c : Nat) : Int)).reverse) = (W l : Nat)
  | 0, l, h => by
    rw [List.length_eq_zero_iff.mp h]
    rfl
  | n + 1, l, h => by
    obtain ⟨a, c, rfl⟩ : ∃ a c, l = a ++ [c] := ⟨l.dropLast, l.getLast (by intro z; rw [z] at h; cases h), (List.dropLast_concat_getLast _).symm⟩
    have ha : a.length = n := by simpa using h
    rw [List.map_append, List.reverse_append]
    show psum (((c : Nat) : Int) :: (a.map fun c => ((c : Nat) : Int)).reverse) = _
    rw [psum_cons, psum_rev n a ha, W_snoc, List.length_reverse, List.length_map]
    have : (((a.length + 1) * c : Nat) : Int) = ((a.length + 1 : Nat) : Int) * ((c : Nat) : Int) := Int.natCast_mul _ _
    omega
def chk (n b : Nat) (t : List Nat) : Nat := (b + n + W t) % 99991
theorem chk_lt (n b : Nat) (t : List Nat) : chk n b t < 99991 := Nat.mod_lt _ (by decide)
theorem chk_int {n b : Nat} {t : List Nat} : (((b : Nat) : Int) + ((n : Nat) : Int) + ((W t : Nat) : Int)).fmod 99991 = ((chk n b t : Nat) : Int) := by
  unfold chk
  rw [Int.fmod_eq_emod_of_nonneg _ (by decide)]
  omega
theorem codes_S (t : List Nat) : codesD (S t) = (t.map fun c => ((c : Nat) : Int)).map D.int := by
  unfold codesD
  rw [List.map_map]
  rfl
theorem sum_spec {n b : Nat} {ni bi : Int} {t : List Nat} (ht : t.length ≤ 100000) (hn : ni = (n : Int)) (hb : bi = (b : Int)) : Ev (m_sum_of [.fr (.int ni), .fr (.int bi), .fr (.str (S t))]) fun p => p = (.fr (.int ((chk n b t : Nat) : Int)), [.fr (.int ni), .fr (.int bi), .fr (.str (S t))]) := by
  have hl : (S t).cps.size ≤ sizeLine := sizeT ht
  have e1 : erL ((codesD (S t)).map O.fr).reverse = ((t.map fun c => ((c : Nat) : Int)).reverse).map D.int := by
    rw [← List.map_reverse, erL_fr, codes_S, List.map_reverse]
  have e2 : dLsOrd [.str (S t)] = some (.lst ((codesD (S t)).map O.fr)) := by rw [dLsOrd_str, if_pos hl]
  generalize (codesD (S t)).map O.fr = os at e1 e2
  simp [m_sum_of, ev_runF, b_sum_of, e2, e1, -dLsOrd_str, -List.map_reverse]
  rw [psum_rev _ t rfl]
  subst hn hb
  rw [chk_int]
end K39

set_option Elab.async false
set_option linter.all false
set_option maxRecDepth 100000
namespace K39
open PySem PySem.Spec PyProof.Rows L2 Mi Lw
open Tx (Tk flat tkOf digI r1 r2 veil vl Cl)
open SX (S)
theorem digI_nat (n : Nat) : digI (n : Int) = TL.numL n := by
  unfold Tx.digI
  rw [if_neg (by omega)]
  simp
theorem nat_log {n : Nat} (h : n ≤ 200000) : ((n : Int)).natAbs.log2 < 1920 := log_ok (by simpa using h)
theorem item_at' {T : List Nat} {j : Nat} {c : Nat} (hT : T.length ≤ 100000) (h : T[j]? = some c) : dIx (.str (S T)) (.int ((j : Nat) : Int)) = some (.str (S [c])) := by
  obtain ⟨h1, h2⟩ := List.getElem?_eq_some_iff.mp h
  have e : T = T.take j ++ c :: T.drop (j + 1) := by
    rw [← h2, ← List.drop_eq_getElem_cons h1, List.take_append_drop]
  rw [e] at hT ⊢
  exact item hT (by rw [List.length_take, Nat.min_eq_left (Nat.le_of_lt h1)])
theorem law_sum_spec {n b : Nat} {ni bi : Int} {t : List Nat} (ht : t.length ≤ 10000) (hc : ∀ c ∈ t, c < 1000) (hn : ni = (n : Int)) (hb : bi = (b : Int)) (hn' : n < 10000) (hb' : b < 100000) : Ev (m__law_sum [.fr (.int ni), .fr (.int bi), .fr (.str (S t))]) fun p => p = (.fr (.int ((chk n b t : Nat) : Int)), [.fr (.int ni), .fr (.int bi), .fr (.str (S t))]) := by
  have hL := dLenS (T := t) (n := (t.length : Nat)) (by omega) rfl
  have hT : t.length ≤ 100000 := by omega
  simp [m__law_sum, ev_runF, b__law_sum, hL]
  have h62 : ((t.length : Nat) : Int) < 4611686018427387904 := by omega
  refine ⟨by omega, ?_⟩
  refine (forR (P := fun k g => ∃ c, g = [some (.fr (.int ni)), some (.fr (.int bi)), some (.fr (.str (S t))), some (.fr (.int (((b + n + W (t.take k) : Nat)) : Int))), c]) ⟨none, by
    rw [List.take_zero]
    subst hn hb
    rfl⟩ ?_).mono ?_
  · rintro k i hk rfl g ⟨c, rfl⟩
    have hg : t[k]? = some t[k] := List.getElem?_eq_getElem hk
    have hi : dIx (.str (S t)) (.int ((0 : Int) + (k : Nat))) = some (.str (S [t[k]])) := by
      have := item_at' hT hg
      rw [Int.zero_add]
      exact this
    have hc' := hc t[k] (List.getElem_mem hk)
    have e : W (t.take (k + 1)) = W (t.take k) + (k + 1) * t[k] := by
      rw [List.take_succ, hg]
      show W (t.take k ++ [t[k]]) = _
      rw [W_snoc, List.length_take, Nat.min_eq_left (by omega)]
    rw [Int.zero_add] at hi
    have hm : mulOk ((k : Int) + 1) ((t[k] : Nat) : Int) = true := mulOk_l (by omega)
    simp [b__law_sum_1, hi, dOrdS, hm]
    rw [e, Int.natCast_add, Int.natCast_mul, Int.natCast_add, Int.add_assoc, Int.add_assoc, Int.add_assoc]
    rfl
  · rintro x ⟨g, rfl, c, rfl⟩
    simp
    exact chk_int
/-! ### a line -/
def ln (n s : Nat) (t : List Nat) : List Nat := TL.numL n ++ 32 :: (TL.numL s ++ 32 :: t)
theorem numL_le {n : Nat} (h : n < 1000000) : (TL.numL n).length ≤ 6 := TL.numL_len (by decide) (by omega)
theorem strN {n : Nat} {ni : Int} (hn : ni = (n : Int)) (h : n ≤ 200000) : dStrOf [.int ni] = some (.str (S (TL.numL n))) := by
  subst hn
  rw [strOf_ok (nat_log h), Tx.sI_S, digI_nat]
theorem fmtN {n : Nat} {ni : Int} (hn : ni = (n : Int)) (h : n ≤ 200000) : dFmt (.int ni) = some (.str (S (TL.numL n))) := by
  subst hn
  rw [fmt_ok (nat_log h), Tx.sI_S, digI_nat]
/-- a value whose text is short and of plain signs -/
structure Pl (d : D) : Prop where
  vd : Vd 8 d
  len : (flat (txt d)).length ≤ 700
  ch : ∀ c ∈ flat (txt d), Ch c
theorem show9 {d : D} (h : Pl d) : Ev (m_show_plain_9 [.fr d]) fun p => p = (.fr (.str (S (flat (txt d)))), [.fr d]) := show_spec h.vd (by decide) (Nat.le_trans h.len (by decide))
theorem journal_spec {n b : Nat} {ni bi : Int} {d : D} (h : Pl d) (hn : ni = (n : Int)) (hb : bi = (b : Int)) (hn' : n < 10000) : Ev (m_journal_line [.fr (.int ni), .fr (.int bi), .fr d]) fun p => p = (.fr (.str (S (ln n (chk n b (flat (txt d))) (flat (txt d)) ++ [10]))), [.fr (.int ni), .fr (.int bi), .fr d]) := by
  have hl : (flat (txt d)).length ≤ 100000 := Nat.le_trans h.len (by decide)
  have hs : (S (flat (txt d))).length ≤ sizeLine := sizeT hl
  have f1 := fmtN hn (by omega)
  have f2 := fmtN (n := chk n b (flat (txt d))) rfl (by have := chk_lt n b (flat (txt d)); omega)
  simp [m_journal_line, ev_runF, b_journal_line]
  refine (show9 h).mono ?_
  rintro _ rfl
  have n6 := numL_le (n := n) (by omega)
  have s6 := numL_le (n := chk n b (flat (txt d))) (by have := chk_lt n b (flat (txt d)); omega)
  have hE : Str.empty = S [] := rfl
  have hl7 := h.len
  have z : ∀ {l : List Nat}, l.length ≤ 1000 → (S l).length ≤ sizeLine := fun q => sizeT (by omega)
  simp [f1, hE, sp_S, nl_S, SX.S_cat]
  refine ⟨z (by omega), z (by simp; omega), ?_⟩
  refine (sum_spec hl hn hb).mono ?_
  rintro _ rfl
  have f3 : dFmt (.str (S (flat (txt d)))) = some (.str (S (flat (txt d)))) := if_pos hs
  simp [f2, f3, SX.S_cat]
  refine ⟨z (by simp; omega), z (by simp; omega), z (by simp; omega), z (by simp; omega), ?_⟩
  simp [ln]
end K39

set_option Elab.async false
set_option linter.all false
set_option maxRecDepth 100000
namespace K39
open PySem PySem.Spec PyProof.Rows L2 Mi Lw
open Tx (Tk flat tkOf digI r1 r2 veil vl Cl spk)
open SX (S)
def tx (d : D) : List Nat := flat (txt d)
def lf : Nat → Nat → List D → List (List Nat)
  | _, _, [] => []
  | n, b, e :: es => ln n (chk n b (tx e)) (tx e) :: lf (n + 1) (chk n b (tx e)) es
def bef : Nat → Nat → List D → Nat
  | _, b, [] => b
  | n, b, e :: es => bef (n + 1) (chk n b (tx e)) es
theorem bef_snoc : ∀ (es : List D) (n b : Nat) (e : D), bef n b (es ++ [e]) = chk (n + es.length) (bef n b es) (tx e)
  | [], n, b, e => rfl
  | x :: es, n, b, e => by
    show bef (n + 1) _ (es ++ [e]) = _
    rw [bef_snoc es (n + 1)]
    show chk (n + 1 + es.length) _ _ = chk (n + (es.length + 1)) _ _
    rw [show n + 1 + es.length = n + (es.length + 1) by omega]
    rfl
theorem lf_snoc : ∀ (es : List D) (n b : Nat) (e : D), lf n b (es ++ [e]) = lf n b es ++ [ln (n + es.length) (chk (n + es.length) (bef n b es) (tx e)) (tx e)]
  | [], n, b, e => rfl
  | x :: es, n, b, e => by
    show _ :: lf (n + 1) _ (es ++ [e]) = _
    rw [lf_snoc es (n + 1), show n + 1 + es.length = n + (es.length + 1) by omega]
    rfl
theorem lf_len : ∀ (es : List D) (n b : Nat), (lf n b es).length = es.length
  | [], n, b => rfl
  | x :: es, n, b => by
    show (lf (n + 1) _ es).length + 1 = _
    rw [lf_len es]
    rfl
theorem bef_lt {es : List D} : ∀ {n b : Nat}, b < 99991 → bef n b es < 99991 := by
  induction es with
  | nil => exact fun h => h
  | cons e es ih => exact fun h => ih (chk_lt _ _ _)
/-- a list, owned or frozen -/
def Lo (es : List D) (o : O) : Prop := o = .lst (es.map O.fr) ∨ o = .fr (.lst es)
theorem pl_ch {d : D} (h : Pl d) : ∀ c ∈ tx d, c < 1000 := fun c hc => by
  have := h.ch c hc
  unfold Ch at this
  omega
theorem lines_spec {es : List D} {o : O} (ho : Lo es o) (hp : ∀ d ∈ es, Pl d) (hl : es.length ≤ 100) : Ev (m__law_lines [o]) fun p => p = (.lst (((lf 0 0 es).map fun l => D.str (S l)).map O.fr), [o]) := by
  have h0 : ∀ d ∈ es.take 0, Pl d := fun d hd => by simp at hd
  have tk : ∀ k (hk : k < es.length), es.take (k + 1) = es.take k ++ [es[k]] := fun k hk => by rw [List.take_succ, List.getElem?_eq_getElem hk]; rfl
  have tl : ∀ k, k < es.length → (es.take k).length = k := fun k hk => by rw [List.length_take, Nat.min_eq_left (Nat.le_of_lt hk)]
  have hsz : ∀ k, k < es.length → (lf 0 0 (es.take k)).length < sizeLine := fun k hk => by
    rw [lf_len, tl k hk]
    have : (101 : Nat) ≤ sizeLine := by decide
    omega
  have ad : ∀ {a b : List Nat}, a.length + b.length ≤ 100000 → dAdd (.str (S a)) (.str (S b)) = some (.fr (.str (S (a ++ b)))) := fun h => dAddS (by omega)
  have turn : ∀ (k : Nat) (hk : k < es.length) (ni bi : Int), ni = (k : Int) → bi = (bef 0 0 (es.take k) : Nat) →
      Ev (m__law_sum [.fr (.int ni), .fr (.int bi), .fr (.str (S (tx es[k])))]) (fun p => p = (.fr (.int ((chk k (bef 0 0 (es.take k)) (tx es[k]) : Nat) : Int)), [.fr (.int ni), .fr (.int bi), .fr (.str (S (tx es[k])))])) := fun k hk ni bi hn hb => by
    have hd := hp es[k] (List.getElem_mem hk)
    exact law_sum_spec (Nat.le_trans hd.len (by decide)) (pl_ch hd) hn hb (by omega) (by have := bef_lt (es := es.take k) (n := 0) (b := 0) (by decide); omega)
  rcases ho with rfl | rfl
  · simp [m__law_lines, ev_runF, b__law_lines]
    refine ⟨by omega, ?_⟩
    refine (forR (P := fun k g => ∃ x y, g = [some (.lst (es.map O.fr)), some (.lst (((lf 0 0 (es.take k)).map fun l => D.str (S l)).map O.fr)), some (.fr (.int ((bef 0 0 (es.take k) : Nat) : Int))), x, y]) ⟨none, none, rfl⟩ ?_).mono ?_
    · rintro k i hk rfl g ⟨x, y, rfl⟩
      have hz : atI es (k : Int) = some es[k] := (atI_lt hk).trans (List.getElem?_eq_getElem hk)
      have hz2 : atI (es.map O.fr) (k : Int) = some (.fr es[k]) := (atI_lt (by simpa using hk)).trans (by rw [List.getElem?_map, List.getElem?_eq_getElem hk]; rfl)
      have hd := hp es[k] (List.getElem_mem hk)
      have h9 := show9 hd
      have hs := hsz k hk
      have hsum := turn k hk _ _ rfl rfl
      have sn := strN (n := k) (ni := k) rfl (by omega)
      have ss := strN (n := chk k (bef 0 0 (es.take k)) (tx es[k])) rfl (by have := chk_lt k (bef 0 0 (es.take k)) (tx es[k]); omega)
      have n6 := numL_le (n := k) (by omega)
      have s6 := numL_le (n := chk k (bef 0 0 (es.take k)) (tx es[k])) (by have := chk_lt k (bef 0 0 (es.take k)) (tx es[k]); omega)
      have t7 : (tx es[k]).length ≤ 700 := hd.len
      have e1 := ad (a := TL.numL k) (b := [32]) (by simp; omega)
      have e2 := ad (a := TL.numL k ++ [32]) (b := TL.numL (chk k (bef 0 0 (es.take k)) (tx es[k]))) (by simp; omega)
      have e3 := ad (a := TL.numL k ++ [32] ++ TL.numL (chk k (bef 0 0 (es.take k)) (tx es[k]))) (b := [32]) (by simp; omega)
      have e4 := ad (a := TL.numL k ++ [32] ++ TL.numL (chk k (bef 0 0 (es.take k)) (tx es[k])) ++ [32]) (b := tx es[k]) (by simp; omega)
      have el : TL.numL k ++ [32] ++ TL.numL (chk k (bef 0 0 (es.take k)) (tx es[k])) ++ [32] ++ tx es[k] = ln k (chk k (bef 0 0 (es.take k)) (tx es[k])) (tx es[k]) := by simp [ln]
      have e5 := lf_snoc (es.take k) 0 0 es[k]
      have e6 := bef_snoc (es.take k) 0 0 es[k]
      rw [tl k hk, Nat.zero_add] at e5 e6
      rw [el] at e4
      rw [tk k hk, e5, e6]
      generalize chk k (bef 0 0 (es.take k)) (tx es[k]) = c at *
      generalize bef 0 0 (es.take k) = bb at *
      generalize lf 0 0 (es.take k) = ls at *
      simp [b__law_lines_1, hz, hz2]
      refine h9.mono ?_
      rintro _ rfl
      have hsum : Ev (m__law_sum [.fr (.int (k : Int)), .fr (.int (bb : Int)), .fr (.str (S (flat (txt es[k]))))]) _ := hsum
      simp
      refine hsum.mono ?_
      rintro _ rfl
      have e4 : dAdd (.str (S (TL.numL k ++ [32] ++ TL.numL c ++ [32]))) (.str (S (flat (txt es[k])))) = _ := e4
      simp [sn, ss, sp_S, -List.append_assoc, e1, e2, e3, e4]
      exact hs
    · rintro x ⟨g, rfl, a, b, rfl⟩
      simp
  · simp [m__law_lines, ev_runF, b__law_lines]
    refine ⟨by omega, ?_⟩
    refine (forR (P := fun k g => ∃ x y, g = [some (.fr (.lst es)), some (.lst (((lf 0 0 (es.take k)).map fun l => D.str (S l)).map O.fr)), some (.fr (.int ((bef 0 0 (es.take k) : Nat) : Int))), x, y]) ⟨none, none, rfl⟩ ?_).mono ?_
    · rintro k i hk rfl g ⟨x, y, rfl⟩
      have hz : atI es (k : Int) = some es[k] := (atI_lt hk).trans (List.getElem?_eq_getElem hk)
      have hz2 : atI (es.map O.fr) (k : Int) = some (.fr es[k]) := (atI_lt (by simpa using hk)).trans (by rw [List.getElem?_map, List.getElem?_eq_getElem hk]; rfl)
      have hd := hp es[k] (List.getElem_mem hk)
      have h9 := show9 hd
      have hs := hsz k hk
      have hsum := turn k hk _ _ rfl rfl
      have sn := strN (n := k) (ni := k) rfl (by omega)
      have ss := strN (n := chk k (bef 0 0 (es.take k)) (tx es[k])) rfl (by have := chk_lt k (bef 0 0 (es.take k)) (tx es[k]); omega)
      have n6 := numL_le (n := k) (by omega)
      have s6 := numL_le (n := chk k (bef 0 0 (es.take k)) (tx es[k])) (by have := chk_lt k (bef 0 0 (es.take k)) (tx es[k]); omega)
      have t7 : (tx es[k]).length ≤ 700 := hd.len
      have e1 := ad (a := TL.numL k) (b := [32]) (by simp; omega)
      have e2 := ad (a := TL.numL k ++ [32]) (b := TL.numL (chk k (bef 0 0 (es.take k)) (tx es[k]))) (by simp; omega)
      have e3 := ad (a := TL.numL k ++ [32] ++ TL.numL (chk k (bef 0 0 (es.take k)) (tx es[k]))) (b := [32]) (by simp; omega)
      have e4 := ad (a := TL.numL k ++ [32] ++ TL.numL (chk k (bef 0 0 (es.take k)) (tx es[k])) ++ [32]) (b := tx es[k]) (by simp; omega)
      have el : TL.numL k ++ [32] ++ TL.numL (chk k (bef 0 0 (es.take k)) (tx es[k])) ++ [32] ++ tx es[k] = ln k (chk k (bef 0 0 (es.take k)) (tx es[k])) (tx es[k]) := by simp [ln]
      have e5 := lf_snoc (es.take k) 0 0 es[k]
      have e6 := bef_snoc (es.take k) 0 0 es[k]
      rw [tl k hk, Nat.zero_add] at e5 e6
      rw [el] at e4
      rw [tk k hk, e5, e6]
      generalize chk k (bef 0 0 (es.take k)) (tx es[k]) = c at *
      generalize bef 0 0 (es.take k) = bb at *
      generalize lf 0 0 (es.take k) = ls at *
      simp [b__law_lines_1, hz, hz2]
      refine h9.mono ?_
      rintro _ rfl
      have hsum : Ev (m__law_sum [.fr (.int (k : Int)), .fr (.int (bb : Int)), .fr (.str (S (flat (txt es[k]))))]) _ := hsum
      simp
      refine hsum.mono ?_
      rintro _ rfl
      have e4 : dAdd (.str (S (TL.numL k ++ [32] ++ TL.numL c ++ [32]))) (.str (S (flat (txt es[k])))) = _ := e4
      simp [sn, ss, sp_S, -List.append_assoc, e1, e2, e3, e4]
      exact hs
    · rintro x ⟨g, rfl, a, b, rfl⟩
      simp
end K39

set_option Elab.async false
set_option linter.all false
set_option maxRecDepth 100000
namespace K39
open PySem PySem.Spec PyProof.Rows L2 Mi Lw
open Tx (Tk flat tkOf digI r1 r2 veil vl Cl spk)
open SX (S)
theorem dsp2 {l : List Nat} (h : l.length ≤ 10000) : dSplit2 (S l) [.str (S [32]), .int 2] = some (.lst (((spk 32 2 l).map fun p => D.str (S p)).map O.fr)) := by
  have e : Txt.splitMax (S l) (S [32]) (2 : Int) = (spk 32 2 l).map S := Tx.splitMax_S (k := 2) (by decide)
  rw [dSplit2_str, if_pos ⟨rfl, by decide, by rw [SX.S_len]; have : (20000 : Nat) ≤ sizeLine := (by decide); omega⟩, e]
  simp
theorem spk_len (c : Nat) : ∀ (l : List Nat) (k : Nat), (spk c k l).length ≤ k + 1
  | [], k => by cases k <;> simp [Tx.spk]
  | y :: l, 0 => by simp [Tx.spk]
  | y :: l, k + 1 => by
    rw [Tx.spk]
    split
    · have := spk_len c l k
      simp
      omega
    · have := spk_len c l (k + 1)
      cases q : spk c (k + 1) l with
      | nil => simp [Tx.hdc]
      | cons p ps =>
        rw [q] at this
        simpa [Tx.hdc] using this
theorem spk_short (c : Nat) : ∀ (l : List Nat) (k : Nat), ∀ p ∈ spk c k l, p.length ≤ l.length
  | [], k, p, h => by
    have : spk c k [] = [[]] := by cases k <;> rfl
    rw [this] at h
    rw [List.mem_singleton.mp h]
    exact Nat.le_refl _
  | y :: l, 0, p, h => by
    rw [Tx.spk_zero] at h
    rw [List.mem_singleton.mp h]
    exact Nat.le_refl _
  | y :: l, k + 1, p, h => by
    rw [Tx.spk] at h
    split at h
    · rcases List.mem_cons.mp h with rfl | h
      · simp
      · have := spk_short c l k p h
        simp
        omega
    · cases q : spk c (k + 1) l with
      | nil => rw [q] at h; cases h
      | cons x ps =>
        rw [q] at h
        rcases List.mem_cons.mp h with rfl | h
        · have := spk_short c l (k + 1) x (by rw [q]; exact List.mem_cons_self ..)
          simpa using this
        · have := spk_short c l (k + 1) p (by rw [q]; exact List.mem_cons_of_mem _ h)
          simp
          omega
section
variable {CB C : Addr}
def Rt (n : Nat) (e : D) (b : Bool) : Prop := Ev (if n = 0 then m_is_first_entry [.fr e] else m_is_later_entry [.fr e]) fun p => p = (.fr (.bl b), [.fr e])
def Bad (CB C : Addr) (n b : Nat) (l : List Nat) : Prop := (spk 32 2 l).length < 3 ∨ ∃ p q t, spk 32 2 l = [p, q, t] ∧ (p ≠ TL.numL n ∨ q ≠ TL.numL (chk n b t) ∨
  (∃ ns ds, Ev (m_read_plain CB C [.fr (.str (S t))]) fun p => p = (.ex CB ns ds, [.fr (.str (S t))])) ∨
  ∃ e, Ev (m_read_plain CB C [.fr (.str (S t))]) (fun p => p = (.ok (.fr e), [.fr (.str (S t))])) ∧ Rt n e false)
theorem S_iff {a b : List Nat} : (S a = S b) ↔ a = b := ⟨SX.S_inj, fun z => by rw [z]⟩
theorem neS {a b : List Nat} : dNe (.str (S a)) (.str (S b)) = some (.bl (!decide (a = b))) := by
  show some (D.bl (!decide (S a = S b))) = _
  simp [S_iff]
def eG (n b : Nat) (l : List Nat) : List O := [.fr (.int (n : Nat)), .fr (.int (b : Nat)), .fr (.str (S l))]
theorem entry_len {n b : Nat} {l : List Nat} (hl : l.length ≤ 10000) (h : (spk 32 2 l).length < 3) : Ev (m_entry_of CB C (eG n b l)) fun p => p = (.fr .non, eG n b l) := by
  have e := dsp2 hl
  have h3 : ((((spk 32 2 l).map fun p => D.str (S p)).map O.fr).length : Int) < 3 := by simp; omega
  generalize ((spk 32 2 l).map fun p => D.str (S p)).map O.fr = os at e h3
  unfold eG
  simp [m_entry_of, ev_runF, b_entry_of, sp_S, e, erL_length, h3]
theorem entry_p {n b : Nat} {l p q t : List Nat} (hl : l.length ≤ 10000) (hn : n ≤ 100) (h : spk 32 2 l = [p, q, t]) (hp : p ≠ TL.numL n) : Ev (m_entry_of CB C (eG n b l)) fun p => p = (.fr .non, eG n b l) := by
  have e := dsp2 hl
  rw [h] at e
  have sn := strN (n := n) (ni := n) rfl (by omega)
  have hp' : ¬ p = TL.numL n := hp
  unfold eG
  simp [m_entry_of, ev_runF, b_entry_of, sp_S, e, sn, neS, hp']
theorem entry_q {n b : Nat} {l p q t : List Nat} (hl : l.length ≤ 10000) (hn : n ≤ 100) (h : spk 32 2 l = [p, q, t]) (hp : p = TL.numL n) (hq : q ≠ TL.numL (chk n b t)) : Ev (m_entry_of CB C (eG n b l)) fun p => p = (.fr .non, eG n b l) := by
  have e := dsp2 hl
  rw [h] at e
  have ht : t.length ≤ 100000 := by
    have := spk_short 32 l 2 t (by rw [h]; simp)
    omega
  have sn := strN (n := n) (ni := n) rfl (by omega)
  have ss := strN (n := chk n b t) rfl (by have := chk_lt n b t; omega)
  have hq' : ¬ q = TL.numL (chk n b t) := hq
  subst hp
  unfold eG
  simp [m_entry_of, ev_runF, b_entry_of, sp_S, e, sn, neS]
  refine (sum_spec ht rfl rfl).mono ?_
  rintro _ rfl
  simp [ss, neS, hq']
theorem entry_ex {n b : Nat} {l p q t : List Nat} {ns : List Str} {ds : List D} (hl : l.length ≤ 10000) (hn : n ≤ 100) (h : spk 32 2 l = [p, q, t]) (hp : p = TL.numL n) (hq : q = TL.numL (chk n b t)) (hr : Ev (m_read_plain CB C [.fr (.str (S t))]) fun p => p = (.ex CB ns ds, [.fr (.str (S t))])) : Ev (m_entry_of CB C (eG n b l)) fun p => p = (.fr .non, eG n b l) := by
  have e := dsp2 hl
  rw [h] at e
  have ht : t.length ≤ 100000 := by
    have := spk_short 32 l 2 t (by rw [h]; simp)
    omega
  have sn := strN (n := n) (ni := n) rfl (by omega)
  have ss := strN (n := chk n b t) rfl (by have := chk_lt n b t; omega)
  subst hp hq
  unfold eG
  simp [m_entry_of, ev_runF, b_entry_of, sp_S, e, sn, neS]
  refine (sum_spec ht rfl rfl).mono ?_
  rintro _ rfl
  simp [ss, neS]
  refine hr.mono ?_
  rintro _ rfl
  simp
theorem entry_ok {n b : Nat} {l p q t : List Nat} {d : D} {r : Bool} (hl : l.length ≤ 10000) (hn : n ≤ 100) (h : spk 32 2 l = [p, q, t]) (hp : p = TL.numL n) (hq : q = TL.numL (chk n b t)) (hr : Ev (m_read_plain CB C [.fr (.str (S t))]) fun p => p = (.ok (.fr d), [.fr (.str (S t))])) (ht2 : Rt n d r) : Ev (m_entry_of CB C (eG n b l)) fun p => p = (.fr (if r = true then d else .non), eG n b l) := by
  have e := dsp2 hl
  rw [h] at e
  have ht : t.length ≤ 100000 := by
    have := spk_short 32 l 2 t (by rw [h]; simp)
    omega
  have sn := strN (n := n) (ni := n) rfl (by omega)
  have ss := strN (n := chk n b t) rfl (by have := chk_lt n b t; omega)
  subst hp hq
  unfold eG
  simp [m_entry_of, ev_runF, b_entry_of, sp_S, e, sn, neS]
  refine (sum_spec ht rfl rfl).mono ?_
  rintro _ rfl
  simp [ss, neS]
  refine hr.mono ?_
  rintro _ rfl
  unfold Rt at ht2
  by_cases hz : n = 0
  · subst hz
    rw [if_pos rfl] at ht2
    simp
    refine ht2.mono ?_
    rintro _ rfl
    cases r <;> simp
  · rw [if_neg hz] at ht2
    simp [hz]
    refine ht2.mono ?_
    rintro _ rfl
    cases r <;> simp
theorem entry_no {n b : Nat} {l : List Nat} (hl : l.length ≤ 10000) (hn : n ≤ 100) (h : Bad CB C n b l) : Ev (m_entry_of CB C (eG n b l)) fun p => p = (.fr .non, eG n b l) := by
  rcases h with h | ⟨p, q, t, h, h2⟩
  · exact entry_len hl h
  · by_cases hp : p = TL.numL n
    · by_cases hq : q = TL.numL (chk n b t)
      · rcases h2 with h2 | h2 | ⟨ns, ds, h2⟩ | ⟨e, h2, h3⟩
        · exact (h2 hp).elim
        · exact (h2 hq).elim
        · exact entry_ex hl hn h hp hq h2
        · exact entry_ok hl hn h hp hq h2 h3
      · exact entry_q hl hn h hp hq
    · exact entry_p hl hn h hp
end
end K39

set_option Elab.async false
set_option linter.all false
set_option maxRecDepth 100000
namespace K39
open PySem PySem.Spec PyProof.Rows L2 Mi Lw
open Tx (Tk flat tkOf digI r1 r2 veil vl Cl spk)
open SX (S)
theorem no32 (n : Nat) : 32 ∉ TL.numL n := TL.numL_free (by decide)
theorem spk_ln (n s : Nat) (t : List Nat) : spk 32 2 (ln n s t) = [TL.numL n, TL.numL s, t] := by
  unfold ln
  rw [Tx.spk_cut (no32 n), Tx.spk_cut (no32 s), Tx.spk_zero]
theorem int_num {s : Nat} (h : s < 100000) : dIntOf [.str (S (TL.numL s))] = some (.int (s : Nat)) := by
  have e := Tx.int_digI (i := (s : Int)) (by simp; exact Nat.lt_of_lt_of_le h (by decide))
  rw [digI_nat] at e
  have hl := TL.numL_len (k := 5) (by decide) h
  show (if (S (TL.numL s)).length ≤ 640 then (PySem.intText? (S (TL.numL s))).map D.int else none) = _
  rw [if_pos (by rw [SX.S_len]; omega), e]
  rfl
theorem sum_in_spec {n s : Nat} {t : List Nat} (hl : (ln n s t).length ≤ 10000) (hs : s < 100000) : Ev (m_sum_in [.fr (.str (S (ln n s t)))]) fun p => p = (.fr (.int (s : Nat)), [.fr (.str (S (ln n s t)))]) := by
  have e := dsp2 hl
  rw [spk_ln] at e
  simp [m_sum_in, ev_runF, b_sum_in, sp_S, e, int_num hs]
theorem ln_len (n s : Nat) (t : List Nat) : (ln n s t).length = (TL.numL n).length + (TL.numL s).length + t.length + 2 := by
  simp [ln]
  omega
def sz (ls : List (List Nat)) : Nat := (ls.map fun l => l.length + 1).sum
theorem sz_snoc (ls : List (List Nat)) (l : List Nat) : sz (ls ++ [l]) = sz ls + (l.length + 1) := by simp [sz]
/-- right entries -/
structure Oks (CB C : Addr) (es : List D) : Prop where
  len : es.length ≤ 100
  pl : ∀ d ∈ es, Pl d
  nn : ∀ d ∈ es, isNonD d = false
  rt : ∀ (i : Nat) (h : i < es.length), Rt i es[i] true
section
variable {CB C : Addr}
def JP (T : List Nat) (es : List D) (k : Nat) (g : G) : Prop := ∃ x y z, g = [some (.fr (.str (S T))), some (.lst ((es.take k).map O.fr)), some (.fr (.int ((bef 0 0 (es.take k) : Nat) : Int))), some (.fr (.int ((sz (lf 0 0 (es.take k)) : Nat) : Int))), x, y, z]
def lk (es : List D) (k : Nat) (hk : k < es.length) : List Nat := ln k (chk k (bef 0 0 (es.take k)) (tx es[k])) (tx es[k])
theorem lk_len {es : List D} {k : Nat} (hk : k < es.length) (h : ∀ d ∈ es, Pl d) (hl : es.length ≤ 100) : (lk es k hk).length ≤ 1000 := by
  have n6 := numL_le (n := k) (by omega)
  have s6 := numL_le (n := chk k (bef 0 0 (es.take k)) (tx es[k])) (by have := chk_lt k (bef 0 0 (es.take k)) (tx es[k]); omega)
  have : (tx es[k]).length ≤ 700 := (h es[k] (List.getElem_mem hk)).len
  unfold lk
  rw [ln_len]
  omega
theorem lf_take {es : List D} {k : Nat} (hk : k < es.length) : lf 0 0 (es.take (k + 1)) = lf 0 0 (es.take k) ++ [lk es k hk] ∧ bef 0 0 (es.take (k + 1)) = chk k (bef 0 0 (es.take k)) (tx es[k]) := by
  have tk : es.take (k + 1) = es.take k ++ [es[k]] := by rw [List.take_succ, List.getElem?_eq_getElem hk]; rfl
  have tl : (es.take k).length = k := by rw [List.length_take, Nat.min_eq_left (Nat.le_of_lt hk)]
  have e5 := lf_snoc (es.take k) 0 0 es[k]
  have e6 := bef_snoc (es.take k) 0 0 es[k]
  rw [tl, Nat.zero_add] at e5 e6
  rw [tk]
  exact ⟨e5, e6⟩
theorem lf_get {es : List D} {k : Nat} (hk : k < es.length) : (lf 0 0 es)[k]? = some (lk es k hk) := by
  have key : ∀ (m : Nat) (h : m ≤ es.length), k < m → (lf 0 0 (es.take m))[k]? = some (lk es k hk) := by
    intro m
    induction m with
    | zero => intro _ h; omega
    | succ m ih =>
      intro h hkm
      obtain ⟨e5, _⟩ := lf_take (es := es) (k := m) h
      have tl : (lf 0 0 (es.take m)).length = m := by rw [lf_len, List.length_take, Nat.min_eq_left (Nat.le_of_lt h)]
      rw [e5]
      by_cases q : k < m
      · rw [List.getElem?_append_left (by omega)]
        exact ih (Nat.le_of_lt h) q
      · have : k = m := by omega
        subst this
        rw [List.getElem?_append_right (by omega), tl, Nat.sub_self]
        rfl
  have := key es.length (Nat.le_refl _) hk
  rwa [List.take_length] at this
theorem jturn {T : List Nat} {es : List D} (h : Oks CB C es) {k : Nat} (hk : k < es.length) {g : G} (p : JP T es k g) : Ev (gTp 2 (gsCons (gN 4) (gsCons (gN 5) gsNil)) (.fr (.tup [.int (k : Nat), .str (S (lk es k hk))])) g) fun g1 => Ev (b_read_journal_1 CB C g1) (Turn (JP T es (k + 1))) := by
  obtain ⟨x, y, z, rfl⟩ := p
  have hd := h.pl es[k] (List.getElem_mem hk)
  have hnn := h.nn es[k] (List.getElem_mem hk)
  have hl := lk_len hk h.pl h.len
  have hb := bef_lt (es := es.take k) (n := 0) (b := 0) (by decide)
  have he := entry_ok (CB := CB) (C := C) (n := k) (b := bef 0 0 (es.take k)) (l := lk es k hk) (r := true) (by omega) (by have := h.len; omega) (spk_ln _ _ _) rfl rfl (read_back hd.vd (by decide) (Nat.le_trans hd.len (by decide)) hd.ch) (h.rt k hk)
  have hs := sum_in_spec (n := k) (s := chk k (bef 0 0 (es.take k)) (tx es[k])) (t := tx es[k]) (by show (lk es k hk).length ≤ 10000; omega) (by have := chk_lt k (bef 0 0 (es.take k)) (tx es[k]); omega)
  have hs : Ev (m_sum_in [.fr (.str (S (lk es k hk)))]) fun p => p = (.fr (.int ((chk k (bef 0 0 (es.take k)) (tx es[k]) : Nat) : Int)), [.fr (.str (S (lk es k hk)))]) := hs
  have hL := dLenS (T := lk es k hk) (n := ((lk es k hk).length : Nat)) (by omega) rfl
  obtain ⟨e5, e6⟩ := lf_take hk
  have tk : es.take (k + 1) = es.take k ++ [es[k]] := by rw [List.take_succ, List.getElem?_eq_getElem hk]; rfl
  have tl : (es.take k).length = k := by rw [List.length_take, Nat.min_eq_left (Nat.le_of_lt hk)]
  unfold JP
  rw [e5, e6, sz_snoc]
  generalize chk k (bef 0 0 (es.take k)) (tx es[k]) = c at *
  generalize bef 0 0 (es.take k) = bb at *
  generalize lf 0 0 (es.take k) = ls at *
  generalize lk es k hk = l at *
  have hz : k < sizeLine := by
    have : (1000 : Nat) ≤ sizeLine := by decide
    have := h.len
    omega
  unfold eG at he
  rw [tk]
  simp [b_read_journal_1]
  refine he.mono ?_
  rintro _ rfl
  simp [dIsN, hnn, tl, hz]
  refine ⟨by omega, ?_⟩
  refine hs.mono ?_
  rintro _ rfl
  simp [hL]
  rw [List.take_succ, List.getElem?_map, List.getElem?_eq_getElem hk]
  rfl
theorem cut_last {α : Type} (xs : List α) : Mi.cutD xs none (some (-1)) = xs.dropLast := by
  unfold Mi.cutD
  rw [List.dropLast_eq_take]
  have h0 : HT.sIx xs.length 0 none = 0 := rfl
  have h1 : HT.sIx xs.length xs.length (some (-1)) = xs.length - 1 := by
    unfold HT.sIx
    simp
    omega
  rw [h0, h1]
  simp
/-- what is read of a text: its lines are the lines of es, then one that is none (or none at all) -/
theorem journal {T : List Nat} {es : List D} {rest : List (List Nat)} (h : Oks CB C es) (hT : T.length ≤ 100000) (hps : (TL.spl [10] 0 [] T).dropLast = lf 0 0 es ++ rest) (hr : ∀ l r, rest = l :: r → l.length ≤ 10000 ∧ Bad CB C es.length (bef 0 0 es) l) :
    Ev (m_read_journal CB C [.fr (.str (S T))]) fun p => p = (.fr (.tup [.tup es, .int ((sz (lf 0 0 es) : Nat) : Int)]), [.fr (.str (S T))]) := by
  have e1 : Txt.split (S T) (S [10]) = (TL.spl [10] 0 [] T).map S := Tx.split_S (by decide)
  have e2 : dSplit1 (S T) [.str (S [10])] = some (.lst (((TL.spl [10] 0 [] T).map fun p => D.str (S p)).map O.fr)) := by
    rw [dSplit1_str, if_pos ⟨rfl, by rw [SX.S_len]; have : (200000 : Nat) ≤ sizeLine := (by decide); omega⟩, e1]
    simp
  have e3 : dSl (.lst ((TL.spl [10] 0 [] T).map fun p => D.str (S p))) none (some (-1)) = some (.lst (((lf 0 0 es ++ rest).map fun p => D.str (S p)).map O.fr)) := by
    show some (O.lst ((Mi.cutD _ none (some (-1))).map O.fr)) = _
    rw [cut_last, ← List.map_dropLast, hps]
  obtain ⟨d0, hd0⟩ : ∃ d0, d0 = (TL.spl [10] 0 [] T).map fun p => D.str (S p) := ⟨_, rfl⟩
  obtain ⟨L, hL⟩ : ∃ L, L = (lf 0 0 es ++ rest).map fun p => D.str (S p) := ⟨_, rfl⟩
  rw [← hd0] at e2 e3
  rw [← hL] at e3
  have hlen : L.length = es.length + rest.length := by rw [hL, List.length_map, List.length_append, lf_len]
  have hget : ∀ (k : Nat) (hk : k < es.length) (hk2 : k < (enumD 0 L).length), (enumD 0 L)[k] = .tup [.int (k : Nat), .str (S (lk es k hk))] := fun k hk hk2 => by
    have q := enumD_get L k 0
    rw [List.getElem?_eq_getElem hk2] at q
    have hz : L[k]? = some (.str (S (lk es k hk))) := by
      rw [hL, List.getElem?_map, List.getElem?_append_left (by rw [lf_len]; exact hk), lf_get hk]
      rfl
    rw [hz] at q
    have := Option.some.inj q
    rw [this, Nat.zero_add]
  simp [m_read_journal, ev_runF, b_read_journal, nl_S, e2, e3]
  cases hrest : rest with
  | nil =>
    have hl2 : (enumD 0 L).length = es.length := by rw [enumD_len, hlen, hrest]; simp
    refine (forL_idx (P := JP T es) ⟨none, none, none, rfl⟩ fun k hk g p => ?_).mono ?_
    · rw [hget k (by omega) hk]
      exact jturn h (by omega) p
    · rintro x ⟨g, rfl, a, b, c, e⟩
      rw [hl2, List.take_length] at e
      subst e
      simp [dTupOf]
  | cons l r =>
    obtain ⟨hl, hb⟩ := hr l r hrest
    have hl2 : es.length < (enumD 0 L).length := by rw [enumD_len, hlen, hrest]; simp
    refine Ev.mono (forL_out (m := es.length) (P := JP T es) (Q := fun x => ∃ g, x = .nx g ∧ JP T es es.length g) hl2 ⟨none, none, none, rfl⟩ (fun k hk g p => by
      rw [hget k hk (by omega)]
      exact jturn h hk p) fun g p => ?_) ?_
    · obtain ⟨a, b, c, rfl⟩ := p
      have hd : (enumD 0 L)[es.length] = .tup [.int ((es.length : Nat) : Int), .str (S l)] := by
        have q := enumD_get L es.length 0
        rw [List.getElem?_eq_getElem hl2] at q
        have hz : L[es.length]? = some (.str (S l)) := by
          rw [hL, hrest, List.getElem?_map, List.getElem?_append_right (by rw [lf_len]; exact Nat.le_refl _), lf_len, Nat.sub_self]
          rfl
        rw [hz] at q
        have := Option.some.inj q
        rw [this, Nat.zero_add]
      rw [hd]
      have he := entry_no (CB := CB) (C := C) hl (by have := h.len; omega) hb
      unfold eG at he
      simp [b_read_journal_1]
      refine he.mono ?_
      rintro _ rfl
      simp [dIsN, isNonD]
      exact ⟨_, _, _, by rw [List.take_length]⟩
    · rintro x ⟨g, rfl, a, b, c, e⟩
      rw [List.take_length] at e
      subst e
      simp [dTupOf]
end
end K39

set_option Elab.async false
set_option linter.all false
set_option maxRecDepth 100000
namespace K39
open PySem PySem.Spec PyProof.Rows L2 Mi Lw
open Tx (Tk flat tkOf digI r1 r2 veil vl Cl spk)
open SX (S)
section
variable {CB C : Addr}
theorem spk_pos (c : Nat) (k : Nat) (l : List Nat) : 1 ≤ (spk c k l).length := by
  by_cases h : c ∈ l
  · obtain ⟨a, r, rfl, ha⟩ : ∃ a r, l = a ++ c :: r ∧ c ∉ a := by
      induction l with
      | nil => cases h
      | cons y l ih =>
        by_cases q : y = c
        · exact ⟨[], l, by rw [q]; rfl, List.not_mem_nil⟩
        · rcases List.mem_cons.mp h with z | z
          · exact (q z.symm).elim
          · obtain ⟨a, r, e, ha⟩ := ih z
            exact ⟨y :: a, r, by rw [e]; rfl, fun w => (List.mem_cons.mp w).elim (fun w => q w.symm) ha⟩
    cases k with
    | zero => rw [Tx.spk_zero]; exact Nat.le_refl _
    | succ k => rw [Tx.spk_cut ha]; simp
  · rw [Tx.spk_free h]
    exact Nat.le_refl _
theorem cut_at {c : Nat} : ∀ {l : List Nat}, c ∈ l → ∃ a r, l = a ++ c :: r ∧ c ∉ a
  | y :: l, h => by
    by_cases q : y = c
    · exact ⟨[], l, by rw [q]; rfl, List.not_mem_nil⟩
    · rcases List.mem_cons.mp h with z | z
      · exact (q z.symm).elim
      · obtain ⟨a, r, e, ha⟩ := cut_at z
        exact ⟨y :: a, r, by rw [e]; rfl, fun w => (List.mem_cons.mp w).elim (fun w => q w.symm) ha⟩
theorem bad_1 {n b : Nat} {l : List Nat} (h : 32 ∉ l) : Bad CB C n b l := .inl (by rw [Tx.spk_free h]; simp)
theorem bad_p {n b : Nat} {p r : List Nat} (h : 32 ∉ p) (hp : p ≠ TL.numL n) : Bad CB C n b (p ++ 32 :: r) := by
  have e : spk 32 2 (p ++ 32 :: r) = p :: spk 32 1 r := Tx.spk_cut h
  have h1 := spk_len 32 r 1
  have h2 := spk_pos 32 1 r
  match q : spk 32 1 r with
  | [] => rw [q] at h2; simp at h2
  | [a] => exact .inl (by rw [e, q]; simp)
  | [a, c] => exact .inr ⟨p, a, c, by rw [e, q], .inl hp⟩
  | a :: c :: d :: x => rw [q] at h1; simp at h1
theorem bad_q {n b : Nat} {p q t : List Nat} (h : 32 ∉ p) (h2 : 32 ∉ q) (hq : q ≠ TL.numL (chk n b t)) : Bad CB C n b (p ++ 32 :: (q ++ 32 :: t)) :=
  .inr ⟨p, q, t, by rw [Tx.spk_cut h, Tx.spk_cut h2, Tx.spk_zero], .inr (.inl hq)⟩
theorem bad_q1 {n b : Nat} {p q : List Nat} (h : 32 ∉ p) (h2 : 32 ∉ q) : Bad CB C n b (p ++ 32 :: q) :=
  .inl (by rw [Tx.spk_cut h, Tx.spk_free h2]; simp)
theorem bad_n {n m b : Nat} {r : List Nat} (h : m ≠ n) : Bad CB C n b (TL.numL m ++ 32 :: r) := bad_p (no32 m) fun z => h (TL.numL_inj z)
/-- numbers and a space ahead of a text: nothing that is plain -/
theorem raises {D t : List Nat} (hD : ∀ d ∈ D, Dg d) (hl : (D ++ 32 :: t).length ≤ 100000) : ∃ ns ds, Ev (m_read_plain CB C [.fr (.str (S (D ++ 32 :: t)))]) fun p => p = (.ex CB ns ds, [.fr (.str (S (D ++ 32 :: t)))]) := by
  obtain ⟨pl, pp, hi⟩ := ir_ex (b := false) (R3 := 32 :: t) hD
  have e : D ++ 32 :: t = [] ++ (sgn false ++ (D ++ 32 :: t)) := rfl
  have hb : (false = false) → (D ++ 32 :: t).head? ≠ some 45 := fun _ => by
    cases D with
    | nil => simp
    | cons c D =>
      have := hD c (List.mem_cons_self ..)
      unfold Dg at this
      simp
      omega
  have hs := integer_spec (CB := CB) (C := C) (at_ := 0) hl e rfl hb hD (fun c hc => by simp at hc; exact .inl (by omega)) hi
  obtain ⟨c, r, hcr, hc⟩ : ∃ c r, D ++ 32 :: t = c :: r ∧ (c = 32 ∨ Dg c) := by
    cases D with
    | nil => exact ⟨32, t, rfl, .inl rfl⟩
    | cons c D => exact ⟨c, _, rfl, .inr (hD c (List.mem_cons_self ..))⟩
  have hsl := sign1 (T := D ++ 32 :: t) (A := []) (R := D ++ 32 :: t) (at_ := 0) rfl rfl
  have ne : ∀ x : Nat, x ≠ 32 → ¬ Dg x → c ≠ x := fun x h1 h2 z => by
    subst z
    exact hc.elim h1 h2
  have hv : PrIs CB C (D ++ 32 :: t) 0 0 pp 24 := by
    refine pr_int hl (w := [c]) (by rw [hsl, hcr]; rfl) ?_ ?_ (lookNo (ne 84 (by decide) (fun z => by unfold Dg at z; omega)) (ne 70 (by decide) (fun z => by unfold Dg at z; omega)) (ne 78 (by decide) (fun z => by unfold Dg at z; omega))) hs
    · intro z
      exact ne 34 (by decide) (fun z => by unfold Dg at z; omega) (List.cons.inj z).1
    · intro z
      exact ne 40 (by decide) (fun z => by unfold Dg at z; omega) (List.cons.inj z).1
  have hR : ∀ d R, pp = .ok d R → R = 32 :: t := fun d R z => by
    cases hi <;> cases z <;> rfl
  have hrd := read_plain hl (fun d R z => by rw [hR d R z]; simp) hv
  cases pp with
  | bad R =>
    refine ⟨["place"], [.int (((D ++ 32 :: t).length : Nat) - (R.length : Nat))], hrd.mono ?_⟩
    rintro ⟨x, os⟩ ⟨h1, h2⟩
    exact Prod.ext h2 h1
  | ok d R =>
    obtain rfl := hR d R rfl
    refine ⟨["place"], [.int (((D ++ 32 :: t).length : Nat) - ((32 :: t).length : Nat))], hrd.mono ?_⟩
    rintro ⟨x, os⟩ ⟨h1, h2⟩
    exact Prod.ext h2 h1
theorem dg_num {s : Nat} {D1 D2 : List Nat} (h : TL.numL s = D1 ++ D2) : (∀ d ∈ D1, Dg d) ∧ ∀ d ∈ D2, Dg d :=
  ⟨fun d hd => Tx.digits_le d (by rw [h]; exact List.mem_append_left _ hd), fun d hd => Tx.digits_le d (by rw [h]; exact List.mem_append_right _ hd)⟩
theorem no32_dg {D : List Nat} (h : ∀ d ∈ D, Dg d) : 32 ∉ D := fun z => by
  have := h 32 z
  unfold Dg at this
  omega
theorem chk_set {n b k x c : Nat} {t1 t2 : List Nat} (hk : t1.length + 1 ≤ 701) (hx : x < 128) (hc : c < 128) (h : c ≠ x) : chk n b (t1 ++ c :: t2) ≠ chk n b (t1 ++ x :: t2) := by
  unfold chk W
  rw [wn_app, wn_app]
  show (b + n + (wn 0 t1 + ((0 + t1.length + 1) * c + wn _ t2))) % 99991 ≠ (b + n + (wn 0 t1 + ((0 + t1.length + 1) * x + wn _ t2))) % 99991
  generalize wn 0 t1 = u
  generalize wn _ t2 = v
  rw [Nat.zero_add]
  have hm : 1 ≤ t1.length + 1 := by omega
  generalize t1.length + 1 = m at hk hm ⊢
  rcases Nat.lt_or_gt_of_ne h with q | q
  · obtain ⟨y, rfl⟩ : ∃ y, x = c + y := ⟨x - c, by omega⟩
    have h1 : m * y ≤ 701 * 128 := Nat.mul_le_mul hk (by omega)
    have h2 : 1 * 1 ≤ m * y := Nat.mul_le_mul hm (by omega)
    rw [Nat.mul_add]
    generalize m * y = z at h1 h2
    generalize m * c = z2
    omega
  · obtain ⟨y, rfl⟩ : ∃ y, c = x + y := ⟨c - x, by omega⟩
    have h1 : m * y ≤ 701 * 128 := Nat.mul_le_mul hk (by omega)
    have h2 : 1 * 1 ≤ m * y := Nat.mul_le_mul hm (by omega)
    rw [Nat.mul_add]
    generalize m * y = z at h1 h2
    generalize m * x = z2
    omega
theorem chk_more {n b : Nat} {t : List Nat} (hk : t.length + 1 ≤ 701) : chk n b (t ++ [32]) ≠ chk n b t := by
  unfold chk
  rw [W_snoc]
  generalize W t = u
  omega
end
end K39

set_option Elab.async false
set_option linter.all false
set_option maxRecDepth 100000
namespace K39
open PySem PySem.Spec PyProof.Rows L2 Mi Lw
open Tx (Tk flat tkOf digI r1 r2 veil vl Cl spk)
open SX (S)
section
variable {CB C : Addr}
theorem num1 {n : Nat} (h : n < 10) : TL.numL n = [48 + n] := TL.numL_lt h
theorem bad_sp {n b : Nat} {t : List Nat} {c : Nat} (h40 : ∃ t0, t = 40 :: t0) (hc : c ≠ 32) : Bad CB C n b (TL.numL n ++ 32 :: (TL.numL (chk n b t) ++ c :: t)) := by
  generalize chk n b t = s
  have h32s : ∀ a : List Nat, 32 ∉ a → 32 ∉ TL.numL s ++ c :: a := fun a ha z => by
    rcases List.mem_append.mp z with z | z
    · exact no32 s z
    · exact (List.mem_cons.mp z).elim (fun z => hc z.symm) ha
  by_cases h : 32 ∈ t
  · obtain ⟨a, r, e, ha⟩ := cut_at h
    have hq : TL.numL n ++ 32 :: (TL.numL s ++ c :: t) = TL.numL n ++ 32 :: ((TL.numL s ++ c :: a) ++ 32 :: r) := by rw [e]; simp
    rw [hq]
    refine bad_q (no32 n) (h32s a ha) fun z => ?_
    have h4 : 40 ∈ TL.numL s ++ c :: a := by
      obtain ⟨t0, e0⟩ := h40
      cases a with
      | nil => rw [e0] at e; cases e
      | cons y a =>
        rw [e0] at e
        cases e
        simp
    rw [z] at h4
    have := Tx.digits_le 40 h4
    omega
  · exact bad_q1 (no32 n) (h32s t h)
theorem bad_set {n b x c : Nat} {t l1 l2 : List Nat} (hn : n < 10) (ht : t.length ≤ 700) (hch : ∀ y ∈ t, y < 128) (h40 : ∃ t0, t = 40 :: t0) (hc : c < 128) (e : ln n (chk n b t) t = l1 ++ x :: l2) (hne : c ≠ x) : Bad CB C n b (l1 ++ c :: l2) := by
  unfold ln at e
  rw [num1 hn] at e
  cases l1 with
  | nil =>
    cases e
    by_cases h : c = 32
    · subst h
      exact bad_p (p := []) List.not_mem_nil (fun z => TL.numL_ne n z.symm)
    · refine bad_p (p := [c]) (r := TL.numL (chk n b t) ++ 32 :: t) (by simp; exact fun z => h z.symm) fun z => ?_
      rw [num1 hn] at z
      exact hne (List.cons.inj z).1
  | cons y l1 =>
    have e' : (48 + n) :: 32 :: (TL.numL (chk n b t) ++ 32 :: t) = y :: (l1 ++ x :: l2) := e
    injection e' with e1 e2
    subst e1
    cases l1 with
    | nil =>
      cases e2
      have hq : [48 + n] ++ c :: (TL.numL (chk n b t) ++ 32 :: t) = ((48 + n) :: c :: TL.numL (chk n b t)) ++ 32 :: t := rfl
      rw [hq]
      refine bad_p ?_ fun z => ?_
      · intro z
        rcases List.mem_cons.mp z with z | z
        · omega
        · exact (List.mem_cons.mp z).elim (fun z => hne z.symm) (no32 _)
      · rw [num1 hn] at z
        cases z
    | cons y l1 =>
      have e' : 32 :: (TL.numL (chk n b t) ++ 32 :: t) = y :: (l1 ++ x :: l2) := e2
      clear e2
      injection e' with e1 e4
      subst e1
      have fin : l1 = TL.numL (chk n b t) → x = 32 → l2 = t → Bad CB C n b ((48 + n) :: 32 :: l1 ++ c :: l2) := fun h1 h2 h3 => by
        subst h1 h2 h3
        have := bad_sp (CB := CB) (C := C) (n := n) (b := b) h40 hne
        rw [num1 hn] at this
        exact this
      rcases List.append_eq_append_iff.mp e4 with ⟨a, h1, h2⟩ | ⟨a, h1, h2⟩
      · cases a with
        | nil =>
          cases h2
          exact fin (by rw [h1, List.append_nil]) rfl rfl
        | cons z a =>
          have e' : 32 :: t = z :: (a ++ x :: l2) := h2
          injection e' with e1 e3
          subst e1
          have hq : (48 + n) :: 32 :: l1 ++ c :: l2 = TL.numL n ++ 32 :: (TL.numL (chk n b t) ++ 32 :: (a ++ c :: l2)) := by rw [num1 hn, h1]; simp
          rw [hq]
          refine bad_q (no32 n) (no32 _) fun z => ?_
          have hz := TL.numL_inj z
          rw [e3] at hz ht hch
          exact chk_set (k := 0) (by simp at ht ⊢; omega) (hch x (by simp)) hc hne hz.symm
      · cases a with
        | nil =>
          cases h2
          exact fin (by rw [h1, List.append_nil]) rfl rfl
        | cons z a =>
          have e' : x :: l2 = z :: (a ++ 32 :: t) := h2
          injection e' with e1 e3
          subst e1 e3
          have hd := dg_num h1
          by_cases h : c = 32
          · subst h
            have hq : (48 + n) :: 32 :: l1 ++ 32 :: (a ++ 32 :: t) = TL.numL n ++ 32 :: (l1 ++ 32 :: (a ++ 32 :: t)) := by rw [num1 hn]; simp
            rw [hq]
            have hal : a.length ≤ 6 := by
              have := numL_le (n := chk n b t) (by have := chk_lt n b t; omega)
              rw [h1] at this
              simp at this
              omega
            refine .inr ⟨TL.numL n, l1, a ++ 32 :: t, by rw [Tx.spk_cut (no32 n), Tx.spk_cut (no32_dg hd.1), Tx.spk_zero], .inr (.inr (.inl ?_))⟩
            exact raises (fun d hd' => hd.2 d (List.mem_cons_of_mem _ hd')) (by simp; omega)
          · have hq : (48 + n) :: 32 :: l1 ++ c :: (a ++ 32 :: t) = TL.numL n ++ 32 :: ((l1 ++ c :: a) ++ 32 :: t) := by rw [num1 hn]; simp
            rw [hq]
            refine bad_q (no32 n) ?_ fun z => ?_
            · intro z
              rcases List.mem_append.mp z with z | z
              · exact no32_dg hd.1 z
              · rcases List.mem_cons.mp z with z | z
                · exact h z.symm
                · exact no32_dg hd.2 (List.mem_cons_of_mem _ z)
            · rw [h1] at z
              exact hne (List.cons.inj (List.append_cancel_left z)).1
end
end K39

set_option Elab.async false
set_option linter.all false
set_option maxRecDepth 100000
namespace K39
open PySem PySem.Spec PyProof.Rows L2 Mi Lw
open Tx (Tk flat tkOf digI r1 r2 veil vl Cl spk)
open SX (S)
def jn (ls : List (List Nat)) : List Nat := (ls.map fun l => l ++ [10]).flatten
theorem jn_cons (l : List Nat) (ls : List (List Nat)) : jn (l :: ls) = l ++ 10 :: jn ls := by simp [jn]
theorem jn_app (a b : List (List Nat)) : jn (a ++ b) = jn a ++ jn b := by simp [jn]
theorem sz_app (a b : List (List Nat)) : sz (a ++ b) = sz a + sz b := by simp [sz]
theorem jn_len (ls : List (List Nat)) : (jn ls).length = sz ls := by
  induction ls with
  | nil => rfl
  | cons l ls ih =>
    rw [jn_cons, List.length_append, List.length_cons, ih]
    simp [sz]
    omega
theorem spl_jn : ∀ (ls : List (List Nat)) (t : List Nat), (∀ l ∈ ls, 10 ∉ l) → 10 ∉ t → TL.spl [10] 0 [] (jn ls ++ t) = ls ++ [t]
  | [], t, _, h => by
    show TL.spl [10] 0 [] t = _
    rw [TL.spl_last1 h]
    rfl
  | l :: ls, t, h, h2 => by
    have e : jn (l :: ls) ++ t = l ++ ((10 :: []) ++ (jn ls ++ t)) := by rw [jn_cons]; simp
    rw [e, TL.spl_part1 (h l (List.mem_cons_self ..)), spl_jn ls t (fun x hx => h x (List.mem_cons_of_mem _ hx)) h2]
    rfl
/-- the text's lines -/
theorem pieces {ls : List (List Nat)} {t : List Nat} (h : ∀ l ∈ ls, 10 ∉ l) (h2 : 10 ∉ t) : (TL.spl [10] 0 [] (jn ls ++ t)).dropLast = ls := by
  rw [spl_jn ls t h h2, List.dropLast_concat]
theorem lf_take2 : ∀ (es : List D) (n b k : Nat), lf n b (es.take k) = (lf n b es).take k
  | [], n, b, k => by simp [lf]
  | e :: es, n, b, 0 => rfl
  | e :: es, n, b, k + 1 => by
    show lf n b (e :: es.take k) = _
    show _ :: lf (n + 1) _ (es.take k) = _ :: (lf (n + 1) _ es).take k
    rw [lf_take2 es]
def stl (ls : List (List Nat)) : List D := ls.map fun l => D.str (S l)
theorem cut_take {α : Type} (xs : List α) {k : Nat} (hk : k ≤ xs.length) : Mi.cutD xs none (some (k : Int)) = xs.take k := by
  unfold Mi.cutD
  have h0 : HT.sIx xs.length 0 none = 0 := rfl
  have h1 : HT.sIx xs.length xs.length (some (k : Int)) = k := by rw [HT.sIx_nat, Nat.min_eq_left hk]
  rw [h0, h1]
  simp
theorem cut_drop {α : Type} (xs : List α) {k : Nat} (hk : k ≤ xs.length) : Mi.cutD xs (some (k : Int)) none = xs.drop k := by
  unfold Mi.cutD
  have h0 : HT.sIx xs.length 0 (some (k : Int)) = k := by rw [HT.sIx_nat, Nat.min_eq_left hk]
  have h1 : HT.sIx xs.length xs.length none = xs.length := rfl
  rw [h0, h1, List.take_of_length_le (by rw [List.length_drop]; exact Nat.le_refl _)]
theorem drop_jn {ls : List (List Nat)} {T T' : List Nat} {k i : Nat} (e : T = jn (ls.take k) ++ T') (hi : i ≤ k) (hk : k ≤ ls.length) : T.drop (sz (ls.take i)) = jn ((ls.take k).drop i) ++ T' := by
  have h1 : ls.take k = ls.take i ++ (ls.take k).drop i := by
    have := (List.take_append_drop i (ls.take k)).symm
    rw [List.take_take, Nat.min_eq_left hi] at this
    exact this
  have h2 : T = jn (ls.take i) ++ (jn ((ls.take k).drop i) ++ T') := by
    rw [e]
    conv => lhs; rw [h1]
    rw [jn_app, List.append_assoc]
  rw [h2, ← jn_len, List.drop_left]
theorem due_spec {es : List D} {ls : List (List Nat)} {oe ol : O} {T T' : List Nat} {k : Nat} (hoe : Lo es oe) (hol : Lo (stl ls) ol) (hT : T.length ≤ 100000) (hl : ls.length ≤ 100) (hel : es.length = ls.length) (hs : sz ls ≤ 100000) (hk : k ≤ ls.length) (e : T = jn (ls.take k) ++ T')
    (hne : ∀ h : k < ls.length, T'.take (ls[k].length + 1) ≠ ls[k] ++ [10]) :
    Ev (m__law_due [oe, ol, .fr (.str (S T))]) fun p => p = (.fr (.tup [.tup (es.take k), .int ((sz (ls.take k) : Nat) : Int)]), [.fr (.lst es), .fr (.lst (stl ls)), .fr (.str (S T))]) := by
  have hget : ∀ (i : Nat) (h : i < ls.length) (h2 : i < (stl ls).length), (stl ls)[i] = .str (S ls[i]) := fun i h h2 => by simp [stl]
  have hll : (stl ls).length = ls.length := by simp [stl]
  have hTs : (S T).length ≤ sizeLine := sizeT hT
  have szi : ∀ i, sz (ls.take i) ≤ sz ls := fun i => by
    have : sz ls = sz (ls.take i) + sz (ls.drop i) := by
      rw [← sz_app, List.take_append_drop]
    omega
  have szl : ∀ (i : Nat) (h : i < ls.length), sz (ls.take (i + 1)) = sz (ls.take i) + (ls[i].length + 1) := fun i h => by
    rw [List.take_succ, List.getElem?_eq_getElem h]
    exact sz_snoc _ _
  have head : ∀ (i : Nat) (h : i < ls.length) (oe' : O) (y : Option O), Ev (gN 5 (.fr (.str (S ls[i]))) [some oe', some (.fr (.lst (stl ls))), some (.fr (.str (S T))), some (.fr (.int (i : Nat))), some (.fr (.int ((sz (ls.take i) : Nat) : Int))), y]) fun g1 => Ev (b__law_due_1 g1) fun x =>
      if (T.drop (sz (ls.take i))).take (ls[i].length + 1) = ls[i] ++ [10] then x = .nx [some oe', some (.fr (.lst (stl ls))), some (.fr (.str (S T))), some (.fr (.int ((i + 1 : Nat) : Int))), some (.fr (.int ((sz (ls.take (i + 1)) : Nat) : Int))), some (.fr (.str (S ls[i])))]
      else x = .bk [some oe', some (.fr (.lst (stl ls))), some (.fr (.str (S T))), some (.fr (.int (i : Nat))), some (.fr (.int ((sz (ls.take i) : Nat) : Int))), some (.fr (.str (S ls[i])))] := by
    intro i h oe' y
    have hz := szi (i + 1)
    have hz1 := szl i h
    have hL := dLenS (T := ls[i]) (n := (ls[i].length : Nat)) (by omega) rfl
    have hA : dAdd (.str (S ls[i])) (.str (S [10])) = some (.fr (.str (S (ls[i] ++ [10])))) := dAddS (by simp; omega)
    have hsl : Txt.slice (S T) (some ((sz (ls.take i) : Nat) : Int)) (some (((sz (ls.take i) : Nat) : Int) + (ls[i].length : Nat) + 1)) = S ((T.drop (sz (ls.take i))).take (ls[i].length + 1)) := by
      have e1 : ((sz (ls.take i) : Nat) : Int) + ((ls[i].length : Nat) : Int) + 1 = ((sz (ls.take i) + (ls[i].length + 1) : Nat) : Int) := by omega
      rw [e1, Tx.slice_S, Nat.add_sub_cancel_left]
    rw [hz1]
    generalize (T.drop (sz (ls.take i))).take (ls[i].length + 1) = w at hsl ⊢
    generalize sz (ls.take i) = a at hsl ⊢
    generalize ls[i] = l at hL hA hsl ⊢
    by_cases q : w = l ++ [10]
    · subst q
      simp [b__law_due_1, hTs, hL, nl_S, hA, hsl, neS]
      omega
    · simp [b__law_due_1, hTs, hL, nl_S, hA, hsl, neS, q]
  have hcut : Mi.cutD es none (some (k : Int)) = es.take k := cut_take es (by omega)
  have good : ∀ (i : Nat) (h : i < k), (T.drop (sz (ls.take i))).take (ls[i].length + 1) = ls[i] ++ [10] := fun i h => by
    rw [drop_jn e (Nat.le_of_lt h) hk]
    have h3 : (ls.take k).drop i = ls[i] :: (ls.take k).drop (i + 1) := by
      rw [List.drop_eq_getElem_cons (by rw [List.length_take]; omega)]
      simp
    rw [h3, jn_cons]
    have h4 : ls[i] ++ 10 :: jn ((ls.take k).drop (i + 1)) ++ T' = (ls[i] ++ [10]) ++ (jn ((ls.take k).drop (i + 1)) ++ T') := by simp
    rw [h4, show ls[i].length + 1 = (ls[i] ++ [10]).length by simp, List.take_left]
  have fin : ∀ (oe' : O), Lo es oe' → ∀ y, Ev (sRet (xTup (aCons (oE (xAN dTupOf (aCons (oE (xSl (oE (eVar 0)) pNo (pEx (oVar 3)))) aNil))) (aCons (oE (eVar 4)) aNil))) [some oe', some (.fr (.lst (stl ls))), some (.fr (.str (S T))), some (.fr (.int (k : Nat))), some (.fr (.int ((sz (ls.take k) : Nat) : Int))), y]) fun x => x = .rt (.fr (.tup [.tup (es.take k), .int ((sz (ls.take k) : Nat) : Int)])) [some (.fr (.lst es)), some (.fr (.lst (stl ls))), some (.fr (.str (S T))), some (.fr (.int (k : Nat))), some (.fr (.int ((sz (ls.take k) : Nat) : Int))), y] := by
    intro oe' ho y
    have hd : dSl (.lst es) none (some (k : Int)) = some (.lst ((es.take k).map O.fr)) := by
      show some (O.lst ((Mi.cutD es none (some (k : Int))).map O.fr)) = _
      rw [hcut]
    generalize es.take k = ek at hd ⊢
    rcases ho with rfl | rfl
    · simp [hd, dTupOf]
    · simp [hd, dTupOf]
  have main : ∀ oe', Lo es oe' → Ev (forL (gN 5) b__law_due_1 (stl ls) [some oe', some (.fr (.lst (stl ls))), some (.fr (.str (S T))), some (.fr (.int 0)), some (.fr (.int 0)), none]) fun x => ∃ y, x = .nx [some oe', some (.fr (.lst (stl ls))), some (.fr (.str (S T))), some (.fr (.int (k : Nat))), some (.fr (.int ((sz (ls.take k) : Nat) : Int))), y] := by
    intro oe' _
    obtain ⟨P, hP⟩ : ∃ P : Nat → G → Prop, P = fun i g => ∃ y, g = [some oe', some (.fr (.lst (stl ls))), some (.fr (.str (S T))), some (.fr (.int (i : Nat))), some (.fr (.int ((sz (ls.take i) : Nat) : Int))), y] := ⟨_, rfl⟩
    have p0 : P 0 [some oe', some (.fr (.lst (stl ls))), some (.fr (.str (S T))), some (.fr (.int 0)), some (.fr (.int 0)), none] := by rw [hP]; exact ⟨none, rfl⟩
    have turn : ∀ i, i < k → ∀ (h : i < ls.length) g, P i g → Ev (gN 5 (.fr (.str (S ls[i]))) g) fun g1 => Ev (b__law_due_1 g1) (Mi.Turn (P (i + 1))) := by
      intro i hi h g p
      rw [hP] at p
      obtain ⟨y, rfl⟩ := p
      refine (head i h oe' y).mono fun g1 q => q.mono fun x q => ?_
      rw [if_pos (good i hi)] at q
      subst q
      rw [hP]
      exact ⟨_, rfl⟩
    by_cases hkl : k < ls.length
    · refine forL_out (m := k) (P := P) (by omega) p0 (fun i hi g p => ?_) fun g p => ?_
      · rw [hget i (by omega) (by omega)]
        exact turn i hi (by omega) g p
      · rw [hget k hkl (by omega)]
        rw [hP] at p
        obtain ⟨y, rfl⟩ := p
        refine (head k hkl oe' y).mono fun g1 q => q.mono fun x q => ?_
        rw [if_neg (by
          rw [drop_jn e (Nat.le_refl _) hk]
          have h3 : (ls.take k).drop k = [] := by rw [List.drop_eq_nil_iff, List.length_take]; omega
          rw [h3]
          exact hne hkl)] at q
        subst q
        exact ⟨_, rfl⟩
    · have hk' : k = ls.length := by omega
      refine (forL_idx (P := P) p0 fun i hi g p => ?_).mono ?_
      · rw [hget i (by omega) hi]
        exact turn i (by omega) (by omega) g p
      · rintro x ⟨g, rfl, q⟩
        rw [hP, hll, ← hk'] at q
        obtain ⟨y, rfl⟩ := q
        exact ⟨y, rfl⟩
  have m1 := main oe hoe
  have f1 := fin oe hoe
  rcases hoe with rfl | rfl <;> rcases hol with rfl | rfl <;>
  · simp [m__law_due, ev_runF, b__law_due]
    refine Ev.mono m1 ?_
    rintro _ ⟨y, rfl⟩
    refine (f1 y).mono ?_
    rintro _ rfl
    simp
end K39

set_option Elab.async false
set_option linter.all false
set_option maxRecDepth 100000
namespace K39
open PySem PySem.Spec PyProof.Rows L2 Mi Lw
open Tx (Tk flat tkOf digI r1 r2 veil vl Cl spk)
open SX (S)
section
variable {CB C : Addr}
theorem ln10 {n s : Nat} {t : List Nat} (h : 10 ∉ t) : 10 ∉ ln n s t := fun z => by
  unfold ln at z
  have n10 : ∀ k, 10 ∉ TL.numL k := fun k => TL.numL_free (by decide)
  rcases List.mem_append.mp z with z | z
  · exact n10 _ z
  · rcases List.mem_cons.mp z with z | z
    · omega
    · rcases List.mem_append.mp z with z | z
      · exact n10 _ z
      · rcases List.mem_cons.mp z with z | z
        · omega
        · exact h z
theorem pl10 {d : D} (h : Pl d) : 10 ∉ tx d := fun z => by
  have := h.ch 10 z
  unfold Ch at this
  omega
theorem lf10 : ∀ {es : List D} {n b : Nat}, (∀ d ∈ es, Pl d) → ∀ l ∈ lf n b es, 10 ∉ l
  | [], _, _, _, l, h => by cases h
  | e :: es, n, b, hp, l, h => by
    rcases List.mem_cons.mp h with rfl | h
    · exact ln10 (pl10 (hp e (List.mem_cons_self ..)))
    · exact lf10 (fun d hd => hp d (List.mem_cons_of_mem _ hd)) l h
/-- a text that tells k right lines and then none -/
def Shf (CB C : Addr) (es : List D) (T : List Nat) : Prop := T.length ≤ 100000 ∧ ∃ k T', k ≤ es.length ∧ T = jn ((lf 0 0 es).take k) ++ T' ∧ (10 ∉ T' ∨ ∃ l r, T' = jn (l :: r) ∧ (∀ x ∈ l :: r, 10 ∉ x) ∧ l.length ≤ 10000 ∧ Bad CB C k (bef 0 0 (es.take k)) l)
theorem shf_of {es : List D} {ls rest : List (List Nat)} {i : Nat} (hp : ∀ d ∈ es, Pl d) (hi : i ≤ es.length) (e : ls = (lf 0 0 es).take i ++ rest) (hs : sz ls ≤ 100000) (h10 : ∀ x ∈ rest, 10 ∉ x) (h : ∀ l r, rest = l :: r → l.length ≤ 10000 ∧ Bad CB C i (bef 0 0 (es.take i)) l) : Shf CB C es (jn ls) := by
  refine ⟨by rw [jn_len]; exact hs, i, jn rest, hi, by rw [e, jn_app], ?_⟩
  cases rest with
  | nil => exact .inl List.not_mem_nil
  | cons l r => exact .inr ⟨l, r, rfl, h10, h l r rfl⟩
theorem trunc : ∀ (ls : List (List Nat)) (m : Nat), (∀ l ∈ ls, 10 ∉ l) → ∃ k T', k ≤ ls.length ∧ (jn ls).take m = jn (ls.take k) ++ T' ∧ 10 ∉ T'
  | [], m, _ => ⟨0, [], Nat.le_refl _, by simp [jn], List.not_mem_nil⟩
  | l :: r, m, h => by
    rw [jn_cons]
    by_cases q : m ≤ l.length
    · refine ⟨0, l.take m, Nat.zero_le _, ?_, fun z => h l (List.mem_cons_self ..) (List.mem_of_mem_take z)⟩
      rw [List.take_append_of_le_length q]
      rfl
    · obtain ⟨x, rfl⟩ : ∃ x, m = l.length + (1 + x) := ⟨m - l.length - 1, by omega⟩
      obtain ⟨k, T', hk, e, h10⟩ := trunc r x fun y hy => h y (List.mem_cons_of_mem _ hy)
      refine ⟨k + 1, T', by simp; omega, ?_, h10⟩
      rw [List.take_length_add_append, Nat.add_comm 1 x, List.take_succ_cons, e, List.take_succ_cons, jn_cons]
      simp
theorem shf_trunc {es : List D} {m : Nat} (hp : ∀ d ∈ es, Pl d) (hs : sz (lf 0 0 es) ≤ 100000) : Shf CB C es ((jn (lf 0 0 es)).take m) := by
  obtain ⟨k, T', hk, e, h⟩ := trunc (lf 0 0 es) m (lf10 hp)
  rw [lf_len] at hk
  refine ⟨by rw [List.length_take, jn_len]; omega, k, T', hk, e, .inl h⟩
theorem oks_take {es : List D} (h : Oks CB C es) (k : Nat) : Oks CB C (es.take k) :=
  ⟨by rw [List.length_take]; have := h.len; omega, fun d hd => h.pl d (List.mem_of_mem_take hd), fun d hd => h.nn d (List.mem_of_mem_take hd), fun i hi => by
    rw [List.length_take] at hi
    have := h.rt i (by omega)
    rw [List.getElem_take]
    exact this⟩
theorem not_bad {es : List D} (h : Oks CB C es) {k : Nat} (hk : k < es.length) : ¬ Bad CB C k (bef 0 0 (es.take k)) (lk es k hk) := fun hb => by
  have hd := h.pl es[k] (List.getElem_mem hk)
  have hl := lk_len hk h.pl h.len
  have h1 := entry_no (CB := CB) (C := C) (l := lk es k hk) (by omega) (by have := h.len; omega) hb
  have h2 := entry_ok (CB := CB) (C := C) (n := k) (b := bef 0 0 (es.take k)) (l := lk es k hk) (r := true) (by omega) (by have := h.len; omega) (spk_ln _ _ _) rfl rfl (read_back hd.vd (by decide) (Nat.le_trans hd.len (by decide)) hd.ch) (h.rt k hk)
  obtain ⟨p, e1, q1⟩ := h1
  obtain ⟨p2, e2, q2⟩ := h2
  rw [e1] at e2
  cases e2
  rw [q1] at q2
  injection q2 with q3
  rw [if_pos rfl] at q3
  injection q3 with q3
  have := h.nn es[k] (List.getElem_mem hk)
  rw [← q3] at this
  cases this
theorem both_ways {es : List D} {T : List Nat} (h : Oks CB C es) (hs : sz (lf 0 0 es) ≤ 100000) (ht : Shf CB C es T) : ∃ k, k ≤ es.length ∧ (Ev (m_read_journal CB C [.fr (.str (S T))]) fun p => p = (.fr (.tup [.tup (es.take k), .int ((sz ((lf 0 0 es).take k) : Nat) : Int)]), [.fr (.str (S T))])) ∧
    ∀ oe ol, Lo es oe → Lo (stl (lf 0 0 es)) ol → Ev (m__law_due [oe, ol, .fr (.str (S T))]) fun p => p = (.fr (.tup [.tup (es.take k), .int ((sz ((lf 0 0 es).take k) : Nat) : Int)]), [.fr (.lst es), .fr (.lst (stl (lf 0 0 es))), .fr (.str (S T))]) := by
  obtain ⟨hT, k, T', hk, e, hb⟩ := ht
  have h10 := lf10 (n := 0) (b := 0) h.pl
  have hlen : (es.take k).length = k := by rw [List.length_take, Nat.min_eq_left hk]
  refine ⟨k, hk, ?_, fun oe ol h1 h2 => due_spec h1 h2 hT (by rw [lf_len]; exact h.len) (by rw [lf_len]) hs (by rw [lf_len]; exact hk) e fun hkl z => ?_⟩
  · rw [← lf_take2]
    rcases hb with hb | ⟨l, r, e2, e3, e4, e5⟩
    · refine journal (oks_take h k) hT (rest := []) ?_ (fun l r z => by cases z)
      rw [e, pieces (fun l hl => h10 l (List.mem_of_mem_take hl)) hb, lf_take2, List.append_nil]
    · refine journal (oks_take h k) hT (rest := l :: r) ?_ (fun l' r' z => by cases z; rw [hlen]; exact ⟨e4, e5⟩)
      have e6 : T = jn ((lf 0 0 es).take k ++ (l :: r)) ++ [] := by rw [e, e2, jn_app, List.append_nil]
      rw [e6, pieces (fun x hx => ?_) List.not_mem_nil, lf_take2]
      rcases List.mem_append.mp hx with hx | hx
      · exact h10 x (List.mem_of_mem_take hx)
      · exact e3 x hx
  · rw [lf_len] at hkl
    have hg : (lf 0 0 es)[k]'(by rw [lf_len]; exact hkl) = lk es k hkl := Option.some.inj ((List.getElem?_eq_getElem _).symm.trans (lf_get hkl))
    rw [hg] at z
    have hm : 10 ∈ T' := List.mem_of_mem_take (i := (lk es k hkl).length + 1) (by rw [z]; simp)
    rcases hb with hb | ⟨l, r, e2, e3, e4, e5⟩
    · exact hb hm
    · rw [e2, jn_cons] at z
      have hl10 : 10 ∉ l := e3 l (List.mem_cons_self ..)
      have hk10 : 10 ∉ lk es k hkl := ln10 (pl10 (h.pl _ (List.getElem_mem hkl)))
      have : l = lk es k hkl := by
        have h3 : l ++ 10 :: jn r = lk es k hkl ++ 10 :: (l ++ 10 :: jn r).drop ((lk es k hkl).length + 1) := by
          have := (List.take_append_drop ((lk es k hkl).length + 1) (l ++ 10 :: jn r)).symm
          rw [z] at this
          simpa using this
        generalize (l ++ 10 :: jn r).drop ((lk es k hkl).length + 1) = y at h3
        have s1 := TL.spl_part1 (s := 10) (S := []) (acc := []) (rest := jn r) hl10
        have s2 := TL.spl_part1 (s := 10) (S := []) (acc := []) (rest := y) hk10
        have s3 : l ++ ([10] ++ jn r) = lk es k hkl ++ ([10] ++ y) := h3
        rw [s3, s2] at s1
        exact (List.cons.inj s1).1.symm
      rw [this] at e5
      exact not_bad h hkl e5
end
end K39

set_option Elab.async false
set_option linter.all false
set_option maxRecDepth 100000
namespace K39
open PySem PySem.Spec PyProof.Rows L2 Mi Lw
open Tx (Tk flat tkOf digI r1 r2 veil vl Cl spk)
open SX (S)
theorem join_flat : ∀ ps : List (List Nat), TL.joinL [] ps = ps.flatten
  | [] => rfl
  | [p] => by simp [TL.joinL]
  | p :: q :: r => by
    show p ++ ([] ++ TL.joinL [] (q :: r)) = _
    rw [join_flat (q :: r)]
    rfl
def nls (ls : List (List Nat)) : List D := ls.map fun l => D.str (S (l ++ [10]))
theorem strsOf_nls : ∀ ls : List (List Nat), strsOf (nls ls) = some (ls.map fun l => S (l ++ [10]))
  | [] => rfl
  | l :: ls => by
    show (strsOf (nls ls)).map _ = _
    rw [strsOf_nls ls]
    rfl
theorem sum_nls (ls : List (List Nat)) : ((ls.map fun l => S (l ++ [10])).map (·.length)).sum = sz ls := by
  unfold sz
  rw [List.map_map]
  congr 1
  apply List.map_congr_left
  intro l _
  show (S (l ++ [10])).length = l.length + 1
  rw [SX.S_len]
  simp
theorem join_nls {ls : List (List Nat)} (h : sz ls ≤ 100000) : dJoin (S []) [.lst (nls ls)] = some (.str (S (jn ls))) := by
  have e1 := strsOf_nls ls
  have e2 := sum_nls ls
  have e3 : Txt.join (S []) (ls.map fun l => S (l ++ [10])) = S (jn ls) := by
    rw [TL.join_eq]
    apply TL.ext_tl
    rw [TL.tl_join]
    show TL.joinL [] ((ls.map fun l => S (l ++ [10])).map TL.tl) = jn ls
    rw [join_flat, List.map_map]
    rfl
  show ((strsOf (nls ls)).bind fun ys => if (ys.map (·.length)).sum + ys.length * (S []).length ≤ 16777216 then some (D.str (Txt.join (S []) ys)) else none) = _
  rw [e1]
  show (if ((ls.map fun l => S (l ++ [10])).map (·.length)).sum + (ls.map fun l => S (l ++ [10])).length * (S []).length ≤ 16777216 then some (D.str (Txt.join (S []) (ls.map fun l => S (l ++ [10])))) else none) = _
  rw [e2, e3, if_pos (by rw [SX.S_len]; simp; omega)]
theorem addN {l : List Nat} (h : l.length ≤ 10000) : dAdd (.str (S l)) (.str (S [10])) = some (.fr (.str (S (l ++ [10])))) := dAddS (by simp; omega)
def nlF : D → Option O := fun d => match d with
    | .str s => some (.fr (.str (s ++ S [10])))
    | _ => none
theorem filt_nls : ∀ ks : List (List Nat), (stl ks).filterMap nlF = (nls ks).map O.fr
  | [] => rfl
  | l :: ks => by
    show List.filterMap nlF (D.str (S l) :: stl ks) = O.fr (.str (S (l ++ [10]))) :: (nls ks).map O.fr
    rw [List.filterMap_cons]
    show O.fr (.str (S l ++ S [10])) :: List.filterMap nlF (stl ks) = _
    rw [filt_nls ks, SX.S_cat]
theorem lcN8 {ls : List (List Nat)} (hl : ls.length ≤ 1000) (h : ∀ l ∈ ls, l.length ≤ 10000) (s0 s1 s2 s3 s4 s5 s6 s7 y : Option O) : Ev (lcL (gN 8) xYes (xA2 dAdd (oE (eVar 8)) (oE (eC (.str (S [10]))))) [8] (stl ls) [s0, s1, s2, s3, s4, s5, s6, s7, y] []) fun q => q.1 = (nls ls).map O.fr ∧ ∃ z, q.2 = [s0, s1, s2, s3, s4, s5, s6, s7, z] := by
  refine (lcL_go (P := fun g => ∃ z, g = [s0, s1, s2, s3, s4, s5, s6, s7, z]) (f := nlF) ⟨y, rfl⟩ ?_ ?_).mono ?_
  · rintro d hd g ⟨z, rfl⟩
    obtain ⟨l, hl2, rfl⟩ := List.mem_map.mp hd
    have hA := addN (h l hl2)
    simp [wipeG, hA, SX.S_cat, nlF]
  · have : (1000 : Nat) ≤ sizeLine := by decide
    simp [stl]
    omega
  · rintro ⟨os, g⟩ ⟨h1, h2⟩
    refine ⟨?_, h2⟩
    rw [show os = _ from h1, List.nil_append]
    exact filt_nls ls
theorem lcN11 {ls : List (List Nat)} (hl : ls.length ≤ 1000) (h : ∀ l ∈ ls, l.length ≤ 10000) (s0 s1 s2 s3 s4 s5 s6 s7 s8 s9 s10 y : Option O) : Ev (lcL (gN 11) xYes (xA2 dAdd (oE (eVar 11)) (oE (eC (.str (S [10]))))) [11] (stl ls) [s0, s1, s2, s3, s4, s5, s6, s7, s8, s9, s10, y] []) fun q => q.1 = (nls ls).map O.fr ∧ ∃ z, q.2 = [s0, s1, s2, s3, s4, s5, s6, s7, s8, s9, s10, z] := by
  refine (lcL_go (P := fun g => ∃ z, g = [s0, s1, s2, s3, s4, s5, s6, s7, s8, s9, s10, z]) (f := nlF) ⟨y, rfl⟩ ?_ ?_).mono ?_
  · rintro d hd g ⟨z, rfl⟩
    obtain ⟨l, hl2, rfl⟩ := List.mem_map.mp hd
    have hA := addN (h l hl2)
    simp [wipeG, hA, SX.S_cat, nlF]
  · have : (1000 : Nat) ≤ sizeLine := by decide
    simp [stl]
    omega
  · rintro ⟨os, g⟩ ⟨h1, h2⟩
    refine ⟨?_, h2⟩
    rw [show os = _ from h1, List.nil_append]
    exact filt_nls ls
end K39

set_option Elab.async false
set_option linter.all false
set_option maxRecDepth 100000
namespace K39
open PySem PySem.Spec PyProof.Rows L2 Mi Lw
open Tx (Tk flat tkOf digI r1 r2 veil vl Cl spk)
open SX (S)
section
variable {CB C : Addr}
theorem em_S2 : Str.ofString "" = S [] := rfl
def SQ (CB C : Addr) (ds : List Int) (es : List D) (p : O × List O) : Prop := ∃ T a', 0 ≤ a' ∧ p = (.fr (.str (S T)), [bx ds a', .fr (.lst (stl (lf 0 0 es)))]) ∧ Shf CB C es T
structure Sm (es : List D) : Prop where
  pos : 0 < es.length
  le : es.length ≤ 8
  h40 : ∀ d ∈ es, ∃ t0, tx d = 40 :: t0
theorem lsT {ls : List (List Nat)} {m : Nat} (hm : m ≤ ls.length) : dSl (.lst (stl ls)) none (some ((m : Nat) : Int)) = some (.lst ((stl (ls.take m)).map O.fr)) := by
  show some (O.lst ((Mi.cutD (stl ls) none (some (m : Int))).map O.fr)) = _
  rw [cut_take _ (by unfold stl; rw [List.length_map]; exact hm)]
  simp [stl]
theorem lsD {ls : List (List Nat)} {m : Nat} (hm : m ≤ ls.length) : dSl (.lst (stl ls)) (some ((m : Nat) : Int)) none = some (.lst ((stl (ls.drop m)).map O.fr)) := by
  show some (O.lst ((Mi.cutD (stl ls) (some (m : Int)) none).map O.fr)) = _
  rw [cut_drop _ (by unfold stl; rw [List.length_map]; exact hm)]
  simp [stl]
theorem lsA {a b : List (List Nat)} (h : a.length + b.length ≤ 1000) : dAdd (.lst (stl a)) (.lst (stl b)) = some (.lst ((stl (a ++ b)).map O.fr)) := by
  have : (1000 : Nat) ≤ sizeLine := by decide
  show (if (stl a).length + (stl b).length ≤ sizeLine then some (O.lst ((stl a ++ stl b).map O.fr)) else none) = _
  rw [if_pos (by unfold stl; rw [List.length_map, List.length_map]; omega)]
  simp [stl]
/-- the end: the lines are joined -/
theorem shf_end {ds : List Int} {es : List D} {ls : List (List Nat)} {o : O} (ho : Lo (stl ls) o) (hl : ls.length ≤ 100) (hle : ∀ l ∈ ls, l.length ≤ 10000) (hs : sz ls ≤ 100000) {b c2 c3 c4 c5 c6 c7 : Option O} :
    Ev (sAsg (xMS dJoin (oE (eC (.str (PySem.Str.ofString "")))) (aCons (oE (eLc (iSeq (oE (eVar 1))) (gN 8) xYes (xA2 dAdd (oE (eVar 8)) (oE (eC (.str (PySem.Str.ofString "\n"))))) [8])) aNil)) (gN 7) [b, some o, c2, c3, c4, c5, c6, c7, none]) fun x => ∃ y, x = .nx [b, some (.fr (.lst (stl ls))), c2, c3, c4, c5, c6, some (.fr (.str (S (jn ls)))), y] := by
  have hj := join_nls hs
  have hc := lcN8 (ls := ls) (by omega) hle b (some (.fr (.lst (stl ls)))) c2 c3 c4 c5 c6 c7 none
  rcases ho with rfl | rfl
  · simp [em_S2, nl_S]
    refine Ev.mono hc ?_
    rintro ⟨os, g⟩ ⟨h1, z, rfl⟩
    simp at h1
    subst h1
    simp [wipeG, hj]
  · simp [em_S2, nl_S]
    refine Ev.mono hc ?_
    rintro ⟨os, g⟩ ⟨h1, z, rfl⟩
    simp at h1
    subst h1
    simp [wipeG, hj]
def shf_if : XS :=
  (sIf (xB (oE (xS2 dEq (oVar 3) (oE (eC (.int 0)))))) (sAsg (xA2 dAdd (oE (xSl (oE (eVar 1)) pNo (pEx (oVar 2)))) (oE (xSl (oE (eVar 1)) (pEx (oE (xA2 dAdd (oE (eVar 2)) (oE (eC (.int 1)))))) pNo))) (gN 1)) (sIf (xB (oE (xS2 dEq (oVar 3) (oE (eC (.int 1)))))) (sAsg (xA2 dAdd (oE (xSl (oE (eVar 1)) pNo (pEx (oE (xA2 dAdd (oE (eVar 2)) (oE (eC (.int 1)))))))) (oE (xSl (oE (eVar 1)) (pEx (oVar 2)) pNo))) (gN 1)) (sIf (xAnd (xB (oE (xS2 dEq (oVar 3) (oE (eC (.int 2)))))) (xB (oE (xS2 dLt (oE (xA2 dAdd (oE (eVar 2)) (oE (eC (.int 1))))) (oE (xSN dLen (aCons (oVar 1) aNil))))))) (sAsg (xA2 dAdd (oE (xA2 dAdd (oE (xSl (oE (eVar 1)) pNo (pEx (oVar 2)))) (oE (xLst (aCons (oE (xIx dIx oIx (oVar 1) (oE (xA2 dAdd (oE (eVar 2)) (oE (eC (.int 1))))))) (aCons (oE (xIx dIx oIx (oVar 1) (oVar 2))) aNil)))))) (oE (xSl (oE (eVar 1)) (pEx (oE (xA2 dAdd (oE (eVar 2)) (oE (eC (.int 2)))))) pNo))) (gN 1)) (sIf (xB (oE (xS2 dEq (oVar 3) (oE (eC (.int 3)))))) (sAsg (xA2 dAdd (oE (xA2 dAdd (oE (xSl (oE (eVar 1)) pNo (pEx (oVar 2)))) (oE (xLst (aCons (oE (xCall m__law_pick (aCons (oVar 0) (aCons (oE (xLst (aCons (oE (xA2 dAdd (oE (eC (.str (PySem.Str.ofString "0")))) (oE (xIx dIx oIx (oVar 1) (oVar 2))))) (aCons (oE (xA2 dAdd (oE (xA2 dAdd (oE (xA2 dAdd (oE (xA2 dAdd (oE (xIx dIx oIx (oVar 4) (oE (eC (.int 0))))) (oE (eC (.str (PySem.Str.ofString "  ")))))) (oE (xIx dIx oIx (oVar 4) (oE (eC (.int 1))))))) (oE (eC (.str (PySem.Str.ofString " ")))))) (oE (xIx dIx oIx (oVar 4) (oE (eC (.int 2))))))) (aCons (oE (xA2 dAdd (oE (xA2 dAdd (oE (xA2 dAdd (oE (xA2 dAdd (oE (xIx dIx oIx (oVar 4) (oE (eC (.int 0))))) (oE (eC (.str (PySem.Str.ofString " 0")))))) (oE (xIx dIx oIx (oVar 4) (oE (eC (.int 1))))))) (oE (eC (.str (PySem.Str.ofString " ")))))) (oE (xIx dIx oIx (oVar 4) (oE (eC (.int 2))))))) (aCons (oE (xA2 dAdd (oE (xIx dIx oIx (oVar 1) (oVar 2))) (oE (eC (.str (PySem.Str.ofString " ")))))) (aCons (oE (eC (.str (PySem.Str.ofString "")))) aNil))))))) aNil)))) aNil))))) (oE (xSl (oE (eVar 1)) (pEx (oE (xA2 dAdd (oE (eVar 2)) (oE (eC (.int 1)))))) pNo))) (gN 1)) (sIf (xB (oE (xS2 dEq (oVar 3) (oE (eC (.int 4)))))) (sSeq (sAsg (xS2 dMod (oE (xSN dIntOf (aCons (oE (xCall m__law_draw (aCons (oVar 0) (aCons (oE (eC (.int 900))) aNil)))) aNil))) (oE (xSN dLen (aCons (oE (xIx dIx oIx (oVar 1) (oVar 2))) aNil)))) (gN 5))
    (sSeq (sAsg (xCall m__law_pick (aCons (oVar 0) (aCons (oE (xLst (aCons (oE (eC (.str (PySem.Str.ofString "0")))) (aCons (oE (eC (.str (PySem.Str.ofString "1")))) (aCons (oE (eC (.str (PySem.Str.ofString "7")))) (aCons (oE (eC (.str (PySem.Str.ofString " ")))) (aCons (oE (eC (.str (PySem.Str.ofString "p")))) aNil))))))) aNil))) (gN 6))
    (sAsg (xA2 dAdd (oE (xA2 dAdd (oE (xSl (oE (eVar 1)) pNo (pEx (oVar 2)))) (oE (xLst (aCons (oE (xA2 dAdd (oE (xA2 dAdd (oE (xSl (oE (xIx dIx oIx (oVar 1) (oVar 2))) pNo (pEx (oVar 5)))) (oE (eVar 6)))) (oE (xSl (oE (xIx dIx oIx (oVar 1) (oVar 2))) (pEx (oE (xA2 dAdd (oE (eVar 5)) (oE (eC (.int 1)))))) pNo)))) aNil))))) (oE (xSl (oE (eVar 1)) (pEx (oE (xA2 dAdd (oE (eVar 2)) (oE (eC (.int 1)))))) pNo))) (gN 1)))) sNext)))))
def shf_rest : XS :=
  (sSeq (sAsg (xMS dJoin (oE (eC (.str (PySem.Str.ofString "")))) (aCons (oE (eLc (iSeq (oE (eVar 1))) (gN 8) xYes (xA2 dAdd (oE (eVar 8)) (oE (eC (.str (PySem.Str.ofString "\n"))))) [8])) aNil)) (gN 7))
    (sSeq (sIf (xB (oE (xS2 dEq (oVar 3) (oE (eC (.int 5)))))) (sRet (xSl (oE (eVar 7)) pNo (pEx (oE (xS2 dMod (oE (xSN dIntOf (aCons (oE (xCall m__law_draw (aCons (oVar 0) (aCons (oE (eC (.int 900))) aNil)))) aNil))) (oE (xA2 dAdd (oE (xSN dLen (aCons (oVar 7) aNil))) (oE (eC (.int 1)))))))))) sNext)
    (sSeq (sIf (xB (oE (xS2 dEq (oVar 3) (oE (eC (.int 6)))))) (sRet (xSl (oE (eVar 7)) pNo (pEx (oE (xS1 dNeg (oE (eC (.int 1)))))))) sNext)
    (sRet (eMove 7)))))
theorem shf_eq : b__law_shifted = sSeq (sAsg (xS2 dMod (oE (xSN dIntOf (aCons (oE (xCall m__law_draw (aCons (oVar 0) (aCons (oE (eC (.int 900))) aNil)))) aNil))) (oE (xSN dLen (aCons (oVar 1) aNil)))) (gN 2)) (sSeq (sAsg (xCall m__law_draw (aCons (oVar 0) (aCons (oE (eC (.int 9))) aNil))) (gN 3)) (sSeq (sAsg (xMA dSplit2 (oE (xIx dIx oIx (oVar 1) (oVar 2))) (aCons (oE (eC (.str (PySem.Str.ofString " ")))) (aCons (oE (eC (.int 2))) aNil))) (gN 4)) (sSeq shf_if shf_rest))) := rfl
/-- lines that may be joined -/
structure Lok (CB C : Addr) (es : List D) (ls : List (List Nat)) : Prop where
  len : ls.length ≤ 100
  ll : ∀ l ∈ ls, l.length ≤ 10000
  s : sz ls ≤ 100000
  shf : Shf CB C es (jn ls)
def IQ (CB C : Addr) (ds : List Int) (es : List D) (m w : Int) (ws : Option O) (x : Out) : Prop := ∃ o a' c5 c6 ls', x = .nx [some (bx ds a'), some o, some (.fr (.int m)), some (.fr (.int w)), ws, c5, c6, none, none] ∧ 0 ≤ a' ∧ Lo (stl ls') o ∧ Lok CB C es ls' ∧ ((w = 5 ∨ w = 6) → ls' = lf 0 0 es)
theorem lok_of {es : List D} {ls rest : List (List Nat)} {i : Nat} (h : Oks CB C es) (hsm : Sm es) (hi : i ≤ es.length) (e : ls = (lf 0 0 es).take i ++ rest) (hl : rest.length ≤ 12) (hr : ∀ x ∈ rest, 10 ∉ x ∧ x.length ≤ 1100) (hb : ∀ l r, rest = l :: r → Bad CB C i (bef 0 0 (es.take i)) l) : Lok CB C es ls := by
  have h1 : ∀ l ∈ ls, l.length ≤ 1100 := fun l hl => by
    rw [e] at hl
    rcases List.mem_append.mp hl with hl | hl
    · obtain ⟨k, hk, rfl⟩ := List.getElem_of_mem (List.mem_of_mem_take hl)
      rw [lf_len] at hk
      have hg : (lf 0 0 es)[k]'(by rw [lf_len]; exact hk) = lk es k hk := Option.some.inj ((List.getElem?_eq_getElem _).symm.trans (lf_get hk))
      rw [hg]
      have := lk_len hk h.pl h.len
      omega
    · exact (hr l hl).2
  have h2 : ls.length ≤ 20 := by
    rw [e, List.length_append, List.length_take, lf_len]
    have := hsm.le
    omega
  have h3 : ∀ ks : List (List Nat), (∀ l ∈ ks, l.length ≤ 1100) → sz ks ≤ ks.length * 1101 := by
    intro ks
    induction ks with
    | nil => intro _; exact Nat.le_refl _
    | cons k ks ih =>
      intro hk
      have a1 := hk k (List.mem_cons_self ..)
      have a2 := ih fun l hl => hk l (List.mem_cons_of_mem _ hl)
      have : sz (k :: ks) = (k.length + 1) + sz ks := by simp [sz]
      rw [this, List.length_cons, Nat.add_mul]
      omega
  have h4 : sz ls ≤ 100000 := by
    have := h3 ls h1
    have : ls.length * 1101 ≤ 20 * 1101 := Nat.mul_le_mul h2 (Nat.le_refl _)
    omega
  refine ⟨by omega, fun l hl => by have := h1 l hl; omega, h4, shf_of h.pl hi e h4 (fun x hx => (hr x hx).1) fun l r z => ⟨?_, hb l r z⟩⟩
  have := (hr l (by rw [z]; exact List.mem_cons_self ..)).2
  omega
theorem lf_mem {es : List D} (h : Oks CB C es) : ∀ x ∈ lf 0 0 es, 10 ∉ x ∧ x.length ≤ 1100 := fun x hx => by
  refine ⟨lf10 h.pl x hx, ?_⟩
  obtain ⟨k, hk, rfl⟩ := List.getElem_of_mem hx
  rw [lf_len] at hk
  have hg : (lf 0 0 es)[k]'(by rw [lf_len]; exact hk) = lk es k hk := Option.some.inj ((List.getElem?_eq_getElem _).symm.trans (lf_get hk))
  rw [hg]
  have := lk_len hk h.pl h.len
  omega
theorem lok_id {es : List D} (h : Oks CB C es) (hsm : Sm es) : Lok CB C es (lf 0 0 es) := lok_of h hsm (Nat.le_refl _) (rest := []) (by rw [List.append_nil, List.take_of_length_le (by rw [lf_len]; exact Nat.le_refl _)]) (by simp) (fun x hx => by cases hx) (fun l r z => by cases z)
theorem drop_hd {es : List D} {k : Nat} {l : List Nat} {r : List (List Nat)} (e : (lf 0 0 es).drop k = l :: r) : ∃ hk : k < es.length, l = lk es k hk := by
  have hk : k < (lf 0 0 es).length := by
    rcases Nat.lt_or_ge k (lf 0 0 es).length with q | q
    · exact q
    · rw [List.drop_eq_nil_of_le q] at e
      cases e
  rw [lf_len] at hk
  refine ⟨hk, ?_⟩
  have h1 : ((lf 0 0 es).drop k)[0]? = some l := by rw [e]; rfl
  rw [List.getElem?_drop, Nat.add_zero, lf_get hk] at h1
  exact (Option.some.inj h1).symm
/-- one line for another -/
theorem lok_put {es : List D} {m : Nat} {l' : List Nat} (h : Oks CB C es) (hsm : Sm es) (hm : m < es.length) (h10 : 10 ∉ l') (hl : l'.length ≤ 1100) (hb : Bad CB C m (bef 0 0 (es.take m)) l') : Lok CB C es ((lf 0 0 es).take m ++ (l' :: (lf 0 0 es).drop (m + 1))) := by
  refine lok_of h hsm (Nat.le_of_lt hm) rfl ?_ ?_ ?_
  · rw [List.length_cons, List.length_drop, lf_len]
    have := hsm.le
    omega
  · intro x hx
    rcases List.mem_cons.mp hx with rfl | hx
    · exact ⟨h10, hl⟩
    · exact lf_mem h x (List.mem_of_mem_drop hx)
  · intro l r z
    cases z
    exact hb
end
end K39

set_option Elab.async false
set_option linter.all false
set_option maxRecDepth 100000
namespace K39
open PySem PySem.Spec PyProof.Rows L2 Mi Lw
open Tx (Tk flat tkOf digI r1 r2 veil vl Cl spk)
open SX (S)
section
variable {CB C : Addr}
def G0 (ds : List Int) (a' : Int) (ls : List (List Nat)) (m : Nat) (w : Int) (ws : Option O) : G := [some (bx ds a'), some (.fr (.lst (stl ls))), some (.fr (.int (m : Nat))), some (.fr (.int w)), ws, none, none, none, none]
section
variable {ds : List Int} {a : Int} {es : List D} {ls : List (List Nat)} {m : Nat} {ws : Option O}
theorem if_0 (ha : 0 ≤ a) (h : Oks CB C es) (hsm : Sm es) (hls : ls = lf 0 0 es) (hm : m < es.length) : Ev (shf_if (G0 ds a ls m 0 ws)) (IQ CB C ds es m 0 ws) := by
  have hll : ls.length = es.length := by rw [hls, lf_len]
  have e1 := lsT (ls := ls) (m := m) (by omega)
  have e2 : dSl (.lst (stl ls)) (some ((m : Int) + 1)) none = some (.lst ((stl (ls.drop (m + 1))).map O.fr)) := lsD (m := m + 1) (by omega)
  have e3 := lsA (a := ls.take m) (b := ls.drop (m + 1)) (by rw [List.length_take, List.length_drop]; have := hsm.le; omega)
  unfold G0
  generalize hr : stl (ls.take m ++ ls.drop (m + 1)) = res at e3
  generalize stl (ls.take m) = t1 at e1 e3
  generalize stl (ls.drop (m + 1)) = t2 at e2 e3
  simp [shf_if, e1, e2, e3]
  refine ⟨_, a, _, _, ls.take m ++ ls.drop (m + 1), rfl, ha, .inl (by rw [hr]), ?_, fun z => by omega⟩
  subst hls
  refine lok_of h hsm (Nat.le_of_lt hm) rfl (by rw [List.length_drop, lf_len]; have := hsm.le; omega) (fun x hx => lf_mem h x (List.mem_of_mem_drop hx)) fun l r e => ?_
  obtain ⟨hk, rfl⟩ := drop_hd e
  exact bad_n (by omega)
theorem if_1 (ha : 0 ≤ a) (h : Oks CB C es) (hsm : Sm es) (hls : ls = lf 0 0 es) (hm : m < es.length) : Ev (shf_if (G0 ds a ls m 1 ws)) (IQ CB C ds es m 1 ws) := by
  have hll : ls.length = es.length := by rw [hls, lf_len]
  have e1 : dSl (.lst (stl ls)) none (some ((m : Int) + 1)) = some (.lst ((stl (ls.take (m + 1))).map O.fr)) := lsT (m := m + 1) (by omega)
  have e2 := lsD (ls := ls) (m := m) (by omega)
  have e3 := lsA (a := ls.take (m + 1)) (b := ls.drop m) (by rw [List.length_take, List.length_drop]; have := hsm.le; omega)
  unfold G0
  generalize hr : stl (ls.take (m + 1) ++ ls.drop m) = res at e3
  generalize stl (ls.take (m + 1)) = t1 at e1 e3
  generalize stl (ls.drop m) = t2 at e2 e3
  simp [shf_if, e1, e2, e3]
  refine ⟨_, a, _, _, ls.take (m + 1) ++ ls.drop m, rfl, ha, .inl (by rw [hr]), ?_, fun z => by omega⟩
  subst hls
  refine lok_of h hsm (i := m + 1) (by omega) rfl (by rw [List.length_drop, lf_len]; have := hsm.le; omega) (fun x hx => lf_mem h x (List.mem_of_mem_drop hx)) fun l r e => ?_
  obtain ⟨hk, rfl⟩ := drop_hd e
  exact bad_n (by omega)
theorem lineAt (hls : ls = lf 0 0 es) {k : Nat} (hk : k < es.length) : atI (stl ls) (k : Int) = some (.str (S (lk es k hk))) := by
  have hll : ls.length = es.length := by rw [hls, lf_len]
  refine (atI_lt (by unfold stl; rw [List.length_map]; omega)).trans ?_
  unfold stl
  rw [List.getElem?_map, hls, lf_get hk]
  rfl
theorem if_2 (ha : 0 ≤ a) (h : Oks CB C es) (hsm : Sm es) (hls : ls = lf 0 0 es) (hm : m < es.length) : Ev (shf_if (G0 ds a ls m 2 ws)) (IQ CB C ds es m 2 ws) := by
  have hll : ls.length = es.length := by rw [hls, lf_len]
  have hL : dLen [.lst (stl ls)] = some (.int (es.length : Nat)) := by
    show some (D.int ((stl ls).length : Nat)) = _
    simp [stl, hll]
  have e1 := lsT (ls := ls) (m := m) (by omega)
  have i1 := lineAt hls hm
  by_cases q : m + 1 < es.length
  · have q' : ((m : Int) + 1) < (es.length : Nat) := by omega
    have i2 : atI (stl ls) ((m : Int) + 1) = some (.str (S (lk es (m + 1) q))) := lineAt hls q
    have e2 : dSl (.lst (stl ls)) (some ((m : Int) + 2)) none = some (.lst ((stl (ls.drop (m + 2))).map O.fr)) := lsD (m := m + 2) (by omega)
    have e3 : dAdd (.lst (stl (ls.take m))) (.lst [.str (S (lk es (m + 1) q)), .str (S (lk es m hm))]) = some (.lst ((stl (ls.take m ++ [lk es (m + 1) q, lk es m hm])).map O.fr)) := lsA (a := ls.take m) (b := [lk es (m + 1) q, lk es m hm]) (by rw [List.length_take]; simp; have := hsm.le; omega)
    have e4 := lsA (a := ls.take m ++ [lk es (m + 1) q, lk es m hm]) (b := ls.drop (m + 2)) (by rw [List.length_append, List.length_take, List.length_drop]; simp; have := hsm.le; omega)
    unfold G0
    generalize hr : stl (ls.take m ++ [lk es (m + 1) q, lk es m hm] ++ ls.drop (m + 2)) = res at e4
    generalize stl (ls.take m ++ [lk es (m + 1) q, lk es m hm]) = t3 at e3 e4
    generalize stl (ls.take m) = t1 at e1 e3
    generalize stl (ls.drop (m + 2)) = t2 at e2 e4
    generalize stl ls = l0 at *
    simp [shf_if, hL, q', e1, e2, e3, e4, i1, i2]
    refine ⟨_, a, _, _, ls.take m ++ [lk es (m + 1) q, lk es m hm] ++ ls.drop (m + 2), rfl, ha, .inl (by rw [hr]), ?_, fun z => by omega⟩
    subst hls
    refine lok_of h hsm (i := m) (rest := lk es (m + 1) q :: lk es m hm :: (lf 0 0 es).drop (m + 2)) (by omega) (by simp) (by simp [lf_len]; have := hsm.le; omega) (fun x hx => ?_) fun l r e => ?_
    · have mem : ∀ k (hk : k < es.length), lk es k hk ∈ lf 0 0 es := fun k hk => List.mem_of_getElem? (lf_get hk)
      rcases List.mem_cons.mp hx with rfl | hx
      · exact lf_mem h _ (mem _ _)
      · rcases List.mem_cons.mp hx with rfl | hx
        · exact lf_mem h _ (mem _ _)
        · exact lf_mem h x (List.mem_of_mem_drop hx)
    · cases e
      exact bad_n (by omega)
  · have q' : ¬ ((m : Int) + 1) < (es.length : Nat) := by omega
    unfold G0
    simp [shf_if, hL, q']
    refine ⟨_, a, _, _, ls, rfl, ha, .inr rfl, ?_, fun z => by omega⟩
    subst hls
    exact lok_id h hsm
theorem if_n {w : Int} (ha : 0 ≤ a) (h : Oks CB C es) (hsm : Sm es) (hls : ls = lf 0 0 es) (hw : 5 ≤ w) : Ev (shf_if (G0 ds a ls m w ws)) (IQ CB C ds es m w ws) := by
  have h0 : ¬ w = 0 := by omega
  have h1 : ¬ w = 1 := by omega
  have h2 : ¬ w = 2 := by omega
  have h3 : ¬ w = 3 := by omega
  have h4 : ¬ w = 4 := by omega
  unfold G0
  simp [shf_if, h0, h1, h2, h3, h4]
  refine ⟨_, a, _, _, ls, rfl, ha, .inr rfl, ?_, fun _ => hls⟩
  subst hls
  exact lok_id h hsm
end
end
end K39

set_option Elab.async false
set_option linter.all false
set_option maxRecDepth 100000
namespace K39
open PySem PySem.Spec PyProof.Rows L2 Mi Lw
open Tx (Tk flat tkOf digI r1 r2 veil vl Cl spk)
open SX (S)
section
variable {CB C : Addr} {ds : List Int} {a : Int} {es : List D} {ls : List (List Nat)} {m : Nat} {ws : Option O}
theorem pl128 {d : D} (h : Pl d) : ∀ y ∈ tx d, y < 128 := fun y hy => by
  have := h.ch y hy
  unfold Ch at this
  omega
theorem strL (hls : ls = lf 0 0 es) (hm : m < es.length) : ls = ls.take m ++ (lk es m hm :: ls.drop (m + 1)) := by
  have h1 : ls[m]? = some (lk es m hm) := by rw [hls]; exact lf_get hm
  obtain ⟨h2, h3⟩ := List.getElem?_eq_some_iff.mp h1
  rw [← h3, ← List.drop_eq_getElem_cons h2, List.take_append_drop]
theorem six : (Str.ofString "0" = S [48]) ∧ (Str.ofString "1" = S [49]) ∧ (Str.ofString "7" = S [55]) ∧ (Str.ofString "p" = S [112]) ∧ (Str.ofString "  " = S [32, 32]) ∧ (Str.ofString " 0" = S [32, 48]) := by decide +kernel
theorem if_4 (ha : 0 ≤ a) (h : Oks CB C es) (hsm : Sm es) (hls : ls = lf 0 0 es) (hm : m < es.length) : Ev (shf_if (G0 ds a ls m 4 ws)) (IQ CB C ds es m 4 ws) := by
  have hll : ls.length = es.length := by rw [hls, lf_len]
  obtain ⟨z0, z1, z7, zp, _, _⟩ := six
  have e1 := lsT (ls := ls) (m := m) (by omega)
  have e2 : dSl (.lst (stl ls)) (some ((m : Int) + 1)) none = some (.lst ((stl (ls.drop (m + 1))).map O.fr)) := lsD (m := m + 1) (by omega)
  have i1 := lineAt hls hm
  have hd := h.pl es[m] (List.getElem_mem hm)
  have hl1 := lk_len hm h.pl h.len
  have hl0 : 0 < (lk es m hm).length := by unfold lk; rw [ln_len]; omega
  have hl10 : 10 ∉ lk es m hm := ln10 (pl10 hd)
  obtain ⟨l, hl⟩ : ∃ l, l = lk es m hm := ⟨_, rfl⟩
  rw [← hl] at i1 hl1 hl0 hl10
  have hL := dLenS (T := l) (n := (l.length : Nat)) (by omega) rfl
  have hLi : ¬ ((l.length : Nat) : Int) = 0 := by omega
  have hsz : (S l).length ≤ sizeLine := sizeT (by omega)
  unfold G0
  generalize hst : stl ls = L at *
  simp [shf_if]
  refine (draw_spec (m := 900) ha (by decide)).mono ?_
  rintro _ ⟨v, rfl, v0, v1⟩
  obtain ⟨j, hj, hvj⟩ : ∃ j : Nat, j < l.length ∧ v.fmod (l.length : Nat) = (j : Int) := by
    have e := Int.fmod_eq_emod_of_nonneg v (b := (l.length : Int)) (by omega)
    have e1 := Int.emod_nonneg v (b := (l.length : Int)) (by omega)
    have e2 := Int.emod_lt_of_pos v (b := (l.length : Int)) (by omega)
    exact ⟨(v.fmod l.length).toNat, by omega, by omega⟩
  simp [i1, hL, hLi, hvj]
  refine ⟨fun z => by rw [z] at hl0; exact Nat.lt_irrefl _ hl0, ?_⟩
  refine (pick_spec (a := a + 1) (by omega) (by simp)).mono ?_
  rintro _ ⟨tt, rfl, ht⟩
  obtain ⟨c, hc, rfl⟩ : ∃ c, (c = 48 ∨ c = 49 ∨ c = 55 ∨ c = 32 ∨ c = 112) ∧ tt = .str (S [c]) := by
    simp [z0, z1, z7, zp, sp_S] at ht
    rcases ht with rfl | rfl | rfl | rfl | rfl
    · exact ⟨48, by simp, rfl⟩
    · exact ⟨49, by simp, rfl⟩
    · exact ⟨55, by simp, rfl⟩
    · exact ⟨32, by simp, rfl⟩
    · exact ⟨112, by simp, rfl⟩
  have s1 : Txt.slice (S l) none (some (j : Int)) = S (l.take j) := SX.slice_to (by omega)
  have s2 : Txt.slice (S l) (some ((j : Int) + 1)) none = S (l.drop (j + 1)) := SX.slice_from (i := ((j + 1 : Nat) : Int)) (by omega)
  have a1 : dAdd (.str (S (l.take j))) (.str (S [c])) = some (.fr (.str (S (l.take j ++ [c])))) := dAddS (by simp; omega)
  have a2 : dAdd (.str (S (l.take j ++ [c]))) (.str (S (l.drop (j + 1)))) = some (.fr (.str (S (l.take j ++ [c] ++ l.drop (j + 1))))) := dAddS (by simp; omega)
  have e3 : dAdd (.lst (stl (ls.take m))) (.lst [.str (S (l.take j ++ [c] ++ l.drop (j + 1)))]) = some (.lst ((stl (ls.take m ++ [l.take j ++ [c] ++ l.drop (j + 1)])).map O.fr)) := lsA (a := ls.take m) (b := [l.take j ++ [c] ++ l.drop (j + 1)]) (by rw [List.length_take]; simp; have := hsm.le; omega)
  have e4 := lsA (a := ls.take m ++ [l.take j ++ [c] ++ l.drop (j + 1)]) (b := ls.drop (m + 1)) (by rw [List.length_append, List.length_take, List.length_drop]; simp; have := hsm.le; omega)
  have hx : l = l.take j ++ l[j] :: l.drop (j + 1) := by rw [← List.drop_eq_getElem_cons hj, List.take_append_drop]
  have fin : Lok CB C es (ls.take m ++ [l.take j ++ [c] ++ l.drop (j + 1)] ++ ls.drop (m + 1)) := by
    by_cases hcx : c = l[j]
    · have : l.take j ++ [c] ++ l.drop (j + 1) = l := by
        conv => rhs; rw [hx]
        rw [hcx]
        simp
      rw [this, hl, List.append_assoc, List.singleton_append, ← strL hls hm, hls]
      exact lok_id h hsm
    · have hb : Bad CB C m (bef 0 0 (es.take m)) (l.take j ++ c :: l.drop (j + 1)) := bad_set (t := tx es[m]) (x := l[j]) (by have := hsm.le; omega) hd.len (pl128 hd) (hsm.h40 _ (List.getElem_mem hm)) (by omega) (by
        conv => rhs; rw [← hx]
        rw [hl]
        rfl) hcx
      have := lok_put h hsm hm (l' := l.take j ++ c :: l.drop (j + 1)) (fun z => by
        rcases List.mem_append.mp z with z | z
        · exact hl10 (List.mem_of_mem_take z)
        · rcases List.mem_cons.mp z with z | z
          · omega
          · exact hl10 (List.mem_of_mem_drop z)) (by simp; omega) hb
      rw [hls]
      simpa using this
  generalize hr : stl (ls.take m ++ [l.take j ++ [c] ++ l.drop (j + 1)] ++ ls.drop (m + 1)) = res at e4
  generalize stl (ls.take m ++ [l.take j ++ [c] ++ l.drop (j + 1)]) = t3 at e3 e4
  generalize stl (ls.take m) = t1 at e1 e3
  generalize stl (ls.drop (m + 1)) = t2 at e2 e4
  generalize l.take j ++ [c] ++ l.drop (j + 1) = l' at *
  simp [i1, hsz, s1, s2, a1, a2, e1, e2, e3, e4]
  exact ⟨_, a + 1 + 1, _, _, ls.take m ++ [l'] ++ ls.drop (m + 1), rfl, by omega, .inl (by rw [hr]), fin, fun z => by omega⟩
end
end K39

set_option Elab.async false
set_option linter.all false
set_option maxRecDepth 100000
namespace K39
open PySem PySem.Spec PyProof.Rows L2 Mi Lw
open Tx (Tk flat tkOf digI r1 r2 veil vl Cl spk)
open SX (S)
section
variable {CB C : Addr} {ds : List Int} {a : Int} {es : List D} {ls : List (List Nat)} {m : Nat}
theorem no10 (n : Nat) : 10 ∉ TL.numL n := TL.numL_free (by decide)
theorem if_3 (ha : 0 ≤ a) (h : Oks CB C es) (hsm : Sm es) (hls : ls = lf 0 0 es) (hm : m < es.length) {ws : Option O} (hws : ws = some (.lst (([TL.numL m, TL.numL (chk m (bef 0 0 (es.take m)) (tx es[m])), tx es[m]].map fun p => D.str (S p)).map O.fr))) : Ev (shf_if (G0 ds a ls m 3 ws)) (IQ CB C ds es m 3 ws) := by
  have hll : ls.length = es.length := by rw [hls, lf_len]
  obtain ⟨z0, z1, z7, zp, z2, z3⟩ := six
  have e1 := lsT (ls := ls) (m := m) (by omega)
  have e2 : dSl (.lst (stl ls)) (some ((m : Int) + 1)) none = some (.lst ((stl (ls.drop (m + 1))).map O.fr)) := lsD (m := m + 1) (by omega)
  have i1 := lineAt hls hm
  have hd := h.pl es[m] (List.getElem_mem hm)
  have hl1 := lk_len hm h.pl h.len
  have hl10 : 10 ∉ lk es m hm := ln10 (pl10 hd)
  have n6 := numL_le (n := m) (by have := hsm.le; omega)
  have s6 := numL_le (n := chk m (bef 0 0 (es.take m)) (tx es[m])) (by have := chk_lt m (bef 0 0 (es.take m)) (tx es[m]); omega)
  have t7 : (tx es[m]).length ≤ 700 := hd.len
  have t10 := pl10 hd
  obtain ⟨l, hl⟩ : ∃ l, l = lk es m hm := ⟨_, rfl⟩
  have hl2 : l = TL.numL m ++ 32 :: (TL.numL (chk m (bef 0 0 (es.take m)) (tx es[m])) ++ 32 :: tx es[m]) := hl
  rw [← hl] at i1 hl1 hl10
  have put : ∀ l', 10 ∉ l' → l'.length ≤ 1100 → Bad CB C m (bef 0 0 (es.take m)) l' → Lok CB C es (ls.take m ++ [l'] ++ ls.drop (m + 1)) := fun l' h1 h2 h3 => by
    have := lok_put h hsm hm h1 h2 h3
    rw [hls]
    simpa using this
  obtain ⟨t, ht⟩ : ∃ t, t = tx es[m] := ⟨_, rfl⟩
  obtain ⟨b, hb⟩ : ∃ b, b = bef 0 0 (es.take m) := ⟨_, rfl⟩
  rw [← ht, ← hb] at s6 hl2 hws
  rw [← hb] at put
  rw [← ht] at t7 t10
  have ad : ∀ {x y : List Nat}, x.length + y.length ≤ 5000 → dAdd (.str (S x)) (.str (S y)) = some (.fr (.str (S (x ++ y)))) := fun h => dAddS (by omega)
  have p1 := ad (x := [48]) (y := l) (by simp; omega)
  have p2 := ad (x := TL.numL m) (y := [32, 32]) (by simp; omega)
  have p3 := ad (x := TL.numL m ++ [32, 32]) (y := TL.numL (chk m b t)) (by simp; omega)
  have p4 := ad (x := TL.numL m ++ [32, 32] ++ TL.numL (chk m b t)) (y := [32]) (by simp; omega)
  have p5 := ad (x := TL.numL m ++ [32, 32] ++ TL.numL (chk m b t) ++ [32]) (y := t) (by simp; omega)
  have q2 := ad (x := TL.numL m) (y := [32, 48]) (by simp; omega)
  have q3 := ad (x := TL.numL m ++ [32, 48]) (y := TL.numL (chk m b t)) (by simp; omega)
  have q4 := ad (x := TL.numL m ++ [32, 48] ++ TL.numL (chk m b t)) (y := [32]) (by simp; omega)
  have q5 := ad (x := TL.numL m ++ [32, 48] ++ TL.numL (chk m b t) ++ [32]) (y := t) (by simp; omega)
  have w1 := ad (x := l) (y := [32]) (by simp; omega)
  have f1 : Lok CB C es (ls.take m ++ [48 :: l] ++ ls.drop (m + 1)) := put _ (fun z => (List.mem_cons.mp z).elim (fun z => by omega) hl10) (by simp; omega) (by
    have : 48 :: l = (48 :: TL.numL m) ++ 32 :: (TL.numL (chk m b t) ++ 32 :: t) := by rw [hl2]; rfl
    rw [this]
    exact bad_p (fun z => (List.mem_cons.mp z).elim (fun z => by omega) (no32 m)) fun z => by
      have := congrArg List.length z
      simp at this)
  have f2 : Lok CB C es (ls.take m ++ [TL.numL m ++ [32, 32] ++ TL.numL (chk m b t) ++ [32] ++ t] ++ ls.drop (m + 1)) := put _ (fun z => by
      simp at z
      rcases z with z | z | z
      · exact no10 _ z
      · exact no10 _ z
      · exact t10 z) (by simp; omega) (by
    have : TL.numL m ++ [32, 32] ++ TL.numL (chk m b t) ++ [32] ++ t = TL.numL m ++ 32 :: ([] ++ 32 :: (TL.numL (chk m b t) ++ 32 :: t)) := by simp
    rw [this]
    exact bad_q (no32 m) List.not_mem_nil fun z => TL.numL_ne _ z.symm)
  have f3 : Lok CB C es (ls.take m ++ [TL.numL m ++ [32, 48] ++ TL.numL (chk m b t) ++ [32] ++ t] ++ ls.drop (m + 1)) := put _ (fun z => by
      simp at z
      rcases z with z | z | z
      · exact no10 _ z
      · exact no10 _ z
      · exact t10 z) (by simp; omega) (by
    have : TL.numL m ++ [32, 48] ++ TL.numL (chk m b t) ++ [32] ++ t = TL.numL m ++ 32 :: ((48 :: TL.numL (chk m b t)) ++ 32 :: t) := by simp
    rw [this]
    exact bad_q (no32 m) (fun z => (List.mem_cons.mp z).elim (fun z => by omega) (no32 _)) fun z => by
      have := congrArg List.length z
      simp at this)
  have f4 : Lok CB C es (ls.take m ++ [l ++ [32]] ++ ls.drop (m + 1)) := put _ (fun z => by
      simp at z
      exact hl10 z) (by simp; omega) (by
    have : l ++ [32] = TL.numL m ++ 32 :: (TL.numL (chk m b t) ++ 32 :: (t ++ [32])) := by rw [hl2]; simp
    rw [this]
    exact bad_q (no32 m) (no32 _) fun z => chk_more (by omega) (TL.numL_inj z).symm)
  have f5 : Lok CB C es (ls.take m ++ [[]] ++ ls.drop (m + 1)) := put _ List.not_mem_nil (by simp) (bad_1 List.not_mem_nil)
  have fin : ∀ l', l'.length ≤ 1100 → Lok CB C es (ls.take m ++ [l'] ++ ls.drop (m + 1)) → ∃ t3 res, dAdd (.lst (stl (ls.take m))) (.lst [.str (S l')]) = some (.lst (t3.map O.fr)) ∧ dAdd (.lst t3) (.lst (stl (ls.drop (m + 1)))) = some (.lst (res.map O.fr)) ∧ ∃ ls', res = stl ls' ∧ Lok CB C es ls' := fun l' h1 h2 =>
    ⟨_, _, lsA (a := ls.take m) (b := [l']) (by rw [List.length_take]; simp; have := hsm.le; omega), lsA (a := ls.take m ++ [l']) (b := ls.drop (m + 1)) (by rw [List.length_append, List.length_take, List.length_drop]; simp; have := hsm.le; omega), _, rfl, h2⟩
  have all : ∀ tt ∈ [D.str (S (48 :: l)), .str (S (TL.numL m ++ [32, 32] ++ TL.numL (chk m b t) ++ [32] ++ t)), .str (S (TL.numL m ++ [32, 48] ++ TL.numL (chk m b t) ++ [32] ++ t)), .str (S (l ++ [32])), .str (S [])], ∃ l', tt = .str (S l') ∧ ∃ t3 res, dAdd (.lst (stl (ls.take m))) (.lst [.str (S l')]) = some (.lst (t3.map O.fr)) ∧ dAdd (.lst t3) (.lst (stl (ls.drop (m + 1)))) = some (.lst (res.map O.fr)) ∧ ∃ ls', res = stl ls' ∧ Lok CB C es ls' := by
    intro tt htt
    simp only [List.mem_cons, List.not_mem_nil, or_false] at htt
    rcases htt with rfl | rfl | rfl | rfl | rfl
    · exact ⟨_, rfl, fin _ (by simp; omega) f1⟩
    · exact ⟨_, rfl, fin _ (by simp; omega) f2⟩
    · exact ⟨_, rfl, fin _ (by simp; omega) f3⟩
    · exact ⟨_, rfl, fin _ (by simp; omega) f4⟩
    · exact ⟨_, rfl, fin _ (by simp) f5⟩
  unfold G0
  subst hws
  clear f1 f2 f3 f4 f5 fin put
  generalize hst : stl ls = L at *
  generalize stl (ls.take m) = t1 at *
  generalize stl (ls.drop (m + 1)) = t2 at *
  have p1 : dAdd (.str (S [48])) (.str (S l)) = some (.fr (.str (S (48 :: l)))) := p1
  simp [shf_if, e1, i1, z0, z2, z3, sp_S, em_S2, -List.append_assoc, p1, p2, p3, p4, p5, q2, q3, q4, q5, w1]
  refine (pick_spec (a := a) ha (List.cons_ne_nil _ _)).mono ?_
  rintro _ ⟨tt, rfl, htt⟩
  obtain ⟨l', rfl, t3, res, k1, k2, ls', rfl, k3⟩ := all tt htt
  simp [e1, e2, k1, k2]
  exact ⟨_, a + 1, _, _, ls', rfl, by omega, .inl rfl, k3, fun z => by omega⟩
end
end K39

set_option Elab.async false
set_option linter.all false
set_option maxRecDepth 100000
namespace K39
open PySem PySem.Spec PyProof.Rows L2 Mi Lw
open Tx (Tk flat tkOf digI r1 r2 veil vl Cl spk)
open SX (S)
section
variable {CB C : Addr}
def shf_join : XS := (sAsg (xMS dJoin (oE (eC (.str (PySem.Str.ofString "")))) (aCons (oE (eLc (iSeq (oE (eVar 1))) (gN 8) xYes (xA2 dAdd (oE (eVar 8)) (oE (eC (.str (PySem.Str.ofString "\n"))))) [8])) aNil)) (gN 7))
def shf_tail : XS := (sSeq (sIf (xB (oE (xS2 dEq (oVar 3) (oE (eC (.int 5)))))) (sRet (xSl (oE (eVar 7)) pNo (pEx (oE (xS2 dMod (oE (xSN dIntOf (aCons (oE (xCall m__law_draw (aCons (oVar 0) (aCons (oE (eC (.int 900))) aNil)))) aNil))) (oE (xA2 dAdd (oE (xSN dLen (aCons (oVar 7) aNil))) (oE (eC (.int 1)))))))))) sNext)
    (sSeq (sIf (xB (oE (xS2 dEq (oVar 3) (oE (eC (.int 6)))))) (sRet (xSl (oE (eVar 7)) pNo (pEx (oE (xS1 dNeg (oE (eC (.int 1)))))))) sNext)
    (sRet (eMove 7))))
theorem rest_eq : shf_rest = sSeq shf_join shf_tail := rfl
theorem shifted {ds : List Int} {a : Int} {es : List D} (ha : 0 ≤ a) (h : Oks CB C es) (hsm : Sm es) : Ev (m__law_shifted [bx ds a, .fr (.lst (stl (lf 0 0 es)))]) (SQ CB C ds es) := by
  obtain ⟨ls, hls⟩ : ∃ ls, ls = lf 0 0 es := ⟨_, rfl⟩
  have hll : ls.length = es.length := by rw [hls, lf_len]
  have hlen : dLen [.lst (stl ls)] = some (.int (ls.length : Nat)) := by
    show some (D.int ((stl ls).length : Nat)) = _
    simp [stl]
  have hl0 : ¬ ((ls.length : Nat) : Int) = 0 := by have := hsm.pos; omega
  rw [← hls]
  simp [m__law_shifted, ev_runF, shf_eq]
  refine (draw_spec (m := 900) ha (by decide)).mono ?_
  rintro _ ⟨v, rfl, v0, v1⟩
  obtain ⟨m, hm, hvm⟩ : ∃ m : Nat, m < ls.length ∧ v.fmod (ls.length : Nat) = (m : Int) := by
    have e := Int.fmod_eq_emod_of_nonneg v (b := (ls.length : Int)) (by omega)
    have e1 := Int.emod_nonneg v (b := (ls.length : Int)) (by omega)
    have e2 := Int.emod_lt_of_pos v (b := (ls.length : Int)) (by have := hsm.pos; omega)
    exact ⟨(v.fmod ls.length).toNat, by omega, by omega⟩
  simp [hlen, hl0, hvm]
  refine ⟨fun z => by rw [z] at hl0; exact hl0 rfl, ?_⟩
  refine (draw_spec (m := 9) (by omega) (by decide)).mono ?_
  rintro _ ⟨w, rfl, w0, w1⟩
  have i1 := lineAt hls (by omega : m < es.length)
  have hd := h.pl es[m] (List.getElem_mem (by omega : m < es.length))
  have hl1 := lk_len (by omega : m < es.length) h.pl h.len
  have e := dsp2 (l := lk es m (by omega)) (by omega)
  rw [show spk 32 2 (lk es m (by omega)) = _ from spk_ln _ _ _] at e
  obtain ⟨ws, hws⟩ : ∃ ws : List O, ws = ([TL.numL m, TL.numL (chk m (bef 0 0 (es.take m)) (tx es[m])), tx es[m]].map fun p => D.str (S p)).map O.fr := ⟨_, rfl⟩
  rw [← hws] at e
  simp [i1, sp_S, -dSplit2_str, e]
  have key : Ev (shf_if (G0 ds (a + 1 + 1) ls m w (some (.lst ws)))) (IQ CB C ds es m w (some (.lst ws))) := by
    have hc : w = 0 ∨ w = 1 ∨ w = 2 ∨ w = 3 ∨ w = 4 ∨ 5 ≤ w := by omega
    have hm' : m < es.length := by omega
    rcases hc with rfl | rfl | rfl | rfl | rfl | hc
    · exact if_0 (by omega) h hsm hls hm'
    · exact if_1 (by omega) h hsm hls hm'
    · exact if_2 (by omega) h hsm hls hm'
    · exact if_3 (by omega) h hsm hls hm' (by rw [hws])
    · exact if_4 (by omega) h hsm hls hm'
    · exact if_n (by omega) h hsm hls hc
  unfold G0 at key
  refine key.mono ?_
  rintro _ ⟨o, a', c5, c6, ls', rfl, a0, ho, hk, hq⟩
  simp [rest_eq]
  have hj : Ev (shf_join [some (bx ds a'), some o, some (.fr (.int (m : Nat))), some (.fr (.int w)), some (.lst ws), c5, c6, none, none]) _ := shf_end (ds := ds) (es := es) ho hk.len hk.ll hk.s
  refine hj.mono ?_
  rintro _ ⟨y, rfl⟩
  have hT := hk.shf.1
  have hsz : (S (jn ls')).length ≤ sizeLine := sizeT hT
  have hL := dLenS (T := jn ls') (n := ((jn ls').length : Nat)) hT rfl
  rw [← hls] at hq
  by_cases h5 : w = 5
  · have e5 := hq (.inl h5)
    subst h5
    simp [shf_tail]
    refine (draw_spec (m := 900) a0 (by decide)).mono ?_
    rintro _ ⟨u, rfl, u0, u1⟩
    have hn0 : ¬ (((jn ls').length : Nat) : Int) + 1 = 0 := by omega
    obtain ⟨k, hk5⟩ : ∃ k : Nat, u.fmod ((((jn ls').length : Nat) : Int) + 1) = (k : Int) := by
      have e := Int.fmod_eq_emod_of_nonneg u (b := (((jn ls').length : Nat) : Int) + 1) (by omega)
      have e1 := Int.emod_nonneg u (b := (((jn ls').length : Nat) : Int) + 1) (by omega)
      exact ⟨(u.fmod ((((jn ls').length : Nat) : Int) + 1)).toNat, by omega⟩
    have sl : Txt.slice (S (jn ls')) none (some (k : Int)) = S ((jn ls').take k) := SX.slice_to (by omega)
    simp [hL, hn0, hk5, hsz, sl]
    refine ⟨_, a' + 1, by omega, by rw [← hls], ?_⟩
    rw [e5, hls]
    exact shf_trunc h.pl (by have := hk.s; rw [e5, hls] at this; exact this)
  · by_cases h6 : w = 6
    · have e6 := hq (.inr h6)
      subst h6
      have hne : jn ls' ≠ [] := by
        intro z
        have := congrArg List.length z
        rw [jn_len, e6] at this
        cases q : ls with
        | nil => rw [q] at hm; cases hm
        | cons x r => rw [q] at this; simp [sz] at this
      have sl := SX.slice_butlast hne
      simp [shf_tail, hsz, sl]
      refine ⟨_, a', a0, by rw [← hls], ?_⟩
      rw [e6, hls]
      exact shf_trunc h.pl (by have := hk.s; rw [e6, hls] at this; exact this)
    · simp [shf_tail, h5, h6]
      exact ⟨_, a', a0, by rw [← hls], hk.shf⟩
end
end K39

set_option Elab.async false
set_option linter.all false
set_option maxRecDepth 100000
namespace K39
open PySem PySem.Spec PyProof.Rows L2 Mi Lw
open Tx (Tk flat tkOf digI r1 r2 veil vl Cl spk)
open SX (S)
def vdB : Nat → D → Bool
  | n + 1, .tup ds => decide (ds.length ≤ 1000) && ds.all (vdB n)
  | _, .str s => s.cps.toList.all fun c => (decide (32 ≤ c) && decide (c ≤ 126)) || decide (c = 10)
  | _, .int i => decide (i.natAbs < 10 ^ 100)
  | _, .bl _ => true
  | _, .non => true
  | _, _ => false
theorem vdB_ok : ∀ (n : Nat) (d : D), vdB n d = true → Vd n d := by
  intro n
  induction n with
  | zero =>
    intro d h
    cases d with
    | str s =>
      intro c hc
      have := List.all_eq_true.mp h c hc
      simpa [Pch] using this
    | int i => exact (show i.natAbs < 10 ^ 100 from of_decide_eq_true h)
    | bl _ => exact trivial
    | non => exact trivial
    | tup _ => cases h
    | lst _ => cases h
    | dK _ _ => cases h
    | dT _ _ => cases h
    | scr _ => cases h
    | ob _ _ _ => cases h
  | succ n ih =>
    intro d h
    cases d with
    | str s =>
      intro c hc
      have := List.all_eq_true.mp h c hc
      simpa [Pch] using this
    | int i => exact (show i.natAbs < 10 ^ 100 from of_decide_eq_true h)
    | bl _ => exact trivial
    | non => exact trivial
    | tup ds =>
      have h : (decide (ds.length ≤ 1000) && ds.all (vdB n)) = true := h
      rw [Bool.and_eq_true] at h
      exact ⟨of_decide_eq_true h.1, fun d hd => ih d (List.all_eq_true.mp h.2 d hd)⟩
    | lst _ => cases h
    | dK _ _ => cases h
    | dT _ _ => cases h
    | scr _ => cases h
    | ob _ _ _ => cases h
def lkB : Nat → D → Bool
  | 0, _ => false
  | n + 1, .tup ds => decide (ds.length ≤ 1000000) && ds.all (lkB n)
  | _ + 1, .str s => decide (s.length ≤ 16777216)
  | _ + 1, .int _ => true
  | _ + 1, .bl _ => true
  | _ + 1, .non => true
  | _, _ => false
theorem lkB_ok : ∀ (n : Nat) (d : D), lkB n d = true → LikeOk n d := by
  intro n
  induction n with
  | zero => intro d h; cases h
  | succ n ih =>
    intro d h
    cases d with
    | str s => exact (show s.length ≤ 16777216 from of_decide_eq_true h)
    | int i => exact trivial
    | bl _ => exact trivial
    | non => exact trivial
    | tup ds =>
      have h : (decide (ds.length ≤ 1000000) && ds.all (lkB n)) = true := h
      rw [Bool.and_eq_true] at h
      exact ⟨of_decide_eq_true h.1, fun d hd => ih d (List.all_eq_true.mp h.2 d hd)⟩
    | lst _ => cases h
    | dK _ _ => cases h
    | dT _ _ => cases h
    | scr _ => cases h
    | ob _ _ _ => cases h
def plB (d : D) : Bool := vdB 8 d && (decide ((tx d).length ≤ 700) && (tx d).all fun c => decide (32 ≤ c) && (decide (c ≤ 126) && decide (c ≠ 37)))
theorem plB_ok {d : D} (h : plB d = true) : Pl d := by
  unfold plB at h
  rw [Bool.and_eq_true, Bool.and_eq_true] at h
  refine ⟨vdB_ok 8 d h.1, of_decide_eq_true h.2.1, fun c hc => ?_⟩
  have := List.all_eq_true.mp h.2.2 c hc
  simpa [Ch] using this
def enB (d : D) : Bool := plB d && (lkB 6 d && (decide ((tx d).head? = some 40) && !isNonD d))
/-- a right entry -/
structure EOk (d : D) : Prop where
  pl : Pl d
  nn : isNonD d = false
  h40 : ∃ t0, tx d = 40 :: t0
  lk : LikeOk 6 d
theorem enB_ok {d : D} (h : enB d = true) : EOk d := by
  unfold enB at h
  rw [Bool.and_eq_true, Bool.and_eq_true, Bool.and_eq_true] at h
  obtain ⟨h1, h2, h3, h4⟩ := h
  have h3 := of_decide_eq_true h3
  refine ⟨plB_ok h1, by simpa using h4, ?_, lkB_ok 6 d h2⟩
  cases q : tx d with
  | nil => rw [q] at h3; cases h3
  | cons c r => rw [q] at h3; exact ⟨r, by rw [Option.some.inj h3]⟩
def st (s : String) : D := .str (Str.ofString s)
def notice (i c : Int) : D := .tup [.str (Str.ofString "notice"), .int i, .tup [.str (Str.ofString "wire"), .tup [.str (Str.ofString "u"), .str (Str.ofString "a"), .str (Str.ofString "b"), .tup [.int c, .int 1]]]]
def start : D := .tup [st "network", .tup [st "a", st "b"], .tup [.tup [st "u", st "a", st "b", .tup [.int 1, .int 1]], .tup [st "v", st "b", st "a", .tup [.int 1, .int 2]]]]
theorem start_eq : m__law_start [] = some (.fr start, []) := by kernel_rfl
def shop : D := .tup [st "shop", st "ha", .tup [st "hb"], start]
def short : D := .tup [st "short", .tup [.int 1, .tup [st "a", .non]]]
def published (i c : Int) : D := .tup [st "published", notice i c]
def heard (i c : Int) : D := .tup [st "heard", notice i c]
def given (k : Int) : D := .tup [st "given", .tup [st "ring", st "pa", st "u"], .int k]
def told1 : D := .tup [st "told", .tup [st "known"], st "3", .int 3]
def told2 : D := .tup [st "told", .tup [st "stands", st "pa"], st "missing", .int 0]
def Is (f : List O → Option (O × List O)) (d : D) (b : Bool) : Prop := f [.fr d] = some (.fr (.bl b), [.fr d])
theorem shop_ok : enB shop = true ∧ Is m_is_first_entry shop true := ⟨by decide +kernel, by unfold Is; kernel_rfl⟩
theorem short_ok : enB short = true ∧ Is m_is_first_entry short true := ⟨by decide +kernel, by unfold Is; kernel_rfl⟩
def lat (d : D) : Prop := enB d = true ∧ Is m_is_later_entry d true ∧ Is m_is_first_entry d false
theorem told1_ok : lat told1 := ⟨by decide +kernel, by unfold Is; kernel_rfl, by unfold Is; kernel_rfl⟩
theorem told2_ok : lat told2 := ⟨by decide +kernel, by unfold Is; kernel_rfl, by unfold Is; kernel_rfl⟩
theorem given_ok : ∀ k : Int, k = 0 ∨ k = 1 ∨ k = 2 ∨ k = 3 → lat (given k) := by
  intro k h
  rcases h with rfl | rfl | rfl | rfl <;> exact ⟨by decide +kernel, by unfold Is; kernel_rfl, by unfold Is; kernel_rfl⟩
theorem pub_ok : ∀ i c : Int, (i = 2 ∨ i = 3 ∨ i = 4 ∨ i = 5 ∨ i = 6 ∨ i = 7) → (c = 1 ∨ c = 2 ∨ c = 3 ∨ c = 4 ∨ c = 5 ∨ c = 6 ∨ c = 7 ∨ c = 8 ∨ c = 9) → lat (published i c) ∧ lat (heard i c) := by
  intro i c hi hc
  rcases hi with rfl | rfl | rfl | rfl | rfl | rfl <;> rcases hc with rfl | rfl | rfl | rfl | rfl | rfl | rfl | rfl | rfl <;>
  exact ⟨⟨by decide +kernel, by unfold Is; kernel_rfl, by unfold Is; kernel_rfl⟩, ⟨by decide +kernel, by unfold Is; kernel_rfl, by unfold Is; kernel_rfl⟩⟩
end K39

set_option Elab.async false
set_option linter.all false
set_option maxRecDepth 100000
namespace K39
open PySem PySem.Spec PyProof.Rows L2 Mi Lw
open Tx (Tk flat tkOf digI r1 r2 veil vl Cl spk)
open SX (S)
theorem rt_0 {d : D} {b : Bool} (h : Is m_is_first_entry d b) : Rt 0 d b := by
  unfold Rt
  rw [if_pos rfl]
  exact ⟨_, h, rfl⟩
theorem rt_s {n : Nat} {d : D} {b : Bool} (hn : 0 < n) (h : Is m_is_later_entry d b) : Rt n d b := by
  unfold Rt
  rw [if_neg (by omega)]
  exact ⟨_, h, rfl⟩
def fst (d : D) : Prop := enB d = true ∧ Is m_is_first_entry d true
theorem entry_0 {ds : List Int} {a : Int} (ha : 0 ≤ a) : Ev (m__law_entry [bx ds a, .fr (.int 0)]) fun p => ∃ d a', 0 ≤ a' ∧ p = (.fr d, [bx ds a', .fr (.int 0)]) ∧ fst d := by
  simp [m__law_entry, ev_runF, b__law_entry]
  refine (draw_spec (m := 9) ha (by decide)).mono ?_
  rintro _ ⟨c, rfl, c0, c1⟩
  simp [start_eq]
  refine (draw_spec (m := 2) (by omega) (by decide)).mono ?_
  rintro _ ⟨v, rfl, v0, v1⟩
  have hv : v = 0 ∨ v = 1 := by omega
  rcases hv with rfl | rfl
  · simp
    exact ⟨_, a + 1 + 1, by omega, ⟨rfl, rfl⟩, shop_ok⟩
  · simp
    exact ⟨_, a + 1 + 1, by omega, ⟨rfl, rfl⟩, short_ok⟩
theorem entry_s {ds : List Int} {a i : Int} (ha : 0 ≤ a) (h1 : 1 ≤ i) (h2 : i ≤ 6) : Ev (m__law_entry [bx ds a, .fr (.int i)]) fun p => ∃ d a', 0 ≤ a' ∧ p = (.fr d, [bx ds a', .fr (.int i)]) ∧ lat d := by
  have hi : ¬ i = 0 := by omega
  simp [m__law_entry, ev_runF, b__law_entry]
  refine (draw_spec (m := 9) ha (by decide)).mono ?_
  rintro _ ⟨c, rfl, c0, c1⟩
  simp [hi]
  refine (draw_spec (m := 4) (by omega) (by decide)).mono ?_
  rintro _ ⟨k, rfl, k0, k1⟩
  simp
  refine (pick_specO (ds := ds) (a := a + 1 + 1) (ts := [published (1 + i) (1 + c), heard (1 + i) (1 + c), given k, told1, told2]) (by omega) (List.cons_ne_nil _ _)).mono ?_
  rintro _ ⟨t, rfl, ht⟩
  simp
  refine ⟨t, a + 1 + 1 + 1, by omega, ⟨rfl, rfl⟩, ?_⟩
  have hp := pub_ok (1 + i) (1 + c) (by omega) (by omega)
  simp only [List.mem_cons, List.not_mem_nil, or_false] at ht
  rcases ht with rfl | rfl | rfl | rfl | rfl
  · exact hp.1
  · exact hp.2
  · exact given_ok k (by omega)
  · exact told1_ok
  · exact told2_ok
end K39
namespace K39
open PySem PySem.Spec PyProof.Rows L2 Mi Lw
open SX (S)
def wrongs : List D := [.tup [st "published", .tup []], .tup [st "published"], .tup [st "heard", .tup [st "notice", .int 1, .tup [st "withdraw", .int 1]]], .tup [st "given", .int 5, .int 1], .tup [st "given", .tup [st "ring", st "P", st "u"], .int 1],
  .tup [st "given", .tup [st "ring", st "pa", st "u"]], .tup [st "told", .int 5, st "", .int 1],
  .tup [st "told", .tup [st "known"], .int 5, .int 1], .tup [st "told", .tup [st "known"], st "3", st "1"], .tup [st "told", .tup [st "known"], st "3"], .tup [st "jump", .int 1], .tup [], .int 7, .tup [st "shop", st "ha", .tup [], start], .tup [st "short", .int 3]]
theorem wrongs_ok : ∀ d ∈ wrongs, plB d = true ∧ Is m_is_later_entry d false := by
  intro d hd
  simp only [wrongs, List.mem_cons, List.not_mem_nil, or_false] at hd
  rcases hd with rfl | rfl | rfl | rfl | rfl | rfl | rfl | rfl | rfl | rfl | rfl | rfl | rfl | rfl | rfl <;> exact ⟨by decide +kernel, by unfold Is; kernel_rfl⟩
theorem law_wrong_spec {ds : List Int} {a : Int} (ha : 0 ≤ a) : Ev (m__law_wrong [bx ds a]) fun p => ∃ d a', 0 ≤ a' ∧ p = (.fr d, [bx ds a']) ∧ plB d = true ∧ Is m_is_later_entry d false := by
  have h1 : ∀ x y : List D, x.length + y.length ≤ 100 → dAdd (.lst x) (.lst y) = some (.lst ((x ++ y).map O.fr)) := fun x y h => if_pos (by have : (1000 : Nat) ≤ sizeLine := (by decide); omega)
  simp [m__law_wrong, ev_runF, b__law_wrong, h1, start_eq]
  refine (pick_specO (ds := ds) (a := a) (ts := wrongs) ha (List.cons_ne_nil _ _)).mono ?_
  rintro _ ⟨t, rfl, ht⟩
  simp
  exact ⟨t, a + 1, by omega, ⟨rfl, rfl⟩, wrongs_ok t ht⟩
end K39

set_option Elab.async false
set_option linter.all false
set_option maxRecDepth 100000
namespace Mi
open PySem PySem.Spec PyProof.Rows L2
/-- a comprehension, place by place -/
theorem lcL_from {tg : XG} {te : XE} {vs : List Nat} {P : Nat → G → Prop} {R : Nat → O → Prop} : ∀ {ds : List D} {n : Nat} {g : G} {acc : List O}, P n g → acc.length = n → (∀ i o, acc[i]? = some o → R i o) →
    (∀ k (hk : k < ds.length) g, P (n + k) g → Ev (tg (.fr ds[k]) (wipeG g vs)) fun g1 => Ev (te g1) fun q => R (n + k) q.1 ∧ P (n + k + 1) q.2) → n + ds.length ≤ sizeLine →
    Ev (lcL tg xYes te vs ds g acc) fun q => (∀ i o, q.1[i]? = some o → R i o) ∧ q.1.length = n + ds.length ∧ P (n + ds.length) q.2
  | [], n, g, acc, p, hl, ha, _, _ => ⟨(acc, g), rfl, ha, hl, p⟩
  | d :: ds, n, g, acc, p, hl, ha, h, hz => by
    obtain ⟨g1, e1, q, e2, k1, k2⟩ := h 0 (Nat.zero_lt_succ _) g p
    have e1 : tg (.fr d) (wipeG g vs) = some g1 := e1
    simp only [List.length_cons] at hz
    have ih := lcL_from (tg := tg) (te := te) (vs := vs) (P := P) (R := R) (ds := ds) (n := n + 1) (g := q.2) (acc := acc ++ [q.1]) k2 (by simp [hl]) (fun i o e => by
      by_cases hi : i < acc.length
      · rw [List.getElem?_append_left hi] at e
        exact ha i o e
      · rw [List.getElem?_append_right (by omega)] at e
        have hi2 : i - acc.length = 0 := by
          rcases Nat.eq_zero_or_pos (i - acc.length) with z | z
          · exact z
          · rw [List.getElem?_eq_none (by simp; omega)] at e
            cases e
        have : i = n := by omega
        subst this
        rw [hi2] at e
        cases e
        exact k1) (fun k hk g pk => by
      have := h (k + 1) (Nat.succ_lt_succ hk) g (by rw [show n + (k + 1) = n + 1 + k by omega]; exact pk)
      rw [show n + (k + 1) = n + 1 + k by omega] at this
      exact this) (by omega)
    obtain ⟨r, e3, k3, k4, k5⟩ := ih
    refine ⟨r, ?_, k3, by rw [k4, List.length_cons]; omega, by rw [List.length_cons, show n + (ds.length + 1) = n + 1 + ds.length by omega]; exact k5⟩
    show (tg (.fr d) (wipeG g vs)).bind _ = _
    rw [e1]
    show (te g1).bind _ = _
    rw [e2]
    show (if acc.length < sizeLine then _ else none) = _
    rw [if_pos (by omega)]
    exact e3
end Mi
namespace K39
open PySem PySem.Spec PyProof.Rows L2 Mi Lw
open Tx (Tk flat tkOf digI r1 r2 veil vl Cl spk)
open SX (S)
section
variable {CB C : Addr}
/-- what is drawn for a turn -/
structure Dr (es : List D) : Prop where
  pos : 0 < es.length
  le : es.length ≤ 7
  r : ∀ i d, es[i]? = some d → (i = 0 → fst d) ∧ (0 < i → lat d)
theorem Dr.e {es : List D} (h : Dr es) : ∀ d ∈ es, EOk d := fun d hd => by
  obtain ⟨i, hi, rfl⟩ := List.getElem_of_mem hd
  obtain ⟨k1, k2⟩ := h.r i _ (List.getElem?_eq_getElem hi)
  rcases Nat.eq_zero_or_pos i with z | z
  · exact enB_ok (k1 z).1
  · exact enB_ok (k2 z).1
theorem Dr.oks {es : List D} (h : Dr es) : Oks CB C es := ⟨by have := h.le; omega, fun d hd => (h.e d hd).pl, fun d hd => (h.e d hd).nn, fun i hi => by
  obtain ⟨k1, k2⟩ := h.r i _ (List.getElem?_eq_getElem hi)
  rcases Nat.eq_zero_or_pos i with z | z
  · subst z
    exact rt_0 (k1 rfl).2
  · exact rt_s z (k2 z).2.1⟩
theorem Dr.sm {es : List D} (h : Dr es) : Sm es := ⟨h.pos, by have := h.le; omega, fun d hd => (h.e d hd).h40⟩
/-- the entries that are drawn -/
theorem entries_spec {ns ds : List Int} {a n : Int} {c2 c3 c4 c5 c6 c7 c8 c9 : Option O} (ha : 0 ≤ a) (h1 : 1 ≤ n) (h2 : n ≤ 7) :
    Ev (lcL (gN 10) xYes (xCall m__law_entry (aCons (oVar 1) (aCons (oVar 10) aNil))) [10] (rgD 0 n.toNat) [some (.fr (.scr ns)), some (bx ds a), c2, c3, c4, c5, c6, c7, c8, c9, none, none] []) fun q => ∃ es a' y, q = (es.map O.fr, [some (.fr (.scr ns)), some (bx ds a'), c2, c3, c4, c5, c6, c7, c8, c9, y, none]) ∧ 0 ≤ a' ∧ Dr es := by
  have hl : (rgD 0 n.toNat).length = n.toNat := rgD_len
  refine (lcL_from (n := 0) (P := fun _ g => ∃ a' y, 0 ≤ a' ∧ g = [some (.fr (.scr ns)), some (bx ds a'), c2, c3, c4, c5, c6, c7, c8, c9, y, none]) (R := fun i o => ∃ d, o = .fr d ∧ (i = 0 → fst d) ∧ (0 < i → lat d)) ⟨a, none, ha, rfl⟩ rfl (fun i o e => by cases e) (fun k hk g p => ?_) (by rw [hl]; have : (1000 : Nat) ≤ sizeLine := (by decide); omega)).mono ?_
  · obtain ⟨a', y, a0, rfl⟩ := p
    rw [rgD_get hk]
    rw [hl] at hk
    simp [wipeG]
    rcases Nat.eq_zero_or_pos k with z | z
    · subst z
      refine (entry_0 a0).mono ?_
      rintro _ ⟨d, a2, k1, rfl, k2⟩
      simp
      exact ⟨k2, k1⟩
    · refine (entry_s a0 (i := (k : Int)) (by omega) (by omega)).mono ?_
      rintro _ ⟨d, a2, k1, rfl, k2⟩
      simp
      exact ⟨⟨fun q => by omega, fun _ => k2⟩, k1⟩
  · rintro ⟨os, g⟩ ⟨h3, h4, a', y, a0, rfl⟩
    have h3 : ∀ i o, os[i]? = some o → _ := h3
    have h4 : os.length = 0 + (rgD 0 n.toNat).length := h4
    have hos : ∃ es : List D, os = es.map O.fr ∧ ∀ i d, es[i]? = some d → (i = 0 → fst d) ∧ (0 < i → lat d) := by
      refine ⟨os.map O.er, ?_, fun i d e => ?_⟩
      · apply List.ext_getElem?
        intro i
        rw [List.getElem?_map, List.getElem?_map]
        cases q : os[i]? with
        | none => rfl
        | some o =>
          obtain ⟨d, rfl, _⟩ := h3 i o q
          simp
      · rw [List.getElem?_map] at e
        cases q : os[i]? with
        | none => rw [q] at e; cases e
        | some o =>
          obtain ⟨d', rfl, k⟩ := h3 i o q
          rw [q] at e
          simp at e
          subst e
          exact k
    obtain ⟨es, rfl, hr⟩ := hos
    rw [List.length_map, hl] at h4
    exact ⟨es, a', y, rfl, a0, ⟨by omega, by omega, hr⟩⟩
end
end K39

set_option Elab.async false
set_option linter.all false
set_option maxRecDepth 100000
namespace K39
open PySem PySem.Spec PyProof.Rows L2 Mi Lw
open Tx (Tk flat tkOf digI r1 r2 veil vl Cl spk)
open SX (S)
section
variable {CB C : Addr}
theorem spl_ln (n s : Nat) (t : List Nat) : ∃ r, TL.spl [32] 0 [] (ln n s t) = TL.numL n :: TL.numL s :: r := by
  have e : ln n s t = TL.numL n ++ ((32 :: []) ++ (TL.numL s ++ ((32 :: []) ++ t))) := by simp [ln]
  rw [e, TL.spl_part1 (no32 n), TL.spl_part1 (no32 s)]
  exact ⟨_, rfl⟩
theorem ownAt {es : List D} {ls : List (List Nat)} (hls : ls = lf 0 0 es) {k : Nat} (hk : k < es.length) : atI ((stl ls).map O.fr) (k : Int) = some (.fr (.str (S (lk es k hk)))) := by
  have hll : ls.length = es.length := by rw [hls, lf_len]
  refine (atI_lt (by unfold stl; rw [List.length_map, List.length_map]; omega)).trans ?_
  unfold stl
  rw [List.getElem?_map, List.getElem?_map, hls, lf_get hk]
  rfl
def NP (ns ds : List Int) (a : Int) (es : List D) (c2 c7 c8 c9 : Option O) (k : Nat) (g : G) : Prop := ∃ y, g = [some (.fr (.scr ns)), some (bx ds a), c2, some (.lst (es.map O.fr)), some (.lst ((stl (lf 0 0 es)).map O.fr)), some (.fr (.int ((bef 0 0 (es.take k) : Nat) : Int))), y, c7, c8, c9, none, none]
theorem inner {ns ds : List Int} {a : Int} {es : List D} {c2 c7 c8 c9 : Option O} (h : Dr es) {k : Nat} (hk : k < es.length) {g : G} (p : NP ns ds a es c2 c7 c8 c9 k g) : Ev (gN 6 (.fr (.int (k : Nat))) g) fun g1 => Ev (b_law_2 CB C g1) (Mi.Turn (NP ns ds a es c2 c7 c8 c9 (k + 1))) := by
  obtain ⟨y, rfl⟩ := p
  have hd := h.oks (CB := CB) (C := C) |>.pl es[k] (List.getElem_mem hk)
  have hl := lk_len hk (h.oks (CB := CB) (C := C)).pl (by have := h.le; omega)
  have hj := journal_spec (n := k) (b := bef 0 0 (es.take k)) hd rfl rfl (by have := h.le; omega)
  have hj : Ev (m_journal_line [.fr (.int ((k : Nat) : Int)), .fr (.int ((bef 0 0 (es.take k) : Nat) : Int)), .fr es[k]]) fun p => p = (.fr (.str (S (lk es k hk ++ [10]))), [.fr (.int ((k : Nat) : Int)), .fr (.int ((bef 0 0 (es.take k) : Nat) : Int)), .fr es[k]]) := hj
  have i1 := ownAt (es := es) rfl hk
  have i2 : atI (es.map O.fr) (k : Int) = some (.fr es[k]) := (atI_lt (by simpa using hk)).trans (by rw [List.getElem?_map, List.getElem?_eq_getElem hk]; rfl)
  have hA := addN (l := lk es k hk) (by omega)
  have h8 := like8 (d := .str (S (lk es k hk ++ [10]))) (show (S (lk es k hk ++ [10])).length ≤ 16777216 by rw [SX.S_len]; simp; omega)
  obtain ⟨r, hr⟩ := spl_ln k (chk k (bef 0 0 (es.take k)) (tx es[k])) (tx es[k])
  have hr : TL.spl [32] 0 [] (lk es k hk) = _ := hr
  have e1 : dSplit1 (S (lk es k hk)) [.str (S [32])] = some (.lst (((TL.numL k :: TL.numL (chk k (bef 0 0 (es.take k)) (tx es[k])) :: r).map fun p => D.str (S p)).map O.fr)) := by
    rw [dSplit1_str, if_pos ⟨rfl, by rw [SX.S_len]; have : (20000 : Nat) ≤ sizeLine := (by decide); omega⟩, Tx.split_S (by decide), hr]
    simp
  have hi := int_num (s := chk k (bef 0 0 (es.take k)) (tx es[k])) (by have := chk_lt k (bef 0 0 (es.take k)) (tx es[k]); omega)
  obtain ⟨_, e6⟩ := lf_take hk
  unfold NP
  rw [e6]
  generalize chk k (bef 0 0 (es.take k)) (tx es[k]) = c at *
  generalize bef 0 0 (es.take k) = bb at *
  generalize lk es k hk = l at *
  generalize (stl (lf 0 0 es)).map O.fr = ols at *
  simp [b_law_2, i2]
  refine hj.mono ?_
  rintro _ rfl
  simp [i1, nl_S, hA]
  refine h8.mono ?_
  rintro _ rfl
  simp [i1, sp_S, -dSplit1_str, e1, hi]
end
end K39

set_option Elab.async false
set_option linter.all false
set_option maxRecDepth 100000
namespace K39
open PySem PySem.Spec PyProof.Rows L2 Mi Lw
open Tx (Tk flat tkOf digI r1 r2 veil vl Cl spk)
open SX (S)
section
variable {CB C : Addr}
theorem bad_e {n b : Nat} {w : D} (hw : Pl w) (hr : Rt n w false) : Bad CB C n b (ln n (chk n b (tx w)) (tx w)) :=
  .inr ⟨_, _, _, spk_ln _ _ _, .inr (.inr (.inr ⟨w, read_back hw.vd (by decide) (Nat.le_trans hw.len (by decide)) hw.ch, hr⟩))⟩
theorem lnw_len {n b : Nat} {w : D} (hw : Pl w) (hn : n ≤ 100) : (ln n (chk n b (tx w)) (tx w)).length ≤ 1000 := by
  have n6 := numL_le (n := n) (by omega)
  have s6 := numL_le (n := chk n b (tx w)) (by have := chk_lt n b (tx w); omega)
  have : (tx w).length ≤ 700 := hw.len
  rw [ln_len]
  omega
theorem lf_short {es : List D} (h : Dr es) : sz (lf 0 0 es) ≤ 8000 ∧ ∀ l ∈ lf 0 0 es, l.length ≤ 1000 := by
  have h1 : ∀ l ∈ lf 0 0 es, l.length ≤ 1000 := fun l hl => by
    obtain ⟨k, hk, rfl⟩ := List.getElem_of_mem hl
    rw [lf_len] at hk
    have hg : (lf 0 0 es)[k]'(by rw [lf_len]; exact hk) = lk es k hk := Option.some.inj ((List.getElem?_eq_getElem _).symm.trans (lf_get hk))
    rw [hg]
    exact lk_len hk (h.oks (CB := 0) (C := 0)).pl (by have := h.le; omega)
  have h3 : ∀ ks : List (List Nat), (∀ l ∈ ks, l.length ≤ 1000) → sz ks ≤ ks.length * 1001 := by
    intro ks
    induction ks with
    | nil => intro _; exact Nat.le_refl _
    | cons k ks ih =>
      intro hk
      have a1 := hk k (List.mem_cons_self ..)
      have a2 := ih fun l hl => hk l (List.mem_cons_of_mem _ hl)
      have : sz (k :: ks) = (k.length + 1) + sz ks := by simp [sz]
      rw [this, List.length_cons, Nat.add_mul]
      omega
  have h4 := h3 _ h1
  rw [lf_len] at h4
  have : es.length * 1001 ≤ 7 * 1001 := Nat.mul_le_mul h.le (Nat.le_refl _)
  exact ⟨by omega, h1⟩
theorem wrong_read {es : List D} {w : D} (h : Dr es) (hw : plB w = true) (hw2 : Is m_is_later_entry w false) : (Ev (m_read_journal CB C [.fr (.str (S (jn (lf 0 0 (es ++ [w])))))]) fun p => p = (.fr (.tup [.tup es, .int ((sz (lf 0 0 es) : Nat) : Int)]), [.fr (.str (S (jn (lf 0 0 (es ++ [w])))))])) ∧ sz (lf 0 0 (es ++ [w])) ≤ 10000 ∧ ∀ l ∈ lf 0 0 (es ++ [w]), l.length ≤ 1000 := by
  have hp := plB_ok hw
  obtain ⟨hs, hl⟩ := lf_short h
  have e := lf_snoc es 0 0 w
  rw [Nat.zero_add] at e
  have hwl := lnw_len (n := es.length) (b := bef 0 0 es) hp (by have := h.le; omega)
  have hsz : sz (lf 0 0 (es ++ [w])) ≤ 10000 := by rw [e, sz_snoc]; omega
  refine ⟨?_, hsz, fun l hl2 => ?_⟩
  · refine journal h.oks (by rw [jn_len]; omega) (rest := [ln es.length (chk es.length (bef 0 0 es) (tx w)) (tx w)]) ?_ fun l r z => ?_
    · have h10 : ∀ l ∈ lf 0 0 (es ++ [w]), 10 ∉ l := lf10 (es := es ++ [w]) fun d hd => (List.mem_append.mp hd).elim (fun hd => (h.oks (CB := CB) (C := C)).pl d hd) fun hd => by rw [List.mem_singleton.mp hd]; exact hp
      have := pieces (t := []) h10 List.not_mem_nil
      rw [List.append_nil] at this
      rw [this, e]
    · cases z
      exact ⟨by omega, bad_e hp (rt_s h.pos hw2)⟩
  · rw [e] at hl2
    rcases List.mem_append.mp hl2 with hl2 | hl2
    · exact hl l hl2
    · rw [List.mem_singleton.mp hl2]
      exact hwl
theorem due_full {es : List D} {oe ol : O} (h : Dr es) (h1 : Lo es oe) (h2 : Lo (stl (lf 0 0 es)) ol) : Ev (m__law_due [oe, ol, .fr (.str (S (jn (lf 0 0 es))))]) fun p => p = (.fr (.tup [.tup es, .int ((sz (lf 0 0 es) : Nat) : Int)]), [.fr (.lst es), .fr (.lst (stl (lf 0 0 es))), .fr (.str (S (jn (lf 0 0 es))))]) := by
  have hs := (lf_short h).1
  have := due_spec (T := jn (lf 0 0 es)) (T' := []) (k := es.length) h1 h2 (by rw [jn_len]; omega) (by rw [lf_len]; have := h.le; omega) (by rw [lf_len]) (by omega) (by rw [lf_len]; exact Nat.le_refl _) (by rw [List.take_of_length_le (by rw [lf_len]; exact Nat.le_refl _), List.append_nil]) (fun q => by rw [lf_len] at q; omega)
  rw [List.take_length, List.take_of_length_le (by rw [lf_len]; exact Nat.le_refl _)] at this
  exact this
theorem head_read {d1 d2 : D} (h1 : lat d1) (h2 : lat d2) : (Ev (m_read_journal CB C [.fr (.str (S (jn (lf 0 0 [d1, d2]))))]) fun p => p = (.fr (.tup [.tup [], .int 0]), [.fr (.str (S (jn (lf 0 0 [d1, d2]))))])) ∧ sz (lf 0 0 [d1, d2]) ≤ 10000 ∧ ∀ l ∈ lf 0 0 [d1, d2], l.length ≤ 1000 := by
  have p1 := (enB_ok h1.1).pl
  have p2 := (enB_ok h2.1).pl
  have l1 := lnw_len (n := 0) (b := 0) p1 (by omega)
  have l2 := lnw_len (n := 1) (b := chk 0 0 (tx d1)) p2 (by omega)
  have e : lf 0 0 [d1, d2] = [ln 0 (chk 0 0 (tx d1)) (tx d1), ln 1 (chk 1 (chk 0 0 (tx d1)) (tx d2)) (tx d2)] := rfl
  have hsz : sz (lf 0 0 [d1, d2]) ≤ 10000 := by rw [e]; simp [sz]; omega
  refine ⟨?_, hsz, fun l hl => ?_⟩
  · have ok0 : Oks CB C [] := ⟨by simp, (fun d hd => by cases hd), (fun d hd => by cases hd), (fun i hi => by cases hi)⟩
    have := journal (CB := CB) (C := C) (es := []) (T := jn (lf 0 0 [d1, d2])) (rest := lf 0 0 [d1, d2]) ok0 (by rw [jn_len]; omega) (by
      have h10 : ∀ l ∈ lf 0 0 [d1, d2], 10 ∉ l := lf10 (es := [d1, d2]) fun d hd => by
        simp at hd
        rcases hd with rfl | rfl
        · exact p1
        · exact p2
      have := pieces (t := []) h10 List.not_mem_nil
      rw [List.append_nil] at this
      rw [this]
      rfl) (fun l r z => by
      rw [e] at z
      cases z
      exact ⟨by omega, bad_e p1 (rt_0 h1.2.2)⟩)
    exact this
  · rw [e] at hl
    simp at hl
    rcases hl with rfl | rfl
    · exact l1
    · exact l2
end
end K39

set_option Elab.async false
set_option linter.all false
set_option maxRecDepth 100000
namespace K39
open PySem PySem.Spec PyProof.Rows L2 Mi Lw
open Tx (Tk flat tkOf digI r1 r2 veil vl Cl spk)
open SX (S)
section
variable {CB C : Addr}
def LP (ns ds : List Int) (g : G) : Prop := ∃ a c2 c3 c4 c5 c6 c7 c8 c9, g = [some (.fr (.scr ns)), some (bx ds a), c2, c3, c4, c5, c6, c7, c8, c9, none, none] ∧ 0 ≤ a
theorem pair_like {es : List D} {k : Nat} {n : Nat} (h : ∀ d ∈ es, EOk d) (hl : es.length ≤ 100) : Ev (m__law_like_8 [.fr (.tup [.tup (es.take k), .int ((n : Nat) : Int)]), .fr (.tup [.tup (es.take k), .int ((n : Nat) : Int)])]) fun p => p = (.fr (.bl true), [.fr (.tup [.tup (es.take k), .int ((n : Nat) : Int)]), .fr (.tup [.tup (es.take k), .int ((n : Nat) : Int)])]) := by
  refine like8 ⟨by simp, fun d hd => ?_⟩
  simp only [List.mem_cons, List.not_mem_nil, or_false] at hd
  rcases hd with rfl | rfl
  · exact ⟨by rw [List.length_take]; omega, fun d hd => (h d (List.mem_of_mem_take hd)).lk⟩
  · exact trivial
theorem turn_spec {ns ds : List Int} {i : Int} {g : G} (p : LP ns ds g) : Ev (gN 2 (.fr (.int i)) g) fun g1 => Ev (b_law_1 CB C g1) (Mi.Turn (LP ns ds)) := by
  obtain ⟨a, c2, c3, c4, c5, c6, c7, c8, c9, rfl, ha⟩ := p
  simp [b_law_1]
  refine (draw_spec (m := 7) ha (by decide)).mono ?_
  rintro _ ⟨v, rfl, v0, v1⟩
  simp
  refine ⟨by omega, ?_⟩
  refine Ev.mono (entries_spec (ns := ns) (ds := ds) (a := a + 1) (n := 1 + v) (by omega) (by omega) (by omega)) ?_
  rintro _ ⟨es, a1, y, rfl, a0, hD⟩
  simp [wipeG]
  have hls := lines_spec (es := es) (o := .lst (es.map O.fr)) (.inl rfl) (hD.oks (CB := CB) (C := C)).pl (by have := hD.le; omega)
  have hls : Ev (m__law_lines [.lst (es.map O.fr)]) fun p => p = (.lst ((stl (lf 0 0 es)).map O.fr), [.lst (es.map O.fr)]) := hls
  obtain ⟨hsz, hll⟩ := lf_short hD
  refine hls.mono ?_
  rintro _ rfl
  simp
  refine ⟨by have := hD.le; omega, ?_⟩
  refine Ev.mono (forR (P := NP ns ds a1 es (some (.fr (.int i))) c7 c8 c9) ⟨c6, rfl⟩ fun k i hk e g p => by
    rw [Int.zero_add] at e
    subst e
    exact inner hD hk p) ?_
  rintro _ ⟨g, rfl, y6, rfl⟩
  simp
  refine (shifted (CB := CB) (C := C) (ds := ds) (a := a1) a0 hD.oks hD.sm).mono ?_
  rintro _ ⟨T, a2, k0, rfl, hT⟩
  obtain ⟨k, hk, hr, hd⟩ := both_ways hD.oks (by omega) hT
  simp
  refine hr.mono ?_
  rintro _ rfl
  simp
  refine (hd (.lst (es.map O.fr)) (.fr (.lst (stl (lf 0 0 es)))) (.inl rfl) (.inr rfl)).mono ?_
  rintro _ rfl
  have hlk := pair_like (es := es) (k := k) (n := sz ((lf 0 0 es).take k)) hD.e (by have := hD.le; omega)
  generalize hgk : es.take k = ek at hlk
  simp
  refine hlk.mono ?_
  rintro _ rfl
  simp
  refine (law_wrong_spec (ds := ds) (a := a2) k0).mono ?_
  rintro _ ⟨w, a3, k3, rfl, hw, hw2⟩
  have hA : dAdd (.lst es) (.lst [w]) = some (.lst ((es ++ [w]).map O.fr)) := if_pos (by have : (1000 : Nat) ≤ sizeLine := (by decide); have := hD.le; simp; omega)
  obtain ⟨wr, ws, wl⟩ := wrong_read (CB := CB) (C := C) hD hw hw2
  have wlen : (es ++ [w]).length ≤ 100 := by simp; have := hD.le; omega
  have hlw := lines_spec (es := es ++ [w]) (o := .lst ((es ++ [w]).map O.fr)) (.inl rfl) (fun d hd => (List.mem_append.mp hd).elim (fun hd => (hD.e d hd).pl) fun hd => by rw [List.mem_singleton.mp hd]; exact plB_ok hw) wlen
  have hlw : Ev (m__law_lines [.lst ((es ++ [w]).map O.fr)]) fun p => p = (.lst ((stl (lf 0 0 (es ++ [w]))).map O.fr), [.lst ((es ++ [w]).map O.fr)]) := hlw
  have wj := join_nls (ls := lf 0 0 (es ++ [w])) (by omega)
  have wll : (lf 0 0 (es ++ [w])).length ≤ 1000 := by rw [lf_len]; omega
  have wl2 : ∀ l ∈ lf 0 0 (es ++ [w]), l.length ≤ 10000 := fun l hl => by have := wl l hl; omega
  generalize lf 0 0 (es ++ [w]) = lw at *
  generalize es ++ [w] = ew at *
  simp [hA]
  refine hlw.mono ?_
  rintro _ rfl
  simp [em_S2, nl_S]
  refine Ev.mono (lcN11 wll wl2 _ _ _ _ _ _ _ _ _ _ _ none) ?_
  rintro ⟨os, g⟩ ⟨h1, z, rfl⟩
  simp at h1
  subst h1
  simp [wipeG, wj]
  refine wr.mono ?_
  rintro _ rfl
  have ej := join_nls (ls := lf 0 0 es) (by omega)
  have ell : (lf 0 0 es).length ≤ 1000 := by rw [lf_len]; have := hD.le; omega
  have el2 : ∀ l ∈ lf 0 0 es, l.length ≤ 10000 := fun l hl => by have := hll l hl; omega
  have hdf := due_full hD (oe := .fr (.lst es)) (ol := .fr (.lst (stl (lf 0 0 es)))) (.inr rfl) (.inr rfl)
  have hlk2 := pair_like (es := es) (k := es.length) (n := sz (lf 0 0 es)) hD.e (by have := hD.le; omega)
  rw [List.take_length] at hlk2
  simp
  refine Ev.mono (lcN11 ell el2 _ _ _ _ _ _ _ _ _ _ _ none) ?_
  rintro ⟨os, g⟩ ⟨h1, z, rfl⟩
  simp at h1
  subst h1
  simp [ej]
  refine hdf.mono ?_
  rintro _ rfl
  simp
  refine hlk2.mono ?_
  rintro _ rfl
  simp
  exact ⟨_, _, _, _, _, _, _, _, _, rfl, k3⟩
theorem law_ok : ∀ C_BadPlain C_Reader : Addr, LawOk (m_law C_BadPlain C_Reader) := fun CB C => lawOk_of fun ns hs => by
  simp [m_law, ev_runF, b_law]
  refine (digits_spec (ns := ns) (lo := 0) (hi := 63) (by decide) (by decide) (by decide) (by decide)).mono ?_
  rintro ⟨o, os⟩ ⟨ds, h1, dg, dl, h2⟩
  have h1 : o = .lst (iO ds) := h1
  have h2 : os = _ := h2
  subst h1 h2
  simp
  refine Ev.mono (forR (P := fun _ => LP ns ds) ⟨0, none, none, none, none, none, none, none, none, rfl, by decide⟩ fun k i _ _ g p => turn_spec p) ?_
  rintro _ ⟨g, rfl, a0, c2, c3, c4, c5, c6, c7, c8, c9, rfl, ha⟩
  simp
  refine (entry_s (ds := ds) (a := a0) (i := 1) ha (by decide) (by decide)).mono ?_
  rintro _ ⟨d1, a1, k1, rfl, l1⟩
  simp
  refine (entry_s (ds := ds) (a := a1) (i := 1) k1 (by decide) (by decide)).mono ?_
  rintro _ ⟨d2, a2, k2, rfl, l2⟩
  have hA0 : ∀ x y : List D, x.length + y.length ≤ 100 → dAdd (.lst x) (.lst y) = some (.lst ((x ++ y).map O.fr)) := fun x y h => if_pos (by have : (1000 : Nat) ≤ sizeLine := (by decide); omega)
  have hA : dAdd (.lst [d1]) (.lst [d2]) = some (.lst ([d1, d2].map O.fr)) := hA0 [d1] [d2] (by simp)
  obtain ⟨wr, ws, wl⟩ := head_read (CB := CB) (C := C) l1 l2
  have hlw := lines_spec (es := [d1, d2]) (o := .lst ([d1, d2].map O.fr)) (.inl rfl) (fun d hd => by
    simp only [List.mem_cons, List.not_mem_nil, or_false] at hd
    rcases hd with rfl | rfl
    · exact (enB_ok l1.1).pl
    · exact (enB_ok l2.1).pl) (by simp)
  have hlw : Ev (m__law_lines [.lst ([d1, d2].map O.fr)]) fun p => p = (.lst ((stl (lf 0 0 [d1, d2])).map O.fr), [.lst ([d1, d2].map O.fr)]) := hlw
  have wj := join_nls (ls := lf 0 0 [d1, d2]) (by omega)
  have wll : (lf 0 0 [d1, d2]).length ≤ 1000 := by rw [lf_len]; simp
  have wl2 : ∀ l ∈ lf 0 0 [d1, d2], l.length ≤ 10000 := fun l hl => by have := wl l hl; omega
  have hlk : Ev (m__law_like_8 [.fr (.tup [.tup [], .int 0]), .fr (.tup [.tup [], .int 0])]) fun p => p = (.fr (.bl true), [.fr (.tup [.tup [], .int 0]), .fr (.tup [.tup [], .int 0])]) := like8 (lkB_ok 8 _ (by decide +kernel))
  generalize lf 0 0 [d1, d2] = lw at *
  generalize [d1, d2].map O.fr = ew at *
  simp [hA]
  refine hlw.mono ?_
  rintro _ rfl
  simp [em_S2, nl_S]
  refine Ev.mono (lcN11 wll wl2 _ _ _ _ _ _ _ _ _ _ _ none) ?_
  rintro ⟨os, g⟩ ⟨h1, z, rfl⟩
  simp at h1
  subst h1
  simp [wipeG, wj]
  refine wr.mono ?_
  rintro _ rfl
  simp
  refine hlk.mono ?_
  rintro _ rfl
  simp
end
end K39

open PySem PySem.W PyProof.Rows
set_option maxRecDepth 100000 in
set_option maxHeartbeats 0 in
theorem PySem.Challenge.cw_evenflow_k39_journal_chained_holds : PySem.Challenge.rw_evenflow_k39_journal_chained.Holds := by
  w_on; o_law; k_head; (case hw => w_witness2)
  k_fill
  refine Mi.walk_true (l := PySem.Challenge.rw_evenflow_k39_journal_chained) (k := 31) rfl rfl ⟨rfl, by decide, by decide⟩ (fun w h Y => PySem.W.kIn_of Y) ?F
  case F =>
    intro w mg fa h KX G hmg
    exact K39.law_fin KX G K39.law_ok hmg
      (by refine' Mi.bpAt_mk KX G ?ea ?exL ?erv ?esa ?ekC ?eexC ?etyC ?eveC ?emro ?eeb ?exD ?efD ?eany ?eiC ?etC ?el ?ec ?el2 ?ehv ?ehf ?el3 ?emgS ?etop ?eno ?eck ?ehg ?ehk ?ehd ?eha ?ehn ?eht ?ehm ?eic ?esc; (case ea => k_is); (case exL => k_is); (case erv => decide +kernel); (case esa => k_is); (case ekC => k_is); (case eexC => k_is); (case etyC => k_is); (case eveC => k_is); (case emro => k_is); (case eeb => rfl); (case exD => k_is); (case efD => k_is); (case eany => k_is); (case eiC => k_is); (case etC => k_is); (case el => k_is); (case ec => k_is); (case el2 => k_is); (case ehv => rfl); (case ehf => first | rfl | decide +kernel); (case el3 => k_is); (case emgS => k_is); (case etop => first | rfl | decide +kernel); (case eno => k_is); (case eck => exact fun _ => ⟨_, rfl⟩); (case ehg => k_is); (case ehk => k_is); (case ehd => k_is); (case eha => k_is); (case ehn => k_is); (case eht => k_is); (case ehm => k_is); (case eic => k_is); (case esc => first | rfl | k_is))
      (by refine' Mi.clAt_mk KX G ?a ?pg ?hd ?po ?sa ?mk ?kc; (case a => k_is); (case pg => k_is); (case hd => k_is); (case po => k_is); (case sa => k_is); (case mk => k_is); (case kc => k_is))
      (by show PySem.W.findIn _ _ _ = _; k_is)
      (by show PySem.W.findIn _ _ _ = _; k_is)
      (by refine' Mi.fnAs_mk KX G ?a ?l ?c ?k ?hb; (case a => k_is); (case l => k_is); (case c => k_is); (case k => k_is); (case hb => exact fun _ _ _ _ _ _ us hl => match us, hl with | [_], _ => rfl))
      (by refine' Mi.fnAt_mk KX G ?a ?l ?c ?k ?hb; (case a => k_is); (case l => k_is); (case c => k_is); (case k => k_is); (case hb => exact fun _ _ _ _ _ _ us hl => match us, hl with | [_], _ => rfl))
      (by refine' Mi.fnAs_mk KX G ?a ?l ?c ?k ?hb; (case a => k_is); (case l => k_is); (case c => k_is); (case k => k_is); (case hb => exact fun _ _ _ _ _ _ us hl => match us, hl with | [_], _ => rfl))
      (by refine' Mi.fnAs_mk KX G ?a ?l ?c ?k ?hb; (case a => k_is); (case l => k_is); (case c => k_is); (case k => k_is); (case hb => exact fun _ _ _ _ _ _ us hl => match us, hl with | [_], _ => rfl))
      (by refine' Mi.fnAs_mk KX G ?a ?l ?c ?k ?hb; (case a => k_is); (case l => k_is); (case c => k_is); (case k => k_is); (case hb => exact fun _ _ _ _ _ _ us hl => match us, hl with | [_], _ => rfl))
      (by refine' Mi.fnAt_mk KX G ?a ?l ?c ?k ?hb; (case a => k_is); (case l => k_is); (case c => k_is); (case k => k_is); (case hb => exact fun _ _ _ _ _ _ us hl => match us, hl with | [_], _ => rfl))
      (by refine' Mi.fnAt_mk KX G ?a ?l ?c ?k ?hb; (case a => k_is); (case l => k_is); (case c => k_is); (case k => k_is); (case hb => exact fun _ _ _ _ _ _ us hl => match us, hl with | [_], _ => rfl))
      (by refine' Mi.fnAt_mk KX G ?a ?l ?c ?k ?hb; (case a => k_is); (case l => k_is); (case c => k_is); (case k => k_is); (case hb => exact fun _ _ _ _ _ _ us hl => match us, hl with | [_], _ => rfl))
      (by refine' Mi.fnAs_mk KX G ?a ?l ?c ?k ?hb; (case a => k_is); (case l => k_is); (case c => k_is); (case k => k_is); (case hb => exact fun _ _ _ _ _ _ us hl => match us, hl with | [_, _], _ => rfl))
      (by refine' Mi.fnAt_mk KX G ?a ?l ?c ?k ?hb; (case a => k_is); (case l => k_is); (case c => k_is); (case k => k_is); (case hb => exact fun _ _ _ _ _ _ us hl => match us, hl with | [_], _ => rfl))
      (by refine' Mi.fnAs_mk KX G ?a ?l ?c ?k ?hb; (case a => k_is); (case l => k_is); (case c => k_is); (case k => k_is); (case hb => exact fun _ _ _ _ _ _ us hl => match us, hl with | [_], _ => rfl))
      (by refine' Mi.fnAs_mk KX G ?a ?l ?c ?k ?hb; (case a => k_is); (case l => k_is); (case c => k_is); (case k => k_is); (case hb => exact fun _ _ _ _ _ _ us hl => match us, hl with | [_, _, _], _ => rfl))
      (by refine' Mi.fnAs_mk KX G ?a ?l ?c ?k ?hb; (case a => k_is); (case l => k_is); (case c => k_is); (case k => k_is); (case hb => exact fun _ _ _ _ _ _ us hl => match us, hl with | [_], _ => rfl))
      (by refine' Mi.fnAt_mk KX G ?a ?l ?c ?k ?hb; (case a => k_is); (case l => k_is); (case c => k_is); (case k => k_is); (case hb => exact fun _ _ _ _ _ _ us hl => match us, hl with | [_, _, _], _ => rfl))
      (by refine' Mi.fnAt_mk KX G ?a ?l ?c ?k ?hb; (case a => k_is); (case l => k_is); (case c => k_is); (case k => k_is); (case hb => exact fun _ _ _ _ _ _ us hl => match us, hl with | [_], _ => rfl))
      (by refine' Mi.mtAt_mk ?a ?i ?l ?c ?k ?hb; (case a => k_is); (case i => k_is); (case l => k_is); (case c => k_is); (case k => k_is); (case hb => exact fun _ _ _ _ _ _ us hl => match us, hl with | [_, _, _, _], _ => rfl))
      (by refine' Mi.mtAt_mk ?a ?i ?l ?c ?k ?hb; (case a => k_is); (case i => k_is); (case l => k_is); (case c => k_is); (case k => k_is); (case hb => exact fun _ _ _ _ _ _ us hl => match us, hl with | [_, _], _ => rfl))
      (by refine' Mi.mtAt_mk ?a ?i ?l ?c ?k ?hb; (case a => k_is); (case i => k_is); (case l => k_is); (case c => k_is); (case k => k_is); (case hb => exact fun _ _ _ _ _ _ us hl => match us, hl with | [_, _], _ => rfl))
      (by refine' Mi.mtAt_mk ?a ?i ?l ?c ?k ?hb; (case a => k_is); (case i => k_is); (case l => k_is); (case c => k_is); (case k => k_is); (case hb => exact fun _ _ _ _ _ _ us hl => match us, hl with | [_, _, _], _ => rfl))
      (by refine' Mi.mtAt_mk ?a ?i ?l ?c ?k ?hb; (case a => k_is); (case i => k_is); (case l => k_is); (case c => k_is); (case k => k_is); (case hb => exact fun _ _ _ _ _ _ us hl => match us, hl with | [_, _, _], _ => rfl))
      (by refine' Mi.mtAt_mk ?a ?i ?l ?c ?k ?hb; (case a => k_is); (case i => k_is); (case l => k_is); (case c => k_is); (case k => k_is); (case hb => exact fun _ _ _ _ _ _ us hl => match us, hl with | [_, _], _ => rfl))
      (by refine' Mi.fnAt_mk KX G ?a ?l ?c ?k ?hb; (case a => k_is); (case l => k_is); (case c => k_is); (case k => k_is); (case hb => exact fun _ _ _ _ _ _ us hl => match us, hl with | [_], _ => rfl))
      (by refine' Mi.fnAs_mk KX G ?a ?l ?c ?k ?hb; (case a => k_is); (case l => k_is); (case c => k_is); (case k => k_is); (case hb => exact fun _ _ _ _ _ _ us hl => match us, hl with | [_], _ => rfl))
      (by refine' Mi.fnAt_mk KX G ?a ?l ?c ?k ?hb; (case a => k_is); (case l => k_is); (case c => k_is); (case k => k_is); (case hb => exact fun _ _ _ _ _ _ us hl => match us, hl with | [_], _ => rfl))
      (by refine' Mi.fnAt_mk KX G ?a ?l ?c ?k ?hb; (case a => k_is); (case l => k_is); (case c => k_is); (case k => k_is); (case hb => exact fun _ _ _ _ _ _ us hl => match us, hl with | [_, _, _], _ => rfl))
      (by refine' Mi.fnAt_mk KX G ?a ?l ?c ?k ?hb; (case a => k_is); (case l => k_is); (case c => k_is); (case k => k_is); (case hb => exact fun _ _ _ _ _ _ us hl => match us, hl with | [_, _, _], _ => rfl))
      (by refine' Mi.fnAt_mk KX G ?a ?l ?c ?k ?hb; (case a => k_is); (case l => k_is); (case c => k_is); (case k => k_is); (case hb => exact fun _ _ _ _ _ _ us hl => match us, hl with | [_], _ => rfl))
      (by refine' Mi.fnAt_mk KX G ?a ?l ?c ?k ?hb; (case a => k_is); (case l => k_is); (case c => k_is); (case k => k_is); (case hb => exact fun _ _ _ _ _ _ us hl => match us, hl with | [_], _ => rfl))
      (by refine' Mi.fnAt_mk KX G ?a ?l ?c ?k ?hb; (case a => k_is); (case l => k_is); (case c => k_is); (case k => k_is); (case hb => exact fun _ _ _ _ _ _ us hl => match us, hl with | [_, _, _], _ => rfl))
      (by refine' Mi.fnAt_mk KX G ?a ?l ?c ?k ?hb; (case a => k_is); (case l => k_is); (case c => k_is); (case k => k_is); (case hb => exact fun _ _ _ _ _ _ us hl => match us, hl with | [_, _, _], _ => rfl))
      (by refine' Mi.fnAt_mk KX G ?a ?l ?c ?k ?hb; (case a => k_is); (case l => k_is); (case c => k_is); (case k => k_is); (case hb => exact fun _ _ _ _ _ _ us hl => match us, hl with | [_], _ => rfl))
      (by refine' Mi.fnAt_mk KX G ?a ?l ?c ?k ?hb; (case a => k_is); (case l => k_is); (case c => k_is); (case k => k_is); (case hb => exact fun _ _ _ _ _ _ us hl => match us, hl with | [_], _ => rfl))
      (by refine' Mi.fnAt_mk KX G ?a ?l ?c ?k ?hb; (case a => k_is); (case l => k_is); (case c => k_is); (case k => k_is); (case hb => exact fun _ _ _ _ _ _ us hl => match us, hl with | [_], _ => rfl))
      (by refine' Mi.fnAt_mk KX G ?a ?l ?c ?k ?hb; (case a => k_is); (case l => k_is); (case c => k_is); (case k => k_is); (case hb => exact fun _ _ _ _ _ _ us hl => match us, hl with | [_], _ => rfl))
      (by refine' Mi.fnAt_mk KX G ?a ?l ?c ?k ?hb; (case a => k_is); (case l => k_is); (case c => k_is); (case k => k_is); (case hb => exact fun _ _ _ _ _ _ us hl => match us, hl with | [_, _, _], _ => rfl))
      (by refine' Mi.fnAt_mk KX G ?a ?l ?c ?k ?hb; (case a => k_is); (case l => k_is); (case c => k_is); (case k => k_is); (case hb => exact fun _ _ _ _ _ _ us hl => match us, hl with | [_], _ => rfl))
      (by refine' Mi.fnAt_mk KX G ?a ?l ?c ?k ?hb; (case a => k_is); (case l => k_is); (case c => k_is); (case k => k_is); (case hb => exact fun _ _ _ _ _ _ us hl => match us, hl with | [_, _], _ => rfl))
      (by refine' Mi.fnAt_mk KX G ?a ?l ?c ?k ?hb; (case a => k_is); (case l => k_is); (case c => k_is); (case k => k_is); (case hb => exact fun _ _ _ _ _ _ us hl => match us, hl with | [_, _, _], _ => rfl))
      (by refine' Mi.fnAt_mk KX G ?a ?l ?c ?k ?hb; (case a => k_is); (case l => k_is); (case c => k_is); (case k => k_is); (case hb => exact fun _ _ _ _ _ _ us hl => match us, hl with | [_, _], _ => rfl))
      (by refine' Mi.fnAt_mk KX G ?a ?l ?c ?k ?hb; (case a => k_is); (case l => k_is); (case c => k_is); (case k => k_is); (case hb => exact fun _ _ _ _ _ _ us hl => match us, hl with | [_, _], _ => rfl))
      (by refine' Mi.fnAt_mk KX G ?a ?l ?c ?k ?hb; (case a => k_is); (case l => k_is); (case c => k_is); (case k => k_is); (case hb => exact fun _ _ _ _ _ _ us hl => match us, hl with | [_, _], _ => rfl))
      (by refine' Mi.fnAt_mk KX G ?a ?l ?c ?k ?hb; (case a => k_is); (case l => k_is); (case c => k_is); (case k => k_is); (case hb => exact fun _ _ _ _ _ _ us hl => match us, hl with | [], _ => rfl))
      (by refine' Mi.fnAt_mk KX G ?a ?l ?c ?k ?hb; (case a => k_is); (case l => k_is); (case c => k_is); (case k => k_is); (case hb => exact fun _ _ _ _ _ _ us hl => match us, hl with | [_, _], _ => rfl))
      (by refine' Mi.fnAt_mk KX G ?a ?l ?c ?k ?hb; (case a => k_is); (case l => k_is); (case c => k_is); (case k => k_is); (case hb => exact fun _ _ _ _ _ _ us hl => match us, hl with | [_], _ => rfl))
      (by refine' Mi.fnAt_mk KX G ?a ?l ?c ?k ?hb; (case a => k_is); (case l => k_is); (case c => k_is); (case k => k_is); (case hb => exact fun _ _ _ _ _ _ us hl => match us, hl with | [_, _, _], _ => rfl))
      (by refine' Mi.fnAt_mk KX G ?a ?l ?c ?k ?hb; (case a => k_is); (case l => k_is); (case c => k_is); (case k => k_is); (case hb => exact fun _ _ _ _ _ _ us hl => match us, hl with | [_], _ => rfl))
      (by refine' Mi.fnAt_mk KX G ?a ?l ?c ?k ?hb; (case a => k_is); (case l => k_is); (case c => k_is); (case k => k_is); (case hb => exact fun _ _ _ _ _ _ us hl => match us, hl with | [_, _], _ => rfl))
      (by refine' Mi.fnAt_mk KX G ?a ?l ?c ?k ?hb; (case a => k_is); (case l => k_is); (case c => k_is); (case k => k_is); (case hb => exact fun _ _ _ _ _ _ us hl => match us, hl with | [_, _, _], _ => rfl))
      (by refine' Mi.fnAt_mk KX G ?a ?l ?c ?k ?hb; (case a => k_is); (case l => k_is); (case c => k_is); (case k => k_is); (case hb => exact fun _ _ _ _ _ _ us hl => match us, hl with | [_], _ => rfl))
      (by show PySem.W.nsIn _ _ _ = _; k_is)
      (PySem.W.mg_none_of KX G (by k_is))
      (PySem.W.mg_none_of KX G (by k_is))
      (PySem.W.mg_none_of KX G (by k_is))
      (PySem.W.mg_none_of KX G (by k_is))
      (PySem.W.mg_none_of KX G (by k_is))
      (PySem.W.mg_none_of KX G (by k_is))
      (PySem.W.mg_none_of KX G (by k_is))
      (PySem.W.mg_none_of KX G (by k_is))
      (PySem.W.mg_none_of KX G (by k_is))
      (PySem.W.mg_none_of KX G (by k_is))
      (PySem.W.mg_none_of KX G (by k_is))
      (PySem.W.mg_none_of KX G (by k_is))
      (PySem.W.mg_none_of KX G (by k_is))
      (PySem.W.mg_none_of KX G (by k_is))
      (PySem.W.mg_none_of KX G (by k_is))
      (PySem.W.mg_of KX G (by k_is))
      (PySem.W.mg_of KX G (by k_is))
      ⟨_, PySem.W.mg_of KX G (by k_is)⟩
      ⟨_, PySem.W.mg_of KX G (by k_is)⟩
      ⟨_, PySem.W.mg_of KX G (by k_is)⟩
      ⟨_, PySem.W.mg_of KX G (by k_is)⟩
      ⟨_, PySem.W.mg_of KX G (by k_is)⟩
      ⟨_, PySem.W.mg_of KX G (by k_is)⟩
      ⟨_, PySem.W.mg_of KX G (by k_is)⟩
      ⟨_, PySem.W.mg_of KX G (by k_is)⟩
      ⟨_, PySem.W.mg_of KX G (by k_is)⟩
      ⟨_, PySem.W.mg_of KX G (by k_is)⟩
      ⟨_, PySem.W.mg_of KX G (by k_is)⟩
      ⟨_, PySem.W.mg_of KX G (by k_is)⟩
      (by refine' Mi.ktup_mk KX G ?ktA ?ktL ?ktZ ?ktT; (case ktA => k_is); (case ktL => k_is); (case ktZ => decide); (case ktT => exact (.cons rfl ⟨_, rfl⟩ (.cons rfl ⟨_, rfl⟩ (.cons rfl ⟨_, rfl⟩ (.cons rfl ⟨_, rfl⟩ .nil))))))
      (by refine' Mi.ktup_mk KX G ?ktA ?ktL ?ktZ ?ktT; (case ktA => k_is); (case ktL => k_is); (case ktZ => decide); (case ktT => exact (.cons rfl ⟨_, rfl⟩ (.cons rfl ⟨_, rfl⟩ (.cons rfl ⟨_, rfl⟩ .nil)))))
      (by refine' Mi.ktab_mk KX G ?ktA ?ktL ?ktH ?ktS ?ktT; (case ktA => k_is); (case ktL => k_is); (case ktH => exact ⟨⟨_, _, rfl, rfl⟩, ⟨⟨_, _, rfl, rfl⟩, ⟨⟨_, _, rfl, rfl⟩, trivial⟩⟩⟩); (case ktS => rfl); (case ktT => exact (.cons rfl rfl rfl (.cons rfl rfl rfl (.cons rfl rfl rfl .nil)))))

