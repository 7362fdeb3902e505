import PyProof.Rows.All
import Wide.All
import OpenK.AllK
import Wide.FinOn
import HandS.ForMost
import HandS.Wide
import HandS.IsInst
import HandS.Style
import HandS.Defaults
import HandS.EndBits
import HandS.TupAny
import HandS.Conv
import KE.KStateDown
import HandS.Head0
import HandS.Head1
import HandS.Head2
import HandS.HeadEnd
import HandS.HeadHook1
import HandS.HeadHook2
import PySem.Challenge.RW_pouredastold_k07_whole_samples_and_doubl
set_option Elab.async false
set_option linter.all false
set_option maxRecDepth 100000
/-! Dl: values as data (PyData); a frame's slots hold data or lists of its own; the heap is out of sight. -/
namespace Dl
open PySem PySem.Spec PyProof.Rows L2
abbrev D := PyData
/-! ### the heap without some addresses -/
def imm (H : Hp) (ps : List Addr) : Hp := fun a => if a ∈ ps then none else H a
theorem imm_in {H : Hp} {ps : List Addr} {a : Addr} (h : a ∈ ps) : imm H ps a = none := if_pos h
theorem imm_out {H : Hp} {ps : List Addr} {a : Addr} (h : a ∉ ps) : imm H ps a = H a := if_neg h
theorem imm_some {H : Hp} {ps : List Addr} {a : Addr} {o : HO} (h : imm H ps a = some o) : a ∉ ps ∧ H a = some o := by
  by_cases q : a ∈ ps
  · rw [imm_in q] at h; cases h
  · rw [imm_out q] at h; exact ⟨q, h⟩
theorem imm_mk {H : Hp} {ps : List Addr} {a : Addr} {o : HO} (q : a ∉ ps) (h : H a = some o) : imm H ps a = some o := by rw [imm_out q]; exact h
theorem same_imm_sub {H : Hp} {ps qs : List Addr} (h : ∀ a ∈ qs, a ∈ ps) : Same (imm H ps) (imm H qs) := fun a o e => by
  obtain ⟨n, e⟩ := imm_some e
  exact imm_mk (fun z => n (h a z)) e
theorem Same.rd {H H' : Hp} (s : Same H H') {a : Addr} {u : HO} (r : Rd H a u) : Rd H' a u := by
  rcases r with r | ⟨o, r⟩
  · exact .inl (s _ _ r)
  · exact .inr ⟨o, s _ _ r⟩
theorem Same.seqT {K : PySem.W.Frag} {H H' : Hp} {a : Addr} {xs : List V} (e : Same H H') (h : SqT K H a xs) : SqT K H' a xs := by
  rcases h with h | h
  · exact .inl (Same.rd e h)
  · exact .inr h
/-! ### a value is a datum -/
mutual
inductive Rp (K : PySem.W.Frag) (H : Hp) : V → D → Prop
  | non : Rp K H .non .none
  | bl (b : Bool) : Rp K H (.bl b) (.bool b)
  | int (i : Int) : Rp K H (.int i) (.int i)
  | str (x : Str) : Rp K H (.str x) (.str x)
  | lst {a : Addr} {xs : List V} {ds : List D} : SqL K H a xs → RpAll K H xs ds → Rp K H (.ref a) (.list ds)
  | tup {a : Addr} {xs : List V} {ds : List D} : SqT K H a xs → RpAll K H xs ds → Rp K H (.ref a) (.tuple ds)
inductive RpAll (K : PySem.W.Frag) (H : Hp) : List V → List D → Prop
  | nil : RpAll K H [] []
  | cons {v : V} {vs : List V} {d : D} {ds : List D} : Rp K H v d → RpAll K H vs ds → RpAll K H (v :: vs) (d :: ds)
end
section
variable {K : PySem.W.Frag} {H H' : Hp}
mutual
theorem Rp.mono (s : Same H H') : ∀ (d : D) (v : V), Rp K H v d → Rp K H' v d
  | .none, _, h => by cases h; exact .non
  | .bool b, _, h => by cases h; exact .bl b
  | .int i, _, h => by cases h; exact .int i
  | .str x, _, h => by cases h; exact .str x
  | .list ds, _, h => by cases h with | lst q r => exact .lst (s.seq q) (RpAll.mono s ds _ r)
  | .tuple ds, _, h => by cases h with | tup q r => exact .tup (Same.seqT s q) (RpAll.mono s ds _ r)
  | .dict _, _, h => by cases h
theorem RpAll.mono (s : Same H H') : ∀ (ds : List D) (vs : List V), RpAll K H vs ds → RpAll K H' vs ds
  | [], _, h => by cases h; exact .nil
  | d :: ds, _, h => by cases h with | cons a b => exact .cons (Rp.mono s d _ a) (RpAll.mono s ds _ b)
end
mutual
theorem Rp.dp : ∀ (d : D) (v : V), Rp K H v d → Dp K H v d
  | .none, _, h => by cases h; exact .non
  | .bool b, _, h => by cases h; exact .bl b
  | .int i, _, h => by cases h; exact .int i
  | .str x, _, h => by cases h; exact .str x
  | .list ds, _, h => by cases h with | lst q r => exact .lst q (RpAll.dp ds _ r)
  | .tuple ds, _, h => by cases h with | tup q r => exact .tup q (RpAll.dp ds _ r)
  | .dict _, _, h => by cases h
theorem RpAll.dp : ∀ (ds : List D) (vs : List V), RpAll K H vs ds → DpAll K H vs ds
  | [], _, h => by cases h; exact .nil
  | d :: ds, _, h => by cases h with | cons a b => exact .cons (Rp.dp d _ a) (RpAll.dp ds _ b)
end
theorem RpAll.length : ∀ {vs : List V} {ds : List D}, RpAll K H vs ds → vs.length = ds.length
  | _, _, .nil => rfl
  | _, _, .cons _ b => by rw [List.length_cons, List.length_cons, RpAll.length b]
theorem RpAll.get : ∀ {vs : List V} {ds : List D} {i : Nat} {d : D}, RpAll K H vs ds → ds[i]? = some d → ∃ v, vs[i]? = some v ∧ Rp K H v d
  | _, _, _, _, .nil, e => by simp at e
  | _, _, 0, _, .cons a _, e => by simp at e; subst e; exact ⟨_, rfl, a⟩
  | _, _, i + 1, d, .cons _ b, e => by
    obtain ⟨v, h1, h2⟩ := RpAll.get (i := i) (d := d) b (by simpa using e)
    exact ⟨v, by simpa using h1, h2⟩
theorem RpAll.get' : ∀ {vs : List V} {ds : List D} {i : Nat} {v : V}, RpAll K H vs ds → vs[i]? = some v → ∃ d, ds[i]? = some d ∧ Rp K H v d
  | _, _, _, _, .nil, e => by simp at e
  | _, _, 0, _, .cons a _, e => by simp at e; subst e; exact ⟨_, rfl, a⟩
  | _, _, i + 1, d, .cons _ b, e => by
    obtain ⟨v, h1, h2⟩ := RpAll.get' (i := i) (v := d) b (by simpa using e)
    exact ⟨v, by simpa using h1, h2⟩
theorem RpAll.append : ∀ {vs ws : List V} {ds es : List D}, RpAll K H vs ds → RpAll K H ws es → RpAll K H (vs ++ ws) (ds ++ es)
  | _, _, _, _, .nil, s => s
  | _, _, _, _, .cons a b, s => .cons a (RpAll.append b s)
theorem RpAll.take : ∀ {vs : List V} {ds : List D} (n : Nat), RpAll K H vs ds → RpAll K H (vs.take n) (ds.take n)
  | _, _, 0, _ => .nil
  | _, _, _ + 1, .nil => .nil
  | _, _, n + 1, .cons r t => .cons r (RpAll.take n t)
theorem RpAll.drop : ∀ {vs : List V} {ds : List D} (n : Nat), RpAll K H vs ds → RpAll K H (vs.drop n) (ds.drop n)
  | _, _, 0, r => r
  | _, _, _ + 1, .nil => .nil
  | _, _, n + 1, .cons _ t => RpAll.drop n t
theorem RpAll.set {x : V} {d : D} (r : Rp K H x d) : ∀ {vs : List V} {ds : List D} (i : Nat), RpAll K H vs ds → RpAll K H (vs.set i x) (ds.set i d)
  | _, _, _, .nil => .nil
  | _, _, 0, .cons _ t => .cons r t
  | _, _, i + 1, .cons q t => .cons q (RpAll.set r i t)
theorem RpAll.ints : ∀ {vs : List V} {ns : List Int}, RpAll K H vs (ns.map PyData.int) → vs = ns.map V.int
  | _, [], h => by cases h; rfl
  | _, n :: ns, h => by
    cases h with
    | cons a b => cases a; rw [RpAll.ints b]; rfl
theorem RpAll.of_ints : ∀ (ns : List Int), RpAll K H (ns.map V.int) (ns.map PyData.int)
  | [] => .nil
  | n :: ns => .cons (.int n) (RpAll.of_ints ns)
theorem RpAll.bls : ∀ {vs : List V} {bs : List Bool}, RpAll K H vs (bs.map PyData.bool) → vs = bs.map V.bl
  | _, [], h => by cases h; rfl
  | _, n :: ns, h => by
    cases h with
    | cons a b => cases a; rw [RpAll.bls b]; rfl
end
/-! ### a frame's slots -/
inductive Sl where
  | d (x : D)
  | ls (p : Addr) (xs : List D)
abbrev Sls := List (Option Sl)
def own : Sls → List Addr
  | [] => []
  | some (.ls p _) :: r => p :: own r
  | _ :: r => own r
def Sls.at : Sls → Nat → Option Sl
  | [], _ => none
  | x :: _, 0 => x
  | _ :: r, n + 1 => Sls.at r n
def Sls.put : Sls → Nat → Option Sl → Sls
  | [], _, _ => []
  | _ :: r, 0, y => y :: r
  | x :: r, n + 1, y => x :: Sls.put r n y
theorem Sls.put_length : ∀ (e : Sls) (i : Nat) (y : Option Sl), (e.put i y).length = e.length
  | [], _, _ => rfl
  | _ :: _, 0, _ => rfl
  | _ :: r, n + 1, y => by show (Sls.put r n y).length + 1 = r.length + 1; rw [Sls.put_length r n y]
theorem Sls.at_put_same : ∀ (e : Sls) (i : Nat) (y : Option Sl), i < e.length → (e.put i y).at i = y
  | [], _, _, h => by simp at h
  | _ :: _, 0, _, _ => rfl
  | _ :: r, n + 1, y, h => Sls.at_put_same r n y (by simpa using h)
theorem Sls.at_put_ne : ∀ (e : Sls) (i j : Nat) (y : Option Sl), i ≠ j → (e.put i y).at j = e.at j
  | [], _, _, _, _ => rfl
  | _ :: _, 0, 0, _, h => absurd rfl h
  | _ :: _, 0, _ + 1, _, _ => rfl
  | _ :: _, _ + 1, 0, _, _ => rfl
  | _ :: r, n + 1, m + 1, y, h => Sls.at_put_ne r n m y (fun z => h (by rw [z]))
theorem Sls.at_lt : ∀ {e : Sls} {i : Nat} {y : Sl}, e.at i = some y → i < e.length
  | [], _, _, h => by cases h
  | _ :: _, 0, _, _ => Nat.succ_pos _
  | _ :: r, n + 1, y, h => Nat.succ_lt_succ (Sls.at_lt (e := r) h)
theorem own_mem : ∀ {e : Sls} {p : Addr}, p ∈ own e ↔ ∃ i xs, e.at i = some (.ls p xs)
  | [], p => ⟨fun h => (by cases h), fun ⟨_, _, h⟩ => (by cases h)⟩
  | none :: r, p => by
    show p ∈ own r ↔ _
    rw [own_mem (e := r)]
    constructor
    · rintro ⟨i, xs, h⟩; exact ⟨i + 1, xs, h⟩
    · rintro ⟨i, xs, h⟩
      cases i with
      | zero => cases h
      | succ i => exact ⟨i, xs, h⟩
  | some (.d x) :: r, p => by
    show p ∈ own r ↔ _
    rw [own_mem (e := r)]
    constructor
    · rintro ⟨i, xs, h⟩; exact ⟨i + 1, xs, h⟩
    · rintro ⟨i, xs, h⟩
      cases i with
      | zero => cases h
      | succ i => exact ⟨i, xs, h⟩
  | some (.ls q ys) :: r, p => by
    show p ∈ q :: own r ↔ _
    rw [List.mem_cons, own_mem (e := r)]
    constructor
    · rintro (h | ⟨i, xs, h⟩)
      · subst h; exact ⟨0, ys, rfl⟩
      · exact ⟨i + 1, xs, h⟩
    · rintro ⟨i, xs, h⟩
      cases i with
      | zero => cases h; exact .inl rfl
      | succ i => exact .inr ⟨i, xs, h⟩
/-- how the slots hold what env tells; h: addresses out of sight -/
structure Rel (K : PySem.W.Frag) (h : List Addr) (σ : L2.St) (H : Hp) (env : Sls) : Prop where
  hs : ∀ q ∈ h, H q ≠ none
  len : σ.length = env.length
  inj : ∀ i j p xs ys, env.at i = some (.ls p xs) → env.at j = some (.ls p ys) → i = j
  dj : ∀ q ∈ own env, q ∉ h
  dat : ∀ i x, env.at i = some (.d x) → ∃ v, σ[i]? = some (some v) ∧ Rp K (imm H (h ++ own env)) v x
  lst : ∀ i p xs, env.at i = some (.ls p xs) → σ[i]? = some (some (.ref p)) ∧ ∃ ys, H p = some (.lst ys) ∧ RpAll K (imm H (h ++ own env)) ys xs
def Ext (H : Hp) (env : Sls) (H' : Hp) (env' : Sls) : Prop := Same (imm H (own env)) (imm H' (own env'))
theorem Ext.refl (H : Hp) (env : Sls) : Ext H env H env := Same.refl _
theorem Ext.trans {H1 H2 H3 : Hp} {e1 e2 e3 : Sls} (a : Ext H1 e1 H2 e2) (b : Ext H2 e2 H3 e3) : Ext H1 e1 H3 e3 := Same.trans a b
/-- what was to be seen is still to be seen -/
theorem Ext.sees {H H' : Hp} {env env' : Sls} (e : Ext H env H' env') (h : List Addr) : Same (imm H (h ++ own env)) (imm H' (h ++ own env')) := fun a o q => by
  obtain ⟨n, q⟩ := imm_some q
  have n1 : a ∉ h := fun z => n (List.mem_append_left _ z)
  have n2 : a ∉ own env := fun z => n (List.mem_append_right _ z)
  obtain ⟨m, r⟩ := imm_some (e a o (imm_mk n2 q))
  exact imm_mk (fun z => (List.mem_append.mp z).elim n1 m) r
section
variable {K : PySem.W.Frag} {h : List Addr} {σ : L2.St} {H H' : Hp} {env env' : Sls}
/-- a new object is laid -/
theorem Ext.alloc {p : Addr} {o : HO} (n : H p = none) : Ext H env (upd H p o) env := fun a u q => by
  obtain ⟨m, q⟩ := imm_some q
  refine imm_mk m ?_
  rw [upd_ne (ne_of_none q n)]
  exact q
theorem Rel.fresh (R : Rel K h σ H env) {p : Addr} (n : H p = none) : p ∉ h ++ own env := fun z => by
  rcases List.mem_append.mp z with z | z
  · exact R.hs p z n
  · obtain ⟨i, xs, e⟩ := own_mem.mp z
    obtain ⟨_, ys, e2, _⟩ := R.lst i p xs e
    rw [n] at e2; cases e2
theorem Rel.alloc (R : Rel K h σ H env) {p : Addr} {o : HO} (n : H p = none) : Rel K h σ (upd H p o) env := by
  have sm : Same (imm H (h ++ own env)) (imm (upd H p o) (h ++ own env)) := (Ext.alloc (env := env) n).sees h
  refine ⟨fun q hq z => ?_, R.len, R.inj, R.dj, fun i x e => ?_, fun i q xs e => ?_⟩
  · by_cases e : q = p
    · rw [e, upd_same] at z; cases z
    · rw [upd_ne e] at z; exact R.hs q hq z
  · obtain ⟨v, e1, r⟩ := R.dat i x e
    exact ⟨v, e1, Rp.mono sm _ _ r⟩
  · obtain ⟨e1, ys, e2, r⟩ := R.lst i q xs e
    exact ⟨e1, ys, by rw [upd_ne (ne_of_none e2 n)]; exact e2, RpAll.mono sm _ _ r⟩
theorem imm_new (R : Rel K h σ H env) {p : Addr} {o : HO} (n : H p = none) : imm (upd H p o) (h ++ own env) p = some o := imm_mk (R.fresh n) upd_same
/-- a slot is stored with a datum -/
theorem own_put_d {i : Nat} {y : Option Sl} {p : Addr} (hy : ∀ q xs, y ≠ some (.ls q xs)) (hp : p ∈ own (env.put i y)) : p ∈ own env := by
  obtain ⟨j, xs, e⟩ := own_mem.mp hp
  by_cases ij : i = j
  · subst ij
    have lt : i < env.length := by have := Sls.at_lt e; rw [Sls.put_length] at this; exact this
    rw [Sls.at_put_same _ _ _ lt] at e
    exact absurd e (hy p xs)
  · rw [Sls.at_put_ne _ _ _ _ ij] at e
    exact own_mem.mpr ⟨j, xs, e⟩
end
end Dl

namespace Dl
open PySem PySem.Spec PyProof.Rows L2
section
variable {K : PySem.W.Frag} {h : List Addr} {σ : L2.St} {H H' : Hp} {env env' : Sls}
/-! ### stores -/
theorem own_put_sub {i : Nat} {y : Option Sl} (hy : ∀ q xs, y ≠ some (.ls q xs)) : ∀ q ∈ own (env.put i y), q ∈ own env := fun q hq => own_put_d hy hq
theorem own_put_ls {i : Nat} {p : Addr} {xs : List D} : ∀ q ∈ own (env.put i (some (.ls p xs))), q = p ∨ q ∈ own env := fun q hq => by
  obtain ⟨j, zs, e⟩ := own_mem.mp hq
  by_cases ij : i = j
  · subst ij
    have lt : i < env.length := by have := Sls.at_lt e; rw [Sls.put_length] at this; exact this
    rw [Sls.at_put_same _ _ _ lt] at e
    cases e
    exact .inl rfl
  · rw [Sls.at_put_ne _ _ _ _ ij] at e
    exact .inr (own_mem.mpr ⟨j, zs, e⟩)
theorem sees_sub {ps qs : List Addr} (hq : ∀ a ∈ qs, a ∈ ps) : Same (imm H (h ++ ps)) (imm H (h ++ qs)) := same_imm_sub fun a z => by
  rcases List.mem_append.mp z with z | z
  · exact List.mem_append_left _ z
  · exact List.mem_append_right _ (hq a z)
/-- slot i holds nothing known, or a datum -/
theorem Rel.put (R : Rel K h σ H env) {i : Nat} {y : Option Sl} {z : Option V} (hy : ∀ q xs, y ≠ some (.ls q xs)) (hd : ∀ x, y = some (.d x) → ∃ v, z = some v ∧ Rp K (imm H (h ++ own env)) v x) : Rel K h (σ.set i z) H (env.put i y) := by
  have sub := own_put_sub (env := env) (i := i) hy
  have sm : Same (imm H (h ++ own env)) (imm H (h ++ own (env.put i y))) := sees_sub sub
  have at_ : ∀ {j u}, (env.put i y).at j = some u → (i = j ∧ y = some u ∧ i < env.length) ∨ (i ≠ j ∧ env.at j = some u) := fun {j u} e => by
    by_cases ij : i = j
    · subst ij
      have lt : i < env.length := by have := Sls.at_lt e; rw [Sls.put_length] at this; exact this
      rw [Sls.at_put_same _ _ _ lt] at e
      exact .inl ⟨rfl, e, lt⟩
    · rw [Sls.at_put_ne _ _ _ _ ij] at e
      exact .inr ⟨ij, e⟩
  refine ⟨R.hs, by rw [List.length_set, Sls.put_length]; exact R.len, fun a b p xs ys e1 e2 => ?_, fun q hq => R.dj q (sub q hq), fun j x e => ?_, fun j p xs e => ?_⟩
  · rcases at_ e1 with ⟨_, e1, _⟩ | ⟨_, e1⟩
    · exact absurd e1 (hy p xs)
    · rcases at_ e2 with ⟨_, e2, _⟩ | ⟨_, e2⟩
      · exact absurd e2 (hy p ys)
      · exact R.inj a b p xs ys e1 e2
  · rcases at_ e with ⟨ij, e5, lt⟩ | ⟨ij, e⟩
    · subst ij
      obtain ⟨v, e1, r⟩ := hd x e5
      refine ⟨v, ?_, Rp.mono sm _ _ r⟩
      rw [List.getElem?_set_self (by rw [R.len]; exact lt), e1]
    · obtain ⟨v, e1, r⟩ := R.dat j x e
      exact ⟨v, by rw [List.getElem?_set_ne ij]; exact e1, Rp.mono sm _ _ r⟩
  · rcases at_ e with ⟨_, e, _⟩ | ⟨ij, e⟩
    · exact absurd e (hy p xs)
    · obtain ⟨e1, ys, e2, r⟩ := R.lst j p xs e
      exact ⟨by rw [List.getElem?_set_ne ij]; exact e1, ys, e2, RpAll.mono sm _ _ r⟩
theorem Rel.setD (R : Rel K h σ H env) {i : Nat} {v : V} {x : D} (r : Rp K (imm H (h ++ own env)) v x) : Rel K h (σ.set i (some v)) H (env.put i (some (.d x))) :=
  R.put (fun _ _ z => by cases z) fun y e => by cases e; exact ⟨v, rfl, r⟩
theorem Ext.putD {i : Nat} {x : D} : Ext H env H (env.put i (some (.d x))) := same_imm_sub (own_put_sub fun _ _ z => by cases z)
theorem Ext.putN {i : Nat} : Ext H env H (env.put i none) := same_imm_sub (own_put_sub fun _ _ z => by cases z)
/-- slot i takes a new list that nobody else holds -/
theorem Rel.setL {p : Addr} {ys : List V} {xs : List D} (R : Rel K (p :: h) σ H env) (hp : H p = some (.lst ys)) (r : RpAll K (imm H (p :: h ++ own env)) ys xs) (np : p ∉ h) {i : Nat} : Rel K h (σ.set i (some (.ref p))) H (env.put i (some (.ls p xs))) := by
  have sm : Same (imm H (p :: h ++ own env)) (imm H (h ++ own (env.put i (some (.ls p xs))))) := same_imm_sub fun a z => by
    rcases List.mem_append.mp z with z | z
    · exact List.mem_append_left _ (List.mem_cons_of_mem _ z)
    · rcases own_put_ls a z with z | z
      · rw [z]; exact List.mem_append_left _ List.mem_cons_self
      · exact List.mem_append_right _ z
  have at_ : ∀ {j u}, (env.put i (some (.ls p xs))).at j = some u → (i = j ∧ some (.ls p xs) = some u ∧ i < env.length) ∨ (i ≠ j ∧ env.at j = some u) := fun {j u} e => by
    by_cases ij : i = j
    · subst ij
      have lt : i < env.length := by have := Sls.at_lt e; rw [Sls.put_length] at this; exact this
      rw [Sls.at_put_same _ _ _ lt] at e
      exact .inl ⟨rfl, e, lt⟩
    · rw [Sls.at_put_ne _ _ _ _ ij] at e
      exact .inr ⟨ij, e⟩
  have pn : ∀ j zs, env.at j ≠ some (.ls p zs) := fun j zs e => R.dj p (own_mem.mpr ⟨j, zs, e⟩) List.mem_cons_self
  refine ⟨fun q hq => R.hs q (List.mem_cons_of_mem _ hq), by rw [List.length_set, Sls.put_length]; exact R.len, fun a b q zs us e1 e2 => ?_, fun q hq z => ?_, fun j x e => ?_, fun j q zs e => ?_⟩
  · rcases at_ e1 with ⟨ia, e1, _⟩ | ⟨ia, e1⟩
    · cases e1
      rcases at_ e2 with ⟨ib, _, _⟩ | ⟨ib, e2⟩
      · exact ia.symm.trans ib
      · exact absurd e2 (pn b us)
    · rcases at_ e2 with ⟨ib, e2, _⟩ | ⟨ib, e2⟩
      · cases e2
        exact absurd e1 (pn a zs)
      · exact R.inj a b q zs us e1 e2
  · rcases own_put_ls q hq with e | e
    · rw [e] at z; exact np z
    · exact R.dj q e (List.mem_cons_of_mem _ z)
  · rcases at_ e with ⟨ij, e, lt⟩ | ⟨ij, e⟩
    · cases e
    · obtain ⟨v, e1, r⟩ := R.dat j x e
      exact ⟨v, by rw [List.getElem?_set_ne ij]; exact e1, Rp.mono sm _ _ r⟩
  · rcases at_ e with ⟨ij, e, lt⟩ | ⟨ij, e⟩
    · cases e
      subst ij
      exact ⟨by rw [List.getElem?_set_self (by rw [R.len]; exact lt)], ys, hp, RpAll.mono sm _ _ r⟩
    · obtain ⟨e1, us, e2, r⟩ := R.lst j q zs e
      exact ⟨by rw [List.getElem?_set_ne ij]; exact e1, us, e2, RpAll.mono sm _ _ r⟩
theorem Ext.putL {i : Nat} {p : Addr} {xs : List D} {e0 : Sls} {H0 : Hp} (s : Same (imm H0 (own e0)) (imm H (p :: own env))) : Ext H0 e0 H (env.put i (some (.ls p xs))) :=
  s.trans (same_imm_sub fun a z => by
    rcases own_put_ls a z with z | z
    · rw [z]; exact List.mem_cons_self
    · exact List.mem_cons_of_mem _ z)
/-- a new list, out of sight so far, comes to be seen -/
theorem Rel.unhide {p : Addr} (R : Rel K (p :: h) σ H env) : Rel K h σ H env := by
  have sm : Same (imm H (p :: h ++ own env)) (imm H (h ++ own env)) := same_imm_sub fun a z => List.mem_cons_of_mem _ z
  exact ⟨fun q hq => R.hs q (List.mem_cons_of_mem _ hq), R.len, R.inj, fun q hq z => R.dj q hq (List.mem_cons_of_mem _ z), fun i x e => by
    obtain ⟨v, e1, r⟩ := R.dat i x e
    exact ⟨v, e1, Rp.mono sm _ _ r⟩, fun i q xs e => by
    obtain ⟨e1, ys, e2, r⟩ := R.lst i q xs e
    exact ⟨e1, ys, e2, RpAll.mono sm _ _ r⟩⟩
/-- a list of the frame's own is written -/
theorem Rel.write (R : Rel K h σ H env) {i : Nat} {p : Addr} {xs xs' : List D} {ys' : List V} (e : env.at i = some (.ls p xs)) (r : RpAll K (imm H (h ++ own env)) ys' xs') : Rel K h σ (upd H p (.lst ys')) (env.put i (some (.ls p xs'))) := by
  have lt := Sls.at_lt e
  have hp : p ∈ own env := own_mem.mpr ⟨i, xs, e⟩
  have same_own : ∀ q, q ∈ own (env.put i (some (.ls p xs'))) → q ∈ own env := fun q z => by
    rcases own_put_ls q z with z | z
    · rw [z]; exact hp
    · exact z
  have sm : Same (imm H (h ++ own env)) (imm (upd H p (.lst ys')) (h ++ own (env.put i (some (.ls p xs'))))) := fun a o z => by
    obtain ⟨n, z⟩ := imm_some z
    refine imm_mk (fun y => n ?_) ?_
    · rcases List.mem_append.mp y with y | y
      · exact List.mem_append_left _ y
      · exact List.mem_append_right _ (same_own a y)
    · rw [upd_ne (fun q => n (List.mem_append_right _ (by rw [q]; exact hp)))]
      exact z
  have at_ : ∀ {j u}, (env.put i (some (.ls p xs'))).at j = some u → (i = j ∧ some (.ls p xs') = some u) ∨ (i ≠ j ∧ env.at j = some u) := fun {j u} e => by
    by_cases ij : i = j
    · subst ij
      rw [Sls.at_put_same _ _ _ lt] at e
      exact .inl ⟨rfl, e⟩
    · rw [Sls.at_put_ne _ _ _ _ ij] at e
      exact .inr ⟨ij, e⟩
  refine ⟨fun q hq z => ?_, by rw [Sls.put_length]; exact R.len, fun a b q zs us e1 e2 => ?_, fun q hq => R.dj q (same_own q hq), fun j x e => ?_, fun j q zs e3 => ?_⟩
  · by_cases e : q = p
    · rw [e, upd_same] at z; cases z
    · rw [upd_ne e] at z; exact R.hs q hq z
  · rcases at_ e1 with ⟨ia, e1⟩ | ⟨ia, e1⟩
    · cases e1
      rcases at_ e2 with ⟨ib, _⟩ | ⟨ib, e2⟩
      · exact ia.symm.trans ib
      · exact ia.symm.trans (R.inj i b p _ _ e e2)
    · rcases at_ e2 with ⟨ib, e2⟩ | ⟨ib, e2⟩
      · cases e2
        exact (R.inj a i p _ _ e1 e).trans ib
      · exact R.inj a b q zs us e1 e2
  · rcases at_ e with ⟨ij, e⟩ | ⟨ij, e⟩
    · cases e
    · obtain ⟨v, e1, r⟩ := R.dat j x e
      exact ⟨v, e1, Rp.mono sm _ _ r⟩
  · rcases at_ e3 with ⟨ij, e5⟩ | ⟨ij, e5⟩
    · cases e5
      subst ij
      exact ⟨(R.lst i p xs e).1, ys', upd_same, RpAll.mono sm _ _ r⟩
    · obtain ⟨e1, us, e2, r⟩ := R.lst j q zs e5
      refine ⟨e1, us, ?_, RpAll.mono sm _ _ r⟩
      rw [upd_ne (fun z => ij (by rw [z] at e5; exact R.inj i j _ _ _ e e5))]
      exact e2
theorem Ext.write {i : Nat} {p : Addr} {xs xs' : List D} {ys' : List V} (e : env.at i = some (.ls p xs)) : Ext H env (upd H p (.lst ys')) (env.put i (some (.ls p xs'))) := fun a o z => by
  have hp : p ∈ own env := own_mem.mpr ⟨i, xs, e⟩
  obtain ⟨n, z⟩ := imm_some z
  refine imm_mk (fun y => n ?_) ?_
  · rcases own_put_ls a y with y | y
    · rw [y]; exact hp
    · exact y
  · rw [upd_ne (fun q => n (by rw [q]; exact hp))]
    exact z
/-- a list of the frame's own becomes a datum -/
theorem Rel.freeze (R : Rel K h σ H env) {i : Nat} {p : Addr} {xs : List D} (e : env.at i = some (.ls p xs)) : Rel K h σ H (env.put i (some (.d (.list xs)))) := by
  have lt := Sls.at_lt e
  obtain ⟨e1, ys, e2, r⟩ := R.lst i p xs e
  have sub := own_put_sub (env := env) (i := i) (y := some (.d (.list xs))) fun _ _ z => by cases z
  have sm : Same (imm H (h ++ own env)) (imm H (h ++ own (env.put i (some (.d (.list xs)))))) := sees_sub sub
  have pn : p ∉ own (env.put i (some (.d (.list xs)))) := fun z => by
    obtain ⟨j, zs, e3⟩ := own_mem.mp z
    by_cases ij : i = j
    · subst ij
      rw [Sls.at_put_same _ _ _ lt] at e3
      cases e3
    · rw [Sls.at_put_ne _ _ _ _ ij] at e3
      exact ij (R.inj i j p _ _ e e3)
  have at_ : ∀ {j u}, (env.put i (some (.d (.list xs)))).at j = some u → (i = j ∧ some (.d (.list xs)) = some u) ∨ (i ≠ j ∧ env.at j = some u) := fun {j u} e => by
    by_cases ij : i = j
    · subst ij
      rw [Sls.at_put_same _ _ _ lt] at e
      exact .inl ⟨rfl, e⟩
    · rw [Sls.at_put_ne _ _ _ _ ij] at e
      exact .inr ⟨ij, e⟩
  have ph : p ∉ h := R.dj p (own_mem.mpr ⟨i, xs, e⟩)
  refine ⟨R.hs, by rw [Sls.put_length]; exact R.len, fun a b q zs us e1 e2 => ?_, fun q hq => R.dj q (sub q hq), fun j x e3 => ?_, fun j q zs e3 => ?_⟩
  · rcases at_ e1 with ⟨_, e1⟩ | ⟨_, e1⟩
    · cases e1
    · rcases at_ e2 with ⟨_, e2⟩ | ⟨_, e2⟩
      · cases e2
      · exact R.inj a b q zs us e1 e2
  · rcases at_ e3 with ⟨ij, e3⟩ | ⟨ij, e3⟩
    · cases e3
      subst ij
      refine ⟨_, e1, .lst (SqL.of (imm_mk (fun z => ?_) e2)) (RpAll.mono sm _ _ r)⟩
      rcases List.mem_append.mp z with z | z
      · exact ph z
      · exact pn z
    · obtain ⟨v, e4, r4⟩ := R.dat j x e3
      exact ⟨v, e4, Rp.mono sm _ _ r4⟩
  · rcases at_ e3 with ⟨ij, e3⟩ | ⟨ij, e3⟩
    · cases e3
    · obtain ⟨e4, us, e5, r5⟩ := R.lst j q zs e3
      exact ⟨e4, us, e5, RpAll.mono sm _ _ r5⟩
end
/-! ### what is wanted, over data -/
abbrev WE := Sls → (D → Sls → Prop) → Prop
abbrev WN := Sls → (List D → Sls → Prop) → Prop
abbrev WT := Sls → (Bool → Sls → Prop) → Prop
inductive Ar where
  | d (x : D)
  | sl (i : Nat)
abbrev WA := Sls → (List Ar → Sls → Prop) → Prop
structure WEnds where
  nx : Sls → Prop
  rt : D → Sls → Prop
  bk : Sls → Prop := fun _ => False
  ct : Sls → Prop := fun _ => False
  rn : List D → Sls → Prop := fun _ _ => False
abbrev WS := WEnds → Sls → Prop
def RpA (K : PySem.W.Frag) (σ : L2.St) (G : Hp) (v : V) : Ar → Prop
  | .d x => Rp K G v x
  | .sl i => σ[i]? = some (some v)
section
variable (K : PySem.W.Frag)
def lift (w : WE) : TE := fun σ H Q => ∃ h env W, Rel K h σ H env ∧ w env W ∧ ∀ v H' env' x, Rel K h σ H' env' → Rp K (imm H' (h ++ own env')) v x → Ext H env H' env' → W x env' → Q v H'
def liftN (w : WN) : TE := fun σ H Q => ∃ h env W, Rel K h σ H env ∧ w env W ∧ ∀ p ys H' env' xs, p ∉ h → Rel K (p :: h) σ H' env' → H' p = some (.lst ys) → RpAll K (imm H' (p :: h ++ own env')) ys xs → Same (imm H (own env)) (imm H' (p :: own env')) → W xs env' → Q (.ref p) H'
def liftT (w : WT) : TT := fun σ H Q => ∃ h env W, Rel K h σ H env ∧ w env W ∧ ∀ b H' env', Rel K h σ H' env' → Ext H env H' env' → W b env' → Q b H'
def liftA (w : WA) : TA := fun σ H Q => ∃ h env W, Rel K h σ H env ∧ w env W ∧ ∀ vs H' env' xs, Rel K h σ H' env' → Paired (RpA K σ (imm H' (h ++ own env'))) vs xs → Ext H env H' env' → W xs env' → Q vs H'
/-- what is wanted over data gives what is wanted -/
structure Goes (h : List Addr) (D : Ends) (W : WEnds) (H : Hp) (env : Sls) : Prop where
  nx : ∀ σ' H' env', Rel K h σ' H' env' → Ext H env H' env' → W.nx env' → D.nx σ' H'
  rt : ∀ v σ' H' env' x, Rel K h σ' H' env' → Rp K (imm H' (h ++ own env')) v x → Ext H env H' env' → W.rt x env' → D.rt v H'
  bk : ∀ σ' H' env', Rel K h σ' H' env' → Ext H env H' env' → W.bk env' → D.bk σ' H'
  ct : ∀ σ' H' env', Rel K h σ' H' env' → Ext H env H' env' → W.ct env' → D.ct σ' H'
  rn : ∀ p ys σ' H' env' xs, p ∉ h → Rel K (p :: h) σ' H' env' → H' p = some (.lst ys) → RpAll K (imm H' (p :: h ++ own env')) ys xs → Same (imm H (own env)) (imm H' (p :: own env')) → W.rn xs env' → D.rt (.ref p) H'
def liftS (w : WS) : TS := fun D σ H => ∃ h env W, Rel K h σ H env ∧ w W env ∧ Goes K h D W H env
end
theorem Goes.trans {K : PySem.W.Frag} {h : List Addr} {D : Ends} {W : WEnds} {H H1 : Hp} {env env1 : Sls} (g : Goes K h D W H env) (E : Ext H env H1 env1) : Goes K h D W H1 env1 :=
  ⟨fun σ' H' env' R E' w => g.nx σ' H' env' R (E.trans E') w, fun v σ' H' env' x R r E' w => g.rt v σ' H' env' x R r (E.trans E') w, fun σ' H' env' R E' w => g.bk σ' H' env' R (E.trans E') w,
    fun σ' H' env' R E' w => g.ct σ' H' env' R (E.trans E') w, fun p ys σ' H' env' xs np R hp r E' w => g.rn p ys σ' H' env' xs np R hp r (Same.trans E E') w⟩
/-- another wish of what follows -/
theorem Goes.next {K : PySem.W.Frag} {h : List Addr} {D : Ends} {W : WEnds} {H : Hp} {env : Sls} (g : Goes K h D W H env) {n : Sls → Prop} {m : L2.St → Hp → Prop} (k : ∀ σ' H' env', Rel K h σ' H' env' → Ext H env H' env' → n env' → m σ' H') : Goes K h { D with nx := m } { W with nx := n } H env :=
  ⟨k, g.rt, g.bk, g.ct, g.rn⟩
/-- in a loop's turn -/
theorem Goes.turn {K : PySem.W.Frag} {h : List Addr} {D : Ends} {W : WEnds} {H : Hp} {env : Sls} (g : Goes K h D W H env) {n : Sls → Prop} {m : L2.St → Hp → Prop} (k : ∀ σ' H' env', Rel K h σ' H' env' → Ext H env H' env' → n env' → m σ' H') : Goes K h { D with nx := m, ct := m, bk := D.nx } { W with nx := n, ct := n, bk := W.nx } H env :=
  ⟨k, g.rt, g.nx, k, g.rn⟩
abbrev DE (X : Cx) (e : Expr) (w : WE) : Prop := PE X e (lift X.K w)
abbrev DN (X : Cx) (e : Expr) (w : WN) : Prop := PE X e (liftN X.K w)
abbrev DT (X : Cx) (e : Expr) (w : WT) : Prop := PT X e (liftT X.K w)
abbrev DW (X : Cx) (e : Expr) (w : WT) : Prop := PW X e (liftT X.K w)
abbrev DA (X : Cx) (es : List Expr) (w : WA) : Prop := PA X es (liftA X.K w)
abbrev DS (X : Cx) (st : Stmt) (w : WS) : Prop := PS X st (liftS X.K w)
abbrev DSs (X : Cx) (st : List Stmt) (w : WS) : Prop := PSs X st (liftS X.K w)
theorem PE.imp {X : Cx} {e : Expr} {t t' : TE} (h : PE X e t) (i : ∀ σ H Q, t' σ H Q → t σ H Q) : PE X e t' := ⟨fun pins s σ H Q I q => h.run pins s σ H Q I (i σ H Q q)⟩
theorem PT.imp {X : Cx} {e : Expr} {t t' : TT} (h : PT X e t) (i : ∀ σ H Q, t' σ H Q → t σ H Q) : PT X e t' := ⟨fun pins s σ H Q I q => h.run pins s σ H Q I (i σ H Q q)⟩
theorem PW.imp {X : Cx} {e : Expr} {t t' : TT} (h : PW X e t) (i : ∀ σ H Q, t' σ H Q → t σ H Q) : PW X e t' := ⟨fun w pins s σ H Q I q => h.run w pins s σ H Q I (i σ H Q q)⟩
theorem PA.imp {X : Cx} {e : List Expr} {t t' : TA} (h : PA X e t) (i : ∀ σ H Q, t' σ H Q → t σ H Q) : PA X e t' := ⟨fun pos pins s σ H Q I q => h.run pos pins s σ H Q I (i σ H Q q)⟩
theorem PS.imp {X : Cx} {e : Stmt} {t t' : TS} (h : PS X e t) (i : ∀ D σ H, t' D σ H → t D σ H) : PS X e t' := ⟨fun pins s σ H D I q => h.run pins s σ H D I (i D σ H q)⟩
theorem PSs.imp {X : Cx} {e : List Stmt} {t t' : TS} (h : PSs X e t) (i : ∀ D σ H, t' D σ H → t D σ H) : PSs X e t' := ⟨fun pins s σ H D I q => h.run pins s σ H D I (i D σ H q)⟩
section
variable {X : Cx} {a b c e : Expr} {es : List Expr} {wa wb wc : WE} {pos : Pos}
/-! ### names, constants -/
def wVar (i : Nat) : WE := fun env Q => match env.at i with
  | some (.d x) => Q x env
  | _ => False
def wC (x : D) : WE := fun env Q => Q x env
theorem de_var (i : Nat) {x : Str} {pos : Pos} (hN : X.N[i]? = some x := by rfl) (hv : Vis X.env.scope x := by first | exact Or.inl rfl | exact Or.inr (Or.inl rfl) | exact Or.inr (Or.inr rfl)) (hd : (x == ("__debug__" : Str)) = false := by decide)
    (hcd : (x == ("__classdict__" : Str)) = false := by decide) : DE X (.Name x pos) (wVar i) := by
  refine PE.imp (pe_var hN hv hd hcd) fun σ H Q q => ?_
  obtain ⟨h, env, W, R, w, k⟩ := q
  unfold wVar at w
  split at w
  · rename_i x e
    obtain ⟨v, e1, r⟩ := R.dat i x e
    exact ⟨v, e1, k v H env x R r (Ext.refl _ _) w⟩
  · exact w.elim
/-- a list of the frame's own, from here on a datum -/
def wFrz (i : Nat) : WE := fun env Q => match env.at i with
  | some (.ls _ xs) => Q (.list xs) (env.put i (some (.d (.list xs))))
  | some (.d x) => Q x env
  | _ => False
theorem de_frz (i : Nat) {x : Str} {pos : Pos} (hN : X.N[i]? = some x := by rfl) (hv : Vis X.env.scope x := by first | exact Or.inl rfl | exact Or.inr (Or.inl rfl) | exact Or.inr (Or.inr rfl)) (hd : (x == ("__debug__" : Str)) = false := by decide)
    (hcd : (x == ("__classdict__" : Str)) = false := by decide) : DE X (.Name x pos) (wFrz i) := by
  refine PE.imp (pe_var hN hv hd hcd) fun σ H Q q => ?_
  obtain ⟨h, env, W, R, w, k⟩ := q
  unfold wFrz at w
  split at w
  · rename_i p xs e
    obtain ⟨e1, ys, e2, r⟩ := R.lst i p xs e
    have R2 := R.freeze e
    have lt := Sls.at_lt e
    obtain ⟨v, e3, r3⟩ := R2.dat i (.list xs) (by rw [Sls.at_put_same _ _ _ lt])
    exact ⟨v, e3, k v H _ _ R2 r3 Ext.putD w⟩
  · rename_i x e
    obtain ⟨v, e1, r⟩ := R.dat i x e
    exact ⟨v, e1, k v H env x R r (Ext.refl _ _) w⟩
  · exact w.elim
theorem de_c {t : TE} {v : V} {x : D} (h : PE X e (tC v)) (r : ∀ G, Rp X.K G v x) : DE X e (wC x) := by
  refine PE.imp h fun σ H Q q => ?_
  obtain ⟨h, env, W, R, w, k⟩ := q
  exact k v H env x R (r _) (Ext.refl _ _) w
theorem de_int {i j pos} : DE X (.Constant (.int i) j pos) (wC (.int i)) := de_c (t := tC (.int i)) pe_int fun _ => .int i
theorem de_bl {i j pos} : DE X (.Constant (.bool i) j pos) (wC (.bool i)) := de_c (t := tC (.bl i)) pe_bl fun _ => .bl i
theorem de_non {j pos} : DE X (.Constant .none j pos) (wC .none) := de_c (t := tC .non) pe_non fun _ => .non
theorem de_str {x j pos} : DE X (.Constant (.str x) j pos) (wC (.str x)) := de_c (t := tC (.str x)) pe_str fun _ => .str x
theorem de_gint {x : Str} {i : Int} {pos : Pos} (hg : Gl X x) (hm : ∃ t, X.mg x = some (.int i t)) (hd : (x == ("__debug__" : Str)) = false := by decide) : DE X (.Name x pos) (wC (.int i)) := by
  obtain ⟨t, hm⟩ := hm
  exact de_c (t := tC (.int i)) (pe_glob (v := .int i) hg hm ⟨t, rfl⟩ hd) fun _ => .int i
theorem de_gstr {x : Str} {z : Str} {pos : Pos} (hg : Gl X x) (hm : ∃ t, X.mg x = some (.str z t)) (hd : (x == ("__debug__" : Str)) = false := by decide) : DE X (.Name x pos) (wC (.str z)) := by
  obtain ⟨t, hm⟩ := hm
  exact de_c (t := tC (.str z)) (pe_glob (v := .str z) hg hm ⟨t, rfl⟩ hd) fun _ => .str z
/-! ### operators -/
/-- an operator of two values does over data what f says -/
def Dop (K : PySem.W.Frag) (r : R2) (f : D → D → (D → Prop) → Prop) : Prop := ∀ (h : List Addr) (σ : L2.St) (H : Hp) (env : Sls) (v u : V) (x y : D) (W : D → Prop) (Q : VK), Rel K h σ H env → Rp K (imm H (h ++ own env)) v x → Rp K (imm H (h ++ own env)) u y →
  f x y W → (∀ z H' d, Rel K h σ H' env → Rp K (imm H' (h ++ own env)) z d → Ext H env H' env → W d → Q z H') → r v u H Q
def wOp (f : D → D → (D → Prop) → Prop) (wa wb : WE) : WE := fun env Q => wa env fun x env1 => wb env1 fun y env2 => f x y fun z => Q z env2
theorem lift_op {K : PySem.W.Frag} {r : R2} {f : D → D → (D → Prop) → Prop} (hf : Dop K r f) (σ : L2.St) (H : Hp) (Q : VK) (q : lift K (wOp f wa wb) σ H Q) : tOp r (lift K wa) (lift K wb) σ H Q := by
  obtain ⟨h, env, W, R, w, k⟩ := q
  refine ⟨h, env, _, R, w, fun v H1 env1 x R1 r1 E1 w1 => ?_⟩
  refine ⟨h, env1, _, R1, w1, fun u H2 env2 y R2 r2 E2 w2 => ?_⟩
  refine hf h σ H2 env2 v u x y _ Q R2 (Rp.mono (E2.sees h) _ _ r1) r2 w2 fun z H3 d R3 r3 E3 w3 => ?_
  exact k z H3 env2 d R3 r3 ((E1.trans E2).trans E3) w3
theorem de_op {op : Operator} {r : R2} {f : D → D → (D → Prop) → Prop} (ho : OpR X (binaryOp op) r) (hf : Dop X.K r f) (ha : DE X a wa) (hb : DE X b wb) : DE X (.BinOp a op b pos) (wOp f wa wb) :=
  PE.imp (pe_op ho ha hb) fun σ H Q q => lift_op hf σ H Q q
theorem de_cmpR {op : CmpOp} {r : R2} {f : D → D → (D → Prop) → Prop} (ho : OpR X (compareOp op) r) (hf : Dop X.K r f) (ha : DE X a wa) (hb : DE X b wb) (hm : behindInMarks op b = false) : DE X (.Compare a [op] [b] pos) (wOp f wa wb) :=
  PE.imp (pe_cmpR ho ha hb hm) fun σ H Q q => lift_op hf σ H Q q
/-- an expression that gives True or False, as a test -/
def wTest (w : WE) : WT := fun env Q => w env fun x env' => match x with
  | .bool b => Q b env'
  | _ => False
theorem lift_test {K : PySem.W.Frag} (σ : L2.St) (H : Hp) (Q : Bool → Hp → Prop) (q : liftT K (wTest wa) σ H Q) : tB (lift K wa) σ H Q := by
  obtain ⟨h, env, W, R, w, k⟩ := q
  refine ⟨h, env, _, R, w, fun v H1 env1 x R1 r1 E1 w1 => ?_⟩
  cases r1 with
  | bl b => exact ⟨b, rfl, k b H1 env1 R1 E1 w1⟩
  | _ => exact w1.elim
theorem dt_val (ha : DE X e wa) (he : ∀ whole, isTrue e X.env whole = (do let v ← whole; standAt e.pos; holding [v] (truthy v)) := by intro _; rfl) : DT X e (wTest wa) :=
  PT.imp (pt_val ha he) fun σ H Q q => lift_test σ H Q q
theorem dt_cmpR {op : CmpOp} {r : R2} {f : D → D → (D → Prop) → Prop} (ho : OpR X (compareOp op) r) (hf : Dop X.K r f) (ha : DE X a wa) (hb : DE X b wb) (hm : behindInMarks op b = false) : DT X (.Compare a [op] [b] pos) (wTest (wOp f wa wb)) :=
  PT.imp (pt_cmpR ho ha hb hm) fun σ H Q q => by
    obtain ⟨h, env, W, R, w, k⟩ := q
    refine lift_op hf σ H _ ⟨h, env, _, R, w, fun v H1 env1 x R1 r1 E1 w1 => ?_⟩
    cases r1 with
    | bl b => exact ⟨b, rfl, k b H1 env1 R1 E1 w1⟩
    | _ => exact w1.elim
/-! ### and, or, not -/
variable {ta tb : WT} {rest : List Expr}
def wAnd (t u : WT) : WT := fun env Q => t env fun c env1 => if c = true then u env1 Q else Q false env1
def wOr (t u : WT) : WT := fun env Q => t env fun c env1 => if c = true then Q true env1 else u env1 Q
def wNot (t : WT) : WT := fun env Q => t env fun c env1 => Q (!c) env1
theorem lift_and {K : PySem.W.Frag} (σ : L2.St) (H : Hp) (Q : Bool → Hp → Prop) (q : liftT K (wAnd ta tb) σ H Q) : tAnd (liftT K ta) (liftT K tb) σ H Q := by
  obtain ⟨h, env, W, R, w, k⟩ := q
  refine ⟨h, env, _, R, w, fun b H1 env1 R1 E1 w1 => ?_⟩
  cases b with
  | true => exact ⟨h, env1, W, R1, w1, fun c H2 env2 R2 E2 w2 => k c H2 env2 R2 (E1.trans E2) w2⟩
  | false => exact k false H1 env1 R1 E1 w1
theorem lift_or {K : PySem.W.Frag} (σ : L2.St) (H : Hp) (Q : Bool → Hp → Prop) (q : liftT K (wOr ta tb) σ H Q) : tOr (liftT K ta) (liftT K tb) σ H Q := by
  obtain ⟨h, env, W, R, w, k⟩ := q
  refine ⟨h, env, _, R, w, fun b H1 env1 R1 E1 w1 => ?_⟩
  cases b with
  | false => exact ⟨h, env1, W, R1, w1, fun c H2 env2 R2 E2 w2 => k c H2 env2 R2 (E1.trans E2) w2⟩
  | true => exact k true H1 env1 R1 E1 w1
theorem lift_not {K : PySem.W.Frag} (σ : L2.St) (H : Hp) (Q : Bool → Hp → Prop) (q : liftT K (wNot ta) σ H Q) : tNot (liftT K ta) σ H Q := by
  obtain ⟨h, env, W, R, w, k⟩ := q
  exact ⟨h, env, _, R, w, fun b H1 env1 R1 E1 w1 => k _ H1 env1 R1 E1 w1⟩
theorem dw_and1 (ha : DT X a ta) : DW X (.BoolOp .And [a] pos) ta := pw_and1 ha
theorem dw_or1 (ha : DT X a ta) : DW X (.BoolOp .Or [a] pos) ta := pw_or1 ha
theorem dw_and (ha : DT X a ta) (hb : DW X (.BoolOp .And (b :: rest) pos) tb) : DW X (.BoolOp .And (a :: b :: rest) pos) (wAnd ta tb) := PW.imp (pw_and ha hb) lift_and
theorem dw_or (ha : DT X a ta) (hb : DW X (.BoolOp .Or (b :: rest) pos) tb) : DW X (.BoolOp .Or (a :: b :: rest) pos) (wOr ta tb) := PW.imp (pw_or ha hb) lift_or
theorem dt_w (h : DW X a ta) : DT X a ta := h.pt
theorem dt_not (ha : DT X a ta) : DT X (.UnaryOp .Not a pos) (wNot ta) := PT.imp (pt_not ha) lift_not
end
end Dl

namespace Dl
open PySem PySem.Spec PyProof.Rows L2
section
variable {K : PySem.W.Frag} {h : List Addr} {σ : L2.St} {H H' : Hp} {env env' : Sls}
/-! ### new objects -/
theorem mk_tup {p : Addr} {ys : List V} {xs : List D} (R : Rel K h σ H env) (n : H p = none) (r : RpAll K (imm H (h ++ own env)) ys xs) :
    Rel K h σ (upd H p (.tup ys)) env ∧ Rp K (imm (upd H p (.tup ys)) (h ++ own env)) (.ref p) (.tuple xs) ∧ Ext H env (upd H p (.tup ys)) env := by
  have E : Ext H env (upd H p (.tup ys)) env := Ext.alloc n
  exact ⟨R.alloc n, .tup (SqT.of (imm_new R n)) (RpAll.mono (E.sees h) _ _ r), E⟩
theorem mk_lst {p : Addr} {ys : List V} {xs : List D} (R : Rel K h σ H env) (n : H p = none) (r : RpAll K (imm H (h ++ own env)) ys xs) :
    p ∉ h ∧ Rel K (p :: h) σ (upd H p (.lst ys)) env ∧ (upd H p (.lst ys)) p = some (.lst ys) ∧ RpAll K (imm (upd H p (.lst ys)) (p :: h ++ own env)) ys xs ∧ Same (imm H (own env)) (imm (upd H p (.lst ys)) (p :: own env)) := by
  have fr := R.fresh n
  have ph : p ∉ h := fun z => fr (List.mem_append_left _ z)
  have po : p ∉ own env := fun z => fr (List.mem_append_right _ z)
  have sm : ∀ qs : List Addr, Same (imm H qs) (imm (upd H p (.lst ys)) (p :: qs)) := fun qs a o e => by
    obtain ⟨m, e⟩ := imm_some e
    have ap : a ≠ p := ne_of_none e n
    refine imm_mk (fun z => (List.mem_cons.mp z).elim ap m) ?_
    rw [upd_ne ap]; exact e
  have R' := R.alloc (o := .lst ys) n
  refine ⟨ph, ⟨fun q hq z => ?_, R.len, R.inj, fun q hq z => ?_, fun i x e => ?_, fun i q zs e => ?_⟩, upd_same, RpAll.mono (sm (h ++ own env)) _ _ r, sm (own env)⟩
  · rcases List.mem_cons.mp hq with e | e
    · rw [e, upd_same] at z; cases z
    · exact R'.hs q e z
  · rcases List.mem_cons.mp z with e | e
    · exact po (e ▸ hq)
    · exact R.dj q hq e
  · obtain ⟨v, e1, r⟩ := R.dat i x e
    exact ⟨v, e1, Rp.mono (sm (h ++ own env)) _ _ r⟩
  · obtain ⟨e1, us, e2, r⟩ := R.lst i q zs e
    exact ⟨e1, us, by rw [upd_ne (ne_of_none e2 n)]; exact e2, RpAll.mono (sm (h ++ own env)) _ _ r⟩
end
/-! ### a new list as a datum -/
def wNew (w : WN) : WE := fun env Q => w env fun xs env' => Q (.list xs) env'
section
variable {X : Cx} {a b c e : Expr} {es : List Expr} {wa wb wc : WE} {w : WE} {wn : WN} {wt : WT} {pos : Pos} {wA : WA}
theorem lift_new {K : PySem.W.Frag} (σ : L2.St) (H : Hp) (Q : VK) (q : lift K (wNew wn) σ H Q) : liftN K wn σ H Q := by
  obtain ⟨h, env, W, R, w, k⟩ := q
  refine ⟨h, env, _, R, w, fun p ys H1 env1 xs np R1 hp r E w1 => ?_⟩
  have sm : Same (imm H1 (p :: h ++ own env1)) (imm H1 (h ++ own env1)) := same_imm_sub fun a z => List.mem_cons_of_mem _ z
  have po : p ∉ h ++ own env1 := fun z => (List.mem_append.mp z).elim np fun z => R1.dj p z List.mem_cons_self
  refine k (.ref p) H1 env1 (.list xs) R1.unhide (.lst (SqL.of (imm_mk po hp)) (RpAll.mono sm _ _ r)) ?_ w1
  exact Same.trans E (same_imm_sub fun a z => List.mem_cons_of_mem _ z)
theorem de_new (he : DN X e wn) : DE X e (wNew wn) := PE.imp he fun σ H Q q => lift_new σ H Q q
/-! ### values by truth -/
def wAndV (wa wb : WE) : WE := fun env Q => wa env fun x env1 => match x with
  | .bool c => if c = true then wb env1 Q else Q (.bool false) env1
  | _ => False
def wOrV (wa wb : WE) : WE := fun env Q => wa env fun x env1 => match x with
  | .bool c => if c = true then Q (.bool true) env1 else wb env1 Q
  | _ => False
def wNotV (wa : WE) : WE := fun env Q => wa env fun x env1 => match x with
  | .bool c => Q (.bool (!c)) env1
  | _ => False
theorem de_one {op} (h : DE X a wa) : DE X (.BoolOp op [a] pos) wa := pe_one h
theorem de_and {rest : List Expr} (ha : DE X a wa) (hb : DE X (.BoolOp .And (b :: rest) pos) wb) : DE X (.BoolOp .And (a :: b :: rest) pos) (wAndV wa wb) := PE.imp (pe_and ha hb) fun σ H Q q => by
  obtain ⟨h, env, W, R, w, k⟩ := q
  refine ⟨h, env, _, R, w, fun v H1 env1 x R1 r1 E1 w1 => ?_⟩
  cases r1 with
  | bl c =>
    refine ⟨c, rfl, ?_⟩
    cases c with
    | true => exact ⟨h, env1, W, R1, w1, fun v H2 env2 y R2 r2 E2 w2 => k v H2 env2 y R2 r2 (E1.trans E2) w2⟩
    | false => exact k _ H1 env1 _ R1 (.bl false) E1 w1
  | _ => exact w1.elim
theorem de_or {rest : List Expr} (ha : DE X a wa) (hb : DE X (.BoolOp .Or (b :: rest) pos) wb) : DE X (.BoolOp .Or (a :: b :: rest) pos) (wOrV wa wb) := PE.imp (pe_or ha hb) fun σ H Q q => by
  obtain ⟨h, env, W, R, w, k⟩ := q
  refine ⟨h, env, _, R, w, fun v H1 env1 x R1 r1 E1 w1 => ?_⟩
  cases r1 with
  | bl c =>
    refine ⟨c, rfl, ?_⟩
    cases c with
    | false => exact ⟨h, env1, W, R1, w1, fun v H2 env2 y R2 r2 E2 w2 => k v H2 env2 y R2 r2 (E1.trans E2) w2⟩
    | true => exact k _ H1 env1 _ R1 (.bl true) E1 w1
  | _ => exact w1.elim
theorem de_not (ha : DE X a wa) : DE X (.UnaryOp .Not a pos) (wNotV wa) := PE.imp (pe_not ha) fun σ H Q q => by
  obtain ⟨h, env, W, R, w, k⟩ := q
  refine ⟨h, env, _, R, w, fun v H1 env1 x R1 r1 E1 w1 => ?_⟩
  cases r1 with
  | bl c => exact ⟨c, rfl, k _ H1 env1 _ R1 (.bl _) E1 w1⟩
  | _ => exact w1.elim
def wIfE (t : WT) (wa wb : WE) : WE := fun env Q => t env fun c env1 => if c = true then wa env1 Q else wb env1 Q
theorem de_if (hc : DT X c wt) (ha : DE X a wa) (hb : DE X b wb) : DE X (.IfExp c a b pos) (wIfE wt wa wb) := PE.imp (pe_ifExp hc ha hb) fun σ H Q q => by
  obtain ⟨h, env, W, R, w, k⟩ := q
  refine ⟨h, env, _, R, w, fun d H1 env1 R1 E1 w1 => ?_⟩
  cases d with
  | true => exact ⟨h, env1, W, R1, w1, fun v H2 env2 y R2 r2 E2 w2 => k v H2 env2 y R2 r2 (E1.trans E2) w2⟩
  | false => exact ⟨h, env1, W, R1, w1, fun v H2 env2 y R2 r2 E2 w2 => k v H2 env2 y R2 r2 (E1.trans E2) w2⟩
/-! ### chains of two comparisons -/
def wChain (f g : D → D → (D → Prop) → Prop) (wa wb wc : WE) : WE := fun env Q => wa env fun x env1 => wb env1 fun y env2 => f x y fun z => match z with
  | .bool k => if k = true then wc env2 fun u env3 => g y u fun t => Q t env3 else Q (.bool false) env2
  | _ => False
theorem lift_chain {K : PySem.W.Frag} {r r' : R2} {f g : D → D → (D → Prop) → Prop} (hf : Dop K r f) (hg : Dop K r' g) (σ : L2.St) (H : Hp) (Q : VK) (q : lift K (wChain f g wa wb wc) σ H Q) : tChain r r' (lift K wa) (lift K wb) (lift K wc) σ H Q := by
  obtain ⟨h, env, W, R, w, k⟩ := q
  refine ⟨h, env, _, R, w, fun v H1 env1 x R1 r1 E1 w1 => ?_⟩
  refine ⟨h, env1, _, R1, w1, fun u H2 env2 y R2 r2 E2 w2 => ?_⟩
  refine hf h σ H2 env2 v u x y _ _ R2 (Rp.mono (E2.sees h) _ _ r1) r2 w2 fun z H3 d R3 r3 E3 w3 => ?_
  cases r3 with
  | bl c =>
    refine ⟨c, rfl, ?_⟩
    cases c with
    | true =>
      refine ⟨h, env2, _, R3, w3, fun t H4 env4 y4 R4 r4 E4 w4 => ?_⟩
      refine hg h σ H4 env4 u t y y4 _ _ R4 (Rp.mono ((E3.trans E4).sees h) _ _ r2) r4 w4 fun z H5 d R5 r5 E5 w5 => ?_
      exact k z H5 env4 d R5 r5 ((((E1.trans E2).trans E3).trans E4).trans E5) w5
    | false => exact k _ H3 env2 _ R3 (.bl false) ((E1.trans E2).trans E3) w3
  | _ => exact w3.elim
theorem de_chain {op op' : CmpOp} {r r' : R2} {f g : D → D → (D → Prop) → Prop} (ho : OpR X (compareOp op) r) (hf : Dop X.K r f) (ho' : OpR X (compareOp op') r') (hg : Dop X.K r' g) (ha : DE X a wa) (hb : DE X b wb) (hc : DE X c wc)
    (hm : lastMarks [op, op'] [b, c] = false := by with_unfolding_all rfl) : DE X (.Compare a [op, op'] [b, c] pos) (wChain f g wa wb wc) := PE.imp (pe_chain ho ho' ha hb hc hm) fun σ H Q q => lift_chain hf hg σ H Q q
theorem dt_chain {op op' : CmpOp} {r r' : R2} {f g : D → D → (D → Prop) → Prop} (ho : OpR X (compareOp op) r) (hf : Dop X.K r f) (ho' : OpR X (compareOp op') r') (hg : Dop X.K r' g) (ha : DE X a wa) (hb : DE X b wb) (hc : DE X c wc)
    (hm : lastMarks [op, op'] [b, c] = false := by with_unfolding_all rfl) : DT X (.Compare a [op, op'] [b, c] pos) (wTest (wChain f g wa wb wc)) := PT.imp (pt_chain ho ho' ha hb hc hm) fun σ H Q q => by
  obtain ⟨h, env, W, R, w, k⟩ := q
  refine lift_chain hf hg σ H _ ⟨h, env, _, R, w, fun v H1 env1 x R1 r1 E1 w1 => ?_⟩
  cases r1 with
  | bl b => exact ⟨b, rfl, k b H1 env1 R1 E1 w1⟩
  | _ => exact w1.elim
/-! ### arguments -/
def wANil : WA := fun env Q => Q [] env
def wACons (w : WE) (r : WA) : WA := fun env Q => w env fun x env1 => r env1 fun xs env2 => Q (.d x :: xs) env2
def wAOwn (i : Nat) (r : WA) : WA := fun env Q => match env.at i with
  | some (.ls _ _) => r env fun xs env2 => Q (.sl i :: xs) env2
  | _ => False
theorem RpA.mono {K : PySem.W.Frag} {σ : L2.St} {G G' : Hp} (s : Same G G') {v : V} : ∀ {x : Ar}, RpA K σ G v x → RpA K σ G' v x
  | .d x, r => Rp.mono s x v r
  | .sl _, r => r
theorem da_nil : DA X [] wANil := PA.imp pa_nil fun σ H Q q => by
  obtain ⟨h, env, W, R, w, k⟩ := q
  exact k [] H env [] R .nil (Ext.refl _ _) w
theorem da_cons (ha : DE X e w) (hr : DA X es wA) (hs : starEach (e :: es) X.env = (false, eval e X.env) :: starEach es X.env := by rfl) : DA X (e :: es) (wACons w wA) := PA.imp (pa_cons ha hr hs) fun σ H Q q => by
  obtain ⟨h, env, W, R, w, k⟩ := q
  refine ⟨h, env, _, R, w, fun v H1 env1 x R1 r1 E1 w1 => ?_⟩
  refine ⟨h, env1, _, R1, w1, fun vs H2 env2 xs R2 r2 E2 w2 => ?_⟩
  exact k (v :: vs) H2 env2 (.d x :: xs) R2 (.cons (show RpA X.K σ _ v (.d x) from Rp.mono (E2.sees h) _ _ r1) r2) (E1.trans E2) w2
theorem da_own (i : Nat) {x : Str} {pos : Pos} (hr : DA X es wA) (hN : X.N[i]? = some x := by rfl) (hv : Vis X.env.scope x := by first | exact Or.inl rfl | exact Or.inr (Or.inl rfl) | exact Or.inr (Or.inr rfl)) (hd : (x == ("__debug__" : Str)) = false := by decide)
    (hcd : (x == ("__classdict__" : Str)) = false := by decide) (hs : starEach (.Name x pos :: es) X.env = (false, eval (.Name x pos) X.env) :: starEach es X.env := by rfl) : DA X (.Name x pos :: es) (wAOwn i wA) := PA.imp (pa_cons (pe_var hN hv hd hcd) hr hs) fun σ H Q q => by
  obtain ⟨h, env, W, R, w, k⟩ := q
  unfold wAOwn at w
  split at w
  · rename_i p xs e
    obtain ⟨e1, _⟩ := R.lst i p xs e
    refine ⟨_, e1, ?_⟩
    refine ⟨h, env, _, R, w, fun vs H2 env2 xs R2 r2 E2 w2 => ?_⟩
    exact k (.ref p :: vs) H2 env2 (.sl i :: xs) R2 (.cons (show σ[i]? = some (some (.ref p)) from e1) r2) E2 w2
  · exact w.elim
/-- all arguments are data -/
def ofAr : List Ar → Option (List D)
  | [] => some []
  | .d x :: r => (ofAr r).map (x :: ·)
  | .sl _ :: _ => none
theorem ofAr_rp {K : PySem.W.Frag} {σ : L2.St} {G : Hp} : ∀ {vs : List V} {as : List Ar} {xs : List D}, Paired (RpA K σ G) vs as → ofAr as = some xs → RpAll K G vs xs
  | _, _, _, .nil, e => by cases e; exact .nil
  | _, .d x :: r, xs, .cons p q, e => by
    unfold ofAr at e
    cases e2 : ofAr r with
    | none => rw [e2] at e; cases e
    | some ys =>
      rw [e2] at e
      cases e
      exact .cons p (ofAr_rp q e2)
  | _, .sl _ :: _, _, .cons _ _, e => by cases e
/-! ### displays -/
def wTup (w : WA) : WE := fun env Q => w env fun as env1 => match ofAr as with
  | some xs => xs.length ≤ sizeLine ∧ Q (.tuple xs) env1
  | none => False
def wLst (w : WA) : WN := fun env Q => w env fun as env1 => match ofAr as with
  | some xs => xs.length ≤ sizeLine ∧ Q xs env1
  | none => False
theorem de_tup {x1} (ha : DA X es wA) : DE X (.Tuple es x1 pos) (wTup wA) := PE.imp (pe_tup ha) fun σ H Q q => by
  obtain ⟨h, env, W, R, w, k⟩ := q
  refine ⟨h, env, _, R, w, fun vs H1 env1 as R1 r1 E1 w1 => ?_⟩
  split at w1
  · rename_i xs e
    obtain ⟨z, w1⟩ := w1
    have r := ofAr_rp r1 e
    refine ⟨by rw [r.length]; exact z, fun p n => ?_⟩
    obtain ⟨R2, r2, E2⟩ := mk_tup R1 n r
    exact k _ _ env1 _ R2 r2 (E1.trans E2) w1
  · exact w1.elim
theorem dn_lst (ha : DA X es wA) : DN X (.List es pos) (wLst wA) := PE.imp (pe_lst ha) fun σ H Q q => by
  obtain ⟨h, env, W, R, w, k⟩ := q
  refine ⟨h, env, _, R, w, fun vs H1 env1 as R1 r1 E1 w1 => ?_⟩
  split at w1
  · rename_i xs e
    obtain ⟨z, w1⟩ := w1
    have r := ofAr_rp r1 e
    refine ⟨by rw [r.length]; exact z, fun p n => ?_⟩
    obtain ⟨np, R2, hp, r2, E2⟩ := mk_lst R1 n r
    exact k p vs _ env1 _ np R2 hp r2 (Same.trans E1 E2) w1
  · exact w1.elim
/-! ### built-in functions -/
def Dcall (K : PySem.W.Frag) (r : List V → Hp → VK → Prop) (f : Sls → List Ar → (D → Prop) → Prop) : Prop := ∀ (h : List Addr) (σ : L2.St) (H : Hp) (env : Sls) (vs : List V) (as : List Ar) (W : D → Prop) (Q : VK), Rel K h σ H env →
  Paired (RpA K σ (imm H (h ++ own env))) vs as → f env as W → (∀ z H' d, Rel K h σ H' env → Rp K (imm H' (h ++ own env)) z d → Ext H env H' env → W d → Q z H') → r vs H Q
def DcallN (K : PySem.W.Frag) (r : List V → Hp → VK → Prop) (f : Sls → List Ar → (List D → Prop) → Prop) : Prop := ∀ (h : List Addr) (σ : L2.St) (H : Hp) (env : Sls) (vs : List V) (as : List Ar) (W : List D → Prop) (Q : VK), Rel K h σ H env →
  Paired (RpA K σ (imm H (h ++ own env))) vs as → f env as W →
  (∀ p ys H' xs, p ∉ h → Rel K (p :: h) σ H' env → H' p = some (.lst ys) → RpAll K (imm H' (p :: h ++ own env)) ys xs → Same (imm H (own env)) (imm H' (p :: own env)) → W xs → Q (.ref p) H') → r vs H Q
def wCB (f : Sls → List Ar → (D → Prop) → Prop) (wA : WA) : WE := fun env Q => wA env fun as env1 => f env1 as fun z => Q z env1
def wCBN (f : Sls → List Ar → (List D → Prop) → Prop) (wA : WA) : WN := fun env Q => wA env fun as env1 => f env1 as fun z => Q z env1
theorem lift_cb {K : PySem.W.Frag} {r : List V → Hp → VK → Prop} {f : Sls → List Ar → (D → Prop) → Prop} (hf : Dcall K r f) (σ : L2.St) (H : Hp) (Q : VK) (q : lift K (wCB f wA) σ H Q) : tCB r (liftA K wA) σ H Q := by
  obtain ⟨h, env, W, R, w, k⟩ := q
  refine ⟨h, env, _, R, w, fun vs H1 env1 as R1 r1 E1 w1 => ?_⟩
  exact hf h σ H1 env1 vs as _ Q R1 r1 w1 fun z H2 d R2 r2 E2 w2 => k z H2 env1 d R2 r2 (E1.trans E2) w2
theorem lift_cbn {K : PySem.W.Frag} {r : List V → Hp → VK → Prop} {f : Sls → List Ar → (List D → Prop) → Prop} (hf : DcallN K r f) (σ : L2.St) (H : Hp) (Q : VK) (q : liftN K (wCBN f wA) σ H Q) : tCB r (liftA K wA) σ H Q := by
  obtain ⟨h, env, W, R, w, k⟩ := q
  refine ⟨h, env, _, R, w, fun vs H1 env1 as R1 r1 E1 w1 => ?_⟩
  exact hf h σ H1 env1 vs as _ Q R1 r1 w1 fun p ys H2 xs np R2 hp r2 E2 w2 => k p ys H2 env1 xs np R2 hp r2 (Same.trans E1 E2) w2
theorem de_callB {x : Str} {p : Pos} {id : String} {r : List V → Hp → VK → Prop} {f : Sls → List Ar → (D → Prop) → Prop} (hc : CallR X (.builtin id) r) (hf : Dcall X.K r f) (hg : Gl X x) (hm : X.mg x = none) (hv : bootBuiltins x = some (.builtin id)) (ha : DA X (e :: es) wA) (hn : x ≠ "__name__" := by decide) (hdb : (x == ("__debug__" : Str)) = false := by decide)
    (he : starEach (e :: es) X.env = (false, eval e X.env) :: starEach es X.env := by rfl) (hpl : (backTo pos (starEach es X.env)).any (·.1) = false := by rfl) : DE X (.Call (.Name x p) (e :: es) [] pos) (wCB f wA) := PE.imp (pe_callB hc hg hm hv ha hn hdb he hpl) fun σ H Q q => lift_cb hf σ H Q q
theorem de_callTy {x : Str} {p : Pos} {T : String} {r : List V → Hp → VK → Prop} {f : Sls → List Ar → (D → Prop) → Prop} (hc : CallR X (.type T) r) (hf : Dcall X.K r f) (hg : Gl X x) (hm : X.mg x = none) (hv : bootBuiltins x = some (.type T)) (ha : DA X (e :: es) wA) (hn : x ≠ "__name__" := by decide) (hdb : (x == ("__debug__" : Str)) = false := by decide)
    (he : starEach (e :: es) X.env = (false, eval e X.env) :: starEach es X.env := by rfl) (hpl : (backTo pos (starEach es X.env)).any (·.1) = false := by rfl) : DE X (.Call (.Name x p) (e :: es) [] pos) (wCB f wA) := PE.imp (pe_callTy hc hg hm hv ha hn hdb he hpl) fun σ H Q q => lift_cb hf σ H Q q
theorem dn_callB {x : Str} {p : Pos} {id : String} {r : List V → Hp → VK → Prop} {f : Sls → List Ar → (List D → Prop) → Prop} (hc : CallR X (.builtin id) r) (hf : DcallN X.K r f) (hg : Gl X x) (hm : X.mg x = none) (hv : bootBuiltins x = some (.builtin id)) (ha : DA X (e :: es) wA) (hn : x ≠ "__name__" := by decide) (hdb : (x == ("__debug__" : Str)) = false := by decide)
    (he : starEach (e :: es) X.env = (false, eval e X.env) :: starEach es X.env := by rfl) (hpl : (backTo pos (starEach es X.env)).any (·.1) = false := by rfl) : DN X (.Call (.Name x p) (e :: es) [] pos) (wCBN f wA) := PE.imp (pe_callB hc hg hm hv ha hn hdb he hpl) fun σ H Q q => lift_cbn hf σ H Q q
theorem dn_callTy {x : Str} {p : Pos} {T : String} {r : List V → Hp → VK → Prop} {f : Sls → List Ar → (List D → Prop) → Prop} (hc : CallR X (.type T) r) (hf : DcallN X.K r f) (hg : Gl X x) (hm : X.mg x = none) (hv : bootBuiltins x = some (.type T)) (ha : DA X (e :: es) wA) (hn : x ≠ "__name__" := by decide) (hdb : (x == ("__debug__" : Str)) = false := by decide)
    (he : starEach (e :: es) X.env = (false, eval e X.env) :: starEach es X.env := by rfl) (hpl : (backTo pos (starEach es X.env)).any (·.1) = false := by rfl) : DN X (.Call (.Name x p) (e :: es) [] pos) (wCBN f wA) := PE.imp (pe_callTy hc hg hm hv ha hn hdb he hpl) fun σ H Q q => lift_cbn hf σ H Q q
end
/-! ### targets -/
abbrev WG := D → Sls → (Sls → Prop) → Prop
abbrev WGs := List D → Sls → (Sls → Prop) → Prop
section
variable (K : PySem.W.Frag) (vs : List Nat)
def liftG (w : WG) : TG := fun v σ H Q => ∃ h env x W, Rel K h σ H env ∧ Rp K (imm H (h ++ own env)) v x ∧ w x env W ∧ ∀ σ' env', Rel K h σ' H env' → Ext H env H env' → (σ'.length = σ.length ∧ ∀ i, i ∉ vs → σ'[i]? = σ[i]?) → W env' → Q σ' H
def liftGs (w : WGs) : TGs := fun us σ H Q => ∃ h env xs W, Rel K h σ H env ∧ RpAll K (imm H (h ++ own env)) us xs ∧ w xs env W ∧ ∀ σ' env', Rel K h σ' H env' → Ext H env H env' → (σ'.length = σ.length ∧ ∀ i, i ∉ vs → σ'[i]? = σ[i]?) → W env' → Q σ' H
end
abbrev DG (X : Cx) (vs : List Nat) (e : Expr) (w : WG) : Prop := PG X e (liftG X.K vs w)
abbrev DGs (X : Cx) (vs : List Nat) (es : List Expr) (w : WGs) : Prop := PGs X es (liftGs X.K vs w)
theorem PG.imp {X : Cx} {e : Expr} {t t' : TG} (h : PG X e t) (i : ∀ v σ H Q, t' v σ H Q → t v σ H Q) : PG X e t' := ⟨fun pins s σ H v u Q I r q => h.run pins s σ H v u Q I r (i v σ H Q q)⟩
theorem PGs.imp {X : Cx} {e : List Expr} {t t' : TGs} (h : PGs X e t) (i : ∀ v σ H Q, t' v σ H Q → t v σ H Q) : PGs X e t' := ⟨fun pins s σ H v u Q I r q => h.run pins s σ H v u Q I r (i v σ H Q q)⟩
def wgName (i : Nat) : WG := fun x env Q => Q (env.put i (some (.d x)))
def wgNil : WGs := fun xs env Q => xs = [] ∧ Q env
def wgCons (w : WG) (ws : WGs) : WGs := fun xs env Q => match xs with
  | x :: r => w x env fun env1 => ws r env1 Q
  | [] => False
def wgTup (n : Nat) (ws : WGs) : WG := fun x env Q => match x with
  | .tuple xs => xs.length = n ∧ ws xs env Q
  | _ => False
section
variable {X : Cx} {pos : Pos} {e : Expr} {es : List Expr} {w : WG} {ws : WGs} {vs us : List Nat}
theorem dg_name {i : Nat} {x : Str} (hN : X.N.Nodup) (hi : X.N[i]? = some x := by rfl) (hx : Loc X.env.scope x := by first | exact Or.inl rfl | exact Or.inr rfl) (hf : X.fn x = true ∨ X.env.scope.names.lookup x = some .local := by first | exact .inl rfl | exact .inr rfl | assumption) : DG X [i] (.Name x pos) (wgName i) :=
  PG.imp (pg_name hN hi hx hf) fun v σ H Q q => by
    obtain ⟨h, env, x, W, R, r, w, k⟩ := q
    exact k _ _ (R.setD r) Ext.putD ⟨List.length_set, fun j hj => List.getElem?_set_ne (fun z => hj (by rw [z]; exact List.mem_singleton.mpr rfl))⟩ w
theorem dgs_nil : DGs X [] [] wgNil := PGs.imp pgs_nil fun v σ H Q q => by
  obtain ⟨h, env, x, W, R, r, ⟨e, w⟩, k⟩ := q
  subst e
  cases r
  exact ⟨rfl, k _ _ R (Ext.refl _ _) ⟨rfl, fun _ _ => rfl⟩ w⟩
theorem dgs_cons (h1 : DG X vs e w) (h2 : DGs X us es ws)
    (hs : (assignEach (e :: es) X.env).map (·.2) = assign e X.env :: (assignEach es X.env).map (·.2) := by rfl) : DGs X (vs ++ us) (e :: es) (wgCons w ws) := PGs.imp (pgs_cons h1 h2 hs) fun v σ H Q q => by
  obtain ⟨h, env, xs, W, R, r, w, k⟩ := q
  cases r with
  | nil => exact w.elim
  | @cons y ys d ds a b =>
    refine ⟨y, ys, rfl, h, env, d, _, R, a, w, fun σ1 env1 R1 E1 f1 w1 => ?_⟩
    refine ⟨h, env1, ds, W, R1, RpAll.mono (E1.sees h) _ _ b, w1, fun σ2 env2 R2 E2 f2 w2 => ?_⟩
    exact k σ2 env2 R2 (E1.trans E2) ⟨f2.1.trans f1.1, fun i hi => (f2.2 i fun z => hi (List.mem_append_right _ z)).trans (f1.2 i fun z => hi (List.mem_append_left _ z))⟩ w2
theorem dg_tup {k : Nat} {n : Nat} (hc : X.calm = true) (h : DGs X vs es ws)
    (hn : (assignEach es X.env).length = n := by rfl) (hst : (assignEach es X.env).findIdx? (·.1) = none := by rfl) : DG X vs (.Tuple es k pos) (wgTup n ws) := PG.imp (pg_tup hc h hn hst) fun v σ H Q q => by
  obtain ⟨h, env, x, W, R, r, w, k⟩ := q
  cases r with
  | @tup a xs ds sq ra =>
    obtain ⟨l, w⟩ := w
    refine ⟨a, xs, rfl, ?_, by rw [ra.length]; exact l, h, env, ds, W, R, ra, w, k⟩
    exact Same.seqT (fun b o z => (imm_some z).2) sq
  | _ => exact w.elim
end
/-! ### statements -/
section
variable {X : Cx} {a b c e : Expr} {es : List Expr} {w : WE} {wn : WN} {wt : WT} {pos : Pos} {wA : WA} {st : Stmt} {rest : List Stmt} {s1 s2 : WS}
def wNext : WS := fun W env => W.nx env
def wSeq (t u : WS) : WS := fun W env => t { W with nx := u W } env
theorem dss_nil : DSs X [] wNext := PSs.imp pss_nil fun D σ H q => by
  obtain ⟨h, env, W, R, w, g⟩ := q
  exact g.nx σ H env R (Ext.refl _ _) w
theorem dss_cons (h1 : DS X st s1) (h2 : DSs X rest s2) : DSs X (st :: rest) (wSeq s1 s2) := PSs.imp (pss_cons h1 h2) fun D σ H q => by
  obtain ⟨h, env, W, R, w, g⟩ := q
  exact ⟨h, env, { W with nx := s2 W }, R, w, g.next fun σ1 H1 env1 R1 E1 w1 => ⟨h, env1, W, R1, w1, g.trans E1⟩⟩
theorem dss_one (h1 : DS X st s1) : DSs X [st] s1 := pss_one h1
def wNever : WS := fun _ _ => False
theorem ds_never : DS X st wNever := PS.imp ps_never fun D σ H q => by
  obtain ⟨h, env, W, R, w, _⟩ := q
  exact w
def wBreak : WS := fun W env => W.bk env
def wCont : WS := fun W env => W.ct env
theorem ds_pass : DS X (.Pass pos) wNext := PS.imp ps_pass fun D σ H q => by
  obtain ⟨h, env, W, R, w, g⟩ := q
  exact g.nx σ H env R (Ext.refl _ _) w
theorem ds_break : DS X (.Break pos) wBreak := PS.imp ps_break fun D σ H q => by
  obtain ⟨h, env, W, R, w, g⟩ := q
  exact g.bk σ H env R (Ext.refl _ _) w
theorem ds_cont : DS X (.Continue pos) wCont := PS.imp ps_continue fun D σ H q => by
  obtain ⟨h, env, W, R, w, g⟩ := q
  exact g.ct σ H env R (Ext.refl _ _) w
def wRet (w : WE) : WS := fun W env => w env W.rt
theorem ds_ret (he : DE X e w) : DS X (.Return (some e) pos) (wRet w) := PS.imp (ps_ret he) fun D σ H q => by
  obtain ⟨h, env, W, R, w, g⟩ := q
  exact ⟨h, env, _, R, w, fun v H1 env1 x R1 r1 E1 w1 => g.rt v σ H1 env1 x R1 r1 E1 w1⟩
theorem ds_retN : DS X (.Return none pos) (wRet (wC .none)) := PS.imp ps_retN fun D σ H q => by
  obtain ⟨h, env, W, R, w, g⟩ := q
  exact g.rt _ σ H env _ R .non (Ext.refl _ _) w
/-- return a new list -/
def wRetL (w : WN) : WS := fun W env => w env W.rn
theorem ds_retL (he : DN X e wn) : DS X (.Return (some e) pos) (wRetL wn) := PS.imp (ps_ret he) fun D σ H q => by
  obtain ⟨h, env, W, R, w, g⟩ := q
  exact ⟨h, env, _, R, w, fun p ys H1 env1 xs np R1 hp r1 E1 w1 => g.rn p ys σ H1 env1 xs np R1 hp r1 E1 w1⟩
def wExpr (w : WE) : WS := fun W env => w env fun _ env1 => W.nx env1
theorem ds_expr (he : DE X e w) (hs : swapsWith e none pos.line X.env = pure false := by rfl) : DS X (.Expr e pos) (wExpr w) := PS.imp (ps_expr he hs) fun D σ H q => by
  obtain ⟨h, env, W, R, w, g⟩ := q
  exact ⟨h, env, _, R, w, fun v H1 env1 x R1 r1 E1 w1 => g.nx σ H1 env1 R1 E1 w1⟩
def wIf (t : WT) (s1 s2 : WS) : WS := fun W env => t env fun b env1 => if b = true then s1 W env1 else s2 W env1
theorem ds_if {p q : List Stmt} (hc : DT X c wt) (ha : DSs X p s1) (hb : DSs X q s2) : DS X (.If c p q pos) (wIf wt s1 s2) := PS.imp (ps_if hc ha hb) fun D σ H q => by
  obtain ⟨h, env, W, R, w, g⟩ := q
  refine ⟨h, env, _, R, w, fun b H1 env1 R1 E1 w1 => ?_⟩
  cases b with
  | true => exact ⟨h, env1, W, R1, w1, g.trans E1⟩
  | false => exact ⟨h, env1, W, R1, w1, g.trans E1⟩
/-- target = e -/
def wAsg (w : WE) (g : WG) : WS := fun W env => w env fun x env1 => g x env1 W.nx
theorem lift_asg {K : PySem.W.Frag} {vs : List Nat} {g : WG} (D : Ends) (σ : L2.St) (H : Hp) (q : liftS K (wAsg w g) D σ H) : tAsg (lift K w) (liftG K vs g) D σ H := by
  obtain ⟨h, env, W, R, w, gg⟩ := q
  refine ⟨h, env, _, R, w, fun v H1 env1 x R1 r1 E1 w1 => ?_⟩
  exact ⟨h, env1, x, _, R1, r1, w1, fun σ2 env2 R2 E2 f2 w2 => gg.nx σ2 H1 env2 R2 (E1.trans E2) w2⟩
theorem ds_asg {tg : Expr} {vs : List Nat} {g : WG} (he : DE X e w) (hg : DG X vs tg g) (hs : swapsWithSole [tg] e pos.line X.env = pure false := by rfl) (hw : swappedStores [tg] e X.env = pure none := by rfl)
    (h1 : (assignEach [tg] X.env).map (·.2) = [assign tg X.env] := by rfl) : DS X (.Assign [tg] e pos) (wAsg w g) := PS.imp (ps_asg he hg hs hw h1) lift_asg
def wSet (i : Nat) (w : WE) : WS := fun W env => w env fun x env1 => W.nx (env1.put i (some (.d x)))
theorem ds_set {i : Nat} {x : Str} {pos' : Pos} (hN : X.N.Nodup) (he : DE X e w) (hi : X.N[i]? = some x := by rfl) (hx : Loc X.env.scope x := by first | exact Or.inl rfl | exact Or.inr rfl) (hs : swapsWith e (some (.Name x pos')) pos.line X.env = pure false := by rfl) (hf : X.fn x = true ∨ X.env.scope.names.lookup x = some .local := by first | exact .inl rfl | exact .inr rfl | assumption) :
    DS X (.Assign [.Name x pos'] e pos) (wSet i w) := PS.imp (ps_set hN hi hx he hs hf) fun D σ H q => by
  obtain ⟨h, env, W, R, w, gg⟩ := q
  refine ⟨h, env, _, R, w, fun v H1 env1 x R1 r1 E1 w1 => ?_⟩
  exact gg.nx _ H1 _ (R1.setD r1) (E1.trans Ext.putD) w1
/-- name = a new list: the frame's own -/
def wSetN (i : Nat) (w : WN) : WS := fun W env => w env fun xs env1 => ∀ p : Addr, W.nx (env1.put i (some (.ls p xs)))
theorem lift_setN {K : PySem.W.Frag} {i : Nat} (D : Ends) (σ : L2.St) (H : Hp) (q : liftS K (wSetN i wn) D σ H) : tAsg (liftN K wn) (gName i) D σ H := by
  obtain ⟨h, env, W, R, w, gg⟩ := q
  refine ⟨h, env, _, R, w, fun p ys H1 env1 xs np R1 hp r1 E1 w1 => ?_⟩
  exact gg.nx _ H1 _ (R1.setL hp r1 np) (Ext.putL E1) (w1 p)
theorem ds_setN {i : Nat} {x : Str} {pos' : Pos} (hN : X.N.Nodup) (he : DN X e wn) (hi : X.N[i]? = some x := by rfl) (hx : Loc X.env.scope x := by first | exact Or.inl rfl | exact Or.inr rfl) (hs : swapsWith e (some (.Name x pos')) pos.line X.env = pure false := by rfl) (hf : X.fn x = true ∨ X.env.scope.names.lookup x = some .local := by first | exact .inl rfl | exact .inr rfl | assumption) :
    DS X (.Assign [.Name x pos'] e pos) (wSetN i wn) := PS.imp (ps_set hN hi hx he hs hf) lift_setN
/-- name op= e -/
def wAug (i : Nat) (f : D → D → (D → Prop) → Prop) (w : WE) : WS := fun W env => match env.at i with
  | some (.d x) => w env fun y env1 => f x y fun z => W.nx (env1.put i (some (.d z)))
  | _ => False
theorem ds_aug {i : Nat} {x : Str} {op : Operator} {r : R2} {f : D → D → (D → Prop) → Prop} {pos' : Pos} (hN : X.N.Nodup) (ho : OpR X (inplaceOp op) r) (hf : Dop X.K r f) (he : DE X e w) (hi : X.N[i]? = some x := by rfl) (hx : Loc X.env.scope x := by first | exact Or.inl rfl | exact Or.inr rfl) (hf' : X.fn x = true ∨ X.env.scope.names.lookup x = some .local := by first | exact .inl rfl | exact .inr rfl | assumption) :
    DS X (.AugAssign (.Name x pos') op e pos) (wAug i f w) := PS.imp (ps_aug hN hi hx he (show PIp X op r from ho) hf') fun D σ H q => by
  obtain ⟨h, env, W, R, w, gg⟩ := q
  unfold wAug at w
  split at w
  · rename_i x e
    obtain ⟨v, e1, r0⟩ := R.dat i x e
    refine ⟨v, e1, h, env, _, R, w, fun u H1 env1 y R1 r1 E1 w1 => ?_⟩
    refine hf h σ H1 env1 v u x y _ _ R1 (Rp.mono (E1.sees h) _ _ r0) r1 w1 fun z H2 d R2 r2 E2 w2 => ?_
    exact gg.nx _ H2 _ (R2.setD r2) ((E1.trans E2).trans Ext.putD) w2
  · exact w.elim
/-! ### while -/
def wWhile (t : WT) (body : WS) : WS := fun W env => ∃ I : Nat → Sls → Prop, (∃ m, I m env) ∧ ∀ m e, I m e → t e fun b e1 => if b = true then body { W with nx := fun e2 => ∃ m', m' < m ∧ I m' e2, ct := fun e2 => ∃ m', m' < m ∧ I m' e2, bk := W.nx } e1 else W.nx e1
theorem ds_while {c : Expr} {body : List Stmt} (hp : PassesOwn (model X.prog X.w) X.A X.env X.xe) (hc : DT X c wt) (hb : DSs X body s1) : DS X (.While c body [] pos) (wWhile wt s1) := PS.imp (ps_while hp hc hb) fun D σ H q => by
  obtain ⟨h, env, W, R, ⟨I, ⟨m0, i0⟩, turn⟩, g⟩ := q
  refine ⟨fun m σ1 H1 => ∃ env1, Rel X.K h σ1 H1 env1 ∧ Ext H env H1 env1 ∧ I m env1, ⟨m0, env, R, Ext.refl _ _, i0⟩, ?_⟩
  rintro m σ1 H1 ⟨env1, R1, E1, i1⟩
  refine ⟨h, env1, _, R1, turn m env1 i1, fun b H2 env2 R2 E2 w2 => ?_⟩
  cases b with
  | true =>
    refine ⟨fun σ' H' => ∃ env', Rel X.K h σ' H' env' ∧ Ext H env H' env' ∧ ∃ m', m' < m ∧ I m' env', fun σ' H' ⟨env', R', E', m', lt, i'⟩ => ⟨m', lt, env', R', E', i'⟩, ?_⟩
    exact ⟨h, env2, _, R2, w2, (g.trans (E1.trans E2)).turn fun σ3 H3 env3 R3 E3 w3 => ⟨env3, R3, (E1.trans E2).trans E3, w3⟩⟩
  | false => exact g.nx σ1 H2 env2 R2 (E1.trans E2) w2
/-! ### what is walked -/
abbrev WI := Sls → (List D → Sls → Prop) → Prop
/-- the iterator gives these data, one a turn; G: what is to be seen -/
def Feed (K : PySem.W.Frag) (G : Hp) (J : It) (xs : List D) : Prop := ∀ (i : Nat) (H2 : Hp), Same G H2 →
  (∀ x, xs[i]? = some x → J.go i H2 ∧ ∀ v H3, J.yld i H2 v H3 → (H3 = H2 ∧ Rp K G v x) ∨ ∃ p ys ds, H2 p = none ∧ H3 = upd H2 p (.tup ys) ∧ v = .ref p ∧ RpAll K G ys ds ∧ x = .tuple ds) ∧ (xs.length ≤ i → J.stop i H2)
def liftI (K : PySem.W.Frag) (w : WI) : TI := fun σ H R => ∃ h env W, Rel K h σ H env ∧ w env W ∧ ∀ J H' env' xs, Rel K h σ H' env' → Ext H env H' env' → Feed K (imm H' (h ++ own env')) J xs → W xs env' → R J H'
abbrev DI (X : Cx) (tg iter : Expr) (w : WI) : Prop := PI X tg iter (liftI X.K w)
theorem PI.imp {X : Cx} {tg iter : Expr} {t t' : TI} (h : PI X tg iter t) (i : ∀ σ H Q, t' σ H Q → t σ H Q) : PI X tg iter t' := ⟨fun pins s σ H R I q => h.run pins s σ H R I (i σ H R q)⟩
/-- over a list or a tuple -/
def wSeqI (w : WE) : WI := fun env Q => w env fun x env1 => match x with
  | .list xs => Q xs env1
  | .tuple xs => Q xs env1
  | _ => False
theorem feed_list {K : PySem.W.Frag} {G : Hp} {a : Addr} {ys : List V} {xs : List D} (sq : SqL K G a ys) (r : RpAll K G ys xs) (inj : ∀ H2, Same G H2 → ∀ zs, SqL K H2 a zs → zs = ys) : Feed K G (Itl K a) xs := fun i H2 sm => by
  have sq2 := sm.seq sq
  refine ⟨fun x e => ?_, fun le => ⟨ys, sq2, by rw [r.length]; exact le⟩⟩
  obtain ⟨v, e1, r1⟩ := r.get e
  refine ⟨⟨ys, v, sq2, e1⟩, fun u H3 hy => .inl ⟨hy.1, ?_⟩⟩
  have e2 := hy.2 ys sq2
  rw [e1] at e2
  cases e2
  exact r1
theorem feed_tup {K : PySem.W.Frag} {G : Hp} {a : Addr} {ys : List V} {xs : List D} (sq : SqT K G a ys) (r : RpAll K G ys xs) : Feed K G (Itt K a) xs := fun i H2 sm => by
  have sq2 := Same.seqT sm sq
  refine ⟨fun x e => ?_, fun le => ⟨ys, sq2, by rw [r.length]; exact le⟩⟩
  obtain ⟨v, e1, r1⟩ := r.get e
  refine ⟨⟨ys, v, sq2, e1⟩, fun u H3 hy => .inl ⟨hy.1, ?_⟩⟩
  have e2 := hy.2 ys sq2
  rw [e1] at e2
  cases e2
  exact r1
theorem feed_list' {K : PySem.W.Frag} {G : Hp} {a : Addr} {ys : List V} {xs : List D} (sq : SqL K G a ys) (r : RpAll K G ys xs) : Feed K G (Itl K a) xs := fun i H2 sm => by
  have sq2 := sm.seq sq
  refine ⟨fun x e => ?_, fun le => ⟨ys, sq2, by rw [r.length]; exact le⟩⟩
  obtain ⟨v, e1, r1⟩ := r.get e
  refine ⟨⟨ys, v, sq2, e1⟩, fun u H3 hy => .inl ⟨hy.1, ?_⟩⟩
  have e2 := hy.2 ys sq2
  rw [e1] at e2
  cases e2
  exact r1
theorem SqL.up {K : PySem.W.Frag} {H : Hp} {ps : List Addr} {a : Addr} {xs : List V} (s : SqL K (imm H ps) a xs) : SqL K H a xs := Same.seq (fun b o z => (imm_some z).2) s
theorem SqT.up {K : PySem.W.Frag} {H : Hp} {ps : List Addr} {a : Addr} {xs : List V} (s : SqT K (imm H ps) a xs) : SqT K H a xs := Same.seqT (fun b o z => (imm_some z).2) s
theorem di_seq {tg l : Expr} {wl : WE} (hl : DE X l wl) : DI X tg l (wSeqI wl) := by
  refine ⟨fun pins s σ H R I q => ?_⟩
  obtain ⟨h, env, W, Re, w, k⟩ := q
  refine thn (hl.run pins s σ H (fun v H1 => ∃ env1 x, Rel X.K h σ H1 env1 ∧ Rp X.K (imm H1 (h ++ own env1)) v x ∧ Ext H env H1 env1 ∧ (match x with
    | .list xs => W xs env1
    | .tuple xs => W xs env1
    | _ => False)) I ⟨h, env, _, Re, w, fun v H1 env1 x R1 r1 E1 w1 => ⟨env1, x, R1, r1, E1, w1⟩⟩) fun u s1 hu => ?_
  obtain ⟨v, H1, I1, rv, env1, x, R1, r1, E1, w1⟩ := hu
  cases r1 with
  | @lst a ys ds sq ra =>
    have q : iList X.K (fun σ H Q => Q (V.ref a) H1) σ H1 R := ⟨a, rfl, ⟨ys, SqL.up sq⟩, k _ H1 env1 ds R1 E1 (feed_list' sq ra) w1⟩
    obtain ⟨b, e, ⟨xs, hq⟩, q⟩ := q
    cases e
    cases rv
    obtain ⟨its, rv, p, hz⟩ := I1.list hq
    refine wpAny_pyIter_list p.isList ?_
    refine ⟨s1.heap.objs.size, [s1.heap.objs.size], _, _, H1, rfl, I1.kept (t' := s1.toks) fun b o e => Heap.get?_push_of_some _ e, turn_list a _, ⟨_, Heap.get?_push_size _ rfl, rfl, rfl⟩, fun b hb => ?_, q⟩
    have e : b = s1.heap.objs.size := by simpa using hb
    subst e
    exact I1.fpOk (Nat.le_refl _) (I1.hok.fresh (Nat.le_refl _))
  | @tup a ys ds sq ra =>
    have q : iTup X.K (fun σ H Q => Q (V.ref a) H1) σ H1 R := ⟨a, rfl, ⟨ys, SqT.up sq⟩, k _ H1 env1 ds R1 E1 (feed_tup sq ra) w1⟩
    obtain ⟨b, e, ⟨xs, hq⟩, q⟩ := q
    cases e
    cases rv
    obtain ⟨its, rv, p, hz⟩ := I1.tuple hq
    refine wpAny_pyIter_tuple (show s1.heap.IsTuple a its.toArray from p) ?_
    refine ⟨s1.heap.objs.size, [s1.heap.objs.size], _, _, H1, rfl, I1.kept (t' := s1.toks) fun b o e => Heap.get?_push_of_some _ e, turn_tuple a _, ⟨_, Heap.get?_push_size _ rfl, rfl, rfl⟩, fun b hb => ?_, q⟩
    have e : b = s1.heap.objs.size := by simpa using hb
    subst e
    exact I1.fpOk (Nat.le_refl _) (I1.hok.fresh (Nat.le_refl _))
  | _ => exact w1.elim
/-- lo, lo + 1, .. (n of them) -/
def rangeD (lo : Int) (n : Nat) : List D := (List.range n).map fun (i : Nat) => PyData.int (lo + (i : Int))
theorem rangeD_get {lo : Int} {n i : Nat} : (rangeD lo n)[i]? = if i < n then some (PyData.int (lo + (i : Int))) else none := by
  unfold rangeD
  rw [List.getElem?_map]
  by_cases h : i < n
  · simp [h]
  · simp [h]
theorem rangeD_length {lo : Int} {n : Nat} : (rangeD lo n).length = n := by simp [rangeD]
theorem feed_range {K : PySem.W.Frag} {G : Hp} {lo : Int} {n : Nat} : Feed K G (Itr lo n) (rangeD lo n) := fun i H2 sm => by
  refine ⟨fun x e => ?_, fun le => by rw [rangeD_length] at le; exact le⟩
  rw [rangeD_get] at e
  split at e
  · rename_i lt
    cases e
    exact ⟨lt, fun v H3 hy => .inl ⟨hy.1, by rw [hy.2]; exact .int _⟩⟩
  · cases e
def wRng1 (w : WA) : WI := fun env Q => w env fun as env1 => match as with
  | [.d (.int j)] => (-(2 ^ 62) ≤ j ∧ j < 2 ^ 62) ∧ Q (rangeD 0 j.toNat) env1
  | _ => False
def wRng2 (w : WA) : WI := fun env Q => w env fun as env1 => match as with
  | [.d (.int i), .d (.int j)] => (-(2 ^ 62) ≤ i ∧ i < 2 ^ 62 ∧ -(2 ^ 62) ≤ j ∧ j < 2 ^ 62) ∧ Q (rangeD i (j - i).toNat) env1
  | _ => False
theorem di_rng1 {tg a : Expr} {p : Pos} (hg : Gl X "range") (hm : X.mg "range" = none) (ha : DA X [a] wA) (hs : starEach [a] X.env = [(false, eval a X.env)] := by rfl) : DI X tg (.Call (.Name "range" p) [a] [] pos) (wRng1 wA) :=
  PI.imp (pi_range1 hg hm ha hs) fun σ H R q => by
    obtain ⟨h, env, W, Re, w, k⟩ := q
    refine ⟨h, env, _, Re, w, fun vs H1 env1 as R1 r1 E1 w1 => ?_⟩
    split at w1
    · rename_i j
      obtain ⟨⟨b1, b2⟩, w1⟩ := w1
      cases r1 with
      | cons ra rn =>
        cases rn
        cases (show Rp X.K _ _ (.int j) from ra)
        exact ⟨j, rfl, b1, b2, k _ H1 env1 _ R1 E1 feed_range w1⟩
    · exact w1.elim
theorem di_rng2 {tg a b : Expr} {p : Pos} (hg : Gl X "range") (hm : X.mg "range" = none) (ha : DA X [a, b] wA) (hs : starEach [a, b] X.env = [(false, eval a X.env), (false, eval b X.env)] := by rfl) (hs2 : starEach [b] X.env = [(false, eval b X.env)] := by rfl) : DI X tg (.Call (.Name "range" p) [a, b] [] pos) (wRng2 wA) :=
  PI.imp (pi_range2 hg hm ha hs hs2) fun σ H R q => by
    obtain ⟨h, env, W, Re, w, k⟩ := q
    refine ⟨h, env, _, Re, w, fun vs H1 env1 as R1 r1 E1 w1 => ?_⟩
    split at w1
    · rename_i i j
      obtain ⟨b1, w1⟩ := w1
      cases r1 with
      | cons ra rn =>
        cases rn with
        | cons rb rn =>
          cases rn
          cases (show Rp X.K _ _ (.int i) from ra)
          cases (show Rp X.K _ _ (.int j) from rb)
          exact ⟨i, j, rfl, b1, k _ H1 env1 _ R1 E1 feed_range w1⟩
    · exact w1.elim
/-! ### for -/
def forD (g : WG) (body : WS) : List D → WS
  | [] => fun W env => W.nx env
  | x :: xs => fun W env => g x env fun env1 => body { W with nx := fun e => forD g body xs W e, ct := fun e => forD g body xs W e, bk := W.nx } env1
def wFor (wi : WI) (g : WG) (body : WS) : WS := fun W env => wi env fun xs env1 => forD g body xs W env1
theorem ds_for {tg iter : Expr} {body : List Stmt} {wi : WI} {g : WG} {vs : List Nat} (hp : PassesOwn (model X.prog X.w) X.A X.env X.xe) (hc : X.calm = true) (hi : DI X tg iter wi) (hg : DG X vs tg g) (hb : DSs X body s1)
    (hs : ∀ x, foldedSetIterable iter X.env x = pure x := by intro _; rfl) : DS X (.For tg iter body [] pos) (wFor wi g s1) := PS.imp (ps_for hp hc hi hg hb hs) fun D σ H q => by
  obtain ⟨h, env, W, R, w, gg⟩ := q
  refine ⟨h, env, _, R, w, fun J H1 env1 xs R1 E1 F w1 => ?_⟩
  refine ⟨fun i m σ2 H2 => ∃ env2, Rel X.K h σ2 H2 env2 ∧ Ext H1 env1 H2 env2 ∧ m = xs.length - i ∧ forD g s1 (xs.drop i) W env2, ⟨xs.length, env1, R1, Ext.refl _ _, by simp, w1⟩, ?_⟩
  rintro i m σ2 H2 ⟨env2, R2, E2, rfl, w2⟩
  have sees : Same (imm H1 (h ++ own env1)) H2 := fun a o z => (imm_some (E2.sees h a o z)).2
  obtain ⟨go, stop⟩ := F i H2 sees
  by_cases lt : i < xs.length
  · have dr : xs.drop i = xs[i] :: xs.drop (i + 1) := List.drop_eq_getElem_cons lt
    rw [dr] at w2
    obtain ⟨g1, g2⟩ := go xs[i] (List.getElem?_eq_getElem lt)
    refine .inr ⟨g1, fun σ' H' => ∃ env', Rel X.K h σ' H' env' ∧ Ext H1 env1 H' env' ∧ forD g s1 (xs.drop (i + 1)) W env', fun σ' H' ⟨env', R', E', w'⟩ => ⟨xs.length - (i + 1), by omega, env', R', E', rfl, w'⟩, fun v H3 hy => ?_⟩
    have step : ∀ H3, Rel X.K h σ2 H3 env2 → Ext H2 env2 H3 env2 → Rp X.K (imm H3 (h ++ own env2)) v xs[i] → liftG X.K vs g v σ2 H3 fun σ4 H4 => liftS X.K s1 { D with nx := fun σ' H' => ∃ env', Rel X.K h σ' H' env' ∧ Ext H1 env1 H' env' ∧ forD g s1 (xs.drop (i + 1)) W env', ct := fun σ' H' => ∃ env', Rel X.K h σ' H' env' ∧ Ext H1 env1 H' env' ∧ forD g s1 (xs.drop (i + 1)) W env', bk := D.nx } σ4 H4 := fun H3 R3 E3 r3 => by
      refine ⟨h, env2, xs[i], _, R3, r3, w2, fun σ4 env4 R4 E4 _ w4 => ?_⟩
      have EE : Ext H1 env1 H3 env4 := (E2.trans E3).trans E4
      exact ⟨h, env4, _, R4, w4, (gg.trans (E1.trans EE)).turn fun σ5 H5 env5 R5 E5 w5 => ⟨env5, R5, EE.trans E5, w5⟩⟩
    rcases g2 v H3 hy with ⟨e, r3⟩ | ⟨p, ys, ds, np, e, ev, ra, ex⟩
    · subst e
      exact step _ R2 (Ext.refl _ _) (Rp.mono (E2.sees h) _ _ r3)
    · subst e ev
      obtain ⟨R3, r3, E3⟩ := mk_tup R2 np (RpAll.mono (E2.sees h) _ _ ra)
      exact step _ R3 E3 (by rw [ex]; exact r3)
  · have e : xs.drop i = [] := List.drop_eq_nil_of_le (by omega)
    rw [e] at w2
    exact .inl ⟨stop (by omega), gg.nx σ2 H2 env2 R2 (E1.trans E2) w2⟩
end
end Dl

namespace Dl
open PySem PySem.Spec PyProof.Rows L2
/-! ### comprehensions -/
def wipeE (env : Sls) : List Nat → Sls
  | [] => env
  | v :: vs => (wipeE env vs).put v none
def backE (old : Sls) : List Nat → Sls → Sls
  | [], env => env
  | v :: vs, env => (backE old vs env).put v (old.at v)
def freeOf (env : Sls) (vs : List Nat) : Bool := vs.all fun v => match env.at v with
  | some (.ls _ _) => false
  | _ => true
def lcD (g : WG) (tt : WT) (te : WE) (vs : List Nat) : List D → List D → Sls → (List D → Sls → Prop) → Prop
  | [], acc, env, Q => Q acc env
  | x :: xs, acc, env, Q => g x env fun env1 => tt env1 fun b env2 => if b = true then te env2 fun y env3 => acc.length < sizeLine ∧ lcD g tt te vs xs (acc ++ [y]) (wipeE env3 vs) Q else lcD g tt te vs xs acc (wipeE env2 vs) Q
def wLc (wi : WI) (g : WG) (tt : WT) (te : WE) (vs : List Nat) : WN := fun env Q => wi env fun xs env1 => freeOf env1 vs = true ∧ lcD g tt te vs xs [] (wipeE env1 vs) fun acc env2 => Q acc (backE env1 vs env2)
section
variable {K : PySem.W.Frag} {h : List Addr} {σ : L2.St} {H H' : Hp} {env env' : Sls}
theorem wipeE_length (env : Sls) : ∀ vs : List Nat, (wipeE env vs).length = env.length
  | [] => rfl
  | v :: vs => by unfold wipeE; rw [Sls.put_length, wipeE_length env vs]
theorem backE_length (old env : Sls) : ∀ vs : List Nat, (backE old vs env).length = env.length
  | [] => rfl
  | v :: vs => by unfold backE; rw [Sls.put_length, backE_length old env vs]
theorem Rel.wipe (R : Rel K h σ H env) : ∀ vs : List Nat, Rel K h (L2.wipe σ vs) H (wipeE env vs)
  | [] => R
  | v :: vs => by
    unfold L2.wipe wipeE
    exact (R.wipe vs).put (fun _ _ z => by cases z) fun _ z => by cases z
theorem own_wipe : ∀ vs : List Nat, ∀ q ∈ own (wipeE env vs), q ∈ own env
  | [], q, h => h
  | v :: vs, q, h => own_wipe vs q (own_put_sub (env := wipeE env vs) (fun _ _ z => by cases z) q h)
theorem Ext.wipe {vs : List Nat} : Ext H env H (wipeE env vs) := same_imm_sub (own_wipe vs)
theorem backE_at (old env : Sls) {i : Nat} (hi : i < env.length) : ∀ vs : List Nat, (backE old vs env).at i = if i ∈ vs then old.at i else env.at i
  | [] => by simp [backE]
  | v :: vs => by
    unfold backE
    by_cases e : v = i
    · subst e
      rw [Sls.at_put_same _ _ _ (by rw [backE_length]; exact hi), if_pos List.mem_cons_self]
    · rw [Sls.at_put_ne _ _ _ _ e, backE_at old env hi vs]
      have : (i ∈ v :: vs) ↔ i ∈ vs := ⟨fun z => (List.mem_cons.mp z).elim (fun q => absurd q.symm e) id, List.mem_cons_of_mem _⟩
      by_cases q : i ∈ vs
      · rw [if_pos q, if_pos (this.mpr q)]
      · rw [if_neg q, if_neg (fun z => q (this.mp z))]
theorem wipe_get {σ : L2.St} {i : Nat} : ∀ {vs : List Nat}, i ∉ vs → (L2.wipe σ vs)[i]? = σ[i]?
  | [], _ => rfl
  | v :: vs, hi => by
    unfold L2.wipe
    rw [List.getElem?_set_ne (fun e => hi (by rw [e]; exact List.mem_cons_self)), wipe_get fun z => hi (List.mem_cons_of_mem _ z)]
theorem wipe_in {σ : L2.St} {i : Nat} : ∀ {vs : List Nat}, i ∈ vs → i < σ.length → (L2.wipe σ vs)[i]? = some none
  | [], h, _ => by cases h
  | v :: vs, h, lt => by
    unfold L2.wipe
    by_cases e : v = i
    · subst e
      rw [List.getElem?_set_self (by rw [L2.wipe_length]; exact lt)]
    · rw [List.getElem?_set_ne e]
      exact wipe_in ((List.mem_cons.mp h).elim (fun q => absurd q.symm e) id) lt
theorem wipe_eq {σ τ : L2.St} {vs : List Nat} (hl : τ.length = σ.length) (hv : ∀ i, i ∉ vs → τ[i]? = σ[i]?) : L2.wipe τ vs = L2.wipe σ vs := by
  refine List.ext_getElem? fun i => ?_
  by_cases hi : i ∈ vs
  · by_cases lt : i < σ.length
    · rw [wipe_in hi lt, wipe_in hi (by omega)]
    · rw [List.getElem?_eq_none (by rw [L2.wipe_length]; omega), List.getElem?_eq_none (by rw [L2.wipe_length]; omega)]
  · rw [wipe_get hi, wipe_get hi, hv i hi]
/-- a hidden object is written -/
theorem Rel.upHid {p : Addr} {o : HO} (R : Rel K h σ H env) (hp : p ∈ h) : Rel K h σ (upd H p o) env := by
  have sm : Same (imm H (h ++ own env)) (imm (upd H p o) (h ++ own env)) := fun a u e => by
    obtain ⟨m, e⟩ := imm_some e
    refine imm_mk m ?_
    rw [upd_ne (fun z => m (List.mem_append_left _ (by rw [z]; exact hp)))]
    exact e
  refine ⟨fun q hq z => ?_, R.len, R.inj, R.dj, fun i x e => ?_, fun i q xs e => ?_⟩
  · by_cases e : q = p
    · rw [e, upd_same] at z; cases z
    · rw [upd_ne e] at z; exact R.hs q hq z
  · obtain ⟨v, e1, r⟩ := R.dat i x e
    exact ⟨v, e1, Rp.mono sm _ _ r⟩
  · obtain ⟨e1, ys, e2, r⟩ := R.lst i q xs e
    refine ⟨e1, ys, ?_, RpAll.mono sm _ _ r⟩
    rw [upd_ne (fun z => R.dj q (own_mem.mpr ⟨i, xs, e⟩) (by rw [z]; exact hp))]
    exact e2
theorem imm_upHid {p : Addr} {o : HO} {ps : List Addr} (hp : p ∈ ps) : Same (imm H ps) (imm (upd H p o) ps) := fun a u e => by
  obtain ⟨m, e⟩ := imm_some e
  refine imm_mk m ?_
  rw [upd_ne (fun z => m (by rw [z]; exact hp))]
  exact e
/-- the slots that the block had for itself come back -/
theorem Rel.back {p : Addr} {H1 : Hp} {env1 : Sls} {vs : List Nat} (R1 : Rel K h σ H1 env1) (R : Rel K (p :: h) (L2.wipe σ vs) H env) (E : Same (imm H1 (own env1)) (imm H (p :: own env))) (hf : freeOf env1 vs = true) :
    Rel K (p :: h) σ H (backE env1 vs env) ∧ ∀ q, q ∈ own (backE env1 vs env) → q ∈ own env := by
  have hl : env.length = σ.length := by rw [← R.len, L2.wipe_length]
  have nf : ∀ v ∈ vs, ∀ q xs, env1.at v ≠ some (.ls q xs) := fun v hv q xs e => by
    have := List.all_eq_true.mp hf v hv
    rw [e] at this
    cases this
  have at_ : ∀ {i u}, (backE env1 vs env).at i = some u → (i ∈ vs ∧ env1.at i = some u) ∨ (i ∉ vs ∧ env.at i = some u) := fun {i u} e => by
    have lt := Sls.at_lt e
    rw [backE_length] at lt
    rw [backE_at env1 env lt] at e
    by_cases hi : i ∈ vs
    · rw [if_pos hi] at e; exact .inl ⟨hi, e⟩
    · rw [if_neg hi] at e; exact .inr ⟨hi, e⟩
  have sub : ∀ q, q ∈ own (backE env1 vs env) → q ∈ own env := fun q hq => by
    obtain ⟨i, xs, e⟩ := own_mem.mp hq
    rcases at_ e with ⟨hi, e⟩ | ⟨_, e⟩
    · exact absurd e (nf i hi q xs)
    · exact own_mem.mpr ⟨i, xs, e⟩
  have sm : Same (imm H (p :: h ++ own env)) (imm H (p :: h ++ own (backE env1 vs env))) := sees_sub (h := p :: h) sub
  have sm1 : Same (imm H1 (h ++ own env1)) (imm H (p :: h ++ own (backE env1 vs env))) := fun a o z => by
    obtain ⟨n, z⟩ := imm_some z
    obtain ⟨m, z⟩ := imm_some (E a o (imm_mk (fun y => n (List.mem_append_right _ y)) z))
    refine imm_mk (fun y => ?_) z
    rcases List.mem_append.mp y with y | y
    · rcases List.mem_cons.mp y with y | y
      · exact m (by rw [y]; exact List.mem_cons_self)
      · exact n (List.mem_append_left _ y)
    · exact m (List.mem_cons_of_mem _ (sub a y))
  refine ⟨⟨R.hs, by rw [backE_length, hl], fun a b q xs ys e1 e2 => ?_, fun q hq => R.dj q (sub q hq), fun i x e => ?_, fun i q xs e => ?_⟩, sub⟩
  · rcases at_ e1 with ⟨hi, e1⟩ | ⟨_, e1⟩
    · exact absurd e1 (nf a hi q xs)
    · rcases at_ e2 with ⟨hi, e2⟩ | ⟨_, e2⟩
      · exact absurd e2 (nf b hi q ys)
      · exact R.inj a b q xs ys e1 e2
  · rcases at_ e with ⟨hi, e⟩ | ⟨hi, e⟩
    · obtain ⟨v, e1, r⟩ := R1.dat i x e
      exact ⟨v, e1, Rp.mono sm1 _ _ r⟩
    · obtain ⟨v, e1, r⟩ := R.dat i x e
      exact ⟨v, by rw [wipe_get hi] at e1; exact e1, Rp.mono sm _ _ r⟩
  · rcases at_ e with ⟨hi, e⟩ | ⟨hi, e⟩
    · exact absurd e (nf i hi q xs)
    · obtain ⟨e1, ys, e2, r⟩ := R.lst i q xs e
      exact ⟨by rw [wipe_get hi] at e1; exact e1, ys, e2, RpAll.mono sm _ _ r⟩
theorem lift_lc {wi : WI} {g : WG} {tt : WT} {te : WE} {vs us : List Nat} (hu : ∀ i ∈ us, i ∈ vs) (σ : L2.St) (H : Hp) (Q : VK) (q : liftN K (wLc wi g tt te vs) σ H Q) : tLc (liftI K wi) (liftG K us g) (liftT K tt) (lift K te) vs σ H Q := by
  obtain ⟨h, env, W, R, w, k⟩ := q
  refine ⟨h, env, _, R, w, fun J H1 env1 xs R1 E1 F w1 => ?_⟩
  obtain ⟨hf, w1⟩ := w1
  intro p np
  obtain ⟨ph, Rp1, hp, _, Sp⟩ := mk_lst (ys := []) (xs := []) R1 np .nil
  refine ⟨fun i m H2 => ∃ env2 acc accD, Rel K (p :: h) (L2.wipe σ vs) H2 env2 ∧ H2 p = some (.lst acc) ∧ RpAll K (imm H2 (p :: h ++ own env2)) acc accD ∧ Same (imm H1 (own env1)) (imm H2 (p :: own env2)) ∧ m = xs.length - i ∧
    lcD g tt te vs (xs.drop i) accD env2 fun acc env2 => W acc (backE env1 vs env2), ⟨xs.length, wipeE env1 vs, [], [], Rp1.wipe vs, hp, .nil, ?_, by simp, w1⟩, ?_⟩
  · exact Sp.trans (same_imm_sub fun a z => (List.mem_cons.mp z).elim (fun e => by rw [e]; exact List.mem_cons_self) fun z => List.mem_cons_of_mem _ (own_wipe vs a z))
  rintro i m H2 ⟨env2, acc, accD, R2, hp2, ra, E2, rfl, w2⟩
  have pe : ∀ {e : Sls}, (∀ q ∈ own e, q ∉ p :: h) → p ∉ own e := fun d z => d p z List.mem_cons_self
  have sees : Same (imm H1 (h ++ own env1)) H2 := fun a o z => by
    obtain ⟨n, z⟩ := imm_some z
    exact (imm_some (E2 a o (imm_mk (fun y => n (List.mem_append_right _ y)) z))).2
  have sees2 : Same (imm H1 (h ++ own env1)) (imm H2 (p :: h ++ own env2)) := fun a o z => by
    obtain ⟨n, z⟩ := imm_some z
    obtain ⟨m, z⟩ := imm_some (E2 a o (imm_mk (fun y => n (List.mem_append_right _ y)) z))
    refine imm_mk (fun y => ?_) z
    rcases List.mem_append.mp y with y | y
    · rcases List.mem_cons.mp y with y | y
      · exact m (by rw [y]; exact List.mem_cons_self)
      · exact n (List.mem_append_left _ y)
    · exact m (List.mem_cons_of_mem _ y)
  obtain ⟨go, stop⟩ := F i H2 sees
  by_cases lt : i < xs.length
  · have dr : xs.drop i = xs[i] :: xs.drop (i + 1) := List.drop_eq_getElem_cons lt
    rw [dr] at w2
    obtain ⟨g1, g2⟩ := go xs[i] (List.getElem?_eq_getElem lt)
    refine .inr ⟨g1, fun H' => ∃ env2 acc accD, Rel K (p :: h) (L2.wipe σ vs) H' env2 ∧ H' p = some (.lst acc) ∧ RpAll K (imm H' (p :: h ++ own env2)) acc accD ∧ Same (imm H1 (own env1)) (imm H' (p :: own env2)) ∧
      lcD g tt te vs (xs.drop (i + 1)) accD env2 fun acc env2 => W acc (backE env1 vs env2), fun H' ⟨e', a', d', q1, q2, q3, q4, q5⟩ => ⟨xs.length - (i + 1), by omega, e', a', d', q1, q2, q3, q4, rfl, q5⟩, fun v H3 hy => ?_⟩
    have keepE : ∀ {H3 H4 : Hp} {e3 e4 : Sls}, Ext H3 e3 H4 e4 → p ∉ own e3 → p ∉ own e4 → ∀ {A : Hp}, Same A (imm H3 (p :: own e3)) → Same A (imm H4 (p :: own e4)) := fun {H3 H4 e3 e4} E n3 n4 {A} S a o z => by
      obtain ⟨m, z⟩ := imm_some (S a o z)
      obtain ⟨m2, z⟩ := imm_some (E a o (imm_mk (fun y => m (List.mem_cons_of_mem _ y)) z))
      exact imm_mk (fun y => (List.mem_cons.mp y).elim (fun y => m (by rw [y]; exact List.mem_cons_self)) m2) z
    have keepP : ∀ {H3 H4 : Hp} {e3 e4 : Sls} {o : HO}, Ext H3 e3 H4 e4 → p ∉ own e3 → H3 p = some o → H4 p = some o := fun {H3 H4 e3 e4 o} E n3 z => (imm_some (E p o (imm_mk n3 z))).2
    have step : ∀ H3, Rel K (p :: h) (L2.wipe σ vs) H3 env2 → Ext H2 env2 H3 env2 → Rp K (imm H3 (p :: h ++ own env2)) v xs[i] → liftG K us g v (L2.wipe σ vs) H3 fun σ4 H4 => L2.wipe σ4 vs = L2.wipe σ vs ∧ liftT K tt σ4 H4 fun b H5 =>
        if b = true then lift K te σ4 H5 fun y H6 => ∃ acc, H6 p = some (.lst acc) ∧ acc.length < sizeLine ∧ (∃ env2 acc' accD, Rel K (p :: h) (L2.wipe σ vs) (upd H6 p (.lst (acc ++ [y]))) env2 ∧ (upd H6 p (.lst (acc ++ [y]))) p = some (.lst acc') ∧ RpAll K (imm (upd H6 p (.lst (acc ++ [y]))) (p :: h ++ own env2)) acc' accD ∧ Same (imm H1 (own env1)) (imm (upd H6 p (.lst (acc ++ [y]))) (p :: own env2)) ∧
      lcD g tt te vs (xs.drop (i + 1)) accD env2 fun acc env2 => W acc (backE env1 vs env2)) else (∃ env2 acc accD, Rel K (p :: h) (L2.wipe σ vs) H5 env2 ∧ H5 p = some (.lst acc) ∧ RpAll K (imm H5 (p :: h ++ own env2)) acc accD ∧ Same (imm H1 (own env1)) (imm H5 (p :: own env2)) ∧
      lcD g tt te vs (xs.drop (i + 1)) accD env2 fun acc env2 => W acc (backE env1 vs env2)) := fun H3 R3 E3 r3 => by
      refine ⟨p :: h, env2, xs[i], _, R3, r3, w2, fun σ4 env4 R4 E4 f4 w4 => ?_⟩
      have we : L2.wipe σ4 vs = L2.wipe σ vs := by
        have : L2.wipe σ4 vs = L2.wipe (L2.wipe σ vs) vs := wipe_eq f4.1 fun i hi => f4.2 i fun z => hi (hu i z)
        rw [this]
        refine wipe_eq (by rw [L2.wipe_length]) fun i hi => wipe_get hi
      refine ⟨we, p :: h, env4, _, R4, w4, fun b H5 env5 R5 E5 w5 => ?_⟩
      have n2 := pe R2.dj
      have n3 : p ∉ own env2 := n2
      have n4 := pe R4.dj
      have n5 := pe R5.dj
      have hp5 : H5 p = some (.lst acc) := keepP E5 n4 (keepP E4 n3 (keepP E3 n2 hp2))
      have ra5 : RpAll K (imm H5 (p :: h ++ own env5)) acc accD := RpAll.mono (((E3.trans E4).trans E5).sees (p :: h)) _ _ ra
      have E25 : Same (imm H1 (own env1)) (imm H5 (p :: own env5)) := keepE E5 n4 n5 (keepE E4 n3 n4 (keepE E3 n2 n3 E2))
      cases b with
      | true =>
        refine ⟨p :: h, env5, _, R5, w5, fun y H6 env6 d R6 r6 E6 w6 => ?_⟩
        obtain ⟨sz, w6⟩ := w6
        have n6 := pe R6.dj
        have hp6 := keepP E6 n5 hp5
        refine ⟨acc, hp6, by rw [ra5.length]; exact sz, wipeE env6 vs, acc ++ [y], accD ++ [d], ?_, upd_same, ?_, ?_, w6⟩
        · rw [← we]
          exact (R6.upHid List.mem_cons_self).wipe vs
        · have sm : Same (imm H6 (p :: h ++ own env6)) (imm (upd H6 p (.lst (acc ++ [y]))) (p :: h ++ own (wipeE env6 vs))) :=
            (imm_upHid (List.mem_append_left _ List.mem_cons_self)).trans (sees_sub (h := p :: h) (own_wipe vs))
          exact RpAll.append (RpAll.mono ((E6.sees (p :: h)).trans sm) _ _ ra5) (.cons (Rp.mono sm _ _ r6) .nil)
        · exact (keepE E6 n5 n6 E25).trans ((imm_upHid List.mem_cons_self).trans (same_imm_sub fun a z => (List.mem_cons.mp z).elim (fun e => by rw [e]; exact List.mem_cons_self) fun z => List.mem_cons_of_mem _ (own_wipe vs a z)))
      | false =>
        refine ⟨wipeE env5 vs, acc, accD, by rw [← we]; exact R5.wipe vs, hp5, RpAll.mono (sees_sub (h := p :: h) (own_wipe vs)) _ _ ra5, ?_, w5⟩
        exact E25.trans (same_imm_sub fun a z => (List.mem_cons.mp z).elim (fun e => by rw [e]; exact List.mem_cons_self) fun z => List.mem_cons_of_mem _ (own_wipe vs a z))
    rcases g2 v H3 hy with ⟨e, r3⟩ | ⟨q, ys, ds, nq, e, ev, rq, ex⟩
    · subst e
      exact step _ R2 (Ext.refl _ _) (Rp.mono sees2 _ _ r3)
    · subst e ev
      obtain ⟨R3, r3, E3⟩ := mk_tup R2 nq (RpAll.mono sees2 _ _ rq)
      exact step _ R3 E3 (by rw [ex]; exact r3)
  · have e : xs.drop i = [] := List.drop_eq_nil_of_le (by omega)
    rw [e] at w2
    refine .inl ⟨stop (by omega), ?_⟩
    obtain ⟨R3, sub⟩ := Rel.back R1 R2 E2 hf
    refine k p acc H2 (backE env1 vs env2) accD ph R3 hp2 (RpAll.mono (sees_sub (h := p :: h) sub) _ _ ra) ?_ w2
    exact Same.trans E1 (E2.trans (same_imm_sub fun a z => (List.mem_cons.mp z).elim (fun e => by rw [e]; exact List.mem_cons_self) fun z => List.mem_cons_of_mem _ (sub a z)))
end
end Dl

namespace Dl
open PySem PySem.Spec PyProof.Rows L2
section
variable {X : Cx} {a b c e elt tg iter : Expr} {es ifs : List Expr} {w we wl : WE} {wn : WN} {tt : WT} {wi : WI} {g : WG} {pos : Pos} {wA : WA}
abbrev DTs (X : Cx) (es : List Expr) (w : WT) : Prop := PTs X es (liftT X.K w)
def wYes : WT := fun env Q => Q true env
theorem dts_nil : DTs X [] wYes := ⟨fun pins s σ H Q I q => by
  obtain ⟨h, env, W, R, w, k⟩ := q
  exact pts_nil.run pins s σ H Q I (k true H env R (Ext.refl _ _) w)⟩
theorem dts_one (h : DT X c tt) : DTs X [c] tt := pts_one h
/-- [elt for tg in iter if ..] -/
theorem dn_lc {scope : Scope} {own : List (Str × Nat)} {us : List Nat} (hc : X.calm = true) (hN : X.N.Nodup) (hi : DI X tg iter wi) (ok : BlkOk X.N X.env.scope scope own) (hu : ∀ i ∈ us, i ∈ own.map (·.2))
    (hg : ∀ (s : Shared) (H : Hp) (C : Addr) (cl : List (Str × Addr)) (fp : List Addr), DG (X.blk s H scope (compEnvC scope cl C X.env) fp) us tg g) (ht : ∀ (s : Shared) (H : Hp) (C : Addr) (cl : List (Str × Addr)) (fp : List Addr), DTs (X.blk s H scope (compEnvC scope cl C X.env) fp) ifs tt)
    (he : ∀ (s : Shared) (H : Hp) (C : Addr) (cl : List (Str × Addr)) (fp : List Addr), DE (X.blk s H scope (compEnvC scope cl C X.env) fp) elt we) (hs : ∀ x, foldedSetIterable iter X.env x = pure x := by intro _; rfl) :
    DN X (.ListComp elt [⟨tg, iter, ifs, 0⟩] scope pos) (wLc wi g tt we (own.map (·.2))) :=
  PE.imp (pe_lc hc hN hi ok hg ht he hs) fun σ H Q q => lift_lc hu σ H Q q
theorem ds_setLc {i : Nat} {y : Str} {py : Pos} {scope : Scope} {own : List (Str × Nat)} {us : List Nat} {spos : Pos} (hc : X.calm = true) (hN : X.N.Nodup) (hy : X.N[i]? = some y) (hyl : X.env.scope.names.lookup y = some .local)
    (hsw : swapsWith (.ListComp elt [⟨tg, iter, ifs, 0⟩] scope pos) (some (.Name y py)) spos.line X.env = pure true) (hi : DI X tg iter wi) (ok : BlkOk X.N X.env.scope scope own) (hu : ∀ i ∈ us, i ∈ own.map (·.2))
    (hg : ∀ (s : Shared) (H : Hp) (C : Addr) (cl : List (Str × Addr)) (fp : List Addr), DG (X.blk s H scope (compEnvC scope cl C X.env) fp) us tg g) (ht : ∀ (s : Shared) (H : Hp) (C : Addr) (cl : List (Str × Addr)) (fp : List Addr), DTs (X.blk s H scope (compEnvC scope cl C X.env) fp) ifs tt)
    (he : ∀ (s : Shared) (H : Hp) (C : Addr) (cl : List (Str × Addr)) (fp : List Addr), DE (X.blk s H scope (compEnvC scope cl C X.env) fp) elt we) (hs : ∀ x, foldedSetIterable iter X.env x = pure x := by intro _; rfl) :
    DS X (.Assign [.Name y py] (.ListComp elt [⟨tg, iter, ifs, 0⟩] scope pos) spos) (wSetN i (wLc wi g tt we (own.map (·.2)))) :=
  PS.imp (ps_setLc hc hN hy hyl hsw hi ok hg ht he hs) fun D σ H q => by
    have q2 := lift_setN D σ H q
    exact lift_lc hu σ H _ q2
/-- the same, its list at once a datum -/
def wSetF (i : Nat) (w : WN) : WS := fun W env => w env fun xs env1 => W.nx (env1.put i (some (.d (.list xs))))
theorem lift_setF {K : PySem.W.Frag} {i : Nat} (D : Ends) (σ : L2.St) (H : Hp) (q : liftS K (wSetF i wn) D σ H) : tAsg (liftN K wn) (gName i) D σ H := by
  obtain ⟨h, env, W, R, w, gg⟩ := q
  refine ⟨h, env, _, R, w, fun p ys H1 env1 xs np R1 hp r1 E1 w1 => ?_⟩
  have sm : Same (imm H1 (p :: h ++ Dl.own env1)) (imm H1 (h ++ Dl.own env1)) := same_imm_sub fun a z => List.mem_cons_of_mem _ z
  have po : p ∉ h ++ Dl.own env1 := fun z => (List.mem_append.mp z).elim np fun z => R1.dj p z List.mem_cons_self
  refine gg.nx _ H1 _ (R1.unhide.setD (x := .list xs) (.lst (SqL.of (imm_mk po hp)) (RpAll.mono sm _ _ r1))) ?_ w1
  exact Ext.trans (Same.trans E1 (same_imm_sub fun a z => List.mem_cons_of_mem _ z)) Ext.putD
theorem ds_setLcF {i : Nat} {y : Str} {py : Pos} {scope : Scope} {own : List (Str × Nat)} {us : List Nat} {spos : Pos} (hc : X.calm = true) (hN : X.N.Nodup) (hy : X.N[i]? = some y) (hyl : X.env.scope.names.lookup y = some .local)
    (hsw : swapsWith (.ListComp elt [⟨tg, iter, ifs, 0⟩] scope pos) (some (.Name y py)) spos.line X.env = pure true) (hi : DI X tg iter wi) (ok : BlkOk X.N X.env.scope scope own) (hu : ∀ i ∈ us, i ∈ own.map (·.2))
    (hg : ∀ (s : Shared) (H : Hp) (C : Addr) (cl : List (Str × Addr)) (fp : List Addr), DG (X.blk s H scope (compEnvC scope cl C X.env) fp) us tg g) (ht : ∀ (s : Shared) (H : Hp) (C : Addr) (cl : List (Str × Addr)) (fp : List Addr), DTs (X.blk s H scope (compEnvC scope cl C X.env) fp) ifs tt)
    (he : ∀ (s : Shared) (H : Hp) (C : Addr) (cl : List (Str × Addr)) (fp : List Addr), DE (X.blk s H scope (compEnvC scope cl C X.env) fp) elt we) (hs : ∀ x, foldedSetIterable iter X.env x = pure x := by intro _; rfl) :
    DS X (.Assign [.Name y py] (.ListComp elt [⟨tg, iter, ifs, 0⟩] scope pos) spos) (wSetF i (wLc wi g tt we (own.map (·.2)))) :=
  PS.imp (ps_setLc hc hN hy hyl hsw hi ok hg ht he hs) fun D σ H q => by
    have q2 := lift_setF D σ H q
    exact lift_lc hu σ H _ q2
/-! ### subscripts -/
theorem atI_rp {K : PySem.W.Frag} {G : Hp} {ys : List V} {xs : List D} {i : Int} {d : D} (r : RpAll K G ys xs) (h : atI xs i = some d) : ∃ v, atI ys i = some v ∧ Rp K G v d := by
  unfold atI at h ⊢
  rw [r.length]
  cases e : ixN xs.length i with
  | none => rw [e] at h; cases h
  | some j =>
    rw [e] at h
    exact r.get (i := j) h
def fIx : D → D → (D → Prop) → Prop
  | .list xs, .int i, W => ∃ d, atI xs i = some d ∧ W d
  | .tuple xs, .int i, W => ∃ d, atI xs i = some d ∧ W d
  | _, _, _ => False
theorem dop_ix {K : PySem.W.Frag} : Dop K (rIx K) fIx := fun h σ H env v u x y W Q R rx ry w k => by
  cases rx with
  | @lst a ys ds sq ra =>
    cases ry with
    | int i =>
      obtain ⟨d, e, w⟩ := w
      obtain ⟨v, e2, r⟩ := atI_rp ra e
      exact .inl ⟨a, ys, i, v, rfl, rfl, SqL.up sq, e2, k v H d R r (Ext.refl _ _) w⟩
    | _ => exact w.elim
  | @tup a ys ds sq ra =>
    cases ry with
    | int i =>
      obtain ⟨d, e, w⟩ := w
      obtain ⟨v, e2, r⟩ := atI_rp ra e
      exact .inr (.inl ⟨a, ys, i, v, rfl, rfl, SqT.up sq, e2, k v H d R r (Ext.refl _ _) w⟩)
    | _ => exact w.elim
  | _ => exact w.elim
theorem de_ix {wa wb : WE} (ha : DE X a wa) (hb : DE X b wb) (hs : PlainIx b := by exact fun _ _ => rfl) : DE X (.Subscript a b pos) (wOp fIx wa wb) :=
  PE.imp (pe_ix ix_seq ha hb hs) fun σ H Q q => lift_op dop_ix σ H Q q
/-- x[i], x a list of the frame's own -/
def wIxO (i : Nat) (wb : WE) : WE := fun env Q => (∃ p xs, env.at i = some (.ls p xs)) ∧ wb env fun y env1 => match env1.at i, y with
  | some (.ls _ xs), .int k => ∃ d, atI xs k = some d ∧ Q d env1
  | _, _ => False
theorem de_ixO (i : Nat) {x : Str} {pos' : Pos} {wb : WE} (hb : DE X b wb) (hN : X.N[i]? = some x := by rfl) (hv : Vis X.env.scope x := by first | exact Or.inl rfl | exact Or.inr (Or.inl rfl) | exact Or.inr (Or.inr rfl)) (hd : (x == ("__debug__" : Str)) = false := by decide)
    (hcd : (x == ("__classdict__" : Str)) = false := by decide) (hs : PlainIx b := by exact fun _ _ => rfl) : DE X (.Subscript (.Name x pos') b pos) (wIxO i wb) :=
  PE.imp (pe_ix ix_list (pe_var hN hv hd hcd) hb hs) fun σ H Q q => by
    obtain ⟨h, env, W, R, ⟨⟨p, xs, e⟩, w⟩, k⟩ := q
    obtain ⟨e1, _⟩ := R.lst i p xs e
    refine ⟨.ref p, e1, h, env, _, R, w, fun u H1 env1 y R1 r1 E1 w1 => ?_⟩
    split at w1
    · rename_i q zs kk e2
      obtain ⟨d, ed, w1⟩ := w1
      obtain ⟨e3, us, e4, ra⟩ := R1.lst i q zs e2
      rw [e1] at e3
      cases e3
      cases r1
      obtain ⟨v, ev, r⟩ := atI_rp ra ed
      exact ⟨p, us, kk, v, rfl, rfl, SqL.of e4, ev, k v H1 env1 d R1 r E1 w1⟩
    · exact w1.elim
/-- x[i] = e, x a list of the frame's own -/
def wPutO (i : Nat) (wv wb : WE) : WS := fun W env => wv env fun z env1 => (∃ p xs, env1.at i = some (.ls p xs)) ∧ wb env1 fun y env2 => match env2.at i, y with
  | some (.ls p xs), .int k => ∃ j, ixN xs.length k = some j ∧ W.nx (env2.put i (some (.ls p (xs.set j z))))
  | _, _ => False
theorem ds_putO (i : Nat) {x : Str} {pos' pos'' : Pos} {wv wb : WE} (he : DE X e wv) (hb : DE X b wb) (hN : X.N[i]? = some x := by rfl) (hv : Vis X.env.scope x := by first | exact Or.inl rfl | exact Or.inr (Or.inl rfl) | exact Or.inr (Or.inr rfl)) (hd : (x == ("__debug__" : Str)) = false := by decide)
    (hcd : (x == ("__classdict__" : Str)) = false := by decide) (ha : ∀ v, assign (.Subscript (.Name x pos') b pos'') X.env v = (do
      let ov ← holding [v] (eval (.Name x pos') X.env)
      let iv ← holding [v, ov] (eval b X.env)
      standAt pos''
      holding [v, ov, iv] (setItem ov iv v)
      release [v, ov, iv] []) := by intro _; rfl) (hs : swapsWithSole [.Subscript (.Name x pos') b pos''] e pos.line X.env = pure false := by rfl) (hw : swappedStores [.Subscript (.Name x pos') b pos''] e X.env = pure none := by rfl)
    (h1 : (assignEach [.Subscript (.Name x pos') b pos''] X.env).map (·.2) = [assign (.Subscript (.Name x pos') b pos'') X.env] := by rfl) : DS X (.Assign [.Subscript (.Name x pos') b pos''] e pos) (wPutO i wv wb) :=
  PS.imp (ps_asg he (pg_sub (pe_var hN hv hd hcd) hb set_list ha) hs hw h1) fun D σ H q => by
    obtain ⟨h, env, W, R, w, gg⟩ := q
    refine ⟨h, env, _, R, w, fun v H1 env1 z R1 r1 E1 w1 => ?_⟩
    obtain ⟨⟨p, xs, e⟩, w1⟩ := w1
    obtain ⟨e1, _⟩ := R1.lst i p xs e
    refine ⟨.ref p, e1, h, env1, _, R1, w1, fun u H2 env2 y R2 r2 E2 w2 => ?_⟩
    split at w2
    · rename_i q zs kk e2
      obtain ⟨j, ej, w2⟩ := w2
      obtain ⟨e3, us, e4, ra⟩ := R2.lst i q zs e2
      rw [e1] at e3
      cases e3
      cases r2
      refine ⟨p, us, kk, j, rfl, rfl, e4, by rw [ra.length]; exact ej, ?_⟩
      have r := Rp.mono (E2.sees h) _ _ r1
      exact gg.nx _ _ _ (R2.write e2 (RpAll.set r j ra)) ((E1.trans E2).trans (Ext.write e2)) w2
    · exact w2.elim
/-! ### slices -/
abbrev WO := Sls → (Option Int → Sls → Prop) → Prop
def liftO (K : PySem.W.Frag) (w : WO) : TO := fun σ H Q => ∃ h env W, Rel K h σ H env ∧ w env W ∧ ∀ b H' env', Rel K h σ H' env' → Ext H env H' env' → W b env' → Q b H'
abbrev DO (X : Cx) (e : Option Expr) (w : WO) : Prop := PO X e (liftO X.K w)
def wNoPart : WO := fun env Q => Q none env
def wPart (w : WE) : WO := fun env Q => w env fun x env1 => match x with
  | .int i => Q (some i) env1
  | _ => False
theorem do_none : DO X none wNoPart := ⟨fun pins s σ H Q I q => by
  obtain ⟨h, env, W, R, w, k⟩ := q
  exact po_none.run pins s σ H Q I (k none H env R (Ext.refl _ _) w)⟩
theorem do_some (ha : DE X e w) : DO X (some e) (wPart w) := ⟨fun pins s σ H Q I q => by
  refine (po_some ha).run pins s σ H Q I ?_
  obtain ⟨h, env, W, R, w, k⟩ := q
  refine ⟨h, env, _, R, w, fun v H1 env1 x R1 r1 E1 w1 => ?_⟩
  cases r1 with
  | int i => exact ⟨i, rfl, k _ H1 env1 R1 E1 w1⟩
  | _ => exact w1.elim⟩
def cutD (xs : List D) (lo hi : Option Int) : List D := (xs.drop (HT.sIx xs.length 0 lo)).take (HT.sIx xs.length xs.length hi - HT.sIx xs.length 0 lo)
theorem cut_rp {K : PySem.W.Frag} {G : Hp} {ys : List V} {xs : List D} (r : RpAll K G ys xs) (lo hi : Option Int) : RpAll K G (cutV ys lo hi) (cutD xs lo hi) := by
  unfold cutV cutD
  rw [r.length]
  exact RpAll.take _ (RpAll.drop _ r)
/-- t[lo:hi], t a tuple -/
def wSlT (w : WE) (lo hi : WO) : WE := fun env Q => w env fun x env1 => lo env1 fun i env2 => hi env2 fun j env3 => match x with
  | .tuple xs => Q (.tuple (cutD xs i j)) env3
  | _ => False
theorem de_slT {lo hi : Option Expr} {wlo whi : WO} {p2 : Pos} (he : DE X e w) (hl : DO X lo wlo) (hu : DO X hi whi) : DE X (.Subscript e (.Slice lo hi none p2) pos) (wSlT w wlo whi) :=
  PE.imp (pe_slice sl_tupA he hl hu) fun σ H Q q => by
    obtain ⟨h, env, W, R, w, k⟩ := q
    refine ⟨h, env, _, R, w, fun v H1 env1 x R1 r1 E1 w1 => ?_⟩
    refine ⟨h, env1, _, R1, w1, fun i H2 env2 R2 E2 w2 => ?_⟩
    refine ⟨h, env2, _, R2, w2, fun j H3 env3 R3 E3 w3 => ?_⟩
    have r3 := Rp.mono ((E2.trans E3).sees h) _ _ r1
    cases r3 with
    | @tup a ys ds sq ra =>
      refine ⟨a, ys, rfl, SqT.up sq, fun ew => ?_, fun _ p np => ?_⟩
      · refine k _ H3 env3 _ R3 (.tup sq ?_) ((E1.trans E2).trans E3) w3
        have q : cutD ds i j = ds := by
          unfold cutD
          rw [← ra.length, ew.1, ew.2, ra.length, List.drop_zero]
          exact List.take_length
        rw [q]
        exact ra
      · obtain ⟨R4, r4, E4⟩ := mk_tup R3 np (cut_rp ra i j)
        exact k _ _ env3 _ R4 r4 (((E1.trans E2).trans E3).trans E4) w3
    | _ => exact w3.elim
/-- l[lo:hi], l a list -/
def wSlL (w : WE) (lo hi : WO) : WN := fun env Q => w env fun x env1 => lo env1 fun i env2 => hi env2 fun j env3 => match x with
  | .list xs => Q (cutD xs i j) env3
  | _ => False
theorem dn_slL {lo hi : Option Expr} {wlo whi : WO} {p2 : Pos} (he : DE X e w) (hl : DO X lo wlo) (hu : DO X hi whi) : DN X (.Subscript e (.Slice lo hi none p2) pos) (wSlL w wlo whi) :=
  PE.imp (pe_slice sl_list he hl hu) fun σ H Q q => by
    obtain ⟨h, env, W, R, w, k⟩ := q
    refine ⟨h, env, _, R, w, fun v H1 env1 x R1 r1 E1 w1 => ?_⟩
    refine ⟨h, env1, _, R1, w1, fun i H2 env2 R2 E2 w2 => ?_⟩
    refine ⟨h, env2, _, R2, w2, fun j H3 env3 R3 E3 w3 => ?_⟩
    have r3 := Rp.mono ((E2.trans E3).sees h) _ _ r1
    cases r3 with
    | @lst a ys ds sq ra =>
      refine ⟨a, ys, rfl, SqL.up sq, fun p np => ?_⟩
      obtain ⟨np, R4, hp, r4, E4⟩ := mk_lst R3 np (cut_rp ra i j)
      exact k p _ _ env3 _ np R4 hp r4 (Same.trans ((E1.trans E2).trans E3) E4) w3
    | _ => exact w3.elim
/-! ### several names at once -/
abbrev WM := Sls → (List Sl → Sls → Prop) → Prop
/-- the new lists among the items -/
def news : List Sl → List Addr
  | [] => []
  | .ls p _ :: r => p :: news r
  | .d _ :: r => news r
def RpM (K : PySem.W.Frag) (H : Hp) (G : Hp) (v : V) : Sl → Prop
  | .d x => Rp K G v x
  | .ls p xs => v = .ref p ∧ ∃ ys, H p = some (.lst ys) ∧ RpAll K G ys xs
def liftM (K : PySem.W.Frag) (w : WM) : TA := fun σ H Q => ∃ h env W, Rel K h σ H env ∧ w env W ∧ ∀ vs H' env' its, Rel K (news its ++ h) σ H' env' → (news its).Nodup → (∀ p ∈ news its, p ∉ h) → Paired (RpM K H' (imm H' (news its ++ h ++ own env'))) vs its → Same (imm H (own env)) (imm H' (news its ++ own env')) → W its env' → Q vs H'
abbrev DM (X : Cx) (es : List Expr) (w : WM) : Prop := PA X es (liftM X.K w)
def wMNil : WM := fun env Q => Q [] env
def wMCons (w : WE) (r : WM) : WM := fun env Q => w env fun x env1 => r env1 fun its env2 => Q (.d x :: its) env2
def wMConsN (w : WN) (r : WM) : WM := fun env Q => w env fun xs env1 => r env1 fun its env2 => ∀ p, Q (.ls p xs :: its) env2
theorem RpM.mono {K : PySem.W.Frag} {H H' G G' : Hp} {v : V} : ∀ {x : Sl}, RpM K H G v x → Same G G' → (∀ p xs, x = .ls p xs → H' p = H p) → RpM K H' G' v x
  | .d x, r, s, _ => Rp.mono s x v r
  | .ls p xs, ⟨e, ys, hp, r⟩, s, k => ⟨e, ys, (k p xs rfl).trans hp, RpAll.mono s _ _ r⟩
theorem dm_nil : DM X [] wMNil := PA.imp pa_nil fun σ H Q q => by
  obtain ⟨h, env, W, R, w, k⟩ := q
  exact k [] H env [] R .nil (fun _ z => by cases z) .nil (Ext.refl _ _) w
theorem dm_cons {r : WM} (ha : DE X e w) (hr : DM X es r) (hs : starEach (e :: es) X.env = (false, eval e X.env) :: starEach es X.env := by rfl) : DM X (e :: es) (wMCons w r) := PA.imp (pa_cons ha hr hs) fun σ H Q q => by
  obtain ⟨h, env, W, R, w, k⟩ := q
  refine ⟨h, env, _, R, w, fun v H1 env1 x R1 r1 E1 w1 => ?_⟩
  refine ⟨h, env1, _, R1, w1, fun vs H2 env2 its R2 nd dj r2 E2 w2 => ?_⟩
  refine k (v :: vs) H2 env2 (.d x :: its) R2 nd dj (.cons (show RpM X.K H2 _ v (.d x) from Rp.mono ?_ _ _ r1) r2) (Same.trans E1 E2) w2
  intro a o z
  obtain ⟨n, z⟩ := imm_some z
  obtain ⟨m, z⟩ := imm_some (E2 a o (imm_mk (fun y => n (List.mem_append_right _ y)) z))
  refine imm_mk (fun y => ?_) z
  rcases List.mem_append.mp y with y | y
  · rcases List.mem_append.mp y with y | y
    · exact m (List.mem_append_left _ y)
    · exact n (List.mem_append_left _ y)
  · exact m (List.mem_append_right _ y)
theorem dm_consN {r : WM} (ha : DN X e wn) (hr : DM X es r) (hs : starEach (e :: es) X.env = (false, eval e X.env) :: starEach es X.env := by rfl) : DM X (e :: es) (wMConsN wn r) := PA.imp (pa_cons ha hr hs) fun σ H Q q => by
  obtain ⟨h, env, W, R, w, k⟩ := q
  refine ⟨h, env, _, R, w, fun p ys H1 env1 xs np R1 hp r1 E1 w1 => ?_⟩
  refine ⟨p :: h, env1, _, R1, w1, fun vs H2 env2 its R2 nd dj r2 E2 w2 => ?_⟩
  have po1 : p ∉ own env1 := fun z => R1.dj p z List.mem_cons_self
  obtain ⟨pn, hp2⟩ := imm_some (E2 p _ (imm_mk po1 hp))
  have pni : p ∉ news its := fun z => pn (List.mem_append_left _ z)
  have perm : ∀ a, a ∈ news its ++ p :: h ↔ a ∈ p :: news its ++ h := fun a => by
    constructor
    · intro z
      rcases List.mem_append.mp z with z | z
      · exact List.mem_append_left _ (List.mem_cons_of_mem _ z)
      · rcases List.mem_cons.mp z with z | z
        · rw [z]; exact List.mem_append_left _ List.mem_cons_self
        · exact List.mem_append_right _ z
    · intro z
      rcases List.mem_append.mp z with z | z
      · rcases List.mem_cons.mp z with z | z
        · rw [z]; exact List.mem_append_right _ List.mem_cons_self
        · exact List.mem_append_left _ z
      · exact List.mem_append_right _ (List.mem_cons_of_mem _ z)
  have perm2 : ∀ (qs : List Addr) a, a ∈ news its ++ p :: h ++ qs ↔ a ∈ p :: news its ++ h ++ qs := fun qs a => by
    constructor
    · intro z
      rcases List.mem_append.mp z with z | z
      · exact List.mem_append_left _ ((perm a).mp z)
      · exact List.mem_append_right _ z
    · intro z
      rcases List.mem_append.mp z with z | z
      · exact List.mem_append_left _ ((perm a).mpr z)
      · exact List.mem_append_right _ z
  have sm : ∀ (qs : List Addr), Same (imm H2 (news its ++ p :: h ++ qs)) (imm H2 (p :: news its ++ h ++ qs)) := fun qs => same_imm_sub fun a z => (perm2 qs a).mpr z
  have R3 : Rel X.K (p :: news its ++ h) σ H2 env2 :=
    ⟨fun q hq => R2.hs q ((perm q).mpr hq), R2.len, R2.inj, fun q hq z => R2.dj q hq ((perm q).mpr z), fun i x e => by
      obtain ⟨v, e1, r⟩ := R2.dat i x e
      exact ⟨v, e1, Rp.mono (sm _) _ _ r⟩, fun i q zs e => by
      obtain ⟨e1, us, e2, r⟩ := R2.lst i q zs e
      exact ⟨e1, us, e2, RpAll.mono (sm _) _ _ r⟩⟩
  have low : Same (imm H1 (p :: h ++ own env1)) (imm H2 (p :: news its ++ h ++ own env2)) := fun a o z => by
    obtain ⟨n, z⟩ := imm_some z
    obtain ⟨m, z⟩ := imm_some (E2 a o (imm_mk (fun y => n (List.mem_append_right _ y)) z))
    refine imm_mk (fun y => ?_) z
    rcases List.mem_append.mp y with y | y
    · rcases List.mem_append.mp y with y | y
      · rcases List.mem_cons.mp y with y | y
        · exact n (by rw [y]; exact List.mem_append_left _ List.mem_cons_self)
        · exact m (List.mem_append_left _ y)
      · exact n (List.mem_append_left _ (List.mem_cons_of_mem _ y))
    · exact m (List.mem_append_right _ y)
  refine k (.ref p :: vs) H2 env2 (.ls p xs :: its) R3 (List.nodup_cons.mpr ⟨pni, nd⟩) (fun q hq => ?_) (.cons ⟨rfl, ys, hp2, RpAll.mono low _ _ r1⟩ ?_) ?_ (w2 p)
  · rcases List.mem_cons.mp hq with e | e
    · rw [e]; exact np
    · exact fun z => dj q e (List.mem_cons_of_mem _ z)
  · exact Paired.mapP r2 fun v it r => RpM.mono r (sm _) fun _ _ _ => rfl
  · intro a o z
    obtain ⟨n, z⟩ := imm_some (E1 a o z)
    obtain ⟨m, z⟩ := imm_some (E2 a o (imm_mk (fun y => n (List.mem_cons_of_mem _ y)) z))
    refine imm_mk (fun y => ?_) z
    rcases List.mem_append.mp y with y | y
    · rcases List.mem_cons.mp y with y | y
      · exact n (by rw [y]; exact List.mem_cons_self)
      · exact m (List.mem_append_left _ y)
    · exact m (List.mem_append_right _ y)
/-- the names' places take the items -/
def putAll : Sls → List Nat → List Sl → Option Sls
  | env, [], [] => some env
  | env, i :: is, x :: xs => putAll (env.put i (some x)) is xs
  | _, _, _ => none
def setAll : L2.St → List Nat → List V → L2.St
  | σ, i :: is, v :: vs => setAll (σ.set i (some v)) is vs
  | σ, _, _ => σ
theorem put_all {K : PySem.W.Frag} {h : List Addr} {H H0 : Hp} {e0 : Sls} : ∀ {is : List Nat} {its : List Sl} {vs : List V} {σ : L2.St} {env env' : Sls}, Rel K (news its ++ h) σ H env → (news its).Nodup → (∀ p ∈ news its, p ∉ h) → Paired (RpM K H (imm H (news its ++ h ++ own env))) vs its →
    Same (imm H0 (own e0)) (imm H (news its ++ own env)) → putAll env is its = some env' → Rel K h (setAll σ is vs) H env' ∧ Ext H0 e0 H env'
  | [], [], _, σ, env, env', R, _, _, r, E, e => by
    cases r
    cases e
    exact ⟨R, E⟩
  | [], _ :: _, _, _, _, _, _, _, _, _, _, e => by cases e
  | _ :: _, [], _, _, _, _, _, _, _, _, _, e => by cases e
  | i :: is, .d x :: its, _, σ, env, env', R, nd, dj, .cons (a := v) r rs, E, e => by
    have R2 := R.setD (i := i) (show Rp K (imm H (news its ++ h ++ own env)) v x from r)
    have sub : ∀ q ∈ own (env.put i (some (.d x))), q ∈ own env := own_put_sub fun _ _ z => by cases z
    have sm : Same (imm H (news its ++ h ++ own env)) (imm H (news its ++ h ++ own (env.put i (some (.d x))))) := sees_sub (h := news its ++ h) sub
    exact put_all (is := is) (its := its) R2 nd dj (Paired.mapP rs fun v it r => RpM.mono r sm fun _ _ _ => rfl) (E.trans (sees_sub sub)) (show putAll (env.put i (some (.d x))) is its = some env' from e)
  | i :: is, .ls p xs :: its, _, σ, env, env', R, nd, dj, .cons (a := v) r rs, E, e => by
    obtain ⟨e1, ys, hp, ra⟩ := r
    subst e1
    obtain ⟨pn, nd⟩ := List.nodup_cons.mp nd
    have ph : p ∉ news its ++ h := fun z => (List.mem_append.mp z).elim pn (dj p List.mem_cons_self)
    have R2 := Rel.setL (h := news its ++ h) (i := i) (show Rel K (p :: (news its ++ h)) σ H env from R) hp ra ph
    have sub : ∀ q ∈ own (env.put i (some (.ls p xs))), q = p ∨ q ∈ own env := own_put_ls
    have sm : Same (imm H (p :: news its ++ h ++ own env)) (imm H (news its ++ h ++ own (env.put i (some (.ls p xs))))) := same_imm_sub fun a z => by
      rcases List.mem_append.mp z with z | z
      · exact List.mem_append_left _ (List.mem_cons_of_mem _ z)
      · rcases sub a z with z | z
        · rw [z]; exact List.mem_append_left _ List.mem_cons_self
        · exact List.mem_append_right _ z
    refine put_all (is := is) (its := its) R2 nd (fun q hq => dj q (List.mem_cons_of_mem _ hq)) (Paired.mapP rs fun v it r => RpM.mono r sm fun _ _ _ => rfl) (E.trans (same_imm_sub fun a z => ?_)) (show putAll (env.put i (some (.ls p xs))) is its = some env' from e)
    rcases List.mem_append.mp z with z | z
    · exact List.mem_append_left _ (List.mem_cons_of_mem _ z)
    · rcases sub a z with z | z
      · rw [z]; exact List.mem_append_left _ List.mem_cons_self
      · exact List.mem_append_right _ z
def wPar (is : List Nat) (m : WM) : WS := fun W env => m env fun its env1 => ∃ env2, putAll env1 is its = some env2 ∧ W.nx env2
theorem ds_par {i j : Nat} {x y : Str} {px py pt : Pos} {kt k2 pt2} {m : WM} (hc : X.calm = true) (hN : X.N.Nodup) (ha : DM X [a, b] m) (hi : X.N[i]? = some x := by rfl) (hj : X.N[j]? = some y := by rfl) (hij : i ≠ j := by decide)
    (hx : X.env.scope.names.lookup x = some .local := by rfl) (hy : X.env.scope.names.lookup y = some .local := by rfl)
    (hw : swappedStores [.Tuple [.Name x px, .Name y py] kt pt] (.Tuple [a, b] k2 pt2) X.env = pure (some [x, y]) := by rfl)
    (hs : swapsWithSole [.Tuple [.Name x px, .Name y py] kt pt] (.Tuple [a, b] k2 pt2) pos.line X.env = pure false := by rfl) :
    DS X (.Assign [.Tuple [.Name x px, .Name y py] kt pt] (.Tuple [a, b] k2 pt2) pos) (wPar [i, j] m) := PS.imp (ps_par hc hN hi hj hij hx hy ha hw hs) fun D σ H q => by
  obtain ⟨h, env, W, R, w, gg⟩ := q
  refine ⟨h, env, _, R, w, fun vs H1 env1 its R1 nd dj r1 E1 w1 => ?_⟩
  obtain ⟨env2, e, w1⟩ := w1
  obtain ⟨R2, E2⟩ := put_all R1 nd dj r1 E1 e
  match its, vs, r1, e with
  | [x1, x2], [v1, v2], _, _ => exact ⟨v1, v2, rfl, gg.nx _ H1 env2 R2 E2 w1⟩
  | [], _, .nil, e => cases e
  | [_], _, .cons _ .nil, e => cases e
  | _ :: _ :: _ :: _, _, .cons _ (.cons _ (.cons _ _)), e => cases e
theorem ds_par3 {i j l : Nat} {x y z : Str} {px py pz pt : Pos} {kt k2 pt2} {m : WM} (hc : X.calm = true) (hN : X.N.Nodup) (ha : DM X [a, b, c] m) (hi : X.N[i]? = some x := by rfl) (hj : X.N[j]? = some y := by rfl) (hl : X.N[l]? = some z := by rfl) (hij : i ≠ j := by decide) (hil : i ≠ l := by decide) (hjl : j ≠ l := by decide)
    (hx : X.env.scope.names.lookup x = some .local := by rfl) (hy : X.env.scope.names.lookup y = some .local := by rfl) (hz : X.env.scope.names.lookup z = some .local := by rfl)
    (hw : swappedStores [.Tuple [.Name x px, .Name y py, .Name z pz] kt pt] (.Tuple [a, b, c] k2 pt2) X.env = pure (some [x, y, z]) := by rfl)
    (hs : swapsWithSole [.Tuple [.Name x px, .Name y py, .Name z pz] kt pt] (.Tuple [a, b, c] k2 pt2) pos.line X.env = pure false := by rfl) :
    DS X (.Assign [.Tuple [.Name x px, .Name y py, .Name z pz] kt pt] (.Tuple [a, b, c] k2 pt2) pos) (wPar [i, j, l] m) := PS.imp (ps_par3 hc hN hi hj hl hij hil hjl hx hy hz ha hw hs) fun D σ H q => by
  obtain ⟨h, env, W, R, w, gg⟩ := q
  refine ⟨h, env, _, R, w, fun vs H1 env1 its R1 nd dj r1 E1 w1 => ?_⟩
  obtain ⟨env2, e, w1⟩ := w1
  obtain ⟨R2, E2⟩ := put_all R1 nd dj r1 E1 e
  match its, vs, r1, e with
  | [x1, x2, x3], [v1, v2, v3], _, _ => exact ⟨v1, v2, v3, rfl, gg.nx _ H1 env2 R2 E2 w1⟩
  | [], _, .nil, e => cases e
  | [_], _, .cons _ .nil, e => cases e
  | [_, _], _, .cons _ (.cons _ .nil), e => cases e
  | _ :: _ :: _ :: _ :: _, _, .cons _ (.cons _ (.cons _ (.cons _ _))), e => cases e
/-- some of the names are captured: a tuple is made, then taken apart -/
def gNames : List Nat → TGs
  | [] => gNil
  | i :: is => gCons (gName i) (gNames is)
theorem gNames_set : ∀ {is : List Nat} {vs : List V} {σ : L2.St} {H : Hp} {Q : L2.St → Hp → Prop}, is.length = vs.length → Q (setAll σ is vs) H → gNames is vs σ H Q
  | [], [], _, _, _, _, q => ⟨rfl, q⟩
  | [], _ :: _, _, _, _, l, _ => by cases l
  | _ :: _, [], _, _, _, l, _ => by cases l
  | i :: is, v :: vs, σ, H, Q, l, q => ⟨v, vs, rfl, gNames_set (by simpa using l) q⟩
theorem putAll_len : ∀ {is : List Nat} {its : List Sl} {env env' : Sls}, putAll env is its = some env' → is.length = its.length
  | [], [], _, _, _ => rfl
  | [], _ :: _, _, _, e => by cases e
  | _ :: _, [], _, _, e => by cases e
  | i :: is, x :: xs, env, env', e => by
    show is.length + 1 = xs.length + 1
    rw [putAll_len (env := env.put i (some x)) e]
theorem paired_len {α β : Type} {F : α → β → Prop} : ∀ {l : List α} {m : List β}, Paired F l m → l.length = m.length
  | _, _, .nil => rfl
  | _, _, .cons _ t => by rw [List.length_cons, List.length_cons, paired_len t]
theorem pgs_names_nil : PGs X [] (gNames []) := pgs_nil
theorem pgs_names {i : Nat} {x : Str} {p : Pos} {is : List Nat} (hN : X.N.Nodup) (h : PGs X es (gNames is)) (hi : X.N[i]? = some x := by rfl) (hx : Loc X.env.scope x := by first | exact Or.inl rfl | exact Or.inr rfl) (hf : X.fn x = true ∨ X.env.scope.names.lookup x = some .local := by first | exact .inl rfl | exact .inr rfl | assumption)
    (hs : (assignEach (.Name x p :: es) X.env).map (·.2) = assign (.Name x p) X.env :: (assignEach es X.env).map (·.2) := by rfl) : PGs X (.Name x p :: es) (gNames (i :: is)) := pgs_cons (pg_name hN hi hx hf) h hs
theorem ds_parT {is : List Nat} {ts : List Expr} {kt k2 : Nat} {pt pt2 : Pos} {n : Nat} {m : WM} (hc : X.calm = true) (ha : DM X es m) (hg : PGs X ts (gNames is))
    (hn : (assignEach ts X.env).length = n := by rfl) (hil : is.length = n := by rfl) (hst : (assignEach ts X.env).findIdx? (·.1) = none := by rfl)
    (hs : swapsWithSole [.Tuple ts kt pt] (.Tuple es k2 pt2) pos.line X.env = pure false := by rfl) (hw : swappedStores [.Tuple ts kt pt] (.Tuple es k2 pt2) X.env = pure none := by rfl)
    (h1 : (assignEach [.Tuple ts kt pt] X.env).map (·.2) = [assign (.Tuple ts kt pt) X.env] := by rfl) (hz : n ≤ 1000 := by decide) :
    DS X (.Assign [.Tuple ts kt pt] (.Tuple es k2 pt2) pos) (wPar is m) := PS.imp (ps_asg (pe_tup ha) (pg_tup hc hg hn hst) hs hw h1) fun D σ H q => by
  obtain ⟨h, env, W, R, w, gg⟩ := q
  refine ⟨h, env, _, R, w, fun vs H1 env1 its R1 nd dj r1 E1 w1 => ?_⟩
  obtain ⟨env2, e, w1⟩ := w1
  have len : is.length = vs.length := (putAll_len e).trans (paired_len r1).symm
  refine ⟨by rw [← len, hil]; exact Nat.le_of_lt (small1000 hz), fun p np => ?_⟩
  have R2 := R1.alloc (o := .tup vs) np
  have fr := R1.fresh np
  have sm : ∀ qs : List Addr, Same (imm H1 qs) (imm (upd H1 p (.tup vs)) qs) := fun qs a o z => by
    obtain ⟨n, z⟩ := imm_some z
    refine imm_mk n ?_
    rw [upd_ne (ne_of_none z np)]
    exact z
  have r2 : Paired (RpM X.K (upd H1 p (.tup vs)) (imm (upd H1 p (.tup vs)) (news its ++ h ++ own env1))) vs its := by
    have aux : ∀ {us : List V} {js : List Sl}, Paired (RpM X.K H1 (imm H1 (news its ++ h ++ own env1))) us js → Paired (RpM X.K (upd H1 p (.tup vs)) (imm (upd H1 p (.tup vs)) (news its ++ h ++ own env1))) us js := by
      intro us js r
      induction r with
      | nil => exact .nil
      | @cons v it us js r rs ih =>
        refine .cons ?_ ih
        cases it with
        | d x => exact Rp.mono (sm _) _ _ r
        | ls q xs =>
          obtain ⟨e1, ys, hq, ra⟩ := r
          exact ⟨e1, ys, by rw [upd_ne (ne_of_none hq np)]; exact hq, RpAll.mono (sm _) _ _ ra⟩
    exact aux r1
  obtain ⟨R3, E3⟩ := put_all (H0 := H) (e0 := env) R2 nd dj r2 (Same.trans E1 (sm _)) e
  exact ⟨p, vs, rfl, SqT.of upd_same, by rw [← len]; exact hil, gNames_set len (gg.nx _ _ env2 R3 E3 w1)⟩
end
end Dl

namespace Dl
open PySem PySem.Spec PyProof.Rows L2
/-! ### what a def promises, over data -/
abbrev WF := Sls → (D → Sls → Prop) → Prop
def spD (K : PySem.W.Frag) (n : Nat) (F : WF) : Sp := fun vs H Q _ => vs.length = n ∧ ∃ h env W, Rel K h (vs.map some) H env ∧ F env W ∧
  ∀ v H' env' d, Rel K h (vs.map some) H' env' → Rp K (imm H' (h ++ own env')) v d → Ext H env H' env' → (∀ j p ys, env'.at j = some (.ls p ys) → ∃ xs, env.at j = some (.ls p xs)) → W d env' → Q v H'
abbrev WFN := Sls → (List D → Sls → Prop) → Prop
/-- the promise of a def that hands back a new list -/
def spN (K : PySem.W.Frag) (n : Nat) (F : WFN) : Sp := fun vs H Q _ => vs.length = n ∧ ∃ h env W, Rel K h (vs.map some) H env ∧ F env W ∧
  ∀ p ys H' env' xs, p ∉ h → Rel K (p :: h) (vs.map some) H' env' → H' p = some (.lst ys) → RpAll K (imm H' (p :: h ++ own env')) ys xs → Same (imm H (own env)) (imm H' (p :: own env')) → (∀ j p ys, env'.at j = some (.ls p ys) → ∃ xs, env.at j = some (.ls p xs)) → W xs env' → Q (.ref p) H'
/-- what the parameters' own lists are at the end -/
def outs : Sls → Sls → Option Sls
  | [], _ => some []
  | some (.ls p _) :: r, some (.ls q ys) :: e => if p = q then (outs r e).map (some (.ls p ys) :: ·) else none
  | some (.ls _ _) :: _, _ => none
  | x :: r, _ :: e => (outs r e).map (x :: ·)
  | _ :: _, [] => none
theorem outs_length : ∀ {env e out : Sls}, outs env e = some out → out.length = env.length
  | [], _, _, h => by cases h; rfl
  | some (.ls p xs) :: r, some (.ls q ys) :: e, out, h => by
    unfold outs at h
    split at h
    · cases q2 : outs r e with
      | none => rw [q2] at h; cases h
      | some o => rw [q2] at h; cases h; show o.length + 1 = r.length + 1; rw [outs_length q2]
    · cases h
  | some (.ls p xs) :: r, some (.d _) :: e, out, h => by cases h
  | some (.ls p xs) :: r, none :: e, out, h => by cases h
  | some (.ls p xs) :: r, [], out, h => by cases h
  | some (.d x) :: r, y :: e, out, h => by
    unfold outs at h
    cases q2 : outs r e with
    | none => rw [q2] at h; cases h
    | some o => rw [q2] at h; cases h; show o.length + 1 = r.length + 1; rw [outs_length q2]
  | none :: r, y :: e, out, h => by
    unfold outs at h
    cases q2 : outs r e with
    | none => rw [q2] at h; cases h
    | some o => rw [q2] at h; cases h; show o.length + 1 = r.length + 1; rw [outs_length q2]
  | some (.d x) :: r, [], out, h => by cases h
  | none :: r, [], out, h => by cases h
theorem outs_at : ∀ {env e out : Sls} {i : Nat} {u : Sl}, outs env e = some out → out.at i = some u →
    (env.at i = some u ∧ ∃ x, u = .d x) ∨ ∃ p xs ys, env.at i = some (.ls p xs) ∧ e.at i = some (.ls p ys) ∧ u = .ls p ys
  | [], _, _, _, _, h, g => by cases h; cases g
  | some (.ls p xs) :: r, some (.ls q ys) :: e, out, i, u, h, g => by
    unfold outs at h
    split at h
    · rename_i pq
      cases q2 : outs r e with
      | none => rw [q2] at h; cases h
      | some o =>
        rw [q2] at h; cases h
        cases i with
        | zero => cases g; subst pq; exact .inr ⟨p, xs, ys, rfl, rfl, rfl⟩
        | succ i => exact outs_at (i := i) q2 g
    · cases h
  | some (.ls p xs) :: r, some (.d _) :: e, out, _, _, h, _ => by cases h
  | some (.ls p xs) :: r, none :: e, out, _, _, h, _ => by cases h
  | some (.ls p xs) :: r, [], out, _, _, h, _ => by cases h
  | some (.d x) :: r, y :: e, out, i, u, h, g => by
    unfold outs at h
    cases q2 : outs r e with
    | none => rw [q2] at h; cases h
    | some o =>
      rw [q2] at h; cases h
      cases i with
      | zero => cases g; exact .inl ⟨rfl, x, rfl⟩
      | succ i => exact outs_at (i := i) q2 g
  | none :: r, y :: e, out, i, u, h, g => by
    unfold outs at h
    cases q2 : outs r e with
    | none => rw [q2] at h; cases h
    | some o =>
      rw [q2] at h; cases h
      cases i with
      | zero => cases g
      | succ i => exact outs_at (i := i) q2 g
  | some (.d x) :: r, [], out, _, _, h, _ => by cases h
  | none :: r, [], out, _, _, h, _ => by cases h
def nones (n : Nat) : Sls := List.replicate n none
theorem nones_at : ∀ (n i : Nat), (nones n).at i = none
  | 0, _ => rfl
  | n + 1, 0 => rfl
  | n + 1, i + 1 => nones_at n i
theorem app_at : ∀ (env : Sls) (n i : Nat), Sls.at (env ++ nones n) i = env.at i
  | [], n, i => nones_at n i
  | x :: r, n, 0 => rfl
  | x :: r, n, i + 1 => app_at r n i
theorem own_nones : ∀ n : Nat, own (nones n) = []
  | 0 => rfl
  | n + 1 => own_nones n
theorem own_app : ∀ (env : Sls) (n : Nat), own (env ++ nones n) = own env
  | [], n => own_nones n
  | some (.ls p xs) :: r, n => by show p :: own (r ++ nones n) = p :: own r; rw [own_app r n]
  | some (.d x) :: r, n => own_app r n
  | none :: r, n => own_app r n
/-- the end of a def's body -/
def ends (env : Sls) (W : D → Sls → Prop) : WEnds where
  nx := fun e => ∃ out, outs env e = some out ∧ W .none out
  rt := fun d e => ∃ out, outs env e = some out ∧ W d out
  rn := fun xs e => ∃ out, outs env e = some out ∧ W (.list xs) out
def endsN (env : Sls) (W : List D → Sls → Prop) : WEnds where
  nx := fun _ => False
  rt := fun _ _ => False
  rn := fun xs e => ∃ out, outs env e = some out ∧ W xs out
abbrev CxD (P : Program) (w : World) (K : PySem.W.Frag) (mg : Str → Option Value) (base : Heap) (N : List Str) (qual : Str) (scope : Scope) (f : Addr) (cdv : Value) (A : Around) (outer : List Env) (s : Shared) (H : Hp) (E : XK) : Cx :=
  (cxOf CX0 P w K mg base N qual scope f cdv A outer s H E).nox
section
variable {P : Program} {w : World} {K : PySem.W.Frag} {mg : Str → Option Value} {base : Heap}
theorem rel_start {h : List Addr} {vs : List V} {H : Hp} {env : Sls} {N : List Str} (R : Rel K h (vs.map some) H env) : Rel K h (L2.start N vs) H (env ++ nones (N.length - vs.length)) := by
  unfold L2.start
  have gl : ∀ {i : Nat} {z : Option V}, (vs.map some)[i]? = some z → (vs.map some ++ List.replicate (N.length - vs.length) none)[i]? = some z := fun {i z} e => by
    rw [List.getElem?_append_left (List.getElem?_eq_some_iff.mp e).1]; exact e
  have el := R.len
  rw [List.length_map] at el
  refine ⟨R.hs, ?_, fun i j p xs ys e1 e2 => ?_, fun q hq => ?_, fun i x e => ?_, fun i p xs e => ?_⟩
  · rw [List.length_append, List.length_append, List.length_map, List.length_replicate]
    show _ = env.length + (List.replicate _ none).length
    rw [List.length_replicate, ← el]
  · rw [app_at] at e1 e2
    exact R.inj i j p xs ys e1 e2
  · rw [own_app] at hq
    exact R.dj q hq
  · rw [app_at] at e
    rw [own_app]
    obtain ⟨v, e1, r⟩ := R.dat i x e
    exact ⟨v, gl e1, r⟩
  · rw [app_at] at e
    rw [own_app]
    obtain ⟨e1, r⟩ := R.lst i p xs e
    exact ⟨gl e1, r⟩
/-- behind a def's body: its parameters as they are then; hx: a new list's address, or nothing -/
theorem rel_end {h hx : List Addr} {vs : List V} {H H' : Hp} {env e out : Sls} {σ' : L2.St} (R : Rel K h (vs.map some) H env) (R' : Rel K (hx ++ h) σ' H' e) (E : Same (imm H (own env)) (imm H' (hx ++ own e))) (eo : outs env e = some out) :
    Rel K (hx ++ h) (vs.map some) H' out ∧ Same (imm H (own env)) (imm H' (hx ++ own out)) ∧ (∀ j p ys, out.at j = some (.ls p ys) → ∃ xs, env.at j = some (.ls p xs)) ∧ Same (imm H' (hx ++ h ++ own e)) (imm H' (hx ++ h ++ own out)) := by
  have so : ∀ q, q ∈ own out → q ∈ own env := fun q hq => by
    obtain ⟨i, xs, g⟩ := own_mem.mp hq
    rcases outs_at eo g with ⟨_, x, g2⟩ | ⟨p, xs2, ys, g1, g2, g3⟩
    · cases g2
    · cases g3; exact own_mem.mpr ⟨i, _, g1⟩
  have se : ∀ q, q ∈ own out → q ∈ own e := fun q hq => by
    obtain ⟨i, xs, g⟩ := own_mem.mp hq
    rcases outs_at eo g with ⟨_, x, g2⟩ | ⟨p, xs2, ys, g1, g2, g3⟩
    · cases g2
    · cases g3; exact own_mem.mpr ⟨i, _, g2⟩
  have sm1 : Same (imm H' (hx ++ h ++ own e)) (imm H' (hx ++ h ++ own out)) := sees_sub (h := hx ++ h) se
  have sm2 : Same (imm H (h ++ own env)) (imm H' (hx ++ h ++ own out)) := fun a o z => by
    obtain ⟨n, z⟩ := imm_some z
    obtain ⟨m, z⟩ := imm_some (E a o (imm_mk (fun y => n (List.mem_append_right _ y)) z))
    refine imm_mk (fun y => ?_) z
    rcases List.mem_append.mp y with y | y
    · rcases List.mem_append.mp y with y | y
      · exact m (List.mem_append_left _ y)
      · exact n (List.mem_append_left _ y)
    · exact m (List.mem_append_right _ (se a y))
  refine ⟨⟨R'.hs, by rw [outs_length eo]; exact R.len, fun i j p xs ys e1 e2 => ?_, fun q hq z => ?_, fun i x g => ?_, fun i p xs g => ?_⟩, E.trans (same_imm_sub fun a z => ?_), fun j p ys g => ?_, sm1⟩
  · rcases outs_at eo e1 with ⟨_, x, g2⟩ | ⟨p1, xs1, ys1, g1, _, g3⟩
    · cases g2
    · rcases outs_at eo e2 with ⟨_, x, g2⟩ | ⟨p2, xs2, ys2, g4, _, g6⟩
      · cases g2
      · cases g3; cases g6; exact R.inj i j p _ _ g1 g4
  · exact R'.dj q (se q hq) z
  · rcases outs_at eo g with ⟨g1, _⟩ | ⟨p1, xs1, ys1, g1, _, g3⟩
    · obtain ⟨v, e1, r⟩ := R.dat i x g1
      exact ⟨v, e1, Rp.mono sm2 _ _ r⟩
    · cases g3
  · rcases outs_at eo g with ⟨_, x, g2⟩ | ⟨p1, xs1, ys1, g1, g2, g3⟩
    · cases g2
    · cases g3
      obtain ⟨_, ys, e2, r⟩ := R'.lst i p xs g2
      exact ⟨(R.lst i p _ g1).1, ys, e2, RpAll.mono sm1 _ _ r⟩
  · rcases List.mem_append.mp z with z | z
    · exact List.mem_append_left _ z
    · exact List.mem_append_right _ (se a z)
  · rcases outs_at eo g with ⟨_, x, g2⟩ | ⟨p2, xs2, ys2, g1, _, g3⟩
    · cases g2
    · cases g3; exact ⟨_, g1⟩
/-- THE RULE for a def -/
theorem ok_def {x qual : Str} {params : Arguments} {body : List Stmt} {scope : Scope} {f : Addr} {fd : FuncData} {N ps : List Str} {k : Nat} {F : WF} {ws : WS} (FD : FunD K x qual params body scope [] [] f fd) (S : FnScope N ps scope)
    (hbody : ∀ (cdv : Value) (A : Around) (outer : List Env) (s : Shared) (H : Hp) (E : XK), Room k (A.deeper (envOfC qual scope s.heap.objs.size f cdv)) → DSs (CxD P w K mg base N qual scope f cdv A outer s H E) body ws)
    (hF : ∀ env W, env.length = ps.length → F env W → ws (ends env W) (env ++ nones (N.length - ps.length))) : FnOk P w K mg base CX0 (k + 1) f fd ps (spD K ps.length F) := by
  refine FD.ok S (fun vs H Q E h => h.1) (fun cdv A outer s H vs Q E hr h => ⟨_, PSs.nox (hbody cdv A outer s H E hr), ?_⟩)
  obtain ⟨hl, h, env, W, R, hw, kk⟩ := h
  have el : env.length = ps.length := by rw [← R.len, List.length_map, hl]
  have R0 : Rel K h (L2.start N vs) H (env ++ nones (N.length - ps.length)) := by rw [← hl]; exact rel_start R
  have fin : ∀ v σ' H' (e : Sls) x, Rel K h σ' H' e → Rp K (imm H' (h ++ own e)) v x → Ext H (env ++ nones (N.length - ps.length)) H' e → (∃ out, outs env e = some out ∧ W x out) → Q v H' := fun v σ' H' e x R' r' E' ⟨out, eo, wo⟩ => by
    have E2 : Same (imm H (own env)) (imm H' (own e)) := by
      have := E'
      unfold Ext at this
      rw [own_app] at this
      exact this
    obtain ⟨Ro, Eo, po, sm⟩ := rel_end (hx := []) R R' E2 eo
    exact kk v H' out x Ro (Rp.mono sm _ _ r') Eo po wo
  refine ⟨h, _, ends env W, R0, hF env W el hw, ⟨fun σ' H' env' R' E' w' => fin .non σ' H' env' .none R' .non E' w', fun v σ' H' env' x R' r' E' w' => fin v σ' H' env' x R' r' E' w', fun _ _ _ _ _ z => z.elim, fun _ _ _ _ _ z => z.elim, fun p ys σ' H' e xs np R' hp r' E' w' => ?_⟩⟩
  have sm : Same (imm H' (p :: h ++ own e)) (imm H' (h ++ own e)) := same_imm_sub fun a z => List.mem_cons_of_mem _ z
  have po : p ∉ h ++ own e := fun z => (List.mem_append.mp z).elim np fun z => R'.dj p z List.mem_cons_self
  exact fin (.ref p) σ' H' e (.list xs) R'.unhide (.lst (SqL.of (imm_mk po hp)) (RpAll.mono sm _ _ r')) (Same.trans E' (same_imm_sub fun a z => List.mem_cons_of_mem _ z)) w'
/-- .. that hands back a new list -/
theorem ok_defN {x qual : Str} {params : Arguments} {body : List Stmt} {scope : Scope} {f : Addr} {fd : FuncData} {N ps : List Str} {k : Nat} {F : WFN} {ws : WS} (FD : FunD K x qual params body scope [] [] f fd) (S : FnScope N ps scope)
    (hbody : ∀ (cdv : Value) (A : Around) (outer : List Env) (s : Shared) (H : Hp) (E : XK), Room k (A.deeper (envOfC qual scope s.heap.objs.size f cdv)) → DSs (CxD P w K mg base N qual scope f cdv A outer s H E) body ws)
    (hF : ∀ env W, env.length = ps.length → F env W → ws (endsN env W) (env ++ nones (N.length - ps.length))) : FnOk P w K mg base CX0 (k + 1) f fd ps (spN K ps.length F) := by
  refine FD.ok S (fun vs H Q E h => h.1) (fun cdv A outer s H vs Q E hr h => ⟨_, PSs.nox (hbody cdv A outer s H E hr), ?_⟩)
  obtain ⟨hl, h, env, W, R, hw, kk⟩ := h
  have el : env.length = ps.length := by rw [← R.len, List.length_map, hl]
  have R0 : Rel K h (L2.start N vs) H (env ++ nones (N.length - ps.length)) := by rw [← hl]; exact rel_start R
  refine ⟨h, _, endsN env W, R0, hF env W el hw, ⟨fun _ _ _ _ _ z => z.elim, fun _ _ _ _ _ _ _ _ z => z.elim, fun _ _ _ _ _ z => z.elim, fun _ _ _ _ _ z => z.elim, fun p ys σ' H' e xs np R' hp r' E' ⟨out, eo, wo⟩ => ?_⟩⟩
  have E2 : Same (imm H (own env)) (imm H' (p :: own e)) := by
    have := E'
    rw [own_app] at this
    exact this
  obtain ⟨Ro, Eo, po, sm⟩ := rel_end (hx := [p]) R R' E2 eo
  exact kk p ys H' out xs np Ro hp (RpAll.mono sm _ _ r') Eo po wo
end
/-! ### a call -/
def slotsOf : List Ar → List Nat
  | [] => []
  | .sl i :: r => i :: slotsOf r
  | .d _ :: r => slotsOf r
def mkArgs (env : Sls) : List Ar → Sls
  | [] => []
  | .d x :: r => some (.d x) :: mkArgs env r
  | .sl i :: r => env.at i :: mkArgs env r
def putBack : Sls → List Ar → Sls → Sls
  | env, .d _ :: r, _ :: o => putBack env r o
  | env, .sl i :: r, y :: o => putBack (env.put i y) r o
  | env, _, _ => env
theorem putBack_length : ∀ (as : List Ar) (env out : Sls), (putBack env as out).length = env.length
  | [], _, _ => by unfold putBack; rfl
  | .d _ :: r, env, [] => by unfold putBack; rfl
  | .sl _ :: r, env, [] => by unfold putBack; rfl
  | .d _ :: r, env, y :: o => by unfold putBack; exact putBack_length r env o
  | .sl i :: r, env, y :: o => by unfold putBack; rw [putBack_length r _ o, Sls.put_length]
theorem putBack_out : ∀ (as : List Ar) (env out : Sls) (i : Nat), i ∉ slotsOf as → (putBack env as out).at i = env.at i
  | [], _, _, _, _ => by unfold putBack; rfl
  | .d _ :: r, env, [], _, _ => by unfold putBack; rfl
  | .sl _ :: r, env, [], _, _ => by unfold putBack; rfl
  | .d _ :: r, env, y :: o, i, h => by unfold putBack; exact putBack_out r env o i h
  | .sl j :: r, env, y :: o, i, h => by
    unfold putBack
    rw [putBack_out r _ o i (fun z => h (List.mem_cons_of_mem _ z)), Sls.at_put_ne _ _ _ _ (fun z => h (by rw [← z]; exact List.mem_cons_self))]
theorem putBack_in : ∀ (as : List Ar) (env out : Sls) (i j : Nat), (slotsOf as).Nodup → as.length = out.length → as[j]? = some (.sl i) → i < env.length → (putBack env as out).at i = out.at j
  | [], _, _, _, _, _, _, h, _ => by simp at h
  | .d _ :: r, env, [], _, _, _, l, _, _ => by simp at l
  | .sl _ :: r, env, [], _, _, _, l, _, _ => by simp at l
  | .d _ :: r, env, y :: o, i, 0, _, _, h, _ => by simp at h
  | .d _ :: r, env, y :: o, i, j + 1, nd, l, h, lt => by
    unfold putBack
    exact putBack_in r env o i j nd (by simpa using l) (by simpa using h) lt
  | .sl k :: r, env, y :: o, i, 0, nd, l, h, lt => by
    unfold putBack
    have e : k = i := by simpa using h
    subst e
    rw [putBack_out r _ o k (List.nodup_cons.mp nd).1, Sls.at_put_same _ _ _ lt]
    rfl
  | .sl k :: r, env, y :: o, i, j + 1, nd, l, h, lt => by
    unfold putBack
    exact putBack_in r _ o i j (List.nodup_cons.mp nd).2 (by simpa using l) (by simpa using h) (by rw [Sls.put_length]; exact lt)
theorem slots_mem : ∀ {as : List Ar} {i : Nat}, i ∈ slotsOf as → ∃ j : Nat, as[j]? = some (Ar.sl i)
  | .d _ :: r, i, h => by
    obtain ⟨j, e⟩ := slots_mem (as := r) h
    exact ⟨j + 1, by simpa using e⟩
  | .sl k :: r, i, h => by
    rcases List.mem_cons.mp h with e | e
    · exact ⟨0, by rw [e]; rfl⟩
    · obtain ⟨j, e⟩ := slots_mem (as := r) e
      exact ⟨j + 1, by simpa using e⟩
theorem slots_at : ∀ {as : List Ar} {i j : Nat}, as[j]? = some (Ar.sl i) → i ∈ slotsOf as
  | [], _, _, h => by simp at h
  | .d _ :: r, i, 0, h => by simp at h
  | .d _ :: r, i, j + 1, h => slots_at (as := r) (j := j) (by simpa using h)
  | .sl k :: r, i, 0, h => by
    have e : k = i := by simpa using h
    rw [e]; exact List.mem_cons_self
  | .sl k :: r, i, j + 1, h => List.mem_cons_of_mem _ (slots_at (as := r) (j := j) (by simpa using h))
theorem slots_inj : ∀ {as : List Ar} {i j k : Nat}, (slotsOf as).Nodup → as[j]? = some (.sl i) → as[k]? = some (.sl i) → j = k
  | [], _, _, _, _, h, _ => by simp at h
  | .d _ :: r, i, 0, _, _, h, _ => by simp at h
  | .d _ :: r, i, j + 1, 0, _, _, h => by simp at h
  | .d _ :: r, i, j + 1, k + 1, nd, h, g => congrArg (· + 1) (slots_inj (as := r) (i := i) (j := j) (k := k) nd (by simpa using h) (by simpa using g))
  | .sl a :: r, i, 0, 0, _, _, _ => rfl
  | .sl a :: r, i, 0, k + 1, nd, h, g => by
    have e : a = i := by simpa using h
    exact absurd (slots_at (as := r) (j := k) (by simpa using g)) (by rw [← e]; exact (List.nodup_cons.mp nd).1)
  | .sl a :: r, i, j + 1, 0, nd, h, g => by
    have e : a = i := by simpa using g
    exact absurd (slots_at (as := r) (j := j) (by simpa using h)) (by rw [← e]; exact (List.nodup_cons.mp nd).1)
  | .sl a :: r, i, j + 1, k + 1, nd, h, g => congrArg (· + 1) (slots_inj (as := r) (i := i) (j := j) (k := k) (List.nodup_cons.mp nd).2 (by simpa using h) (by simpa using g))
theorem mkArgs_length (env : Sls) : ∀ as : List Ar, (mkArgs env as).length = as.length
  | [] => rfl
  | .d _ :: r => by show (mkArgs env r).length + 1 = _; rw [mkArgs_length env r]; rfl
  | .sl _ :: r => by show (mkArgs env r).length + 1 = _; rw [mkArgs_length env r]; rfl
theorem mkArgs_at {env : Sls} : ∀ {as : List Ar} {j : Nat} {u : Sl}, (mkArgs env as).at j = some u → (∃ x, as[j]? = some (Ar.d x) ∧ u = .d x) ∨ ∃ i, as[j]? = some (Ar.sl i) ∧ env.at i = some u
  | [], _, _, h => by cases h
  | .d x :: r, 0, u, h => by cases h; exact .inl ⟨x, rfl, rfl⟩
  | .d x :: r, j + 1, u, h => by
    rcases mkArgs_at (as := r) (j := j) h with ⟨x, e, q⟩ | ⟨i, e, q⟩
    · exact .inl ⟨x, by simpa using e, q⟩
    · exact .inr ⟨i, by simpa using e, q⟩
  | .sl i :: r, 0, u, h => .inr ⟨i, rfl, h⟩
  | .sl i :: r, j + 1, u, h => by
    rcases mkArgs_at (as := r) (j := j) h with ⟨x, e, q⟩ | ⟨i, e, q⟩
    · exact .inl ⟨x, by simpa using e, q⟩
    · exact .inr ⟨i, by simpa using e, q⟩
theorem mkArgs_sl {env : Sls} : ∀ {as : List Ar} {j i : Nat}, as[j]? = some (.sl i) → (mkArgs env as).at j = env.at i
  | [], _, _, h => by simp at h
  | .d x :: r, 0, _, h => by simp at h
  | .d x :: r, j + 1, i, h => mkArgs_sl (as := r) (j := j) (by simpa using h)
  | .sl k :: r, 0, i, h => by
    have e : k = i := by simpa using h
    rw [e]; rfl
  | .sl k :: r, j + 1, i, h => mkArgs_sl (as := r) (j := j) (by simpa using h)
theorem paired_get {α β : Type} {F : α → β → Prop} : ∀ {l : List α} {m : List β} {j : Nat} {b : β}, Paired F l m → m[j]? = some b → ∃ a, l[j]? = some a ∧ F a b
  | _, _, _, _, .nil, h => by simp at h
  | _, _, 0, b, .cons p _, h => by
    have e := Option.some.inj (show some _ = some b by simpa using h)
    subst e
    exact ⟨_, rfl, p⟩
  | _, _, j + 1, b, .cons _ t, h => by
    obtain ⟨a, e, q⟩ := paired_get (j := j) t (by simpa using h)
    exact ⟨a, by simpa using e, q⟩
def wCall (n : Nat) (F : WF) (wA : WA) : WE := fun env Q => wA env fun as env1 => as.length = n ∧ (slotsOf as).Nodup ∧ F (mkArgs env1 as) fun x out => Q x (putBack env1 as out)
def wCallN (n : Nat) (F : WFN) (wA : WA) : WN := fun env Q => wA env fun as env1 => as.length = n ∧ (slotsOf as).Nodup ∧ F (mkArgs env1 as) fun x out => Q x (putBack env1 as out)
/-- what is not handed over -/
def keptOf (env : Sls) (as : List Ar) : List Addr := (own env).filter fun q => decide (q ∉ own (mkArgs env as))
section
variable {K : PySem.W.Frag} {h : List Addr} {σ : L2.St} {H1 : Hp} {env1 : Sls} {as : List Ar} {vs : List V}
theorem mo {j : Nat} {p : Addr} {xs : List D} (e : (mkArgs env1 as).at j = some (.ls p xs)) : ∃ i, as[j]? = some (.sl i) ∧ env1.at i = some (.ls p xs) := by
  rcases mkArgs_at e with ⟨x, _, q⟩ | ⟨i, e1, e2⟩
  · cases q
  · exact ⟨i, e1, e2⟩
theorem om : ∀ q, q ∈ own (mkArgs env1 as) → q ∈ own env1 := fun q hq => by
  obtain ⟨j, xs, e⟩ := own_mem.mp hq
  obtain ⟨i, _, e2⟩ := mo e
  exact own_mem.mpr ⟨i, xs, e2⟩
theorem np1 : ∀ q, q ∈ keptOf env1 as → q ∈ own env1 ∧ q ∉ own (mkArgs env1 as) := fun q hq => ⟨(List.mem_filter.mp hq).1, of_decide_eq_true (List.mem_filter.mp hq).2⟩
theorem np2 : ∀ q, q ∈ own env1 → q ∉ own (mkArgs env1 as) → q ∈ keptOf env1 as := fun q h1 h2 => List.mem_filter.mpr ⟨h1, decide_eq_true h2⟩
theorem sl_val {G : Hp} (r1 : Paired (RpA K σ G) vs as) {j i : Nat} (e : as[j]? = some (.sl i)) : ∃ v, vs[j]? = some v ∧ σ[i]? = some (some v) := by
  obtain ⟨v, e1, r⟩ := paired_get r1 e
  exact ⟨v, e1, r⟩
theorem mp_some {j : Nat} {v : V} (e : vs[j]? = some v) : (vs.map some)[j]? = some (some v) := by rw [List.getElem?_map, e]; rfl
theorem rel_args (R1 : Rel K h σ H1 env1) (r1 : Paired (RpA K σ (imm H1 (h ++ own env1))) vs as) (nd : (slotsOf as).Nodup) : Rel K (h ++ keptOf env1 as) (vs.map some) H1 (mkArgs env1 as) := by
  have lv : vs.length = as.length := paired_len r1
  have sm0 : Same (imm H1 (h ++ own env1)) (imm H1 (h ++ keptOf env1 as ++ own (mkArgs env1 as))) := same_imm_sub fun a z => by
    rcases List.mem_append.mp z with z | z
    · rcases List.mem_append.mp z with z | z
      · exact List.mem_append_left _ z
      · exact List.mem_append_right _ (np1 a z).1
    · exact List.mem_append_right _ (om a z)
  refine ⟨fun q hq => ?_, by rw [List.length_map, mkArgs_length, lv], fun a b p xs ys e1 e2 => ?_, fun q hq z => ?_, fun j x e => ?_, fun j p xs e => ?_⟩
  · rcases List.mem_append.mp hq with z | z
    · exact R1.hs q z
    · obtain ⟨i, xs, e⟩ := own_mem.mp (np1 q z).1
      obtain ⟨_, ys, e2, _⟩ := R1.lst i q xs e
      rw [e2]; exact fun z => nomatch z
  · obtain ⟨i, i1, i2⟩ := mo e1
    obtain ⟨j, j1, j2⟩ := mo e2
    have := R1.inj i j p _ _ i2 j2
    subst this
    exact slots_inj nd i1 j1
  · rcases List.mem_append.mp z with z | z
    · exact R1.dj q (om q hq) z
    · exact (np1 q z).2 hq
  · rcases mkArgs_at e with ⟨y, e1, q⟩ | ⟨i, e1, e2⟩
    · cases q
      obtain ⟨v, e3, r⟩ := paired_get r1 e1
      exact ⟨v, mp_some e3, Rp.mono sm0 _ _ r⟩
    · obtain ⟨v, e3, e4⟩ := sl_val r1 e1
      obtain ⟨u, e5, r⟩ := R1.dat i x e2
      rw [e4] at e5
      cases e5
      exact ⟨v, mp_some e3, Rp.mono sm0 _ _ r⟩
  · obtain ⟨i, e1, e2⟩ := mo e
    obtain ⟨v, e3, e4⟩ := sl_val r1 e1
    obtain ⟨e5, ys, e6, r⟩ := R1.lst i p xs e2
    rw [e4] at e5
    cases e5
    exact ⟨mp_some e3, ys, e6, RpAll.mono sm0 _ _ r⟩
/-- behind a call; hx: a new list's address, or nothing -/
theorem rel_ret {hx : List Addr} {H' : Hp} {out : Sls} (R1 : Rel K h σ H1 env1) (r1 : Paired (RpA K σ (imm H1 (h ++ own env1))) vs as) (nd : (slotsOf as).Nodup)
    (R' : Rel K (hx ++ (h ++ keptOf env1 as)) (vs.map some) H' out) (dx : ∀ q ∈ hx, q ∉ h ++ keptOf env1 as) (E' : Same (imm H1 (own (mkArgs env1 as))) (imm H' (hx ++ own out))) (so : ∀ j p ys, out.at j = some (.ls p ys) → ∃ xs, (mkArgs env1 as).at j = some (.ls p xs)) :
    Rel K (hx ++ h) σ H' (putBack env1 as out) ∧ Same (imm H1 (own env1)) (imm H' (hx ++ own (putBack env1 as out))) ∧ Same (imm H' (hx ++ (h ++ keptOf env1 as) ++ own out)) (imm H' (hx ++ h ++ own (putBack env1 as out))) := by
  have lv : vs.length = as.length := paired_len r1
  have lo : as.length = out.length := by
    have := R'.len
    rw [List.length_map] at this
    omega
  have at_ : ∀ {i u}, (putBack env1 as out).at i = some u → (∃ j, as[j]? = some (.sl i) ∧ out.at j = some u) ∨ (i ∉ slotsOf as ∧ env1.at i = some u) := fun {i u} e => by
    have lt := Sls.at_lt e
    rw [putBack_length] at lt
    by_cases hi : i ∈ slotsOf as
    · obtain ⟨j, ej⟩ := slots_mem hi
      rw [putBack_in as env1 out i j nd lo ej lt] at e
      exact .inl ⟨j, ej, e⟩
    · rw [putBack_out as env1 out i hi] at e
      exact .inr ⟨hi, e⟩
  have sub : ∀ q, q ∈ own (putBack env1 as out) → q ∈ own env1 := fun q hq => by
    obtain ⟨i, xs, e⟩ := own_mem.mp hq
    rcases at_ e with ⟨j, _, e2⟩ | ⟨_, e2⟩
    · obtain ⟨us, e4⟩ := so j q xs e2
      exact om q (own_mem.mpr ⟨j, us, e4⟩)
    · exact own_mem.mpr ⟨i, xs, e2⟩
  have E2 : Same (imm H1 (own env1)) (imm H' (hx ++ own (putBack env1 as out))) := fun a o z => by
    obtain ⟨n, z⟩ := imm_some z
    obtain ⟨m, z⟩ := imm_some (E' a o (imm_mk (fun y => n (om a y)) z))
    refine imm_mk (fun y => ?_) z
    rcases List.mem_append.mp y with y | y
    · exact m (List.mem_append_left _ y)
    · exact n (sub a y)
  have sees2 : Same (imm H1 (h ++ own env1)) (imm H' (hx ++ h ++ own (putBack env1 as out))) := fun a o z => by
    obtain ⟨n, z⟩ := imm_some z
    obtain ⟨m, z⟩ := imm_some (E2 a o (imm_mk (fun y => n (List.mem_append_right _ y)) z))
    refine imm_mk (fun y => ?_) z
    rcases List.mem_append.mp y with y | y
    · rcases List.mem_append.mp y with y | y
      · exact m (List.mem_append_left _ y)
      · exact n (List.mem_append_left _ y)
    · exact m (List.mem_append_right _ y)
  have unpassed : ∀ {i p xs}, i ∉ slotsOf as → env1.at i = some (.ls p xs) → p ∉ own (mkArgs env1 as) := fun {i p xs} hi e y => by
    obtain ⟨j, ys, e3⟩ := own_mem.mp y
    obtain ⟨i2, e4, e5⟩ := mo e3
    have := R1.inj i i2 p _ _ e e5
    subst this
    exact hi (slots_at e4)
  have sm1 : Same (imm H' (hx ++ (h ++ keptOf env1 as) ++ own out)) (imm H' (hx ++ h ++ own (putBack env1 as out))) := same_imm_sub fun a z => by
    rcases List.mem_append.mp z with z | z
    · rcases List.mem_append.mp z with z | z
      · exact List.mem_append_left _ (List.mem_append_left _ z)
      · exact List.mem_append_left _ (List.mem_append_right _ (List.mem_append_left _ z))
    · obtain ⟨i, xs, e⟩ := own_mem.mp z
      rcases at_ e with ⟨j, _, e2⟩ | ⟨hi, e2⟩
      · exact List.mem_append_right _ (own_mem.mpr ⟨j, xs, e2⟩)
      · exact List.mem_append_left _ (List.mem_append_right _ (List.mem_append_right _ (np2 a (own_mem.mpr ⟨i, xs, e2⟩) (unpassed hi e2))))
  refine ⟨⟨fun q hq => R'.hs q ((List.mem_append.mp hq).elim (fun z => List.mem_append_left _ z) fun z => List.mem_append_right _ (List.mem_append_left _ z)), by rw [putBack_length]; exact R1.len, fun a b p xs ys e1 e2 => ?_, fun q hq z => ?_, fun i x e => ?_, fun i p xs e => ?_⟩, E2, sm1⟩
  · have passed : ∀ {i j : Nat} {zs}, as[j]? = some (Ar.sl i) → out.at j = some (.ls p zs) → ∃ us, env1.at i = some (.ls p us) := fun {i j zs} e e3 => by
      obtain ⟨us, e4⟩ := so j p zs e3
      rw [mkArgs_sl e] at e4
      exact ⟨us, e4⟩
    rcases at_ e1 with ⟨j1, a1, o1⟩ | ⟨n1, o1⟩
    · obtain ⟨us, q1⟩ := passed a1 o1
      rcases at_ e2 with ⟨j2, a2, o2⟩ | ⟨n2, o2⟩
      · obtain ⟨zs, q2⟩ := passed a2 o2
        exact R1.inj a b p _ _ q1 q2
      · exact R1.inj a b p _ _ q1 o2
    · rcases at_ e2 with ⟨j2, a2, o2⟩ | ⟨n2, o2⟩
      · obtain ⟨zs, q2⟩ := passed a2 o2
        exact R1.inj a b p _ _ o1 q2
      · exact R1.inj a b p _ _ o1 o2
  · rcases List.mem_append.mp z with z | z
    · have qo := sub q hq
      by_cases qm : q ∈ own (mkArgs env1 as)
      · obtain ⟨i, xs, e⟩ := own_mem.mp hq
        rcases at_ e with ⟨j, _, e2⟩ | ⟨hi, e2⟩
        · exact R'.dj q (own_mem.mpr ⟨j, xs, e2⟩) (List.mem_append_left _ z)
        · exact unpassed hi e2 qm
      · exact dx q z (List.mem_append_right _ (np2 q qo qm))
    · exact R1.dj q (sub q hq) z
  · rcases at_ e with ⟨j, a1, o1⟩ | ⟨_, o1⟩
    · obtain ⟨v1, e3, e4⟩ := sl_val r1 a1
      obtain ⟨u, e5, r⟩ := R'.dat j x o1
      rw [mp_some e3] at e5
      cases e5
      exact ⟨v1, e4, Rp.mono sm1 _ _ r⟩
    · obtain ⟨v1, e3, r⟩ := R1.dat i x o1
      exact ⟨v1, e3, Rp.mono sees2 _ _ r⟩
  · rcases at_ e with ⟨j, a1, o1⟩ | ⟨ni, o1⟩
    · obtain ⟨v1, e3, e4⟩ := sl_val r1 a1
      obtain ⟨e5, ys, e6, r⟩ := R'.lst j p xs o1
      rw [mp_some e3] at e5
      cases e5
      exact ⟨e4, ys, e6, RpAll.mono sm1 _ _ r⟩
    · obtain ⟨e3, ys, e4, r⟩ := R1.lst i p xs o1
      exact ⟨e3, ys, (imm_some (E' p _ (imm_mk (unpassed ni o1) e4))).2, RpAll.mono sees2 _ _ r⟩
end
theorem lift_call {K : PySem.W.Frag} {n : Nat} {F : WF} {wA : WA} {E : XK} (σ : L2.St) (H : Hp) (Q : VK) (q : lift K (wCall n F wA) σ H Q) : tCall (spD K n F) [] E (liftA K wA) σ H Q := by
  obtain ⟨h, env, W, R, w, k⟩ := q
  refine ⟨h, env, _, R, w, fun vs H1 env1 as R1 r1 E1 w1 => ?_⟩
  obtain ⟨ln, nd, w1⟩ := w1
  rw [List.append_nil]
  refine ⟨(paired_len r1).trans ln, h ++ keptOf env1 as, mkArgs env1 as, _, rel_args R1 r1 nd, w1, fun v H' out d R' r' E' so w' => ?_⟩
  obtain ⟨R2, E2, sm⟩ := rel_ret (hx := []) R1 r1 nd R' (fun _ z => by cases z) E' so
  exact k v H' _ d R2 (Rp.mono sm _ _ r') (Ext.trans E1 E2) w'
theorem lift_callN {K : PySem.W.Frag} {n : Nat} {F : WFN} {wA : WA} {E : XK} (σ : L2.St) (H : Hp) (Q : VK) (q : liftN K (wCallN n F wA) σ H Q) : tCall (spN K n F) [] E (liftA K wA) σ H Q := by
  obtain ⟨h, env, W, R, w, k⟩ := q
  refine ⟨h, env, _, R, w, fun vs H1 env1 as R1 r1 E1 w1 => ?_⟩
  obtain ⟨ln, nd, w1⟩ := w1
  rw [List.append_nil]
  refine ⟨(paired_len r1).trans ln, h ++ keptOf env1 as, mkArgs env1 as, _, rel_args R1 r1 nd, w1, fun p ys H' out xs np R' hp r' E' so w' => ?_⟩
  obtain ⟨R2, E2, sm⟩ := rel_ret (hx := [p]) R1 r1 nd R' (fun q hq => by rw [List.mem_singleton.mp hq]; exact np) E' so
  exact k p ys H' _ xs (fun z => np (List.mem_append_left _ z)) R2 hp (RpAll.mono sm _ _ r') (Same.trans E1 E2) w'
/-- f(e), e a new list that f changes -/
def wCall1 (F : WF) (wn : WN) : WE := fun env Q => wn env fun xs env1 => ∀ p : Addr, F [some (.ls p xs)] fun x _ => Q x env1
theorem lift_call1 {K : PySem.W.Frag} {F : WF} {wn : WN} {E : XK} (σ : L2.St) (H : Hp) (Q : VK) (q : lift K (wCall1 F wn) σ H Q) : tCall (spD K 1 F) [] E (tCons (liftN K wn) tNil) σ H Q := by
  obtain ⟨h, env, W, R, w, k⟩ := q
  refine ⟨h, env, _, R, w, fun p ys H1 env1 xs np R1 hp r1 E1 w1 => ?_⟩
  have po : p ∉ own env1 := fun z => R1.dj p z List.mem_cons_self
  show spD K 1 F ([V.ref p] ++ []) H1 Q E
  have Rc : Rel K (h ++ own env1) ([V.ref p].map some) H1 [some (.ls p xs)] := by
    refine ⟨fun q hq => ?_, rfl, fun i j q zs us e1 e2 => ?_, fun q hq z => ?_, fun i x e => ?_, fun i q zs e => ?_⟩
    · rcases List.mem_append.mp hq with z | z
      · exact R1.hs q (List.mem_cons_of_mem _ z)
      · obtain ⟨i, zs, e⟩ := own_mem.mp z
        obtain ⟨_, us, e2, _⟩ := R1.lst i q zs e
        rw [e2]; exact fun z => nomatch z
    · cases i with
      | zero => cases j with
        | zero => rfl
        | succ j => cases e2
      | succ i => cases e1
    · have e : q = p := List.mem_singleton.mp hq
      rw [e] at z
      exact (List.mem_append.mp z).elim np po
    · cases i with
      | zero => cases e
      | succ i => cases e
    · cases i with
      | zero =>
        cases e
        refine ⟨rfl, ys, hp, RpAll.mono (same_imm_sub fun a z => ?_) _ _ r1⟩
        rcases List.mem_append.mp z with z | z
        · rcases List.mem_append.mp z with z | z
          · exact List.mem_append_left _ (List.mem_cons_of_mem _ z)
          · exact List.mem_append_right _ z
        · rw [List.mem_singleton.mp z]; exact List.mem_append_left _ List.mem_cons_self
      | succ i => cases e
  refine ⟨rfl, h ++ own env1, [some (.ls p xs)], _, Rc, w1 p, fun v H' out d R' r' E' so w' => ?_⟩
  have oo : ∀ q, q ∈ own out → q = p := fun q hq => by
    obtain ⟨j, zs, e⟩ := own_mem.mp hq
    obtain ⟨us, e2⟩ := so j q zs e
    exact List.mem_singleton.mp (own_mem.mpr ⟨j, us, e2⟩)
  have E2 : Same (imm H1 (p :: own env1)) (imm H' (own env1)) := fun a o z => by
    obtain ⟨n, z⟩ := imm_some z
    obtain ⟨_, z⟩ := imm_some (E' a o (imm_mk (fun y => n (by rw [List.mem_singleton.mp y]; exact List.mem_cons_self)) z))
    exact imm_mk (fun y => n (List.mem_cons_of_mem _ y)) z
  have sees : Same (imm H1 (p :: h ++ own env1)) (imm H' (h ++ own env1)) := fun a o z => by
    obtain ⟨n, z⟩ := imm_some z
    obtain ⟨m, z⟩ := imm_some (E2 a o (imm_mk (fun y => (List.mem_cons.mp y).elim (fun y => n (by rw [y]; exact List.mem_append_left _ List.mem_cons_self)) fun y => n (List.mem_append_right _ y)) z))
    exact imm_mk (fun y => n ((List.mem_append.mp y).elim (fun y => List.mem_append_left _ (List.mem_cons_of_mem _ y)) fun y => List.mem_append_right _ y)) z
  have R2 : Rel K h σ H' env1 := by
    refine ⟨fun q hq => R'.hs q (List.mem_append_left _ hq), R1.len, R1.inj, fun q hq z => R1.dj q hq (List.mem_cons_of_mem _ z), fun i x e => ?_, fun i q zs e => ?_⟩
    · obtain ⟨v, e1, r⟩ := R1.dat i x e
      exact ⟨v, e1, Rp.mono sees _ _ r⟩
    · obtain ⟨e1, us, e2, r⟩ := R1.lst i q zs e
      have qn : q ≠ p := fun z => po (own_mem.mpr ⟨i, zs, by rw [← z]; exact e⟩)
      exact ⟨e1, us, (imm_some (E' q _ (imm_mk (fun y => qn (List.mem_singleton.mp y)) e2))).2, RpAll.mono sees _ _ r⟩
  exact k v H' env1 d R2 (Rp.mono (same_imm_sub fun a z => List.mem_append_left _ z) _ _ r') (Same.trans E1 E2) w'
/-- a def of the program as it stands behind the top, and what it promises -/
structure DefAs (P : Program) (w : World) (K : PySem.W.Frag) (mg : Str → Option Value) (base : Heap) (k : Nat) (x : Str) (sp : Sp) : Prop where
  ex : ∃ (f : Addr) (fd : FuncData) (ps : List Str), FnOk P w K mg base CX0 k f fd ps sp ∧ Binds K fd ps [] ∧ mg x = some (.ref f) ∧ PySem.W.keepIn K (.ref f) = true
abbrev DefOk (P : Program) (w : World) (K : PySem.W.Frag) (mg : Str → Option Value) (base : Heap) (k : Nat) (x : Str) (n : Nat) (F : WF) : Prop := DefAs P w K mg base k x (spD K n F)
abbrev DefOkN (P : Program) (w : World) (K : PySem.W.Frag) (mg : Str → Option Value) (base : Heap) (k : Nat) (x : Str) (n : Nat) (F : WFN) : Prop := DefAs P w K mg base k x (spN K n F)
theorem DefAs.mono {P : Program} {w : World} {K : PySem.W.Frag} {mg : Str → Option Value} {base : Heap} {j k : Nat} {x : Str} {sp : Sp} (G : DefAs P w K mg base j x sp) (h : j ≤ k) : DefAs P w K mg base k x sp := by
  obtain ⟨f, fd, ps, F, r⟩ := G.ex
  exact ⟨f, fd, ps, F.mono h, r⟩
section
variable {X : Cx} {e : Expr} {es : List Expr} {x : Str} {p pos : Pos} {k n : Nat} {F : WF} {FN : WFN} {wA : WA} {wn : WN}
theorem de_call (G : DefOk X.prog X.w X.K X.mg X.base k x n F) (hr : Room k X.A) (ha : DA X (e :: es) wA) (hg : Gl X x := by rfl) (hdb : (x == ("__debug__" : Str)) = false := by decide) (he : starEach (e :: es) X.env = (false, eval e X.env) :: starEach es X.env := by rfl) (hpl : (backTo pos (starEach es X.env)).any (·.1) = false := by rfl) :
    DE X (.Call (.Name x p) (e :: es) [] pos) (wCall n F wA) := by
  obtain ⟨f, fd, ps, F, B, hm, hk⟩ := G.ex
  exact PE.imp (pe_call F hr hg hm hk B .nil pass0 ha hdb he hpl) fun σ H Q q => lift_call σ H Q q
theorem dn_call (G : DefOkN X.prog X.w X.K X.mg X.base k x n FN) (hr : Room k X.A) (ha : DA X (e :: es) wA) (hg : Gl X x := by rfl) (hdb : (x == ("__debug__" : Str)) = false := by decide) (he : starEach (e :: es) X.env = (false, eval e X.env) :: starEach es X.env := by rfl) (hpl : (backTo pos (starEach es X.env)).any (·.1) = false := by rfl) :
    DN X (.Call (.Name x p) (e :: es) [] pos) (wCallN n FN wA) := by
  obtain ⟨f, fd, ps, F, B, hm, hk⟩ := G.ex
  exact PE.imp (pe_call F hr hg hm hk B .nil pass0 ha hdb he hpl) fun σ H Q q => lift_callN σ H Q q
theorem de_call1 (G : DefOk X.prog X.w X.K X.mg X.base k x 1 F) (hr : Room k X.A) (ha : DN X e wn) (hg : Gl X x := by rfl) (hdb : (x == ("__debug__" : Str)) = false := by decide) (he : starEach (e :: []) X.env = (false, eval e X.env) :: starEach [] X.env := by rfl) (hpl : (backTo pos (starEach [] X.env)).any (·.1) = false := by rfl) :
    DE X (.Call (.Name x p) [e] [] pos) (wCall1 F wn) := by
  obtain ⟨f, fd, ps, F, B, hm, hk⟩ := G.ex
  exact PE.imp (pe_call F hr hg hm hk B .nil pass0 (pa_cons ha pa_nil he) hdb he hpl) fun σ H Q q => lift_call1 σ H Q q
end
end Dl

namespace Dl
open PySem PySem.Spec PyProof.Rows L2
/-! ### operators over data -/
def fI (C : Int → Int → Prop) (g : Int → Int → Int) : D → D → (D → Prop) → Prop
  | .int i, .int j, W => C i j ∧ W (.int (g i j))
  | _, _, _ => False
def fB (p : Int → Int → Bool) : D → D → (D → Prop) → Prop
  | .int i, .int j, W => W (.bool (p i j))
  | _, _, _ => False
section
variable {K : PySem.W.Frag}
theorem dop_i {C : Int → Int → Prop} {g : Int → Int → Int} : Dop K (rI C fun i j => .int (g i j)) (fI C g) := fun h σ H env v u x y W Q R rx ry w k => by
  cases rx with
  | int i =>
    cases ry with
    | int j => exact ⟨i, j, rfl, rfl, w.1, k _ H _ R (.int _) (Ext.refl _ _) w.2⟩
    | _ => exact w.elim
  | _ => exact w.elim
theorem dop_i0 {g : Int → Int → Int} : Dop K (rI0 fun i j => .int (g i j)) (fI (fun _ _ => True) g) := fun h σ H env v u x y W Q R rx ry w k => by
  cases rx with
  | int i =>
    cases ry with
    | int j => exact ⟨i, j, rfl, rfl, k _ H _ R (.int _) (Ext.refl _ _) w.2⟩
    | _ => exact w.elim
  | _ => exact w.elim
theorem dop_b {p : Int → Int → Bool} : Dop K (rI0 fun i j => .bl (p i j)) (fB p) := fun h σ H env v u x y W Q R rx ry w k => by
  cases rx with
  | int i =>
    cases ry with
    | int j => exact ⟨i, j, rfl, rfl, k _ H _ R (.bl _) (Ext.refl _ _) w⟩
    | _ => exact w.elim
  | _ => exact w.elim
/-- + of ints, of texts, of tuples -/
def fAdd : D → D → (D → Prop) → Prop
  | .int i, .int j, W => W (.int (i + j))
  | .str i, .str j, W => i.length + j.length ≤ sizeLine ∧ W (.str (i ++ j))
  | .tuple xs, .tuple ys, W => xs.length + ys.length ≤ sizeLine ∧ W (.tuple (xs ++ ys))
  | _, _, _ => False
def rAddD (K : PySem.W.Frag) : R2 := fun x y H Q => (∃ i j, x = .int i ∧ y = .int j ∧ Q (.int (i + j)) H) ∨ (∃ i j, x = .str i ∧ y = .str j ∧ i.length + j.length ≤ sizeLine ∧ Q (.str (i ++ j)) H) ∨ rCatA K x y H Q
theorem op_addD {X : Cx} : OpR X (binaryOp .Add) (rAddD X.K) := OpR.or op_add (OpR.or op_add_str op_catA)
theorem dop_add : Dop K (rAddD K) fAdd := fun h σ H env v u x y W Q R rx ry w k => by
  cases rx with
  | int i =>
    cases ry with
    | int j => exact .inl ⟨i, j, rfl, rfl, k _ H _ R (.int _) (Ext.refl _ _) w⟩
    | _ => exact w.elim
  | str i =>
    cases ry with
    | str j => exact .inr (.inl ⟨i, j, rfl, rfl, w.1, k _ H _ R (.str _) (Ext.refl _ _) w.2⟩)
    | _ => exact w.elim
  | @tup a ys ds sq ra =>
    cases ry with
    | @tup b zs es sq2 rb =>
      refine .inr (.inr ⟨a, b, ys, zs, rfl, rfl, SqT.up sq, SqT.up sq2, by rw [ra.length, rb.length]; exact w.1, fun e => ?_, fun _ e => ?_, fun _ _ p np => ?_⟩)
      · subst e
        cases ra
        exact k _ H _ R (.tup sq2 rb) (Ext.refl _ _) w.2
      · subst e
        cases rb
        refine k _ H _ R (.tup sq ?_) (Ext.refl _ _) w.2
        rw [List.append_nil]
        exact ra
      · obtain ⟨R2, r2, E2⟩ := mk_tup R np (RpAll.append ra rb)
        exact k _ _ _ R2 r2 E2 w.2
    | _ => exact w.elim
  | _ => exact w.elim
/-- ==, != of data -/
def fEq : D → D → (D → Prop) → Prop := fun x y W => SeqAt.shaped x = true ∧ SeqAt.shaped y = true ∧ W (.bool (PyData.eqv x y))
def fNe : D → D → (D → Prop) → Prop := fun x y W => SeqAt.shaped x = true ∧ SeqAt.shaped y = true ∧ W (.bool (!PyData.eqv x y))
theorem Rp.up {H : Hp} {ps : List Addr} {v : V} {x : D} (r : Rp K (imm H ps) v x) : Rp K H v x := Rp.mono (fun _ _ z => (imm_some z).2) _ _ r
theorem dop_eq : Dop K (rEqD K) fEq := fun h σ H env v u x y W Q R rx ry w k =>
  ⟨x, y, Rp.dp _ _ (Rp.up rx), Rp.dp _ _ (Rp.up ry), w.1, w.2.1, k _ H _ R (.bl _) (Ext.refl _ _) w.2.2⟩
theorem dop_ne : Dop K (rNeD K) fNe := fun h σ H env v u x y W Q R rx ry w k =>
  ⟨x, y, Rp.dp _ _ (Rp.up rx), Rp.dp _ _ (Rp.up ry), w.1, w.2.1, k _ H _ R (.bl _) (Ext.refl _ _) w.2.2⟩
/-- is None, is not None -/
def isNon : D → Bool
  | .none => true
  | _ => false
theorem isNon_rp {G : Hp} {v : V} {x : D} (r : Rp K G v x) : decide (v = V.non) = isNon x := by
  cases r <;> first | rfl | exact decide_eq_false (fun z => nomatch z)
def fIs : D → D → (D → Prop) → Prop := fun x y W => y = .none ∧ W (.bool (isNon x))
def fIsN : D → D → (D → Prop) → Prop := fun x y W => y = .none ∧ W (.bool (!isNon x))
theorem dop_is : Dop K (fun x y H Q => y = .non ∧ Q (.bl (decide (x = .non))) H) fIs := fun h σ H env v u x y W Q R rx ry w k => by
  obtain ⟨e, w⟩ := w
  subst e
  cases ry
  exact ⟨rfl, k _ H _ R (by rw [isNon_rp rx]; exact .bl _) (Ext.refl _ _) w⟩
theorem dop_isN : Dop K (fun x y H Q => y = .non ∧ Q (.bl (!decide (x = .non))) H) fIsN := fun h σ H env v u x y W Q R rx ry w k => by
  obtain ⟨e, w⟩ := w
  subst e
  cases ry
  exact ⟨rfl, k _ H _ R (by rw [isNon_rp rx]; exact .bl _) (Ext.refl _ _) w⟩
end
/-- what * asks: one factor small, or both of less than a million bits together -/
def MulOk (i j : Int) : Prop := CMul i j ∨ CMulW i j
theorem MulOk.ok {i j : Int} (h : MulOk i j) : IntMulOk i j := h.elim CMul.ok CMulW.ok
theorem op_mulD {X : Cx} : OpR X (binaryOp .Mult) (rI MulOk fun i j => .int (i * j)) := opI fun _ _ _ _ _ _ _ hc q => mul_int q hc.ok
theorem iop_mulD {X : Cx} : OpR X (inplaceOp .Mult) (rI MulOk fun i j => .int (i * j)) := opI fun _ _ _ _ _ _ _ hc q => imul_int q hc.ok
def PowOk (i j : Int) : Prop := 0 ≤ j ∧ (Builtin.Int.intBits i : Int) * j ≤ 2 ^ 27
theorem op_powD {X : Cx} : OpR X (binaryOp .Pow) (rI PowOk fun i j => .int (i ^ j.toNat)) := opI fun _ _ _ _ _ _ _ hc q => pow_int hc.1 hc.2 q
/-- a % b, b above 0 -/
def ModOk (_ j : Int) : Prop := 0 < j
section
variable {X : Cx} {a b c e : Expr} {es : List Expr} {wa wb wc w : WE} {pos : Pos} {wA : WA}
abbrev wAdd := wOp fAdd
abbrev wSub := wOp (fI (fun _ _ => True) fun i j => i - j)
abbrev wMul := wOp (fI MulOk fun i j => i * j)
abbrev wDiv := wOp (fI CDivW fun i j => i / j)
abbrev wMod := wOp (fI ModOk fun i j => i % j)
abbrev wPow := wOp (fI PowOk fun i j => i ^ j.toNat)
abbrev fLt := fB fun i j => decide (i < j)
abbrev fLe := fB fun i j => decide (i ≤ j)
abbrev fGt := fB fun i j => decide (j < i)
abbrev fGe := fB fun i j => decide (j ≤ i)
theorem de_add (ha : DE X a wa) (hb : DE X b wb) : DE X (.BinOp a .Add b pos) (wAdd wa wb) := de_op op_addD dop_add ha hb
theorem de_sub (ha : DE X a wa) (hb : DE X b wb) : DE X (.BinOp a .Sub b pos) (wSub wa wb) := de_op op_sub dop_i0 ha hb
theorem de_mul (ha : DE X a wa) (hb : DE X b wb) : DE X (.BinOp a .Mult b pos) (wMul wa wb) := de_op op_mulD dop_i ha hb
theorem de_div (ha : DE X a wa) (hb : DE X b wb) : DE X (.BinOp a .FloorDiv b pos) (wDiv wa wb) := de_op op_fdivW dop_i ha hb
theorem de_mod (ha : DE X a wa) (hb : DE X b wb) : DE X (.BinOp a .Mod b pos) (wMod wa wb) := de_op op_mod (dop_i (C := ModOk)) ha hb
theorem de_pow (ha : DE X a wa) (hb : DE X b wb) : DE X (.BinOp a .Pow b pos) (wPow wa wb) := de_op op_powD dop_i ha hb
def wNeg (w : WE) : WE := fun env Q => w env fun x env1 => match x with
  | .int i => Q (.int (-i)) env1
  | _ => False
theorem de_neg (ha : DE X a w) : DE X (.UnaryOp .USub a pos) (wNeg w) := PE.imp (pe_un un_neg ha) fun σ H Q q => by
  obtain ⟨h, env, W, R, w, k⟩ := q
  refine ⟨h, env, _, R, w, fun v H1 env1 x R1 r1 E1 w1 => ?_⟩
  cases r1 with
  | int i => exact ⟨i, rfl, k _ H1 env1 _ R1 (.int _) E1 w1⟩
  | _ => exact w1.elim
theorem de_lt (ha : DE X a wa) (hb : DE X b wb) : DE X (.Compare a [.Lt] [b] pos) (wOp fLt wa wb) := de_cmpR op_lt dop_b ha hb (nomark _)
theorem de_le (ha : DE X a wa) (hb : DE X b wb) : DE X (.Compare a [.LtE] [b] pos) (wOp fLe wa wb) := de_cmpR op_le dop_b ha hb (nomark _)
theorem de_gt (ha : DE X a wa) (hb : DE X b wb) : DE X (.Compare a [.Gt] [b] pos) (wOp fGt wa wb) := de_cmpR op_gt dop_b ha hb (nomark _)
theorem de_ge (ha : DE X a wa) (hb : DE X b wb) : DE X (.Compare a [.GtE] [b] pos) (wOp fGe wa wb) := de_cmpR op_ge dop_b ha hb (nomark _)
theorem de_eq {k : Nat} (hr : Room k X.A) (ha : DE X a wa) (hb : DE X b wb) : DE X (.Compare a [.Eq] [b] pos) (wOp fEq wa wb) := de_cmpR (op_eqD hr.units) dop_eq ha hb (nomark _)
theorem de_ne {k : Nat} (hr : Room k X.A) (ha : DE X a wa) (hb : DE X b wb) : DE X (.Compare a [.NotEq] [b] pos) (wOp fNe wa wb) := de_cmpR (op_neD hr.units) dop_ne ha hb (nomark _)
theorem de_is (ha : DE X a wa) (hb : DE X b wb) : DE X (.Compare a [.Is] [b] pos) (wOp fIs wa wb) := de_cmpR op_isN dop_is ha hb (nomark _)
theorem de_isN (ha : DE X a wa) (hb : DE X b wb) : DE X (.Compare a [.IsNot] [b] pos) (wOp fIsN wa wb) := de_cmpR op_notN dop_isN ha hb (nomark _)
theorem dt_lt (ha : DE X a wa) (hb : DE X b wb) : DT X (.Compare a [.Lt] [b] pos) (wTest (wOp fLt wa wb)) := dt_cmpR op_lt dop_b ha hb (nomark _)
theorem dt_le (ha : DE X a wa) (hb : DE X b wb) : DT X (.Compare a [.LtE] [b] pos) (wTest (wOp fLe wa wb)) := dt_cmpR op_le dop_b ha hb (nomark _)
theorem dt_gt (ha : DE X a wa) (hb : DE X b wb) : DT X (.Compare a [.Gt] [b] pos) (wTest (wOp fGt wa wb)) := dt_cmpR op_gt dop_b ha hb (nomark _)
theorem dt_ge (ha : DE X a wa) (hb : DE X b wb) : DT X (.Compare a [.GtE] [b] pos) (wTest (wOp fGe wa wb)) := dt_cmpR op_ge dop_b ha hb (nomark _)
theorem dt_eq {k : Nat} (hr : Room k X.A) (ha : DE X a wa) (hb : DE X b wb) : DT X (.Compare a [.Eq] [b] pos) (wTest (wOp fEq wa wb)) := dt_cmpR (op_eqD hr.units) dop_eq ha hb (nomark _)
theorem dt_ne {k : Nat} (hr : Room k X.A) (ha : DE X a wa) (hb : DE X b wb) : DT X (.Compare a [.NotEq] [b] pos) (wTest (wOp fNe wa wb)) := dt_cmpR (op_neD hr.units) dop_ne ha hb (nomark _)
theorem dt_is (ha : DE X a wa) (hb : DE X b wb) : DT X (.Compare a [.Is] [b] pos) (wTest (wOp fIs wa wb)) := dt_cmpR op_isN dop_is ha hb (nomark _)
theorem dt_isN (ha : DE X a wa) (hb : DE X b wb) : DT X (.Compare a [.IsNot] [b] pos) (wTest (wOp fIsN wa wb)) := dt_cmpR op_notN dop_isN ha hb (nomark _)
/-- one comparison of ints among a chain's two -/
structure CmpI (X : Cx) (op : CmpOp) (f : D → D → (D → Prop) → Prop) : Prop where
  ex : ∃ r, OpR X (compareOp op) r ∧ Dop X.K r f
theorem ci_lt : CmpI X .Lt fLt := ⟨_, op_lt, dop_b⟩
theorem ci_le : CmpI X .LtE fLe := ⟨_, op_le, dop_b⟩
theorem ci_gt : CmpI X .Gt fGt := ⟨_, op_gt, dop_b⟩
theorem ci_ge : CmpI X .GtE fGe := ⟨_, op_ge, dop_b⟩
theorem ci_eq {k : Nat} (hr : Room k X.A) : CmpI X .Eq fEq := ⟨_, op_eqD hr.units, dop_eq⟩
theorem ci_ne {k : Nat} (hr : Room k X.A) : CmpI X .NotEq fNe := ⟨_, op_neD hr.units, dop_ne⟩
theorem de_ch {op op' : CmpOp} {f g : D → D → (D → Prop) → Prop} (h1 : CmpI X op f) (h2 : CmpI X op' g) (ha : DE X a wa) (hb : DE X b wb) (hc : DE X c wc)
    (hm : lastMarks [op, op'] [b, c] = false := by with_unfolding_all rfl) : DE X (.Compare a [op, op'] [b, c] pos) (wChain f g wa wb wc) := by
  obtain ⟨r, h1, h2'⟩ := h1
  obtain ⟨r', h3, h4⟩ := h2
  exact de_chain h1 h2' h3 h4 ha hb hc hm
theorem dt_ch {op op' : CmpOp} {f g : D → D → (D → Prop) → Prop} (h1 : CmpI X op f) (h2 : CmpI X op' g) (ha : DE X a wa) (hb : DE X b wb) (hc : DE X c wc)
    (hm : lastMarks [op, op'] [b, c] = false := by with_unfolding_all rfl) : DT X (.Compare a [op, op'] [b, c] pos) (wTest (wChain f g wa wb wc)) := by
  obtain ⟨r, h1, h2'⟩ := h1
  obtain ⟨r', h3, h4⟩ := h2
  exact dt_chain h1 h2' h3 h4 ha hb hc hm
/-! ### name op= e -/
theorem ds_augAdd {i : Nat} {x : Str} {pos' : Pos} (hN : X.N.Nodup) (he : DE X e w) (hi : X.N[i]? = some x := by rfl) (hx : Loc X.env.scope x := by first | exact Or.inl rfl | exact Or.inr rfl) (hf' : X.fn x = true ∨ X.env.scope.names.lookup x = some .local := by first | exact .inl rfl | exact .inr rfl | assumption) :
    DS X (.AugAssign (.Name x pos') .Add e pos) (wAug i (fI (fun _ _ => True) fun i j => i + j) w) := ds_aug hN iop_add dop_i0 he hi hx hf'
theorem ds_augSub {i : Nat} {x : Str} {pos' : Pos} (hN : X.N.Nodup) (he : DE X e w) (hi : X.N[i]? = some x := by rfl) (hx : Loc X.env.scope x := by first | exact Or.inl rfl | exact Or.inr rfl) (hf' : X.fn x = true ∨ X.env.scope.names.lookup x = some .local := by first | exact .inl rfl | exact .inr rfl | assumption) :
    DS X (.AugAssign (.Name x pos') .Sub e pos) (wAug i (fI (fun _ _ => True) fun i j => i - j) w) := ds_aug hN iop_sub dop_i0 he hi hx hf'
theorem ds_augMul {i : Nat} {x : Str} {pos' : Pos} (hN : X.N.Nodup) (he : DE X e w) (hi : X.N[i]? = some x := by rfl) (hx : Loc X.env.scope x := by first | exact Or.inl rfl | exact Or.inr rfl) (hf' : X.fn x = true ∨ X.env.scope.names.lookup x = some .local := by first | exact .inl rfl | exact .inr rfl | assumption) :
    DS X (.AugAssign (.Name x pos') .Mult e pos) (wAug i (fI MulOk fun i j => i * j) w) := ds_aug hN iop_mulD dop_i he hi hx hf'
/-! ### built-in functions -/
def fLen : Sls → List Ar → (D → Prop) → Prop
  | _, [.d (.list xs)], W => W (.int xs.length)
  | _, [.d (.tuple xs)], W => W (.int xs.length)
  | env, [.sl i], W => match env.at i with
    | some (.ls _ xs) => W (.int xs.length)
    | some (.d (.list xs)) => W (.int xs.length)
    | _ => False
  | _, _, _ => False
theorem dc_len {K : PySem.W.Frag} : Dcall K (fun xs H Q => ∃ p ys, xs = [.ref p] ∧ (SqL K H p ys ∨ SqT K H p ys) ∧ Q (.int ys.length) H) fLen := fun h σ H env vs as W Q R rs w k => by
  unfold fLen at w
  split at w
  · cases rs with
    | cons r rn =>
      cases rn
      cases (show Rp K _ _ (.list _) from r) with
      | @lst a ys ds sq ra => exact ⟨a, ys, rfl, .inl (SqL.up sq), k _ H _ R (.int _) (Ext.refl _ _) (by rw [ra.length]; exact w)⟩
  · cases rs with
    | cons r rn =>
      cases rn
      cases (show Rp K _ _ (.tuple _) from r) with
      | @tup a ys ds sq ra => exact ⟨a, ys, rfl, .inr (SqT.up sq), k _ H _ R (.int _) (Ext.refl _ _) (by rw [ra.length]; exact w)⟩
  · rename_i i
    cases rs with
    | @cons v u l₁ l₂ r rn =>
      cases rn
      split at w
      · rename_i p xs e
        obtain ⟨e1, ys, e2, ra⟩ := R.lst i p xs e
        have e3 : σ[i]? = some (some v) := r
        rw [e1] at e3
        cases e3
        exact ⟨p, ys, rfl, .inl (SqL.of e2), k _ H _ R (.int _) (Ext.refl _ _) (by rw [ra.length]; exact w)⟩
      · rename_i xs e
        obtain ⟨u, e1, ru⟩ := R.dat i _ e
        have e3 : σ[i]? = some (some v) := r
        rw [e1] at e3
        cases e3
        cases ru with
        | @lst a ys ds sq ra => exact ⟨a, ys, rfl, .inl (SqL.up sq), k _ H _ R (.int _) (Ext.refl _ _) (by rw [ra.length]; exact w)⟩
      · exact w.elim
  · exact w.elim
abbrev wLen := wCB fLen
theorem de_len {p : Pos} (hm : X.mg "len" = none) (ha : DA X (e :: es) wA) (hg : Gl X "len" := by rfl) (he : starEach (e :: es) X.env = (false, eval e X.env) :: starEach es X.env := by rfl) (hpl : (backTo pos (starEach es X.env)).any (·.1) = false := by rfl) : DE X (.Call (.Name "len" p) (e :: es) [] pos) (wLen wA) :=
  de_callB call_len_seq dc_len hg hm PySem.boot_len ha (by decide) (by decide) he hpl
def fI1 (g : Int → Int) : Sls → List Ar → (D → Prop) → Prop
  | _, [.d (.int i)], W => W (.int (g i))
  | _, _, _ => False
def fI2 (g : Int → Int → Int) : Sls → List Ar → (D → Prop) → Prop
  | _, [.d (.int i), .d (.int j)], W => W (.int (g i j))
  | _, _, _ => False
theorem dc_i1 {K : PySem.W.Frag} {g : Int → Int} : Dcall K (fun xs H Q => ∃ i, xs = [.int i] ∧ Q (.int (g i)) H) (fI1 g) := fun h σ H env vs as W Q R rs w k => by
  unfold fI1 at w
  split at w
  · cases rs with
    | cons r rn =>
      cases rn
      cases (show Rp K _ _ (.int _) from r)
      exact ⟨_, rfl, k _ H _ R (.int _) (Ext.refl _ _) w⟩
  · exact w.elim
theorem dc_i2 {K : PySem.W.Frag} {g : Int → Int → Int} : Dcall K (fun xs H Q => ∃ i j, xs = [.int i, .int j] ∧ Q (.int (g i j)) H) (fI2 g) := fun h σ H env vs as W Q R rs w k => by
  unfold fI2 at w
  split at w
  · cases rs with
    | cons r rn =>
      cases rn with
      | cons r2 rn =>
        cases rn
        cases (show Rp K _ _ (.int _) from r)
        cases (show Rp K _ _ (.int _) from r2)
        exact ⟨_, _, rfl, k _ H _ R (.int _) (Ext.refl _ _) w⟩
  · exact w.elim
abbrev wAbs := wCB (fI1 fun i => if i < 0 then -i else i)
abbrev wMax2 := wCB (fI2 fun i j => if j > i then j else i)
abbrev wMin2 := wCB (fI2 fun i j => if j < i then j else i)
theorem de_abs {p : Pos} (hm : X.mg "abs" = none) (ha : DA X (e :: es) wA) (hg : Gl X "abs" := by rfl) (he : starEach (e :: es) X.env = (false, eval e X.env) :: starEach es X.env := by rfl) (hpl : (backTo pos (starEach es X.env)).any (·.1) = false := by rfl) : DE X (.Call (.Name "abs" p) (e :: es) [] pos) (wAbs wA) :=
  de_callB call_abs dc_i1 hg hm (by decide +kernel) ha (by decide) (by decide) he hpl
theorem de_max2 {p : Pos} (hc : X.calm = true) (hm : X.mg "max" = none) (ha : DA X (e :: es) wA) (hg : Gl X "max" := by rfl) (he : starEach (e :: es) X.env = (false, eval e X.env) :: starEach es X.env := by rfl) (hpl : (backTo pos (starEach es X.env)).any (·.1) = false := by rfl) : DE X (.Call (.Name "max" p) (e :: es) [] pos) (wMax2 wA) :=
  de_callB (call_max2 hc) dc_i2 hg hm (by decide +kernel) ha (by decide) (by decide) he hpl
theorem de_min2 {p : Pos} (hc : X.calm = true) (hm : X.mg "min" = none) (ha : DA X (e :: es) wA) (hg : Gl X "min" := by rfl) (he : starEach (e :: es) X.env = (false, eval e X.env) :: starEach es X.env := by rfl) (hpl : (backTo pos (starEach es X.env)).any (·.1) = false := by rfl) : DE X (.Call (.Name "min" p) (e :: es) [] pos) (wMin2 wA) :=
  de_callB (call_min2 hc) dc_i2 hg hm (by decide +kernel) ha (by decide) (by decide) he hpl
def fInt : Sls → List Ar → (D → Prop) → Prop
  | _, [.d (.int i)], W => W (.int i)
  | _, [.d (.bool b)], W => W (.int (if b then 1 else 0))
  | _, _, _ => False
theorem dc_int {K : PySem.W.Frag} : Dcall K (fun xs H Q => (∃ i, xs = [.int i] ∧ Q (.int i) H) ∨ ∃ k, xs = [.bl k] ∧ Q (.int (if k then 1 else 0)) H) fInt := fun h σ H env vs as W Q R rs w k => by
  unfold fInt at w
  split at w
  · cases rs with
    | cons r rn =>
      cases rn
      cases (show Rp K _ _ (.int _) from r)
      exact .inl ⟨_, rfl, k _ H _ R (.int _) (Ext.refl _ _) w⟩
  · cases rs with
    | cons r rn =>
      cases rn
      cases (show Rp K _ _ (.bool _) from r)
      exact .inr ⟨_, rfl, k _ H _ R (.int _) (Ext.refl _ _) w⟩
  · exact w.elim
abbrev wInt := wCB fInt
theorem de_toInt {p : Pos} (hm : X.mg "int" = none) (ha : DA X (e :: es) wA) (hg : Gl X "int" := by rfl) (he : starEach (e :: es) X.env = (false, eval e X.env) :: starEach es X.env := by rfl) (hpl : (backTo pos (starEach es X.env)).any (·.1) = false := by rfl) : DE X (.Call (.Name "int" p) (e :: es) [] pos) (wInt wA) :=
  de_callTy call_int1 dc_int hg hm PyProof.Rows.boot_int ha (by decide) (by decide) he hpl
/-- sum of a list of ints -/
def fSum : Sls → List Ar → (D → Prop) → Prop
  | _, [.d (.list xs)], W => ∃ ns : List Int, xs = ns.map PyData.int ∧ W (.int ns.sum)
  | _, _, _ => False
theorem dc_sum {K : PySem.W.Frag} : Dcall K (rSum K) fSum := fun h σ H env vs as W Q R rs w k => by
  unfold fSum at w
  split at w
  · obtain ⟨ns, e, w⟩ := w
    subst e
    cases rs with
    | cons r rn =>
      cases rn
      cases (show Rp K _ _ (.list _) from r) with
      | @lst a ys ds sq ra =>
        have e := ra.ints
        subst e
        exact ⟨a, ns, rfl, SqL.up sq, k _ H _ R (.int _) (Ext.refl _ _) w⟩
  · exact w.elim
abbrev wSum := wCB fSum
theorem de_sum {p : Pos} (hc : X.calm = true) (hm : X.mg "sum" = none) (ha : DA X (e :: es) wA) (hg : Gl X "sum" := by rfl) (he : starEach (e :: es) X.env = (false, eval e X.env) :: starEach es X.env := by rfl) (hpl : (backTo pos (starEach es X.env)).any (·.1) = false := by rfl) : DE X (.Call (.Name "sum" p) (e :: es) [] pos) (wSum wA) :=
  de_callB (cr_sum hc) dc_sum hg hm (by decide +kernel) ha (by decide) (by decide) he hpl
def fAll : Sls → List Ar → (D → Prop) → Prop
  | _, [.d (.list xs)], W => ∃ bs : List Bool, xs = bs.map PyData.bool ∧ W (.bool (bs.all id))
  | _, _, _ => False
def fAny : Sls → List Ar → (D → Prop) → Prop
  | _, [.d (.list xs)], W => ∃ bs : List Bool, xs = bs.map PyData.bool ∧ W (.bool (bs.any id))
  | _, _, _ => False
theorem dc_all {K : PySem.W.Frag} : Dcall K (rAll K) fAll := fun h σ H env vs as W Q R rs w k => by
  unfold fAll at w
  split at w
  · obtain ⟨ns, e, w⟩ := w
    subst e
    cases rs with
    | cons r rn =>
      cases rn
      cases (show Rp K _ _ (.list _) from r) with
      | @lst a ys ds sq ra =>
        have e := ra.bls
        subst e
        exact ⟨a, ns, rfl, SqL.up sq, k _ H _ R (.bl _) (Ext.refl _ _) w⟩
  · exact w.elim
theorem dc_any {K : PySem.W.Frag} : Dcall K (rAny K) fAny := fun h σ H env vs as W Q R rs w k => by
  unfold fAny at w
  split at w
  · obtain ⟨ns, e, w⟩ := w
    subst e
    cases rs with
    | cons r rn =>
      cases rn
      cases (show Rp K _ _ (.list _) from r) with
      | @lst a ys ds sq ra =>
        have e := ra.bls
        subst e
        exact ⟨a, ns, rfl, SqL.up sq, k _ H _ R (.bl _) (Ext.refl _ _) w⟩
  · exact w.elim
theorem de_all {p : Pos} (hc : X.calm = true) (hm : X.mg "all" = none) (ha : DA X (e :: es) wA) (hg : Gl X "all" := by rfl) (he : starEach (e :: es) X.env = (false, eval e X.env) :: starEach es X.env := by rfl) (hpl : (backTo pos (starEach es X.env)).any (·.1) = false := by rfl) : DE X (.Call (.Name "all" p) (e :: es) [] pos) (wCB fAll wA) :=
  de_callB (cr_all hc) dc_all hg hm (by decide +kernel) ha (by decide) (by decide) he hpl
theorem de_any {p : Pos} (hc : X.calm = true) (hm : X.mg "any" = none) (ha : DA X (e :: es) wA) (hg : Gl X "any" := by rfl) (he : starEach (e :: es) X.env = (false, eval e X.env) :: starEach es X.env := by rfl) (hpl : (backTo pos (starEach es X.env)).any (·.1) = false := by rfl) : DE X (.Call (.Name "any" p) (e :: es) [] pos) (wCB fAny wA) :=
  de_callB (cr_any hc) dc_any hg hm (by decide +kernel) ha (by decide) (by decide) he hpl
/-- list(range(a)) -/
def wListRg (w : WE) : WN := fun env Q => w env fun x env1 => match x with
  | .int j => RgOk 0 j ∧ Q (rangeD 0 j.toNat) env1
  | _ => False
theorem dn_listRg1 {p p2 pos2 : Pos} (hc : X.calm = true) (hm : X.mg "list" = none) (hm2 : X.mg "range" = none) (ha : DE X a w) (hg : Gl X "list" := by rfl) (hg2 : Gl X "range" := by rfl) (na : starEach [.Call (.Name "range" p2) [a] [] pos2] X.env = (false, eval (.Call (.Name "range" p2) [a] [] pos2) X.env) :: starEach [] X.env := by rfl) (na2 : starEach [a] X.env = (false, eval a X.env) :: starEach [] X.env := by rfl) :
    DN X (.Call (.Name "list" p) [.Call (.Name "range" p2) [a] [] pos2] [] pos) (wListRg w) := PE.imp (pe_listRg hc hg hm (prg_1 hg2 hm2 ha na2) na) fun σ H Q q => by
  obtain ⟨h, env, W, R, w, k⟩ := q
  refine ⟨h, env, _, R, w, fun v H1 env1 x R1 r1 E1 w1 => ?_⟩
  cases r1 with
  | int j =>
    obtain ⟨ok, w1⟩ := w1
    refine ⟨j, rfl, ok, fun q nq => ?_⟩
    have e : RpAll X.K (imm H1 (h ++ own env1)) (rgV 0 j) (rangeD 0 j.toNat) := by
      have : rgV 0 j = ((List.range j.toNat).map fun (i : Nat) => (0 + (i : Int))).map V.int := by
        unfold rgV
        rw [List.map_map, Int.sub_zero]
        rfl
      have e2 : rangeD 0 j.toNat = ((List.range j.toNat).map fun (i : Nat) => (0 + (i : Int))).map PyData.int := by
        unfold rangeD
        rw [List.map_map]
        rfl
      rw [this, e2]
      exact RpAll.of_ints _
    obtain ⟨np, R2, hp, r2, E2⟩ := mk_lst R1 nq e
    exact k q _ _ env1 _ np R2 hp r2 (Same.trans E1 E2) w1
  | _ => exact w1.elim
/-! ### isinstance -/
def tyN : D → String
  | .none => "NoneType"
  | .bool _ => "bool"
  | .int _ => "int"
  | .str _ => "str"
  | .list _ => "list"
  | .tuple _ => "tuple"
  | .dict _ => "dict"
def wIsi (T : String) (w : WE) : WE := fun env Q => w env fun x env1 => ∃ b, kitB (tyN x) T = some b ∧ Q (.bool b) env1
theorem ty_rp {K : PySem.W.Frag} {H : Hp} {ps : List Addr} {v : V} {x : D} (r : Rp K (imm H ps) v x) : TyX K H v (.type (tyN x)) := by
  cases r with
  | non => exact .base .non
  | bl b => exact .base (.bl b)
  | int i => exact .base (.int i)
  | str s => exact .base (.str s)
  | lst sq ra =>
    rcases SqL.up sq with (e | ⟨o, e⟩) | ⟨o, its, n, e, c, _⟩
    · exact .base (.lst e)
    · exact .base (.frz e)
    · exact .kList e c
  | tup sq ra =>
    rcases SqT.up sq with (e | ⟨o, e⟩) | ⟨o, its, n, e, c, _⟩
    · exact .base (.tup e)
    · exact .fTuple e
    · exact .kTuple e c
theorem de_isi {T : String} {y : Str} {p p2 : Pos} (hm : X.mg "isinstance" = none) (hm2 : X.mg y = none) (hv : bootBuiltins y = some (.type T)) (ha : DE X e w) (hg : Gl X "isinstance" := by rfl) (hg2 : Gl X y := by rfl) (hn : y ≠ "__name__" := by decide) (hd : (y == ("__debug__" : Str)) = false := by decide)
    (he : starEach (e :: [.Name y p2]) X.env = (false, eval e X.env) :: starEach [.Name y p2] X.env := by rfl) (he2 : starEach (.Name y p2 :: []) X.env = (false, eval (.Name y p2) X.env) :: starEach [] X.env := by rfl) (hpl : (backTo pos (starEach [.Name y p2] X.env)).any (·.1) = false := by rfl) :
    DE X (.Call (.Name "isinstance" p) (e :: [.Name y p2]) [] pos) (wIsi T w) :=
  PE.imp (pe_callB call_isi hg hm (by decide +kernel) (pa_cons ha (pa_cons (pe_bltn (v := .ty T) hg2 hm2 hv rfl hn hd) pa_nil he2) he) (by decide) (by decide) he hpl) fun σ H Q q => by
    obtain ⟨h, env, W, R, w, k⟩ := q
    refine ⟨h, env, _, R, w, fun v H1 env1 x R1 r1 E1 w1 => ?_⟩
    obtain ⟨b, eb, w1⟩ := w1
    exact ⟨v, .ty T, _, _, b, rfl, .ty T, ty_rp r1, kit_ty eb, k _ H1 env1 _ R1 (.bl _) E1 w1⟩
theorem kit_ii : kitB "int" "int" = some true := by decide +kernel
theorem kit_bi : kitB "bool" "int" = some true := by decide +kernel
theorem kit_ni : kitB "NoneType" "int" = some false := by decide +kernel
theorem kit_si : kitB "str" "int" = some false := by decide +kernel
theorem kit_li : kitB "list" "int" = some false := by decide +kernel
theorem kit_ti : kitB "tuple" "int" = some false := by decide +kernel
theorem kit_ib : kitB "int" "bool" = some false := by decide +kernel
theorem kit_bb : kitB "bool" "bool" = some true := by decide +kernel
theorem kit_tt : kitB "tuple" "tuple" = some true := by decide +kernel
theorem kit_it : kitB "int" "tuple" = some false := by decide +kernel
theorem kit_nt : kitB "NoneType" "tuple" = some false := by decide +kernel
theorem kit_lt : kitB "list" "tuple" = some false := by decide +kernel
theorem kit_ss : kitB "str" "str" = some true := by decide +kernel
end
end Dl

namespace Dl
open PySem PySem.Spec PyProof.Rows L2
/-! ### the text's facts -/
structure Tx0 (fa : List He.Fa) (fn : List He.DefD) (K : PySem.W.Frag) (mg : Str → Option Value) : Prop where
  c : He.SaysD fa fn K
  glo : ∀ x, (He.Fa.glo x).ok K = true → mg x = some (.ref (He.ga K x))
  free : ∀ x, (He.Fa.free x).ok K = true → mg x = none
  int : ∀ x i, (He.Fa.int x i).ok K = true → ∃ t, mg x = some (.int i t)
  str : ∀ x z, (He.Fa.str x z).ok K = true → ∃ t, mg x = some (.str z t)
theorem tx_of {fa : List He.Fa} {fn : List He.DefD} {K : PySem.W.Frag} {mg : Str → Option Value} {h : Heap} (X : K.In h) (G : h.Ns mainGlobals mg) (c : He.SaysD fa fn K) : Tx0 fa fn K mg :=
  ⟨c, fun _ => He.glo_ok X G, fun _ => He.free_ok X G, fun _ _ => He.int_ok X G, fun _ _ => He.str_ok X G⟩
end Dl

namespace Dl
open PySem PySem.Spec PyProof.Rows L2
/-! ### loops by an invariant -/
theorem forD_ind {g : WG} {body : WS} {W : WEnds} (I : List D → Sls → Prop) (nil : ∀ e, I [] e → W.nx e)
    (cons : ∀ x xs e (N : Sls → Prop), (∀ e', I xs e' → N e') → I (x :: xs) e → g x e fun e1 => body { W with nx := N, ct := N, bk := W.nx } e1) : ∀ xs e, I xs e → forD g body xs W e
  | [], e, h => nil e h
  | x :: xs, e, h => cons x xs e _ (fun e' h' => forD_ind I nil cons xs e' h') h
theorem rangeD_zero (lo : Int) : rangeD lo 0 = [] := rfl
theorem rangeD_succ (lo : Int) (n : Nat) : rangeD lo (n + 1) = .int lo :: rangeD (lo + 1) n := by
  refine List.ext_getElem? fun i => ?_
  rw [rangeD_get]
  cases i with
  | zero => simp
  | succ i =>
    rw [List.getElem?_cons_succ, rangeD_get]
    by_cases h : i < n
    · rw [if_pos h, if_pos (by omega)]
      congr 2
      omega
    · rw [if_neg h, if_neg (by omega)]
/-- over lo, lo + 1, ..: the invariant by how many turns are gone -/
theorem forR_ind {g : WG} {body : WS} {W : WEnds} {lo : Int} {n : Nat} (I : Nat → Sls → Prop) (done : ∀ e, I n e → W.nx e)
    (step : ∀ (i : Nat) e (N : Sls → Prop), i < n → (∀ e', I (i + 1) e' → N e') → I i e → g (.int (lo + i)) e fun e1 => body { W with nx := N, ct := N, bk := W.nx } e1) (e : Sls) (h0 : I 0 e) : forD g body (rangeD lo n) W e := by
  have go : ∀ (m i : Nat) (e : Sls), i + m = n → I i e → forD g body (rangeD (lo + i) m) W e := by
    intro m
    induction m with
    | zero =>
      intro i e hi h
      have : i = n := by omega
      subst this
      exact done e h
    | succ m ih =>
      intro i e hi h
      rw [rangeD_succ]
      refine step i e _ (by omega) (fun e' h' => ?_) h
      have := ih (i + 1) e' (by omega) h'
      rw [show lo + ((i + 1 : Nat) : Int) = lo + (i : Int) + 1 by omega] at this
      exact this
  have := go n 0 e (by omega) h0
  rw [show lo + ((0 : Nat) : Int) = lo by omega] at this
  exact this
/-- over a list, by how many items are gone -/
theorem forL_ind {g : WG} {body : WS} {W : WEnds} {xs : List D} (I : Nat → Sls → Prop) (done : ∀ e, I xs.length e → W.nx e)
    (step : ∀ (i : Nat) x e (N : Sls → Prop), xs[i]? = some x → (∀ e', I (i + 1) e' → N e') → I i e → g x e fun e1 => body { W with nx := N, ct := N, bk := W.nx } e1) (e : Sls) (h0 : I 0 e) : forD g body xs W e := by
  have go : ∀ (ys : List D) (i : Nat) (e : Sls), ys = xs.drop i → i ≤ xs.length → I i e → forD g body ys W e := by
    intro ys
    induction ys with
    | nil =>
      intro i e hy hi h
      have : i = xs.length := by
        have := congrArg List.length hy
        simp at this
        omega
      subst this
      exact done e h
    | cons y ys ih =>
      intro i e hy hi h
      have lt : i < xs.length := by
        have := congrArg List.length hy
        simp at this
        omega
      rw [List.drop_eq_getElem_cons lt] at hy
      injection hy with h1 h2
      refine step i y e _ (by rw [h1]; exact List.getElem?_eq_getElem lt) (fun e' h' => ih (i + 1) e' h2 (by omega) h') h
  exact go xs 0 e (by simp) (by omega) h0
theorem lcD_ind {g : WG} {tt : WT} {te : WE} {vs : List Nat} {Q : List D → Sls → Prop} (I : List D → List D → Sls → Prop) (nil : ∀ acc e, I [] acc e → Q acc e)
    (cons : ∀ x xs acc e (N : List D → Sls → Prop), (∀ acc' e', I xs acc' e' → N acc' e') → I (x :: xs) acc e → g x e fun e1 => tt e1 fun b e2 => if b = true then te e2 fun y e3 => acc.length < sizeLine ∧ N (acc ++ [y]) (wipeE e3 vs) else N acc (wipeE e2 vs)) :
    ∀ xs acc e, I xs acc e → lcD g tt te vs xs acc e Q
  | [], acc, e, h => nil acc e h
  | x :: xs, acc, e, h => cons x xs acc e _ (fun acc' e' h' => lcD_ind I nil cons xs acc' e' h') h
/-- an element and a test that change nothing: a map of what is kept -/
theorem lcD_pure {g : WG} {tt : WT} {te : WE} {vs : List Nat} {Q : List D → Sls → Prop} {e : Sls} (p : D → Bool) (f : D → D) (xs : List D)
    (h : ∀ x, x ∈ xs → ∀ (N : List D → Sls → Prop) (acc : List D), acc.length < sizeLine → (p x = true → N (acc ++ [f x]) e) → (p x = false → N acc e) → g x e fun e1 => tt e1 fun b e2 => if b = true then te e2 fun y e3 => acc.length < sizeLine ∧ N (acc ++ [y]) (wipeE e3 vs) else N acc (wipeE e2 vs)) :
    ∀ acc : List D, acc.length + xs.length ≤ sizeLine → Q (acc ++ (xs.filter p).map f) e → lcD g tt te vs xs acc e Q := by
  induction xs with
  | nil =>
    intro acc _ q
    show Q acc e
    simpa using q
  | cons x xs ih =>
    intro acc hl q
    have hl2 : acc.length + (xs.length + 1) ≤ sizeLine := hl
    refine h x List.mem_cons_self (fun acc' e' => lcD g tt te vs xs acc' e' Q) acc (by omega) (fun hp => ?_) (fun hp => ?_)
    · refine ih (fun y hy => h y (List.mem_cons_of_mem _ hy)) _ (by rw [List.length_append]; show acc.length + 1 + _ ≤ _; omega) ?_
      rw [List.filter_cons, if_pos hp, List.map_cons] at q
      rw [List.append_assoc]
      exact q
    · refine ih (fun y hy => h y (List.mem_cons_of_mem _ hy)) _ (by omega) ?_
      rw [List.filter_cons, if_neg (by rw [hp]; decide)] at q
      exact q
/-- the same over a mapped list, all kept -/
theorem lcM_pure {α : Type} {g : WG} {tt : WT} {te : WE} {vs : List Nat} {Q : List D → Sls → Prop} {e : Sls} (φ f : α → D) (ns : List α)
    (h : ∀ a, a ∈ ns → ∀ (N : List D → Sls → Prop) (acc : List D), acc.length < sizeLine → N (acc ++ [f a]) e → g (φ a) e fun e1 => tt e1 fun b e2 => if b = true then te e2 fun y e3 => acc.length < sizeLine ∧ N (acc ++ [y]) (wipeE e3 vs) else N acc (wipeE e2 vs))
    (l : ns.length ≤ sizeLine) (q : Q (ns.map f) e) : lcD g tt te vs (ns.map φ) [] e Q := by
  have go : ∀ (ns : List α) (acc : List D), (∀ a, a ∈ ns → ∀ (N : List D → Sls → Prop) (acc : List D), acc.length < sizeLine → N (acc ++ [f a]) e → g (φ a) e fun e1 => tt e1 fun b e2 => if b = true then te e2 fun y e3 => acc.length < sizeLine ∧ N (acc ++ [y]) (wipeE e3 vs) else N acc (wipeE e2 vs)) → acc.length + ns.length ≤ sizeLine → Q (acc ++ ns.map f) e → lcD g tt te vs (ns.map φ) acc e Q := by
    intro ns
    induction ns with
    | nil =>
      intro acc _ _ q
      show Q acc e
      simpa using q
    | cons n r ih =>
      intro acc h hl q
      have hl2 : acc.length + (r.length + 1) ≤ sizeLine := hl
      refine h n List.mem_cons_self (fun acc' e' => lcD g tt te vs (r.map φ) acc' e' Q) acc (by omega) ?_
      refine ih _ (fun y hy => h y (List.mem_cons_of_mem _ hy)) (by rw [List.length_append]; show acc.length + 1 + _ ≤ _; omega) ?_
      rw [List.map_cons] at q
      rw [List.append_assoc]
      exact q
  exact go ns [] h (by show 0 + _ ≤ _; omega) q
/-- the same over lo, lo + 1, .. -/
theorem lcR_pure {g : WG} {tt : WT} {te : WE} {vs : List Nat} {Q : List D → Sls → Prop} {e : Sls} {lo : Int} (p : Nat → Bool) (f : Nat → D) (n : Nat)
    (h : ∀ i : Nat, i < n → ∀ (N : List D → Sls → Prop) (acc : List D), acc.length < sizeLine → (p i = true → N (acc ++ [f i]) e) → (p i = false → N acc e) → g (.int (lo + (i : Int))) e fun e1 => tt e1 fun b e2 => if b = true then te e2 fun y e3 => acc.length < sizeLine ∧ N (acc ++ [y]) (wipeE e3 vs) else N acc (wipeE e2 vs))
    (l : n ≤ sizeLine) (q : Q (((List.range n).filter p).map f) e) : lcD g tt te vs (rangeD lo n) [] e Q := by
  have go : ∀ (m i : Nat) (acc : List D), i + m = n → acc.length ≤ i → Q (acc ++ (((List.range m).map (i + ·)).filter p).map f) e → lcD g tt te vs (rangeD (lo + (i : Int)) m) acc e Q := by
    intro m
    induction m with
    | zero =>
      intro i acc _ _ q
      show Q acc e
      simpa using q
    | succ m ih =>
      intro i acc hi hl q
      rw [rangeD_succ]
      rw [List.range_succ_eq_map, List.map_cons, List.map_map, List.filter_cons, show i + 0 = i from rfl, show ((i + ·) ∘ Nat.succ) = (fun x => (i + 1) + x) from funext fun x => by show i + (x + 1) = i + 1 + x; omega] at q
      have nx : ∀ acc' : List D, acc'.length ≤ i + 1 → Q (acc' ++ (((List.range m).map (i + 1 + ·)).filter p).map f) e → lcD g tt te vs (rangeD (lo + (i : Int) + 1) m) acc' e Q := fun acc' hl' q' => by
        have := ih (i + 1) acc' (by omega) hl' q'
        rw [show lo + ((i + 1 : Nat) : Int) = lo + (i : Int) + 1 by omega] at this
        exact this
      refine h i (by omega) (fun acc' e' => lcD g tt te vs (rangeD (lo + (i : Int) + 1) m) acc' e' Q) acc (by omega) (fun hp => ?_) (fun hp => ?_)
      · refine nx _ (by rw [List.length_append]; show acc.length + 1 ≤ _; omega) ?_
        rw [if_pos hp, List.map_cons] at q
        rw [List.append_assoc]
        exact q
      · refine nx _ (by omega) ?_
        rw [if_neg (by rw [hp]; decide)] at q
        exact q
  have := go n 0 [] (by omega) (by show 0 ≤ 0; omega) (by
    rw [show (fun x : Nat => 0 + x) = id from funext fun x => by show 0 + x = x; omega, List.map_id]
    exact q)
  rw [show lo + ((0 : Nat) : Int) = lo by omega] at this
  exact this
/-! ### sizes -/
def Sz (a : Nat) (i : Int) : Prop := 0 ≤ i ∧ i < 2 ^ a
theorem p2c (n : Nat) : ((2 ^ n : Nat) : Int) = (2 : Int) ^ n := by rw [Int.natCast_pow]; rfl
theorem p2m {a b : Nat} (h : a ≤ b) : (2 : Int) ^ a ≤ 2 ^ b := by
  rw [← p2c, ← p2c]
  have := Nat.pow_le_pow_right (n := 2) (by decide) h
  omega
theorem Sz.nat {a : Nat} {i : Int} (h : Sz a i) : i.natAbs < 2 ^ a := by
  obtain ⟨h0, h1⟩ := h
  rw [← p2c] at h1
  omega
theorem Sz.mono {a b : Nat} {i : Int} (h : Sz a i) (l : a ≤ b) : Sz b i := ⟨h.1, Int.lt_of_lt_of_le h.2 (p2m l)⟩
theorem Sz.mul {a b : Nat} {i j : Int} (h : Sz a i) (k : Sz b j) : Sz (a + b) (i * j) := by
  refine ⟨Int.mul_nonneg h.1 k.1, ?_⟩
  have := Nat.mul_lt_mul'' h.nat k.nat
  rw [← Nat.pow_add, ← Int.natAbs_mul] at this
  have e := Int.mul_nonneg h.1 k.1
  rw [← p2c]
  omega
theorem Sz.add {a : Nat} {i j : Int} (h : Sz a i) (k : Sz a j) : Sz (a + 1) (i + j) := by
  obtain ⟨h0, h1⟩ := h
  obtain ⟨k0, k1⟩ := k
  refine ⟨by omega, ?_⟩
  rw [Int.pow_succ]
  omega
theorem Sz.le {a : Nat} {i j : Int} (h : Sz a j) (h0 : 0 ≤ i) (l : i ≤ j) : Sz a i := ⟨h0, by have := h.2; omega⟩
theorem Sz.of {a : Nat} {i : Int} (h0 : 0 ≤ i) (h1 : i < 2 ^ a) : Sz a i := ⟨h0, h1⟩
theorem MulOk.sz {a b : Nat} {i j : Int} (h : Sz a i) (k : Sz b j) (l : a + b ≤ 900000 := by decide) : MulOk i j := by
  refine .inr (wide_mul (a := a + 1) (b := b + 1) (Nat.lt_of_lt_of_le h.nat (Nat.pow_le_pow_right (by decide) (by omega))) (Nat.lt_of_lt_of_le k.nat (Nat.pow_le_pow_right (by decide) (by omega))) (by omega) (by omega) (by omega))
theorem MulOk.r {i j : Int} (h : -(2 ^ 64) < j) (k : j < 2 ^ 64) : MulOk i j := .inl (.inr ⟨h, k⟩)
theorem MulOk.l {i j : Int} (h : -(2 ^ 64) < i) (k : i < 2 ^ 64) : MulOk i j := .inl (.inl ⟨h, k⟩)
theorem div_sz {b : Nat} {i j : Int} (h : 0 < j) (k : Sz b j) (l : b ≤ 8000 := by decide) : CDivW i j :=
  wide_div (b := b + 1) h (Nat.lt_of_lt_of_le k.nat (Nat.pow_le_pow_right (by decide) (by omega))) (by omega) (by omega)
theorem div_small {i j : Int} (h : 0 < j) (k : j < 2 ^ 64) : CDivW i j := wide_div (b := 64) h (by omega) (by decide) (by decide)
/-! ### data of ints -/
theorem shaped_int (i : Int) : SeqAt.shaped (.int i) = true := by first | rfl | (unfold SeqAt.shaped; simp [PyData.canLay0, PyData.depth])
theorem shaped_non : SeqAt.shaped .none = true := by first | rfl | (unfold SeqAt.shaped; simp [PyData.canLay0, PyData.depth])
theorem shaped_bool (b : Bool) : SeqAt.shaped (.bool b) = true := by first | rfl | (unfold SeqAt.shaped; simp [PyData.canLay0, PyData.depth])
theorem eqv_int (i j : Int) : PyData.eqv (.int i) (.int j) = decide (i = j) := by
  show (i == j) = _
  exact Bool.beq_eq_decide_eq _ _
theorem ends_rt {env : Sls} {W : D → Sls → Prop} {d : D} {e : Sls} : (ends env W).rt d e = ∃ out, outs env e = some out ∧ W d out := rfl
theorem ends_nx {env : Sls} {W : D → Sls → Prop} {e : Sls} : (ends env W).nx e = ∃ out, outs env e = some out ∧ W .none out := rfl
theorem ends_rn {env : Sls} {W : D → Sls → Prop} {xs : List D} {e : Sls} : (ends env W).rn xs e = ∃ out, outs env e = some out ∧ W (.list xs) out := rfl
theorem endsN_rn {env : Sls} {W : List D → Sls → Prop} {xs : List D} {e : Sls} : (endsN env W).rn xs e = ∃ out, outs env e = some out ∧ W xs out := rfl
theorem PowOk.small {i j : Int} (h0 : 0 ≤ j) (h1 : j ≤ 1000000) (h : i.natAbs < 2 ^ 64) : PowOk i j := ⟨h0, bits_mul_le h h0 h1⟩
theorem line_le {n : Nat} (h : n ≤ 1000000) : n ≤ sizeLine := by rw [sizeLine_eq]; omega
theorem line_lt {n : Nat} (h : n ≤ 1000000) : n < sizeLine := by rw [sizeLine_eq]; omega
section
variable {α : Type} {x y z u v : α} {xs : List α}
theorem atI_at {i : Int} (h0 : 0 ≤ i) : atI xs i = xs[i.toNat]? := by
  have e : i = ((i.toNat : Nat) : Int) := by omega
  cases q : xs[i.toNat]? with
  | some v =>
    have := atI_nat q
    rw [← e] at this
    exact this
  | none =>
    have hl := List.getElem?_eq_none_iff.mp q
    unfold atI ixN
    rw [if_pos h0, if_neg (by omega)]
    rfl
theorem atI_0 : atI (x :: xs) 0 = some x := by rw [atI_at (by decide)]; rfl
theorem atI_1 : atI (x :: y :: xs) 1 = some y := by rw [atI_at (by decide)]; rfl
theorem atI_2 : atI (x :: y :: z :: xs) 2 = some z := by rw [atI_at (by decide)]; rfl
theorem atI_3 : atI (x :: y :: z :: u :: xs) 3 = some u := by rw [atI_at (by decide)]; rfl
theorem atI_4 : atI (x :: y :: z :: u :: v :: xs) 4 = some v := by rw [atI_at (by decide)]; rfl
end
theorem ix_0 {n : Nat} : ixN (n + 1) 0 = some 0 := by unfold ixN; rw [if_pos (by decide), if_pos (by omega)]; rfl
theorem ix_2 : ixN 3 2 = some 2 := by unfold ixN; rfl
theorem ix_30 : ixN 3 0 = some 0 := by unfold ixN; rfl
theorem ex_ls {p : Addr} {xs : List D} : (∃ q ys, Sl.ls p xs = Sl.ls q ys) = True := eq_true ⟨p, xs, rfl⟩
theorem putBack_pure : ∀ {as : List Ar} {env out : Sls}, slotsOf as = [] → putBack env as out = env
  | [], env, out, _ => by unfold putBack; rfl
  | .d _ :: r, env, [], _ => by unfold putBack; rfl
  | .d _ :: r, env, y :: o, h => by unfold putBack; exact putBack_pure (as := r) h
  | .sl _ :: r, env, out, h => by cases h
/-! ### a walk that stops at a call: what comes after it is held -/
inductive Tok {α : Sort _} (a : α) : Type | mk
def hold {α : Sort _} (a : α) (_ : Tok a) : α := a
section
variable {A B C : Type} {f : A → Prop} {g : A → B → Prop} {k : A → B → C → Prop} {x : A} {y : B} {z : C}
theorem hold1 {t : Tok f} : hold f t x = f x := rfl
theorem hold2 {t : Tok g} : hold g t x y = g x y := rfl
theorem hold3 {t : Tok k} : hold k t x y z = k x y z := rfl
end
section
variable {W : WEnds} {t : Tok W}
theorem hold_nx : (hold W t).nx = W.nx := rfl
theorem hold_rt : (hold W t).rt = W.rt := rfl
theorem hold_bk : (hold W t).bk = W.bk := rfl
theorem hold_ct : (hold W t).ct = W.ct := rfl
theorem hold_rn : (hold W t).rn = W.rn := rfl
end
theorem wCall_h {n : Nat} {F : WF} {wA : WA} {e : Sls} {Q : D → Sls → Prop} : wCall n F wA e Q = wA e fun as e1 => as.length = n ∧ (slotsOf as).Nodup ∧ F (mkArgs e1 as) (hold (fun x out => Q x (putBack e1 as out)) .mk) := rfl
theorem wCallN_h {n : Nat} {F : WFN} {wA : WA} {e : Sls} {Q : List D → Sls → Prop} : wCallN n F wA e Q = wA e fun as e1 => as.length = n ∧ (slotsOf as).Nodup ∧ F (mkArgs e1 as) (hold (fun x out => Q x (putBack e1 as out)) .mk) := rfl
theorem wCall1_h {F : WF} {wn : WN} {e : Sls} {Q : D → Sls → Prop} : wCall1 F wn e Q = wn e fun xs e1 => ∀ p : Addr, F [some (.ls p xs)] (hold (fun x _ => Q x e1) .mk) := rfl
theorem wFor_h {wi : WI} {g : WG} {body : WS} {W : WEnds} {e : Sls} : wFor wi g body W e = wi e fun xs e1 => forD (hold g .mk) (hold body .mk) xs (hold W .mk) e1 := rfl
theorem wLc_h {wi : WI} {g : WG} {tt : WT} {te : WE} {vs : List Nat} {e : Sls} {Q : List D → Sls → Prop} : wLc wi g tt te vs e Q = wi e fun xs e1 => Dl.freeOf e1 vs = true ∧ lcD (hold g .mk) (hold tt .mk) (hold te .mk) vs xs [] (wipeE e1 vs) (hold (fun acc e2 => Q acc (backE e1 vs e2)) .mk) := rfl
/-- a found value goes on -/
def optGo {A : Type} (o : Option A) (W : A → Prop) (_ : Tok W) : Prop := match o with
  | some d => W d
  | none => False
section
variable {A : Type} {o : Option A} {d : A} {W : A → Prop} {t : Tok W}
theorem optGo_some : optGo (some d) W t = W d := rfl
theorem optGo_of (h : o = some d) (w : W d) : optGo o W t := by subst h; exact w
theorem optGo_eq : (∃ d, o = some d ∧ W d) = optGo o W t := propext ⟨fun ⟨_, h, w⟩ => optGo_of h w, fun h => by
  cases o with
  | none => exact h.elim
  | some d => exact ⟨d, rfl, h⟩⟩
end
/-- a list of ints, of truths -/
def sumGo (xs : List D) (W : D → Prop) (_ : Tok W) : Prop := ∃ ns : List Int, xs = ns.map PyData.int ∧ W (.int ns.sum)
def allGo (xs : List D) (W : D → Prop) (_ : Tok W) : Prop := ∃ bs : List Bool, xs = bs.map PyData.bool ∧ W (.bool (bs.all id))
def anyGo (xs : List D) (W : D → Prop) (_ : Tok W) : Prop := ∃ bs : List Bool, xs = bs.map PyData.bool ∧ W (.bool (bs.any id))
section
variable {xs ys : List D} {i j : Int} {b : Bool} {a : Str} {c : Str} {e : Sls} {k : Nat} {W : D → Prop} {t : Tok W} {C : Int → Int → Prop} {g : Int → Int → Int} {g1 : Int → Int} {p : Int → Int → Bool}
theorem sumGo_of {ns : List Int} (h : xs = ns.map PyData.int) (w : W (.int ns.sum)) : sumGo xs W t := ⟨ns, h, w⟩
theorem allGo_of {bs : List Bool} (h : xs = bs.map PyData.bool) (w : W (.bool (bs.all id))) : allGo xs W t := ⟨bs, h, w⟩
theorem anyGo_of {bs : List Bool} (h : xs = bs.map PyData.bool) (w : W (.bool (bs.any id))) : anyGo xs W t := ⟨bs, h, w⟩
theorem fIx_l : fIx (.list xs) (.int i) W = optGo (atI xs i) W .mk := optGo_eq
theorem fIx_t : fIx (.tuple xs) (.int i) W = optGo (atI xs i) W .mk := optGo_eq
theorem fI_i : fI C g (.int i) (.int j) W = (C i j ∧ W (.int (g i j))) := rfl
theorem fB_i : fB p (.int i) (.int j) W = W (.bool (p i j)) := rfl
theorem fAdd_i : fAdd (.int i) (.int j) W = W (.int (i + j)) := rfl
theorem fAdd_s : fAdd (.str a) (.str c) W = (a.length + c.length ≤ sizeLine ∧ W (.str (a ++ c))) := rfl
theorem fAdd_t : fAdd (.tuple xs) (.tuple ys) W = (xs.length + ys.length ≤ sizeLine ∧ W (.tuple (xs ++ ys))) := rfl
theorem fLen_l : fLen e [.d (.list xs)] W = W (.int xs.length) := rfl
theorem fLen_t : fLen e [.d (.tuple xs)] W = W (.int xs.length) := rfl
theorem fI1_i : fI1 g1 e [.d (.int i)] W = W (.int (g1 i)) := rfl
theorem fI2_i : fI2 g e [.d (.int i), .d (.int j)] W = W (.int (g i j)) := rfl
theorem fInt_i : fInt e [.d (.int i)] W = W (.int i) := rfl
theorem fInt_b : fInt e [.d (.bool b)] W = W (.int (if b then 1 else 0)) := rfl
theorem fSum_l : fSum e [.d (.list xs)] W = sumGo xs W .mk := rfl
theorem fAll_l : fAll e [.d (.list xs)] W = allGo xs W .mk := rfl
theorem fAny_l : fAny e [.d (.list xs)] W = anyGo xs W .mk := rfl
end
theorem wIsi_h {T : String} {w : WE} {e : Sls} {Q : D → Sls → Prop} : wIsi T w e Q = w e fun x e1 => optGo (kitB (tyN x) T) (fun b => Q (.bool b) e1) .mk := congrArg (w e) (funext fun _ => funext fun _ => optGo_eq)
theorem wPar_h {is : List Nat} {m : WM} {W : WEnds} {e : Sls} : wPar is m W e = m e fun its e1 => optGo (Dl.putAll e1 is its) W.nx .mk := congrArg (m e) (funext fun _ => funext fun _ => optGo_eq)
def ixoGo (s : Option Sl) (y : D) (W : D → Prop) (_ : Tok W) : Prop := match s, y with
  | some (.ls _ xs), .int k => ∃ d, atI xs k = some d ∧ W d
  | _, _ => False
theorem ixoGo_i {p : Addr} {xs : List D} {k : Int} {W : D → Prop} {t : Tok W} : ixoGo (some (.ls p xs)) (.int k) W t = optGo (atI xs k) W .mk := optGo_eq
theorem wIxO_h {i : Nat} {wb : WE} {e : Sls} {Q : D → Sls → Prop} : wIxO i wb e Q = ((∃ p xs, e.at i = some (.ls p xs)) ∧ wb e fun y e1 => ixoGo (e1.at i) y (fun d => Q d e1) .mk) := rfl
theorem nodup1 {i : Nat} : [i].Nodup = True := eq_true (by simp)
theorem ends_rt_h {env : Sls} {W : D → Sls → Prop} {d : D} {e : Sls} : (ends env W).rt d e = optGo (outs env e) (W d) .mk := optGo_eq
theorem ends_nx_h {env : Sls} {W : D → Sls → Prop} {e : Sls} : (ends env W).nx e = optGo (outs env e) (W .none) .mk := optGo_eq
theorem ends_rn_h {env : Sls} {W : D → Sls → Prop} {xs : List D} {e : Sls} : (ends env W).rn xs e = optGo (outs env e) (W (.list xs)) .mk := optGo_eq
theorem endsN_rn_h {env : Sls} {W : List D → Sls → Prop} {xs : List D} {e : Sls} : (endsN env W).rn xs e = optGo (outs env e) (W xs) .mk := optGo_eq
/-! ### equal to itself, and of a shape that may be compared -/
theorem eqvAll_self : ∀ {xs : List D}, (∀ x ∈ xs, PyData.eqv x x = true) → PyData.eqvAll xs xs = true
  | [], _ => by simp [PyData.eqvAll]
  | x :: xs, h => by
    simp only [PyData.eqvAll, h x List.mem_cons_self, Bool.true_and]
    exact eqvAll_self fun y hy => h y (List.mem_cons_of_mem _ hy)
theorem eqv_tup {xs : List D} (h : ∀ x ∈ xs, PyData.eqv x x = true) : PyData.eqv (.tuple xs) (.tuple xs) = true := by
  simp only [PyData.eqv]; exact eqvAll_self h
theorem eqv_lst {xs : List D} (h : ∀ x ∈ xs, PyData.eqv x x = true) : PyData.eqv (.list xs) (.list xs) = true := by
  simp only [PyData.eqv]; exact eqvAll_self h
theorem eqv_i (i : Int) : PyData.eqv (.int i) (.int i) = true := by simp [PyData.eqv]
theorem eqv_s (i : Str) : PyData.eqv (.str i) (.str i) = true := by simp [PyData.eqv]
theorem eqv_non : PyData.eqv .none .none = true := rfl
theorem eqv_int_non {i : Int} : PyData.eqv (.int i) .none = false := by simp [PyData.eqv]
theorem eqv_non_int {i : Int} : PyData.eqv .none (.int i) = false := by simp [PyData.eqv]
theorem eqv_l_nil {x : D} {xs : List D} : PyData.eqv (.list (x :: xs)) (.list []) = false := by simp [PyData.eqv, PyData.eqvAll]
theorem eqv_nil_nil : PyData.eqv (.list []) (.list []) = true := by simp [PyData.eqv, PyData.eqvAll]
/-- what lies flat: at most n deep -/
def Flat (n : Nat) (x : D) : Prop := x.canLay0 = true ∧ x.depth ≤ n
theorem Flat.shaped {n : Nat} {x : D} (h : Flat n x) (l : n ≤ 64 := by decide) : SeqAt.shaped x = true := by
  unfold SeqAt.shaped
  rw [h.1, Bool.true_and, decide_eq_true_eq]
  exact Nat.le_trans h.2 l
theorem flatAll {n : Nat} : ∀ {xs : List D}, (∀ x ∈ xs, Flat n x) → PyData.canLayAll0 xs = true ∧ PyData.depthAll xs ≤ n
  | [], _ => by simp [PyData.canLayAll0, PyData.depthAll]
  | x :: xs, h => by
    obtain ⟨h1, h2⟩ := h x List.mem_cons_self
    obtain ⟨g1, g2⟩ := flatAll (xs := xs) fun y hy => h y (List.mem_cons_of_mem _ hy)
    simp only [PyData.canLayAll0, PyData.depthAll, h1, g1, Bool.and_self, true_and]
    omega
theorem Flat.int {i : Int} {n : Nat} (h : 1 ≤ n := by decide) : Flat n (.int i) := ⟨by simp [PyData.canLay0], by simp [PyData.depth]; try omega⟩
theorem Flat.non {n : Nat} (h : 1 ≤ n := by decide) : Flat n .none := ⟨by simp [PyData.canLay0], by simp [PyData.depth]; try omega⟩
theorem Flat.bool {b : Bool} {n : Nat} (h : 1 ≤ n := by decide) : Flat n (.bool b) := ⟨by simp [PyData.canLay0], by simp [PyData.depth]; try omega⟩
theorem Flat.tup {xs : List D} {n : Nat} (h : ∀ x ∈ xs, Flat n x) : Flat (n + 1) (.tuple xs) := by
  have := flatAll h
  exact ⟨by simp [PyData.canLay0, this.1], by simp [PyData.depth]; omega⟩
theorem Flat.lst {xs : List D} {n : Nat} (h : ∀ x ∈ xs, Flat n x) : Flat (n + 1) (.list xs) := by
  have := flatAll h
  exact ⟨by simp [PyData.canLay0, this.1], by simp [PyData.depth]; omega⟩
theorem Flat.nil {n : Nat} (h : 1 ≤ n := by decide) : Flat n (.list []) := ⟨by simp [PyData.canLay0, PyData.canLayAll0], by simp [PyData.depth, PyData.depthAll]; try omega⟩
/-- one statement by itself, when it leaves the frame alone -/
theorem seq_if {s r : WS} {W : WEnds} {e : Sls} (h : ∀ N : Sls → Prop, N e → s { W with nx := N } e) (k : r W e) : wSeq s r W e := h _ k
/-- one statement by itself -/
theorem seq_to {s r : WS} {W : WEnds} {e : Sls} (e' : Sls) (h : ∀ N : Sls → Prop, N e' → s { W with nx := N } e) (k : r W e') : wSeq s r W e := h _ k
/-- one statement by itself, when what it leaves is told only so far -/
theorem seq_any {s r : WS} {W : WEnds} {e : Sls} (E : Sls → Prop) (h : ∀ N : Sls → Prop, (∀ e', E e' → N e') → s { W with nx := N } e) (k : ∀ e', E e' → r W e') : wSeq s r W e := h _ k
theorem eqv_b (b c : Bool) : PyData.eqv (.bool b) (.bool c) = (b == c) := by simp only [PyData.eqv]
theorem shaped_is (d : D) (i : Int) (j : Int) : SeqAt.shaped (.tuple [.int i, .int j]) = true := Flat.shaped (n := 2) (Flat.tup (n := 1) fun x hx => by
  simp only [List.mem_cons, List.not_mem_nil, or_false] at hx
  rcases hx with h | h <;> rw [h] <;> exact Flat.int)
theorem shaped_ints (is : List Int) : SeqAt.shaped (.list (is.map PyData.int)) = true := Flat.shaped (n := 2) (Flat.lst (n := 1) fun x hx => by
  obtain ⟨i, _, rfl⟩ := List.mem_map.mp hx
  exact Flat.int)
theorem shaped_nil : SeqAt.shaped (.list []) = true := Flat.shaped (n := 2) Flat.nil
theorem seq_go {s r : WS} {W : WEnds} {e : Sls} (h : s { W with nx := r W } e) : wSeq s r W e := h
end Dl

namespace K7
open PySem PySem.Spec PyProof.Rows L2 Dl
abbrev prog : PySem.Program := PySem.Challenge.pw_pouredastold_k07_whole_samples_and_doubl
def topS (i : Nat) : Stmt := prog.main.body.getD i (.Pass ⟨0, 0, 0, 0⟩)
abbrev s_is_int : Stmt := topS 7
def d_is_int : He.DefD := ⟨("is_int", none), "is_int", "is_int", defArgs s_is_int, defBody s_is_int, defScope s_is_int, [], []⟩
theorem sc_is_int : FnScope ["value", "low", "high"] ["value", "low", "high"] (defScope s_is_int) := ⟨rfl, rfl, rfl, by decide +kernel, rfl, by decide +kernel, by decide +kernel⟩
abbrev s_is_whole : Stmt := topS 8
def d_is_whole : He.DefD := ⟨("is_whole", none), "is_whole", "is_whole", defArgs s_is_whole, defBody s_is_whole, defScope s_is_whole, [], []⟩
theorem sc_is_whole : FnScope ["value"] ["value"] (defScope s_is_whole) := ⟨rfl, rfl, rfl, by decide +kernel, rfl, by decide +kernel, by decide +kernel⟩
abbrev s_common_int : Stmt := topS 11
def d_common_int : He.DefD := ⟨("common_int", none), "common_int", "common_int", defArgs s_common_int, defBody s_common_int, defScope s_common_int, [], []⟩
theorem sc_common_int : FnScope ["one", "other"] ["one", "other"] (defScope s_common_int) := ⟨rfl, rfl, rfl, by decide +kernel, rfl, by decide +kernel, by decide +kernel⟩
abbrev s_is_no_more : Stmt := topS 14
def d_is_no_more : He.DefD := ⟨("is_no_more", none), "is_no_more", "is_no_more", defArgs s_is_no_more, defBody s_is_no_more, defScope s_is_no_more, [], []⟩
theorem sc_is_no_more : FnScope ["one", "other"] ["one", "other"] (defScope s_is_no_more) := ⟨rfl, rfl, rfl, by decide +kernel, rfl, by decide +kernel, by decide +kernel⟩
abbrev s_chosen : Stmt := topS 17
def d_chosen : He.DefD := ⟨("chosen", none), "chosen", "chosen", defArgs s_chosen, defBody s_chosen, defScope s_chosen, [], []⟩
theorem sc_chosen : FnScope ["many", "some", "found", "at"] ["many", "some"] (defScope s_chosen) := ⟨rfl, rfl, rfl, by decide +kernel, rfl, by decide +kernel, by decide +kernel⟩
abbrev s_told_whole : Stmt := topS 28
def d_told_whole : He.DefD := ⟨("told_whole", none), "told_whole", "told_whole", defArgs s_told_whole, defBody s_told_whole, defScope s_told_whole, [], []⟩
theorem sc_told_whole : FnScope ["tasters", "found", "lap"] ["tasters"] (defScope s_told_whole) := ⟨rfl, rfl, rfl, by decide +kernel, rfl, by decide +kernel, by decide +kernel⟩
abbrev s_told_outcome : Stmt := topS 42
def d_told_outcome : He.DefD := ⟨("told_outcome", none), "told_outcome", "told_outcome", defArgs s_told_outcome, defBody s_told_outcome, defScope s_told_outcome, [], []⟩
theorem sc_told_outcome : FnScope ["plan", "firsts", "seconds", "first", "passes", "fails", "second", "let"] ["plan", "firsts", "seconds"] (defScope s_told_outcome) := ⟨rfl, rfl, rfl, by decide +kernel, rfl, by decide +kernel, by decide +kernel⟩
abbrev s__law_pot : Stmt := topS 46
def d__law_pot : He.DefD := ⟨("_law_pot", none), "_law_pot", "_law_pot", defArgs s__law_pot, defBody s__law_pot, defScope s__law_pot, [], []⟩
theorem sc__law_pot : FnScope ["script", "place", "cell", "own", "small"] ["script", "place"] (defScope s__law_pot) := ⟨rfl, rfl, rfl, by decide +kernel, rfl, by decide +kernel, by decide +kernel⟩
abbrev s__law_take : Stmt := topS 47
def d__law_take : He.DefD := ⟨("_law_take", none), "_law_take", "_law_take", defArgs s__law_take, defBody s__law_take, defScope s__law_take, [], []⟩
theorem sc__law_take : FnScope ["pot", "upto", "prime", "blend", "digit"] ["pot", "upto"] (defScope s__law_take) := ⟨rfl, rfl, rfl, by decide +kernel, rfl, by decide +kernel, by decide +kernel⟩
abbrev s__law_cells : Stmt := topS 49
def d__law_cells : He.DefD := ⟨("_law_cells", none), "_law_cells", "_law_cells", defArgs s__law_cells, defBody s__law_cells, defScope s__law_cells, [], []⟩
theorem sc__law_cells : FnScope ["script", "most"] ["script", "most"] (defScope s__law_cells) := ⟨rfl, rfl, rfl, by decide +kernel, rfl, by decide +kernel, by decide +kernel⟩
abbrev s__law_frac : Stmt := topS 51
def d__law_frac : He.DefD := ⟨("_law_frac", none), "_law_frac", "_law_frac", defArgs s__law_frac, defBody s__law_frac, defScope s__law_frac, [], []⟩
theorem sc__law_frac : FnScope ["top", "bottom", "one", "other"] ["top", "bottom"] (defScope s__law_frac) := ⟨rfl, rfl, rfl, by decide +kernel, rfl, by decide +kernel, by decide +kernel⟩
abbrev s__law_is_less : Stmt := topS 54
def d__law_is_less : He.DefD := ⟨("_law_is_less", none), "_law_is_less", "_law_is_less", defArgs s__law_is_less, defBody s__law_is_less, defScope s__law_is_less, [], []⟩
theorem sc__law_is_less : FnScope ["one", "other"] ["one", "other"] (defScope s__law_is_less) := ⟨rfl, rfl, rfl, by decide +kernel, rfl, by decide +kernel, by decide +kernel⟩
abbrev s__law_choices : Stmt := topS 55
def d__law_choices : He.DefD := ⟨("_law_choices", none), "_law_choices", "_law_choices", defArgs s__law_choices, defBody s__law_choices, defScope s__law_choices, [], []⟩
theorem sc__law_choices : FnScope ["many", "few", "found", "at"] ["many", "few"] (defScope s__law_choices) := ⟨rfl, rfl, rfl, by decide +kernel, rfl, by decide +kernel, by decide +kernel⟩
abbrev s__law_outcome : Stmt := topS 60
def d__law_outcome : He.DefD := ⟨("_law_outcome", none), "_law_outcome", "_law_outcome", defArgs s__law_outcome, defBody s__law_outcome, defScope s__law_outcome, [], []⟩
theorem sc__law_outcome : FnScope ["plan", "firsts", "seconds", "first", "passes", "fails", "second", "let"] ["plan", "firsts", "seconds"] (defScope s__law_outcome) := ⟨rfl, rfl, rfl, by decide +kernel, rfl, by decide +kernel, by decide +kernel⟩
abbrev s_are_ints : Stmt := topS 9
def d_are_ints : He.DefD := ⟨("are_ints", none), "are_ints", "are_ints", defArgs s_are_ints, defBody s_are_ints, defScope s_are_ints, [], []⟩
theorem sc_are_ints : FnScope ["value", "low", "high", "one"] ["value", "low", "high"] (defScope s_are_ints) := ⟨rfl, rfl, rfl, by decide +kernel, rfl, by decide +kernel, by decide +kernel⟩
abbrev s_lowest : Stmt := topS 12
def d_lowest : He.DefD := ⟨("lowest", none), "lowest", "lowest", defArgs s_lowest, defBody s_lowest, defScope s_lowest, [], []⟩
theorem sc_lowest : FnScope ["top", "bottom", "less"] ["top", "bottom"] (defScope s_lowest) := ⟨rfl, rfl, rfl, by decide +kernel, rfl, by decide +kernel, by decide +kernel⟩
abbrev s_is_fraction : Stmt := topS 13
def d_is_fraction : He.DefD := ⟨("is_fraction", none), "is_fraction", "is_fraction", defArgs s_is_fraction, defBody s_is_fraction, defScope s_is_fraction, [], []⟩
theorem sc_is_fraction : FnScope ["value"] ["value"] (defScope s_is_fraction) := ⟨rfl, rfl, rfl, by decide +kernel, rfl, by decide +kernel, by decide +kernel⟩
abbrev s_look_at_lot : Stmt := topS 18
def d_look_at_lot : He.DefD := ⟨("look_at_lot", none), "look_at_lot", "look_at_lot", defArgs s_look_at_lot, defBody s_look_at_lot, defScope s_look_at_lot, [], []⟩
theorem sc_look_at_lot : FnScope ["bottles", "bad"] ["bottles", "bad"] (defScope s_look_at_lot) := ⟨rfl, rfl, rfl, by decide +kernel, rfl, by decide +kernel, by decide +kernel⟩
abbrev s_told_rest : Stmt := topS 29
def d_told_rest : He.DefD := ⟨("told_rest", none), "told_rest", "told_rest", defArgs s_told_rest, defBody s_told_rest, defScope s_told_rest, [], []⟩
theorem sc_told_rest : FnScope ["tasters", "right", "total", "told", "wrong", "lap"] ["tasters", "right"] (defScope s_told_rest) := ⟨rfl, rfl, rfl, by decide +kernel, rfl, by decide +kernel, by decide +kernel⟩
abbrev s_told_second : Stmt := topS 38
def d_told_second : He.DefD := ⟨("told_second", none), "told_second", "told_second", defArgs s_told_second, defBody s_told_second, defScope s_told_second, [], []⟩
theorem sc_told_second : FnScope ["bottles", "bad", "second", "let", "total", "found"] ["bottles", "bad", "second", "let"] (defScope s_told_second) := ⟨rfl, rfl, rfl, by decide +kernel, rfl, by decide +kernel, by decide +kernel⟩
abbrev s__law_of : Stmt := topS 48
def d__law_of : He.DefD := ⟨("_law_of", none), "_law_of", "_law_of", defArgs s__law_of, defBody s__law_of, defScope s__law_of, [], []⟩
theorem sc__law_of : FnScope ["pot", "pool"] ["pot", "pool"] (defScope s__law_of) := ⟨rfl, rfl, rfl, by decide +kernel, rfl, by decide +kernel, by decide +kernel⟩
abbrev s__law_plus : Stmt := topS 52
def d__law_plus : He.DefD := ⟨("_law_plus", none), "_law_plus", "_law_plus", defArgs s__law_plus, defBody s__law_plus, defScope s__law_plus, [], []⟩
theorem sc__law_plus : FnScope ["one", "other"] ["one", "other"] (defScope s__law_plus) := ⟨rfl, rfl, rfl, by decide +kernel, rfl, by decide +kernel, by decide +kernel⟩
abbrev s__law_times : Stmt := topS 53
def d__law_times : He.DefD := ⟨("_law_times", none), "_law_times", "_law_times", defArgs s__law_times, defBody s__law_times, defScope s__law_times, [], []⟩
theorem sc__law_times : FnScope ["one", "other"] ["one", "other"] (defScope s__law_times) := ⟨rfl, rfl, rfl, by decide +kernel, rfl, by decide +kernel, by decide +kernel⟩
abbrev s__law_chance : Stmt := topS 56
def d__law_chance : He.DefD := ⟨("_law_chance", none), "_law_chance", "_law_chance", defArgs s__law_chance, defBody s__law_chance, defScope s__law_chance, [], []⟩
theorem sc__law_chance : FnScope ["bottles", "bad", "tasted", "found"] ["bottles", "bad", "tasted", "found"] (defScope s__law_chance) := ⟨rfl, rfl, rfl, by decide +kernel, rfl, by decide +kernel, by decide +kernel⟩
abbrev s__law_passes : Stmt := topS 57
def d__law_passes : He.DefD := ⟨("_law_passes", none), "_law_passes", "_law_passes", defArgs s__law_passes, defBody s__law_passes, defScope s__law_passes, [], []⟩
theorem sc__law_passes : FnScope ["bottles", "bad", "tasted", "let", "some", "found"] ["bottles", "bad", "tasted", "let"] (defScope s__law_passes) := ⟨rfl, rfl, rfl, by decide +kernel, rfl, by decide +kernel, by decide +kernel⟩
abbrev s__law_guessed : Stmt := topS 58
def d__law_guessed : He.DefD := ⟨("_law_guessed", none), "_law_guessed", "_law_guessed", defArgs s__law_guessed, defBody s__law_guessed, defScope s__law_guessed, [], []⟩
theorem sc__law_guessed : FnScope ["tasters", "right", "lap", "many", "ways", "whole", "times"] ["tasters", "right"] (defScope s__law_guessed) := ⟨rfl, rfl, rfl, by decide +kernel, rfl, by decide +kernel, by decide +kernel⟩
abbrev s__law_plan_drawn : Stmt := topS 61
def d__law_plan_drawn : He.DefD := ⟨("_law_plan_drawn", none), "_law_plan_drawn", "_law_plan_drawn", defArgs s__law_plan_drawn, defBody s__law_plan_drawn, defScope s__law_plan_drawn, [], []⟩
theorem sc__law_plan_drawn : FnScope ["pot", "bottles", "first", "second", "passes", "fails"] ["pot", "bottles"] (defScope s__law_plan_drawn) := ⟨rfl, rfl, rfl, by decide +kernel, rfl, by decide +kernel, by decide +kernel⟩
abbrev s_look_at_sample : Stmt := topS 19
def d_look_at_sample : He.DefD := ⟨("look_at_sample", none), "look_at_sample", "look_at_sample", defArgs s_look_at_sample, defBody s_look_at_sample, defScope s_look_at_sample, [], []⟩
theorem sc_look_at_sample : FnScope ["bottles", "bad", "tasted"] ["bottles", "bad", "tasted"] (defScope s_look_at_sample) := ⟨rfl, rfl, rfl, by decide +kernel, rfl, by decide +kernel, by decide +kernel⟩
abbrev s_told_chance : Stmt := topS 20
def d_told_chance : He.DefD := ⟨("told_chance", none), "told_chance", "told_chance", defArgs s_told_chance, defBody s_told_chance, defScope s_told_chance, [], []⟩
theorem sc_told_chance : FnScope ["bottles", "bad", "tasted", "found"] ["bottles", "bad", "tasted", "found"] (defScope s_told_chance) := ⟨rfl, rfl, rfl, by decide +kernel, rfl, by decide +kernel, by decide +kernel⟩
abbrev s_told_at_most : Stmt := topS 22
def d_told_at_most : He.DefD := ⟨("told_at_most", none), "told_at_most", "told_at_most", defArgs s_told_at_most, defBody s_told_at_most, defScope s_told_at_most, [], []⟩
theorem sc_told_at_most : FnScope ["bottles", "bad", "tasted", "let", "total", "found"] ["bottles", "bad", "tasted", "let"] (defScope s_told_at_most) := ⟨rfl, rfl, rfl, by decide +kernel, rfl, by decide +kernel, by decide +kernel⟩
abbrev s_surely_found : Stmt := topS 25
def d_surely_found : He.DefD := ⟨("surely_found", none), "surely_found", "surely_found", defArgs s_surely_found, defBody s_surely_found, defScope s_surely_found, [], []⟩
theorem sc_surely_found : FnScope ["bottles", "bad"] ["bottles", "bad"] (defScope s_surely_found) := ⟨rfl, rfl, rfl, by decide +kernel, rfl, by decide +kernel, by decide +kernel⟩
abbrev s_chance_by_guessing : Stmt := topS 27
def d_chance_by_guessing : He.DefD := ⟨("chance_by_guessing", none), "chance_by_guessing", "chance_by_guessing", defArgs s_chance_by_guessing, defBody s_chance_by_guessing, defScope s_chance_by_guessing, [], []⟩
theorem sc_chance_by_guessing : FnScope ["tasters", "right", "number"] ["tasters", "right"] (defScope s_chance_by_guessing) := ⟨rfl, rfl, rfl, by decide +kernel, rfl, by decide +kernel, by decide +kernel⟩
abbrev s_fewest_right : Stmt := topS 30
def d_fewest_right : He.DefD := ⟨("fewest_right", none), "fewest_right", "fewest_right", defArgs s_fewest_right, defBody s_fewest_right, defScope s_fewest_right, [], []⟩
theorem sc_fewest_right : FnScope ["tasters", "bound", "right"] ["tasters", "bound"] (defScope s_fewest_right) := ⟨rfl, rfl, rfl, by decide +kernel, rfl, by decide +kernel, by decide +kernel⟩
abbrev s_is_plan : Stmt := topS 35
def d_is_plan : He.DefD := ⟨("is_plan", none), "is_plan", "is_plan", defArgs s_is_plan, defBody s_is_plan, defScope s_is_plan, [], []⟩
theorem sc_is_plan : FnScope ["bottles", "value", "first", "passes", "fails", "second", "let"] ["bottles", "value"] (defScope s_is_plan) := ⟨rfl, rfl, rfl, by decide +kernel, rfl, by decide +kernel, by decide +kernel⟩
abbrev s_told_ways : Stmt := topS 37
def d_told_ways : He.DefD := ⟨("told_ways", none), "told_ways", "told_ways", defArgs s_told_ways, defBody s_told_ways, defScope s_told_ways, [], []⟩
theorem sc_told_ways : FnScope ["bottles", "bad", "plan", "rest", "found", "first", "passes", "fails", "second", "let", "at_once", "failing", "later", "ways"] ["bottles", "bad", "plan"] (defScope s_told_ways) := ⟨rfl, rfl, rfl, by decide +kernel, rfl, by decide +kernel, by decide +kernel⟩
abbrev s__law_passes_rest : Stmt := topS 63
def d__law_passes_rest : He.DefD := ⟨("_law_passes_rest", none), "_law_passes_rest", "_law_passes_rest", defArgs s__law_passes_rest, defBody s__law_passes_rest, defScope s__law_passes_rest, [], []⟩
theorem sc__law_passes_rest : FnScope ["bottles", "bad", "tasted", "let"] ["bottles", "bad", "tasted", "let"] (defScope s__law_passes_rest) := ⟨rfl, rfl, rfl, by decide +kernel, rfl, by decide +kernel, by decide +kernel⟩
abbrev s_chance_of : Stmt := topS 21
def d_chance_of : He.DefD := ⟨("chance_of", none), "chance_of", "chance_of", defArgs s_chance_of, defBody s_chance_of, defScope s_chance_of, [], []⟩
theorem sc_chance_of : FnScope ["bottles", "bad", "tasted", "found"] ["bottles", "bad", "tasted", "found"] (defScope s_chance_of) := ⟨rfl, rfl, rfl, by decide +kernel, rfl, by decide +kernel, by decide +kernel⟩
abbrev s_chance_to_pass : Stmt := topS 23
def d_chance_to_pass : He.DefD := ⟨("chance_to_pass", none), "chance_to_pass", "chance_to_pass", defArgs s_chance_to_pass, defBody s_chance_to_pass, defScope s_chance_to_pass, [], []⟩
theorem sc_chance_to_pass : FnScope ["bottles", "bad", "tasted", "let"] ["bottles", "bad", "tasted", "let"] (defScope s_chance_to_pass) := ⟨rfl, rfl, rfl, by decide +kernel, rfl, by decide +kernel, by decide +kernel⟩
abbrev s_fewest_tasted : Stmt := topS 24
def d_fewest_tasted : He.DefD := ⟨("fewest_tasted", none), "fewest_tasted", "fewest_tasted", defArgs s_fewest_tasted, defBody s_fewest_tasted, defScope s_fewest_tasted, [], []⟩
theorem sc_fewest_tasted : FnScope ["bottles", "bad", "let", "bound", "tasted"] ["bottles", "bad", "let", "bound"] (defScope s_fewest_tasted) := ⟨rfl, rfl, rfl, by decide +kernel, rfl, by decide +kernel, by decide +kernel⟩
abbrev s_least_bad : Stmt := topS 26
def d_least_bad : He.DefD := ⟨("least_bad", none), "least_bad", "least_bad", defArgs s_least_bad, defBody s_least_bad, defScope s_least_bad, [], []⟩
theorem sc_least_bad : FnScope ["bottles", "tasted", "let", "bound", "bad"] ["bottles", "tasted", "let", "bound"] (defScope s_least_bad) := ⟨rfl, rfl, rfl, by decide +kernel, rfl, by decide +kernel, by decide +kernel⟩
abbrev s_look_at_plan : Stmt := topS 36
def d_look_at_plan : He.DefD := ⟨("look_at_plan", none), "look_at_plan", "look_at_plan", defArgs s_look_at_plan, defBody s_look_at_plan, defScope s_look_at_plan, [], []⟩
theorem sc_look_at_plan : FnScope ["bottles", "bad", "plan"] ["bottles", "bad", "plan"] (defScope s_look_at_plan) := ⟨rfl, rfl, rfl, by decide +kernel, rfl, by decide +kernel, by decide +kernel⟩
abbrev s__law_by_plan : Stmt := topS 62
def d__law_by_plan : He.DefD := ⟨("_law_by_plan", none), "_law_by_plan", "_law_by_plan", defArgs s__law_by_plan, defBody s__law_by_plan, defScope s__law_by_plan, [], []⟩
theorem sc__law_by_plan : FnScope ["bottles", "bad", "plan", "firsts", "first", "passes", "fails", "second", "let", "whole", "good", "again", "ways"] ["bottles", "bad", "plan"] (defScope s__law_by_plan) := ⟨rfl, rfl, rfl, by decide +kernel, rfl, by decide +kernel, by decide +kernel⟩
abbrev s_pass_by : Stmt := topS 39
def d_pass_by : He.DefD := ⟨("pass_by", none), "pass_by", "pass_by", defArgs s_pass_by, defBody s_pass_by, defScope s_pass_by, [], []⟩
theorem sc_pass_by : FnScope ["bottles", "bad", "plan", "at_once", "failing", "later", "whole"] ["bottles", "bad", "plan"] (defScope s_pass_by) := ⟨rfl, rfl, rfl, by decide +kernel, rfl, by decide +kernel, by decide +kernel⟩
abbrev s_again_by : Stmt := topS 40
def d_again_by : He.DefD := ⟨("again_by", none), "again_by", "again_by", defArgs s_again_by, defBody s_again_by, defScope s_again_by, [], []⟩
theorem sc_again_by : FnScope ["bottles", "bad", "plan", "at_once", "failing", "later", "whole"] ["bottles", "bad", "plan"] (defScope s_again_by) := ⟨rfl, rfl, rfl, by decide +kernel, rfl, by decide +kernel, by decide +kernel⟩
abbrev s_tasted_by : Stmt := topS 41
def d_tasted_by : He.DefD := ⟨("tasted_by", none), "tasted_by", "tasted_by", defArgs s_tasted_by, defBody s_tasted_by, defScope s_tasted_by, [], []⟩
theorem sc_tasted_by : FnScope ["bottles", "bad", "plan", "at_once", "failing", "later", "whole"] ["bottles", "bad", "plan"] (defScope s_tasted_by) := ⟨rfl, rfl, rfl, by decide +kernel, rfl, by decide +kernel, by decide +kernel⟩
abbrev s_outcome_by : Stmt := topS 43
def d_outcome_by : He.DefD := ⟨("outcome_by", none), "outcome_by", "outcome_by", defArgs s_outcome_by, defBody s_outcome_by, defScope s_outcome_by, [], []⟩
theorem sc_outcome_by : FnScope ["bottles", "plan", "firsts", "seconds"] ["bottles", "plan", "firsts", "seconds"] (defScope s_outcome_by) := ⟨rfl, rfl, rfl, by decide +kernel, rfl, by decide +kernel, by decide +kernel⟩
abbrev s_is_stricter : Stmt := topS 44
def d_is_stricter : He.DefD := ⟨("is_stricter", none), "is_stricter", "is_stricter", defArgs s_is_stricter, defBody s_is_stricter, defScope s_is_stricter, [], []⟩
theorem sc_is_stricter : FnScope ["bottles", "plan", "other", "bad", "mine", "its"] ["bottles", "plan", "other"] (defScope s_is_stricter) := ⟨rfl, rfl, rfl, by decide +kernel, rfl, by decide +kernel, by decide +kernel⟩
abbrev s__law_are_samples_right : Stmt := topS 59
def d__law_are_samples_right : He.DefD := ⟨("_law_are_samples_right", none), "_law_are_samples_right", "_law_are_samples_right", defArgs s__law_are_samples_right, defBody s__law_are_samples_right, defScope s__law_are_samples_right, [], []⟩
theorem sc__law_are_samples_right : FnScope ["pot", "bottles", "bound", "few", "wrong", "tasters", "right", "some", "bad", "tasted", "found", "let", "many"] ["pot"] (defScope s__law_are_samples_right) := ⟨rfl, rfl, rfl, by decide +kernel, rfl, by decide +kernel, by decide +kernel⟩
abbrev s__law_are_plans_right : Stmt := topS 64
def d__law_are_plans_right : He.DefD := ⟨("_law_are_plans_right", none), "_law_are_plans_right", "_law_are_plans_right", defArgs s__law_are_plans_right, defBody s__law_are_plans_right, defScope s__law_are_plans_right, [], []⟩
theorem sc__law_are_plans_right : FnScope ["pot", "bottles", "other", "rows", "let", "once", "bad", "plan", "good", "again", "many", "firsts", "seconds", "some", "mine", "its"] ["pot"] (defScope s__law_are_plans_right) := ⟨rfl, rfl, rfl, by decide +kernel, rfl, by decide +kernel, by decide +kernel⟩
abbrev s__law_right : Stmt := topS 65
def d__law_right : He.DefD := ⟨("_law_right", none), "_law_right", "_law_right", defArgs s__law_right, defBody s__law_right, defScope s__law_right, [], []⟩
theorem sc__law_right : FnScope ["pot", "lap"] ["pot"] (defScope s__law_right) := ⟨rfl, rfl, rfl, by decide +kernel, rfl, by decide +kernel, by decide +kernel⟩
abbrev s_law : Stmt := topS 66
def d_law : He.DefD := ⟨("law", none), "law", "law", defArgs s_law, defBody s_law, defScope s_law, [], []⟩
theorem sc_law : FnScope ["script", "place"] ["script"] (defScope s_law) := ⟨rfl, rfl, rfl, by decide +kernel, rfl, by decide +kernel, by decide +kernel⟩
def fn : List He.DefD := [d_is_int, d_is_whole, d_common_int, d_is_no_more, d_chosen, d_told_whole, d_told_outcome, d__law_pot, d__law_take, d__law_cells, d__law_frac, d__law_is_less, d__law_choices, d__law_outcome, d_are_ints, d_lowest, d_is_fraction, d_look_at_lot, d_told_rest, d_told_second, d__law_of, d__law_plus, d__law_times, d__law_chance, d__law_passes, d__law_guessed, d__law_plan_drawn, d_look_at_sample, d_told_chance, d_told_at_most, d_surely_found, d_chance_by_guessing, d_fewest_right, d_is_plan, d_told_ways, d__law_passes_rest, d_chance_of, d_chance_to_pass, d_fewest_tasted, d_least_bad, d_look_at_plan, d__law_by_plan, d_pass_by, d_again_by, d_tasted_by, d_outcome_by, d_is_stricter, d__law_are_samples_right, d__law_are_plans_right, d__law_right, d_law]
def fa : List He.Fa := [.glo "is_int", .glo "is_whole", .glo "common_int", .glo "is_no_more", .glo "chosen", .glo "told_whole", .glo "told_outcome", .glo "_law_pot", .glo "_law_take", .glo "_law_cells", .glo "_law_frac", .glo "_law_is_less", .glo "_law_choices", .glo "_law_outcome", .glo "are_ints", .glo "lowest", .glo "is_fraction", .glo "look_at_lot", .glo "told_rest", .glo "told_second", .glo "_law_of", .glo "_law_plus", .glo "_law_times", .glo "_law_chance", .glo "_law_passes", .glo "_law_guessed", .glo "_law_plan_drawn", .glo "look_at_sample", .glo "told_chance", .glo "told_at_most", .glo "surely_found", .glo "chance_by_guessing", .glo "fewest_right", .glo "is_plan", .glo "told_ways", .glo "_law_passes_rest", .glo "chance_of", .glo "chance_to_pass", .glo "fewest_tasted", .glo "least_bad", .glo "look_at_plan", .glo "_law_by_plan", .glo "pass_by", .glo "again_by", .glo "tasted_by", .glo "outcome_by", .glo "is_stricter", .glo "_law_are_samples_right", .glo "_law_are_plans_right", .glo "_law_right", .glo "law", .free "abs", .free "all", .free "bool", .free "int", .free "isinstance", .free "len", .free "list", .free "max", .free "min", .free "range", .free "sum", .free "tuple", .int "MOST_BOTTLES" 2000, .int "FIVE" 5, .int "MOST_TASTED" 200, .int "MOST_COMPARED" 300]
abbrev Tx (K : PySem.W.Frag) (mg : Str → Option Value) : Prop := Tx0 fa fn K mg
section
variable {K : PySem.W.Frag} {mg : Str → Option Value}
theorem T_abs (T : Tx K mg) : mg "abs" = none := T.free "abs" (T.c.fact 51 (f := .free "abs") rfl)
theorem T_all (T : Tx K mg) : mg "all" = none := T.free "all" (T.c.fact 52 (f := .free "all") rfl)
theorem T_bool (T : Tx K mg) : mg "bool" = none := T.free "bool" (T.c.fact 53 (f := .free "bool") rfl)
theorem T_int (T : Tx K mg) : mg "int" = none := T.free "int" (T.c.fact 54 (f := .free "int") rfl)
theorem T_isinstance (T : Tx K mg) : mg "isinstance" = none := T.free "isinstance" (T.c.fact 55 (f := .free "isinstance") rfl)
theorem T_len (T : Tx K mg) : mg "len" = none := T.free "len" (T.c.fact 56 (f := .free "len") rfl)
theorem T_list (T : Tx K mg) : mg "list" = none := T.free "list" (T.c.fact 57 (f := .free "list") rfl)
theorem T_max (T : Tx K mg) : mg "max" = none := T.free "max" (T.c.fact 58 (f := .free "max") rfl)
theorem T_min (T : Tx K mg) : mg "min" = none := T.free "min" (T.c.fact 59 (f := .free "min") rfl)
theorem T_range (T : Tx K mg) : mg "range" = none := T.free "range" (T.c.fact 60 (f := .free "range") rfl)
theorem T_sum (T : Tx K mg) : mg "sum" = none := T.free "sum" (T.c.fact 61 (f := .free "sum") rfl)
theorem T_tuple (T : Tx K mg) : mg "tuple" = none := T.free "tuple" (T.c.fact 62 (f := .free "tuple") rfl)
theorem T_MOST_BOTTLES (T : Tx K mg) : ∃ t, mg "MOST_BOTTLES" = some (.int 2000 t) := T.int "MOST_BOTTLES" 2000 (T.c.fact 63 (f := .int "MOST_BOTTLES" 2000) rfl)
theorem T_FIVE (T : Tx K mg) : ∃ t, mg "FIVE" = some (.int 5 t) := T.int "FIVE" 5 (T.c.fact 64 (f := .int "FIVE" 5) rfl)
theorem T_MOST_TASTED (T : Tx K mg) : ∃ t, mg "MOST_TASTED" = some (.int 200 t) := T.int "MOST_TASTED" 200 (T.c.fact 65 (f := .int "MOST_TASTED" 200) rfl)
theorem T_MOST_COMPARED (T : Tx K mg) : ∃ t, mg "MOST_COMPARED" = some (.int 300 t) := T.int "MOST_COMPARED" 300 (T.c.fact 66 (f := .int "MOST_COMPARED" 300) rfl)
end
end K7

/-! The mathematics: choices, sums, fractions in lowest terms. No program in sight. -/
namespace K7
/-! ### choices -/
def ch : Nat → Nat → Nat
  | _, 0 => 1
  | 0, _ + 1 => 0
  | n + 1, k + 1 => ch n k + ch n (k + 1)
theorem ch_zero (n : Nat) : ch n 0 = 1 := by cases n <;> rfl
theorem ch_succ (n k : Nat) : ch (n + 1) (k + 1) = ch n k + ch n (k + 1) := rfl
theorem ch_lt : ∀ {n k : Nat}, n < k → ch n k = 0
  | 0, 0, h => by omega
  | 0, k + 1, _ => rfl
  | n + 1, 0, h => by omega
  | n + 1, k + 1, h => by rw [ch_succ, ch_lt (show n < k by omega), ch_lt (show n < k + 1 by omega)]
theorem ch_self : ∀ n : Nat, ch n n = 1
  | 0 => rfl
  | n + 1 => by rw [ch_succ, ch_self n, ch_lt (Nat.lt_succ_self n)]
theorem ch_pos : ∀ {n k : Nat}, k ≤ n → 0 < ch n k
  | n, 0, _ => by rw [ch_zero]; decide
  | 0, k + 1, h => by omega
  | n + 1, k + 1, h => by rw [ch_succ]; have := ch_pos (n := n) (k := k) (by omega); omega
theorem ch_le : ∀ n k : Nat, ch n k ≤ 2 ^ n
  | n, 0 => by rw [ch_zero]; exact Nat.one_le_two_pow
  | 0, k + 1 => by show 0 ≤ _; omega
  | n + 1, k + 1 => by
    rw [ch_succ, Nat.pow_succ]
    have := ch_le n k
    have := ch_le n (k + 1)
    omega
theorem ch_one : ∀ n : Nat, ch n 1 = n
  | 0 => rfl
  | n + 1 => by rw [ch_succ, ch_zero, ch_one n]; omega
theorem ch_up : ∀ n k : Nat, (n + 1) * ch n k = (k + 1) * ch (n + 1) (k + 1)
  | 0, 0 => rfl
  | 0, k + 1 => by
    rw [ch_succ]
    show 1 * 0 = _
    rw [ch_lt (show 0 < k + 1 by omega), ch_lt (show 0 < k + 1 + 1 by omega)]
    simp
  | n + 1, 0 => by rw [ch_zero, ch_one]; omega
  | n + 1, k + 1 => by
    have h1 := ch_up n k
    have h2 := ch_up n (k + 1)
    have e1 := ch_succ n k
    have e2 := ch_succ (n + 1) (k + 1)
    rw [e2]
    grind
theorem ch_step (n k : Nat) : (k + 1) * ch n (k + 1) + k * ch n k = n * ch n k := by
  have h := ch_up n k
  rw [ch_succ] at h
  grind
theorem ch_sym : ∀ s a b : Nat, a + b = s → ch s a = ch s b
  | 0, a, b, h => by
    have e1 : a = 0 := by omega
    have e2 : b = 0 := by omega
    rw [e1, e2]
  | s + 1, 0, b, h => by
    have e : b = s + 1 := by omega
    rw [e, ch_self, ch_zero]
  | s + 1, a + 1, 0, h => by
    have e : a + 1 = s + 1 := by omega
    rw [e, ch_self, ch_zero]
  | s + 1, a + 1, b + 1, h => by
    rw [ch_succ, ch_succ, ch_sym s a (b + 1) (by omega), ch_sym s (a + 1) b (by omega)]
    omega
/-! ### sums -/
def sN (f : Nat → Nat) : Nat → Nat
  | 0 => 0
  | m + 1 => sN f m + f m
theorem sN_shift (f : Nat → Nat) : ∀ m : Nat, sN f (m + 1) = f 0 + sN (fun i => f (i + 1)) m
  | 0 => by simp [sN]
  | m + 1 => by
    show sN f (m + 1) + f (m + 1) = f 0 + (sN (fun i => f (i + 1)) m + f (m + 1))
    rw [sN_shift f m]
    omega
theorem sN_congr {f g : Nat → Nat} : ∀ {m : Nat}, (∀ i, i < m → f i = g i) → sN f m = sN g m
  | 0, _ => rfl
  | m + 1, h => by
    show sN f m + f m = sN g m + g m
    rw [sN_congr (m := m) fun i hi => h i (by omega), h m (by omega)]
theorem sN_add (f g : Nat → Nat) : ∀ m : Nat, sN (fun i => f i + g i) m = sN f m + sN g m
  | 0 => rfl
  | m + 1 => by
    show sN (fun i => f i + g i) m + (f m + g m) = _
    rw [sN_add f g m]
    show _ = sN f m + f m + (sN g m + g m)
    omega
theorem sN_zero {f : Nat → Nat} : ∀ {m : Nat}, (∀ i, i < m → f i = 0) → sN f m = 0
  | 0, _ => rfl
  | m + 1, h => by
    show sN f m + f m = 0
    rw [sN_zero (m := m) fun i hi => h i (by omega), h m (by omega)]
theorem vander : ∀ a b k : Nat, sN (fun i => ch a i * ch b (k - i)) (k + 1) = ch (a + b) k
  | 0, b, k => by
    rw [sN_shift, sN_zero fun i _ => by rw [ch_lt (show 0 < i + 1 by omega)]; simp]
    rw [ch_zero]
    simp
  | a + 1, b, 0 => by
    rw [ch_zero]
    show 0 + ch (a + 1) 0 * ch b 0 = 1
    rw [ch_zero, ch_zero]
  | a + 1, b, k + 1 => by
    have h1 := vander a b (k + 1)
    have h2 := vander a b k
    rw [sN_shift] at h1 ⊢
    rw [show a + 1 + b = (a + b) + 1 by omega, ch_succ]
    have e : sN (fun i => ch (a + 1) (i + 1) * ch b (k + 1 - (i + 1))) (k + 1) = sN (fun i => ch a i * ch b (k - i)) (k + 1) + sN (fun i => ch a (i + 1) * ch b (k + 1 - (i + 1))) (k + 1) := by
      rw [← sN_add]
      refine sN_congr fun i _ => ?_
      rw [ch_succ, Nat.add_mul]
      rw [show k + 1 - (i + 1) = k - i by omega]
    rw [e, h2, ← h1]
    rw [ch_zero, ch_zero]
    omega
/-- over ints, of the places 0, 1, .. -/
def sR (f : Int → Int) : Nat → Int
  | 0 => 0
  | m + 1 => sR f m + f (m : Int)
theorem sR_congr {f g : Int → Int} : ∀ {m : Nat}, (∀ i : Nat, i < m → f i = g i) → sR f m = sR g m
  | 0, _ => rfl
  | m + 1, h => by
    show sR f m + f m = sR g m + g m
    rw [sR_congr (m := m) fun i hi => h i (by omega), h m (by omega)]
theorem sR_list (f : Int → Int) : ∀ m : Nat, ((List.range m).map fun (i : Nat) => f (i : Int)).sum = sR f m
  | 0 => rfl
  | m + 1 => by
    rw [List.range_succ, List.map_append, List.sum_append, sR_list f m]
    show _ + (f m + 0) = sR f m + f m
    omega
theorem sR_nn {f : Int → Int} : ∀ {m : Nat}, (∀ i : Nat, i < m → 0 ≤ f i) → 0 ≤ sR f m
  | 0, _ => by show (0 : Int) ≤ 0; omega
  | m + 1, h => by
    show 0 ≤ sR f m + f m
    have := sR_nn (m := m) fun i hi => h i (by omega)
    have := h m (by omega)
    omega
theorem sR_le {f : Int → Int} {b : Int} : ∀ {m : Nat}, (∀ i : Nat, i < m → f i ≤ b) → sR f m ≤ m * b
  | 0, _ => by show (0 : Int) ≤ (0 : Nat) * b; simp
  | m + 1, h => by
    show sR f m + f m ≤ ((m + 1 : Nat) : Int) * b
    have h1 := sR_le (m := m) fun i hi => h i (by omega)
    have h2 := h m (by omega)
    have : ((m + 1 : Nat) : Int) * b = m * b + b := by rw [Int.natCast_add, Int.add_mul]; simp
    omega
theorem sR_add (f g : Int → Int) : ∀ m : Nat, sR (fun i => f i + g i) m = sR f m + sR g m
  | 0 => rfl
  | m + 1 => by
    show sR (fun i => f i + g i) m + (f m + g m) = sR f m + f m + (sR g m + g m)
    rw [sR_add f g m]
    omega
theorem sR_mul (c : Int) (f : Int → Int) : ∀ m : Nat, sR (fun i => f i * c) m = sR f m * c
  | 0 => by show (0 : Int) = 0 * c; simp
  | m + 1 => by
    show sR (fun i => f i * c) m + f m * c = (sR f m + f m) * c
    rw [sR_mul c f m, Int.add_mul]
theorem sR_more {f : Int → Int} {m : Nat} : ∀ {k : Nat}, (∀ i : Nat, m ≤ i → i < m + k → f i = 0) → sR f (m + k) = sR f m
  | 0, _ => rfl
  | k + 1, h => by
    show sR f (m + k) + f ((m + k : Nat) : Int) = sR f m
    rw [sR_more (k := k) fun i h1 h2 => h i h1 (by omega), h (m + k) (by omega) (by omega)]
    omega
theorem sR_cast (f : Nat → Nat) : ∀ m : Nat, sR (fun i => (f i.toNat : Int)) m = (sN f m : Int)
  | 0 => rfl
  | m + 1 => by
    show sR (fun i => (f i.toNat : Int)) m + (f ((m : Int)).toNat : Int) = ((sN f m + f m : Nat) : Int)
    rw [sR_cast f m, Int.toNat_natCast, Int.natCast_add]
/-! ### choices of ints -/
def cI (n k : Int) : Int := if 0 ≤ k ∧ k ≤ n then (ch n.toNat k.toNat : Int) else 0
theorem cI_nn (n k : Int) : 0 ≤ cI n k := by unfold cI; split <;> omega
theorem cI_pos {n k : Int} (h0 : 0 ≤ k) (h1 : k ≤ n) : 0 < cI n k := by
  unfold cI
  rw [if_pos ⟨h0, h1⟩]
  have := ch_pos (n := n.toNat) (k := k.toNat) (by omega)
  omega
theorem cI_out {n k : Int} (h : ¬ (0 ≤ k ∧ k ≤ n)) : cI n k = 0 := if_neg h
theorem pow2_cast (n : Nat) : ((2 ^ n : Nat) : Int) = (2 : Int) ^ n := by rw [Int.natCast_pow]; rfl
theorem pow2_mono {a b : Nat} (h : a ≤ b) : (2 : Int) ^ a ≤ 2 ^ b := by
  rw [← pow2_cast, ← pow2_cast]
  have := Nat.pow_le_pow_right (n := 2) (by decide) h
  omega
theorem pow2_pos (a : Nat) : (0 : Int) < 2 ^ a := by
  rw [← pow2_cast]
  have := Nat.two_pow_pos a
  omega
theorem cI_le (n k : Int) : cI n k ≤ 2 ^ n.toNat := by
  unfold cI
  split
  · have := ch_le n.toNat k.toNat
    rw [← pow2_cast]
    omega
  · have := pow2_pos n.toNat
    omega
theorem cI_le_of {n k : Int} {b : Nat} (h : n ≤ b) : cI n k ≤ 2 ^ b := Int.le_trans (cI_le n k) (pow2_mono (by omega))
/-- a turn of the program's loop -/
theorem cI_step {n : Int} {i : Nat} (h : (i : Int) < n) : cI n i * (n - i) / (i + 1) = cI n (i + 1) := by
  have e1 : cI n i = (ch n.toNat i : Int) := by unfold cI; rw [if_pos ⟨by omega, by omega⟩, Int.toNat_natCast]
  have e2 : cI n (i + 1) = (ch n.toNat (i + 1) : Int) := by
    unfold cI
    rw [if_pos ⟨by omega, by omega⟩]
    rw [show ((i : Int) + 1).toNat = i + 1 by omega]
  have s := ch_step n.toNat i
  rw [e1, e2]
  have e3 : ((ch n.toNat i : Nat) : Int) * (n - i) = ((ch n.toNat (i + 1) : Nat) : Int) * ((i : Int) + 1) := by
    have s2 : (((i + 1) * ch n.toNat (i + 1) + i * ch n.toNat i : Nat) : Int) = ((n.toNat * ch n.toNat i : Nat) : Int) := by rw [s]
    have e4 : ((n.toNat : Nat) : Int) = n := by omega
    simp only [Int.natCast_add, Int.natCast_mul, e4] at s2
    grind
  rw [e3]
  exact Int.mul_ediv_cancel _ (by omega)
theorem cI_sym {n k : Int} (h0 : 0 ≤ k) (h1 : k ≤ n) : cI n (n - k) = cI n k := by
  unfold cI
  rw [if_pos ⟨by omega, by omega⟩, if_pos ⟨h0, h1⟩]
  rw [ch_sym n.toNat (n - k).toNat k.toNat (by omega)]
theorem cI_zero {n : Int} (h : 0 ≤ n) : cI n 0 = 1 := by
  unfold cI
  rw [if_pos ⟨by omega, h⟩]
  show (ch n.toNat 0 : Int) = 1
  rw [ch_zero]; rfl
theorem vanderI {b d t : Int} (h0 : 0 ≤ d) (h1 : d ≤ b) (h2 : 0 ≤ t) : sR (fun f => cI d f * cI (b - d) (t - f)) (t + 1).toNat = cI b t := by
  have e : sR (fun f => cI d f * cI (b - d) (t - f)) (t + 1).toNat = sR (fun f => ((ch d.toNat f.toNat * ch (b - d).toNat (t.toNat - f.toNat) : Nat) : Int)) (t + 1).toNat := by
    refine sR_congr fun i hi => ?_
    have a1 : cI d i = (ch d.toNat i : Int) := by
      unfold cI
      split
      · rw [Int.toNat_natCast]
      · rw [ch_lt (by omega)]; rfl
    have a2 : cI (b - d) (t - i) = (ch (b - d).toNat (t.toNat - i) : Int) := by
      unfold cI
      split
      · rw [show (t - (i : Int)).toNat = t.toNat - i by omega]
      · rw [ch_lt (by omega)]; rfl
    show cI d i * cI (b - d) (t - i) = _
    rw [a1, a2, Int.toNat_natCast, Int.natCast_mul]
  rw [e, sR_cast (fun f => ch d.toNat f * ch (b - d).toNat (t.toNat - f)), show (t + 1).toNat = t.toNat + 1 by omega, vander]
  unfold cI
  split
  · rw [show d.toNat + (b - d).toNat = b.toNat by omega]
  · rw [ch_lt (by omega)]; rfl
/-! ### fractions -/
def fr (a b : Int) : Int × Int := (a / (Int.gcd a b : Int), b / (Int.gcd a b : Int))
theorem gcd_pos {a b : Int} (hb : 0 < b) : 0 < (Int.gcd a b : Int) := by
  have : Int.gcd a b ≠ 0 := fun z => by
    have := (Int.gcd_eq_zero_iff.mp z).2
    omega
  omega
theorem fr_spec {a b : Int} (hb : 0 < b) : ∃ g : Int, 0 < g ∧ a = (fr a b).1 * g ∧ b = (fr a b).2 * g := by
  have hg := gcd_pos (a := a) hb
  exact ⟨_, hg, (Int.ediv_mul_cancel (Int.gcd_dvd_left a b)).symm, (Int.ediv_mul_cancel (Int.gcd_dvd_right a b)).symm⟩
theorem fr_cross {a b : Int} (hb : 0 < b) : (fr a b).1 * b = a * (fr a b).2 := by
  obtain ⟨g, hg, e1, e2⟩ := fr_spec (a := a) hb
  generalize (fr a b).1 = x at *
  generalize (fr a b).2 = y at *
  subst e1 e2
  grind
theorem fr_bot {a b : Int} (hb : 0 < b) : 0 < (fr a b).2 := by
  obtain ⟨g, hg, _, e2⟩ := fr_spec (a := a) hb
  refine Int.not_le.mp fun h => ?_
  have : (fr a b).2 * g ≤ 0 := Int.mul_nonpos_of_nonpos_of_nonneg h (by omega)
  omega
theorem fr_top {a b : Int} (ha : 0 ≤ a) (hb : 0 < b) : 0 ≤ (fr a b).1 := by
  exact Int.ediv_nonneg ha (by have := gcd_pos (a := a) hb; omega)
theorem fr_top_le {a b : Int} (ha : 0 ≤ a) (hb : 0 < b) : (fr a b).1 ≤ a := Int.ediv_le_self _ ha
theorem fr_bot_le {a b : Int} (hb : 0 < b) : (fr a b).2 ≤ b := Int.ediv_le_self _ (by omega)
theorem fr_cop {a b : Int} (hb : 0 < b) : Int.gcd (fr a b).1 (fr a b).2 = 1 := by
  unfold fr
  exact Int.gcd_ediv_gcd_ediv_gcd (by have := gcd_pos (a := a) hb; omega)
theorem int_cop {k m n : Int} (h : Int.gcd k m = 1) (d : k ∣ m * n) : k ∣ n := by
  rw [← Int.natAbs_dvd_natAbs] at d ⊢
  rw [Int.natAbs_mul] at d
  exact Nat.Coprime.dvd_of_dvd_mul_left (k := k.natAbs) (m := m.natAbs) h d
theorem fr_cong {a b c d : Int} (hb : 0 < b) (hd : 0 < d) (h : a * d = c * b) : fr a b = fr c d := by
  have p := fr_cross (a := a) hb
  have q := fr_cross (a := c) hd
  have c1 := fr_cop (a := a) hb
  have c2 := fr_cop (a := c) hd
  have b1 := fr_bot (a := a) hb
  have b2 := fr_bot (a := c) hd
  generalize fr a b = x at *
  generalize fr c d = y at *
  obtain ⟨x1, x2⟩ := x
  obtain ⟨y1, y2⟩ := y
  simp only at *
  have key : x1 * y2 = y1 * x2 := by
    have h1 : (x1 * y2) * (b * d) = (y1 * x2) * (b * d) := by grind
    exact Int.eq_of_mul_eq_mul_right (by have := Int.mul_pos hb hd; omega) h1
  -- lowest terms are one
  have d1 : x2 ∣ y2 := by
    have : x2 ∣ x1 * y2 := ⟨y1, by rw [key, Int.mul_comm]⟩
    exact int_cop (by rw [Int.gcd_comm]; exact c1) this
  have d2 : y2 ∣ x2 := by
    have : y2 ∣ y1 * x2 := ⟨x1, by rw [← key, Int.mul_comm]⟩
    exact int_cop (by rw [Int.gcd_comm]; exact c2) this
  have e2 : x2 = y2 := by
    have l1 := Int.le_of_dvd b2 d1
    have l2 := Int.le_of_dvd b1 d2
    omega
  subst e2
  have e1 : x1 = y1 := Int.eq_of_mul_eq_mul_right (by omega) key
  rw [e1]
/-- no fraction below it, compared crosswise -/
theorem fr_le {a b c d : Int} (hb : 0 < b) (h : 0 < d) : ((fr a b).1 * d ≤ c * (fr a b).2) ↔ a * d ≤ c * b := by
  obtain ⟨g, hg, e1, e2⟩ := fr_spec (a := a) hb
  generalize (fr a b).1 = x at *
  generalize (fr a b).2 = y at *
  subst e1 e2
  have k : x * g * d = (x * d) * g := by grind
  have k2 : c * (y * g) = (c * y) * g := by grind
  rw [k, k2]
  exact ⟨fun h => Int.mul_le_mul_of_nonneg_right h (by omega), fun h => Int.le_of_mul_le_mul_right h hg⟩
theorem gcd_mod {x y : Int} (hx : 0 ≤ x) (hy : 0 < y) : Int.gcd y (x % y) = Int.gcd x y := by
  have e : (x % y).natAbs = x.natAbs % y.natAbs := by
    have h1 := Int.emod_nonneg x (show y ≠ 0 by omega)
    have h2 : ((x.natAbs % y.natAbs : Nat) : Int) = x % y := by
      rw [Int.natCast_emod]
      congr 1 <;> omega
    omega
  show Nat.gcd y.natAbs (x % y).natAbs = Nat.gcd x.natAbs y.natAbs
  rw [e, Nat.gcd_comm, ← Nat.gcd_rec, Nat.gcd_comm]
end K7

namespace K7
open PySem PySem.Spec PyProof.Rows L2 Dl
/-! ### what each def does -/
abbrev fD (p : Int × Int) : D := .tuple [.int p.1, .int p.2]
/-- a plan: first, passes, fails, second, let -/
structure Pl where
  f : Int
  p : Int
  q : Int
  s : Int
  l : Int
abbrev plD (x : Pl) : D := .tuple [.int x.f, .int x.p, .int x.q, .int x.s, .int x.l]
def outc (x : Pl) (a b : Int) : D := if a ≤ x.p then .str "pass" else if x.q ≤ a then .str "fail" else if a + b ≤ x.l then .str "pass" else .str "fail"
/-- no more than l bad ones among t of b, d of them bad -/
def atM (b d t l : Int) : Int := sR (fun f => cI d f * cI (b - d) (t - f)) ((if l < t then l else t) + 1).toNat
def gs (t r : Int) : Int := sR (fun i => cI t (r + i) * 2 ^ (t - (r + i)).toNat) (t + 1 - r).toNat
/-- the pot: three ints, the last one no more than m -/
def Pot (m : Nat) (xs : List D) : Prop := ∃ a b c : Int, xs = [.int a, .int b, .int c] ∧ 0 ≤ a ∧ a < 2 ^ 1000 ∧ 0 ≤ b ∧ b < 2 ^ 62 ∧ 0 ≤ c ∧ c ≤ m
structure PlOk (b : Int) (x : Pl) : Prop where
  f0 : 0 ≤ x.f
  f1 : x.f ≤ 200
  s0 : 0 ≤ x.s
  s1 : x.s ≤ 200
  fs : x.f + x.s ≤ b
  p0 : 0 ≤ x.p
  pq : x.p < x.q
  ql : x.q ≤ x.l + 1
  l1 : x.l ≤ 199
def F_is_int : WF := fun env W => ∃ v lo hi : Int, env = [some (.d (.int v)), some (.d (.int lo)), some (.d (.int hi))] ∧ W (.bool (decide (lo ≤ v) && decide (v ≤ hi))) env
def F_is_whole : WF := fun env W => ∃ v : Int, env = [some (.d (.int v))] ∧ W (.bool true) env
def F_common_int : WF := fun env W => ∃ a b : Int, env = [some (.d (.int a)), some (.d (.int b))] ∧ 0 ≤ a ∧ 0 ≤ b ∧ W (.int (Int.gcd a b : Int)) env
def F_is_no_more : WF := fun env W => ∃ a b c d : Int, env = [some (.d (fD (a, b))), some (.d (fD (c, d)))] ∧ Sz 4100 a ∧ Sz 4100 b ∧ Sz 4100 c ∧ Sz 4100 d ∧ W (.bool (decide (a * d ≤ c * b))) env
def F__law_is_less : WF := fun env W => ∃ a b c d : Int, env = [some (.d (fD (a, b))), some (.d (fD (c, d)))] ∧ Sz 4100 a ∧ Sz 4100 b ∧ Sz 4100 c ∧ Sz 4100 d ∧ W (.bool (decide (a * d < c * b))) env
def F_chosen : WF := fun env W => ∃ n k : Int, env = [some (.d (.int n)), some (.d (.int k))] ∧ n ≤ 2000 ∧ 0 ≤ k ∧ k ≤ 3000 ∧ W (.int (cI n k)) env
def F__law_choices : WF := fun env W => ∃ n k : Int, env = [some (.d (.int n)), some (.d (.int k))] ∧ n ≤ 2000 ∧ W (.int (cI n k)) env
def F_told_whole : WF := fun env W => ∃ t : Int, env = [some (.d (.int t))] ∧ 0 ≤ t ∧ t ≤ 200 ∧ W (.int (3 ^ t.toNat)) env
def F_told_outcome : WF := fun env W => ∃ (x : Pl) (a b : Int), env = [some (.d (plD x)), some (.d (.int a)), some (.d (.int b))] ∧ W (outc x a b) env
def F__law_outcome : WF := F_told_outcome
def F__law_pot : WFN := fun env W => ∃ (ns : List Int) (k : Int), env = [some (.d (.list (ns.map PyData.int))), some (.d (.int k))] ∧ ns.length ≤ 63 ∧ (∀ z ∈ ns, Builtin.Int.intBits z ≤ 1048576) ∧ 0 ≤ k ∧ k < 64 ∧ ∀ xs, Pot 0 xs → W xs env
def F__law_take : WF := fun env W => ∃ (p : Addr) (xs : List D) (n : Int) (m : Nat), env = [some (.ls p xs), some (.d (.int n))] ∧ Pot m xs ∧ m ≤ 10000 ∧ 0 < n ∧ n < 2 ^ 63 ∧ ∀ r xs', 0 ≤ r → r < n → Pot (m + 1) xs' → W (.int r) [some (.ls p xs'), some (.d (.int n))]
def F__law_of : WF := fun env W => ∃ (p : Addr) (xs ys : List D) (m : Nat), env = [some (.ls p xs), some (.d (.list ys))] ∧ Pot m xs ∧ m ≤ 10000 ∧ 0 < ys.length ∧ ys.length ≤ 1000 ∧ ∀ d xs', d ∈ ys → Pot (m + 1) xs' → W d [some (.ls p xs'), some (.d (.list ys))]
def F__law_cells : WF := fun env W => ∃ (ys : List D), env = [some (.d (.list ys)), some (.d (.int 2))] ∧ ys.length ≤ 63 ∧ ∀ m : Nat, m ≤ 2 → W (.list (rangeD 0 m)) env
def F__law_frac : WF := fun env W => ∃ a b : Int, env = [some (.d (.int a)), some (.d (.int b))] ∧ 0 ≤ a ∧ 0 < b ∧ b < 2 ^ 7900 ∧ W (fD (fr a b)) env
def F_lowest : WF := F__law_frac
def F__law_plus : WF := fun env W => ∃ a b c d : Int, env = [some (.d (fD (a, b))), some (.d (fD (c, d)))] ∧ Sz 3900 a ∧ Sz 3900 b ∧ Sz 3900 c ∧ Sz 3900 d ∧ 0 < b ∧ 0 < d ∧ W (fD (fr (a * d + c * b) (b * d))) env
def F__law_times : WF := fun env W => ∃ a b c d : Int, env = [some (.d (fD (a, b))), some (.d (fD (c, d)))] ∧ Sz 3900 a ∧ Sz 3900 b ∧ Sz 3900 c ∧ Sz 3900 d ∧ 0 < b ∧ 0 < d ∧ W (fD (fr (a * c) (b * d))) env
def F_are_ints : WF := fun env W => ∃ (ns : List Int) (lo hi : Int), env = [some (.d (.tuple (ns.map PyData.int))), some (.d (.int lo)), some (.d (.int hi))] ∧ ns.length ≤ 1000 ∧ W (.bool (ns.all fun v => decide (lo ≤ v) && decide (v ≤ hi))) env
def F_is_fraction : WF := fun env W => ∃ a b : Int, env = [some (.d (fD (a, b)))] ∧ 0 ≤ a ∧ a ≤ b ∧ 1 ≤ b ∧ Int.gcd a b = 1 ∧ W (.bool true) env
def F_look_at_lot : WF := fun env W => ∃ b d : Int, env = [some (.d (.int b)), some (.d (.int d))] ∧ 1 ≤ b ∧ b ≤ 2000 ∧ 0 ≤ d ∧ d ≤ b ∧ W .none env
def F_look_at_sample : WF := fun env W => ∃ b d t : Int, env = [some (.d (.int b)), some (.d (.int d)), some (.d (.int t))] ∧ 1 ≤ b ∧ b ≤ 2000 ∧ 0 ≤ d ∧ d ≤ b ∧ 0 ≤ t ∧ t ≤ b ∧ W .none env
def F_told_rest : WF := fun env W => ∃ t r : Int, env = [some (.d (.int t)), some (.d (.int r))] ∧ 0 ≤ t ∧ t ≤ 200 ∧ 0 ≤ r ∧ r ≤ 200 ∧ W (.int (gs t r)) env
def F_told_second : WF := fun env W => ∃ b d s l : Int, env = [some (.d (.int b)), some (.d (.int d)), some (.d (.int s)), some (.d (.int l))] ∧ b - d ≤ 2000 ∧ d ≤ 2000 ∧ 0 ≤ s ∧ s ≤ 2000 ∧ 0 ≤ l ∧ l ≤ 2000 ∧ W (.int (atM b d s l)) env
def F__law_chance : WF := fun env W => ∃ b d t f : Int, env = [some (.d (.int b)), some (.d (.int d)), some (.d (.int t)), some (.d (.int f))] ∧ b ≤ 2000 ∧ 0 ≤ d ∧ d ≤ b ∧ 0 ≤ t ∧ t ≤ b ∧ 0 ≤ f ∧ f ≤ t ∧ W (fD (fr (cI d f * cI (b - d) (t - f)) (cI b t))) env
def F_told_chance : WF := F__law_chance
def F__law_passes : WF := fun env W => ∃ b d t l : Int, env = [some (.d (.int b)), some (.d (.int d)), some (.d (.int t)), some (.d (.int l))] ∧ b ≤ 2000 ∧ 0 ≤ d ∧ d ≤ 2000 ∧ 0 ≤ t ∧ t ≤ b ∧ 0 ≤ l ∧ l ≤ 2000 ∧ W (fD (fr (atM b d t l) (cI b t))) env
def F_told_at_most : WF := F__law_passes
def F__law_guessed : WF := fun env W => ∃ t r : Int, env = [some (.d (.int t)), some (.d (.int r))] ∧ 0 ≤ t ∧ t ≤ 200 ∧ 0 ≤ r ∧ r ≤ t ∧ W (fD (fr (gs t r) (3 ^ t.toNat))) env
def F__law_plan_drawn : WF := fun env W => ∃ (p : Addr) (xs : List D) (b : Int) (m : Nat), env = [some (.ls p xs), some (.d (.int b))] ∧ Pot m xs ∧ m ≤ 9000 ∧ 0 ≤ b ∧ b ≤ 2000 ∧ ∀ x xs', PlOk b x → Pot (m + 5) xs' → W (plD x) [some (.ls p xs'), some (.d (.int b))]
theorem Pot.mono {m k : Nat} {xs : List D} (h : Pot m xs) (l : m ≤ k) : Pot k xs := by
  obtain ⟨a, b, c, e, h1, h2, h3, h4, h5, h6⟩ := h
  exact ⟨a, b, c, e, h1, h2, h3, h4, h5, by omega⟩
/-! plans -/
def wP (b d : Int) (x : Pl) (i : Int) : Int := cI d i * cI (b - d) (x.f - i)
def rP (b : Int) (x : Pl) : Int := cI (b - x.f) x.s
def cP (b : Int) (x : Pl) : Int := cI b x.f
def aO (b d : Int) (x : Pl) : Nat → Int := sR fun i => if i ≤ x.p then wP b d x i * rP b x else 0
def fA (b d : Int) (x : Pl) : Nat → Int := sR fun i => if i ≤ x.p then 0 else if x.q ≤ i then wP b d x i * rP b x else 0
def lA (b d : Int) (x : Pl) : Nat → Int := sR fun i => if i ≤ x.p then 0 else if x.q ≤ i then 0 else wP b d x i * atM (b - x.f) (d - i) x.s (x.l - i)
def agn (b d : Int) (x : Pl) : Nat → Int := sR fun i => if i ≤ x.p then 0 else if x.q ≤ i then 0 else wP b d x i
def good (b d : Int) (x : Pl) (n : Nat) : Int := aO b d x n + lA b d x n
def nP (x : Pl) : Nat := (x.f + 1).toNat
/-! the first one that will do -/
def noMore (u v : Int × Int) : Bool := decide (u.1 * v.2 ≤ v.1 * u.2)
def fstD (p : Nat → Bool) (n : Nat) : D := match (List.range n).find? p with
  | some i => .int i
  | none => .none
structure Bd (x : Int × Int) : Prop where
  t0 : 0 ≤ x.1
  tb : x.1 ≤ x.2
  b1 : 1 ≤ x.2
  b2 : x.2 ≤ 1000
  g : Int.gcd x.1 x.2 = 1
def F_surely_found : WF := fun env W => ∃ b d : Int, env = [some (.d (.int b)), some (.d (.int d))] ∧ 1 ≤ b ∧ b ≤ 2000 ∧ 0 ≤ d ∧ d ≤ b ∧ W (if 0 < d then .int (b - d + 1) else .none) env
def F_chance_by_guessing : WF := fun env W => ∃ t r : Int, env = [some (.d (.int t)), some (.d (.int r))] ∧ 0 ≤ t ∧ t ≤ 200 ∧ 0 ≤ r ∧ r ≤ 200 ∧ W (fD (fr (gs t r) (3 ^ t.toNat))) env
def F_fewest_right : WF := fun env W => ∃ (t : Int) (x : Int × Int), env = [some (.d (.int t)), some (.d (fD x))] ∧ 0 ≤ t ∧ t ≤ 200 ∧ Bd x ∧ W (fstD (fun i => noMore (gs t i, 3 ^ t.toNat) x) (t + 1).toNat) env
def F_chance_of : WF := fun env W => ∃ b d t f : Int, env = [some (.d (.int b)), some (.d (.int d)), some (.d (.int t)), some (.d (.int f))] ∧ 1 ≤ b ∧ b ≤ 2000 ∧ 0 ≤ d ∧ d ≤ b ∧ 0 ≤ t ∧ t ≤ b ∧ 0 ≤ f ∧ f ≤ t ∧ W (fD (fr (cI d f * cI (b - d) (t - f)) (cI b t))) env
def F_chance_to_pass : WF := fun env W => ∃ b d t l : Int, env = [some (.d (.int b)), some (.d (.int d)), some (.d (.int t)), some (.d (.int l))] ∧ 1 ≤ b ∧ b ≤ 2000 ∧ 0 ≤ d ∧ d ≤ b ∧ 0 ≤ t ∧ t ≤ b ∧ 0 ≤ l ∧ l ≤ 2000 ∧ W (fD (fr (atM b d t l) (cI b t))) env
def F_fewest_tasted : WF := fun env W => ∃ (b d l : Int) (x : Int × Int), env = [some (.d (.int b)), some (.d (.int d)), some (.d (.int l)), some (.d (fD x))] ∧ 1 ≤ b ∧ b ≤ 2000 ∧ 0 ≤ d ∧ d ≤ b ∧ 0 ≤ l ∧ l ≤ 2000 ∧ Bd x ∧ W (fstD (fun i => noMore (fr (atM b d i l) (cI b i)) x) (b + 1).toNat) env
def F_least_bad : WF := fun env W => ∃ (b t l : Int) (x : Int × Int), env = [some (.d (.int b)), some (.d (.int t)), some (.d (.int l)), some (.d (fD x))] ∧ 1 ≤ b ∧ b ≤ 2000 ∧ 0 ≤ t ∧ t ≤ b ∧ 0 ≤ l ∧ l ≤ 2000 ∧ Bd x ∧ W (fstD (fun i => noMore (fr (atM b i t l) (cI b t)) x) (b + 1).toNat) env
def F_is_plan : WF := fun env W => ∃ (b : Int) (x : Pl), env = [some (.d (.int b)), some (.d (plD x))] ∧ PlOk b x ∧ W (.bool true) env
def F_look_at_plan : WF := fun env W => ∃ (b d : Int) (x : Pl), env = [some (.d (.int b)), some (.d (.int d)), some (.d (plD x))] ∧ PlOk b x ∧ 1 ≤ b ∧ b ≤ 200 ∧ 0 ≤ d ∧ d ≤ b ∧ W .none env
def FPlan (g : Int → Int → Pl → D) : WF := fun env W => ∃ (b d : Int) (x : Pl), env = [some (.d (.int b)), some (.d (.int d)), some (.d (plD x))] ∧ PlOk b x ∧ 1 ≤ b ∧ b ≤ 200 ∧ 0 ≤ d ∧ d ≤ b ∧ W (g b d x) env
def F_told_ways : WF := FPlan fun b d x => .tuple [.int (aO b d x (nP x)), .int (fA b d x (nP x)), .int (lA b d x (nP x)), .int (cP b x * rP b x)]
def pB (b d : Int) (x : Pl) : Int × Int := fr (good b d x (nP x)) (cP b x * rP b x)
def aB (b d : Int) (x : Pl) : Int × Int := fr (agn b d x (nP x)) (cP b x)
def tB (b d : Int) (x : Pl) : Int × Int := fr (x.f * cP b x + agn b d x (nP x) * x.s) (cP b x)
def F__law_by_plan : WF := FPlan fun b d x => .tuple [fD (pB b d x), fD (aB b d x), fD (tB b d x)]
def F_pass_by : WF := FPlan fun b d x => fD (pB b d x)
def F_again_by : WF := FPlan fun b d x => fD (aB b d x)
def F_tasted_by : WF := FPlan fun b d x => fD (tB b d x)
def F__law_passes_rest : WF := F__law_passes
def F_outcome_by : WF := fun env W => ∃ (b : Int) (x : Pl) (u v : Int), env = [some (.d (.int b)), some (.d (plD x)), some (.d (.int u)), some (.d (.int v))] ∧ PlOk b x ∧ 1 ≤ b ∧ b ≤ 200 ∧ 0 ≤ u ∧ u ≤ x.f ∧ 0 ≤ v ∧ v ≤ x.s ∧ W (outc x u v) env
def F_is_stricter : WF := fun env W => ∃ (b : Int) (x y : Pl), env = [some (.d (.int b)), some (.d (plD x)), some (.d (plD y))] ∧ PlOk b x ∧ PlOk b y ∧ 1 ≤ b ∧ b ≤ 200 ∧ W (.bool ((List.range (b + 1).toNat).all fun i => noMore (pB b i x) (pB b i y))) env
def FPot (k : Nat) : WF := fun env W => ∃ (p : Addr) (xs : List D) (m : Nat), env = [some (.ls p xs)] ∧ Pot m xs ∧ m ≤ 5000 ∧ ∀ xs', Pot (m + k) xs' → W (.bool true) [some (.ls p xs')]
def F__law_are_samples_right : WF := FPot 20
def F__law_are_plans_right : WF := FPot 20
def F__law_right : WF := fun env W => ∃ (p : Addr) (xs : List D), env = [some (.ls p xs)] ∧ Pot 0 xs ∧ ∀ xs', W (.bool true) [some (.ls p xs')]
def F_law : WF := fun env W => ∃ ns : List Int, env = [some (.d (.list (ns.map PyData.int)))] ∧ ns.length ≤ 63 ∧ (∀ z ∈ ns, Builtin.Int.intBits z ≤ 1048576) ∧ W (.bool true) env
theorem ap_is_int {v lo hi : Int} {W : D → Sls → Prop} : F_is_int [some (.d (.int v)), some (.d (.int lo)), some (.d (.int hi))] W = W (.bool (decide (lo ≤ v) && decide (v ≤ hi))) [some (.d (.int v)), some (.d (.int lo)), some (.d (.int hi))] :=
  propext ⟨fun ⟨_, _, _, e, h⟩ => by cases e; exact h, fun h => ⟨_, _, _, rfl, h⟩⟩
theorem ap_is_whole {v : Int} {W : D → Sls → Prop} : F_is_whole [some (.d (.int v))] W = W (.bool true) [some (.d (.int v))] :=
  propext ⟨fun ⟨_, e, h⟩ => by cases e; exact h, fun h => ⟨_, rfl, h⟩⟩
end K7

namespace K7
open PySem PySem.Spec PyProof.Rows L2 Dl
def ws_is_int : WS :=
  (wRet (wAndV (wIsi "int" (wVar 0)) (wAndV (wNotV (wIsi "bool" (wVar 0))) (wChain fLe fLe (wVar 1) (wVar 0) (wVar 2)))))
def ws_is_whole : WS :=
  (wRet (wAndV (wIsi "int" (wVar 0)) (wNotV (wIsi "bool" (wVar 0)))))
def ws_common_int : WS :=
  (wSeq (wWhile (wTest (wOp fNe (wVar 1) (wC (.int 0)))) (wPar [0, 1] (wMCons (wVar 1) (wMCons (wMod (wVar 0) (wVar 1)) wMNil))))
  (wRet (wVar 0)))
def ws_is_no_more : WS :=
  (wRet (wOp fLe (wMul (wOp fIx (wVar 0) (wC (.int 0))) (wOp fIx (wVar 1) (wC (.int 1)))) (wMul (wOp fIx (wVar 1) (wC (.int 0))) (wOp fIx (wVar 0) (wC (.int 1))))))
def ws_chosen : WS :=
  (wSeq (wIf (wTest (wOp fGt (wVar 1) (wVar 0))) (wRet (wC (.int 0))) wNext)
  (wSeq (wSet 2 (wC (.int 1)))
  (wSeq (wFor (wRng1 (wACons (wMin2 (wACons (wVar 1) (wACons (wSub (wVar 0) (wVar 1)) wANil))) wANil)) (wgName 3) (wSet 2 (wDiv (wMul (wVar 2) (wSub (wVar 0) (wVar 3))) (wAdd (wVar 3) (wC (.int 1))))))
  (wRet (wVar 2)))))
def ws_told_whole : WS :=
  (wSeq (wSet 1 (wC (.int 1)))
  (wSeq (wFor (wRng1 (wACons (wVar 0) wANil)) (wgName 2) (wAug 1 (fI MulOk fun i j => i * j) (wC (.int 3))))
  (wRet (wVar 1))))
def ws_told_outcome : WS :=
  (wSeq (wAsg (wVar 0) (wgTup 5 (wgCons (wgName 3) (wgCons (wgName 4) (wgCons (wgName 5) (wgCons (wgName 6) (wgCons (wgName 7) wgNil)))))))
  (wSeq (wIf (wTest (wOp fLe (wVar 1) (wVar 4))) (wRet (wC (.str "pass"))) wNext)
  (wSeq (wIf (wTest (wOp fGe (wVar 1) (wVar 5))) (wRet (wC (.str "fail"))) wNext)
  (wRet (wIfE (wTest (wOp fLe (wAdd (wVar 1) (wVar 2)) (wVar 7))) (wC (.str "pass")) (wC (.str "fail")))))))
def ws__law_pot : WS :=
  (wSeq (wSet 2 (wIfE (wTest (wOp fLt (wVar 1) (wLen (wACons (wVar 0) wANil)))) (wOp fIx (wVar 0) (wVar 1)) (wAdd (wAdd (wMod (wInt (wACons (wSum (wACons (wNew (wSlL (wVar 0) wNoPart (wPart (wC (.int 1))))) wANil)) wANil)) (wC (.int 1000639))) (wMul (wC (.int 4721)) (wVar 1))) (wC (.int 3217)))))
  (wSeq (wSet 3 (wMul (wMod (wInt (wACons (wAbs (wACons (wVar 2) wANil)) wANil)) (wPow (wPow (wC (.int 10)) (wC (.int 60))) (wC (.int 5)))) (wInt (wACons (wOp fGe (wAbs (wACons (wVar 2) wANil)) (wPow (wC (.int 10)) (wC (.int 18)))) wANil))))
  (wSeq (wSet 4 (wMod (wInt (wACons (wVar 2) wANil)) (wC (.int 2305843009213693951))))
  (wRetL (wLst (wACons (wVar 3) (wACons (wMod (wInt (wACons (wAdd (wAdd (wMul (wVar 4) (wC (.int 72211))) (wMul (wMul (wC (.int 10883)) (wVar 1)) (wVar 1))) (wC (.int 2897))) wANil)) (wC (.int 2305843009213693921))) (wACons (wC (.int 0)) wANil))))))))
def ws__law_take : WS :=
  (wSeq (wIf (wTest (wOp fGt (wIxO 0 (wC (.int 0))) (wC (.int 0)))) (wSeq (wSet 4 (wMod (wInt (wACons (wIxO 0 (wC (.int 0))) wANil)) (wVar 1)))
  (wSeq (wPutO 0 (wDiv (wIxO 0 (wC (.int 0))) (wVar 1)) (wC (.int 0)))
  (wRet (wVar 4)))) wNext)
  (wSeq (wPutO 0 (wAdd (wIxO 0 (wC (.int 2))) (wC (.int 1))) (wC (.int 2)))
  (wSeq (wSet 2 (wOp fIx (wNew (wLst (wACons (wC (.int 2147483647)) (wACons (wC (.int 2147483629)) (wACons (wC (.int 2147483587)) (wACons (wC (.int 2147483579)) (wACons (wC (.int 2147483563)) wANil))))))) (wMod (wInt (wACons (wIxO 0 (wC (.int 2))) wANil)) (wC (.int 5)))))
  (wSeq (wSet 3 (wMod (wInt (wACons (wPow (wInt (wACons (wAdd (wAdd (wIxO 0 (wC (.int 1))) (wMul (wMul (wC (.int 95287)) (wIxO 0 (wC (.int 2)))) (wIxO 0 (wC (.int 2))))) (wC (.int 3203))) wANil)) (wC (.int 3))) wANil)) (wVar 2)))
  (wSeq (wSet 3 (wMod (wInt (wACons (wMul (wVar 3) (wAdd (wMod (wInt (wACons (wVar 3) wANil)) (wC (.int 13463))) (wMul (wC (.int 431)) (wIxO 0 (wC (.int 2)))))) wANil)) (wC (.int 2305843009213693907))))
  (wRet (wMod (wInt (wACons (wDiv (wVar 3) (wC (.int 229))) wANil)) (wVar 1))))))))
def ws__law_cells : WS :=
  (wRet (wNew (wListRg (wMax2 (wACons (wC (.int 1)) (wACons (wMin2 (wACons (wVar 1) (wACons (wLen (wACons (wVar 0) wANil)) wANil))) wANil))))))
def ws__law_frac : WS :=
  (wSeq (wPar [2, 3] (wMCons (wAbs (wACons (wVar 0) wANil)) (wMCons (wVar 1) wMNil)))
  (wSeq (wWhile (wTest (wOp fNe (wVar 3) (wC (.int 0)))) (wPar [2, 3] (wMCons (wVar 3) (wMCons (wMod (wVar 2) (wVar 3)) wMNil))))
  (wRet (wIfE (wTest (wOp fGt (wVar 2) (wC (.int 0)))) (wTup (wACons (wDiv (wVar 0) (wVar 2)) (wACons (wDiv (wVar 1) (wVar 2)) wANil))) (wTup (wACons (wC (.int 0)) (wACons (wC (.int 1)) wANil)))))))
def ws__law_is_less : WS :=
  (wRet (wOp fLt (wMul (wOp fIx (wVar 0) (wC (.int 0))) (wOp fIx (wVar 1) (wC (.int 1)))) (wMul (wOp fIx (wVar 1) (wC (.int 0))) (wOp fIx (wVar 0) (wC (.int 1))))))
def ws__law_choices : WS :=
  (wSeq (wIf (wNot (wTest (wChain fLe fLe (wC (.int 0)) (wVar 1) (wVar 0)))) (wRet (wC (.int 0))) wNext)
  (wSeq (wSet 2 (wC (.int 1)))
  (wSeq (wFor (wRng1 (wACons (wMin2 (wACons (wVar 1) (wACons (wSub (wVar 0) (wVar 1)) wANil))) wANil)) (wgName 3) (wSet 2 (wDiv (wMul (wVar 2) (wSub (wVar 0) (wVar 3))) (wAdd (wVar 3) (wC (.int 1))))))
  (wRet (wVar 2)))))
def ws__law_outcome : WS :=
  (wSeq (wAsg (wVar 0) (wgTup 5 (wgCons (wgName 3) (wgCons (wgName 4) (wgCons (wgName 5) (wgCons (wgName 6) (wgCons (wgName 7) wgNil)))))))
  (wSeq (wIf (wTest (wOp fLe (wVar 1) (wVar 4))) (wRet (wC (.str "pass"))) wNext)
  (wSeq (wIf (wTest (wOp fGe (wVar 1) (wVar 5))) (wRet (wC (.str "fail"))) wNext)
  (wRet (wIfE (wTest (wOp fLe (wAdd (wVar 1) (wVar 2)) (wVar 7))) (wC (.str "pass")) (wC (.str "fail")))))))
def ws_are_ints : WS :=
  (wRet (wAndV (wIsi "tuple" (wVar 0)) (wCB fAll (wACons (wNew (wLc (wSeqI (wVar 0)) (wgName 3) wYes (wCall 3 F_is_int (wACons (wVar 3) (wACons (wVar 1) (wACons (wVar 2) wANil)))) [3])) wANil))))
def ws_lowest : WS :=
  (wSeq (wSet 2 (wCall 2 F_common_int (wACons (wVar 0) (wACons (wVar 1) wANil))))
  (wRet (wTup (wACons (wDiv (wVar 0) (wVar 2)) (wACons (wDiv (wVar 1) (wVar 2)) wANil)))))
def ws_is_fraction : WS :=
  (wSeq (wIf (wOr (wNot (wTest (wIsi "tuple" (wVar 0)))) (wOr (wTest (wOp fNe (wLen (wACons (wVar 0) wANil)) (wC (.int 2)))) (wOr (wNot (wTest (wCall 1 F_is_whole (wACons (wOp fIx (wVar 0) (wC (.int 0))) wANil)))) (wNot (wTest (wCall 1 F_is_whole (wACons (wOp fIx (wVar 0) (wC (.int 1))) wANil))))))) (wRet (wC (.bool false))) wNext)
  (wRet (wAndV (wChain fLe fLe (wC (.int 0)) (wOp fIx (wVar 0) (wC (.int 0))) (wOp fIx (wVar 0) (wC (.int 1)))) (wAndV (wOp fGe (wOp fIx (wVar 0) (wC (.int 1))) (wC (.int 1))) (wOp fEq (wCall 2 F_common_int (wACons (wOp fIx (wVar 0) (wC (.int 0))) (wACons (wOp fIx (wVar 0) (wC (.int 1))) wANil))) (wC (.int 1)))))))
def ws_look_at_lot : WS :=
  (wSeq (wIf (wNot (wTest (wCall 3 F_is_int (wACons (wVar 0) (wACons (wC (.int 1)) (wACons (wC (.int 2000)) wANil)))))) wNever wNext)
  (wIf (wNot (wTest (wCall 3 F_is_int (wACons (wVar 1) (wACons (wC (.int 0)) (wACons (wVar 0) wANil)))))) wNever wNext))
def ws_told_rest : WS :=
  (wSeq (wSet 2 (wC (.int 0)))
  (wSeq (wFor (wRng2 (wACons (wVar 1) (wACons (wAdd (wVar 0) (wC (.int 1))) wANil))) (wgName 3) (wSeq (wSet 4 (wC (.int 1)))
  (wSeq (wFor (wRng1 (wACons (wSub (wVar 0) (wVar 3)) wANil)) (wgName 5) (wAug 4 (fI MulOk fun i j => i * j) (wC (.int 2))))
  (wAug 2 (fI (fun _ _ => True) fun i j => i + j) (wMul (wCall 2 F_chosen (wACons (wVar 0) (wACons (wVar 3) wANil))) (wVar 4))))))
  (wRet (wVar 2))))
def ws_told_second : WS :=
  (wSeq (wSet 4 (wC (.int 0)))
  (wSeq (wFor (wRng1 (wACons (wAdd (wMin2 (wACons (wVar 2) (wACons (wVar 3) wANil))) (wC (.int 1))) wANil)) (wgName 5) (wAug 4 (fI (fun _ _ => True) fun i j => i + j) (wMul (wCall 2 F_chosen (wACons (wVar 1) (wACons (wVar 5) wANil))) (wCall 2 F_chosen (wACons (wSub (wVar 0) (wVar 1)) (wACons (wSub (wVar 2) (wVar 5)) wANil))))))
  (wRet (wVar 4))))
def ws__law_of : WS :=
  (wRet (wOp fIx (wVar 1) (wCall 2 F__law_take (wAOwn 0 (wACons (wLen (wACons (wVar 1) wANil)) wANil)))))
def ws__law_plus : WS :=
  (wRet (wCall 2 F__law_frac (wACons (wAdd (wMul (wOp fIx (wVar 0) (wC (.int 0))) (wOp fIx (wVar 1) (wC (.int 1)))) (wMul (wOp fIx (wVar 1) (wC (.int 0))) (wOp fIx (wVar 0) (wC (.int 1))))) (wACons (wMul (wOp fIx (wVar 0) (wC (.int 1))) (wOp fIx (wVar 1) (wC (.int 1)))) wANil))))
def ws__law_times : WS :=
  (wRet (wCall 2 F__law_frac (wACons (wMul (wOp fIx (wVar 0) (wC (.int 0))) (wOp fIx (wVar 1) (wC (.int 0)))) (wACons (wMul (wOp fIx (wVar 0) (wC (.int 1))) (wOp fIx (wVar 1) (wC (.int 1)))) wANil))))
def ws__law_chance : WS :=
  (wRet (wCall 2 F__law_frac (wACons (wMul (wCall 2 F__law_choices (wACons (wVar 1) (wACons (wVar 3) wANil))) (wCall 2 F__law_choices (wACons (wSub (wVar 0) (wVar 1)) (wACons (wSub (wVar 2) (wVar 3)) wANil)))) (wACons (wCall 2 F__law_choices (wACons (wVar 0) (wACons (wVar 2) wANil))) wANil))))
def ws__law_passes : WS :=
  (wSeq (wSetF 4 (wLc (wRng1 (wACons (wAdd (wMin2 (wACons (wVar 3) (wACons (wVar 2) wANil))) (wC (.int 1))) wANil)) (wgName 5) wYes (wMul (wCall 2 F__law_choices (wACons (wVar 1) (wACons (wVar 5) wANil))) (wCall 2 F__law_choices (wACons (wSub (wVar 0) (wVar 1)) (wACons (wSub (wVar 2) (wVar 5)) wANil)))) [5]))
  (wRet (wCall 2 F__law_frac (wACons (wSum (wACons (wVar 4) wANil)) (wACons (wCall 2 F__law_choices (wACons (wVar 0) (wACons (wVar 2) wANil))) wANil)))))
def ws__law_guessed : WS :=
  (wSeq (wAsg (wTup (wACons (wC (.int 0)) (wACons (wC (.int 1)) wANil))) (wgTup 2 (wgCons (wgName 4) (wgCons (wgName 5) wgNil))))
  (wSeq (wFor (wRng1 (wACons (wVar 0) wANil)) (wgName 2) (wSet 5 (wMul (wC (.int 3)) (wVar 5))))
  (wSeq (wFor (wRng2 (wACons (wVar 1) (wACons (wAdd (wVar 0) (wC (.int 1))) wANil))) (wgName 3) (wSeq (wSet 6 (wC (.int 1)))
  (wSeq (wFor (wRng1 (wACons (wSub (wVar 0) (wVar 3)) wANil)) (wgName 2) (wSet 6 (wMul (wC (.int 2)) (wVar 6))))
  (wSet 4 (wAdd (wVar 4) (wMul (wCall 2 F__law_choices (wACons (wVar 0) (wACons (wVar 3) wANil))) (wVar 6)))))))
  (wRet (wCall 2 F__law_frac (wACons (wVar 4) (wACons (wVar 5) wANil)))))))
def ws__law_plan_drawn : WS :=
  (wSeq (wSet 2 (wInt (wACons (wCall 2 F__law_take (wAOwn 0 (wACons (wAdd (wMin2 (wACons (wVar 1) (wACons (wC (.int 200)) wANil))) (wC (.int 1))) wANil))) wANil)))
  (wSeq (wSet 3 (wInt (wACons (wCall 2 F__law_take (wAOwn 0 (wACons (wAdd (wMin2 (wACons (wSub (wVar 1) (wVar 2)) (wACons (wC (.int 200)) wANil))) (wC (.int 1))) wANil))) wANil)))
  (wSeq (wSet 4 (wInt (wACons (wCall 2 F__law_take (wAOwn 0 (wACons (wC (.int 5)) wANil))) wANil)))
  (wSeq (wSet 5 (wAdd (wAdd (wVar 4) (wC (.int 1))) (wInt (wACons (wCall 2 F__law_take (wAOwn 0 (wACons (wC (.int 4)) wANil))) wANil))))
  (wRet (wTup (wACons (wVar 2) (wACons (wVar 4) (wACons (wVar 5) (wACons (wVar 3) (wACons (wAdd (wSub (wVar 5) (wC (.int 1))) (wInt (wACons (wCall 2 F__law_take (wAOwn 0 (wACons (wC (.int 4)) wANil))) wANil))) wANil)))))))))))
def ws_look_at_sample : WS :=
  (wSeq (wExpr (wCall 2 F_look_at_lot (wACons (wVar 0) (wACons (wVar 1) wANil))))
  (wIf (wNot (wTest (wCall 3 F_is_int (wACons (wVar 2) (wACons (wC (.int 0)) (wACons (wVar 0) wANil)))))) wNever wNext))
def ws_told_chance : WS :=
  (wRet (wCall 2 F_lowest (wACons (wMul (wCall 2 F_chosen (wACons (wVar 1) (wACons (wVar 3) wANil))) (wCall 2 F_chosen (wACons (wSub (wVar 0) (wVar 1)) (wACons (wSub (wVar 2) (wVar 3)) wANil)))) (wACons (wCall 2 F_chosen (wACons (wVar 0) (wACons (wVar 2) wANil))) wANil))))
def ws_told_at_most : WS :=
  (wSeq (wSet 4 (wSum (wACons (wNew (wLc (wRng1 (wACons (wAdd (wMin2 (wACons (wVar 3) (wACons (wVar 2) wANil))) (wC (.int 1))) wANil)) (wgName 5) wYes (wMul (wCall 2 F_chosen (wACons (wVar 1) (wACons (wVar 5) wANil))) (wCall 2 F_chosen (wACons (wSub (wVar 0) (wVar 1)) (wACons (wSub (wVar 2) (wVar 5)) wANil)))) [5])) wANil)))
  (wRet (wCall 2 F_lowest (wACons (wVar 4) (wACons (wCall 2 F_chosen (wACons (wVar 0) (wACons (wVar 2) wANil))) wANil)))))
def ws_surely_found : WS :=
  (wSeq (wExpr (wCall 2 F_look_at_lot (wACons (wVar 0) (wACons (wVar 1) wANil))))
  (wRet (wIfE (wTest (wOp fGt (wVar 1) (wC (.int 0)))) (wAdd (wSub (wVar 0) (wVar 1)) (wC (.int 1))) (wC .none))))
def ws_chance_by_guessing : WS :=
  (wSeq (wFor (wSeqI (wTup (wACons (wVar 0) (wACons (wVar 1) wANil)))) (wgName 2) (wIf (wNot (wTest (wCall 3 F_is_int (wACons (wVar 2) (wACons (wC (.int 0)) (wACons (wDiv (wC (.int 2000)) (wC (.int 10))) wANil)))))) wNever wNext))
  (wRet (wCall 2 F_lowest (wACons (wCall 2 F_told_rest (wACons (wVar 0) (wACons (wVar 1) wANil))) (wACons (wCall 1 F_told_whole (wACons (wVar 0) wANil)) wANil)))))
def ws_fewest_right : WS :=
  (wSeq (wIf (wNot (wTest (wCall 3 F_is_int (wACons (wVar 0) (wACons (wC (.int 0)) (wACons (wDiv (wC (.int 2000)) (wC (.int 10))) wANil)))))) wNever wNext)
  (wSeq (wIf (wNot (wTest (wCall 1 F_is_fraction (wACons (wVar 1) wANil)))) wNever wNext)
  (wSeq (wFor (wRng1 (wACons (wAdd (wVar 0) (wC (.int 1))) wANil)) (wgName 2) (wIf (wTest (wCall 2 F_is_no_more (wACons (wTup (wACons (wCall 2 F_told_rest (wACons (wVar 0) (wACons (wVar 2) wANil))) (wACons (wCall 1 F_told_whole (wACons (wVar 0) wANil)) wANil))) (wACons (wVar 1) wANil)))) (wRet (wVar 2)) wNext))
  (wRet (wC .none)))))
def ws_is_plan : WS :=
  (wSeq (wIf (wOr (wNot (wTest (wCall 3 F_are_ints (wACons (wVar 1) (wACons (wC (.int 0)) (wACons (wC (.int 200)) wANil)))))) (wTest (wOp fNe (wLen (wACons (wVar 1) wANil)) (wC (.int 5))))) (wRet (wC (.bool false))) wNext)
  (wSeq (wAsg (wVar 1) (wgTup 5 (wgCons (wgName 2) (wgCons (wgName 3) (wgCons (wgName 4) (wgCons (wgName 5) (wgCons (wgName 6) wgNil)))))))
  (wRet (wAndV (wOp fLe (wAdd (wVar 2) (wVar 5)) (wVar 0)) (wChain fLt fLe (wVar 3) (wVar 4) (wAdd (wVar 6) (wC (.int 1))))))))
def ws_told_ways : WS :=
  (wSeq (wAsg (wVar 2) (wgTup 5 (wgCons (wgName 5) (wgCons (wgName 6) (wgCons (wgName 7) (wgCons (wgName 8) (wgCons (wgName 9) wgNil)))))))
  (wSeq (wAsg (wTup (wACons (wC (.int 0)) (wACons (wC (.int 0)) (wACons (wC (.int 0)) wANil)))) (wgTup 3 (wgCons (wgName 10) (wgCons (wgName 11) (wgCons (wgName 12) wgNil)))))
  (wSeq (wSet 3 (wCall 2 F_chosen (wACons (wSub (wVar 0) (wVar 5)) (wACons (wVar 8) wANil))))
  (wSeq (wFor (wRng1 (wACons (wAdd (wVar 5) (wC (.int 1))) wANil)) (wgName 4) (wSeq (wSet 13 (wMul (wCall 2 F_chosen (wACons (wVar 1) (wACons (wVar 4) wANil))) (wCall 2 F_chosen (wACons (wSub (wVar 0) (wVar 1)) (wACons (wSub (wVar 5) (wVar 4)) wANil)))))
  (wIf (wTest (wOp fLe (wVar 4) (wVar 6))) (wAug 10 (fI (fun _ _ => True) fun i j => i + j) (wMul (wVar 13) (wVar 3))) (wIf (wTest (wOp fGe (wVar 4) (wVar 7))) (wAug 11 (fI (fun _ _ => True) fun i j => i + j) (wMul (wVar 13) (wVar 3))) (wAug 12 (fI (fun _ _ => True) fun i j => i + j) (wMul (wVar 13) (wCall 4 F_told_second (wACons (wSub (wVar 0) (wVar 5)) (wACons (wSub (wVar 1) (wVar 4)) (wACons (wVar 8) (wACons (wSub (wVar 9) (wVar 4)) wANil)))))))))))
  (wRet (wTup (wACons (wVar 10) (wACons (wVar 11) (wACons (wVar 12) (wACons (wMul (wCall 2 F_chosen (wACons (wVar 0) (wACons (wVar 5) wANil))) (wVar 3)) wANil))))))))))
def ws__law_passes_rest : WS :=
  (wRet (wIfE (wTest (wOp fGe (wVar 3) (wC (.int 0)))) (wCall 4 F__law_passes (wACons (wVar 0) (wACons (wVar 1) (wACons (wVar 2) (wACons (wVar 3) wANil))))) (wTup (wACons (wC (.int 0)) (wACons (wC (.int 1)) wANil)))))
def ws_chance_of : WS :=
  (wSeq (wExpr (wCall 3 F_look_at_sample (wACons (wVar 0) (wACons (wVar 1) (wACons (wVar 2) wANil)))))
  (wSeq (wIf (wNot (wTest (wCall 3 F_is_int (wACons (wVar 3) (wACons (wC (.int 0)) (wACons (wVar 2) wANil)))))) wNever wNext)
  (wRet (wCall 4 F_told_chance (wACons (wVar 0) (wACons (wVar 1) (wACons (wVar 2) (wACons (wVar 3) wANil))))))))
def ws_chance_to_pass : WS :=
  (wSeq (wExpr (wCall 3 F_look_at_sample (wACons (wVar 0) (wACons (wVar 1) (wACons (wVar 2) wANil)))))
  (wSeq (wIf (wNot (wTest (wCall 3 F_is_int (wACons (wVar 3) (wACons (wC (.int 0)) (wACons (wC (.int 2000)) wANil)))))) wNever wNext)
  (wRet (wCall 4 F_told_at_most (wACons (wVar 0) (wACons (wVar 1) (wACons (wVar 2) (wACons (wVar 3) wANil))))))))
def ws_fewest_tasted : WS :=
  (wSeq (wExpr (wCall 2 F_look_at_lot (wACons (wVar 0) (wACons (wVar 1) wANil))))
  (wSeq (wIf (wNot (wTest (wCall 3 F_is_int (wACons (wVar 2) (wACons (wC (.int 0)) (wACons (wC (.int 2000)) wANil)))))) wNever wNext)
  (wSeq (wIf (wNot (wTest (wCall 1 F_is_fraction (wACons (wVar 3) wANil)))) wNever wNext)
  (wSeq (wFor (wRng1 (wACons (wAdd (wVar 0) (wC (.int 1))) wANil)) (wgName 4) (wIf (wTest (wCall 2 F_is_no_more (wACons (wCall 4 F_told_at_most (wACons (wVar 0) (wACons (wVar 1) (wACons (wVar 4) (wACons (wVar 2) wANil))))) (wACons (wVar 3) wANil)))) (wRet (wVar 4)) wNext))
  (wRet (wC .none))))))
def ws_least_bad : WS :=
  (wSeq (wExpr (wCall 3 F_look_at_sample (wACons (wVar 0) (wACons (wC (.int 0)) (wACons (wVar 1) wANil)))))
  (wSeq (wIf (wNot (wTest (wCall 3 F_is_int (wACons (wVar 2) (wACons (wC (.int 0)) (wACons (wC (.int 2000)) wANil)))))) wNever wNext)
  (wSeq (wIf (wNot (wTest (wCall 1 F_is_fraction (wACons (wVar 3) wANil)))) wNever wNext)
  (wSeq (wFor (wRng1 (wACons (wAdd (wVar 0) (wC (.int 1))) wANil)) (wgName 4) (wIf (wTest (wCall 2 F_is_no_more (wACons (wCall 4 F_told_at_most (wACons (wVar 0) (wACons (wVar 4) (wACons (wVar 1) (wACons (wVar 2) wANil))))) (wACons (wVar 3) wANil)))) (wRet (wVar 4)) wNext))
  (wRet (wC .none))))))
def ws_look_at_plan : WS :=
  (wSeq (wExpr (wCall 2 F_look_at_lot (wACons (wVar 0) (wACons (wVar 1) wANil))))
  (wIf (wNot (wTest (wCall 2 F_is_plan (wACons (wVar 0) (wACons (wVar 2) wANil))))) wNever wNext))
def ws__law_by_plan : WS :=
  (wSeq (wAsg (wVar 2) (wgTup 5 (wgCons (wgName 4) (wgCons (wgName 5) (wgCons (wgName 6) (wgCons (wgName 7) (wgCons (wgName 8) wgNil)))))))
  (wSeq (wPar [9, 10, 11] (wMCons (wCall 2 F__law_choices (wACons (wVar 0) (wACons (wVar 4) wANil))) (wMCons (wTup (wACons (wC (.int 0)) (wACons (wC (.int 1)) wANil))) (wMCons (wTup (wACons (wC (.int 0)) (wACons (wC (.int 1)) wANil))) wMNil))))
  (wSeq (wFor (wRng1 (wACons (wAdd (wMin2 (wACons (wVar 4) (wACons (wVar 1) wANil))) (wC (.int 1))) wANil)) (wgName 3) (wSeq (wSet 12 (wCall 2 F__law_frac (wACons (wMul (wCall 2 F__law_choices (wACons (wVar 1) (wACons (wVar 3) wANil))) (wCall 2 F__law_choices (wACons (wSub (wVar 0) (wVar 1)) (wACons (wSub (wVar 4) (wVar 3)) wANil)))) (wACons (wVar 9) wANil))))
  (wIf (wTest (wOp fLe (wVar 3) (wVar 5))) (wSet 10 (wCall 2 F__law_plus (wACons (wVar 10) (wACons (wVar 12) wANil)))) (wIf (wTest (wOp fLt (wVar 3) (wVar 6))) (wSeq (wSet 11 (wCall 2 F__law_plus (wACons (wVar 11) (wACons (wVar 12) wANil))))
  (wSet 10 (wCall 2 F__law_plus (wACons (wVar 10) (wACons (wCall 2 F__law_times (wACons (wVar 12) (wACons (wCall 4 F__law_passes_rest (wACons (wSub (wVar 0) (wVar 4)) (wACons (wSub (wVar 1) (wVar 3)) (wACons (wVar 7) (wACons (wSub (wVar 8) (wVar 3)) wANil))))) wANil))) wANil))))) wNext))))
  (wRet (wTup (wACons (wVar 10) (wACons (wVar 11) (wACons (wCall 2 F__law_plus (wACons (wTup (wACons (wVar 4) (wACons (wC (.int 1)) wANil))) (wACons (wCall 2 F__law_times (wACons (wVar 11) (wACons (wTup (wACons (wVar 7) (wACons (wC (.int 1)) wANil))) wANil))) wANil))) wANil))))))))
def ws_pass_by : WS :=
  (wSeq (wExpr (wCall 3 F_look_at_plan (wACons (wVar 0) (wACons (wVar 1) (wACons (wVar 2) wANil)))))
  (wSeq (wAsg (wCall 3 F_told_ways (wACons (wVar 0) (wACons (wVar 1) (wACons (wVar 2) wANil)))) (wgTup 4 (wgCons (wgName 3) (wgCons (wgName 4) (wgCons (wgName 5) (wgCons (wgName 6) wgNil))))))
  (wRet (wCall 2 F_lowest (wACons (wAdd (wVar 3) (wVar 5)) (wACons (wVar 6) wANil))))))
def ws_again_by : WS :=
  (wSeq (wExpr (wCall 3 F_look_at_plan (wACons (wVar 0) (wACons (wVar 1) (wACons (wVar 2) wANil)))))
  (wSeq (wAsg (wCall 3 F_told_ways (wACons (wVar 0) (wACons (wVar 1) (wACons (wVar 2) wANil)))) (wgTup 4 (wgCons (wgName 3) (wgCons (wgName 4) (wgCons (wgName 5) (wgCons (wgName 6) wgNil))))))
  (wRet (wCall 2 F_lowest (wACons (wSub (wSub (wVar 6) (wVar 3)) (wVar 4)) (wACons (wVar 6) wANil))))))
def ws_tasted_by : WS :=
  (wSeq (wExpr (wCall 3 F_look_at_plan (wACons (wVar 0) (wACons (wVar 1) (wACons (wVar 2) wANil)))))
  (wSeq (wAsg (wCall 3 F_told_ways (wACons (wVar 0) (wACons (wVar 1) (wACons (wVar 2) wANil)))) (wgTup 4 (wgCons (wgName 3) (wgCons (wgName 4) (wgCons (wgName 5) (wgCons (wgName 6) wgNil))))))
  (wRet (wCall 2 F_lowest (wACons (wAdd (wMul (wOp fIx (wVar 2) (wC (.int 0))) (wVar 6)) (wMul (wOp fIx (wVar 2) (wSub (wC (.int 5)) (wC (.int 2)))) (wSub (wSub (wVar 6) (wVar 3)) (wVar 4)))) (wACons (wVar 6) wANil))))))
def ws_outcome_by : WS :=
  (wSeq (wExpr (wCall 3 F_look_at_plan (wACons (wVar 0) (wACons (wC (.int 0)) (wACons (wVar 1) wANil)))))
  (wSeq (wIf (wOr (wNot (wTest (wCall 3 F_is_int (wACons (wVar 2) (wACons (wC (.int 0)) (wACons (wOp fIx (wVar 1) (wC (.int 0))) wANil)))))) (wNot (wTest (wCall 3 F_is_int (wACons (wVar 3) (wACons (wC (.int 0)) (wACons (wOp fIx (wVar 1) (wSub (wC (.int 5)) (wC (.int 2)))) wANil))))))) wNever wNext)
  (wRet (wCall 3 F_told_outcome (wACons (wVar 1) (wACons (wVar 2) (wACons (wVar 3) wANil)))))))
def ws_is_stricter : WS :=
  (wSeq (wExpr (wCall 3 F_look_at_plan (wACons (wVar 0) (wACons (wC (.int 0)) (wACons (wVar 1) wANil)))))
  (wSeq (wExpr (wCall 3 F_look_at_plan (wACons (wVar 0) (wACons (wC (.int 0)) (wACons (wVar 2) wANil)))))
  (wSeq (wIf (wTest (wOp fGt (wVar 0) (wC (.int 300)))) wNever wNext)
  (wSeq (wFor (wRng1 (wACons (wAdd (wVar 0) (wC (.int 1))) wANil)) (wgName 3) (wSeq (wPar [4, 5] (wMCons (wCall 3 F_told_ways (wACons (wVar 0) (wACons (wVar 3) (wACons (wVar 1) wANil)))) (wMCons (wCall 3 F_told_ways (wACons (wVar 0) (wACons (wVar 3) (wACons (wVar 2) wANil)))) wMNil)))
  (wIf (wNot (wTest (wCall 2 F_is_no_more (wACons (wTup (wACons (wAdd (wOp fIx (wVar 4) (wC (.int 0))) (wOp fIx (wVar 4) (wC (.int 2)))) (wACons (wOp fIx (wVar 4) (wSub (wC (.int 5)) (wC (.int 2)))) wANil))) (wACons (wTup (wACons (wAdd (wOp fIx (wVar 5) (wC (.int 0))) (wOp fIx (wVar 5) (wC (.int 2)))) (wACons (wOp fIx (wVar 5) (wSub (wC (.int 5)) (wC (.int 2)))) wANil))) wANil))))) (wRet (wC (.bool false))) wNext)))
  (wRet (wC (.bool true)))))))
def ws__law_are_samples_right : WS :=
  (wSeq (wSet 1 (wAdd (wC (.int 1)) (wInt (wACons (wCall 2 F__law_take (wAOwn 0 (wACons (wCall 2 F__law_of (wAOwn 0 (wACons (wNew (wLst (wACons (wC (.int 12)) (wACons (wC (.int 60)) (wACons (wC (.int 2000)) wANil))))) wANil))) wANil))) wANil))))
  (wSeq (wPar [8, 9] (wMCons (wInt (wACons (wCall 2 F__law_take (wAOwn 0 (wACons (wAdd (wVar 1) (wC (.int 1))) wANil))) wANil)) (wMCons (wInt (wACons (wCall 2 F__law_take (wAOwn 0 (wACons (wAdd (wVar 1) (wC (.int 1))) wANil))) wANil)) wMNil)))
  (wSeq (wPar [10, 11] (wMCons (wInt (wACons (wCall 2 F__law_take (wAOwn 0 (wACons (wAdd (wMin2 (wACons (wVar 9) (wACons (wC (.int 40)) wANil))) (wC (.int 1))) wANil))) wANil)) (wMCons (wInt (wACons (wCall 2 F__law_take (wAOwn 0 (wACons (wCall 2 F__law_of (wAOwn 0 (wACons (wNew (wLst (wACons (wC (.int 3)) (wACons (wC (.int 20)) wANil)))) wANil))) wANil))) wANil)) wMNil)))
  (wSeq (wIf (wTest (wOp fNe (wCall 4 F_chance_of (wACons (wVar 1) (wACons (wVar 8) (wACons (wVar 9) (wACons (wVar 10) wANil))))) (wCall 4 F__law_chance (wACons (wVar 1) (wACons (wVar 8) (wACons (wVar 9) (wACons (wVar 10) wANil))))))) (wRet (wC (.bool false))) wNext)
  (wSeq (wIf (wOr (wTest (wOp fLe (wVar 1) (wC (.int 60)))) (wTest (wOp fLe (wVar 9) (wC (.int 40))))) (wIf (wTest (wOp fNe (wCall 4 F_chance_to_pass (wACons (wVar 1) (wACons (wVar 8) (wACons (wVar 9) (wACons (wVar 11) wANil))))) (wCall 4 F__law_passes (wACons (wVar 1) (wACons (wVar 8) (wACons (wVar 9) (wACons (wVar 11) wANil))))))) (wRet (wC (.bool false))) wNext) wNext)
  (wSeq (wIf (wTest (wOp fNe (wCall 2 F_surely_found (wACons (wVar 1) (wACons (wVar 8) wANil))) (wIfE (wTest (wOp fGt (wVar 8) (wC (.int 0)))) (wAdd (wSub (wVar 1) (wVar 8)) (wC (.int 1))) (wC .none)))) (wRet (wC (.bool false))) wNext)
  (wSeq (wIf (wTest (wOp fGt (wVar 1) (wC (.int 60)))) (wRet (wC (.bool true))) wNext)
  (wSeq (wSet 2 (wCall 2 F__law_frac (wACons (wInt (wACons (wCall 2 F__law_take (wAOwn 0 (wACons (wC (.int 20)) wANil))) wANil)) (wACons (wAdd (wC (.int 20)) (wInt (wACons (wCall 2 F__law_take (wAOwn 0 (wACons (wC (.int 60)) wANil))) wANil))) wANil))))
  (wSeq (wSetF 3 (wLc (wRng1 (wACons (wAdd (wVar 1) (wC (.int 1))) wANil)) (wgName 12) (wNot (wTest (wCall 2 F__law_is_less (wACons (wVar 2) (wACons (wCall 4 F__law_passes (wACons (wVar 1) (wACons (wVar 8) (wACons (wVar 12) (wACons (wVar 11) wANil))))) wANil))))) (wVar 12) [12]))
  (wSeq (wIf (wTest (wOp fNe (wCall 4 F_fewest_tasted (wACons (wVar 1) (wACons (wVar 8) (wACons (wVar 11) (wACons (wVar 2) wANil))))) (wIfE (wTest (wOp fNe (wVar 3) (wNew (wLst wANil)))) (wOp fIx (wVar 3) (wC (.int 0))) (wC .none)))) (wRet (wC (.bool false))) wNext)
  (wSeq (wSetF 4 (wLc (wRng1 (wACons (wAdd (wVar 1) (wC (.int 1))) wANil)) (wgName 12) (wNot (wTest (wCall 2 F__law_is_less (wACons (wVar 2) (wACons (wCall 4 F__law_passes (wACons (wVar 1) (wACons (wVar 12) (wACons (wVar 9) (wACons (wVar 11) wANil))))) wANil))))) (wVar 12) [12]))
  (wSeq (wIf (wTest (wOp fNe (wCall 4 F_least_bad (wACons (wVar 1) (wACons (wVar 9) (wACons (wVar 11) (wACons (wVar 2) wANil))))) (wIfE (wTest (wOp fNe (wVar 4) (wNew (wLst wANil)))) (wOp fIx (wVar 4) (wC (.int 0))) (wC .none)))) (wRet (wC (.bool false))) wNext)
  (wSeq (wSet 5 (wInt (wACons (wCall 2 F__law_take (wAOwn 0 (wACons (wCall 2 F__law_of (wAOwn 0 (wACons (wNew (wLst (wACons (wC (.int 12)) (wACons (wC (.int 60)) wANil)))) wANil))) wANil))) wANil)))
  (wSeq (wSet 6 (wInt (wACons (wCall 2 F__law_take (wAOwn 0 (wACons (wCall 2 F__law_of (wAOwn 0 (wACons (wNew (wLst (wACons (wAdd (wVar 5) (wC (.int 1))) (wACons (wC (.int 80)) wANil)))) wANil))) wANil))) wANil)))
  (wSeq (wIf (wTest (wOp fNe (wCall 2 F_chance_by_guessing (wACons (wVar 5) (wACons (wVar 6) wANil))) (wIfE (wTest (wOp fLe (wVar 6) (wVar 5))) (wCall 2 F__law_guessed (wACons (wVar 5) (wACons (wVar 6) wANil))) (wTup (wACons (wC (.int 0)) (wACons (wC (.int 1)) wANil)))))) (wRet (wC (.bool false))) wNext)
  (wSeq (wSetF 7 (wLc (wRng1 (wACons (wAdd (wVar 5) (wC (.int 1))) wANil)) (wgName 12) (wNot (wTest (wCall 2 F__law_is_less (wACons (wVar 2) (wACons (wCall 2 F__law_guessed (wACons (wVar 5) (wACons (wVar 12) wANil))) wANil))))) (wVar 12) [12]))
  (wRet (wOp fEq (wCall 2 F_fewest_right (wACons (wVar 5) (wACons (wVar 2) wANil))) (wIfE (wTest (wOp fNe (wVar 7) (wNew (wLst wANil)))) (wOp fIx (wVar 7) (wC (.int 0))) (wC .none))))))))))))))))))))
def ws__law_are_plans_right : WS :=
  (wSeq (wSet 1 (wAdd (wC (.int 1)) (wInt (wACons (wCall 2 F__law_take (wAOwn 0 (wACons (wCall 2 F__law_of (wAOwn 0 (wACons (wNew (wLst (wACons (wC (.int 10)) (wACons (wC (.int 40)) (wACons (wC (.int 200)) wANil))))) wANil))) wANil))) wANil))))
  (wSeq (wPar [6, 7] (wMCons (wInt (wACons (wCall 2 F__law_take (wAOwn 0 (wACons (wAdd (wVar 1) (wC (.int 1))) wANil))) wANil)) (wMCons (wCall 2 F__law_plan_drawn (wAOwn 0 (wACons (wVar 1) wANil))) wMNil)))
  (wSeq (wAsg (wCall 3 F__law_by_plan (wACons (wVar 1) (wACons (wVar 6) (wACons (wVar 7) wANil)))) (wgTup 3 (wgCons (wgName 8) (wgCons (wgName 9) (wgCons (wgName 10) wgNil)))))
  (wSeq (wIf (wOr (wTest (wOp fNe (wCall 3 F_pass_by (wACons (wVar 1) (wACons (wVar 6) (wACons (wVar 7) wANil)))) (wVar 8))) (wOr (wTest (wOp fNe (wCall 3 F_again_by (wACons (wVar 1) (wACons (wVar 6) (wACons (wVar 7) wANil)))) (wVar 9))) (wTest (wOp fNe (wCall 3 F_tasted_by (wACons (wVar 1) (wACons (wVar 6) (wACons (wVar 7) wANil)))) (wVar 10))))) (wRet (wC (.bool false))) wNext)
  (wSeq (wPar [11, 12] (wMCons (wInt (wACons (wCall 2 F__law_take (wAOwn 0 (wACons (wAdd (wOp fIx (wVar 7) (wC (.int 0))) (wC (.int 1))) wANil))) wANil)) (wMCons (wInt (wACons (wCall 2 F__law_take (wAOwn 0 (wACons (wAdd (wOp fIx (wVar 7) (wC (.int 3))) (wC (.int 1))) wANil))) wANil)) wMNil)))
  (wSeq (wIf (wTest (wOp fNe (wCall 4 F_outcome_by (wACons (wVar 1) (wACons (wVar 7) (wACons (wVar 11) (wACons (wVar 12) wANil))))) (wCall 3 F__law_outcome (wACons (wVar 7) (wACons (wVar 11) (wACons (wVar 12) wANil)))))) (wRet (wC (.bool false))) wNext)
  (wSeq (wIf (wTest (wOp fGt (wVar 1) (wC (.int 40)))) (wRet (wC (.bool true))) wNext)
  (wSeq (wSet 2 (wIfE (wTest (wOp fEq (wCall 2 F__law_take (wAOwn 0 (wACons (wC (.int 2)) wANil))) (wC (.int 0)))) (wCall 2 F__law_plan_drawn (wAOwn 0 (wACons (wVar 1) wANil))) (wAdd (wAdd (wSlT (wVar 7) wNoPart (wPart (wC (.int 1)))) (wTup (wACons (wMax2 (wACons (wC (.int 0)) (wACons (wSub (wOp fIx (wVar 7) (wC (.int 1))) (wC (.int 1))) wANil))) wANil))) (wSlT (wVar 7) (wPart (wC (.int 2))) wNoPart))))
  (wSeq (wSetF 3 (wLc (wRng1 (wACons (wAdd (wVar 1) (wC (.int 1))) wANil)) (wgName 13) wYes (wTup (wACons (wOp fIx (wCall 3 F__law_by_plan (wACons (wVar 1) (wACons (wVar 13) (wACons (wVar 7) wANil)))) (wC (.int 0))) (wACons (wOp fIx (wCall 3 F__law_by_plan (wACons (wVar 1) (wACons (wVar 13) (wACons (wVar 2) wANil)))) (wC (.int 0))) wANil))) [13]))
  (wSeq (wIf (wTest (wOp fNe (wCall 3 F_is_stricter (wACons (wVar 1) (wACons (wVar 7) (wACons (wVar 2) wANil)))) (wCB fAll (wACons (wNew (wLc (wSeqI (wVar 3)) (wgTup 2 (wgCons (wgName 14) (wgCons (wgName 15) wgNil))) wYes (wNotV (wCall 2 F__law_is_less (wACons (wVar 15) (wACons (wVar 14) wANil)))) [14, 15])) wANil)))) (wRet (wC (.bool false))) wNext)
  (wSeq (wIf (wTest (wOp fNe (wCall 3 F_is_stricter (wACons (wVar 1) (wACons (wVar 2) (wACons (wVar 7) wANil)))) (wCB fAll (wACons (wNew (wLc (wSeqI (wVar 3)) (wgTup 2 (wgCons (wgName 14) (wgCons (wgName 15) wgNil))) wYes (wNotV (wCall 2 F__law_is_less (wACons (wVar 14) (wACons (wVar 15) wANil)))) [14, 15])) wANil)))) (wRet (wC (.bool false))) wNext)
  (wSeq (wSet 4 (wInt (wACons (wCall 2 F__law_take (wAOwn 0 (wACons (wC (.int 4)) wANil))) wANil)))
  (wSeq (wSet 5 (wTup (wACons (wOp fIx (wVar 7) (wC (.int 0))) (wACons (wVar 4) (wACons (wAdd (wVar 4) (wC (.int 1))) (wACons (wC (.int 0)) (wACons (wVar 4) wANil)))))))
  (wRet (wOp fEq (wCall 3 F_pass_by (wACons (wVar 1) (wACons (wVar 6) (wACons (wVar 5) wANil)))) (wCall 4 F__law_passes (wACons (wVar 1) (wACons (wVar 6) (wACons (wOp fIx (wVar 7) (wC (.int 0))) (wACons (wVar 4) wANil))))))))))))))))))))
def ws__law_right : WS :=
  (wSeq (wFor (wRng1 (wACons (wC (.int 4)) wANil)) (wgName 1) (wIf (wOr (wNot (wTest (wCall 1 F__law_are_samples_right (wAOwn 0 wANil)))) (wNot (wTest (wCall 1 F__law_are_plans_right (wAOwn 0 wANil))))) (wRet (wC (.bool false))) wNext))
  (wRet (wC (.bool true))))
def ws_law : WS :=
  (wRet (wCB fAll (wACons (wNew (wLc (wSeqI (wCall 2 F__law_cells (wACons (wVar 0) (wACons (wC (.int 2)) wANil)))) (wgName 1) wYes (wCall1 F__law_right (wCallN 2 F__law_pot (wACons (wVar 0) (wACons (wVar 1) wANil)))) [1])) wANil)))
end K7

namespace K7
open PySem PySem.Spec PyProof.Rows L2 Dl
set_option maxHeartbeats 2000000
local macro_rules | `(tactic| walk_at "dl") => `(tactic| try simp -dsimp only [↓wSeq, ↓wIf, ↓wTest, ↓wOp, ↓wVar, ↓wFrz, ↓fB_i, ↓wRet, ↓wRetL, ↓wC, ↓wSet, ↓wFor_h, ↓wRng1, ↓wRng2, ↓wSeqI, ↓wACons, ↓wANil, ↓wAOwn, ↓wCB, ↓wCBN, ↓fI1_i, ↓fI2_i, ↓fI_i, ↓fInt_i, ↓fInt_b, ↓fLen_l, ↓fLen_t, ↓fAdd_i, ↓fAdd_s, ↓fAdd_t, ↓fEq, ↓fNe, ↓fIs, ↓fIsN, ↓fSum_l, ↓fAll_l, ↓fAny_l, isNon, ↓fIx_l, ↓fIx_t, ↓wNext, ↓wNever, ↓wExpr, ↓wAug, ↓wPar_h, ↓wMCons, ↓wMConsN, ↓wMNil, Dl.putAll, ↓wAsg, ↓wgTup, ↓wgCons, ↓wgNil, ↓wgName, ↓wTup, ↓wLst, ↓wNew, ↓wAnd, ↓wOr, ↓wNot, ↓wAndV, ↓wOrV, ↓wNotV, ↓wIfE, ↓wChain, ↓wYes, ↓wIsi_h, tyN, kit_ii, kit_ib, kit_tt, kit_it, ofAr, ↓wCall_h, ↓wCallN_h, ↓wCall1_h, mkArgs, putBack_pure, putBack, slotsOf, ↓wIxO_h, ↓wPutO, ↓wSetN, ↓wSetF, ↓wLc_h, Dl.freeOf, wipeE, backE, ↓wNeg, ↓wListRg, ↓wSlL, ↓wSlT, ↓wNoPart, ↓wPart, ↓ends_rt_h, ↓ends_nx_h, ↓ends_rn_h, ↓endsN_rn_h, nones, outs, Sls.at, Sls.put, List.length_cons, List.length_nil, List.cons_append, List.nil_append, List.append_nil, Nat.reduceSub, Nat.reduceAdd, Nat.zero_add, List.replicate, decide_eq_true_eq, Option.map_some, Option.some.injEq, exists_eq_left', exists_eq_left, true_and, and_true, List.nodup_nil, List.all_nil, List.all_cons, Bool.and_true, Bool.true_and, Bool.not_true, Bool.not_false, if_true, if_false, Bool.false_eq_true, reduceIte, reduceCtorEq, shaped_int, shaped_non, shaped_bool, eqv_int, Bool.not_eq_true', decide_eq_false_iff_not, Int.zero_add, not_false_eq_true, not_true_eq_false, exists_prop, atI_0, atI_1, atI_2, atI_3, atI_4, ix_30, ix_2, ex_ls, List.set, ap_is_int, ap_is_whole, ↓hold1, ↓hold2, ↓hold3, ↓hold_nx, ↓hold_rt, ↓hold_bk, ↓hold_ct, ↓hold_rn, ↓optGo_some, ↓ixoGo_i, nodup1, Int.reduceSub])
local macro_rules | `(tactic| walk_at "d1") => `(tactic| try simp -dsimp only [↓wIf, ↓wTest, ↓wOp, ↓wVar, ↓wFrz, ↓fB_i, ↓wRet, ↓wRetL, ↓wC, ↓wSet, ↓wFor_h, ↓wRng1, ↓wRng2, ↓wSeqI, ↓wACons, ↓wANil, ↓wAOwn, ↓wCB, ↓wCBN, ↓fI1_i, ↓fI2_i, ↓fI_i, ↓fInt_i, ↓fInt_b, ↓fLen_l, ↓fLen_t, ↓fAdd_i, ↓fAdd_s, ↓fAdd_t, ↓fEq, ↓fNe, ↓fIs, ↓fIsN, ↓fSum_l, ↓fAll_l, ↓fAny_l, isNon, ↓fIx_l, ↓fIx_t, ↓wNext, ↓wNever, ↓wExpr, ↓wAug, ↓wPar_h, ↓wMCons, ↓wMConsN, ↓wMNil, Dl.putAll, ↓wAsg, ↓wgTup, ↓wgCons, ↓wgNil, ↓wgName, ↓wTup, ↓wLst, ↓wNew, ↓wAnd, ↓wOr, ↓wNot, ↓wAndV, ↓wOrV, ↓wNotV, ↓wIfE, ↓wChain, ↓wYes, ↓wIsi_h, tyN, kit_ii, kit_ib, kit_tt, kit_it, ofAr, ↓wCall_h, ↓wCallN_h, ↓wCall1_h, mkArgs, putBack_pure, putBack, slotsOf, ↓wIxO_h, ↓wPutO, ↓wSetN, ↓wSetF, ↓wLc_h, Dl.freeOf, wipeE, backE, ↓wNeg, ↓wListRg, ↓wSlL, ↓wSlT, ↓wNoPart, ↓wPart, ↓ends_rt_h, ↓ends_nx_h, ↓ends_rn_h, ↓endsN_rn_h, nones, outs, Sls.at, Sls.put, List.length_cons, List.length_nil, List.cons_append, List.nil_append, List.append_nil, Nat.reduceSub, Nat.reduceAdd, Nat.zero_add, List.replicate, decide_eq_true_eq, Option.map_some, Option.some.injEq, exists_eq_left', exists_eq_left, true_and, and_true, List.nodup_nil, List.all_nil, List.all_cons, Bool.and_true, Bool.true_and, Bool.not_true, Bool.not_false, if_true, if_false, Bool.false_eq_true, reduceIte, reduceCtorEq, shaped_int, shaped_non, shaped_bool, eqv_int, Bool.not_eq_true', decide_eq_false_iff_not, Int.zero_add, not_false_eq_true, not_true_eq_false, exists_prop, atI_0, atI_1, atI_2, atI_3, atI_4, ix_30, ix_2, ex_ls, List.set, ap_is_int, ap_is_whole, ↓hold1, ↓hold2, ↓hold3, ↓hold_nx, ↓hold_rt, ↓hold_bk, ↓hold_ct, ↓hold_rn, ↓optGo_some, ↓ixoGo_i, nodup1, Int.reduceSub])

theorem rd_is_int : ∀ env W, env.length = 3 → F_is_int env W → ws_is_int (ends env W) (env ++ nones 0) := by
  rintro env W hl ⟨v, lo, hi, rfl, q⟩
  unfold ws_is_int
  walk_at "dl"
  by_cases h1 : lo ≤ v
  · simp only [h1, decide_true, if_true, Bool.true_and] at q ⊢
    exact q
  · simp only [h1, decide_false, Bool.false_eq_true, if_false, Bool.false_and] at q ⊢
    exact q
theorem rd_is_whole : ∀ env W, env.length = 1 → F_is_whole env W → ws_is_whole (ends env W) (env ++ nones 0) := by
  rintro env W hl ⟨v, rfl, q⟩
  unfold ws_is_whole
  walk_at "dl"
  exact q
theorem cI_min {n k : Int} (h0 : 0 ≤ k) (h1 : k ≤ n) : cI n (if n - k < k then n - k else k) = cI n k := by
  split
  · exact cI_sym h0 h1
  · rfl
theorem rd_chosen : ∀ env W, env.length = 2 → F_chosen env W → ws_chosen (ends env W) (env ++ nones 2) := by
  rintro env W hl ⟨n, k, rfl, h0, h1, h2, q⟩
  unfold ws_chosen
  walk_at "dl"
  by_cases hk : n < k
  · rw [if_pos hk]
    rw [cI_out (by omega)] at q
    exact q
  · rw [if_neg hk]
    have hm : (0 : Int) ≤ (if n - k < k then n - k else k) ∧ (if n - k < k then n - k else k) ≤ n := by split <;> omega
    have e := cI_min h1 (show k ≤ n by omega)
    generalize (if n - k < k then n - k else k) = m at *
    refine ⟨⟨by omega, by omega⟩, ?_⟩
    refine forR_ind (fun i e => ∃ y, e = [some (.d (.int n)), some (.d (.int k)), some (.d (.int (cI n i))), y]) (fun e h => ?_) (fun i e N hi hN h => ?_) _ ⟨none, ?_⟩
    · obtain ⟨y, rfl⟩ := h
      walk_at "dl"
      rw [show ((m.toNat : Nat) : Int) = m by omega, e]
      exact q
    · obtain ⟨y, rfl⟩ := h
      walk_at "dl"
      refine ⟨.r (by omega) (by omega), div_small (by omega) (by omega), hN _ ⟨some (.d (.int (i : Int))), ?_⟩⟩
      rw [cI_step (show (i : Int) < n by omega)]
      rfl
    · rw [show ((0 : Nat) : Int) = 0 by rfl, cI_zero (show 0 ≤ n by omega)]
theorem rd__law_choices : ∀ env W, env.length = 2 → F__law_choices env W → ws__law_choices (ends env W) (env ++ nones 2) := by
  rintro env W hl ⟨n, k, rfl, h0, q⟩
  unfold ws__law_choices
  walk_at "dl"
  by_cases hk : 0 ≤ k ∧ k ≤ n
  · obtain ⟨h1, hk⟩ := hk
    simp only [h1, hk, decide_true, if_true, not_true_eq_false, if_false]
    have hm : (0 : Int) ≤ (if n - k < k then n - k else k) ∧ (if n - k < k then n - k else k) ≤ n := by split <;> omega
    have e := cI_min h1 (show k ≤ n by omega)
    generalize (if n - k < k then n - k else k) = m at *
    refine ⟨⟨by omega, by omega⟩, ?_⟩
    refine forR_ind (fun i e => ∃ y, e = [some (.d (.int n)), some (.d (.int k)), some (.d (.int (cI n i))), y]) (fun e h => ?_) (fun i e N hi hN h => ?_) _ ⟨none, ?_⟩
    · obtain ⟨y, rfl⟩ := h
      walk_at "dl"
      rw [show ((m.toNat : Nat) : Int) = m by omega, e]
      exact q
    · obtain ⟨y, rfl⟩ := h
      walk_at "dl"
      refine ⟨.r (by omega) (by omega), div_small (by omega) (by omega), hN _ ⟨some (.d (.int (i : Int))), ?_⟩⟩
      rw [cI_step (show (i : Int) < n by omega)]
      rfl
    · rw [show ((0 : Nat) : Int) = 0 by rfl, cI_zero (show 0 ≤ n by omega)]
  · rw [cI_out hk] at q
    by_cases h1 : 0 ≤ k
    · have h2 : ¬ k ≤ n := fun z => hk ⟨h1, z⟩
      simp only [h1, h2, decide_true, decide_false, if_true, Bool.false_eq_true, not_false_eq_true, if_true]
      exact q
    · simp only [h1, decide_false, Bool.false_eq_true, if_false, not_false_eq_true, if_true]
      exact q
theorem rd_common_int : ∀ env W, env.length = 2 → F_common_int env W → ws_common_int (ends env W) (env ++ nones 0) := by
  rintro env W hl ⟨a, b, rfl, h0, h1, q⟩
  unfold ws_common_int
  walk_at "dl"
  refine ⟨fun m e => ∃ x y : Int, e = [some (.d (.int x)), some (.d (.int y))] ∧ 0 ≤ x ∧ 0 ≤ y ∧ Int.gcd x y = Int.gcd a b ∧ m = y.toNat, ⟨_, a, b, rfl, h0, h1, rfl, rfl⟩, ?_⟩
  rintro m e ⟨x, y, rfl, hx, hy, hg, rfl⟩
  walk_at "dl"
  by_cases hz : y = 0
  · subst hz
    simp only [decide_true, Bool.true_eq_false, if_false, Bool.false_eq_true]
    have : (x : Int) = (Int.gcd a b : Int) := by rw [← hg, Int.gcd_zero_right]; omega
    rw [← this] at q
    exact q
  · simp only [hz, decide_false, if_true]
    have p := Int.emod_nonneg x hz
    have l := Int.emod_lt_of_pos x (show 0 < y by omega)
    refine ⟨show 0 < y by omega, _, ?_, y, x % y, rfl, hy, p, ?_, rfl⟩
    · omega
    · rw [← hg]; exact gcd_mod hx (by omega)

theorem rd_told_whole : ∀ env W, env.length = 1 → F_told_whole env W → ws_told_whole (ends env W) (env ++ nones 2) := by
  rintro env W hl ⟨t, rfl, h0, h1, q⟩
  unfold ws_told_whole
  walk_at "dl"
  refine ⟨⟨by omega, by omega⟩, ?_⟩
  refine forR_ind (fun i e => ∃ y, e = [some (.d (.int t)), some (.d (.int (3 ^ i))), y]) (fun e h => ?_) (fun i e N hi hN h => ?_) _ ⟨none, rfl⟩
  · obtain ⟨y, rfl⟩ := h
    walk_at "dl"
    exact q
  · obtain ⟨y, rfl⟩ := h
    walk_at "dl"
    exact ⟨.r (by decide) (by decide), hN _ ⟨some (.d (.int (i : Int))), by rw [Int.pow_succ]⟩⟩
theorem rd_told_outcome : ∀ env W, env.length = 3 → F_told_outcome env W → ws_told_outcome (ends env W) (env ++ nones 5) := by
  rintro env W hl ⟨x, a, b, rfl, q⟩
  unfold ws_told_outcome
  walk_at "dl"
  unfold outc at q
  split
  · rename_i h; rw [if_pos h] at q; exact q
  · rename_i h; rw [if_neg h] at q
    split
    · rename_i h2; rw [if_pos h2] at q; exact q
    · rename_i h2; rw [if_neg h2] at q
      split
      · rename_i h3; rw [if_pos h3] at q; exact q
      · rename_i h3; rw [if_neg h3] at q; exact q
theorem rd__law_outcome : ∀ env W, env.length = 3 → F__law_outcome env W → ws__law_outcome (ends env W) (env ++ nones 5) := rd_told_outcome
theorem rd__law_frac : ∀ env W, env.length = 2 → F__law_frac env W → ws__law_frac (ends env W) (env ++ nones 2) := by
  rintro env W hl ⟨a, b, rfl, h0, h1, h2, q⟩
  unfold ws__law_frac
  walk_at "dl"
  rw [if_neg (show ¬ a < 0 by omega)]
  refine ⟨fun m e => ∃ x y : Int, e = [some (.d (.int a)), some (.d (.int b)), some (.d (.int x)), some (.d (.int y))] ∧ 0 ≤ x ∧ 0 ≤ y ∧ Int.gcd x y = Int.gcd a b ∧ m = y.toNat, ⟨_, a, b, rfl, h0, by omega, rfl, rfl⟩, ?_⟩
  rintro m e ⟨x, y, rfl, hx, hy, hg, rfl⟩
  walk_at "dl"
  by_cases hz : y = 0
  · subst hz
    simp only [decide_true, Bool.true_eq_false, if_false, Bool.false_eq_true, not_true_eq_false]
    have e1 : x = (Int.gcd a b : Int) := by rw [← hg, Int.gcd_zero_right]; omega
    have gp := gcd_pos (a := a) h1
    have gl : (Int.gcd a b : Int) ≤ b := by
      have := Int.le_of_dvd h1 (Int.gcd_dvd_right a b)
      exact this
    rw [if_pos (show 0 < x by omega)]
    have dv : ∀ z : Int, CDivW z x := fun z => div_sz (b := 7900) (by omega) ⟨by omega, by omega⟩
    refine ⟨dv _, dv _, line_le (by decide), ?_⟩
    rw [e1]
    exact q
  · simp only [hz, decide_false, if_true, not_false_eq_true]
    have p := Int.emod_nonneg x hz
    have l := Int.emod_lt_of_pos x (show 0 < y by omega)
    refine ⟨show 0 < y by omega, _, ?_, y, x % y, rfl, hy, p, ?_, rfl⟩
    · omega
    · rw [← hg]; exact gcd_mod hx (by omega)
theorem rd__law_is_less : ∀ env W, env.length = 2 → F__law_is_less env W → ws__law_is_less (ends env W) (env ++ nones 0) := by
  rintro env W hl ⟨a, b, c, d, rfl, ha, hb, hc, hd, q⟩
  unfold ws__law_is_less
  walk_at "dl"
  exact ⟨.sz ha hd, .sz hc hb, q⟩
theorem rd_is_no_more : ∀ env W, env.length = 2 → F_is_no_more env W → ws_is_no_more (ends env W) (env ++ nones 0) := by
  rintro env W hl ⟨a, b, c, d, rfl, ha, hb, hc, hd, q⟩
  unfold ws_is_no_more
  walk_at "dl"
  exact ⟨.sz ha hd, .sz hc hb, q⟩
theorem p300 : ((10 : Int) ^ Int.toNat 60) ^ Int.toNat 5 = 10 ^ 300 := by decide +kernel
theorem p18 : (10 : Int) ^ Int.toNat 18 = 1000000000000000000 := by decide +kernel
theorem pw60 : PowOk 10 60 := .small (by decide) (by decide) (by decide)
theorem pw5 : PowOk (10 ^ Int.toNat 60) 5 := ⟨by decide, by decide +kernel⟩
theorem pw18 : PowOk 10 18 := .small (by decide) (by decide) (by decide)
theorem big300 : (10 : Int) ^ 300 < 2 ^ 1000 := by decide +kernel
theorem big300p : (0 : Int) < 10 ^ 300 := by decide +kernel
/-- a cell's pot -/
theorem pot_of (cell : Int) (k : Int) : Pot 0 [.int ((if cell < 0 then -cell else cell) % 10 ^ 300 * (if 1000000000000000000 ≤ (if cell < 0 then -cell else cell) then 1 else 0)), .int ((cell % 2305843009213693951 * 72211 + 10883 * k * k + 2897) % 2305843009213693921), .int 0] := by
  have h3 := big300
  have h4 := Int.emod_nonneg (cell % 2305843009213693951 * 72211 + 10883 * k * k + 2897) (show (2305843009213693921 : Int) ≠ 0 by decide)
  have h5 := Int.emod_lt_of_pos (cell % 2305843009213693951 * 72211 + 10883 * k * k + 2897) (show (0 : Int) < 2305843009213693921 by decide)
  generalize (if cell < 0 then -cell else cell) = ac at *
  have h1 := Int.emod_nonneg ac (show (10 : Int) ^ 300 ≠ 0 from fun z => by have := big300p; omega)
  have h2 := Int.emod_lt_of_pos ac big300p
  generalize ac % 10 ^ 300 = r at *
  refine ⟨_, _, _, rfl, ?_, ?_, h4, by omega, by decide, by decide⟩
  · split
    · rw [Int.mul_one]; exact h1
    · rw [Int.mul_zero]; exact Int.le_refl 0
  · split
    · rw [Int.mul_one]; exact Int.lt_trans h2 h3
    · rw [Int.mul_zero]; exact pow2_pos 1000
theorem b01 {P : Prop} [Decidable P] : -(2 ^ 64) < (if P then 1 else 0 : Int) ∧ (if P then 1 else 0 : Int) < 2 ^ 64 := by split <;> decide
theorem rd__law_pot : ∀ env W, env.length = 2 → F__law_pot env W → ws__law_pot (endsN env W) (env ++ nones 3) := by
  rintro env W hl ⟨ns, k, rfl, h0, h1, h2, h3, q⟩
  unfold ws__law_pot
  walk_at "dl"
  have fin : ∀ cell : Int, PowOk 10 60 ∧ PowOk (10 ^ Int.toNat 60) 5 ∧ ModOk (if cell < 0 then -cell else cell) ((10 ^ Int.toNat 60) ^ Int.toNat 5) ∧ PowOk 10 18 ∧
      Dl.MulOk ((if cell < 0 then -cell else cell) % (10 ^ Int.toNat 60) ^ Int.toNat 5) (if 10 ^ Int.toNat 18 ≤ (if cell < 0 then -cell else cell) then 1 else 0) ∧ ModOk cell 2305843009213693951 ∧ Dl.MulOk (cell % 2305843009213693951) 72211 ∧ Dl.MulOk 10883 k ∧ Dl.MulOk (10883 * k) k ∧
      ModOk (cell % 2305843009213693951 * 72211 + 10883 * k * k + 2897) 2305843009213693921 ∧ 3 ≤ sizeLine ∧
      W [.int ((if cell < 0 then -cell else cell) % (10 ^ Int.toNat 60) ^ Int.toNat 5 * (if 10 ^ Int.toNat 18 ≤ (if cell < 0 then -cell else cell) then 1 else 0)), .int ((cell % 2305843009213693951 * 72211 + 10883 * k * k + 2897) % 2305843009213693921), .int 0] [some (.d (.list (ns.map PyData.int))), some (.d (.int k))] := fun cell => by
    rw [p300, p18]
    refine ⟨pw60, pw5, big300p, pw18, .r b01.1 b01.2, show (0 : Int) < 2305843009213693951 by decide, .r (by decide) (by decide), .l (by decide) (by decide), .r (by omega) (by omega), show (0 : Int) < 2305843009213693921 by decide, line_le (by decide), ?_⟩
    exact q _ (pot_of cell k)
  split
  · rename_i lt
    rw [List.length_map] at lt
    refine optGo_of (d := .int (ns[k.toNat]'(by omega))) ?_ ?_
    · rw [atI_at h2, List.getElem?_map, List.getElem?_eq_getElem (by omega)]
      rfl
    · walk_at "dl"
      exact fin _
  · refine sumGo_of (ns := ns.take 1) ?_ ?_
    · unfold Dl.cutD
      rw [List.length_map, HT.sIx_none, show HT.sIx ns.length ns.length (some 1) = min 1 ns.length from HT.sIx_nat _ _ 1, List.drop_zero, List.map_take, Nat.sub_zero]
      cases ns with
      | nil => rfl
      | cons x r => simp
    · walk_at "dl"
      exact ⟨show (0 : Int) < 1000639 by decide, .l (by decide) (by decide), fin _⟩
theorem prime_at {c : Int} : ∃ q : Int, atI [PyData.int 2147483647, .int 2147483629, .int 2147483587, .int 2147483579, .int 2147483563] (c % 5) = some (.int q) ∧ 0 < q ∧ q ≤ 2147483647 := by
  have h : c % 5 = 0 ∨ c % 5 = 1 ∨ c % 5 = 2 ∨ c % 5 = 3 ∨ c % 5 = 4 := by omega
  rcases h with h | h | h | h | h <;> rw [h]
  · exact ⟨_, atI_0, by decide, by decide⟩
  · exact ⟨_, atI_1, by decide, by decide⟩
  · exact ⟨_, atI_2, by decide, by decide⟩
  · exact ⟨_, atI_3, by decide, by decide⟩
  · exact ⟨_, atI_4, by decide, by decide⟩
theorem rd__law_take : ∀ env W, env.length = 2 → F__law_take env W → ws__law_take (ends env W) (env ++ nones 3) := by
  rintro env W hl ⟨p, xs, n, m, rfl, hp, h1, h2, h3, q⟩
  obtain ⟨a, b, c, rfl, ha, ha2, hb, hb2, hc, hc2⟩ := hp
  unfold ws__law_take
  walk_at "dl"
  split
  · rename_i hpos
    have g1 := Int.emod_nonneg a (show n ≠ 0 by omega)
    have g2 := Int.emod_lt_of_pos a h2
    refine ⟨h2, div_sz (b := 63) h2 ⟨by omega, h3⟩, q _ _ g1 g2 ⟨_, _, _, rfl, Int.ediv_nonneg ha (by omega), ?_, hb, hb2, hc, by omega⟩⟩
    exact Int.lt_of_le_of_lt (Int.ediv_le_self _ ha) ha2
  · obtain ⟨pr, e, hp0, hp1⟩ := prime_at (c := c + 1)
    have c2 : 95287 * (c + 1) * (c + 1) ≤ 95287 * 10001 * 10001 := Int.mul_le_mul (by omega) (by omega) (by omega) (by decide)
    have c3 : 0 ≤ 95287 * (c + 1) * (c + 1) := Int.mul_nonneg (by omega) (by omega)
    refine ⟨line_le (by decide), show (0 : Int) < 5 by decide, optGo_of e ?_⟩
    walk_at "dl"
    refine ⟨.l (by decide) (by decide), .r (by omega) (by omega), .small (by decide) (by decide) ?_, ?_⟩
    · omega
    · skip
      generalize (b + 95287 * (c + 1) * (c + 1) + 3203) ^ Int.toNat 3 = z1
      have z2 := Int.emod_nonneg z1 (show pr ≠ 0 by omega)
      have z3 := Int.emod_lt_of_pos z1 hp0
      generalize z1 % pr = z4 at *
      generalize z4 * (z4 % 13463 + 431 * (c + 1)) % 2305843009213693907 / 229 = z5
      refine ⟨hp0, show (0 : Int) < 13463 by decide, .l (by decide) (by decide), .l (by omega) (by omega), show (0 : Int) < 2305843009213693907 by decide, div_small (by decide) (by decide), h2, ?_⟩
      exact q _ _ (Int.emod_nonneg _ (by omega)) (Int.emod_lt_of_pos _ h2) ⟨_, _, _, rfl, ha, ha2, hb, hb2, by omega, by omega⟩

theorem rd_lowest : ∀ env W, env.length = 2 → F_lowest env W → ws_lowest (ends env W) (env ++ nones 1) := by
  rintro env W hl ⟨a, b, rfl, h0, h1, h2, q⟩
  unfold ws_lowest
  walk_at "dl"
  have gp := gcd_pos (a := a) h1
  have gl : (Int.gcd a b : Int) ≤ b := Int.le_of_dvd h1 (Int.gcd_dvd_right a b)
  refine ⟨a, b, rfl, h0, by omega, ?_⟩
  walk_at "dl"
  have dv : ∀ z : Int, CDivW z (Int.gcd a b : Int) := fun z => div_sz (b := 7900) gp ⟨by omega, by omega⟩
  exact ⟨dv _, dv _, line_le (by decide), q⟩
theorem rd_are_ints : ∀ env W, env.length = 3 → F_are_ints env W → ws_are_ints (ends env W) (env ++ nones 1) := by
  rintro env W hl ⟨ns, lo, hi, rfl, hn, q⟩
  unfold ws_are_ints
  walk_at "dl"
  refine lcD_pure (fun _ => true) (fun x => match x with
    | .int v => .bool (decide (lo ≤ v) && decide (v ≤ hi))
    | _ => .none) _ (fun x hx N acc hl h1 _ => ?_) [] ?_ ?_
  · obtain ⟨v, _, rfl⟩ := List.mem_map.mp hx
    walk_at "dl"
    exact ⟨hl, h1 rfl⟩
  · rw [List.length_map]; exact line_le (by show 0 + _ ≤ _; omega)
  · refine ⟨ns.map fun v => decide (lo ≤ v) && decide (v ≤ hi), ?_, ?_⟩
    · rw [List.filter_eq_self.mpr fun _ _ => rfl, List.map_map, List.map_map, List.nil_append]
      rfl
    · walk_at "dl"
      rw [List.all_map]
      exact q
theorem rd_is_fraction : ∀ env W, env.length = 1 → F_is_fraction env W → ws_is_fraction (ends env W) (env ++ nones 0) := by
  rintro env W hl ⟨a, b, rfl, h0, h1, h2, h3, q⟩
  unfold ws_is_fraction
  walk_at "dl"
  rw [if_neg (by decide)]
  simp only [h0, h1, h2, decide_true, if_true, ge_iff_le]
  refine ⟨a, b, rfl, h0, by omega, ?_⟩
  walk_at "dl"
  rw [h3]
  exact q
theorem rd_look_at_lot : ∀ env W, env.length = 2 → F_look_at_lot env W → ws_look_at_lot (ends env W) (env ++ nones 0) := by
  rintro env W hl ⟨b, d, rfl, h0, h1, h2, h3, q⟩
  unfold ws_look_at_lot
  walk_at "dl"
  simp only [h0, h1, h2, h3, decide_true, Bool.and_self, Bool.true_eq_false, if_false, not_true_eq_false]
  exact q
theorem sR_succ (f : Int → Int) (m : Nat) : sR f (m + 1) = sR f m + f m := rfl
theorem rd_told_rest : ∀ env W, env.length = 2 → F_told_rest env W → ws_told_rest (ends env W) (env ++ nones 4) := by
  rintro env W hl ⟨t, r, rfl, h0, h1, h2, h3, q⟩
  unfold ws_told_rest
  walk_at "dl"
  refine ⟨⟨by omega, by omega, by omega, by omega⟩, ?_⟩
  refine forR_ind (fun i e => ∃ y z u, e = [some (.d (.int t)), some (.d (.int r)), some (.d (.int (sR (fun i => cI t (r + i) * 2 ^ (t - (r + i)).toNat) i))), y, z, u]) (fun e h => ?_) (fun i e N hi hN h => ?_) _ ⟨none, none, none, rfl⟩
  · obtain ⟨y, z, u, rfl⟩ := h
    walk_at "dl"
    exact q
  · obtain ⟨y, z, u, rfl⟩ := h
    walk_at "dl"
    refine ⟨⟨by omega, by omega⟩, ?_⟩
    refine forR_ind (fun j e => ∃ u, e = [some (.d (.int t)), some (.d (.int r)), some (.d (.int (sR (fun i => cI t (r + i) * 2 ^ (t - (r + i)).toNat) i))), some (.d (.int (r + i))), some (.d (.int (2 ^ j))), u]) (fun e h => ?_) (fun j e N hj hN h => ?_) _ ⟨u, rfl⟩
    · obtain ⟨u, rfl⟩ := h
      walk_at "dl"
      refine ⟨t, r + i, rfl, by omega, by omega, by omega, ?_⟩
      walk_at "dl"
      have hp : (2 : Int) ^ (t - (r + i)).toNat ≤ 2 ^ 200 := p2m (by omega)
      have hp0 := pow2_pos (t - (r + i)).toNat
      refine ⟨.sz (a := 2001) (b := 201) ?_ ?_, hN _ ⟨_, _, _, rfl⟩⟩
      · exact ⟨cI_nn _ _, Int.lt_of_le_of_lt (cI_le_of (b := 2000) (by omega)) (by decide)⟩
      · exact ⟨by omega, Int.lt_of_le_of_lt hp (by decide)⟩
    · obtain ⟨u, rfl⟩ := h
      walk_at "dl"
      exact ⟨.r (by decide) (by decide), hN _ ⟨some (.d (.int (j : Int))), by rw [Int.pow_succ]⟩⟩
theorem rd_told_second : ∀ env W, env.length = 4 → F_told_second env W → ws_told_second (ends env W) (env ++ nones 2) := by
  rintro env W hl ⟨b, d, s, l, rfl, h0, h1, h2, h3, h4, h5, q⟩
  unfold ws_told_second
  walk_at "dl"
  have hm : (0 : Int) ≤ (if l < s then l else s) ∧ (if l < s then l else s) ≤ s := by split <;> omega
  unfold atM at q
  generalize (if l < s then l else s) = m at *
  refine ⟨⟨by omega, by omega⟩, ?_⟩
  refine forR_ind (fun i e => ∃ y, e = [some (.d (.int b)), some (.d (.int d)), some (.d (.int s)), some (.d (.int l)), some (.d (.int (sR (fun f => cI d f * cI (b - d) (s - f)) i))), y]) (fun e h => ?_) (fun i e N hi hN h => ?_) _ ⟨none, rfl⟩
  · obtain ⟨y, rfl⟩ := h
    walk_at "dl"
    exact q
  · obtain ⟨y, rfl⟩ := h
    walk_at "dl"
    refine ⟨d, i, rfl, by omega, by omega, by omega, ?_⟩
    walk_at "dl"
    refine ⟨b - d, s - i, rfl, by omega, by omega, by omega, ?_⟩
    walk_at "dl"
    refine ⟨.sz (a := 2001) (b := 2001) ?_ ?_, hN _ ⟨some (.d (.int (i : Int))), rfl⟩⟩
    · exact ⟨cI_nn _ _, Int.lt_of_le_of_lt (cI_le_of (b := 2000) (by omega)) (by decide +kernel)⟩
    · exact ⟨cI_nn _ _, Int.lt_of_le_of_lt (cI_le_of (b := 2000) (by omega)) (by decide +kernel)⟩
theorem rd__law_of : ∀ env W, env.length = 2 → F__law_of env W → ws__law_of (ends env W) (env ++ nones 0) := by
  rintro env W hl ⟨p, xs, ys, m, rfl, hp, hm, h0, h1, q⟩
  unfold ws__law_of
  walk_at "dl"
  refine ⟨p, xs, ys.length, m, rfl, hp, hm, by omega, by omega, fun r xs' g0 g1 hp' => ?_⟩
  walk_at "dl"
  refine optGo_of (d := ys[r.toNat]'(by omega)) ?_ ?_
  · rw [atI_at g0]; exact List.getElem?_eq_getElem _
  · walk_at "dl"
    exact q _ _ (List.getElem_mem _) hp'
theorem rd__law_plus : ∀ env W, env.length = 2 → F__law_plus env W → ws__law_plus (ends env W) (env ++ nones 0) := by
  rintro env W hl ⟨a, b, c, d, rfl, ha, hb, hc, hd, h1, h2, q⟩
  unfold ws__law_plus
  walk_at "dl"
  refine ⟨.sz ha hd, .sz hc hb, .sz hb hd, a * d + c * b, b * d, rfl, Int.add_nonneg (Int.mul_nonneg ha.1 hd.1) (Int.mul_nonneg hc.1 hb.1), Int.mul_pos h1 h2, ?_, ?_⟩
  · exact ((hb.mul hd).mono (by decide : 3900 + 3900 ≤ 7900)).2
  · walk_at "dl"
    exact q
theorem rd__law_times : ∀ env W, env.length = 2 → F__law_times env W → ws__law_times (ends env W) (env ++ nones 0) := by
  rintro env W hl ⟨a, b, c, d, rfl, ha, hb, hc, hd, h1, h2, q⟩
  unfold ws__law_times
  walk_at "dl"
  refine ⟨.sz ha hc, .sz hb hd, a * c, b * d, rfl, Int.mul_nonneg ha.1 hc.1, Int.mul_pos h1 h2, ?_, ?_⟩
  · exact ((hb.mul hd).mono (by decide : 3900 + 3900 ≤ 7900)).2
  · walk_at "dl"
    exact q
theorem cI_sz {n k : Int} {b : Nat} (h : n ≤ b) : Sz (b + 1) (cI n k) := ⟨cI_nn _ _, by
  have := cI_le_of (n := n) (k := k) h
  rw [Int.pow_succ]
  have := pow2_pos b
  omega⟩
theorem rd__law_chance : ∀ env W, env.length = 4 → F__law_chance env W → ws__law_chance (ends env W) (env ++ nones 0) := by
  rintro env W hl ⟨b, d, t, f, rfl, h0, h1, h2, h3, h4, h5, h6, q⟩
  unfold ws__law_chance
  walk_at "dl"
  refine ⟨d, f, rfl, by omega, ?_⟩
  walk_at "dl"
  refine ⟨b - d, t - f, rfl, by omega, ?_⟩
  walk_at "dl"
  refine ⟨.sz (cI_sz (b := 2000) (by omega)) (cI_sz (b := 2000) (by omega)), b, t, rfl, by omega, ?_⟩
  walk_at "dl"
  refine ⟨_, _, rfl, Int.mul_nonneg (cI_nn _ _) (cI_nn _ _), cI_pos h3 h4, ?_, ?_⟩
  · exact ((cI_sz (b := 2000) (by omega)).mono (by decide : 2001 ≤ 7900)).2
  · walk_at "dl"
    exact q
theorem rd_told_chance : ∀ env W, env.length = 4 → F_told_chance env W → ws_told_chance (ends env W) (env ++ nones 0) := by
  rintro env W hl ⟨b, d, t, f, rfl, h0, h1, h2, h3, h4, h5, h6, q⟩
  unfold ws_told_chance
  walk_at "dl"
  refine ⟨d, f, rfl, by omega, by omega, by omega, ?_⟩
  walk_at "dl"
  refine ⟨b - d, t - f, rfl, by omega, by omega, by omega, ?_⟩
  walk_at "dl"
  refine ⟨.sz (cI_sz (b := 2000) (by omega)) (cI_sz (b := 2000) (by omega)), b, t, rfl, by omega, by omega, by omega, ?_⟩
  walk_at "dl"
  refine ⟨_, _, rfl, Int.mul_nonneg (cI_nn _ _) (cI_nn _ _), cI_pos h3 h4, ?_, ?_⟩
  · exact ((cI_sz (b := 2000) (by omega)).mono (by decide : 2001 ≤ 7900)).2
  · walk_at "dl"
    exact q
theorem atM_nn (b d t l : Int) : 0 ≤ atM b d t l := sR_nn fun _ _ => Int.mul_nonneg (cI_nn _ _) (cI_nn _ _)
theorem atM_sz {b d t l : Int} (h0 : b - d ≤ 2000) (h1 : d ≤ 2000) (h2 : t ≤ 2000) : Sz 4100 (atM b d t l) := by
  refine ⟨atM_nn _ _ _ _, ?_⟩
  have h := sR_le (f := fun f => cI d f * cI (b - d) (t - f)) (b := 2 ^ 4002) (m := ((if l < t then l else t) + 1).toNat) fun i _ => Int.le_of_lt ((cI_sz (b := 2000) h1).mul (cI_sz (b := 2000) h0)).2
  refine Int.lt_of_le_of_lt h (Int.lt_of_le_of_lt (Int.mul_le_mul_of_nonneg_right (c := 2 ^ 4002) (show _ ≤ (2001 : Int) from ?_) (by decide +kernel)) (by decide +kernel))
  split <;> omega
theorem rd__law_passes : ∀ env W, env.length = 4 → F__law_passes env W → ws__law_passes (ends env W) (env ++ nones 2) := by
  rintro env W hl ⟨b, d, t, l, rfl, h0, h1, h2, h3, h4, h5, h6, q⟩
  unfold ws__law_passes
  walk_at "dl"
  have hm : (0 : Int) ≤ (if t < l then t else l) ∧ (if t < l then t else l) ≤ t ∧ (if t < l then t else l) = (if l < t then l else t) := by split <;> split <;> omega
  have eq : atM b d t l = sR (fun f => cI d f * cI (b - d) (t - f)) ((if t < l then t else l) + 1).toNat := by rw [hm.2.2]; rfl
  have z := atM_sz (b := b) (d := d) (t := t) (l := l) (by omega) (by omega) (by omega)
  rw [eq] at q z
  generalize (if t < l then t else l) = m at *
  refine ⟨⟨by omega, by omega⟩, ?_⟩
  refine lcR_pure (fun _ => true) (fun i => .int (cI d i * cI (b - d) (t - i))) _ (fun i hi N acc hl h1 _ => ?_) (line_le (by omega)) ?_
  · walk_at "dl"
    refine ⟨d, i, rfl, by omega, ?_⟩
    walk_at "dl"
    refine ⟨b - d, t - i, rfl, by omega, ?_⟩
    walk_at "dl"
    exact ⟨.sz (cI_sz (b := 2000) (by omega)) (cI_sz (b := 2000) (by omega)), hl, h1 rfl⟩
  · walk_at "dl"
    refine ⟨(List.range (m + 1).toNat).map fun (i : Nat) => cI d i * cI (b - d) (t - i), by rw [List.filter_eq_self.mpr fun _ _ => rfl, List.map_map]; rfl, ?_⟩
    walk_at "dl"
    refine ⟨b, t, rfl, by omega, ?_⟩
    walk_at "dl"
    rw [sR_list fun f => cI d f * cI (b - d) (t - f)]
    refine ⟨_, _, rfl, z.1, cI_pos h3 h4, ((cI_sz (b := 2000) (by omega)).mono (by decide : 2001 ≤ 7900)).2, ?_⟩
    walk_at "dl"
    exact q
theorem rd_told_at_most : ∀ env W, env.length = 4 → F_told_at_most env W → ws_told_at_most (ends env W) (env ++ nones 2) := by
  rintro env W hl ⟨b, d, t, l, rfl, h0, h1, h2, h3, h4, h5, h6, q⟩
  unfold ws_told_at_most
  walk_at "dl"
  have hm : (0 : Int) ≤ (if t < l then t else l) ∧ (if t < l then t else l) ≤ t ∧ (if t < l then t else l) = (if l < t then l else t) := by split <;> split <;> omega
  have eq : atM b d t l = sR (fun f => cI d f * cI (b - d) (t - f)) ((if t < l then t else l) + 1).toNat := by rw [hm.2.2]; rfl
  have z := atM_sz (b := b) (d := d) (t := t) (l := l) (by omega) (by omega) (by omega)
  rw [eq] at q z
  generalize (if t < l then t else l) = m at *
  refine ⟨⟨by omega, by omega⟩, ?_⟩
  refine lcR_pure (fun _ => true) (fun i => .int (cI d i * cI (b - d) (t - i))) _ (fun i hi N acc hl h1 _ => ?_) (line_le (by omega)) ?_
  · walk_at "dl"
    refine ⟨d, i, rfl, by omega, by omega, by omega, ?_⟩
    walk_at "dl"
    refine ⟨b - d, t - i, rfl, by omega, by omega, by omega, ?_⟩
    walk_at "dl"
    exact ⟨.sz (cI_sz (b := 2000) (by omega)) (cI_sz (b := 2000) (by omega)), hl, h1 rfl⟩
  · refine ⟨(List.range (m + 1).toNat).map fun (i : Nat) => cI d i * cI (b - d) (t - i), by rw [List.filter_eq_self.mpr fun _ _ => rfl, List.map_map]; rfl, ?_⟩
    walk_at "dl"
    refine ⟨b, t, rfl, by omega, by omega, by omega, ?_⟩
    walk_at "dl"
    rw [sR_list fun f => cI d f * cI (b - d) (t - f)]
    refine ⟨_, _, rfl, z.1, cI_pos h3 h4, ((cI_sz (b := 2000) (by omega)).mono (by decide : 2001 ≤ 7900)).2, ?_⟩
    walk_at "dl"
    exact q

/-! ### the plain law -/
/-- a pair that is the fraction a / b -/
def Qf (u : Int × Int) (a b : Int) : Prop := 0 < u.2 ∧ u.1 * b = a * u.2
theorem Qf.fr {a b : Int} (h : 0 < b) : Qf (fr a b) a b := ⟨fr_bot h, fr_cross h⟩
theorem Qf.one {a : Int} : Qf (a, 1) a 1 := ⟨show (0 : Int) < 1 by decide, rfl⟩
theorem fr_plus {u v : Int × Int} {a b c d g e : Int} (hu : Qf u a b) (hv : Qf v c d) (hb : 0 < b) (hd : 0 < d) (he : 0 < e) (h : (a * d + c * b) * e = g * (b * d)) : fr (u.1 * v.2 + v.1 * u.2) (u.2 * v.2) = fr g e := by
  obtain ⟨u1, u2⟩ := u
  obtain ⟨v1, v2⟩ := v
  obtain ⟨hu0, hu⟩ := hu
  obtain ⟨hv0, hv⟩ := hv
  simp only at *
  refine fr_cong (Int.mul_pos hu0 hv0) he ?_
  refine Int.eq_of_mul_eq_mul_right (a := b * d) (by have := Int.mul_pos hb hd; omega) ?_
  have h1 : (u1 * v2 + v1 * u2) * e * (b * d) = e * ((u1 * b) * (v2 * d) + (v1 * d) * (u2 * b)) := by grind
  rw [h1, hu, hv]
  have h2 : e * (a * u2 * (v2 * d) + c * v2 * (u2 * b)) = ((a * d + c * b) * e) * (u2 * v2) := by grind
  rw [h2, h]
  grind
theorem fr_times {u v : Int × Int} {a b c d g e : Int} (hu : Qf u a b) (hv : Qf v c d) (hb : 0 < b) (hd : 0 < d) (he : 0 < e) (h : (a * c) * e = g * (b * d)) : fr (u.1 * v.1) (u.2 * v.2) = fr g e := by
  obtain ⟨u1, u2⟩ := u
  obtain ⟨v1, v2⟩ := v
  obtain ⟨hu0, hu⟩ := hu
  obtain ⟨hv0, hv⟩ := hv
  simp only at *
  refine fr_cong (Int.mul_pos hu0 hv0) he ?_
  refine Int.eq_of_mul_eq_mul_right (a := b * d) (by have := Int.mul_pos hb hd; omega) ?_
  have h1 : (u1 * v1) * e * (b * d) = e * ((u1 * b) * (v1 * d)) := by grind
  rw [h1, hu, hv]
  have h2 : e * (a * u2 * (c * v2)) = ((a * c) * e) * (u2 * v2) := by grind
  rw [h2, h]
  grind
theorem fr_sz {k : Nat} {a b : Int} (ha : Sz k a) (hb : Sz k b) (h : 0 < b) : Sz k (fr a b).1 ∧ Sz k (fr a b).2 :=
  ⟨ha.le (fr_top ha.1 h) (fr_top_le ha.1 h), hb.le (by have := fr_bot (a := a) h; omega) (fr_bot_le h)⟩
theorem fr_zero {b : Int} (h : 0 < b) : fr 0 b = (0, 1) := by
  unfold fr
  have e : (Int.gcd 0 b : Int) = b := by rw [Int.gcd_zero_left]; omega
  rw [e, Int.zero_ediv, Int.ediv_self (by omega)]
/-- crosswise, for two fractions in lowest terms -/
theorem noMore_fr {a b c d : Int} (hb : 0 < b) (hd : 0 < d) : noMore (fr a b) (fr c d) = noMore (a, b) (c, d) := by
  unfold noMore
  refine decide_eq_decide.mpr ?_
  have h1 := fr_cross (a := a) hb
  have h2 := fr_cross (a := c) hd
  have p1 := fr_bot (a := a) hb
  have p2 := fr_bot (a := c) hd
  rw [fr_le hb p2]
  generalize fr c d = v at *
  have e1 : a * v.2 * d = (a * d) * v.2 := by grind
  have e2 : v.1 * b * d = (c * b) * v.2 := by rw [show v.1 * b * d = (v.1 * d) * b by grind, h2]; grind
  show a * v.2 ≤ v.1 * b ↔ a * d ≤ c * b
  constructor
  · intro h
    have := Int.mul_le_mul_of_nonneg_right h (show 0 ≤ d by omega)
    rw [e1, e2] at this
    exact Int.le_of_mul_le_mul_right this p2
  · intro h
    have := Int.mul_le_mul_of_nonneg_right h (show 0 ≤ v.2 by omega)
    rw [← e1, ← e2] at this
    exact Int.le_of_mul_le_mul_right this hd
theorem noMore_frL {a b : Int} {v : Int × Int} (hb : 0 < b) (hv : 0 < v.2) : noMore (fr a b) v = noMore (a, b) v := by
  unfold noMore
  exact decide_eq_decide.mpr (fr_le hb hv)
theorem sR_sz {a : Nat} {f : Int → Int} {m : Nat} (h : ∀ i : Nat, i < m → Sz a (f i)) (hm : m ≤ 256) : Sz (a + 8) (sR f m) := by
  refine ⟨sR_nn fun i hi => (h i hi).1, ?_⟩
  cases m with
  | zero => show (0 : Int) < _; exact pow2_pos _
  | succ m =>
    have l := sR_le (f := f) (b := 2 ^ a - 1) (m := m + 1) fun i hi => by have := (h i hi).2; omega
    refine Int.lt_of_le_of_lt l ?_
    have p := pow2_pos a
    have : ((m + 1 : Nat) : Int) * (2 ^ a - 1) ≤ 256 * (2 ^ a - 1) := Int.mul_le_mul_of_nonneg_right (by omega) (by omega)
    rw [Int.pow_add, show (2 : Int) ^ 8 = 256 by decide]
    omega
theorem wP_out {b d : Int} {x : Pl} {i : Int} (h : d < i) : wP b d x i = 0 := by
  unfold wP
  rw [cI_out (by omega), Int.zero_mul]
theorem rP_pos {b : Int} {x : Pl} (h : PlOk b x) : 0 < rP b x := cI_pos h.s0 (by have := h.fs; omega)
theorem cP_pos {b : Int} {x : Pl} (h : PlOk b x) : 0 < cP b x := cI_pos h.f0 (by have := h.fs; have := h.s0; omega)
theorem whole_is {b d : Int} {x : Pl} (h : PlOk b x) (h0 : 0 ≤ d) (h1 : d ≤ b) : cP b x * rP b x - aO b d x (nP x) - fA b d x (nP x) = agn b d x (nP x) * rP b x := by
  have v : sR (wP b d x) (nP x) = cP b x := vanderI h0 h1 h.f0
  have e : sR (fun i => wP b d x i * rP b x) (nP x) = aO b d x (nP x) + fA b d x (nP x) + agn b d x (nP x) * rP b x := by
    unfold aO fA agn
    rw [← sR_mul, ← sR_add, ← sR_add]
    refine sR_congr fun i _ => ?_
    by_cases c1 : (i : Int) ≤ x.p
    · simp [c1]
    · by_cases c2 : x.q ≤ (i : Int)
      · simp [c1, c2]
      · simp [c1, c2]
  rw [sR_mul, v] at e
  omega
theorem good_more {b d : Int} {x : Pl} {m : Nat} (h : d < m) (l : m ≤ nP x) : good b d x (nP x) = good b d x m ∧ agn b d x (nP x) = agn b d x m := by
  have e : nP x = m + (nP x - m) := by omega
  have z : ∀ f : Int → Int, (∀ i : Nat, m ≤ i → f i = 0) → sR f (nP x) = sR f m := fun f hf => by rw [e]; exact sR_more fun i h1 _ => hf i h1
  unfold good aO lA agn
  refine ⟨?_, z _ fun i hi => ?_⟩
  · rw [z _ fun i hi => ?_, z _ fun i hi => ?_]
    · show (if _ then _ else if _ then _ else _) = (0 : Int)
      split
      · rfl
      · split
        · rfl
        · rw [wP_out (by omega), Int.zero_mul]
    · show (if _ then _ else _) = (0 : Int)
      split
      · rw [wP_out (by omega), Int.zero_mul]
      · rfl
  · show (if _ then _ else if _ then _ else _) = (0 : Int)
    split
    · rfl
    · split
      · rfl
      · exact wP_out (by omega)
theorem atM_sz2 {b d t l : Int} (h0 : b - d ≤ 200) (h1 : d ≤ 200) (h2 : t ≤ 200) : Sz 410 (atM b d t l) :=
  sR_sz (a := 402) (fun i _ => (cI_sz (b := 200) (by omega)).mul (cI_sz (b := 200) (by omega))) (by split <;> omega)
theorem wP_sz {b d : Int} {x : Pl} {i : Int} (h : b ≤ 200) (h0 : 0 ≤ d) (h1 : d ≤ b) : Sz 402 (wP b d x i) := (cI_sz (b := 200) (by omega)).mul (cI_sz (b := 200) (by omega))
theorem sz0 {a : Nat} : Sz a 0 := ⟨by omega, pow2_pos a⟩
theorem good_sz {b d : Int} {x : Pl} {n : Nat} (hx : PlOk b x) (h : b ≤ 200) (h0 : 0 ≤ d) (h1 : d ≤ b) (hn : n ≤ 256) : Sz 900 (good b d x n) := by
  have hf := hx.f0
  have hs := hx.s1
  unfold good aO lA
  refine Sz.mono (a := 821) (Sz.add (a := 820) ?_ ?_) (by decide)
  · refine sR_sz (a := 812) (fun i _ => ?_) hn
    show Sz _ (if _ then _ else _)
    split
    · exact ((wP_sz h h0 h1).mul (cI_sz (b := 200) (by omega))).mono (by decide)
    · exact sz0
  · refine sR_sz (a := 812) (fun i _ => ?_) hn
    show Sz _ (if _ then _ else if _ then _ else _)
    split
    · exact sz0
    · split
      · exact sz0
      · by_cases c : (i : Int) ≤ x.f
        · exact ((wP_sz h h0 h1).mul (atM_sz2 (by omega) (by omega) (by omega))).mono (by decide)
        · have e : wP b d x i = 0 := by
            unfold wP
            rw [cI_out (n := b - d) (by omega), Int.mul_zero]
          rw [e, Int.zero_mul]
          exact sz0
theorem agn_sz {b d : Int} {x : Pl} {n : Nat} (h : b ≤ 200) (h0 : 0 ≤ d) (h1 : d ≤ b) (hn : n ≤ 256) : Sz 410 (agn b d x n) := by
  unfold agn
  refine sR_sz (a := 402) (fun i _ => ?_) hn
  show Sz _ (if _ then _ else if _ then _ else _)
  split
  · exact sz0
  · split
    · exact sz0
    · exact wP_sz h h0 h1
theorem cP_sz {b : Int} {x : Pl} (h : b ≤ 200) : Sz 201 (cP b x) := cI_sz (b := 200) h
theorem rP_sz {b : Int} {x : Pl} (hx : PlOk b x) (h : b ≤ 200) : Sz 201 (rP b x) := cI_sz (b := 200) (by have := hx.f0; omega)

theorem rd__law_cells : ∀ env W, env.length = 2 → F__law_cells env W → ws__law_cells (ends env W) (env ++ nones 0) := by
  rintro env W hl ⟨ys, rfl, h0, q⟩
  unfold ws__law_cells
  walk_at "dl"
  have e : ∃ m : Nat, m ≤ 2 ∧ (if (if (ys.length : Int) < 2 then (ys.length : Int) else 2) > 1 then if (ys.length : Int) < 2 then (ys.length : Int) else 2 else 1) = m := by
    refine ⟨(if (if (ys.length : Int) < 2 then (ys.length : Int) else 2) > 1 then if (ys.length : Int) < 2 then (ys.length : Int) else 2 else 1).toNat, ?_, ?_⟩ <;> split <;> split <;> omega
  obtain ⟨m, hm, e⟩ := e
  rw [e, Int.toNat_natCast]
  exact ⟨⟨by decide, by omega, by omega, by omega⟩, q m hm⟩
theorem rd__law_guessed : ∀ env W, env.length = 2 → F__law_guessed env W → ws__law_guessed (ends env W) (env ++ nones 5) := by
  rintro env W hl ⟨t, r, rfl, h0, h1, h2, h3, q⟩
  unfold ws__law_guessed
  walk_at "dl"
  refine ⟨line_le (by decide), ⟨by omega, by omega⟩, ?_⟩
  refine forR_ind (fun i e => ∃ y, e = [some (.d (.int t)), some (.d (.int r)), y, none, some (.d (.int 0)), some (.d (.int (3 ^ i))), none]) (fun e h => ?_) (fun i e N hi hN h => ?_) _ ⟨none, rfl⟩
  · obtain ⟨y, rfl⟩ := h
    walk_at "dl"
    refine ⟨⟨by omega, by omega, by omega, by omega⟩, ?_⟩
    refine forR_ind (fun i e => ∃ y z u, e = [some (.d (.int t)), some (.d (.int r)), y, z, some (.d (.int (sR (fun i => cI t (r + i) * 2 ^ (t - (r + i)).toNat) i))), some (.d (.int (3 ^ t.toNat))), u]) (fun e h => ?_) (fun i e N hi hN h => ?_) _ ⟨y, none, none, rfl⟩
    · obtain ⟨y, z, u, rfl⟩ := h
      walk_at "dl"
      have p3 : (0 : Int) < 3 ^ t.toNat := Int.pow_pos (by decide)
      have p3l : (3 : Int) ^ t.toNat ≤ 4 ^ 200 := by
        have l : (3 : Nat) ^ t.toNat ≤ 4 ^ 200 := Nat.le_trans (Nat.pow_le_pow_left (by decide) _) (Nat.pow_le_pow_right (by decide) (by omega))
        have : ((3 ^ t.toNat : Nat) : Int) ≤ ((4 ^ 200 : Nat) : Int) := Int.ofNat_le.mpr l
        rw [Int.natCast_pow, Int.natCast_pow] at this
        exact this
      refine ⟨_, _, rfl, sR_nn fun i _ => Int.mul_nonneg (cI_nn _ _) (by have := pow2_pos (t - (r + i)).toNat; omega), p3, Int.lt_of_le_of_lt p3l (by decide +kernel), ?_⟩
      walk_at "dl"
      exact q
    · obtain ⟨y, z, u, rfl⟩ := h
      walk_at "dl"
      refine ⟨⟨by omega, by omega⟩, ?_⟩
      refine forR_ind (fun j e => ∃ y, e = [some (.d (.int t)), some (.d (.int r)), y, some (.d (.int (r + i))), some (.d (.int (sR (fun i => cI t (r + i) * 2 ^ (t - (r + i)).toNat) i))), some (.d (.int (3 ^ t.toNat))), some (.d (.int (2 ^ j)))]) (fun e h => ?_) (fun j e N hj hN h => ?_) _ ⟨y, rfl⟩
      · obtain ⟨y, rfl⟩ := h
        walk_at "dl"
        refine ⟨t, r + i, rfl, by omega, ?_⟩
        walk_at "dl"
        have hp : (2 : Int) ^ (t - (r + i)).toNat ≤ 2 ^ 200 := p2m (by omega)
        have hp0 := pow2_pos (t - (r + i)).toNat
        refine ⟨.sz (a := 2001) (b := 201) (cI_sz (by omega)) ?_, hN _ ⟨_, _, _, rfl⟩⟩
        exact ⟨by omega, Int.lt_of_le_of_lt hp (by decide)⟩
      · obtain ⟨y, rfl⟩ := h
        walk_at "dl"
        exact ⟨.l (by decide) (by decide), hN _ ⟨some (.d (.int (j : Int))), by rw [Int.pow_succ, Int.mul_comm]⟩⟩
  · obtain ⟨y, rfl⟩ := h
    walk_at "dl"
    exact ⟨.l (by decide) (by decide), hN _ ⟨some (.d (.int (i : Int))), by rw [Int.pow_succ, Int.mul_comm]⟩⟩
theorem rd__law_plan_drawn : ∀ env W, env.length = 2 → F__law_plan_drawn env W → ws__law_plan_drawn (ends env W) (env ++ nones 4) := by
  rintro env W hl ⟨p, xs, b, m, rfl, hp, hm, h0, h1, q⟩
  unfold ws__law_plan_drawn
  walk_at "dl"
  have e1 : (if 200 < b then 200 else b) ≤ b ∧ (if 200 < b then 200 else b) ≤ 200 ∧ 0 ≤ (if 200 < b then 200 else b) := by split <;> omega
  generalize (if 200 < b then 200 else b) = b1 at *
  refine ⟨p, xs, b1 + 1, m, rfl, hp, by omega, by omega, by omega, fun f xs1 f0 f1 hp1 => ?_⟩
  walk_at "dl"
  have e2 : (if 200 < b - f then 200 else b - f) ≤ b - f ∧ (if 200 < b - f then 200 else b - f) ≤ 200 ∧ 0 ≤ (if 200 < b - f then 200 else b - f) := by split <;> omega
  generalize (if 200 < b - f then 200 else b - f) = b2 at *
  refine ⟨p, xs1, b2 + 1, m + 1, rfl, hp1, by omega, by omega, by omega, fun s xs2 s0 s1 hp2 => ?_⟩
  walk_at "dl"
  refine ⟨p, xs2, 5, m + 2, rfl, hp2, by omega, by omega, by decide, fun ps xs3 ps0 ps1 hp3 => ?_⟩
  walk_at "dl"
  refine ⟨p, xs3, 4, m + 3, rfl, hp3, by omega, by omega, by decide, fun fa xs4 fa0 fa1 hp4 => ?_⟩
  walk_at "dl"
  refine ⟨p, xs4, 4, m + 4, rfl, hp4, by omega, by omega, by decide, fun le xs5 le0 le1 hp5 => ?_⟩
  walk_at "dl"
  exact ⟨line_le (by decide), q ⟨f, ps, ps + 1 + fa, s, ps + 1 + fa - 1 + le⟩ xs5 ⟨f0, by show f ≤ 200; omega, s0, by show s ≤ 200; omega, by show f + s ≤ b; omega, ps0, by show ps < ps + 1 + fa; omega, by show ps + 1 + fa ≤ ps + 1 + fa - 1 + le + 1; omega, by show ps + 1 + fa - 1 + le ≤ 199; omega⟩ hp5⟩
theorem rd_look_at_sample : ∀ env W, env.length = 3 → F_look_at_sample env W → ws_look_at_sample (ends env W) (env ++ nones 0) := by
  rintro env W hl ⟨b, d, t, rfl, h0, h1, h2, h3, h4, h5, q⟩
  unfold ws_look_at_sample
  walk_at "dl"
  refine ⟨b, d, rfl, h0, h1, h2, h3, ?_⟩
  walk_at "dl"
  simp only [h4, h5, decide_true, Bool.and_self, Bool.true_eq_false, if_false, not_true_eq_false]
  exact q
theorem rd_surely_found : ∀ env W, env.length = 2 → F_surely_found env W → ws_surely_found (ends env W) (env ++ nones 0) := by
  rintro env W hl ⟨b, d, rfl, h0, h1, h2, h3, q⟩
  unfold ws_surely_found
  walk_at "dl"
  refine ⟨b, d, rfl, h0, h1, h2, h3, ?_⟩
  walk_at "dl"
  split
  · rename_i h; rw [if_pos h] at q; exact q
  · rename_i h; rw [if_neg h] at q; exact q
theorem rd_is_plan : ∀ env W, env.length = 2 → F_is_plan env W → ws_is_plan (ends env W) (env ++ nones 5) := by
  rintro env W hl ⟨b, x, rfl, h, q⟩
  unfold ws_is_plan
  walk_at "dl"
  obtain ⟨a1, a2, a3, a4, a5, a6, a7, a8, a9⟩ := h
  refine ⟨[x.f, x.p, x.q, x.s, x.l], _, _, rfl, (by decide : 5 ≤ 1000), ?_⟩
  walk_at "dl"
  have d1 : ∀ i : Int, 0 ≤ i → i ≤ 200 → (decide (0 ≤ i) && decide (i ≤ 200)) = true := fun i h0 h1 => by rw [decide_eq_true h0, decide_eq_true h1]; rfl
  rw [d1 _ a1 a2, d1 x.p (by omega) (by omega), d1 x.q (by omega) (by omega), d1 _ a3 a4, d1 x.l (by omega) (by omega), if_neg (by decide), if_neg (by decide), if_pos a5, if_pos a7, decide_eq_true a8]
  exact q
theorem rd__law_passes_rest : ∀ env W, env.length = 4 → F__law_passes_rest env W → ws__law_passes_rest (ends env W) (env ++ nones 0) := by
  rintro env W hl ⟨b, d, t, l, rfl, h0, h1, h2, h3, h4, h5, h6, q⟩
  unfold ws__law_passes_rest
  walk_at "dl"
  rw [if_pos h5]
  refine ⟨b, d, t, l, rfl, h0, h1, h2, h3, h4, h5, h6, ?_⟩
  walk_at "dl"
  exact q
theorem rd_chance_of : ∀ env W, env.length = 4 → F_chance_of env W → ws_chance_of (ends env W) (env ++ nones 0) := by
  rintro env W hl ⟨b, d, t, f, rfl, h0, h1, h2, h3, h4, h5, h6, h7, q⟩
  unfold ws_chance_of
  walk_at "dl"
  refine ⟨b, d, t, rfl, h0, h1, h2, h3, h4, h5, ?_⟩
  walk_at "dl"
  simp only [h6, h7, decide_true, Bool.and_self, Bool.true_eq_false, if_false, not_true_eq_false]
  refine ⟨b, d, t, f, rfl, h1, h2, h3, h4, h5, h6, h7, ?_⟩
  walk_at "dl"
  exact q
theorem rd_chance_to_pass : ∀ env W, env.length = 4 → F_chance_to_pass env W → ws_chance_to_pass (ends env W) (env ++ nones 0) := by
  rintro env W hl ⟨b, d, t, l, rfl, h0, h1, h2, h3, h4, h5, h6, h7, q⟩
  unfold ws_chance_to_pass
  walk_at "dl"
  refine ⟨b, d, t, rfl, h0, h1, h2, h3, h4, h5, ?_⟩
  walk_at "dl"
  simp only [h6, h7, decide_true, Bool.and_self, Bool.true_eq_false, if_false, not_true_eq_false]
  refine ⟨b, d, t, l, rfl, h1, h2, by omega, h4, h5, h6, h7, ?_⟩
  walk_at "dl"
  exact q
theorem rd_look_at_plan : ∀ env W, env.length = 3 → F_look_at_plan env W → ws_look_at_plan (ends env W) (env ++ nones 0) := by
  rintro env W hl ⟨b, d, x, rfl, h, h0, h1, h2, h3, q⟩
  unfold ws_look_at_plan
  walk_at "dl"
  refine ⟨b, d, rfl, h0, by omega, h2, h3, ?_⟩
  walk_at "dl"
  refine ⟨b, x, rfl, h, ?_⟩
  walk_at "dl"
  exact q
theorem rd_chance_by_guessing : ∀ env W, env.length = 2 → F_chance_by_guessing env W → ws_chance_by_guessing (ends env W) (env ++ nones 1) := by
  rintro env W hl ⟨t, r, rfl, h0, h1, h2, h3, q⟩
  unfold ws_chance_by_guessing
  walk_at "dl"
  refine ⟨line_le (by decide), ?_⟩
  refine forL_ind (fun i e => ∃ y, e = [some (.d (.int t)), some (.d (.int r)), y]) (fun e h => ?_) (fun i x e N hx hN h => ?_) _ ⟨none, rfl⟩
  · obtain ⟨y, rfl⟩ := h
    walk_at "dl"
    refine ⟨t, r, rfl, h0, h1, h2, h3, ?_⟩
    walk_at "dl"
    refine ⟨t, rfl, h0, h1, ?_⟩
    walk_at "dl"
    have p3 : (0 : Int) < 3 ^ t.toNat := Int.pow_pos (by decide)
    have p3l : (3 : Int) ^ t.toNat ≤ 4 ^ 200 := by
      have l : (3 : Nat) ^ t.toNat ≤ 4 ^ 200 := Nat.le_trans (Nat.pow_le_pow_left (by decide) _) (Nat.pow_le_pow_right (by decide) (by omega))
      have : ((3 ^ t.toNat : Nat) : Int) ≤ ((4 ^ 200 : Nat) : Int) := Int.ofNat_le.mpr l
      rw [Int.natCast_pow, Int.natCast_pow] at this
      exact this
    refine ⟨_, _, rfl, sR_nn fun i _ => Int.mul_nonneg (cI_nn _ _) (by have := pow2_pos (t - (r + i)).toNat; omega), p3, Int.lt_of_le_of_lt p3l (by decide +kernel), ?_⟩
    walk_at "dl"
    exact q
  · obtain ⟨y, rfl⟩ := h
    have hv : ∃ v : Int, x = .int v ∧ 0 ≤ v ∧ v ≤ 200 := by
      match i, hx with
      | 0, hx => exact ⟨t, by injection hx with e; exact e.symm, h0, h1⟩
      | 1, hx => exact ⟨r, by injection hx with e; exact e.symm, h2, h3⟩
    obtain ⟨v, rfl, v0, v1⟩ := hv
    walk_at "dl"
    refine ⟨div_small (by decide) (by decide), ?_⟩
    walk_at "dl"
    rw [decide_eq_true v0, decide_eq_true (show v ≤ 2000 / 10 by omega), if_neg (by decide)]
    exact hN _ ⟨_, rfl⟩

theorem fstD_some {p : Nat → Bool} {n i : Nat} (h : ∀ j, j < i → p j = false) (hi : i < n) (hp : p i = true) : fstD p n = .int i := by
  unfold fstD
  rw [List.find?_range_eq_some.mpr ⟨hp, List.mem_range.mpr hi, fun j hj => by rw [h j hj]; rfl⟩]
theorem fstD_none {p : Nat → Bool} {n : Nat} (h : ∀ j, j < n → p j = false) : fstD p n = .none := by
  unfold fstD
  rw [List.find?_range_eq_none.mpr fun j hj => by rw [h j hj]; rfl]
theorem one_more {p : Nat → Bool} {i : Nat} (h : ∀ j, j < i → p j = false) (c : p i = false) : ∀ j, j < i + 1 → p j = false := fun j hj => by
  rcases Nat.lt_succ_iff_lt_or_eq.mp hj with z | z
  · exact h j z
  · rw [z]; exact c
theorem Bd.sz {x : Int × Int} (h : Bd x) : Sz 4100 x.1 ∧ Sz 4100 x.2 := by
  obtain ⟨t0, tb, b1, b2, _⟩ := h
  exact ⟨Sz.mono (a := 10) ⟨t0, by omega⟩ (by decide), Sz.mono (a := 10) ⟨by omega, by omega⟩ (by decide)⟩
theorem rd_fewest_tasted : ∀ env W, env.length = 4 → F_fewest_tasted env W → ws_fewest_tasted (ends env W) (env ++ nones 1) := by
  rintro env W hl ⟨b, d, l, x, rfl, h0, h1, h2, h3, h4, h5, hx, q⟩
  unfold ws_fewest_tasted
  walk_at "dl"
  refine ⟨b, d, rfl, h0, h1, h2, h3, ?_⟩
  walk_at "dl"
  rw [decide_eq_true h4, decide_eq_true h5, if_neg (by decide)]
  refine ⟨x.1, x.2, rfl, hx.t0, hx.tb, hx.b1, hx.g, ?_⟩
  walk_at "dl"
  refine ⟨⟨by omega, by omega⟩, ?_⟩
  refine forR_ind (fun i e => (∀ j : Nat, j < i → noMore (fr (atM b d j l) (cI b j)) x = false) ∧ ∃ y, e = [some (.d (.int b)), some (.d (.int d)), some (.d (.int l)), some (.d (fD x)), y]) (fun e h => ?_) (fun i e N hi hN h => ?_) _ ⟨fun j hj => by omega, none, rfl⟩
  · obtain ⟨hn, y, rfl⟩ := h
    walk_at "dl"
    rw [fstD_none hn] at q
    exact q
  · obtain ⟨hn, y, rfl⟩ := h
    walk_at "dl"
    refine ⟨b, d, i, l, rfl, h1, h2, by omega, by omega, by omega, h4, h5, ?_⟩
    walk_at "dl"
    have cp : 0 < cI b i := cI_pos (by omega) (by omega)
    have sz := fr_sz (k := 4100) (atM_sz (b := b) (d := d) (t := i) (l := l) (by omega) (by omega) (by omega)) ((cI_sz (b := 2000) (by omega)).mono (by decide : 2001 ≤ 4100)) cp
    refine ⟨_, _, x.1, x.2, rfl, sz.1, sz.2, hx.sz.1, hx.sz.2, ?_⟩
    walk_at "dl"
    split
    · rename_i c
      have c : (fun i : Nat => noMore (fr (atM b d i l) (cI b i)) x) i = true := decide_eq_true c
      rw [fstD_some hn hi c] at q
      exact q
    · rename_i c
      exact hN _ ⟨one_more (p := fun i : Nat => noMore (fr (atM b d i l) (cI b i)) x) hn (decide_eq_false c), _, rfl⟩
theorem rd_least_bad : ∀ env W, env.length = 4 → F_least_bad env W → ws_least_bad (ends env W) (env ++ nones 1) := by
  rintro env W hl ⟨b, t, l, x, rfl, h0, h1, h2, h3, h4, h5, hx, q⟩
  unfold ws_least_bad
  walk_at "dl"
  refine ⟨b, 0, t, rfl, h0, h1, by omega, by omega, h2, h3, ?_⟩
  walk_at "dl"
  rw [decide_eq_true h4, decide_eq_true h5, if_neg (by decide)]
  refine ⟨x.1, x.2, rfl, hx.t0, hx.tb, hx.b1, hx.g, ?_⟩
  walk_at "dl"
  refine ⟨⟨by omega, by omega⟩, ?_⟩
  refine forR_ind (fun i e => (∀ j : Nat, j < i → noMore (fr (atM b j t l) (cI b t)) x = false) ∧ ∃ y, e = [some (.d (.int b)), some (.d (.int t)), some (.d (.int l)), some (.d (fD x)), y]) (fun e h => ?_) (fun i e N hi hN h => ?_) _ ⟨fun j hj => by omega, none, rfl⟩
  · obtain ⟨hn, y, rfl⟩ := h
    walk_at "dl"
    rw [fstD_none hn] at q
    exact q
  · obtain ⟨hn, y, rfl⟩ := h
    walk_at "dl"
    refine ⟨b, i, t, l, rfl, h1, by omega, by omega, by omega, by omega, h4, h5, ?_⟩
    walk_at "dl"
    have cp : 0 < cI b t := cI_pos (by omega) (by omega)
    have sz := fr_sz (k := 4100) (atM_sz (b := b) (d := i) (t := t) (l := l) (by omega) (by omega) (by omega)) ((cI_sz (b := 2000) (by omega)).mono (by decide : 2001 ≤ 4100)) cp
    refine ⟨_, _, x.1, x.2, rfl, sz.1, sz.2, hx.sz.1, hx.sz.2, ?_⟩
    walk_at "dl"
    split
    · rename_i c
      have c : (fun i : Nat => noMore (fr (atM b i t l) (cI b t)) x) i = true := decide_eq_true c
      rw [fstD_some hn hi c] at q
      exact q
    · rename_i c
      exact hN _ ⟨one_more (p := fun i : Nat => noMore (fr (atM b i t l) (cI b t)) x) hn (decide_eq_false c), _, rfl⟩
theorem p3_ok {t : Int} (h1 : t ≤ 200) : (0 : Int) < 3 ^ t.toNat ∧ (3 : Int) ^ t.toNat < 2 ^ 401 := by
  refine ⟨Int.pow_pos (by decide), ?_⟩
  have l : (3 : Nat) ^ t.toNat ≤ 4 ^ 200 := Nat.le_trans (Nat.pow_le_pow_left (by decide) _) (Nat.pow_le_pow_right (by decide) (by omega))
  have : ((3 ^ t.toNat : Nat) : Int) ≤ ((4 ^ 200 : Nat) : Int) := Int.ofNat_le.mpr l
  rw [Int.natCast_pow, Int.natCast_pow] at this
  exact Int.lt_of_le_of_lt this (by decide +kernel)
theorem gs_sz {t r : Int} (h1 : t ≤ 200) (h2 : 0 ≤ r) : Sz 420 (gs t r) := by
  refine (sR_sz (a := 402) (fun i _ => ?_) (by omega)).mono (by decide)
  have hp : (2 : Int) ^ (t - (r + i)).toNat ≤ 2 ^ 200 := p2m (by omega)
  have hp0 := pow2_pos (t - (r + i)).toNat
  exact (cI_sz (b := 200) (by omega)).mul (b := 201) ⟨by omega, Int.lt_of_le_of_lt hp (by decide)⟩
theorem rd_fewest_right : ∀ env W, env.length = 2 → F_fewest_right env W → ws_fewest_right (ends env W) (env ++ nones 1) := by
  rintro env W hl ⟨t, x, rfl, h0, h1, hx, q⟩
  unfold ws_fewest_right
  walk_at "dl"
  refine ⟨div_small (by decide) (by decide), ?_⟩
  rw [decide_eq_true h0, decide_eq_true (show t ≤ 2000 / 10 by omega), if_neg (by decide)]
  refine ⟨x.1, x.2, rfl, hx.t0, hx.tb, hx.b1, hx.g, ?_⟩
  walk_at "dl"
  refine ⟨⟨by omega, by omega⟩, ?_⟩
  refine forR_ind (fun i e => (∀ j : Nat, j < i → noMore (gs t j, 3 ^ t.toNat) x = false) ∧ ∃ y, e = [some (.d (.int t)), some (.d (fD x)), y]) (fun e h => ?_) (fun i e N hi hN h => ?_) _ ⟨fun j hj => by omega, none, rfl⟩
  · obtain ⟨hn, y, rfl⟩ := h
    walk_at "dl"
    rw [fstD_none hn] at q
    exact q
  · obtain ⟨hn, y, rfl⟩ := h
    walk_at "dl"
    refine ⟨t, i, rfl, h0, h1, by omega, by omega, ?_⟩
    walk_at "dl"
    refine ⟨t, rfl, h0, h1, ?_⟩
    walk_at "dl"
    have p3 := p3_ok h1
    refine ⟨line_le (by decide), gs t i, 3 ^ t.toNat, x.1, x.2, rfl, (gs_sz h1 (by omega)).mono (by decide), Sz.mono (a := 401) ⟨by omega, p3.2⟩ (by decide), hx.sz.1, hx.sz.2, ?_⟩
    walk_at "dl"
    split
    · rename_i c
      have c : (fun i : Nat => noMore (gs t i, 3 ^ t.toNat) x) i = true := decide_eq_true c
      rw [fstD_some hn hi c] at q
      exact q
    · rename_i c
      exact hN _ ⟨one_more (p := fun i : Nat => noMore (gs t i, 3 ^ t.toNat) x) hn (decide_eq_false c), _, rfl⟩
theorem rd_told_ways : ∀ env W, env.length = 3 → F_told_ways env W → ws_told_ways (ends env W) (env ++ nones 11) := by
  rintro env W hl ⟨b, d, x, rfl, hx, h0, h1, h2, h3, q⟩
  have hx' := hx
  obtain ⟨a1, a2, a3, a4, a5, a6, a7, a8, a9⟩ := hx'
  unfold ws_told_ways
  walk_at "dl"
  refine ⟨line_le (by decide), b - x.f, x.s, rfl, by omega, by omega, by omega, ?_⟩
  walk_at "dl"
  refine ⟨⟨by omega, by omega⟩, ?_⟩
  refine forR_ind (fun i e => ∃ y z, e = [some (.d (.int b)), some (.d (.int d)), some (.d (plD x)), some (.d (.int (rP b x))), y, some (.d (.int x.f)), some (.d (.int x.p)), some (.d (.int x.q)), some (.d (.int x.s)), some (.d (.int x.l)), some (.d (.int (aO b d x i))), some (.d (.int (fA b d x i))), some (.d (.int (lA b d x i))), z]) (fun e h => ?_) (fun i e N hi hN h => ?_) _ ⟨none, none, rfl⟩
  · obtain ⟨y, z, rfl⟩ := h
    walk_at "dl"
    refine ⟨b, x.f, rfl, by omega, by omega, by omega, ?_⟩
    walk_at "dl"
    exact ⟨.sz (cP_sz (x := x) h1) (rP_sz hx h1), line_le (by decide), q⟩
  · obtain ⟨y, z, rfl⟩ := h
    walk_at "dl"
    refine ⟨d, i, rfl, by omega, by omega, by omega, ?_⟩
    walk_at "dl"
    refine ⟨b - d, x.f - i, rfl, by omega, by omega, by omega, ?_⟩
    walk_at "dl"
    refine ⟨.sz (cI_sz (b := 200) (by omega)) (cI_sz (b := 200) (by omega)), ?_⟩
    have sA : aO b d x (i + 1) = aO b d x i + (if (i : Int) ≤ x.p then wP b d x i * rP b x else 0) := rfl
    have sF : fA b d x (i + 1) = fA b d x i + (if (i : Int) ≤ x.p then 0 else if x.q ≤ (i : Int) then wP b d x i * rP b x else 0) := rfl
    have sL : lA b d x (i + 1) = lA b d x i + (if (i : Int) ≤ x.p then 0 else if x.q ≤ (i : Int) then 0 else wP b d x i * atM (b - x.f) (d - i) x.s (x.l - i)) := rfl
    split
    · rename_i c1
      simp only [if_pos c1, Int.add_zero] at sA sF sL
      refine ⟨.sz (wP_sz (x := x) (i := i) h1 h2 h3) (rP_sz hx h1), hN _ ⟨some (.d (.int (i : Int))), some (.d (.int (wP b d x i))), ?_⟩⟩
      rw [sA, sF, sL]
      rfl
    · rename_i c1
      simp only [if_neg c1, Int.add_zero] at sA sF sL
      split
      · rename_i c2
        simp only [if_pos c2, Int.add_zero] at sF sL
        refine ⟨.sz (wP_sz (x := x) (i := i) h1 h2 h3) (rP_sz hx h1), hN _ ⟨some (.d (.int (i : Int))), some (.d (.int (wP b d x i))), ?_⟩⟩
        rw [sA, sF, sL]
        rfl
      · rename_i c2
        simp only [if_neg c2, Int.add_zero] at sF sL
        refine ⟨b - x.f, d - i, x.s, x.l - i, rfl, by omega, by omega, by omega, by omega, by omega, by omega, ?_⟩
        walk_at "dl"
        refine ⟨.sz (wP_sz (x := x) (i := i) h1 h2 h3) (atM_sz2 (by omega) (by omega) (by omega)), hN _ ⟨some (.d (.int (i : Int))), some (.d (.int (wP b d x i))), ?_⟩⟩
        rw [sA, sF, sL]
        rfl

theorem good_s {b d : Int} {x : Pl} {i : Nat} : good b d x (i + 1) = good b d x i + (if (i : Int) ≤ x.p then wP b d x i * rP b x else if x.q ≤ (i : Int) then 0 else wP b d x i * atM (b - x.f) (d - i) x.s (x.l - i)) := by
  show aO b d x i + (if (i : Int) ≤ x.p then wP b d x i * rP b x else 0) + (lA b d x i + (if (i : Int) ≤ x.p then 0 else if x.q ≤ (i : Int) then 0 else wP b d x i * atM (b - x.f) (d - i) x.s (x.l - i))) = aO b d x i + lA b d x i + _
  split
  · omega
  · split <;> omega
theorem agn_s {b d : Int} {x : Pl} {i : Nat} : agn b d x (i + 1) = agn b d x i + (if (i : Int) ≤ x.p then 0 else if x.q ≤ (i : Int) then 0 else wP b d x i) := rfl
theorem good_at {b d : Int} {x : Pl} (h0 : 0 ≤ x.f) (h1 : 0 ≤ d) : good b d x (nP x) = good b d x ((if d < x.f then d else x.f) + 1).toNat ∧ agn b d x (nP x) = agn b d x ((if d < x.f then d else x.f) + 1).toNat := by
  by_cases c : d < x.f
  · rw [if_pos c]
    exact good_more (by omega) (by unfold nP; omega)
  · rw [if_neg c]
    exact ⟨rfl, rfl⟩
theorem rd__law_by_plan : ∀ env W, env.length = 3 → F__law_by_plan env W → ws__law_by_plan (ends env W) (env ++ nones 10) := by
  rintro env W hl ⟨b, d, x, rfl, hx, h0, h1, h2, h3, q⟩
  have hx' := hx
  obtain ⟨a1, a2, a3, a4, a5, a6, a7, a8, a9⟩ := hx'
  have C0 : 0 < cP b x := cP_pos hx
  have R0 : 0 < rP b x := rP_pos hx
  have CR0 := Int.mul_pos C0 R0
  have sC : Sz 402 (cP b x) := (cP_sz (x := x) h1).mono (by decide)
  have sR : Sz 402 (rP b x) := (rP_sz hx h1).mono (by decide)
  have sCR : Sz 402 (cP b x * rP b x) := (cP_sz (x := x) h1).mul (rP_sz hx h1)
  unfold ws__law_by_plan
  walk_at "dl"
  refine ⟨b, x.f, rfl, by omega, ?_⟩
  walk_at "dl"
  refine ⟨line_le (by decide), line_le (by decide), ?_⟩
  have hm : 0 ≤ (if d < x.f then d else x.f) ∧ (if d < x.f then d else x.f) ≤ d ∧ (if d < x.f then d else x.f) ≤ x.f := by split <;> omega
  have ga := good_at (b := b) (d := d) (x := x) a1 h2
  generalize (if d < x.f then d else x.f) = m at *
  refine ⟨⟨by omega, by omega⟩, ?_⟩
  refine forR_ind (fun i e => ∃ y z, e = [some (.d (.int b)), some (.d (.int d)), some (.d (plD x)), y, some (.d (.int x.f)), some (.d (.int x.p)), some (.d (.int x.q)), some (.d (.int x.s)), some (.d (.int x.l)), some (.d (.int (cP b x))), some (.d (fD (fr (good b d x i) (cP b x * rP b x)))), some (.d (fD (fr (agn b d x i) (cP b x)))), z]) (fun e h => ?_) (fun i e N hi hN h => ?_) _ ⟨none, none, ?_⟩
  · obtain ⟨y, z, rfl⟩ := h
    have sA := fr_sz (k := 410) (agn_sz (x := x) (n := (m + 1).toNat) h1 h2 h3 (by omega)) (sC.mono (by decide)) C0
    have bA := fr_bot (a := agn b d x (m + 1).toNat) C0
    have qA := Qf.fr (a := agn b d x (m + 1).toNat) C0
    walk_at "dl"
    refine ⟨line_le (by decide), line_le (by decide), (fr (agn b d x (m + 1).toNat) (cP b x)).1, (fr (agn b d x (m + 1).toNat) (cP b x)).2, x.s, 1, rfl, sA.1.mono (by decide), sA.2.mono (by decide), Sz.mono (a := 10) ⟨a3, by omega⟩ (by decide), Sz.mono (a := 1) ⟨by decide, by decide⟩ (by decide), bA, by decide, ?_⟩
    walk_at "dl"
    have e1 : fr ((fr (agn b d x (m + 1).toNat) (cP b x)).1 * x.s) ((fr (agn b d x (m + 1).toNat) (cP b x)).2 * 1) = fr (agn b d x (m + 1).toNat * x.s) (cP b x) := fr_times (v := (x.s, 1)) qA Qf.one C0 (by decide) C0 (by grind)
    rw [e1]
    have sB : Sz 420 (agn b d x (m + 1).toNat * x.s) := (agn_sz (x := x) (n := (m + 1).toNat) h1 h2 h3 (by omega)).mul (b := 10) ⟨a3, by omega⟩
    have sT := fr_sz (k := 420) sB (sC.mono (by decide)) C0
    have bT := fr_bot (a := agn b d x (m + 1).toNat * x.s) C0
    refine ⟨x.f, 1, (fr (agn b d x (m + 1).toNat * x.s) (cP b x)).1, (fr (agn b d x (m + 1).toNat * x.s) (cP b x)).2, rfl, Sz.mono (a := 10) ⟨a1, by omega⟩ (by decide), Sz.mono (a := 1) ⟨by decide, by decide⟩ (by decide), sT.1.mono (by decide), sT.2.mono (by decide), by decide, bT, ?_⟩
    walk_at "dl"
    have e2 : fr (x.f * (fr (agn b d x (m + 1).toNat * x.s) (cP b x)).2 + (fr (agn b d x (m + 1).toNat * x.s) (cP b x)).1 * 1) (1 * (fr (agn b d x (m + 1).toNat * x.s) (cP b x)).2) = fr (x.f * cP b x + agn b d x (m + 1).toNat * x.s) (cP b x) := fr_plus (u := (x.f, 1)) Qf.one (Qf.fr (a := agn b d x (m + 1).toNat * x.s) C0) (by decide) C0 C0 (by grind)
    rw [e2]
    refine ⟨line_le (by decide), ?_⟩
    unfold pB aB tB at q
    dsimp only at q
    rw [ga.1, ga.2] at q
    exact q
  · obtain ⟨y, z, rfl⟩ := h
    have gS := good_s (b := b) (d := d) (x := x) (i := i)
    have aS := agn_s (b := b) (d := d) (x := x) (i := i)
    have sG := fr_sz (k := 900) (good_sz (n := i) hx h1 h2 h3 (by omega)) (sCR.mono (by decide)) CR0
    have bG := fr_bot (a := good b d x i) CR0
    have sw : Sz 402 (wP b d x i) := wP_sz h1 h2 h3
    have sW := fr_sz (k := 402) sw sC C0
    have bW := fr_bot (a := wP b d x i) C0
    walk_at "dl"
    refine ⟨d, i, rfl, by omega, ?_⟩
    walk_at "dl"
    refine ⟨b - d, x.f - i, rfl, by omega, ?_⟩
    walk_at "dl"
    refine ⟨.sz (cI_sz (b := 200) (by omega)) (cI_sz (b := 200) (by omega)), wP b d x i, cP b x, rfl, sw.1, C0, (sC.mono (by decide : 402 ≤ 7900)).2, ?_⟩
    walk_at "dl"
    split
    · rename_i c1
      simp only [if_pos c1, Int.add_zero] at gS aS
      refine ⟨(fr (good b d x i) (cP b x * rP b x)).1, (fr (good b d x i) (cP b x * rP b x)).2, (fr (wP b d x i) (cP b x)).1, (fr (wP b d x i) (cP b x)).2, rfl, sG.1.mono (by decide), sG.2.mono (by decide), sW.1.mono (by decide), sW.2.mono (by decide), bG, bW, ?_⟩
      walk_at "dl"
      rw [fr_plus (Qf.fr CR0) (Qf.fr C0) CR0 C0 CR0 (g := good b d x (i + 1)) (by rw [gS]; grind)]
      refine hN _ ⟨some (.d (.int (i : Int))), some (.d (fD (fr (wP b d x i) (cP b x)))), ?_⟩
      rw [aS]
    · rename_i c1
      simp only [if_neg c1, Int.add_zero] at gS aS
      split
      · rename_i c2
        have c3 : ¬ x.q ≤ (i : Int) := by omega
        simp only [if_neg c3] at gS aS
        have sA := fr_sz (k := 410) (agn_sz (x := x) (n := i) h1 h2 h3 (by omega)) (sC.mono (by decide)) C0
        have bA := fr_bot (a := agn b d x i) C0
        refine ⟨(fr (agn b d x i) (cP b x)).1, (fr (agn b d x i) (cP b x)).2, (fr (wP b d x i) (cP b x)).1, (fr (wP b d x i) (cP b x)).2, rfl, sA.1.mono (by decide), sA.2.mono (by decide), sW.1.mono (by decide), sW.2.mono (by decide), bA, bW, ?_⟩
        walk_at "dl"
        rw [fr_plus (Qf.fr C0) (Qf.fr C0) C0 C0 C0 (g := agn b d x (i + 1)) (by rw [aS]; grind)]
        refine ⟨b - x.f, d - i, x.s, x.l - i, rfl, by omega, by omega, by omega, by omega, by omega, by omega, by omega, ?_⟩
        walk_at "dl"
        have st : Sz 410 (atM (b - x.f) (d - i) x.s (x.l - i)) := atM_sz2 (by omega) (by omega) (by omega)
        have sT := fr_sz (k := 410) st (sR.mono (by decide)) R0
        have bT := fr_bot (a := atM (b - x.f) (d - i) x.s (x.l - i)) R0
        refine ⟨(fr (wP b d x i) (cP b x)).1, (fr (wP b d x i) (cP b x)).2, (fr (atM (b - x.f) (d - i) x.s (x.l - i)) (rP b x)).1, (fr (atM (b - x.f) (d - i) x.s (x.l - i)) (rP b x)).2, rfl, sW.1.mono (by decide), sW.2.mono (by decide), sT.1.mono (by decide), sT.2.mono (by decide), bW, bT, ?_⟩
        walk_at "dl"
        rw [fr_times (Qf.fr C0) (Qf.fr R0) C0 R0 CR0 (g := wP b d x i * atM (b - x.f) (d - i) x.s (x.l - i)) rfl]
        have sM : Sz 820 (wP b d x i * atM (b - x.f) (d - i) x.s (x.l - i)) := (sw.mul st).mono (by decide)
        have sU := fr_sz (k := 820) sM (sCR.mono (by decide)) CR0
        have bU := fr_bot (a := wP b d x i * atM (b - x.f) (d - i) x.s (x.l - i)) CR0
        refine ⟨(fr (good b d x i) (cP b x * rP b x)).1, (fr (good b d x i) (cP b x * rP b x)).2, (fr (wP b d x i * atM (b - x.f) (d - i) x.s (x.l - i)) (cP b x * rP b x)).1, (fr (wP b d x i * atM (b - x.f) (d - i) x.s (x.l - i)) (cP b x * rP b x)).2, rfl, sG.1.mono (by decide), sG.2.mono (by decide), sU.1.mono (by decide), sU.2.mono (by decide), bG, bU, ?_⟩
        walk_at "dl"
        rw [fr_plus (Qf.fr CR0) (Qf.fr CR0) CR0 CR0 CR0 (g := good b d x (i + 1)) (by rw [gS]; grind)]
        exact hN _ ⟨some (.d (.int (i : Int))), some (.d (fD (fr (wP b d x i) (cP b x)))), rfl⟩
      · rename_i c2
        have c3 : x.q ≤ (i : Int) := by omega
        simp only [if_pos c3, Int.add_zero] at gS aS
        refine hN _ ⟨some (.d (.int (i : Int))), some (.d (fD (fr (wP b d x i) (cP b x)))), ?_⟩
        rw [aS, gS]
  · rw [show good b d x 0 = 0 from rfl, show agn b d x 0 = 0 from rfl, fr_zero CR0, fr_zero C0]
    rfl

theorem aO_nn {b d : Int} {x : Pl} {n : Nat} : 0 ≤ aO b d x n := sR_nn fun i _ => by
  show 0 ≤ (if (i : Int) ≤ x.p then _ else _)
  split
  · exact Int.mul_nonneg (Int.mul_nonneg (cI_nn _ _) (cI_nn _ _)) (cI_nn _ _)
  · exact Int.le_refl 0
theorem lA_nn {b d : Int} {x : Pl} {n : Nat} : 0 ≤ lA b d x n := sR_nn fun i _ => by
  show 0 ≤ (if (i : Int) ≤ x.p then _ else if x.q ≤ (i : Int) then _ else _)
  split
  · exact Int.le_refl 0
  · split
    · exact Int.le_refl 0
    · exact Int.mul_nonneg (Int.mul_nonneg (cI_nn _ _) (cI_nn _ _)) (atM_nn _ _ _ _)
theorem nP_le {b : Int} {x : Pl} (h : PlOk b x) : nP x ≤ 256 := by
  have := h.f1
  unfold nP
  omega
theorem cr_ok {b : Int} {x : Pl} (h : PlOk b x) (h1 : b ≤ 200) : 0 < cP b x * rP b x ∧ cP b x * rP b x < 2 ^ 402 :=
  ⟨Int.mul_pos (cP_pos h) (rP_pos h), ((cP_sz (x := x) h1).mul (rP_sz h h1)).2⟩
theorem rd_pass_by : ∀ env W, env.length = 3 → F_pass_by env W → ws_pass_by (ends env W) (env ++ nones 4) := by
  rintro env W hl ⟨b, d, x, rfl, hx, h0, h1, h2, h3, q⟩
  unfold ws_pass_by
  walk_at "dl"
  refine ⟨b, d, x, rfl, hx, h0, h1, h2, h3, ?_⟩
  walk_at "dl"
  refine ⟨b, d, x, rfl, hx, h0, h1, h2, h3, ?_⟩
  walk_at "dl"
  have cr := cr_ok hx h1
  refine ⟨aO b d x (nP x) + lA b d x (nP x), cP b x * rP b x, rfl, Int.add_nonneg aO_nn lA_nn, cr.1, Int.lt_of_lt_of_le cr.2 (p2m (by decide)), ?_⟩
  walk_at "dl"
  exact q
theorem rd_again_by : ∀ env W, env.length = 3 → F_again_by env W → ws_again_by (ends env W) (env ++ nones 4) := by
  rintro env W hl ⟨b, d, x, rfl, hx, h0, h1, h2, h3, q⟩
  unfold ws_again_by
  walk_at "dl"
  refine ⟨b, d, x, rfl, hx, h0, h1, h2, h3, ?_⟩
  walk_at "dl"
  refine ⟨b, d, x, rfl, hx, h0, h1, h2, h3, ?_⟩
  walk_at "dl"
  have cr := cr_ok hx h1
  have ag := agn_sz (x := x) (n := nP x) h1 h2 h3 (nP_le hx)
  have w := whole_is hx h2 h3
  have R0 := rP_pos hx
  have C0 := cP_pos hx
  refine ⟨_, cP b x * rP b x, rfl, ?_, cr.1, Int.lt_of_lt_of_le cr.2 (p2m (by decide)), ?_⟩
  · rw [w]
    exact Int.mul_nonneg ag.1 (Int.le_of_lt R0)
  · walk_at "dl"
    rw [w, fr_cong (c := agn b d x (nP x)) (d := cP b x) cr.1 C0 (by grind)]
    exact q
theorem rd_tasted_by : ∀ env W, env.length = 3 → F_tasted_by env W → ws_tasted_by (ends env W) (env ++ nones 4) := by
  rintro env W hl ⟨b, d, x, rfl, hx, h0, h1, h2, h3, q⟩
  unfold ws_tasted_by
  walk_at "dl"
  refine ⟨b, d, x, rfl, hx, h0, h1, h2, h3, ?_⟩
  walk_at "dl"
  refine ⟨b, d, x, rfl, hx, h0, h1, h2, h3, ?_⟩
  walk_at "dl"
  have cr := cr_ok hx h1
  have ag := agn_sz (x := x) (n := nP x) h1 h2 h3 (nP_le hx)
  have w := whole_is hx h2 h3
  have R0 := rP_pos hx
  have C0 := cP_pos hx
  have f0 := hx.f0
  have f1 := hx.f1
  have s0 := hx.s0
  have s1 := hx.s1
  rw [w]
  refine ⟨.l (by omega) (by omega), .l (by omega) (by omega), x.f * (cP b x * rP b x) + x.s * (agn b d x (nP x) * rP b x), cP b x * rP b x, rfl, ?_, cr.1, Int.lt_of_lt_of_le cr.2 (p2m (by decide)), ?_⟩
  · exact Int.add_nonneg (Int.mul_nonneg f0 (Int.le_of_lt cr.1)) (Int.mul_nonneg s0 (Int.mul_nonneg ag.1 (Int.le_of_lt R0)))
  · walk_at "dl"
    rw [fr_cong (c := x.f * cP b x + agn b d x (nP x) * x.s) (d := cP b x) cr.1 C0 (by grind)]
    exact q
theorem rd_outcome_by : ∀ env W, env.length = 4 → F_outcome_by env W → ws_outcome_by (ends env W) (env ++ nones 0) := by
  rintro env W hl ⟨b, x, u, v, rfl, hx, h0, h1, h2, h3, h4, h5, q⟩
  unfold ws_outcome_by
  walk_at "dl"
  refine ⟨b, 0, x, rfl, hx, h0, h1, by omega, by omega, ?_⟩
  walk_at "dl"
  rw [decide_eq_true h2, decide_eq_true h3, decide_eq_true h4, decide_eq_true h5, if_neg (by decide), if_neg (by decide)]
  refine ⟨x, u, v, rfl, ?_⟩
  walk_at "dl"
  exact q
theorem rd_is_stricter : ∀ env W, env.length = 3 → F_is_stricter env W → ws_is_stricter (ends env W) (env ++ nones 3) := by
  rintro env W hl ⟨b, x, y, rfl, hx, hy, h0, h1, q⟩
  unfold ws_is_stricter
  walk_at "dl"
  refine ⟨b, 0, x, rfl, hx, h0, h1, by omega, by omega, ?_⟩
  walk_at "dl"
  refine ⟨b, 0, y, rfl, hy, h0, h1, by omega, by omega, ?_⟩
  walk_at "dl"
  rw [if_neg (by omega)]
  refine ⟨⟨by omega, by omega⟩, ?_⟩
  refine forR_ind (fun i e => (∀ j : Nat, j < i → noMore (pB b j x) (pB b j y) = true) ∧ ∃ u v w, e = [some (.d (.int b)), some (.d (plD x)), some (.d (plD y)), u, v, w]) (fun e h => ?_) (fun i e N hi hN h => ?_) _ ⟨fun j hj => by omega, none, none, none, rfl⟩
  · obtain ⟨hn, u, v, w, rfl⟩ := h
    walk_at "dl"
    rw [List.all_eq_true.mpr fun j hj => hn j (List.mem_range.mp hj)] at q
    exact q
  · obtain ⟨hn, u, v, w, rfl⟩ := h
    walk_at "dl"
    refine ⟨b, i, x, rfl, hx, h0, h1, by omega, by omega, ?_⟩
    walk_at "dl"
    refine ⟨b, i, y, rfl, hy, h0, h1, by omega, by omega, ?_⟩
    walk_at "dl"
    have cx := cr_ok hx h1
    have cy := cr_ok hy h1
    have gx := good_sz (b := b) (d := i) (n := nP x) hx h1 (by omega) (by omega) (nP_le hx)
    have gy := good_sz (b := b) (d := i) (n := nP y) hy h1 (by omega) (by omega) (nP_le hy)
    refine ⟨line_le (by decide), line_le (by decide), good b i x (nP x), cP b x * rP b x, good b i y (nP y), cP b y * rP b y, rfl, gx.mono (by decide), Sz.mono (a := 402) ⟨Int.le_of_lt cx.1, cx.2⟩ (by decide), gy.mono (by decide), Sz.mono (a := 402) ⟨Int.le_of_lt cy.1, cy.2⟩ (by decide), ?_⟩
    walk_at "dl"
    have e := noMore_fr (a := good b i x (nP x)) (c := good b i y (nP y)) cx.1 cy.1
    split
    · rename_i c
      have c2 : noMore (pB b i x) (pB b i y) = false := e.trans (decide_eq_false c)
      have c3 : ((List.range (b + 1).toNat).all fun i => noMore (pB b i x) (pB b i y)) = false := List.all_eq_false.mpr ⟨i, List.mem_range.mpr hi, by rw [c2]; decide⟩
      rw [c3] at q
      exact q
    · rename_i c
      have c2 : noMore (pB b i x) (pB b i y) = true := e.trans (decide_eq_true (Decidable.not_not.mp c))
      refine hN _ ⟨fun j hj => ?_, _, _, _, rfl⟩
      rcases Nat.lt_succ_iff_lt_or_eq.mp hj with z | z
      · exact hn j z
      · rw [z]; exact c2

theorem in3 {d : D} {x y z : Int} (h : d ∈ [PyData.int x, .int y, .int z]) : ∃ n : Int, d = .int n ∧ (n = x ∨ n = y ∨ n = z) := by
  simp only [List.mem_cons, List.not_mem_nil, or_false] at h
  rcases h with h | h | h
  · exact ⟨_, h, .inl rfl⟩
  · exact ⟨_, h, .inr (.inl rfl)⟩
  · exact ⟨_, h, .inr (.inr rfl)⟩
theorem in2 {d : D} {x y : Int} (h : d ∈ [PyData.int x, .int y]) : ∃ n : Int, d = .int n ∧ (n = x ∨ n = y) := by
  simp only [List.mem_cons, List.not_mem_nil, or_false] at h
  rcases h with h | h
  · exact ⟨_, h, .inl rfl⟩
  · exact ⟨_, h, .inr rfl⟩
theorem shaped_fD (u : Int × Int) : SeqAt.shaped (fD u) = true := shaped_is .none _ _
theorem eqv_fD (u : Int × Int) : PyData.eqv (fD u) (fD u) = true := eqv_tup fun x hx => by
  simp only [List.mem_cons, List.not_mem_nil, or_false] at hx
  rcases hx with h | h <;> rw [h] <;> exact eqv_i _
theorem fstD_filter (p : Nat → Bool) (n : Nat) : fstD p n = match (List.range n).filter p with
    | [] => .none
    | i :: _ => .int i := by
  unfold fstD
  rw [← List.head?_filter]
  cases (List.range n).filter p <;> rfl
theorem bd_fr {a c : Int} (h0 : 0 ≤ a) (h1 : a ≤ c) (h2 : 0 < c) (h3 : c ≤ 1000) : Bd (fr a c) := by
  obtain ⟨g, hg, e1, e2⟩ := fr_spec (a := a) h2
  refine ⟨fr_top h0 h2, ?_, fr_bot h2, Int.le_trans (fr_bot_le h2) h3, fr_cop h2⟩
  generalize (fr a c).1 = x at *
  generalize (fr a c).2 = y at *
  rw [e1, e2] at h1
  exact Int.le_of_mul_le_mul_right h1 hg
theorem gs_out {t r : Int} (h : t < r) : gs t r = 0 := by
  unfold gs
  rw [show (t + 1 - r).toNat = 0 by omega]
  rfl
theorem not_less {u v : Int × Int} : (¬ v.1 * u.2 < u.1 * v.2) ↔ noMore u v = true := by
  unfold noMore
  rw [decide_eq_true_eq]
  omega
theorem shaped_nat (is : List Nat) : SeqAt.shaped (.list (is.map fun (i : Nat) => PyData.int (i : Int))) = true := by
  have := shaped_ints (is.map fun (i : Nat) => (i : Int))
  rw [List.map_map] at this
  exact this
theorem rd__law_are_samples_right : ∀ env W, env.length = 1 → F__law_are_samples_right env W → ws__law_are_samples_right (ends env W) (env ++ nones 12) := by
  rintro env W hl ⟨p, xs, m, rfl, hp, hm, q⟩
  unfold ws__law_are_samples_right
  refine seq_go ?_
  walk_at "d1"
  refine ⟨line_le (by decide), p, xs, _, m, rfl, hp, by omega, (by decide : 0 < 3), (by decide : 3 ≤ 1000), fun dd xs1 hd hp1 => ?_⟩
  obtain ⟨n, rfl, hn⟩ := in3 hd
  walk_at "d1"
  refine ⟨p, xs1, n, m + 1, rfl, hp1, by omega, by omega, by omega, fun bo xs2 bo0 bo1 hp2 => ?_⟩
  walk_at "d1"
  have b0 : 1 ≤ 1 + bo := by omega
  have b1 : 1 + bo ≤ 2000 := by omega
  generalize 1 + bo = b at *
  refine seq_go ?_
  walk_at "d1"
  refine ⟨p, xs2, b + 1, m + 2, rfl, hp2, by omega, by omega, by omega, fun d xs3 d0 d1 hp3 => ?_⟩
  walk_at "d1"
  refine ⟨p, xs3, b + 1, m + 3, rfl, hp3, by omega, by omega, by omega, fun t xs4 t0 t1 hp4 => ?_⟩
  walk_at "d1"
  refine seq_go ?_
  walk_at "d1"
  have e1 : (if 40 < t then 40 else t) ≤ t ∧ (if 40 < t then 40 else t) ≤ 40 ∧ 0 ≤ (if 40 < t then 40 else t) := by split <;> omega
  generalize (if 40 < t then 40 else t) = t2 at *
  refine ⟨p, xs4, t2 + 1, m + 4, rfl, hp4, by omega, by omega, by omega, fun f xs5 f0 f1 hp5 => ?_⟩
  walk_at "d1"
  refine ⟨line_le (by decide), p, xs5, _, m + 5, rfl, hp5, by omega, (by decide : 0 < 2), (by decide : 2 ≤ 1000), fun dd xs6 hd hp6 => ?_⟩
  obtain ⟨n2, rfl, hn2⟩ := in2 hd
  walk_at "d1"
  refine ⟨p, xs6, n2, m + 6, rfl, hp6, by omega, by omega, by omega, fun l xs7 l0 l1 hp7 => ?_⟩
  walk_at "d1"
  -- the chance of so many found
  refine seq_if (fun N hN => ?_) ?_
  · walk_at "d1"
    refine ⟨b, d, t, f, rfl, b0, b1, d0, by omega, t0, by omega, f0, by omega, ?_⟩
    walk_at "d1"
    refine ⟨b, d, t, f, rfl, b1, d0, by omega, t0, by omega, f0, by omega, ?_⟩
    walk_at "d1"
    rw [shaped_fD, eqv_fD, if_neg (by decide)]
    exact ⟨rfl, rfl, hN⟩
  -- the chance to pass
  refine seq_if (fun N hN => ?_) ?_
  · have ps : F_chance_to_pass [some (.d (.int b)), some (.d (.int d)), some (.d (.int t)), some (.d (.int l))] = F_chance_to_pass [some (.d (.int b)), some (.d (.int d)), some (.d (.int t)), some (.d (.int l))] := rfl
    walk_at "d1"
    split
    · refine ⟨b, d, t, l, rfl, b0, b1, d0, by omega, t0, by omega, l0, by omega, ?_⟩
      walk_at "d1"
      refine ⟨b, d, t, l, rfl, b1, d0, by omega, t0, by omega, l0, by omega, ?_⟩
      walk_at "d1"
      rw [shaped_fD, eqv_fD, if_neg (by decide)]
      exact ⟨rfl, rfl, hN⟩
    · split
      · refine ⟨b, d, t, l, rfl, b0, b1, d0, by omega, t0, by omega, l0, by omega, ?_⟩
        walk_at "d1"
        refine ⟨b, d, t, l, rfl, b1, d0, by omega, t0, by omega, l0, by omega, ?_⟩
        walk_at "d1"
        rw [shaped_fD, eqv_fD, if_neg (by decide)]
        exact ⟨rfl, rfl, hN⟩
      · exact hN
  -- surely found
  refine seq_if (fun N hN => ?_) ?_
  · walk_at "d1"
    refine ⟨b, d, rfl, b0, b1, d0, by omega, ?_⟩
    walk_at "d1"
    split
    · rw [shaped_int, eqv_i, if_neg (by decide)]
      exact ⟨rfl, hN⟩
    · rw [shaped_non, eqv_non, if_neg (by decide)]
      exact ⟨rfl, hN⟩
  refine seq_go ?_
  walk_at "d1"
  split
  · exact q _ (hp7.mono (by omega))
  rename_i hb
  -- the bound
  refine seq_go ?_
  walk_at "d1"
  refine ⟨p, xs7, 20, m + 7, rfl, hp7, by omega, by omega, by omega, fun a xs8 a0 a1 hp8 => ?_⟩
  walk_at "d1"
  refine ⟨p, xs8, 60, m + 8, rfl, hp8, by omega, by omega, by omega, fun c xs9 c0 c1 hp9 => ?_⟩
  walk_at "d1"
  refine ⟨a, 20 + c, rfl, a0, by omega, Int.lt_of_lt_of_le (show 20 + c < 2 ^ 10 by omega) (p2m (by decide)), ?_⟩
  have hB := bd_fr a0 (show a ≤ 20 + c by omega) (by omega) (by omega)
  generalize fr a (20 + c) = x at *
  walk_at "d1"
  -- the first number tasted that will do
  refine seq_go ?_
  walk_at "d1"
  refine ⟨⟨by omega, by omega⟩, ?_⟩
  refine lcR_pure (fun i => noMore (fr (atM b d i l) (cI b i)) x) (fun i => .int i) _ (fun i hi N acc hl h1 h2 => ?_) (line_le (by omega)) ?_
  · walk_at "d1"
    refine ⟨b, d, i, l, rfl, b1, d0, by omega, by omega, by omega, l0, by omega, ?_⟩
    have cp : 0 < cI b i := cI_pos (by omega) (by omega)
    have sz := fr_sz (k := 4100) (atM_sz (b := b) (d := d) (t := i) (l := l) (by omega) (by omega) (by omega)) ((cI_sz (b := 2000) (by omega)).mono (by decide : 2001 ≤ 4100)) cp
    generalize fr (atM b d i l) (cI b i) = y at *
    walk_at "d1"
    refine ⟨x.1, x.2, y.1, y.2, rfl, hB.sz.1, hB.sz.2, sz.1, sz.2, ?_⟩
    walk_at "d1"
    split
    · rename_i c
      exact ⟨hl, h1 (not_less.mp c)⟩
    · rename_i c
      exact h2 (Bool.eq_false_iff.mpr fun z => c (not_less.mpr z))
  walk_at "d1"
  refine seq_if (fun N hN => ?_) ?_
  · walk_at "d1"
    refine ⟨b, d, l, x, rfl, b0, b1, d0, by omega, l0, by omega, hB, ?_⟩
    walk_at "d1"
    refine ⟨line_le (by decide), ?_⟩
    rw [fstD_filter, shaped_nat, shaped_nil]
    generalize List.filter _ _ = L at *
    cases L with
    | nil =>
      rw [List.map_nil, eqv_nil_nil, if_neg (by decide)]
      dsimp only
      rw [shaped_non, eqv_non, if_neg (by decide)]
      exact ⟨rfl, rfl, rfl, hN⟩
    | cons i r =>
      rw [List.map_cons, eqv_l_nil, if_pos rfl]
      walk_at "d1"
      exact hN
  generalize PyData.list (List.map _ (List.filter _ _)) = had1 at *
  -- the least number of bad ones that will do
  refine seq_go ?_
  walk_at "d1"
  refine ⟨⟨by omega, by omega⟩, ?_⟩
  refine lcR_pure (fun i => noMore (fr (atM b i t l) (cI b t)) x) (fun i => .int i) _ (fun i hi N acc hl h1 h2 => ?_) (line_le (by omega)) ?_
  · walk_at "d1"
    refine ⟨b, i, t, l, rfl, b1, by omega, by omega, t0, by omega, l0, by omega, ?_⟩
    have cp : 0 < cI b t := cI_pos (by omega) (by omega)
    have sz := fr_sz (k := 4100) (atM_sz (b := b) (d := i) (t := t) (l := l) (by omega) (by omega) (by omega)) ((cI_sz (b := 2000) (by omega)).mono (by decide : 2001 ≤ 4100)) cp
    generalize fr (atM b i t l) (cI b t) = y at *
    walk_at "d1"
    refine ⟨x.1, x.2, y.1, y.2, rfl, hB.sz.1, hB.sz.2, sz.1, sz.2, ?_⟩
    walk_at "d1"
    split
    · rename_i c
      exact ⟨hl, h1 (not_less.mp c)⟩
    · rename_i c
      exact h2 (Bool.eq_false_iff.mpr fun z => c (not_less.mpr z))
  walk_at "d1"
  refine seq_if (fun N hN => ?_) ?_
  · walk_at "d1"
    refine ⟨b, t, l, x, rfl, b0, b1, t0, by omega, l0, by omega, hB, ?_⟩
    walk_at "d1"
    refine ⟨line_le (by decide), ?_⟩
    rw [fstD_filter, shaped_nat, shaped_nil]
    generalize List.filter _ _ = L at *
    cases L with
    | nil =>
      rw [List.map_nil, eqv_nil_nil, if_neg (by decide)]
      dsimp only
      rw [shaped_non, eqv_non, if_neg (by decide)]
      exact ⟨rfl, rfl, rfl, hN⟩
    | cons i r =>
      rw [List.map_cons, eqv_l_nil, if_pos rfl]
      walk_at "d1"
      exact hN
  generalize PyData.list (List.map _ (List.filter _ _)) = had2 at *
  -- the tasters
  refine seq_go ?_
  walk_at "d1"
  refine ⟨line_le (by decide), p, xs9, _, m + 9, rfl, hp9, by omega, (by decide : 0 < 2), (by decide : 2 ≤ 1000), fun dd xs10 hd hp10 => ?_⟩
  obtain ⟨n3, rfl, hn3⟩ := in2 hd
  walk_at "d1"
  refine ⟨p, xs10, n3, m + 10, rfl, hp10, by omega, by omega, by omega, fun ts xs11 ts0 ts1 hp11 => ?_⟩
  walk_at "d1"
  refine seq_go ?_
  walk_at "d1"
  refine ⟨line_le (by decide), p, xs11, _, m + 11, rfl, hp11, by omega, (by decide : 0 < 2), (by decide : 2 ≤ 1000), fun dd xs12 hd hp12 => ?_⟩
  obtain ⟨n4, rfl, hn4⟩ := in2 hd
  walk_at "d1"
  refine ⟨p, xs12, n4, m + 12, rfl, hp12, by omega, by omega, by omega, fun r xs13 r0 r1 hp13 => ?_⟩
  walk_at "d1"
  refine seq_if (fun N hN => ?_) ?_
  · walk_at "d1"
    refine ⟨ts, r, rfl, ts0, by omega, r0, by omega, ?_⟩
    walk_at "d1"
    split
    · refine ⟨ts, r, rfl, ts0, by omega, r0, by omega, ?_⟩
      walk_at "d1"
      rw [shaped_fD, eqv_fD, if_neg (by decide)]
      exact ⟨rfl, rfl, hN⟩
    · rename_i c
      rw [gs_out (by omega), fr_zero (p3_ok (by omega)).1]
      walk_at "d1"
      rw [shaped_fD (0, 1), eqv_fD (0, 1), if_neg (by decide)]
      exact ⟨line_le (by decide), rfl, rfl, hN⟩
  refine seq_go ?_
  walk_at "d1"
  refine ⟨⟨by omega, by omega⟩, ?_⟩
  refine lcR_pure (fun i => noMore (gs ts i, 3 ^ ts.toNat) x) (fun i => .int i) _ (fun i hi N acc hl h1 h2 => ?_) (line_le (by omega)) ?_
  · walk_at "d1"
    refine ⟨ts, i, rfl, ts0, by omega, by omega, by omega, ?_⟩
    have p3 := p3_ok (t := ts) (by omega)
    have sz := fr_sz (k := 4100) ((gs_sz (t := ts) (r := i) (by omega) (by omega)).mono (by decide)) (Sz.mono (a := 401) ⟨Int.le_of_lt p3.1, p3.2⟩ (by decide)) p3.1
    have e := noMore_frL (a := gs ts i) (v := x) p3.1 (by have := hB.b1; omega)
    rw [← e] at h1 h2
    generalize fr (gs ts i) (3 ^ ts.toNat) = y at *
    walk_at "d1"
    refine ⟨x.1, x.2, y.1, y.2, rfl, hB.sz.1, hB.sz.2, sz.1, sz.2, ?_⟩
    walk_at "d1"
    split
    · rename_i c
      exact ⟨hl, h1 (not_less.mp c)⟩
    · rename_i c
      exact h2 (Bool.eq_false_iff.mpr fun z => c (not_less.mpr z))
  walk_at "d1"
  refine ⟨ts, x, rfl, ts0, by omega, hB, ?_⟩
  walk_at "d1"
  refine ⟨line_le (by decide), ?_⟩
  rw [fstD_filter, shaped_nat, shaped_nil]
  generalize List.filter _ _ = L at *
  have q := q _ (hp13.mono (show m + 12 + 1 ≤ m + 20 by omega))
  cases L with
  | nil =>
    rw [List.map_nil, eqv_nil_nil, if_neg (by decide)]
    dsimp only
    rw [shaped_non, eqv_non]
    exact ⟨rfl, rfl, rfl, q⟩
  | cons i r =>
    rw [List.map_cons, eqv_l_nil, if_pos rfl]
    walk_at "d1"
    exact q

theorem once_is {b d f l : Int} (h0 : 0 ≤ f) (h1 : 0 ≤ l) (h2 : f ≤ b) : pB b d ⟨f, l, l + 1, 0, l⟩ = fr (atM b d f l) (cI b f) := by
  have R1 : rP b ⟨f, l, l + 1, 0, l⟩ = 1 := cI_zero (show 0 ≤ b - f by omega)
  unfold pB
  rw [R1, Int.mul_one]
  have e : good b d ⟨f, l, l + 1, 0, l⟩ (nP ⟨f, l, l + 1, 0, l⟩) = atM b d f l := by
    have z : lA b d ⟨f, l, l + 1, 0, l⟩ (nP ⟨f, l, l + 1, 0, l⟩) = 0 := by
      have : lA b d ⟨f, l, l + 1, 0, l⟩ (nP ⟨f, l, l + 1, 0, l⟩) = sR (fun _ => 0) (nP ⟨f, l, l + 1, 0, l⟩) := by
        refine sR_congr fun i _ => ?_
        show (if (i : Int) ≤ l then (0 : Int) else if l + 1 ≤ (i : Int) then 0 else _) = 0
        by_cases c : (i : Int) ≤ l
        · rw [if_pos c]
        · rw [if_neg c, if_pos (by omega)]
      rw [this]
      generalize nP _ = n
      induction n with
      | zero => rfl
      | succ n ih => show sR (fun _ => 0) n + 0 = 0; omega
    have z2 : aO b d ⟨f, l, l + 1, 0, l⟩ (nP ⟨f, l, l + 1, 0, l⟩) = atM b d f l := by
      have hm : ∃ k, nP ⟨f, l, l + 1, 0, l⟩ = ((if l < f then l else f) + 1).toNat + k := ⟨nP ⟨f, l, l + 1, 0, l⟩ - ((if l < f then l else f) + 1).toNat, by
        have : ((if l < f then l else f) + 1).toNat ≤ nP ⟨f, l, l + 1, 0, l⟩ := by
          show _ ≤ (f + 1).toNat
          split <;> omega
        omega⟩
      obtain ⟨k, hk⟩ := hm
      have hk2 : (f + 1).toNat = ((if l < f then l else f) + 1).toNat + k := hk
      rw [hk]
      unfold aO atM
      rw [sR_more fun i i0 i1 => ?_]
      · refine sR_congr fun i hi => ?_
        have : (i : Int) ≤ l := by
          have : ((if l < f then l else f) + 1).toNat ≤ (l + 1).toNat := by split <;> omega
          omega
        show (if (i : Int) ≤ l then wP b d ⟨f, l, l + 1, 0, l⟩ i * rP b ⟨f, l, l + 1, 0, l⟩ else 0) = _
        rw [if_pos this, R1, Int.mul_one]
        rfl
      · show (if (i : Int) ≤ l then _ else (0 : Int)) = 0
        have : ¬ (i : Int) ≤ l := by
          split at i0 <;> split at hk2 <;> omega
        rw [if_neg this]
    unfold good
    rw [z, z2, Int.add_zero]
  rw [e]
  rfl
theorem cut_a {a b c d e : D} : Dl.cutD [a, b, c, d, e] none (some 1) = [a] := by rfl
theorem cut_b {a b c d e : D} : Dl.cutD [a, b, c, d, e] (some 2) none = [c, d, e] := by rfl
theorem outc_ok (x : Pl) (a b : Int) : SeqAt.shaped (outc x a b) = true ∧ PyData.eqv (outc x a b) (outc x a b) = true := by
  have s : ∀ z : Str, SeqAt.shaped (.str z) = PyData.strOk z := fun z => by simp [SeqAt.shaped, PyData.canLay0, PyData.depth]
  unfold outc
  split
  · exact ⟨by rw [s]; decide +kernel, eqv_s _⟩
  · split
    · exact ⟨by rw [s]; decide +kernel, eqv_s _⟩
    · split
      · exact ⟨by rw [s]; decide +kernel, eqv_s _⟩
      · exact ⟨by rw [s]; decide +kernel, eqv_s _⟩
theorem pB_sz {b i : Int} {x : Pl} (hx : PlOk b x) (h1 : b ≤ 200) (h2 : 0 ≤ i) (h3 : i ≤ b) : Sz 4100 (pB b i x).1 ∧ Sz 4100 (pB b i x).2 := by
  have c := cr_ok hx h1
  exact fr_sz ((good_sz hx h1 h2 h3 (nP_le hx)).mono (by decide)) (Sz.mono (a := 402) ⟨Int.le_of_lt c.1, c.2⟩ (by decide)) c.1
theorem rd__law_are_plans_right : ∀ env W, env.length = 1 → F__law_are_plans_right env W → ws__law_are_plans_right (ends env W) (env ++ nones 15) := by
  rintro env W hl ⟨p, xs, m, rfl, hp, hm, q⟩
  unfold ws__law_are_plans_right
  refine seq_go ?_
  walk_at "d1"
  refine ⟨line_le (by decide), p, xs, _, m, rfl, hp, by omega, (by decide : 0 < 3), (by decide : 3 ≤ 1000), fun dd xs1 hd hp1 => ?_⟩
  obtain ⟨n, rfl, hn⟩ := in3 hd
  walk_at "d1"
  refine ⟨p, xs1, n, m + 1, rfl, hp1, by omega, by omega, by omega, fun bo xs2 bo0 bo1 hp2 => ?_⟩
  walk_at "d1"
  have b0 : 1 ≤ 1 + bo := by omega
  have b1 : 1 + bo ≤ 200 := by omega
  generalize 1 + bo = b at *
  refine seq_go ?_
  walk_at "d1"
  refine ⟨p, xs2, b + 1, m + 2, rfl, hp2, by omega, by omega, by omega, fun d xs3 d0 d1 hp3 => ?_⟩
  walk_at "d1"
  refine ⟨p, xs3, b, m + 3, rfl, hp3, by omega, by omega, by omega, fun x xs8 hx hp8 => ?_⟩
  have hx' := hx
  obtain ⟨a1, a2, a3, a4, a5, a6, a7, a8, a9⟩ := hx'
  walk_at "d1"
  refine seq_go ?_
  walk_at "d1"
  refine ⟨b, d, x, rfl, hx, b0, b1, d0, by omega, ?_⟩
  walk_at "d1"
  refine seq_if (fun N hN => ?_) ?_
  · walk_at "d1"
    refine ⟨b, d, x, rfl, hx, b0, b1, d0, by omega, ?_⟩
    walk_at "d1"
    rw [shaped_fD, eqv_fD, if_neg (by decide)]
    refine ⟨rfl, rfl, b, d, x, rfl, hx, b0, b1, d0, by omega, ?_⟩
    walk_at "d1"
    rw [shaped_fD, eqv_fD, if_neg (by decide)]
    refine ⟨rfl, rfl, b, d, x, rfl, hx, b0, b1, d0, by omega, ?_⟩
    walk_at "d1"
    rw [shaped_fD, eqv_fD, if_neg (by decide)]
    exact ⟨rfl, rfl, hN⟩
  refine seq_go ?_
  walk_at "d1"
  refine ⟨p, xs8, x.f + 1, m + 8, rfl, hp8, by omega, by omega, by omega, fun u xs9 u0 u1 hp9 => ?_⟩
  walk_at "d1"
  refine ⟨p, xs9, x.s + 1, m + 9, rfl, hp9, by omega, by omega, by omega, fun v xs10 v0 v1 hp10 => ?_⟩
  walk_at "d1"
  refine seq_if (fun N hN => ?_) ?_
  · walk_at "d1"
    refine ⟨b, x, u, v, rfl, hx, b0, b1, u0, by omega, v0, by omega, ?_⟩
    walk_at "d1"
    refine ⟨x, u, v, rfl, ?_⟩
    walk_at "d1"
    rw [(outc_ok x u v).1, (outc_ok x u v).2, if_neg (by decide)]
    exact ⟨rfl, rfl, hN⟩
  refine seq_go ?_
  walk_at "d1"
  split
  · exact q _ (hp10.mono (by omega))
  rename_i hb
  refine seq_any (fun e => ∃ y xs', PlOk b y ∧ Pot (m + 16) xs' ∧ e = [some (.ls p xs'), some (.d (.int b)), some (.d (plD y)), none, none, none, some (.d (.int d)), some (.d (plD x)), some (.d (fD (pB b d x))), some (.d (fD (aB b d x))), some (.d (fD (tB b d x))), some (.d (.int u)), some (.d (.int v)), none, none, none]) (fun N hN => ?_) ?_
  · walk_at "d1"
    refine ⟨p, xs10, 2, m + 10, rfl, hp10, by omega, by omega, by omega, fun co xs11 co0 co1 hp11 => ?_⟩
    walk_at "d1"
    split
    · refine ⟨p, xs11, b, m + 11, rfl, hp11, by omega, by omega, by omega, fun y xs16 hy hp16 => ?_⟩
      walk_at "d1"
      exact hN _ ⟨y, xs16, hy, hp16, rfl⟩
    · rw [cut_a, cut_b]
      have hmx : (if x.p - 1 > 0 then x.p - 1 else 0) ≤ x.p ∧ 0 ≤ (if x.p - 1 > 0 then x.p - 1 else 0) := by split <;> omega
      generalize (if x.p - 1 > 0 then x.p - 1 else 0) = z at *
      exact ⟨line_le (by decide), line_le (show 1 + 1 ≤ 1000000 by decide), line_le (show 2 + 3 ≤ 1000000 by decide), hN _ ⟨⟨x.f, z, x.q, x.s, x.l⟩, xs11, ⟨a1, a2, a3, a4, a5, hmx.2, by show z < x.q; omega, a8, a9⟩, hp11.mono (by omega), rfl⟩⟩
  rintro _ ⟨y, xs16, hy, hp16, rfl⟩
  refine seq_go ?_
  walk_at "d1"
  refine ⟨⟨by omega, by omega⟩, ?_⟩
  refine lcR_pure (fun _ => true) (fun i => .tuple [fD (pB b i x), fD (pB b i y)]) _ (fun i hi N acc hl h1 h2 => ?_) (line_le (by omega)) ?_
  · walk_at "d1"
    refine ⟨b, i, x, rfl, hx, b0, b1, by omega, by omega, ?_⟩
    walk_at "d1"
    refine ⟨b, i, y, rfl, hy, b0, b1, by omega, by omega, ?_⟩
    walk_at "d1"
    exact ⟨line_le (by decide), hl, h1 rfl⟩
  rw [List.filter_eq_self.mpr fun _ _ => rfl]
  walk_at "d1"
  refine seq_if (fun N hN => ?_) ?_
  · walk_at "d1"
    refine ⟨b, x, y, rfl, hx, hy, b0, b1, ?_⟩
    walk_at "d1"
    refine lcM_pure (fun i : Nat => .tuple [fD (pB b i x), fD (pB b i y)]) (fun i : Nat => .bool (noMore (pB b i x) (pB b i y))) _ (fun i hi N acc hl h1 => ?_) (line_le (by rw [List.length_range]; omega)) ?_
    · have hi := List.mem_range.mp hi
      have sx := pB_sz (i := i) hx b1 (by omega) (by omega)
      have sy := pB_sz (i := i) hy b1 (by omega) (by omega)
      walk_at "d1"
      generalize pB b i x = gx at *
      generalize pB b i y = gy at *
      refine ⟨gy.1, gy.2, gx.1, gx.2, rfl, sy.1, sy.2, sx.1, sx.2, ?_⟩
      walk_at "d1"
      have e : (!decide (gy.1 * gx.2 < gx.1 * gy.2)) = noMore gx gy := by
        unfold noMore
        rw [← decide_not]
        exact decide_eq_decide.mpr Int.not_lt
      rw [e]
      exact ⟨hl, h1⟩
    · walk_at "d1"
      refine allGo_of (bs := (List.range (b + 1).toNat).map fun i : Nat => noMore (pB b i x) (pB b i y)) (by rw [List.map_map]; rfl) ?_
      walk_at "d1"
      rw [List.all_map]
      rw [show ∀ f : Nat → Bool, id ∘ f = f from fun _ => rfl, eqv_b, beq_self_eq_true, if_neg (by decide)]
      exact hN
  refine seq_if (fun N hN => ?_) ?_
  · walk_at "d1"
    refine ⟨b, y, x, rfl, hy, hx, b0, b1, ?_⟩
    walk_at "d1"
    refine lcM_pure (fun i : Nat => .tuple [fD (pB b i x), fD (pB b i y)]) (fun i : Nat => .bool (noMore (pB b i y) (pB b i x))) _ (fun i hi N acc hl h1 => ?_) (line_le (by rw [List.length_range]; omega)) ?_
    · have hi := List.mem_range.mp hi
      have sx := pB_sz (i := i) hx b1 (by omega) (by omega)
      have sy := pB_sz (i := i) hy b1 (by omega) (by omega)
      walk_at "d1"
      generalize pB b i x = gx at *
      generalize pB b i y = gy at *
      refine ⟨gx.1, gx.2, gy.1, gy.2, rfl, sx.1, sx.2, sy.1, sy.2, ?_⟩
      walk_at "d1"
      have e : (!decide (gx.1 * gy.2 < gy.1 * gx.2)) = noMore gy gx := by
        unfold noMore
        rw [← decide_not]
        exact decide_eq_decide.mpr Int.not_lt
      rw [e]
      exact ⟨hl, h1⟩
    · walk_at "d1"
      refine allGo_of (bs := (List.range (b + 1).toNat).map fun i : Nat => noMore (pB b i y) (pB b i x)) (by rw [List.map_map]; rfl) ?_
      walk_at "d1"
      rw [List.all_map]
      rw [show ∀ f : Nat → Bool, id ∘ f = f from fun _ => rfl, eqv_b, beq_self_eq_true, if_neg (by decide)]
      exact hN
  refine seq_go ?_
  walk_at "d1"
  refine ⟨p, xs16, 4, m + 16, rfl, hp16, by omega, by omega, by omega, fun l xs17 l0 l1 hp17 => ?_⟩
  walk_at "d1"
  refine seq_go ?_
  walk_at "d1"
  refine ⟨line_le (by decide), ?_⟩
  refine ⟨b, d, ⟨x.f, l, l + 1, 0, l⟩, rfl, ⟨a1, a2, show (0 : Int) ≤ 0 by decide, show (0 : Int) ≤ 200 by decide, by show x.f + 0 ≤ b; omega, l0, by show l < l + 1; omega, by show l + 1 ≤ l + 1; omega, by show l ≤ 199; omega⟩, b0, b1, d0, by omega, ?_⟩
  walk_at "d1"
  refine ⟨b, d, x.f, l, rfl, by omega, d0, by omega, a1, by omega, l0, by omega, ?_⟩
  walk_at "d1"
  rw [once_is a1 l0 (by omega), shaped_fD, eqv_fD]
  exact ⟨rfl, rfl, q _ (hp17.mono (by omega))⟩

theorem rd__law_right : ∀ env W, env.length = 1 → F__law_right env W → ws__law_right (ends env W) (env ++ nones 1) := by
  rintro env W hl ⟨p, xs, rfl, hp, q⟩
  unfold ws__law_right
  walk_at "dl"
  refine ⟨⟨by decide, by decide⟩, ?_⟩
  refine forR_ind (fun i e => ∃ xs' y, e = [some (.ls p xs'), y] ∧ Pot (40 * i) xs') (fun e h => ?_) (fun i e N hi hN h => ?_) _ ⟨xs, none, rfl, hp⟩
  · obtain ⟨xs', y, rfl, hp'⟩ := h
    walk_at "dl"
    exact q _
  · obtain ⟨xs', y, rfl, hp'⟩ := h
    have hi' : i < 4 := hi
    walk_at "dl"
    refine ⟨p, xs', 40 * i, rfl, hp', by omega, fun xs1 hp1 => ?_⟩
    walk_at "dl"
    refine ⟨p, xs1, 40 * i + 20, rfl, hp1, by omega, fun xs2 hp2 => ?_⟩
    walk_at "dl"
    exact hN _ ⟨xs2, _, rfl, hp2.mono (by omega)⟩
theorem rd_law : ∀ env W, env.length = 1 → F_law env W → ws_law (ends env W) (env ++ nones 1) := by
  rintro env W hl ⟨ns, rfl, h0, h1, q⟩
  unfold ws_law
  walk_at "dl"
  refine ⟨ns.map PyData.int, rfl, by rw [List.length_map]; exact h0, fun m hm => ?_⟩
  walk_at "dl"
  refine lcR_pure (fun _ => true) (fun _ => .bool true) _ (fun i hi N acc hl g1 g2 => ?_) (line_le (by omega)) ?_
  · walk_at "dl"
    refine ⟨ns, i, rfl, h0, h1, by omega, by omega, fun xs hp => ?_⟩
    walk_at "dl"
    intro p
    refine ⟨p, xs, rfl, hp, fun xs' => ?_⟩
    walk_at "dl"
    exact ⟨hl, g1 rfl⟩
  · walk_at "dl"
    refine allGo_of (bs := (List.range m).map fun _ => true) (by rw [List.filter_eq_self.mpr fun _ _ => rfl, List.map_map]; rfl) ?_
    walk_at "dl"
    rw [List.all_map, show (List.range m).all (id ∘ fun _ => true) = true from List.all_eq_true.mpr fun _ _ => rfl]
    exact q

end K7
set_option maxHeartbeats 2000000
namespace K7
open PySem PySem.Spec PyProof.Rows L2 Dl
section
variable {P : Program} {w : World} {K : PySem.W.Frag} {mg : Str → Option Value} {base : Heap}
theorem ok_is_int (T : Tx K mg) : DefOk P w K mg base 1 "is_int" 3 F_is_int := by
  obtain ⟨fd, FD⟩ := T.c.def_ 0 (d := d_is_int) rfl
  refine ⟨⟨_, fd, ["value", "low", "high"], ok_def (ws := ws_is_int) FD sc_is_int (fun cdv A outer s H E hr =>
  (dss_one (ds_ret (de_and (de_isi (T := "int") (T_isinstance T) (T_int T) PyProof.Rows.boot_int (de_var 0)) (de_and (de_not (de_isi (T := "bool") (T_isinstance T) (T_bool T) PyProof.Rows.boot_bool (de_var 0))) (de_one (de_ch ci_le ci_le (de_var 1) (de_var 0) (de_var 2)))))))) rd_is_int, FD.bindsN fun _ _ _ _ _ _ us hl => match us, hl with | [_, _, _], _ => rfl, T.glo "is_int" (T.c.fact 0 (f := .glo "is_int") rfl), FD.kp⟩⟩
theorem ok_is_whole (T : Tx K mg) : DefOk P w K mg base 1 "is_whole" 1 F_is_whole := by
  obtain ⟨fd, FD⟩ := T.c.def_ 1 (d := d_is_whole) rfl
  refine ⟨⟨_, fd, ["value"], ok_def (ws := ws_is_whole) FD sc_is_whole (fun cdv A outer s H E hr =>
  (dss_one (ds_ret (de_and (de_isi (T := "int") (T_isinstance T) (T_int T) PyProof.Rows.boot_int (de_var 0)) (de_one (de_not (de_isi (T := "bool") (T_isinstance T) (T_bool T) PyProof.Rows.boot_bool (de_var 0)))))))) rd_is_whole, FD.bindsN fun _ _ _ _ _ _ us hl => match us, hl with | [_], _ => rfl, T.glo "is_whole" (T.c.fact 1 (f := .glo "is_whole") rfl), FD.kp⟩⟩
theorem ok_common_int (T : Tx K mg) : DefOk P w K mg base 1 "common_int" 2 F_common_int := by
  obtain ⟨fd, FD⟩ := T.c.def_ 2 (d := d_common_int) rfl
  refine ⟨⟨_, fd, ["one", "other"], ok_def (ws := ws_common_int) FD sc_common_int (fun cdv A outer s H E hr =>
  (dss_cons (ds_while PassesOwn.never (dt_ne hr (de_var 1) de_int) (dss_one (ds_par (i := 0) (j := 1) rfl sc_common_int.nd (dm_cons (de_var 1) (dm_cons (de_mod (de_var 0) (de_var 1)) dm_nil)))))
  (dss_one (ds_ret (de_var 0))))) rd_common_int, FD.bindsN fun _ _ _ _ _ _ us hl => match us, hl with | [_, _], _ => rfl, T.glo "common_int" (T.c.fact 2 (f := .glo "common_int") rfl), FD.kp⟩⟩
theorem ok_is_no_more (T : Tx K mg) : DefOk P w K mg base 1 "is_no_more" 2 F_is_no_more := by
  obtain ⟨fd, FD⟩ := T.c.def_ 3 (d := d_is_no_more) rfl
  refine ⟨⟨_, fd, ["one", "other"], ok_def (ws := ws_is_no_more) FD sc_is_no_more (fun cdv A outer s H E hr =>
  (dss_one (ds_ret (de_le (de_mul (de_ix (de_var 0) de_int) (de_ix (de_var 1) de_int)) (de_mul (de_ix (de_var 1) de_int) (de_ix (de_var 0) de_int)))))) rd_is_no_more, FD.bindsN fun _ _ _ _ _ _ us hl => match us, hl with | [_, _], _ => rfl, T.glo "is_no_more" (T.c.fact 3 (f := .glo "is_no_more") rfl), FD.kp⟩⟩
theorem ok_chosen (T : Tx K mg) : DefOk P w K mg base 1 "chosen" 2 F_chosen := by
  obtain ⟨fd, FD⟩ := T.c.def_ 4 (d := d_chosen) rfl
  refine ⟨⟨_, fd, ["many", "some"], ok_def (ws := ws_chosen) FD sc_chosen (fun cdv A outer s H E hr =>
  (dss_cons (ds_if (dt_gt (de_var 1) (de_var 0)) (dss_one (ds_ret de_int)) dss_nil)
  (dss_cons (ds_set (i := 2) sc_chosen.nd de_int)
  (dss_cons (ds_for PassesOwn.never rfl (di_rng1 (by rfl) (T_range T) (da_cons (de_min2 rfl (T_min T) (da_cons (de_var 1) (da_cons (de_sub (de_var 0) (de_var 1)) da_nil))) da_nil)) (dg_name (i := 3) sc_chosen.nd) (dss_one (ds_set (i := 2) sc_chosen.nd (de_div (de_mul (de_var 2) (de_sub (de_var 0) (de_var 3))) (de_add (de_var 3) de_int)))))
  (dss_one (ds_ret (de_var 2))))))) rd_chosen, FD.bindsN fun _ _ _ _ _ _ us hl => match us, hl with | [_, _], _ => rfl, T.glo "chosen" (T.c.fact 4 (f := .glo "chosen") rfl), FD.kp⟩⟩
theorem ok_told_whole (T : Tx K mg) : DefOk P w K mg base 1 "told_whole" 1 F_told_whole := by
  obtain ⟨fd, FD⟩ := T.c.def_ 5 (d := d_told_whole) rfl
  refine ⟨⟨_, fd, ["tasters"], ok_def (ws := ws_told_whole) FD sc_told_whole (fun cdv A outer s H E hr =>
  (dss_cons (ds_set (i := 1) sc_told_whole.nd de_int)
  (dss_cons (ds_for PassesOwn.never rfl (di_rng1 (by rfl) (T_range T) (da_cons (de_var 0) da_nil)) (dg_name (i := 2) sc_told_whole.nd) (dss_one (ds_augMul (i := 1) sc_told_whole.nd de_int)))
  (dss_one (ds_ret (de_var 1)))))) rd_told_whole, FD.bindsN fun _ _ _ _ _ _ us hl => match us, hl with | [_], _ => rfl, T.glo "told_whole" (T.c.fact 5 (f := .glo "told_whole") rfl), FD.kp⟩⟩
theorem ok_told_outcome (T : Tx K mg) : DefOk P w K mg base 1 "told_outcome" 3 F_told_outcome := by
  obtain ⟨fd, FD⟩ := T.c.def_ 6 (d := d_told_outcome) rfl
  refine ⟨⟨_, fd, ["plan", "firsts", "seconds"], ok_def (ws := ws_told_outcome) FD sc_told_outcome (fun cdv A outer s H E hr =>
  (dss_cons (ds_asg (de_var 0) (dg_tup (n := 5) rfl (dgs_cons (dg_name (i := 3) sc_told_outcome.nd) (dgs_cons (dg_name (i := 4) sc_told_outcome.nd) (dgs_cons (dg_name (i := 5) sc_told_outcome.nd) (dgs_cons (dg_name (i := 6) sc_told_outcome.nd) (dgs_cons (dg_name (i := 7) sc_told_outcome.nd) dgs_nil)))))))
  (dss_cons (ds_if (dt_le (de_var 1) (de_var 4)) (dss_one (ds_ret de_str)) dss_nil)
  (dss_cons (ds_if (dt_ge (de_var 1) (de_var 5)) (dss_one (ds_ret de_str)) dss_nil)
  (dss_one (ds_ret (de_if (dt_le (de_add (de_var 1) (de_var 2)) (de_var 7)) de_str de_str))))))) rd_told_outcome, FD.bindsN fun _ _ _ _ _ _ us hl => match us, hl with | [_, _, _], _ => rfl, T.glo "told_outcome" (T.c.fact 6 (f := .glo "told_outcome") rfl), FD.kp⟩⟩
theorem ok__law_pot (T : Tx K mg) : DefOkN P w K mg base 1 "_law_pot" 2 F__law_pot := by
  obtain ⟨fd, FD⟩ := T.c.def_ 7 (d := d__law_pot) rfl
  refine ⟨⟨_, fd, ["script", "place"], ok_defN (ws := ws__law_pot) FD sc__law_pot (fun cdv A outer s H E hr =>
  (dss_cons (ds_set (i := 2) sc__law_pot.nd (de_if (dt_lt (de_var 1) (de_len (T_len T) (da_cons (de_var 0) da_nil))) (de_ix (de_var 0) (de_var 1)) (de_add (de_add (de_mod (de_toInt (T_int T) (da_cons (de_sum rfl (T_sum T) (da_cons (de_new (dn_slL (de_var 0) do_none (do_some de_int))) da_nil)) da_nil)) de_int) (de_mul de_int (de_var 1))) de_int)))
  (dss_cons (ds_set (i := 3) sc__law_pot.nd (de_mul (de_mod (de_toInt (T_int T) (da_cons (de_abs (T_abs T) (da_cons (de_var 2) da_nil)) da_nil)) (de_pow (de_pow de_int de_int) de_int)) (de_toInt (T_int T) (da_cons (de_ge (de_abs (T_abs T) (da_cons (de_var 2) da_nil)) (de_pow de_int de_int)) da_nil))))
  (dss_cons (ds_set (i := 4) sc__law_pot.nd (de_mod (de_toInt (T_int T) (da_cons (de_var 2) da_nil)) de_int))
  (dss_one (ds_retL (dn_lst (da_cons (de_var 3) (da_cons (de_mod (de_toInt (T_int T) (da_cons (de_add (de_add (de_mul (de_var 4) de_int) (de_mul (de_mul de_int (de_var 1)) (de_var 1))) de_int) da_nil)) de_int) (da_cons de_int da_nil)))))))))) rd__law_pot, FD.bindsN fun _ _ _ _ _ _ us hl => match us, hl with | [_, _], _ => rfl, T.glo "_law_pot" (T.c.fact 7 (f := .glo "_law_pot") rfl), FD.kp⟩⟩
theorem ok__law_take (T : Tx K mg) : DefOk P w K mg base 1 "_law_take" 2 F__law_take := by
  obtain ⟨fd, FD⟩ := T.c.def_ 8 (d := d__law_take) rfl
  refine ⟨⟨_, fd, ["pot", "upto"], ok_def (ws := ws__law_take) FD sc__law_take (fun cdv A outer s H E hr =>
  (dss_cons (ds_if (dt_gt (de_ixO 0 de_int) de_int) (dss_cons (ds_set (i := 4) sc__law_take.nd (de_mod (de_toInt (T_int T) (da_cons (de_ixO 0 de_int) da_nil)) (de_var 1)))
  (dss_cons (ds_putO 0 (de_div (de_ixO 0 de_int) (de_var 1)) de_int)
  (dss_one (ds_ret (de_var 4))))) dss_nil)
  (dss_cons (ds_putO 0 (de_add (de_ixO 0 de_int) de_int) de_int)
  (dss_cons (ds_set (i := 2) sc__law_take.nd (de_ix (de_new (dn_lst (da_cons de_int (da_cons de_int (da_cons de_int (da_cons de_int (da_cons de_int da_nil))))))) (de_mod (de_toInt (T_int T) (da_cons (de_ixO 0 de_int) da_nil)) de_int)))
  (dss_cons (ds_set (i := 3) sc__law_take.nd (de_mod (de_toInt (T_int T) (da_cons (de_pow (de_toInt (T_int T) (da_cons (de_add (de_add (de_ixO 0 de_int) (de_mul (de_mul de_int (de_ixO 0 de_int)) (de_ixO 0 de_int))) de_int) da_nil)) de_int) da_nil)) (de_var 2)))
  (dss_cons (ds_set (i := 3) sc__law_take.nd (de_mod (de_toInt (T_int T) (da_cons (de_mul (de_var 3) (de_add (de_mod (de_toInt (T_int T) (da_cons (de_var 3) da_nil)) de_int) (de_mul de_int (de_ixO 0 de_int)))) da_nil)) de_int))
  (dss_one (ds_ret (de_mod (de_toInt (T_int T) (da_cons (de_div (de_var 3) de_int) da_nil)) (de_var 1)))))))))) rd__law_take, FD.bindsN fun _ _ _ _ _ _ us hl => match us, hl with | [_, _], _ => rfl, T.glo "_law_take" (T.c.fact 8 (f := .glo "_law_take") rfl), FD.kp⟩⟩
theorem ok__law_cells (T : Tx K mg) : DefOk P w K mg base 1 "_law_cells" 2 F__law_cells := by
  obtain ⟨fd, FD⟩ := T.c.def_ 9 (d := d__law_cells) rfl
  refine ⟨⟨_, fd, ["script", "most"], ok_def (ws := ws__law_cells) FD sc__law_cells (fun cdv A outer s H E hr =>
  (dss_one (ds_ret (de_new (dn_listRg1 rfl (T_list T) (T_range T) (de_max2 rfl (T_max T) (da_cons de_int (da_cons (de_min2 rfl (T_min T) (da_cons (de_var 1) (da_cons (de_len (T_len T) (da_cons (de_var 0) da_nil)) da_nil))) da_nil)))))))) rd__law_cells, FD.bindsN fun _ _ _ _ _ _ us hl => match us, hl with | [_, _], _ => rfl, T.glo "_law_cells" (T.c.fact 9 (f := .glo "_law_cells") rfl), FD.kp⟩⟩
theorem ok__law_frac (T : Tx K mg) : DefOk P w K mg base 1 "_law_frac" 2 F__law_frac := by
  obtain ⟨fd, FD⟩ := T.c.def_ 10 (d := d__law_frac) rfl
  refine ⟨⟨_, fd, ["top", "bottom"], ok_def (ws := ws__law_frac) FD sc__law_frac (fun cdv A outer s H E hr =>
  (dss_cons (ds_par (i := 2) (j := 3) rfl sc__law_frac.nd (dm_cons (de_abs (T_abs T) (da_cons (de_var 0) da_nil)) (dm_cons (de_var 1) dm_nil)))
  (dss_cons (ds_while PassesOwn.never (dt_ne hr (de_var 3) de_int) (dss_one (ds_par (i := 2) (j := 3) rfl sc__law_frac.nd (dm_cons (de_var 3) (dm_cons (de_mod (de_var 2) (de_var 3)) dm_nil)))))
  (dss_one (ds_ret (de_if (dt_gt (de_var 2) de_int) (de_tup (da_cons (de_div (de_var 0) (de_var 2)) (da_cons (de_div (de_var 1) (de_var 2)) da_nil))) (de_tup (da_cons de_int (da_cons de_int da_nil))))))))) rd__law_frac, FD.bindsN fun _ _ _ _ _ _ us hl => match us, hl with | [_, _], _ => rfl, T.glo "_law_frac" (T.c.fact 10 (f := .glo "_law_frac") rfl), FD.kp⟩⟩
theorem ok__law_is_less (T : Tx K mg) : DefOk P w K mg base 1 "_law_is_less" 2 F__law_is_less := by
  obtain ⟨fd, FD⟩ := T.c.def_ 11 (d := d__law_is_less) rfl
  refine ⟨⟨_, fd, ["one", "other"], ok_def (ws := ws__law_is_less) FD sc__law_is_less (fun cdv A outer s H E hr =>
  (dss_one (ds_ret (de_lt (de_mul (de_ix (de_var 0) de_int) (de_ix (de_var 1) de_int)) (de_mul (de_ix (de_var 1) de_int) (de_ix (de_var 0) de_int)))))) rd__law_is_less, FD.bindsN fun _ _ _ _ _ _ us hl => match us, hl with | [_, _], _ => rfl, T.glo "_law_is_less" (T.c.fact 11 (f := .glo "_law_is_less") rfl), FD.kp⟩⟩
theorem ok__law_choices (T : Tx K mg) : DefOk P w K mg base 1 "_law_choices" 2 F__law_choices := by
  obtain ⟨fd, FD⟩ := T.c.def_ 12 (d := d__law_choices) rfl
  refine ⟨⟨_, fd, ["many", "few"], ok_def (ws := ws__law_choices) FD sc__law_choices (fun cdv A outer s H E hr =>
  (dss_cons (ds_if (dt_not (dt_ch ci_le ci_le de_int (de_var 1) (de_var 0))) (dss_one (ds_ret de_int)) dss_nil)
  (dss_cons (ds_set (i := 2) sc__law_choices.nd de_int)
  (dss_cons (ds_for PassesOwn.never rfl (di_rng1 (by rfl) (T_range T) (da_cons (de_min2 rfl (T_min T) (da_cons (de_var 1) (da_cons (de_sub (de_var 0) (de_var 1)) da_nil))) da_nil)) (dg_name (i := 3) sc__law_choices.nd) (dss_one (ds_set (i := 2) sc__law_choices.nd (de_div (de_mul (de_var 2) (de_sub (de_var 0) (de_var 3))) (de_add (de_var 3) de_int)))))
  (dss_one (ds_ret (de_var 2))))))) rd__law_choices, FD.bindsN fun _ _ _ _ _ _ us hl => match us, hl with | [_, _], _ => rfl, T.glo "_law_choices" (T.c.fact 12 (f := .glo "_law_choices") rfl), FD.kp⟩⟩
theorem ok__law_outcome (T : Tx K mg) : DefOk P w K mg base 1 "_law_outcome" 3 F__law_outcome := by
  obtain ⟨fd, FD⟩ := T.c.def_ 13 (d := d__law_outcome) rfl
  refine ⟨⟨_, fd, ["plan", "firsts", "seconds"], ok_def (ws := ws__law_outcome) FD sc__law_outcome (fun cdv A outer s H E hr =>
  (dss_cons (ds_asg (de_var 0) (dg_tup (n := 5) rfl (dgs_cons (dg_name (i := 3) sc__law_outcome.nd) (dgs_cons (dg_name (i := 4) sc__law_outcome.nd) (dgs_cons (dg_name (i := 5) sc__law_outcome.nd) (dgs_cons (dg_name (i := 6) sc__law_outcome.nd) (dgs_cons (dg_name (i := 7) sc__law_outcome.nd) dgs_nil)))))))
  (dss_cons (ds_if (dt_le (de_var 1) (de_var 4)) (dss_one (ds_ret de_str)) dss_nil)
  (dss_cons (ds_if (dt_ge (de_var 1) (de_var 5)) (dss_one (ds_ret de_str)) dss_nil)
  (dss_one (ds_ret (de_if (dt_le (de_add (de_var 1) (de_var 2)) (de_var 7)) de_str de_str))))))) rd__law_outcome, FD.bindsN fun _ _ _ _ _ _ us hl => match us, hl with | [_, _, _], _ => rfl, T.glo "_law_outcome" (T.c.fact 13 (f := .glo "_law_outcome") rfl), FD.kp⟩⟩
theorem ok_are_ints (T : Tx K mg) : DefOk P w K mg base 2 "are_ints" 3 F_are_ints := by
  have G_is_int : DefOk P w K mg base 1 "is_int" 3 F_is_int := (ok_is_int T).mono (by decide)
  obtain ⟨fd, FD⟩ := T.c.def_ 14 (d := d_are_ints) rfl
  refine ⟨⟨_, fd, ["value", "low", "high"], ok_def (ws := ws_are_ints) FD sc_are_ints (fun cdv A outer s H E hr =>
  (dss_one (ds_ret (de_and (de_isi (T := "tuple") (T_isinstance T) (T_tuple T) PyProof.Rows.boot_tuple (de_var 0)) (de_one (de_all rfl (T_all T) (da_cons (de_new (dn_lc rfl sc_are_ints.nd (own := [("one", 3)]) (us := [3]) (di_seq (de_var 0)) (blkOk_by (by rfl)) (by decide) (fun _ _ _ _ _ => (dg_name (i := 3) sc_are_ints.nd)) (fun _ _ _ _ _ => dts_nil) (fun _ _ _ _ _ => (de_call (G_is_int) hr (da_cons (de_var 3) (da_cons (de_var 1) (da_cons (de_var 2) da_nil))))))) da_nil))))))) rd_are_ints, FD.bindsN fun _ _ _ _ _ _ us hl => match us, hl with | [_, _, _], _ => rfl, T.glo "are_ints" (T.c.fact 14 (f := .glo "are_ints") rfl), FD.kp⟩⟩
theorem ok_lowest (T : Tx K mg) : DefOk P w K mg base 2 "lowest" 2 F_lowest := by
  have G_common_int : DefOk P w K mg base 1 "common_int" 2 F_common_int := (ok_common_int T).mono (by decide)
  obtain ⟨fd, FD⟩ := T.c.def_ 15 (d := d_lowest) rfl
  refine ⟨⟨_, fd, ["top", "bottom"], ok_def (ws := ws_lowest) FD sc_lowest (fun cdv A outer s H E hr =>
  (dss_cons (ds_set (i := 2) sc_lowest.nd (de_call (G_common_int) hr (da_cons (de_var 0) (da_cons (de_var 1) da_nil))))
  (dss_one (ds_ret (de_tup (da_cons (de_div (de_var 0) (de_var 2)) (da_cons (de_div (de_var 1) (de_var 2)) da_nil))))))) rd_lowest, FD.bindsN fun _ _ _ _ _ _ us hl => match us, hl with | [_, _], _ => rfl, T.glo "lowest" (T.c.fact 15 (f := .glo "lowest") rfl), FD.kp⟩⟩
theorem ok_is_fraction (T : Tx K mg) : DefOk P w K mg base 2 "is_fraction" 1 F_is_fraction := by
  have G_is_whole : DefOk P w K mg base 1 "is_whole" 1 F_is_whole := (ok_is_whole T).mono (by decide)
  have G_common_int : DefOk P w K mg base 1 "common_int" 2 F_common_int := (ok_common_int T).mono (by decide)
  obtain ⟨fd, FD⟩ := T.c.def_ 16 (d := d_is_fraction) rfl
  refine ⟨⟨_, fd, ["value"], ok_def (ws := ws_is_fraction) FD sc_is_fraction (fun cdv A outer s H E hr =>
  (dss_cons (ds_if (dt_w (dw_or (dt_not (dt_val (de_isi (T := "tuple") (T_isinstance T) (T_tuple T) PyProof.Rows.boot_tuple (de_var 0)))) (dw_or (dt_ne hr (de_len (T_len T) (da_cons (de_var 0) da_nil)) de_int) (dw_or (dt_not (dt_val (de_call (G_is_whole) hr (da_cons (de_ix (de_var 0) de_int) da_nil)))) (dw_or1 (dt_not (dt_val (de_call (G_is_whole) hr (da_cons (de_ix (de_var 0) de_int) da_nil))))))))) (dss_one (ds_ret de_bl)) dss_nil)
  (dss_one (ds_ret (de_and (de_ch ci_le ci_le de_int (de_ix (de_var 0) de_int) (de_ix (de_var 0) de_int)) (de_and (de_ge (de_ix (de_var 0) de_int) de_int) (de_one (de_eq hr (de_call (G_common_int) hr (da_cons (de_ix (de_var 0) de_int) (da_cons (de_ix (de_var 0) de_int) da_nil))) de_int)))))))) rd_is_fraction, FD.bindsN fun _ _ _ _ _ _ us hl => match us, hl with | [_], _ => rfl, T.glo "is_fraction" (T.c.fact 16 (f := .glo "is_fraction") rfl), FD.kp⟩⟩
theorem ok_look_at_lot (T : Tx K mg) : DefOk P w K mg base 2 "look_at_lot" 2 F_look_at_lot := by
  have G_is_int : DefOk P w K mg base 1 "is_int" 3 F_is_int := (ok_is_int T).mono (by decide)
  obtain ⟨fd, FD⟩ := T.c.def_ 17 (d := d_look_at_lot) rfl
  refine ⟨⟨_, fd, ["bottles", "bad"], ok_def (ws := ws_look_at_lot) FD sc_look_at_lot (fun cdv A outer s H E hr =>
  (dss_cons (ds_if (dt_not (dt_val (de_call (G_is_int) hr (da_cons (de_var 0) (da_cons de_int (da_cons (de_gint (by rfl) (T_MOST_BOTTLES T)) da_nil)))))) (dss_one ds_never) dss_nil)
  (dss_one (ds_if (dt_not (dt_val (de_call (G_is_int) hr (da_cons (de_var 1) (da_cons de_int (da_cons (de_var 0) da_nil)))))) (dss_one ds_never) dss_nil)))) rd_look_at_lot, FD.bindsN fun _ _ _ _ _ _ us hl => match us, hl with | [_, _], _ => rfl, T.glo "look_at_lot" (T.c.fact 17 (f := .glo "look_at_lot") rfl), FD.kp⟩⟩
theorem ok_told_rest (T : Tx K mg) : DefOk P w K mg base 2 "told_rest" 2 F_told_rest := by
  have G_chosen : DefOk P w K mg base 1 "chosen" 2 F_chosen := (ok_chosen T).mono (by decide)
  obtain ⟨fd, FD⟩ := T.c.def_ 18 (d := d_told_rest) rfl
  refine ⟨⟨_, fd, ["tasters", "right"], ok_def (ws := ws_told_rest) FD sc_told_rest (fun cdv A outer s H E hr =>
  (dss_cons (ds_set (i := 2) sc_told_rest.nd de_int)
  (dss_cons (ds_for PassesOwn.never rfl (di_rng2 (by rfl) (T_range T) (da_cons (de_var 1) (da_cons (de_add (de_var 0) de_int) da_nil))) (dg_name (i := 3) sc_told_rest.nd) (dss_cons (ds_set (i := 4) sc_told_rest.nd de_int)
  (dss_cons (ds_for PassesOwn.never rfl (di_rng1 (by rfl) (T_range T) (da_cons (de_sub (de_var 0) (de_var 3)) da_nil)) (dg_name (i := 5) sc_told_rest.nd) (dss_one (ds_augMul (i := 4) sc_told_rest.nd de_int)))
  (dss_one (ds_augAdd (i := 2) sc_told_rest.nd (de_mul (de_call (G_chosen) hr (da_cons (de_var 0) (da_cons (de_var 3) da_nil))) (de_var 4)))))))
  (dss_one (ds_ret (de_var 2)))))) rd_told_rest, FD.bindsN fun _ _ _ _ _ _ us hl => match us, hl with | [_, _], _ => rfl, T.glo "told_rest" (T.c.fact 18 (f := .glo "told_rest") rfl), FD.kp⟩⟩
theorem ok_told_second (T : Tx K mg) : DefOk P w K mg base 2 "told_second" 4 F_told_second := by
  have G_chosen : DefOk P w K mg base 1 "chosen" 2 F_chosen := (ok_chosen T).mono (by decide)
  obtain ⟨fd, FD⟩ := T.c.def_ 19 (d := d_told_second) rfl
  refine ⟨⟨_, fd, ["bottles", "bad", "second", "let"], ok_def (ws := ws_told_second) FD sc_told_second (fun cdv A outer s H E hr =>
  (dss_cons (ds_set (i := 4) sc_told_second.nd de_int)
  (dss_cons (ds_for PassesOwn.never rfl (di_rng1 (by rfl) (T_range T) (da_cons (de_add (de_min2 rfl (T_min T) (da_cons (de_var 2) (da_cons (de_var 3) da_nil))) de_int) da_nil)) (dg_name (i := 5) sc_told_second.nd) (dss_one (ds_augAdd (i := 4) sc_told_second.nd (de_mul (de_call (G_chosen) hr (da_cons (de_var 1) (da_cons (de_var 5) da_nil))) (de_call (G_chosen) hr (da_cons (de_sub (de_var 0) (de_var 1)) (da_cons (de_sub (de_var 2) (de_var 5)) da_nil)))))))
  (dss_one (ds_ret (de_var 4)))))) rd_told_second, FD.bindsN fun _ _ _ _ _ _ us hl => match us, hl with | [_, _, _, _], _ => rfl, T.glo "told_second" (T.c.fact 19 (f := .glo "told_second") rfl), FD.kp⟩⟩
theorem ok__law_of (T : Tx K mg) : DefOk P w K mg base 2 "_law_of" 2 F__law_of := by
  have G__law_take : DefOk P w K mg base 1 "_law_take" 2 F__law_take := (ok__law_take T).mono (by decide)
  obtain ⟨fd, FD⟩ := T.c.def_ 20 (d := d__law_of) rfl
  refine ⟨⟨_, fd, ["pot", "pool"], ok_def (ws := ws__law_of) FD sc__law_of (fun cdv A outer s H E hr =>
  (dss_one (ds_ret (de_ix (de_var 1) (de_call (G__law_take) hr (da_own 0 (da_cons (de_len (T_len T) (da_cons (de_var 1) da_nil)) da_nil))))))) rd__law_of, FD.bindsN fun _ _ _ _ _ _ us hl => match us, hl with | [_, _], _ => rfl, T.glo "_law_of" (T.c.fact 20 (f := .glo "_law_of") rfl), FD.kp⟩⟩
theorem ok__law_plus (T : Tx K mg) : DefOk P w K mg base 2 "_law_plus" 2 F__law_plus := by
  have G__law_frac : DefOk P w K mg base 1 "_law_frac" 2 F__law_frac := (ok__law_frac T).mono (by decide)
  obtain ⟨fd, FD⟩ := T.c.def_ 21 (d := d__law_plus) rfl
  refine ⟨⟨_, fd, ["one", "other"], ok_def (ws := ws__law_plus) FD sc__law_plus (fun cdv A outer s H E hr =>
  (dss_one (ds_ret (de_call (G__law_frac) hr (da_cons (de_add (de_mul (de_ix (de_var 0) de_int) (de_ix (de_var 1) de_int)) (de_mul (de_ix (de_var 1) de_int) (de_ix (de_var 0) de_int))) (da_cons (de_mul (de_ix (de_var 0) de_int) (de_ix (de_var 1) de_int)) da_nil)))))) rd__law_plus, FD.bindsN fun _ _ _ _ _ _ us hl => match us, hl with | [_, _], _ => rfl, T.glo "_law_plus" (T.c.fact 21 (f := .glo "_law_plus") rfl), FD.kp⟩⟩
theorem ok__law_times (T : Tx K mg) : DefOk P w K mg base 2 "_law_times" 2 F__law_times := by
  have G__law_frac : DefOk P w K mg base 1 "_law_frac" 2 F__law_frac := (ok__law_frac T).mono (by decide)
  obtain ⟨fd, FD⟩ := T.c.def_ 22 (d := d__law_times) rfl
  refine ⟨⟨_, fd, ["one", "other"], ok_def (ws := ws__law_times) FD sc__law_times (fun cdv A outer s H E hr =>
  (dss_one (ds_ret (de_call (G__law_frac) hr (da_cons (de_mul (de_ix (de_var 0) de_int) (de_ix (de_var 1) de_int)) (da_cons (de_mul (de_ix (de_var 0) de_int) (de_ix (de_var 1) de_int)) da_nil)))))) rd__law_times, FD.bindsN fun _ _ _ _ _ _ us hl => match us, hl with | [_, _], _ => rfl, T.glo "_law_times" (T.c.fact 22 (f := .glo "_law_times") rfl), FD.kp⟩⟩
theorem ok__law_chance (T : Tx K mg) : DefOk P w K mg base 2 "_law_chance" 4 F__law_chance := by
  have G__law_frac : DefOk P w K mg base 1 "_law_frac" 2 F__law_frac := (ok__law_frac T).mono (by decide)
  have G__law_choices : DefOk P w K mg base 1 "_law_choices" 2 F__law_choices := (ok__law_choices T).mono (by decide)
  obtain ⟨fd, FD⟩ := T.c.def_ 23 (d := d__law_chance) rfl
  refine ⟨⟨_, fd, ["bottles", "bad", "tasted", "found"], ok_def (ws := ws__law_chance) FD sc__law_chance (fun cdv A outer s H E hr =>
  (dss_one (ds_ret (de_call (G__law_frac) hr (da_cons (de_mul (de_call (G__law_choices) hr (da_cons (de_var 1) (da_cons (de_var 3) da_nil))) (de_call (G__law_choices) hr (da_cons (de_sub (de_var 0) (de_var 1)) (da_cons (de_sub (de_var 2) (de_var 3)) da_nil)))) (da_cons (de_call (G__law_choices) hr (da_cons (de_var 0) (da_cons (de_var 2) da_nil))) da_nil)))))) rd__law_chance, FD.bindsN fun _ _ _ _ _ _ us hl => match us, hl with | [_, _, _, _], _ => rfl, T.glo "_law_chance" (T.c.fact 23 (f := .glo "_law_chance") rfl), FD.kp⟩⟩
theorem ok__law_passes (T : Tx K mg) : DefOk P w K mg base 2 "_law_passes" 4 F__law_passes := by
  have G__law_frac : DefOk P w K mg base 1 "_law_frac" 2 F__law_frac := (ok__law_frac T).mono (by decide)
  have G__law_choices : DefOk P w K mg base 1 "_law_choices" 2 F__law_choices := (ok__law_choices T).mono (by decide)
  obtain ⟨fd, FD⟩ := T.c.def_ 24 (d := d__law_passes) rfl
  refine ⟨⟨_, fd, ["bottles", "bad", "tasted", "let"], ok_def (ws := ws__law_passes) FD sc__law_passes (fun cdv A outer s H E hr =>
  (dss_cons (ds_setLcF (i := 4) rfl sc__law_passes.nd rfl rfl (sw_true rfl rfl rfl (by decide +kernel)) (own := [("found", 5)]) (us := [5]) (di_rng1 (by rfl) (T_range T) (da_cons (de_add (de_min2 rfl (T_min T) (da_cons (de_var 3) (da_cons (de_var 2) da_nil))) de_int) da_nil)) (blkOk_by (by rfl)) (by decide) (fun _ _ _ _ _ => (dg_name (i := 5) sc__law_passes.nd)) (fun _ _ _ _ _ => dts_nil) (fun _ _ _ _ _ => (de_mul (de_call (G__law_choices) hr (da_cons (de_var 1) (da_cons (de_var 5) da_nil))) (de_call (G__law_choices) hr (da_cons (de_sub (de_var 0) (de_var 1)) (da_cons (de_sub (de_var 2) (de_var 5)) da_nil))))))
  (dss_one (ds_ret (de_call (G__law_frac) hr (da_cons (de_sum rfl (T_sum T) (da_cons (de_var 4) da_nil)) (da_cons (de_call (G__law_choices) hr (da_cons (de_var 0) (da_cons (de_var 2) da_nil))) da_nil))))))) rd__law_passes, FD.bindsN fun _ _ _ _ _ _ us hl => match us, hl with | [_, _, _, _], _ => rfl, T.glo "_law_passes" (T.c.fact 24 (f := .glo "_law_passes") rfl), FD.kp⟩⟩
theorem ok__law_guessed (T : Tx K mg) : DefOk P w K mg base 2 "_law_guessed" 2 F__law_guessed := by
  have G__law_frac : DefOk P w K mg base 1 "_law_frac" 2 F__law_frac := (ok__law_frac T).mono (by decide)
  have G__law_choices : DefOk P w K mg base 1 "_law_choices" 2 F__law_choices := (ok__law_choices T).mono (by decide)
  obtain ⟨fd, FD⟩ := T.c.def_ 25 (d := d__law_guessed) rfl
  refine ⟨⟨_, fd, ["tasters", "right"], ok_def (ws := ws__law_guessed) FD sc__law_guessed (fun cdv A outer s H E hr =>
  (dss_cons (ds_asg (de_tup (da_cons de_int (da_cons de_int da_nil))) (dg_tup (n := 2) rfl (dgs_cons (dg_name (i := 4) sc__law_guessed.nd) (dgs_cons (dg_name (i := 5) sc__law_guessed.nd) dgs_nil))))
  (dss_cons (ds_for PassesOwn.never rfl (di_rng1 (by rfl) (T_range T) (da_cons (de_var 0) da_nil)) (dg_name (i := 2) sc__law_guessed.nd) (dss_one (ds_set (i := 5) sc__law_guessed.nd (de_mul de_int (de_var 5)))))
  (dss_cons (ds_for PassesOwn.never rfl (di_rng2 (by rfl) (T_range T) (da_cons (de_var 1) (da_cons (de_add (de_var 0) de_int) da_nil))) (dg_name (i := 3) sc__law_guessed.nd) (dss_cons (ds_set (i := 6) sc__law_guessed.nd de_int)
  (dss_cons (ds_for PassesOwn.never rfl (di_rng1 (by rfl) (T_range T) (da_cons (de_sub (de_var 0) (de_var 3)) da_nil)) (dg_name (i := 2) sc__law_guessed.nd) (dss_one (ds_set (i := 6) sc__law_guessed.nd (de_mul de_int (de_var 6)))))
  (dss_one (ds_set (i := 4) sc__law_guessed.nd (de_add (de_var 4) (de_mul (de_call (G__law_choices) hr (da_cons (de_var 0) (da_cons (de_var 3) da_nil))) (de_var 6))))))))
  (dss_one (ds_ret (de_call (G__law_frac) hr (da_cons (de_var 4) (da_cons (de_var 5) da_nil))))))))) rd__law_guessed, FD.bindsN fun _ _ _ _ _ _ us hl => match us, hl with | [_, _], _ => rfl, T.glo "_law_guessed" (T.c.fact 25 (f := .glo "_law_guessed") rfl), FD.kp⟩⟩
theorem ok__law_plan_drawn (T : Tx K mg) : DefOk P w K mg base 2 "_law_plan_drawn" 2 F__law_plan_drawn := by
  have G__law_take : DefOk P w K mg base 1 "_law_take" 2 F__law_take := (ok__law_take T).mono (by decide)
  obtain ⟨fd, FD⟩ := T.c.def_ 26 (d := d__law_plan_drawn) rfl
  refine ⟨⟨_, fd, ["pot", "bottles"], ok_def (ws := ws__law_plan_drawn) FD sc__law_plan_drawn (fun cdv A outer s H E hr =>
  (dss_cons (ds_set (i := 2) sc__law_plan_drawn.nd (de_toInt (T_int T) (da_cons (de_call (G__law_take) hr (da_own 0 (da_cons (de_add (de_min2 rfl (T_min T) (da_cons (de_var 1) (da_cons de_int da_nil))) de_int) da_nil))) da_nil)))
  (dss_cons (ds_set (i := 3) sc__law_plan_drawn.nd (de_toInt (T_int T) (da_cons (de_call (G__law_take) hr (da_own 0 (da_cons (de_add (de_min2 rfl (T_min T) (da_cons (de_sub (de_var 1) (de_var 2)) (da_cons de_int da_nil))) de_int) da_nil))) da_nil)))
  (dss_cons (ds_set (i := 4) sc__law_plan_drawn.nd (de_toInt (T_int T) (da_cons (de_call (G__law_take) hr (da_own 0 (da_cons de_int da_nil))) da_nil)))
  (dss_cons (ds_set (i := 5) sc__law_plan_drawn.nd (de_add (de_add (de_var 4) de_int) (de_toInt (T_int T) (da_cons (de_call (G__law_take) hr (da_own 0 (da_cons de_int da_nil))) da_nil))))
  (dss_one (ds_ret (de_tup (da_cons (de_var 2) (da_cons (de_var 4) (da_cons (de_var 5) (da_cons (de_var 3) (da_cons (de_add (de_sub (de_var 5) de_int) (de_toInt (T_int T) (da_cons (de_call (G__law_take) hr (da_own 0 (da_cons de_int da_nil))) da_nil))) da_nil))))))))))))) rd__law_plan_drawn, FD.bindsN fun _ _ _ _ _ _ us hl => match us, hl with | [_, _], _ => rfl, T.glo "_law_plan_drawn" (T.c.fact 26 (f := .glo "_law_plan_drawn") rfl), FD.kp⟩⟩
theorem ok_look_at_sample (T : Tx K mg) : DefOk P w K mg base 3 "look_at_sample" 3 F_look_at_sample := by
  have G_look_at_lot : DefOk P w K mg base 2 "look_at_lot" 2 F_look_at_lot := (ok_look_at_lot T).mono (by decide)
  have G_is_int : DefOk P w K mg base 2 "is_int" 3 F_is_int := (ok_is_int T).mono (by decide)
  obtain ⟨fd, FD⟩ := T.c.def_ 27 (d := d_look_at_sample) rfl
  refine ⟨⟨_, fd, ["bottles", "bad", "tasted"], ok_def (ws := ws_look_at_sample) FD sc_look_at_sample (fun cdv A outer s H E hr =>
  (dss_cons (ds_expr (de_call (G_look_at_lot) hr (da_cons (de_var 0) (da_cons (de_var 1) da_nil))))
  (dss_one (ds_if (dt_not (dt_val (de_call (G_is_int) hr (da_cons (de_var 2) (da_cons de_int (da_cons (de_var 0) da_nil)))))) (dss_one ds_never) dss_nil)))) rd_look_at_sample, FD.bindsN fun _ _ _ _ _ _ us hl => match us, hl with | [_, _, _], _ => rfl, T.glo "look_at_sample" (T.c.fact 27 (f := .glo "look_at_sample") rfl), FD.kp⟩⟩
theorem ok_told_chance (T : Tx K mg) : DefOk P w K mg base 3 "told_chance" 4 F_told_chance := by
  have G_lowest : DefOk P w K mg base 2 "lowest" 2 F_lowest := (ok_lowest T).mono (by decide)
  have G_chosen : DefOk P w K mg base 2 "chosen" 2 F_chosen := (ok_chosen T).mono (by decide)
  obtain ⟨fd, FD⟩ := T.c.def_ 28 (d := d_told_chance) rfl
  refine ⟨⟨_, fd, ["bottles", "bad", "tasted", "found"], ok_def (ws := ws_told_chance) FD sc_told_chance (fun cdv A outer s H E hr =>
  (dss_one (ds_ret (de_call (G_lowest) hr (da_cons (de_mul (de_call (G_chosen) hr (da_cons (de_var 1) (da_cons (de_var 3) da_nil))) (de_call (G_chosen) hr (da_cons (de_sub (de_var 0) (de_var 1)) (da_cons (de_sub (de_var 2) (de_var 3)) da_nil)))) (da_cons (de_call (G_chosen) hr (da_cons (de_var 0) (da_cons (de_var 2) da_nil))) da_nil)))))) rd_told_chance, FD.bindsN fun _ _ _ _ _ _ us hl => match us, hl with | [_, _, _, _], _ => rfl, T.glo "told_chance" (T.c.fact 28 (f := .glo "told_chance") rfl), FD.kp⟩⟩
theorem ok_told_at_most (T : Tx K mg) : DefOk P w K mg base 3 "told_at_most" 4 F_told_at_most := by
  have G_lowest : DefOk P w K mg base 2 "lowest" 2 F_lowest := (ok_lowest T).mono (by decide)
  have G_chosen : DefOk P w K mg base 2 "chosen" 2 F_chosen := (ok_chosen T).mono (by decide)
  obtain ⟨fd, FD⟩ := T.c.def_ 29 (d := d_told_at_most) rfl
  refine ⟨⟨_, fd, ["bottles", "bad", "tasted", "let"], ok_def (ws := ws_told_at_most) FD sc_told_at_most (fun cdv A outer s H E hr =>
  (dss_cons (ds_set (i := 4) sc_told_at_most.nd (de_sum rfl (T_sum T) (da_cons (de_new (dn_lc rfl sc_told_at_most.nd (own := [("found", 5)]) (us := [5]) (di_rng1 (by rfl) (T_range T) (da_cons (de_add (de_min2 rfl (T_min T) (da_cons (de_var 3) (da_cons (de_var 2) da_nil))) de_int) da_nil)) (blkOk_by (by rfl)) (by decide) (fun _ _ _ _ _ => (dg_name (i := 5) sc_told_at_most.nd)) (fun _ _ _ _ _ => dts_nil) (fun _ _ _ _ _ => (de_mul (de_call (G_chosen) hr (da_cons (de_var 1) (da_cons (de_var 5) da_nil))) (de_call (G_chosen) hr (da_cons (de_sub (de_var 0) (de_var 1)) (da_cons (de_sub (de_var 2) (de_var 5)) da_nil))))))) da_nil)))
  (dss_one (ds_ret (de_call (G_lowest) hr (da_cons (de_var 4) (da_cons (de_call (G_chosen) hr (da_cons (de_var 0) (da_cons (de_var 2) da_nil))) da_nil))))))) rd_told_at_most, FD.bindsN fun _ _ _ _ _ _ us hl => match us, hl with | [_, _, _, _], _ => rfl, T.glo "told_at_most" (T.c.fact 29 (f := .glo "told_at_most") rfl), FD.kp⟩⟩
theorem ok_surely_found (T : Tx K mg) : DefOk P w K mg base 3 "surely_found" 2 F_surely_found := by
  have G_look_at_lot : DefOk P w K mg base 2 "look_at_lot" 2 F_look_at_lot := (ok_look_at_lot T).mono (by decide)
  obtain ⟨fd, FD⟩ := T.c.def_ 30 (d := d_surely_found) rfl
  refine ⟨⟨_, fd, ["bottles", "bad"], ok_def (ws := ws_surely_found) FD sc_surely_found (fun cdv A outer s H E hr =>
  (dss_cons (ds_expr (de_call (G_look_at_lot) hr (da_cons (de_var 0) (da_cons (de_var 1) da_nil))))
  (dss_one (ds_ret (de_if (dt_gt (de_var 1) de_int) (de_add (de_sub (de_var 0) (de_var 1)) de_int) de_non))))) rd_surely_found, FD.bindsN fun _ _ _ _ _ _ us hl => match us, hl with | [_, _], _ => rfl, T.glo "surely_found" (T.c.fact 30 (f := .glo "surely_found") rfl), FD.kp⟩⟩
theorem ok_chance_by_guessing (T : Tx K mg) : DefOk P w K mg base 3 "chance_by_guessing" 2 F_chance_by_guessing := by
  have G_lowest : DefOk P w K mg base 2 "lowest" 2 F_lowest := (ok_lowest T).mono (by decide)
  have G_told_rest : DefOk P w K mg base 2 "told_rest" 2 F_told_rest := (ok_told_rest T).mono (by decide)
  have G_told_whole : DefOk P w K mg base 2 "told_whole" 1 F_told_whole := (ok_told_whole T).mono (by decide)
  have G_is_int : DefOk P w K mg base 2 "is_int" 3 F_is_int := (ok_is_int T).mono (by decide)
  obtain ⟨fd, FD⟩ := T.c.def_ 31 (d := d_chance_by_guessing) rfl
  refine ⟨⟨_, fd, ["tasters", "right"], ok_def (ws := ws_chance_by_guessing) FD sc_chance_by_guessing (fun cdv A outer s H E hr =>
  (dss_cons (ds_for PassesOwn.never rfl (di_seq (de_tup (da_cons (de_var 0) (da_cons (de_var 1) da_nil)))) (dg_name (i := 2) sc_chance_by_guessing.nd) (dss_one (ds_if (dt_not (dt_val (de_call (G_is_int) hr (da_cons (de_var 2) (da_cons de_int (da_cons (de_div (de_gint (by rfl) (T_MOST_BOTTLES T)) de_int) da_nil)))))) (dss_one ds_never) dss_nil)))
  (dss_one (ds_ret (de_call (G_lowest) hr (da_cons (de_call (G_told_rest) hr (da_cons (de_var 0) (da_cons (de_var 1) da_nil))) (da_cons (de_call (G_told_whole) hr (da_cons (de_var 0) da_nil)) da_nil))))))) rd_chance_by_guessing, FD.bindsN fun _ _ _ _ _ _ us hl => match us, hl with | [_, _], _ => rfl, T.glo "chance_by_guessing" (T.c.fact 31 (f := .glo "chance_by_guessing") rfl), FD.kp⟩⟩
theorem ok_fewest_right (T : Tx K mg) : DefOk P w K mg base 3 "fewest_right" 2 F_fewest_right := by
  have G_is_int : DefOk P w K mg base 2 "is_int" 3 F_is_int := (ok_is_int T).mono (by decide)
  have G_is_fraction : DefOk P w K mg base 2 "is_fraction" 1 F_is_fraction := (ok_is_fraction T).mono (by decide)
  have G_is_no_more : DefOk P w K mg base 2 "is_no_more" 2 F_is_no_more := (ok_is_no_more T).mono (by decide)
  have G_told_rest : DefOk P w K mg base 2 "told_rest" 2 F_told_rest := (ok_told_rest T).mono (by decide)
  have G_told_whole : DefOk P w K mg base 2 "told_whole" 1 F_told_whole := (ok_told_whole T).mono (by decide)
  obtain ⟨fd, FD⟩ := T.c.def_ 32 (d := d_fewest_right) rfl
  refine ⟨⟨_, fd, ["tasters", "bound"], ok_def (ws := ws_fewest_right) FD sc_fewest_right (fun cdv A outer s H E hr =>
  (dss_cons (ds_if (dt_not (dt_val (de_call (G_is_int) hr (da_cons (de_var 0) (da_cons de_int (da_cons (de_div (de_gint (by rfl) (T_MOST_BOTTLES T)) de_int) da_nil)))))) (dss_one ds_never) dss_nil)
  (dss_cons (ds_if (dt_not (dt_val (de_call (G_is_fraction) hr (da_cons (de_var 1) da_nil)))) (dss_one ds_never) dss_nil)
  (dss_cons (ds_for PassesOwn.never rfl (di_rng1 (by rfl) (T_range T) (da_cons (de_add (de_var 0) de_int) da_nil)) (dg_name (i := 2) sc_fewest_right.nd) (dss_one (ds_if (dt_val (de_call (G_is_no_more) hr (da_cons (de_tup (da_cons (de_call (G_told_rest) hr (da_cons (de_var 0) (da_cons (de_var 2) da_nil))) (da_cons (de_call (G_told_whole) hr (da_cons (de_var 0) da_nil)) da_nil))) (da_cons (de_var 1) da_nil)))) (dss_one (ds_ret (de_var 2))) dss_nil)))
  (dss_one (ds_ret de_non)))))) rd_fewest_right, FD.bindsN fun _ _ _ _ _ _ us hl => match us, hl with | [_, _], _ => rfl, T.glo "fewest_right" (T.c.fact 32 (f := .glo "fewest_right") rfl), FD.kp⟩⟩
theorem ok_is_plan (T : Tx K mg) : DefOk P w K mg base 3 "is_plan" 2 F_is_plan := by
  have G_are_ints : DefOk P w K mg base 2 "are_ints" 3 F_are_ints := (ok_are_ints T).mono (by decide)
  obtain ⟨fd, FD⟩ := T.c.def_ 33 (d := d_is_plan) rfl
  refine ⟨⟨_, fd, ["bottles", "value"], ok_def (ws := ws_is_plan) FD sc_is_plan (fun cdv A outer s H E hr =>
  (dss_cons (ds_if (dt_w (dw_or (dt_not (dt_val (de_call (G_are_ints) hr (da_cons (de_var 1) (da_cons de_int (da_cons (de_gint (by rfl) (T_MOST_TASTED T)) da_nil)))))) (dw_or1 (dt_ne hr (de_len (T_len T) (da_cons (de_var 1) da_nil)) (de_gint (by rfl) (T_FIVE T)))))) (dss_one (ds_ret de_bl)) dss_nil)
  (dss_cons (ds_asg (de_var 1) (dg_tup (n := 5) rfl (dgs_cons (dg_name (i := 2) sc_is_plan.nd) (dgs_cons (dg_name (i := 3) sc_is_plan.nd) (dgs_cons (dg_name (i := 4) sc_is_plan.nd) (dgs_cons (dg_name (i := 5) sc_is_plan.nd) (dgs_cons (dg_name (i := 6) sc_is_plan.nd) dgs_nil)))))))
  (dss_one (ds_ret (de_and (de_le (de_add (de_var 2) (de_var 5)) (de_var 0)) (de_one (de_ch ci_lt ci_le (de_var 3) (de_var 4) (de_add (de_var 6) de_int))))))))) rd_is_plan, FD.bindsN fun _ _ _ _ _ _ us hl => match us, hl with | [_, _], _ => rfl, T.glo "is_plan" (T.c.fact 33 (f := .glo "is_plan") rfl), FD.kp⟩⟩
theorem ok_told_ways (T : Tx K mg) : DefOk P w K mg base 3 "told_ways" 3 F_told_ways := by
  have G_chosen : DefOk P w K mg base 2 "chosen" 2 F_chosen := (ok_chosen T).mono (by decide)
  have G_told_second : DefOk P w K mg base 2 "told_second" 4 F_told_second := (ok_told_second T).mono (by decide)
  obtain ⟨fd, FD⟩ := T.c.def_ 34 (d := d_told_ways) rfl
  refine ⟨⟨_, fd, ["bottles", "bad", "plan"], ok_def (ws := ws_told_ways) FD sc_told_ways (fun cdv A outer s H E hr =>
  (dss_cons (ds_asg (de_var 2) (dg_tup (n := 5) rfl (dgs_cons (dg_name (i := 5) sc_told_ways.nd) (dgs_cons (dg_name (i := 6) sc_told_ways.nd) (dgs_cons (dg_name (i := 7) sc_told_ways.nd) (dgs_cons (dg_name (i := 8) sc_told_ways.nd) (dgs_cons (dg_name (i := 9) sc_told_ways.nd) dgs_nil)))))))
  (dss_cons (ds_asg (de_tup (da_cons de_int (da_cons de_int (da_cons de_int da_nil)))) (dg_tup (n := 3) rfl (dgs_cons (dg_name (i := 10) sc_told_ways.nd) (dgs_cons (dg_name (i := 11) sc_told_ways.nd) (dgs_cons (dg_name (i := 12) sc_told_ways.nd) dgs_nil)))))
  (dss_cons (ds_set (i := 3) sc_told_ways.nd (de_call (G_chosen) hr (da_cons (de_sub (de_var 0) (de_var 5)) (da_cons (de_var 8) da_nil))))
  (dss_cons (ds_for PassesOwn.never rfl (di_rng1 (by rfl) (T_range T) (da_cons (de_add (de_var 5) de_int) da_nil)) (dg_name (i := 4) sc_told_ways.nd) (dss_cons (ds_set (i := 13) sc_told_ways.nd (de_mul (de_call (G_chosen) hr (da_cons (de_var 1) (da_cons (de_var 4) da_nil))) (de_call (G_chosen) hr (da_cons (de_sub (de_var 0) (de_var 1)) (da_cons (de_sub (de_var 5) (de_var 4)) da_nil)))))
  (dss_one (ds_if (dt_le (de_var 4) (de_var 6)) (dss_one (ds_augAdd (i := 10) sc_told_ways.nd (de_mul (de_var 13) (de_var 3)))) (dss_one (ds_if (dt_ge (de_var 4) (de_var 7)) (dss_one (ds_augAdd (i := 11) sc_told_ways.nd (de_mul (de_var 13) (de_var 3)))) (dss_one (ds_augAdd (i := 12) sc_told_ways.nd (de_mul (de_var 13) (de_call (G_told_second) hr (da_cons (de_sub (de_var 0) (de_var 5)) (da_cons (de_sub (de_var 1) (de_var 4)) (da_cons (de_var 8) (da_cons (de_sub (de_var 9) (de_var 4)) da_nil))))))))))))))
  (dss_one (ds_ret (de_tup (da_cons (de_var 10) (da_cons (de_var 11) (da_cons (de_var 12) (da_cons (de_mul (de_call (G_chosen) hr (da_cons (de_var 0) (da_cons (de_var 5) da_nil))) (de_var 3)) da_nil)))))))))))) rd_told_ways, FD.bindsN fun _ _ _ _ _ _ us hl => match us, hl with | [_, _, _], _ => rfl, T.glo "told_ways" (T.c.fact 34 (f := .glo "told_ways") rfl), FD.kp⟩⟩
theorem ok__law_passes_rest (T : Tx K mg) : DefOk P w K mg base 3 "_law_passes_rest" 4 F__law_passes_rest := by
  have G__law_passes : DefOk P w K mg base 2 "_law_passes" 4 F__law_passes := (ok__law_passes T).mono (by decide)
  obtain ⟨fd, FD⟩ := T.c.def_ 35 (d := d__law_passes_rest) rfl
  refine ⟨⟨_, fd, ["bottles", "bad", "tasted", "let"], ok_def (ws := ws__law_passes_rest) FD sc__law_passes_rest (fun cdv A outer s H E hr =>
  (dss_one (ds_ret (de_if (dt_ge (de_var 3) de_int) (de_call (G__law_passes) hr (da_cons (de_var 0) (da_cons (de_var 1) (da_cons (de_var 2) (da_cons (de_var 3) da_nil))))) (de_tup (da_cons de_int (da_cons de_int da_nil))))))) rd__law_passes_rest, FD.bindsN fun _ _ _ _ _ _ us hl => match us, hl with | [_, _, _, _], _ => rfl, T.glo "_law_passes_rest" (T.c.fact 35 (f := .glo "_law_passes_rest") rfl), FD.kp⟩⟩
theorem ok_chance_of (T : Tx K mg) : DefOk P w K mg base 4 "chance_of" 4 F_chance_of := by
  have G_look_at_sample : DefOk P w K mg base 3 "look_at_sample" 3 F_look_at_sample := (ok_look_at_sample T).mono (by decide)
  have G_told_chance : DefOk P w K mg base 3 "told_chance" 4 F_told_chance := (ok_told_chance T).mono (by decide)
  have G_is_int : DefOk P w K mg base 3 "is_int" 3 F_is_int := (ok_is_int T).mono (by decide)
  obtain ⟨fd, FD⟩ := T.c.def_ 36 (d := d_chance_of) rfl
  refine ⟨⟨_, fd, ["bottles", "bad", "tasted", "found"], ok_def (ws := ws_chance_of) FD sc_chance_of (fun cdv A outer s H E hr =>
  (dss_cons (ds_expr (de_call (G_look_at_sample) hr (da_cons (de_var 0) (da_cons (de_var 1) (da_cons (de_var 2) da_nil)))))
  (dss_cons (ds_if (dt_not (dt_val (de_call (G_is_int) hr (da_cons (de_var 3) (da_cons de_int (da_cons (de_var 2) da_nil)))))) (dss_one ds_never) dss_nil)
  (dss_one (ds_ret (de_call (G_told_chance) hr (da_cons (de_var 0) (da_cons (de_var 1) (da_cons (de_var 2) (da_cons (de_var 3) da_nil)))))))))) rd_chance_of, FD.bindsN fun _ _ _ _ _ _ us hl => match us, hl with | [_, _, _, _], _ => rfl, T.glo "chance_of" (T.c.fact 36 (f := .glo "chance_of") rfl), FD.kp⟩⟩
theorem ok_chance_to_pass (T : Tx K mg) : DefOk P w K mg base 4 "chance_to_pass" 4 F_chance_to_pass := by
  have G_look_at_sample : DefOk P w K mg base 3 "look_at_sample" 3 F_look_at_sample := (ok_look_at_sample T).mono (by decide)
  have G_told_at_most : DefOk P w K mg base 3 "told_at_most" 4 F_told_at_most := (ok_told_at_most T).mono (by decide)
  have G_is_int : DefOk P w K mg base 3 "is_int" 3 F_is_int := (ok_is_int T).mono (by decide)
  obtain ⟨fd, FD⟩ := T.c.def_ 37 (d := d_chance_to_pass) rfl
  refine ⟨⟨_, fd, ["bottles", "bad", "tasted", "let"], ok_def (ws := ws_chance_to_pass) FD sc_chance_to_pass (fun cdv A outer s H E hr =>
  (dss_cons (ds_expr (de_call (G_look_at_sample) hr (da_cons (de_var 0) (da_cons (de_var 1) (da_cons (de_var 2) da_nil)))))
  (dss_cons (ds_if (dt_not (dt_val (de_call (G_is_int) hr (da_cons (de_var 3) (da_cons de_int (da_cons (de_gint (by rfl) (T_MOST_BOTTLES T)) da_nil)))))) (dss_one ds_never) dss_nil)
  (dss_one (ds_ret (de_call (G_told_at_most) hr (da_cons (de_var 0) (da_cons (de_var 1) (da_cons (de_var 2) (da_cons (de_var 3) da_nil)))))))))) rd_chance_to_pass, FD.bindsN fun _ _ _ _ _ _ us hl => match us, hl with | [_, _, _, _], _ => rfl, T.glo "chance_to_pass" (T.c.fact 37 (f := .glo "chance_to_pass") rfl), FD.kp⟩⟩
theorem ok_fewest_tasted (T : Tx K mg) : DefOk P w K mg base 4 "fewest_tasted" 4 F_fewest_tasted := by
  have G_look_at_lot : DefOk P w K mg base 3 "look_at_lot" 2 F_look_at_lot := (ok_look_at_lot T).mono (by decide)
  have G_is_int : DefOk P w K mg base 3 "is_int" 3 F_is_int := (ok_is_int T).mono (by decide)
  have G_is_fraction : DefOk P w K mg base 3 "is_fraction" 1 F_is_fraction := (ok_is_fraction T).mono (by decide)
  have G_is_no_more : DefOk P w K mg base 3 "is_no_more" 2 F_is_no_more := (ok_is_no_more T).mono (by decide)
  have G_told_at_most : DefOk P w K mg base 3 "told_at_most" 4 F_told_at_most := (ok_told_at_most T).mono (by decide)
  obtain ⟨fd, FD⟩ := T.c.def_ 38 (d := d_fewest_tasted) rfl
  refine ⟨⟨_, fd, ["bottles", "bad", "let", "bound"], ok_def (ws := ws_fewest_tasted) FD sc_fewest_tasted (fun cdv A outer s H E hr =>
  (dss_cons (ds_expr (de_call (G_look_at_lot) hr (da_cons (de_var 0) (da_cons (de_var 1) da_nil))))
  (dss_cons (ds_if (dt_not (dt_val (de_call (G_is_int) hr (da_cons (de_var 2) (da_cons de_int (da_cons (de_gint (by rfl) (T_MOST_BOTTLES T)) da_nil)))))) (dss_one ds_never) dss_nil)
  (dss_cons (ds_if (dt_not (dt_val (de_call (G_is_fraction) hr (da_cons (de_var 3) da_nil)))) (dss_one ds_never) dss_nil)
  (dss_cons (ds_for PassesOwn.never rfl (di_rng1 (by rfl) (T_range T) (da_cons (de_add (de_var 0) de_int) da_nil)) (dg_name (i := 4) sc_fewest_tasted.nd) (dss_one (ds_if (dt_val (de_call (G_is_no_more) hr (da_cons (de_call (G_told_at_most) hr (da_cons (de_var 0) (da_cons (de_var 1) (da_cons (de_var 4) (da_cons (de_var 2) da_nil))))) (da_cons (de_var 3) da_nil)))) (dss_one (ds_ret (de_var 4))) dss_nil)))
  (dss_one (ds_ret de_non))))))) rd_fewest_tasted, FD.bindsN fun _ _ _ _ _ _ us hl => match us, hl with | [_, _, _, _], _ => rfl, T.glo "fewest_tasted" (T.c.fact 38 (f := .glo "fewest_tasted") rfl), FD.kp⟩⟩
theorem ok_least_bad (T : Tx K mg) : DefOk P w K mg base 4 "least_bad" 4 F_least_bad := by
  have G_look_at_sample : DefOk P w K mg base 3 "look_at_sample" 3 F_look_at_sample := (ok_look_at_sample T).mono (by decide)
  have G_is_int : DefOk P w K mg base 3 "is_int" 3 F_is_int := (ok_is_int T).mono (by decide)
  have G_is_fraction : DefOk P w K mg base 3 "is_fraction" 1 F_is_fraction := (ok_is_fraction T).mono (by decide)
  have G_is_no_more : DefOk P w K mg base 3 "is_no_more" 2 F_is_no_more := (ok_is_no_more T).mono (by decide)
  have G_told_at_most : DefOk P w K mg base 3 "told_at_most" 4 F_told_at_most := (ok_told_at_most T).mono (by decide)
  obtain ⟨fd, FD⟩ := T.c.def_ 39 (d := d_least_bad) rfl
  refine ⟨⟨_, fd, ["bottles", "tasted", "let", "bound"], ok_def (ws := ws_least_bad) FD sc_least_bad (fun cdv A outer s H E hr =>
  (dss_cons (ds_expr (de_call (G_look_at_sample) hr (da_cons (de_var 0) (da_cons de_int (da_cons (de_var 1) da_nil)))))
  (dss_cons (ds_if (dt_not (dt_val (de_call (G_is_int) hr (da_cons (de_var 2) (da_cons de_int (da_cons (de_gint (by rfl) (T_MOST_BOTTLES T)) da_nil)))))) (dss_one ds_never) dss_nil)
  (dss_cons (ds_if (dt_not (dt_val (de_call (G_is_fraction) hr (da_cons (de_var 3) da_nil)))) (dss_one ds_never) dss_nil)
  (dss_cons (ds_for PassesOwn.never rfl (di_rng1 (by rfl) (T_range T) (da_cons (de_add (de_var 0) de_int) da_nil)) (dg_name (i := 4) sc_least_bad.nd) (dss_one (ds_if (dt_val (de_call (G_is_no_more) hr (da_cons (de_call (G_told_at_most) hr (da_cons (de_var 0) (da_cons (de_var 4) (da_cons (de_var 1) (da_cons (de_var 2) da_nil))))) (da_cons (de_var 3) da_nil)))) (dss_one (ds_ret (de_var 4))) dss_nil)))
  (dss_one (ds_ret de_non))))))) rd_least_bad, FD.bindsN fun _ _ _ _ _ _ us hl => match us, hl with | [_, _, _, _], _ => rfl, T.glo "least_bad" (T.c.fact 39 (f := .glo "least_bad") rfl), FD.kp⟩⟩
theorem ok_look_at_plan (T : Tx K mg) : DefOk P w K mg base 4 "look_at_plan" 3 F_look_at_plan := by
  have G_look_at_lot : DefOk P w K mg base 3 "look_at_lot" 2 F_look_at_lot := (ok_look_at_lot T).mono (by decide)
  have G_is_plan : DefOk P w K mg base 3 "is_plan" 2 F_is_plan := (ok_is_plan T).mono (by decide)
  obtain ⟨fd, FD⟩ := T.c.def_ 40 (d := d_look_at_plan) rfl
  refine ⟨⟨_, fd, ["bottles", "bad", "plan"], ok_def (ws := ws_look_at_plan) FD sc_look_at_plan (fun cdv A outer s H E hr =>
  (dss_cons (ds_expr (de_call (G_look_at_lot) hr (da_cons (de_var 0) (da_cons (de_var 1) da_nil))))
  (dss_one (ds_if (dt_not (dt_val (de_call (G_is_plan) hr (da_cons (de_var 0) (da_cons (de_var 2) da_nil))))) (dss_one ds_never) dss_nil)))) rd_look_at_plan, FD.bindsN fun _ _ _ _ _ _ us hl => match us, hl with | [_, _, _], _ => rfl, T.glo "look_at_plan" (T.c.fact 40 (f := .glo "look_at_plan") rfl), FD.kp⟩⟩
theorem ok__law_by_plan (T : Tx K mg) : DefOk P w K mg base 4 "_law_by_plan" 3 F__law_by_plan := by
  have G__law_choices : DefOk P w K mg base 3 "_law_choices" 2 F__law_choices := (ok__law_choices T).mono (by decide)
  have G__law_frac : DefOk P w K mg base 3 "_law_frac" 2 F__law_frac := (ok__law_frac T).mono (by decide)
  have G__law_plus : DefOk P w K mg base 3 "_law_plus" 2 F__law_plus := (ok__law_plus T).mono (by decide)
  have G__law_times : DefOk P w K mg base 3 "_law_times" 2 F__law_times := (ok__law_times T).mono (by decide)
  have G__law_passes_rest : DefOk P w K mg base 3 "_law_passes_rest" 4 F__law_passes_rest := (ok__law_passes_rest T).mono (by decide)
  obtain ⟨fd, FD⟩ := T.c.def_ 41 (d := d__law_by_plan) rfl
  refine ⟨⟨_, fd, ["bottles", "bad", "plan"], ok_def (ws := ws__law_by_plan) FD sc__law_by_plan (fun cdv A outer s H E hr =>
  (dss_cons (ds_asg (de_var 2) (dg_tup (n := 5) rfl (dgs_cons (dg_name (i := 4) sc__law_by_plan.nd) (dgs_cons (dg_name (i := 5) sc__law_by_plan.nd) (dgs_cons (dg_name (i := 6) sc__law_by_plan.nd) (dgs_cons (dg_name (i := 7) sc__law_by_plan.nd) (dgs_cons (dg_name (i := 8) sc__law_by_plan.nd) dgs_nil)))))))
  (dss_cons (ds_par3 (i := 9) (j := 10) (l := 11) rfl sc__law_by_plan.nd (dm_cons (de_call (G__law_choices) hr (da_cons (de_var 0) (da_cons (de_var 4) da_nil))) (dm_cons (de_tup (da_cons de_int (da_cons de_int da_nil))) (dm_cons (de_tup (da_cons de_int (da_cons de_int da_nil))) dm_nil))))
  (dss_cons (ds_for PassesOwn.never rfl (di_rng1 (by rfl) (T_range T) (da_cons (de_add (de_min2 rfl (T_min T) (da_cons (de_var 4) (da_cons (de_var 1) da_nil))) de_int) da_nil)) (dg_name (i := 3) sc__law_by_plan.nd) (dss_cons (ds_set (i := 12) sc__law_by_plan.nd (de_call (G__law_frac) hr (da_cons (de_mul (de_call (G__law_choices) hr (da_cons (de_var 1) (da_cons (de_var 3) da_nil))) (de_call (G__law_choices) hr (da_cons (de_sub (de_var 0) (de_var 1)) (da_cons (de_sub (de_var 4) (de_var 3)) da_nil)))) (da_cons (de_var 9) da_nil))))
  (dss_one (ds_if (dt_le (de_var 3) (de_var 5)) (dss_one (ds_set (i := 10) sc__law_by_plan.nd (de_call (G__law_plus) hr (da_cons (de_var 10) (da_cons (de_var 12) da_nil))))) (dss_one (ds_if (dt_lt (de_var 3) (de_var 6)) (dss_cons (ds_set (i := 11) sc__law_by_plan.nd (de_call (G__law_plus) hr (da_cons (de_var 11) (da_cons (de_var 12) da_nil))))
  (dss_one (ds_set (i := 10) sc__law_by_plan.nd (de_call (G__law_plus) hr (da_cons (de_var 10) (da_cons (de_call (G__law_times) hr (da_cons (de_var 12) (da_cons (de_call (G__law_passes_rest) hr (da_cons (de_sub (de_var 0) (de_var 4)) (da_cons (de_sub (de_var 1) (de_var 3)) (da_cons (de_var 7) (da_cons (de_sub (de_var 8) (de_var 3)) da_nil))))) da_nil))) da_nil)))))) dss_nil))))))
  (dss_one (ds_ret (de_tup (da_cons (de_var 10) (da_cons (de_var 11) (da_cons (de_call (G__law_plus) hr (da_cons (de_tup (da_cons (de_var 4) (da_cons de_int da_nil))) (da_cons (de_call (G__law_times) hr (da_cons (de_var 11) (da_cons (de_tup (da_cons (de_var 7) (da_cons de_int da_nil))) da_nil))) da_nil))) da_nil)))))))))) rd__law_by_plan, FD.bindsN fun _ _ _ _ _ _ us hl => match us, hl with | [_, _, _], _ => rfl, T.glo "_law_by_plan" (T.c.fact 41 (f := .glo "_law_by_plan") rfl), FD.kp⟩⟩
theorem ok_pass_by (T : Tx K mg) : DefOk P w K mg base 5 "pass_by" 3 F_pass_by := by
  have G_look_at_plan : DefOk P w K mg base 4 "look_at_plan" 3 F_look_at_plan := (ok_look_at_plan T).mono (by decide)
  have G_told_ways : DefOk P w K mg base 4 "told_ways" 3 F_told_ways := (ok_told_ways T).mono (by decide)
  have G_lowest : DefOk P w K mg base 4 "lowest" 2 F_lowest := (ok_lowest T).mono (by decide)
  obtain ⟨fd, FD⟩ := T.c.def_ 42 (d := d_pass_by) rfl
  refine ⟨⟨_, fd, ["bottles", "bad", "plan"], ok_def (ws := ws_pass_by) FD sc_pass_by (fun cdv A outer s H E hr =>
  (dss_cons (ds_expr (de_call (G_look_at_plan) hr (da_cons (de_var 0) (da_cons (de_var 1) (da_cons (de_var 2) da_nil)))))
  (dss_cons (ds_asg (de_call (G_told_ways) hr (da_cons (de_var 0) (da_cons (de_var 1) (da_cons (de_var 2) da_nil)))) (dg_tup (n := 4) rfl (dgs_cons (dg_name (i := 3) sc_pass_by.nd) (dgs_cons (dg_name (i := 4) sc_pass_by.nd) (dgs_cons (dg_name (i := 5) sc_pass_by.nd) (dgs_cons (dg_name (i := 6) sc_pass_by.nd) dgs_nil))))))
  (dss_one (ds_ret (de_call (G_lowest) hr (da_cons (de_add (de_var 3) (de_var 5)) (da_cons (de_var 6) da_nil)))))))) rd_pass_by, FD.bindsN fun _ _ _ _ _ _ us hl => match us, hl with | [_, _, _], _ => rfl, T.glo "pass_by" (T.c.fact 42 (f := .glo "pass_by") rfl), FD.kp⟩⟩
theorem ok_again_by (T : Tx K mg) : DefOk P w K mg base 5 "again_by" 3 F_again_by := by
  have G_look_at_plan : DefOk P w K mg base 4 "look_at_plan" 3 F_look_at_plan := (ok_look_at_plan T).mono (by decide)
  have G_told_ways : DefOk P w K mg base 4 "told_ways" 3 F_told_ways := (ok_told_ways T).mono (by decide)
  have G_lowest : DefOk P w K mg base 4 "lowest" 2 F_lowest := (ok_lowest T).mono (by decide)
  obtain ⟨fd, FD⟩ := T.c.def_ 43 (d := d_again_by) rfl
  refine ⟨⟨_, fd, ["bottles", "bad", "plan"], ok_def (ws := ws_again_by) FD sc_again_by (fun cdv A outer s H E hr =>
  (dss_cons (ds_expr (de_call (G_look_at_plan) hr (da_cons (de_var 0) (da_cons (de_var 1) (da_cons (de_var 2) da_nil)))))
  (dss_cons (ds_asg (de_call (G_told_ways) hr (da_cons (de_var 0) (da_cons (de_var 1) (da_cons (de_var 2) da_nil)))) (dg_tup (n := 4) rfl (dgs_cons (dg_name (i := 3) sc_again_by.nd) (dgs_cons (dg_name (i := 4) sc_again_by.nd) (dgs_cons (dg_name (i := 5) sc_again_by.nd) (dgs_cons (dg_name (i := 6) sc_again_by.nd) dgs_nil))))))
  (dss_one (ds_ret (de_call (G_lowest) hr (da_cons (de_sub (de_sub (de_var 6) (de_var 3)) (de_var 4)) (da_cons (de_var 6) da_nil)))))))) rd_again_by, FD.bindsN fun _ _ _ _ _ _ us hl => match us, hl with | [_, _, _], _ => rfl, T.glo "again_by" (T.c.fact 43 (f := .glo "again_by") rfl), FD.kp⟩⟩
theorem ok_tasted_by (T : Tx K mg) : DefOk P w K mg base 5 "tasted_by" 3 F_tasted_by := by
  have G_look_at_plan : DefOk P w K mg base 4 "look_at_plan" 3 F_look_at_plan := (ok_look_at_plan T).mono (by decide)
  have G_told_ways : DefOk P w K mg base 4 "told_ways" 3 F_told_ways := (ok_told_ways T).mono (by decide)
  have G_lowest : DefOk P w K mg base 4 "lowest" 2 F_lowest := (ok_lowest T).mono (by decide)
  obtain ⟨fd, FD⟩ := T.c.def_ 44 (d := d_tasted_by) rfl
  refine ⟨⟨_, fd, ["bottles", "bad", "plan"], ok_def (ws := ws_tasted_by) FD sc_tasted_by (fun cdv A outer s H E hr =>
  (dss_cons (ds_expr (de_call (G_look_at_plan) hr (da_cons (de_var 0) (da_cons (de_var 1) (da_cons (de_var 2) da_nil)))))
  (dss_cons (ds_asg (de_call (G_told_ways) hr (da_cons (de_var 0) (da_cons (de_var 1) (da_cons (de_var 2) da_nil)))) (dg_tup (n := 4) rfl (dgs_cons (dg_name (i := 3) sc_tasted_by.nd) (dgs_cons (dg_name (i := 4) sc_tasted_by.nd) (dgs_cons (dg_name (i := 5) sc_tasted_by.nd) (dgs_cons (dg_name (i := 6) sc_tasted_by.nd) dgs_nil))))))
  (dss_one (ds_ret (de_call (G_lowest) hr (da_cons (de_add (de_mul (de_ix (de_var 2) de_int) (de_var 6)) (de_mul (de_ix (de_var 2) (de_sub (de_gint (by rfl) (T_FIVE T)) de_int)) (de_sub (de_sub (de_var 6) (de_var 3)) (de_var 4)))) (da_cons (de_var 6) da_nil)))))))) rd_tasted_by, FD.bindsN fun _ _ _ _ _ _ us hl => match us, hl with | [_, _, _], _ => rfl, T.glo "tasted_by" (T.c.fact 44 (f := .glo "tasted_by") rfl), FD.kp⟩⟩
theorem ok_outcome_by (T : Tx K mg) : DefOk P w K mg base 5 "outcome_by" 4 F_outcome_by := by
  have G_look_at_plan : DefOk P w K mg base 4 "look_at_plan" 3 F_look_at_plan := (ok_look_at_plan T).mono (by decide)
  have G_told_outcome : DefOk P w K mg base 4 "told_outcome" 3 F_told_outcome := (ok_told_outcome T).mono (by decide)
  have G_is_int : DefOk P w K mg base 4 "is_int" 3 F_is_int := (ok_is_int T).mono (by decide)
  obtain ⟨fd, FD⟩ := T.c.def_ 45 (d := d_outcome_by) rfl
  refine ⟨⟨_, fd, ["bottles", "plan", "firsts", "seconds"], ok_def (ws := ws_outcome_by) FD sc_outcome_by (fun cdv A outer s H E hr =>
  (dss_cons (ds_expr (de_call (G_look_at_plan) hr (da_cons (de_var 0) (da_cons de_int (da_cons (de_var 1) da_nil)))))
  (dss_cons (ds_if (dt_w (dw_or (dt_not (dt_val (de_call (G_is_int) hr (da_cons (de_var 2) (da_cons de_int (da_cons (de_ix (de_var 1) de_int) da_nil)))))) (dw_or1 (dt_not (dt_val (de_call (G_is_int) hr (da_cons (de_var 3) (da_cons de_int (da_cons (de_ix (de_var 1) (de_sub (de_gint (by rfl) (T_FIVE T)) de_int)) da_nil))))))))) (dss_one ds_never) dss_nil)
  (dss_one (ds_ret (de_call (G_told_outcome) hr (da_cons (de_var 1) (da_cons (de_var 2) (da_cons (de_var 3) da_nil))))))))) rd_outcome_by, FD.bindsN fun _ _ _ _ _ _ us hl => match us, hl with | [_, _, _, _], _ => rfl, T.glo "outcome_by" (T.c.fact 45 (f := .glo "outcome_by") rfl), FD.kp⟩⟩
theorem ok_is_stricter (T : Tx K mg) : DefOk P w K mg base 5 "is_stricter" 3 F_is_stricter := by
  have G_look_at_plan : DefOk P w K mg base 4 "look_at_plan" 3 F_look_at_plan := (ok_look_at_plan T).mono (by decide)
  have G_told_ways : DefOk P w K mg base 4 "told_ways" 3 F_told_ways := (ok_told_ways T).mono (by decide)
  have G_is_no_more : DefOk P w K mg base 4 "is_no_more" 2 F_is_no_more := (ok_is_no_more T).mono (by decide)
  obtain ⟨fd, FD⟩ := T.c.def_ 46 (d := d_is_stricter) rfl
  refine ⟨⟨_, fd, ["bottles", "plan", "other"], ok_def (ws := ws_is_stricter) FD sc_is_stricter (fun cdv A outer s H E hr =>
  (dss_cons (ds_expr (de_call (G_look_at_plan) hr (da_cons (de_var 0) (da_cons de_int (da_cons (de_var 1) da_nil)))))
  (dss_cons (ds_expr (de_call (G_look_at_plan) hr (da_cons (de_var 0) (da_cons de_int (da_cons (de_var 2) da_nil)))))
  (dss_cons (ds_if (dt_gt (de_var 0) (de_gint (by rfl) (T_MOST_COMPARED T))) (dss_one ds_never) dss_nil)
  (dss_cons (ds_for PassesOwn.never rfl (di_rng1 (by rfl) (T_range T) (da_cons (de_add (de_var 0) de_int) da_nil)) (dg_name (i := 3) sc_is_stricter.nd) (dss_cons (ds_par (i := 4) (j := 5) rfl sc_is_stricter.nd (dm_cons (de_call (G_told_ways) hr (da_cons (de_var 0) (da_cons (de_var 3) (da_cons (de_var 1) da_nil)))) (dm_cons (de_call (G_told_ways) hr (da_cons (de_var 0) (da_cons (de_var 3) (da_cons (de_var 2) da_nil)))) dm_nil)))
  (dss_one (ds_if (dt_not (dt_val (de_call (G_is_no_more) hr (da_cons (de_tup (da_cons (de_add (de_ix (de_var 4) de_int) (de_ix (de_var 4) de_int)) (da_cons (de_ix (de_var 4) (de_sub (de_gint (by rfl) (T_FIVE T)) de_int)) da_nil))) (da_cons (de_tup (da_cons (de_add (de_ix (de_var 5) de_int) (de_ix (de_var 5) de_int)) (da_cons (de_ix (de_var 5) (de_sub (de_gint (by rfl) (T_FIVE T)) de_int)) da_nil))) da_nil))))) (dss_one (ds_ret de_bl)) dss_nil))))
  (dss_one (ds_ret de_bl))))))) rd_is_stricter, FD.bindsN fun _ _ _ _ _ _ us hl => match us, hl with | [_, _, _], _ => rfl, T.glo "is_stricter" (T.c.fact 46 (f := .glo "is_stricter") rfl), FD.kp⟩⟩
theorem ok__law_are_samples_right (T : Tx K mg) : DefOk P w K mg base 5 "_law_are_samples_right" 1 F__law_are_samples_right := by
  have G__law_frac : DefOk P w K mg base 4 "_law_frac" 2 F__law_frac := (ok__law_frac T).mono (by decide)
  have G_chance_of : DefOk P w K mg base 4 "chance_of" 4 F_chance_of := (ok_chance_of T).mono (by decide)
  have G__law_chance : DefOk P w K mg base 4 "_law_chance" 4 F__law_chance := (ok__law_chance T).mono (by decide)
  have G_surely_found : DefOk P w K mg base 4 "surely_found" 2 F_surely_found := (ok_surely_found T).mono (by decide)
  have G_fewest_tasted : DefOk P w K mg base 4 "fewest_tasted" 4 F_fewest_tasted := (ok_fewest_tasted T).mono (by decide)
  have G_least_bad : DefOk P w K mg base 4 "least_bad" 4 F_least_bad := (ok_least_bad T).mono (by decide)
  have G__law_take : DefOk P w K mg base 4 "_law_take" 2 F__law_take := (ok__law_take T).mono (by decide)
  have G_chance_by_guessing : DefOk P w K mg base 4 "chance_by_guessing" 2 F_chance_by_guessing := (ok_chance_by_guessing T).mono (by decide)
  have G_fewest_right : DefOk P w K mg base 4 "fewest_right" 2 F_fewest_right := (ok_fewest_right T).mono (by decide)
  have G_chance_to_pass : DefOk P w K mg base 4 "chance_to_pass" 4 F_chance_to_pass := (ok_chance_to_pass T).mono (by decide)
  have G__law_passes : DefOk P w K mg base 4 "_law_passes" 4 F__law_passes := (ok__law_passes T).mono (by decide)
  have G__law_of : DefOk P w K mg base 4 "_law_of" 2 F__law_of := (ok__law_of T).mono (by decide)
  have G__law_guessed : DefOk P w K mg base 4 "_law_guessed" 2 F__law_guessed := (ok__law_guessed T).mono (by decide)
  have G__law_is_less : DefOk P w K mg base 4 "_law_is_less" 2 F__law_is_less := (ok__law_is_less T).mono (by decide)
  obtain ⟨fd, FD⟩ := T.c.def_ 47 (d := d__law_are_samples_right) rfl
  refine ⟨⟨_, fd, ["pot"], ok_def (ws := ws__law_are_samples_right) FD sc__law_are_samples_right (fun cdv A outer s H E hr =>
  (dss_cons (ds_set (i := 1) sc__law_are_samples_right.nd (de_add de_int (de_toInt (T_int T) (da_cons (de_call (G__law_take) hr (da_own 0 (da_cons (de_call (G__law_of) hr (da_own 0 (da_cons (de_new (dn_lst (da_cons de_int (da_cons de_int (da_cons de_int da_nil))))) da_nil))) da_nil))) da_nil))))
  (dss_cons (ds_parT (is := [8, 9]) (n := 2) rfl (dm_cons (de_toInt (T_int T) (da_cons (de_call (G__law_take) hr (da_own 0 (da_cons (de_add (de_var 1) de_int) da_nil))) da_nil)) (dm_cons (de_toInt (T_int T) (da_cons (de_call (G__law_take) hr (da_own 0 (da_cons (de_add (de_var 1) de_int) da_nil))) da_nil)) dm_nil)) (pgs_names (i := 8) sc__law_are_samples_right.nd (pgs_names (i := 9) sc__law_are_samples_right.nd pgs_names_nil)))
  (dss_cons (ds_parT (is := [10, 11]) (n := 2) rfl (dm_cons (de_toInt (T_int T) (da_cons (de_call (G__law_take) hr (da_own 0 (da_cons (de_add (de_min2 rfl (T_min T) (da_cons (de_var 9) (da_cons de_int da_nil))) de_int) da_nil))) da_nil)) (dm_cons (de_toInt (T_int T) (da_cons (de_call (G__law_take) hr (da_own 0 (da_cons (de_call (G__law_of) hr (da_own 0 (da_cons (de_new (dn_lst (da_cons de_int (da_cons de_int da_nil)))) da_nil))) da_nil))) da_nil)) dm_nil)) (pgs_names (i := 10) sc__law_are_samples_right.nd (pgs_names (i := 11) sc__law_are_samples_right.nd pgs_names_nil)))
  (dss_cons (ds_if (dt_ne hr (de_call (G_chance_of) hr (da_cons (de_var 1) (da_cons (de_var 8) (da_cons (de_var 9) (da_cons (de_var 10) da_nil))))) (de_call (G__law_chance) hr (da_cons (de_var 1) (da_cons (de_var 8) (da_cons (de_var 9) (da_cons (de_var 10) da_nil)))))) (dss_one (ds_ret de_bl)) dss_nil)
  (dss_cons (ds_if (dt_w (dw_or (dt_le (de_var 1) de_int) (dw_or1 (dt_le (de_var 9) de_int)))) (dss_one (ds_if (dt_ne hr (de_call (G_chance_to_pass) hr (da_cons (de_var 1) (da_cons (de_var 8) (da_cons (de_var 9) (da_cons (de_var 11) da_nil))))) (de_call (G__law_passes) hr (da_cons (de_var 1) (da_cons (de_var 8) (da_cons (de_var 9) (da_cons (de_var 11) da_nil)))))) (dss_one (ds_ret de_bl)) dss_nil)) dss_nil)
  (dss_cons (ds_if (dt_ne hr (de_call (G_surely_found) hr (da_cons (de_var 1) (da_cons (de_var 8) da_nil))) (de_if (dt_gt (de_var 8) de_int) (de_add (de_sub (de_var 1) (de_var 8)) de_int) de_non)) (dss_one (ds_ret de_bl)) dss_nil)
  (dss_cons (ds_if (dt_gt (de_var 1) de_int) (dss_one (ds_ret de_bl)) dss_nil)
  (dss_cons (ds_set (i := 2) sc__law_are_samples_right.nd (de_call (G__law_frac) hr (da_cons (de_toInt (T_int T) (da_cons (de_call (G__law_take) hr (da_own 0 (da_cons de_int da_nil))) da_nil)) (da_cons (de_add de_int (de_toInt (T_int T) (da_cons (de_call (G__law_take) hr (da_own 0 (da_cons de_int da_nil))) da_nil))) da_nil))))
  (dss_cons (ds_setLcF (i := 3) rfl sc__law_are_samples_right.nd rfl rfl (sw_true rfl rfl rfl (by decide +kernel)) (own := [("many", 12)]) (us := [12]) (di_rng1 (by rfl) (T_range T) (da_cons (de_add (de_var 1) de_int) da_nil)) (blkOk_by (by rfl)) (by decide) (fun _ _ _ _ _ => (dg_name (i := 12) sc__law_are_samples_right.nd)) (fun _ _ _ _ _ => (dts_one (dt_not (dt_val (de_call (G__law_is_less) hr (da_cons (de_var 2) (da_cons (de_call (G__law_passes) hr (da_cons (de_var 1) (da_cons (de_var 8) (da_cons (de_var 12) (da_cons (de_var 11) da_nil))))) da_nil))))))) (fun _ _ _ _ _ => (de_var 12)))
  (dss_cons (ds_if (dt_ne hr (de_call (G_fewest_tasted) hr (da_cons (de_var 1) (da_cons (de_var 8) (da_cons (de_var 11) (da_cons (de_var 2) da_nil))))) (de_if (dt_ne hr (de_var 3) (de_new (dn_lst da_nil))) (de_ix (de_var 3) de_int) de_non)) (dss_one (ds_ret de_bl)) dss_nil)
  (dss_cons (ds_setLcF (i := 4) rfl sc__law_are_samples_right.nd rfl rfl (sw_true rfl rfl rfl (by decide +kernel)) (own := [("many", 12)]) (us := [12]) (di_rng1 (by rfl) (T_range T) (da_cons (de_add (de_var 1) de_int) da_nil)) (blkOk_by (by rfl)) (by decide) (fun _ _ _ _ _ => (dg_name (i := 12) sc__law_are_samples_right.nd)) (fun _ _ _ _ _ => (dts_one (dt_not (dt_val (de_call (G__law_is_less) hr (da_cons (de_var 2) (da_cons (de_call (G__law_passes) hr (da_cons (de_var 1) (da_cons (de_var 12) (da_cons (de_var 9) (da_cons (de_var 11) da_nil))))) da_nil))))))) (fun _ _ _ _ _ => (de_var 12)))
  (dss_cons (ds_if (dt_ne hr (de_call (G_least_bad) hr (da_cons (de_var 1) (da_cons (de_var 9) (da_cons (de_var 11) (da_cons (de_var 2) da_nil))))) (de_if (dt_ne hr (de_var 4) (de_new (dn_lst da_nil))) (de_ix (de_var 4) de_int) de_non)) (dss_one (ds_ret de_bl)) dss_nil)
  (dss_cons (ds_set (i := 5) sc__law_are_samples_right.nd (de_toInt (T_int T) (da_cons (de_call (G__law_take) hr (da_own 0 (da_cons (de_call (G__law_of) hr (da_own 0 (da_cons (de_new (dn_lst (da_cons de_int (da_cons de_int da_nil)))) da_nil))) da_nil))) da_nil)))
  (dss_cons (ds_set (i := 6) sc__law_are_samples_right.nd (de_toInt (T_int T) (da_cons (de_call (G__law_take) hr (da_own 0 (da_cons (de_call (G__law_of) hr (da_own 0 (da_cons (de_new (dn_lst (da_cons (de_add (de_var 5) de_int) (da_cons de_int da_nil)))) da_nil))) da_nil))) da_nil)))
  (dss_cons (ds_if (dt_ne hr (de_call (G_chance_by_guessing) hr (da_cons (de_var 5) (da_cons (de_var 6) da_nil))) (de_if (dt_le (de_var 6) (de_var 5)) (de_call (G__law_guessed) hr (da_cons (de_var 5) (da_cons (de_var 6) da_nil))) (de_tup (da_cons de_int (da_cons de_int da_nil))))) (dss_one (ds_ret de_bl)) dss_nil)
  (dss_cons (ds_setLcF (i := 7) rfl sc__law_are_samples_right.nd rfl rfl (sw_true rfl rfl rfl (by decide +kernel)) (own := [("many", 12)]) (us := [12]) (di_rng1 (by rfl) (T_range T) (da_cons (de_add (de_var 5) de_int) da_nil)) (blkOk_by (by rfl)) (by decide) (fun _ _ _ _ _ => (dg_name (i := 12) sc__law_are_samples_right.nd)) (fun _ _ _ _ _ => (dts_one (dt_not (dt_val (de_call (G__law_is_less) hr (da_cons (de_var 2) (da_cons (de_call (G__law_guessed) hr (da_cons (de_var 5) (da_cons (de_var 12) da_nil))) da_nil))))))) (fun _ _ _ _ _ => (de_var 12)))
  (dss_one (ds_ret (de_eq hr (de_call (G_fewest_right) hr (da_cons (de_var 5) (da_cons (de_var 2) da_nil))) (de_if (dt_ne hr (de_var 7) (de_new (dn_lst da_nil))) (de_ix (de_var 7) de_int) de_non))))))))))))))))))))) rd__law_are_samples_right, FD.bindsN fun _ _ _ _ _ _ us hl => match us, hl with | [_], _ => rfl, T.glo "_law_are_samples_right" (T.c.fact 47 (f := .glo "_law_are_samples_right") rfl), FD.kp⟩⟩
theorem ok__law_are_plans_right (T : Tx K mg) : DefOk P w K mg base 6 "_law_are_plans_right" 1 F__law_are_plans_right := by
  have G__law_by_plan : DefOk P w K mg base 5 "_law_by_plan" 3 F__law_by_plan := (ok__law_by_plan T).mono (by decide)
  have G__law_plan_drawn : DefOk P w K mg base 5 "_law_plan_drawn" 2 F__law_plan_drawn := (ok__law_plan_drawn T).mono (by decide)
  have G_outcome_by : DefOk P w K mg base 5 "outcome_by" 4 F_outcome_by := (ok_outcome_by T).mono (by decide)
  have G__law_outcome : DefOk P w K mg base 5 "_law_outcome" 3 F__law_outcome := (ok__law_outcome T).mono (by decide)
  have G_is_stricter : DefOk P w K mg base 5 "is_stricter" 3 F_is_stricter := (ok_is_stricter T).mono (by decide)
  have G__law_take : DefOk P w K mg base 5 "_law_take" 2 F__law_take := (ok__law_take T).mono (by decide)
  have G_pass_by : DefOk P w K mg base 5 "pass_by" 3 F_pass_by := (ok_pass_by T).mono (by decide)
  have G__law_passes : DefOk P w K mg base 5 "_law_passes" 4 F__law_passes := (ok__law_passes T).mono (by decide)
  have G_again_by : DefOk P w K mg base 5 "again_by" 3 F_again_by := (ok_again_by T).mono (by decide)
  have G_tasted_by : DefOk P w K mg base 5 "tasted_by" 3 F_tasted_by := (ok_tasted_by T).mono (by decide)
  have G__law_of : DefOk P w K mg base 5 "_law_of" 2 F__law_of := (ok__law_of T).mono (by decide)
  have G__law_is_less : DefOk P w K mg base 5 "_law_is_less" 2 F__law_is_less := (ok__law_is_less T).mono (by decide)
  obtain ⟨fd, FD⟩ := T.c.def_ 48 (d := d__law_are_plans_right) rfl
  refine ⟨⟨_, fd, ["pot"], ok_def (ws := ws__law_are_plans_right) FD sc__law_are_plans_right (fun cdv A outer s H E hr =>
  (dss_cons (ds_set (i := 1) sc__law_are_plans_right.nd (de_add de_int (de_toInt (T_int T) (da_cons (de_call (G__law_take) hr (da_own 0 (da_cons (de_call (G__law_of) hr (da_own 0 (da_cons (de_new (dn_lst (da_cons de_int (da_cons de_int (da_cons de_int da_nil))))) da_nil))) da_nil))) da_nil))))
  (dss_cons (ds_parT (is := [6, 7]) (n := 2) rfl (dm_cons (de_toInt (T_int T) (da_cons (de_call (G__law_take) hr (da_own 0 (da_cons (de_add (de_var 1) de_int) da_nil))) da_nil)) (dm_cons (de_call (G__law_plan_drawn) hr (da_own 0 (da_cons (de_var 1) da_nil))) dm_nil)) (pgs_names (i := 6) sc__law_are_plans_right.nd (pgs_names (i := 7) sc__law_are_plans_right.nd pgs_names_nil)))
  (dss_cons (ds_asg (de_call (G__law_by_plan) hr (da_cons (de_var 1) (da_cons (de_var 6) (da_cons (de_var 7) da_nil)))) (dg_tup (n := 3) rfl (dgs_cons (dg_name (i := 8) sc__law_are_plans_right.nd) (dgs_cons (dg_name (i := 9) sc__law_are_plans_right.nd) (dgs_cons (dg_name (i := 10) sc__law_are_plans_right.nd) dgs_nil)))))
  (dss_cons (ds_if (dt_w (dw_or (dt_ne hr (de_call (G_pass_by) hr (da_cons (de_var 1) (da_cons (de_var 6) (da_cons (de_var 7) da_nil)))) (de_var 8)) (dw_or (dt_ne hr (de_call (G_again_by) hr (da_cons (de_var 1) (da_cons (de_var 6) (da_cons (de_var 7) da_nil)))) (de_var 9)) (dw_or1 (dt_ne hr (de_call (G_tasted_by) hr (da_cons (de_var 1) (da_cons (de_var 6) (da_cons (de_var 7) da_nil)))) (de_var 10)))))) (dss_one (ds_ret de_bl)) dss_nil)
  (dss_cons (ds_par (i := 11) (j := 12) rfl sc__law_are_plans_right.nd (dm_cons (de_toInt (T_int T) (da_cons (de_call (G__law_take) hr (da_own 0 (da_cons (de_add (de_ix (de_var 7) de_int) de_int) da_nil))) da_nil)) (dm_cons (de_toInt (T_int T) (da_cons (de_call (G__law_take) hr (da_own 0 (da_cons (de_add (de_ix (de_var 7) de_int) de_int) da_nil))) da_nil)) dm_nil)))
  (dss_cons (ds_if (dt_ne hr (de_call (G_outcome_by) hr (da_cons (de_var 1) (da_cons (de_var 7) (da_cons (de_var 11) (da_cons (de_var 12) da_nil))))) (de_call (G__law_outcome) hr (da_cons (de_var 7) (da_cons (de_var 11) (da_cons (de_var 12) da_nil))))) (dss_one (ds_ret de_bl)) dss_nil)
  (dss_cons (ds_if (dt_gt (de_var 1) de_int) (dss_one (ds_ret de_bl)) dss_nil)
  (dss_cons (ds_set (i := 2) sc__law_are_plans_right.nd (de_if (dt_eq hr (de_call (G__law_take) hr (da_own 0 (da_cons de_int da_nil))) de_int) (de_call (G__law_plan_drawn) hr (da_own 0 (da_cons (de_var 1) da_nil))) (de_add (de_add (de_slT (de_var 7) do_none (do_some de_int)) (de_tup (da_cons (de_max2 rfl (T_max T) (da_cons de_int (da_cons (de_sub (de_ix (de_var 7) de_int) de_int) da_nil))) da_nil))) (de_slT (de_var 7) (do_some de_int) do_none))))
  (dss_cons (ds_setLcF (i := 3) rfl sc__law_are_plans_right.nd rfl rfl (sw_true rfl rfl rfl (by decide +kernel)) (own := [("some", 13)]) (us := [13]) (di_rng1 (by rfl) (T_range T) (da_cons (de_add (de_var 1) de_int) da_nil)) (blkOk_by (by rfl)) (by decide) (fun _ _ _ _ _ => (dg_name (i := 13) sc__law_are_plans_right.nd)) (fun _ _ _ _ _ => dts_nil) (fun _ _ _ _ _ => (de_tup (da_cons (de_ix (de_call (G__law_by_plan) hr (da_cons (de_var 1) (da_cons (de_var 13) (da_cons (de_var 7) da_nil)))) de_int) (da_cons (de_ix (de_call (G__law_by_plan) hr (da_cons (de_var 1) (da_cons (de_var 13) (da_cons (de_var 2) da_nil)))) de_int) da_nil)))))
  (dss_cons (ds_if (dt_ne hr (de_call (G_is_stricter) hr (da_cons (de_var 1) (da_cons (de_var 7) (da_cons (de_var 2) da_nil)))) (de_all rfl (T_all T) (da_cons (de_new (dn_lc rfl sc__law_are_plans_right.nd (own := [("mine", 14), ("its", 15)]) (us := [14, 15]) (di_seq (de_var 3)) (blkOk_by (by rfl)) (by decide) (fun _ _ _ _ _ => (dg_tup (n := 2) rfl (dgs_cons (dg_name (i := 14) sc__law_are_plans_right.nd) (dgs_cons (dg_name (i := 15) sc__law_are_plans_right.nd) dgs_nil)))) (fun _ _ _ _ _ => dts_nil) (fun _ _ _ _ _ => (de_not (de_call (G__law_is_less) hr (da_cons (de_var 15) (da_cons (de_var 14) da_nil))))))) da_nil))) (dss_one (ds_ret de_bl)) dss_nil)
  (dss_cons (ds_if (dt_ne hr (de_call (G_is_stricter) hr (da_cons (de_var 1) (da_cons (de_var 2) (da_cons (de_var 7) da_nil)))) (de_all rfl (T_all T) (da_cons (de_new (dn_lc rfl sc__law_are_plans_right.nd (own := [("mine", 14), ("its", 15)]) (us := [14, 15]) (di_seq (de_var 3)) (blkOk_by (by rfl)) (by decide) (fun _ _ _ _ _ => (dg_tup (n := 2) rfl (dgs_cons (dg_name (i := 14) sc__law_are_plans_right.nd) (dgs_cons (dg_name (i := 15) sc__law_are_plans_right.nd) dgs_nil)))) (fun _ _ _ _ _ => dts_nil) (fun _ _ _ _ _ => (de_not (de_call (G__law_is_less) hr (da_cons (de_var 14) (da_cons (de_var 15) da_nil))))))) da_nil))) (dss_one (ds_ret de_bl)) dss_nil)
  (dss_cons (ds_set (i := 4) sc__law_are_plans_right.nd (de_toInt (T_int T) (da_cons (de_call (G__law_take) hr (da_own 0 (da_cons de_int da_nil))) da_nil)))
  (dss_cons (ds_set (i := 5) sc__law_are_plans_right.nd (de_tup (da_cons (de_ix (de_var 7) de_int) (da_cons (de_var 4) (da_cons (de_add (de_var 4) de_int) (da_cons de_int (da_cons (de_var 4) da_nil)))))))
  (dss_one (ds_ret (de_eq hr (de_call (G_pass_by) hr (da_cons (de_var 1) (da_cons (de_var 6) (da_cons (de_var 5) da_nil)))) (de_call (G__law_passes) hr (da_cons (de_var 1) (da_cons (de_var 6) (da_cons (de_ix (de_var 7) de_int) (da_cons (de_var 4) da_nil)))))))))))))))))))))) rd__law_are_plans_right, FD.bindsN fun _ _ _ _ _ _ us hl => match us, hl with | [_], _ => rfl, T.glo "_law_are_plans_right" (T.c.fact 48 (f := .glo "_law_are_plans_right") rfl), FD.kp⟩⟩
theorem ok__law_right (T : Tx K mg) : DefOk P w K mg base 7 "_law_right" 1 F__law_right := by
  have G__law_are_samples_right : DefOk P w K mg base 6 "_law_are_samples_right" 1 F__law_are_samples_right := (ok__law_are_samples_right T).mono (by decide)
  have G__law_are_plans_right : DefOk P w K mg base 6 "_law_are_plans_right" 1 F__law_are_plans_right := (ok__law_are_plans_right T).mono (by decide)
  obtain ⟨fd, FD⟩ := T.c.def_ 49 (d := d__law_right) rfl
  refine ⟨⟨_, fd, ["pot"], ok_def (ws := ws__law_right) FD sc__law_right (fun cdv A outer s H E hr =>
  (dss_cons (ds_for PassesOwn.never rfl (di_rng1 (by rfl) (T_range T) (da_cons de_int da_nil)) (dg_name (i := 1) sc__law_right.nd) (dss_one (ds_if (dt_w (dw_or (dt_not (dt_val (de_call (G__law_are_samples_right) hr (da_own 0 da_nil)))) (dw_or1 (dt_not (dt_val (de_call (G__law_are_plans_right) hr (da_own 0 da_nil))))))) (dss_one (ds_ret de_bl)) dss_nil)))
  (dss_one (ds_ret de_bl)))) rd__law_right, FD.bindsN fun _ _ _ _ _ _ us hl => match us, hl with | [_], _ => rfl, T.glo "_law_right" (T.c.fact 49 (f := .glo "_law_right") rfl), FD.kp⟩⟩
def lawLevel : Nat := 8
def lawIx : Nat := 50
theorem ok_law_fn (T : Tx K mg) {f : Addr} {fd : FuncData} (FD : FunD K "law" "law" (defArgs s_law) (defBody s_law) (defScope s_law) [] [] f fd) : FnOk P w K mg base CX0 lawLevel f fd ["script"] (spD K 1 F_law) := by
  have G__law_right : DefOk P w K mg base 7 "_law_right" 1 F__law_right := (ok__law_right T).mono (by decide)
  have G__law_pot : DefOkN P w K mg base 7 "_law_pot" 2 F__law_pot := (ok__law_pot T).mono (by decide)
  have G__law_cells : DefOk P w K mg base 7 "_law_cells" 2 F__law_cells := (ok__law_cells T).mono (by decide)
  exact ok_def (ws := ws_law) FD sc_law (fun cdv A outer s H E hr =>
  (dss_one (ds_ret (de_all rfl (T_all T) (da_cons (de_new (dn_lc rfl sc_law.nd (own := [("place", 1)]) (us := [1]) (di_seq (de_call (G__law_cells) hr (da_cons (de_var 0) (da_cons de_int da_nil)))) (blkOk_by (by rfl)) (by decide) (fun _ _ _ _ _ => (dg_name (i := 1) sc_law.nd)) (fun _ _ _ _ _ => dts_nil) (fun _ _ _ _ _ => (de_call1 (G__law_right) hr (dn_call (G__law_pot) hr (da_cons (de_var 0) (da_cons (de_var 1) da_nil))))))) da_nil))))) rd_law
end
end K7

namespace Dl
open PySem PySem.Spec PyProof.Rows L2
/-- a law's end: F gives the written part, the function object, the promise over every base; the script's bits are told -/
theorem walk_ofEB {l : PySem.W.OpenLaw} {n k : Nat} {q : Program} {loose : List Str} {XP : (Str → Option Value) → Heap → Prop} {YP : World → Heap → Prop} {d : DefRec} {CX : CXT} {x : Str}
    (hn : l.most = some n) (hn2 : n ≤ sizeLine) (hdf : d.params.defaults = []) (hr : Room k callerA)
    (F : ∀ (w : World) (mg : Str → Option Value) (fa : Addr) (h : Heap), YP w h → h.Ns mainGlobals mg → mg d.name = some (.ref fa) →
      ∃ (K : PySem.W.Frag) (fd : FuncData) (sp : Sp), K.In h ∧ (∀ (s : Shared) (u : Value), BindsTo s fd ⟨[u], []⟩ [(x, u)]) ∧
        (∀ (H : Hp) (a : Addr) (ns : List Int), ns.length ≤ n → (∀ z ∈ ns, Builtin.Int.intBits z ≤ 1048576) → Only H → SqL K H a (ns.map V.int) → sp [.ref a] H (fun v _ => v = .bl true) fun _ _ _ => False) ∧
        ∀ base : Heap, K.In base → base.Ns mainGlobals mg → FnOk l.prog w K mg base CX k fa fd [x] sp)
    (hCX : ∀ (H : Hp) (s : Shared) (e : Value) (s' : Shared), CX [] H s (fun _ _ _ => False) e s' → False) :
    PySem.W.WalkO q loose XP YP l.row.toRowW d [] (fun f vs => PySem.call f vs) := by
  refine Att.attach_callB hn hdf fun w s₀ s₁ mg mb fa o pm cd doc a vs ns G Y ho hd hcd hmg hobj hints hlen hbits hg => ?_
  obtain ⟨K, fd, sp, KX, hb, hsp, hF⟩ := F w mg fa _ Y G.T.g hmg
  exact law_call KX G.T.g G.T.b G.T.builtins G.T.nolimit hg hobj hints (Nat.le_trans hlen hn2) hr hF hb (fun H hO hS => hsp H a ns hlen hbits hO hS) fun H e s' => hCX H s₁ e s'
end Dl
namespace K7
open PySem PySem.Spec PyProof.Rows L2 Dl
abbrev Rw : PySem.W.OpenRow := PySem.W.OpenLaw.row PySem.Challenge.rw_pouredastold_k07_whole_samples_and_doubl
abbrev hk : PySem.W.Hook := He.hookD 4 fa fn
def ob (s : PySem.W.SharedT) : He.AlD := He.obsDG 4 fa fn (HandSHeadRun.getT s)
theorem ob_eq (s : PySem.W.SharedT) : ob s = hk.obs s.abs := He.obsDG_eq (HandSHeadRun.getT_eq s)
def loose : List PySem.Str := (["CellarError", "BadInt", "BadPlan", "BadShares", "TooMany", "is_int", "is_whole", "are_ints", "common_int", "lowest", "is_fraction", "is_no_more", "MOST_BOTTLES", "chosen", "look_at_lot", "look_at_sample", "told_chance", "chance_of", "told_at_most", "chance_to_pass"] : List PySem.Str) ++ (["fewest_tasted", "surely_found", "least_bad", "chance_by_guessing", "told_whole", "told_rest", "fewest_right", "FIVE", "MOST_TASTED", "MOST_COMPARED", "is_plan", "look_at_plan", "told_ways", "told_second", "pass_by", "again_by", "tasted_by", "told_outcome", "outcome_by", "is_stricter"] : List PySem.Str) ++ (["_law_pot", "_law_take", "_law_of", "_law_cells", "_law_some", "_law_frac", "_law_plus", "_law_times", "_law_is_less", "_law_choices", "_law_chance", "_law_passes", "_law_guessed", "_law_are_samples_right", "_law_outcome", "_law_plan_drawn", "_law_by_plan", "_law_passes_rest", "_law_are_plans_right", "_law_right"] : List PySem.Str)
set_option maxHeartbeats 0 in
theorem run (w : World) : HandSHeadRun.RunEq Rw (PySem.W.view Rw.prog [66]) hk ob 6000 loose w := by
  intro os
  kernel_rfl
/-- the script is a datum; the law's def is called -/
theorem law_sp {K : PySem.W.Frag} (H : Hp) (a : Addr) (ns : List Int) (hl : ns.length ≤ 63) (hb : ∀ z ∈ ns, Builtin.Int.intBits z ≤ 1048576) (hS : SqL K H a (ns.map V.int)) : spD K 1 F_law [.ref a] H (fun v _ => v = .bl true) fun _ _ _ => False := by
  have e : imm H ([] ++ own [some (.d (.list (ns.map PyData.int)))]) = H := by
    funext b
    exact imm_out (by simp [own])
  refine ⟨rfl, [], [some (.d (.list (ns.map PyData.int)))], fun d _ => d = .bool true, ?_, ⟨ns, rfl, hl, hb, rfl⟩, fun v H' env' d R' r' _ _ w' => ?_⟩
  · refine ⟨fun q hq => (by cases hq), rfl, fun i j p xs ys e1 e2 => ?_, fun q hq => (by cases hq), fun i x e1 => ?_, fun i p xs e1 => ?_⟩
    · cases i with
      | zero => cases e1
      | succ i => cases e1
    · cases i with
      | zero =>
        cases e1
        exact ⟨.ref a, rfl, by rw [e]; exact .lst hS (RpAll.of_ints ns)⟩
      | succ i => cases e1
    · cases i with
      | zero => cases e1
      | succ i => cases e1
  · subst w'
    cases r'
    rfl
theorem facts {P : Program} {w : World} {K : PySem.W.Frag} {h : Heap} {mg : Str → Option Value} {f : Addr} (X : K.In h) (G : h.Ns mainGlobals mg) (hfa : mg ("law" : Str) = some (.ref f)) (c : He.SaysD fa fn K) :
    ∃ fd : FuncData, (∀ (s : Shared) (v : Value), BindsTo s fd ⟨[v], []⟩ [("script", v)]) ∧ ∀ base : Heap, K.In base → base.Ns mainGlobals mg → FnOk P w K mg base CX0 lawLevel f fd ["script"] (spD K 1 F_law) := by
  have T : Tx K mg := tx_of X G c
  obtain ⟨fd, FD⟩ := c.def_ lawIx (d := d_law) rfl
  have e := hfa.symm.trans (T.glo "law" (c.fact lawIx (f := .glo "law") rfl))
  cases e
  have b := FunD.bindsA (ps := ["script"]) FD fun _ _ _ _ _ _ us hl => match us, hl with | [_], _ => rfl
  exact ⟨fd, fun s v => b s [v] rfl, fun base _ _ => ok_law_fn T FD⟩
end K7
open PySem PySem.W PySem.Calls PyProof.Rows
set_option maxHeartbeats 0 in
theorem PySem.Challenge.cw_pouredastold_k07_whole_samples_and_doubl_holds : PySem.Challenge.rw_pouredastold_k07_whole_samples_and_doubl.Holds := by
  w_on; o_law
  refine HandSHeadRun.head_any (r := OpenLaw.row PySem.Challenge.rw_pouredastold_k07_whole_samples_and_doubl) (q := view (OpenLaw.row PySem.Challenge.rw_pouredastold_k07_whole_samples_and_doubl).prog [66]) (H := K7.hk) (ob := K7.ob) (M := 6000) (loose := K7.loose) (d := HandSHeadRun.topDef (OpenLaw.row PySem.Challenge.rw_pouredastold_k07_whole_samples_and_doubl).prog 66) (kwd := []) K7.ob_eq
    (by kernel_rfl) (fun s => by kernel_rfl) K7.run (by kernel_rfl) (by kernel_rfl) (by kernel_rfl) (by rfl) (by first | assumption | decide +kernel) (by decide +kernel) ⟨rfl, rfl, rfl, rfl, rfl, by decide +kernel⟩ ?hw ?hc
  case hw => w_witness2
  case hc =>
    refine Dl.walk_ofEB (l := PySem.Challenge.rw_pouredastold_k07_whole_samples_and_doubl) (n := 63) (k := K7.lawLevel) (x := "script") (CX := L2.CX0) rfl (by decide) (by kernel_rfl) ⟨rfl, by decide, by decide⟩ ?F (fun _ _ _ _ z => z)
    intro w mg fa h Y G hmg0
    obtain ⟨K, KX, c⟩ := Y
    have hmg : mg ("law" : PySem.Str) = some (.ref fa) := by
      have e : (HandSHeadRun.topDef (OpenLaw.row PySem.Challenge.rw_pouredastold_k07_whole_samples_and_doubl).prog 66).name = ("law" : PySem.Str) := by kernel_rfl
      rw [← e]
      exact hmg0
    obtain ⟨fd, hb, hF⟩ := K7.facts (P := (PySem.Challenge.rw_pouredastold_k07_whole_samples_and_doubl).prog) (w := w) KX G hmg c
    exact ⟨K, fd, Dl.spD K 1 K7.F_law, KX, hb, fun H a ns hl hbits _ hS => K7.law_sp H a ns hl hbits hS, hF⟩


