import PyProof.Rows.All
import HandS.ForMost
import HandS.ForExc
import HandS.AnyAll
import HandS.TupAny
import HandS.Deep
import HandS.IsInst
import HandS.ExcCtx
import HandS.GenList
import KE.DataFind
import HandS.TupMul
import HandS.Strs
import HandS.TupLen
import HandS.WordsDict
import HandS.More
import HandS.SortInts
import HandS.Rev
import HandS.RevTup
import KE.KDictList
import KE.SortData
import KE.KDictZip
import HandS.TupLe
import HandS.Zip0
import HandS.EndTab
import HandS.Head0
import HandS.Head1
import HandS.Head2
import HandS.HeadEnd
import HandS.HeadHook1
import HandS.HeadHook2
import HandS.HeadHook3
import HandS.HeadHook4
import HandS.HeadWalk
import HandS.Defaults
import HandS.HotCalls
import HandS.ExcIs
import PySem.Challenge.RW_happenedfirst_k38_whole_councils_of_twel
set_option Elab.async false
set_option linter.all false
set_option maxRecDepth 100000
set_option maxHeartbeats 0
namespace DL
open PySem PySem.Spec PyProof.Rows L2

abbrev D := PyData
abbrev Sl := List (Option V)
/-- a key as data -/
def kD : Key → D
  | .inl i => .int i
  | .inr x => .str x
def kDT (ks : List Key) : D := .tuple (ks.map kD)
/-! the value v is the data d, in what is all's -/
def intKH (ks : List Int) : Int := reduceHash (Builtin.Tuple.tupleHashOf (ks.map hashInt))
/-- a dict object with keys that are tuples of ints -/
structure XObj (a : Addr) (o : Obj) (xs : List (List Int × Addr × Value)) : Prop where
  ex : o.ExactDict
  da : ∃ es ep, o.data = .dict es ep ∧ es.toList = xs.map fun x => ⟨intKH x.1, .ref x.2.1, x.2.2⟩
  nd : (xs.map (·.1)).Nodup
  lo : (a == sysModules) = false
  sz : xs.length ≤ sizeLine
mutual
inductive Dq (K : PySem.W.Frag) (H : Hp) : V → D → Prop
  | non : Dq K H .non .none
  | bl (b : Bool) : Dq K H (.bl b) (.bool b)
  | int (i : Int) : Dq K H (.int i) (.int i)
  | str (x : Str) : Dq K H (.str x) (.str x)
  | lst {a : Addr} {xs : List V} {ds : List D} : SqL K H a xs → DqAll K H xs ds → Dq K H (.ref a) (.list ds)
  | tup {a : Addr} {xs : List V} {ds : List D} : SqT K H a xs → DqAll K H xs ds → Dq K H (.ref a) (.tuple ds)
  | dK {a : Addr} {vs : List (Key × V)} {kvs : List (D × D)} : H a = some (.dK vs) → DqKv K H (vs.map fun p => (kD p.1, p.2)) kvs → Dq K H (.ref a) (.dict kvs)
  | dT {a : Addr} {vs : List (List Key × V)} {kvs : List (D × D)} : H a = some (.dT vs) → DqKv K H (vs.map fun p => (kDT p.1, p.2)) kvs → Dq K H (.ref a) (.dict kvs)
  | dX {a : Addr} {o : Obj} {xs : List (List Int × Addr × Value)} {kvs : List (D × D)} : H a = some (.ext fun h => h.get? a = some o) → XObj a o xs → DqX K H xs kvs → Dq K H (.ref a) (.dict kvs)
inductive DqAll (K : PySem.W.Frag) (H : Hp) : List V → List D → Prop
  | nil : DqAll K H [] []
  | cons {v : V} {vs : List V} {d : D} {ds : List D} : Dq K H v d → DqAll K H vs ds → DqAll K H (v :: vs) (d :: ds)
inductive DqX (K : PySem.W.Frag) (H : Hp) : List (List Int × Addr × Value) → List (D × D) → Prop
  | nil : DqX K H [] []
  | cons {ks : List Int} {b : Addr} {u : Value} {v : V} {d : D} {xs : List (List Int × Addr × Value)} {ds : List (D × D)} : SqT K H b (ks.map V.int) → RelV v u → Dq K H v d → DqX K H xs ds → DqX K H ((ks, b, u) :: xs) ((.tuple (ks.map .int), d) :: ds)
inductive DqKv (K : PySem.W.Frag) (H : Hp) : List (D × V) → List (D × D) → Prop
  | nil : DqKv K H [] []
  | cons {k d : D} {v : V} {vs : List (D × V)} {ds : List (D × D)} : Dq K H v d → DqKv K H vs ds → DqKv K H ((k, v) :: vs) ((k, d) :: ds)
end
/-! ### cells: what a slot holds -/
inductive Cell where
  | un
  | sh (d : D)
  | ow (ds : List D)
  | dk (kvs : List (Key × D))
  | dt (kvs : List (List Key × D))
  | raw (x : V)
abbrev DEnv := List Cell
def Cell.owned : Cell → Bool
  | .un => false
  | .sh _ => false
  | .raw _ => false
  | _ => true

def KvR (K : PySem.W.Frag) (G : Hp) {κ : Type} : List (κ × V) → List (κ × D) → Prop
  | [], [] => True
  | (k, v) :: r, (k', d) :: r' => k = k' ∧ Dq K G v d ∧ KvR K G r r'
  | _, _ => False

def CellR (K : PySem.W.Frag) (G H : Hp) (o : Addr → Prop) (v : Option V) : Cell → Prop
  | .un => True
  | .sh d => ∃ x, v = some x ∧ Dq K G x d
  | .ow ds => ∃ a xs, v = some (.ref a) ∧ o a ∧ H a = some (.lst xs) ∧ DqAll K G xs ds
  | .dk kvs => ∃ a vs, v = some (.ref a) ∧ o a ∧ H a = some (.dK vs) ∧ KvR K G vs kvs
  | .dt kvs => ∃ a vs, v = some (.ref a) ∧ o a ∧ H a = some (.dT vs) ∧ KvR K G vs kvs
  | .raw x => v = some x

structure Wd (F : Hp) (TP : List Addr) (G H : Hp) : Prop where
  sub : Same G H
  fr : Same F H
  tab : ∀ P ∈ TP, GxR.TabG H P ∧ G P = none ∧ F P = none

structure EnvR (K : PySem.W.Frag) (F : Hp) (TP : List Addr) (G H : Hp) (σ : Sl) (env : DEnv) : Prop where
  wd : Wd F TP G H
  len : σ.length = env.length
  own : ∃ o : Addr → Option Nat, (∀ a i, o a = some i → G a = none ∧ F a = none ∧ a ∉ TP ∧ ∃ u, H a = some u) ∧
    ∀ (i : Nat) c v, env[i]? = some c → σ[i]? = some v → CellR K G H (fun a => o a = some i) v c

theorem sameT {K : PySem.W.Frag} {H H' : Hp} {a : Addr} {xs : List V} (e : Same H H') (h : SqT K H a xs) : SqT K H' a xs := by
  rcases h with (h | ⟨o, h⟩) | h
  · exact .inl (.inl (e _ _ h))
  · exact .inl (.inr ⟨o, e _ _ h⟩)
  · exact .inr h
mutual
theorem dpMono {K : PySem.W.Frag} {G G' : Hp} (h : Same G G') : ∀ (d : D) {v : V}, Dq K G v d → Dq K G' v d
  | .none, _, .non => .non
  | .bool b, _, .bl _ => .bl b
  | .int i, _, .int _ => .int i
  | .str x, _, .str _ => .str x
  | .list ds, _, .lst q r => .lst (h.seq q) (dpAllMono h ds r)
  | .tuple ds, _, .tup q r => .tup (sameT h q) (dpAllMono h ds r)
  | .dict kvs, _, .dK q r => .dK (h _ _ q) (dpKvMono h kvs r)
  | .dict kvs, _, .dT q r => .dT (h _ _ q) (dpKvMono h kvs r)
  | .dict kvs, _, .dX q o r => .dX (h _ _ q) o (dpXMono h kvs r)
theorem dpAllMono {K : PySem.W.Frag} {G G' : Hp} (h : Same G G') : ∀ (ds : List D) {vs : List V}, DqAll K G vs ds → DqAll K G' vs ds
  | [], _, .nil => .nil
  | d :: ds, _, .cons a b => .cons (dpMono h d a) (dpAllMono h ds b)
theorem dpXMono {K : PySem.W.Frag} {G G' : Hp} (h : Same G G') : ∀ (ds : List (D × D)) {xs : List (List Int × Addr × Value)}, DqX K G xs ds → DqX K G' xs ds
  | [], _, .nil => .nil
  | (_, d) :: ds, _, .cons a b c r => .cons (sameT h a) b (dpMono h d c) (dpXMono h ds r)
theorem dpKvMono {K : PySem.W.Frag} {G G' : Hp} (h : Same G G') : ∀ (ds : List (D × D)) {vs : List (D × V)}, DqKv K G vs ds → DqKv K G' vs ds
  | [], _, .nil => .nil
  | (_, d) :: ds, _, .cons a b => .cons (dpMono h d a) (dpKvMono h ds b)
end
/-! data without dicts, as the library has it -/
mutual
theorem dq_dp {K : PySem.W.Frag} {H : Hp} : ∀ (d : D) {v : V}, d.canLay0 = true → Dq K H v d → L2.Dp K H v d
  | .none, _, _, .non => .non
  | .bool b, _, _, .bl _ => .bl b
  | .int i, _, _, .int _ => .int i
  | .str x, _, _, .str _ => .str x
  | .list ds, _, h, .lst q r => .lst q (dq_dpAll ds (by simpa [PyData.canLay0] using h) r)
  | .tuple ds, _, h, .tup q r => .tup q (dq_dpAll ds (by simpa [PyData.canLay0] using h) r)
  | .dict kvs, _, h, _ => by simp [PyData.canLay0] at h
theorem dq_dpAll {K : PySem.W.Frag} {H : Hp} : ∀ (ds : List D) {vs : List V}, PyData.canLayAll0 ds = true → DqAll K H vs ds → L2.DpAll K H vs ds
  | [], _, _, .nil => .nil
  | d :: ds, _, h, .cons a b => by
    simp only [PyData.canLayAll0, Bool.and_eq_true] at h
    exact .cons (dq_dp d h.1 a) (dq_dpAll ds h.2 b)
end
theorem kvMono {K : PySem.W.Frag} {G G' : Hp} (h : Same G G') {κ : Type} : ∀ {vs : List (κ × V)} {ds : List (κ × D)}, KvR K G vs ds → KvR K G' vs ds
  | [], [], _ => trivial
  | (_, _) :: _, (_, _) :: _, ⟨a, b, c⟩ => ⟨a, dpMono h _ b, kvMono h c⟩

theorem dpAll_len {K : PySem.W.Frag} {G : Hp} : ∀ {vs : List V} {ds : List D}, DqAll K G vs ds → vs.length = ds.length
  | _, _, .nil => rfl
  | _, _, .cons _ r => congrArg (· + 1) (dpAll_len r)
theorem dpAll_get {K : PySem.W.Frag} {G : Hp} : ∀ {vs : List V} {ds : List D} (i : Nat) {d : D}, DqAll K G vs ds → ds[i]? = some d → ∃ v, vs[i]? = some v ∧ Dq K G v d
  | _, _, _, _, .nil, h => by simp at h
  | _, _, 0, _, .cons a _, h => by simp at h; subst h; exact ⟨_, rfl, a⟩
  | _, _, i + 1, _, .cons _ r, h => by simpa using dpAll_get i r (by simpa using h)
theorem dpAll_append {K : PySem.W.Frag} {G : Hp} : ∀ {vs ws : List V} {ds es : List D}, DqAll K G vs ds → DqAll K G ws es → DqAll K G (vs ++ ws) (ds ++ es)
  | _, _, _, _, .nil, r => r
  | _, _, _, _, .cons a q, r => .cons a (dpAll_append q r)
theorem dpAll_take {K : PySem.W.Frag} {G : Hp} : ∀ (n : Nat) {vs : List V} {ds : List D}, DqAll K G vs ds → DqAll K G (vs.take n) (ds.take n)
  | 0, _, _, _ => .nil
  | _ + 1, _, _, .nil => .nil
  | n + 1, _, _, .cons a q => .cons a (dpAll_take n q)
theorem dpAll_drop {K : PySem.W.Frag} {G : Hp} : ∀ (n : Nat) {vs : List V} {ds : List D}, DqAll K G vs ds → DqAll K G (vs.drop n) (ds.drop n)
  | 0, _, _, q => q
  | _ + 1, _, _, .nil => .nil
  | n + 1, _, _, .cons _ q => dpAll_drop n q
theorem dpAll_set {K : PySem.W.Frag} {G : Hp} {v : V} {d : D} (h : Dq K G v d) : ∀ (i : Nat) {vs : List V} {ds : List D}, DqAll K G vs ds → DqAll K G (vs.set i v) (ds.set i d)
  | _, _, _, .nil => .nil
  | 0, _, _, .cons _ q => .cons h q
  | i + 1, _, _, .cons a q => .cons a (dpAll_set h i q)

/-- the heap has grown by shared things -/
structure Ext (G H G' H' : Hp) : Prop where
  h : Same H H'
  g : Same G G'
  gh : Same G' H'
  new : ∀ b u, G' b = some u → G b = some u ∨ H b = none
theorem Ext.refl {G H : Hp} (s : Same G H) : Ext G H G H := ⟨Same.refl _, Same.refl _, s, fun _ _ h => .inl h⟩
/-- what is all's has grown, by nothing of the frame's -/
structure Gr (F G G' : Hp) : Prop where
  s : Same G G'
  n : ∀ b u, G' b = some u → G b = some u ∨ F b = none
theorem Gr.refl {F G : Hp} : Gr F G G := ⟨Same.refl _, fun _ _ h => .inl h⟩
theorem Gr.trans {F G G1 G2 : Hp} (a : Gr F G G1) (b : Gr F G1 G2) : Gr F G G2 := ⟨a.s.trans b.s, fun c u h => (b.n c u h).elim (fun h => a.n c u h) .inr⟩
theorem Ext.gr {F G H G' H' : Hp} (x : Ext G H G' H') (f : Same F H) : Gr F G G' := ⟨x.g, fun b u h => (x.new b u h).imp id fun z => f.free z⟩
theorem same_upd {H : Hp} {p : Addr} {o : HO} (h : H p = none) : Same H (upd H p o) := fun b x e => by
  rw [upd_ne (ne_of_none e h)]; exact e
theorem Ext.new1 {G H : Hp} (s : Same G H) {p : Addr} {o : HO} (h : H p = none) : Ext G H (upd G p o) (upd H p o) := by
  have hg : G p = none := s.free h
  refine ⟨same_upd h, same_upd hg, fun b x e => ?_, fun b u e => ?_⟩
  · by_cases z : b = p
    · subst z; rw [upd_same] at e ⊢; exact e
    · rw [upd_ne z] at e ⊢; exact s b x e
  · by_cases z : b = p
    · subst z; exact .inr h
    · rw [upd_ne z] at e; exact .inl e

section
variable {K : PySem.W.Frag} {F : Hp} {TP : List Addr} {G G' H H' : Hp} {σ : Sl} {env : DEnv}
theorem cellMono {o : Addr → Prop} {v : Option V} (hg : Same G G') (hh : ∀ a u, o a → H a = some u → H' a = some u) : ∀ {c : Cell}, CellR K G H o v c → CellR K G' H' o v c
  | .un, _ => trivial
  | .sh d, ⟨x, e, h⟩ => ⟨x, e, dpMono hg _ h⟩
  | .ow ds, ⟨a, xs, e, q, h, r⟩ => ⟨a, xs, e, q, hh _ _ q h, dpAllMono hg _ r⟩
  | .dk _, ⟨a, vs, e, q, h, r⟩ => ⟨a, vs, e, q, hh _ _ q h, kvMono hg r⟩
  | .dt _, ⟨a, vs, e, q, h, r⟩ => ⟨a, vs, e, q, hh _ _ q h, kvMono hg r⟩
  | .raw _, h => h
theorem cellImp {o o' : Addr → Prop} {v : Option V} (ho : ∀ a, o a → o' a) : ∀ {c : Cell}, CellR K G H o v c → CellR K G H o' v c
  | .un, _ => trivial
  | .sh d, h => h
  | .ow ds, ⟨a, xs, e, q, h, r⟩ => ⟨a, xs, e, ho _ q, h, r⟩
  | .dk _, ⟨a, vs, e, q, h, r⟩ => ⟨a, vs, e, ho _ q, h, r⟩
  | .dt _, ⟨a, vs, e, q, h, r⟩ => ⟨a, vs, e, ho _ q, h, r⟩
  | .raw _, h => h
theorem cellSh {o o' : Addr → Prop} {v : Option V} {c : Cell} (hc : c.owned = false) (h : CellR K G H o v c) : CellR K G H o' v c := by
  cases c <;> first | exact h | exact absurd hc (by simp [Cell.owned])

theorem Wd.ext (W : Wd F TP G H) (x : Ext G H G' H') : Wd F TP G' H' := by
  refine ⟨x.gh, W.fr.trans x.h, fun P hP => ?_⟩
  obtain ⟨⟨ps, e, t⟩, g, f⟩ := W.tab P hP
  refine ⟨⟨ps, x.h _ _ e, t⟩, ?_, f⟩
  cases q : G' P with
  | none => rfl
  | some u =>
    rcases x.new _ _ q with z | z
    · rw [g] at z; cases z
    · rw [z] at e; cases e
theorem EnvR.ext (E : EnvR K F TP G H σ env) (x : Ext G H G' H') : EnvR K F TP G' H' σ env := by
  obtain ⟨W, l, o, ho, hc⟩ := E
  refine ⟨W.ext x, l, o, fun a i e => ?_, fun i c v e1 e2 => cellMono x.g (fun a u _ h => x.h _ _ h) (hc i c v e1 e2)⟩
  obtain ⟨g, f, t, u, hu⟩ := ho a i e
  refine ⟨?_, f, t, u, x.h _ _ hu⟩
  cases q : G' a with
  | none => rfl
  | some u' =>
    rcases x.new _ _ q with z | z
    · rw [g] at z; cases z
    · rw [z] at hu; cases hu
theorem EnvR.get (E : EnvR K F TP G H σ env) {i : Nat} {d : D} (h : env[i]? = some (.sh d)) : ∃ x, σ[i]? = some (some x) ∧ Dq K G x d := by
  obtain ⟨W, l, o, ho, hc⟩ := E
  have hi : i < σ.length := by rw [l]; exact (List.getElem?_eq_some_iff.mp h).1
  obtain ⟨x, e, q⟩ := hc i _ _ h (List.getElem?_eq_getElem hi)
  exact ⟨x, by rw [List.getElem?_eq_getElem hi, e], q⟩

/-- the cells put elsewhere: ρ tells where each new one stood -/
theorem EnvR.getRaw (E : EnvR K F TP G H σ env) {i : Nat} {x : V} (h : env[i]? = some (.raw x)) : σ[i]? = some (some x) := by
  obtain ⟨W, l, o, ho, hc⟩ := E
  have hi : i < σ.length := by rw [l]; exact (List.getElem?_eq_some_iff.mp h).1
  have h1 := hc i _ _ h (List.getElem?_eq_getElem hi)
  rw [List.getElem?_eq_getElem hi]
  have h1 : σ[i] = some x := h1
  rw [h1]
theorem EnvR.remap {σ' : Sl} {env' : DEnv} (E : EnvR K F TP G H σ env) (ρ : Nat → Nat) (hl : σ'.length = env'.length)
    (hm : ∀ (i : Nat) c, env'[i]? = some c → c = .un ∨ (c.owned = false ∧ ∃ v, σ'[i]? = some v ∧ CellR K G H (fun _ => False) v c) ∨ (env[ρ i]? = some c ∧ σ'[i]? = σ[ρ i]?))
    (inj : ∀ i j c c', env'[i]? = some c → env'[j]? = some c' → c.owned = true → c'.owned = true → ρ i = ρ j → i = j) : EnvR K F TP G H σ' env' := by
  obtain ⟨W, l, o, ho, hc⟩ := E
  classical
  let o' : Addr → Option Nat := fun a => (o a).bind fun j => if h : ∃ i c, env'[i]? = some c ∧ c.owned = true ∧ ρ i = j then some h.choose else none
  have key : ∀ (i : Nat) c a, env'[i]? = some c → c.owned = true → o a = some (ρ i) → o' a = some i := fun i c a e1 e2 e3 => by
    have hx : ∃ i' c, env'[i']? = some c ∧ c.owned = true ∧ ρ i' = ρ i := ⟨i, c, e1, e2, rfl⟩
    obtain ⟨c2, h1, h2, h3⟩ := hx.choose_spec
    have e : hx.choose = i := inj _ _ _ _ h1 e1 h2 e2 h3
    show (o a).bind _ = _
    rw [e3]
    simp only [Option.bind_some]
    rw [dif_pos hx, e]
  refine ⟨W, hl, o', fun a i e => ?_, fun i c v e1 e2 => ?_⟩
  · cases q : o a with
    | none => simp [o', q] at e
    | some j => exact ho a j q
  · rcases hm i c e1 with z | ⟨z, v', e3, h⟩ | ⟨z1, z2⟩
    · subst z; trivial
    · rw [e2] at e3; cases e3
      exact cellSh z h
    · cases hcc : c.owned with
      | false => exact cellSh hcc (hc _ c v z1 (by rw [← z2]; exact e2))
      | true => exact cellImp (fun a ha => key i c a e1 hcc ha) (hc _ c v z1 (by rw [← z2]; exact e2))

theorem EnvR.snoc_sh (E : EnvR K F TP G H σ env) {v : V} {d : D} (h : Dq K G v d) : EnvR K F TP G H (σ ++ [some v]) (env ++ [.sh d]) := by
  refine E.remap id (by simp [E.len]) (fun i c e => ?_) (fun i j _ _ _ _ _ _ h => h)
  by_cases hi : i < env.length
  · right; right
    rw [List.getElem?_append_left hi] at e
    exact ⟨e, by rw [List.getElem?_append_left (by rw [E.len]; exact hi)]; rfl⟩
  · right; left
    rw [List.getElem?_append_right (by omega)] at e
    have : i - env.length = 0 := by
      cases q : i - env.length with
      | zero => rfl
      | succ n => rw [q] at e; simp at e
    rw [this] at e
    simp at e
    subst e
    refine ⟨rfl, some v, ?_, v, rfl, h⟩
    rw [List.getElem?_append_right (by rw [E.len]; omega), E.len, this]; rfl
/-- a new thing of one's own -/
theorem EnvR.snoc_new (E : EnvR K F TP G H σ env) {p : Addr} {u : HO} {c : Cell} (hp : H p = none) (h : CellR K G (upd H p u) (fun a => a = p) (some (.ref p)) c) : EnvR K F TP G (upd H p u) (σ ++ [some (.ref p)]) (env ++ [c]) := by
  obtain ⟨W, l, o, ho, hc⟩ := E
  have gp : G p = none := W.sub.free hp
  have fp : F p = none := W.fr.free hp
  have pT : p ∉ TP := fun z => by obtain ⟨⟨ps, e, _⟩, _⟩ := W.tab p z; rw [hp] at e; cases e
  refine ⟨⟨W.sub.trans (same_upd hp), W.fr.trans (same_upd hp), fun P hP => ?_⟩, by simp [l], fun a => if a = p then some env.length else o a, fun a i e => ?_, fun i c' v e1 e2 => ?_⟩
  · obtain ⟨⟨ps, e, t⟩, g, f⟩ := W.tab P hP
    exact ⟨⟨ps, same_upd hp _ _ e, t⟩, g, f⟩
  · have e : (if a = p then some env.length else o a) = some i := e
    by_cases z : a = p
    · subst z; exact ⟨gp, fp, pT, u, upd_same⟩
    · rw [if_neg z] at e
      obtain ⟨h1, h2, h3, w, h4⟩ := ho a i e
      exact ⟨h1, h2, h3, w, same_upd hp _ _ h4⟩
  · by_cases hi : i < env.length
    · rw [List.getElem?_append_left hi] at e1
      rw [List.getElem?_append_left (by rw [l]; exact hi)] at e2
      refine cellImp (fun a ha => ?_) (cellMono (Same.refl G) (fun a u _ h => same_upd hp _ _ h) (hc i c' v e1 e2))
      have : a ≠ p := fun z => by subst z; obtain ⟨_, _, _, w, h4⟩ := ho a i ha; rw [hp] at h4; cases h4
      show (if a = p then _ else o a) = _
      rw [if_neg this]; exact ha
    · rw [List.getElem?_append_right (by omega)] at e1
      rw [List.getElem?_append_right (by omega), l] at e2
      have : i - env.length = 0 := by
        cases q : i - env.length with
        | zero => rfl
        | succ n => rw [q] at e1; simp at e1
      have hi2 : i = env.length := by omega
      rw [this] at e1 e2
      simp at e1 e2
      subst e1 e2 hi2
      exact cellImp (fun a ha => by subst ha; exact if_pos rfl) h
theorem EnvR.unsnoc {v : Option V} {c : Cell} (E : EnvR K F TP G H (σ ++ [v]) (env ++ [c])) : EnvR K F TP G H σ env := by
  have l : σ.length = env.length := by have := E.len; simp at this; exact this
  refine E.remap id l (fun i c e => ?_) (fun i j _ _ _ _ _ _ h => h)
  have hi := (List.getElem?_eq_some_iff.mp e).1
  right; right
  exact ⟨by show (env ++ [_])[i]? = _; rw [List.getElem?_append_left hi]; exact e, by show _ = (σ ++ [v])[i]?; rw [List.getElem?_append_left (by omega)]⟩
theorem EnvR.last {v : Option V} {d : D} (E : EnvR K F TP G H (σ ++ [v]) (env ++ [.sh d])) : ∃ x, v = some x ∧ Dq K G x d := by
  have l : σ.length = env.length := by have := E.len; simp at this; exact this
  obtain ⟨x, e, h⟩ := E.get (i := env.length) (d := d) (by simp)
  rw [← l] at e
  simp at e
  exact ⟨x, e, h⟩
/-- the last one goes to slot i -/
theorem EnvR.move {v : Option V} {c : Cell} (E : EnvR K F TP G H (σ ++ [v]) (env ++ [c])) {i : Nat} (hi : i < env.length) : EnvR K F TP G H (σ.set i v) (env.set i c) := by
  have l : σ.length = env.length := by have := E.len; simp at this; exact this
  refine E.remap (fun j => if j = i then env.length else j) (by simp [l]) (fun j c' e => ?_) (fun j k c1 c2 e1 e2 _ _ h => ?_)
  · right; right
    by_cases z : j = i
    · subst z
      rw [List.getElem?_set_self hi] at e
      rw [if_pos rfl]
      refine ⟨by simp; exact Option.some.inj e, ?_⟩
      rw [List.getElem?_set_self (by omega), ← l]
      simp
    · rw [List.getElem?_set_ne (Ne.symm z)] at e
      have hj := (List.getElem?_eq_some_iff.mp e).1
      rw [if_neg z, List.getElem?_append_left hj]
      refine ⟨e, ?_⟩
      rw [List.getElem?_set_ne (Ne.symm z), List.getElem?_append_left (by omega)]
  · have h1 : j < env.length := by have := (List.getElem?_eq_some_iff.mp e1).1; simpa using this
    have h2 : k < env.length := by have := (List.getElem?_eq_some_iff.mp e2).1; simpa using this
    have h : (if j = i then env.length else j) = (if k = i then env.length else k) := h
    split at h <;> split at h <;> omega
theorem EnvR.set_sh (E : EnvR K F TP G H σ env) {v : V} {d : D} (h : Dq K G v d) (i : Nat) : EnvR K F TP G H (σ.set i (some v)) (env.set i (.sh d)) := by
  by_cases hi : i < env.length
  · exact (E.snoc_sh h).move hi
  · rw [List.set_eq_of_length_le (by rw [E.len]; omega), List.set_eq_of_length_le (by omega)]; exact E
theorem EnvR.forget (E : EnvR K F TP G H σ env) (i : Nat) : EnvR K F TP G H σ (env.set i .un) := by
  refine E.remap id (by simp [E.len]) (fun j c e => ?_) (fun i j _ _ _ _ _ _ h => h)
  by_cases z : j = i
  · subst z
    rw [List.getElem?_set] at e
    simp at e
    exact .inl e.2.symm
  · rw [List.getElem?_set_ne (Ne.symm z)] at e
    exact .inr (.inr ⟨e, rfl⟩)

/-- a list of one's own is handed to all: it changes no more -/
theorem EnvR.freeze (E : EnvR K F TP G H σ env) {i : Nat} {ds : List D} (h : env[i]? = some (.ow ds)) :
    ∃ G' a, Gr F G G' ∧ σ[i]? = some (some (.ref a)) ∧ EnvR K F TP G' H σ (env.set i (.sh (.list ds))) ∧ Dq K G' (.ref a) (.list ds) := by
  obtain ⟨W, l, o, ho, hc⟩ := E
  have hi : i < σ.length := by rw [l]; exact (List.getElem?_eq_some_iff.mp h).1
  obtain ⟨a, xs, e, oa, ha, r⟩ := hc i _ _ h (List.getElem?_eq_getElem hi)
  obtain ⟨ga, fa, ta, _⟩ := ho a i oa
  have sg : Same G (upd G a (.lst xs)) := same_upd ga
  have hs : σ[i]? = some (some (.ref a)) := by rw [List.getElem?_eq_getElem hi, e]
  have hd : Dq K (upd G a (.lst xs)) (.ref a) (.list ds) := .lst (.inl (.inl upd_same)) (dpAllMono sg _ r)
  refine ⟨upd G a (.lst xs), a, ⟨sg, fun b u q => ?_⟩, hs, ⟨⟨fun b x q => ?_, W.fr, fun P hP => ?_⟩, by simpa using l, fun b => if b = a then none else o b, fun b j q => ?_, fun j c v e1 e2 => ?_⟩, hd⟩
  · by_cases z : b = a
    · subst z; exact .inr fa
    · rw [upd_ne z] at q; exact .inl q
  · by_cases z : b = a
    · subst z; rw [upd_same] at q; rw [ha]; exact q
    · rw [upd_ne z] at q; exact W.sub b x q
  · obtain ⟨t, g, f⟩ := W.tab P hP
    exact ⟨t, by rw [upd_ne (fun z => ta (by rw [← z]; exact hP))]; exact g, f⟩
  · have q : (if b = a then none else o b) = some j := q
    by_cases z : b = a
    · rw [if_pos z] at q; cases q
    · rw [if_neg z] at q
      obtain ⟨h1, h2, h3, h4⟩ := ho b j q
      exact ⟨by rw [upd_ne z]; exact h1, h2, h3, h4⟩
  · by_cases z : j = i
    · subst z
      rw [hs] at e2; cases e2
      rw [List.getElem?_set_self (by omega)] at e1
      cases e1
      exact ⟨_, rfl, hd⟩
    · rw [List.getElem?_set_ne (Ne.symm z)] at e1
      refine cellImp (fun b hb => ?_) (cellMono sg (fun _ _ _ h => h) (hc j c v e1 e2))
      have : b ≠ a := fun q => by subst q; rw [hb] at oa; cases oa; exact z rfl
      show (if b = a then none else o b) = _
      rw [if_neg this]; exact hb
theorem EnvR.freezeL {v : Option V} {ds : List D} (E : EnvR K F TP G H (σ ++ [v]) (env ++ [.ow ds])) : ∃ G' x, Gr F G G' ∧ v = some x ∧ EnvR K F TP G' H σ env ∧ Dq K G' x (.list ds) := by
  have l : σ.length = env.length := by have := E.len; simp at this; exact this
  obtain ⟨G', a, sg, hs, E', hd⟩ := E.freeze (i := env.length) (ds := ds) (by simp)
  refine ⟨G', .ref a, sg, ?_, ?_, hd⟩
  · rw [← l] at hs; simpa using hs
  · have : (env ++ [Cell.ow ds]).set env.length (.sh (.list ds)) = env ++ [.sh (.list ds)] := by simp
    rw [this] at E'
    exact E'.unsnoc
/-- what stands in an owned slot is changed -/
theorem EnvR.write (E : EnvR K F TP G H σ env) {i : Nat} {c c' : Cell} {u : HO} {a : Addr} (h : env[i]? = some c) (hs : σ[i]? = some (some (.ref a))) (hown : ∀ o v, CellR K G H o v c → v = some (.ref a) → o a)
    (hc' : ∀ o : Addr → Prop, o a → CellR K G (upd H a u) o (some (.ref a)) c') : EnvR K F TP G (upd H a u) σ (env.set i c') := by
  obtain ⟨W, l, o, ho, hc⟩ := E
  have oa : o a = some i := hown _ _ (hc i c _ h hs) rfl
  obtain ⟨ga, fa, ta, w, ha⟩ := ho a i oa
  have at_ : ∀ b, b ≠ a → upd H a u b = H b := fun b z => upd_ne z
  refine ⟨⟨fun b x q => ?_, fun b x q => ?_, fun P hP => ?_⟩, by simpa using l, o, fun b j q => ?_, fun j c2 v e1 e2 => ?_⟩
  · rw [at_ b (fun z => by rw [z, ga] at q; cases q)]; exact W.sub b x q
  · rw [at_ b (fun z => by rw [z, fa] at q; cases q)]; exact W.fr b x q
  · obtain ⟨⟨ps, e, t⟩, g, f⟩ := W.tab P hP
    exact ⟨⟨ps, by rw [at_ P (fun z => ta (by rw [← z]; exact hP))]; exact e, t⟩, g, f⟩
  · obtain ⟨h1, h2, h3, w', h4⟩ := ho b j q
    refine ⟨h1, h2, h3, ?_⟩
    by_cases z : b = a
    · subst z; exact ⟨u, upd_same⟩
    · exact ⟨w', by rw [at_ b z]; exact h4⟩
  · by_cases z : j = i
    · subst z
      rw [hs] at e2; cases e2
      have hi : j < env.length := (List.getElem?_eq_some_iff.mp h).1
      rw [List.getElem?_set_self hi] at e1
      cases e1
      exact hc' _ oa
    · rw [List.getElem?_set_ne (Ne.symm z)] at e1
      refine cellMono (Same.refl G) (fun b w hb q => ?_) (hc j c2 v e1 e2)
      rw [at_ b (fun y => by subst y; have hb' : o b = some j := hb; rw [hb'] at oa; cases oa; exact z rfl)]
      exact q
theorem EnvR.write_ow (E : EnvR K F TP G H σ env) {i : Nat} {ds ds' : List D} {xs' : List V} {a : Addr} (h : env[i]? = some (.ow ds)) (hs : σ[i]? = some (some (.ref a))) (hx : DqAll K G xs' ds') : EnvR K F TP G (upd H a (.lst xs')) σ (env.set i (.ow ds')) :=
  E.write h hs (fun o v q e => by obtain ⟨b, xs, e', ob, _⟩ := q; rw [e] at e'; cases e'; exact ob) fun o oa => ⟨a, xs', rfl, oa, upd_same, hx⟩
theorem EnvR.at_ow (E : EnvR K F TP G H σ env) {i : Nat} {ds : List D} (h : env[i]? = some (.ow ds)) : ∃ a xs, σ[i]? = some (some (.ref a)) ∧ H a = some (.lst xs) ∧ DqAll K G xs ds := by
  obtain ⟨W, l, o, ho, hc⟩ := E
  have hi : i < σ.length := by rw [l]; exact (List.getElem?_eq_some_iff.mp h).1
  obtain ⟨a, xs, e, oa, ha, r⟩ := hc i _ _ h (List.getElem?_eq_getElem hi)
  exact ⟨a, xs, by rw [List.getElem?_eq_getElem hi, e], ha, r⟩
/-- the tables have grown -/
theorem EnvR.tabbed (E : EnvR K F TP G H σ env) {P : Addr} (hP : P ∈ TP) (T : GxR.Tabbed P H H') : EnvR K F TP G H' σ env := by
  obtain ⟨W, l, o, ho, hc⟩ := E
  have at_ : ∀ b u, (b = P → False) → H b = some u → H' b = some u := fun b u z e => by rw [T.2 b z]; exact e
  refine ⟨⟨fun b x q => at_ b x (fun z => by rw [z, (W.tab P hP).2.1] at q; cases q) (W.sub b x q), fun b x q => at_ b x (fun z => by rw [z, (W.tab P hP).2.2] at q; cases q) (W.fr b x q), fun P' hP' => ?_⟩, l, o, fun b j q => ?_, fun j c v e1 e2 => ?_⟩
  · obtain ⟨⟨ps, e, t⟩, g, f⟩ := W.tab P' hP'
    refine ⟨?_, g, f⟩
    by_cases z : P' = P
    · rw [z]; exact T.1
    · exact ⟨ps, at_ _ _ z e, t⟩
  · obtain ⟨h1, h2, h3, w', h4⟩ := ho b j q
    exact ⟨h1, h2, h3, w', at_ _ _ (fun z => h3 (by rw [z]; exact hP)) h4⟩
  · exact cellMono (Same.refl G) (fun b w hb q => at_ _ _ (fun z => (ho b j hb).2.2.1 (by rw [z]; exact hP)) q) (hc j c v e1 e2)
end
end DL
namespace DL
open PySem PySem.Spec PyProof.Rows L2

/-! ### plain functions of cells -/
abbrev EF := DEnv → Option (D × DEnv)
abbrev BF := DEnv → Option (Bool × DEnv)
abbrev AF := DEnv → Option (List D × DEnv)
abbrev OF := DEnv → Option (Cell × DEnv)
def bnd {α β : Type} (x : Option (α × DEnv)) (k : α → DEnv → Option β) : Option β := match x with
  | some (a, e) => k a e
  | none => none
@[simp] theorem bnd_some {α β : Type} (a : α) (e : DEnv) (k : α → DEnv → Option β) : bnd (some (a, e)) k = k a e := rfl
@[simp] theorem bnd_none {α β : Type} (k : α → DEnv → Option β) : bnd none k = none := rfl
theorem bnd_inv {α β : Type} {x : Option (α × DEnv)} {k : α → DEnv → Option β} {b : β} (h : bnd x k = some b) : ∃ a e, x = some (a, e) ∧ k a e = some b := by
  match x, h with
  | some (a, e), h => exact ⟨a, e, rfl, h⟩
  | none, h => cases h
def out {α : Type} (r : Option α) (e : DEnv) : Option (α × DEnv) := match r with
  | some a => some (a, e)
  | none => none
@[simp] theorem out_some {α : Type} (a : α) (e : DEnv) : out (some a) e = some (a, e) := rfl
@[simp] theorem out_none {α : Type} (e : DEnv) : out (none : Option α) e = none := rfl
theorem out_inv {α : Type} {r : Option α} {e : DEnv} {p : α × DEnv} (h : out r e = some p) : r = some p.1 ∧ e = p.2 := by
  cases r with
  | none => cases h
  | some a => cases h; exact ⟨rfl, rfl⟩

/-! ### what they say of the text -/
def tD (K : PySem.W.Frag) (TP : List Addr) (f : EF) : TE := fun σ H Q => ∃ F G env d env', f env = some (d, env') ∧ EnvR K F TP G H σ env ∧
  ∀ v G' H', Gr F G G' → EnvR K F TP G' H' σ env' → Dq K G' v d → Q v H'
def tO (K : PySem.W.Frag) (TP : List Addr) (f : OF) : TE := fun σ H Q => ∃ F G env c env', f env = some (c, env') ∧ EnvR K F TP G H σ env ∧
  ∀ v G' H', Gr F G G' → EnvR K F TP G' H' (σ ++ [some v]) (env' ++ [c]) → Q v H'
def tB' (K : PySem.W.Frag) (TP : List Addr) (f : BF) : TT := fun σ H Q => ∃ F G env b env', f env = some (b, env') ∧ EnvR K F TP G H σ env ∧
  ∀ G' H', Gr F G G' → EnvR K F TP G' H' σ env' → Q b H'
def tA' (K : PySem.W.Frag) (TP : List Addr) (f : AF) : TA := fun σ H Q => ∃ F G env ds env', f env = some (ds, env') ∧ EnvR K F TP G H σ env ∧
  ∀ vs G' H', Gr F G G' → EnvR K F TP G' H' σ env' → DqAll K G' vs ds → Q vs H'
structure PD (X : Cx) (TP : List Addr) (e : Expr) (f : EF) : Prop where
  pe : PE X e (tD X.K TP f)
structure PO (X : Cx) (TP : List Addr) (e : Expr) (f : OF) : Prop where
  pe : PE X e (tO X.K TP f)
structure PB (X : Cx) (TP : List Addr) (e : Expr) (f : BF) : Prop where
  pt : PT X e (tB' X.K TP f)
structure PL (X : Cx) (TP : List Addr) (es : List Expr) (f : AF) : Prop where
  pa : PA X es (tA' X.K TP f)
end DL
namespace L2
theorem PE.imp {X : Cx} {e : PySem.Expr} {t t' : TE} (h : PE X e t) (w : ∀ σ H Q, t' σ H Q → t σ H Q) : PE X e t' := ⟨fun pins s σ H Q I q => h.run pins s σ H Q I (w _ _ _ q)⟩
theorem PT.imp {X : Cx} {e : PySem.Expr} {t t' : TT} (h : PT X e t) (w : ∀ σ H Q, t' σ H Q → t σ H Q) : PT X e t' := ⟨fun pins s σ H Q I q => h.run pins s σ H Q I (w _ _ _ q)⟩
theorem PW.imp {X : Cx} {e : PySem.Expr} {t t' : TT} (h : PW X e t) (w : ∀ σ H Q, t' σ H Q → t σ H Q) : PW X e t' := ⟨fun wh pins s σ H Q I q => h.run wh pins s σ H Q I (w _ _ _ q)⟩
theorem PA.imp {X : Cx} {e : List PySem.Expr} {t t' : TA} (h : PA X e t) (w : ∀ σ H Q, t' σ H Q → t σ H Q) : PA X e t' := ⟨fun pos pins s σ H Q I q => h.run pos pins s σ H Q I (w _ _ _ q)⟩
theorem PS.imp {X : Cx} {e : PySem.Stmt} {t t' : TS} (h : PS X e t) (w : ∀ D σ H, t' D σ H → t D σ H) : PS X e t' := ⟨fun pins s σ H D I q => h.run pins s σ H D I (w _ _ _ q)⟩
theorem PSs.imp {X : Cx} {e : List PySem.Stmt} {t t' : TS} (h : PSs X e t) (w : ∀ D σ H, t' D σ H → t D σ H) : PSs X e t' := ⟨fun pins s σ H D I q => h.run pins s σ H D I (w _ _ _ q)⟩
end L2
namespace DL
open PySem PySem.Spec PyProof.Rows L2
section
variable {X : Cx} {TP : List Addr} {a b c e : Expr} {es : List Expr} {f g h fa fb fc : EF} {pos : Pos}

/-! ### names, constants -/
def fVar (i : Nat) : EF := fun env => match env[i]? with
  | some (.sh d) => some (d, env)
  | some (.ow ds) => some (.list ds, env.set i (.sh (.list ds)))
  | _ => none
theorem d_var (i : Nat) {x : Str} {pos : Pos} (hN : X.N[i]? = some x := by rfl) (hv : Vis X.env.scope x := by first | exact Or.inl rfl | exact Or.inr (Or.inl rfl) | exact Or.inr (Or.inr rfl)) (hd : (x == ("__debug__" : Str)) = false := by decide)
    (hcd : (x == ("__classdict__" : Str)) = false := by decide) : PD X TP (.Name x pos) (fVar i) := by
  refine ⟨(pe_var hN hv hd hcd).imp fun σ H Q ⟨F, G, env, d, env', hf, E, q⟩ => ?_⟩
  unfold fVar at hf
  split at hf
  · rename_i d' h
    cases hf
    obtain ⟨x, e, hx⟩ := E.get h
    exact ⟨x, e, q x G H Gr.refl E hx⟩
  · rename_i ds h
    cases hf
    obtain ⟨G', a, sg, e, E', hd⟩ := E.freeze h
    exact ⟨_, e, q _ G' H sg E' hd⟩
  · cases hf
def fC (d : D) : EF := fun env => some (d, env)
theorem d_c {v : V} {d : D} (h : PE X e (tC v)) (hd : ∀ G, Dq X.K G v d) : PD X TP e (fC d) := by
  refine ⟨h.imp fun σ H Q ⟨F, G, env, d, env', hf, E, q⟩ => ?_⟩
  cases hf
  exact q v G H Gr.refl E (hd G)
theorem d_int {i j pos} : PD X TP (.Constant (.int i) j pos) (fC (.int i)) := d_c pe_int fun _ => .int i
theorem d_bl {b j pos} : PD X TP (.Constant (.bool b) j pos) (fC (.bool b)) := d_c pe_bl fun _ => .bl b
theorem d_non {j pos} : PD X TP (.Constant .none j pos) (fC .none) := d_c pe_non fun _ => .non
theorem d_str {x j pos} : PD X TP (.Constant (.str x) j pos) (fC (.str x)) := d_c pe_str fun _ => .str x

/-! ### lists of arguments -/
def aNil : AF := fun env => some ([], env)
def aCons (f : EF) (r : AF) : AF := fun env => bnd (f env) fun d e1 => bnd (r e1) fun ds e2 => some (d :: ds, e2)
theorem l_nil : PL X TP [] aNil := by
  refine ⟨pa_nil.imp fun σ H Q ⟨F, G, env, d, env', hf, E, q⟩ => ?_⟩
  cases hf
  exact q [] G H Gr.refl E .nil
theorem l_cons {r : AF} (ha : PD X TP e f) (hr : PL X TP es r) (hs : starEach (e :: es) X.env = (false, eval e X.env) :: starEach es X.env := by rfl) : PL X TP (e :: es) (aCons f r) := by
  refine ⟨(pa_cons ha.pe hr.pa hs).imp fun σ H Q ⟨F, G, env, d, env', hf, E, q⟩ => ?_⟩
  obtain ⟨d1, e1, h1, hf⟩ := bnd_inv hf
  obtain ⟨ds, e2, h2, hf⟩ := bnd_inv hf
  cases hf
  refine ⟨F, G, env, d1, e1, h1, E, fun v G1 H1 s1 E1 r1 => ?_⟩
  refine ⟨F, G1, e1, ds, _, h2, E1, fun vs G2 H2 s2 E2 r2 => ?_⟩
  exact q _ G2 H2 (s1.trans s2) E2 (.cons (dpMono s2.s _ r1) r2)

/-! ### operators: g tells the answer, over data -/
/-- r, over data; the answer may be a new shared thing -/
def OpD (K : PySem.W.Frag) (r : R2) (g : D → D → Option D) : Prop := ∀ {G H : Hp} {x y : V} {a b d : D} {Q : VK}, g a b = some d → Same G H → Dq K G x a → Dq K G y b →
  (∀ v G' H', Ext G H G' H' → Dq K G' v d → Q v H') → r x y H Q
/-- .. a truth value -/
def OpB (K : PySem.W.Frag) (r : R2) (g : D → D → Option Bool) : Prop := ∀ {G H : Hp} {x y : V} {a b : D} {k : Bool} {Q : VK}, g a b = some k → Same G H → Dq K G x a → Dq K G y b → Q (.bl k) H → r x y H Q
def UnD (K : PySem.W.Frag) (r : V → Hp → VK → Prop) (g : D → Option D) : Prop := ∀ {G H : Hp} {x : V} {a d : D} {Q : VK}, g a = some d → Same G H → Dq K G x a →
  (∀ v G' H', Ext G H G' H' → Dq K G' v d → Q v H') → r x H Q
def CallD (K : PySem.W.Frag) (r : List V → Hp → VK → Prop) (g : List D → Option D) : Prop := ∀ {G H : Hp} {xs : List V} {as : List D} {d : D} {Q : VK}, g as = some d → Same G H → DqAll K G xs as →
  (∀ v G' H', Ext G H G' H' → Dq K G' v d → Q v H') → r xs H Q
def fOp (g : D → D → Option D) (fa fb : EF) : EF := fun env => bnd (fa env) fun a e1 => bnd (fb e1) fun b e2 => out (g a b) e2
def fUn (g : D → Option D) (fa : EF) : EF := fun env => bnd (fa env) fun a e1 => out (g a) e1
def fCmp (g : D → D → Option Bool) (fa fb : EF) : EF := fun env => bnd (fa env) fun a e1 => bnd (fb e1) fun b e2 => bnd (out (g a b) e2) fun k e3 => some (.bool k, e3)
def bCmp (g : D → D → Option Bool) (fa fb : EF) : BF := fun env => bnd (fa env) fun a e1 => bnd (fb e1) fun b e2 => out (g a b) e2
theorem d_opT {r : R2} {gg : D → D → Option D} (hd : OpD X.K r gg) {t : TE} (w : PE X e t) (ht : t = tOp r (tD X.K TP fa) (tD X.K TP fb)) : PD X TP e (fOp gg fa fb) := by
  subst ht
  refine ⟨w.imp fun σ H Q ⟨F, G, env, d, env', hf, E, q⟩ => ?_⟩
  obtain ⟨a1, e1, h1, hf⟩ := bnd_inv hf
  obtain ⟨b1, e2, h2, hf⟩ := bnd_inv hf
  obtain ⟨h3, h4⟩ := out_inv hf
  cases h4
  refine ⟨F, G, env, a1, e1, h1, E, fun v G1 H1 s1 E1 r1 => ?_⟩
  refine ⟨F, G1, e1, b1, _, h2, E1, fun u G2 H2 s2 E2 r2 => ?_⟩
  refine hd h3 E2.wd.sub (dpMono s2.s _ r1) r2 fun z G3 H3 x r3 => ?_
  exact q _ G3 H3 ((s1.trans s2).trans (x.gr E2.wd.fr)) (E2.ext x) r3
theorem d_op {op : Operator} {r : R2} {gg : D → D → Option D} (ho : OpR X (binaryOp op) r) (hd : OpD X.K r gg) (ha : PD X TP a fa) (hb : PD X TP b fb) : PD X TP (.BinOp a op b pos) (fOp gg fa fb) :=
  d_opT hd (pe_op ho ha.pe hb.pe) rfl
theorem d_ix {r : R2} {gg : D → D → Option D} (ho : IxR X r) (hd : OpD X.K r gg) (ha : PD X TP a fa) (hb : PD X TP b fb) (hs : PlainIx b := by exact fun _ _ => rfl) : PD X TP (.Subscript a b pos) (fOp gg fa fb) :=
  d_opT hd (pe_ix ho ha.pe hb.pe hs) rfl
theorem d_un {op : UnaryOp} {r : V → Hp → VK → Prop} {gg : D → Option D} (ho : UnR X (unaryOp op) r) (hd : UnD X.K r gg) (ha : PD X TP a fa) : PD X TP (.UnaryOp op a pos) (fUn gg fa) := by
  refine ⟨(pe_un ho ha.pe).imp fun σ H Q ⟨F, G, env, d, env', hf, E, q⟩ => ?_⟩
  obtain ⟨a1, e1, h1, hf⟩ := bnd_inv hf
  obtain ⟨h3, h4⟩ := out_inv hf
  cases h4
  refine ⟨F, G, env, a1, _, h1, E, fun v G1 H1 s1 E1 r1 => ?_⟩
  refine hd h3 E1.wd.sub r1 fun z G3 H3 x r3 => ?_
  exact q _ G3 H3 (s1.trans (x.gr E1.wd.fr)) (E1.ext x) r3
theorem opB_D {K : PySem.W.Frag} {r : R2} {gg : D → D → Option Bool} (hd : OpB K r gg) : OpD K r (fun a b => (gg a b).map .bool) := by
  intro G H x y a b d Q h s ra rb q
  have h : (gg a b).map PyData.bool = some d := h
  cases e : gg a b with
  | none => rw [e] at h; cases h
  | some k => rw [e] at h; cases h; exact hd e s ra rb (q _ G H (Ext.refl s) (.bl k))
theorem d_cmp {op : CmpOp} {r : R2} {gg : D → D → Option Bool} (ho : OpR X (compareOp op) r) (hd : OpB X.K r gg) (ha : PD X TP a fa) (hb : PD X TP b fb) (hm : behindInMarks op b = false := by first | exact nobehind _ (by decide) (by decide) | rfl) :
    PD X TP (.Compare a [op] [b] pos) (fCmp gg fa fb) := by
  refine ⟨(d_opT (opB_D hd) (pe_cmpR ho ha.pe hb.pe hm) rfl).pe.imp fun σ H Q ⟨F, G, env, d, env', hf, E, q⟩ => ⟨F, G, env, d, env', ?_, E, q⟩⟩
  obtain ⟨a1, e1, h1, hf⟩ := bnd_inv hf
  obtain ⟨b1, e2, h2, hf⟩ := bnd_inv hf
  obtain ⟨k, e3, h3, hf⟩ := bnd_inv hf
  obtain ⟨h5, h4⟩ := out_inv h3
  cases hf; cases h4
  show fOp _ fa fb env = _
  unfold fOp
  rw [h1, bnd_some, h2, bnd_some]
  show out ((gg a1 b1).map PyData.bool) _ = _
  have h6 : gg a1 b1 = some k := h5
  rw [h6]; rfl
theorem b_cmp {op : CmpOp} {r : R2} {gg : D → D → Option Bool} (ho : OpR X (compareOp op) r) (hd : OpB X.K r gg) (ha : PD X TP a fa) (hb : PD X TP b fb) (hm : behindInMarks op b = false := by first | exact nobehind _ (by decide) (by decide) | rfl) :
    PB X TP (.Compare a [op] [b] pos) (bCmp gg fa fb) := by
  refine ⟨(pt_cmpR ho ha.pe hb.pe hm).imp fun σ H Q ⟨F, G, env, d, env', hf, E, q⟩ => ?_⟩
  obtain ⟨a1, e1, h1, hf⟩ := bnd_inv hf
  obtain ⟨b1, e2, h2, hf⟩ := bnd_inv hf
  obtain ⟨h3, h4⟩ := out_inv hf
  cases h4
  refine ⟨F, G, env, a1, e1, h1, E, fun v G1 H1 s1 E1 r1 => ?_⟩
  refine ⟨F, G1, e1, b1, _, h2, E1, fun u G2 H2 s2 E2 r2 => ?_⟩
  exact hd h3 E2.wd.sub (dpMono s2.s _ r1) r2 ⟨_, rfl, q G2 H2 (s1.trans s2) E2⟩

/-! ### tests -/
def bVal (f : EF) : BF := fun env => match f env with
  | some (.bool k, e) => some (k, e)
  | _ => none
theorem b_val (ha : PD X TP e f) (he : ∀ whole, isTrue e X.env whole = (do let v ← whole; standAt e.pos; holding [v] (truthy v)) := by intro _; rfl) : PB X TP e (bVal f) := by
  refine ⟨(pt_val ha.pe he).imp fun σ H Q ⟨F, G, env, d, env', hf, E, q⟩ => ?_⟩
  unfold bVal at hf
  split at hf
  · rename_i k e1 h1
    cases hf
    refine ⟨F, G, env, _, _, h1, E, fun v G1 H1 s1 E1 r1 => ?_⟩
    cases r1
    exact ⟨_, rfl, q G1 H1 s1 E1⟩
  · cases hf
/-- the truth of data -/
def gTru : D → Option Bool
  | .none => some false
  | .bool b => some b
  | .int i => some (i != 0)
  | .list xs => some (!xs.isEmpty)
  | .tuple xs => some (!xs.isEmpty)
  | _ => none
def bTru (f : EF) : BF := fun env => bnd (f env) fun d e => out (gTru d) e
theorem empty_of {K : PySem.W.Frag} {G : Hp} {vs : List V} {ds : List D} (h : DqAll K G vs ds) : (!ds.isEmpty) = !vs.isEmpty := by cases h <;> rfl
theorem tru_of {K : PySem.W.Frag} {G H : Hp} {v : V} {d : D} {k : Bool} (h : gTru d = some k) (s : Same G H) (r : Dq K G v d) : TruV K v H k := by
  cases r with
  | non => cases h; rfl
  | bl b => cases h; rfl
  | int i => cases h; rfl
  | str x => cases h
  | lst q r => cases h; exact .inl ⟨_, s.seq q, empty_of r⟩
  | tup q r => cases h; exact .inr (.inl ⟨_, sameT s q, empty_of r⟩)
  | dK _ _ => cases h
  | dT _ _ => cases h
  | dX _ _ _ => cases h
theorem b_tru (ha : PD X TP e f) (he : ∀ whole, isTrue e X.env whole = (do let v ← whole; standAt e.pos; holding [v] (truthy v)) := by intro _; rfl) : PB X TP e (bTru f) := by
  refine ⟨(pt_truth ha.pe he).imp fun σ H Q ⟨F, G, env, d, env', hf, E, q⟩ => ?_⟩
  obtain ⟨a1, e1, h1, hf⟩ := bnd_inv hf
  obtain ⟨h3, h4⟩ := out_inv hf
  cases h4
  exact ⟨F, G, env, a1, _, h1, E, fun v G1 H1 s1 E1 r1 => ⟨_, tru_of h3 E1.wd.sub r1, q G1 H1 s1 E1⟩⟩
def bNot (f : BF) : BF := fun env => bnd (f env) fun k e => some (!k, e)
def bAnd (f g : BF) : BF := fun env => bnd (f env) fun k e => if k then g e else some (false, e)
def bOr (f g : BF) : BF := fun env => bnd (f env) fun k e => if k then some (true, e) else g e
section
variable {p q : BF} {rest : List Expr}
theorem b_not (ha : PB X TP a p) : PB X TP (.UnaryOp .Not a pos) (bNot p) := by
  refine ⟨(pt_not ha.pt).imp fun σ H Q ⟨F, G, env, d, env', hf, E, q⟩ => ?_⟩
  obtain ⟨a1, e1, h1, hf⟩ := bnd_inv hf
  cases hf
  exact ⟨F, G, env, a1, _, h1, E, fun G1 H1 s1 E1 => q G1 H1 s1 E1⟩
/-- a chain of and, or: whatever its whole is -/
structure PBw (X : Cx) (TP : List Addr) (e : Expr) (f : BF) : Prop where
  pw : PW X e (tB' X.K TP f)
theorem PBw.pb (h : PBw X TP e p) : PB X TP e p := ⟨h.pw.pt⟩
theorem bw_and1 (ha : PB X TP a p) : PBw X TP (.BoolOp .And [a] pos) p := ⟨pw_and1 ha.pt⟩
theorem bw_or1 (ha : PB X TP a p) : PBw X TP (.BoolOp .Or [a] pos) p := ⟨pw_or1 ha.pt⟩
theorem bw_and (ha : PB X TP a p) (hb : PBw X TP (.BoolOp .And (b :: rest) pos) q) : PBw X TP (.BoolOp .And (a :: b :: rest) pos) (bAnd p q) := by
  refine ⟨(pw_and ha.pt hb.pw).imp fun σ H Q ⟨F, G, env, d, env', hf, E, w⟩ => ?_⟩
  obtain ⟨k, e1, h1, hf⟩ := bnd_inv hf
  refine ⟨F, G, env, k, e1, h1, E, fun G1 H1 s1 E1 => ?_⟩
  cases k with
  | true => rw [if_pos rfl] at hf ⊢; exact ⟨F, G1, e1, _, _, hf, E1, fun G2 H2 s2 E2 => w G2 H2 (s1.trans s2) E2⟩
  | false => rw [if_neg Bool.false_ne_true] at hf ⊢; cases hf; exact w G1 H1 s1 E1
theorem bw_or (ha : PB X TP a p) (hb : PBw X TP (.BoolOp .Or (b :: rest) pos) q) : PBw X TP (.BoolOp .Or (a :: b :: rest) pos) (bOr p q) := by
  refine ⟨(pw_or ha.pt hb.pw).imp fun σ H Q ⟨F, G, env, d, env', hf, E, w⟩ => ?_⟩
  obtain ⟨k, e1, h1, hf⟩ := bnd_inv hf
  refine ⟨F, G, env, k, e1, h1, E, fun G1 H1 s1 E1 => ?_⟩
  cases k with
  | true => rw [if_pos rfl] at hf ⊢; cases hf; exact w G1 H1 s1 E1
  | false => rw [if_neg Bool.false_ne_true] at hf ⊢; exact ⟨F, G1, e1, _, _, hf, E1, fun G2 H2 s2 E2 => w G2 H2 (s1.trans s2) E2⟩
end
/-- and, or, not as values: truth values -/
def fAnd (f g : EF) : EF := fun env => match f env with
  | some (.bool true, e) => g e
  | some (.bool false, e) => some (.bool false, e)
  | _ => none
def fOr (f g : EF) : EF := fun env => match f env with
  | some (.bool true, e) => some (.bool true, e)
  | some (.bool false, e) => g e
  | _ => none
def fNot (f : EF) : EF := fun env => match f env with
  | some (.bool k, e) => some (.bool (!k), e)
  | _ => none
theorem d_one {op} (h : PD X TP a f) : PD X TP (.BoolOp op [a] pos) f := ⟨pe_one h.pe⟩
theorem d_and {rest : List Expr} (ha : PD X TP a f) (hb : PD X TP (.BoolOp .And (b :: rest) pos) g) : PD X TP (.BoolOp .And (a :: b :: rest) pos) (fAnd f g) := by
  refine ⟨(pe_and ha.pe hb.pe).imp fun σ H Q ⟨F, G, env, d, env', hf, E, w⟩ => ?_⟩
  unfold fAnd at hf
  split at hf
  · rename_i e1 h1
    refine ⟨F, G, env, _, e1, h1, E, fun v G1 H1 s1 E1 r => ?_⟩
    cases r
    exact ⟨true, rfl, by rw [if_pos rfl]; exact ⟨F, G1, e1, _, _, hf, E1, fun v G2 H2 s2 E2 r2 => w v G2 H2 (s1.trans s2) E2 r2⟩⟩
  · rename_i e1 h1
    cases hf
    refine ⟨F, G, env, _, _, h1, E, fun v G1 H1 s1 E1 r => ?_⟩
    cases r
    exact ⟨false, rfl, by rw [if_neg Bool.false_ne_true]; exact w _ G1 H1 s1 E1 (.bl _)⟩
  · cases hf
theorem d_or {rest : List Expr} (ha : PD X TP a f) (hb : PD X TP (.BoolOp .Or (b :: rest) pos) g) : PD X TP (.BoolOp .Or (a :: b :: rest) pos) (fOr f g) := by
  refine ⟨(pe_or ha.pe hb.pe).imp fun σ H Q ⟨F, G, env, d, env', hf, E, w⟩ => ?_⟩
  unfold fOr at hf
  split at hf
  · rename_i e1 h1
    cases hf
    refine ⟨F, G, env, _, _, h1, E, fun v G1 H1 s1 E1 r => ?_⟩
    cases r
    exact ⟨true, rfl, by rw [if_pos rfl]; exact w _ G1 H1 s1 E1 (.bl _)⟩
  · rename_i e1 h1
    refine ⟨F, G, env, _, e1, h1, E, fun v G1 H1 s1 E1 r => ?_⟩
    cases r
    exact ⟨false, rfl, by rw [if_neg Bool.false_ne_true]; exact ⟨F, G1, e1, _, _, hf, E1, fun v G2 H2 s2 E2 r2 => w v G2 H2 (s1.trans s2) E2 r2⟩⟩
  · cases hf
theorem d_not (ha : PD X TP a f) : PD X TP (.UnaryOp .Not a pos) (fNot f) := by
  refine ⟨(pe_not ha.pe).imp fun σ H Q ⟨F, G, env, d, env', hf, E, w⟩ => ?_⟩
  unfold fNot at hf
  split at hf
  · rename_i k e1 h1
    cases hf
    refine ⟨F, G, env, _, _, h1, E, fun v G1 H1 s1 E1 r => ?_⟩
    cases r
    exact ⟨k, rfl, w _ G1 H1 s1 E1 (.bl _)⟩
  · cases hf
def fIf (c : BF) (f g : EF) : EF := fun env => bnd (c env) fun k e => if k then f e else g e
theorem d_if {k : BF} (hc : PB X TP c k) (ha : PD X TP a f) (hb : PD X TP b g) : PD X TP (.IfExp c a b pos) (fIf k f g) := by
  refine ⟨(pe_ifExp hc.pt ha.pe hb.pe).imp fun σ H Q ⟨F, G, env, d, env', hf, E, w⟩ => ?_⟩
  obtain ⟨kk, e1, h1, hf⟩ := bnd_inv hf
  refine ⟨F, G, env, kk, e1, h1, E, fun G1 H1 s1 E1 => ?_⟩
  cases kk with
  | true => rw [if_pos rfl] at hf ⊢; exact ⟨F, G1, e1, _, _, hf, E1, fun v G2 H2 s2 E2 => w v G2 H2 (s1.trans s2) E2⟩
  | false => rw [if_neg Bool.false_ne_true] at hf ⊢; exact ⟨F, G1, e1, _, _, hf, E1, fun v G2 H2 s2 E2 => w v G2 H2 (s1.trans s2) E2⟩

/-! ### displays -/
def fTup (r : AF) : EF := fun env => bnd (r env) fun ds e => if ds.length ≤ sizeLine then some (.tuple ds, e) else none
theorem d_tup {r : AF} {k : Nat} (h : PL X TP es r) : PD X TP (.Tuple es k pos) (fTup r) := by
  refine ⟨(pe_tup h.pa).imp fun σ H Q ⟨F, G, env, d, env', hf, E, w⟩ => ?_⟩
  obtain ⟨ds, e1, h1, hf⟩ := bnd_inv hf
  split at hf
  · rename_i hz
    cases hf
    refine ⟨F, G, env, ds, _, h1, E, fun vs G1 H1 s1 E1 r1 => ⟨by rw [dpAll_len r1]; exact hz, fun p hp => ?_⟩⟩
    have x := Ext.new1 (o := .tup vs) E1.wd.sub hp
    exact w _ _ _ (s1.trans (x.gr E1.wd.fr)) (E1.ext x) (.tup (.inl (.inl upd_same)) (dpAllMono x.g _ r1))
  · cases hf
def oLst (r : AF) : OF := fun env => bnd (r env) fun ds e => if ds.length ≤ sizeLine then some (.ow ds, e) else none
theorem o_lst {r : AF} (h : PL X TP es r) : PO X TP (.List es pos) (oLst r) := by
  refine ⟨(pe_lst h.pa).imp fun σ H Q ⟨F, G, env, d, env', hf, E, w⟩ => ?_⟩
  obtain ⟨ds, e1, h1, hf⟩ := bnd_inv hf
  split at hf
  · rename_i hz
    cases hf
    refine ⟨F, G, env, ds, _, h1, E, fun vs G1 H1 s1 E1 r1 => ⟨by rw [dpAll_len r1]; exact hz, fun p hp => ?_⟩⟩
    exact w _ G1 _ s1 (E1.snoc_new hp ⟨p, vs, rfl, rfl, upd_same, r1⟩)
  · cases hf
/-- one's own, handed to all -/
def fFrz (o : OF) : EF := fun env => match o env with
  | some (.ow ds, e) => some (.list ds, e)
  | some (.sh d, e) => some (d, e)
  | _ => none
theorem d_frz {o : OF} (h : PO X TP e o) : PD X TP e (fFrz o) := by
  refine ⟨h.pe.imp fun σ H Q ⟨F, G, env, d, env', hf, E, w⟩ => ?_⟩
  unfold fFrz at hf
  split at hf
  · rename_i ds e1 h1
    cases hf
    refine ⟨F, G, env, _, _, h1, E, fun v G1 H1 s1 E1 => ?_⟩
    obtain ⟨G', x, sg, ex, E', hd⟩ := E1.freezeL
    cases ex
    exact w _ G' H1 (s1.trans sg) E' hd
  · rename_i d e1 h1
    cases hf
    refine ⟨F, G, env, _, _, h1, E, fun v G1 H1 s1 E1 => ?_⟩
    obtain ⟨x, ex, hd⟩ := E1.last
    cases ex
    exact w _ G1 H1 s1 E1.unsnoc hd
  · cases hf
/-- what is all's, where one's own might stand -/
def oSh (f : EF) : OF := fun env => bnd (f env) fun d e => some (.sh d, e)
theorem o_sh (h : PD X TP e f) : PO X TP e (oSh f) := by
  refine ⟨h.pe.imp fun σ H Q ⟨F, G, env, d, env', hf, E, w⟩ => ?_⟩
  obtain ⟨d1, e1, h1, hf⟩ := bnd_inv hf
  cases hf
  exact ⟨F, G, env, _, _, h1, E, fun v G1 H1 s1 E1 r => w _ G1 H1 s1 (E1.snoc_sh r)⟩
end
end DL
namespace DL
open PySem PySem.Spec PyProof.Rows L2

/-! ### calls of defs -/
/-- what is handed in: data, or what stands in a slot of one's own -/
inductive Arg where
  | v (d : D)
  | s (i : Nat)
abbrev CAF := DEnv → Option (List Arg × DEnv)
/-- a def: the arguments' cells give the answer's cell and the arguments' cells behind -/
abbrev CF := List Cell → Option (Cell × List Cell)
def ArgsR (K : PySem.W.Frag) (G : Hp) (σ : Sl) : List V → List Arg → Prop
  | [], [] => True
  | v :: vs, .v d :: as => Dq K G v d ∧ ArgsR K G σ vs as
  | v :: vs, .s i :: as => σ[i]? = some (some v) ∧ ArgsR K G σ vs as
  | _, _ => False
def tC' (K : PySem.W.Frag) (TP : List Addr) (f : CAF) : TA := fun σ H Q => ∃ F G env as env', f env = some (as, env') ∧ EnvR K F TP G H σ env ∧
  ∀ vs G' H', Gr F G G' → EnvR K F TP G' H' σ env' → ArgsR K G' σ vs as → Q vs H'
structure PC' (X : Cx) (TP : List Addr) (es : List Expr) (f : CAF) : Prop where
  pa : PA X es (tC' X.K TP f)
def cNil : CAF := fun env => some ([], env)
def cCons (f : EF) (r : CAF) : CAF := fun env => bnd (f env) fun d e1 => bnd (r e1) fun ds e2 => some (.v d :: ds, e2)
def cSlot (i : Nat) (r : CAF) : CAF := fun env => bnd (r env) fun ds e2 => some (.s i :: ds, e2)
theorem argsMono {K : PySem.W.Frag} {G G' : Hp} {σ : Sl} (h : Same G G') : ∀ {vs : List V} {as : List Arg}, ArgsR K G σ vs as → ArgsR K G' σ vs as
  | [], [], _ => trivial
  | _ :: _, .v _ :: _, ⟨a, r⟩ => ⟨dpMono h _ a, argsMono h r⟩
  | _ :: _, .s _ :: _, ⟨a, r⟩ => ⟨a, argsMono h r⟩
section
variable {X : Cx} {TP : List Addr} {e : Expr} {es : List Expr} {f : EF}
theorem c_nil : PC' X TP [] cNil := by
  refine ⟨pa_nil.imp fun σ H Q ⟨F, G, env, d, env', hf, E, q⟩ => ?_⟩
  cases hf
  exact q [] G H Gr.refl E trivial
theorem c_cons {r : CAF} (ha : PD X TP e f) (hr : PC' X TP es r) (hs : starEach (e :: es) X.env = (false, eval e X.env) :: starEach es X.env := by rfl) : PC' X TP (e :: es) (cCons f r) := by
  refine ⟨(pa_cons ha.pe hr.pa hs).imp fun σ H Q ⟨F, G, env, d, env', hf, E, q⟩ => ?_⟩
  obtain ⟨d1, e1, h1, hf⟩ := bnd_inv hf
  obtain ⟨ds, e2, h2, hf⟩ := bnd_inv hf
  cases hf
  refine ⟨F, G, env, d1, e1, h1, E, fun v G1 H1 s1 E1 r1 => ?_⟩
  refine ⟨F, G1, e1, ds, _, h2, E1, fun vs G2 H2 s2 E2 r2 => ?_⟩
  exact q _ G2 H2 (s1.trans s2) E2 ⟨dpMono s2.s _ r1, r2⟩
def own? (c : Option Cell) : Bool := match c with
  | some c => c.owned
  | none => false
theorem EnvR.slot {K : PySem.W.Frag} {F : Hp} {TP : List Addr} {G H : Hp} {σ : Sl} {env : DEnv} (E : EnvR K F TP G H σ env) {i : Nat} {c : Cell} (h : env[i]? = some c) (hc : c.owned = true) : ∃ a, σ[i]? = some (some (.ref a)) := by
  obtain ⟨W, l, o, ho, hcl⟩ := E
  have hi : i < σ.length := by rw [l]; exact (List.getElem?_eq_some_iff.mp h).1
  have hc' := hcl i c _ h (List.getElem?_eq_getElem hi)
  rw [List.getElem?_eq_getElem hi]
  cases c with
  | un => cases hc
  | sh _ => cases hc
  | raw _ => cases hc
  | ow _ => obtain ⟨a, _, e, _⟩ := hc'; exact ⟨a, by rw [e]⟩
  | dk _ => obtain ⟨a, _, e, _⟩ := hc'; exact ⟨a, by rw [e]⟩
  | dt _ => obtain ⟨a, _, e, _⟩ := hc'; exact ⟨a, by rw [e]⟩
def cSlot' (i : Nat) (r : CAF) : CAF := fun env => if own? env[i]? then cSlot i r env else none
theorem c_slot (i : Nat) {x : Str} {pos : Pos} {r : CAF} (hr : PC' X TP es r) (hN : X.N[i]? = some x := by rfl) (hv : Vis X.env.scope x := by first | exact Or.inl rfl | exact Or.inr (Or.inl rfl) | exact Or.inr (Or.inr rfl)) (hd : (x == ("__debug__" : Str)) = false := by decide)
    (hcd : (x == ("__classdict__" : Str)) = false := by decide) (hs : starEach (.Name x pos :: es) X.env = (false, eval (.Name x pos) X.env) :: starEach es X.env := by rfl) : PC' X TP (.Name x pos :: es) (cSlot' i r) := by
  refine ⟨(pa_cons (pe_var hN hv hd hcd) hr.pa hs).imp fun σ H Q ⟨F, G, env, d, env', hf, E, q⟩ => ?_⟩
  unfold cSlot' at hf
  split at hf
  · rename_i ho
    cases hc : env[i]? with
    | none => rw [hc] at ho; cases ho
    | some c =>
      rw [hc] at ho
      obtain ⟨a, ha⟩ := E.slot hc ho
      obtain ⟨ds, e2, h2, hf⟩ := bnd_inv hf
      cases hf
      refine ⟨_, ha, F, G, env, ds, _, h2, E, fun vs G2 H2 s2 E2 r2 => ?_⟩
      exact q _ G2 H2 s2 E2 ⟨ha, r2⟩
  · cases hf
end
def getCells (env : DEnv) : List Arg → Option (List Cell)
  | [] => some []
  | .v d :: as => match getCells env as with | some cs => some (.sh d :: cs) | none => none
  | .s i :: as => match env[i]?, getCells env as with | some c, some cs => if c.owned then some (c :: cs) else none | _, _ => none
def putCells : List Arg → List Cell → DEnv → DEnv
  | [], _, e => e
  | .v _ :: as, cs, e => putCells as (cs.drop 1) e
  | .s i :: as, c :: cs, e => putCells as cs (e.set i c)
  | .s _ :: as, [], e => putCells as [] e
def slotsOf : List Arg → List Nat
  | [] => []
  | .v _ :: as => slotsOf as
  | .s i :: as => i :: slotsOf as
/-- the promise of a def told by F -/
def SpD (K : PySem.W.Frag) (TP : List Addr) (F : CF) : Sp := fun vs H Q _ => ∃ Fr G cs r cs', F cs = some (r, cs') ∧ EnvR K Fr TP G H (vs.map some) cs ∧
  ∀ v G' H', Gr Fr G G' → EnvR K Fr TP G' H' (vs.map some ++ [some v]) (cs' ++ [r]) → Q v H'
def oCall (F : CF) (args : CAF) : OF := fun env => bnd (args env) fun as e1 => match getCells e1 as with
  | none => none
  | some cs => if (slotsOf as).Nodup then match F cs with
    | none => none
    | some (r, cs') => if cs'.length = cs.length then some (r, putCells as cs' e1) else none
    else none

theorem getCells_len {env : DEnv} : ∀ {as : List Arg} {cs : List Cell}, getCells env as = some cs → cs.length = as.length
  | [], cs, h => by cases h; rfl
  | .v d :: as, cs, h => by
    unfold getCells at h
    split at h
    · rename_i e; cases h; simp [getCells_len e]
    · cases h
  | .s i :: as, cs, h => by
    unfold getCells at h
    split at h
    · rename_i e; split at h
      · cases h; simp [getCells_len e]
      · cases h
    · cases h
theorem getCells_at {env : DEnv} : ∀ {as : List Arg} {cs : List Cell} {j : Nat} {c : Cell}, getCells env as = some cs → cs[j]? = some c → (∃ d, as[j]? = some (.v d) ∧ c = .sh d) ∨ (∃ i, as[j]? = some (.s i) ∧ env[i]? = some c ∧ c.owned = true)
  | [], cs, j, c, h, e => by cases h; simp at e
  | .v d :: as, cs, j, c, h, e => by
    unfold getCells at h
    split at h
    · rename_i cs' e'; cases h
      cases j with
      | zero => simp at e; subst e; exact .inl ⟨d, rfl, rfl⟩
      | succ j => exact getCells_at (as := as) e' (by simpa using e)
    · cases h
  | .s i :: as, cs, j, c, h, e => by
    unfold getCells at h
    split at h
    · rename_i c' cs' h1 h2
      split at h
      · rename_i ho
        cases h
        cases j with
        | zero => simp at e; subst e; exact .inr ⟨i, rfl, h1, ho⟩
        | succ j => exact getCells_at (as := as) h2 (by simpa using e)
      · cases h
    · cases h
theorem argsR_len {K : PySem.W.Frag} {G : Hp} {σ : Sl} : ∀ {vs : List V} {as : List Arg}, ArgsR K G σ vs as → vs.length = as.length
  | [], [], _ => rfl
  | _ :: _, .v _ :: _, ⟨_, r⟩ => congrArg (· + 1) (argsR_len r)
  | _ :: _, .s _ :: _, ⟨_, r⟩ => congrArg (· + 1) (argsR_len r)
theorem argsR_v {K : PySem.W.Frag} {G : Hp} {σ : Sl} : ∀ {vs : List V} {as : List Arg} {j : Nat} {d : D}, ArgsR K G σ vs as → as[j]? = some (.v d) → ∃ v, vs[j]? = some v ∧ Dq K G v d
  | [], [], _, _, _, e => by simp at e
  | v :: _, .v d' :: _, 0, d, ⟨a, _⟩, e => by simp at e; subst e; exact ⟨v, rfl, a⟩
  | _ :: vs, .v _ :: as, j + 1, d, ⟨_, r⟩, e => by simpa using argsR_v (vs := vs) (j := j) r (by simpa using e)
  | _ :: _, .s _ :: _, 0, d, _, e => by simp at e
  | _ :: vs, .s _ :: as, j + 1, d, ⟨_, r⟩, e => by simpa using argsR_v (vs := vs) (j := j) r (by simpa using e)
theorem argsR_s {K : PySem.W.Frag} {G : Hp} {σ : Sl} : ∀ {vs : List V} {as : List Arg} {j i : Nat}, ArgsR K G σ vs as → as[j]? = some (.s i) → ∃ v, vs[j]? = some v ∧ σ[i]? = some (some v)
  | [], [], _, _, _, e => by simp at e
  | v :: _, .s i' :: _, 0, i, ⟨a, _⟩, e => by simp at e; subst e; exact ⟨v, rfl, a⟩
  | _ :: vs, .v _ :: as, j + 1, i, ⟨_, r⟩, e => by simpa using argsR_s (vs := vs) (j := j) r (by simpa using e)
  | _ :: _, .v _ :: _, 0, i, _, e => by simp at e
  | _ :: vs, .s _ :: as, j + 1, i, ⟨_, r⟩, e => by simpa using argsR_s (vs := vs) (j := j) r (by simpa using e)
theorem putCells_len : ∀ (as : List Arg) (cs : List Cell) (e : DEnv), (putCells as cs e).length = e.length
  | [], _, e => rfl
  | .v _ :: as, cs, e => putCells_len as _ e
  | .s i :: as, c :: cs, e => by rw [putCells, putCells_len as cs]; simp
  | .s _ :: as, [], e => putCells_len as [] e
theorem mem_slotsOf : ∀ {as : List Arg} {i : Nat}, i ∈ slotsOf as ↔ ∃ j : Nat, as[j]? = some (.s i)
  | [], i => by simp [slotsOf]
  | .v d :: as, i => by
    rw [slotsOf, mem_slotsOf]
    constructor
    · rintro ⟨j, h⟩; exact ⟨j + 1, by simpa using h⟩
    · rintro ⟨j, h⟩
      cases j with
      | zero => simp at h
      | succ j => exact ⟨j, by simpa using h⟩
  | .s k :: as, i => by
    rw [slotsOf, List.mem_cons, mem_slotsOf]
    constructor
    · rintro (h | ⟨j, h⟩)
      · exact ⟨0, by simp [h]⟩
      · exact ⟨j + 1, by simpa using h⟩
    · rintro ⟨j, h⟩
      cases j with
      | zero => simp at h; exact .inl h.symm
      | succ j => exact .inr ⟨j, by simpa using h⟩
theorem putCells_out : ∀ {as : List Arg} {cs : List Cell} {e : DEnv} {k : Nat}, k ∉ slotsOf as → (putCells as cs e)[k]? = e[k]?
  | [], _, e, k, _ => rfl
  | .v _ :: as, cs, e, k, h => putCells_out (as := as) h
  | .s i :: as, c :: cs, e, k, h => by
    rw [putCells, putCells_out (as := as) (fun z => h (List.mem_cons_of_mem _ z)), List.getElem?_set_ne]
    intro z; exact h (by rw [slotsOf, z]; exact List.mem_cons_self)
  | .s _ :: as, [], e, k, h => putCells_out (as := as) (fun z => h (List.mem_cons_of_mem _ z))
theorem putCells_in : ∀ {as : List Arg} {cs : List Cell} {e : DEnv} {j k : Nat} {c : Cell}, (slotsOf as).Nodup → as[j]? = some (.s k) → cs[j]? = some c → k < e.length → (putCells as cs e)[k]? = some c
  | [], _, _, _, _, _, _, h, _, _ => by simp at h
  | .v _ :: as, cs, e, 0, k, c, nd, h, _, _ => by simp at h
  | .v _ :: as, cs, e, j + 1, k, c, nd, h, h2, hk => by
    rw [putCells]
    refine putCells_in (as := as) (j := j) nd (by simpa using h) ?_ hk
    rw [List.getElem?_drop]
    rw [Nat.add_comm]; exact h2
  | .s i :: as, c' :: cs, e, 0, k, c, nd, h, h2, hk => by
    simp at h h2; subst h h2
    rw [putCells, putCells_out (List.nodup_cons.mp nd).1, List.getElem?_set_self hk]
  | .s i :: as, c' :: cs, e, j + 1, k, c, nd, h, h2, hk => by
    rw [putCells]
    exact putCells_in (as := as) (j := j) (List.nodup_cons.mp nd).2 (by simpa using h) (by simpa using h2) (by simpa using hk)
  | .s i :: as, [], e, j, k, c, nd, h, h2, hk => by simp at h2

theorem slots_inj : ∀ {as : List Arg} {j k i : Nat}, (slotsOf as).Nodup → as[j]? = some (.s i) → as[k]? = some (.s i) → j = k
  | [], _, _, _, _, h, _ => by simp at h
  | .v _ :: as, j, k, i, nd, h1, h2 => by
    cases j with
    | zero => simp at h1
    | succ j => cases k with
      | zero => simp at h2
      | succ k => rw [slots_inj (as := as) (j := j) (k := k) nd (by simpa using h1) (by simpa using h2)]
  | .s l :: as, j, k, i, nd, h1, h2 => by
    have nd' := List.nodup_cons.mp nd
    cases j with
    | zero => cases k with
      | zero => rfl
      | succ k =>
        simp at h1; subst h1
        exact absurd (mem_slotsOf.mpr ⟨k, by simpa using h2⟩) nd'.1
    | succ j => cases k with
      | zero =>
        simp at h2; subst h2
        exact absurd (mem_slotsOf.mpr ⟨j, by simpa using h1⟩) nd'.1
      | succ k => rw [slots_inj (as := as) (j := j) (k := k) nd'.2 (by simpa using h1) (by simpa using h2)]

/-- the caller's side of a call -/
theorem call_env {K : PySem.W.Frag} {F : Hp} {TP : List Addr} {G H : Hp} {σ : Sl} {env : DEnv} {as : List Arg} {vs : List V} {cs : List Cell} (E : EnvR K F TP G H σ env) (ha : ArgsR K G σ vs as) (hg : getCells env as = some cs) (nd : (slotsOf as).Nodup) :
    ∃ Fr, EnvR K Fr TP G H (vs.map some) cs ∧ ∀ {v G' H' r cs'}, cs'.length = cs.length → Gr Fr G G' → EnvR K Fr TP G' H' (vs.map some ++ [some v]) (cs' ++ [r]) →
      Gr F G G' ∧ EnvR K F TP G' H' (σ ++ [some v]) (putCells as cs' env ++ [r]) := by
  classical
  obtain ⟨W, l, o, ho, hc⟩ := E
  have lc := getCells_len hg
  have lv := argsR_len ha
  let Fr : Hp := fun b => if b ∈ TP ∨ ∃ i ∈ slotsOf as, o b = some i then none else H b
  have FrH : Same Fr H := fun b u e => by
    have e : (if b ∈ TP ∨ ∃ i ∈ slotsOf as, o b = some i then none else H b) = some u := e
    split at e
    · cases e
    · exact e
  have FrOf : ∀ {b u}, H b = some u → b ∉ TP → (∀ i ∈ slotsOf as, o b ≠ some i) → Fr b = some u := fun {b u} e h1 h2 => by
    show (if b ∈ TP ∨ ∃ i ∈ slotsOf as, o b = some i then none else H b) = some u
    rw [if_neg]
    · exact e
    · rintro (z | ⟨i, hi, z⟩)
      · exact h1 z
      · exact h2 i hi z
  have GFr : Same G Fr := fun b u e => by
    refine FrOf (W.sub b u e) (fun z => ?_) (fun i _ z => ?_)
    · have := (W.tab b z).2.1; rw [this] at e; cases e
    · have := (ho b i z).1; rw [this] at e; cases e
  have FFr : Same F Fr := fun b u e => by
    refine FrOf (W.fr b u e) (fun z => ?_) (fun i _ z => ?_)
    · have := (W.tab b z).2.2; rw [this] at e; cases e
    · have := (ho b i z).2.1; rw [this] at e; cases e
  have FrT : ∀ P ∈ TP, Fr P = none := fun P hP => if_pos (.inl hP)
  have FrO : ∀ {b i}, i ∈ slotsOf as → o b = some i → Fr b = none := fun {b i} hi e => if_pos (.inr ⟨i, hi, e⟩)
  refine ⟨Fr, ⟨⟨W.sub, FrH, fun P hP => ⟨(W.tab P hP).1, (W.tab P hP).2.1, FrT P hP⟩⟩, by simp [lv, lc], fun b => (o b).bind fun i => if h : ∃ j : Nat, as[j]? = some (.s i) then some h.choose else none, fun b j e => ?_, fun j c v e1 e2 => ?_⟩, ?_⟩
  · have e : ((o b).bind fun i => if h : ∃ j : Nat, as[j]? = some (Arg.s i) then some h.choose else none) = some j := e
    cases q : o b with
    | none => rw [q] at e; cases e
    | some i =>
      rw [q] at e
      simp only [Option.bind_some] at e
      split at e
      · rename_i hx
        obtain ⟨g, f, t, u, hu⟩ := ho b i q
        exact ⟨g, FrO (mem_slotsOf.mpr hx) q, t, u, hu⟩
      · cases e
  · rcases getCells_at hg e1 with ⟨d, ea, rfl⟩ | ⟨i, ea, ei, hown⟩
    · obtain ⟨w, ew, dw⟩ := argsR_v ha ea
      rw [List.getElem?_map, ew] at e2
      cases e2
      exact ⟨w, rfl, dw⟩
    · obtain ⟨w, ew, hs⟩ := argsR_s ha ea
      rw [List.getElem?_map, ew] at e2
      cases e2
      refine cellImp (fun b hb => ?_) (hc i c _ ei hs)
      show ((o b).bind _) = some j
      have hb : o b = some i := hb
      rw [hb]
      simp only [Option.bind_some]
      have hx : ∃ j : Nat, as[j]? = some (Arg.s i) := ⟨j, ea⟩
      rw [dif_pos hx, slots_inj nd hx.choose_spec ea]
  · intro v G' H' r cs' hl hgr E'
    obtain ⟨W', l', o', ho', hc'⟩ := E'
    have lv' : vs.length = cs'.length := by rw [lv, hl, lc]
    have gr : Gr F G G' := ⟨hgr.s, fun b u e => (hgr.n b u e).imp id fun z => FFr.free z⟩
    refine ⟨gr, ⟨W'.sub, fun b u e => W'.fr b u (FFr b u e), fun P hP => ⟨(W'.tab P hP).1, (W'.tab P hP).2.1, (W.tab P hP).2.2⟩⟩, by simp [putCells_len, l], fun b => match o' b with
        | some j => if j < vs.length then (match as[j]? with | some (.s i) => some i | _ => none) else some env.length
        | none => match o b with
          | some i => if i ∈ slotsOf as then none else some i
          | none => none, fun b k e => ?_, fun k c w e1 e2 => ?_⟩
    · dsimp only at e
      cases q : o' b with
      | some j =>
        obtain ⟨g, f, t, u, hu⟩ := ho' b j q
        refine ⟨g, ?_, t, u, hu⟩
        exact FFr.free f
      | none =>
        rw [q] at e
        dsimp only at e
        cases q2 : o b with
        | none => rw [q2] at e; cases e
        | some i =>
          rw [q2] at e
          dsimp only at e
          split at e
          · cases e
          · rename_i hi
            obtain ⟨g, f, t, u, hu⟩ := ho b i q2
            have fr : Fr b = some u := FrOf hu t (fun i' hi' z => by rw [q2] at z; cases z; exact hi hi')
            refine ⟨?_, f, t, u, W'.fr b u fr⟩
            cases q3 : G' b with
            | none => rfl
            | some u' =>
              rcases hgr.n b u' q3 with z | z
              · rw [g] at z; cases z
              · rw [fr] at z; cases z
    · by_cases hk : k < env.length
      · rw [List.getElem?_append_left (by rw [putCells_len]; exact hk)] at e1
        rw [List.getElem?_append_left (by rw [l]; exact hk)] at e2
        by_cases hs : k ∈ slotsOf as
        · obtain ⟨j, ej⟩ := mem_slotsOf.mp hs
          have hj : j < vs.length := by rw [lv]; exact (List.getElem?_eq_some_iff.mp ej).1
          obtain ⟨w', ew, hw⟩ := argsR_s ha ej
          rw [e2] at hw; cases hw
          have hjc : j < cs'.length := by omega
          rw [putCells_in nd ej (List.getElem?_eq_getElem hjc) hk] at e1
          cases e1
          refine cellImp (fun b hb => ?_) (hc' j cs'[j] (some w') (by rw [List.getElem?_append_left hjc, List.getElem?_eq_getElem hjc]) (by rw [List.getElem?_append_left (by simpa using hj), List.getElem?_map, ew]; rfl))
          have hb : o' b = some j := hb
          dsimp only
          rw [hb]
          dsimp only
          rw [if_pos hj, ej]
        · rw [putCells_out hs] at e1
          refine cellImp (fun b hb => ?_) (cellMono hgr.s (fun b u hb h => ?_) (hc k c w e1 e2))
          · have hb : o b = some k := hb
            dsimp only
            cases q : o' b with
            | some j =>
              obtain ⟨_, f, t, _⟩ := ho' b j q
              obtain ⟨_, _, _, u, hu⟩ := ho b k hb
              rw [FrOf hu t (fun i' hi' z => by rw [hb] at z; cases z; exact hs hi')] at f
              cases f
            | none =>
              dsimp only
              rw [hb]
              dsimp only
              rw [if_neg hs]
          · have hb : o b = some k := hb
            exact W'.fr b u (FrOf h (ho b k hb).2.2.1 (fun i' hi' z => by rw [hb] at z; cases z; exact hs hi'))
      · have hk' : k = env.length := by
          have h1 := (List.getElem?_eq_some_iff.mp e1).1
          simp [putCells_len] at h1
          omega
        subst hk'
        rw [List.getElem?_append_right (by rw [putCells_len]; omega), putCells_len] at e1
        rw [List.getElem?_append_right (by rw [l]; omega), l] at e2
        simp at e1 e2
        subst e1 e2
        have hlast := hc' cs'.length r (some v) (by simp) (by rw [List.getElem?_append_right (by simp [lv'])]; simp [lv'])
        refine cellImp (fun b hb => ?_) hlast
        have hb : o' b = some cs'.length := hb
        dsimp only
        rw [hb]
        dsimp only
        rw [if_neg (by omega)]
section
variable {X : Cx} {TP : List Addr} {e : Expr} {es : List Expr} {x : Str} {p pos : Pos} {k : Nat} {f : Addr} {fd : FuncData} {ps : List Str} {F : CF} {args : CAF}
theorem o_call (Fn : FnOk X.prog X.w X.K X.mg X.base (L2.CX X.prog X.w) k f fd ps (SpD X.K TP F)) (hr : Room k X.A) (hg : Gl X x) (hm : X.mg x = some (.ref f)) (hk : PySem.W.keepIn X.K (.ref f) = true) (hb : Binds X.K fd ps [])
    (ha : PC' X TP (e :: es) args) (hdb : (x == ("__debug__" : Str)) = false := by decide) (he : starEach (e :: es) X.env = (false, eval e X.env) :: starEach es X.env := by rfl) (hpl : (backTo pos (starEach es X.env)).any (·.1) = false := by rfl) :
    PO X TP (.Call (.Name x p) (e :: es) [] pos) (oCall F args) := by
  refine ⟨(pe_call Fn hr hg hm hk hb .nil passL ha.pa hdb he hpl).imp fun σ H Q ⟨F0, G, env, c, env', hf, E, q⟩ => ?_⟩
  obtain ⟨as, e1, h1, hf⟩ := bnd_inv hf
  refine ⟨F0, G, env, as, e1, h1, E, fun vs G1 H1 g1 E1 r1 => ?_⟩
  split at hf
  · cases hf
  · rename_i cs hcs
    split at hf
    · rename_i nd
      split at hf
      · cases hf
      · rename_i r cs' hF
        split at hf
        · rename_i hl
          cases hf
          obtain ⟨Fr, Ec, back⟩ := call_env E1 r1 hcs nd
          rw [List.append_nil]
          refine ⟨Fr, G1, cs, c, cs', hF, Ec, fun v G' H' gr E' => ?_⟩
          obtain ⟨g2, E2⟩ := back hl gr E'
          exact q v G' H' (g1.trans g2) E2
        · cases hf
    · cases hf
end
end DL
namespace DL
open PySem PySem.Spec PyProof.Rows L2

inductive Sg where
  | nx | bk | ct
  | rt (c : Cell)
  | ex (x : Str)
abbrev SF := DEnv → Option (Sg × DEnv)
/-- the slots W hold what they held -/
def Kp (W : List Nat) (σ σ' : Sl) : Prop := σ'.length = σ.length ∧ ∀ i ∈ W, σ'[i]? = σ[i]?
theorem Kp.refl {W : List Nat} {σ : Sl} : Kp W σ σ := ⟨rfl, fun _ _ => rfl⟩
theorem Kp.trans {W : List Nat} {σ σ1 σ2 : Sl} (a : Kp W σ σ1) (b : Kp W σ1 σ2) : Kp W σ σ2 := ⟨b.1.trans a.1, fun i h => (b.2 i h).trans (a.2 i h)⟩
theorem Kp.set {W : List Nat} {σ : Sl} {i : Nat} {v : Option V} (h : i ∉ W) : Kp W σ (σ.set i v) := ⟨by simp, fun j hj => List.getElem?_set_ne (fun z => h (by rw [z]; exact hj))⟩
/-- what is wished of an exception of the class that stands at x -/
abbrev XW := Str → Sl → Hp → Prop
def star (X : Cx) : WX := fun cls d σ H => ∀ u s', L2N.XE X (fun c' d' σ' H' => c' = cls ∧ d' = d ∧ σ' = σ ∧ H' = H) u s' → X.xe u s'
def wst (X : Cx) : XW := fun x σ H => ∀ C, X.mg x = some (.ref C) → star X (.ref C) none σ H
theorem takes_star (X : Cx) : L2N.Takes X (star X) := fun u s' ⟨a, B, sI, pins, σ, H, cls, d, e, I, nb, up, sky, na, os, ag, w⟩ =>
  w u s' ⟨a, B, sI, pins, σ, H, cls, d, e, I, nb, up, sky, na, os, ag, rfl, rfl, rfl, rfl⟩
theorem star_of {X : Cx} {W : WX} (t : L2N.Takes X W) {cls : Value} {d : Option Addr} {σ : Sl} {H : Hp} (h : W cls d σ H) : star X cls d σ H := fun u s' ⟨a, B, sI, pins, σ1, H1, c1, d1, e, I, nb, up, sky, na, os, ag, e1, e2, e3, e4⟩ =>
  t u s' ⟨a, B, sI, pins, σ1, H1, c1, d1, e, I, nb, up, sky, na, os, ag, by rw [e1, e2, e3, e4]; exact h⟩
def EndR (K : PySem.W.Frag) (F : Hp) (TP : List Addr) (W : List Nat) (σ : Sl) (G : Hp) (Wx : XW) (E : Ends) (s : Sg) (env' : DEnv) : Prop := match s with
  | .nx => ∀ σ' G' H', Kp W σ σ' → Gr F G G' → EnvR K F TP G' H' σ' env' → E.nx σ' H'
  | .bk => ∀ σ' G' H', Kp W σ σ' → Gr F G G' → EnvR K F TP G' H' σ' env' → E.bk σ' H'
  | .ct => ∀ σ' G' H', Kp W σ σ' → Gr F G G' → EnvR K F TP G' H' σ' env' → E.ct σ' H'
  | .rt c => ∀ v σ' G' H', Kp W σ σ' → Gr F G G' → EnvR K F TP G' H' (σ' ++ [some v]) (env' ++ [c]) → E.rt v H'
  | .ex x => ∀ σ' G' H', Kp W σ σ' → Gr F G G' → EnvR K F TP G' H' σ' env' → Wx x σ' H'
def tS (K : PySem.W.Frag) (TP : List Addr) (W : List Nat) (Wx : XW) (f : SF) : TS := fun E σ H => ∃ F G env s env', f env = some (s, env') ∧ EnvR K F TP G H σ env ∧ EndR K F TP W σ G Wx E s env'
structure PSD (X : Cx) (TP : List Addr) (W : List Nat) (st : Stmt) (f : SF) : Prop where
  ps : PS X st (tS X.K TP W (wst X) f)
structure PSsD (X : Cx) (TP : List Addr) (W : List Nat) (st : List Stmt) (f : SF) : Prop where
  pss : PSs X st (tS X.K TP W (wst X) f)
theorem EndR.gr {K : PySem.W.Frag} {F : Hp} {TP : List Addr} {W : List Nat} {σ σ1 : Sl} {G G' : Hp} {Wx : XW} {E : Ends} {s : Sg} {env' : DEnv} (hk : Kp W σ σ1) (h : Gr F G G') (q : EndR K F TP W σ G Wx E s env') : EndR K F TP W σ1 G' Wx E s env' := by
  cases s with
  | nx => exact fun σ' G2 H2 k g => q σ' G2 H2 (hk.trans k) (h.trans g)
  | bk => exact fun σ' G2 H2 k g => q σ' G2 H2 (hk.trans k) (h.trans g)
  | ct => exact fun σ' G2 H2 k g => q σ' G2 H2 (hk.trans k) (h.trans g)
  | rt c => exact fun v σ' G2 H2 k g => q v σ' G2 H2 (hk.trans k) (h.trans g)
  | ex x => exact fun σ' G2 H2 k g => q σ' G2 H2 (hk.trans k) (h.trans g)

section
variable {X : Cx} {TP : List Addr} {W : List Nat} {st : Stmt} {rest : List Stmt} {e a c : Expr} {f g : SF} {pos : Pos}
def sNil : SF := fun env => some (.nx, env)
def sSeq (f g : SF) : SF := fun env => match f env with
  | some (.nx, e) => g e
  | r => r
theorem ss_nil : PSsD X TP W [] sNil := by
  refine ⟨pss_nil.imp fun D σ H ⟨F, G, env, s, env', hf, E, q⟩ => ?_⟩
  cases hf
  exact q σ G H Kp.refl Gr.refl E
theorem ss_cons (h1 : PSD X TP W st f) (h2 : PSsD X TP W rest g) : PSsD X TP W (st :: rest) (sSeq f g) := by
  refine ⟨(pss_cons h1.ps h2.pss).imp fun D σ H ⟨F, G, env, s, env', hf, E, q⟩ => ?_⟩
  unfold sSeq at hf
  split at hf
  · rename_i e1 h
    refine ⟨F, G, env, .nx, e1, h, E, fun σ1 G1 H1 k1 g1 E1 => ⟨F, G1, e1, s, env', hf, E1, q.gr k1 g1⟩⟩
  · rename_i r hr
    refine ⟨F, G, env, s, env', hf, E, ?_⟩
    cases s with
    | nx => exact (hr env' hf).elim
    | bk => exact q
    | ct => exact q
    | rt c => exact q
    | ex x => exact q
theorem ss_one (h1 : PSD X TP W st f) : PSsD X TP W [st] f := ⟨pss_one h1.ps⟩
def sBk : SF := fun env => some (.bk, env)
def sCt : SF := fun env => some (.ct, env)
def sRt (o : OF) : SF := fun env => bnd (o env) fun c e => some (.rt c, e)
def sDrop (f : EF) : SF := fun env => bnd (f env) fun _ e => some (.nx, e)
def sNever : SF := fun _ => none
theorem s_pass : PSD X TP W (.Pass pos) sNil := by
  refine ⟨ps_pass.imp fun D σ H ⟨F, G, env, s, env', hf, E, q⟩ => ?_⟩
  cases hf
  exact q σ G H Kp.refl Gr.refl E
theorem s_break : PSD X TP W (.Break pos) sBk := by
  refine ⟨ps_break.imp fun D σ H ⟨F, G, env, s, env', hf, E, q⟩ => ?_⟩
  cases hf
  exact q σ G H Kp.refl Gr.refl E
theorem s_cont : PSD X TP W (.Continue pos) sCt := by
  refine ⟨ps_continue.imp fun D σ H ⟨F, G, env, s, env', hf, E, q⟩ => ?_⟩
  cases hf
  exact q σ G H Kp.refl Gr.refl E
theorem s_never : PSD X TP W st sNever := ⟨ps_never.imp fun D σ H ⟨F, G, env, s, env', hf, E, q⟩ => by cases hf⟩
theorem s_ret {o : OF} (h : PO X TP e o) : PSD X TP W (.Return (some e) pos) (sRt o) := by
  refine ⟨(ps_ret h.pe).imp fun D σ H ⟨F, G, env, s, env', hf, E, q⟩ => ?_⟩
  obtain ⟨c, e1, h1, hf⟩ := bnd_inv hf
  cases hf
  exact ⟨F, G, env, c, _, h1, E, fun v G1 H1 g1 E1 => q v σ G1 H1 Kp.refl g1 E1⟩
theorem s_ret0 : PSD X TP W (.Return none pos) (sRt (oSh (fC .none))) := by
  refine ⟨ps_retN.imp fun D σ H ⟨F, G, env, s, env', hf, E, q⟩ => ?_⟩
  cases hf
  exact q .non σ G H Kp.refl Gr.refl (E.snoc_sh .non)
theorem s_drop {fe : EF} (h : PD X TP e fe) (hs : swapsWith e none pos.line X.env = pure false := by rfl) : PSD X TP W (.Expr e pos) (sDrop fe) := by
  refine ⟨(ps_expr h.pe hs).imp fun D σ H ⟨F, G, env, s, env', hf, E, q⟩ => ?_⟩
  obtain ⟨c, e1, h1, hf⟩ := bnd_inv hf
  cases hf
  exact ⟨F, G, env, c, _, h1, E, fun v G1 H1 g1 E1 _ => q σ G1 H1 Kp.refl g1 E1⟩
def sIf (c : BF) (f g : SF) : SF := fun env => bnd (c env) fun k e => if k then f e else g e
theorem s_if {k : BF} {x y : List Stmt} (hc : PB X TP c k) (ha : PSsD X TP W x f) (hb : PSsD X TP W y g) : PSD X TP W (.If c x y pos) (sIf k f g) := by
  refine ⟨(ps_if hc.pt ha.pss hb.pss).imp fun D σ H ⟨F, G, env, s, env', hf, E, q⟩ => ?_⟩
  obtain ⟨kk, e1, h1, hf⟩ := bnd_inv hf
  refine ⟨F, G, env, kk, e1, h1, E, fun G1 H1 s1 E1 => ?_⟩
  cases kk with
  | true => rw [if_pos rfl] at hf ⊢; exact ⟨F, G1, e1, _, _, hf, E1, q.gr Kp.refl s1⟩
  | false => rw [if_neg Bool.false_ne_true] at hf ⊢; exact ⟨F, G1, e1, _, _, hf, E1, q.gr Kp.refl s1⟩
/-- what is behind no longer wanted -/
def wipeD : List Nat → DEnv → DEnv
  | [], e => e
  | i :: is, e => wipeD is (e.set i .un)
theorem EnvR.forgets {K : PySem.W.Frag} {F : Hp} {G H : Hp} {σ : Sl} : ∀ (l : List Nat) {env : DEnv}, EnvR K F TP G H σ env → EnvR K F TP G H σ (wipeD l env)
  | [], _, E => E
  | i :: is, _, E => EnvR.forgets is (E.forget i)
def sPre (l : List Nat) (f : SF) : SF := fun env => f (wipeD l env)
def sPost (l : List Nat) (f : SF) : SF := fun env => match f env with
  | some (.nx, e) => some (.nx, wipeD l e)
  | r => r
theorem s_pre (l : List Nat) (h : PSD X TP W st f) : PSD X TP W st (sPre l f) :=
  ⟨h.ps.imp fun D σ H ⟨F, G, env, s, env', hf, E, q⟩ => ⟨F, G, _, s, env', hf, E.forgets l, q⟩⟩
theorem s_post (l : List Nat) (h : PSD X TP W st f) : PSD X TP W st (sPost l f) := by
  refine ⟨h.ps.imp fun D σ H ⟨F, G, env, s, env', hf, E, q⟩ => ?_⟩
  unfold sPost at hf
  split at hf
  · rename_i e1 h
    cases hf
    exact ⟨F, G, env, .nx, e1, h, E, fun σ1 G1 H1 k1 g1 E1 => q σ1 G1 H1 k1 g1 (E1.forgets l)⟩
  · exact ⟨F, G, env, s, env', hf, E, q⟩

/-! ### targets -/
abbrev TF := D → DEnv → Option DEnv
abbrev TFs := List D → DEnv → Option DEnv
def tG (K : PySem.W.Frag) (TP : List Addr) (W : List Nat) (f : TF) : TG := fun v σ H Q => ∃ F G env d env', f d env = some env' ∧ EnvR K F TP G H σ env ∧ Dq K G v d ∧ ∀ σ', Kp W σ σ' → EnvR K F TP G H σ' env' → Q σ' H
def tGl (K : PySem.W.Frag) (TP : List Addr) (W : List Nat) (f : TFs) : TGs := fun vs σ H Q => ∃ F G env ds env', f ds env = some env' ∧ EnvR K F TP G H σ env ∧ DqAll K G vs ds ∧ ∀ σ', Kp W σ σ' → EnvR K F TP G H σ' env' → Q σ' H
structure PT' (X : Cx) (TP : List Addr) (W : List Nat) (e : Expr) (f : TF) : Prop where
  pg : PG X e (tG X.K TP W f)
structure PTs' (X : Cx) (TP : List Addr) (W : List Nat) (e : List Expr) (f : TFs) : Prop where
  pgs : PGs X e (tGl X.K TP W f)
theorem PG.imp' {e : Expr} {t t' : TG} (h : PG X e t) (w : ∀ v σ H Q, t' v σ H Q → t v σ H Q) : PG X e t' := ⟨fun pins s σ H v u Q I r q => h.run pins s σ H v u Q I r (w _ _ _ _ q)⟩
theorem PGs.imp' {e : List Expr} {t t' : TGs} (h : PGs X e t) (w : ∀ v σ H Q, t' v σ H Q → t v σ H Q) : PGs X e t' := ⟨fun pins s σ H v u Q I r q => h.run pins s σ H v u Q I r (w _ _ _ _ q)⟩
def tgN (i : Nat) : TF := fun d env => some (env.set i (.sh d))
theorem g_name (i : Nat) {x : Str} {pos : Pos} (hN : X.N.Nodup) (hw : i ∉ W := by decide) (hi : X.N[i]? = some x := by rfl) (hx : Loc X.env.scope x := by first | exact Or.inl rfl | exact Or.inr rfl) (hf : X.fn x = true ∨ X.env.scope.names.lookup x = some .local := by first | exact .inl rfl | exact .inr rfl | assumption) : PT' X TP W (.Name x pos) (tgN i) := by
  refine ⟨PG.imp' (pg_name hN hi hx hf) fun v σ H Q ⟨F, G, env, d, env', hf, E, r, q⟩ => ?_⟩
  cases hf
  exact q _ (Kp.set hw) (E.set_sh r i)
def tgNil : TFs := fun ds env => match ds with
  | [] => some env
  | _ => none
def tgCons (t : TF) (u : TFs) : TFs := fun ds env => match ds with
  | d :: r => match t d env with
    | some e => u r e
    | none => none
  | [] => none
theorem gs_nil : PTs' X TP W [] tgNil := by
  refine ⟨PGs.imp' pgs_nil fun v σ H Q ⟨F, G, env, ds, env', hf, E, r, q⟩ => ?_⟩
  cases r with
  | nil => cases hf; exact ⟨rfl, q σ Kp.refl E⟩
  | cons a b => cases hf
theorem gs_cons {es : List Expr} {t : TF} {u : TFs} (h1 : PT' X TP W e t) (h2 : PTs' X TP W es u) (hs : (assignEach (e :: es) X.env).map (·.2) = assign e X.env :: (assignEach es X.env).map (·.2) := by rfl) : PTs' X TP W (e :: es) (tgCons t u) := by
  refine ⟨PGs.imp' (pgs_cons h1.pg h2.pgs hs) fun v σ H Q ⟨F, G, env, ds, env', hf, E, r, q⟩ => ?_⟩
  cases r with
  | nil => cases hf
  | cons ra rb =>
    unfold tgCons at hf
    dsimp only at hf
    split at hf
    · rename_i e1 h
      exact ⟨_, _, rfl, F, G, env, _, e1, h, E, ra, fun σ1 k1 E1 => ⟨F, G, e1, _, env', hf, E1, rb, fun σ2 k2 E2 => q σ2 (k1.trans k2) E2⟩⟩
    · cases hf
def tgTup (n : Nat) (u : TFs) : TF := fun d env => match d with
  | .tuple ds => if ds.length = n then u ds env else none
  | _ => none
theorem g_tup {es : List Expr} {k n : Nat} {u : TFs} (hc : X.calm = true) (h : PTs' X TP W es u) (hn : (assignEach es X.env).length = n := by rfl) (hst : (assignEach es X.env).findIdx? (·.1) = none := by rfl) : PT' X TP W (.Tuple es k pos) (tgTup n u) := by
  refine ⟨PG.imp' (pg_tup hc h.pgs hn hst) fun v σ H Q ⟨F, G, env, d, env', hf, E, r, q⟩ => ?_⟩
  unfold tgTup at hf
  cases r with
  | tup ha hb =>
    dsimp only at hf
    split at hf
    · rename_i hl
      exact ⟨_, _, rfl, sameT E.wd.sub ha, by rw [dpAll_len hb]; exact hl, F, G, env, _, env', hf, E, hb, q⟩
    · cases hf
  | _ => cases hf
def sAsg (f : EF) (t : TF) : SF := fun env => bnd (f env) fun d e => match t d e with
  | some e' => some (.nx, e')
  | none => none
theorem s_asg {fe : EF} {t : TF} {tg : Expr} (he : PD X TP e fe) (hg : PT' X TP W tg t) (hs : swapsWithSole [tg] e pos.line X.env = pure false := by rfl) (hw : swappedStores [tg] e X.env = pure none := by rfl)
    (h1 : (assignEach [tg] X.env).map (·.2) = [assign tg X.env] := by rfl) : PSD X TP W (.Assign [tg] e pos) (sAsg fe t) := by
  refine ⟨(ps_asg he.pe hg.pg hs hw h1).imp fun D σ H ⟨F, G, env, s, env', hf, E, q⟩ => ?_⟩
  obtain ⟨d, e1, h1, hf⟩ := bnd_inv hf
  split at hf
  · rename_i e2 h2
    cases hf
    exact ⟨F, G, env, d, e1, h1, E, fun v G1 H1 g1 E1 r => ⟨F, G1, e1, d, _, h2, E1, r, fun σ' k' E' => q σ' G1 H1 k' g1 E'⟩⟩
  · cases hf
/-- x = e: what is one's own stays so -/
def sSet (i : Nat) (o : OF) : SF := fun env => bnd (o env) fun c e => if i < e.length then some (.nx, e.set i c) else none
theorem s_set {o : OF} (i : Nat) {x : Str} {pos' : Pos} (hN : X.N.Nodup) (he : PO X TP e o) (hw : i ∉ W := by decide) (hi : X.N[i]? = some x := by rfl) (hx : Loc X.env.scope x := by first | exact Or.inl rfl | exact Or.inr rfl) (hs : swapsWith e (some (.Name x pos')) pos.line X.env = pure false := by rfl)
    (hf : X.fn x = true ∨ X.env.scope.names.lookup x = some .local := by first | exact .inl rfl | exact .inr rfl | assumption) : PSD X TP W (.Assign [.Name x pos'] e pos) (sSet i o) := by
  refine ⟨(ps_set hN hi hx he.pe hs hf).imp fun D σ H ⟨F, G, env, s, env', hf, E, q⟩ => ?_⟩
  obtain ⟨c, e1, h1, hf⟩ := bnd_inv hf
  split at hf
  · rename_i hi
    cases hf
    exact ⟨F, G, env, c, e1, h1, E, fun v G1 H1 g1 E1 => q _ G1 H1 (Kp.set hw) g1 (E1.move hi)⟩
  · cases hf
/-- a, b = x, y: plain local names -/
def sPar (i j : Nat) (r : AF) : SF := fun env => bnd (r env) fun ds e => match ds with
  | [d, d'] => some (.nx, (e.set i (.sh d)).set j (.sh d'))
  | _ => none
theorem s_par (i j : Nat) {x y : Str} {a b : Expr} {r : AF} {px py pt : Pos} {kt k2 pt2} (hc : X.calm = true) (hN : X.N.Nodup) (hij : i ≠ j) (ha : PL X TP [a, b] r) (hwi : i ∉ W := by decide) (hwj : j ∉ W := by decide) (hi : X.N[i]? = some x := by rfl) (hj : X.N[j]? = some y := by rfl)
    (hx : X.env.scope.names.lookup x = some .local := by rfl) (hy : X.env.scope.names.lookup y = some .local := by rfl)
    (hw : swappedStores [.Tuple [.Name x px, .Name y py] kt pt] (.Tuple [a, b] k2 pt2) X.env = pure (some [x, y]) := by rfl)
    (hs : swapsWithSole [.Tuple [.Name x px, .Name y py] kt pt] (.Tuple [a, b] k2 pt2) pos.line X.env = pure false := by rfl) :
    PSD X TP W (.Assign [.Tuple [.Name x px, .Name y py] kt pt] (.Tuple [a, b] k2 pt2) pos) (sPar i j r) := by
  refine ⟨(ps_par hc hN hi hj hij hx hy ha.pa hw hs).imp fun D σ H ⟨F, G, env, s, env', hf, E, q⟩ => ?_⟩
  obtain ⟨ds, e1, h1, hf⟩ := bnd_inv hf
  split at hf
  · rename_i d d'
    cases hf
    refine ⟨F, G, env, _, e1, h1, E, fun vs G1 H1 g1 E1 r1 => ?_⟩
    cases r1 with
    | cons ra r2 =>
      cases r2 with
      | cons rb r3 =>
        cases r3
        exact ⟨_, _, rfl, q _ G1 H1 ((Kp.set hwi).trans (Kp.set hwj)) g1 ((E1.set_sh ra i).set_sh rb j)⟩
  · cases hf
/-- x op= e -/
def sAug (i : Nat) (g : D → D → Option D) (f : EF) : SF := fun env => match env[i]? with
  | some (.sh a) => bnd (f env) fun b e => match g a b with
    | some d => some (.nx, e.set i (.sh d))
    | none => none
  | _ => none
theorem s_aug {fe : EF} {gg : D → D → Option D} {op : Operator} {ti : TIp} (i : Nat) {x : Str} {pos' : Pos} (hN : X.N.Nodup) (he : PD X TP e fe) (ho : PIp X op ti) (hd : OpD X.K ti gg) (hw : i ∉ W := by decide) (hi : X.N[i]? = some x := by rfl) (hx : Loc X.env.scope x := by first | exact Or.inl rfl | exact Or.inr rfl)
    (hf : X.fn x = true ∨ X.env.scope.names.lookup x = some .local := by first | exact .inl rfl | exact .inr rfl | assumption) : PSD X TP W (.AugAssign (.Name x pos') op e pos) (sAug i gg fe) := by
  refine ⟨(ps_aug hN hi hx he.pe ho hf).imp fun D σ H ⟨F, G, env, s, env', hf, E, q⟩ => ?_⟩
  unfold sAug at hf
  split at hf
  · rename_i a ha
    obtain ⟨v, hv, ra⟩ := E.get ha
    obtain ⟨b, e1, h1, hf⟩ := bnd_inv hf
    split at hf
    · rename_i d hd'
      cases hf
      refine ⟨v, hv, F, G, env, b, e1, h1, E, fun u G1 H1 g1 E1 r => ?_⟩
      exact hd hd' E1.wd.sub (dpMono g1.s _ ra) r fun z G2 H2 x2 r2 => q _ G2 H2 (Kp.set hw) (g1.trans (x2.gr E1.wd.fr)) ((E1.ext x2).set_sh r2 i)
    · cases hf
  · cases hf

/-! ### loops -/
def ItOk (K : PySem.W.Frag) (G : Hp) (J : It) (ds : List D) : Prop := ∀ (i : Nat) G1 H1, Same G G1 → Same G1 H1 → (ds.length ≤ i → J.stop i H1) ∧
  ∀ d, ds[i]? = some d → J.go i H1 ∧ ∀ x H', J.yld i H1 x H' → ∃ G', Ext G1 H1 G' H' ∧ Dq K G' x d
def tI (K : PySem.W.Frag) (TP : List Addr) (f : AF) : TI := fun σ H R => ∃ F G env ds env', f env = some (ds, env') ∧ EnvR K F TP G H σ env ∧
  ∀ J G' H', Gr F G G' → EnvR K F TP G' H' σ env' → ItOk K G' J ds → R J H'
structure PI' (X : Cx) (TP : List Addr) (tg e : Expr) (f : AF) : Prop where
  pi : PI X tg e (tI X.K TP f)
theorem PI.imp' {tg e : Expr} {t t' : TI} (h : PI X tg e t) (w : ∀ σ H Q, t' σ H Q → t σ H Q) : PI X tg e t' := ⟨fun pins s σ H Q I q => h.run pins s σ H Q I (w _ _ _ q)⟩
def forL (t : TF) (b : SF) : List D → SF
  | [], env => some (.nx, env)
  | d :: ds, env => match t d env with
    | none => none
    | some e1 => match b e1 with
      | some (.nx, e) => forL t b ds e
      | some (.ct, e) => forL t b ds e
      | some (.bk, e) => some (.nx, e)
      | some (.rt c, e) => some (.rt c, e)
      | some (.ex x, e) => some (.ex x, e)
      | none => none
def sFor (it : AF) (t : TF) (b : SF) : SF := fun env => bnd (it env) fun ds e => forL t b ds e
theorem s_for {iter tg : Expr} {body : List Stmt} {it : AF} {t : TF} {b : SF} (hp : PassesOwn (model X.prog X.w) X.A X.env X.xe) (hc : X.calm = true) (hi : PI' X TP tg iter it) (hg : PT' X TP W tg t) (hb : PSsD X TP W body b) (hs : ∀ x, foldedSetIterable iter X.env x = pure x := by intro _; rfl) : PSD X TP W (.For tg iter body [] pos) (sFor it t b) := by
  refine ⟨(ps_for hp hc hi.pi hg.pg hb.pss hs).imp fun D σ₀ H ⟨F, G, env, s, env', hf, E, q⟩ => ?_⟩
  obtain ⟨ds, e1, h1, hf⟩ := bnd_inv hf
  refine ⟨F, G, env, ds, e1, h1, E, fun J G1 H1 g1 E1 hJ => ?_⟩
  refine ⟨fun i m σ H => m = ds.length - i ∧ Kp W σ₀ σ ∧ ∃ G2 env2, Gr F G G2 ∧ Gr F G1 G2 ∧ EnvR X.K F TP G2 H σ env2 ∧ forL t b (ds.drop i) env2 = some (s, env'), ⟨ds.length, rfl, Kp.refl, G1, e1, g1, Gr.refl, E1, by simpa using hf⟩, ?_⟩
  rintro i m σ2 H2 ⟨rfl, kp2, G2, env2, ga, gb, E2, h2⟩
  obtain ⟨hstop, hgo⟩ := hJ i G2 H2 gb.s E2.wd.sub
  by_cases hi : i < ds.length
  · right
    rw [List.drop_eq_getElem_cons hi] at h2
    obtain ⟨jg, jy⟩ := hgo ds[i] (List.getElem?_eq_getElem hi)
    unfold forL at h2
    split at h2
    · cases h2
    · rename_i e3 h3
      refine ⟨jg, fun σ' H' => Kp W σ₀ σ' ∧ ∃ G3 env3, Gr F G G3 ∧ Gr F G1 G3 ∧ EnvR X.K F TP G3 H' σ' env3 ∧ forL t b (ds.drop (i + 1)) env3 = some (s, env'), fun σ' H' hN => ⟨ds.length - (i + 1), by omega, rfl, hN⟩, fun x H' hy => ?_⟩
      obtain ⟨G3, x3, r3⟩ := jy x H' hy
      have g3 := x3.gr E2.wd.fr
      refine ⟨F, G3, env2, _, e3, h3, E2.ext x3, r3, fun σ4 k4 E4 => ?_⟩
      split at h2
      · rename_i e5 h5
        exact ⟨F, G3, e3, _, _, h5, E4, fun σ6 G6 H6 k6 g6 E6 => ⟨(kp2.trans k4).trans k6, G6, e5, (ga.trans g3).trans g6, (gb.trans g3).trans g6, E6, h2⟩⟩
      · rename_i e5 h5
        exact ⟨F, G3, e3, _, _, h5, E4, fun σ6 G6 H6 k6 g6 E6 => ⟨(kp2.trans k4).trans k6, G6, e5, (ga.trans g3).trans g6, (gb.trans g3).trans g6, E6, h2⟩⟩
      · rename_i e5 h5
        cases h2
        exact ⟨F, G3, e3, _, _, h5, E4, fun σ6 G6 H6 k6 g6 E6 => q σ6 G6 H6 ((kp2.trans k4).trans k6) ((ga.trans g3).trans g6) E6⟩
      · rename_i c e5 h5
        cases h2
        exact ⟨F, G3, e3, _, _, h5, E4, fun v σ6 G6 H6 k6 g6 E6 => q v σ6 G6 H6 ((kp2.trans k4).trans k6) ((ga.trans g3).trans g6) E6⟩
      · rename_i xx e5 h5
        cases h2
        exact ⟨F, G3, e3, _, _, h5, E4, fun σ6 G6 H6 k6 g6 E6 => q σ6 G6 H6 ((kp2.trans k4).trans k6) ((ga.trans g3).trans g6) E6⟩
      · cases h2
  · left
    rw [List.drop_of_length_le (by omega)] at h2
    cases h2
    exact ⟨hstop (by omega), q σ2 G2 H2 kp2 ga E2⟩
/-- n: how often at most -/
def whileN (c : BF) (b : SF) : Nat → SF
  | 0, _ => none
  | n + 1, env => match c env with
    | none => none
    | some (false, e) => some (.nx, e)
    | some (true, e1) => match b e1 with
      | some (.nx, e) => whileN c b n e
      | some (.ct, e) => whileN c b n e
      | some (.bk, e) => some (.nx, e)
      | some (.rt r, e) => some (.rt r, e)
      | some (.ex x, e) => some (.ex x, e)
      | none => none
open Classical in
noncomputable def sWhile (c : BF) (b : SF) : SF := fun env => if h : ∃ n r, whileN c b n env = some r then some h.choose_spec.choose else none
theorem whileN_mono {c : BF} {b : SF} : ∀ {n m : Nat} {env : DEnv} {r}, whileN c b n env = some r → n ≤ m → whileN c b m env = some r
  | 0, _, _, _, h, _ => by cases h
  | n + 1, 0, _, _, _, h => by omega
  | n + 1, m + 1, env, r, h, hm => by
    unfold whileN at h ⊢
    split at h
    · cases h
    · rename_i e h1; exact h
    · rename_i e1 h1
      split at h
      · exact whileN_mono h (by omega)
      · exact whileN_mono h (by omega)
      · exact h
      · exact h
      · exact h
      · cases h
theorem sWhile_eq {c : BF} {b : SF} {n : Nat} {env : DEnv} {r} (h : whileN c b n env = some r) : sWhile c b env = some r := by
  have hx : ∃ n r, whileN c b n env = some r := ⟨n, r, h⟩
  unfold sWhile
  rw [dif_pos hx]
  have h2 := hx.choose_spec.choose_spec
  have a := whileN_mono h2 (Nat.le_max_left _ n)
  have b := whileN_mono h (Nat.le_max_right hx.choose n)
  rw [a] at b
  exact b
theorem sWhile_inv {c : BF} {b : SF} {env : DEnv} {r} (h : sWhile c b env = some r) : ∃ n, whileN c b n env = some r := by
  unfold sWhile at h
  split at h
  · rename_i hx
    cases h
    exact ⟨_, hx.choose_spec.choose_spec⟩
  · cases h
theorem s_while {c : Expr} {body : List Stmt} {k : BF} {b : SF} (hp : PassesOwn (model X.prog X.w) X.A X.env X.xe) (hc : PB X TP c k) (hb : PSsD X TP W body b) : PSD X TP W (.While c body [] pos) (sWhile k b) := by
  refine ⟨(ps_while hp hc.pt hb.pss).imp fun D σ₀ H ⟨F, G, env, s, env', hf, E, q⟩ => ?_⟩
  obtain ⟨n, hn⟩ := sWhile_inv hf
  refine ⟨fun m σ H => Kp W σ₀ σ ∧ ∃ G2 env2, Gr F G G2 ∧ EnvR X.K F TP G2 H σ env2 ∧ whileN k b m env2 = some (s, env'), ⟨n, Kp.refl, G, env, Gr.refl, E, hn⟩, ?_⟩
  rintro m σ2 H2 ⟨kp2, G2, env2, g2, E2, h2⟩
  cases m with
  | zero => cases h2
  | succ m =>
    unfold whileN at h2
    split at h2
    · cases h2
    · rename_i e h1
      cases h2
      exact ⟨F, G2, env2, _, _, h1, E2, fun G3 H3 g3 E3 => by dsimp only; rw [if_neg Bool.false_ne_true]; exact q σ2 G3 H3 kp2 (g2.trans g3) E3⟩
    · rename_i e1 h1
      refine ⟨F, G2, env2, _, _, h1, E2, fun G3 H3 g3 E3 => ?_⟩
      dsimp only
      rw [if_pos rfl]
      refine ⟨fun σ' H' => Kp W σ₀ σ' ∧ ∃ G4 env4, Gr F G G4 ∧ EnvR X.K F TP G4 H' σ' env4 ∧ whileN k b m env4 = some (s, env'), fun σ' H' hN => ⟨m, Nat.lt_succ_self _, hN⟩, ?_⟩
      split at h2
      · rename_i e5 h5
        exact ⟨F, G3, e1, _, _, h5, E3, fun σ6 G6 H6 k6 g6 E6 => ⟨kp2.trans k6, G6, e5, (g2.trans g3).trans g6, E6, h2⟩⟩
      · rename_i e5 h5
        exact ⟨F, G3, e1, _, _, h5, E3, fun σ6 G6 H6 k6 g6 E6 => ⟨kp2.trans k6, G6, e5, (g2.trans g3).trans g6, E6, h2⟩⟩
      · rename_i e5 h5
        cases h2
        exact ⟨F, G3, e1, _, _, h5, E3, fun σ6 G6 H6 k6 g6 E6 => q σ6 G6 H6 (kp2.trans k6) ((g2.trans g3).trans g6) E6⟩
      · rename_i r e5 h5
        cases h2
        exact ⟨F, G3, e1, _, _, h5, E3, fun v σ6 G6 H6 k6 g6 E6 => q v σ6 G6 H6 (kp2.trans k6) ((g2.trans g3).trans g6) E6⟩
      · rename_i xx e5 h5
        cases h2
        exact ⟨F, G3, e1, _, _, h5, E3, fun σ6 G6 H6 k6 g6 E6 => q σ6 G6 H6 (kp2.trans k6) ((g2.trans g3).trans g6) E6⟩
      · cases h2
end

/-! ### a def -/
theorem EnvR.pad {K : PySem.W.Frag} {F : Hp} {TP : List Addr} {G H : Hp} {σ : Sl} {env : DEnv} (E : EnvR K F TP G H σ env) (m : Nat) : EnvR K F TP G H (σ ++ List.replicate m none) (env ++ List.replicate m .un) := by
  refine E.remap id (by simp [E.len]) (fun i c e => ?_) (fun i j _ _ _ _ _ _ h => h)
  by_cases hi : i < env.length
  · right; right
    rw [List.getElem?_append_left hi] at e
    exact ⟨e, by rw [List.getElem?_append_left (by rw [E.len]; exact hi)]; rfl⟩
  · left
    rw [List.getElem?_append_right (by omega), List.getElem?_replicate] at e
    split at e
    · cases e; rfl
    · cases e
/-- the arguments' cells behind: one's own as it stands then, all else as it was -/
def backs : List Cell → DEnv → List Cell
  | [], _ => []
  | c :: cs, [] => c :: cs
  | c :: cs, e :: es => (if c.owned then e else c) :: backs cs es
theorem backs_len : ∀ (cs : List Cell) (e : DEnv), (backs cs e).length = cs.length
  | [], _ => rfl
  | _ :: _, [] => rfl
  | _ :: cs, _ :: es => congrArg (· + 1) (backs_len cs es)
theorem backs_at : ∀ {cs : List Cell} {e : DEnv} {i : Nat} {c : Cell}, (backs cs e)[i]? = some c → (∃ c0, cs[i]? = some c0 ∧ c0.owned = false ∧ c = c0) ∨ (∃ c0, cs[i]? = some c0 ∧ c0.owned = true ∧ e[i]? = some c) ∨ (e[i]? = none ∧ cs[i]? = some c)
  | [], e, i, c, h => by simp [backs] at h
  | c0 :: cs, [], i, c, h => .inr (.inr ⟨by simp, h⟩)
  | c0 :: cs, e0 :: es, 0, c, h => by
    simp [backs] at h
    cases hc : c0.owned with
    | false => rw [hc] at h; simp at h; exact .inl ⟨c0, rfl, hc, h.symm⟩
    | true => rw [hc] at h; simp at h; exact .inr (.inl ⟨c0, rfl, hc, by simp [h]⟩)
  | c0 :: cs, e0 :: es, i + 1, c, h => by
    simp [backs] at h
    simpa using backs_at h
/-- a def by its body: n parameters, m other names; W: the parameters that one's own may be handed to -/
def ownOk (W : List Nat) (cs : List Cell) : Bool := (List.range cs.length).all fun i => !(own? cs[i]?) || W.contains i
def defF (n m : Nat) (W : List Nat) (b : SF) : CF := fun cs => if cs.length = n ∧ ownOk W cs = true then
  match b (cs ++ List.replicate m .un) with
  | some (.rt r, e) => some (r, backs cs e)
  | some (.nx, e) => some (.sh .none, backs cs e)
  | _ => none
  else none

/-- a def of the text with its code object -/
structure FunC (K : PySem.W.Frag) (x qual : Str) (st : Stmt) (f : Addr) (fd : FuncData) (cdv : Value) : Prop where
  ex : ∃ (oc : Value) (od : Option Addr) (kV doc pm : Value) (an : Option Addr) (ct : Value) (osl : Array (Option Value)),
    fd = PySem.W.fnOf x qual (defArgs st) (defBody st) (defScope st) .none kV doc pm an cdv ct ∧ K.lookup f = some ⟨oc, od, .func fd, osl⟩ ∧ PySem.W.codeIn K cdv qual = true
  kp : PySem.W.keepIn K (.ref f) = true
theorem func_mk {K : PySem.W.Frag} {x qual : Str} {st : Stmt} {f : Addr} {oc : Value} {od an : Option Addr} {osl : Array (Option Value)} {kV doc pm cdv ct : Value} (l : K.lookup f = some ⟨oc, od, .func (PySem.W.fnOf x qual (defArgs st) (defBody st) (defScope st) .none kV doc pm an cdv ct), osl⟩)
    (c : PySem.W.codeIn K cdv qual = true) (k : PySem.W.keepIn K (.ref f) = true) : FunC K x qual st f (PySem.W.fnOf x qual (defArgs st) (defBody st) (defScope st) .none kV doc pm an cdv ct) cdv := ⟨⟨oc, od, kV, doc, pm, an, ct, osl, rfl, l, c⟩, k⟩
theorem FunC.binds {K : PySem.W.Frag} {x qual : Str} {st : Stmt} {f : Addr} {fd : FuncData} {cdv : Value} {ps : List Str} (F : FunC K x qual st f fd cdv)
    (h : ∀ (kV doc pm : Value) (an : Option Addr) (cdv ct : Value) (us : List Value), us.length = ps.length → bindArgs (PySem.W.fnOf x qual (defArgs st) (defBody st) (defScope st) .none kV doc pm an cdv ct) ⟨us, []⟩ = pure (ps.zip us)) : Binds K fd ps [] := by
  obtain ⟨oc, od, kV, doc, pm, an, ct, osl, rfl, lk, hcd⟩ := F.ex
  exact .all (h kV doc pm an cdv ct)
/-- the context of the body of the def st at f -/
abbrev bx (P : Program) (w : World) (K : PySem.W.Frag) (mg : Str → Option Value) (base : Heap) (N : List Str) (qual : Str) (st : Stmt) (f : Addr) (cdv : Value) (A : Around) (outer : List Env) (s : Shared) (H : Hp) (E : XK) : Cx :=
  (cxOf (L2.CX P w) P w K mg base N qual (defScope st) f cdv A outer s H E).nox
theorem def_ok {P : Program} {w : World} {K : PySem.W.Frag} {mg : Str → Option Value} {base : Heap} {x qual : Str} {st : Stmt} {f : Addr} {fd : FuncData} {cdv : Value} {N ps : List Str} {k : Nat} {TP : List Addr} {W : List Nat} {b : SF} (F : FunC K x qual st f fd cdv) (S : FnScope N ps (defScope st))
    (hb : ∀ (A : Around) (outer : List Env) (s : Shared) (H : Hp) (E : XK), Room k (bx P w K mg base N qual st f cdv A outer s H E).A → PSsD (bx P w K mg base N qual st f cdv A outer s H E) TP W (defBody st) b) :
    FnOk P w K mg base (L2.CX P w) (k + 1) f fd ps (SpD K TP (defF ps.length (N.length - ps.length) W b)) := by
  obtain ⟨oc, od, kV, doc, pm, an, ct, osl, rfl, lk, hcd⟩ := F.ex
  have hlen : ∀ {vs : List V} {cs : List Cell} {Fr G H : Hp} {r cs'}, defF ps.length (N.length - ps.length) W b cs = some (r, cs') → EnvR K Fr TP G H (vs.map some) cs → vs.length = ps.length ∧ cs.length = ps.length := fun {vs cs Fr G H r cs'} hF E => by
    unfold defF at hF
    split at hF
    · rename_i h
      have := E.len
      simp at this
      exact ⟨this.trans h.1, h.1⟩
    · cases hF
  refine fn_of lk hcd S (fun vs H Q E h => ?_) fun A outer s H vs Q E hr hsp => ?_
  · obtain ⟨Fr, G, cs, r, cs', hF, E, _⟩ := h
    exact (hlen hF E).1
  · obtain ⟨Fr, G, cs, r, cs', hF, E0, q⟩ := hsp
    obtain ⟨l1, l2⟩ := hlen hF E0
    refine ⟨_, (hb A outer s H E hr).pss.nox, ?_⟩
    unfold defF at hF
    split at hF
    · rename_i hcs
      obtain ⟨_, hown⟩ := hcs
      have est : L2.start N vs = vs.map some ++ List.replicate (N.length - ps.length) none := by unfold L2.start; rw [l1]
      have hW : ∀ (i : Nat) c, cs[i]? = some c → c.owned = true → i ∈ W := fun i c e ho => by
        have hi := (List.getElem?_eq_some_iff.mp e).1
        have := List.all_eq_true.mp hown i (List.mem_range.mpr hi)
        rw [e] at this
        simp [own?, ho] at this
        exact this
      have fin : ∀ {rr : Cell} {e : DEnv} {v : V} {σ' : Sl} {G' H' : Hp}, Kp W (L2.start N vs) σ' → Gr Fr G G' → EnvR K Fr TP G' H' (σ' ++ [some v]) (e ++ [rr]) → EnvR K Fr TP G' H' (vs.map some ++ [some v]) (backs cs e ++ [rr]) := fun {rr e v σ' G' H'} kp g E1 => by
        have le : σ'.length = e.length := by have := E1.len; simp at this; exact this
        refine E1.remap (fun i => if i < cs.length then i else e.length) (by simp [backs_len, l1, l2]) (fun i c ec => ?_) (fun i j c1 c2 e1 e2 o1 o2 hij => ?_)
        · by_cases hi : i < cs.length
          · rw [List.getElem?_append_left (by rw [backs_len]; exact hi)] at ec
            rw [if_pos hi]
            have sh_ : ∀ c0 : Cell, cs[i]? = some c0 → c0.owned = false → c0 = .un ∨ (c0.owned = false ∧ ∃ v', (vs.map some ++ [some v])[i]? = some v' ∧ CellR K G' H' (fun _ => False) v' c0) := fun c0 h1 h2 => by
              cases c0 with
              | un => exact .inl rfl
              | sh d =>
                obtain ⟨x, ex, hx⟩ := E0.get h1
                exact .inr ⟨rfl, some x, by rw [List.getElem?_append_left (by simp; omega)]; exact ex, x, rfl, dpMono g.s _ hx⟩
              | raw x => exact .inr ⟨rfl, some x, by rw [List.getElem?_append_left (by simp; omega)]; exact E0.getRaw h1, rfl⟩
              | _ => cases h2
            rcases backs_at ec with ⟨c0, h1, h2, rfl⟩ | ⟨c0, h1, h2, h3⟩ | ⟨h1, h2⟩
            · rcases sh_ c h1 h2 with z | z
              · exact .inl z
              · exact .inr (.inl z)
            · right; right
              have hie : i < e.length := (List.getElem?_eq_some_iff.mp h3).1
              refine ⟨by rw [List.getElem?_append_left hie]; exact h3, ?_⟩
              rw [List.getElem?_append_left (by simp; omega), List.getElem?_append_left (by omega), kp.2 i (hW i c0 h1 h2), est, List.getElem?_append_left (by simp; omega)]
            · by_cases ho : c.owned = false
              · rcases sh_ c h2 ho with z | z
                · exact .inl z
                · exact .inr (.inl z)
              · have ho : c.owned = true := by simpa using ho
                exfalso
                have h4 := kp.2 i (hW i c h2 ho)
                rw [List.getElem?_eq_none_iff.mpr (by have := List.getElem?_eq_none_iff.mp h1; omega), est, List.getElem?_append_left (by simp; omega), List.getElem?_map, List.getElem?_eq_getElem (by omega)] at h4
                cases h4
          · have hi' : i = cs.length := by
              have := (List.getElem?_eq_some_iff.mp ec).1
              simp [backs_len] at this
              omega
            rw [if_neg hi]
            right; right
            rw [List.getElem?_append_right (by rw [backs_len]; omega), backs_len, hi'] at ec
            simp at ec
            subst ec
            refine ⟨by simp, ?_⟩
            rw [List.getElem?_append_right (by simp; omega), List.getElem?_append_right (by omega), hi', le]
            simp [l1, l2]
        · have h1 := (List.getElem?_eq_some_iff.mp e1).1
          have h2 := (List.getElem?_eq_some_iff.mp e2).1
          simp [backs_len] at h1 h2
          have hij : (if i < cs.length then i else e.length) = (if j < cs.length then j else e.length) := hij
          -- where the slots of one's own lie within the body's names
          have small : ∀ (i : Nat) c, (backs cs e ++ [rr])[i]? = some c → c.owned = true → i < cs.length → i < e.length := fun i c ec ho hi => by
            rw [List.getElem?_append_left (by rw [backs_len]; exact hi)] at ec
            rcases backs_at ec with ⟨c0, h1, h2, rfl⟩ | ⟨c0, h1, h2, h3⟩ | ⟨h1, h2⟩
            · rw [ho] at h2; cases h2
            · exact (List.getElem?_eq_some_iff.mp h3).1
            · exfalso
              have h4 := kp.2 i (hW i c h2 ho)
              rw [List.getElem?_eq_none_iff.mpr (by have := List.getElem?_eq_none_iff.mp h1; omega), est, List.getElem?_append_left (by simp; omega), List.getElem?_map, List.getElem?_eq_getElem (by omega)] at h4
              cases h4
          by_cases hi : i < cs.length
          · by_cases hj : j < cs.length
            · rw [if_pos hi, if_pos hj] at hij; exact hij
            · rw [if_pos hi, if_neg hj] at hij
              have := small i c1 e1 o1 hi
              omega
          · by_cases hj : j < cs.length
            · rw [if_neg hi, if_pos hj] at hij
              have := small j c2 e2 o2 hj
              omega
            · omega
      have E1 := E0.pad (N.length - ps.length)
      split at hF
      · rename_i rr e hb'
        cases hF
        refine ⟨Fr, G, _, _, _, hb', by rw [est]; exact E1, fun v σ' G' H' kp g E2 => q v G' H' g (fin kp g E2)⟩
      · rename_i e hb'
        cases hF
        refine ⟨Fr, G, _, _, _, hb', by rw [est]; exact E1, fun σ' G' H' kp g E2 => q .non G' H' g (fin kp g (E2.snoc_sh .non))⟩
      · cases hF
    · cases hF
end DL
namespace GE
open PySem PySem.Spec PyProof.Rows L2 GenW

/-- the consumer's own things have changed, nothing else -/
structure Slp (S : List Addr) (s s' : Shared) : Prop where
  os : s'.os = s.os
  bare : AllBare s'.gens
  keep : ∀ b o, b ∉ S → s.heap.get? b = some o → s'.heap.get? b = some o
  own : ∀ b ∈ S, ∃ o, s'.heap.get? b = some o ∧ ∀ v, o.data ≠ .cell v
/-- the context of a generator expression's frame -/
abbrev gx (X : Cx) (A : Around) (s : Shared) (H : Hp) (scope : Scope) (cenv : Env) (fp : List Addr) (pn : List (Addr × Obj)) : Cx :=
  { X with A := A.deeper cenv, s_0 := s, H_0 := H, env := cenv, outer := X.stack, stack := cenv :: X.stack, ex := fp, fn := fun x => scope.names.lookup x == some .cell, pn := pn, xe := fun _ _ => False }
/-- a generator expression's names: its own (with their places in N), what it walks, what it captures -/
structure GOk (N : List Str) (sc scope : Scope) (own : List (Str × Nat)) : Prop where
  co : scope.isCoroutine = false
  cell : ∀ y ∈ scope.names, y.2 ≠ .cell
  dot : scope.names.lookup (".0" : Str) = some NameKind.local
  blk : BlkOk N sc scope own

theorem mem_cloFrom' {cells : List (Str × Addr)} {names : List (Str × NameKind)} {y : Str} {c : Addr} (h : (y, c) ∈ cloFrom cells names []) : (y, .free) ∈ names ∧ c = (cells.lookup y).getD 0 := by
  rcases cloFrom_mem h with h | ⟨h1, h2⟩
  · cases h
  · exact ⟨h1, h2⟩

section
variable {X : Cx} {pins : List (Addr × Obj)} {σ : L2.St} {H : Hp} {s : Shared}
/-- the frame has been made, the generator too -/
theorem gen_start {A : Around} {scope : Scope} {own : List (Str × Nat)} {fp : List Addr} {pn : List (Addr × Obj)} {it code : Value} {bi : Addr} {s5 : Shared} (hbi : bi = builtinsNs) (I : Inv X pins σ H s) (ok : GOk X.N X.env.scope scope own) (hN : X.N.Nodup) (hfp : ∀ b ∈ fp, FpOk X pins H b ∧ b < s.heap.objs.size)
    (hfr : A.frames = some X.stack) (hd : X.calm = true → A.handled = none)
    (hns : s5.heap.Ns s.heap.objs.size (fun y => if y = ".0" then some it else none)) (kp : ∀ b o, s.heap.get? b = some o → s5.heap.get? b = some o) (os : s5.os = s.os) (hb : AllBare s5.gens)
    (hpn : ∀ p ∈ pn, s5.heap.get? p.1 = some p.2 ∧ s.heap.objs.size < p.1 ∧ ∀ v, p.2.data ≠ .cell v) (hsc : X.N.contains (".0" : Str) = false) :
    Inv (gx X A s H scope (genEnv scope (cloFrom X.env.cells scope.names []) s.heap.objs.size code bi X.env) fp pn) [] (wipe σ (own.map (·.2))) H s5 := by
  have bok := ok.blk
  have hfree : ∀ y ∈ scope.names, y.2 = .free → ∃ c, X.env.cells.lookup y.1 = some c := fun y hy e => by
    rcases bok.free y hy e with k | k
    · exact I.ok.has _ (.inl k)
    · exact I.ok.has _ (.inr k)
  generalize hcenv : genEnv scope (cloFrom X.env.cells scope.names []) s.heap.objs.size code bi X.env = cenv
  have hL : cenv.locals = s.heap.objs.size := by rw [← hcenv]; rfl
  have hcl : cenv.cells = cloFrom X.env.cells scope.names [] := by rw [← hcenv]; rfl
  have hscp : cenv.scope = scope := by rw [← hcenv]; rfl
  have hfrm : cenv.frame = some s.heap.objs.size := by rw [← hcenv]; rfl
  have cm : ∀ {y c}, (y, c) ∈ cloFrom X.env.cells scope.names [] → X.env.cells.lookup y = some c ∧ c < s.heap.objs.size := fun {y c} hm => by
    obtain ⟨h1, rfl⟩ := mem_cloFrom' hm
    obtain ⟨c, hc⟩ := hfree _ h1 rfl
    rw [hc]
    obtain ⟨w, z⟩ := I.cell _ _ hc
    exact ⟨rfl, z.lt⟩
  have mem : ∀ {y c}, cenv.cells.lookup y = some c → X.env.cells.lookup y = some c ∧ c < s.heap.objs.size := fun {y c} e => by
    rw [hcl] at e
    exact cm (PySem.mem_of_lookup e)
  have look : ∀ {y}, scope.names.lookup y = some .free → ∃ c, cenv.cells.lookup y = some c ∧ X.env.cells.lookup y = some c := fun {y} hl => by
    have hy : (y, NameKind.free) ∈ scope.names := PySem.mem_of_lookup hl
    obtain ⟨c', e'⟩ := mem_lookup (cloFrom_has (cells := X.env.cells) (acc := []) hy)
    rw [← hcl] at e'
    exact ⟨c', e', (mem e').1⟩
  have okB : (gx X A s H scope cenv fp pn).Ok := by
    refine ⟨I.ok.mod, by show cenv.scope.kind = _; rw [hscp]; exact bok.kind, by show cenv.globals = _; rw [← hcenv]; exact I.ok.glob, by show cenv.builtins = _; rw [← hcenv]; exact hbi, by show s.heap.objs.size ≤ cenv.locals; rw [hL]; exact Nat.le_refl _,
      fun y z c e1 e2 => I.ok.inj y z c (mem e1).1 (mem e2).1, fun y hy => ?_, fun y c z e => ?_, hd, Around.frames_deeper hfr, .inr ⟨rfl, by show cenv.frame = some cenv.locals; rw [hfrm, hL]⟩, fun b hb => ⟨?_, fun y c e z => ?_⟩, I.bs, Nat.le_trans I.ok.bsz I.sz, fun b o e hb => ?_, fun b hb z => ?_, I.stack, I.stkFree⟩
    · show ∃ c, cenv.cells.lookup y = some c
      have hy : scope.names.lookup y = some .cell ∨ scope.names.lookup y = some .free := by
        have : cenv.kindOf y = some .cell ∨ cenv.kindOf y = some .free := hy
        unfold Env.kindOf at this
        rw [hscp] at this
        exact this
      rcases hy with hy | hy
      · exact absurd rfl (ok.cell _ (PySem.mem_of_lookup hy))
      · exact (look hy).imp fun _ z => z.1
    · exfalso
      have hz : (scope.names.lookup y == some .cell) = true := z
      have hz : scope.names.lookup y = some .cell := by simpa using hz
      exact absurd rfl (ok.cell _ (PySem.mem_of_lookup hz))
    · show b ≠ cenv.locals
      rw [hL]; exact Nat.ne_of_lt (hfp b hb).2
    · exact (hfp b hb).1.2.2.2.2.1 y c (mem e).1 z
    · rcases (hfp b hb).1.2.2.2.1 with z | z
      · exact I.ok.noex b o e z
      · exact absurd (Nat.lt_of_lt_of_le (Heap.lt_size e) (Nat.le_trans I.ok.bsz z)) (Nat.lt_irrefl _)
    · rcases List.mem_cons.mp (I.stkSub b z) with z | z
      · exact (hfp b hb).1.2.1 z
      · exact (hfp b hb).1.2.2.1 z
  refine ⟨okB, os, hb, Un.kept kp, ⟨_, by show Heap.Ns _ cenv.locals _; rw [hL]; exact hns, fun i y av e1 e2 e3 => ?_⟩, fun y c e => ?_, ?_, fun y c e => ?_, fun p hp => ?_, I.hok.kept kp, by rw [wipe_length]; exact I.len⟩
  · obtain ⟨e2, hne⟩ := wipe_some e2
    have e3 : Vis scope y := by have : Vis cenv.scope y := e3; rw [hscp] at this; exact this
    have no : ¬ (scope.names.lookup y = some .local) := fun e => by
      rcases bok.own _ (PySem.mem_of_lookup e) (.inl rfl) with e' | e'
      · obtain ⟨p, hp, hpy⟩ := List.mem_map.mp e'
        have e4 := bok.ix p hp
        have : p.1 = y := hpy
        rw [this] at e4
        exact hne (List.mem_map.mpr ⟨p, hp, nodup_ix hN e4 e1⟩)
      · exact e' (List.mem_of_getElem? e1)
    have hfr' : scope.names.lookup y = some .free := by
      rcases e3 with e3 | e3 | e3
      · exact absurd e3 no
      · exact absurd rfl (ok.cell _ (PySem.mem_of_lookup e3))
      · exact e3
    obtain ⟨m, hn, hl⟩ := I.loc
    have hvis : Vis X.env.scope y := (bok.free _ (PySem.mem_of_lookup hfr') rfl).elim (fun k => .inr (.inl k)) (fun k => .inr (.inr k))
    obtain ⟨w, r, q⟩ := hl i y av e1 e2 hvis
    refine ⟨w, r, .inr ⟨.inr (by show cenv.scope.names.lookup y = _; rw [hscp]; exact hfr'), ?_⟩⟩
    obtain ⟨c, h1, h2⟩ := look hfr'
    rcases q with ⟨k, _⟩ | ⟨_, c', e', z⟩
    · have k : X.env.scope.names.lookup y = some .local := k
      rcases bok.free _ (PySem.mem_of_lookup hfr') rfl with k' | k' <;> rw [show X.env.scope.names.lookup y = _ from k'] at k <;> cases k
    · rw [h2] at e'; cases e'
      exact ⟨c, h1, z.keeps kp⟩
  · obtain ⟨w, z⟩ := I.cell y c (mem e).1
    exact ⟨w, z.keeps kp⟩
  · show H cenv.locals = none
    rw [hL]; exact I.hok.fresh (Nat.le_refl _)
  · exact I.freeC y c (mem e).1
  · have hp : p ∈ pn := by simpa using hp
    obtain ⟨h1, h2, h3⟩ := hpn p hp
    refine ⟨h1, I.hok.fresh (Nat.le_of_lt h2), by show p.1 ≠ cenv.locals; rw [hL]; exact Nat.ne_of_gt h2, fun hb => ?_, h3⟩
    rcases List.mem_cons.mp (I.stkSub p.1 hb) with z | z
    · have := I.lt
      rw [← z] at this
      exact absurd (Nat.lt_trans this h2) (Nat.lt_irrefl _)
    · exact I.nofs (Nat.le_of_lt h2) z
end
end GE
namespace GE
open PySem PySem.Spec PyProof.Rows L2 GenW

def keepS (S : List Addr) (s₀ s : Shared) : Prop := ∀ b ∈ S, ∀ o, s₀.heap.get? b = some o → s.heap.get? b = some o
/-- the protocol: an item is handed out -/
def GY {κ : Type} (X : Cx) (pins : List (Addr × Obj)) (σ : L2.St) (a : Addr) (g : Nat) (cons : κ → V → Option (κ ⊕ V)) (KR : κ → Heap → Prop) (Q : VK) (S : List Addr) : Protocol := fun n s₀ v s kap =>
  keepS S s₀ s ∧ s.heap.IsGen a g ∧ ∃ k y H, KR k s₀.heap ∧ RelV y v ∧ Inv X pins σ H s ∧ (∀ b ∈ S, H b = none) ∧ match cons k y with
    | some (.inl k') => ∀ s', Slp S s s' → KR k' s'.heap → kap (.send .none) s'
    | some (.inr r) => Q r H
    | none => False
def GF {κ : Type} (X : Cx) (pins : List (Addr × Obj)) (σ : L2.St) (KR : κ → Heap → Prop) (Fin : κ → Hp → Prop) (S : List Addr) (s₀ s : Shared) : Prop :=
  keepS S s₀ s ∧ ∃ k H, KR k s₀.heap ∧ Inv X pins σ H s ∧ (∀ b ∈ S, H b = none) ∧ Fin k H
def GR {κ : Type} (X : Cx) (pins : List (Addr × Obj)) (σ : L2.St) (KR : κ → Heap → Prop) (Fin : κ → Hp → Prop) (S : List Addr) : GenEnd := fun n s₀ r s =>
  ((r = .ok (.ret .none) ∨ r = .ok .next) ∧ GF X pins σ KR Fin S s₀ s) ∨ ∃ e, r = .error e ∧ False
/-- what is asked of a turn -/
def GT {κ : Type} (σ : L2.St) (own : List Nat) (J : It) (g : TG) (tt : TT) (te : TE) (cons : κ → V → Option (κ ⊕ V)) (Fin : κ → Hp → Prop) (Q : VK) (W : κ → Nat → Nat → Hp → Prop) : Prop := ∀ k i m H, W k i m H →
  (J.stop i H ∧ Fin k H) ∨ (J.go i H ∧ ∃ Nx : κ → Hp → Prop, (∀ k' H', Nx k' H' → ∃ m', m' < m ∧ W k' (i + 1) m' H') ∧ ∀ x H', J.yld i H x H' → g x (wipe σ own) H' fun σ2 H2 => wipe σ2 own = wipe σ own ∧ tt σ2 H2 fun b H3 =>
    if b = true then te σ2 H3 fun y H4 => match cons k y with
      | some (.inl k') => Nx k' H4
      | some (.inr r) => Q r H4
      | none => False
    else Nx k H3)

theorem over_comp {A : Around} {it : Value} {elt : Expr} {gs : List Comprehension} {scope : Scope} {pos : Pos} {cenv : Env} : A.over (.compLoop (.GeneratorExp elt gs scope pos) 0 it .none cenv) [] = A.deeper cenv := by rfl

section
variable {κ : Type} {X : Cx} {pins : List (Addr × Obj)} {σ : L2.St} {elt tg iter : Expr} {ifs : List Expr} {scope : Scope} {pos : Pos} {own : List (Str × Nat)} {A : Around} {a : Addr} {gn : Nat} {cons : κ → V → Option (κ ⊕ V)} {KR : κ → Heap → Prop} {Fin : κ → Hp → Prop} {Q : VK} {S fp : List Addr}
  {J : It} {tn : Nat → Heap → Prop} {it : Addr} {cenv : Env} {s4 : Shared} {H4 : Hp} {pn : List (Addr × Obj)} {g : TG} {tt : TT} {te : TE} {W : κ → Nat → Nat → Hp → Prop}
theorem backX {ps : List (Addr × Obj)} {σ' : L2.St} {H' : Hp} {s' : Shared} (I4 : Inv X pins σ H4 s4) (f4 : ∀ b ∈ fp, FpOk X pins H4 b ∧ b < s4.heap.objs.size) (I : Inv (gx X A s4 H4 scope cenv fp pn) ps σ' H' s') : Inv X pins σ H' s' :=
  I4.call' (ch := fp) I.os I.base I.hok I.bare fun b hb => ⟨(f4 b hb).1.2.2.2.1, (f4 b hb).1.2.1, (f4 b hb).1.2.2.2.2.1, (f4 b hb).1.2.2.2.2.2⟩
theorem pinsAt_S {b : Addr} {h : Heap} {p : Addr × Obj} (hp : p ∈ pinsAt S h) : p.1 ∈ S := (of_pinsAt hp).1
/-- the consumer has put its own things in order; the frame stands as it stood -/
theorem slept {σ' : L2.St} {H' : Hp} {s s' : Shared} {ps : List (Addr × Obj)} (hS : ∀ b ∈ S, s4.heap.objs.size ≤ b ∧ b ≠ cenv.locals ∧ (∀ x c, cenv.cells.lookup x = some c → c ≠ b) ∧ (∀ p ∈ pn, p.1 ≠ b) ∧ b ∉ fp) (nS : ∀ b ∈ S, H' b = none)
    (I : Inv (gx X A s4 H4 scope cenv fp pn) ps σ' H' s) (hfs : ∀ b ∈ S, b ∉ frs X.stack) (z : Slp S s s') : Inv (gx X A s4 H4 scope cenv fp pn) (pinsAt S s'.heap) σ' H' s' := by
  have I0 : Inv (gx X A s4 H4 scope cenv fp pn) [] σ' H' s := I.pins_of fun p hp => by simp at hp
  have nt : ∀ b u, H' b = some u → b ∉ S := fun b u q hb => by rw [nS b hb] at q; cases q
  obtain ⟨z1, z2, z3, z4⟩ := z
  obtain ⟨hh, gg, d, t, o⟩ := s'
  have ho : o = s.os := z1
  subst ho
  have J : Inv (gx X A s4 H4 scope cenv fp pn) [] σ' H' { s with heap := hh, gens := gg, drawn := d, toks := t } := by
    refine I0.step (g' := gg) (t' := t) (d' := d) (ch := S) (fun b hb => ?_)
      (fun b ob _ _ hc q _ => z3 b ob hc q) (fun b ob _ _ hc q _ => ⟨ob.slots, z3 b ob hc q⟩) (fun _ _ _ _ n => n) (fun b ob hc q => ⟨ob, z3 b ob hc q⟩)
      (fun _ _ q => q) (fun _ _ _ q => q) (fun b ps q => ⟨#[], by rw [q]; simp⟩) (fun m hm => ?_) (fun b u q => ?_) z2
    · obtain ⟨h1, h2, h3, h4, h5⟩ := hS b hb
      refine ⟨.inr h1, h2, h3, fun p hp => h4 p (by simpa using hp)⟩
    · obtain ⟨ob, es, ep, ho, r⟩ := hm
      refine ⟨ob, es, ep, z3 _ ob (fun hb => (hS _ hb).2.1 rfl) ho, r⟩
    · refine (I0.hok b u q).stay (fun c v hc y => z3 c v ?_ y) (fun _ y => y) fun _ _ y => y
      rcases hc with y | y
      · rw [y]; exact nt b u q
      · exact nt c _ y
  refine J.pins_of fun p hp => ?_
  obtain ⟨h1, h2⟩ := of_pinsAt hp
  obtain ⟨o, e, hcell⟩ := z4 p.1 h1
  have h2 : hh.get? p.1 = some p.2 := h2
  have e : hh.get? p.1 = some o := e
  rw [h2] at e; cases e
  exact ⟨h2, nS p.1 h1, (hS p.1 h1).2.1, hfs p.1 h1, hcell⟩
/-- a generator expression's loop -/
theorem seg_loop (hc : X.calm = true) (hco : cenv.scope.isCoroutine = false) (I4 : Inv X pins σ H4 s4) (f4 : ∀ b ∈ fp, FpOk X pins H4 b ∧ b < s4.heap.objs.size) (hS : ∀ b ∈ S, s4.heap.objs.size ≤ b ∧ b ≠ cenv.locals ∧ (∀ x c, cenv.cells.lookup x = some c → c ≠ b) ∧ (∀ p ∈ pn, p.1 ≠ b) ∧ b ∉ fp)
    (hfs : ∀ b ∈ S, b ∉ frs X.stack) (hpY : ∀ p ∈ pn, s4.heap.objs.size ≤ p.1) (hgen : ∀ (h : Heap), (∀ p ∈ pn, h.get? p.1 = some p.2) → h.IsGen a gn)
    (T : Turn X.prog X.w X.K tg J fp it tn) (pg : PG (gx X A s4 H4 scope cenv fp pn) tg g) (pt : PTs (gx X A s4 H4 scope cenv fp pn) ifs tt) (pe : PE (gx X A s4 H4 scope cenv fp pn) elt te)
    (turn : GT σ (own.map (·.2)) J g tt te cons Fin Q W) (inj : ∀ k k' h, KR k h → KR k' h → k = k') :
    ∀ (m n i : Nat) (k : κ) (s₀ s : Shared) (H : Hp), m < n → Inv (gx X A s4 H4 scope cenv fp pn) (pinsAt S s.heap) (wipe σ (own.map (·.2))) H s → tn i s.heap → (∀ b ∈ fp, H b = none) → (∀ b ∈ S, ∃ o, s.heap.get? b = some o ∧ ∀ v, o.data ≠ .cell v) → (∀ b ∈ S, H b = none) → W k i m H → KR k s₀.heap → keepS S s₀ s →
      Seg (model X.prog X.w) A (GR X pins σ KR Fin S) (GY X pins σ a gn cons KR Q S) n s₀ (.compLoop (.GeneratorExp elt [⟨tg, iter, ifs, 0⟩] scope pos) 0 (.ref it) .none cenv)
        ((model X.prog X.w).den (.compLoop (.GeneratorExp elt [⟨tg, iter, ifs, 0⟩] scope pos) 0 (.ref it) .none cenv)) [] s := by
  intro m
  have stat : ∀ {σ' : L2.St} {H' : Hp} {s' : Shared} {h : Heap}, Inv (gx X A s4 H4 scope cenv fp pn) (pinsAt S h) σ' H' s' → (∀ b ∈ fp, H' b = none) → ∀ b ∈ fp, FpOk (gx X A s4 H4 scope cenv fp pn) (pinsAt S h) H' b := fun {σ' H' s' h} I' hn b hb =>
    ⟨hn b hb, (I'.ok.exf b hb).1, I'.ok.exfs b hb, .inl hb, fun x c e => (I'.ok.exf b hb).2 x c e, fun p hp z => by
      rcases List.mem_append.mp hp with hp | hp
      · have := hpY p hp
        rw [z] at this
        exact absurd (Nat.lt_of_lt_of_le (f4 b hb).2 this) (Nat.lt_irrefl _)
      · exact (hS p.1 (of_pinsAt hp).1).2.2.2.2 (by rw [z]; exact hb)⟩
  have keepOf : ∀ {σ' : L2.St} {H' : Hp} {s s' : Shared} {ps : List (Addr × Obj)}, (∀ b ∈ S, ∃ o, s.heap.get? b = some o ∧ ∀ v, o.data ≠ .cell v) → Inv (gx X A s4 H4 scope cenv fp pn) ps σ' H' s' → (∀ p ∈ pinsAt S s.heap, p ∈ ps) → keepS S s s' := fun {σ' H' s s' ps} _ I' hp b hb o e =>
    (I'.pin (b, o) (List.mem_append_right _ (hp _ (mem_pinsAt hb e)))).1
  have nSOf : ∀ {σ' : L2.St} {H' : Hp} {s s' : Shared} {ps : List (Addr × Obj)}, (∀ b ∈ S, ∃ o, s.heap.get? b = some o ∧ ∀ v, o.data ≠ .cell v) → Inv (gx X A s4 H4 scope cenv fp pn) ps σ' H' s' → (∀ p ∈ pinsAt S s.heap, p ∈ ps) → ∀ b ∈ S, H' b = none := fun {σ' H' s s' ps} oS I' hp b hb => by
    obtain ⟨o, e, _⟩ := oS b hb
    exact (I'.pin (b, o) (List.mem_append_right _ (hp _ (mem_pinsAt hb e)))).2.1
  have ktr : ∀ {s₀ s s' : Shared}, keepS S s₀ s → keepS S s s' → keepS S s₀ s' := fun h1 h2 b hb o e => h2 b hb o (h1 b hb o e)
  have oSOf : ∀ {s s' : Shared}, (∀ b ∈ S, ∃ o, s.heap.get? b = some o ∧ ∀ v, o.data ≠ .cell v) → keepS S s s' → ∀ b ∈ S, ∃ o, s'.heap.get? b = some o ∧ ∀ v, o.data ≠ .cell v := fun oS h b hb => by
    obtain ⟨o, e, hc⟩ := oS b hb
    exact ⟨o, h b hb o e, hc⟩
  have genOf : ∀ {σ' : L2.St} {H' : Hp} {s' : Shared} {ps : List (Addr × Obj)}, Inv (gx X A s4 H4 scope cenv fp pn) ps σ' H' s' → s'.heap.IsGen a gn := fun {σ' H' s' ps} I' => hgen _ fun p hp => (I'.pin p (List.mem_append_left _ hp)).1
  induction m using Nat.strongRecOn with
  | ind m ih =>
    intro n i k s₀ s H hmn I st nfp oS nS w kr ks
    rcases turn k i m H w with ⟨stop, fin⟩ | ⟨go, Nx, hNx, step⟩
    · show Seg _ A _ _ n s₀ _ ((compTurn (.GeneratorExp elt [⟨tg, iter, ifs, 0⟩] scope pos) 0 (.ref it) .none cenv).onRaise (leaving cenv)) [] s
      rw [compTurn_gen, Sem.onRaise_eq_wrap]
      refine seg_bind_wrap (wpAny_standAt ?_)
      refine seg_bind_wrap ?_
      rw [over_comp]
      refine thnF (T.done (gx X A s4 H4 scope cenv fp pn) rfl rfl rfl hc i _ s _ H (fun _ _ => False) I (stat I nfp) st stop) fun r s6 ⟨hr, I6⟩ => ?_
      subst hr
      exact seg_end (.ok .next) (.inl ⟨.inr rfl, ktr ks (keepOf oS I6 fun _ h => h), k, H, kr, backX I4 f4 I6, nS, fin⟩)
    · show Seg _ A _ _ n s₀ _ ((compTurn (.GeneratorExp elt [⟨tg, iter, ifs, 0⟩] scope pos) 0 (.ref it) .none cenv).onRaise (leaving cenv)) [] s
      rw [compTurn_gen, Sem.onRaise_eq_wrap]
      refine seg_bind_wrap (wpAny_standAt ?_)
      refine seg_bind_wrap ?_
      rw [over_comp]
      refine thnF (T.item (gx X A s4 H4 scope cenv fp pn) rfl rfl rfl hc i _ s _ H (fun _ _ => False) I (stat I nfp) st go) fun r s6 ⟨u, hr, h6⟩ => ?_
      subst hr
      refine seg_bind_wrap ?_
      rw [over_comp]
      refine thnF h6 fun _ s7 ⟨x, H7, I7, r7, y7, st7, n7⟩ => ?_
      have I7' := I7.pinned (stat I7 n7) (T.obj _ _ st7)
      refine seg_bind_wrap ?_
      rw [over_comp]
      refine thnF (pg.run _ s7 _ H7 x u _ I7' r7 (step x H7 y7)) fun _ s8 ⟨σ8, H8, I8, hw8, q8⟩ => ?_
      refine seg_bind_wrap ?_
      rw [over_comp]
      refine thnF (pt.run _ s8 σ8 H8 _ I8 q8) fun b s9 ⟨H9, I9, q9⟩ => ?_
      -- a turn's end
      have fin : ∀ {s' : Shared} {H' : Hp}, Inv (gx X A s4 H4 scope cenv fp pn) (pinsAt S s.heap ++ pinsAt fp s7.heap) σ8 H' s' → Inv (gx X A s4 H4 scope cenv fp pn) (pinsAt S s.heap) (wipe σ (own.map (·.2))) H' s' ∧ tn (i + 1) s'.heap ∧ (∀ b ∈ fp, H' b = none) := fun {s' H'} I' => by
        have pin' : ∀ b ∈ fp, ∀ o, s7.heap.get? b = some o → s'.heap.get? b = some o ∧ H' b = none := fun b hb o e =>
          let z := I'.pin (b, o) (List.mem_append_right _ (List.mem_append_right _ (mem_pinsAt hb e)))
          ⟨z.1, z.2.1⟩
        have hl : (wipe σ (own.map (·.2))).length = σ8.length := by rw [← hw8, wipe_length]
        refine ⟨(I'.unpinned (pins := pinsAt S s.heap)).weak hl (fun j v e => ?_), T.keep _ _ _ st7 fun b hb o e => (pin' b hb o e).1, fun b hb => ?_⟩
        · rw [← hw8] at e
          exact (wipe_some e).1
        · obtain ⟨o, e, _⟩ := T.obj _ _ st7 b hb
          exact (pin' b hb o e).2
      cases b with
      | false =>
        simp only [Bool.false_eq_true, if_false] at q9 ⊢
        obtain ⟨m', hm, w'⟩ := hNx _ _ q9
        obtain ⟨J1, J2, J3⟩ := fin I9
        have k9 := keepOf (s := s) oS J1 fun _ h => h
        have J1' : Inv (gx X A s4 H4 scope cenv fp pn) (pinsAt S s9.heap) (wipe σ (own.map (·.2))) H9 s9 := J1.pins_of fun p hp => by
          obtain ⟨h1, h2⟩ := of_pinsAt hp
          obtain ⟨o, e, hcell⟩ := oS p.1 h1
          have := J1.pin (p.1, o) (List.mem_append_right _ (mem_pinsAt h1 e))
          have e2 := k9 p.1 h1 o e
          rw [h2] at e2; cases e2
          exact this
        exact seg_again rfl (ih m' hm n (i + 1) k s₀ s9 H9 (by omega) J1' J2 J3 (oSOf oS k9) (nSOf oS J1 fun _ h => h) w' kr (ktr ks k9))
      | true =>
        simp only [if_true] at q9 ⊢
        have hy : ∀ v, yieldOut cenv v = yieldValue v := fun v => by simp only [yieldOut, hco, Bool.false_eq_true, if_false]
        simp only [hy]
        rw [Sem.bind_eq_wrap', Sem.bind_eq_wrap', Sem.wrap_wrap, Sem.wrap_wrap]
        refine seg_wrap ?_
        rw [over_comp]
        refine thnF (pe.run _ s9 σ8 H9 _ I9 q9) fun z s10 hz10 => ?_
        obtain ⟨yv, H10, I10, r10, q10⟩ := hz10
        obtain ⟨J1, J2, J3⟩ := fin I10
        have k10 := keepOf (s := s) oS J1 fun _ h => h
        have nS10 := nSOf oS J1 fun _ h => h
        obtain ⟨n', rfl⟩ : ∃ n', n = n' + 1 := ⟨n - 1, by omega⟩
        refine seg_at (seg_yield rfl rfl rfl ⟨ktr ks k10, genOf J1, k, yv, H10, kr, r10, backX I4 f4 J1, nS10, ?_⟩)
        cases hcons : cons k yv with
        | none => rw [hcons] at q10; exact q10
        | some z =>
          cases z with
          | inr r => rw [hcons] at q10; exact q10
          | inl k' =>
            rw [hcons] at q10
            intro s'' hsl kr''
            obtain ⟨m', hm, w'⟩ := hNx _ _ q10
            have J1' := slept hS nS10 J1 hfs hsl
            refine seg_again rfl (ih m' hm n' (i + 1) k' s'' s'' H10 (by omega) J1' (T.keep _ _ _ J2 fun b hb o e => hsl.keep b o (fun hbS => (hS b hbS).2.2.2.2 hb) e) J3 hsl.own nS10 w' kr'' fun _ _ _ e => e)
end
end GE
namespace GE
open PySem PySem.Spec PyProof.Rows L2 GenW GxR

theorem nat1 {n m b : Nat} (h1 : m = n + 1) (h2 : m + 1 ≤ b) : n + 1 < b := by omega
theorem nat2 {n b : Nat} (h1 : n + 1 < b) (h2 : b < n) : False := by omega
theorem nat3 {n m b : Nat} (h1 : n + 1 < b) (h2 : m = n + 1) (h3 : m = b) : False := by omega
theorem nat4 {n b : Nat} (h1 : n + 1 < b) : n ≤ b ∧ b ≠ n := by omega
section
variable {κ : Type} {X : Cx} {pins : List (Addr × Obj)} {σ : L2.St} {elt tg iter : Expr} {ifs : List Expr} {scope : Scope} {pos : Pos} {own : List (Str × Nat)} {Q : VK} {g : TG} {tt : TT} {te : TE}
/-- a generator that has not begun: whoever wakes it at A, with things of its own at S, gets what GY and GR say -/
def Made (X : Cx) (pins : List (Addr × Obj)) (σ : L2.St) (own : List Nat) (g : TG) (tt : TT) (te : TE) (R : Hp → It → Prop) (u : Value) (s5 : Shared) : Prop :=
  ∃ (a : Addr) (gn : Nat) (c : Code) (H : Hp) (J : It), u = .ref a ∧ Inv X pins σ H s5 ∧ s5.heap.IsGen a gn ∧ s5.gens[gn]? = some (.fresh c) ∧ R H J ∧
    ∀ (κ : Type) (cons : κ → V → Option (κ ⊕ V)) (KR : κ → Heap → Prop) (Fin : κ → Hp → Prop) (Q : VK) (W : κ → Nat → Nat → Hp → Prop) (m0 : Nat) (k0 : κ), W k0 0 m0 H → GT σ own J g tt te cons Fin Q W → (∀ k k' h, KR k h → KR k' h → k = k') →
      ∀ (A : Around) (S : List Addr) (s2 : Shared), A.handled = none → A.frames = some X.stack → X.A.depth ≥ A.depth → X.A.units + 8 ≥ A.units → (∀ b ∈ S, s5.heap.objs.size ≤ b) → (∀ b o, s5.heap.get? b = some o → s2.heap.get? b = some o) → s2.os = s5.os → AllBare s2.gens → (∀ b ∈ S, ∃ o, s2.heap.get? b = some o ∧ ∀ v, o.data ≠ .cell v) → KR k0 s2.heap →
        Seg (model X.prog X.w) A (GR X pins σ KR Fin S) (GY X pins σ a gn cons KR Q S) (m0 + 1) s2 c ((model X.prog X.w).den c) [] s2
/-- what is near enough for the elements' calls -/
def Near (X : Cx) (A : Around) : Prop := A.handled = none ∧ A.depth ≤ X.A.depth ∧ A.units ≤ X.A.units + 8
theorem Near.room {X : Cx} {A : Around} {k : Nat} {env : Env} (h : Near X A) (r : Room (k + 1) X.A) : Room k (A.deeper env) :=
  ⟨h.1, by have := r.dp; have := h.2.1; show A.depth + 1 + 3 * k + 5 < _; omega, by have := r.un; have := h.2.2; show A.units + 3 + 16 * k + 200 < _; omega⟩
theorem gen_make {c P : Addr} {wi : TI} {R : Hp → It → Prop} {k : Nat} (hr : Room k X.A) (hc : X.calm = true) (TB : TabB X.base X.mg c P) (hcode : X.env.code = .ref c) (ok : GOk X.N X.env.scope scope own) (hN : X.N.Nodup) (hdot : X.N.contains (".0" : Str) = false) (hi : PI X tg iter wi)
    (hg : ∀ (A : Around) (s : Shared) (H : Hp) (C : Addr) (cl : List (Str × Addr)) (code : Value) (bi : Addr) (fp : List Addr) (pn : List (Addr × Obj)), Near X A → PG (gx X A s H scope (genEnv scope cl C code bi X.env) fp pn) tg g)
    (ht : ∀ (A : Around) (s : Shared) (H : Hp) (C : Addr) (cl : List (Str × Addr)) (code : Value) (bi : Addr) (fp : List Addr) (pn : List (Addr × Obj)), Near X A → PTs (gx X A s H scope (genEnv scope cl C code bi X.env) fp pn) ifs tt)
    (he : ∀ (A : Around) (s : Shared) (H : Hp) (C : Addr) (cl : List (Str × Addr)) (code : Value) (bi : Addr) (fp : List Addr) (pn : List (Addr × Obj)), Near X A → PE (gx X A s H scope (genEnv scope cl C code bi X.env) fp pn) elt te)
    {s : Shared} {H : Hp} (hs : ∀ v, genFold iter X.env v = pure v) (I : Inv X pins σ H s) (h : wi σ H fun J H1 => TabG H1 P ∧ ∀ H2, Tabbed P H1 H2 → R H2 J) :
    wpAny (model X.prog X.w) X.A (eval (.GeneratorExp elt [⟨tg, iter, ifs, 0⟩] scope pos) X.env) (Made X pins σ (own.map (·.2)) g tt te R) X.xe s := by
  have hfree : ∀ y ∈ scope.names, y.2 = .free → ∃ c, X.env.cells.lookup y.1 = some c := fun y hy e => by
    rcases ok.blk.free y hy e with k | k
    · exact I.ok.has _ (.inl k)
    · exact I.ok.has _ (.inr k)
  refine wpAny_GeneratorExp_make ok.co (closure_ok hfree) ok.cell ok.dot ok.blk.kind (by have := hr.dp; omega) ?_ hs
  refine thn (hi.run pins s σ H _ I h) fun xv s1 h1 => thn h1 fun itv s2 h2 => ?_
  obtain ⟨it, fp, tn, J, H2, rfl, I2, T, st2, f2, ⟨ps, hP, htr⟩, hR⟩ := h2
  refine ⟨I2.nolimit, ?_⟩
  have hPs : s2.heap.get? P = some { cls := .none, data := .fields ps } := I2.hok P _ hP
  have cd : PySem.W.CodeHd s2.heap c P := TB.code.keeps fun b u e => I2.bk b u e
  have nfpP : ∀ b ∈ fp, b ≠ P := fun b hb z => by have := (f2 b hb).1; rw [z, hP] at this; cases this
  have cont : ∀ (code : Value) (h3 : Heap) (tk : Nat) (ps' : Array Value), Heap.ExtBut P s2.heap h3 → s2.heap.objs.size ≤ h3.objs.size → h3.get? P = some { cls := .none, data := .fields ps' } → (∃ more, ps' = ps ++ more) → TriplesOk ps'.toList →
      wpAny (model X.prog X.w) X.A (builtinsFor X.env.globals X.env.builtins) (fun bi s₄ =>
        ∀ h', h'.Ns s₄.heap.objs.size (fun y => if y = ".0" then some (.ref it) else none) → Heap.SameBut s₄.heap.objs.size (s₄.heap.push { cls := .type "frame", data := .dict #[] }) h' →
          Made X pins σ (own.map (·.2)) g tt te R (.ref h'.objs.size) { s₄ with
            gens := s₄.gens.push (.fresh (.compStart (.GeneratorExp elt [⟨tg, iter, ifs, 0⟩] scope pos) 0 (.ref it) .none (genEnv scope (cloFrom X.env.cells scope.names []) s₄.heap.objs.size code bi X.env))),
            toks := s₄.toks + 1 + 1 + 1,
            heap := h'.push { cls := .type "generator", data := .fields #[.int s₄.gens.size 0, .str "<genexpr>" (s₄.toks + 1), .str (X.env.qual ++ "<genexpr>") (s₄.toks + 1 + 1)] } }) X.xe { s2 with heap := h3, toks := tk } := by
    intro code h3 tk ps' hx hsz hP3 hmore ht3
    obtain ⟨bm, ob, e1, e2, e3, e4, e5, e6, e7, e8⟩ := TB.bm
    refine wpAny_builtinsFor (m := X.mg) (by rw [I2.ok.glob]; exact (I2.mod.glob.keeps I2.bk).extBut hx TB.gP) e1 e2 (hx _ _ e4 (I2.bk _ _ e5)) e6 e7 e8 ?_
    intro h' hn' hs'
    dsimp only at hn' hs' ⊢
    obtain ⟨more, rfl⟩ := hmore
    -- the table has grown
    have I4 : Inv X pins σ (upd H2 P (.tbl (ps ++ more))) { s2 with heap := h3, toks := tk } := inv_tab (g' := s2.gens) (d' := s2.drawn) I2 hP (fun b o hb e => hx b o hb e) hP3 I2.bare
    have T4 : Tabbed P H2 (upd H2 P (.tbl (ps ++ more))) := ⟨⟨ps ++ more, upd_same, ht3⟩, fun b hb => upd_ne hb⟩
    have f4 : ∀ b ∈ fp, FpOk X pins (upd H2 P (.tbl (ps ++ more))) b ∧ b < h3.objs.size := fun b hb => by
      obtain ⟨o, e, _⟩ := T.obj _ _ st2 b hb
      refine ⟨⟨?_, (f2 b hb).2⟩, Nat.lt_of_lt_of_le (Heap.lt_size e) hsz⟩
      rw [upd_ne (nfpP b hb)]
      exact (f2 b hb).1
    have st4 : tn 0 h3 := T.keep _ _ _ st2 fun b hb o e => hx b o (nfpP b hb) e
    have hsz' : h'.objs.size = h3.objs.size + 1 := by rw [hs'.1, Heap.size_push]
    have kp' : ∀ b o, h3.get? b = some o → h'.get? b = some o := fun b o e => (hs'.2 b (Nat.ne_of_lt (Heap.lt_size e))).trans (Heap.get?_push_of_some _ e)
    have gobj : ∀ (h : Heap), (h.push { cls := .type "generator", data := .fields #[.int s2.gens.size 0, .str "<genexpr>" (tk + 1), .str (X.env.qual ++ "<genexpr>") (tk + 1 + 1)] }).get? h.objs.size = some { cls := .type "generator", data := .fields #[.int s2.gens.size 0, .str "<genexpr>" (tk + 1), .str (X.env.qual ++ "<genexpr>") (tk + 1 + 1)] } := fun h => Heap.get?_push_size _ rfl
    have kp5 : ∀ b o, h3.get? b = some o → (h'.push { cls := .type "generator", data := .fields #[.int s2.gens.size 0, .str "<genexpr>" (tk + 1), .str (X.env.qual ++ "<genexpr>") (tk + 1 + 1)] }).get? b = some o := fun b o e => Heap.get?_push_of_some _ (kp' b o e)
    have barePush : AllBare (s2.gens.push (.fresh (.compStart (.GeneratorExp elt [⟨tg, iter, ifs, 0⟩] scope pos) 0 (.ref it) .none (genEnv scope (cloFrom X.env.cells scope.names []) h3.objs.size code builtinsNs X.env)))) := AllBare.push I2.bare rfl
    refine ⟨h'.objs.size, s2.gens.size, _, upd H2 P (.tbl (ps ++ more)), J, rfl, ?_, ⟨_, _, _, gobj h', rfl, rfl, rfl⟩, Array.getElem?_push_size .., hR _ T4, ?_⟩
    · have := I4.call' (ch := []) (s' := { s2 with gens := s2.gens.push (.fresh (.compStart (.GeneratorExp elt [⟨tg, iter, ifs, 0⟩] scope pos) 0 (.ref it) .none (genEnv scope (cloFrom X.env.cells scope.names []) h3.objs.size code builtinsNs X.env))), toks := tk + 1 + 1 + 1, heap := h'.push { cls := .type "generator", data := .fields #[.int s2.gens.size 0, .str "<genexpr>" (tk + 1), .str (X.env.qual ++ "<genexpr>") (tk + 1 + 1)] } }) rfl (Un.kept kp5) (I4.hok.kept kp5) barePush fun b z => by simp at z
      exact this
    · intro κ cons KR Fin Q W m0 k0 w0 turn inj A S sw hrA hfr hdp hun hSz hk2 hos hba hSo hkr
      have near : Near X A := ⟨hrA, hdp, hun⟩
      have kw : ∀ b o, h3.get? b = some o → sw.heap.get? b = some o := fun b o e => hk2 b o (kp5 b o e)
      generalize hpn : [(h'.objs.size, ({ cls := .type "generator", data := .fields #[.int s2.gens.size 0, .str "<genexpr>" (tk + 1), .str (X.env.qual ++ "<genexpr>") (tk + 1 + 1)] } : Obj))] = pn
      have hpnm : ∀ p ∈ pn, p = (h'.objs.size, ({ cls := .type "generator", data := .fields #[.int s2.gens.size 0, .str "<genexpr>" (tk + 1), .str (X.env.qual ++ "<genexpr>") (tk + 1 + 1)] } : Obj)) := fun p hp => by rw [← hpn] at hp; exact List.mem_singleton.mp hp
      have hSlt : ∀ b ∈ S, h3.objs.size + 1 < b := fun b hb => by
        have := hSz b hb
        have h5 : (h'.push { cls := .type "generator", data := .fields #[.int s2.gens.size 0, .str "<genexpr>" (tk + 1), .str (X.env.qual ++ "<genexpr>") (tk + 1 + 1)] }).objs.size ≤ b := this
        rw [Heap.size_push] at h5
        exact nat1 hsz' h5
      have nsw : sw.heap.Ns h3.objs.size (fun y => if y = ".0" then some (.ref it) else none) := by
        refine Heap.Ns.keeps hn' fun b o e => hk2 b o (Heap.get?_push_of_some _ e)
      have Ig : Inv (gx X A { s2 with heap := h3, toks := tk } (upd H2 P (.tbl (ps ++ more))) scope (genEnv scope (cloFrom X.env.cells scope.names []) h3.objs.size code builtinsNs X.env) fp pn) [] (wipe σ (own.map (·.2))) (upd H2 P (.tbl (ps ++ more))) sw := by
        refine gen_start (s := { s2 with heap := h3, toks := tk }) rfl I4 ok hN f4 hfr (fun _ => hrA) nsw kw hos hba (fun p hp => ?_) hdot
        rw [hpnm p hp]
        refine ⟨hk2 _ _ (gobj h'), ?_, fun v z => by cases z⟩
        show h3.objs.size < h'.objs.size
        omega
      have hSok : ∀ b ∈ S, ({ s2 with heap := h3, toks := tk } : Shared).heap.objs.size ≤ b ∧ b ≠ (genEnv scope (cloFrom X.env.cells scope.names []) h3.objs.size code builtinsNs X.env).locals ∧ (∀ x c, (genEnv scope (cloFrom X.env.cells scope.names []) h3.objs.size code builtinsNs X.env).cells.lookup x = some c → c ≠ b) ∧ (∀ p ∈ pn, p.1 ≠ b) ∧ b ∉ fp := fun b hb => by
        have hlt := hSlt b hb
        refine ⟨(nat4 hlt).1, (nat4 hlt).2, fun x c e z => ?_, fun p hp z => ?_, fun z => ?_⟩
        · have := PySem.mem_of_lookup e
          obtain ⟨h1, h2⟩ := mem_cloFrom' this
          obtain ⟨c', hc'⟩ := hfree _ h1 rfl
          have hc' : X.env.cells.lookup x = some c' := hc'
          rw [hc'] at h2
          obtain ⟨w, zz⟩ := I4.cell x c' hc'
          have h3' := zz.lt
          have h3'' : c' < h3.objs.size := h3'
          have h2' : c = c' := h2
          have h6 : c < h3.objs.size := h2' ▸ h3''
          have h7 : c = b := z
          rw [h7] at h6
          exact nat2 hlt h6
        · rw [hpnm p hp] at z
          have h9 : h'.objs.size = b := z
          exact nat3 hlt hsz' h9
        · exact nat2 hlt (f4 b z).2
      have hSfs : ∀ b ∈ S, b ∉ frs X.stack := fun b hb z => by
        have hlt := hSlt b hb
        rcases List.mem_cons.mp (I4.stkSub b z) with z | z
        · have h1 := I4.lt
          rw [← z] at h1
          exact nat2 hlt h1
        · exact I4.nofs (show h3.objs.size ≤ b by have h8 := hSlt b hb; exact Nat.le_of_lt (Nat.lt_of_succ_lt h8)) z
      have nS : ∀ b ∈ S, (upd H2 P (.tbl (ps ++ more))) b = none := fun b hb => I4.hok.fresh (show h3.objs.size ≤ b from Nat.le_of_lt (Nat.lt_of_succ_lt (hSlt b hb)))
      have Ig' := slept (s4 := { s2 with heap := h3, toks := tk }) hSok nS Ig hSfs ⟨rfl, hba, fun _ _ _ e => e, hSo⟩
      have loop := fun s₀ (kr : KR k0 s₀.heap) (ks : keepS S s₀ sw) => seg_loop (elt := elt) (iter := iter) (ifs := ifs) (pos := pos) (cons := cons) (a := h'.objs.size) (gn := s2.gens.size) (Q := Q) hc (by exact ok.co) I4 f4 hSok hSfs (fun p hp => by rw [hpnm p hp]; show h3.objs.size ≤ h'.objs.size; omega)
        (fun h hp => ⟨_, _, _, hp _ (by rw [← hpn]; exact List.mem_singleton.mpr rfl), rfl, rfl, rfl⟩) T (hg _ _ _ _ _ _ _ _ _ near) (ht _ _ _ _ _ _ _ _ _ near) (he _ _ _ _ _ _ _ _ _ near) turn inj m0 (m0 + 1) 0 k0 s₀ sw _ (Nat.lt_succ_self _) Ig' (T.keep _ _ _ st4 fun b hb o e => kw b o e) (fun b hb => (f4 b hb).1.1) hSo nS w0 kr ks
      show Seg _ A _ _ _ sw _ ((compStart (.GeneratorExp elt [⟨tg, iter, ifs, 0⟩] scope pos) 0 (.ref it) .none _).onRaise (leaving _)) [] sw
      unfold compStart
      rw [Sem.onRaise_eq_wrap]
      show Seg _ A _ _ _ sw _ ((ask >>= _).wrap _ _ _ _) [] sw
      refine seg_bind_wrap (wpAny_askSetting ?_)
      have fin := loop sw hkr fun _ _ _ e => e
      split
      · exact seg_again rfl fin
      · first
          | exact seg_bind_wrap (wpAny_rule (seg_bind_wrap (wpAny_standAt (seg_bind_wrap (T.self _ 0 sw _ _ (T.keep _ _ _ st4 fun b hb o e => kw b o e) (seg_again rfl fin))))))
          | (refine seg_bind_wrap (wpAny_rule ?_); show Seg _ A _ _ _ sw _ ((standAt iter.pos >>= _).wrap _ _ _ _) [] sw; exact seg_bind_wrap (wpAny_standAt (seg_bind_wrap (T.self _ 0 sw _ _ (T.keep _ _ _ st4 fun b hb o e => kw b o e) (seg_again rfl fin)))))
  cases hf : codeAmong pos ps.toList with
  | none =>
    refine wpAny_genexprCodeX hcode (cd.code hPs htr) (cd.tab hPs) hf fun c' h' tk hx hge hlt hco' _ htab' _ => ?_
    obtain ⟨o1, vs, f1, tf, fl, tg, inF, tx, tt, op, _, _, _, _, _, _, _, _, _, htr', _⟩ := hco'
    exact cont _ h' tk _ hx (Nat.le_trans hge (Nat.le_of_lt hlt)) htab'.2 ⟨_, rfl⟩ htr'
  | some cv =>
    refine wpAny_genexprCode_hit hcode (cd.code hPs htr) hf ?_
    exact cont cv s2.heap s2.toks ps (Heap.ExtBut.refl _ _) (Nat.le_refl _) hPs ⟨#[], by simp⟩ htr
end
end GE
namespace GE
open PySem PySem.Spec PyProof.Rows L2 GenW GxR

theorem inv_gens {X : Cx} {pins : List (Addr × Obj)} {σ : L2.St} {H : Hp} {s s' : Shared} (I : Inv X pins σ H s) (os : s'.os = s.os) (hb : AllBare s'.gens) (kp : ∀ b o, s.heap.get? b = some o → s'.heap.get? b = some o) : Inv X pins σ H s' :=
  I.call' (ch := []) os (Un.kept kp) (I.hok.kept kp) hb fun b z => by simp at z

/-- all, any: go on at this truth value, else the answer is the other one -/
def consB (go : Bool) : Unit → V → Option (Unit ⊕ V) := fun _ y => match y with
  | .bl b => if b = go then some (.inl ()) else some (.inr (.bl b))
  | _ => none
section
variable {X : Cx} {pins : List (Addr × Obj)} {σ : L2.St} {Q : VK} {a : Addr} {g : Nat} {A : Around} {Fin : Unit → Hp → Prop}
theorem boolLoop {E : Value → Shared → Prop} (go : Bool) (id : String) (hid : (go = true ∧ id = "all.loop") ∨ (go = false ∧ id = "any.loop")) (hfin : ∀ H, Fin () H → Q (.bl go) H) (hd : A.depth < recursionLimit) (hh : A.handled = none) : ∀ (n : Nat) (s : Shared), s.heap.IsGen a g → s.heap.NoLimit →
    (∃ gs, s.gens[g]? = some gs ∧ gs.Goes (model X.prog X.w) A.in1.in1 (GR X pins σ (fun (_ : Unit) _ => True) Fin []) (GY X pins σ a g (consB go) (fun (_ : Unit) _ => True) Q []) n (.send .none) (s.setGen g .running)) →
    codeAny (model X.prog X.w) A (.builtin id ⟨[.ref a], []⟩) (fun r s' => match r with | .ok (.ret u) => EP X pins σ Q u s' | .ok _ => False | .error e => E e s') s := by
  intro n
  induction n with
  | zero =>
    intro s hg hl ⟨gs, hgs, hgo⟩
    have hgl : g < s.gens.size := (Array.getElem?_eq_some_iff.mp hgs).1
    have body : wpAny (model X.prog X.w) A.in1 (pyNext (.ref a)) (fun r s1 => match r with
        | none => EP X pins σ Q (.bool go) s1
        | some v => ∃ b, v = .bool b ∧ b ≠ go ∧ EP X pins σ Q (.bool b) s1) (fun _ _ => False) s := by
      refine next_genG (A := A.in1) hh hl hd hg hgs hgo (fun v s₁ gs' hbare hv => ?_) (fun s₁ hp h' hk => ?_) fun e s₁ he => he.elim
      · obtain ⟨_, hg1, k, y, H, _, ry, I1, _, hc⟩ := hv
        cases y with
        | bl b =>
          cases ry
          have I2 : Inv X pins σ H (s₁.setGen g gs') := inv_gens I1 rfl (allBare_setGen I1.bare hbare) fun _ _ e => e
          by_cases hb : b = go
          · exfalso
            simp only [consB, if_pos hb] at hc
            exact hc (s₁.setGen g gs') ⟨rfl, allBare_setGen I1.bare hbare, fun _ _ _ e => e, fun b hb => by simp at hb⟩ trivial
          · simp only [consB, if_neg hb] at hc
            exact ⟨b, rfl, hb, .bl b, H, I2, rfl, hc⟩
        | _ => exact hc.elim
      · obtain ⟨_, k, H, _, I1, _, hq⟩ := hp
        exact ⟨.bl go, H, inv_gens I1 rfl (allBare_setGen I1.bare rfl) hk, rfl, hfin H hq⟩
    rcases hid with ⟨rfl, rfl⟩ | ⟨rfl, rfl⟩
    ·
      refine codeAny_builtin F.entry_all_loop ?_
      rw [Around.under_plainId F.plain_all_loop _]
      show wpAny _ A.in1 (pyNext (.ref a) >>= _) _ _ s
      refine wpAny_bind (wpAny_mono body (fun r s1 h => ?_) fun _ _ z => z.elim)
      cases r with
      | none => exact wpAny_bind (wpAny_rule (wpAny_pure h))
      | some v =>
        obtain ⟨b, rfl, hb, hq⟩ := h
        refine wpAny_bind (wpAny_holding (wpAny_truthy_bool ?_))
        refine wpAny_bind (wpAny_letGo ?_)
        cases b with
        | true => exact absurd rfl hb
        | false =>
          simp only [Bool.false_eq_true, if_false]
          exact wpAny_bind (wpAny_rule (wpAny_pure hq))
    ·
      refine codeAny_builtin F.entry_any_loop ?_
      rw [Around.under_plainId F.plain_any_loop _]
      show wpAny _ A.in1 (pyNext (.ref a) >>= _) _ _ s
      refine wpAny_bind (wpAny_mono body (fun r s1 h => ?_) fun _ _ z => z.elim)
      cases r with
      | none => exact wpAny_bind (wpAny_rule (wpAny_pure h))
      | some v =>
        obtain ⟨b, rfl, hb, hq⟩ := h
        refine wpAny_bind (wpAny_holding (wpAny_truthy_bool ?_))
        refine wpAny_bind (wpAny_letGo ?_)
        cases b with
        | false => exact absurd rfl hb
        | true =>
          simp only [if_true]
          exact wpAny_bind (wpAny_rule (wpAny_pure hq))
  | succ n ih =>
    intro s hg hl ⟨gs, hgs, hgo⟩
    have hgl : g < s.gens.size := (Array.getElem?_eq_some_iff.mp hgs).1
    have body : wpAny (model X.prog X.w) A.in1 (pyNext (.ref a)) (fun r s1 => match r with
        | none => EP X pins σ Q (.bool go) s1
        | some v => ∃ b, v = .bool b ∧ (b ≠ go → EP X pins σ Q (.bool b) s1) ∧ (b = go → s1.heap.IsGen a g ∧ s1.heap.NoLimit ∧
            ∃ gs, s1.gens[g]? = some gs ∧ gs.Goes (model X.prog X.w) A.in1.in1 (GR X pins σ (fun (_ : Unit) _ => True) Fin []) (GY X pins σ a g (consB go) (fun (_ : Unit) _ => True) Q []) n (.send .none) (s1.setGen g .running))) (fun _ _ => False) s := by
      refine wpAny_gsz (n := g + 1) hgl (next_genG (A := A.in1) hh hl hd hg hgs hgo (fun v s₁ gs' hbare hv => ?_) (fun s₁ hp h' hk => ?_) fun e s₁ he => he.elim)
      · intro hsz
        obtain ⟨_, hg1, k, y, H, _, ry, I1, _, hc⟩ := hv
        have hsz1 : g < s₁.gens.size := by
          have q : (s₁.setGen g gs').gens.size = s₁.gens.size := setGen_size _ _ _
          have hsz' : g + 1 ≤ (s₁.setGen g gs').gens.size := hsz
          omega
        cases y with
        | bl b =>
          cases ry
          have I2 : Inv X pins σ H (s₁.setGen g gs') := inv_gens I1 rfl (allBare_setGen I1.bare hbare) fun _ _ e => e
          refine ⟨b, rfl, fun hb => ?_, fun hb => ?_⟩
          · simp only [consB, if_neg hb] at hc
            exact ⟨.bl b, H, I2, rfl, hc⟩
          · simp only [consB, if_pos hb] at hc
            refine ⟨hg1, I2.nolimit, gs', setGen_at hsz1, ?_⟩
            exact hc _ ⟨rfl, allBare_setGen (s := s₁.setGen g gs') (allBare_setGen I1.bare hbare) rfl, fun _ _ _ e => e, fun b hb => by simp at hb⟩ trivial
        | _ => exact hc.elim
      · intro _
        obtain ⟨_, k, H, _, I1, _, hq⟩ := hp
        exact ⟨.bl go, H, inv_gens I1 rfl (allBare_setGen I1.bare rfl) hk, rfl, hfin H hq⟩
    rcases hid with ⟨rfl, rfl⟩ | ⟨rfl, rfl⟩
    ·
      refine codeAny_builtin F.entry_all_loop ?_
      rw [Around.under_plainId F.plain_all_loop _]
      show wpAny _ A.in1 (pyNext (.ref a) >>= _) _ _ s
      refine wpAny_bind (wpAny_mono body (fun r s1 h => ?_) fun _ _ z => z.elim)
      cases r with
      | none => exact wpAny_bind (wpAny_rule (wpAny_pure h))
      | some v =>
        obtain ⟨b, rfl, h1, h2⟩ := h
        refine wpAny_bind (wpAny_holding (wpAny_truthy_bool ?_))
        refine wpAny_bind (wpAny_letGo ?_)
        cases b with
        | true =>
          simp only [if_true]
          obtain ⟨q1, q2, q3⟩ := h2 rfl
          exact wpAny_pure ⟨plainId_quiet F.plain_all_loop _, ih s1 q1 q2 q3⟩
        | false =>
          simp only [Bool.false_eq_true, if_false]
          exact wpAny_bind (wpAny_rule (wpAny_pure (h1 (by decide))))
    ·
      refine codeAny_builtin F.entry_any_loop ?_
      rw [Around.under_plainId F.plain_any_loop _]
      show wpAny _ A.in1 (pyNext (.ref a) >>= _) _ _ s
      refine wpAny_bind (wpAny_mono body (fun r s1 h => ?_) fun _ _ z => z.elim)
      cases r with
      | none => exact wpAny_bind (wpAny_rule (wpAny_pure h))
      | some v =>
        obtain ⟨b, rfl, h1, h2⟩ := h
        refine wpAny_bind (wpAny_holding (wpAny_truthy_bool ?_))
        refine wpAny_bind (wpAny_letGo ?_)
        cases b with
        | false =>
          simp only [Bool.false_eq_true, if_false]
          obtain ⟨q1, q2, q3⟩ := h2 rfl
          exact wpAny_pure ⟨plainId_quiet F.plain_any_loop _, ih s1 q1 q2 q3⟩
        | true =>
          simp only [if_true]
          exact wpAny_bind (wpAny_rule (wpAny_pure (h1 (by decide))))
/-- all(g), any(g) of a generator expression that was made -/
theorem call_bool (go : Bool) {k : Nat} {own : List Nat} {gg : TG} {tt : TT} {te : TE} {R : Hp → It → Prop} {u : Value} {s5 : Shared} {E : Value → Shared → Prop} (hr : Room (k + 1) X.A) (hfr : X.A.frames = some X.stack) (M : Made X pins σ own gg tt te R u s5) (hl : s5.heap.NoLimit) (hb : AllBare s5.gens)
    (hR : ∀ H J, R H J → ∃ W : Unit → Nat → Nat → Hp → Prop, (∃ m, W () 0 m H) ∧ GT σ own J gg tt te (consB go) (fun _ H => Q (.bl go) H) Q W) :
    wpAny (model X.prog X.w) X.A (call (.builtin (if go then "all" else "any")) [u]) (EP X pins σ Q) E s5 := by
  obtain ⟨a, gn, c, H, J, rfl, I5, hg, hgs, hRJ, wake⟩ := M
  obtain ⟨W, ⟨m, w⟩, turn⟩ := hR H J hRJ
  have go_ : ∀ A : Around, A.handled = none → A.depth = X.A.depth → A.units ≤ X.A.units + 8 → A.frames = some X.stack → ∃ gs, s5.gens[gn]? = some gs ∧ gs.Goes (model X.prog X.w) A (GR X pins σ (fun (_ : Unit) _ => True) (fun _ H => Q (.bl go) H) []) (GY X pins σ a gn (consB go) (fun (_ : Unit) _ => True) Q []) (m + 1) (.send .none) (s5.setGen gn .running) := fun A h1 h2 h3 h4 => by
    refine ⟨_, hgs, rfl, ?_⟩
    exact wake Unit (consB go) (fun _ _ => True) (fun _ H => Q (.bl go) H) Q W m () w turn (fun _ _ _ _ _ => rfl) A [] (s5.setGen gn .running) h1 h4 (by omega) (by omega) (fun b hb => by simp at hb) (fun _ _ e => e) rfl (allBare_setGen hb rfl) (fun b hb => by simp at hb) trivial
  have goes := go_ X.A.in1.in1 hr.hd rfl (by show X.A.units + 1 + 1 ≤ _; omega) hfr
  have hd : X.A.depth < recursionLimit := by have := hr.dp; omega
  cases go with
  | true =>
    refine call_function_tree F.kind_all F.plain_all F.entry_all (F.args_all1 _) ?_
    unfold Builtin.«all»
    refine wpAny_bind (m := oneArg "all" _) (wpAny_pure ?_)
    refine wpAny_bind (wpAny_pyIter_gen hg ?_)
    exact wpAny_pure ⟨plainId_quiet F.plain_all_loop _, boolLoop true "all.loop" (.inl ⟨rfl, rfl⟩) (fun H h => h) hd hr.hd (m + 1) s5 hg hl goes⟩
  | false =>
    refine call_function_tree F.kind_any F.plain_any F.entry_any (F.args_any1 _) ?_
    unfold Builtin.«any»
    refine wpAny_bind (m := oneArg "any" _) (wpAny_pure ?_)
    refine wpAny_bind (wpAny_pyIter_gen hg ?_)
    exact wpAny_pure ⟨plainId_quiet F.plain_any_loop _, boolLoop false "any.loop" (.inr ⟨rfl, rfl⟩) (fun H h => h) hd hr.hd (m + 1) s5 hg hl goes⟩
end
end GE
namespace DL
open PySem PySem.Spec PyProof.Rows L2

/-! ### what is walked -/
/-- the items of a list or a tuple -/
def gIt : D → Option (List D)
  | .list ds => some ds
  | .tuple ds => some ds
  | _ => none
def fIt (f : EF) : AF := fun env => bnd (f env) fun d e => out (gIt d) e
theorem itOk_list {K : PySem.W.Frag} {G : Hp} {a : Addr} {xs : List V} {ds : List D} (q : SqL K G a xs) (r : DqAll K G xs ds) : ItOk K G (Itl K a) ds := by
  intro i G1 H1 s1 s2
  have q1 : SqL K H1 a xs := (s1.trans s2).seq q
  have lx := dpAll_len r
  refine ⟨fun h => ⟨xs, q1, by omega⟩, fun d hd => ?_⟩
  obtain ⟨v, hv, rv⟩ := dpAll_get i r hd
  refine ⟨⟨xs, v, q1, hv⟩, fun x H' ⟨e, hy⟩ => ?_⟩
  subst e
  have := (hy xs q1).symm.trans hv
  cases this
  exact ⟨G1, Ext.refl s2, dpMono s1 _ rv⟩
theorem itOk_tup {K : PySem.W.Frag} {G : Hp} {a : Addr} {xs : List V} {ds : List D} (q : SqT K G a xs) (r : DqAll K G xs ds) : ItOk K G (Itt K a) ds := by
  intro i G1 H1 s1 s2
  have q1 : SqT K H1 a xs := sameT (s1.trans s2) q
  have lx := dpAll_len r
  refine ⟨fun h => ⟨xs, q1, by omega⟩, fun d hd => ?_⟩
  obtain ⟨v, hv, rv⟩ := dpAll_get i r hd
  refine ⟨⟨xs, v, q1, hv⟩, fun x H' ⟨e, hy⟩ => ?_⟩
  subst e
  have := (hy xs q1).symm.trans hv
  cases this
  exact ⟨G1, Ext.refl s2, dpMono s1 _ rv⟩
/-- lo, lo + 1, .. -/
def rangeD (lo : Int) (n : Nat) : List D := (List.range n).map fun (i : Nat) => .int (lo + (i : Int))
theorem itOk_range {K : PySem.W.Frag} {G : Hp} (lo : Int) (n : Nat) : ItOk K G (Itr lo n) (rangeD lo n) := by
  intro i G1 H1 s1 s2
  refine ⟨fun h => by simpa [rangeD, Itr] using h, fun d hd => ?_⟩
  have hi : i < n := by have := (List.getElem?_eq_some_iff.mp hd).1; simpa [rangeD] using this
  have hd' : (rangeD lo n)[i]? = some (.int (lo + (i : Int))) := by unfold rangeD; rw [List.getElem?_map, List.getElem?_range hi]; rfl
  rw [hd'] at hd
  cases hd
  refine ⟨hi, fun x H' ⟨e, hy⟩ => ?_⟩
  subst e hy
  exact ⟨G1, Ext.refl s2, .int _⟩
section
variable {X : Cx} {TP : List Addr} {W : List Nat} {tg e a b : Expr} {es : List Expr} {f : EF} {r : AF} {p pos : Pos}
theorem i_list (h : PD X TP e f) : PI' X TP tg e (fIt f) := by
  refine ⟨⟨fun pins s σ H R I hh => ?_⟩⟩
  obtain ⟨F, G, env, ds, env', hf, E, q⟩ := hh
  obtain ⟨d, e1, h1, hf⟩ := bnd_inv hf
  obtain ⟨h3, h4⟩ := out_inv hf
  cases h4
  refine thn (h.pe.run pins s σ H (fun v H1 => ∃ G', Gr F G G' ∧ EnvR X.K F TP G' H1 σ env' ∧ Dq X.K G' v d) I ⟨F, G, env, d, _, h1, E, fun v G' H' g1 E1 r1 => ⟨G', g1, E1, r1⟩⟩) fun v s1 hs1 => ?_
  obtain ⟨x, H1, I1, r1, G1, g1, E1, d1⟩ := hs1
  cases d1 with
  | lst qa ra =>
    cases h3
    cases r1
    have qh := E1.wd.sub.seq qa
    obtain ⟨its, rv, p, hz⟩ := I1.list qh
    refine wpAny_pyIter_list p.isList ?_
    refine ⟨s1.heap.objs.size, [s1.heap.objs.size], _, _, H1, rfl, I1.kept (t' := s1.toks) fun b o e => Heap.get?_push_of_some _ e, turn_list _ _, ⟨_, Heap.get?_push_size _ rfl, rfl, rfl⟩, fun b hb => ?_, q _ G1 H1 g1 E1 (itOk_list qa ra)⟩
    have e : b = s1.heap.objs.size := by simpa using hb
    subst e
    exact I1.fpOk (Nat.le_refl _) (I1.hok.fresh (Nat.le_refl _))
  | tup qa ra =>
    cases h3
    cases r1
    have qh := sameT E1.wd.sub qa
    obtain ⟨its, rv, p, hz⟩ := I1.tuple qh
    refine wpAny_pyIter_tuple (show s1.heap.IsTuple _ its.toArray from p) ?_
    refine ⟨s1.heap.objs.size, [s1.heap.objs.size], _, _, H1, rfl, I1.kept (t' := s1.toks) fun b o e => Heap.get?_push_of_some _ e, turn_tuple _ _, ⟨_, Heap.get?_push_size _ rfl, rfl, rfl⟩, fun b hb => ?_, q _ G1 H1 g1 E1 (itOk_tup qa ra)⟩
    have e : b = s1.heap.objs.size := by simpa using hb
    subst e
    exact I1.fpOk (Nat.le_refl _) (I1.hok.fresh (Nat.le_refl _))
  | _ => cases h3
noncomputable def gRange1 : List D → Option (List D)
  | [.int j] => @ite _ (-(2 ^ 62) ≤ j ∧ j < 2 ^ 62) (Classical.propDecidable _) (some (rangeD 0 j.toNat)) none
  | _ => none
noncomputable def gRange2 : List D → Option (List D)
  | [.int i, .int j] => @ite _ (-(2 ^ 62) ≤ i ∧ i < 2 ^ 62 ∧ -(2 ^ 62) ≤ j ∧ j < 2 ^ 62) (Classical.propDecidable _) (some (rangeD i (j - i).toNat)) none
  | _ => none
def fArgs (g : List D → Option (List D)) (r : AF) : AF := fun env => bnd (r env) fun ds e => out (g ds) e
theorem i_range1 (hm : X.mg "range" = none) (ha : PL X TP [a] r) (hg : Gl X "range" := by rfl) (hs : starEach [a] X.env = [(false, eval a X.env)] := by rfl) : PI' X TP tg (.Call (.Name "range" p) [a] [] pos) (fArgs gRange1 r) := by
  refine ⟨PI.imp' (pi_range1 hg hm ha.pa hs) fun σ H R ⟨F, G, env, ds, env', hf, E, q⟩ => ?_⟩
  obtain ⟨d, e1, h1, hf⟩ := bnd_inv hf
  obtain ⟨h3, h4⟩ := out_inv hf
  cases h4
  refine ⟨F, G, env, d, _, h1, E, fun vs G1 H1 g1 E1 r1 => ?_⟩
  unfold gRange1 at h3
  split at h3
  · rename_i j
    split at h3
    · rename_i hj
      cases h3
      cases r1 with
      | cons ra rb =>
        cases ra; cases rb
        exact ⟨j, rfl, hj.1, hj.2, q _ G1 H1 g1 E1 (itOk_range 0 _)⟩
    · cases h3
  · cases h3
theorem i_range2 (hm : X.mg "range" = none) (ha : PL X TP [a, b] r) (hg : Gl X "range" := by rfl) (hs : starEach [a, b] X.env = [(false, eval a X.env), (false, eval b X.env)] := by rfl) (hs2 : starEach [b] X.env = [(false, eval b X.env)] := by rfl) :
    PI' X TP tg (.Call (.Name "range" p) [a, b] [] pos) (fArgs gRange2 r) := by
  refine ⟨PI.imp' (pi_range2 hg hm ha.pa hs hs2) fun σ H R ⟨F, G, env, ds, env', hf, E, q⟩ => ?_⟩
  obtain ⟨d, e1, h1, hf⟩ := bnd_inv hf
  obtain ⟨h3, h4⟩ := out_inv hf
  cases h4
  refine ⟨F, G, env, d, _, h1, E, fun vs G1 H1 g1 E1 r1 => ?_⟩
  unfold gRange2 at h3
  split at h3
  · rename_i i j
    split at h3
    · rename_i hj
      cases h3
      cases r1 with
      | cons ra rb =>
        cases ra
        cases rb with
        | cons rb rc =>
          cases rb; cases rc
          exact ⟨i, j, rfl, hj, q _ G1 H1 g1 E1 (itOk_range _ _)⟩
    · cases h3
  · cases h3
end

/-! ### comprehensions and generator expressions -/
/-- the names that are not a block's own keep what they hold -/
def Wc (n : Nat) (own : List Nat) : List Nat := (List.range n).filter fun j => !own.contains j
theorem wipe_get {σ : Sl} {j : Nat} : ∀ {own : List Nat}, j ∉ own → (wipe σ own)[j]? = σ[j]?
  | [], _ => rfl
  | i :: is, h => by
    unfold wipe
    rw [List.getElem?_set_ne (fun z => h (by rw [z]; exact List.mem_cons_self))]
    exact wipe_get fun z => h (List.mem_cons_of_mem _ z)
theorem wipe_own {σ : Sl} {j : Nat} : ∀ {own : List Nat}, j ∈ own → j < σ.length → (wipe σ own)[j]? = some none
  | i :: is, h, hj => by
    unfold wipe
    by_cases z : i = j
    · subst z
      rw [List.getElem?_set_self (by rw [wipe_length]; exact hj)]
    · rw [List.getElem?_set_ne z]
      exact wipe_own ((List.mem_cons.mp h).resolve_left (Ne.symm z)) hj
theorem wipe_kp {σ σ' : Sl} {n : Nat} {own : List Nat} (hl : σ.length = n) (k : Kp (Wc n own) σ σ') : wipe σ' own = wipe σ own := by
  have hl' := k.1.trans hl
  apply List.ext_getElem?
  intro j
  by_cases hj : j < n
  · by_cases ho : j ∈ own
    · rw [wipe_own ho (by omega), wipe_own ho (by omega)]
    · rw [wipe_get ho, wipe_get ho]
      exact k.2 j (List.mem_filter.mpr ⟨List.mem_range.mpr hj, by simpa using ho⟩)
  · rw [List.getElem?_eq_none (by rw [wipe_length]; omega), List.getElem?_eq_none (by rw [wipe_length]; omega)]
theorem wipe_wipe {σ : Sl} (own : List Nat) : wipe (wipe σ own) own = wipe σ own := by
  refine wipe_kp (n := σ.length) rfl ⟨wipe_length σ own, fun j hj => ?_⟩
  have := (List.mem_filter.mp hj).2
  exact wipe_get (by simpa using this)
theorem wipeD_len : ∀ (l : List Nat) (e : DEnv), (wipeD l e).length = e.length
  | [], _ => rfl
  | _ :: is, e => by rw [wipeD, wipeD_len is]; simp
theorem wipeD_out {j : Nat} : ∀ {own : List Nat} {e : DEnv}, j ∉ own → (wipeD own e)[j]? = e[j]?
  | [], _, _ => rfl
  | i :: is, e, h => by
    rw [wipeD, wipeD_out (own := is) (fun z => h (List.mem_cons_of_mem _ z)), List.getElem?_set_ne (fun z => h (by rw [z]; exact List.mem_cons_self))]
theorem wipeD_in {j : Nat} : ∀ {own : List Nat} {e : DEnv} {c : Cell}, j ∈ own → (wipeD own e)[j]? = some c → c = .un
  | i :: is, e, c, h, hc => by
    rw [wipeD] at hc
    by_cases z : j ∈ is
    · exact wipeD_in z hc
    · rw [wipeD_out z] at hc
      rcases List.mem_cons.mp h with rfl | h
      · rw [List.getElem?_set] at hc
        simp at hc
        exact hc.2.symm
      · exact absurd h z
theorem EnvR.wiped {K : PySem.W.Frag} {F : Hp} {TP : List Addr} {G H : Hp} {σ : Sl} {env : DEnv} (E : EnvR K F TP G H σ env) (own : List Nat) : EnvR K F TP G H (wipe σ own) (wipeD own env) := by
  refine E.remap id (by rw [wipe_length, wipeD_len, E.len]) (fun j c e => ?_) (fun i j _ _ _ _ _ _ h => h)
  by_cases h : j ∈ own
  · exact .inl (wipeD_in h e)
  · rw [wipeD_out h] at e
    exact .inr (.inr ⟨e, wipe_get h⟩)
/-- the block is left: its names are again what they were -/
def restD (own : List Nat) (e0 e : DEnv) : DEnv := match own with
  | [] => e
  | i :: is => restD is e0 (e.set i (e0[i]?.getD .un))
theorem restD_len (e0 : DEnv) : ∀ (l : List Nat) (e : DEnv), (restD l e0 e).length = e.length
  | [], _ => rfl
  | _ :: is, e => by rw [restD, restD_len e0 is]; simp
theorem restD_out {e0 : DEnv} {j : Nat} : ∀ {own : List Nat} {e : DEnv}, j ∉ own → (restD own e0 e)[j]? = e[j]?
  | [], _, _ => rfl
  | i :: is, e, h => by
    rw [restD, restD_out (own := is) (fun z => h (List.mem_cons_of_mem _ z)), List.getElem?_set_ne (fun z => h (by rw [z]; exact List.mem_cons_self))]
theorem restD_in {e0 : DEnv} {j : Nat} : ∀ {own : List Nat} {e : DEnv} {c : Cell}, j ∈ own → (restD own e0 e)[j]? = some c → c = e0[j]?.getD .un
  | i :: is, e, c, h, hc => by
    rw [restD] at hc
    by_cases z : j ∈ is
    · exact restD_in z hc
    · rw [restD_out z] at hc
      rcases List.mem_cons.mp h with rfl | h
      · rw [List.getElem?_set] at hc
        simp at hc
        exact hc.2.symm
      · exact absurd h z
def ownNo (own : List Nat) (e : DEnv) : Bool := own.all fun i => !own? e[i]?
theorem EnvR.rested {K : PySem.W.Frag} {F F0 : Hp} {TP : List Addr} {G G0 H H0 : Hp} {σ : Sl} {e0 e : DEnv} {own : List Nat} (E : EnvR K F TP G H (wipe σ own) e) (E0 : EnvR K F0 TP G0 H0 σ e0) (hn : ownNo own e0 = true) (g : Same G0 G) : EnvR K F TP G H σ (restD own e0 e) := by
  have l1 := E.len
  rw [wipe_length] at l1
  have l0 := E0.len
  refine E.remap id (by rw [restD_len]; exact l1) (fun j c ec => ?_) (fun i j _ _ _ _ _ _ h => h)
  by_cases h : j ∈ own
  · have hc := restD_in h ec
    have hj : j < e.length := by have := (List.getElem?_eq_some_iff.mp ec).1; rwa [restD_len] at this
    cases hz : e0[j]? with
    | none => rw [hz] at hc; exact .inl hc
    | some c0 =>
      rw [hz] at hc
      have hc : c = c0 := hc
      subst hc
      have := List.all_eq_true.mp hn j h
      rw [hz] at this
      cases c with
      | un => exact .inl rfl
      | sh d =>
        obtain ⟨x, ex, hx⟩ := E0.get hz
        exact .inr (.inl ⟨rfl, some x, ex, x, rfl, dpMono g _ hx⟩)
      | raw x => exact .inr (.inl ⟨rfl, some x, E0.getRaw hz, rfl⟩)
      | _ => simp [own?, Cell.owned] at this
  · rw [restD_out h] at ec
    exact .inr (.inr ⟨ec, (wipe_get h).symm⟩)

/-- a list that is being made stands apart -/
theorem EnvR.hide {K : PySem.W.Frag} {F : Hp} {TP : List Addr} {G H : Hp} {σ : Sl} {env : DEnv} {Dv : Option V} {ds : List D} (E : EnvR K F TP G H (σ ++ [Dv]) (env ++ [.ow ds])) :
    ∃ a vs, Dv = some (.ref a) ∧ H a = some (.lst vs) ∧ DqAll K G vs ds ∧ F a = none ∧ G a = none ∧ EnvR K (upd F a (.lst vs)) TP G H σ env := by
  have l : σ.length = env.length := by have := E.len; simp at this; exact this
  have E1 := E.unsnoc
  obtain ⟨W, l0, o, ho, hc⟩ := E
  have hl := hc env.length (.ow ds) Dv (by simp) (by rw [← l]; simp)
  obtain ⟨a, vs, e, oa, ha, r⟩ := hl
  obtain ⟨ga, fa, ta, _⟩ := ho a _ oa
  refine ⟨a, vs, e, ha, r, fa, ga, ⟨W.sub, fun b u q => ?_, fun P hP => ⟨(W.tab P hP).1, (W.tab P hP).2.1, ?_⟩⟩, l, fun b => if b = a then none else o b, fun b i q => ?_, fun i c v e1 e2 => ?_⟩
  · by_cases z : b = a
    · subst z; rw [upd_same] at q; rw [ha]; exact q
    · rw [upd_ne z] at q; exact W.fr b u q
  · rw [upd_ne (fun z => ta (by rw [← z]; exact hP))]; exact (W.tab P hP).2.2
  · have q : (if b = a then none else o b) = some i := q
    by_cases z : b = a
    · rw [if_pos z] at q; cases q
    · rw [if_neg z] at q
      obtain ⟨h1, h2, h3, h4⟩ := ho b i q
      exact ⟨h1, by rw [upd_ne z]; exact h2, h3, h4⟩
  · have hi : i < env.length := (List.getElem?_eq_some_iff.mp e1).1
    refine cellImp (fun b hb => ?_) (hc i c v (by rw [List.getElem?_append_left hi]; exact e1) (by rw [List.getElem?_append_left (by omega)]; exact e2))
    have hb : o b = some i := hb
    have : b ≠ a := fun z => by subst z; rw [hb] at oa; cases oa; omega
    show (if b = a then none else o b) = some i
    rw [if_neg this]; exact hb
theorem EnvR.unhide {K : PySem.W.Frag} {F : Hp} {TP : List Addr} {G G' H' : Hp} {σ : Sl} {env : DEnv} {a : Addr} {vs vs' : List V} {ds : List D} (fa : F a = none) (gr : Gr (upd F a (.lst vs)) G G') (ga : G a = none) (E : EnvR K (upd F a (.lst vs)) TP G' H' σ env) (r : DqAll K G' vs' ds) :
    Gr F G G' ∧ H' a = some (.lst vs) ∧ EnvR K F TP G' (upd H' a (.lst vs')) (σ ++ [some (.ref a)]) (env ++ [.ow ds]) := by
  obtain ⟨W, l, o, ho, hc⟩ := E
  have ha : H' a = some (.lst vs) := W.fr a _ upd_same
  have ga' : G' a = none := by
    cases q : G' a with
    | none => rfl
    | some u =>
      rcases gr.n a u q with z | z
      · rw [ga] at z; cases z
      · rw [upd_same] at z; cases z
  have aT : a ∉ TP := fun z => by have := (W.tab a z).2.2; rw [upd_same] at this; cases this
  have oa : ∀ i, o a ≠ some i := fun i z => by have := (ho a i z).2.1; rw [upd_same] at this; cases this
  have at_ : ∀ b, b ≠ a → upd H' a (.lst vs') b = H' b := fun b z => upd_ne z
  refine ⟨⟨gr.s, fun b u q => (gr.n b u q).imp id fun z => ?_⟩, ha, ⟨fun b u q => ?_, fun b u q => ?_, fun P hP => ?_⟩, by simp [l], fun b => if b = a then some env.length else o b, fun b i q => ?_, fun i c v e1 e2 => ?_⟩
  · by_cases y : b = a
    · subst y; exact fa
    · rwa [upd_ne y] at z
  · rw [at_ b (fun z => by rw [z, ga'] at q; cases q)]; exact W.sub b u q
  · have nb : b ≠ a := fun z => by rw [z, fa] at q; cases q
    rw [at_ b nb]; exact W.fr b u (by rw [upd_ne nb]; exact q)
  · have nP : P ≠ a := fun z => aT (by rw [← z]; exact hP)
    obtain ⟨⟨ps, e, t⟩, g, f⟩ := W.tab P hP
    exact ⟨⟨ps, by rw [at_ P nP]; exact e, t⟩, g, by rwa [upd_ne nP] at f⟩
  · have q : (if b = a then some env.length else o b) = some i := q
    by_cases z : b = a
    · subst z; exact ⟨ga', fa, aT, _, upd_same⟩
    · rw [if_neg z] at q
      obtain ⟨h1, h2, h3, u, h4⟩ := ho b i q
      exact ⟨h1, by rwa [upd_ne z] at h2, h3, u, by rw [at_ b z]; exact h4⟩
  · by_cases hi : i < env.length
    · rw [List.getElem?_append_left hi] at e1
      rw [List.getElem?_append_left (by omega)] at e2
      refine cellImp (fun b hb => ?_) (cellMono (Same.refl _) (fun b u hb q => ?_) (hc i c v e1 e2))
      · have hb : o b = some i := hb
        have : b ≠ a := fun z => oa i (by rw [← z]; exact hb)
        show (if b = a then some env.length else o b) = some i
        rw [if_neg this]; exact hb
      · have hb : o b = some i := hb
        rw [at_ b (fun z => oa i (by rw [← z]; exact hb))]; exact q
    · have hi' : i = env.length := by have := (List.getElem?_eq_some_iff.mp e1).1; simp at this; omega
      subst hi'
      rw [List.getElem?_append_right (Nat.le_refl _)] at e1
      rw [List.getElem?_append_right (by omega), l] at e2
      simp at e1 e2
      subst e1 e2
      exact ⟨a, vs', rfl, if_pos rfl, upd_same, r⟩

/-- the clauses' tests -/
structure PBs (X : Cx) (TP : List Addr) (es : List Expr) (f : BF) : Prop where
  pts : PTs X es (tB' X.K TP f)
def bYes : BF := fun env => some (true, env)
theorem bs_nil {X : Cx} {TP : List Addr} : PBs X TP [] bYes := ⟨⟨fun pins s σ H Q I h => by
  obtain ⟨F, G, env, b, env', hf, E, q⟩ := h
  cases hf
  exact pts_nil.run pins s σ H Q I (q G H Gr.refl E)⟩⟩
theorem bs_one {X : Cx} {TP : List Addr} {c : Expr} {f : BF} (h : PB X TP c f) : PBs X TP [c] f := ⟨pts_one h.pt⟩

/-- [f for t in ds if c] -/
def lcL (own : List Nat) (t : TF) (c : BF) (f : EF) : List D → DEnv → Option (List D × DEnv)
  | [], env => some ([], env)
  | d :: ds, env => match t d env with
    | none => none
    | some e1 => match c e1 with
      | none => none
      | some (false, e2) => lcL own t c f ds (wipeD own e2)
      | some (true, e2) => match f e2 with
        | none => none
        | some (y, e3) => match lcL own t c f ds (wipeD own e3) with
          | none => none
          | some (ys, e4) => some (y :: ys, e4)
def oLc (own : List Nat) (it : AF) (t : TF) (c : BF) (f : EF) : OF := fun env => bnd (it env) fun ds e0 => if ownNo own e0 then match lcL own t c f ds (wipeD own e0) with
  | some (ys, e) => if ys.length ≤ sizeLine then some (.ow ys, restD own e0 e) else none
  | none => none
  else none
theorem tLc_of {K : PySem.W.Frag} {TP : List Addr} {N : Nat} {own : List Nat} {it : AF} {t : TF} {c : BF} {f : EF} {σ : Sl} {H : Hp} {Q : VK} (hl : σ.length = N) (h : tO K TP (oLc own it t c f) σ H Q) :
    tLc (tI K TP it) (tG K TP (Wc N own) t) (tB' K TP c) (tD K TP f) own σ H Q := by
  obtain ⟨F, G, env, cc, env', hf, E, q⟩ := h
  obtain ⟨ds, e0, h1, hf⟩ := bnd_inv hf
  split at hf
  · rename_i hno
    split at hf
    · rename_i ys e hlc
      split at hf
      · rename_i hz
        cases hf
        refine ⟨F, G, env, ds, e0, h1, E, fun J G1 H1 g1 E1 hJ Dd hD => ?_⟩
        have Ew := E1.wiped own
        have En := Ew.snoc_new (c := .ow []) hD ⟨Dd, [], rfl, rfl, upd_same, .nil⟩
        refine ⟨fun i m H => m = ds.length - i ∧ ∃ G2 env2 acc, Gr F G G2 ∧ Gr F G1 G2 ∧ EnvR K F TP G2 H (wipe σ own ++ [some (.ref Dd)]) (env2 ++ [.ow acc]) ∧ ∃ ys2, lcL own t c f (ds.drop i) env2 = some (ys2, e) ∧ acc ++ ys2 = ys, ⟨ds.length, rfl, G1, wipeD own e0, [], g1, Gr.refl, En, ys, by simpa using hlc, rfl⟩, ?_⟩
        rintro i m H2 ⟨rfl, G2, env2, acc, ga, gb, E2, ys2, hys, hacc⟩
        obtain ⟨a, vs, ea, ha, ra, fa, ga0, Eh⟩ := E2.hide
        cases ea
        obtain ⟨hstop, hgo⟩ := hJ i G2 H2 gb.s Eh.wd.sub
        by_cases hi : i < ds.length
        · right
          rw [List.drop_eq_getElem_cons hi] at hys
          obtain ⟨jg, jy⟩ := hgo ds[i] (List.getElem?_eq_getElem hi)
          unfold lcL at hys
          split at hys
          · cases hys
          · rename_i e3 h3
            refine ⟨jg, fun H' => ∃ G3 env3 acc3, Gr F G G3 ∧ Gr F G1 G3 ∧ EnvR K F TP G3 H' (wipe σ own ++ [some (.ref Dd)]) (env3 ++ [.ow acc3]) ∧ ∃ ys3, lcL own t c f (ds.drop (i + 1)) env3 = some (ys3, e) ∧ acc3 ++ ys3 = ys, fun H' hN => ⟨ds.length - (i + 1), by omega, rfl, hN⟩, fun x H' hy => ?_⟩
            obtain ⟨G3, x3, r3⟩ := jy x H' hy
            have g3 : Gr (upd F Dd (.lst vs)) G2 G3 := x3.gr Eh.wd.fr
            refine ⟨upd F Dd (.lst vs), G3, env2, _, e3, h3, Eh.ext x3, r3, fun σ4 k4 E4 => ?_⟩
            have hw4 : wipe σ4 own = wipe (wipe σ own) own := wipe_kp (by rw [wipe_length]; exact hl) k4
            rw [wipe_wipe] at hw4
            refine ⟨hw4, ?_⟩
            -- the turn's end
            have fin : ∀ {G5 : Hp} {H5 : Hp} {e5 : DEnv} {vs' : List V} {acc' ys' : List D}, Gr (upd F Dd (.lst vs)) G3 G5 → EnvR K (upd F Dd (.lst vs)) TP G5 H5 σ4 e5 → DqAll K G5 vs' acc' → lcL own t c f (ds.drop (i + 1)) (wipeD own e5) = some (ys', e) → acc' ++ ys' = ys →
                H5 Dd = some (.lst vs) ∧ ∃ G3 env3 acc3, Gr F G G3 ∧ Gr F G1 G3 ∧ EnvR K F TP G3 (upd H5 Dd (.lst vs')) (wipe σ own ++ [some (.ref Dd)]) (env3 ++ [.ow acc3]) ∧ ∃ ys3, lcL own t c f (ds.drop (i + 1)) env3 = some (ys3, e) ∧ acc3 ++ ys3 = ys := fun {G5 H5 e5 vs' acc' ys'} g5 E5 r5 h5 h6 => by
              have E6 := E5.wiped own
              rw [hw4] at E6
              obtain ⟨gg, hd5, E7⟩ := E6.unhide fa (g3.trans g5) ga0 r5
              exact ⟨hd5, G5, _, acc', ga.trans gg, gb.trans gg, E7, ys', h5, h6⟩
            split at hys
            · cases hys
            · rename_i e5 h5
              refine ⟨upd F Dd (.lst vs), G3, e3, _, _, h5, E4, fun G6 H6 g6 E6 => ?_⟩
              dsimp only
              rw [if_neg Bool.false_ne_true]
              obtain ⟨hd6, hN⟩ := fin g6 E6 (dpAllMono (g3.trans g6).s _ ra) hys hacc
              have : upd H6 Dd (.lst vs) = H6 := by
                funext b
                by_cases z : b = Dd
                · subst z; rw [upd_same, hd6]
                · exact upd_ne z
              rw [this] at hN
              exact hN
            · rename_i e5 h5
              refine ⟨upd F Dd (.lst vs), G3, e3, _, _, h5, E4, fun G6 H6 g6 E6 => ?_⟩
              dsimp only
              rw [if_pos rfl]
              split at hys
              · cases hys
              · rename_i y e7 h7
                split at hys
                · cases hys
                · rename_i ys8 e8 h8
                  cases hys
                  refine ⟨upd F Dd (.lst vs), G6, e5, _, _, h7, E6, fun v G9 H9 g9 E9 r9 => ?_⟩
                  have rall : DqAll K G9 (vs ++ [v]) (acc ++ [y]) := dpAll_append (dpAllMono ((g3.trans g6).trans g9).s _ ra) (.cons r9 .nil)
                  obtain ⟨hd9, hN⟩ := fin (g6.trans g9) E9 rall h8 (by rw [List.append_assoc]; exact hacc)
                  refine ⟨vs, hd9, ?_, hN⟩
                  have h10 := dpAll_len ra
                  have h11 : (acc ++ y :: ys8).length ≤ sizeLine := by rw [hacc]; exact hz
                  rw [List.length_append, List.length_cons] at h11
                  omega
        · left
          rw [List.drop_of_length_le (by omega)] at hys
          cases hys
          rw [List.append_nil] at hacc
          subst hacc
          refine ⟨hstop (by omega), q _ G2 H2 ga ?_⟩
          have E3 := E2.unsnoc
          -- the names are again what they were; the list stands behind them
          have lσ : σ.length = e.length := by have := E2.len; simp [wipe_length] at this; exact this
          have Er := Eh.rested (e := e) E1 hno gb.s
          obtain ⟨gg, hd, Eu⟩ := Er.unhide fa Gr.refl ga0 ra
          have : upd H2 Dd (.lst vs) = H2 := by
            funext b
            by_cases z : b = Dd
            · subst z; rw [upd_same, ha]
            · exact upd_ne z
          rw [this] at Eu
          exact Eu
      · cases hf
    · cases hf
  · cases hf
section
variable {X : Cx} {TP : List Addr} {elt tg iter : Expr} {ifs : List Expr} {scope : Scope} {pos : Pos} {own : List (Str × Nat)} {it : AF} {t : TF} {c : BF} {f : EF}
theorem PE.at {e : Expr} {t' t : TE} (h : PE X e t) (w : ∀ σ H Q, σ.length = X.N.length → t' σ H Q → t σ H Q) : PE X e t' := ⟨fun pins s σ H Q I q => h.run pins s σ H Q I (w _ _ _ I.len q)⟩
theorem o_lc (hc : X.calm = true) (hN : X.N.Nodup) (hi : PI' X TP tg iter it) (ok : BlkOk X.N X.env.scope scope own)
    (hg : ∀ (s : Shared) (H : Hp) (C : Addr) (cl : List (Str × Addr)) (fp : List Addr), PT' (X.blk s H scope (compEnvC scope cl C X.env) fp) TP (Wc X.N.length (own.map (·.2))) tg t) (ht : ∀ (s : Shared) (H : Hp) (C : Addr) (cl : List (Str × Addr)) (fp : List Addr), PBs (X.blk s H scope (compEnvC scope cl C X.env) fp) TP ifs c)
    (he : ∀ (s : Shared) (H : Hp) (C : Addr) (cl : List (Str × Addr)) (fp : List Addr), PD (X.blk s H scope (compEnvC scope cl C X.env) fp) TP elt f) (hs : ∀ x, foldedSetIterable iter X.env x = pure x := by intro _; rfl) :
    PO X TP (.ListComp elt [⟨tg, iter, ifs, 0⟩] scope pos) (oLc (own.map (·.2)) it t c f) :=
  ⟨PE.at (pe_lc hc hN hi.pi ok (fun s H C cl fp => (hg s H C cl fp).pg) (fun s H C cl fp => (ht s H C cl fp).pts) (fun s H C cl fp => (he s H C cl fp).pe) hs) fun σ H Q hl h => tLc_of hl h⟩
theorem PS.at {e : Stmt} {t' t : TS} (h : PS X e t) (w : ∀ D σ H, σ.length = X.N.length → t' D σ H → t D σ H) : PS X e t' := ⟨fun pins s σ H D I q => h.run pins s σ H D I (w _ _ _ I.len q)⟩
/-- x = [..] on one line, x a plain local name -/
theorem s_setLc {W : List Nat} (i : Nat) {y : Str} {py spos : Pos} (hc : X.calm = true) (hN : X.N.Nodup) (hsw : swapsWith (.ListComp elt [⟨tg, iter, ifs, 0⟩] scope pos) (some (.Name y py)) spos.line X.env = pure true) (hi : PI' X TP tg iter it) (ok : BlkOk X.N X.env.scope scope own)
    (hg : ∀ (s : Shared) (H : Hp) (C : Addr) (cl : List (Str × Addr)) (fp : List Addr), PT' (X.blk s H scope (compEnvC scope cl C X.env) fp) TP (Wc X.N.length (own.map (·.2))) tg t) (ht : ∀ (s : Shared) (H : Hp) (C : Addr) (cl : List (Str × Addr)) (fp : List Addr), PBs (X.blk s H scope (compEnvC scope cl C X.env) fp) TP ifs c)
    (he : ∀ (s : Shared) (H : Hp) (C : Addr) (cl : List (Str × Addr)) (fp : List Addr), PD (X.blk s H scope (compEnvC scope cl C X.env) fp) TP elt f) (hw : i ∉ W := by decide) (hy : X.N[i]? = some y := by rfl) (hyl : X.env.scope.names.lookup y = some .local := by rfl) (hs : ∀ x, foldedSetIterable iter X.env x = pure x := by intro _; rfl) :
    PSD X TP W (.Assign [.Name y py] (.ListComp elt [⟨tg, iter, ifs, 0⟩] scope pos) spos) (sSet i (oLc (own.map (·.2)) it t c f)) := by
  refine ⟨PS.at (ps_setLc (g := tG X.K TP (Wc X.N.length (own.map (·.2))) t) (tt := tB' X.K TP c) (te := tD X.K TP f) hc hN hy hyl hsw hi.pi ok (fun s H C cl fp => (hg s H C cl fp).pg) (fun s H C cl fp => (ht s H C cl fp).pts) (fun s H C cl fp => (he s H C cl fp).pe) hs) fun D σ H hl ⟨F, G, env, s, env', hf, E, q⟩ => ?_⟩
  obtain ⟨cc, e1, h1, hf⟩ := bnd_inv hf
  split at hf
  · rename_i hi
    cases hf
    exact tLc_of hl ⟨F, G, env, cc, e1, h1, E, fun v G1 H1 g1 E1 => q _ G1 H1 (Kp.set hw) g1 (E1.move hi)⟩
  · cases hf

/-! ### all, any of a generator expression -/
/-- go: the truth value that goes on (all: true) -/
def genB (go : Bool) (own : List Nat) (t : TF) (c : BF) (f : EF) : List D → DEnv → Option (Bool × DEnv)
  | [], env => some (go, env)
  | d :: ds, env => match t d env with
    | none => none
    | some e1 => match c e1 with
      | none => none
      | some (false, e2) => genB go own t c f ds (wipeD own e2)
      | some (true, e2) => match f e2 with
        | some (.bool b, e3) => if b = go then genB go own t c f ds (wipeD own e3) else some (b, wipeD own e3)
        | _ => none
def fGenB (go : Bool) (own : List Nat) (it : AF) (t : TF) (c : BF) (f : EF) : EF := fun env => bnd (it env) fun ds e0 => if ownNo own e0 then match genB go own t c f ds (wipeD own e0) with
  | some (b, e) => some (.bool b, restD own e0 e)
  | none => none
  else none
def tGenB (go : Bool) (P : Addr) (own : List Nat) (wi : TI) (g : TG) (tt : TT) (te : TE) : TE := fun σ H Q => wi σ H fun J H1 => GxR.TabG H1 P ∧ ∀ H2, GxR.Tabbed P H1 H2 → ∃ W : Unit → Nat → Nat → Hp → Prop, (∃ m, W () 0 m H2) ∧ GE.GT σ own J g tt te (GE.consB go) (fun _ H => Q (.bl go) H) Q W
theorem pe_genB (go : Bool) {cd P : Addr} {x : Str} {p gpos : Pos} {wi : TI} {g : TG} {tt : TT} {te : TE} {k : Nat} (hr : Room (k + 1) X.A) (hc : X.calm = true) (hgl : Gl X x) (hm : X.mg x = none) (hv : bootBuiltins x = some (.builtin (if go then "all" else "any"))) (TB : GxR.TabB X.base X.mg cd P) (hcode : X.env.code = .ref cd)
    (ok : GE.GOk X.N X.env.scope scope own) (hN : X.N.Nodup) (hdot : X.N.contains (".0" : Str) = false) (hi : PI X tg iter wi)
    (hg : ∀ (A : Around) (s : Shared) (H : Hp) (C : Addr) (cl : List (Str × Addr)) (code : Value) (bi : Addr) (fp : List Addr) (pn : List (Addr × Obj)), GE.Near X A → PG (GE.gx X A s H scope (genEnv scope cl C code bi X.env) fp pn) tg g)
    (ht : ∀ (A : Around) (s : Shared) (H : Hp) (C : Addr) (cl : List (Str × Addr)) (code : Value) (bi : Addr) (fp : List Addr) (pn : List (Addr × Obj)), GE.Near X A → PTs (GE.gx X A s H scope (genEnv scope cl C code bi X.env) fp pn) ifs tt)
    (he : ∀ (A : Around) (s : Shared) (H : Hp) (C : Addr) (cl : List (Str × Addr)) (code : Value) (bi : Addr) (fp : List Addr) (pn : List (Addr × Obj)), GE.Near X A → PE (GE.gx X A s H scope (genEnv scope cl C code bi X.env) fp pn) elt te)
    (hn : x ≠ "__name__" := by decide) (hdb : (x == ("__debug__" : Str)) = false := by decide) (hs : ∀ v, genFold iter X.env v = pure v := by intro _; rfl)
    (hst : starEach [.GeneratorExp elt [⟨tg, iter, ifs, 0⟩] scope gpos] X.env = (false, eval (.GeneratorExp elt [⟨tg, iter, ifs, 0⟩] scope gpos) X.env) :: starEach [] X.env := by rfl) :
    PE X (.Call (.Name x p) [.GeneratorExp elt [⟨tg, iter, ifs, 0⟩] scope gpos] [] pos) (tGenB go P (own.map (·.2)) wi g tt te) := by
  refine ⟨fun pins s σ H Q I h => ?_⟩
  refine wpAny_Call_Name_kw (ld_blt I hgl hm hv ?_ hn hdb)
  refine PyProof.Rows.callWith_builtin1 ?_ hst (by rfl)
  rw [hst]
  show wpAny _ _ (spliced ((false, eval (.GeneratorExp elt [⟨tg, iter, ifs, 0⟩] scope gpos) X.env) :: backTo pos (starEach [] X.env))) _ _ s
  refine Calls.spliced_cons (thn (GE.gen_make hr hc TB hcode ok hN hdot hi hg ht he hs I h) fun u s5 M => ?_)
  refine Calls.spliced_nil ?_
  have M' := M
  obtain ⟨a, gn, c', H5, J, _, I5, _⟩ := M'
  exact GE.call_bool go hr I5.ok.frames M I5.nolimit I5.bare fun H J h => h
theorem tGenB_of {K : PySem.W.Frag} {TP : List Addr} {N : Nat} {own : List Nat} {go : Bool} {P : Addr} {σ : Sl} {H : Hp} {Q : VK} (hP : P ∈ TP) (hl : σ.length = N) (h : tD K TP (fGenB go own it t c f) σ H Q) :
    tGenB go P own (tI K TP it) (tG K TP (Wc N own) t) (tB' K TP c) (tD K TP f) σ H Q := by
  obtain ⟨F, G, env, dd, env', hf, E, q⟩ := h
  obtain ⟨ds, e0, h1, hf⟩ := bnd_inv hf
  split at hf
  · rename_i hno
    split at hf
    · rename_i bb e hlc
      cases hf
      refine ⟨F, G, env, ds, e0, h1, E, fun J G1 H1 g1 E1 hJ => ⟨(E1.wd.tab P hP).1, fun H2 hT => ?_⟩⟩
      have E1' := E1.tabbed hP hT
      have back : ∀ {b : Bool} {G5 H5 : Hp} {e5 : DEnv}, Gr F G G5 → Gr F G1 G5 → EnvR K F TP G5 H5 (wipe σ own) e5 → bb = b → e = e5 → Q (.bl b) H5 := fun {b G5 H5 e5} ga gb E5 h h' => by
        subst h h'
        exact q _ G5 H5 ga (E5.rested E1' hno gb.s) (.bl _)
      refine ⟨fun _ i m H => m = ds.length - i ∧ ∃ G2 env2, Gr F G G2 ∧ Gr F G1 G2 ∧ EnvR K F TP G2 H (wipe σ own) env2 ∧ genB go own t c f (ds.drop i) env2 = some (bb, e), ⟨ds.length, rfl, G1, wipeD own e0, g1, Gr.refl, E1'.wiped own, by simpa using hlc⟩, ?_⟩
      rintro k i m H3 ⟨rfl, G2, env2, ga, gb, E2, hys⟩
      obtain ⟨hstop, hgo⟩ := hJ i G2 H3 gb.s E2.wd.sub
      by_cases hi : i < ds.length
      · right
        rw [List.drop_eq_getElem_cons hi] at hys
        obtain ⟨jg, jy⟩ := hgo ds[i] (List.getElem?_eq_getElem hi)
        unfold genB at hys
        split at hys
        · cases hys
        · rename_i e3 h3
          refine ⟨jg, fun _ H' => ∃ G3 env3, Gr F G G3 ∧ Gr F G1 G3 ∧ EnvR K F TP G3 H' (wipe σ own) env3 ∧ genB go own t c f (ds.drop (i + 1)) env3 = some (bb, e), fun _ H' hN => ⟨ds.length - (i + 1), by omega, rfl, hN⟩, fun x H' hy => ?_⟩
          obtain ⟨G3, x3, r3⟩ := jy x H' hy
          have g3 := x3.gr E2.wd.fr
          refine ⟨F, G3, env2, _, e3, h3, E2.ext x3, r3, fun σ4 k4 E4 => ?_⟩
          have hw4 : wipe σ4 own = wipe (wipe σ own) own := wipe_kp (by rw [wipe_length]; exact hl) k4
          rw [wipe_wipe] at hw4
          refine ⟨hw4, ?_⟩
          split at hys
          · cases hys
          · rename_i e5 h5
            refine ⟨F, G3, e3, _, _, h5, E4, fun G6 H6 g6 E6 => ?_⟩
            dsimp only
            rw [if_neg Bool.false_ne_true]
            have E7 := E6.wiped own
            rw [hw4] at E7
            exact ⟨G6, _, (ga.trans g3).trans g6, (gb.trans g3).trans g6, E7, hys⟩
          · rename_i e5 h5
            refine ⟨F, G3, e3, _, _, h5, E4, fun G6 H6 g6 E6 => ?_⟩
            dsimp only
            rw [if_pos rfl]
            split at hys
            · rename_i b e7 h7
              refine ⟨F, G6, e5, _, _, h7, E6, fun v G9 H9 g9 E9 r9 => ?_⟩
              cases r9
              have E10 := E9.wiped own
              rw [hw4] at E10
              have ga9 := ((ga.trans g3).trans g6).trans g9
              have gb9 := ((gb.trans g3).trans g6).trans g9
              by_cases hb : b = go
              · rw [if_pos hb] at hys
                simp only [GE.consB, if_pos hb]
                exact ⟨G9, _, ga9, gb9, E10, hys⟩
              · rw [if_neg hb] at hys
                simp only [GE.consB, if_neg hb]
                cases hys
                exact back ga9 gb9 E10 rfl rfl
            · cases hys
      · left
        rw [List.drop_of_length_le (by omega)] at hys
        cases hys
        exact ⟨hstop (by omega), back ga gb E2 rfl rfl⟩
    · cases hf
  · cases hf
theorem d_genB (go : Bool) {cd P : Addr} {x : Str} {p gpos : Pos} {k : Nat} (hr : Room (k + 1) X.A) (hc : X.calm = true) (hm : X.mg x = none) (hv : bootBuiltins x = some (.builtin (if go then "all" else "any"))) (TB : GxR.TabB X.base X.mg cd P) (hP : P ∈ TP) (hcode : X.env.code = .ref cd)
    (ok : GE.GOk X.N X.env.scope scope own) (hN : X.N.Nodup) (hdot : X.N.contains (".0" : Str) = false) (hi : PI' X TP tg iter it)
    (hg : ∀ (A : Around) (s : Shared) (H : Hp) (C : Addr) (cl : List (Str × Addr)) (code : Value) (bi : Addr) (fp : List Addr) (pn : List (Addr × Obj)), GE.Near X A → PT' (GE.gx X A s H scope (genEnv scope cl C code bi X.env) fp pn) TP (Wc X.N.length (own.map (·.2))) tg t)
    (ht : ∀ (A : Around) (s : Shared) (H : Hp) (C : Addr) (cl : List (Str × Addr)) (code : Value) (bi : Addr) (fp : List Addr) (pn : List (Addr × Obj)), GE.Near X A → PBs (GE.gx X A s H scope (genEnv scope cl C code bi X.env) fp pn) TP ifs c)
    (he : ∀ (A : Around) (s : Shared) (H : Hp) (C : Addr) (cl : List (Str × Addr)) (code : Value) (bi : Addr) (fp : List Addr) (pn : List (Addr × Obj)), GE.Near X A → PD (GE.gx X A s H scope (genEnv scope cl C code bi X.env) fp pn) TP elt f)
    (hgl : Gl X x := by rfl) (hn : x ≠ "__name__" := by decide) (hdb : (x == ("__debug__" : Str)) = false := by decide) (hs : ∀ v, genFold iter X.env v = pure v := by intro _; rfl)
    (hst : starEach [.GeneratorExp elt [⟨tg, iter, ifs, 0⟩] scope gpos] X.env = (false, eval (.GeneratorExp elt [⟨tg, iter, ifs, 0⟩] scope gpos) X.env) :: starEach [] X.env := by rfl) :
    PD X TP (.Call (.Name x p) [.GeneratorExp elt [⟨tg, iter, ifs, 0⟩] scope gpos] [] pos) (fGenB go (own.map (·.2)) it t c f) :=
  ⟨PE.at (pe_genB go hr hc hgl hm hv TB hcode ok hN hdot hi.pi (fun A s H C cl code bi fp pn n => (hg A s H C cl code bi fp pn n).pg) (fun A s H C cl code bi fp pn n => (ht A s H C cl code bi fp pn n).pts) (fun A s H C cl code bi fp pn n => (he A s H C cl code bi fp pn n).pe) hn hdb hs hst) fun σ H Q hl h => tGenB_of hP hl h⟩
end
end DL
namespace DL
open PySem PySem.Spec PyProof.Rows L2

theorem OpR.or {X : Cx} {f : Value → Value → Sem Value} {r r' : R2} (h : OpR X f r) (h' : OpR X f r') : OpR X f (fun x y H Q => r x y H Q ∨ r' x y H Q) := by
  intro pins s σ H x y v u Q I rx ry q
  rcases q with q | q
  · exact h pins s σ H x y v u Q I rx ry q
  · exact h' pins s σ H x y v u Q I rx ry q
theorem CallR.or {X : Cx} {f : Value} {r r' : List V → Hp → VK → Prop} (h : CallR X f r) (h' : CallR X f r') : CallR X f (fun x H Q => r x H Q ∨ r' x H Q) := by
  intro pins s σ H xs us Q I rx q
  rcases q with q | q
  · exact h pins s σ H xs us Q I rx q
  · exact h' pins s σ H xs us Q I rx q

/-! ### + - * // % ** -/
def gAdd : D → D → Option D
  | .int a, .int b => some (.int (a + b))
  | .str a, .str b => if a.length + b.length ≤ sizeLine then some (.str (a ++ b)) else none
  | .tuple a, .tuple b => if a.length + b.length ≤ sizeLine then some (.tuple (a ++ b)) else none
  | .list a, .list b => if a.length + b.length ≤ sizeLine then some (.list (a ++ b)) else none
  | _, _ => none
def gSub : D → D → Option D
  | .int a, .int b => some (.int (a - b))
  | _, _ => none
noncomputable def mulOk (i j : Int) : Bool := @decide ((-(2 ^ 64) < i ∧ i < 2 ^ 64) ∨ (-(2 ^ 64) < j ∧ j < 2 ^ 64)) (Classical.propDecidable _)
noncomputable def gMul : D → D → Option D
  | .int a, .int b => if mulOk a b then some (.int (a * b)) else none
  | _, _ => none
noncomputable def gFdiv : D → D → Option D
  | .int a, .int b => @ite _ (b ≠ 0 ∧ b.natAbs < 1073741824) (Classical.propDecidable _) (some (.int (a.fdiv b))) none
  | _, _ => none
def gMod : D → D → Option D
  | .int a, .int b => if b ≠ 0 then some (.int (a.fmod b)) else none
  | _, _ => none
noncomputable def gPow : D → D → Option D
  | .int a, .int b => @ite _ (0 ≤ b ∧ b ≤ 1000000 ∧ a.natAbs < 2 ^ 64) (Classical.propDecidable _) (some (.int (a ^ b.toNat))) none
  | _, _ => none
def gNeg : D → Option D
  | .int a => some (.int (-a))
  | _ => none
section
variable {X : Cx} {K : PySem.W.Frag}
/-- list + list: a new one -/
def rCatL (K : PySem.W.Frag) : R2 := fun x y H Q => ∃ a b xs ys, x = .ref a ∧ y = .ref b ∧ SqL K H a xs ∧ SqL K H b ys ∧ xs.length + ys.length ≤ sizeLine ∧ ∀ p, H p = none → Q (.ref p) (upd H p (.lst (xs ++ ys)))
theorem op_catL : OpR X (binaryOp .Add) (rCatL X.K) := by
  intro pins s σ H x y v u Q I rx ry h
  obtain ⟨l, b, xs, zs, rfl, rfl, hH, hB, hz, q⟩ := h
  cases rx
  cases ry
  obtain ⟨its, r, ⟨⟨cls, dd, data, sl⟩, n, ho, hc, hdd, hd⟩, z1⟩ := I.list hH
  obtain ⟨its2, r2, ⟨⟨cls2, dd2, data2, sl2⟩, n2, ho2, hc2, hdd2, hd2⟩, z2⟩ := I.list hB
  simp only at hc hdd hd hc2 hdd2 hd2
  subst hc hdd hd hc2 hdd2 hd2
  have hl := r.length
  have hl2 := r2.length
  refine concat_meets ⟨_, ho, rfl⟩ ⟨_, ho2, rfl⟩ noFill_list_add seq_list_add PySem.F.slot_list_add PySem.F.entry_list_add (PySem.F.args_list_add_2 _ _) (list_addW l b its.toArray its2.toArray n n2 none none sl sl2 (by rw [List.size_toArray, List.size_toArray]; omega)) ⟨ho, ho2, ?_⟩
  have ea : its.toArray ++ its2.toArray = (its ++ its2).toArray := by simp
  rw [ea]
  exact ⟨.ref _, _, I.lnew (t' := s.toks) (r.append r2) (by rw [List.length_append]; omega), rfl, q _ I.fresh⟩
def rAddA (K : PySem.W.Frag) : R2 := fun x y H Q => (((rI0 (fun i j => .int (i + j)) x y H Q) ∨ (∃ i j, x = .str i ∧ y = .str j ∧ i.length + j.length ≤ sizeLine ∧ Q (.str (i ++ j)) H)) ∨ rCatA K x y H Q) ∨ rCatL K x y H Q
theorem op_addA : OpR X (binaryOp .Add) (rAddA X.K) := ((op_add.or op_add_str).or op_catA).or op_catL
theorem od_add : OpD K (rAddA K) gAdd := by
  intro G H x y a b d Q h s ra rb q
  cases ra <;> cases rb <;> try (cases h; done)
  · rename_i i j
    cases h
    exact .inl (.inl (.inl ⟨_, _, rfl, rfl, q _ G H (Ext.refl s) (.int _)⟩))
  · rename_i i j
    simp only [gAdd] at h
    split at h
    · cases h
      exact .inl (.inl (.inr ⟨_, _, rfl, rfl, by assumption, q _ G H (Ext.refl s) (.str _)⟩))
    · cases h
  · rename_i a1 xs1 ds1 q1 r1 a2 xs2 ds2 q2 r2
    simp only [gAdd] at h
    split at h
    · rename_i hz
      cases h
      have l1 := dpAll_len r1
      have l2 := dpAll_len r2
      refine .inr ⟨_, _, _, _, rfl, rfl, s.seq q1, s.seq q2, by omega, fun p hp => ?_⟩
      have x := Ext.new1 (o := .lst (xs1 ++ xs2)) s hp
      exact q _ _ _ x (.lst (.inl (.inl upd_same)) (dpAllMono x.g _ (dpAll_append r1 r2)))
    · cases h
  · rename_i a1 xs1 ds1 q1 r1 a2 xs2 ds2 q2 r2
    simp only [gAdd] at h
    split at h
    · rename_i hz
      cases h
      have l1 := dpAll_len r1
      have l2 := dpAll_len r2
      refine .inl (.inr ⟨_, _, _, _, rfl, rfl, sameT s q1, sameT s q2, by omega, fun e => ?_, fun _ e => ?_, fun _ _ p hp => ?_⟩)
      · subst e
        cases r1
        exact q _ G H (Ext.refl s) (.tup q2 r2)
      · subst e
        cases r2
        rw [List.append_nil] at q
        exact q _ G H (Ext.refl s) (.tup q1 r1)
      · have x := Ext.new1 (o := .tup (xs1 ++ xs2)) s hp
        exact q _ _ _ x (.tup (.inl (.inl upd_same)) (dpAllMono x.g _ (dpAll_append r1 r2)))
    · cases h
theorem od_sub : OpD K (rI0 fun i j => .int (i - j)) gSub := by
  intro G H x y a b d Q h s ra rb q
  cases ra <;> cases rb <;> try (cases h; done)
  cases h
  exact ⟨_, _, rfl, rfl, q _ G H (Ext.refl s) (.int _)⟩
theorem od_mul : OpD K (rI CMul fun i j => .int (i * j)) gMul := by
  intro G H x y a b d Q h s ra rb q
  cases ra <;> cases rb <;> try (cases h; done)
  simp only [gMul] at h
  split at h
  · rename_i hc
    cases h
    refine ⟨_, _, rfl, rfl, ?_, q _ G H (Ext.refl s) (.int _)⟩
    simpa [mulOk, CMul] using hc
  · cases h
theorem od_fdiv : OpD K (rI CDivN fun i j => .int (i.fdiv j)) gFdiv := by
  intro G H x y a b d Q h s ra rb q
  cases ra <;> cases rb <;> try (cases h; done)
  simp only [gFdiv] at h
  split at h
  · rename_i hc
    cases h
    exact ⟨_, _, rfl, rfl, hc, q _ G H (Ext.refl s) (.int _)⟩
  · cases h
theorem od_mod : OpD K (rI (fun _ j => j ≠ 0) fun i j => .int (i.fmod j)) gMod := by
  intro G H x y a b d Q h s ra rb q
  cases ra <;> cases rb <;> try (cases h; done)
  simp only [gMod] at h
  split at h
  · rename_i hc
    cases h
    exact ⟨_, _, rfl, rfl, hc, q _ G H (Ext.refl s) (.int _)⟩
  · cases h
theorem od_pow : OpD K (rI CPow fun i j => .int (i ^ j.toNat)) gPow := by
  intro G H x y a b d Q h s ra rb q
  cases ra <;> cases rb <;> try (cases h; done)
  simp only [gPow] at h
  split at h
  · rename_i hc
    cases h
    exact ⟨_, _, rfl, rfl, hc, q _ G H (Ext.refl s) (.int _)⟩
  · cases h
theorem ud_neg : UnD K (rU fun i => .int (-i)) gNeg := by
  intro G H x a d Q h s ra q
  cases ra <;> try (cases h; done)
  cases h
  exact ⟨_, rfl, q _ G H (Ext.refl s) (.int _)⟩

/-! ### comparisons -/
def gOrd (p : Int → Int → Bool) : D → D → Option Bool
  | .int a, .int b => some (p a b)
  | _, _ => none
theorem ob_ord (p : Int → Int → Bool) : OpB K (rI0 fun i j => .bl (p i j)) (gOrd p) := by
  intro G H x y a b k Q h s ra rb q
  cases ra <;> cases rb <;> try (cases h; done)
  cases h
  exact ⟨_, _, rfl, rfl, q⟩
def gEq (a b : D) : Option Bool := if SeqAt.shaped a && SeqAt.shaped b then some (PyData.eqv a b) else none
def gNe (a b : D) : Option Bool := if SeqAt.shaped a && SeqAt.shaped b then some (!PyData.eqv a b) else none
theorem dq_dpS {G H : Hp} {d : D} {v : V} (h : SeqAt.shaped d = true) (s : Same G H) (r : Dq K G v d) : L2.Dp K H v d := dq_dp d (SeqAt.canLay_of_shaped h) (dpMono s d r)
theorem ob_eq : OpB K (rEqD K) gEq := by
  intro G H x y a b k Q h s ra rb q
  unfold gEq at h
  split at h
  · rename_i hs
    rw [Bool.and_eq_true] at hs
    cases h
    exact ⟨a, b, dq_dpS hs.1 s ra, dq_dpS hs.2 s rb, hs.1, hs.2, q⟩
  · cases h
theorem ob_ne : OpB K (rNeD K) gNe := by
  intro G H x y a b k Q h s ra rb q
  unfold gNe at h
  split at h
  · rename_i hs
    rw [Bool.and_eq_true] at hs
    cases h
    exact ⟨a, b, dq_dpS hs.1 s ra, dq_dpS hs.2 s rb, hs.1, hs.2, q⟩
  · cases h
def isNone : D → Bool
  | .none => true
  | _ => false
def gIsN : D → D → Option Bool
  | a, .none => some (isNone a)
  | _, _ => none
def gNotN : D → D → Option Bool
  | a, .none => some (!isNone a)
  | _, _ => none
theorem isNone_of {G : Hp} {x : V} {a : D} (r : Dq K G x a) : decide (x = .non) = isNone a := by cases r <;> simp [isNone]
theorem ob_isN : OpB K (fun x y H Q => y = .non ∧ Q (.bl (decide (x = .non))) H) gIsN := by
  intro G H x y a b k Q h s ra rb q
  cases rb <;> try (cases h; done)
  cases h
  exact ⟨rfl, by rw [isNone_of ra]; exact q⟩
theorem ob_notN : OpB K (fun x y H Q => y = .non ∧ Q (.bl (!decide (x = .non))) H) gNotN := by
  intro G H x y a b k Q h s ra rb q
  cases rb <;> try (cases h; done)
  cases h
  exact ⟨rfl, by rw [isNone_of ra]; exact q⟩
/-- x in a list or tuple -/
def hasD (xs : List D) (d : D) : Bool := xs.any fun z => PyData.eqv z d
def gIn (d : D) : D → Option Bool
  | .list xs => if SeqAt.shaped d && SeqAt.shaped (.list xs) then some (hasD xs d) else none
  | .tuple xs => if SeqAt.shaped d && SeqAt.shaped (.tuple xs) then some (hasD xs d) else none
  | _ => none
def gNotIn (d c : D) : Option Bool := (gIn d c).map (!·)
def rInA (K : PySem.W.Frag) (neg : Bool) : R2 := fun x y H Q => ∃ d c k, L2.Dp K H x d ∧ L2.Dp K H y c ∧ gIn d c = some k ∧ Q (.bl (if neg then !k else k)) H
theorem op_inA (hu : X.A.units + 65 < cLine) : OpR X (compareOp .In) (rInA X.K false) := by
  intro pins s σ H x y v u Q I rx ry h
  obtain ⟨d, c, k, hd, hc, hk, q⟩ := h
  obtain ⟨as, r1⟩ := Dp.reads I d x v hd rx
  obtain ⟨bs, r2⟩ := Dp.reads I c y u hc ry
  cases c with
  | list xs =>
    simp only [gIn] at hk
    split at hk
    · rename_i hs
      rw [Bool.and_eq_true] at hs
      cases hk
      exact SeqAt.in_list_reads r2 r1 (SeqAt.canLay_of_shaped hs.2) (SeqAt.canLay_of_shaped hs.1) (room_in_shaped hs.1 hu) ⟨.bl _, H, I, rfl, q⟩
    · cases hk
  | tuple xs =>
    simp only [gIn] at hk
    split at hk
    · rename_i hs
      rw [Bool.and_eq_true] at hs
      cases hk
      exact SeqAt.in_tuple_reads r2 r1 (SeqAt.canLay_of_shaped hs.2) (SeqAt.canLay_of_shaped hs.1) (room_in_shaped hs.1 hu) ⟨.bl _, H, I, rfl, q⟩
    · cases hk
  | _ => cases hk
theorem op_notInA (hu : X.A.units + 65 < cLine) : OpR X (compareOp .NotIn) (rInA X.K true) := by
  intro pins s σ H x y v u Q I rx ry h
  obtain ⟨d, c, k, hd, hc, hk, q⟩ := h
  obtain ⟨as, r1⟩ := Dp.reads I d x v hd rx
  obtain ⟨bs, r2⟩ := Dp.reads I c y u hc ry
  cases c with
  | list xs =>
    simp only [gIn] at hk
    split at hk
    · rename_i hs
      rw [Bool.and_eq_true] at hs
      cases hk
      exact SeqAt.notIn_list_reads r2 r1 (SeqAt.canLay_of_shaped hs.2) (SeqAt.canLay_of_shaped hs.1) (room_in_shaped hs.1 hu) ⟨.bl _, H, I, rfl, q⟩
    · cases hk
  | tuple xs =>
    simp only [gIn] at hk
    split at hk
    · rename_i hs
      rw [Bool.and_eq_true] at hs
      cases hk
      exact SeqAt.notIn_tuple_reads r2 r1 (SeqAt.canLay_of_shaped hs.2) (SeqAt.canLay_of_shaped hs.1) (room_in_shaped hs.1 hu) ⟨.bl _, H, I, rfl, q⟩
    · cases hk
  | _ => cases hk
theorem gIn_shaped {d c : D} {k : Bool} (h : gIn d c = some k) : SeqAt.shaped d = true ∧ SeqAt.shaped c = true := by
  cases c <;> simp only [gIn] at h <;> first | (split at h; · rename_i hs; rw [Bool.and_eq_true] at hs; exact hs) | skip
  all_goals cases h
theorem ob_in : OpB K (rInA K false) gIn := by
  intro G H x y a b k Q h s ra rb q
  obtain ⟨h1, h2⟩ := gIn_shaped h
  exact ⟨a, b, k, dq_dpS h1 s ra, dq_dpS h2 s rb, h, q⟩
theorem ob_notIn : OpB K (rInA K true) gNotIn := by
  intro G H x y a b k Q h s ra rb q
  unfold gNotIn at h
  cases e : gIn a b with
  | none => rw [e] at h; cases h
  | some k' =>
    rw [e] at h
    cases h
    obtain ⟨h1, h2⟩ := gIn_shaped e
    exact ⟨a, b, k', dq_dpS h1 s ra, dq_dpS h2 s rb, e, q⟩

/-! ### items, slices -/
def strCps (x : Str) : List Nat := x.cps.toList
def gIx : D → D → Option D
  | .list xs, .int i => atI xs i
  | .tuple xs, .int i => atI xs i
  | .str z, .int i => if z.length ≤ sizeLine then (atI z.cps.toList i).map fun c => .str ⟨#[c]⟩ else none
  | _, _ => none
theorem atI_dq {G : Hp} {vs : List V} {ds : List D} {i : Int} {d : D} (r : DqAll K G vs ds) (h : atI ds i = some d) : ∃ v, atI vs i = some v ∧ Dq K G v d := by
  unfold atI at h ⊢
  rw [dpAll_len r]
  cases e : ixN ds.length i with
  | none => rw [e] at h; cases h
  | some j =>
    rw [e] at h
    simp only [Option.bind_some] at h ⊢
    exact dpAll_get j r h
theorem od_ix : OpD K (rIx K) gIx := by
  intro G H x y a b d Q h s ra rb q
  cases ra <;> cases rb <;> try (cases h; done)
  · rename_i z i
    simp only [gIx] at h
    split at h
    · rename_i hz
      cases e : atI z.cps.toList i with
      | none => rw [e] at h; cases h
      | some c =>
        rw [e] at h
        cases h
        exact .inr (.inr ⟨z, i, c, rfl, rfl, hz, e, q _ G H (Ext.refl s) (.str _)⟩)
    · cases h
  · rename_i a1 xs1 ds1 q1 r1 i
    obtain ⟨v, hv, rv⟩ := atI_dq r1 h
    exact .inl ⟨_, _, _, v, rfl, rfl, s.seq q1, hv, q _ G H (Ext.refl s) rv⟩
  · rename_i a1 xs1 ds1 q1 r1 i
    obtain ⟨v, hv, rv⟩ := atI_dq r1 h
    exact .inr (.inl ⟨_, _, _, v, rfl, rfl, sameT s q1, hv, q _ G H (Ext.refl s) rv⟩)
/-- a part of a slice: an int, or nothing -/
abbrev PF := DEnv → Option (Option Int × DEnv)
def tP (K : PySem.W.Frag) (TP : List Addr) (f : PF) : TO := fun σ H Q => ∃ F G env o env', f env = some (o, env') ∧ EnvR K F TP G H σ env ∧ ∀ G' H', Gr F G G' → EnvR K F TP G' H' σ env' → Q o H'
structure PP (X : Cx) (TP : List Addr) (e : Option Expr) (f : PF) : Prop where
  po : L2.PO X e (tP X.K TP f)
theorem PO.imp' {e : Option Expr} {t t' : TO} (h : L2.PO X e t) (w : ∀ σ H Q, t' σ H Q → t σ H Q) : L2.PO X e t' := ⟨fun pins s σ H Q I q => h.run pins s σ H Q I (w _ _ _ q)⟩
end
end DL
namespace DL
open PySem PySem.Spec PyProof.Rows L2

section
variable {X : Cx} {TP : List Addr} {a b c e : Expr} {es : List Expr} {f fa fb fc : EF} {p pos p2 : Pos}

theorem bo_inv {α β : Type} {r : Option α} {e : DEnv} {k : α → DEnv → Option β} {b : β} (h : bnd (out r e) k = some b) : ∃ a, r = some a ∧ k a e = some b := by
  cases r with
  | none => cases h
  | some a => exact ⟨a, rfl, h⟩
/-! ### *e in a display, in a call -/
def aStar (f : EF) (r : AF) : AF := fun env => bnd (f env) fun d e1 => bnd (out (gIt d) e1) fun xs e1 => bnd (r e1) fun ds e2 => some (xs ++ ds, e2)
theorem starOf_seq {pins : List (Addr × Obj)} {σ : L2.St} {H : Hp} {s : Shared} {x : V} {u : Value} {K : PySem.W.Frag} {G : Hp} {d : D} {xs : List D} (hK : K = X.K) (I : Inv X pins σ H s) (sg : Same G H) (rx : RelV x u) (r : Dq K G x d) (h : gIt d = some xs) {Q : List Value → Shared → Prop}
    (hQ : ∀ vs us s', Inv X pins σ H s' → Vals vs us → DqAll K G vs xs → Q us s') : PySem.W.StarOf (model X.prog X.w) X.A X.xe u Q s := by
  subst hK
  cases r with
  | tup q ra =>
    cases h
    rename_i a' xs'
    obtain rfl : u = Value.ref a' := rx
    exact star_tup I (sameT sg q) fun us s' I' rv => hQ _ us s' I' rv ra
  | lst q ra =>
    rename_i a' xs' ds'
    cases h
    obtain rfl : u = Value.ref a' := rx
    obtain ⟨its, r, ⟨o, n, ho, hc, hdd, hd⟩, hz⟩ := I.list (sg.seq q)
    have hT : s.TypeIs (.ref a') "list" := ⟨o, ho, hc⟩
    have hl := r.length
    have z : wpAny (model X.prog X.w) X.A (collect (.ref a')) Q X.xe s := by
      refine wpAny_collect_seq a' (.inl rfl) ho hc hd (fun h' hk => ?_) (by rw [List.size_toArray]; omega)
      have e : its.toArray.toList = its := by simp
      rw [e]
      exact hQ _ its _ (I.kept (t' := s.toks) hk) r ra
    unfold PySem.W.StarOf notIterableAtAll
    exact wpAny_bind (wpAny_specialOf hT PySem.F.slot_list_iter.lookup (wpAny_pure ⟨rfl, z⟩))
  | _ => cases h
theorem l_star {r : AF} (ha : PD X TP e f) (hr : PL X TP es r) (hs : starEach (.Starred e p :: es) X.env = (true, eval e X.env) :: starEach es X.env := by rfl) : PL X TP (.Starred e p :: es) (aStar f r) := by
  refine ⟨⟨fun pos pins s σ H Q I h => ?_⟩⟩
  obtain ⟨F, G, env, d, env', hf, E, q⟩ := h
  obtain ⟨d1, e1, h1, hf⟩ := bnd_inv hf
  obtain ⟨xs, h2g, hf⟩ := bo_inv hf
  obtain ⟨ds, e2, h3, hf⟩ := bnd_inv hf
  cases hf
  rw [hs]
  show wpAny _ _ (spliced ((true, do let v ← eval e X.env; standAt pos; pure v) :: backTo pos (starEach es X.env))) _ _ s
  refine PySem.W.ks_spliced (thn (ha.pe.run pins s σ H (fun v H1 => ∃ G1, Gr F G G1 ∧ EnvR X.K F TP G1 H1 σ _ ∧ Dq X.K G1 v d1) I ⟨F, G, env, d1, _, h1, E, fun v G1 H1 g1 E1 r1 => ⟨G1, g1, E1, r1⟩⟩) fun u s1 hs1 => ?_)
  obtain ⟨x, H1, I1, rx, G1, g1, E1, r1⟩ := hs1
  refine starOf_seq rfl I1 E1.wd.sub rx r1 h2g fun vs us s2 I2 rv ra => ?_
  refine thn (hr.pa.run pos pins s2 σ H1 _ I2 ⟨F, G1, _, ds, _, h3, E1, fun vs' G2 H2 g2 E2 r2 => q (vs ++ vs') G2 H2 (g1.trans g2) E2 (dpAll_append (dpAllMono g2.s _ ra) r2)⟩) fun us' s3 hs3 => ?_
  obtain ⟨vs', H3, I3, rv', q3⟩ := hs3
  exact ⟨vs ++ vs', H3, I3, rv.append rv', q3⟩

/-! ### slices -/
def pNone : PF := fun env => some (none, env)
def pSome (f : EF) : PF := fun env => match f env with
  | some (.int i, e) => some (some i, e)
  | _ => none
theorem p_none : PP X TP none pNone := ⟨PO.imp' po_none fun σ H Q ⟨F, G, env, o, env', hf, E, q⟩ => by cases hf; exact q G H Gr.refl E⟩
theorem p_some (h : PD X TP e f) : PP X TP (some e) (pSome f) := by
  refine ⟨PO.imp' (po_some h.pe) fun σ H Q ⟨F, G, env, o, env', hf, E, q⟩ => ?_⟩
  unfold pSome at hf
  split at hf
  · rename_i i e1 h1
    cases hf
    exact ⟨F, G, env, _, _, h1, E, fun v G1 H1 g1 E1 r => by cases r; exact ⟨i, rfl, q G1 H1 g1 E1⟩⟩
  · cases hf
def cutD {α : Type} (xs : List α) (lo hi : Option Int) : List α := (xs.drop (HT.sIx xs.length 0 lo)).take (HT.sIx xs.length xs.length hi - HT.sIx xs.length 0 lo)
def gSl : D → Option Int → Option Int → Option D
  | .tuple xs, lo, hi => some (.tuple (cutD xs lo hi))
  | .list xs, lo, hi => some (.list (cutD xs lo hi))
  | .str z, lo, hi => if z.length ≤ sizeLine then some (.str (cutS z lo hi)) else none
  | _, _, _ => none
theorem SlR.or {r r' : V → Option Int → Option Int → Hp → VK → Prop} (h : SlR X r) (h' : SlR X r') : SlR X (fun x lo hi H Q => r x lo hi H Q ∨ r' x lo hi H Q) := by
  intro pins s σ H x v vl vu lo hi sl Q I rx hs pl pu q
  rcases q with q | q
  · exact h pins s σ H x v vl vu lo hi sl Q I rx hs pl pu q
  · exact h' pins s σ H x v vl vu lo hi sl Q I rx hs pl pu q
theorem cut_dq {K : PySem.W.Frag} {G : Hp} {vs : List V} {ds : List D} (r : DqAll K G vs ds) (lo hi : Option Int) : DqAll K G (cutV vs lo hi) (cutD ds lo hi) := by
  unfold cutV cutD
  rw [dpAll_len r]
  exact dpAll_take _ (dpAll_drop _ r)
theorem cut_all {α : Type} {xs : List α} {lo hi : Option Int} (h : HT.sIx xs.length 0 lo = 0 ∧ HT.sIx xs.length xs.length hi = xs.length) : cutD xs lo hi = xs := by
  unfold cutD
  rw [h.1, h.2]
  simp
def fSl (f : EF) (lo hi : PF) : EF := fun env => bnd (f env) fun d e1 => bnd (lo e1) fun l e2 => bnd (hi e2) fun h e3 => out (gSl d l h) e3
theorem d_slice {lo hi : Option Expr} {fl fh : PF} (ha : PD X TP e f) (hl : PP X TP lo fl) (hh : PP X TP hi fh) : PD X TP (.Subscript e (.Slice lo hi none p2) pos) (fSl f fl fh) := by
  refine ⟨(pe_slice (SlR.or (SlR.or sl_tupA sl_list) sl_str) ha.pe hl.po hh.po).imp fun σ H Q ⟨F, G, env, d, env', hf, E, q⟩ => ?_⟩
  obtain ⟨d1, e1, h1, hf⟩ := bnd_inv hf
  obtain ⟨l, e2, h2, hf⟩ := bnd_inv hf
  obtain ⟨h, e3, h3, hf⟩ := bnd_inv hf
  obtain ⟨h4, h5⟩ := out_inv hf
  cases h5
  refine ⟨F, G, env, d1, e1, h1, E, fun v G1 H1 g1 E1 r1 => ⟨F, G1, e1, l, e2, h2, E1, fun G2 H2 g2 E2 => ⟨F, G2, e2, h, _, h3, E2, fun G3 H3 g3 E3 => ?_⟩⟩⟩
  have r3 := dpMono (g2.trans g3).s _ r1
  have gg := (g1.trans g2).trans g3
  cases r3 with
  | str z =>
    simp only [gSl] at h4
    split at h4
    · cases h4
      exact .inr ⟨z, rfl, by assumption, q _ G3 H3 gg E3 (.str _)⟩
    · cases h4
  | @tup a' xs' ds' qa ra =>
    have lx := dpAll_len ra
    cases h4
    refine .inl (.inl ⟨_, _, rfl, sameT E3.wd.sub qa, fun hw => ?_, fun hw p hp => ?_⟩)
    · rw [lx] at hw
      rw [cut_all hw] at q; exact q _ G3 H3 gg E3 (.tup qa ra)
    · have x := Ext.new1 (o := .tup (cutV xs' l h)) E3.wd.sub hp
      exact q _ _ _ (gg.trans (x.gr E3.wd.fr)) (E3.ext x) (.tup (.inl (.inl upd_same)) (dpAllMono x.g _ (cut_dq ra l h)))
  | @lst a' xs' ds' qa ra =>
    cases h4
    refine .inl (.inr ⟨_, _, rfl, E3.wd.sub.seq qa, fun p hp => ?_⟩)
    have x := Ext.new1 (o := .lst (cutV xs' l h)) E3.wd.sub hp
    exact q _ _ _ (gg.trans (x.gr E3.wd.fr)) (E3.ext x) (.lst (.inl (.inl upd_same)) (dpAllMono x.g _ (cut_dq ra l h)))
  | _ => cases h4
/-- a slice of a list, one's own -/
def oSl (f : EF) (lo hi : PF) : OF := fun env => bnd (f env) fun d e1 => bnd (lo e1) fun l e2 => bnd (hi e2) fun h e3 => match d with
  | .list xs => some (.ow (cutD xs l h), e3)
  | _ => none
theorem o_slice {lo hi : Option Expr} {fl fh : PF} (ha : PD X TP e f) (hl : PP X TP lo fl) (hh : PP X TP hi fh) : PO X TP (.Subscript e (.Slice lo hi none p2) pos) (oSl f fl fh) := by
  refine ⟨(pe_slice sl_list ha.pe hl.po hh.po).imp fun σ H Q ⟨F, G, env, d, env', hf, E, q⟩ => ?_⟩
  obtain ⟨d1, e1, h1, hf⟩ := bnd_inv hf
  obtain ⟨l, e2, h2, hf⟩ := bnd_inv hf
  obtain ⟨h, e3, h3, hf⟩ := bnd_inv hf
  split at hf
  · cases hf
    refine ⟨F, G, env, _, e1, h1, E, fun v G1 H1 g1 E1 r1 => ⟨F, G1, e1, l, e2, h2, E1, fun G2 H2 g2 E2 => ⟨F, G2, e2, h, _, h3, E2, fun G3 H3 g3 E3 => ?_⟩⟩⟩
    have r3 := dpMono (g2.trans g3).s _ r1
    cases r3 with
    | lst qa ra => exact ⟨_, _, rfl, E3.wd.sub.seq qa, fun p hp => q _ G3 _ ((g1.trans g2).trans g3) (E3.snoc_new hp ⟨p, _, rfl, rfl, upd_same, cut_dq ra l h⟩)⟩
  · cases hf

/-! ### built-in functions -/
def fBlt (g : List D → Option D) (r : AF) : EF := fun env => bnd (r env) fun ds e => out (g ds) e
theorem d_callT {r : List V → Hp → VK → Prop} {g : List D → Option D} {ar : AF} (hd : CallD X.K r g) (ha : PL X TP es ar) (w : PE X e (tCB r (tA' X.K TP ar))) : PD X TP e (fBlt g ar) := by
  refine ⟨w.imp fun σ H Q ⟨F, G, env, d, env', hf, E, q⟩ => ?_⟩
  obtain ⟨ds, e1, h1, hf⟩ := bnd_inv hf
  obtain ⟨h3, h4⟩ := out_inv hf
  cases h4
  exact ⟨F, G, env, ds, _, h1, E, fun vs G1 H1 g1 E1 r1 => hd h3 E1.wd.sub r1 fun v G2 H2 x r2 => q v G2 H2 (g1.trans (x.gr E1.wd.fr)) (E1.ext x) r2⟩
theorem d_blt {id : String} {x : Str} {r : List V → Hp → VK → Prop} {g : List D → Option D} {ar : AF} (hc : CallR X (.builtin id) r) (hd : CallD X.K r g) (hm : X.mg x = none) (hv : bootBuiltins x = some (.builtin id)) (ha : PL X TP (e :: es) ar) (hg : Gl X x := by rfl) (hn : x ≠ "__name__" := by decide) (hdb : (x == ("__debug__" : Str)) = false := by decide)
    (he : starEach (e :: es) X.env = (false, eval e X.env) :: starEach es X.env := by rfl) (hpl : (backTo pos (starEach es X.env)).any (·.1) = false := by rfl) : PD X TP (.Call (.Name x p) (e :: es) [] pos) (fBlt g ar) :=
  d_callT hd ha (pe_callB hc hg hm hv ha.pa hn hdb he hpl)
theorem d_bty {T : String} {x : Str} {r : List V → Hp → VK → Prop} {g : List D → Option D} {ar : AF} (hc : CallR X (.type T) r) (hd : CallD X.K r g) (hm : X.mg x = none) (hv : bootBuiltins x = some (.type T)) (ha : PL X TP (e :: es) ar) (hg : Gl X x := by rfl) (hn : x ≠ "__name__" := by decide) (hdb : (x == ("__debug__" : Str)) = false := by decide)
    (he : starEach (e :: es) X.env = (false, eval e X.env) :: starEach es X.env := by rfl) (hpl : (backTo pos (starEach es X.env)).any (·.1) = false := by rfl) : PD X TP (.Call (.Name x p) (e :: es) [] pos) (fBlt g ar) :=
  d_callT hd ha (pe_callTy hc hg hm hv ha.pa hn hdb he hpl)
/-- one argument -/
def g1 (g : D → Option D) : List D → Option D
  | [d] => g d
  | _ => none
def g2 (g : D → D → Option D) : List D → Option D
  | [d, d'] => g d d'
  | _ => none
def gLen : D → Option D
  | .list xs => some (.int xs.length)
  | .tuple xs => some (.int xs.length)
  | .str z => if z.length ≤ sizeLine then some (.int z.length) else none
  | _ => none
theorem call_lenA : CallR X (.builtin "len") (fun xs H Q => (∃ p ys, xs = [.ref p] ∧ (SqL X.K H p ys ∨ SqT X.K H p ys) ∧ Q (.int ys.length) H) ∨ (∃ z, xs = [.str z] ∧ z.length ≤ sizeLine ∧ Q (.int z.length) H)) := CallR.or call_len_seq call_len_str
theorem cd_len {K : PySem.W.Frag} : CallD K (fun xs H Q => (∃ p ys, xs = [.ref p] ∧ (SqL K H p ys ∨ SqT K H p ys) ∧ Q (.int ys.length) H) ∨ (∃ z, xs = [.str z] ∧ z.length ≤ sizeLine ∧ Q (.int z.length) H)) (g1 gLen) := by
  intro G H xs as d Q h s r q
  cases r with
  | nil => cases h
  | cons ra rb =>
    cases rb with
    | cons _ _ => cases h
    | nil =>
      cases ra with
      | str z =>
        simp only [g1, gLen] at h
        split at h
        · cases h; exact .inr ⟨z, rfl, by assumption, q _ G H (Ext.refl s) (.int _)⟩
        · cases h
      | lst qa r => cases h; exact .inl ⟨_, _, rfl, .inl (s.seq qa), by rw [dpAll_len r]; exact q _ G H (Ext.refl s) (.int _)⟩
      | tup qa r => cases h; exact .inl ⟨_, _, rfl, .inr (sameT s qa), by rw [dpAll_len r]; exact q _ G H (Ext.refl s) (.int _)⟩
      | _ => cases h
def gInt : D → Option D
  | .int i => some (.int i)
  | .bool k => some (.int (if k then 1 else 0))
  | _ => none
theorem cd_int {K : PySem.W.Frag} : CallD K (fun xs H Q => (∃ i, xs = [.int i] ∧ Q (.int i) H) ∨ ∃ k, xs = [.bl k] ∧ Q (.int (if k then 1 else 0)) H) (g1 gInt) := by
  intro G H xs as d Q h s r q
  cases r with
  | nil => cases h
  | cons ra rb =>
    cases rb with
    | cons _ _ => cases h
    | nil =>
      cases ra with
      | int i => cases h; exact .inl ⟨_, rfl, q _ G H (Ext.refl s) (.int _)⟩
      | bl k => cases h; exact .inr ⟨_, rfl, q _ G H (Ext.refl s) (.int _)⟩
      | _ => cases h
def gAbs : D → Option D
  | .int i => some (.int (if i < 0 then -i else i))
  | _ => none
theorem cd_abs {K : PySem.W.Frag} : CallD K (fun xs H Q => ∃ i, xs = [.int i] ∧ Q (.int (if i < 0 then -i else i)) H) (g1 gAbs) := by
  intro G H xs as d Q h s r q
  cases r with
  | nil => cases h
  | cons ra rb =>
    cases rb with
    | cons _ _ => cases h
    | nil =>
      cases ra with
      | int i => cases h; exact ⟨_, rfl, q _ G H (Ext.refl s) (.int _)⟩
      | _ => cases h
def gMin2 : D → D → Option D
  | .int i, .int j => some (.int (if j < i then j else i))
  | _, _ => none
def gMax2 : D → D → Option D
  | .int i, .int j => some (.int (if j > i then j else i))
  | _, _ => none
theorem cd_min2 {K : PySem.W.Frag} : CallD K (fun xs H Q => ∃ i j, xs = [.int i, .int j] ∧ Q (.int (if j < i then j else i)) H) (DL.g2 gMin2) := by
  intro G H xs as d Q h s r q
  cases r with
  | nil => cases h
  | cons ra rb =>
    cases rb with
    | nil => cases h
    | cons rb rc =>
      cases rc with
      | cons _ _ => cases h
      | nil =>
        cases ra <;> cases rb <;> try (cases h; done)
        cases h
        exact ⟨_, _, rfl, q _ G H (Ext.refl s) (.int _)⟩
theorem cd_max2 {K : PySem.W.Frag} : CallD K (fun xs H Q => ∃ i j, xs = [.int i, .int j] ∧ Q (.int (if j > i then j else i)) H) (DL.g2 gMax2) := by
  intro G H xs as d Q h s r q
  cases r with
  | nil => cases h
  | cons ra rb =>
    cases rb with
    | nil => cases h
    | cons rb rc =>
      cases rc with
      | cons _ _ => cases h
      | nil =>
        cases ra <;> cases rb <;> try (cases h; done)
        cases h
        exact ⟨_, _, rfl, q _ G H (Ext.refl s) (.int _)⟩
/-- the ints of data -/
def intsD : List D → Option (List Int)
  | [] => some []
  | .int i :: r => (intsD r).map (i :: ·)
  | _ :: _ => none
theorem intsD_of {K : PySem.W.Frag} {G : Hp} : ∀ {vs : List V} {ds : List D} {ns : List Int}, DqAll K G vs ds → intsD ds = some ns → vs = ns.map V.int
  | _, _, _, .nil, h => by cases h; rfl
  | _, _, _, .cons ra rb, h => by
    cases ra with
    | int i =>
      simp only [intsD] at h
      rename_i ds'
      cases e : intsD ds' with
      | none => rw [e] at h; cases h
      | some ms =>
        rw [e] at h
        cases h
        rw [intsD_of rb e]; rfl
    | _ => simp [intsD] at h
def gSum : D → Option D
  | .list xs => (intsD xs).map fun ns => .int ns.sum
  | _ => none
theorem cd_sum {K : PySem.W.Frag} : CallD K (rSum K) (g1 gSum) := by
  intro G H xs as d Q h s r q
  cases r with
  | nil => cases h
  | cons ra rb =>
    cases rb with
    | cons _ _ => cases h
    | nil =>
      cases ra with
      | lst qa r =>
        rename_i a' xs' ds'
        cases e : intsD ds' with
        | none => simp [g1, gSum, e] at h
        | some ns =>
          simp [g1, gSum, e] at h
          subst h
          have := intsD_of r e
          subst this
          exact ⟨_, ns, rfl, s.seq qa, q _ G H (Ext.refl s) (.int _)⟩
      | _ => cases h
def maxI : List Int → Option Int
  | [] => none
  | x :: r => some (r.foldl (fun m y => if y > m then y else m) x)
def minI : List Int → Option Int
  | [] => none
  | x :: r => some (r.foldl (fun m y => if y < m then y else m) x)
theorem maxI_spec : ∀ (r : List Int) (x : Int), (r.foldl (fun m y => if y > m then y else m) x ∈ x :: r) ∧ ∀ y ∈ x :: r, y ≤ r.foldl (fun m y => if y > m then y else m) x
  | [], x => by simp
  | z :: r, x => by
    obtain ⟨h1, h2⟩ := maxI_spec r (if z > x then z else x)
    simp only [List.foldl_cons]
    refine ⟨?_, fun y hy => ?_⟩
    · rcases List.mem_cons.mp h1 with h | h
      · rw [h]; split <;> simp
      · simp [h]
    · have h0 := h2 _ List.mem_cons_self
      rcases List.mem_cons.mp hy with rfl | hy
      · refine Int.le_trans ?_ h0; split <;> omega
      · rcases List.mem_cons.mp hy with rfl | hy
        · refine Int.le_trans ?_ h0; split <;> omega
        · exact h2 y (List.mem_cons_of_mem _ hy)
theorem minI_spec : ∀ (r : List Int) (x : Int), (r.foldl (fun m y => if y < m then y else m) x ∈ x :: r) ∧ ∀ y ∈ x :: r, r.foldl (fun m y => if y < m then y else m) x ≤ y
  | [], x => by simp
  | z :: r, x => by
    obtain ⟨h1, h2⟩ := minI_spec r (if z < x then z else x)
    simp only [List.foldl_cons]
    refine ⟨?_, fun y hy => ?_⟩
    · rcases List.mem_cons.mp h1 with h | h
      · rw [h]; split <;> simp
      · simp [h]
    · have h0 := h2 _ List.mem_cons_self
      rcases List.mem_cons.mp hy with rfl | hy
      · refine Int.le_trans h0 ?_; split <;> omega
      · rcases List.mem_cons.mp hy with rfl | hy
        · refine Int.le_trans h0 ?_; split <;> omega
        · exact h2 y (List.mem_cons_of_mem _ hy)
def gMax1 : D → Option D
  | .list xs => (intsD xs).bind fun ns => (maxI ns).map .int
  | _ => none
def gMin1 : D → Option D
  | .list xs => (intsD xs).bind fun ns => (minI ns).map .int
  | _ => none
theorem cd_max1 {K : PySem.W.Frag} : CallD K (rMax K) (g1 gMax1) := by
  intro G H xs as d Q h s r q
  cases r with
  | nil => cases h
  | cons ra rb =>
    cases rb with
    | cons _ _ => cases h
    | nil =>
      cases ra with
      | lst qa r =>
        rename_i a' xs' ds'
        cases e : intsD ds' with
        | none => simp [g1, gMax1, e] at h
        | some ns =>
          cases ns with
          | nil => simp [g1, gMax1, e, maxI] at h
          | cons n ns =>
            simp [g1, gMax1, e, maxI] at h
            subst h
            have := intsD_of r e
            subst this
            refine ⟨_, n :: ns, rfl, s.seq qa, by simp, fun m hm hy => ?_⟩
            obtain ⟨h1, h2⟩ := maxI_spec ns n
            have : m = ns.foldl (fun m y => if y > m then y else m) n := Int.le_antisymm (h2 m hm) (hy _ h1)
            rw [this]
            exact q _ G H (Ext.refl s) (.int _)
      | _ => cases h
theorem cd_min1 {K : PySem.W.Frag} : CallD K (rMin K) (g1 gMin1) := by
  intro G H xs as d Q h s r q
  cases r with
  | nil => cases h
  | cons ra rb =>
    cases rb with
    | cons _ _ => cases h
    | nil =>
      cases ra with
      | lst qa r =>
        rename_i a' xs' ds'
        cases e : intsD ds' with
        | none => simp [g1, gMin1, e] at h
        | some ns =>
          cases ns with
          | nil => simp [g1, gMin1, e, minI] at h
          | cons n ns =>
            simp [g1, gMin1, e, minI] at h
            subst h
            have := intsD_of r e
            subst this
            refine ⟨_, n :: ns, rfl, s.seq qa, by simp, fun m hm hy => ?_⟩
            obtain ⟨h1, h2⟩ := minI_spec ns n
            have : m = ns.foldl (fun m y => if y < m then y else m) n := Int.le_antisymm (hy _ h1) (h2 m hm)
            rw [this]
            exact q _ G H (Ext.refl s) (.int _)
      | _ => cases h
/-- tuple(x) -/
def gTuple : D → Option D
  | .list xs => some (.tuple xs)
  | .tuple xs => some (.tuple xs)
  | _ => none
theorem cd_tuple {K : PySem.W.Frag} : CallD K (fun xs H Q => ∃ p ys, xs = [.ref p] ∧ ((SqL K H p ys ∧ ∀ l, H l = none → Q (.ref l) (upd H l (.tup ys))) ∨ (SqT K H p ys ∧ Q (.ref p) H))) (g1 gTuple) := by
  intro G H xs as d Q h s r q
  cases r with
  | nil => cases h
  | cons ra rb =>
    cases rb with
    | cons _ _ => cases h
    | nil =>
      cases ra with
      | lst qa r =>
        rename_i a' xs' ds'
        cases h
        refine ⟨_, _, rfl, .inl ⟨s.seq qa, fun l hl => ?_⟩⟩
        have x := Ext.new1 (o := .tup xs') s hl
        exact q _ _ _ x (.tup (.inl (.inl upd_same)) (dpAllMono x.g _ r))
      | tup qa r => cases h; exact ⟨_, _, rfl, .inr ⟨sameT s qa, q _ G H (Ext.refl s) (.tup qa r)⟩⟩
      | _ => cases h
/-- list(x): one's own -/
def oList (r : AF) : OF := fun env => bnd (r env) fun ds e => match ds with
  | [d] => bnd (out (gIt d) e) fun xs e => some (.ow xs, e)
  | _ => none
theorem o_list {x : Str} {ar : AF} (hm : X.mg x = none) (hv : bootBuiltins x = some (.type "list")) (ha : PL X TP (e :: es) ar) (hg : Gl X x := by rfl) (hn : x ≠ "__name__" := by decide) (hdb : (x == ("__debug__" : Str)) = false := by decide)
    (he : starEach (e :: es) X.env = (false, eval e X.env) :: starEach es X.env := by rfl) (hpl : (backTo pos (starEach es X.env)).any (·.1) = false := by rfl) : PO X TP (.Call (.Name x p) (e :: es) [] pos) (oList ar) := by
  refine ⟨(pe_callTy call_list_of hg hm hv ha.pa hn hdb he hpl).imp fun σ H Q ⟨F, G, env, d, env', hf, E, q⟩ => ?_⟩
  obtain ⟨ds, e1, h1, hf⟩ := bnd_inv hf
  split at hf
  · rename_i d1
    obtain ⟨xs, h2g, hf⟩ := bo_inv hf
    cases hf
    refine ⟨F, G, env, _, _, h1, E, fun vs G1 H1 g1 E1 r1 => ?_⟩
    cases r1 with
    | cons ra rb =>
      cases rb
      cases ra with
      | lst qa r => cases h2g; exact ⟨_, _, rfl, .inl (E1.wd.sub.seq qa), fun l hl => q _ G1 _ g1 (E1.snoc_new hl ⟨l, _, rfl, rfl, upd_same, r⟩)⟩
      | tup qa r => cases h2g; exact ⟨_, _, rfl, .inr (sameT E1.wd.sub qa), fun l hl => q _ G1 _ g1 (E1.snoc_new hl ⟨l, _, rfl, rfl, upd_same, r⟩)⟩
      | _ => cases h2g
  · cases hf

/-! ### isinstance(x, T), T a built-in class -/
def tyD : D → String
  | .none => "NoneType"
  | .bool _ => "bool"
  | .int _ => "int"
  | .str _ => "str"
  | .list _ => "list"
  | .tuple _ => "tuple"
  | .dict _ => "dict"
def isDict : D → Bool
  | .dict _ => true
  | _ => false
theorem tyX_of {K : PySem.W.Frag} {G H : Hp} {v : V} {d : D} (s : Same G H) (hd : isDict d = false) (r : Dq K G v d) : TyX K H v (.type (tyD d)) := by
  cases r with
  | non => exact .base .non
  | bl b => exact .base (.bl b)
  | int i => exact .base (.int i)
  | str x => exact .base (.str x)
  | lst q _ =>
    rcases s.seq q with (e | ⟨o, e⟩) | ⟨o, its, n, e, c, _⟩
    · exact .base (.lst e)
    · exact .base (.frz e)
    · exact .kList e c
  | tup q _ =>
    rcases sameT s q with (e | ⟨o, e⟩) | ⟨o, its, n, e, c, _⟩
    · exact .base (.tup e)
    · exact .fTuple e
    · exact .kTuple e c
  | dK q _ => cases hd
  | dT q _ => cases hd
  | dX q _ _ => cases hd
/-- what isinstance says of a built-in class T -/
def isT (T : String) (d : D) : Bool := match d with
  | .bool _ => T == "bool" || T == "int"
  | _ => tyD d == T
def fIsT (T : String) (f : EF) : EF := fun env => bnd (f env) fun d e => if isDict d = true then none else some (.bool (isT T d), e)
theorem d_isT (T : String) {y : Str} {p1 p2 : Pos} (hm : X.mg "isinstance" = none) (hy : X.mg y = none) (hv : bootBuiltins y = some (.type T)) (ha : PD X TP e f) (hk : ∀ d : D, PySem.W.kitOne X.K (.type (tyD d)) (.type T) = some (isT T d)) (hgy : Gl X y := by rfl) (hg : Gl X "isinstance" := by rfl) (hny : y ≠ "__name__" := by decide) (hdy : (y == ("__debug__" : Str)) = false := by decide)
    (he : starEach [e, .Name y p2] X.env = (false, eval e X.env) :: starEach [.Name y p2] X.env := by rfl) (he2 : starEach [.Name y p2] X.env = (false, eval (.Name y p2) X.env) :: starEach [] X.env := by rfl) (hpl : (backTo pos (starEach [.Name y p2] X.env)).any (·.1) = false := by rfl) :
    PD X TP (.Call (.Name "isinstance" p1) [e, .Name y p2] [] pos) (fIsT T f) := by
  refine ⟨(pe_callB call_isi hg hm boot_isinstance (pa_cons ha.pe (pa_cons (pe_bltn (v := .ty T) hgy hy hv rfl hny hdy) pa_nil he2) he) (by decide) (by decide) he hpl).imp fun σ H Q ⟨F, G, env, d, env', hf, E, q⟩ => ?_⟩
  obtain ⟨d1, e1, h1, hf⟩ := bnd_inv hf
  split at hf
  · cases hf
  rename_i hd
  cases hf
  exact ⟨F, G, env, _, _, h1, E, fun v G1 H1 g1 E1 r1 => ⟨v, .ty T, _, _, _, rfl, .ty T, tyX_of E1.wd.sub (by simpa using hd) r1, hk d1, q _ G1 H1 g1 E1 (.bl _)⟩⟩

/-! ### a < b <= c -/
def fChain (g g' : D → D → Option Bool) (fa fb fc : EF) : EF := fun env => bnd (fa env) fun x e1 => bnd (fb e1) fun y e2 => bnd (out (g x y) e2) fun k e2 => if k then bnd (fc e2) fun z e3 => bnd (out (g' y z) e3) fun k' e3 => some (.bool k', e3) else some (.bool false, e2)
theorem d_chain {op op' : CmpOp} {r r' : R2} {gg gg' : D → D → Option Bool} (ho : OpR X (compareOp op) r) (hd : OpB X.K r gg) (ho' : OpR X (compareOp op') r') (hd' : OpB X.K r' gg') (ha : PD X TP a fa) (hb : PD X TP b fb) (hc : PD X TP c fc)
    (hm : lastMarks [op, op'] [b, c] = false := by with_unfolding_all rfl) : PD X TP (.Compare a [op, op'] [b, c] pos) (fChain gg gg' fa fb fc) := by
  refine ⟨(pe_chain ho ho' ha.pe hb.pe hc.pe hm).imp fun σ H Q ⟨F, G, env, d, env', hf, E, q⟩ => ?_⟩
  obtain ⟨x, e1, h1, hf⟩ := bnd_inv hf
  obtain ⟨y, e2, h2, hf⟩ := bnd_inv hf
  obtain ⟨k, h3g, hf⟩ := bo_inv hf
  refine ⟨F, G, env, x, e1, h1, E, fun v G1 H1 g1 E1 r1 => ⟨F, G1, e1, y, _, h2, E1, fun u G2 H2 g2 E2 r2 => ?_⟩⟩
  refine hd h3g E2.wd.sub (dpMono g2.s _ r1) r2 ⟨k, rfl, ?_⟩
  cases k with
  | false =>
    rw [if_neg Bool.false_ne_true] at hf ⊢
    cases hf
    exact q _ G2 H2 (g1.trans g2) E2 (.bl _)
  | true =>
    rw [if_pos rfl] at hf ⊢
    obtain ⟨z, e4, h4, hf⟩ := bnd_inv hf
    obtain ⟨k', h5g, hf⟩ := bo_inv hf
    cases hf
    refine ⟨F, G2, e2, z, _, h4, E2, fun w' G3 H3 g3 E3 r3 => ?_⟩
    exact hd' h5g E3.wd.sub (dpMono g3.s _ r2) r3 (q _ G3 H3 ((g1.trans g2).trans g3) E3 (.bl _))
end
end DL
namespace DL
open PySem PySem.Spec PyProof.Rows L2

section
variable {X : Cx} {TP : List Addr} {W : List Nat} {a b c e : Expr} {es : List Expr} {f fa fb fc : EF} {p pos p2 apos cpos : Pos}

/-! ### x.m(..), x a list of one's own -/
/-- method m (by its rule r): g tells its answer and what the list then is -/
def MdD (K : PySem.W.Frag) (r : V → List V → Hp → VK → Prop) (g : List D → List D → Option (D × List D)) : Prop :=
  ∀ {G H : Hp} {a : Addr} {xs : List V} {ds : List D} {vs : List V} {as : List D} {d : D} {new : List D} {Q : VK}, g ds as = some (d, new) → H a = some (.lst xs) → Same G H → DqAll K G xs ds → DqAll K G vs as →
    (∀ v xs', DqAll K G xs' new → Dq K G v d → Q v (upd H a (.lst xs'))) → r (.ref a) vs H Q
def fMd (i : Nat) (g : List D → List D → Option (D × List D)) (ar : AF) : EF := fun env => match env[i]? with
  | some (.ow _) => bnd (ar env) fun as e1 => match e1[i]? with
    | some (.ow ds) => match g ds as with
      | some (d, new) => some (d, e1.set i (.ow new))
      | none => none
    | _ => none
  | _ => none
theorem fMd_inv {i : Nat} {g : List D → List D → Option (D × List D)} {ar : AF} {env env' : DEnv} {d : D} (h : fMd i g ar env = some (d, env')) :
    ∃ ds0 as e1 ds new, env[i]? = some (.ow ds0) ∧ ar env = some (as, e1) ∧ e1[i]? = some (.ow ds) ∧ g ds as = some (d, new) ∧ env' = e1.set i (.ow new) := by
  unfold fMd at h
  split at h
  · rename_i ds0 h0
    obtain ⟨as, e1, h1, h⟩ := bnd_inv h
    split at h
    · rename_i ds h2
      split at h
      · rename_i d' new h3
        cases h
        exact ⟨ds0, as, e1, ds, new, h0, h1, h2, h3, rfl⟩
      · cases h
    · cases h
  · cases h
theorem d_md (i : Nat) {x name : Str} {id : String} {r : V → List V → Hp → VK → Prop} {g : List D → List D → Option (D × List D)} {ar : AF} (slot : Slot "list" name id) (hty : typeOf (.builtin id) = pure (.type "method_descriptor")) (hm : MtR X id r) (hd : MdD X.K r g)
    (ha : PL X TP (e :: es) ar) (hN : X.N[i]? = some x := by rfl) (hv : Vis X.env.scope x := by first | exact Or.inl rfl | exact Or.inr (Or.inl rfl) | exact Or.inr (Or.inr rfl)) (hdb : (x == ("__debug__" : Str)) = false := by decide) (hcx : (x == ("__classdict__" : Str)) = false := by decide)
    (hbase : attributeBase (.Name x p) name X.env (eval (.Name x p) X.env) = eval (.Name x p) X.env := by rfl)
    (hfew : ((backTo cpos (starEach (e :: es) X.env)).all (fun x => !x.1) && (backToKw cpos (keywordEach [] X.env)).all (fun x => x.1.isSome)
      && decide ((e :: es).length + ([] : List Keyword).length + (if ([] : List Keyword).isEmpty then 0 else 1) < 30)) = true := by rfl)
    (hline : (apos.endLine == cpos.line) = true := by rfl) (hs : starEach (e :: es) X.env = (false, eval e X.env) :: starEach es X.env := by rfl) (hplain : (backTo cpos (starEach es X.env)).any (·.1) = false := by rfl) :
    PD X TP (.Call (.Attribute (.Name x p) name apos) (e :: es) [] cpos) (fMd i g ar) := by
  refine ⟨(pe_bm PySem.F.plainAttrs_list slot hty hm (pe_var (pos := p) hN hv hdb hcx) ha.pa hbase hfew hline hs hplain).imp fun σ H Q ⟨F, G, env, d, env', hf, E, q⟩ => ?_⟩
  obtain ⟨ds0, as, e1, ds, new, h0, h1, h2, h3, rfl⟩ := fMd_inv hf
  obtain ⟨a, xs0, ea, ha0, _⟩ := E.at_ow h0
  refine ⟨.ref a, ea, .inl ⟨rfl, xs0, .inl (.inl ha0)⟩, F, G, env, as, e1, h1, E, fun vs G1 H1 g1 E1 r1 => ?_⟩
  obtain ⟨a', xs, ea', ha1, rx⟩ := E1.at_ow h2
  rw [ea] at ea'; cases ea'
  exact hd h3 ha1 E1.wd.sub rx r1 fun v xs' rx' rv => q v G1 _ g1 (E1.write_ow h2 ea rx') rv
theorem d_md0 (i : Nat) {x name : Str} {id : String} {r : V → List V → Hp → VK → Prop} {g : List D → List D → Option (D × List D)} (slot : Slot "list" name id) (hty : typeOf (.builtin id) = pure (.type "method_descriptor")) (hm : MtR X id r) (hd : MdD X.K r g)
    (hN : X.N[i]? = some x := by rfl) (hv : Vis X.env.scope x := by first | exact Or.inl rfl | exact Or.inr (Or.inl rfl) | exact Or.inr (Or.inr rfl)) (hdb : (x == ("__debug__" : Str)) = false := by decide) (hcx : (x == ("__classdict__" : Str)) = false := by decide)
    (hbase : attributeBase (.Name x p) name X.env (eval (.Name x p) X.env) = eval (.Name x p) X.env := by rfl) (hline : (apos.endLine == cpos.line) = true := by rfl) :
    PD X TP (.Call (.Attribute (.Name x p) name apos) [] [] cpos) (fMd i g aNil) := by
  refine ⟨(pe_bm0 PySem.F.plainAttrs_list slot hty hm (pe_var (pos := p) hN hv hdb hcx) hbase hline).imp fun σ H Q ⟨F, G, env, d, env', hf, E, q⟩ => ?_⟩
  obtain ⟨ds0, as, e1, ds, new, h0, h1, h2, h3, rfl⟩ := fMd_inv hf
  cases h1
  obtain ⟨a, xs, ea, ha1, rx⟩ := E.at_ow h2
  refine ⟨.ref a, ea, .inl ⟨rfl, xs, .inl (.inl ha1)⟩, ?_⟩
  exact hd h3 ha1 E.wd.sub rx .nil fun v xs' rx' rv => q v G _ Gr.refl (E.write_ow h2 ea rx') rv
/-! the methods -/
def mAppend : List D → List D → Option (D × List D) := fun ds as => match as with
  | [d] => if ds.length < sizeLine then some (.none, ds ++ [d]) else none
  | _ => none
theorem md_append {K : PySem.W.Frag} : MdD K rAppend mAppend := by
  intro G H a xs ds vs as d new Q h ha sg rx ra q
  unfold mAppend at h
  split at h
  · rename_i d1
    split at h
    · rename_i hl
      cases h
      cases ra with
      | cons r1 r2 => cases r2; exact ⟨a, xs, _, rfl, rfl, ha, by rw [dpAll_len rx]; exact hl, q _ _ (dpAll_append rx (.cons r1 .nil)) .non⟩
    · cases h
  · cases h
def mPop : List D → List D → Option (D × List D) := fun ds as => match as with
  | [] => match ds[ds.length - 1]? with
    | some d => some (d, ds.dropLast)
    | none => none
  | _ => none
theorem md_pop {K : PySem.W.Frag} : MdD K rPop mPop := by
  intro G H a xs ds vs as d new Q h ha sg rx ra q
  unfold mPop at h
  split at h
  · split at h
    · rename_i d1 hl
      cases h
      cases ra
      rw [← dpAll_len rx] at hl
      obtain ⟨v, hv, rv⟩ := dpAll_get _ rx hl
      refine ⟨a, xs, v, rfl, rfl, ha, hv, q _ _ ?_ rv⟩
      rw [List.dropLast_eq_take, List.dropLast_eq_take, dpAll_len rx]
      exact dpAll_take _ rx
    · cases h
  · cases h
theorem dpAll_erase {K : PySem.W.Frag} {G : Hp} : ∀ (k : Nat) {vs : List V} {ds : List D}, DqAll K G vs ds → DqAll K G (vs.eraseIdx k) (ds.eraseIdx k)
  | _, _, _, .nil => .nil
  | 0, _, _, .cons a q => q
  | k + 1, _, _, .cons a q => .cons a (dpAll_erase k q)
def mPopAt : List D → List D → Option (D × List D) := fun ds as => match as with
  | [.int i] => if -(2 ^ 63) ≤ i ∧ i < 2 ^ 63 then match seqIndex? i ds.length with
    | some k => match ds[k]? with
      | some d => some (d, ds.eraseIdx k)
      | none => none
    | none => none else none
  | _ => none
theorem md_popAt {K : PySem.W.Frag} : MdD K rPopAt mPopAt := by
  intro G H a xs ds vs as d new Q h ha sg rx ra q
  unfold mPopAt at h
  split at h
  · rename_i i
    split at h
    · rename_i hi
      split at h
      · rename_i k hk
        split at h
        · rename_i d1 hd
          cases h
          cases ra with
          | cons r1 r2 =>
            cases r2
            cases r1
            rw [← dpAll_len rx] at hk
            obtain ⟨v, hv, rv⟩ := dpAll_get _ rx hd
            exact ⟨a, xs, i, k, v, rfl, rfl, ha, hi.1, hi.2, hk, hv, q _ _ (dpAll_erase k rx) rv⟩
        · cases h
      · cases h
    · cases h
  · cases h
/-! ### x.extend(y), x.extend([..]): both one's own -/
def sExtV (i j : Nat) : SF := fun env => match env[i]?, env[j]? with
  | some (.ow xs), some (.ow ys) => if xs.length + ys.length ≤ sizeLine ∧ i ≠ j then some (.nx, env.set i (.ow (xs ++ ys))) else none
  | _, _ => none
theorem s_extV (i j : Nat) {x y : Str} {py : Pos} (hNi : X.N[i]? = some x := by rfl) (hNj : X.N[j]? = some y := by rfl) (hv : Vis X.env.scope x := by first | exact Or.inl rfl | exact Or.inr (Or.inl rfl) | exact Or.inr (Or.inr rfl)) (hdb : (x == ("__debug__" : Str)) = false := by decide) (hcx : (x == ("__classdict__" : Str)) = false := by decide)
    (hvj : Vis X.env.scope y := by first | exact Or.inl rfl | exact Or.inr (Or.inl rfl) | exact Or.inr (Or.inr rfl)) (hdbj : (y == ("__debug__" : Str)) = false := by decide) (hcy : (y == ("__classdict__" : Str)) = false := by decide)
    (hbase : attributeBase (.Name x p) ("extend" : Str) X.env (eval (.Name x p) X.env) = eval (.Name x p) X.env := by rfl)
    (hfew : ((backTo cpos (starEach [.Name y py] X.env)).all (fun x => !x.1) && (backToKw cpos (keywordEach [] X.env)).all (fun x => x.1.isSome)
      && decide ([Expr.Name y py].length + ([] : List Keyword).length + (if ([] : List Keyword).isEmpty then 0 else 1) < 30)) = true := by rfl)
    (hline : (apos.endLine == cpos.line) = true := by rfl) (hs : starEach [.Name y py] X.env = (false, eval (.Name y py) X.env) :: starEach [] X.env := by rfl) (hplain : (backTo cpos (starEach [] X.env)).any (·.1) = false := by rfl)
    (hsw : swapsWith (.Call (.Attribute (.Name x p) "extend" apos) [.Name y py] [] cpos) none pos.line X.env = pure false := by rfl) :
    PSD X TP W (.Expr (.Call (.Attribute (.Name x p) "extend" apos) [.Name y py] [] cpos) pos) (sExtV i j) := by
  refine ⟨(ps_expr (pe_bm PySem.F.plainAttrs_list PySem.F.slot_list_extend PySem.F.type_list_extend mt_extend (pe_var (pos := p) hNi hv hdb hcx) (pa_cons (pe_var (pos := py) hNj hvj hdbj hcy) pa_nil hs) hbase hfew hline hs hplain) hsw).imp fun D σ H ⟨F, G, env, s, env', hf, E, q⟩ => ?_⟩
  unfold sExtV at hf
  split at hf
  · rename_i xs ys h1 h2
    split at hf
    · rename_i hl
      cases hf
      obtain ⟨a, vx, ea, ha, rx⟩ := E.at_ow h1
      obtain ⟨b, vy, eb, hb, ry⟩ := E.at_ow h2
      refine ⟨.ref a, ea, .inl ⟨rfl, vx, .inl (.inl ha)⟩, .ref b, eb, a, b, vx, vy, rfl, rfl, ha, hb, by rw [dpAll_len rx, dpAll_len ry]; exact hl.1, q σ G _ Kp.refl Gr.refl (E.write_ow h1 ea (dpAll_append rx ry))⟩
    · cases hf
  · cases hf
def sExtO (i : Nat) (o : OF) : SF := fun env => match env[i]? with
  | some (.ow _) => bnd (o env) fun c e1 => match c, e1[i]? with
    | .ow ys, some (.ow xs) => if xs.length + ys.length ≤ sizeLine then some (.nx, e1.set i (.ow (xs ++ ys))) else none
    | _, _ => none
  | _ => none
theorem s_extO (i : Nat) {x : Str} {o : OF} (ho : PO X TP e o) (hNi : X.N[i]? = some x := by rfl) (hv : Vis X.env.scope x := by first | exact Or.inl rfl | exact Or.inr (Or.inl rfl) | exact Or.inr (Or.inr rfl)) (hdb : (x == ("__debug__" : Str)) = false := by decide) (hcx : (x == ("__classdict__" : Str)) = false := by decide)
    (hbase : attributeBase (.Name x p) ("extend" : Str) X.env (eval (.Name x p) X.env) = eval (.Name x p) X.env := by rfl)
    (hfew : ((backTo cpos (starEach [e] X.env)).all (fun x => !x.1) && (backToKw cpos (keywordEach [] X.env)).all (fun x => x.1.isSome)
      && decide ([e].length + ([] : List Keyword).length + (if ([] : List Keyword).isEmpty then 0 else 1) < 30)) = true := by rfl)
    (hline : (apos.endLine == cpos.line) = true := by rfl) (hs : starEach [e] X.env = (false, eval e X.env) :: starEach [] X.env := by rfl) (hplain : (backTo cpos (starEach [] X.env)).any (·.1) = false := by rfl)
    (hsw : swapsWith (.Call (.Attribute (.Name x p) "extend" apos) [e] [] cpos) none pos.line X.env = pure false := by rfl) :
    PSD X TP W (.Expr (.Call (.Attribute (.Name x p) "extend" apos) [e] [] cpos) pos) (sExtO i o) := by
  refine ⟨(ps_expr (pe_bm PySem.F.plainAttrs_list PySem.F.slot_list_extend PySem.F.type_list_extend mt_extend (pe_var (pos := p) hNi hv hdb hcx) (pa_cons ho.pe pa_nil hs) hbase hfew hline hs hplain) hsw).imp fun D σ H ⟨F, G, env, s, env', hf, E, q⟩ => ?_⟩
  unfold sExtO at hf
  split at hf
  · rename_i ds0 h0
    obtain ⟨c, e1, h1, hf⟩ := bnd_inv hf
    split at hf
    · rename_i ys xs h2
      split at hf
      · rename_i hl
        cases hf
        obtain ⟨a, vx0, ea, ha, _⟩ := E.at_ow h0
        refine ⟨.ref a, ea, .inl ⟨rfl, vx0, .inl (.inl ha)⟩, F, G, env, _, e1, h1, E, fun v G1 H1 g1 E1 => ?_⟩
        have l1 : σ.length = e1.length := by have := E1.len; simp at this; exact this
        have hi : i < e1.length := (List.getElem?_eq_some_iff.mp h2).1
        have E2 := E1.unsnoc
        obtain ⟨a', vx, ea', hx, rx⟩ := E2.at_ow h2
        rw [ea] at ea'; cases ea'
        obtain ⟨b, vy, eb, hb, ry⟩ := E1.at_ow (i := e1.length) (ds := ys) (by simp)
        rw [← l1, List.getElem?_append_right (Nat.le_refl _)] at eb
        simp at eb
        subst eb
        refine ⟨a, b, vx, vy, rfl, rfl, hx, hb, by rw [dpAll_len rx, dpAll_len ry]; exact hl, ?_⟩
        exact q σ G1 _ Kp.refl g1 (E2.write_ow h2 ea (dpAll_append rx ry))
      · cases hf
    · cases hf
  · cases hf
end
end DL
namespace DL
open PySem PySem.Spec PyProof.Rows L2
theorem tuple_mul1 (l : Addr) (items : Array Value) (n : Nat) (dd : Option Addr) (sl : Array (Option Value)) (x : Int) (u : Tok) (c0 : (decide (x < -(2 ^ 63)) || decide (x ≥ 2 ^ 63)) = false) (c1 : (items.isEmpty || x == 1) = true) :
    Meets (Builtin.«tuple.__mul__» ⟨[.ref l, .int x u], []⟩) (fun _ R s => s.heap.get? l = some { cls := .type "tuple", dict := dd, data := .seq items n, slots := sl } ∧
      R (.ok (.ret (Value.ref l))) s) :=
  .of_wp fun prog w A R s h => by
    obtain ⟨hp, g, d, tk, os⟩ := s
    obtain ⟨hl, h⟩ := h
    have f1 := AutoSeq1.idx_int
    wp_walk using wpAny_loadPart' hl
    repeat (first
      | (refine wpAny_ite_false (decide_eq_false (by rw [c0]; exact Bool.false_ne_true)) ?_; wp_walk using wpAny_loadPart' hl)
      | (refine wpAny_ite_true (decide_eq_true (by rw [c1])) ?_; wp_walk using wpAny_loadPart' hl))
    exact ⟨_, rfl, h⟩
end DL
namespace DL
open PySem PySem.Spec PyProof.Rows L2
section
variable {prog : Program} {w : World} {A : Around} {E : Value → Shared → Prop} {s : Shared}
theorem extend_rev {it l S : Addr} {items : Array Value} {c₀ : Nat} {R : Result → Shared → Prop} (res : Value) (hh : A.handled = none) (hit : s.heap.IsRevIter it l ((items.size : Int) - 1)) (hl : s.heap.IsList l items) (hne : l ≠ it) (hSi : S ≠ it) (hSl : S ≠ l) (hn : items.size ≤ sizeLine)
    (hS : s.heap.get? S = some { cls := .type "list", data := .seq #[] c₀ })
    (hR : ∀ h' tk acc' c', (∀ b o, b ≠ S → b ≠ it → s.heap.get? b = some o → h'.get? b = some o) → h'.get? S = some { cls := .type "list", dict := none, data := .seq acc' c', slots := #[] } → ItemsOf (fun i v => items[items.size - 1 - i]? = some v) acc' items.size → R (.ok (.ret res)) { s with heap := h', toks := tk }) :
    wpAny (model prog w) A.in1 (Builtin.List.listExtendWith (.ref S) (.ref it) res)
      (fun fin s' => match fin with | .done f => R (.ok f) s' | .again c' => c'.quiet = true ∧ codeAny (model prog w) A c' R s') (fun e s' => R (.error e) s') s := by
  have W := (Walks.listRev (prog := prog) (w := w) (A := A.in1) hh it l hne items).toS
  have hSf : S ∉ [it, l] := by simp only [List.mem_cons, List.not_mem_nil, or_false, not_or]; exact ⟨hSi, hSl⟩
  have hT : s.TypeIs (.ref it) "list_reverseiterator" := Heap.IsRevIter.typeIs hit
  have h1 : Builtin.List.listSameRef (.ref S) (.ref it) = false := by simp [Builtin.List.listSameRef, hSi]
  unfold Builtin.List.listExtendWith
  refine wpAny_bind (wpAny_typeOf hT ?_)
  rw [if_neg (by rw [h1]; decide)]
  refine wpAny_bind (wpAny_pyIter_revIter hit ?_)
  refine wpAny_bind (wpAny_holding ?_)
  unfold Builtin.List.listLengthHint
  refine wpAny_bind (wpAny_specialOf hT RT.nolen_lri ?_)
  show wpAny _ A.in1 (specialOf (Value.ref it) (Str.ofString "__length_hint__") >>= _) _ _ _
  refine wpAny_bind (wpAny_specialOf hT RT.hint_lri ?_)
  generalize hid : ("list_reverseiterator.__length_hint__" : String) = id0
  wp_delta
  rw [show splitId id0 = some ("list_reverseiterator", "__length_hint__") from by subst hid; decide +kernel]
  subst hid
  refine wpAny_bind (wpAny_isInstance (b := true) hT (by rw [isSubtype_type]; kernel_rfl) ?_)
  refine wpAny_pure ?_
  rw [if_neg (by decide)]
  have e0 : ((items.size : Nat) : Int) - 1 - ((0 : Nat) : Int) = (items.size : Int) - 1 := by omega
  refine wpAny_pure ⟨plainId_quiet F.plain_extend_loop _, codeAny_extend_loopS W hn _ hSf _ items.size 0 _ _ _ rfl (Nat.zero_le _) ⟨Nat.zero_le _, by rw [e0]; exact hit, hl⟩ hS (ItemsOf.nil _) fun s' acc' c' hm hS' hacc => ?_⟩
  rw [Moved.eq_with hm]
  refine hR s'.heap s'.toks acc' c' (fun b o hb hb2 e => hm.heap b o (fun hmem => ?_) e) hS' hacc
  rcases List.mem_cons.mp hmem with e' | hmem
  · exact hb e'
  · exact hb2 (List.mem_singleton.mp hmem)
theorem call_list_rev {it l : Addr} {items : Array Value} {Q : Value → Shared → Prop} (hh : A.handled = none) (hit : s.heap.IsRevIter it l ((items.size : Int) - 1)) (hl : s.heap.IsList l items) (hne : l ≠ it) (hn : items.size ≤ sizeLine)
    (hQ : ∀ h' tk acc' c', (∀ b o, b ≠ it → s.heap.get? b = some o → h'.get? b = some o) → h'.get? s.heap.objs.size = some { cls := .type "list", dict := none, data := .seq acc' c', slots := #[] } → ItemsOf (fun i v => items[items.size - 1 - i]? = some v) acc' items.size → Q (.ref s.heap.objs.size) { s with heap := h', toks := tk }) :
    wpAny (model prog w) A (call (.type "list") [.ref it]) Q E s := by
  refine callType_codes (Q₁ := fun obj s₁ => obj = .ref s.heap.objs.size ∧ s₁ = { s with heap := s.heap.push { cls := .type "list", data := .seq #[] } }) PySem.F.called_list (PySem.F.typeCall_list_1 _) PySem.F.entry_list_init
    (code_list_new _ ⟨rfl, rfl⟩) fun obj s₁ h₁ => ?_
  obtain ⟨rfl, rfl⟩ := h₁
  have hS : (s.heap.push { cls := .type "list", data := .seq #[] }).get? s.heap.objs.size = some { cls := .type "list", data := .seq #[] } := Heap.get?_push_size _ rfl
  obtain ⟨oi, hoi, _⟩ := id hit
  obtain ⟨ol, hol, _⟩ := id hl
  have hSi : s.heap.objs.size ≠ it := Nat.ne_of_gt (Heap.lt_size hoi)
  have hSl : s.heap.objs.size ≠ l := Nat.ne_of_gt (Heap.lt_size hol)
  refine ⟨⟨_, hS, rfl⟩, PySem.F.args_list_init_2 _ _, ?_⟩
  show wpAny _ _ (do let old ← Builtin.List.listItems (.ref s.heap.objs.size); Builtin.List.listUpdate (.ref s.heap.objs.size) (fun _ => #[]); letGo old.toList.reverse; Builtin.List.listExtendWith (.ref s.heap.objs.size) (.ref it) .none) _ _ _
  refine wpAny_bind ?_
  unfold Builtin.List.listItems
  refine wpAny_bind (wpAny_seqItems hS rfl (wpAny_pure ?_))
  show wpAny _ _ (updateSeq s.heap.objs.size (fun _ => #[]) >>= fun _ => letGo (#[] : Array Value).toList.reverse >>= fun _ => Builtin.List.listExtendWith (.ref s.heap.objs.size) (.ref it) .none) _ _ _
  refine wpAny_bind (wpAny_updateSeq hS rfl ?_)
  have hS₂ := Heap.get?_update_self (Obj.mapSeq (fun _ => (#[] : Array Value))) hS rfl
  have oth : ∀ b o, b ≠ s.heap.objs.size → s.heap.get? b = some o → ((s.heap.push { cls := .type "list", data := .seq #[] }).update s.heap.objs.size (Obj.mapSeq (fun _ => (#[] : Array Value)))).get? b = some o :=
    fun b o hb e => (Heap.get?_update_other _ _ (Ne.symm hb)).trans (Heap.get?_push_of_some _ e)
  refine wpAny_bind (wpAny_letGo ?_)
  refine extend_rev (A := A.in1) .none hh (hit.at fun o e => oth it o hSi.symm e) (hl.at fun o e => oth l o hSl.symm e) hne hSi hSl hn hS₂ fun h' tk acc' c' hk hS' hacc => ?_
  exact ⟨rfl, hQ h' tk acc' c' (fun b o hb e => hk b o (Nat.ne_of_lt (Heap.lt_size e)) hb (oth b o (Nat.ne_of_lt (Heap.lt_size e)) e)) hS' hacc⟩
end
end DL
namespace DL
open PySem PySem.Spec PyProof.Rows L2

section
variable {X : Cx} {TP : List Addr} {W : List Nat} {a b c e : Expr} {es : List Expr} {f fa fb fc : EF} {p pos p2 pos2 apos cpos : Pos}

/-! ### list(reversed(x)) -/
def oListRev (f : EF) : OF := fun env => bnd (f env) fun d e => match d with
  | .list xs => some (.ow xs.reverse, e)
  | _ => none
theorem dpAll_rev {K : PySem.W.Frag} {G : Hp} : ∀ {vs : List V} {ds : List D}, DqAll K G vs ds → DqAll K G vs.reverse ds.reverse
  | _, _, .nil => .nil
  | _, _, .cons a q => by
    rw [List.reverse_cons, List.reverse_cons]
    exact dpAll_append (dpAll_rev q) (.cons a .nil)
def tListRev (K : PySem.W.Frag) (te : TE) : TE := fun σ H Q => te σ H fun v H1 => ∃ a xs, v = .ref a ∧ SqL K H1 a xs ∧ ∀ q, H1 q = none → Q (.ref q) (upd H1 q (.lst xs.reverse))
theorem pe_listRev {te : TE} (hc : X.calm = true) (hg : Gl X "list") (hm : X.mg "list" = none) (hg2 : Gl X "reversed") (hm2 : X.mg "reversed" = none) (he : PE X e te)
    (hs : starEach [e] X.env = (false, eval e X.env) :: starEach [] X.env := by rfl)
    (hs2 : starEach [.Call (.Name "reversed" p2) [e] [] pos2] X.env = (false, eval (.Call (.Name "reversed" p2) [e] [] pos2) X.env) :: starEach [] X.env := by rfl) :
    PE X (.Call (.Name "list" p) [.Call (.Name "reversed" p2) [e] [] pos2] [] pos) (tListRev X.K te) := by
  refine ⟨fun pins s σ H Q I h => ?_⟩
  refine Call_ (ld_blt I hg hm boot_list (PyProof.Rows.callWith_type1 (args_cons (Call_ (ld_blt I hg2 hm2 PyProof.Rows.boot_reversed (PyProof.Rows.callWith_type1 (args_cons (thn (he.run pins s σ H _ I h) fun u s1 ⟨v, H1, I1, r1, q1⟩ => args_nil ?_) hs) hs rfl))) hs2) hs2 rfl))
  obtain ⟨a, xs, ev, hq, q⟩ := q1
  subst ev
  obtain rfl : u = Value.ref a := r1
  obtain ⟨its, rv, p', hz⟩ := I1.list hq
  refine call_reversed_list p'.isList (args_nil ?_)
  have k0 : ∀ b o, s1.heap.get? b = some o → (s1.heap.push (revObj a ((its.toArray.size : Int) - 1))).get? b = some o := fun b o e => Heap.get?_push_of_some _ e
  have I2 : L2.Inv X pins σ H1 { s1 with heap := s1.heap.push (revObj a ((its.toArray.size : Int) - 1)) } := I1.kept (t' := s1.toks) k0
  obtain ⟨f0, f1, f2, f3, f4, f5⟩ := I1.fpOk (H' := H1) (b := s1.heap.objs.size) (Nat.le_refl _) (I1.hok.fresh (Nat.le_refl _))
  have hl := p'.isList
  obtain ⟨ol, hol, _⟩ := id hl
  have hne : a ≠ s1.heap.objs.size := Nat.ne_of_lt (Heap.lt_size hol)
  have hn : its.toArray.size ≤ sizeLine := by rw [List.size_toArray, ← rv.length]; exact hz
  refine call_list_rev (s := { s1 with heap := s1.heap.push (revObj a ((its.toArray.size : Int) - 1)) }) (I1.ok.hd hc) ⟨_, Heap.get?_push_size _ rfl, rfl, rfl⟩ (hl.push _) hne hn fun h' tk acc c' hk hS hi => ?_
  have hk' : ∀ b o, s1.heap.get? b = some o → h'.get? b = some o := fun b o e => hk b o (Nat.ne_of_lt (Heap.lt_size e)) (k0 b o e)
  have hsz : (s1.heap.push (revObj a ((its.toArray.size : Int) - 1))).objs.size = s1.heap.objs.size + 1 := by simp [Heap.push]
  rw [hsz] at hS ⊢
  refine ⟨.ref _, upd H1 (s1.heap.objs.size + 1) (.lst xs.reverse), I1.laid (t' := tk) hk' (Nat.le_succ _) (show ObjOk X.prog X.w _ _ _ (.lst xs.reverse) from ⟨by rw [List.length_reverse]; exact hz, acc.toList, c', RT.vals_rev rv hi, ?_⟩), rfl, q _ (I1.hok.fresh (Nat.le_succ _))⟩
  rw [Array.toArray_toList]
  exact hS
theorem o_listRev (hc : X.calm = true) (hm : X.mg "list" = none) (hm2 : X.mg "reversed" = none) (he : PD X TP e f) (hg : Gl X "list" := by rfl) (hg2 : Gl X "reversed" := by rfl)
    (hs : starEach [e] X.env = (false, eval e X.env) :: starEach [] X.env := by rfl)
    (hs2 : starEach [.Call (.Name "reversed" p2) [e] [] pos2] X.env = (false, eval (.Call (.Name "reversed" p2) [e] [] pos2) X.env) :: starEach [] X.env := by rfl) :
    PO X TP (.Call (.Name "list" p) [.Call (.Name "reversed" p2) [e] [] pos2] [] pos) (oListRev f) := by
  refine ⟨(pe_listRev hc hg hm hg2 hm2 he.pe hs hs2).imp fun σ H Q ⟨F, G, env, d, env', hf, E, q⟩ => ?_⟩
  obtain ⟨d1, e1, h1, hf⟩ := bnd_inv hf
  split at hf
  · cases hf
    refine ⟨F, G, env, _, _, h1, E, fun v G1 H1 g1 E1 r1 => ?_⟩
    cases r1 with
    | lst qa r => exact ⟨_, _, rfl, E1.wd.sub.seq qa, fun l hl => q _ G1 _ g1 (E1.snoc_new hl ⟨l, _, rfl, rfl, upd_same, dpAll_rev r⟩)⟩
  · cases hf

/-! ### sorted(x), x a list -/
def isNT : D → Bool
  | .none => true
  | .tuple _ => true
  | _ => false
def isT1 : D → Bool
  | .tuple (_ :: _) => true
  | _ => false
def sortOk (xs : List D) : Bool := (xs.all fun d => xs.all fun d' => PySem.W.alike d d') && (xs.all isT1 || xs.all fun d => !isNT d) && xs.all fun d => SeqAt.shaped d
def oSorted (r : AF) : OF := fun env => bnd (r env) fun ds e => match ds with
  | [.list xs] => if sortOk xs = true then some (.ow (xs.mergeSort (PySem.W.dataLe false id)), e) else none
  | _ => none
theorem sortOk_spec {xs : List D} (h : sortOk xs = true) : PySem.W.AllAlike xs ∧ PySem.W.Sortable xs ∧ ∀ d ∈ xs, SeqAt.shaped d = true := by
  unfold sortOk at h
  simp only [Bool.and_eq_true, Bool.or_eq_true, List.all_eq_true] at h
  obtain ⟨⟨h1, h2⟩, h3⟩ := h
  refine ⟨fun d hd d' hd' => h1 d hd d' hd', ?_, h3⟩
  rcases h2 with h2 | h2
  · refine .inl fun d hd => ?_
    have := h2 d hd
    match d, this with
    | .tuple (x :: r), _ => exact ⟨x, r, rfl⟩
  · refine .inr fun d hd => ?_
    have := h2 d hd
    refine ⟨fun z => ?_, fun ys z => ?_⟩
    · subst z; simp [isNT] at this
    · subst z; simp [isNT] at this
theorem each_dq {K : PySem.W.Frag} {G : Hp} : ∀ {vs : List V} {us : List Value} {ds : List D}, Vals vs us → DqAll K G vs ds → PySem.W.EachIs (fun u d => ∃ v, RelV v u ∧ Dq K G v d) us ds
  | _, _, _, .nil, .nil => .nil
  | _, _, _, .cons r rs, .cons q qs => .cons ⟨_, r, q⟩ (each_dq rs qs)
theorem dq_each {K : PySem.W.Frag} {G : Hp} : ∀ {us : List Value} {ds : List D}, PySem.W.EachIs (fun u d => ∃ v, RelV v u ∧ Dq K G v d) us ds → ∃ vs, Vals vs us ∧ DqAll K G vs ds
  | _, _, .nil => ⟨[], .nil, .nil⟩
  | _, _, .cons ⟨v, r, q⟩ rs => by
    obtain ⟨vs, h1, h2⟩ := dq_each rs
    exact ⟨v :: vs, .cons r h1, .cons q h2⟩
theorem EachIs.impM {α β : Type} {R R' : α → β → Prop} : ∀ {xs : List α} {ys : List β}, PySem.W.EachIs R xs ys → (∀ x y, y ∈ ys → R x y → R' x y) → PySem.W.EachIs R' xs ys
  | _, _, .nil, _ => .nil
  | _, _, .cons h t, f => .cons (f _ _ List.mem_cons_self h) (EachIs.impM t fun x y hy => f x y (List.mem_cons_of_mem _ hy))
def rSortedD (K : PySem.W.Frag) : List V → Hp → VK → Prop := fun vs H Q => ∃ (a : Addr) (xs : List V) (ds : List D) (G : Hp), vs = [V.ref a] ∧ SqL K H a xs ∧ DqAll K G xs ds ∧ Same G H ∧ sortOk ds = true ∧
  ∀ (xs' : List V) (p : Addr), DqAll K G xs' (ds.mergeSort (PySem.W.dataLe false id)) → H p = none → Q (.ref p) (upd H p (.lst xs'))
theorem cr_sortedD (hu : X.A.units + 67 < cLine) : CallR X (.builtin "sorted") (rSortedD X.K) := by
  intro pins s σ H vs us Q I r h
  obtain ⟨a, xs, ds, G, rfl, hs, hd, sg, ok, q⟩ := h
  obtain ⟨its, rv, hl, hz⟩ := I.list hs
  rw [Vals.ref1 r]
  obtain ⟨ha, hk, hsh⟩ := sortOk_spec ok
  have e1 := each_dq rv hd
  have lds : its.length = ds.length := by rw [← rv.length, dpAll_len hd]
  refine PySem.W.sorted_data (enc := id) (R := fun u d => ∃ v, RelV v u ∧ Dq X.K G v d) hl.isList e1 ?_ (by rwa [List.map_id]) (by rwa [List.map_id]) (by rw [← lds, ← rv.length]; exact hz) (fun b hb => ?_) fun out hlen eo => ?_
  · refine EachIs.impM e1 fun u d hm ⟨v, rvu, rd⟩ => ?_
    exact Dp.reads I d v u (dq_dpS (hsh d hm) sg rd) rvu
  · have := SeqAt.depth_of_shaped (hsh b hb)
    show X.A.units + 2 + b.depth < cLine
    omega
  · obtain ⟨vs', rv', hd'⟩ := dq_each eo
    obtain ⟨ep, he'⟩ := PyProof.Rows.sortedAll_at s.heap its out.toArray
    have hlen' : vs'.length ≤ sizeLine := by rw [rv'.length, hlen, ← lds, ← rv.length]; exact hz
    exact ⟨.ref _, upd H (s.heap.objs.size + 1) (.lst vs'), I.laid (t' := s.toks) (fun _ _ => PyProof.Rows.sortedAll_old) (Nat.le_succ _) ⟨hlen', out, ep, rv', he'⟩, rfl, q _ _ hd' (I.hok.fresh (Nat.le_succ _))⟩
theorem o_sorted {x : Str} {ar : AF} (hu : X.A.units + 67 < cLine) (hm : X.mg x = none) (hv : bootBuiltins x = some (.builtin "sorted")) (ha : PL X TP (e :: es) ar) (hg : Gl X x := by rfl) (hn : x ≠ "__name__" := by decide) (hdb : (x == ("__debug__" : Str)) = false := by decide)
    (he : starEach (e :: es) X.env = (false, eval e X.env) :: starEach es X.env := by rfl) (hpl : (backTo pos (starEach es X.env)).any (·.1) = false := by rfl) : PO X TP (.Call (.Name x p) (e :: es) [] pos) (oSorted ar) := by
  refine ⟨(pe_callB (cr_sortedD hu) hg hm hv ha.pa hn hdb he hpl).imp fun σ H Q ⟨F, G, env, d, env', hf, E, q⟩ => ?_⟩
  obtain ⟨ds, e1, h1, hf⟩ := bnd_inv hf
  split at hf
  · split at hf
    · rename_i hok
      cases hf
      refine ⟨F, G, env, _, _, h1, E, fun vs G1 H1 g1 E1 r1 => ?_⟩
      cases r1 with
      | cons ra rb =>
        cases rb
        cases ra with
        | lst qa r => exact ⟨_, _, _, G1, rfl, E1.wd.sub.seq qa, r, E1.wd.sub, hok, fun xs' l r' hl => q _ G1 _ g1 (E1.snoc_new hl ⟨l, _, rfl, rfl, upd_same, r'⟩)⟩
    · cases hf
  · cases hf

/-! ### tuple * int, [..] * int -/
def rRepT1 (K : PySem.W.Frag) : R2 := fun x y H Q => ∃ l xs, x = .ref l ∧ y = .int 1 ∧ SqT K H l xs ∧ Q (.ref l) H
theorem op_repT1 : OpR X (binaryOp .Mult) (rRepT1 X.K) := by
  intro pins s σ H x y v u Q I rx ry h
  obtain ⟨l, xs, rfl, rfl, hT, q⟩ := h
  cases rx
  obtain ⟨t, rfl⟩ := ry
  obtain ⟨its, r, ⟨⟨cls, dd, data, sl⟩, ho, hc, n, hd⟩, hs⟩ := I.tuple hT
  simp only at hc hd
  subst hc hd
  exact wpAny_binaryOp_repeat_ref (T := "tuple") (U := "int") (by decide) ⟨_, ho, rfl⟩ (fun s' => typeIs_int s' 1 t) noFill_tuple_mul F.fills_int_mul F.slot_int_rmul repeat_tuple F.slot_int_index.lookup
    (call_meets F.slot_int_rmul (typeIs_int s 1 t) F.entry_int_rmul (F.args_int_rmul_2 _ _) (int_rmul_tuple 1 t l its.toArray n dd sl)
      ⟨ho, rfl, ⟨_, ho, rfl⟩, call_meets F.slot_tuple_mul ⟨_, ho, rfl⟩ F.entry_tuple_mul (F.args_tuple_mul_2 _ _) (tuple_mul1 l its.toArray n dd sl 1 t (by decide) (by simp)) ⟨ho, .ref l, H, I, rfl, q⟩⟩)
noncomputable def gMulA (a b : D) : Option D := match a, b with
  | .tuple xs, .int k => if k = 1 then some (.tuple xs) else if xs ≠ [] ∧ 2 ≤ k ∧ k ≤ 1000 ∧ xs.length ≤ 1000 then some (.tuple (List.replicate k.toNat xs).flatten) else none
  | a, b => gMul a b
def rMulA (K : PySem.W.Frag) : R2 := fun x y H Q => (rI CMul (fun i j => .int (i * j)) x y H Q ∨ rRepT1 K x y H Q) ∨ rRepT K x y H Q
theorem op_mulA : OpR X (binaryOp .Mult) (rMulA X.K) := OpR.or (OpR.or op_mul op_repT1) op_repT
theorem dpAll_flat {K : PySem.W.Frag} {G : Hp} {vs : List V} {ds : List D} (r : DqAll K G vs ds) : ∀ n, DqAll K G (List.replicate n vs).flatten (List.replicate n ds).flatten
  | 0 => .nil
  | n + 1 => by
    rw [List.replicate_succ, List.replicate_succ, List.flatten_cons, List.flatten_cons]
    exact dpAll_append r (dpAll_flat r n)
theorem od_mulA {K : PySem.W.Frag} : OpD K (rMulA K) gMulA := by
  intro G H x y a b d Q h s ra rb q
  unfold gMulA at h
  split at h
  · rename_i xs k
    cases ra with
    | @tup a' xs' ds' qa r =>
      cases rb
      split at h
      · rename_i hk
        subst hk
        cases h
        exact .inl (.inr ⟨_, _, rfl, rfl, sameT s qa, q _ G H (Ext.refl s) (.tup qa r)⟩)
      · split at h
        · rename_i hk
          cases h
          refine .inr ⟨_, _, _, rfl, rfl, sameT s qa, fun z => hk.1 ?_, hk.2.1, hk.2.2.1, by rw [dpAll_len r]; exact hk.2.2.2, fun p hp => ?_⟩
          · have := dpAll_len r; rw [z] at this; exact List.eq_nil_of_length_eq_zero this.symm
          · have x := Ext.new1 (o := .tup (List.replicate k.toNat xs').flatten) s hp
            exact q _ _ _ x (.tup (.inl (.inl upd_same)) (dpAllMono x.g _ (dpAll_flat r _)))
        · cases h
  · exact .inl (.inl (od_mul h s ra rb q))
/-- [..] * k -/
noncomputable def oRep (o : OF) (f : EF) : OF := fun env => bnd (o env) fun c e1 => match c with
  | .ow xs => match f e1 with
    | some (.int k, e2) => @ite _ (-(2 ^ 63) ≤ k ∧ k < 2 ^ 63 ∧ xs.length * k.toNat ≤ sizeLine) (Classical.propDecidable _) (some (.ow (List.replicate k.toNat xs).flatten, e2)) none
    | _ => none
  | _ => none
theorem oRep_inv {o : OF} {f : EF} {env env' : DEnv} {c : Cell} (h : oRep o f env = some (c, env')) : ∃ xs e1 k, o env = some (.ow xs, e1) ∧ f e1 = some (.int k, env') ∧ (-(2 ^ 63) ≤ k ∧ k < 2 ^ 63 ∧ xs.length * k.toNat ≤ sizeLine) ∧ c = .ow (List.replicate k.toNat xs).flatten := by
  obtain ⟨c1, e1, h1, h⟩ := bnd_inv h
  split at h
  · rename_i xs
    split at h
    · rename_i k e2 h2
      split at h
      · rename_i hk
        cases h
        exact ⟨xs, e1, k, h1, h2, hk, rfl⟩
      · cases h
    · cases h
  · cases h
theorem o_rep {o : OF} (ha : PO X TP a o) (hb : PD X TP b fb) : PO X TP (.BinOp a .Mult b pos) (oRep o fb) := by
  refine ⟨(pe_op op_rep ha.pe hb.pe).imp fun σ H Q ⟨F, G, env, c, env', hf, E, q⟩ => ?_⟩
  obtain ⟨xs, e1, k, h1, h2, hk, rfl⟩ := oRep_inv hf
  refine ⟨F, G, env, _, e1, h1, E, fun v G1 H1 g1 E1 => ?_⟩
  obtain ⟨p, vs, ev, hp, rv, fp, gp, E2⟩ := E1.hide
  cases ev
  refine ⟨_, G1, e1, _, _, h2, E2, fun u G2 H2 g2 E3 r2 => ?_⟩
  cases r2
  obtain ⟨gg, hp2, E4⟩ := EnvR.unhide (vs' := vs) fp g2 gp E3 (dpAllMono g2.s _ rv)
  refine ⟨_, _, vs, rfl, rfl, hp2, hk.1, hk.2.1, by rw [dpAll_len rv]; exact hk.2.2, fun l hl => ?_⟩
  have E5 : EnvR X.K F TP G2 H2 σ env' := by
    have e : upd H2 p (.lst vs) = H2 := by
      funext b
      by_cases z : b = p
      · subst z; rw [upd_same, hp2]
      · rw [upd_ne z]
    rw [e] at E4
    exact E4.unsnoc
  exact q _ G2 _ (g1.trans gg) (E5.snoc_new hl ⟨l, _, rfl, rfl, upd_same, dpAll_flat (dpAllMono g2.s _ rv) _⟩)

/-! ### a, b = x, y: what is one's own stays so -/
def sParO (i j : Nat) (oa ob : OF) : SF := fun env => bnd (oa env) fun c1 e1 => match c1 with
  | .ow xs => bnd (ob e1) fun c2 e2 => if i < e2.length ∧ j < e2.length then some (.nx, (e2.set i (.ow xs)).set j c2) else none
  | .sh d => bnd (ob e1) fun c2 e2 => if i < e2.length ∧ j < e2.length then some (.nx, (e2.set i (.sh d)).set j c2) else none
  | _ => none
theorem set_snoc {α : Type} {l : List α} {x y : α} {i : Nat} (h : i < l.length) : (l ++ [x]).set i y = l.set i y ++ [x] := by
  rw [List.set_append, if_pos h]
theorem s_parO (i j : Nat) {x y : Str} {a b : Expr} {oa ob : OF} {px py pt : Pos} {kt k2 pt2} (hc : X.calm = true) (hN : X.N.Nodup) (hij : i ≠ j) (ha : PO X TP a oa) (hb : PO X TP b ob) (hwi : i ∉ W := by decide) (hwj : j ∉ W := by decide) (hi : X.N[i]? = some x := by rfl) (hj : X.N[j]? = some y := by rfl)
    (hx : X.env.scope.names.lookup x = some .local := by rfl) (hy : X.env.scope.names.lookup y = some .local := by rfl)
    (hsa : starEach [a, b] X.env = (false, eval a X.env) :: starEach [b] X.env := by rfl) (hsb : starEach [b] X.env = (false, eval b X.env) :: starEach [] X.env := by rfl)
    (hw : swappedStores [.Tuple [.Name x px, .Name y py] kt pt] (.Tuple [a, b] k2 pt2) X.env = pure (some [x, y]) := by rfl)
    (hs : swapsWithSole [.Tuple [.Name x px, .Name y py] kt pt] (.Tuple [a, b] k2 pt2) pos.line X.env = pure false := by rfl) :
    PSD X TP W (.Assign [.Tuple [.Name x px, .Name y py] kt pt] (.Tuple [a, b] k2 pt2) pos) (sParO i j oa ob) := by
  refine ⟨(ps_par hc hN hi hj hij hx hy (pa_cons ha.pe (pa_cons hb.pe pa_nil hsb) hsa) hw hs).imp fun D σ H ⟨F, G, env, s, env', hf, E, q⟩ => ?_⟩
  obtain ⟨c1, e1, h1, hf⟩ := bnd_inv hf
  split at hf
  · rename_i xs
    obtain ⟨c2, e2, h2, hf⟩ := bnd_inv hf
    split at hf
    · rename_i hl
      cases hf
      refine ⟨F, G, env, _, e1, h1, E, fun v G1 H1 g1 E1 => ?_⟩
      obtain ⟨p, vs, ev, hp, rv, fp, gp, E2⟩ := E1.hide
      cases ev
      refine ⟨_, G1, e1, _, _, h2, E2, fun u G2 H2 g2 E3 => ?_⟩
      obtain ⟨gg, hp2, E4⟩ := EnvR.unhide (vs' := vs) fp g2 gp E3 (dpAllMono g2.s _ rv)
      have e : upd H2 p (.lst vs) = H2 := by
        funext b
        by_cases z : b = p
        · subst z; rw [upd_same, hp2]
        · rw [upd_ne z]
      rw [e] at E4
      have l0 : σ.length = e2.length := by have := E3.len; simp at this; exact this
      have E5 := E4.move (i := i) (by simp; omega)
      rw [set_snoc (by omega), set_snoc hl.1] at E5
      have E6 := E5.move (i := j) (by simp; omega)
      exact ⟨_, _, rfl, q _ G2 _ ((Kp.set hwi).trans (Kp.set hwj)) (g1.trans gg) E6⟩
    · cases hf
  · rename_i d
    obtain ⟨c2, e2, h2, hf⟩ := bnd_inv hf
    split at hf
    · rename_i hl
      cases hf
      refine ⟨F, G, env, _, e1, h1, E, fun v G1 H1 g1 E1 => ?_⟩
      obtain ⟨x, ex, rd⟩ := E1.last
      cases ex
      refine ⟨F, G1, e1, _, _, h2, E1.unsnoc, fun u G2 H2 g2 E3 => ?_⟩
      have l0 : σ.length = e2.length := by have := E3.len; simp at this; exact this
      have E5 := E3.set_sh (dpMono g2.s _ rd) i
      rw [set_snoc (by omega), set_snoc hl.1] at E5
      have E6 := E5.move (i := j) (by simp; omega)
      exact ⟨_, _, rfl, q _ G2 _ ((Kp.set hwi).trans (Kp.set hwj)) (g1.trans g2) E6⟩
    · cases hf
  · cases hf
end
end DL
namespace DL
open PySem PySem.Spec PyProof.Rows L2

theorem upd_id {H : Hp} {a : Addr} {u : HO} (h : H a = some u) : upd H a u = H := by
  funext b
  by_cases z : b = a
  · subst z; rw [upd_same, h]
  · rw [upd_ne z]
theorem wipe_sub {σ : Sl} {own own1 : List Nat} (h : ∀ i ∈ own1, i ∈ own) : wipe (wipe σ own1) own = wipe σ own := by
  apply List.ext_getElem?
  intro j
  by_cases hj : j ∈ own
  · by_cases hl : j < σ.length
    · rw [wipe_own hj (by rw [wipe_length]; exact hl), wipe_own hj hl]
    · rw [List.getElem?_eq_none (by rw [wipe_length, wipe_length]; omega), List.getElem?_eq_none (by rw [wipe_length]; omega)]
  · rw [wipe_get hj, wipe_get (fun z => hj (h j z)), wipe_get hj]
/-- [f for t in ds if c for t1 in it1 if c1] -/
def lc2L (own own1 : List Nat) (t : TF) (c : BF) (it1 : AF) (t1 : TF) (c1 : BF) (f : EF) : List D → DEnv → Option (List D × DEnv)
  | [], env => some ([], env)
  | d :: ds, env => match t d env with
    | none => none
    | some e1 => match c e1 with
      | none => none
      | some (false, e2) => lc2L own own1 t c it1 t1 c1 f ds (wipeD own e2)
      | some (true, e2) => match it1 e2 with
        | none => none
        | some (ds1, e3) => match lcL own1 t1 c1 f ds1 (wipeD own1 e3) with
          | none => none
          | some (ys, e4) => match lc2L own own1 t c it1 t1 c1 f ds (wipeD own e4) with
            | none => none
            | some (zs, e5) => some (ys ++ zs, e5)
def oLc2 (own own1 : List Nat) (it : AF) (t : TF) (c : BF) (it1 : AF) (t1 : TF) (c1 : BF) (f : EF) : OF := fun env => bnd (it env) fun ds e0 => if ownNo own e0 then match lc2L own own1 t c it1 t1 c1 f ds (wipeD own e0) with
  | some (ys, e) => if ys.length ≤ sizeLine then some (.ow ys, restD own e0 e) else none
  | none => none
  else none
/-- the inner loop -/
theorem inner_of {K : PySem.W.Frag} {TP : List Addr} {N : Nat} {own1 : List Nat} {t1 : TF} {c1 : BF} {f : EF} {σ2 : Sl} {F G0 G1 H4 : Hp} {Dd : Addr} {vs : List V} {ds1 : List D} {e3 e4 : DEnv} {acc ys : List D} {J1 : It} {Nx : Hp → Prop}
    (hl : σ2.length = N) (fa : F Dd = none) (ga0 : G0 Dd = none) (g3 : Gr (upd F Dd (.lst vs)) G0 G1) (E : EnvR K (upd F Dd (.lst vs)) TP G1 H4 σ2 e3) (hJ : ItOk K G1 J1 ds1) (ra : DqAll K G1 vs acc)
    (hlc : lcL own1 t1 c1 f ds1 (wipeD own1 e3) = some (ys, e4)) (hz : (acc ++ ys).length ≤ sizeLine)
    (hN : ∀ G5 H5, Gr F G0 G5 → EnvR K F TP G5 H5 (wipe σ2 own1 ++ [some (.ref Dd)]) (e4 ++ [.ow (acc ++ ys)]) → Nx H5) :
    ∃ W1 : Nat → Nat → Hp → Prop, (∃ m, W1 0 m H4) ∧ ∀ j k H, W1 j k H →
      (J1.stop j H ∧ Nx H) ∨ (J1.go j H ∧ ∃ Nx1 : Hp → Prop, (∀ H', Nx1 H' → ∃ k', k' < k ∧ W1 (j + 1) k' H') ∧ ∀ x H', J1.yld j H x H' → tG K TP (Wc N own1) t1 x (wipe σ2 own1) H' fun σ3 H5 => wipe σ3 own1 = wipe σ2 own1 ∧ tB' K TP c1 σ3 H5 fun b H6 =>
        if b = true then tD K TP f σ3 H6 fun y H7 => ∃ acc, H7 Dd = some (.lst acc) ∧ acc.length < sizeLine ∧ Nx1 (upd H7 Dd (.lst (acc ++ [y]))) else Nx1 H6) := by
  obtain ⟨gg0, hd0, E0⟩ := EnvR.unhide (vs' := vs) fa g3 ga0 (E.wiped own1) ra
  rw [upd_id hd0] at E0
  refine ⟨fun j k H => k = ds1.length - j ∧ ∃ G2 env2 acc2, Gr F G0 G2 ∧ Gr F G1 G2 ∧ EnvR K F TP G2 H (wipe σ2 own1 ++ [some (.ref Dd)]) (env2 ++ [.ow acc2]) ∧ ∃ ys2, lcL own1 t1 c1 f (ds1.drop j) env2 = some (ys2, e4) ∧ acc2 ++ ys2 = acc ++ ys, ⟨ds1.length, rfl, G1, _, acc, gg0, Gr.refl, E0, ys, by simpa using hlc, rfl⟩, ?_⟩
  rintro i m H2 ⟨rfl, G2, env2, acc2, ga, gb, E2, ys2, hys, hacc⟩
  obtain ⟨a, vs2, ea, ha, ra2, fa2, ga2, Eh⟩ := E2.hide
  cases ea
  obtain ⟨hstop, hgo⟩ := hJ i G2 H2 gb.s Eh.wd.sub
  by_cases hi : i < ds1.length
  · right
    rw [List.drop_eq_getElem_cons hi] at hys
    obtain ⟨jg, jy⟩ := hgo ds1[i] (List.getElem?_eq_getElem hi)
    unfold lcL at hys
    split at hys
    · cases hys
    · rename_i e3' h3
      refine ⟨jg, fun H' => ∃ G3 env3 acc3, Gr F G0 G3 ∧ Gr F G1 G3 ∧ EnvR K F TP G3 H' (wipe σ2 own1 ++ [some (.ref Dd)]) (env3 ++ [.ow acc3]) ∧ ∃ ys3, lcL own1 t1 c1 f (ds1.drop (i + 1)) env3 = some (ys3, e4) ∧ acc3 ++ ys3 = acc ++ ys, fun H' hN => ⟨ds1.length - (i + 1), by omega, rfl, hN⟩, fun x H' hy => ?_⟩
      obtain ⟨G3, x3, r3⟩ := jy x H' hy
      have g3' : Gr (upd F Dd (.lst vs2)) G2 G3 := x3.gr Eh.wd.fr
      refine ⟨upd F Dd (.lst vs2), G3, env2, _, e3', h3, Eh.ext x3, r3, fun σ4 k4 E4 => ?_⟩
      have hw4 : wipe σ4 own1 = wipe (wipe σ2 own1) own1 := wipe_kp (by rw [wipe_length]; exact hl) k4
      rw [wipe_wipe] at hw4
      refine ⟨hw4, ?_⟩
      have fin : ∀ {G5 : Hp} {H5 : Hp} {e5 : DEnv} {vs' : List V} {acc' ys' : List D}, Gr (upd F Dd (.lst vs2)) G3 G5 → EnvR K (upd F Dd (.lst vs2)) TP G5 H5 σ4 e5 → DqAll K G5 vs' acc' → lcL own1 t1 c1 f (ds1.drop (i + 1)) (wipeD own1 e5) = some (ys', e4) → acc' ++ ys' = acc ++ ys →
          H5 Dd = some (.lst vs2) ∧ ∃ G3 env3 acc3, Gr F G0 G3 ∧ Gr F G1 G3 ∧ EnvR K F TP G3 (upd H5 Dd (.lst vs')) (wipe σ2 own1 ++ [some (.ref Dd)]) (env3 ++ [.ow acc3]) ∧ ∃ ys3, lcL own1 t1 c1 f (ds1.drop (i + 1)) env3 = some (ys3, e4) ∧ acc3 ++ ys3 = acc ++ ys := fun {G5 H5 e5 vs' acc' ys'} g5 E5 r5 h5 h6 => by
        have E6 := E5.wiped own1
        rw [hw4] at E6
        obtain ⟨gg, hd5, E7⟩ := E6.unhide fa (g3'.trans g5) ga2 r5
        exact ⟨hd5, G5, _, acc', ga.trans gg, gb.trans gg, E7, ys', h5, h6⟩
      split at hys
      · cases hys
      · rename_i e5 h5
        refine ⟨upd F Dd (.lst vs2), G3, e3', _, _, h5, E4, fun G6 H6 g6 E6 => ?_⟩
        dsimp only
        rw [if_neg Bool.false_ne_true]
        obtain ⟨hd6, hN⟩ := fin g6 E6 (dpAllMono (g3'.trans g6).s _ ra2) hys hacc
        rw [upd_id hd6] at hN
        exact hN
      · rename_i e5 h5
        refine ⟨upd F Dd (.lst vs2), G3, e3', _, _, h5, E4, fun G6 H6 g6 E6 => ?_⟩
        dsimp only
        rw [if_pos rfl]
        split at hys
        · cases hys
        · rename_i y e7 h7
          split at hys
          · cases hys
          · rename_i ys8 e8 h8
            cases hys
            refine ⟨upd F Dd (.lst vs2), G6, e5, _, _, h7, E6, fun v G9 H9 g9 E9 r9 => ?_⟩
            have rall : DqAll K G9 (vs2 ++ [v]) (acc2 ++ [y]) := dpAll_append (dpAllMono ((g3'.trans g6).trans g9).s _ ra2) (.cons r9 .nil)
            obtain ⟨hd9, hN⟩ := fin (g6.trans g9) E9 rall h8 (by rw [List.append_assoc]; exact hacc)
            refine ⟨vs2, hd9, ?_, hN⟩
            have h10 := dpAll_len ra2
            have h11 : (acc2 ++ y :: ys8).length ≤ sizeLine := by rw [hacc]; exact hz
            rw [List.length_append, List.length_cons] at h11
            omega
  · left
    rw [List.drop_of_length_le (by omega)] at hys
    cases hys
    rw [List.append_nil] at hacc
    subst hacc
    exact ⟨hstop (by omega), hN G2 H2 ga E2⟩
theorem tLc2_of {K : PySem.W.Frag} {TP : List Addr} {N : Nat} {own own1 : List Nat} {it it1 : AF} {t t1 : TF} {c c1 : BF} {f : EF} {σ : Sl} {H : Hp} {Q : VK} (hl : σ.length = N) (hs : ∀ i ∈ own1, i ∈ own) (h : tO K TP (oLc2 own own1 it t c it1 t1 c1 f) σ H Q) :
    tLc2 (tI K TP it) (tG K TP (Wc N own) t) (tB' K TP c) (tI K TP it1) (tG K TP (Wc N own1) t1) (tB' K TP c1) (tD K TP f) own own1 σ H Q := by
  obtain ⟨F, G, env, cc, env', hf, E, q⟩ := h
  obtain ⟨ds, e0, h1, hf⟩ := bnd_inv hf
  split at hf
  · rename_i hno
    split at hf
    · rename_i ys e hlc
      split at hf
      · rename_i hz
        cases hf
        refine ⟨F, G, env, ds, e0, h1, E, fun J G1 H1 g1 E1 hJ Dd hD => ?_⟩
        have Ew := E1.wiped own
        have En := Ew.snoc_new (c := .ow []) hD ⟨Dd, [], rfl, rfl, upd_same, .nil⟩
        refine ⟨fun i m H => m = ds.length - i ∧ ∃ G2 env2 acc, Gr F G G2 ∧ Gr F G1 G2 ∧ EnvR K F TP G2 H (wipe σ own ++ [some (.ref Dd)]) (env2 ++ [.ow acc]) ∧ ∃ ys2, lc2L own own1 t c it1 t1 c1 f (ds.drop i) env2 = some (ys2, e) ∧ acc ++ ys2 = ys, ⟨ds.length, rfl, G1, wipeD own e0, [], g1, Gr.refl, En, ys, by simpa using hlc, rfl⟩, ?_⟩
        rintro i m H2 ⟨rfl, G2, env2, acc, ga, gb, E2, ys2, hys, hacc⟩
        obtain ⟨a, vs, ea, ha, ra, fa, ga0, Eh⟩ := E2.hide
        cases ea
        obtain ⟨hstop, hgo⟩ := hJ i G2 H2 gb.s Eh.wd.sub
        by_cases hi : i < ds.length
        · right
          rw [List.drop_eq_getElem_cons hi] at hys
          obtain ⟨jg, jy⟩ := hgo ds[i] (List.getElem?_eq_getElem hi)
          unfold lc2L at hys
          split at hys
          · cases hys
          · rename_i e3 h3
            refine ⟨jg, fun H' => ∃ G3 env3 acc3, Gr F G G3 ∧ Gr F G1 G3 ∧ EnvR K F TP G3 H' (wipe σ own ++ [some (.ref Dd)]) (env3 ++ [.ow acc3]) ∧ ∃ ys3, lc2L own own1 t c it1 t1 c1 f (ds.drop (i + 1)) env3 = some (ys3, e) ∧ acc3 ++ ys3 = ys, fun H' hN => ⟨ds.length - (i + 1), by omega, rfl, hN⟩, fun x H' hy => ?_⟩
            obtain ⟨G3, x3, r3⟩ := jy x H' hy
            have g3 : Gr (upd F Dd (.lst vs)) G2 G3 := x3.gr Eh.wd.fr
            refine ⟨upd F Dd (.lst vs), G3, env2, _, e3, h3, Eh.ext x3, r3, fun σ4 k4 E4 => ?_⟩
            have hw4 : wipe σ4 own = wipe (wipe σ own) own := wipe_kp (by rw [wipe_length]; exact hl) k4
            have l4 : σ4.length = N := by rw [k4.1, wipe_length]; exact hl
            rw [wipe_wipe] at hw4
            refine ⟨hw4, ?_⟩
            split at hys
            · cases hys
            · rename_i e5 h5
              refine ⟨upd F Dd (.lst vs), G3, e3, _, _, h5, E4, fun G6 H6 g6 E6 => ?_⟩
              dsimp only
              rw [if_neg Bool.false_ne_true]
              have E7 := E6.wiped own
              rw [hw4] at E7
              obtain ⟨gg, hd5, E8⟩ := E7.unhide (vs' := vs) fa (g3.trans g6) ga0 (dpAllMono (g3.trans g6).s _ ra)
              rw [upd_id hd5] at E8
              exact ⟨G6, _, acc, ga.trans gg, gb.trans gg, E8, _, hys, hacc⟩
            · rename_i e5 h5
              refine ⟨upd F Dd (.lst vs), G3, e3, _, _, h5, E4, fun G6 H6 g6 E6 => ?_⟩
              dsimp only
              rw [if_pos rfl]
              split at hys
              · cases hys
              · rename_i ds1 e7 h7
                split at hys
                · cases hys
                · rename_i zs e8 h8
                  split at hys
                  · cases hys
                  · rename_i ws e9 h9
                    cases hys
                    refine ⟨upd F Dd (.lst vs), G6, e5, _, _, h7, E6, fun J1 G7 H7 g7 E7 hJ1 => ?_⟩
                    refine inner_of l4 fa ga0 ((g3.trans g6).trans g7) E7 hJ1 (dpAllMono ((g3.trans g6).trans g7).s _ ra) h8 ?_ fun G8 H8 g8 E8 => ?_
                    · have h11 : (acc ++ (zs ++ ws)).length ≤ sizeLine := by rw [hacc]; exact hz
                      simp only [List.length_append] at h11 ⊢
                      omega
                    · obtain ⟨a8, vs8, ea8, ha8, ra8, fa8, ga8, Eh8⟩ := E8.hide
                      cases ea8
                      have E9 := Eh8.wiped own
                      rw [wipe_sub hs, hw4] at E9
                      obtain ⟨gg, hd9, E10⟩ := E9.unhide (vs' := vs8) fa8 Gr.refl ga8 ra8
                      rw [upd_id hd9] at E10
                      exact ⟨G8, _, acc ++ zs, ga.trans g8, gb.trans g8, E10, ws, h9, by rw [List.append_assoc]; exact hacc⟩
        · left
          rw [List.drop_of_length_le (by omega)] at hys
          cases hys
          rw [List.append_nil] at hacc
          subst hacc
          refine ⟨hstop (by omega), q _ G2 H2 ga ?_⟩
          have Er := Eh.rested (e := e) E1 hno gb.s
          obtain ⟨gg, hd, Eu⟩ := Er.unhide (vs' := vs) fa Gr.refl ga0 ra
          rw [upd_id hd] at Eu
          exact Eu
      · cases hf
    · cases hf
  · cases hf
section
variable {X : Cx} {TP : List Addr} {elt tg iter tg1 iter1 : Expr} {ifs ifs1 : List Expr} {scope : Scope} {pos : Pos} {own : List (Str × Nat)} {own1 : List Nat} {it it1 : AF} {t t1 : TF} {c c1 : BF} {f : EF}
theorem o_lc2 (hc : X.calm = true) (hN : X.N.Nodup) (hi : PI' X TP tg iter it) (ok : BlkOk X.N X.env.scope scope own)
    (hg : ∀ (s : Shared) (H : Hp) (C : Addr) (cl : List (Str × Addr)) (fp : List Addr), PT' (X.blk s H scope (compEnvC scope cl C X.env) fp) TP (Wc X.N.length (own.map (·.2))) tg t) (ht : ∀ (s : Shared) (H : Hp) (C : Addr) (cl : List (Str × Addr)) (fp : List Addr), PBs (X.blk s H scope (compEnvC scope cl C X.env) fp) TP ifs c)
    (hi1 : ∀ (s : Shared) (H : Hp) (C : Addr) (cl : List (Str × Addr)) (fp : List Addr), PI' (X.blk s H scope (compEnvC scope cl C X.env) fp) TP tg1 iter1 it1)
    (hg1 : ∀ (s : Shared) (H : Hp) (C : Addr) (cl : List (Str × Addr)) (fp : List Addr), PT' (X.blk s H scope (compEnvC scope cl C X.env) fp) TP (Wc X.N.length own1) tg1 t1) (ht1 : ∀ (s : Shared) (H : Hp) (C : Addr) (cl : List (Str × Addr)) (fp : List Addr), PBs (X.blk s H scope (compEnvC scope cl C X.env) fp) TP ifs1 c1)
    (he : ∀ (s : Shared) (H : Hp) (C : Addr) (cl : List (Str × Addr)) (fp : List Addr), PD (X.blk s H scope (compEnvC scope cl C X.env) fp) TP elt f) (hv : ∀ i ∈ own1, i ∈ own.map (·.2) := by decide) (hs : ∀ x, foldedSetIterable iter X.env x = pure x := by intro _; rfl) (hs1 : ∀ env x, foldedSetIterable iter1 env x = pure x := by intro _ _; rfl) :
    PO X TP (.ListComp elt [⟨tg, iter, ifs, 0⟩, ⟨tg1, iter1, ifs1, 0⟩] scope pos) (oLc2 (own.map (·.2)) own1 it t c it1 t1 c1 f) :=
  ⟨PE.at (pe_lc2 (g := tG X.K TP (Wc X.N.length (own.map (·.2))) t) (tt := tB' X.K TP c) (wi1 := tI X.K TP it1) (g1 := tG X.K TP (Wc X.N.length own1) t1) (tt1 := tB' X.K TP c1) (te := tD X.K TP f) hc hN hi.pi ok hv (fun s H C cl fp => (hg s H C cl fp).pg) (fun s H C cl fp => (ht s H C cl fp).pts) (fun s H C cl fp => (hi1 s H C cl fp).pi) (fun s H C cl fp => (hg1 s H C cl fp).pg) (fun s H C cl fp => (ht1 s H C cl fp).pts) (fun s H C cl fp => (he s H C cl fp).pe) hs hs1) fun σ H Q hl h => tLc2_of hl hv h⟩
theorem s_setLc2 {W : List Nat} (i : Nat) {y : Str} {py spos : Pos} (hc : X.calm = true) (hN : X.N.Nodup) (hsw : swapsWith (.ListComp elt [⟨tg, iter, ifs, 0⟩, ⟨tg1, iter1, ifs1, 0⟩] scope pos) (some (.Name y py)) spos.line X.env = pure true) (hi : PI' X TP tg iter it) (ok : BlkOk X.N X.env.scope scope own)
    (hg : ∀ (s : Shared) (H : Hp) (C : Addr) (cl : List (Str × Addr)) (fp : List Addr), PT' (X.blk s H scope (compEnvC scope cl C X.env) fp) TP (Wc X.N.length (own.map (·.2))) tg t) (ht : ∀ (s : Shared) (H : Hp) (C : Addr) (cl : List (Str × Addr)) (fp : List Addr), PBs (X.blk s H scope (compEnvC scope cl C X.env) fp) TP ifs c)
    (hi1 : ∀ (s : Shared) (H : Hp) (C : Addr) (cl : List (Str × Addr)) (fp : List Addr), PI' (X.blk s H scope (compEnvC scope cl C X.env) fp) TP tg1 iter1 it1)
    (hg1 : ∀ (s : Shared) (H : Hp) (C : Addr) (cl : List (Str × Addr)) (fp : List Addr), PT' (X.blk s H scope (compEnvC scope cl C X.env) fp) TP (Wc X.N.length own1) tg1 t1) (ht1 : ∀ (s : Shared) (H : Hp) (C : Addr) (cl : List (Str × Addr)) (fp : List Addr), PBs (X.blk s H scope (compEnvC scope cl C X.env) fp) TP ifs1 c1)
    (he : ∀ (s : Shared) (H : Hp) (C : Addr) (cl : List (Str × Addr)) (fp : List Addr), PD (X.blk s H scope (compEnvC scope cl C X.env) fp) TP elt f) (hw : i ∉ W := by decide) (hy : X.N[i]? = some y := by rfl) (hyl : X.env.scope.names.lookup y = some .local := by rfl) (hv : ∀ i ∈ own1, i ∈ own.map (·.2) := by decide) (hs : ∀ x, foldedSetIterable iter X.env x = pure x := by intro _; rfl) (hs1 : ∀ env x, foldedSetIterable iter1 env x = pure x := by intro _ _; rfl) :
    PSD X TP W (.Assign [.Name y py] (.ListComp elt [⟨tg, iter, ifs, 0⟩, ⟨tg1, iter1, ifs1, 0⟩] scope pos) spos) (sSet i (oLc2 (own.map (·.2)) own1 it t c it1 t1 c1 f)) := by
  refine ⟨PS.at (ps_setLc2 (g := tG X.K TP (Wc X.N.length (own.map (·.2))) t) (tt := tB' X.K TP c) (wi1 := tI X.K TP it1) (g1 := tG X.K TP (Wc X.N.length own1) t1) (tt1 := tB' X.K TP c1) (te := tD X.K TP f) hc hN hy hyl hsw hi.pi ok hv (fun s H C cl fp => (hg s H C cl fp).pg) (fun s H C cl fp => (ht s H C cl fp).pts) (fun s H C cl fp => (hi1 s H C cl fp).pi) (fun s H C cl fp => (hg1 s H C cl fp).pg) (fun s H C cl fp => (ht1 s H C cl fp).pts) (fun s H C cl fp => (he s H C cl fp).pe) hs hs1) fun D σ H hl ⟨F, G, env, s, env', hf, E, q⟩ => ?_⟩
  obtain ⟨cc, e1, h1, hf⟩ := bnd_inv hf
  split at hf
  · rename_i hi
    cases hf
    exact tLc2_of hl hv ⟨F, G, env, cc, e1, h1, E, fun v G1 H1 g1 E1 => q _ G1 H1 (Kp.set hw) g1 (E1.move hi)⟩
  · cases hf
end
end DL
namespace DL
open PySem PySem.Spec PyProof.Rows L2

/-! ### keys of dicts -/
inductive DKey where
  | one (k : Key)
  | tup (ks : List Key)
  deriving DecidableEq
def skey : D → Option Key
  | .int i => some (.inl i)
  | .str x => some (.inr x)
  | _ => none
def skeys : List D → Option (List Key)
  | [] => some []
  | d :: ds => match skey d, skeys ds with
    | some k, some ks => some (k :: ks)
    | _, _ => none
def dkey : D → Option DKey
  | .tuple ds => (skeys ds).map .tup
  | .int i => some (.one (.inl i))
  | .str x => some (.one (.inr x))
  | _ => none
def isOne (d : D) : Bool := match dkey d with
  | some (.one _) => true
  | _ => false
def isTup (d : D) : Bool := match dkey d with
  | some (.tup _) => true
  | _ => false
def find (kvs : List (D × D)) (k : DKey) : Option D := (kvs.find? fun p => decide (dkey p.1 = some k)).map (·.2)
/-- what the dict holds at k -/
def look (kvs : List (D × D)) (k : DKey) : Option (Option D) := match k with
  | .one _ => if (kvs.all fun p => isOne p.1) = true then some (find kvs k) else none
  | .tup _ => if (kvs.all fun p => isTup p.1) = true then some (find kvs k) else none
theorem dkey_kD (k : Key) : dkey (kD k) = some (.one k) := by cases k <;> rfl
theorem skey_kD (k : Key) : skey (kD k) = some k := by cases k <;> rfl
theorem skeys_kD : ∀ ks : List Key, skeys (ks.map kD) = some ks
  | [] => rfl
  | k :: ks => by
    simp only [List.map_cons, skeys, skey_kD, skeys_kD ks]
theorem dkey_kDT (ks : List Key) : dkey (kDT ks) = some (.tup ks) := by
  show (skeys (ks.map kD)).map DKey.tup = _
  rw [skeys_kD]; rfl
theorem dkey_ints (ks : List Int) : dkey (.tuple (ks.map .int)) = some (.tup (ks.map .inl)) := by
  have : (ks.map PyData.int) = (ks.map (Sum.inl : Int → Key)).map kD := by rw [List.map_map]; rfl
  show (skeys (ks.map PyData.int)).map DKey.tup = _
  rw [this, skeys_kD]; rfl
theorem skey_inv {d : D} {k : Key} (h : skey d = some k) : d = kD k := by
  cases d <;> simp [skey] at h <;> subst h <;> rfl
theorem skeys_inv : ∀ {ds : List D} {ks : List Key}, skeys ds = some ks → ds = ks.map kD
  | [], _, h => by cases h; rfl
  | d :: ds, ks, h => by
    unfold skeys at h
    split at h
    · rename_i k ks' h1 h2
      cases h
      rw [skey_inv h1, skeys_inv h2]; rfl
    · cases h
theorem dkey_inv {d : D} {k : DKey} (h : dkey d = some k) : (∃ j, k = .one j ∧ d = kD j) ∨ ∃ js, k = .tup js ∧ d = kDT js := by
  cases d with
  | int i => cases h; exact .inl ⟨.inl i, rfl, rfl⟩
  | str x => cases h; exact .inl ⟨.inr x, rfl, rfl⟩
  | tuple ds =>
    simp only [dkey, Option.map_eq_some_iff] at h
    obtain ⟨js, h1, h2⟩ := h
    subst h2
    exact .inr ⟨js, rfl, by rw [skeys_inv h1]; rfl⟩
  | _ => cases h

/-! ### the object -/
inductive RpS (K : PySem.W.Frag) (G : Hp) : List (Key × Value) → List (D × D) → Prop
  | nil : RpS K G [] []
  | cons {k : Key} {u : Value} {v : V} {d : D} {vs : List (Key × Value)} {ds : List (D × D)} : RelV v u → Dq K G v d → RpS K G vs ds → RpS K G ((k, u) :: vs) ((kD k, d) :: ds)
inductive RpT (K : PySem.W.Frag) (G : Hp) : List (List Key × Addr × Value) → List (D × D) → Prop
  | nil : RpT K G [] []
  | cons {k : List Key} {b : Addr} {u : Value} {v : V} {d : D} {vs : List (List Key × Addr × Value)} {ds : List (D × D)} : RelV v u → Dq K G v d → RpT K G vs ds → RpT K G ((k, b, u) :: vs) ((kDT k, d) :: ds)
theorem rpS_find {K : PySem.W.Frag} {G : Hp} (k : Key) : ∀ {vs : List (Key × Value)} {ds : List (D × D)}, RpS K G vs ds → match find ds (.one k) with
    | some d => ∃ u v, valueAt vs k = some u ∧ RelV v u ∧ Dq K G v d
    | none => valueAt vs k = none
  | _, _, .nil => rfl
  | _, _, .cons (k := j) (u := u) (v := v) (d := d) (vs := vs) (ds := ds) r q t => by
    have ih := rpS_find k t
    unfold find valueAt at ih ⊢
    by_cases e : j = k
    · subst e
      simp only [List.find?_cons, dkey_kD, decide_true, Option.map_some]
      exact ⟨u, v, rfl, r, q⟩
    · have e' : ¬ (some (DKey.one j) = some (.one k)) := fun z => e (by cases z; rfl)
      simp only [List.find?_cons, dkey_kD, e, e', decide_false]
      exact ih
theorem rpT_find {K : PySem.W.Frag} {G : Hp} (k : List Key) : ∀ {vs : List (List Key × Addr × Value)} {ds : List (D × D)}, RpT K G vs ds → match find ds (.tup k) with
    | some d => ∃ b u v, atKey vs k = some (b, u) ∧ RelV v u ∧ Dq K G v d
    | none => atKey vs k = none
  | _, _, .nil => rfl
  | _, _, .cons (k := j) (b := b) (u := u) (v := v) (d := d) (vs := vs) (ds := ds) r q t => by
    have ih := rpT_find k t
    unfold find atKey at ih ⊢
    by_cases e : j = k
    · subst e
      simp only [List.find?_cons, dkey_kDT, decide_true, Option.map_some]
      exact ⟨b, u, v, rfl, r, q⟩
    · have e' : ¬ (some (DKey.tup j) = some (.tup k)) := fun z => e (by cases z; rfl)
      simp only [List.find?_cons, dkey_kDT, e, e', decide_false]
      exact ih
theorem rpS_of {K : PySem.W.Frag} {G : Hp} : ∀ {vs : List (Key × V)} {us : List (Key × Value)} {ds : List (D × D)}, KV vs us → DqKv K G (vs.map fun p => (kD p.1, p.2)) ds → RpS K G us ds
  | [], _, _, h, r => by cases h; cases r; exact .nil
  | (k, v) :: vs, _, _, h, r => by
    cases h with
    | @cons p q ps qs hq t =>
      obtain ⟨k', u⟩ := q
      obtain ⟨e, ru⟩ := hq
      cases e
      cases r with
      | cons rd rr => exact .cons ru rd (rpS_of t rr)
theorem rpT_of {K : PySem.W.Frag} {G H : Hp} : ∀ {vs : List (List Key × V)} {us : List (List Key × Addr × Value)} {ds : List (D × D)}, KT H vs us → DqKv K G (vs.map fun p => (kDT p.1, p.2)) ds → RpT K G us ds
  | [], _, _, h, r => by cases h; cases r; exact .nil
  | (k, v) :: vs, _, _, h, r => by
    cases h with
    | @cons p q ps qs hq t =>
      obtain ⟨k', b, u⟩ := q
      obtain ⟨e, _, ru⟩ := hq
      cases e
      cases r with
      | cons rd rr => exact .cons ru rd (rpT_of t rr)
theorem rpX_of {K : PySem.W.Frag} {G : Hp} : ∀ {xs : List (List Int × Addr × Value)} {ds : List (D × D)}, DqX K G xs ds → RpT K G (xs.map fun x => (x.1.map Sum.inl, x.2)) ds
  | [], _, r => by cases r; exact .nil
  | (k, b, u) :: vs, _, r => by
    cases r with
    | cons q ru rd rr =>
      have : (PyData.tuple (k.map .int)) = kDT (k.map Sum.inl) := by
        unfold kDT; rw [List.map_map]; rfl
      rw [this]
      exact .cons ru rd (rpX_of rr)
theorem one_T {K : PySem.W.Frag} {G : Hp} : ∀ {vs : List (List Key × Addr × Value)} {ds : List (D × D)}, RpT K G vs ds → (ds.all fun p => isOne p.1) = true → vs = [] ∧ ds = []
  | _, _, .nil, _ => ⟨rfl, rfl⟩
  | _, _, .cons _ _ _, h => by simp [isOne, dkey_kDT] at h
theorem tup_S {K : PySem.W.Frag} {G : Hp} : ∀ {vs : List (Key × Value)} {ds : List (D × D)}, RpS K G vs ds → (ds.all fun p => isTup p.1) = true → vs = [] ∧ ds = []
  | _, _, .nil, _ => ⟨rfl, rfl⟩
  | _, _, .cons _ _ _, h => by simp [isTup, dkey_kD] at h
section
variable {X : Cx} {pins : List (Addr × Obj)} {σ : L2.St} {H G : Hp} {s : Shared}
theorem key_sq (I : L2.Inv X pins σ H s) {b : Addr} {ks : List Key} (h : SqT X.K H b (ks.map kV)) : (tupleKind (mixKind X.prog X.w)).is s.heap ks b := by
  obtain ⟨its, r, ⟨o, h1, h2, n, h3⟩, _⟩ := I.tuple h
  exact ⟨o, its.toArray, n, h1, h2, h3, by simpa using items_are r⟩
theorem empty_S {h : Heap} {a : Addr} (x : h.DictOfH (tupleKind (mixKind X.prog X.w)) a []) : h.DictOf (mixKind X.prog X.w) a [] := by
  obtain ⟨o, es, ep, h1, h2, h3, h4, _⟩ := x
  have : es = #[] := by
    apply Array.ext'
    simpa using h4
  subst this
  exact ⟨o, #[], ep, h1, h2, h3, fun e he => by simp at he, .nil, List.nodup_nil⟩
theorem empty_T {h : Heap} {a : Addr} (x : h.DictOf (mixKind X.prog X.w) a []) : h.DictOfH (tupleKind (mixKind X.prog X.w)) a [] := by
  obtain ⟨o, es, ep, h1, h2, h3, _, h4, _⟩ := x
  have : es.toList = [] := by
    cases h5 : es.toList with
    | nil => rfl
    | cons a b => rw [h5] at h4; cases h4
  exact ⟨o, es, ep, h1, h2, h3, by rw [this]; rfl, fun x hx => (by cases hx), List.nodup_nil⟩
theorem inl_inj : ∀ {a b : List Int}, a.map (Sum.inl : Int → Key) = b.map Sum.inl → a = b
  | [], [], _ => rfl
  | [], _ :: _, h => by simp at h
  | _ :: _, [], h => by simp at h
  | x :: a, y :: b, h => by
    simp only [List.map_cons, List.cons.injEq] at h
    rw [Sum.inl.inj h.1, inl_inj h.2]
theorem dict_at (I : L2.Inv X pins σ H s) (sg : Same G H) {a : Addr} {kvs : List (D × D)} (r : Dq X.K G (.ref a) (.dict kvs)) :
    (a == sysModules) = false ∧ kvs.length ≤ sizeLine ∧ ((∃ vs, s.heap.DictOf (mixKind X.prog X.w) a vs ∧ RpS X.K G vs kvs) ∨ ∃ xs, s.heap.DictOfH (tupleKind (mixKind X.prog X.w)) a xs ∧ RpT X.K G xs kvs) := by
  have lS : ∀ {vs : List (Key × Value)} {ds : List (D × D)}, RpS X.K G vs ds → vs.length = ds.length := by
    intro vs ds h; induction h with
    | nil => rfl
    | cons _ _ _ ih => simp [ih]
  have lT : ∀ {vs : List (List Key × Addr × Value)} {ds : List (D × D)}, RpT X.K G vs ds → vs.length = ds.length := by
    intro vs ds h; induction h with
    | nil => rfl
    | cons _ _ _ ih => simp [ih]
  cases r with
  | dK q rr =>
    obtain ⟨z, lo, vs, rel, dd⟩ := dk_of I.hok (sg _ _ q)
    have := rpS_of rel rr
    exact ⟨lo, by rw [← lS this, ← rel.length]; exact z, .inl ⟨vs, dd, this⟩⟩
  | dT q rr =>
    obtain ⟨z, lo, xs, rel, dd⟩ := dt_of I.hok (sg _ _ q)
    have := rpT_of rel rr
    exact ⟨lo, by rw [← lT this, ← Paired.length rel]; exact z, .inr ⟨xs, dd, this⟩⟩
  | @dX _ o xs _ q ob rr =>
    have := rpX_of rr
    refine ⟨ob.lo, by rw [← lT this, List.length_map]; exact ob.sz, .inr ⟨_, ?_, this⟩⟩
    have hg : s.heap.get? a = some o := (I.hok a _ (sg _ _ q)).1
    obtain ⟨es, ep, h3, h4⟩ := ob.da
    refine ⟨o, es, ep, hg, ob.ex, h3, ?_, ?_, ?_⟩
    · rw [h4, List.map_map]
      apply List.map_congr_left
      rintro ⟨ks, b, u⟩ _
      simp only [Function.comp, entryOfKey, tupleKind, tupleKeyHash, mixKind, intKH, List.map_map]
      rfl
    · have all : ∀ {l : List (List Int × Addr × Value)} {m : List (D × D)}, DqX X.K G l m → ∀ x ∈ l, SqT X.K G x.2.1 (x.1.map V.int) := by
        intro l m q
        induction l generalizing m with
        | nil => intro x hx; cases hx
        | cons p ps ih =>
          cases q with
          | cons h1 h2 h3 h4 =>
            intro x hx
            rcases List.mem_cons.mp hx with e | hx
            · subst e; exact h1
            · exact ih h4 x hx
      intro x hx
      obtain ⟨y, hy, rfl⟩ := List.mem_map.mp hx
      refine key_sq I ?_
      have := sameT sg (all rr y hy)
      rw [List.map_map]
      exact this
    · rw [List.map_map]
      have : ((fun x : List Key × Addr × Value => x.1) ∘ fun x : List Int × Addr × Value => (x.1.map Sum.inl, x.2)) = (List.map Sum.inl) ∘ (·.1) := rfl
      rw [this, ← List.map_map]
      exact List.Pairwise.map _ (fun a b hab h => hab (inl_inj h)) ob.nd
/-- y in d, d[y], as they stand -/
theorem dict_S (I : L2.Inv X pins σ H s) (sg : Same G H) {a : Addr} {kvs : List (D × D)} (r : Dq X.K G (.ref a) (.dict kvs)) (h : (kvs.all fun p => isOne p.1) = true) :
    (a == sysModules) = false ∧ ∃ vs, s.heap.DictOf (mixKind X.prog X.w) a vs ∧ RpS X.K G vs kvs := by
  obtain ⟨lo, _, ⟨vs, dd, rr⟩ | ⟨xs, dd, rr⟩⟩ := dict_at I sg r
  · exact ⟨lo, vs, dd, rr⟩
  · obtain ⟨e1, e2⟩ := one_T rr h
    subst e1 e2
    exact ⟨lo, [], empty_S dd, .nil⟩
theorem dict_T (I : L2.Inv X pins σ H s) (sg : Same G H) {a : Addr} {kvs : List (D × D)} (r : Dq X.K G (.ref a) (.dict kvs)) (h : (kvs.all fun p => isTup p.1) = true) :
    (a == sysModules) = false ∧ ∃ xs, s.heap.DictOfH (tupleKind (mixKind X.prog X.w)) a xs ∧ RpT X.K G xs kvs := by
  obtain ⟨lo, _, ⟨vs, dd, rr⟩ | ⟨xs, dd, rr⟩⟩ := dict_at I sg r
  · obtain ⟨e1, e2⟩ := tup_S rr h
    subst e1 e2
    exact ⟨lo, [], empty_T dd, .nil⟩
  · exact ⟨lo, xs, dd, rr⟩
theorem dq_one {x : V} {j : Key} (r : Dq X.K G x (kD j)) : x = kV j := by cases j <;> (cases r; rfl)
theorem dq_ones : ∀ {js : List Key} {xs : List V}, DqAll X.K G xs (js.map kD) → xs = js.map kV
  | [], _, .nil => rfl
  | j :: js, _, .cons a b => by rw [dq_one a, dq_ones b]; rfl
theorem dq_tupk {x : V} {js : List Key} (r : Dq X.K G x (kDT js)) : ∃ b, x = .ref b ∧ SqT X.K G b (js.map kV) := by
  cases r with
  | tup q r => exact ⟨_, rfl, by rw [← dq_ones r]; exact q⟩
end
/-! ### y in d, y not in d -/
def rInDict (K : PySem.W.Frag) (neg : Bool) : R2 := fun x y H Q => ∃ G d kvs k r, Same G H ∧ Dq K G x d ∧ Dq K G y (.dict kvs) ∧ dkey d = some k ∧ look kvs k = some r ∧ Q (.bl (if neg then !r.isSome else r.isSome)) H
theorem op_inDict {X : Cx} (hu : X.A.units + 1 < cLine) : OpR X (compareOp .In) (rInDict X.K false) := by
  intro pins s σ H x y v u Q I rx ry h
  obtain ⟨G, d, kvs, k, r, sg, hd, hc, hk, hl, q⟩ := h
  obtain ⟨a, ea⟩ : ∃ a, y = .ref a := by cases hc <;> exact ⟨_, rfl⟩
  subst ea
  obtain rfl : u = Value.ref a := ry
  rcases dkey_inv hk with ⟨j, rfl, rfl⟩ | ⟨js, rfl, rfl⟩
  · have := dq_one hd
    subst this
    simp only [look] at hl
    split at hl
    · rename_i hall
      cases hl
      obtain ⟨lo, vs, dd, rr⟩ := dict_S I sg hc hall
      refine wpAny_in_of (kV_is rx) lo dd.mapOf ⟨.bl _, H, I.tok _, rfl, ?_⟩
      have := rpS_find j rr
      cases e : find kvs (.one j) with
      | none => rw [e] at this q; rw [this]; exact q
      | some d => rw [e] at this q; obtain ⟨u, v, h1, _, _⟩ := this; rw [h1]; exact q
    · cases hl
  · obtain ⟨b, eb, qb⟩ := dq_tupk hd
    subst eb
    obtain rfl : v = Value.ref b := rx
    simp only [look] at hl
    split at hl
    · rename_i hall
      cases hl
      obtain ⟨lo, vs, dd, rr⟩ := dict_T I sg hc hall
      refine wpAny_in_heap (tupleKind_room_in1 hu) (key_sq I (sameT sg qb)) lo dd ⟨.bl _, H, I.tok _, rfl, ?_⟩
      have := rpT_find js rr
      cases e : find kvs (.tup js) with
      | none => rw [e] at this q; rw [this]; exact q
      | some d => rw [e] at this q; obtain ⟨b, u, v, h1, _, _⟩ := this; rw [h1]; exact q
    · cases hl
theorem op_notInDict {X : Cx} (hu : X.A.units + 1 < cLine) : OpR X (compareOp .NotIn) (rInDict X.K true) := by
  intro pins s σ H x y v u Q I rx ry h
  obtain ⟨G, d, kvs, k, r, sg, hd, hc, hk, hl, q⟩ := h
  obtain ⟨a, ea⟩ : ∃ a, y = .ref a := by cases hc <;> exact ⟨_, rfl⟩
  subst ea
  obtain rfl : u = Value.ref a := ry
  rcases dkey_inv hk with ⟨j, rfl, rfl⟩ | ⟨js, rfl, rfl⟩
  · have := dq_one hd
    subst this
    simp only [look] at hl
    split at hl
    · rename_i hall
      cases hl
      obtain ⟨lo, vs, dd, rr⟩ := dict_S I sg hc hall
      refine wpAny_notIn_of (kV_is rx) lo dd.mapOf ⟨.bl _, H, I.tok _, rfl, ?_⟩
      have := rpS_find j rr
      cases e : find kvs (.one j) with
      | none => rw [e] at this q; rw [this]; exact q
      | some d => rw [e] at this q; obtain ⟨u, v, h1, _, _⟩ := this; rw [h1]; exact q
    · cases hl
  · obtain ⟨b, eb, qb⟩ := dq_tupk hd
    subst eb
    obtain rfl : v = Value.ref b := rx
    simp only [look] at hl
    split at hl
    · rename_i hall
      cases hl
      obtain ⟨lo, vs, dd, rr⟩ := dict_T I sg hc hall
      refine wpAny_notIn_heap (tupleKind_room_in1 hu) (key_sq I (sameT sg qb)) lo dd ⟨.bl _, H, I.tok _, rfl, ?_⟩
      have := rpT_find js rr
      cases e : find kvs (.tup js) with
      | none => rw [e] at this q; rw [this]; exact q
      | some d => rw [e] at this q; obtain ⟨b, u, v, h1, _, _⟩ := this; rw [h1]; exact q
    · cases hl
def gInC (d c : D) : Option Bool := match c with
  | .dict kvs => match dkey d with
    | some k => (look kvs k).map (·.isSome)
    | none => none
  | c => gIn d c
def gNotInC (d c : D) : Option Bool := (gInC d c).map (!·)
theorem gInC_dict {d : D} {kvs : List (D × D)} {k : Bool} (h : gInC d (.dict kvs) = some k) : ∃ j r, dkey d = some j ∧ look kvs j = some r ∧ k = r.isSome := by
  unfold gInC at h
  dsimp only at h
  split at h
  · rename_i j hj
    simp only [Option.map_eq_some_iff] at h
    obtain ⟨r, h1, h2⟩ := h
    exact ⟨j, r, hj, h1, h2.symm⟩
  · cases h
theorem op_inC {X : Cx} (hu : X.A.units + 65 < cLine) : OpR X (compareOp .In) (fun x y H Q => rInA X.K false x y H Q ∨ rInDict X.K false x y H Q) := OpR.or (op_inA hu) (op_inDict (by omega))
theorem op_notInC {X : Cx} (hu : X.A.units + 65 < cLine) : OpR X (compareOp .NotIn) (fun x y H Q => rInA X.K true x y H Q ∨ rInDict X.K true x y H Q) := OpR.or (op_notInA hu) (op_notInDict (by omega))
theorem ob_inC {K : PySem.W.Frag} : OpB K (fun x y H Q => rInA K false x y H Q ∨ rInDict K false x y H Q) gInC := by
  intro G H x y a b k Q h s ra rb q
  cases b with
  | dict kvs =>
    obtain ⟨j, r, h1, h2, h3⟩ := gInC_dict h
    subst h3
    exact .inr ⟨G, a, kvs, j, r, s, ra, rb, h1, h2, q⟩
  | _ => exact .inl (ob_in (by simpa [gInC] using h) s ra rb q)
theorem ob_notInC {K : PySem.W.Frag} : OpB K (fun x y H Q => rInA K true x y H Q ∨ rInDict K true x y H Q) gNotInC := by
  intro G H x y a b k Q h s ra rb q
  cases b with
  | dict kvs =>
    simp only [gNotInC, Option.map_eq_some_iff] at h
    obtain ⟨k', h, h4⟩ := h
    subst h4
    obtain ⟨j, r, h1, h2, h3⟩ := gInC_dict h
    subst h3
    exact .inr ⟨G, a, kvs, j, r, s, ra, rb, h1, h2, q⟩
  | _ => exact .inl (ob_notIn (by simpa [gNotInC, gNotIn, gInC] using h) s ra rb q)

/-! ### d[y] -/
def rIxDict (K : PySem.W.Frag) : R2 := fun y x H Q => ∃ G d kvs k r v, Same G H ∧ Dq K G x d ∧ Dq K G y (.dict kvs) ∧ dkey d = some k ∧ look kvs k = some (some r) ∧ (∀ v, Dq K G v r → Q v H) ∧ v = y
theorem ix_dict {X : Cx} (hu : X.A.units + 1 < cLine) : IxR X (rIxDict X.K) := by
  intro ve se pins s σ H x y v u Q I rx ry h hs
  obtain ⟨G, d, kvs, k, r, v', sg, hd, hc, hk, hl, q, ev⟩ := h
  subst ev
  obtain ⟨a, ea⟩ : ∃ a, v' = .ref a := by cases hc <;> exact ⟨_, rfl⟩
  subst ea
  obtain rfl : v = Value.ref a := rx
  rcases dkey_inv hk with ⟨j, rfl, rfl⟩ | ⟨js, rfl, rfl⟩
  · have := dq_one hd
    subst this
    simp only [look] at hl
    split at hl
    · rename_i hall
      simp only [Option.some.injEq] at hl
      obtain ⟨lo, vs, dd, rr⟩ := dict_S I sg hc hall
      have := rpS_find j rr
      rw [hl] at this
      obtain ⟨u', v', h1, h2, h3⟩ := this
      exact tail_any dd.typeIs slot_dict_getitem.lookup (wpAny_getItem_of (kV_is ry) dd.mapOf h1 ⟨v', H, I.tok _, h2, q _ h3⟩) hs
    · cases hl
  · obtain ⟨b, eb, qb⟩ := dq_tupk hd
    subst eb
    obtain rfl : u = Value.ref b := ry
    simp only [look] at hl
    split at hl
    · rename_i hall
      simp only [Option.some.injEq] at hl
      obtain ⟨lo, vs, dd, rr⟩ := dict_T I sg hc hall
      have := rpT_find js rr
      rw [hl] at this
      obtain ⟨b', u', v', h1, h2, h3⟩ := this
      exact tail_any dd.typeIs slot_dict_getitem.lookup (wpAny_getItem_heap (tupleKind_room_in1 hu) (key_sq I (sameT sg qb)) dd h1 ⟨v', H, I.tok _, h2, q _ h3⟩) hs
    · cases hl
def gIxC (c d : D) : Option D := match c with
  | .dict kvs => match dkey d with
    | some k => match look kvs k with
      | some (some r) => some r
      | _ => none
    | none => none
  | c => gIx c d
theorem ix_C {X : Cx} (hu : X.A.units + 1 < cLine) : IxR X (fun x y H Q => rIx X.K x y H Q ∨ rIxDict X.K x y H Q) := by
  intro ve se pins s σ H x y v u Q I rx ry h hs
  rcases h with h | h
  · exact ix_seq ve se pins s σ H x y v u Q I rx ry h hs
  · exact ix_dict hu ve se pins s σ H x y v u Q I rx ry h hs
theorem od_ixC {K : PySem.W.Frag} : OpD K (fun x y H Q => rIx K x y H Q ∨ rIxDict K x y H Q) gIxC := by
  intro G H x y a b d Q h s ra rb q
  cases a with
  | dict kvs =>
    unfold gIxC at h
    dsimp only at h
    split at h
    · rename_i k hk
      split at h
      · rename_i r hr
        cases h
        exact .inr ⟨G, b, kvs, k, _, x, s, rb, ra, hk, hr, fun v rv => q v G H (Ext.refl s) rv, rfl⟩
      · cases h
    · cases h
  | _ => exact .inl (od_ix (by simpa [gIxC] using h) s ra rb q)
end DL
namespace DL
open PySem PySem.Spec PyProof.Rows L2

/-! ### a look at a list that stays one's own -/
def isSc : D → Bool
  | .none => true
  | .bool _ => true
  | .int _ => true
  | .str _ => true
  | _ => false
theorem dq_sc {K : PySem.W.Frag} {G G' : Hp} {v : V} {d : D} (h : isSc d = true) (r : Dq K G v d) : Dq K G' v d := by
  cases r <;> first | exact .non | exact .bl _ | exact .int _ | exact .str _ | cases h
def peek (i : Nat) (env : DEnv) : Option D := match env[i]? with
  | some (.sh d) => some d
  | some (.ow ds) => some (.list ds)
  | _ => none
theorem EnvR.peek {K : PySem.W.Frag} {F : Hp} {TP : List Addr} {G H : Hp} {σ : Sl} {env : DEnv} {i : Nat} {d : D} (E : EnvR K F TP G H σ env) (h : peek i env = some d) :
    ∃ x G', σ[i]? = some (some x) ∧ Same G G' ∧ Same G' H ∧ Dq K G' x d ∧ ∀ H' G2, Ext G' H G2 H' → EnvR K F TP G H' σ env := by
  unfold DL.peek at h
  split at h
  · rename_i d' h'
    cases h
    obtain ⟨x, e, r⟩ := E.get h'
    exact ⟨x, G, e, Same.refl _, E.wd.sub, r, fun H' G2 x => E.ext ⟨x.h, Same.refl _, E.wd.sub.trans x.h, fun b u q => .inl q⟩⟩
  · rename_i ds h'
    cases h
    obtain ⟨G', a, gr, e, E', r⟩ := E.freeze h'
    exact ⟨.ref a, G', e, gr.s, E'.wd.sub, r, fun H' G2 x => E.ext ⟨x.h, Same.refl _, E.wd.sub.trans x.h, fun b u q => .inl q⟩⟩
  · cases h
section
variable {X : Cx} {TP : List Addr} {a b e : Expr} {f : EF} {p pos px : Pos}
/-- a built-in of one name: g's answer is plain -/
def fPk1 (i : Nat) (g : List D → Option D) : EF := fun env => match peek i env with
  | some d => match g [d] with
    | some r => if isSc r = true then some (r, env) else none
    | none => none
  | none => none
theorem d_pk1 (i : Nat) {y : Str} {id : String} {x : Str} {r : List V → Hp → VK → Prop} {g : List D → Option D} (hc : CallR X (.builtin id) r) (hd : CallD X.K r g) (hm : X.mg x = none) (hv : bootBuiltins x = some (.builtin id)) (hg : Gl X x := by rfl) (hn : x ≠ "__name__" := by decide) (hdb : (x == ("__debug__" : Str)) = false := by decide)
    (hN : X.N[i]? = some y := by rfl) (hvy : Vis X.env.scope y := by first | exact Or.inl rfl | exact Or.inr (Or.inl rfl) | exact Or.inr (Or.inr rfl)) (hdy : (y == ("__debug__" : Str)) = false := by decide) (hcy : (y == ("__classdict__" : Str)) = false := by decide)
    (he : starEach [.Name y px] X.env = (false, eval (.Name y px) X.env) :: starEach [] X.env := by rfl) (hpl : (backTo pos (starEach [] X.env)).any (·.1) = false := by rfl) : PD X TP (.Call (.Name x p) [.Name y px] [] pos) (fPk1 i g) := by
  refine ⟨(pe_callB hc hg hm hv (pa_cons (pe_var (pos := px) hN hvy hdy hcy) pa_nil he) hn hdb he hpl).imp fun σ H Q ⟨F, G, env, d, env', hf, E, q⟩ => ?_⟩
  unfold fPk1 at hf
  split at hf
  · rename_i d1 h1
    split at hf
    · rename_i r1 h2
      split at hf
      · rename_i hs
        cases hf
        obtain ⟨v, G', ev, s1, s2, rv, k⟩ := E.peek h1
        refine ⟨v, ev, hd h2 s2 (.cons rv .nil) fun v2 G2 H2 x r2 => ?_⟩
        exact q v2 G H2 Gr.refl (k H2 G2 x) (dq_sc hs r2)
      · cases hf
    · cases hf
  · cases hf
/-- name op b; the answer is plain -/
def fPkL (i : Nat) (g : D → D → Option D) (fb : EF) : EF := fun env => match peek i env with
  | some _ => bnd (fb env) fun b e1 => match peek i e1 with
    | some d => match g d b with
      | some r => if isSc r = true then some (r, e1) else none
      | none => none
    | none => none
  | none => none
def fPkR (i : Nat) (g : D → D → Option D) (fa : EF) : EF := fun env => bnd (fa env) fun a e1 => match peek i e1 with
    | some d => match g a d with
      | some r => if isSc r = true then some (r, e1) else none
      | none => none
    | none => none
theorem pkL_T (i : Nat) {r : R2} {g : D → D → Option D} (hd : OpD X.K r g) {t : TE} {fb : EF} (w : PE X e t) (ht : t = tOp r (tVar i) (tD X.K TP fb)) : PD X TP e (fPkL i g fb) := by
  subst ht
  refine ⟨w.imp fun σ H Q ⟨F, G, env, d, env', hf, E, q⟩ => ?_⟩
  unfold fPkL at hf
  split at hf
  · rename_i d0 h0
    obtain ⟨b1, e1, h1, hf⟩ := bnd_inv hf
    split at hf
    · rename_i d1 h2
      split at hf
      · rename_i r1 h3
        split at hf
        · rename_i hs
          cases hf
          obtain ⟨v, G', ev, s1, s2, rv, k⟩ := E.peek h0
          refine ⟨v, ev, F, G, env, b1, _, h1, E, fun u G1 H1 g1 E1 ru => ?_⟩
          obtain ⟨v', G2, ev', s3, s4, rv', k'⟩ := E1.peek h2
          rw [ev] at ev'; cases ev'
          exact hd h3 s4 rv' (dpMono s3 _ ru) fun v2 G3 H3 x r2 => q v2 G1 H3 g1 (k' H3 G3 x) (dq_sc hs r2)
        · cases hf
      · cases hf
    · cases hf
  · cases hf
theorem pkR_T (i : Nat) {r : R2} {g : D → D → Option D} (hd : OpD X.K r g) {t : TE} {fa : EF} (w : PE X e t) (ht : t = tOp r (tD X.K TP fa) (tVar i)) : PD X TP e (fPkR i g fa) := by
  subst ht
  refine ⟨w.imp fun σ H Q ⟨F, G, env, d, env', hf, E, q⟩ => ?_⟩
  unfold fPkR at hf
  obtain ⟨a1, e1, h1, hf⟩ := bnd_inv hf
  split at hf
  · rename_i d1 h2
    split at hf
    · rename_i r1 h3
      split at hf
      · rename_i hs
        cases hf
        refine ⟨F, G, env, a1, _, h1, E, fun u G1 H1 g1 E1 ru => ?_⟩
        obtain ⟨v', G2, ev', s3, s4, rv', k'⟩ := E1.peek h2
        exact ⟨v', ev', hd h3 s4 (dpMono s3 _ ru) rv' fun v2 G3 H3 x r2 => q v2 G1 H3 g1 (k' H3 G3 x) (dq_sc hs r2)⟩
      · cases hf
    · cases hf
  · cases hf
theorem d_pkL (i : Nat) {op : CmpOp} {r : R2} {gg : D → D → Option Bool} {y : Str} {fb : EF} (ho : OpR X (compareOp op) r) (hd : OpB X.K r gg) (hb : PD X TP b fb) (hm : behindInMarks op b = false := by first | exact nobehind _ (by decide) (by decide) | rfl)
    (hN : X.N[i]? = some y := by rfl) (hvy : Vis X.env.scope y := by first | exact Or.inl rfl | exact Or.inr (Or.inl rfl) | exact Or.inr (Or.inr rfl)) (hdy : (y == ("__debug__" : Str)) = false := by decide) (hcy : (y == ("__classdict__" : Str)) = false := by decide) :
    PD X TP (.Compare (.Name y px) [op] [b] pos) (fPkL i (fun x z => (gg x z).map .bool) fb) := pkL_T i (opB_D hd) (pe_cmpR ho (pe_var (pos := px) hN hvy hdy hcy) hb.pe hm) rfl
theorem d_pkR (i : Nat) {op : CmpOp} {r : R2} {gg : D → D → Option Bool} {y : Str} {fa : EF} (ho : OpR X (compareOp op) r) (hd : OpB X.K r gg) (ha : PD X TP a fa) (hm : behindInMarks op (.Name y px) = false := by first | exact nobehind _ (by decide) (by decide) | rfl)
    (hN : X.N[i]? = some y := by rfl) (hvy : Vis X.env.scope y := by first | exact Or.inl rfl | exact Or.inr (Or.inl rfl) | exact Or.inr (Or.inr rfl)) (hdy : (y == ("__debug__" : Str)) = false := by decide) (hcy : (y == ("__classdict__" : Str)) = false := by decide) :
    PD X TP (.Compare a [op] [.Name y px] pos) (fPkR i (fun x z => (gg x z).map .bool) fa) := pkR_T i (opB_D hd) (pe_cmpR ho ha.pe (pe_var (pos := px) hN hvy hdy hcy) hm) rfl
/-- name[b] -/
def fPkIx (i : Nat) (fb : EF) : EF := fun env => match peek i env with
  | some _ => bnd (fb env) fun b e1 => match peek i e1 with
    | some (.list ds) => match b with
      | .int j => match atI ds j with
        | some r => some (r, e1)
        | none => none
      | _ => none
    | some d => match gIx d b with
      | some r => if isSc r = true then some (r, e1) else none
      | none => none
    | none => none
  | none => none
theorem d_pkIx (i : Nat) {y : Str} {fb : EF} (hb : PD X TP b fb) (hs : PlainIx b := by exact fun _ _ => rfl)
    (hN : X.N[i]? = some y := by rfl) (hvy : Vis X.env.scope y := by first | exact Or.inl rfl | exact Or.inr (Or.inl rfl) | exact Or.inr (Or.inr rfl)) (hdy : (y == ("__debug__" : Str)) = false := by decide) (hcy : (y == ("__classdict__" : Str)) = false := by decide) :
    PD X TP (.Subscript (.Name y px) b pos) (fPkIx i fb) := by
  refine ⟨(pe_ix ix_seq (pe_var (pos := px) hN hvy hdy hcy) hb.pe hs).imp fun σ H Q ⟨F, G, env, d, env', hf, E, q⟩ => ?_⟩
  unfold fPkIx at hf
  split at hf
  · rename_i d0 h0
    obtain ⟨b1, e1, h1, hf⟩ := bnd_inv hf
    obtain ⟨v, G', ev, s1, s2, rv, k⟩ := E.peek h0
    refine ⟨v, ev, F, G, env, b1, _, h1, E, fun u G1 H1 g1 E1 ru => ?_⟩
    split at hf
    · rename_i ds h2
      split at hf
      · rename_i j
        split at hf
        · rename_i r hr
          cases hf
          cases ru
          unfold peek at h2
          split at h2
          · rename_i d' h'
            cases h2
            obtain ⟨x, e, r⟩ := E1.get h'
            rw [ev] at e; cases e
            cases r with
            | lst qa ra =>
              obtain ⟨w, hw, rw'⟩ := atI_dq ra hr
              exact .inl ⟨_, _, j, w, rfl, rfl, E1.wd.sub.seq qa, hw, q w G1 H1 g1 E1 rw'⟩
          · rename_i ds' h'
            cases h2
            obtain ⟨a, xs, e, ha, ra⟩ := E1.at_ow h'
            rw [ev] at e; cases e
            obtain ⟨w, hw, rw'⟩ := atI_dq ra hr
            exact .inl ⟨_, _, j, w, rfl, rfl, .inl (.inl ha), hw, q w G1 H1 g1 E1 rw'⟩
          · cases h2
        · cases hf
      · cases hf
    · rename_i d2 h2 hn
      split at hf
      · rename_i r hr
        split at hf
        · rename_i hs
          cases hf
          obtain ⟨v', G2, ev', s3, s4, rv', k'⟩ := E1.peek hn
          rw [ev] at ev'; cases ev'
          exact od_ix hr s4 rv' (dpMono s3 _ ru) fun v2 G3 H3 x r2 => q v2 G1 H3 g1 (k' H3 G3 x) (dq_sc hs r2)
        · cases hf
      · cases hf
    · cases hf
  · cases hf
/-- a test that is a plain truth value -/
theorem b_ofD (ha : PD X TP e f) (he : ∀ whole, isTrue e X.env whole = (do let v ← whole; standAt e.pos; holding [v] (truthy v)) := by intro _; rfl) : PB X TP e (bVal f) := b_val ha he
def bPkL (i : Nat) (g : D → D → Option Bool) (fb : EF) : BF := fun env => match peek i env with
  | some _ => bnd (fb env) fun b e1 => match peek i e1 with
    | some d => out (g d b) e1
    | none => none
  | none => none
def bPkR (i : Nat) (g : D → D → Option Bool) (fa : EF) : BF := fun env => bnd (fa env) fun a e1 => match peek i e1 with
    | some d => out (g a d) e1
    | none => none
theorem b_pkL (i : Nat) {op : CmpOp} {r : R2} {gg : D → D → Option Bool} {y : Str} {fb : EF} (ho : OpR X (compareOp op) r) (hd : OpB X.K r gg) (hb : PD X TP b fb) (hm : behindInMarks op b = false := by first | exact nobehind _ (by decide) (by decide) | rfl)
    (hN : X.N[i]? = some y := by rfl) (hvy : Vis X.env.scope y := by first | exact Or.inl rfl | exact Or.inr (Or.inl rfl) | exact Or.inr (Or.inr rfl)) (hdy : (y == ("__debug__" : Str)) = false := by decide) (hcy : (y == ("__classdict__" : Str)) = false := by decide) :
    PB X TP (.Compare (.Name y px) [op] [b] pos) (bPkL i gg fb) := by
  refine ⟨(pt_cmpR ho (pe_var (pos := px) hN hvy hdy hcy) hb.pe hm).imp fun σ H Q ⟨F, G, env, d, env', hf, E, q⟩ => ?_⟩
  unfold bPkL at hf
  split at hf
  · rename_i d0 h0
    obtain ⟨b1, e1, h1, hf⟩ := bnd_inv hf
    split at hf
    · rename_i d1 h2
      obtain ⟨v, G', ev, s1, s2, rv, k⟩ := E.peek h0
      refine ⟨v, ev, F, G, env, b1, _, h1, E, fun u G1 H1 g1 E1 ru => ?_⟩
      obtain ⟨v', G2, ev', s3, s4, rv', k'⟩ := E1.peek h2
      rw [ev] at ev'; cases ev'
      obtain ⟨h3, h4⟩ := out_inv hf
      cases h4
      exact hd h3 s4 rv' (dpMono s3 _ ru) ⟨_, rfl, q G1 H1 g1 E1⟩
    · cases hf
  · cases hf
theorem b_pkR (i : Nat) {op : CmpOp} {r : R2} {gg : D → D → Option Bool} {y : Str} {fa : EF} (ho : OpR X (compareOp op) r) (hd : OpB X.K r gg) (ha : PD X TP a fa) (hm : behindInMarks op (.Name y px) = false := by first | exact nobehind _ (by decide) (by decide) | rfl)
    (hN : X.N[i]? = some y := by rfl) (hvy : Vis X.env.scope y := by first | exact Or.inl rfl | exact Or.inr (Or.inl rfl) | exact Or.inr (Or.inr rfl)) (hdy : (y == ("__debug__" : Str)) = false := by decide) (hcy : (y == ("__classdict__" : Str)) = false := by decide) :
    PB X TP (.Compare a [op] [.Name y px] pos) (bPkR i gg fa) := by
  refine ⟨(pt_cmpR ho ha.pe (pe_var (pos := px) hN hvy hdy hcy) hm).imp fun σ H Q ⟨F, G, env, d, env', hf, E, q⟩ => ?_⟩
  unfold bPkR at hf
  obtain ⟨a1, e1, h1, hf⟩ := bnd_inv hf
  split at hf
  · rename_i d1 h2
    refine ⟨F, G, env, a1, _, h1, E, fun u G1 H1 g1 E1 ru => ?_⟩
    obtain ⟨v', G2, ev', s3, s4, rv', k'⟩ := E1.peek h2
    obtain ⟨h3, h4⟩ := out_inv hf
    cases h4
    exact ⟨v', ev', hd h3 s4 (dpMono s3 _ ru) rv' ⟨_, rfl, q G1 H1 g1 E1⟩⟩
  · cases hf
end
end DL
namespace DL
open PySem PySem.Spec PyProof.Rows L2

theorem boot_len : bootBuiltins "len" = some (.builtin "len") := by decide +kernel
theorem boot_isinstance : bootBuiltins "isinstance" = some (.builtin "isinstance") := by decide +kernel
theorem boot_int : bootBuiltins "int" = some (.type "int") := by decide +kernel
theorem boot_bool : bootBuiltins "bool" = some (.type "bool") := by decide +kernel
theorem boot_str : bootBuiltins "str" = some (.type "str") := by decide +kernel
theorem boot_list : bootBuiltins "list" = some (.type "list") := by decide +kernel
theorem boot_tuple : bootBuiltins "tuple" = some (.type "tuple") := by decide +kernel
theorem boot_dict : bootBuiltins "dict" = some (.type "dict") := by decide +kernel
theorem boot_abs : bootBuiltins "abs" = some (.builtin "abs") := by decide +kernel
theorem boot_min : bootBuiltins "min" = some (.builtin "min") := by decide +kernel
theorem boot_max : bootBuiltins "max" = some (.builtin "max") := by decide +kernel
theorem boot_sum : bootBuiltins "sum" = some (.builtin "sum") := by decide +kernel
theorem boot_all : bootBuiltins "all" = some (.builtin "all") := by decide +kernel
theorem boot_any : bootBuiltins "any" = some (.builtin "any") := by decide +kernel
theorem boot_sorted : bootBuiltins "sorted" = some (.builtin "sorted") := by decide +kernel

/-- def_ok, the numbers told -/
theorem def_ok2 {P : Program} {w : World} {K : PySem.W.Frag} {mg : Str → Option Value} {base : Heap} {x qual : Str} {st : Stmt} {f : Addr} {fd : FuncData} {cdv : Value} {k : Nat} {TP : List Addr} {b : SF} (N ps : List Str) (n m : Nat) (W : List Nat) (Fn : CF) (F : FunC K x qual st f fd cdv) (S : FnScope N ps (defScope st))
    (hF : Fn = defF n m W b) (hn : ps.length = n) (hm : N.length - ps.length = m)
    (hb : ∀ (A : Around) (outer : List Env) (s : Shared) (H : Hp) (E : XK), Room k (bx P w K mg base N qual st f cdv A outer s H E).A → PSsD (bx P w K mg base N qual st f cdv A outer s H E) TP W (defBody st) b) :
    FnOk P w K mg base (L2.CX P w) (k + 1) f fd ps (SpD K TP Fn) := by
  subst hF hn hm
  exact def_ok F S hb
/-! a comprehension's names, told by lists -/
def blkB (N : List Str) (sc scope : Scope) (own : List (Str × Nat)) : Bool := decide (scope.kind = .function) && (scope.names.all fun y => decide (scope.names.lookup y.1 = some y.2)) && (own.all fun p => decide (N[p.2]? = some p.1)) &&
  (scope.names.all fun y => !decide (y.2 = .free) || decide (sc.names.lookup y.1 = some .cell) || decide (sc.names.lookup y.1 = some .free)) && scope.names.all fun y => !(decide (y.2 = .local) || decide (y.2 = .cell)) || (own.map (·.1)).contains y.1 || !N.contains y.1
theorem blkB_ok {N : List Str} {sc scope : Scope} {own : List (Str × Nat)} (h : blkB N sc scope own = true) : BlkOk N sc scope own := by
  unfold blkB at h
  simp only [Bool.and_eq_true, decide_eq_true_eq, List.all_eq_true, Bool.or_eq_true, Bool.not_eq_true', decide_eq_false_iff_not] at h
  obtain ⟨⟨⟨⟨h1, h2⟩, h3⟩, h4⟩, h5⟩ := h
  refine ⟨h1, h2, h3, fun y hy e => ?_, fun y hy e => ?_⟩
  · rcases h4 y hy with (h | h) | h
    · exact absurd e h
    · exact .inl h
    · exact .inr h
  · rcases h5 y hy with (h | h) | h
    · simp only [Bool.or_eq_false_iff, decide_eq_false_iff_not] at h
      rcases e with e | e
      · exact absurd e h.1
      · exact absurd e h.2
    · exact .inl (by simpa using h)
    · exact .inr (by simpa using h)
theorem blk_ok {X : Cx} {scope : Scope} (N : List Str) (sc : Scope) (own : List (Str × Nat)) (hN : X.N = N) (hs : X.env.scope = sc) (h : blkB N sc scope own = true) : BlkOk X.N X.env.scope scope own := by
  rw [hN, hs]; exact blkB_ok h
def gokB (N : List Str) (sc scope : Scope) (own : List (Str × Nat)) : Bool := decide (scope.isCoroutine = false) && (scope.names.all fun y => !decide (y.2 = .cell)) && decide (scope.names.lookup (".0" : Str) = some NameKind.local) && blkB N sc scope own
theorem gok_ok {X : Cx} {scope : Scope} (N : List Str) (sc : Scope) (own : List (Str × Nat)) (hN : X.N = N) (hs : X.env.scope = sc) (h : gokB N sc scope own = true) : GE.GOk X.N X.env.scope scope own := by
  rw [hN, hs]
  unfold gokB at h
  simp only [Bool.and_eq_true, decide_eq_true_eq, List.all_eq_true, Bool.not_eq_true', decide_eq_false_iff_not] at h
  exact ⟨h.1.1.1, h.1.1.2, h.1.2, blkB_ok h.2⟩
theorem hu0 {k : Nat} {A : Around} (r : Room k A) : A.units < cLine := by have := r.un; omega
theorem hu1 {k : Nat} {A : Around} (r : Room k A) : A.units + 1 < cLine := by have := r.un; omega
theorem hu64 {k : Nat} {A : Around} (r : Room k A) : A.units + 64 < cLine := by have := r.un; omega
theorem hu65 {k : Nat} {A : Around} (r : Room k A) : A.units + 65 < cLine := by have := r.un; omega
theorem hu67 {k : Nat} {A : Around} (r : Room k A) : A.units + 67 < cLine := by have := r.un; omega
/-- a def that is not called so deep -/
theorem fn_never {P : Program} {w : World} {K : PySem.W.Frag} {mg : Str → Option Value} {base : Heap} {CX : CXT} {k : Nat} {f : Addr} {fd : FuncData} {ps : List Str} {TP : List Addr} : FnOk P w K mg base CX k f fd ps (SpD K TP fun _ => none) :=
  ⟨fun vs H Q E ⟨_, _, _, _, _, h, _⟩ => (by cases h), fun A outer s H args us vs Q E _ _ _ _ ⟨_, _, _, _, _, h, _⟩ => (by cases h)⟩
section
variable {X : Cx} {TP : List Addr} {a b c e : Expr} {es : List Expr} {f fa fb fc : EF} {p pos cpos apos : Pos}
theorem d_gint {x : Str} {i : Int} (hg : Gl X x) (hm : ∃ t, X.mg x = some (.int i t)) (hd : (x == ("__debug__" : Str)) = false := by decide) : PD X TP (.Name x pos) (fC (.int i)) := by
  obtain ⟨t, ht⟩ := hm
  exact d_c (v := .int i) (pe_glob hg ht (show RelV (.int i) (.int i t) from ⟨t, rfl⟩) hd) fun _ => .int i
/-! is, is not, of truth values -/
def gIsB : D → D → Option Bool
  | .bool a, .bool b => some (decide (a = b))
  | _, _ => none
def gNotB : D → D → Option Bool
  | .bool a, .bool b => some (!decide (a = b))
  | _, _ => none
theorem ob_isB {K : PySem.W.Frag} : OpB K (fun x y H Q => ∃ a b, x = .bl a ∧ y = .bl b ∧ Q (.bl (decide (a = b))) H) gIsB := by
  intro G H x y a b k Q h s ra rb q
  cases ra <;> cases rb <;> simp [gIsB] at h
  subst h
  exact ⟨_, _, rfl, rfl, q⟩
theorem ob_notB {K : PySem.W.Frag} : OpB K (fun x y H Q => ∃ a b, x = .bl a ∧ y = .bl b ∧ Q (.bl (!decide (a = b))) H) gNotB := by
  intro G H x y a b k Q h s ra rb q
  cases ra <;> cases rb <;> simp only [gNotB, Option.some.injEq, reduceCtorEq] at h
  rw [← h] at q
  exact ⟨_, _, rfl, rfl, q⟩
def gAddI : D → D → Option D
  | .int i, .int j => some (.int (i + j))
  | _, _ => none
theorem id_add {K : PySem.W.Frag} : OpD K (ipI fun i j => i + j) gAddI := by
  intro G H x y a b d Q h s ra rb q
  cases ra <;> cases rb <;> simp [gAddI] at h
  subst h
  exact ⟨_, _, rfl, rfl, q _ G H (Ext.refl s) (.int _)⟩

/-! ### dict([(k, v), ..]) -/
def putD (kvs : List (Key × D)) (k : Key) (v : D) : List (Key × D) :=
  if (kvs.any fun kv => decide (kv.1 = k)) = true then kvs.map (fun kv => if kv.1 = k then (kv.1, v) else kv) else kvs ++ [(k, v)]
def mergeD (kvs more : List (Key × D)) : List (Key × D) := more.foldl (fun acc kv => putD acc kv.1 kv.2) kvs
def pairsD : List D → Option (List (Key × D))
  | [] => some []
  | .tuple [k, v] :: r => match skey k, pairsD r with
    | some k, some r => some ((k, v) :: r)
    | _, _ => none
  | _ => none
def dictD (kvs : List (Key × D)) : D := .dict (kvs.map fun p => (kD p.1, p.2))
def gDictP : D → Option D
  | .list xs => (pairsD xs).map fun kvs => dictD (mergeD [] kvs)
  | _ => none
theorem kvR_any {K : PySem.W.Frag} {G : Hp} (k : Key) : ∀ {vs : List (Key × V)} {ds : List (Key × D)}, KvR K G vs ds → (vs.any fun kv => decide (kv.1 = k)) = ds.any fun kv => decide (kv.1 = k)
  | [], [], _ => rfl
  | (_, _) :: _, (_, _) :: _, ⟨h1, _, h3⟩ => by
    subst h1
    simp only [List.any_cons, kvR_any k h3]
theorem kvR_map {K : PySem.W.Frag} {G : Hp} (k : Key) {v : V} {d : D} (r : Dq K G v d) : ∀ {vs : List (Key × V)} {ds : List (Key × D)}, KvR K G vs ds → KvR K G (vs.map fun kv => if kv.1 = k then (kv.1, v) else kv) (ds.map fun kv => if kv.1 = k then (kv.1, d) else kv)
  | [], [], _ => trivial
  | (k1, _) :: _, (_, _) :: _, ⟨h1, h2, h3⟩ => by
    subst h1
    simp only [List.map_cons]
    by_cases e : k1 = k
    · rw [if_pos e, if_pos e]; exact ⟨rfl, r, kvR_map k r h3⟩
    · rw [if_neg e, if_neg e]; exact ⟨rfl, h2, kvR_map k r h3⟩
theorem kvR_app {K : PySem.W.Frag} {G : Hp} : ∀ {vs vs' : List (Key × V)} {ds ds' : List (Key × D)}, KvR K G vs ds → KvR K G vs' ds' → KvR K G (vs ++ vs') (ds ++ ds')
  | [], _, [], _, _, h => h
  | (_, _) :: _, _, (_, _) :: _, _, ⟨h1, h2, h3⟩, h => ⟨h1, h2, kvR_app h3 h⟩
theorem kvR_put {K : PySem.W.Frag} {G : Hp} {vs : List (Key × V)} {ds : List (Key × D)} (h : KvR K G vs ds) (k : Key) {v : V} {d : D} (r : Dq K G v d) : KvR K G (putK vs k v) (putD ds k d) := by
  unfold putK putD
  rw [kvR_any k h]
  split
  · exact kvR_map k r h
  · exact kvR_app h ⟨rfl, r, trivial⟩
theorem kvR_merge {K : PySem.W.Frag} {G : Hp} : ∀ {ms : List (Key × V)} {ns : List (Key × D)} {vs : List (Key × V)} {ds : List (Key × D)}, KvR K G ms ns → KvR K G vs ds → KvR K G (mergeK vs ms) (mergeD ds ns)
  | [], [], _, _, _, h => h
  | (k1, _) :: _, (_, _) :: _, _, _, ⟨h1, h2, h3⟩, h => by
    subst h1
    have := kvR_merge h3 (kvR_put h k1 h2)
    exact this
theorem kvR_dq {K : PySem.W.Frag} {G : Hp} : ∀ {vs : List (Key × V)} {ds : List (Key × D)}, KvR K G vs ds → DqKv K G (vs.map fun p => (kD p.1, p.2)) (ds.map fun p => (kD p.1, p.2))
  | [], [], _ => .nil
  | (_, _) :: _, (_, _) :: _, ⟨h1, h2, h3⟩ => by
    subst h1
    exact .cons h2 (kvR_dq h3)
theorem dq_one' {K : PySem.W.Frag} {G : Hp} {x : V} {j : Key} (r : Dq K G x (kD j)) : x = kV j := by cases j <;> (cases r; rfl)
theorem pairsD_of {K : PySem.W.Frag} {G H : Hp} (s : Same G H) : ∀ {vs : List V} {ds : List D} {kvs : List (Key × D)}, DqAll K G vs ds → pairsD ds = some kvs → ∃ (ps : List Addr) (kv : List (Key × V)), vs = ps.map V.ref ∧ Paired (fun p q => SqT K H p [kV q.1, q.2]) ps kv ∧ KvR K G kv kvs
  | _, _, _, .nil, h => by cases h; exact ⟨[], [], rfl, .nil, trivial⟩
  | _, _, kvs, .cons (d := d) (ds := ds) ra rb, h => by
    unfold pairsD at h
    split at h
    · rename_i h0; cases h0
    · rename_i k v r h0
      cases h0
      split at h
      · rename_i k' r' h1 h2
        cases h
        obtain ⟨ps, kv, e1, e2, e3⟩ := pairsD_of s rb h2
        cases ra with
        | tup q ra =>
          cases ra with
          | cons r1 ra =>
            cases ra with
            | cons r2 ra =>
              cases ra
              rw [skey_inv h1] at r1
              have := dq_one' r1
              subst this
              subst e1
              exact ⟨_ :: ps, (k', _) :: kv, rfl, .cons (sameT s q) e2, rfl, r2, e3⟩
      · cases h
    · cases h
theorem cd_dictP {K : PySem.W.Frag} : CallD K (fun xs H Q => ∃ (a : Addr) (ps : List Addr) (kvs : List (Key × V)), xs = [.ref a] ∧ SqL K H a (ps.map V.ref) ∧ Paired (fun p kv => SqT K H p [kV kv.1, kv.2]) ps kvs ∧ ∀ p, H p = none → Q (.ref p) (upd H p (.dK (mergeK [] kvs)))) (g1 gDictP) := by
  intro G H xs as d Q h s r q
  cases r with
  | nil => cases h
  | cons ra rb =>
    cases rb with
    | cons _ _ => cases h
    | nil =>
      cases ra with
      | lst qa r =>
        rename_i a' xs' ds'
        simp only [g1, gDictP, Option.map_eq_some_iff] at h
        obtain ⟨kvs, h1, h2⟩ := h
        subst h2
        obtain ⟨ps, kv, e1, e2, e3⟩ := pairsD_of s r h1
        subst e1
        refine ⟨_, ps, kv, rfl, s.seq qa, e2, fun p hp => ?_⟩
        have x := Ext.new1 (o := .dK (mergeK [] kv)) s hp
        refine q _ _ _ x (.dK upd_same ?_)
        exact dpKvMono x.g _ (kvR_dq (kvR_merge e3 (vs := []) (ds := []) trivial))
      | _ => cases h
/-! ### d.get(k, x) -/
def gGet2 (d k x : D) : Option D := match d with
  | .dict kvs => match dkey k with
    | some j => match look kvs j with
      | some r => some (r.getD x)
      | none => none
    | none => none
  | _ => none
theorem gGet2_inv {d k x z : D} (h : gGet2 d k x = some z) : ∃ kvs j r, d = .dict kvs ∧ dkey k = some j ∧ look kvs j = some r ∧ z = r.getD x := by
  unfold gGet2 at h
  split at h
  · split at h
    · split at h
      · cases h; exact ⟨_, _, _, rfl, by assumption, by assumption, rfl⟩
      · cases h
    · cases h
  · cases h
def fGet2 (fa fb fc : EF) : EF := fun env => bnd (fa env) fun d e1 => bnd (fb e1) fun k e2 => bnd (fc e2) fun x e3 => out (gGet2 d k x) e3
theorem get2_q {A : Around} {E : Value → Shared → Prop} {pins : List (Addr × Obj)} {σ : L2.St} {H G : Hp} {s : Shared} {a : Addr} {kvs : List (D × D)} {y dv : V} {u du : Value} {k x : D} {j : DKey} {r : Option D} {Q : Value → Shared → Prop} (hu : A.units + 1 < cLine) (I : L2.Inv X pins σ H s) (sg : Same G H)
    (hd : Dq X.K G (.ref a) (.dict kvs)) (hk : Dq X.K G y k) (hx : Dq X.K G dv x) (ry : RelV y u) (rd : RelV dv du) (h1 : dkey k = some j) (h2 : look kvs j = some r)
    (h : ∀ w v s', L2.Inv X pins σ H s' → RelV v w → Dq X.K G v (r.getD x) → Q w s') : wpAny (model X.prog X.w) A (call (.builtin "dict.get") [.ref a, u, du]) Q E s := by
  rcases dkey_inv h1 with ⟨j, rfl, rfl⟩ | ⟨js, rfl, rfl⟩
  · have := dq_one hk
    subst this
    simp only [look] at h2
    split at h2
    · rename_i hall
      cases h2
      obtain ⟨lo, vs, dd, rr⟩ := dict_S I sg hd hall
      refine call_meetsIn PySem.F.slot_dict_get dd.typeIs PySem.F.entry_dict_get (PySem.F.args_dict_get_3 _ _ _) (meets_dict_get_default (mixKind X.prog X.w) a (kV_is ry) lo du) ⟨_, dd.mapOf, ?_⟩
      have := rpS_find j rr
      cases e : find kvs (.one j) with
      | none => rw [e] at this h; rw [this]; exact h _ _ _ (I.tok _) rd hx
      | some d => rw [e] at this h; obtain ⟨u, v, h1, h2, h3⟩ := this; rw [h1]; exact h _ _ _ (I.tok _) h2 h3
    · cases h2
  · obtain ⟨b, eb, qb⟩ := dq_tupk hk
    subst eb
    obtain rfl : u = Value.ref b := ry
    simp only [look] at h2
    split at h2
    · rename_i hall
      cases h2
      obtain ⟨lo, vs, dd, rr⟩ := dict_T I sg hd hall
      refine call_meetsIn PySem.F.slot_dict_get dd.typeIs PySem.F.entry_dict_get (PySem.F.args_dict_get_3 _ _ _) (meetsH_dict_get_default (tupleKind (mixKind X.prog X.w)) a b lo du) ⟨tupleKind_room_in1 hu, js, vs, key_sq I (sameT sg qb), dd, ?_⟩
      have := rpT_find js rr
      cases e : find kvs (.tup js) with
      | none => rw [e] at this h; rw [this]; exact h _ _ _ (I.tok _) rd hx
      | some d => rw [e] at this h; obtain ⟨b, u, v, h1, h2, h3⟩ := this; rw [h1]; exact h _ _ _ (I.tok _) h2 h3
    · cases h2
theorem dict_isD {pins : List (Addr × Obj)} {σ : L2.St} {H G : Hp} {s : Shared} (I : L2.Inv X pins σ H s) (sg : Same G H) {a : Addr} {kvs : List (D × D)} (r : Dq X.K G (.ref a) (.dict kvs)) : s.TypeIs (.ref a) "dict" ∧ ∀ b, Value.ref a = .ref b → ∃ ob, s.heap.get? b = some ob ∧ ob.dict = none := by
  obtain ⟨lo, _, ⟨vs, dd, rr⟩ | ⟨xs, dd, rr⟩⟩ := dict_at I sg r
  · refine ⟨dd.typeIs, fun b q => ?_⟩
    cases q
    obtain ⟨ob, _, _, h1, h2, _⟩ := dd
    exact ⟨ob, h1, h2.2.1⟩
  · refine ⟨dd.typeIs, fun b q => ?_⟩
    cases q
    obtain ⟨ob, _, _, h1, h2, _⟩ := dd
    exact ⟨ob, h1, h2.2.1⟩
theorem d_get2 {o e g : Expr} (hu : X.A.units + 1 < cLine) (ha : PD X TP o fa) (hb : PD X TP e fb) (hc : PD X TP g fc)
    (hbase : attributeBase o ("get" : Str) X.env (eval o X.env) = eval o X.env := by rfl)
    (hfew : ((backTo cpos (starEach [e, g] X.env)).all (fun x => !x.1) && (backToKw cpos (keywordEach [] X.env)).all (fun x => x.1.isSome)
      && decide (([e, g] : List Expr).length + ([] : List Keyword).length + (if ([] : List Keyword).isEmpty then 0 else 1) < 30)) = true := by rfl)
    (hline : (apos.endLine == cpos.line) = true := by rfl) (htr : backTo cpos (starEach [e, g] X.env) = [(false, eval e X.env), (false, eval g X.env)] := by rfl) :
    PD X TP (.Call (.Attribute o "get" apos) [e, g] [] cpos) (fGet2 fa fb fc) := by
  refine ⟨⟨fun pins s σ H Q I h => ?_⟩⟩
  obtain ⟨F, G, env, d, env', hf, E, q⟩ := h
  obtain ⟨d1, e1, h1, hf⟩ := bnd_inv hf
  obtain ⟨d2, e2, h2, hf⟩ := bnd_inv hf
  obtain ⟨d3, e3, h3, hf⟩ := bnd_inv hf
  obtain ⟨h4, h5⟩ := out_inv hf
  cases h5
  obtain ⟨kvs, j, r, rfl, hj, hr, rfl⟩ := gGet2_inv h4
  refine wpAny_Call_method hbase hfew hline PySem.F.plainAttrs_dict PySem.F.slot_dict_get PySem.F.type_dict_get (thn (ha.pe.run pins s σ H (fun v H1 => ∃ G1, Gr F G G1 ∧ EnvR X.K F TP G1 H1 σ e1 ∧ Dq X.K G1 v (.dict kvs)) I ⟨F, G, env, _, _, h1, E, fun v G1 H1 g1 E1 r1 => ⟨G1, g1, E1, r1⟩⟩) fun u s1 ⟨x, H1, I1, rx, G1, g1, E1, r1⟩ => ?_)
  obtain ⟨a, ea⟩ : ∃ a, x = .ref a := by cases r1 <;> exact ⟨_, rfl⟩
  subst ea
  obtain rfl : u = Value.ref a := rx
  obtain ⟨t1, t2⟩ := dict_isD I1 E1.wd.sub r1
  refine ⟨t1, t2, ?_⟩
  rw [htr]
  refine Calls.callWith_builtin rfl (Calls.evalArgs_plain (Calls.spliced_cons (thn (hb.pe.run pins s1 σ H1 (fun v H2 => ∃ G2, Gr F G1 G2 ∧ EnvR X.K F TP G2 H2 σ e2 ∧ Dq X.K G2 v d2) I1 ⟨F, G1, e1, _, _, h2, E1, fun v G2 H2 g2 E2 r2 => ⟨G2, g2, E2, r2⟩⟩) fun iv s2 ⟨y, H2, I2, ry, G2, g2, E2, r2⟩ =>
    Calls.spliced_cons (thn (hc.pe.run pins s2 σ H2 (fun v H3 => ∃ G3, Gr F G2 G3 ∧ EnvR X.K F TP G3 H3 σ _ ∧ Dq X.K G3 v d3) I2 ⟨F, G2, e2, _, _, h3, E2, fun v G3 H3 g3 E3 r3 => ⟨G3, g3, E3, r3⟩⟩) fun fv s3 ⟨z, H3, I3, rz, G3, g3, E3, r3⟩ => Calls.spliced_nil ?_))))
  exact get2_q hu I3 E3.wd.sub (dpMono (g2.trans g3).s _ r1) (dpMono g3.s _ r2) r3 ry rz hj hr fun w v s4 I4 rw' rd => ⟨v, H3, I4, rw', q v G3 H3 ((g1.trans g2).trans g3) E3 rd⟩
end
end DL
/-! zip over two iterators of any kind, for dict(): each told by its next -/
namespace DL
open PySem PySem.W RZ
open PySem.Sem (wp)
structure NxI (prog : Program) (w : World) (it l : Addr) (xs : Array Value) (St : Nat → Heap → Prop) : Prop where
  keep : ∀ {i : Nat} {h h' : Heap}, St i h → (∀ c o, c = it ∨ c = l → h.get? c = some o → h'.get? c = some o) → St i h'
  there : ∀ {i : Nat} {h : Heap}, St i h → (∃ o, h.get? it = some o) ∧ ∃ o, h.get? l = some o
  item : ∀ {A : Around} {E : Value → Shared → Prop} {s : Shared} {i : Nat} {x : Value} {Q : Value → Shared → Prop}, St i s.heap → xs[i]? = some x → (∀ h', St (i + 1) h' → Heap.SameBut it s.heap h' → Q x { s with heap := h' }) → wpAny (model prog w) A (Builtin.SmallTypes.nextOf (.ref it)) Q E s
  stop : ∀ {A : Around} {E : Value → Shared → Prop} {s : Shared} {i : Nat} {Q : Value → Shared → Prop}, A.handled = none → St i s.heap → xs[i]? = none → (∀ h' e, Heap.ExtBut it s.heap h' → (∃ o, h'.get? e = some o ∧ o.cls = .type "StopIteration") → E (.ref e) { s with heap := h' }) → wpAny (model prog w) A (Builtin.SmallTypes.nextOf (.ref it)) Q E s
theorem nx_list {prog : Program} {w : World} {it l : Addr} (hne : l ≠ it) (xs : Array Value) : NxI prog w it l xs (fun i h => h.IsListIter it l i ∧ h.IsList l xs) where
  keep := fun ⟨a, b⟩ k => ⟨a.at fun o e => k _ o (.inl rfl) e, b.at fun o e => k _ o (.inr rfl) e⟩
  there := fun ⟨⟨o, a, _⟩, ⟨o', b, _⟩⟩ => ⟨⟨o, a⟩, o', b⟩
  item := fun ⟨a, b⟩ hx h => wpAny_nextOf_list_item a b hx fun h' a' sb => h h' ⟨a', b.extBut sb.extBut hne⟩ sb
  stop := fun hh ⟨a, b⟩ hx h => wpAny_nextOf_list_end hh a b hx h
theorem nx_tup {prog : Program} {w : World} {it l : Addr} (hne : l ≠ it) (xs : Array Value) : NxI prog w it l xs (fun i h => h.IsTupleIter it l i ∧ h.IsTuple l xs) where
  keep := fun ⟨a, b⟩ k => ⟨a.at fun o e => k _ o (.inl rfl) e, b.at fun o e => k _ o (.inr rfl) e⟩
  there := fun ⟨⟨o, a, _⟩, ⟨o', b, _⟩⟩ => ⟨⟨o, a⟩, o', b⟩
  item := fun ⟨a, b⟩ hx h => nextOf_tuple_item a b hx fun h' a' sb => h h' ⟨a', b.extBut sb.extBut hne⟩ sb
  stop := fun hh ⟨a, b⟩ hx h => nextOf_tuple_end hh a b hx h
section
variable {prog : Program} {w : World} {A : Around} {E : Value → Shared → Prop} {s : Shared} {z TI TO T i1 i2 l1 l2 : Addr} {S1 S2 : Nat → Heap → Prop} {k1 k2 : Nat} {xs ys : Array Value} {x y a b : Value}
theorem NxI.but (N : NxI prog w i1 l1 xs S1) {h h' : Heap} {c : Addr} (st : S1 k1 h) (sb : Heap.SameBut c h h') (n1 : i1 ≠ c) (n2 : l1 ≠ c) : S1 k1 h' := N.keep st fun d o hd e => sb.extBut d o (by rcases hd with rfl | rfl; exact n1; exact n2) e
theorem zn_item {Q : Value → Shared → Prop} (D : ZipApart z TI TO i1 i2 l1 l2) (N1 : NxI prog w i1 l1 xs S1) (N2 : NxI prog w i2 l2 ys S2)
    (hz : IsZip s.heap z TI TO .none) (hTI : IsPair s.heap TI (.ref i1) (.ref i2)) (hTO : IsPair s.heap TO a b) (h1 : S1 k1 s.heap) (h2 : S2 k2 s.heap) (hx : xs[k1]? = some x) (hy : ys[k2]? = some y)
    (hQ : ∀ h', IsZip h' z TI TO (rawInt s.heap.objs.size) → IsPair h' TO x y → S1 (k1 + 1) h' → S2 (k2 + 1) h' → IsPair h' s.heap.objs.size x y → h'.objs.size = s.heap.objs.size + 1 →
      (∀ c o, c ≠ z → c ≠ TO → c ≠ i1 → c ≠ i2 → s.heap.get? c = some o → h'.get? c = some o) → Q (.ref s.heap.objs.size) { s with heap := h' }) :
    wpAny (model prog w) A (Builtin.«zip.__next__» ⟨[.ref z], []⟩) (fun fin s' => ∃ v, fin = .done (.ret v) ∧ Q v s') E s := by
  show wpAny _ _ (field (.ref z) 2 >>= _) _ _ _
  refine wpAny_bind (wpAny_field hz rfl (x := .bool false) rfl ?_)
  show wpAny _ _ (field (.ref z) 3 >>= _) _ _ _
  refine wpAny_bind (wpAny_field hz rfl (x := .ref TI) rfl ?_)
  refine wpAny_bind (wpAny_seqItems hTI rfl ?_)
  show wpAny _ _ (Builtin.SmallTypes.ownedTupleIsFree (.ref z) >>= _) _ _ _
  refine wpAny_bind ?_
  unfold Builtin.SmallTypes.ownedTupleIsFree
  refine wpAny_bind (wpAny_field hz rfl (x := .none) rfl (wpAny_pure ?_))
  simp only [if_true]
  refine wpAny_bind (wpAny_rule ?_)
  refine wpAny_bind (wpAny_field hz rfl (x := .ref TO) rfl ?_)
  refine wpAny_bind (wpAny_setField_rec hz (by simp) fun h₁ hz₁ hs₁ => ?_)
  replace hz₁ : IsZip h₁ z TI TO .ellipsis := hz₁
  refine wpAny_bind ?_
  simp only [List.zipIdx_cons, List.zipIdx_nil, List.forIn_cons, List.forIn_nil]
  refine wpAny_bind (wpAny_bind (wpAny_onRaise ?_))
  show wpAny _ _ (Builtin.SmallTypes.nextOf (.ref i1) >>= _) _ _ _
  refine wpAny_bind (N1.item (s := { s with heap := h₁ }) (N1.but h1 hs₁ D.i1z D.l1z) hx fun h₂ h1₂ hs₂ => wpAny_pure ?_)
  have h2₂ : S2 k2 h₂ := N2.but (N2.but h2 hs₁ D.i2z D.l2z) hs₂ D.i12.symm D.l2i1
  have hTO₂ : IsPair h₂ TO a b := hs₂.extBut _ _ D.TOi1 (hs₁.extBut _ _ D.TOz hTO)
  refine wpAny_bind (wpAny_seqItems hTO₂ rfl ?_)
  refine wpAny_bind (wpAny_updateSeq_pair hTO₂ fun h₃ hTO₃ hs₃ => ?_)
  replace hTO₃ : IsPair h₃ TO x b := hTO₃
  have h2₃ : S2 k2 h₃ := N2.but h2₂ hs₃ D.TOi2.symm D.l2TO
  have h1₃ : S1 (k1 + 1) h₃ := N1.but h1₂ hs₃ D.TOi1.symm D.l1TO
  refine wpAny_bind (wpAny_letGo (wpAny_pure ?_))
  refine wpAny_bind (wpAny_bind (wpAny_onRaise ?_))
  show wpAny _ _ (Builtin.SmallTypes.nextOf (.ref i2) >>= _) _ _ _
  refine wpAny_bind (N2.item (s := { s with heap := h₃ }) h2₃ hy fun h₄ h2₄ hs₄ => wpAny_pure ?_)
  have hTO₄ : IsPair h₄ TO x b := hs₄.extBut _ _ D.TOi2 hTO₃
  refine wpAny_bind (wpAny_seqItems hTO₄ rfl ?_)
  refine wpAny_bind (wpAny_updateSeq_pair hTO₄ fun h₅ hTO₅ hs₅ => ?_)
  replace hTO₅ : IsPair h₅ TO x y := hTO₅
  refine wpAny_bind (wpAny_letGo (wpAny_pure (wpAny_pure ?_)))
  refine wpAny_bind (wpAny_seqItems hTO₅ rfl ?_)
  refine wpAny_bind (wpAny_newTuple ?_)
  have hsz : h₅.objs.size = s.heap.objs.size := by rw [hs₅.1, hs₄.1, hs₃.1, hs₂.1, hs₁.1]
  have hz₅ : IsZip h₅ z TI TO .ellipsis := hs₅.extBut _ _ D.TOz.symm (hs₄.extBut _ _ D.i2z.symm (hs₃.extBut _ _ D.TOz.symm (hs₂.extBut _ _ D.i1z.symm hz₁)))
  have hk₅ : ∀ c o, c ≠ z → c ≠ TO → c ≠ i1 → c ≠ i2 → s.heap.get? c = some o → h₅.get? c = some o := fun c o c1 c2 c3 c4 e =>
    hs₅.extBut _ _ c2 (hs₄.extBut _ _ c4 (hs₃.extBut _ _ c2 (hs₂.extBut _ _ c3 (hs₁.extBut _ _ c1 e))))
  have h1₅ : S1 (k1 + 1) h₅ := N1.but (N1.but h1₃ hs₄ D.i12 D.l1i2) hs₅ D.TOi1.symm D.l1TO
  have h2₅ : S2 (k2 + 1) h₅ := N2.but h2₄ hs₅ D.TOi2.symm D.l2TO
  have hzlt : z < h₅.objs.size := Heap.lt_size hz₅
  have hTOlt : TO < h₅.objs.size := Heap.lt_size hTO₅
  show wpAny _ _ (Builtin.SmallTypes.ownedTupleHandOut (.ref z) (.ref h₅.objs.size) >>= _) _ _ _
  refine wpAny_bind ?_
  unfold Builtin.SmallTypes.ownedTupleHandOut
  have hz₆ : IsZip (h₅.push { cls := .type "tuple", data := .seq #[x, y] }) z TI TO .ellipsis := Heap.get?_push_of_some _ hz₅
  refine wpAny_bind (wpAny_setField_rec hz₆ (by simp) fun h₇ hz₇ hs₇ => ?_)
  replace hz₇ : IsZip h₇ z TI TO (rawInt h₅.objs.size) := hz₇
  refine wpAny_setField_rec hz₇ (by simp) fun h₈ hz₈ hs₈ => ?_
  replace hz₈ : IsZip h₈ z TI TO (rawInt h₅.objs.size) := hz₈
  have up : ∀ c o, c ≠ z → h₅.get? c = some o → h₈.get? c = some o := fun c o c1 e => hs₈.extBut _ _ c1 (hs₇.extBut _ _ c1 (Heap.get?_push_of_some _ e))
  have hT₈ : IsPair h₈ h₅.objs.size x y := hs₈.extBut _ _ (Nat.ne_of_gt hzlt) (hs₇.extBut _ _ (Nat.ne_of_gt hzlt) (Heap.get?_push_size _ rfl))
  have hz8 : h₈.objs.size = h₅.objs.size + 1 := by rw [hs₈.1, hs₇.1, Heap.size_push]
  rw [hsz] at hz₈ hT₈ hz8
  refine wpAny_pure ⟨_, rfl, ?_⟩
  show Q (.ref h₅.objs.size) _
  rw [hsz]
  exact hQ h₈ hz₈ (up _ _ D.TOz hTO₅) (N1.keep h1₅ fun c o hc e => up c o (by rcases hc with rfl | rfl; exact D.i1z; exact D.l1z) e) (N2.keep h2₅ fun c o hc e => up c o (by rcases hc with rfl | rfl; exact D.i2z; exact D.l2z) e) hT₈ hz8 fun c o c1 c2 c3 c4 e => up c o c1 (hk₅ c o c1 c2 c3 c4 e)
theorem zn_end {Q : Fin → Shared → Prop} (hh : A.handled = none) (D : ZipApart z TI TO i1 i2 l1 l2) (N1 : NxI prog w i1 l1 xs S1) (N2 : NxI prog w i2 l2 ys S2)
    (hz : IsZip s.heap z TI TO .none) (hTI : IsPair s.heap TI (.ref i1) (.ref i2)) (hTO : IsPair s.heap TO a b) (h1 : S1 k1 s.heap) (h2 : S2 k2 s.heap) (hend : xs[k1]? = none ∨ ys[k2]? = none)
    (hE : ∀ h' e, (∀ c o, c ≠ z → c ≠ TO → c ≠ i1 → c ≠ i2 → s.heap.get? c = some o → h'.get? c = some o) → (∃ o, h'.get? e = some o ∧ o.cls = .type "StopIteration") → E (.ref e) { s with heap := h' }) :
    wpAny (model prog w) A (Builtin.«zip.__next__» ⟨[.ref z], []⟩) Q E s := by
  show wpAny _ _ (field (.ref z) 2 >>= _) _ _ _
  refine wpAny_bind (wpAny_field hz rfl (x := .bool false) rfl ?_)
  show wpAny _ _ (field (.ref z) 3 >>= _) _ _ _
  refine wpAny_bind (wpAny_field hz rfl (x := .ref TI) rfl ?_)
  refine wpAny_bind (wpAny_seqItems hTI rfl ?_)
  show wpAny _ _ (Builtin.SmallTypes.ownedTupleIsFree (.ref z) >>= _) _ _ _
  refine wpAny_bind ?_
  unfold Builtin.SmallTypes.ownedTupleIsFree
  refine wpAny_bind (wpAny_field hz rfl (x := .none) rfl (wpAny_pure ?_))
  simp only [if_true]
  refine wpAny_bind (wpAny_rule ?_)
  refine wpAny_bind (wpAny_field hz rfl (x := .ref TO) rfl ?_)
  refine wpAny_bind (wpAny_setField_rec hz (by simp) fun h₁ hz₁ hs₁ => ?_)
  replace hz₁ : IsZip h₁ z TI TO .ellipsis := hz₁
  refine wpAny_bind ?_
  simp only [List.zipIdx_cons, List.zipIdx_nil, List.forIn_cons, List.forIn_nil]
  refine wpAny_bind (wpAny_bind (wpAny_onRaise ?_))
  show wpAny _ _ (Builtin.SmallTypes.nextOf (.ref i1) >>= _) _ _ _
  cases hx : xs[k1]? with
  | none =>
    refine wpAny_bind (N1.stop (s := { s with heap := h₁ }) hh (N1.but h1 hs₁ D.i1z D.l1z) hx fun h₂ e hs₂ he => ?_)
    obtain ⟨oe, hoe, hce⟩ := he
    have hz₂ : IsZip h₂ z TI TO .ellipsis := hs₂ _ _ D.i1z.symm hz₁
    have hez : e ≠ z := fun x => by subst x; rw [hz₂] at hoe; cases hoe; simp at hce
    refine wpAny_setField_rec hz₂ (by simp) fun h₃ _ hs₃ => hE h₃ e (fun c o c1 _ c3 _ x => hs₃.extBut _ _ c1 (hs₂ _ _ c3 (hs₁.extBut _ _ c1 x))) ⟨oe, hs₃.extBut _ _ hez hoe, hce⟩
  | some x =>
    have hy : ys[k2]? = none := by rcases hend with h | h; rw [hx] at h; cases h; exact h
    refine wpAny_bind (N1.item (s := { s with heap := h₁ }) (N1.but h1 hs₁ D.i1z D.l1z) hx fun h₂ h1₂ hs₂ => wpAny_pure ?_)
    have h2₂ : S2 k2 h₂ := N2.but (N2.but h2 hs₁ D.i2z D.l2z) hs₂ D.i12.symm D.l2i1
    have hTO₂ : IsPair h₂ TO a b := hs₂.extBut _ _ D.TOi1 (hs₁.extBut _ _ D.TOz hTO)
    refine wpAny_bind (wpAny_seqItems hTO₂ rfl ?_)
    refine wpAny_bind (wpAny_updateSeq_pair hTO₂ fun h₃ hTO₃ hs₃ => ?_)
    have h2₃ : S2 k2 h₃ := N2.but h2₂ hs₃ D.TOi2.symm D.l2TO
    refine wpAny_bind (wpAny_letGo (wpAny_pure ?_))
    refine wpAny_bind (wpAny_bind (wpAny_onRaise ?_))
    show wpAny _ _ (Builtin.SmallTypes.nextOf (.ref i2) >>= _) _ _ _
    refine wpAny_bind (N2.stop (s := { s with heap := h₃ }) hh h2₃ hy fun h₄ e hs₄ he => ?_)
    obtain ⟨oe, hoe, hce⟩ := he
    have hz₄ : IsZip h₄ z TI TO .ellipsis := hs₄ _ _ D.i2z.symm (hs₃.extBut _ _ D.TOz.symm (hs₂.extBut _ _ D.i1z.symm hz₁))
    have hez : e ≠ z := fun x => by subst x; rw [hz₄] at hoe; cases hoe; simp at hce
    refine wpAny_setField_rec hz₄ (by simp) fun h₅ _ hs₅ => hE h₅ e (fun c o c1 c2 c3 c4 x => hs₅.extBut _ _ c1 (hs₄ _ _ c4 (hs₃.extBut _ _ c2 (hs₂.extBut _ _ c3 (hs₁.extBut _ _ c1 x))))) ⟨oe, hs₅.extBut _ _ hez hoe, hce⟩
theorem zn_item_held {f : Bool} {oT : Obj} {Q : Value → Shared → Prop} (D : ZipApart z TI TO i1 i2 l1 l2) (N1 : NxI prog w i1 l1 xs S1) (N2 : NxI prog w i2 l2 ys S2)
    (hz : IsZipHeld s.heap z TI TO T f) (hT : s.heap.get? T = some oT) (hTI : IsPair s.heap TI (.ref i1) (.ref i2)) (h1 : S1 k1 s.heap) (h2 : S2 k2 s.heap) (hx : xs[k1]? = some x) (hy : ys[k2]? = some y)
    (hQ : ∀ h', IsZipHeld h' z TI TO T true → S1 (k1 + 1) h' → S2 (k2 + 1) h' → IsPair h' s.heap.objs.size x y → h'.objs.size = s.heap.objs.size + 1 →
      (∀ c o, c ≠ z → c ≠ i1 → c ≠ i2 → s.heap.get? c = some o → h'.get? c = some o) → Q (.ref s.heap.objs.size) { s with heap := h' }) :
    wpAny (model prog w) A (Builtin.«zip.__next__» ⟨[.ref z], []⟩) (fun fin s' => ∃ v, fin = .done (.ret v) ∧ Q v s') E s := by
  show wpAny _ _ (field (.ref z) 2 >>= _) _ _ _
  refine wpAny_bind (wpAny_field hz rfl (x := .bool false) rfl ?_)
  show wpAny _ _ (field (.ref z) 3 >>= _) _ _ _
  refine wpAny_bind (wpAny_field hz rfl (x := .ref TI) rfl ?_)
  refine wpAny_bind (wpAny_seqItems hTI rfl ?_)
  show wpAny _ _ (Builtin.SmallTypes.ownedTupleIsFree (.ref z) >>= _) _ _ _
  refine wpAny_bind (wpAny_tupleHeld_zip hz hT fun h₁ hz₁ hs₁ => ?_)
  simp only [Bool.false_eq_true, if_false]
  refine wpAny_bind ?_
  rw [← Array.forIn_toList]
  simp only [List.forIn_cons, List.forIn_nil]
  refine wpAny_bind (wpAny_bind (wpAny_holding ?_))
  show wpAny _ _ (Builtin.SmallTypes.nextOf (.ref i1) >>= _) _ _ _
  refine wpAny_bind (N1.item (s := { s with heap := h₁ }) (N1.but h1 hs₁ D.i1z D.l1z) hx fun h₂ h1₂ hs₂ => wpAny_pure ?_)
  refine wpAny_pure ?_
  refine wpAny_bind (wpAny_bind (wpAny_holding ?_))
  show wpAny _ _ (Builtin.SmallTypes.nextOf (.ref i2) >>= _) _ _ _
  have h2₂ : S2 k2 h₂ := N2.but (N2.but h2 hs₁ D.i2z D.l2z) hs₂ D.i12.symm D.l2i1
  refine wpAny_bind (N2.item (s := { s with heap := h₂ }) h2₂ hy fun h₃ h2₃ hs₃ => wpAny_pure ?_)
  refine wpAny_pure (wpAny_pure ?_)
  show wpAny _ _ (newTuple [x, y] >>= _) _ _ _
  refine wpAny_bind (wpAny_newTuple ?_)
  have hsz : h₃.objs.size = s.heap.objs.size := by rw [hs₃.1, hs₂.1, hs₁.1]
  have hz₃ : IsZipHeld h₃ z TI TO T true := hs₃.extBut _ _ D.i2z.symm (hs₂.extBut _ _ D.i1z.symm hz₁)
  have hk : ∀ c o, c ≠ z → c ≠ i1 → c ≠ i2 → s.heap.get? c = some o → h₃.get? c = some o := fun c o c1 c2 c3 e => hs₃.extBut _ _ c3 (hs₂.extBut _ _ c2 (hs₁.extBut _ _ c1 e))
  have h1₃ : S1 (k1 + 1) h₃ := N1.but h1₂ hs₃ D.i12 D.l1i2
  refine wpAny_pure ⟨_, rfl, ?_⟩
  show Q (.ref h₃.objs.size) _
  have hp : IsPair (h₃.push { cls := .type "tuple", data := .seq #[x, y] }) h₃.objs.size x y := Heap.get?_push_size _ rfl
  have hz4 : (h₃.push { cls := .type "tuple", data := .seq #[x, y] }).objs.size = h₃.objs.size + 1 := Heap.size_push ..
  rw [hsz] at hp hz4 ⊢
  exact hQ _ (Heap.get?_push_of_some _ hz₃) (N1.keep h1₃ fun c o _ e => Heap.get?_push_of_some _ e) (N2.keep h2₃ fun c o _ e => Heap.get?_push_of_some _ e) hp hz4 fun c o c1 c2 c3 e => Heap.get?_push_of_some _ (hk c o c1 c2 c3 e)
theorem zn_end_held {f : Bool} {oT : Obj} {Q : Fin → Shared → Prop} (hh : A.handled = none) (D : ZipApart z TI TO i1 i2 l1 l2) (N1 : NxI prog w i1 l1 xs S1) (N2 : NxI prog w i2 l2 ys S2)
    (hz : IsZipHeld s.heap z TI TO T f) (hT : s.heap.get? T = some oT) (hTI : IsPair s.heap TI (.ref i1) (.ref i2)) (h1 : S1 k1 s.heap) (h2 : S2 k2 s.heap) (hend : xs[k1]? = none ∨ ys[k2]? = none)
    (hE : ∀ h' e, (∀ c o, c ≠ z → c ≠ i1 → c ≠ i2 → s.heap.get? c = some o → h'.get? c = some o) → (∃ o, h'.get? e = some o ∧ o.cls = .type "StopIteration") → E (.ref e) { s with heap := h' }) :
    wpAny (model prog w) A (Builtin.«zip.__next__» ⟨[.ref z], []⟩) Q E s := by
  show wpAny _ _ (field (.ref z) 2 >>= _) _ _ _
  refine wpAny_bind (wpAny_field hz rfl (x := .bool false) rfl ?_)
  show wpAny _ _ (field (.ref z) 3 >>= _) _ _ _
  refine wpAny_bind (wpAny_field hz rfl (x := .ref TI) rfl ?_)
  refine wpAny_bind (wpAny_seqItems hTI rfl ?_)
  show wpAny _ _ (Builtin.SmallTypes.ownedTupleIsFree (.ref z) >>= _) _ _ _
  refine wpAny_bind (wpAny_tupleHeld_zip hz hT fun h₁ hz₁ hs₁ => ?_)
  simp only [Bool.false_eq_true, if_false]
  refine wpAny_bind ?_
  rw [← Array.forIn_toList]
  simp only [List.forIn_cons, List.forIn_nil]
  refine wpAny_bind (wpAny_bind (wpAny_holding ?_))
  show wpAny _ _ (Builtin.SmallTypes.nextOf (.ref i1) >>= _) _ _ _
  cases hx : xs[k1]? with
  | none =>
    refine wpAny_bind (N1.stop (s := { s with heap := h₁ }) hh (N1.but h1 hs₁ D.i1z D.l1z) hx fun h₂ e hs₂ he => ?_)
    exact hE h₂ e (fun c o c1 c2 _ x => hs₂ _ _ c2 (hs₁.extBut _ _ c1 x)) he
  | some x =>
    have hy : ys[k2]? = none := by rcases hend with h | h; rw [hx] at h; cases h; exact h
    refine wpAny_bind (N1.item (s := { s with heap := h₁ }) (N1.but h1 hs₁ D.i1z D.l1z) hx fun h₂ h1₂ hs₂ => wpAny_pure ?_)
    refine wpAny_pure ?_
    refine wpAny_bind (wpAny_bind (wpAny_holding ?_))
    show wpAny _ _ (Builtin.SmallTypes.nextOf (.ref i2) >>= _) _ _ _
    have h2₂ : S2 k2 h₂ := N2.but (N2.but h2 hs₁ D.i2z D.l2z) hs₂ D.i12.symm D.l2i1
    refine wpAny_bind (N2.stop (s := { s with heap := h₂ }) hh h2₂ hy fun h₃ e hs₃ he => ?_)
    exact hE h₃ e (fun c o c1 c2 c3 x => hs₃ _ _ c3 (hs₂.extBut _ _ c2 (hs₁.extBut _ _ c1 x))) he
theorem zn_pyNext {Q : Option Value → Shared → Prop} (D : ZipApart z TI TO i1 i2 l1 l2) (N1 : NxI prog w i1 l1 xs S1) (N2 : NxI prog w i2 l2 ys S2)
    (hz : IsZip s.heap z TI TO .none) (hTI : IsPair s.heap TI (.ref i1) (.ref i2)) (hTO : IsPair s.heap TO a b) (h1 : S1 k1 s.heap) (h2 : S2 k2 s.heap) (hx : xs[k1]? = some x) (hy : ys[k2]? = some y)
    (hQ : ∀ h', IsZip h' z TI TO (rawInt s.heap.objs.size) → IsPair h' TO x y → S1 (k1 + 1) h' → S2 (k2 + 1) h' → IsPair h' s.heap.objs.size x y → h'.objs.size = s.heap.objs.size + 1 →
      (∀ c o, c ≠ z → c ≠ TO → c ≠ i1 → c ≠ i2 → s.heap.get? c = some o → h'.get? c = some o) → Q (some (.ref s.heap.objs.size)) { s with heap := h' }) : wpAny (model prog w) A (pyNext (.ref z)) Q E s := by
  have hTy : s.TypeIs (.ref z) "zip" := ⟨_, hz, rfl⟩
  unfold pyNext
  exact wpAny_bind (wpAny_attempt (wpAny_callSpecial?_slot (name := Str.ofString "__next__") hTy F.slot_zip_next
    (wpAny_call_entry F.slot_zip_next hTy F.entry_zip_next (zn_item D N1 N2 hz hTI hTO h1 h2 hx hy fun h' a1 a2 a3 a4 a5 a6 a7 => wpAny_pure (hQ h' a1 a2 a3 a4 a5 a6 a7)) (F.args_zip_next_1 _))))
theorem zn_pyEnd {Q : Option Value → Shared → Prop} (hh : A.handled = none) (D : ZipApart z TI TO i1 i2 l1 l2) (N1 : NxI prog w i1 l1 xs S1) (N2 : NxI prog w i2 l2 ys S2)
    (hz : IsZip s.heap z TI TO .none) (hTI : IsPair s.heap TI (.ref i1) (.ref i2)) (hTO : IsPair s.heap TO a b) (h1 : S1 k1 s.heap) (h2 : S2 k2 s.heap) (hend : xs[k1]? = none ∨ ys[k2]? = none)
    (hQ : ∀ h', (∀ c o, c ≠ z → c ≠ TO → c ≠ i1 → c ≠ i2 → s.heap.get? c = some o → h'.get? c = some o) → Q none { s with heap := h' }) : wpAny (model prog w) A (pyNext (.ref z)) Q E s := by
  have hTy : s.TypeIs (.ref z) "zip" := ⟨_, hz, rfl⟩
  unfold pyNext
  refine wpAny_bind (wpAny_attempt (wpAny_callSpecial?_slot (name := Str.ofString "__next__") hTy F.slot_zip_next
    (wpAny_call_entry F.slot_zip_next hTy F.entry_zip_next (zn_end hh D N1 N2 hz hTI hTO h1 h2 hend fun h' e hk he => ?_) (F.args_zip_next_1 _))))
  obtain ⟨o, ho, hc⟩ := he
  refine wpAny_bind (wpAny_isInstance (T := "StopIteration") (b := true) ⟨o, ho, hc⟩ isSubtype_stop ?_)
  exact wpAny_pure (hQ _ hk)
theorem zn_pyNextH {f : Bool} {oT : Obj} {Q : Option Value → Shared → Prop} (D : ZipApart z TI TO i1 i2 l1 l2) (N1 : NxI prog w i1 l1 xs S1) (N2 : NxI prog w i2 l2 ys S2)
    (hz : IsZipHeld s.heap z TI TO T f) (hT : s.heap.get? T = some oT) (hTI : IsPair s.heap TI (.ref i1) (.ref i2)) (h1 : S1 k1 s.heap) (h2 : S2 k2 s.heap) (hx : xs[k1]? = some x) (hy : ys[k2]? = some y)
    (hQ : ∀ h', IsZipHeld h' z TI TO T true → S1 (k1 + 1) h' → S2 (k2 + 1) h' → IsPair h' s.heap.objs.size x y → h'.objs.size = s.heap.objs.size + 1 →
      (∀ c o, c ≠ z → c ≠ i1 → c ≠ i2 → s.heap.get? c = some o → h'.get? c = some o) → Q (some (.ref s.heap.objs.size)) { s with heap := h' }) : wpAny (model prog w) A (pyNext (.ref z)) Q E s := by
  have hTy : s.TypeIs (.ref z) "zip" := ⟨_, hz, rfl⟩
  unfold pyNext
  exact wpAny_bind (wpAny_attempt (wpAny_callSpecial?_slot (name := Str.ofString "__next__") hTy F.slot_zip_next
    (wpAny_call_entry F.slot_zip_next hTy F.entry_zip_next (zn_item_held D N1 N2 hz hT hTI h1 h2 hx hy fun h' a1 a3 a4 a5 a6 a7 => wpAny_pure (hQ h' a1 a3 a4 a5 a6 a7)) (F.args_zip_next_1 _))))
theorem zn_pyEndH {f : Bool} {oT : Obj} {Q : Option Value → Shared → Prop} (hh : A.handled = none) (D : ZipApart z TI TO i1 i2 l1 l2) (N1 : NxI prog w i1 l1 xs S1) (N2 : NxI prog w i2 l2 ys S2)
    (hz : IsZipHeld s.heap z TI TO T f) (hT : s.heap.get? T = some oT) (hTI : IsPair s.heap TI (.ref i1) (.ref i2)) (h1 : S1 k1 s.heap) (h2 : S2 k2 s.heap) (hend : xs[k1]? = none ∨ ys[k2]? = none)
    (hQ : ∀ h', (∀ c o, c ≠ z → c ≠ i1 → c ≠ i2 → s.heap.get? c = some o → h'.get? c = some o) → Q none { s with heap := h' }) : wpAny (model prog w) A (pyNext (.ref z)) Q E s := by
  have hTy : s.TypeIs (.ref z) "zip" := ⟨_, hz, rfl⟩
  unfold pyNext
  refine wpAny_bind (wpAny_attempt (wpAny_callSpecial?_slot (name := Str.ofString "__next__") hTy F.slot_zip_next
    (wpAny_call_entry F.slot_zip_next hTy F.entry_zip_next (zn_end_held hh D N1 N2 hz hT hTI h1 h2 hend fun h' e hk he => ?_) (F.args_zip_next_1 _))))
  obtain ⟨o, ho, hc⟩ := he
  refine wpAny_bind (wpAny_isInstance (T := "StopIteration") (b := true) ⟨o, ho, hc⟩ isSubtype_stop ?_)
  exact wpAny_pure (hQ _ hk)
/-- as an argument of dict() -/
theorem pairArg_zn (D : ZipApart z TI TO i1 i2 l1 l2) (N1 : NxI prog w i1 l1 xs S1) (N2 : NxI prog w i2 l2 ys S2) :
    PairArg prog w "zip" z [z, TI, TO, i1, i2, l1, l2] [z, TO, i1, i2] (min xs.size ys.size) (fun i k v => xs[i]? = some k ∧ ys[i]? = some v)
      (fun h => IsZip h z TI TO .none ∧ IsPair h TI (.ref i1) (.ref i2) ∧ (∃ a b, IsPair h TO a b) ∧ S1 0 h ∧ S2 0 h) where
  type := fun s ok => ⟨_, ok.1, rfl⟩
  notDict := by decide
  keep := fun h h' ok hk => by
    obtain ⟨hz, hTI, ⟨a, b, hTO⟩, h1, h2⟩ := ok
    exact ⟨hk _ _ hz, hk _ _ hTI, ⟨a, b, hk _ _ hTO⟩, N1.keep h1 fun c o _ e => hk c o e, N2.keep h2 fun c o _ e => hk c o e⟩
  there := fun h ok b hb => by
    obtain ⟨hz, hTI, ⟨a, c, hTO⟩, h1, h2⟩ := ok
    simp only [List.mem_cons, List.not_mem_nil, or_false] at hb
    rcases hb with rfl | rfl | rfl | rfl | rfl | rfl | rfl
    · exact ⟨_, hz⟩
    · exact ⟨_, hTI⟩
    · exact ⟨_, hTO⟩
    · exact (N1.there h1).1
    · exact (N2.there h2).1
    · exact (N1.there h1).2
    · exact (N2.there h2).2
  sub := fun b hb => by simp at hb ⊢; rcases hb with rfl | rfl | rfl | rfl <;> simp
  noKeys := fun A s Q E hA ok h => getAttrOr_miss_zip ok.1 rfl rfl rfl zip_no_keys (by decide +kernel) hA h
  iter := fun A s d Q E hA ok hd hdf h => by
    obtain ⟨hz, hTI, ⟨a, b, hTO⟩, h1, h2⟩ := ok
    simp only [List.mem_cons, List.not_mem_nil, or_false, not_or] at hdf
    obtain ⟨dz, dTI, dTO, di1, di2, dl1, dl2⟩ := hdf
    refine wpAny_pyIter_zip hz (h z [z, TO, i1, i2] (fun i h => IsPair h TI (.ref i1) (.ref i2) ∧ S1 i h ∧ S2 i h ∧
      ((IsZip h z TI TO .none ∧ ∃ a b, IsPair h TO a b) ∨ ∃ T f oT, IsZipHeld h z TI TO T f ∧ h.get? T = some oT ∧ T ≠ z ∧ T ≠ i1 ∧ T ≠ i2 ∧ T ≠ d)) s.heap s.toks ?_
      ⟨hTI, h1, h2, .inl ⟨hz, a, b, hTO⟩⟩ (fun _ _ e => e) fun b hb => .inl hb)
    exact {
      off := fun hm => by
        simp only [List.mem_cons, List.not_mem_nil, or_false] at hm
        rcases hm with e | e | e | e
        · exact dz e
        · exact dTO e
        · exact di1 e
        · exact di2 e
      frame := fun i h₁ h₂ st hk => by
        obtain ⟨hTI, h1, h2, hz⟩ := st
        refine ⟨hk _ _ (Ne.symm dTI) hTI, N1.keep h1 fun c o hc e => hk c o (by rcases hc with rfl | rfl; exact Ne.symm di1; exact Ne.symm dl1) e, N2.keep h2 fun c o hc e => hk c o (by rcases hc with rfl | rfl; exact Ne.symm di2; exact Ne.symm dl2) e, ?_⟩
        rcases hz with ⟨hz, a, b, hTO⟩ | ⟨T, f, oT, hz, hT, r1, r2, r3, r4⟩
        · exact .inl ⟨hk _ _ (Ne.symm dz) hz, a, b, hk _ _ (Ne.symm dTO) hTO⟩
        · exact .inr ⟨T, f, oT, hk _ _ (Ne.symm dz) hz, hk _ _ r4 hT, r1, r2, r3, r4⟩
      item := fun i s₁ Q₁ E₁ hi st hds hQ => by
        obtain ⟨hTI, h1, h2, hz⟩ := st
        have ex := Array.getElem?_eq_getElem (Nat.lt_of_lt_of_le hi (Nat.min_le_left ..))
        have ey := Array.getElem?_eq_getElem (Nat.lt_of_lt_of_le hi (Nat.min_le_right ..))
        have lt : ∀ {c o}, s₁.heap.get? c = some o → s₁.heap.objs.size ≠ c := fun e => Nat.ne_of_gt (Heap.lt_size e)
        have n1 : s₁.heap.objs.size ≠ i1 := let ⟨⟨_, e⟩, _⟩ := N1.there h1; lt e
        have n2 : s₁.heap.objs.size ≠ i2 := let ⟨⟨_, e⟩, _⟩ := N2.there h2; lt e
        rcases hz with ⟨hz, a, b, hTO⟩ | ⟨T, f, oT, hz, hT, r1, r2, r3, r4⟩
        · refine zn_pyNext D N1 N2 hz hTI hTO h1 h2 ex ey fun h' a1 a2 a3 a4 a5 a6 hk => ?_
          exact hQ s₁.heap.objs.size _ _ h' s₁.toks ⟨ex, ey⟩ (.inl ⟨_, a5, rfl, _, rfl⟩)
            ⟨hk _ _ D.TIz D.TITO D.TIi1 D.TIi2 hTI, a3, a4, .inr ⟨s₁.heap.objs.size, false, _, a1, a5, lt hz, n1, n2, Nat.ne_of_gt hds⟩⟩
            fun c o hc e => hk c o (fun x => hc (by simp [x])) (fun x => hc (by simp [x])) (fun x => hc (by simp [x])) (fun x => hc (by simp [x])) e
        · refine zn_pyNextH D N1 N2 hz hT hTI h1 h2 ex ey fun h' a1 a3 a4 a5 a6 hk => ?_
          exact hQ s₁.heap.objs.size _ _ h' s₁.toks ⟨ex, ey⟩ (.inl ⟨_, a5, rfl, _, rfl⟩)
            ⟨hk _ _ D.TIz D.TIi1 D.TIi2 hTI, a3, a4, .inr ⟨T, true, oT, a1, hk _ _ r1 r2 r3 hT, r1, r2, r3, r4⟩⟩
            fun c o hc e => hk c o (fun x => hc (by simp [x])) (fun x => hc (by simp [x])) (fun x => hc (by simp [x])) e
      done := fun s₁ Q₁ E₁ st hQ => by
        obtain ⟨hTI, h1, h2, hz⟩ := st
        have hend : xs[min xs.size ys.size]? = none ∨ ys[min xs.size ys.size]? = none := by
          rcases Nat.le_total xs.size ys.size with h | h
          · exact .inl (Array.getElem?_eq_none (by rw [Nat.min_eq_left h]; exact Nat.le_refl _))
          · exact .inr (Array.getElem?_eq_none (by rw [Nat.min_eq_right h]; exact Nat.le_refl _))
        rcases hz with ⟨hz, a, b, hTO⟩ | ⟨T, f, oT, hz, hT, r1, r2, r3, r4⟩
        · exact zn_pyEnd hA D N1 N2 hz hTI hTO h1 h2 hend fun h' hk => hQ h' s₁.toks fun c o hc e => hk c o (fun x => hc (by simp [x])) (fun x => hc (by simp [x])) (fun x => hc (by simp [x])) (fun x => hc (by simp [x])) e
        · exact zn_pyEndH hA D N1 N2 hz hT hTI h1 h2 hend fun h' hk => hQ h' s₁.toks fun c o hc e => hk c o (fun x => hc (by simp [x])) (fun x => hc (by simp [x])) (fun x => hc (by simp [x])) e }
end
/-! zip(list, tuple), made -/
theorem meets_zipM_new (l1 l2 : Addr) (xs ys : Array Value) :
    Meets (Builtin.«zip.__new__» ⟨[.type "zip", .ref l1, .ref l2], []⟩) (fun _ R s => s.heap.IsList l1 xs ∧ s.heap.IsTuple l2 ys ∧
      ∀ h', h' = ((((s.heap.push { cls := .type "list_iterator", data := .fields #[.ref l1, .int 0 0] }).push { cls := .type "tuple_iterator", data := .fields #[.ref l2, .int 0 0] }).push { cls := .type "tuple", data := .seq #[.ref s.heap.objs.size, .ref (s.heap.objs.size + 1)] }).push { cls := .type "tuple", data := .seq #[.none, .none] }).push { cls := .type "zip", data := .fields #[.none, .bool false, .bool false, .ref (s.heap.objs.size + 2), .ref (s.heap.objs.size + 3)] } →
      R (.ok (.ret (.ref (s.heap.objs.size + 4)))) { s with heap := h' }) :=
  .of_wp fun prog w A R s h => by
    obtain ⟨hp, g, d, tk, os⟩ := s; obtain ⟨hl1, hl2, h⟩ := h
    have hsub := sub_zip
    have hL1 : Heap.IsList (Shared.heap ⟨hp, g, d, tk, os⟩) l1 xs := hl1
    have hL2 : Heap.IsTuple (Shared.heap ⟨hp.push { cls := .type "list_iterator", data := .fields #[.ref l1, .int 0 0] }, g, d, tk, os⟩) l2 ys := Heap.IsTuple.push hl2 _
    wp_walk using wpAny_pyIter_list hL1, wpAny_pyIter_tuple hL2
    have := h _ rfl
    simp only [Heap.size_push] at this ⊢
    exact ⟨_, rfl, this⟩
theorem call_zipM {prog : Program} {w : World} {A : Around} {E : Value → Shared → Prop} {s : Shared} {l1 l2 : Addr} {xs ys : Array Value} {Q : Value → Shared → Prop} (hl1 : s.heap.IsList l1 xs) (hl2 : s.heap.IsTuple l2 ys)
    (h : ∀ h', IsZip h' (s.heap.objs.size + 4) (s.heap.objs.size + 2) (s.heap.objs.size + 3) .none → IsPair h' (s.heap.objs.size + 2) (.ref s.heap.objs.size) (.ref (s.heap.objs.size + 1)) →
      IsPair h' (s.heap.objs.size + 3) .none .none → h'.IsListIter s.heap.objs.size l1 0 → h'.IsTupleIter (s.heap.objs.size + 1) l2 0 → h'.objs.size = s.heap.objs.size + 5 →
      (∀ c o, s.heap.get? c = some o → h'.get? c = some o) → Q (.ref (s.heap.objs.size + 4)) { s with heap := h' }) :
    wpAny (model prog w) A (call (.type "zip") [.ref l1, .ref l2]) Q E s := by
  refine callType_new F.called_zip (by decide) (F.typeCall_zip_2 _ _) (F.newCall_zip_2 _ _) (fun obj => F.args_object_init_3 obj _ _) F.entry_zip_new
    (meets_zipM_new l1 l2 xs ys) ⟨hl1, hl2, fun h' eh => ?_⟩
  generalize e1 : s.heap.push { cls := .type "list_iterator", data := .fields #[.ref l1, .int 0 0] } = p1 at eh
  generalize e2 : p1.push { cls := .type "tuple_iterator", data := .fields #[.ref l2, .int 0 0] } = p2 at eh
  generalize e3 : p2.push { cls := .type "tuple", data := .seq #[.ref s.heap.objs.size, .ref (s.heap.objs.size + 1)] } = p3 at eh
  generalize e4 : p3.push { cls := .type "tuple", data := .seq #[.none, .none] } = p4 at eh
  have z1 : p1.objs.size = s.heap.objs.size + 1 := by rw [← e1]; exact Heap.size_push ..
  have z2 : p2.objs.size = s.heap.objs.size + 2 := by rw [← e2, Heap.size_push, z1]
  have z3 : p3.objs.size = s.heap.objs.size + 3 := by rw [← e3, Heap.size_push, z2]
  have z4 : p4.objs.size = s.heap.objs.size + 4 := by rw [← e4, Heap.size_push, z3]
  have z5 : h'.objs.size = s.heap.objs.size + 5 := by rw [eh, Heap.size_push, z4]
  have k5 : ∀ c o, p4.get? c = some o → h'.get? c = some o := fun c o e => by rw [eh]; exact Heap.get?_push_of_some _ e
  have k4 : ∀ c o, p3.get? c = some o → h'.get? c = some o := fun c o e => k5 c o (by rw [← e4]; exact Heap.get?_push_of_some _ e)
  have k3 : ∀ c o, p2.get? c = some o → h'.get? c = some o := fun c o e => k4 c o (by rw [← e3]; exact Heap.get?_push_of_some _ e)
  have k2 : ∀ c o, p1.get? c = some o → h'.get? c = some o := fun c o e => k3 c o (by rw [← e2]; exact Heap.get?_push_of_some _ e)
  have k1 : ∀ c o, s.heap.get? c = some o → h'.get? c = some o := fun c o e => k2 c o (by rw [← e1]; exact Heap.get?_push_of_some _ e)
  have g5 : h'.get? (s.heap.objs.size + 4) = some { cls := .type "zip", data := .fields #[.none, .bool false, .bool false, .ref (s.heap.objs.size + 2), .ref (s.heap.objs.size + 3)] } := by rw [eh, ← z4]; exact Heap.get?_push_size _ rfl
  have g4 : h'.get? (s.heap.objs.size + 3) = some { cls := .type "tuple", data := .seq #[.none, .none] } := k5 _ _ (by rw [← e4, ← z3]; exact Heap.get?_push_size _ rfl)
  have g3 : h'.get? (s.heap.objs.size + 2) = some { cls := .type "tuple", data := .seq #[.ref s.heap.objs.size, .ref (s.heap.objs.size + 1)] } := k4 _ _ (by rw [← e3, ← z2]; exact Heap.get?_push_size _ rfl)
  have g2 : h'.get? (s.heap.objs.size + 1) = some { cls := .type "tuple_iterator", data := .fields #[.ref l2, .int 0 0] } := k3 _ _ (by rw [← e2, ← z1]; exact Heap.get?_push_size _ rfl)
  have g1 : h'.get? s.heap.objs.size = some { cls := .type "list_iterator", data := .fields #[.ref l1, .int 0 0] } := k2 _ _ (by rw [← e1]; exact Heap.get?_push_size _ rfl)
  exact ⟨⟨_, g5, rfl⟩, h h' g5 g3 g4 ⟨_, g1, rfl, rfl⟩ ⟨_, g2, rfl, rfl⟩ z5 k1⟩
end DL
namespace DL
open PySem PySem.Spec PyProof.Rows L2
/-- the keys: tuples of ints -/
def intsK : List D → Option (List (List Int))
  | [] => some []
  | .tuple ds :: r => match intsD ds, intsK r with
    | some a, some b => some (a :: b)
    | _, _ => none
  | _ => none
def zipKv (kss : List (List Int)) (vds : List D) : List (D × D) := (kss.zip vds).map fun p => (.tuple (p.1.map .int), p.2)
def gDictZip : D → D → Option D
  | .list kds, .tuple vds => match intsK kds with
    | some kss => if ((kss.zip vds).map (·.1)).Nodup ∧ kds.length ≤ sizeLine then some (.dict (zipKv kss vds)) else none
    | none => none
  | _, _ => none
def fDictZip (fa fb : EF) : EF := fun env => bnd (fa env) fun d e1 => bnd (fb e1) fun k e2 => out (gDictZip d k) e2
theorem gDictZip_inv {a b d : D} (h : gDictZip a b = some d) : ∃ kds vds kss, a = .list kds ∧ b = .tuple vds ∧ intsK kds = some kss ∧ ((kss.zip vds).map (·.1)).Nodup ∧ kds.length ≤ sizeLine ∧ d = .dict (zipKv kss vds) := by
  unfold gDictZip at h
  split at h
  · split at h
    · split at h
      · rename_i hk hn
        cases h
        exact ⟨_, _, _, rfl, rfl, hk, hn.1, hn.2, rfl⟩
      · cases h
    · cases h
  · cases h
theorem intsD_map : ∀ {ds : List D} {ns : List Int}, intsD ds = some ns → ds = ns.map .int
  | [], _, h => by cases h; rfl
  | d :: ds, ns, h => by
    cases d with
    | int i =>
      simp only [intsD, Option.map_eq_some_iff] at h
      obtain ⟨ms, h1, h2⟩ := h
      subst h2
      rw [intsD_map h1]; rfl
    | _ => simp [intsD] at h
theorem zx_of {K : PySem.W.Frag} {G : Hp} : ∀ {kV : List V} {its : List Value} {kds : List D} {kss : List (List Int)} {vV : List V} {its2 : List Value} {vds : List D}, Vals kV its → DqAll K G kV kds → intsK kds = some kss → Vals vV its2 → DqAll K G vV vds →
    ∃ xs : List (List Int × Addr × Value), DqX K G xs (zipKv kss vds) ∧ xs.map (·.1) = (kss.zip vds).map (·.1) ∧ xs.length = min its.length its2.length ∧
      (∀ (i : Nat) (k u : Value), its[i]? = some k → its2[i]? = some u → ∃ ks b, xs[i]? = some (ks, b, u) ∧ k = .ref b) ∧ ∀ x ∈ xs, SqT K G x.2.1 (x.1.map V.int)
  | _, _, _, _, _, _, _, .nil, .nil, h, _, _ => by
    cases h
    refine ⟨[], .nil, by simp, by simp, fun i k u h => by simp at h, fun x hx => by cases hx⟩
  | _, _, _, kss, _, _, _, .cons _ _, .cons _ _, h, .nil, .nil => by
    refine ⟨[], ?_, by simp, by simp, fun i k u _ h => by simp at h, fun x hx => by cases hx⟩
    unfold zipKv; rw [List.zip_nil_right]; exact .nil
  | _, _, _, kss, _, _, _, .cons rk rks, .cons (d := kd) (ds := kds) qk qks, h, .cons rv rvs, .cons qv qvs => by
    unfold intsK at h
    split at h
    · rename_i h0; cases h0
    · rename_i ds r h0
      cases h0
      split at h
      · rename_i ns kss' h1 h2
        cases h
        obtain ⟨xs, a1, a2, a3, a4, a5⟩ := zx_of rks qks h2 rvs qvs
        rw [intsD_map h1] at qk
        cases qk with
        | @tup b ys _ q r =>
          have e1 : ys = ns.map V.int := intsD_of r (by
            clear h1 r q
            induction ns with
            | nil => rfl
            | cons n ns ih => simp [intsD, ih])
          subst e1
          have e2 := rk
          obtain rfl := (show _ = Value.ref b from e2)
          refine ⟨(ns, b, _) :: xs, .cons q rv qv a1, by simp [a2], by simp only [List.length_cons, a3]; omega, fun i k u hk hu => ?_, fun x hx => ?_⟩
          · cases i with
            | zero =>
              simp at hk hu
              subst hk hu
              exact ⟨ns, b, rfl, rfl⟩
            | succ i => exact a4 i k u (by simpa using hk) (by simpa using hu)
          · rcases List.mem_cons.mp hx with e | hx
            · subst e; exact q
            · exact a5 x hx
      · cases h
    · cases h
theorem stored_new {κ : Type} [DecidableEq κ] : ∀ (ps acc : List (κ × Addr × Value)), ((acc ++ ps).map (·.1)).Nodup → storedAllH acc ps = acc ++ ps
  | [], acc, _ => by simp [storedAllH]
  | (k, b, v) :: ps, acc, h => by
    have hk : atKey acc k = none := by
      unfold atKey
      rw [Option.map_eq_none_iff, List.find?_eq_none]
      intro x hx hd
      have hd := of_decide_eq_true hd
      rw [List.map_append, List.map_cons, List.nodup_append] at h
      exact h.2.2 _ (List.mem_map.mpr ⟨x, hx, rfl⟩) _ List.mem_cons_self hd
    have e : storedH acc k b v = acc ++ [(k, b, v)] := by
      unfold storedH
      rw [hk]; rfl
    have := stored_new ps (acc ++ [(k, b, v)]) (by simpa using h)
    show storedAllH (storedH acc k b v) ps = _
    rw [e, this]
    simp
theorem keys_ext {K : PySem.W.Frag} {G : Hp} {xs : List (List Int × Addr × Value)} : True := trivial
section
variable {X : Cx} {TP : List Addr} {a b : Expr} {fa fb : EF} {p p2 pos pos2 : Pos}
def tDictZip (X : Cx) (ta : TA) : TE := fun σ H Q => ta σ H fun vs H1 => ∃ (G : Hp) (u v : V) (kds vds : List D) (kss : List (List Int)), vs = [u, v] ∧ Same G H1 ∧ Dq X.K G u (.list kds) ∧ Dq X.K G v (.tuple vds) ∧ intsK kds = some kss ∧ ((kss.zip vds).map (·.1)).Nodup ∧ kds.length ≤ sizeLine ∧
  ∀ d G2 H2, Ext G H1 G2 H2 → Dq X.K G2 (.ref d) (.dict (zipKv kss vds)) → Q (.ref d) H2
theorem pe_dictZip {ta : TA} (hc : X.calm = true) (hu : X.A.units + 3 < cLine) (hg : Gl X "dict") (hm : X.mg "dict" = none) (hg2 : Gl X "zip") (hm2 : X.mg "zip" = none) (ha : PA X [a, b] ta)
    (hs : starEach [a, b] X.env = (false, eval a X.env) :: starEach [b] X.env := by rfl) (hpl : (backTo pos2 (starEach [b] X.env)).any (·.1) = false := by rfl)
    (hs2 : starEach [.Call (.Name "zip" p2) [a, b] [] pos2] X.env = (false, eval (.Call (.Name "zip" p2) [a, b] [] pos2) X.env) :: starEach [] X.env := by rfl) :
    PE X (.Call (.Name "dict" p) [.Call (.Name "zip" p2) [a, b] [] pos2] [] pos) (tDictZip X ta) := by
  refine ⟨fun pins s σ H Q I h => ?_⟩
  refine Call_ (ld_blt I hg hm DL.boot_dict (PyProof.Rows.callWith_type1 (args_cons (Call_ (ld_blt I hg2 hm2 PyProof.Rows.boot_zip (PyProof.Rows.callWith_type1 (thn (ha.run pos2 pins s σ H _ I h) fun us s1 ⟨vs, H1, I1, r1, q1⟩ => ?_) hs hpl))) hs2) hs2 rfl))
  obtain ⟨G, u, v, kds, vds, kss, ex, sg, ru, rv, hk, hnd, hz, q⟩ := q1
  subst ex
  cases r1 with
  | cons r rr =>
    cases rr with
    | cons r' rr =>
      cases rr
      cases ru with
      | @lst ka kV _ qk rk =>
        cases rv with
        | @tup va vV _ qv rv =>
          cases r
          cases r'
          obtain ⟨its, rel1, p1, _⟩ := I1.list (sg.seq qk)
          obtain ⟨its2, rel2, p2', _⟩ := I1.tuple (sameT sg qv)
          obtain ⟨xs, x1, x2, x3, x4, x5⟩ := zx_of rel1 rk hk rel2 rv
          have hz2 : s1.heap.IsTuple va its2.toArray := p2'
          obtain ⟨o2, ho2, _⟩ := id p2'
          refine call_zipM p1.isList hz2 fun h' hz hTI hTO h1 h2 hsz hkp => args_nil ?_
          have D := PySem.W.ktu_apart s1.heap.objs.size ka va p1.lt (Heap.lt_size ho2)
          have P := pairArg_zn (prog := X.prog) (w := X.w) D (nx_list D.l1i1 its.toArray) (nx_tup D.l2i2 its2.toArray)
          have hn : xs.length = min its.toArray.size its2.toArray.size := by rw [x3]; simp
          refine call_dict_pairsH (knd := tupleKind (mixKind X.prog X.w)) (ps := xs.map fun x => (x.1.map Sum.inl, x.2)) P (I1.ok.hd hc) (show X.A.in1.in1.units < cLine by show X.A.units + 1 + 1 < cLine; omega) ⟨hz, hTI, ⟨_, _, hTO⟩, ⟨h1, p1.isList.at fun o e => hkp _ o e⟩, ⟨h2, hz2.at fun o e => hkp _ o e⟩⟩ ⟨by rw [List.length_map, hn], fun i key w ⟨e1, e2⟩ => ?_⟩ (fun h2 hk2 x hx => ?_) ?_ fun h3 tk hd hk3 => ?_
          · obtain ⟨ks, b, e3, e4⟩ := x4 i key w (by simpa using e1) (by simpa using e2)
            exact ⟨ks.map Sum.inl, b, by rw [List.getElem?_map, e3]; rfl, e4⟩
          · obtain ⟨y, hy, rfl⟩ := List.mem_map.mp hx
            have sq := x5 y hy
            have kk : (tupleKind (mixKind X.prog X.w)).is s1.heap (y.1.map Sum.inl) y.2.1 := key_sq I1 (by rw [List.map_map]; exact sameT sg sq)
            obtain ⟨o, items, n, k1, k2, k3, k4⟩ := kk
            have lt : y.2.1 < s1.heap.objs.size := Heap.lt_size k1
            refine ⟨o, items, n, hk2 _ _ (by show y.2.1 ≠ h'.objs.size; rw [hsz]; exact Nat.ne_of_lt (Nat.lt_of_lt_of_le lt (Nat.le_add_right _ _))) (fun hm => ?_) (hkp _ _ k1), k2, k3, k4⟩
            simp only [List.mem_cons, List.not_mem_nil, or_false] at hm
            have hle : s1.heap.objs.size ≤ y.2.1 := by
              rcases hm with e | e | e | e <;> rw [e]
              · exact Nat.le_add_right _ _
              · exact Nat.le_add_right _ _
              · exact Nat.le_refl _
              · exact Nat.le_add_right _ _
            exact absurd lt (Nat.not_lt.mpr hle)
          · rw [← hn, x3]
            have l1 : its.length = kds.length := by rw [← rel1.length, dpAll_len rk]
            omega
          · have hnd2 : ((xs.map fun x => ((x.1.map Sum.inl : List Key), x.2)).map (·.1)).Nodup := by
              rw [List.map_map]
              have e : ((fun x : List Key × Addr × Value => x.1) ∘ fun x : List Int × Addr × Value => ((x.1.map Sum.inl : List Key), x.2)) = (List.map Sum.inl) ∘ (·.1) := rfl
              rw [e, ← List.map_map, x2]
              exact List.Pairwise.map _ (fun a b hab h => hab (inl_inj h)) hnd
            rw [stored_new _ [] (by simpa using hnd2), List.nil_append] at hd
            obtain ⟨o, es, ep, d1, d2, d3, d4, _, d5⟩ := hd
            have hk4 : ∀ b o, s1.heap.get? b = some o → h3.get? b = some o := fun b o e => hk3 b o (fun hm => by
              simp only [List.mem_cons, List.not_mem_nil, or_false] at hm
              have lt := Heap.lt_size e
              have hle : s1.heap.objs.size ≤ b := by
                rcases hm with e | e | e | e <;> rw [e]
                · exact Nat.le_add_right _ _
                · exact Nat.le_add_right _ _
                · exact Nat.le_refl _
                · exact Nat.le_add_right _ _
              exact absurd lt (Nat.not_lt.mpr hle)) (hkp b o e)
            have hle : s1.heap.objs.size ≤ h'.objs.size := by rw [hsz]; exact Nat.le_add_right _ _
            have fr : H1 h'.objs.size = none := I1.hok.fresh hle
            have x := Ext.new1 (o := HO.ext fun h => h.get? h'.objs.size = some o) sg fr
            refine ⟨.ref h'.objs.size, upd H1 h'.objs.size (.ext fun h => h.get? h'.objs.size = some o), I1.laid (t' := tk) hk4 hle (show ObjOk X.prog X.w _ _ _ (.ext _) from ⟨d1, ⟨o, d1⟩, fun a b e k => k _ e⟩), rfl, q _ _ _ x (.dX upd_same ⟨d2, ⟨es, ep, d3, ?_⟩, ?_, ?_, ?_⟩ (dpXMono x.g _ x1))⟩
            · rw [d4, List.map_map]
              apply List.map_congr_left
              rintro ⟨ks, b, u⟩ _
              simp only [Function.comp, entryOfKey, tupleKind, tupleKeyHash, mixKind, intKH, List.map_map]
              rfl
            · rw [x2]; exact hnd
            · have hb := I1.big
              exact beq_eq_false_iff_ne.mpr (Nat.ne_of_gt (Nat.lt_of_lt_of_le hb hle))
            · have l1 : its.length = kds.length := by rw [← rel1.length, dpAll_len rk]
              rw [x3]; omega
theorem d_dictZip (hc : X.calm = true) (hu : X.A.units + 64 < cLine) (hm : X.mg "dict" = none) (hm2 : X.mg "zip" = none) (ha : PD X TP a fa) (hb : PD X TP b fb) (hg : Gl X "dict" := by rfl) (hg2 : Gl X "zip" := by rfl)
    (hs : starEach [a, b] X.env = (false, eval a X.env) :: starEach [b] X.env := by rfl) (hsb : starEach [b] X.env = (false, eval b X.env) :: starEach [] X.env := by rfl) (hpl : (backTo pos2 (starEach [b] X.env)).any (·.1) = false := by rfl)
    (hs2 : starEach [.Call (.Name "zip" p2) [a, b] [] pos2] X.env = (false, eval (.Call (.Name "zip" p2) [a, b] [] pos2) X.env) :: starEach [] X.env := by rfl) :
    PD X TP (.Call (.Name "dict" p) [.Call (.Name "zip" p2) [a, b] [] pos2] [] pos) (fDictZip fa fb) := by
  refine ⟨(pe_dictZip hc (by omega) hg hm hg2 hm2 (pa_cons ha.pe (pa_cons hb.pe pa_nil hsb) hs) hs hpl hs2).imp fun σ H Q ⟨F, G, env, d, env', hf, E, q⟩ => ?_⟩
  obtain ⟨d1, e1, h1, hf⟩ := bnd_inv hf
  obtain ⟨d2, e2, h2, hf⟩ := bnd_inv hf
  obtain ⟨h3, h4⟩ := out_inv hf
  cases h4
  obtain ⟨kds, vds, kss, rfl, rfl, hk, hnd, hz, rfl⟩ := gDictZip_inv h3
  refine ⟨F, G, env, _, e1, h1, E, fun u G1 H1 g1 E1 r1 => ⟨F, G1, e1, _, _, h2, E1, fun v G2 H2 g2 E2 r2 => ?_⟩⟩
  exact ⟨G2, u, v, kds, vds, kss, rfl, E2.wd.sub, dpMono g2.s _ r1, r2, hk, hnd, hz, fun d G3 H3 x r3 => q _ G3 H3 ((g1.trans g2).trans (x.gr E2.wd.fr)) (E2.ext x) r3⟩
end
end DL
namespace DL
open PySem PySem.Spec PyProof.Rows L2
/-! each combinator at a written environment (printed by mkev.py) -/
section
variable {c : Cell} {cs : DEnv}
theorem fVar_c (i : Nat) : fVar i (c :: cs) = (match (c :: cs)[i]? with
  | some (.sh d) => some (d, c :: cs)
  | some (.ow ds) => some (.list ds, (c :: cs).set i (.sh (.list ds)))
  | _ => none) := rfl
theorem fC_c (d : D) : fC d (c :: cs) = (some (d, c :: cs)) := rfl
theorem aNil_c  : aNil (c :: cs) = (some ([], c :: cs)) := rfl
theorem aCons_c (f : EF) (r : AF) : aCons f r (c :: cs) = (bnd (f (c :: cs)) fun d e1 => bnd (r e1) fun ds e2 => some (d :: ds, e2)) := rfl
theorem aStar_c (f : EF) (r : AF) : aStar f r (c :: cs) = (bnd (f (c :: cs)) fun d e1 => bnd (out (gIt d) e1) fun xs e1 => bnd (r e1) fun ds e2 => some (xs ++ ds, e2)) := rfl
theorem fOp_c (g : D → D → Option D) (fa fb : EF) : fOp g fa fb (c :: cs) = (bnd (fa (c :: cs)) fun a e1 => bnd (fb e1) fun b e2 => out (g a b) e2) := rfl
theorem fUn_c (g : D → Option D) (fa : EF) : fUn g fa (c :: cs) = (bnd (fa (c :: cs)) fun a e1 => out (g a) e1) := rfl
theorem fCmp_c (g : D → D → Option Bool) (fa fb : EF) : fCmp g fa fb (c :: cs) = (bnd (fa (c :: cs)) fun a e1 => bnd (fb e1) fun b e2 => bnd (out (g a b) e2) fun k e3 => some (.bool k, e3)) := rfl
theorem bCmp_c (g : D → D → Option Bool) (fa fb : EF) : bCmp g fa fb (c :: cs) = (bnd (fa (c :: cs)) fun a e1 => bnd (fb e1) fun b e2 => out (g a b) e2) := rfl
theorem bVal_c (f : EF) : bVal f (c :: cs) = (match f (c :: cs) with
  | some (.bool k, e) => some (k, e)
  | _ => none) := rfl
theorem bTru_c (f : EF) : bTru f (c :: cs) = (bnd (f (c :: cs)) fun d e => out (gTru d) e) := rfl
theorem bNot_c (f : BF) : bNot f (c :: cs) = (bnd (f (c :: cs)) fun k e => some (!k, e)) := rfl
theorem bAnd_c (f g : BF) : bAnd f g (c :: cs) = (bnd (f (c :: cs)) fun k e => if k then g e else some (false, e)) := rfl
theorem bOr_c (f g : BF) : bOr f g (c :: cs) = (bnd (f (c :: cs)) fun k e => if k then some (true, e) else g e) := rfl
theorem fAnd_c (f g : EF) : fAnd f g (c :: cs) = (match f (c :: cs) with
  | some (.bool true, e) => g e
  | some (.bool false, e) => some (.bool false, e)
  | _ => none) := rfl
theorem fOr_c (f g : EF) : fOr f g (c :: cs) = (match f (c :: cs) with
  | some (.bool true, e) => some (.bool true, e)
  | some (.bool false, e) => g e
  | _ => none) := rfl
theorem fNot_c (f : EF) : fNot f (c :: cs) = (match f (c :: cs) with
  | some (.bool k, e) => some (.bool (!k), e)
  | _ => none) := rfl
theorem fIf_c (k : BF) (f g : EF) : fIf k f g (c :: cs) = (bnd (k (c :: cs)) fun k e => if k then f e else g e) := rfl
theorem fTup_c (r : AF) : fTup r (c :: cs) = (bnd (r (c :: cs)) fun ds e => if ds.length ≤ sizeLine then some (.tuple ds, e) else none) := rfl
theorem oLst_c (r : AF) : oLst r (c :: cs) = (bnd (r (c :: cs)) fun ds e => if ds.length ≤ sizeLine then some (.ow ds, e) else none) := rfl
theorem fFrz_c (o : OF) : fFrz o (c :: cs) = (match o (c :: cs) with
  | some (.ow ds, e) => some (.list ds, e)
  | some (.sh d, e) => some (d, e)
  | _ => none) := rfl
theorem oSh_c (f : EF) : oSh f (c :: cs) = (bnd (f (c :: cs)) fun d e => some (.sh d, e)) := rfl
theorem cNil_c  : cNil (c :: cs) = (some ([], c :: cs)) := rfl
theorem cCons_c (f : EF) (r : CAF) : cCons f r (c :: cs) = (bnd (f (c :: cs)) fun d e1 => bnd (r e1) fun ds e2 => some (.v d :: ds, e2)) := rfl
theorem cSlot1_c (i : Nat) (r : CAF) : cSlot' i r (c :: cs) = (if own? (c :: cs)[i]? then bnd (r (c :: cs)) fun ds e2 => some (.s i :: ds, e2) else none) := rfl
theorem oCall_c (F : CF) (args : CAF) : oCall F args (c :: cs) = (bnd (args (c :: cs)) fun as e1 => match getCells e1 as with
  | none => none
  | some ks => if (slotsOf as).Nodup then match F ks with
    | none => none
    | some (r, ks') => if ks'.length = ks.length then some (r, putCells as ks' e1) else none
    else none) := rfl
theorem sSeq_c (f g : SF) : sSeq f g (c :: cs) = (match f (c :: cs) with
  | some (.nx, e) => g e
  | r => r) := rfl
theorem sNil_c  : sNil (c :: cs) = (some (.nx, c :: cs)) := rfl
theorem sRt_c (o : OF) : sRt o (c :: cs) = (bnd (o (c :: cs)) fun x e => some (.rt x, e)) := rfl
theorem sDrop_c (f : EF) : sDrop f (c :: cs) = (bnd (f (c :: cs)) fun _ e => some (.nx, e)) := rfl
theorem sIf_c (k : BF) (f g : SF) : sIf k f g (c :: cs) = (bnd (k (c :: cs)) fun k e => if k then f e else g e) := rfl
theorem sSet_c (i : Nat) (o : OF) : sSet i o (c :: cs) = (bnd (o (c :: cs)) fun x e => if i < e.length then some (.nx, e.set i x) else none) := rfl
theorem sAsg_c (f : EF) (t : TF) : sAsg f t (c :: cs) = (bnd (f (c :: cs)) fun d e => match t d e with
  | some e' => some (.nx, e')
  | none => none) := rfl
theorem sFor_c (it : AF) (t : TF) (b : SF) : sFor it t b (c :: cs) = (bnd (it (c :: cs)) fun ds e => forL t b ds e) := rfl
theorem sParO_c (i j : Nat) (oa ob : OF) : sParO i j oa ob (c :: cs) = (bnd (oa (c :: cs)) fun c1 e1 => match c1 with
  | .ow xs => bnd (ob e1) fun c2 e2 => if i < e2.length ∧ j < e2.length then some (.nx, (e2.set i (.ow xs)).set j c2) else none
  | .sh d => bnd (ob e1) fun c2 e2 => if i < e2.length ∧ j < e2.length then some (.nx, (e2.set i (.sh d)).set j c2) else none
  | _ => none) := rfl
theorem sExtV_c (i j : Nat) : sExtV i j (c :: cs) = (match (c :: cs)[i]?, (c :: cs)[j]? with
  | some (.ow xs), some (.ow ys) => if xs.length + ys.length ≤ sizeLine ∧ i ≠ j then some (.nx, (c :: cs).set i (.ow (xs ++ ys))) else none
  | _, _ => none) := rfl
theorem sExtO_c (i : Nat) (o : OF) : sExtO i o (c :: cs) = (match (c :: cs)[i]? with
  | some (.ow _) => bnd (o (c :: cs)) fun c e1 => match c, e1[i]? with
    | .ow ys, some (.ow xs) => if xs.length + ys.length ≤ sizeLine then some (.nx, e1.set i (.ow (xs ++ ys))) else none
    | _, _ => none
  | _ => none) := rfl
theorem fSl_c (f : EF) (lo hi : PF) : fSl f lo hi (c :: cs) = (bnd (f (c :: cs)) fun d e1 => bnd (lo e1) fun l e2 => bnd (hi e2) fun h e3 => out (gSl d l h) e3) := rfl
theorem pNone_c  : pNone (c :: cs) = (some (none, c :: cs)) := rfl
theorem pSome_c (f : EF) : pSome f (c :: cs) = (match f (c :: cs) with
  | some (.int i, e) => some (some i, e)
  | _ => none) := rfl
theorem fBlt_c (g : List D → Option D) (r : AF) : fBlt g r (c :: cs) = (bnd (r (c :: cs)) fun ds e => out (g ds) e) := rfl
theorem oList_c (r : AF) : oList r (c :: cs) = (bnd (r (c :: cs)) fun ds e => match ds with
  | [d] => bnd (out (gIt d) e) fun xs e => some (.ow xs, e)
  | _ => none) := rfl
theorem oListRev_c (f : EF) : oListRev f (c :: cs) = (bnd (f (c :: cs)) fun d e => match d with
  | .list xs => some (.ow xs.reverse, e)
  | _ => none) := rfl
theorem oSorted_c (r : AF) : oSorted r (c :: cs) = (bnd (r (c :: cs)) fun ds e => match ds with
  | [.list xs] => if sortOk xs = true then some (.ow (xs.mergeSort (PySem.W.dataLe false id)), e) else none
  | _ => none) := rfl
theorem oRep_c (o : OF) (f : EF) : oRep o f (c :: cs) = (bnd (o (c :: cs)) fun c e1 => match c with
  | .ow xs => match f e1 with
    | some (.int k, e2) => @ite _ (-(2 ^ 63) ≤ k ∧ k < 2 ^ 63 ∧ xs.length * k.toNat ≤ sizeLine) (Classical.propDecidable _) (some (.ow (List.replicate k.toNat xs).flatten, e2)) none
    | _ => none
  | _ => none) := rfl
theorem fIsT_c (T : String) (f : EF) : fIsT T f (c :: cs) = (bnd (f (c :: cs)) fun d e => if isDict d = true then none else some (.bool (isT T d), e)) := rfl
theorem fChain_c (g g' : D → D → Option Bool) (fa fb fc : EF) : fChain g g' fa fb fc (c :: cs) = (bnd (fa (c :: cs)) fun x e1 => bnd (fb e1) fun y e2 => bnd (out (g x y) e2) fun k e2 => if k then bnd (fc e2) fun z e3 => bnd (out (g' y z) e3) fun k' e3 => some (.bool k', e3) else some (.bool false, e2)) := rfl
theorem fMd_c (i : Nat) (g : List D → List D → Option (D × List D)) (ar : AF) : fMd i g ar (c :: cs) = (match (c :: cs)[i]? with
  | some (.ow _) => bnd (ar (c :: cs)) fun as e1 => match e1[i]? with
    | some (.ow ds) => match g ds as with
      | some (d, new) => some (d, e1.set i (.ow new))
      | none => none
    | _ => none
  | _ => none) := rfl
theorem fIt_c (f : EF) : fIt f (c :: cs) = (bnd (f (c :: cs)) fun d e => out (gIt d) e) := rfl
theorem fArgs_c (g : List D → Option (List D)) (r : AF) : fArgs g r (c :: cs) = (bnd (r (c :: cs)) fun ds e => out (g ds) e) := rfl
theorem bYes_c  : bYes (c :: cs) = (some (true, c :: cs)) := rfl
theorem oLc_c (own : List Nat) (it : AF) (t : TF) (c0 : BF) (f : EF) : oLc own it t c0 f (c :: cs) = (bnd (it (c :: cs)) fun ds e0 => if ownNo own e0 then match lcL own t c0 f ds (wipeD own e0) with
  | some (ys, e) => if ys.length ≤ sizeLine then some (.ow ys, restD own e0 e) else none
  | none => none
  else none) := rfl
theorem oLc2_c (own own1 : List Nat) (it : AF) (t : TF) (c0 : BF) (it1 : AF) (t1 : TF) (c1 : BF) (f : EF) : oLc2 own own1 it t c0 it1 t1 c1 f (c :: cs) = (bnd (it (c :: cs)) fun ds e0 => if ownNo own e0 then match lc2L own own1 t c0 it1 t1 c1 f ds (wipeD own e0) with
  | some (ys, e) => if ys.length ≤ sizeLine then some (.ow ys, restD own e0 e) else none
  | none => none
  else none) := rfl
theorem fGenB_c (go : Bool) (own : List Nat) (it : AF) (t : TF) (c0 : BF) (f : EF) : fGenB go own it t c0 f (c :: cs) = (bnd (it (c :: cs)) fun ds e0 => if ownNo own e0 then match genB go own t c0 f ds (wipeD own e0) with
  | some (b, e) => some (.bool b, restD own e0 e)
  | none => none
  else none) := rfl
theorem fDictZip_c (fa fb : EF) : fDictZip fa fb (c :: cs) = (bnd (fa (c :: cs)) fun d e1 => bnd (fb e1) fun k e2 => out (gDictZip d k) e2) := rfl
theorem fGet2_c (fa fb fc : EF) : fGet2 fa fb fc (c :: cs) = (bnd (fa (c :: cs)) fun d e1 => bnd (fb e1) fun k e2 => bnd (fc e2) fun x e3 => out (gGet2 d k x) e3) := rfl
theorem fPk1_c (i : Nat) (g : List D → Option D) : fPk1 i g (c :: cs) = (match peek i (c :: cs) with
  | some d => match g [d] with
    | some r => if isSc r = true then some (r, (c :: cs)) else none
    | none => none
  | none => none) := rfl
theorem fPkL_c (i : Nat) (g : D → D → Option D) (fb : EF) : fPkL i g fb (c :: cs) = (match peek i (c :: cs) with
  | some _ => bnd (fb (c :: cs)) fun b e1 => match peek i e1 with
    | some d => match g d b with
      | some r => if isSc r = true then some (r, e1) else none
      | none => none
    | none => none
  | none => none) := rfl
theorem fPkR_c (i : Nat) (g : D → D → Option D) (fa : EF) : fPkR i g fa (c :: cs) = (bnd (fa (c :: cs)) fun a e1 => match peek i e1 with
    | some d => match g a d with
      | some r => if isSc r = true then some (r, e1) else none
      | none => none
    | none => none) := rfl
theorem fPkIx_c (i : Nat) (fb : EF) : fPkIx i fb (c :: cs) = (match peek i (c :: cs) with
  | some _ => bnd (fb (c :: cs)) fun b e1 => match peek i e1 with
    | some (.list ds) => match b with
      | .int j => match atI ds j with
        | some r => some (r, e1)
        | none => none
      | _ => none
    | some d => match gIx d b with
      | some r => if isSc r = true then some (r, e1) else none
      | none => none
    | none => none
  | none => none) := rfl
theorem bPkL_c (i : Nat) (g : D → D → Option Bool) (fb : EF) : bPkL i g fb (c :: cs) = (match peek i (c :: cs) with
  | some _ => bnd (fb (c :: cs)) fun b e1 => match peek i e1 with
    | some d => out (g d b) e1
    | none => none
  | none => none) := rfl
theorem bPkR_c (i : Nat) (g : D → D → Option Bool) (fa : EF) : bPkR i g fa (c :: cs) = (bnd (fa (c :: cs)) fun a e1 => match peek i e1 with
    | some d => out (g a d) e1
    | none => none) := rfl
end
end DL
namespace DL
open PySem PySem.Spec PyProof.Rows L2
/-! data: ints, tuples of ints -/
theorem sh_int (i : Int) : SeqAt.shaped (.int i) = true := by simp [SeqAt.shaped, PyData.canLay0, PyData.depth]
theorem sh_bool (i : Bool) : SeqAt.shaped (.bool i) = true := by simp [SeqAt.shaped, PyData.canLay0, PyData.depth]
theorem sh_none : SeqAt.shaped .none = true := by simp [SeqAt.shaped, PyData.canLay0, PyData.depth]
/-- shaped, to a depth -/
def shD (n : Nat) (d : D) : Bool := d.canLay0 && decide (d.depth ≤ n)
theorem shD_all (n : Nat) : ∀ xs : List D, (∀ x ∈ xs, shD n x = true) → PyData.canLayAll0 xs = true ∧ PyData.depthAll xs ≤ n
  | [], _ => by simp [PyData.canLayAll0, PyData.depthAll]
  | x :: xs, h => by
    obtain ⟨h1, h2⟩ := shD_all n xs fun y hy => h y (List.mem_cons_of_mem _ hy)
    have h3 := h x List.mem_cons_self
    simp only [shD, Bool.and_eq_true, decide_eq_true_eq] at h3
    simp only [PyData.canLayAll0, PyData.depthAll, Bool.and_eq_true]
    exact ⟨⟨h3.1, h1⟩, by omega⟩
theorem shD_tup {n : Nat} {xs : List D} (h : ∀ x ∈ xs, shD n x = true) : shD (n + 1) (.tuple xs) = true := by
  obtain ⟨h1, h2⟩ := shD_all n xs h
  simp only [shD, PyData.canLay0, Bool.and_eq_true, decide_eq_true_eq]
  refine ⟨h1, ?_⟩
  rw [PyData.depth]
  omega
theorem shD_lst {n : Nat} {xs : List D} (h : ∀ x ∈ xs, shD n x = true) : shD (n + 1) (.list xs) = true := by
  obtain ⟨h1, h2⟩ := shD_all n xs h
  simp only [shD, PyData.canLay0, Bool.and_eq_true, decide_eq_true_eq]
  refine ⟨h1, ?_⟩
  rw [PyData.depth]
  omega
theorem shD_int (n : Nat) (i : Int) : shD n (.int i) = true := by simp [shD, PyData.canLay0, PyData.depth]
theorem shD_ok {n : Nat} {d : D} (h : shD n d = true) (hn : n ≤ 64) : SeqAt.shaped d = true := by
  simp only [shD, Bool.and_eq_true, decide_eq_true_eq] at h
  simp only [SeqAt.shaped, Bool.and_eq_true, decide_eq_true_eq]
  exact ⟨h.1, by omega⟩
theorem shD_mono {n m : Nat} {d : D} (h : shD n d = true) (hn : n ≤ m) : shD m d = true := by
  simp only [shD, Bool.and_eq_true, decide_eq_true_eq] at h ⊢
  exact ⟨h.1, by omega⟩
theorem shD_ints (l : List Int) : shD 1 (.tuple (l.map .int)) = true := shD_tup fun x hx => by obtain ⟨i, _, rfl⟩ := List.mem_map.mp hx; exact shD_int 0 i
theorem shD_lints (l : List Int) : shD 1 (.list (l.map .int)) = true := shD_lst fun x hx => by obtain ⟨i, _, rfl⟩ := List.mem_map.mp hx; exact shD_int 0 i
theorem eqv_int (a b : Int) : PyData.eqv (.int a) (.int b) = decide (a = b) := by
  by_cases h : a = b <;> simp [PyData.eqv, h]
theorem eqvAll_int : ∀ a b : List Int, PyData.eqvAll (a.map .int) (b.map .int) = decide (a = b)
  | [], [] => by simp [PyData.eqvAll]
  | [], _ :: _ => by simp [PyData.eqvAll]
  | _ :: _, [] => by simp [PyData.eqvAll]
  | x :: a, y :: b => by
    simp only [List.map_cons, PyData.eqvAll, eqv_int, eqvAll_int a b]
    by_cases h : x = y <;> by_cases h2 : a = b <;> simp [h, h2]
theorem eqv_ints (a b : List Int) : PyData.eqv (.tuple (a.map .int)) (.tuple (b.map .int)) = decide (a = b) := by
  simp only [PyData.eqv]; exact eqvAll_int a b
theorem gEq_int (a b : Int) : gEq (.int a) (.int b) = some (decide (a = b)) := by
  simp [gEq, sh_int, eqv_int]
theorem gNe_int (a b : Int) : gNe (.int a) (.int b) = some (!decide (a = b)) := by
  simp [gNe, sh_int, eqv_int]
theorem gIxC_tup (ds : List D) (i : Int) : gIxC (.tuple ds) (.int i) = atI ds i := by simp [gIxC, gIx]
theorem gIxC_lst (ds : List D) (i : Int) : gIxC (.list ds) (.int i) = atI ds i := by simp [gIxC, gIx]
theorem hasD_int (x : Int) : ∀ l : List Int, hasD (l.map .int) (.int x) = decide (x ∈ l)
  | [] => by simp [hasD]
  | y :: l => by
    have ih := hasD_int x l
    simp only [hasD] at ih ⊢
    simp only [List.map_cons, List.any_cons, eqv_int, ih, List.mem_cons]
    by_cases h : y = x
    · simp [h]
    · have : ¬ x = y := fun z => h z.symm
      simp [h, this]
theorem gInC_int (x : Int) (l : List Int) : gInC (.int x) (.tuple (l.map .int)) = some (decide (x ∈ l)) := by
  simp [gInC, gIn, sh_int, shD_ok (shD_ints l) (by omega), hasD_int]
theorem gInC_lint (x : Int) (l : List Int) : gInC (.int x) (.list (l.map .int)) = some (decide (x ∈ l)) := by
  simp [gInC, gIn, sh_int, shD_ok (shD_lints l) (by omega), hasD_int]
theorem gNotInC_int (x : Int) (l : List Int) : gNotInC (.int x) (.tuple (l.map .int)) = some (!decide (x ∈ l)) := by
  simp [gNotInC, gInC_int]
theorem gNotInC_lint (x : Int) (l : List Int) : gNotInC (.int x) (.list (l.map .int)) = some (!decide (x ∈ l)) := by
  simp [gNotInC, gInC_lint]
theorem atI_map {α β : Type} (f : α → β) (l : List α) (i : Int) : atI (l.map f) i = (atI l i).map f := by
  unfold atI
  rw [List.length_map]
  cases ixN l.length i <;> simp
theorem atI_m1 {α : Type} {l : List α} (h : l ≠ []) : atI l (-1) = some (l.getLast h) := by
  conv => lhs; rw [← List.dropLast_concat_getLast h]
  exact atI_last _ _
theorem at0 {α : Type} (x : α) (l : List α) : atI (x :: l) 0 = some x := atI_nat (j := 0) rfl
theorem at1 {α : Type} (x y : α) (l : List α) : atI (x :: y :: l) 1 = some y := atI_nat (j := 1) rfl
theorem at2 {α : Type} (x y z : α) (l : List α) : atI (x :: y :: z :: l) 2 = some z := atI_nat (j := 2) rfl
theorem at3 {α : Type} (x y z u : α) (l : List α) : atI (x :: y :: z :: u :: l) 3 = some u := atI_nat (j := 3) rfl
theorem cutD_init {α : Type} (l : List α) : cutD l none (some (-1)) = l.dropLast := by
  unfold cutD
  rw [List.dropLast_eq_take]
  cases l with
  | nil => simp
  | cons x l =>
    have h0 : HT.sIx (x :: l).length 0 none = 0 := HT.sIx_none ..
    rw [h0, List.drop_zero, Nat.sub_zero]
    congr 1
    simp only [HT.sIx, List.length_cons, Nat.add_sub_cancel]
    rw [if_pos (by omega)]
    omega
end DL
namespace DL
open PySem PySem.Spec PyProof.Rows L2
theorem forL_nil (t : TF) (b : SF) (env : DEnv) : forL t b [] env = some (.nx, env) := by rfl
theorem forL_cons (t : TF) (b : SF) (d : D) (ds : List D) (env : DEnv) : forL t b (d :: ds) env = (match t d env with
  | none => none
  | some e => match b e with
    | some (.nx, e) => forL t b ds e
    | some (.ct, e) => forL t b ds e
    | some (.bk, e) => some (.nx, e)
    | r => r) := by
  show (match t d env with
    | none => none
    | some e1 => match b e1 with
      | some (.nx, e) => forL t b ds e
      | some (.ct, e) => forL t b ds e
      | some (.bk, e) => some (.nx, e)
      | some (.rt c, e) => some (.rt c, e)
      | some (.ex x, e) => some (.ex x, e)
      | none => none) = _
  cases t d env with
  | none => rfl
  | some e1 =>
    cases hb : b e1 with
    | none => simp [hb]
    | some p => obtain ⟨s, e⟩ := p; cases s <;> simp [hb]
/-- 0 .. n - 1 -/
def upto (n : Int) : List Int := (List.range n.toNat).map fun (i : Nat) => (i : Int)
end DL
namespace DL
open PySem PySem.Spec PyProof.Rows L2
/-- a .. b - 1 -/
def ranL (a b : Int) : List Int := (List.range (b - a).toNat).map fun (i : Nat) => a + (i : Int)
theorem gRange1_int {n : Int} (h0 : -(2 ^ 62) ≤ n) (h1 : n < 2 ^ 62) : gRange1 [.int n] = some ((upto n).map .int) := by
  unfold gRange1
  dsimp only
  rw [if_pos ⟨h0, h1⟩]
  unfold rangeD upto
  rw [List.map_map]
  simp [Function.comp_def]
theorem gRange2_int {a b : Int} (h0 : -(2 ^ 62) ≤ a) (h1 : a < 2 ^ 62) (h2 : -(2 ^ 62) ≤ b) (h3 : b < 2 ^ 62) : gRange2 [.int a, .int b] = some ((ranL a b).map .int) := by
  unfold gRange2
  dsimp only
  rw [if_pos ⟨h0, h1, h2, h3⟩]
  unfold rangeD ranL
  rw [List.map_map]
  rfl
end DL
namespace DL
open PySem PySem.Spec PyProof.Rows L2
theorem intsD_int' : ∀ l : List Int, intsD (l.map .int) = some l
  | [] => rfl
  | x :: l => by simp [intsD, intsD_int' l]
theorem gSum_int (l : List Int) : gSum (.list (l.map .int)) = some (.int l.sum) := by simp [gSum, intsD_int']
theorem gMulA_int {a b : Int} (h0 : -(2 ^ 64) < a) (h1 : a < 2 ^ 64) : gMulA (.int a) (.int b) = some (.int (a * b)) := by
  have : mulOk a b = true := by unfold mulOk; exact @decide_eq_true _ (Classical.propDecidable _) (.inl ⟨h0, h1⟩)
  simp [gMulA, gMul, this]
end DL
namespace DL
open PySem PySem.Spec PyProof.Rows L2
theorem gAdd_int (a b : Int) : gAdd (.int a) (.int b) = some (.int (a + b)) := by rfl
theorem gSub_int (a b : Int) : gSub (.int a) (.int b) = some (.int (a - b)) := by rfl
end DL
namespace DL
open PySem PySem.Spec PyProof.Rows L2
theorem lcL_nil (own : List Nat) (t : TF) (c : BF) (f : EF) (env : DEnv) : lcL own t c f [] env = some ([], env) := rfl
theorem lcL_cons (own : List Nat) (t : TF) (c : BF) (f : EF) (d : D) (ds : List D) (env : DEnv) : lcL own t c f (d :: ds) env = (match t d env with
    | none => none
    | some e1 => match c e1 with
      | none => none
      | some (false, e2) => lcL own t c f ds (wipeD own e2)
      | some (true, e2) => match f e2 with
        | none => none
        | some (y, e3) => match lcL own t c f ds (wipeD own e3) with
          | none => none
          | some (ys, e4) => some (y :: ys, e4)) := rfl
theorem lc2L_nil (own own1 : List Nat) (t : TF) (c : BF) (it1 : AF) (t1 : TF) (c1 : BF) (f : EF) (env : DEnv) : lc2L own own1 t c it1 t1 c1 f [] env = some ([], env) := rfl
theorem lc2L_cons (own own1 : List Nat) (t : TF) (c : BF) (it1 : AF) (t1 : TF) (c1 : BF) (f : EF) (d : D) (ds : List D) (env : DEnv) : lc2L own own1 t c it1 t1 c1 f (d :: ds) env = (match t d env with
    | none => none
    | some e1 => match c e1 with
      | none => none
      | some (false, e2) => lc2L own own1 t c it1 t1 c1 f ds (wipeD own e2)
      | some (true, e2) => match it1 e2 with
        | none => none
        | some (ds1, e3) => match lcL own1 t1 c1 f ds1 (wipeD own1 e3) with
          | none => none
          | some (ys, e4) => match lc2L own own1 t c it1 t1 c1 f ds (wipeD own e4) with
            | none => none
            | some (zs, e5) => some (ys ++ zs, e5)) := rfl
end DL
namespace DL
open PySem PySem.Spec PyProof.Rows L2
theorem backs_sh : ∀ (cs : List Cell) (e : DEnv), (∀ c ∈ cs, c.owned = false) → backs cs e = cs
  | [], _, _ => by simp [backs]
  | c :: cs, [], _ => by simp [backs]
  | c :: cs, e :: es, h => by
    have h1 := h c List.mem_cons_self
    rw [backs, h1, backs_sh cs es fun d hd => h d (List.mem_cons_of_mem _ hd)]
    simp
/-- a def of shared arguments, by its answer alone -/
theorem defF_sh {n m : Nat} {W : List Nat} {b : SF} {cs : List Cell} {r : Cell} (h1 : cs.length = n) (h2 : ownOk W cs = true) (h3 : ∀ c ∈ cs, c.owned = false) (hb : ∃ e, b (cs ++ List.replicate m .un) = some (.rt r, e)) : defF n m W b cs = some (r, cs) := by
  obtain ⟨e, hb⟩ := hb
  unfold defF
  rw [if_pos ⟨h1, h2⟩, hb]
  dsimp only
  rw [backs_sh cs e h3]
end DL
namespace DL
open PySem PySem.Spec PyProof.Rows L2
theorem gMulA_intR {a b : Int} (h0 : -(2 ^ 64) < b) (h1 : b < 2 ^ 64) : gMulA (.int a) (.int b) = some (.int (a * b)) := by
  have : mulOk a b = true := by unfold mulOk; exact @decide_eq_true _ (Classical.propDecidable _) (.inr ⟨h0, h1⟩)
  simp [gMulA, gMul, this]
theorem gFdiv_int {a b : Int} (h0 : b ≠ 0) (h1 : b.natAbs < 1073741824) : gFdiv (.int a) (.int b) = some (.int (a.fdiv b)) := by
  unfold gFdiv
  dsimp only
  rw [if_pos ⟨h0, h1⟩]
theorem gMod_int {a b : Int} (h0 : b ≠ 0) : gMod (.int a) (.int b) = some (.int (a.fmod b)) := by
  unfold gMod
  dsimp only
  rw [if_pos h0]
theorem gPow_int {a b : Int} (h0 : 0 ≤ b) (h1 : b ≤ 1000000) (h2 : a.natAbs < 2 ^ 64) : gPow (.int a) (.int b) = some (.int (a ^ b.toNat)) := by
  unfold gPow
  dsimp only
  rw [if_pos ⟨h0, h1, h2⟩]
end DL
namespace DL
open PySem PySem.Spec PyProof.Rows L2
/-! loops by what stays true -/
def turn (t : TF) (b : SF) (d : D) (env : DEnv) : Option (Sg × DEnv) := match t d env with
  | none => none
  | some e => b e
theorem forL_turn (t : TF) (b : SF) (d : D) (ds : List D) (env : DEnv) : forL t b (d :: ds) env = (match turn t b d env with
    | some (.nx, e) => forL t b ds e
    | some (.ct, e) => forL t b ds e
    | some (.bk, e) => some (.nx, e)
    | r => r) := by
  rw [forL_cons]; unfold turn
  cases t d env with
  | none => rfl
  | some e =>
    cases hb : b e with
    | none => simp [hb]
    | some p => obtain ⟨s, e'⟩ := p; cases s <;> simp [hb]
theorem forL_inv_from (t : TF) (b : SF) (all : List D) (P : Nat → DEnv → Prop) (h : ∀ k d env, all[k]? = some d → P k env → ∃ env', (turn t b d env = some (.nx, env') ∨ turn t b d env = some (.ct, env')) ∧ P (k + 1) env') :
    ∀ (ds : List D) (k : Nat) (env : DEnv), all.drop k = ds → P k env → ∃ env', forL t b ds env = some (.nx, env') ∧ P (k + ds.length) env'
  | [], k, env, _, hp => ⟨env, forL_nil .., hp⟩
  | d :: ds, k, env, hd, hp => by
    have hk : k < all.length := Nat.lt_of_not_le fun z => by rw [List.drop_of_length_le z] at hd; cases hd
    rw [List.drop_eq_getElem_cons hk] at hd
    injection hd with h1 h2
    obtain ⟨e1, h3, h4⟩ := h k d env (by rw [List.getElem?_eq_getElem hk, h1]) hp
    obtain ⟨e2, h5, h6⟩ := forL_inv_from t b all P h ds (k + 1) e1 h2 h4
    refine ⟨e2, ?_, by rw [List.length_cons]; rw [show k + (ds.length + 1) = k + 1 + ds.length by omega]; exact h6⟩
    rw [forL_turn]
    rcases h3 with h3 | h3 <;> rw [h3] <;> exact h5
/-- a loop that runs to its end -/
theorem forL_inv {t : TF} {b : SF} {ds : List D} {env : DEnv} (P : Nat → DEnv → Prop) (h0 : P 0 env) (h : ∀ k d env, ds[k]? = some d → P k env → ∃ env', (turn t b d env = some (.nx, env') ∨ turn t b d env = some (.ct, env')) ∧ P (k + 1) env') :
    ∃ env', forL t b ds env = some (.nx, env') ∧ P ds.length env' := by
  have := forL_inv_from t b ds P h ds 0 env rfl h0
  simpa using this
/-- a loop that looks for something, and may answer: each turn goes on with the invariant or answers -/
theorem forL_find_from (t : TF) (b : SF) (all : List D) (P : Nat → DEnv → Prop) (R : Nat → Cell → DEnv → Prop) (h : ∀ k d env, all[k]? = some d → P k env → (∃ env', (turn t b d env = some (.nx, env') ∨ turn t b d env = some (.ct, env')) ∧ P (k + 1) env') ∨ ∃ r env', turn t b d env = some (.rt r, env') ∧ R k r env') :
    ∀ (ds : List D) (k : Nat) (env : DEnv), all.drop k = ds → P k env → (∃ env', forL t b ds env = some (.nx, env') ∧ P (k + ds.length) env') ∨ ∃ j r env', forL t b ds env = some (.rt r, env') ∧ R j r env'
  | [], k, env, _, hp => .inl ⟨env, forL_nil .., hp⟩
  | d :: ds, k, env, hd, hp => by
    have hk : k < all.length := Nat.lt_of_not_le fun z => by rw [List.drop_of_length_le z] at hd; cases hd
    rw [List.drop_eq_getElem_cons hk] at hd
    injection hd with h1 h2
    rcases h k d env (by rw [List.getElem?_eq_getElem hk, h1]) hp with ⟨e1, h3, h4⟩ | ⟨r, e1, h3, h4⟩
    · rcases forL_find_from t b all P R h ds (k + 1) e1 h2 h4 with ⟨e2, h5, h6⟩ | ⟨j, r, e2, h5, h6⟩
      · refine .inl ⟨e2, ?_, by rw [List.length_cons]; rw [show k + (ds.length + 1) = k + 1 + ds.length by omega]; exact h6⟩
        rw [forL_turn]
        rcases h3 with h3 | h3 <;> rw [h3] <;> exact h5
      · refine .inr ⟨j, r, e2, ?_, h6⟩
        rw [forL_turn]
        rcases h3 with h3 | h3 <;> rw [h3] <;> exact h5
    · refine .inr ⟨k, r, e1, ?_, h4⟩
      rw [forL_turn, h3]
theorem forL_find {t : TF} {b : SF} {ds : List D} {env : DEnv} (P : Nat → DEnv → Prop) (R : Nat → Cell → DEnv → Prop) (h0 : P 0 env) (h : ∀ k d env, ds[k]? = some d → P k env → (∃ env', (turn t b d env = some (.nx, env') ∨ turn t b d env = some (.ct, env')) ∧ P (k + 1) env') ∨ ∃ r env', turn t b d env = some (.rt r, env') ∧ R k r env') :
    (∃ env', forL t b ds env = some (.nx, env') ∧ P ds.length env') ∨ ∃ j r env', forL t b ds env = some (.rt r, env') ∧ R j r env' := by
  have := forL_find_from t b ds P R h ds 0 env rfl h0
  simpa using this
/-! comprehensions -/
def lcT (own : List Nat) (t : TF) (c : BF) (f : EF) (d : D) (env : DEnv) : Option (Option D × DEnv) := match t d env with
  | none => none
  | some e1 => match c e1 with
    | none => none
    | some (false, e2) => some (none, wipeD own e2)
    | some (true, e2) => match f e2 with
      | none => none
      | some (y, e3) => some (some y, wipeD own e3)
theorem lcL_turn (own : List Nat) (t : TF) (c : BF) (f : EF) (d : D) (ds : List D) (env : DEnv) : lcL own t c f (d :: ds) env = (match lcT own t c f d env with
    | none => none
    | some (o, e) => match lcL own t c f ds e with
      | none => none
      | some (ys, e') => some (o.toList ++ ys, e')) := by
  rw [lcL_cons]; unfold lcT
  cases h1 : t d env with
  | none => rfl
  | some e1 =>
    dsimp only
    cases h2 : c e1 with
    | none => rfl
    | some p =>
      obtain ⟨b, e2⟩ := p
      cases b with
      | false =>
        dsimp only
        cases lcL own t c f ds (wipeD own e2) with
        | none => rfl
        | some q => obtain ⟨ys, e'⟩ := q; rfl
      | true =>
        dsimp only
        cases h3 : f e2 with
        | none => rfl
        | some q =>
          obtain ⟨y, e3⟩ := q
          dsimp only
          cases lcL own t c f ds (wipeD own e3) with
          | none => rfl
          | some q => obtain ⟨ys, e'⟩ := q; rfl
theorem lcL_inv_from (own : List Nat) (t : TF) (c : BF) (f : EF) (all : List D) (P : Nat → List D → DEnv → Prop) (h : ∀ k d ys env, all[k]? = some d → P k ys env → ∃ o env', lcT own t c f d env = some (o, env') ∧ P (k + 1) (ys ++ o.toList) env') :
    ∀ (ds : List D) (k : Nat) (ys : List D) (env : DEnv), all.drop k = ds → P k ys env → ∃ zs env', lcL own t c f ds env = some (zs, env') ∧ P (k + ds.length) (ys ++ zs) env'
  | [], k, ys, env, _, hp => ⟨[], env, lcL_nil .., by simpa using hp⟩
  | d :: ds, k, ys, env, hd, hp => by
    have hk : k < all.length := Nat.lt_of_not_le fun z => by rw [List.drop_of_length_le z] at hd; cases hd
    rw [List.drop_eq_getElem_cons hk] at hd
    injection hd with h1 h2
    obtain ⟨o, e1, h3, h4⟩ := h k d ys env (by rw [List.getElem?_eq_getElem hk, h1]) hp
    obtain ⟨zs, e2, h5, h6⟩ := lcL_inv_from own t c f all P h ds (k + 1) _ e1 h2 h4
    refine ⟨o.toList ++ zs, e2, ?_, by rw [List.length_cons, ← List.append_assoc]; rw [show k + (ds.length + 1) = k + 1 + ds.length by omega]; exact h6⟩
    rw [lcL_turn, h3]
    dsimp only
    rw [h5]
theorem lcL_inv {own : List Nat} {t : TF} {c : BF} {f : EF} {ds : List D} {env : DEnv} (P : Nat → List D → DEnv → Prop) (h0 : P 0 [] env) (h : ∀ k d ys env, ds[k]? = some d → P k ys env → ∃ o env', lcT own t c f d env = some (o, env') ∧ P (k + 1) (ys ++ o.toList) env') :
    ∃ zs env', lcL own t c f ds env = some (zs, env') ∧ P ds.length zs env' := by
  have := lcL_inv_from own t c f ds P h ds 0 [] env rfl h0
  simpa using this
/-- a comprehension that leaves the names as they are -/
theorem lcL_pure {own : List Nat} {t : TF} {c : BF} {f : EF} {env : DEnv} (g : D → Option D) : ∀ {ds : List D}, (∀ d ∈ ds, lcT own t c f d env = some (g d, env)) → lcL own t c f ds env = some (ds.filterMap g, env)
  | [], _ => lcL_nil ..
  | d :: ds, h => by
    rw [lcL_turn, h d List.mem_cons_self]
    dsimp only
    rw [lcL_pure g fun x hx => h x (List.mem_cons_of_mem _ hx)]
    cases hg : g d <;> simp [List.filterMap_cons, hg]
/-- over things of a kind -/
theorem lcL_of {α : Type} {own : List Nat} {t : TF} {c : BF} {f : EF} {env : DEnv} (i : α → D) (p : α → Bool) (g : α → D) : ∀ {xs : List α}, (∀ x ∈ xs, lcT own t c f (i x) env = some (if p x then some (g x) else none, env)) → lcL own t c f (xs.map i) env = some ((xs.filter p).map g, env)
  | [], _ => lcL_nil ..
  | x :: xs, h => by
    rw [List.map_cons, lcL_turn, h x List.mem_cons_self]
    dsimp only
    rw [lcL_of i p g fun y hy => h y (List.mem_cons_of_mem _ hy)]
    cases hg : p x <;> simp [List.filter_cons, hg]
/-! all, any -/
def genT (own : List Nat) (t : TF) (c : BF) (f : EF) (d : D) (env : DEnv) : Option (Option Bool × DEnv) := match t d env with
  | none => none
  | some e1 => match c e1 with
    | none => none
    | some (false, e2) => some (none, wipeD own e2)
    | some (true, e2) => match f e2 with
      | some (.bool b, e3) => some (some b, wipeD own e3)
      | _ => none
theorem genB_turn (go : Bool) (own : List Nat) (t : TF) (c : BF) (f : EF) (d : D) (ds : List D) (env : DEnv) : genB go own t c f (d :: ds) env = (match genT own t c f d env with
    | none => none
    | some (none, e) => genB go own t c f ds e
    | some (some b, e) => if b = go then genB go own t c f ds e else some (b, e)) := by
  conv => lhs; unfold genB
  unfold genT
  cases h1 : t d env with
  | none => rfl
  | some e1 =>
    dsimp only
    cases h2 : c e1 with
    | none => rfl
    | some p =>
      obtain ⟨b, e2⟩ := p
      cases b with
      | false => rfl
      | true =>
        dsimp only
        cases h3 : f e2 with
        | none => rfl
        | some q =>
          obtain ⟨y, e3⟩ := q
          cases y <;> rfl
theorem genB_all {α : Type} {own : List Nat} {t : TF} {c : BF} {f : EF} {env : DEnv} (i : α → D) (p : α → Bool) : ∀ {xs : List α}, (∀ x ∈ xs, genT own t c f (i x) env = some (some (p x), env)) → genB true own t c f (xs.map i) env = some (xs.all p, env)
  | [], _ => rfl
  | x :: xs, h => by
    rw [List.map_cons, genB_turn, h x List.mem_cons_self]
    dsimp only
    have := genB_all i p (xs := xs) fun y hy => h y (List.mem_cons_of_mem _ hy)
    cases hp : p x
    · simp [hp]
    · simp [hp, this]
theorem genB_any {α : Type} {own : List Nat} {t : TF} {c : BF} {f : EF} {env : DEnv} (i : α → D) (p : α → Bool) : ∀ {xs : List α}, (∀ x ∈ xs, genT own t c f (i x) env = some (some (p x), env)) → genB false own t c f (xs.map i) env = some (xs.any p, env)
  | [], _ => rfl
  | x :: xs, h => by
    rw [List.map_cons, genB_turn, h x List.mem_cons_self]
    dsimp only
    have := genB_any i p (xs := xs) fun y hy => h y (List.mem_cons_of_mem _ hy)
    cases hp : p x
    · simp [hp, this]
    · simp [hp]
/-! sizes, told apart -/
def szN {α : Type} (n : Nat) (x : α) : Option α := if n ≤ sizeLine then some x else none
theorem szN_ok {α : Type} {n : Nat} {x : α} (h : n ≤ 1000000) : szN n x = some x := by
  unfold szN; rw [if_pos (by rw [sizeLine_eq]; omega)]
section
variable {c : Cell} {cs : DEnv}
theorem fTup_s (r : AF) : fTup r (c :: cs) = bnd (r (c :: cs)) fun ds e => szN ds.length (.tuple ds, e) := rfl
theorem oLst_s (r : AF) : oLst r (c :: cs) = bnd (r (c :: cs)) fun ds e => szN ds.length (.ow ds, e) := rfl
theorem oLc_s (own : List Nat) (it : AF) (t : TF) (c0 : BF) (f : EF) : oLc own it t c0 f (c :: cs) = (bnd (it (c :: cs)) fun ds e0 => if ownNo own e0 then match lcL own t c0 f ds (wipeD own e0) with
  | some (ys, e) => szN ys.length (.ow ys, restD own e0 e)
  | none => none
  else none) := rfl
theorem oLc2_s (own own1 : List Nat) (it : AF) (t : TF) (c0 : BF) (it1 : AF) (t1 : TF) (c1 : BF) (f : EF) : oLc2 own own1 it t c0 it1 t1 c1 f (c :: cs) = (bnd (it (c :: cs)) fun ds e0 => if ownNo own e0 then match lc2L own own1 t c0 it1 t1 c1 f ds (wipeD own e0) with
  | some (ys, e) => szN ys.length (.ow ys, restD own e0 e)
  | none => none
  else none) := rfl
theorem sExtO_s (i : Nat) (o : OF) : sExtO i o (c :: cs) = (match (c :: cs)[i]? with
  | some (.ow _) => bnd (o (c :: cs)) fun c e1 => match c, e1[i]? with
    | .ow ys, some (.ow xs) => szN (xs.length + ys.length) (.nx, e1.set i (.ow (xs ++ ys)))
    | _, _ => none
  | _ => none) := rfl
theorem mAppend_ok {ds : List D} {x : D} (h : ds.length < 1000000) : mAppend ds [x] = some (.none, ds ++ [x]) := by
  have : ds.length < sizeLine := by rw [sizeLine_eq]; omega
  unfold mAppend
  simp only [this, if_true]
end

theorem forL_run {t : TF} {b : SF} {ds : List D} {env : DEnv} {R : DEnv → Prop} (P : Nat → DEnv → Prop) (h0 : P 0 env) (hR : ∀ e, P ds.length e → R e) (h : ∀ k d env, ds[k]? = some d → P k env → ∃ env', (turn t b d env = some (.nx, env') ∨ turn t b d env = some (.ct, env')) ∧ P (k + 1) env') :
    ∃ e, forL t b ds env = some (.nx, e) ∧ R e := by
  obtain ⟨e, h1, h2⟩ := forL_inv P h0 h
  exact ⟨e, h1, hR e h2⟩
theorem lcL_run {own : List Nat} {t : TF} {c : BF} {f : EF} {ds : List D} {env : DEnv} {R : List D → DEnv → Prop} (P : Nat → List D → DEnv → Prop) (h0 : P 0 [] env) (hR : ∀ zs e, P ds.length zs e → R zs e) (h : ∀ k d ys env, ds[k]? = some d → P k ys env → ∃ o env', lcT own t c f d env = some (o, env') ∧ P (k + 1) (ys ++ o.toList) env') :
    ∃ zs e, lcL own t c f ds env = some (zs, e) ∧ R zs e := by
  obtain ⟨zs, e, h1, h2⟩ := lcL_inv P h0 h
  exact ⟨zs, e, h1, hR zs e h2⟩

theorem gMin1_int (l : List Int) : gMin1 (.list (l.map .int)) = (minI l).map .int := by simp [gMin1, intsD_int']
theorem gMax1_int (l : List Int) : gMax1 (.list (l.map .int)) = (maxI l).map .int := by simp [gMax1, intsD_int']
theorem isT_int_int (i : Int) : isT "int" (.int i) = true := by rfl
theorem isT_bool_int (i : Int) : isT "bool" (.int i) = false := by rfl
theorem isT_tup_int (i : Int) : isT "tuple" (.int i) = false := by rfl
theorem isT_lst_int (i : Int) : isT "list" (.int i) = false := by rfl
theorem isT_tup_tup (l : List D) : isT "tuple" (.tuple l) = true := by rfl
theorem isT_tup_lst (l : List D) : isT "tuple" (.list l) = false := by rfl
theorem isT_lst_tup (l : List D) : isT "list" (.tuple l) = false := by rfl
theorem isT_lst_lst (l : List D) : isT "list" (.list l) = true := by rfl
theorem isT_bool_bool (b : Bool) : isT "bool" (.bool b) = true := by rfl
theorem isT_int_bool (b : Bool) : isT "int" (.bool b) = true := by rfl
theorem isT_tup_bool (b : Bool) : isT "tuple" (.bool b) = false := by rfl
theorem isT_lst_bool (b : Bool) : isT "list" (.bool b) = false := by rfl
theorem isT_tup_non : isT "tuple" .none = false := by rfl
theorem isT_lst_non : isT "list" .none = false := by rfl
theorem isT_bool_non : isT "bool" .none = false := by rfl
theorem gAdd_lst {a b : List D} (h : a.length + b.length ≤ 1000000) : gAdd (.list a) (.list b) = some (.list (a ++ b)) := by
  have : a.length + b.length ≤ sizeLine := by rw [sizeLine_eq]; omega
  simp only [gAdd, this, if_true]
theorem gNe_nil (l : List Int) : gNe (.list (l.map .int)) (.list []) = some (!decide (l = [])) := by
  have h1 : SeqAt.shaped (.list (l.map PyData.int)) = true := shD_ok (shD_lints l) (by omega)
  have h2 : SeqAt.shaped (.list []) = true := by decide
  have h3 := eqvAll_int l []
  simp only [gNe, h1, h2, Bool.and_self, if_true, PyData.eqv]
  rw [show ([] : List PyData) = ([] : List Int).map .int from rfl, h3]
/-- sorted, of ints -/
theorem sort_ints (l : List Int) : (l.map PyData.int).mergeSort (PySem.W.dataLe false id) = (l.mergeSort fun a b => decide (a ≤ b)).map .int := by
  rw [List.map_mergeSort (s := PySem.W.dataLe false id)]
  intro a _ b _
  have := congrFun (congrFun (PySem.W.dataLe_int (fun a : Int => a)) a) b
  exact this.symm
theorem sortOk_ints (l : List Int) : sortOk (l.map PyData.int) = true := by
  unfold sortOk
  simp only [Bool.and_eq_true, Bool.or_eq_true, List.all_eq_true, List.mem_map]
  refine ⟨⟨?_, .inr ?_⟩, ?_⟩
  · rintro _ ⟨p, _, rfl⟩ _ ⟨q, _, rfl⟩
    simp [PySem.W.alike]
  · rintro _ ⟨p, hp, rfl⟩
    rfl
  · rintro _ ⟨p, _, rfl⟩
    exact sh_int p
theorem sorted_le (l : List Int) : (l.mergeSort fun a b => decide (a ≤ b)).Pairwise (· ≤ ·) := by
  have := List.pairwise_mergeSort (le := fun a b : Int => decide (a ≤ b)) (fun a b c h1 h2 => by simp at *; omega) (fun a b => by simp; omega) l
  exact this.imp fun h => by simpa using h
theorem sorted_lt {l : List Int} (h : l.Nodup) : (l.mergeSort fun a b => decide (a ≤ b)).Pairwise (· < ·) := by
  have h1 := sorted_le l
  have h2 : (l.mergeSort fun a b => decide (a ≤ b)).Nodup := (List.mergeSort_perm l _).nodup_iff.mpr h
  exact (h1.and h2).imp fun ⟨a, b⟩ => by omega
end DL
namespace DL
open PySem PySem.Spec PyProof.Rows L2
/-- a loop that answers at the first thing that is so -/
theorem forL_first {α : Type} {t : TF} {b : SF} (i : α → D) (p : α → Bool) (rr : α → Cell) (E : DEnv → Prop) : ∀ (xs : List α) (env : DEnv), (∀ x ∈ xs, ∀ env, E env → (p x = true → ∃ e', turn t b (i x) env = some (.rt (rr x), e')) ∧ (p x = false → ∃ e', turn t b (i x) env = some (.nx, e') ∧ E e')) → E env →
    match xs.find? p with
    | some x => ∃ e', forL t b (xs.map i) env = some (.rt (rr x), e')
    | none => ∃ e', forL t b (xs.map i) env = some (.nx, e') ∧ E e'
  | [], env, _, he => ⟨env, forL_nil .., he⟩
  | x :: xs, env, h, he => by
    obtain ⟨h1, h2⟩ := h x List.mem_cons_self env he
    rw [List.find?_cons]
    cases hp : p x with
    | true =>
      obtain ⟨e', h3⟩ := h1 hp
      exact ⟨e', by rw [List.map_cons, forL_turn, h3]⟩
    | false =>
      obtain ⟨e1, h3, h4⟩ := h2 hp
      have := forL_first i p rr E xs e1 (fun y hy => h y (List.mem_cons_of_mem _ hy)) h4
      rw [List.map_cons, forL_turn, h3]
      exact this
end DL
namespace DL
open PySem PySem.Spec PyProof.Rows L2
noncomputable def repF (xs : List D) (k : Int) (e : DEnv) : Option (Cell × DEnv) := @ite _ (-(2 ^ 63) ≤ k ∧ k < 2 ^ 63 ∧ xs.length * k.toNat ≤ sizeLine) (Classical.propDecidable _) (some (.ow (List.replicate k.toNat xs).flatten, e)) none
theorem oRep_s {c : Cell} {cs : DEnv} (o : OF) (f : EF) : oRep o f (c :: cs) = (bnd (o (c :: cs)) fun c e1 => match c with
  | .ow xs => match f e1 with
    | some (.int k, e2) => repF xs k e2
    | _ => none
  | _ => none) := rfl
theorem repF_0 (xs : List D) (e : DEnv) : repF xs 0 e = some (.ow [], e) := by
  unfold repF
  rw [if_pos ⟨by omega, by omega, by simp⟩]; rfl
theorem repF_1 {xs : List D} (e : DEnv) (h : xs.length ≤ 1000000) : repF xs 1 e = some (.ow xs, e) := by
  unfold repF
  rw [if_pos ⟨by omega, by omega, by rw [sizeLine_eq]; simp; omega⟩]
  simp
theorem repF_n {xs : List D} {k : Int} (e : DEnv) (h : xs.length * k.toNat ≤ 1000000) (h0 : 0 ≤ k) (h1 : k ≤ 1000000) : repF xs k e = some (.ow (List.replicate k.toNat xs).flatten, e) := by
  unfold repF
  rw [if_pos ⟨by omega, by omega, by rw [sizeLine_eq]; omega⟩]
/-! ### the law's comparison -/
noncomputable def b_alike (R : CF) : SF :=
  (sSeq (sIf (bOr (bTru (fIsT "list" (fVar 1))) (bTru (fIsT "tuple" (fVar 1))))
  (sSeq (sIf (bOr (bCmp gNe (fIsT "list" (fVar 0)) (fIsT "list" (fVar 1))) (bCmp gNe (fIsT "tuple" (fVar 0)) (fIsT "tuple" (fVar 1))))
  (sRt (oSh (fC (.bool false))))
  sNil)
  (sRt (oSh (fAnd (fCmp gEq (fBlt (g1 gLen) (aCons (fVar 0) aNil)) (fBlt (g1 gLen) (aCons (fVar 1) aNil))) (fCmp gEq (fFrz (oLc [2] (fArgs gRange1 (aCons (fBlt (g1 gLen) (aCons (fVar 1) aNil)) aNil)) (tgN 2) (bNot (bTru (fFrz (oCall R (cCons (fOp gIxC (fVar 0) (fVar 2)) (cCons (fOp gIxC (fVar 1) (fVar 2)) cNil)))))) (fVar 2))) (fFrz (oLst aNil)))))))
  sNil)
  (sSeq (sIf (bCmp gIsN (fVar 1) (fC .none))
  (sRt (oSh (fCmp gIsN (fVar 0) (fC .none))))
  sNil)
  (sSeq (sIf (bOr (bTru (fIsT "bool" (fVar 1))) (bTru (fIsT "bool" (fVar 0))))
  (sRt (oSh (fAnd (fIsT "bool" (fVar 0)) (fAnd (fIsT "bool" (fVar 1)) (fCmp gEq (fVar 0) (fVar 1))))))
  sNil)
  (sSeq (sIf (bTru (fIsT "int" (fVar 1)))
  (sRt (oSh (fAnd (fIsT "int" (fVar 0)) (fCmp gEq (fVar 0) (fVar 1)))))
  sNil)
  (sRt (oSh (fAnd (fIsT "str" (fVar 0)) (fCmp gEq (fVar 0) (fVar 1)))))))))
noncomputable def F_alike : Nat → CF
  | 0 => fun _ => none
  | n + 1 => defF 2 1 [] (b_alike (F_alike n))
/-- what can be compared, to a depth -/
def okd : Nat → D → Bool
  | 0, _ => false
  | k + 1, d => match d with
    | .list ds => decide (ds.length ≤ 1000000) && ds.all (okd k)
    | .tuple ds => decide (ds.length ≤ 1000000) && ds.all (okd k)
    | .dict _ => false
    | .str s => SeqAt.shaped (.str s)
    | _ => true
theorem gNe_bool (a b : Bool) : gNe (.bool a) (.bool b) = some (!decide (a = b)) := by cases a <;> cases b <;> rfl
theorem gEq_bool (a b : Bool) : gEq (.bool a) (.bool b) = some (decide (a = b)) := by cases a <;> cases b <;> rfl
theorem gEq_nil : gEq (.list []) (.list []) = some true := by rfl
theorem gLen_lst (l : List D) : gLen (.list l) = some (.int l.length) := rfl
theorem gLen_tup (l : List D) : gLen (.tuple l) = some (.int l.length) := rfl
theorem isT_str_str (s : Str) : isT "str" (.str s) = true := by rfl
theorem isT_str_int (s : Int) : isT "str" (.int s) = false := by rfl
theorem isT_int_str (s : Str) : isT "int" (.str s) = false := by rfl
theorem isT_bool_str (s : Str) : isT "bool" (.str s) = false := by rfl
theorem isT_tup_str (s : Str) : isT "tuple" (.str s) = false := by rfl
theorem isT_lst_str (s : Str) : isT "list" (.str s) = false := by rfl
theorem isT_int_tup (s : List D) : isT "int" (.tuple s) = false := by rfl
theorem isT_int_lst (s : List D) : isT "int" (.list s) = false := by rfl
theorem isT_bool_tup (s : List D) : isT "bool" (.tuple s) = false := by rfl
theorem isT_bool_lst (s : List D) : isT "bool" (.list s) = false := by rfl
theorem isT_int_non : isT "int" .none = false := by rfl
end DL
namespace DL
open PySem PySem.Spec PyProof.Rows L2 DL
local macro_rules | `(tactic| walk_at "ev") => `(tactic| try simp -implicitDefEqProofs (disch := first | omega | (simp only [List.length_append, List.length_map, List.length_cons, List.length_nil]; omega)) only [bnd_some, bnd_none, out_some, out_none, fVar_c, fC_c, aNil_c, aCons_c, aStar_c, fOp_c, fUn_c, fCmp_c, bCmp_c, bVal_c, bTru_c, bNot_c, bAnd_c, bOr_c, fAnd_c, fOr_c, fNot_c, fIf_c, fTup_s, oLst_s, szN_ok, mAppend_ok, fFrz_c, oSh_c, cNil_c, cCons_c, cSlot1_c, oCall_c, sSeq_c, sNil_c, sRt_c, sDrop_c, sIf_c, sSet_c, sAsg_c, sFor_c, sParO_c, sExtV_c, sExtO_s, fSl_c, pNone_c, pSome_c, fBlt_c, oList_c, oListRev_c, oSorted_c, fIsT_c, fChain_c, fMd_c, fIt_c, fArgs_c, bYes_c, oLc_s, oLc2_s, fGenB_c, fDictZip_c, fGet2_c, fPk1_c, fPkL_c, fPkR_c, fPkIx_c, bPkL_c, bPkR_c,
  turn, lcT, genT, tgN, tgTup, tgCons, tgNil, gIt, gNeg, gTru, g1, DL.g2, gLen, gInt, getCells, putCells, slotsOf, own?, Cell.owned, isDict, List.drop, List.drop_nil,
  List.cons_append, List.nil_append, List.getElem?_cons_succ, List.getElem?_cons_zero, List.replicate, List.set_cons_succ, List.set_cons_zero, List.length_cons, List.length_nil, Option.map_some, reduceIte, Nat.reduceAdd, Nat.reduceLT, List.nodup_nil, if_true, if_false, Bool.false_eq_true, Bool.true_eq_false, Bool.not_true, Bool.not_false, gSl, cutD_init, gIxC_tup, gIxC_lst, gEq_int, gNe_int, gInC_int, gInC_lint, gNotInC_int, gNotInC_lint, gOrd, List.length_map, at0, at1, at2, at3, DL.peek, isSc, gAdd_int, gSub_int, gSum_int, gMin1_int, gMax1_int, gTuple, gIsN, gNotN, gIsB, gNotB, isNone, isT_int_int, isT_bool_int, isT_tup_tup, isT_tup_lst, isT_lst_tup, isT_lst_lst, isT_bool_bool, isT_tup_bool, isT_lst_bool, isT_tup_int, isT_lst_int, isT_tup_non, isT_lst_non, isT_int_bool, isT_bool_non, DL.wipeD, DL.restD, DL.ownNo, List.all_cons, List.all_nil, Bool.and_true, Bool.and_self, Bool.true_and, and_self, and_true, true_and, decide_true, decide_false, Option.getD_some, oRep_s, repF_0, repF_1, Int.cast_ofNat_Int, Int.natCast_zero, Int.natCast_one, Int.reduceEq, Int.reduceLT, Int.reduceLE, Int.reduceSub, Int.reduceAdd, Int.reduceNe, gNe_bool, gEq_bool, gEq_nil, isT_str_str, isT_int_str, isT_bool_str, isT_tup_str, isT_lst_str, isT_str_int])
theorem gEq_str {s : Str} (h : SeqAt.shaped (.str s) = true) : gEq (.str s) (.str s) = some true := by
  simp only [gEq, h, Bool.and_self, if_true, PyData.eqv]
  simp
theorem lcL_none {own : List Nat} {t : TF} {c : BF} {f : EF} {env : DEnv} : ∀ {ds : List D}, (∀ d ∈ ds, lcT own t c f d env = some (none, env)) → lcL own t c f ds env = some ([], env)
  | [], _ => lcL_nil ..
  | d :: ds, h => by
    rw [lcL_turn, h d List.mem_cons_self]
    dsimp only
    rw [lcL_none fun x hx => h x (List.mem_cons_of_mem _ hx)]
    rfl
theorem mem_upto' {n o : Int} : o ∈ upto n ↔ 0 ≤ o ∧ o < n := by
  unfold upto
  simp only [List.mem_map, List.mem_range]
  constructor
  · rintro ⟨i, hi, rfl⟩; omega
  · rintro ⟨h1, h2⟩; exact ⟨o.toNat, by omega, by omega⟩
theorem alike_seq (k : Nat) (ih : ∀ d, okd k d = true → F_alike k [.sh d, .sh d] = some (.sh (.bool true), [.sh d, .sh d])) (ds : List D) (hs : ds.length ≤ 1000000) (h : ∀ d ∈ ds, okd k d = true) (q : D) (hq : ∀ i, gIxC q (.int i) = atI ds i) (m : Int) (hm : m = ds.length) :
    (bnd (fArgs gRange1 (aCons (fC (.int m)) aNil) [.sh q, .sh q, .un]) fun ds1 e0 => lcL [2] (tgN 2) (bNot (bTru (fFrz (oCall (F_alike k) (cCons (fOp gIxC (fVar 0) (fVar 2)) (cCons (fOp gIxC (fVar 1) (fVar 2)) cNil)))))) (fVar 2) ds1 e0) = some ([], [.sh q, .sh q, .un]) := by
  walk_at "ev"
  rw [gRange1_int (by omega) (by omega)]
  walk_at "ev"
  apply lcL_none
  intro d hd
  obtain ⟨i, hi, rfl⟩ := List.mem_map.mp hd
  have hi := mem_upto'.mp hi
  obtain ⟨j, rfl⟩ : ∃ j : Nat, i = (j : Int) := ⟨i.toNat, by omega⟩
  have hj : j < ds.length := by omega
  have e1 : gIxC q (.int (j : Int)) = some ds[j] := by
    rw [hq]; exact atI_nat (List.getElem?_eq_getElem hj)
  walk_at "ev"
  rw [e1]
  walk_at "ev"
  rw [e1]
  walk_at "ev"
  rw [ih _ (h _ (List.getElem_mem hj))]
  walk_at "ev"
theorem alike_step (k : Nat) (alike_same : ∀ d, okd k d = true → F_alike k [.sh d, .sh d] = some (.sh (.bool true), [.sh d, .sh d])) (d : D) (h : okd (k + 1) d = true) : F_alike (k + 1) [.sh d, .sh d] = some (.sh (.bool true), [.sh d, .sh d]) := by
  refine defF_sh rfl rfl (by simp [Cell.owned]) ?_
  unfold b_alike
  cases d with
  | none => walk_at "ev"; exact ⟨_, rfl⟩
  | bool b => walk_at "ev"; exact ⟨_, rfl⟩
  | int b => walk_at "ev"; simp
  | str b =>
    walk_at "ev"
    rw [gEq_str (by simpa [okd] using h)]
    walk_at "ev"
    exact ⟨_, rfl⟩
  | dict kvs => simp [okd] at h
  | list ds =>
    simp only [okd, Bool.and_eq_true, decide_eq_true_eq, List.all_eq_true] at h
    walk_at "ev"
    have := alike_seq k alike_same ds h.1 h.2 (.list ds) (fun i => gIxC_lst ds i) _ rfl
    revert this
    walk_at "ev"
    rw [gRange1_int (by omega) (by omega)]
    walk_at "ev"
    intro this
    rw [this]
    walk_at "ev"
    exact ⟨_, rfl⟩
  | tuple ds =>
    simp only [okd, Bool.and_eq_true, decide_eq_true_eq, List.all_eq_true] at h
    walk_at "ev"
    have := alike_seq k alike_same ds h.1 h.2 (.tuple ds) (fun i => gIxC_tup ds i) _ rfl
    revert this
    walk_at "ev"
    rw [gRange1_int (by omega) (by omega)]
    walk_at "ev"
    intro this
    rw [this]
    walk_at "ev"
    exact ⟨_, rfl⟩
theorem alike_same (k : Nat) : ∀ (d : D), okd k d = true → F_alike k [.sh d, .sh d] = some (.sh (.bool true), [.sh d, .sh d]) := by
  induction k with
  | zero => intro d h; simp [okd] at h
  | succ k ih => exact alike_step k ih

theorem nd1 (i : Nat) : [i].Nodup = True := by simp
theorem defF_own {n m : Nat} {b : SF} {ds : List D} {cs : List Cell} {r : Cell} {ds' : List D} (h1 : cs.length + 1 = n) (h2 : ∀ c ∈ cs, own? (some c) = false) (h3 : ∀ c ∈ cs, c.owned = false) (hb : ∃ e, b ((.ow ds :: cs) ++ List.replicate m .un) = some (.rt r, .ow ds' :: e)) : defF n m [0] b (.ow ds :: cs) = some (r, .ow ds' :: cs) := by
  obtain ⟨e, hb⟩ := hb
  have ho : ownOk [0] (.ow ds :: cs) = true := by
    unfold ownOk
    rw [List.all_eq_true]
    intro i hi
    have hi := List.mem_range.mp hi
    cases i with
    | zero => rfl
    | succ i =>
      simp only [List.length_cons] at hi
      rw [List.getElem?_cons_succ, List.getElem?_eq_getElem (by omega), h2 _ (List.getElem_mem _)]
      rfl
  unfold defF
  rw [if_pos ⟨by simp [h1], ho⟩, hb]
  dsimp only
  rw [backs]
  rw [if_pos (show (Cell.ow ds).owned = true from rfl), backs_sh cs e h3]

end DL
namespace DL
open PySem PySem.Spec PyProof.Rows L2 DL
local macro_rules | `(tactic| walk_at "ev") => `(tactic| try simp -implicitDefEqProofs (disch := first | omega | (simp only [List.length_append, List.length_map, List.length_cons, List.length_nil]; omega)) only [bnd_some, bnd_none, out_some, out_none, fVar_c, fC_c, aNil_c, aCons_c, aStar_c, fOp_c, fUn_c, fCmp_c, bCmp_c, bVal_c, bTru_c, bNot_c, bAnd_c, bOr_c, fAnd_c, fOr_c, fNot_c, fIf_c, fTup_s, oLst_s, szN_ok, mAppend_ok, fFrz_c, oSh_c, cNil_c, cCons_c, cSlot1_c, oCall_c, sSeq_c, sNil_c, sRt_c, sDrop_c, sIf_c, sSet_c, sAsg_c, sFor_c, sParO_c, sExtV_c, sExtO_s, fSl_c, pNone_c, pSome_c, fBlt_c, oList_c, oListRev_c, oSorted_c, fIsT_c, fChain_c, fMd_c, fIt_c, fArgs_c, bYes_c, oLc_s, oLc2_s, fGenB_c, fDictZip_c, fGet2_c, fPk1_c, fPkL_c, fPkR_c, fPkIx_c, bPkL_c, bPkR_c,
  turn, lcT, genT, tgN, tgTup, tgCons, tgNil, gIt, gNeg, gTru, g1, DL.g2, gLen, gInt, getCells, putCells, slotsOf, own?, Cell.owned, isDict, List.drop, List.drop_nil,
  List.cons_append, List.nil_append, List.getElem?_cons_succ, List.getElem?_cons_zero, List.replicate, List.set_cons_succ, List.set_cons_zero, List.length_cons, List.length_nil, Option.map_some, reduceIte, Nat.reduceAdd, Nat.reduceLT, List.nodup_nil, if_true, if_false, Bool.false_eq_true, Bool.true_eq_false, Bool.not_true, Bool.not_false, gSl, cutD_init, gIxC_tup, gIxC_lst, gEq_int, gNe_int, gInC_int, gInC_lint, gNotInC_int, gNotInC_lint, gOrd, List.length_map, at0, at1, at2, at3, DL.peek, isSc, gAdd_int, gSub_int, gSum_int, gMin1_int, gMax1_int, gTuple, gIsN, gNotN, gIsB, gNotB, isNone, isT_int_int, isT_bool_int, isT_tup_tup, isT_tup_lst, isT_lst_tup, isT_lst_lst, isT_bool_bool, isT_tup_bool, isT_lst_bool, isT_tup_int, isT_lst_int, isT_tup_non, isT_lst_non, isT_int_bool, isT_bool_non, DL.wipeD, DL.restD, DL.ownNo, List.all_cons, List.all_nil, Bool.and_true, Bool.and_self, Bool.true_and, and_self, and_true, true_and, decide_true, decide_false, Option.getD_some, oRep_s, repF_0, repF_1, Int.cast_ofNat_Int, Int.natCast_zero, Int.natCast_one, Int.reduceEq, Int.reduceLT, Int.reduceLE, Int.reduceSub, Int.reduceAdd, Int.reduceNe, nd1])
/-! dicts with int keys -/
def dI (ps : List (Int × D)) : D := .dict (ps.map fun p => (.int p.1, p.2))
theorem pairsD_ints : ∀ ps : List (Int × D), pairsD (ps.map fun p => .tuple [.int p.1, p.2]) = some (ps.map fun p => (Sum.inl p.1, p.2))
  | [] => rfl
  | p :: ps => by
    have ih := pairsD_ints ps
    simp only [List.map_cons, pairsD, skey, ih]
theorem putD_new {kvs : List (Key × D)} {k : Key} {v : D} (h : k ∉ kvs.map (·.1)) : putD kvs k v = kvs ++ [(k, v)] := by
  unfold putD
  rw [if_neg]
  intro hh
  rw [List.any_eq_true] at hh
  obtain ⟨x, hx, he⟩ := hh
  exact h (List.mem_map.mpr ⟨x, hx, by simpa using he⟩)
theorem mergeD_new : ∀ (ps acc : List (Key × D)), ((acc ++ ps).map (·.1)).Nodup → mergeD acc ps = acc ++ ps
  | [], acc, _ => by simp [mergeD]
  | (k, v) :: ps, acc, h => by
    have hk : k ∉ acc.map (·.1) := by
      intro hm
      rw [List.map_append, List.map_cons, List.nodup_append] at h
      exact h.2.2 _ hm _ List.mem_cons_self rfl
    show mergeD (putD acc k v) ps = _
    rw [putD_new hk, mergeD_new ps (acc ++ [(k, v)]) (by simpa using h)]
    simp
theorem gDictP_ints {ps : List (Int × D)} (h : (ps.map (·.1)).Nodup) : gDictP (.list (ps.map fun p => .tuple [.int p.1, p.2])) = some (dI ps) := by
  unfold gDictP
  dsimp only
  rw [pairsD_ints]
  simp only [Option.map_some]
  rw [mergeD_new]
  · unfold dictD dI
    simp [List.map_map, Function.comp_def, kD]
  · rw [List.nil_append, List.map_map]
    have : (ps.map ((fun x : Key × D => x.1) ∘ fun p => (Sum.inl p.1, p.2))) = (ps.map (·.1)).map (Sum.inl : Int → Key) := by simp
    rw [this]
    refine List.Pairwise.map _ ?_ h
    intro a b hab e
    exact hab (by injection e)
def getI (ps : List (Int × D)) (k : Int) : Option D := (ps.find? fun p => decide (p.1 = k)).map (·.2)
theorem find_dI (k : Int) : ∀ ps : List (Int × D), find (ps.map fun p => (.int p.1, p.2)) (.one (.inl k)) = getI ps k
  | [] => rfl
  | p :: ps => by
    have ih := find_dI k ps
    unfold find getI at ih ⊢
    by_cases e : p.1 = k
    · simp [e, dkey]
    · have e' : ¬ (dkey (.int p.1) = some (.one (.inl k))) := by
        intro z
        simp only [dkey, Option.some.injEq, DKey.one.injEq] at z
        injection z with z
        exact e z
      simp only [List.map_cons, List.find?_cons, e, e', decide_false]
      exact ih
theorem look_dI (k : Int) (ps : List (Int × D)) : look (ps.map fun p => (.int p.1, p.2)) (.one (.inl k)) = some (getI ps k) := by
  unfold look
  dsimp only
  rw [if_pos]
  · rw [find_dI]
  · rw [List.all_eq_true]
    intro x hx
    obtain ⟨q, _, rfl⟩ := List.mem_map.mp hx
    rfl
theorem gGet2_dI (ps : List (Int × D)) (k : Int) (x : D) : gGet2 (dI ps) (.int k) x = some ((getI ps k).getD x) := by
  unfold gGet2 dI
  dsimp only [dkey]
  rw [look_dI]
theorem gInC_dI (ps : List (Int × D)) (k : Int) : gInC (.int k) (dI ps) = some (getI ps k).isSome := by
  unfold gInC dI
  dsimp only [dkey]
  rw [look_dI]; rfl
theorem gIxC_dI (ps : List (Int × D)) (k : Int) : gIxC (dI ps) (.int k) = getI ps k := by
  unfold gIxC dI
  dsimp only [dkey]
  rw [look_dI]
  cases getI ps k <;> rfl
theorem gMulA_one {x : D} {k : Int} (h0 : 1 ≤ k) (h1 : k ≤ 1000) : gMulA (.tuple [x]) (.int k) = some (.tuple (List.replicate k.toNat x)) := by
  unfold gMulA
  dsimp only
  by_cases h : k = 1
  · subst h; rfl
  · rw [if_neg h, if_pos ⟨by simp, by omega, by omega, by simp⟩]
    congr 2
    generalize k.toNat = m
    induction m with
    | zero => rfl
    | succ m ih => rw [List.replicate_succ, List.flatten_cons, ih, List.replicate_succ]; rfl

end DL
namespace DL
open PySem PySem.Spec PyProof.Rows L2

theorem funC_of {K : PySem.W.Frag} {x : Str} {st : Stmt} {fd : FuncData} (F : FunD K x x (defArgs st) (defBody st) (defScope st) [] [] (He.fAd K (x, none)) fd) : FunC K x x st (He.fAd K (x, none)) fd (.ref (He.codeOf K (x, none))) := by
  obtain ⟨⟨oc, od, dV, kV, doc, pm, an, cdv, ct, osl, hfd, lk, hcd, hd, _⟩, kp⟩ := F
  have e : dV = .none := by
    rcases hd with ⟨_, e⟩ | ⟨e, _⟩
    · exact e
    · exact absurd rfl e
  subst e
  obtain ⟨c, ec⟩ := He.codeIn_ref hcd
  subst ec
  have : He.codeOf K (x, none) = c := He.codeOf_eq lk (by rw [hfd])
  rw [this]
  exact ⟨⟨oc, od, kV, doc, pm, an, ct, osl, hfd, lk, hcd⟩, kp⟩
theorem law_sp {K : PySem.W.Frag} {TP : List Addr} {F : CF} {a : Addr} {H : Hp} {ns : List Int} {E : XK} (hT : ∀ P ∈ TP, H P = some (.tbl #[])) (hS : SqL K H a (ns.map V.int)) (hF : ∃ e, F [.sh (.list (ns.map .int))] = some (.sh (.bool true), e)) :
    SpD K TP F [.ref a] H (fun v _ => v = .bl true) E := by
  classical
  obtain ⟨e, hF⟩ := hF
  have hd : ∀ (G : Hp) (ns : List Int), DqAll K G (ns.map V.int) (ns.map PyData.int) := by
    intro G ns
    induction ns with
    | nil => exact .nil
    | cons n r ih => exact .cons (.int n) ih
  have hG : ∀ b, b ∉ TP → (fun b => if b ∈ TP then none else H b : Hp) b = H b := fun b hb => by show (if b ∈ TP then none else H b) = H b; rw [if_neg hb]
  have rd : ∀ u, Rd H a u → (∀ ps, u ≠ .tbl ps) → Rd (fun b => if b ∈ TP then none else H b : Hp) a u := fun u h hu => by
    have : a ∉ TP := fun hm => by
      have := hT a hm
      rcases h with h | ⟨o, h⟩
      · rw [h] at this; cases this; exact hu _ rfl
      · rw [h] at this; cases this
    rcases h with h | ⟨o, h⟩
    · exact .inl ((hG a this).trans h)
    · exact .inr ⟨o, (hG a this).trans h⟩
  have sq : SqL K (fun b => if b ∈ TP then none else H b : Hp) a (ns.map V.int) := by
    rcases hS with h | h
    · exact .inl (rd _ h fun ps z => by cases z)
    · exact .inr h
  refine ⟨fun _ => none, fun b => if b ∈ TP then none else H b, _, _, _, hF, ⟨⟨fun b u q => ?_, fun b u q => (by cases q), fun P hP => ⟨⟨#[], hT P hP, ?_⟩, ?_, rfl⟩⟩, rfl, fun _ => none, fun b i q => (by cases q), fun i c v e1 e2 => ?_⟩, fun v G' H' g E' => ?_⟩
  · have q : (if b ∈ TP then none else H b) = some u := q
    split at q
    · cases q
    · exact q
  · first | trivial | exact .nil | (unfold GxR.TriplesOk; simp) | simp [GxR.TriplesOk]
  · show (if P ∈ TP then none else H P) = none
    rw [if_pos hP]
  · cases i with
    | zero =>
      simp at e1 e2
      subst e1 e2
      exact ⟨_, rfl, .lst sq (hd _ ns)⟩
    | succ i => simp at e1
  · obtain ⟨x, ex, rx⟩ := EnvR.last (σ := [V.ref a].map some) E'
    cases ex
    cases rx
    rfl
theorem cx_no {P : Program} {w : World} {H : Hp} {s : Shared} {e : Value} {s' : Shared} (h : L2.CX P w [] H s (fun _ _ _ => False) e s') : False := by
  obtain ⟨a, B, H', cls, d, h⟩ := h
  simp only [and_false, exists_false] at h
end DL
namespace DL
open PySem PySem.Spec PyProof.Rows L2
section
variable {prog : Program} {w : World} {A : Around} {E : Value → Shared → Prop} {s : Shared}
/-- a list's end, met where an exception is handled -/
theorem listEndHot {it l x1 : Addr} {i : Nat} {its : Array Value} {Q : Option Value → Shared → Prop} (hot : HotX.HotAt A x1 s.heap) (hit : s.heap.IsListIter it l i) (hl : s.heap.IsList l its) (hx : its[i]? = none) (hne : it ≠ x1)
    (q : ∀ h', (∀ b o, b ≠ it → s.heap.get? b = some o → h'.get? b = some o) → Q none { s with heap := h' }) : wpAny (model prog w) A (pyNext (.ref it)) Q E s := by
  obtain ⟨oi, hoi, hci, hdi⟩ := id hit
  obtain ⟨ol, hol, hcl, nl, hdl⟩ := hl
  obtain ⟨hh, o1, v1, g1', d1, c1⟩ := hot
  unfold pyNext
  refine wpAny_bind (wpAny_attempt (wpAny_callSpecial?_slot (name := Str.ofString "__next__") hit.typeIs slot_listiter_next (wpAny_call_entry slot_listiter_next hit.typeIs entry_listiter_next ?g (args_listiter_next _))))
  case g =>
    show wpAny _ _ (field (.ref it) 0 >>= _) _ _ s
    refine wpAny_bind (wpAny_field hoi hdi (x := .ref l) rfl ?g)
    case g =>
      show wpAny _ _ (if (Value.ref l == Value.none) = true then _ else _) _ _ s
      rw [if_neg (show ¬ ((Value.ref l == Value.none) = true) from Bool.false_ne_true)]
      show wpAny _ _ (field (.ref it) 1 >>= _) _ _ s
      refine wpAny_bind (wpAny_field hoi hdi (x := .int i 0) rfl ?g)
      case g =>
        show wpAny _ _ (seqItems? (.ref l) >>= _) _ _ s
        refine wpAny_bind (wpAny_seqItems hol hdl ?g)
        case g =>
          simp only [Int.toNat_natCast, hx]
          refine wpAny_bind (wpAny_rule (wpAny_bind (wpAny_setField hoi hdi (by simp) ?g)))
          case g =>
            generalize hU : (s.heap.update it (Obj.mapFields (·.setIfInBounds 0 Value.none))) = hp1
            have keep1 : ∀ b o, b ≠ it → s.heap.get? b = some o → hp1.get? b = some o := fun b o hb e => by
              subst hU
              rw [Heap.get?_update_other _ _ (fun z => hb z.symm)]; exact e
            show wpAny _ _ (newExc (.type "StopIteration") [] >>= _) _ _ _
            refine wpAny_bind ?g
            case g =>
              simp only [newExc, newTuple]
              refine wpAny_bind (wpAny_newObj_type ?g (by size_fits))
              case g =>
                refine wpAny_bind (m := firstArgMember _ _) (wpAny_of_eq (a := Value.none) (by first | rfl | (simp only [firstArgMember]; rfl)) ?g)
                case g =>
                  refine wpAny_newObj_type ?g (by size_fits)
                  case g =>
                    refine HotX.raiseNew_hot ⟨hh, o1, v1, Heap.get?_push_of_some _ (Heap.get?_push_of_some _ (keep1 _ _ (fun z => hne z.symm) g1')), d1, c1⟩ (Nat.ne_of_lt (Heap.lt_size (Heap.get?_push_of_some _ (keep1 _ _ (fun z => hne z.symm) g1')))) (Heap.get?_push_size _ rfl) rfl (by first | (simp; done) | (simp; omega) | (simp only [Array.size_append]; simp; omega)) ?g
                    case g =>
                      refine wpAny_bind (wpAny_isInstance (T := "StopIteration") (b := true) ⟨_, Heap.get?_update_self _ (Heap.get?_push_size _ rfl) rfl, rfl⟩ isSubtype_stop ?g)
                      case g =>
                        refine wpAny_pure (q _ fun b o hb e => ?_)
                        have e1 := keep1 b o hb e
                        rw [Heap.get?_update_other _ _ (Nat.ne_of_gt (Heap.lt_size (Heap.get?_push_of_some _ e1)))]
                        exact Heap.get?_push_of_some _ (Heap.get?_push_of_some _ e1)
end
end DL
namespace DL
open PySem PySem.Spec PyProof.Rows L2
section
variable {X : Cx}
/-- [elt for x in list if ..], where an exception is handled -/
theorem pe_lcHot {elt tg iter : Expr} {ifs : List Expr} {scope : Scope} {own : List (Str × Nat)} {pos : Pos} {tl : TE} {g : TG} {tt : TT} {te : TE} (hc : L2H.HotC X) (hN : X.N.Nodup) (hl : PE X iter tl) (ok : BlkOk X.N X.env.scope scope own)
    (hg : ∀ (s : Shared) (H : Hp) (C : Addr) (cl : List (Str × Addr)) (fp : List Addr), PG (X.blk s H scope (compEnvC scope cl C X.env) fp) tg g)
    (ht : ∀ (s : Shared) (H : Hp) (C : Addr) (cl : List (Str × Addr)) (fp : List Addr), PTs (X.blk s H scope (compEnvC scope cl C X.env) fp) ifs tt)
    (he : ∀ (s : Shared) (H : Hp) (C : Addr) (cl : List (Str × Addr)) (fp : List Addr), PE (X.blk s H scope (compEnvC scope cl C X.env) fp) elt te)
    (hs : ∀ x, foldedSetIterable iter X.env x = pure x := by intro _; rfl) :
    PE X (.ListComp elt [⟨tg, iter, ifs, 0⟩] scope pos) (tLc (iList X.K tl) g tt te (own.map (·.2))) := by
  refine ⟨fun pins s σ H Q I h => ?_⟩
  rw [eval_ListComp]
  have hfree : ∀ y ∈ scope.names, y.2 = .free → ∃ c, X.env.cells.lookup y.1 = some c := fun y hy e => I.ok.has _ (ok.free y hy e)
  refine wpAny_comprehension_free (use := none) rfl hs (closure_ok hfree) ok.kind (fun y hy e => by rw [ok.uniq y hy, e]) (thn (hl.run pins s σ H _ I h) fun xv s1 ⟨xl, H1, I1, rl, a, ea, ⟨xs, hq⟩, q⟩ => ?_)
  subst ea
  cases rl
  obtain ⟨its, rv, pl, _⟩ := I1.list hq
  refine wpAny_pyIter_list pl.isList ?_
  generalize hs2 : ({ s1 with heap := s1.heap.push _ } : Shared) = s2
  have I2 : Inv X pins σ H1 s2 := by subst hs2; exact I1.kept (t' := s1.toks) fun b o e => Heap.get?_push_of_some _ e
  have st2 : s2.heap.IsListIter s1.heap.objs.size a 0 := by subst hs2; exact ⟨_, Heap.get?_push_size _ rfl, rfl, rfl⟩
  have f2 : FpOk X pins H1 s1.heap.objs.size := I1.fpOk (Nat.le_refl _) (I1.hok.fresh (Nat.le_refl _))
  generalize s1.heap.objs.size = it at st2 f2 ⊢
  -- the exception that is handled
  obtain ⟨p, ⟨hh, v1, e1, c1⟩, hp⟩ := hc
  have P2 := I2.pin p (List.mem_append_left _ hp)
  have hip : it ≠ p.1 := fun z => f2.2.2.2.2.2 p (List.mem_append_left _ hp) z.symm
  refine wpAny_newObj_type (newEnv_comp ?_) (by show 0 ≤ sizeLine; decide)
  generalize hD : s2.heap.objs.size = D
  have hDn : H1 D = none := I2.hok.fresh (Nat.le_of_eq hD)
  obtain ⟨W, ⟨m0, w0⟩, turn⟩ := q D hDn
  generalize hs3 : ({ s2 with heap := s2.heap.push { cls := .type "list", data := .seq ([] : List Value).toArray } } : Shared) = s3
  have h3 : s3.heap = s2.heap.push { cls := .type "list", data := .seq ([] : List Value).toArray } := by rw [← hs3]
  have I3 : Inv X pins σ (upd H1 D (.lst [])) s3 := by
    rw [← hs3]
    refine I2.laid (t' := s2.toks) (fun b o e => Heap.get?_push_of_some _ e) (Nat.le_of_eq hD) ⟨Nat.zero_le _, [], 0, .nil, ?_⟩
    rw [← hD]; exact Heap.get?_push_size _ rfl
  have hlt : it < s2.heap.objs.size := by obtain ⟨o, e, _⟩ := id st2; exact Heap.lt_size e
  have f3 : ∀ b ∈ [it], FpOk X pins (upd H1 D (.lst [])) b ∧ b < s3.heap.objs.size := fun b hb => by
    have eb : b = it := by simpa using hb
    subst eb
    exact ⟨⟨by rw [upd_ne (by rw [← hD]; exact Nat.ne_of_lt hlt)]; exact f2.1, f2.2⟩, by rw [h3, Heap.size_push]; exact Nat.lt_succ_of_lt hlt⟩
  have st3 : s3.heap.IsListIter it a 0 := st2.at fun o e => by rw [h3]; exact Heap.get?_push_of_some _ e
  have P3 : s3.heap.get? p.1 = some p.2 := by rw [h3]; exact Heap.get?_push_of_some _ P2.1
  have N3 : upd H1 D (.lst []) p.1 = none := by
    rw [upd_ne (by rw [← hD]; exact Nat.ne_of_lt (Heap.lt_size P2.1))]; exact P2.2.1
  have hst : p.1 ∉ frs X.stack := fun hm => (List.mem_cons.mp (I2.stkSub p.1 hm)).elim P2.2.2.1 P2.2.2.2.1
  have I4 := block_start I3 ok hN f3
  have pg := hg s3 (upd H1 D (.lst [])) s3.heap.objs.size (cellsFrom (s3.heap.objs.size + 1) scope.names (cloFrom X.env.cells scope.names [])) [it]
  have pt := ht s3 (upd H1 D (.lst [])) s3.heap.objs.size (cellsFrom (s3.heap.objs.size + 1) scope.names (cloFrom X.env.cells scope.names [])) [it]
  have pe := he s3 (upd H1 D (.lst [])) s3.heap.objs.size (cellsFrom (s3.heap.objs.size + 1) scope.names (cloFrom X.env.cells scope.names [])) [it]
  have fin0 : ∀ {s' : Shared} {H' : Hp} {m : Str → Option Value}, Inv X pins σ H' s' → Q (.ref D) H' → s'.heap.Ns s3.heap.objs.size m → FpOk X pins H' s3.heap.objs.size → compPost (model X.prog X.w) X.A X.xe none (EP X pins σ Q) (.ref D) s3.heap.objs.size (.ok .next) s' := fun {s' H' m} J q n f => by
    refine ⟨m, n, fun h'' sb => ?_⟩
    obtain ⟨f0, f1, _, f4, f5, f6⟩ := f
    exact ⟨.ref D, H', J.turned (t' := s'.toks) (fun b o hb e => (sb.2 b hb).trans e) f0 f1 f4 f5 f6, rfl, q⟩
  show codeAny _ _ (.compStart (.ListComp elt [⟨tg, iter, ifs, 0⟩] scope pos) 0 (.ref it) (.ref D) (compEnvC scope (cellsFrom (s3.heap.objs.size + 1) scope.names (cloFrom X.env.cells scope.names [])) s3.heap.objs.size X.env)) (compPost (model X.prog X.w) X.A X.xe none (EP X pins σ Q) (.ref D) s3.heap.objs.size) { s3 with heap := pushCells (s3.heap.push { cls := .type "dict", data := .dict #[] }) scope.names }
  generalize hce : compEnvC scope (cellsFrom (s3.heap.objs.size + 1) scope.names (cloFrom X.env.cells scope.names [])) s3.heap.objs.size X.env = ce at I4 pg pt pe ⊢
  have cL : ce.locals = s3.heap.objs.size := by subst hce; rfl
  generalize hH3 : upd H1 D (.lst []) = H3 at I3 I4 pg pt pe w0 f3 N3
  generalize hs4 : ({ s3 with heap := pushCells (s3.heap.push { cls := .type "dict", data := .dict #[] }) scope.names } : Shared) = s4 at I4 ⊢
  have st4 : s4.heap.IsListIter it a 0 := st3.at fun o e => by rw [← hs4]; exact pushCells_keeps _ _ _ _ (Heap.get?_push_of_some _ e)
  have fpB : ∀ {σ' : L2.St} {H' : Hp} {s' : Shared}, Inv (X.blk s3 H3 scope ce [it]) [] σ' H' s' → H' it = none → FpOk (X.blk s3 H3 scope ce [it]) [] H' it := fun {σ' H' s'} J hn =>
    ⟨hn, (J.ok.exf it (List.mem_singleton.mpr rfl)).1, J.ok.exfs it (List.mem_singleton.mpr rfl), .inl (List.mem_singleton.mpr rfl), fun x c e => (J.ok.exf it (List.mem_singleton.mpr rfl)).2 x c e, fun r hr => absurd (show r ∈ ([] : List (Addr × Obj)) ++ [] from hr) (by simp)⟩
  have objI : ∀ {i : Nat} {h : Heap}, h.IsListIter it a i → ∀ b ∈ [it], ∃ o, h.get? b = some o ∧ ∀ v, o.data ≠ .cell v := fun {i h} st b hb => by
    have eb : b = it := by simpa using hb
    subst eb
    obtain ⟨o, e, _, d⟩ := st
    exact ⟨o, e, fun v z => by rw [d] at z; cases z⟩
  have loop : codeAny (model X.prog X.w) X.A (.compLoop (.ListComp elt [⟨tg, iter, ifs, 0⟩] scope pos) 0 (.ref it) (.ref D) ce) (compPost (model X.prog X.w) X.A X.xe none (EP X pins σ Q) (.ref D) s3.heap.objs.size) s4 := by
    refine compLoop_any (fun n s' => ∃ i H', Inv (X.blk s3 H3 scope ce [it]) [] (wipe σ (own.map (·.2))) H' s' ∧ s'.heap.IsListIter it a i ∧ H' it = none ∧ W i n H') ?_ m0 ⟨0, H3, I4, st4, (f3 it (by simp)).1.1, w0⟩
    rintro n s5 ⟨i, H5, I5, st5, n5, w5⟩
    have hot5 : HotX.HotAt X.A p.1 s5.heap := ⟨hh, p.2, v1, I5.base.keep p.1 p.2 P3 N3 hst (by simp; exact fun z => hip z.symm), e1, c1⟩
    rcases turn i n H5 w5 with ⟨⟨ys, hy, hle⟩, qq⟩ | ⟨⟨ys, y, hy, hyi⟩, Nx, hNx, step⟩
    · obtain ⟨its5, rv5, p5, _⟩ := I5.list hy
      have l5 := rv5.length
      refine listEndHot hot5 st5 p5.isList (by simp; omega) hip fun h' eb => ?_
      have F5 := fpB I5 n5
      have I6 : Inv (X.blk s3 H3 scope ce [it]) [] (wipe σ (own.map (·.2))) H5 { s5 with heap := h' } := I5.turned (t' := s5.toks) (fun b o hb e => eb b o hb e) F5.1 F5.2.1 F5.2.2.2.1 F5.2.2.2.2.1 F5.2.2.2.2.2
      have I7 : Inv X pins σ H5 { s5 with heap := h' } := I3.call' (ch := [it]) I6.os I6.base I6.hok I6.bare fun b hb => ⟨(f3 b hb).1.2.2.2.1, (f3 b hb).1.2.1, (f3 b hb).1.2.2.2.2.1, (f3 b hb).1.2.2.2.2.2⟩
      have nC : H5 s3.heap.objs.size = none := by have z : H5 ce.locals = none := I6.free; rwa [cL] at z
      obtain ⟨m, hn, _⟩ := I6.loc
      have hn : Heap.Ns h' ce.locals m := hn
      rw [cL] at hn
      exact fin0 (s' := { s5 with heap := h' }) I7 qq hn (I3.fpOk (Nat.le_refl _) nC)
    · obtain ⟨its5, rv5, p5, _⟩ := I5.list hy
      obtain ⟨u, hu, ru⟩ := rv5.get hyi
      refine wpAny_pyNext_list_item st5 p5.isList (x := u) (by simpa using hu) fun h6 st6 sb6 => ?_
      have F5 := fpB I5 n5
      have I6 : Inv (X.blk s3 H3 scope ce [it]) [] (wipe σ (own.map (·.2))) H5 { s5 with heap := h6 } := I5.turned (t' := s5.toks) (fun b o hb e => (sb6.2 b hb).trans e) F5.1 F5.2.1 F5.2.2.2.1 F5.2.2.2.2.1 F5.2.2.2.2.2
      obtain ⟨o6, e6, cc6, d6⟩ := id st6
      refine go_of (s := { s5 with heap := h6 }) e6 cc6 d6 (by decide) ?_
      have I7 := I6.pinned (fp := [it]) (fun b hb => by have eb : b = it := (by simpa using hb); subst eb; exact fpB I6 n5) (objI st6)
      refine thnF (pg.run _ { s5 with heap := h6 } _ H5 y u _ I7 ru (step y H5 ⟨rfl, fun zs hz => by rw [I5.list_inj hz hy]; exact hyi⟩)) fun _ s8 ⟨σ8, H8, I8, hw8, q8⟩ => ?_
      refine thnF (pt.run _ s8 σ8 H8 _ I8 q8) fun b s9 ⟨H9, I9, q9⟩ => ?_
      have back : ∀ {s' : Shared} {H' : Hp}, Inv (X.blk s3 H3 scope ce [it]) ([] ++ pinsAt [it] h6) σ8 H' s' → Nx H' → ∃ m, m < n ∧ ∃ i H', Inv (X.blk s3 H3 scope ce [it]) [] (wipe σ (own.map (·.2))) H' s' ∧ s'.heap.IsListIter it a i ∧ H' it = none ∧ W i m H' := fun {s' H'} J nx => by
        obtain ⟨m', hm, w'⟩ := hNx H' nx
        have z := J.pin (it, o6) (List.mem_append_right _ (List.mem_append_right _ (mem_pinsAt (List.mem_singleton.mpr rfl) e6)))
        have hln : (wipe σ (own.map (·.2))).length = σ8.length := by rw [← hw8, wipe_length]
        refine ⟨m', hm, i + 1, H', (J.unpinned (pins := [])).weak hln (fun j v e => ?_), ⟨o6, z.1, cc6, d6⟩, z.2.1, w'⟩
        rw [← hw8] at e
        exact (wipe_some e).1
      cases b with
      | false => rw [if_neg Bool.false_ne_true] at q9 ⊢; exact back I9 q9
      | true =>
        rw [if_pos rfl] at q9 ⊢
        refine thnF (pe.run _ s9 σ8 H9 _ I9 q9) fun z s10 ⟨yv, H10, I10, r10, acc, hD10, hz10, nx⟩ => ?_
        exact app_ok (X := X.blk s3 H3 scope ce [it]) I10 hD10 hz10 r10 fun s11 I11 => back I11 nx
  exact codeAny_compStart_list loop (wpAny_pyIter_listiter st4 loop)
end
end DL
namespace DL
open PySem PySem.Spec PyProof.Rows L2
/-- the callers' view behind a def's end -/
theorem def_fin {K : PySem.W.Frag} {TP : List Addr} {W : List Nat} {n m : Nat} {Fr G H : Hp} {vs : List V} {cs : List Cell} (E0 : EnvR K Fr TP G H (vs.map some) cs) (l1 : vs.length = n) (l2 : cs.length = n) (hown : ownOk W cs = true) {rr : Cell} {e : DEnv} {v : V} {σ' : Sl} {G' H' : Hp} (kp : Kp W (vs.map some ++ List.replicate m none) σ') (g : Gr Fr G G') (E1 : EnvR K Fr TP G' H' (σ' ++ [some v]) (e ++ [rr])) : EnvR K Fr TP G' H' (vs.map some ++ [some v]) (backs cs e ++ [rr]) := by
  have hW : ∀ (i : Nat) c, cs[i]? = some c → c.owned = true → i ∈ W := fun i c e ho => by
    have hi := (List.getElem?_eq_some_iff.mp e).1
    have := List.all_eq_true.mp hown i (List.mem_range.mpr hi)
    rw [e] at this
    simp [own?, ho] at this
    exact this
  have le : σ'.length = e.length := by have := E1.len; simp at this; exact this
  refine E1.remap (fun i => if i < cs.length then i else e.length) (by simp [backs_len, l1, l2]) (fun i c ec => ?_) (fun i j c1 c2 e1 e2 o1 o2 hij => ?_)
  · by_cases hi : i < cs.length
    · rw [List.getElem?_append_left (by rw [backs_len]; exact hi)] at ec
      rw [if_pos hi]
      have sh_ : ∀ c0 : Cell, cs[i]? = some c0 → c0.owned = false → c0 = .un ∨ (c0.owned = false ∧ ∃ v', (vs.map some ++ [some v])[i]? = some v' ∧ CellR K G' H' (fun _ => False) v' c0) := fun c0 h1 h2 => by
        cases c0 with
        | un => exact .inl rfl
        | sh d =>
          obtain ⟨x, ex, hx⟩ := E0.get h1
          exact .inr ⟨rfl, some x, by rw [List.getElem?_append_left (by simp; omega)]; exact ex, x, rfl, dpMono g.s _ hx⟩
        | raw x => exact .inr ⟨rfl, some x, by rw [List.getElem?_append_left (by simp; omega)]; exact E0.getRaw h1, rfl⟩
        | _ => cases h2
      rcases backs_at ec with ⟨c0, h1, h2, rfl⟩ | ⟨c0, h1, h2, h3⟩ | ⟨h1, h2⟩
      · rcases sh_ c h1 h2 with z | z
        · exact .inl z
        · exact .inr (.inl z)
      · right; right
        have hie : i < e.length := (List.getElem?_eq_some_iff.mp h3).1
        refine ⟨by rw [List.getElem?_append_left hie]; exact h3, ?_⟩
        rw [List.getElem?_append_left (by simp; omega), List.getElem?_append_left (by omega), kp.2 i (hW i c0 h1 h2),  List.getElem?_append_left (by simp; omega)]
      · by_cases ho : c.owned = false
        · rcases sh_ c h2 ho with z | z
          · exact .inl z
          · exact .inr (.inl z)
        · have ho : c.owned = true := by simpa using ho
          exfalso
          have h4 := kp.2 i (hW i c h2 ho)
          rw [List.getElem?_eq_none_iff.mpr (by have := List.getElem?_eq_none_iff.mp h1; omega),  List.getElem?_append_left (by simp; omega), List.getElem?_map, List.getElem?_eq_getElem (by omega)] at h4
          cases h4
    · have hi' : i = cs.length := by
        have := (List.getElem?_eq_some_iff.mp ec).1
        simp [backs_len] at this
        omega
      rw [if_neg hi]
      right; right
      rw [List.getElem?_append_right (by rw [backs_len]; omega), backs_len, hi'] at ec
      simp at ec
      subst ec
      refine ⟨by simp, ?_⟩
      rw [List.getElem?_append_right (by simp; omega), List.getElem?_append_right (by omega), hi', le]
      simp [l1, l2]
  · have h1 := (List.getElem?_eq_some_iff.mp e1).1
    have h2 := (List.getElem?_eq_some_iff.mp e2).1
    simp [backs_len] at h1 h2
    have hij : (if i < cs.length then i else e.length) = (if j < cs.length then j else e.length) := hij
    -- where the slots of one's own lie within the body's names
    have small : ∀ (i : Nat) c, (backs cs e ++ [rr])[i]? = some c → c.owned = true → i < cs.length → i < e.length := fun i c ec ho hi => by
      rw [List.getElem?_append_left (by rw [backs_len]; exact hi)] at ec
      rcases backs_at ec with ⟨c0, h1, h2, rfl⟩ | ⟨c0, h1, h2, h3⟩ | ⟨h1, h2⟩
      · rw [ho] at h2; cases h2
      · exact (List.getElem?_eq_some_iff.mp h3).1
      · exfalso
        have h4 := kp.2 i (hW i c h2 ho)
        rw [List.getElem?_eq_none_iff.mpr (by have := List.getElem?_eq_none_iff.mp h1; omega),  List.getElem?_append_left (by simp; omega), List.getElem?_map, List.getElem?_eq_getElem (by omega)] at h4
        cases h4
    by_cases hi : i < cs.length
    · by_cases hj : j < cs.length
      · rw [if_pos hi, if_pos hj] at hij; exact hij
      · rw [if_pos hi, if_neg hj] at hij
        have := small i c1 e1 o1 hi
        omega
    · by_cases hj : j < cs.length
      · rw [if_neg hi, if_pos hj] at hij
        have := small j c2 e2 o2 hj
        omega
      · omega
end DL
namespace DL
open PySem PySem.Spec PyProof.Rows L2
/-! ### defs that raise -/
abbrev CXF := List Cell → Option ((Cell ⊕ Str) × List Cell)
/-- the promise of a def that may raise -/
def SpX (K : PySem.W.Frag) (TP : List Addr) (mg : Str → Option Value) (F : CXF) : Sp := fun vs H Q E => ∃ Fr G cs r cs', F cs = some (r, cs') ∧ EnvR K Fr TP G H (vs.map some) cs ∧
  match r with
  | .inl c => ∀ v G' H', Gr Fr G G' → EnvR K Fr TP G' H' (vs.map some ++ [some v]) (cs' ++ [c]) → Q v H'
  | .inr x => ∀ G' H' C, mg x = some (.ref C) → Gr Fr G G' → EnvR K Fr TP G' H' (vs.map some) cs' → E (.ref C) none H'
def defX (n m : Nat) (W : List Nat) (b : SF) : CXF := fun cs => if cs.length = n ∧ ownOk W cs = true then
  match b (cs ++ List.replicate m .un) with
  | some (.rt r, e) => some (.inl r, backs cs e)
  | some (.nx, e) => some (.inl (.sh .none), backs cs e)
  | some (.ex x, e) => some (.inr x, backs cs e)
  | _ => none
  else none
abbrev bxX (P : Program) (w : World) (K : PySem.W.Frag) (mg : Str → Option Value) (base : Heap) (N : List Str) (qual : Str) (st : Stmt) (f : Addr) (cdv : Value) (A : Around) (outer : List Env) (s : Shared) (H : Hp) (E : XK) : Cx :=
  cxOf (L2N.CX P w) P w K mg base N qual (defScope st) f cdv A outer s H E
theorem def_okX {P : Program} {w : World} {K : PySem.W.Frag} {mg : Str → Option Value} {base : Heap} {x qual : Str} {st : Stmt} {f : Addr} {fd : FuncData} {cdv : Value} {N ps : List Str} {k : Nat} {TP : List Addr} {W : List Nat} {b : SF} (F : FunC K x qual st f fd cdv) (S : FnScope N ps (defScope st))
    (hb : ∀ (A : Around) (outer : List Env) (s : Shared) (H : Hp) (E : XK), Room k (bxX P w K mg base N qual st f cdv A outer s H E).A → PSsD (bxX P w K mg base N qual st f cdv A outer s H E) TP W (defBody st) b) :
    FnOk P w K mg base (L2N.CX P w) (k + 1) f fd ps (SpX K TP mg (defX ps.length (N.length - ps.length) W b)) := by
  obtain ⟨oc, od, kV, doc, pm, an, ct, osl, rfl, lk, hcd⟩ := F.ex
  have hlen : ∀ {vs : List V} {cs : List Cell} {Fr G H : Hp} {r}, defX ps.length (N.length - ps.length) W b cs = some r → EnvR K Fr TP G H (vs.map some) cs → vs.length = ps.length ∧ cs.length = ps.length := fun {vs cs Fr G H r} hF E => by
    unfold defX at hF
    split at hF
    · rename_i h
      have := E.len
      simp at this
      exact ⟨this.trans h.1, h.1⟩
    · cases hF
  refine fn_of lk hcd S (fun vs H Q E h => ?_) fun A outer s H vs Q E hr hsp => ?_
  · obtain ⟨Fr, G, cs, r, cs', hF, E, _⟩ := h
    exact (hlen hF E).1
  · obtain ⟨Fr, G, cs, r, cs', hF, E0, q⟩ := hsp
    obtain ⟨l1, l2⟩ := hlen hF E0
    refine ⟨_, (hb A outer s H E hr).pss, ?_⟩
    have tk : L2N.Takes (bxX P w K mg base N qual st f cdv A outer s H E) (fun cls d _ H => E cls d H) := L2N.takes_of rfl rfl rfl rfl
    have est : L2.start N vs = vs.map some ++ List.replicate (N.length - ps.length) none := by unfold L2.start; rw [l1]
    unfold defX at hF
    split at hF
    · rename_i hcs
      obtain ⟨_, hown⟩ := hcs
      have E1 := E0.pad (N.length - ps.length)
      split at hF
      · rename_i rr e hb'
        cases hF
        refine ⟨Fr, G, _, _, _, hb', by rw [est]; exact E1, fun v σ' G' H' kp g E2 => q v G' H' g (def_fin E0 l1 l2 hown (by rw [← est]; exact kp) g E2)⟩
      · rename_i e hb'
        cases hF
        refine ⟨Fr, G, _, _, _, hb', by rw [est]; exact E1, fun σ' G' H' kp g E2 => q .non G' H' g (def_fin E0 l1 l2 hown (by rw [← est]; exact kp) g (E2.snoc_sh .non))⟩
      · rename_i xx e hb'
        cases hF
        refine ⟨Fr, G, _, _, _, hb', by rw [est]; exact E1, fun σ' G' H' kp g E2 C hC => star_of tk ?_⟩
        exact q G' H' C hC g (def_fin E0 l1 l2 hown (by rw [← est]; exact kp) g (E2.snoc_sh .non)).unsnoc
      · cases hF
    · cases hF
/-! ### what may raise -/
abbrev OXF := DEnv → Option ((Cell ⊕ Str) × DEnv)
def tOX (X : Cx) (TP : List Addr) (o : OXF) : TE := fun σ H Q => ∃ F G env r env', o env = some (r, env') ∧ EnvR X.K F TP G H σ env ∧ match r with
  | .inl c => ∀ v G' H', Gr F G G' → EnvR X.K F TP G' H' (σ ++ [some v]) (env' ++ [c]) → Q v H'
  | .inr x => ∀ G' H', Gr F G G' → EnvR X.K F TP G' H' σ env' → wst X x σ H'
structure POX (X : Cx) (TP : List Addr) (e : Expr) (o : OXF) : Prop where
  pe : PE X e (tOX X TP o)
def oCallX (F : CXF) (args : CAF) : OXF := fun env => bnd (args env) fun as e1 => match getCells e1 as with
  | none => none
  | some cs => if (slotsOf as).Nodup then match F cs with
    | none => none
    | some (r, cs') => if cs'.length = cs.length then some (r, putCells as cs' e1) else none
    else none
section
variable {X : Cx} {TP : List Addr} {e : Expr} {es : List Expr} {x : Str} {p pos : Pos} {k : Nat} {f : Addr} {fd : FuncData} {ps : List Str} {F : CXF} {args : CAF} {W : List Nat}
theorem o_callX (Fn : FnOk X.prog X.w X.K X.mg X.base (L2N.CX X.prog X.w) k f fd ps (SpX X.K TP X.mg F)) (hr : Room k X.A) (hg : Gl X x) (hm : X.mg x = some (.ref f)) (hk : PySem.W.keepIn X.K (.ref f) = true) (hb : Binds X.K fd ps [])
    (ha : PC' X TP (e :: es) args) (hdb : (x == ("__debug__" : Str)) = false := by decide) (he : starEach (e :: es) X.env = (false, eval e X.env) :: starEach es X.env := by rfl) (hpl : (backTo pos (starEach es X.env)).any (·.1) = false := by rfl) :
    POX X TP (.Call (.Name x p) (e :: es) [] pos) (oCallX F args) := by
  refine ⟨(pe_callS Fn hr hg hm hk hb (L2N.passAt (takes_star X)) ha.pa hdb he hpl).imp fun σ H Q ⟨F0, G, env, c, env', hf, E, q⟩ => ?_⟩
  obtain ⟨as, e1, h1, hf⟩ := bnd_inv hf
  refine ⟨F0, G, env, as, e1, h1, E, fun vs G1 H1 g1 E1 r1 => ?_⟩
  split at hf
  · cases hf
  · rename_i cs hcs
    split at hf
    · rename_i nd
      split at hf
      · cases hf
      · rename_i r cs' hF
        split at hf
        · rename_i hl
          cases hf
          obtain ⟨Fr, Ec, back⟩ := call_env E1 r1 hcs nd
          refine ⟨Fr, G1, cs, c, cs', hF, Ec, ?_⟩
          cases c with
          | inl c =>
            intro v G' H' gr E'
            obtain ⟨g2, E2⟩ := back hl gr E'
            exact q v G' H' (g1.trans g2) E2
          | inr x =>
            intro G' H' C hC gr E'
            obtain ⟨g2, E2⟩ := back hl gr (E'.snoc_sh .non)
            exact q G' H' (g1.trans g2) E2.unsnoc C hC
        · cases hf
    · cases hf
/-- what does not raise, where something might -/
def oOk (o : OF) : OXF := fun env => bnd (o env) fun c e => some (.inl c, e)
theorem ox_ok {o : OF} (h : PO X TP e o) : POX X TP e (oOk o) := by
  refine ⟨h.pe.imp fun σ H Q ⟨F, G, env, r, env', hf, E, q⟩ => ?_⟩
  obtain ⟨c, e1, h1, hf⟩ := bnd_inv hf
  cases hf
  exact ⟨F, G, env, c, _, h1, E, q⟩
def oIfX (c : BF) (a b : OXF) : OXF := fun env => bnd (c env) fun k e => if k then a e else b e
theorem ox_if {c a b : Expr} {fc : BF} {fa fb : OXF} (hc : PB X TP c fc) (ha : POX X TP a fa) (hb : POX X TP b fb) : POX X TP (.IfExp c a b pos) (oIfX fc fa fb) := by
  refine ⟨(pe_ifExp hc.pt ha.pe hb.pe).imp fun σ H Q ⟨F, G, env, r, env', hf, E, w⟩ => ?_⟩
  obtain ⟨kk, e1, h1, hf⟩ := bnd_inv hf
  refine ⟨F, G, env, kk, e1, h1, E, fun G1 H1 s1 E1 => ?_⟩
  have mv : ∀ {f : OXF}, f e1 = some (r, env') → tOX X TP f σ H1 Q := fun {f} hf => by
    refine ⟨F, G1, e1, r, env', hf, E1, ?_⟩
    cases r with
    | inl c => exact fun v G2 H2 s2 E2 => w v G2 H2 (s1.trans s2) E2
    | inr x => exact fun G2 H2 s2 E2 => w G2 H2 (s1.trans s2) E2
  cases kk with
  | true => rw [if_pos rfl] at hf; dsimp only; rw [if_pos rfl]; exact mv hf
  | false => rw [if_neg Bool.false_ne_true] at hf; dsimp only; rw [if_neg Bool.false_ne_true]; exact mv hf
def sRtX (o : OXF) : SF := fun env => match o env with
  | some (.inl c, e) => some (.rt c, e)
  | some (.inr x, e) => some (.ex x, e)
  | none => none
theorem s_retX {o : OXF} (h : POX X TP e o) : PSD X TP W (.Return (some e) pos) (sRtX o) := by
  refine ⟨(ps_ret h.pe).imp fun D σ H ⟨F, G, env, s, env', hf, E, q⟩ => ?_⟩
  unfold sRtX at hf
  split at hf
  · rename_i c e1 h1
    cases hf
    exact ⟨F, G, env, _, _, h1, E, fun v G1 H1 g1 E1 => q v σ G1 H1 Kp.refl g1 E1⟩
  · rename_i x e1 h1
    cases hf
    exact ⟨F, G, env, _, _, h1, E, fun G1 H1 g1 E1 => q σ G1 H1 Kp.refl g1 E1⟩
  · cases hf
def sDropX (o : OXF) : SF := fun env => match o env with
  | some (.inl _, e) => some (.nx, e)
  | some (.inr x, e) => some (.ex x, e)
  | none => none
theorem s_dropX {o : OXF} (h : POX X TP e o) (hs : swapsWith e none pos.line X.env = pure false := by rfl) : PSD X TP W (.Expr e pos) (sDropX o) := by
  refine ⟨(ps_expr h.pe hs).imp fun D σ H ⟨F, G, env, s, env', hf, E, q⟩ => ?_⟩
  unfold sDropX at hf
  split at hf
  · rename_i c e1 h1
    cases hf
    exact ⟨F, G, env, _, _, h1, E, fun v G1 H1 g1 E1 => q σ G1 H1 Kp.refl g1 E1.unsnoc⟩
  · rename_i x e1 h1
    cases hf
    exact ⟨F, G, env, _, _, h1, E, fun G1 H1 g1 E1 => q σ G1 H1 Kp.refl g1 E1⟩
  · cases hf
def sSetX (i : Nat) (o : OXF) : SF := fun env => match o env with
  | some (.inl c, e) => if i < e.length then some (.nx, e.set i c) else none
  | some (.inr x, e) => some (.ex x, e)
  | none => none
theorem s_setX {o : OXF} (i : Nat) {x : Str} {pos' : Pos} (hN : X.N.Nodup) (he : POX X TP e o) (hw : i ∉ W := by decide) (hi : X.N[i]? = some x := by rfl) (hx : Loc X.env.scope x := by first | exact Or.inl rfl | exact Or.inr rfl) (hs : swapsWith e (some (.Name x pos')) pos.line X.env = pure false := by rfl)
    (hf : X.fn x = true ∨ X.env.scope.names.lookup x = some .local := by first | exact .inl rfl | exact .inr rfl | assumption) : PSD X TP W (.Assign [.Name x pos'] e pos) (sSetX i o) := by
  refine ⟨(ps_set hN hi hx he.pe hs hf).imp fun D σ H ⟨F, G, env, s, env', hf, E, q⟩ => ?_⟩
  unfold sSetX at hf
  split at hf
  · rename_i c e1 h1
    split at hf
    · rename_i hi
      cases hf
      exact ⟨F, G, env, _, e1, h1, E, fun v G1 H1 g1 E1 => q _ G1 H1 (Kp.set hw) g1 (E1.move hi)⟩
    · cases hf
  · rename_i x e1 h1
    cases hf
    exact ⟨F, G, env, _, _, h1, E, fun G1 H1 g1 E1 => q σ G1 H1 Kp.refl g1 E1⟩
  · cases hf
/-- raise C("..") -/
structure ExcK (K : PySem.W.Frag) (C : Addr) : Prop where
  x : PySem.W.excIn K C He.veBase "ValueError.__new__" = true
  k : PySem.W.keepIn K (.ref C) = true
  b : PySem.W.subIn K (.ref C) (.type "BaseException") = some true
  t : PySem.W.typeIn K (.ref C) = some (.type "type")
def sRaise (x : Str) : SF := fun env => some (.ex x, env)
theorem s_raise {m : Str} {j : Nat} {p2 q : Pos} {C : Addr} (hc : X.calm = true) (gC : X.mg x = some (.ref C)) (h : ExcK X.K C) (hg : Gl X x := by rfl) (hdb : (x == ("__debug__" : Str)) = false := by decide) : PSD X TP W (.Raise (some (.Call (.Name x p) [.Constant (.str m) j p2] [] q)) none pos) (sRaise x) := by
  refine ⟨(L2N.ps_raise hc (takes_star X) (L2N.pmk_own PySem.F.excBase_ValueError h.x gC h.k (raises_own h.b h.t) hg hdb)).imp fun D σ H ⟨F, G, env, s, env', hf, E, q⟩ => ?_⟩
  cases hf
  exact q σ G H Kp.refl Gr.refl E C gC
end
end DL
namespace DL
open PySem PySem.Spec PyProof.Rows L2
/-! ### where an exception is handled: [x for x in list if ..] -/
def fItL (f : EF) : AF := fun env => match f env with
  | some (.list ds, e) => some (ds, e)
  | _ => none
section
variable {X : Cx} {TP : List Addr} {tg iter elt e y : Expr} {ifs : List Expr} {scope : Scope} {own : List (Str × Nat)} {pos apos cpos : Pos} {fi f fe fy : EF} {t : TF} {c : BF}
theorem o_lcHot (hc : L2H.HotC X) (hN : X.N.Nodup) (hi : PD X TP iter fi) (ok : BlkOk X.N X.env.scope scope own)
    (hg : ∀ (s : Shared) (H : Hp) (C : Addr) (cl : List (Str × Addr)) (fp : List Addr), PT' (X.blk s H scope (compEnvC scope cl C X.env) fp) TP (Wc X.N.length (own.map (·.2))) tg t) (ht : ∀ (s : Shared) (H : Hp) (C : Addr) (cl : List (Str × Addr)) (fp : List Addr), PBs (X.blk s H scope (compEnvC scope cl C X.env) fp) TP ifs c)
    (he : ∀ (s : Shared) (H : Hp) (C : Addr) (cl : List (Str × Addr)) (fp : List Addr), PD (X.blk s H scope (compEnvC scope cl C X.env) fp) TP elt f) (hs : ∀ x, foldedSetIterable iter X.env x = pure x := by intro _; rfl) :
    PO X TP (.ListComp elt [⟨tg, iter, ifs, 0⟩] scope pos) (oLc (own.map (·.2)) (fItL fi) t c f) := by
  refine ⟨PE.at (pe_lcHot (g := tG X.K TP (Wc X.N.length (own.map (·.2))) t) (tt := tB' X.K TP c) (te := tD X.K TP f) hc hN hi.pe ok (fun s H C cl fp => (hg s H C cl fp).pg) (fun s H C cl fp => (ht s H C cl fp).pts) (fun s H C cl fp => (he s H C cl fp).pe) hs) fun σ H Q hl h => ?_⟩
  obtain ⟨F, G, env, ds, env', hf, E, q⟩ := tLc_of hl h
  unfold fItL at hf
  split at hf
  · rename_i ds' e1 h1
    cases hf
    refine ⟨F, G, env, _, _, h1, E, fun v G1 H1 g1 E1 r1 => ?_⟩
    cases r1 with
    | lst qa ra => exact ⟨_, rfl, ⟨_, E1.wd.sub.seq qa⟩, q _ G1 H1 g1 E1 (itOk_list qa ra)⟩
  · cases hf
/-! ### xs.index(y) of what is there -/
def gIndex (l d : D) : Option D := match l with
  | .list ds => if SeqAt.shaped (.list ds) && SeqAt.shaped d then (ds.findIdx? fun z => PyData.eqv z d).map fun j => .int (j : Nat) else none
  | _ => none
theorem d_index (hu : X.A.units + 65 < cLine) (he : PD X TP e fe) (hy : PD X TP y fy)
    (hbase : attributeBase e "index" X.env (eval e X.env) = eval e X.env := by rfl)
    (hfew : ((backTo cpos (starEach [y] X.env)).all (fun x => !x.1) && (backToKw cpos (keywordEach [] X.env)).all (fun x => x.1.isSome)
      && decide ([y].length + ([] : List Keyword).length + (if ([] : List Keyword).isEmpty then 0 else 1) < 30)) = true := by rfl)
    (hline : (apos.endLine == cpos.line) = true := by rfl) (hs : starEach [y] X.env = (false, eval y X.env) :: starEach [] X.env := by rfl) (hplain : (backTo cpos (starEach [] X.env)).any (·.1) = false := by rfl) :
    PD X TP (.Call (.Attribute e "index" apos) [y] [] cpos) (fOp gIndex fe fy) := by
  refine ⟨(pe_bm PySem.F.plainAttrs_list PySem.F.slot_list_index PySem.F.type_list_index (mt_indexD hu) he.pe (pa_cons hy.pe pa_nil hs) hbase hfew hline hs hplain).imp fun σ H Q ⟨F, G, env, d, env', hf, E, q⟩ => ?_⟩
  obtain ⟨a1, e1, h1, hf⟩ := bnd_inv hf
  obtain ⟨b1, e2, h2, hf⟩ := bnd_inv hf
  obtain ⟨h3, h4⟩ := out_inv hf
  cases h4
  unfold gIndex at h3
  cases a1 with
  | list ds =>
    dsimp only at h3
    split at h3
    · rename_i hsh
      rw [Bool.and_eq_true] at hsh
      rw [Option.map_eq_some_iff] at h3
      obtain ⟨j, hj, rfl⟩ := h3
      rw [List.findIdx?_eq_some_iff_getElem] at hj
      obtain ⟨hjl, hj1, hj2⟩ := hj
      refine ⟨F, G, env, _, e1, h1, E, fun v G1 H1 s1 E1 r1 => ?_⟩
      have r1' := r1
      cases r1' with
      | lst qa ra =>
        refine ⟨.inl ⟨rfl, _, E1.wd.sub.seq qa⟩, F, G1, e1, _, _, h2, E1, fun u G2 H2 s2 E2 r2 => ?_⟩
        refine ⟨_, _, _, _, j, ds[j]'hjl, rfl, rfl, dq_dpS hsh.1 E2.wd.sub (dpMono s2.s _ r1), dq_dpS hsh.2 E2.wd.sub r2, hsh.1, hsh.2, List.getElem?_eq_getElem hjl, hj1, fun m z hm hz => ?_, q _ G2 H2 (s1.trans s2) E2 (.int _)⟩
        have hml : m < ds.length := by omega
        rw [List.getElem?_eq_getElem hml] at hz
        cases hz
        have := hj2 m hm
        simpa using this
    · cases h3
  | _ => cases h3
end
end DL
namespace DL
open PySem PySem.Spec PyProof.Rows L2
/-! ### the handled exception, asked for its class -/
/-- the exception's object: of the class C, its own dict not there -/
structure ExcAt (X : Cx) (C a : Addr) : Prop where
  pin : ∃ oe, (a, oe) ∈ X.pn ∧ Zc (.ref C) none oe ∧ ∃ vs, oe.data = .fields vs
theorem call_isH {X : Cx} {a C : Addr} (hC : ExcC X.K C) (h : ExcAt X C a) : CallR X (.builtin "isinstance") (rIsE X.K C a) := by
  intro pins s σ H xs us Q I r hq
  obtain ⟨c, cv, b, rfl, hcv, e, q⟩ := hq
  obtain ⟨oe, hp, hz, vs, hv⟩ := h
  cases r with
  | cons rx rr =>
    cases rr with
    | cons rt rr =>
      cases rr
      cases rx
      obtain rfl := hcv _ rt
      have J : PySem.W.InstAt s.heap a oe C none := by
        have hget := (I.pin (a, oe) (List.mem_append_left _ hp)).1
        obtain ⟨oc, od, oda, osl⟩ := oe
        obtain ⟨h1, h2⟩ := hz
        dsimp only at h1 h2 hv
        subst h1 h2 hv
        exact ⟨hget, rfl, rfl, trivial⟩
      exact PySem.W.kia_one (PySem.W.handS_kitx_exc hC.hg hC.hk hC.hs hC.hd hC.ha hC.hn hC.ht hC.hm) I.kIn J e (fun z => nomatch z) fun tk => ⟨.bl b, H, I.kept (t' := tk) fun _ _ z => z, rfl, q⟩
/-- isinstance(e, D) -/
def fIsE (i : Nat) (a : Addr) (b : Bool) : EF := fun env => match env[i]? with
  | some (.raw (.ref a')) => if a' = a then some (.bool b, env) else none
  | _ => none
section
variable {X : Cx} {TP : List Addr}
theorem d_isE (i : Nat) {x y : Str} {p1 p2 p3 pos : Pos} {a C D : Addr} {b : Bool} (hC : ExcC X.K C) (h : ExcAt X C a) (hm : X.mg "isinstance" = none) (hD : X.mg y = some (.ref D)) (hk : PySem.W.kitOne X.K (.ref C) (.ref D) = some b)
    (hi : X.N[i]? = some x := by rfl) (hv : Vis X.env.scope x := by first | exact Or.inl rfl | exact Or.inr (Or.inl rfl) | exact Or.inr (Or.inr rfl)) (hdx : (x == ("__debug__" : Str)) = false := by decide) (hcx : (x == ("__classdict__" : Str)) = false := by decide)
    (hg : Gl X "isinstance" := by rfl) (hgy : Gl X y := by rfl) (hdy : (y == ("__debug__" : Str)) = false := by decide)
    (he : starEach [.Name x p3, .Name y p2] X.env = (false, eval (.Name x p3) X.env) :: starEach [.Name y p2] X.env := by rfl) (he2 : starEach [.Name y p2] X.env = (false, eval (.Name y p2) X.env) :: starEach [] X.env := by rfl) (hpl : (backTo pos (starEach [.Name y p2] X.env)).any (·.1) = false := by rfl) :
    PD X TP (.Call (.Name "isinstance" p1) [.Name x p3, .Name y p2] [] pos) (fIsE i a b) := by
  refine ⟨(pe_callB (call_isH hC h) hg hm boot_isinstance (pa_cons (pe_var hi hv hdx hcx) (pa_cons (pe_glob (v := .ref D) hgy hD rfl hdy) pa_nil he2) he) (by decide) (by decide) he hpl).imp fun σ H Q ⟨F, G, env, d, env', hf, E, q⟩ => ?_⟩
  unfold fIsE at hf
  split at hf
  · rename_i a' ha
    split at hf
    · rename_i ea
      cases hf
      subst ea
      exact ⟨_, E.getRaw ha, _, .ref D, b, rfl, fun u ru => ru, hk, q (.bl b) G H Gr.refl E (.bl b)⟩
    · cases hf
  · cases hf
end
/-! ### a def that is called where an exception is handled -/
structure FnE (P : Program) (w : World) (K : PySem.W.Frag) (mg : Str → Option Value) (base : Heap) (CX : CXT) (k : Nat) (f : Addr) (fd : FuncData) (ps : List Str) (sp : Addr × Obj → Sp) : Prop where
  len : ∀ p vs H Q E, sp p vs H Q E → vs.length = ps.length
  run : ∀ (p : Addr × Obj) (A : Around) (outer : List Env) (s : Shared) (H : Hp) (args : Args) (us : List Value) (vs : List V) (Q : VK) (E : XK), L2H.RoomH k A → L2H.Hot1 A p → L2H.PinOk outer H s p → Env0 P w K mg base A outer s H → BindsTo s fd args (ps.zip us) → Vals vs us → sp p vs H Q E →
    codeAny (model P w) A (.call (.ref f) args) (CR CX outer P w H s Q E) s
theorem fnE_of {CX : CXT} {P : Program} {w : World} {K : PySem.W.Frag} {mg : Str → Option Value} {base : Heap} {x qual : Str} {st : Stmt} {f : Addr} {fd : FuncData} {cdv : Value} {N ps : List Str} {k : Nat} {sp : Addr × Obj → Sp} (F : FunC K x qual st f fd cdv) (S : FnScope N ps (defScope st))
    (len : ∀ p vs H Q E, sp p vs H Q E → vs.length = ps.length)
    (hb : ∀ (p : Addr × Obj) (A : Around) (outer : List Env) (s : Shared) (H : Hp) (vs : List V) (Q : VK) (E : XK), L2H.Hot1 A p → L2H.RoomH k (A.deeper (envOfC qual (defScope st) s.heap.objs.size f cdv)) → sp p vs H Q E →
      ∃ t, PSs (L2H.cxH CX P w K mg base N qual (defScope st) f cdv A outer s H E p) (defBody st) t ∧ t { nx := fun _ H' => Q .non H', rt := Q } (L2.start N vs) H) :
    FnE P w K mg base CX (k + 1) f fd ps sp := by
  obtain ⟨oc, od, kV, doc, pm, an, ct, osl, rfl, lk, hcd⟩ := F.ex
  refine ⟨len, fun p A outer s H args us vs Q E hr hot hpin e0 hbd r hsp => ?_⟩
  have KX : K.In s.heap := e0.mod.kin.keeps fun b o e => (e0.bs b o e).1
  have kinds : ∀ y ∈ ps.zip us, (defScope st).names.lookup y.1 = some .local ∨ ((defScope st).names.lookup y.1 = some .cell ∧ ((cellsFrom (s.heap.objs.size + 1) (defScope st).names []).lookup y.1).isSome = true) := fun ⟨n, v⟩ hy =>
    (S.par n (List.of_mem_zip hy).1).imp id fun q => ⟨q, PySem.W.cellsFrom_some _ _ _ (.inl q)⟩
  refine codeAny_call_function hr.depth (KX _ _ lk) rfl S.co S.gen rfl (PySem.W.codeRec_of KX hcd) (hbd _ _ _ _ (wpAny_newFunctionEnv_cells S.kind kinds fun env he s1 x => ?_))
  subst he
  refine ⟨(e0.mod.nolimit.keeps fun b o e => (e0.bs b o e).1).keeps x.toInCall.keep, codeAny_func ?_⟩
  obtain ⟨t, ht, hq⟩ := hb p A outer s H vs Q E hot (hr.deeper _) hsp
  have I := L2H.inv_startH (CX := CX) (N := N) (qual := qual) (f := f) (cd := cdv) (E := E) S hpin e0 (len _ _ _ _ _ hsp) r x
  refine wpAny_mono (ht.run [] s1 (L2.start N vs) H _ I hq) (fun fl s' hs => ?_) fun e s' hs => hs
  cases fl with
  | ret u => obtain ⟨v, σ', H', J, rv, q⟩ := hs; exact ⟨v, H', J.os, J.bare, J.base, J.hok, rv, q⟩
  | next => obtain ⟨σ', H', J, q⟩ := hs; exact ⟨V.non, H', J.os, J.bare, J.base, J.hok, rfl, q⟩
  | brk => obtain ⟨_, _, _, q⟩ := hs; exact False.elim q
  | cont => obtain ⟨_, _, _, q⟩ := hs; exact False.elim q
section
variable {X : Cx} {CX : CXT} {k : Nat} {f : Addr} {fd : FuncData} {ps : List Str} {sp : Addr × Obj → Sp} {E : L2.St → XK} {x : Str} {q pos : Pos} {e : Expr} {es : List Expr} {t : TA}
theorem pe_callE (p : Addr × Obj) (F : FnE X.prog X.w X.K X.mg X.base CX k f fd ps sp) (hr : L2H.RoomH k X.A) (hot : L2H.Hot1 X.A p) (hp : p ∈ X.pn) (hg : Gl X x) (hm : X.mg x = some (.ref f)) (hk : PySem.W.keepIn X.K (.ref f) = true) (hb : Binds X.K fd ps []) (hx : ∀ σ, PassesAt CX X σ (E σ))
    (ha : PA X (e :: es) t) (hdb : (x == ("__debug__" : Str)) = false := by decide) (he : starEach (e :: es) X.env = (false, eval e X.env) :: starEach es X.env := by rfl) (hpl : (backTo pos (starEach es X.env)).any (·.1) = false := by rfl) :
    PE X (.Call (.Name x q) (e :: es) [] pos) (tCallS (sp p) E t) := by
  refine ⟨fun pins s σ H Q I h => wpAny_Call_Name_kw (ld_glob I hg hm ?_ hdb)⟩
  refine PySem.W.callWith_K (h₀ := X.base) I.ok.mod.kin hk (thn (ha.run pos pins s σ H _ I h) fun us s1 ⟨vs, H1, I1, r, hsp⟩ => ⟨I1.kIn, ?_⟩) he hpl
  have b := hb s1 us I1.kIn (by rw [List.append_nil, ← r.length]; exact F.len _ _ _ _ _ hsp)
  rw [List.append_nil] at b
  have P1 := I1.pin p (List.mem_append_left _ hp)
  have hpin : L2H.PinOk X.stack H1 s1 p := ⟨P1.1, P1.2.1, fun hm => (List.mem_cons.mp (I1.stkSub p.1 hm)).elim P1.2.2.1 P1.2.2.2.1, P1.2.2.2.2⟩
  refine wpAny_call (codeAny_mono (F.run p X.A X.stack s1 H1 ⟨us, []⟩ us vs Q (E σ) hr hot hpin I1.env0 b r hsp) fun r s' hq => ?_)
  cases r with
  | error e => exact hx σ pins H1 s1 e s' I1 hq
  | ok fl =>
    cases fl with
    | ret u => exact I1.after hq
    | next => exact False.elim hq
    | brk => exact False.elim hq
    | cont => exact False.elim hq
end
end DL
namespace DL
open PySem PySem.Spec PyProof.Rows L2
section
variable {K : PySem.W.Frag} {F : Hp} {TP : List Addr} {G H : Hp} {σ : Sl} {env : DEnv}
theorem EnvR.snoc_raw (E : EnvR K F TP G H σ env) (x : V) : EnvR K F TP G H (σ ++ [some x]) (env ++ [.raw x]) := by
  obtain ⟨W, l, o, ho, hc⟩ := E
  refine ⟨W, by simp [l], o, ho, fun i c v e1 e2 => ?_⟩
  by_cases h : i < env.length
  · rw [List.getElem?_append_left h] at e1
    rw [List.getElem?_append_left (by rw [l]; exact h)] at e2
    exact hc i c v e1 e2
  · have hi : i = env.length := by
      have := (List.getElem?_eq_some_iff.mp e1).1
      simp at this
      omega
    subst hi
    rw [List.getElem?_append_right (Nat.le_refl _), Nat.sub_self] at e1
    rw [List.getElem?_append_right (by omega), l, Nat.sub_self] at e2
    simp at e1 e2
    subst e1 e2
    rfl
end
theorem EndR.wx {K : PySem.W.Frag} {F : Hp} {TP : List Addr} {W : List Nat} {σ : Sl} {G : Hp} {Wx Wx' : XW} {E : Ends} {s : Sg} {env' : DEnv} (h : ∀ x σ H, Wx x σ H → Wx' x σ H) (q : EndR K F TP W σ G Wx E s env') : EndR K F TP W σ G Wx' E s env' := by
  cases s with
  | ex x => exact fun σ' G' H' k g e => h _ _ _ (q σ' G' H' k g e)
  | _ => exact q
/-- what a def says of the exception that is handled: by its class -/
def spE (K : PySem.W.Frag) (TP : List Addr) (Cs : Addr → Option D) : Addr × Obj → Sp := fun p vs H Q _ => ∃ C d Fr G, vs = [.ref p.1] ∧ Zc (.ref C) none p.2 ∧ Cs C = some d ∧ EnvR K Fr TP G H [] [] ∧
  ∀ v G' H', Gr Fr G G' → EnvR K Fr TP G' H' [some v] [.sh d] → Q v H'
abbrev bxE (P : Program) (w : World) (K : PySem.W.Frag) (mg : Str → Option Value) (base : Heap) (N : List Str) (qual : Str) (st : Stmt) (f : Addr) (cdv : Value) (A : Around) (outer : List Env) (s : Shared) (H : Hp) (E : XK) (p : Addr × Obj) : Cx :=
  L2H.cxH (L2N.CX P w) P w K mg base N qual (defScope st) f cdv A outer s H E p
theorem def_okE {P : Program} {w : World} {K : PySem.W.Frag} {mg : Str → Option Value} {base : Heap} {x qual : Str} {st : Stmt} {f : Addr} {fd : FuncData} {cdv : Value} {N : List Str} {n : Str} {k : Nat} {TP : List Addr} {Cs : Addr → Option D} (F : FunC K x qual st f fd cdv) (S : FnScope N [n] (defScope st))
    (hb : ∀ (p : Addr × Obj) (A : Around) (outer : List Env) (s : Shared) (H : Hp) (E : XK) (C : Addr) (d : D), Cs C = some d → L2H.RoomH k (bxE P w K mg base N qual st f cdv A outer s H E p).A → L2H.HotC (bxE P w K mg base N qual st f cdv A outer s H E p) → ExcAt (bxE P w K mg base N qual st f cdv A outer s H E p) C p.1 →
      ∃ b e, PSsD (bxE P w K mg base N qual st f cdv A outer s H E p) TP [] (defBody st) b ∧ b (.raw (.ref p.1) :: List.replicate (N.length - 1) .un) = some (.rt (.sh d), e)) :
    FnE P w K mg base (L2N.CX P w) (k + 1) f fd [n] (spE K TP Cs) := by
  refine fnE_of F S (fun p vs H Q E h => by obtain ⟨_, _, _, _, rfl, _⟩ := h; rfl) fun p A outer s H vs Q E hot hr hsp => ?_
  obtain ⟨C, d, Fr, G, rfl, hz, hd, E0, q⟩ := hsp
  obtain ⟨hh, vs1, e1, c1⟩ := id hot
  obtain ⟨b, e, hp, hbv⟩ := hb p A outer s H E C d hd hr ⟨p, hot, List.mem_singleton.mpr rfl⟩ ⟨p.2, List.mem_singleton.mpr rfl, hz, vs1, e1⟩
  refine ⟨_, hp.pss, Fr, G, _, _, _, hbv, ?_, fun v σ' G' H' kp g E2 => q v G' H' g ?_⟩
  · have := (E0.snoc_raw (.ref p.1)).pad (N.length - 1)
    unfold L2.start
    exact this
  · obtain ⟨x, ex, hx⟩ := E2.last
    cases ex
    have W := E2.wd
    exact (show EnvR K Fr TP G' H' ([] ++ [some v]) ([] ++ [.sh d]) from EnvR.snoc_sh ⟨W, rfl, fun _ => none, fun _ _ z => (by cases z), fun i c v e1 => by simp at e1⟩ hx)
/-! ### try: .. except C as e: return f(e) -/
def sTryW (f : SF) (words : Str → Option D) : SF := fun env => match f env with
  | some (.ex x, e) => match words x with
    | some d => some (.rt (.sh d), e)
    | none => none
  | r => r
theorem passLN {X : Cx} {σ : L2.St} : PassesAt (L2N.CX X.prog X.w) X σ (fun _ _ _ => False) := fun _ _ _ _ _ _ h => by
  obtain ⟨_, _, _, _, _, _, _, _, _, _, _, _, z⟩ := h
  exact z.elim
theorem takesLN {X : Cx} : L2N.Takes X (fun _ _ _ _ => False) := fun _ _ x => by
  obtain ⟨_, _, _, _, _, _, _, _, _, _, _, _, _, _, _, _, z⟩ := x
  exact z.elim
theorem s_tryW {X : Cx} {TP : List Addr} {W : List Nat} {f : SF} {words : Str → Option D} {Cs : Addr → Option D} {body : List Stmt} {x n fn : Str} {c fw : Addr} {fd : FuncData} {pn : Str} {k : Nat} {np np2 np3 pos pos' cpos rpos : Pos}
    (hN : X.N.Nodup) (i : Nat) (hr : Room k X.A) (gc : X.mg x = some (.ref c)) (Fw : FnE X.prog X.w X.K X.mg X.base (L2N.CX X.prog X.w) k fw fd [pn] (spE X.K TP Cs)) (gw : X.mg fn = some (.ref fw)) (kw : PySem.W.keepIn X.K (.ref fw) = true) (bw : Binds X.K fd [pn] [])
    (hw : ∀ y d C, words y = some d → X.mg y = some (.ref C) → Cs C = some d ∧ PySem.W.exmOne X.K (.ref C) (.ref c) = some true)
    (hb : ∀ (pn : List (Addr × Obj)) (xe : Value → Shared → Prop), PassesOwn (model X.prog X.w) X.A X.env xe → PSsD (X.tr pn xe) TP W body f)
    (hs : X.stack = X.env :: X.outer := by rfl) (hf : X.env.frame = some X.env.locals := by rfl) (hi : X.N[i]? = some n := by rfl) (hln : X.env.kindOf n = some .local := by rfl) (hgx : Gl X x := by rfl) (hdx : (x == ("__debug__" : Str)) = false := by decide)
    (hgf : Gl X fn := by rfl) (hdf : (fn == ("__debug__" : Str)) = false := by decide) (hdn : (n == ("__debug__" : Str)) = false := by decide) (hcn : (n == ("__classdict__" : Str)) = false := by decide) (hvn : Vis X.env.scope n := by first | exact Or.inl rfl | exact Or.inr (Or.inl rfl) | exact Or.inr (Or.inr rfl))
    (he : starEach [.Name n np3] X.env = (false, eval (.Name n np3) X.env) :: starEach [] X.env := by rfl) (hpl : (backTo cpos (starEach [] X.env)).any (·.1) = false := by rfl) :
    PSD X TP W (.Try body [.ExceptHandler (some (.Name x np)) (some n) [.Return (some (.Call (.Name fn np2) [.Name n np3] [] cpos)) rpos] pos'] [] [] pos) (sTryW f words) := by
  refine ⟨PS.at (L2N.ps_try_as (tb := fun Wt => tS X.K TP W (fun y σ H => ∀ C, X.mg y = some (.ref C) → Wt (.ref C) none σ H) f)
    (ts := fun a cls d D σ H => ∃ C dd Fr G, cls = .ref C ∧ d = none ∧ σ[i]? = some (some (.ref a)) ∧ Cs C = some dd ∧ EnvR X.K Fr TP G H [] [] ∧ ∀ v G' H', Gr Fr G G' → EnvR X.K Fr TP G' H' [some v] [.sh dd] → D.rt v H')
    hs hf hN hi hln ⟨hgx, hdx, .inl gc⟩ takesLN (fun Wt pn xe tk po => ?_) (fun a oe cls d pn hz hfl => ?_)) fun D σ H hlen ⟨F, G, env, s, env', hf, E, q⟩ => ?_⟩
  · exact (hb pn xe po).pss.imp fun D σ H ⟨F, G, env, s, env', hf, E, q⟩ => ⟨F, G, env, s, env', hf, E, q.wx fun y σ H h C hC => star_of tk (h C hC)⟩
  · have hot : L2H.Hot1 (X.suite a ((a, oe) :: pn)).A (a, oe) := by
      obtain ⟨vs, e⟩ := hfl
      exact ⟨rfl, vs, e, hz.2.2 vs e⟩
    refine (pss_one (ps_ret (pe_callE (X := X.suite a ((a, oe) :: pn)) (E := fun _ _ _ _ => False) (a, oe) Fw ⟨hr.dp, hr.un⟩ hot List.mem_cons_self hgf gw kw bw (fun σ => passLN) (pa_cons (pe_var hi hvn hdn hcn) pa_nil he) hdf he hpl))).imp fun D σ H ⟨C, dd, Fr, G, ec, ed, hσ, hC, E, q⟩ => ?_
    subst ec ed
    exact ⟨.ref a, hσ, C, dd, Fr, G, rfl, ⟨hz.1, hz.2.1⟩, hC, E, q⟩
  · unfold sTryW at hf
    split at hf
    · rename_i y e1 h1
      split at hf
      · rename_i d hd
        cases hf
        refine ⟨F, G, env, _, _, h1, E, fun σ' G' H' kp g E' C hC => ?_⟩
        obtain ⟨h2, h3⟩ := hw y d C hd hC
        refine ⟨true, h3, fun _ a ha => ?_, fun z => Bool.noConfusion z⟩
        obtain ⟨Fr, Ec, back⟩ := call_env (as := []) (vs := []) (cs := []) E' trivial rfl (by simp [slotsOf])
        have hil : i < σ'.length := by
          rw [kp.1, hlen]
          exact (List.getElem?_eq_some_iff.mp hi).1
        refine ⟨C, d, Fr, G', rfl, rfl, by rw [List.getElem?_set_self hil], h2, Ec, fun v G2 H2 g2 E2 => ?_⟩
        obtain ⟨g3, E3⟩ := back rfl g2 E2
        exact q v σ' G2 H2 kp (g.trans g3) E3
      · cases hf
    · rename_i r hr'
      refine ⟨F, G, env, s, env', hf, E, ?_⟩
      cases s with
      | ex y => exact (hr' y env' hf).elim
      | nx => exact q
      | bk => exact q
      | ct => exact q
      | rt c => exact q
theorem fIsE_0 (a : Addr) (b : Bool) (cs : DEnv) : fIsE 0 a b (.raw (.ref a) :: cs) = some (.bool b, .raw (.ref a) :: cs) := by simp [fIsE]
end DL
namespace DL
open PySem PySem.Spec PyProof.Rows L2 DL
local macro_rules | `(tactic| walk_at "ev") => `(tactic| try simp -implicitDefEqProofs (disch := first | omega | (simp only [List.length_append, List.length_map, List.length_cons, List.length_nil]; omega)) only [bnd_some, bnd_none, out_some, out_none, fVar_c, fC_c, aNil_c, aCons_c, aStar_c, fOp_c, fUn_c, fCmp_c, bCmp_c, bVal_c, bTru_c, bNot_c, bAnd_c, bOr_c, fAnd_c, fOr_c, fNot_c, fIf_c, fTup_s, oLst_s, szN_ok, mAppend_ok, fFrz_c, oSh_c, cNil_c, cCons_c, cSlot1_c, oCall_c, sSeq_c, sNil_c, sRt_c, sDrop_c, sIf_c, sSet_c, sAsg_c, sFor_c, sParO_c, sExtV_c, sExtO_s, fSl_c, pNone_c, pSome_c, fBlt_c, oList_c, oListRev_c, oSorted_c, fIsT_c, fChain_c, fMd_c, fIt_c, fArgs_c, bYes_c, oLc_s, oLc2_s, fGenB_c, fDictZip_c, fGet2_c, fPk1_c, fPkL_c, fPkR_c, fPkIx_c, bPkL_c, bPkR_c,
  turn, lcT, genT, tgN, tgTup, tgCons, tgNil, gIt, gNeg, gTru, g1, DL.g2, gLen, gInt, getCells, putCells, slotsOf, own?, Cell.owned, isDict, List.drop, List.drop_nil,
  List.cons_append, List.nil_append, List.getElem?_cons_succ, List.getElem?_cons_zero, List.replicate, List.set_cons_succ, List.set_cons_zero, List.length_cons, List.length_nil, Option.map_some, reduceIte, Nat.reduceAdd, Nat.reduceLT, List.nodup_nil, if_true, if_false, Bool.false_eq_true, Bool.true_eq_false, Bool.not_true, Bool.not_false, gSl, cutD_init, gIxC_tup, gIxC_lst, gEq_int, gNe_int, gInC_int, gInC_lint, gNotInC_int, gNotInC_lint, gOrd, List.length_map, at0, at1, at2, at3, DL.peek, isSc, gAdd_int, gSub_int, gSum_int, gMin1_int, gMax1_int, gTuple, gIsN, gNotN, gIsB, gNotB, isNone, isT_int_int, isT_bool_int, isT_tup_tup, isT_tup_lst, isT_lst_tup, isT_lst_lst, isT_bool_bool, isT_tup_bool, isT_lst_bool, isT_tup_int, isT_lst_int, isT_tup_non, isT_lst_non, isT_int_bool, isT_bool_non, DL.wipeD, DL.restD, DL.ownNo, List.all_cons, List.all_nil, Bool.and_true, Bool.and_self, Bool.true_and, and_self, and_true, true_and, decide_true, decide_false, Option.getD_some, oRep_s, repF_0, repF_1, Int.cast_ofNat_Int, Int.natCast_zero, Int.natCast_one, Int.reduceEq, Int.reduceLT, Int.reduceLE, Int.reduceSub, Int.reduceAdd, Int.reduceNe, nd1, fIsE_0])
/-! ### the package's errors -/
abbrev errWords : List (Str × Str) := [("OutOfRange", "range"), ("Malformed", "form"), ("NotThere", "none"), ("Refused", "refused"), ("TooMuch", "much")]
/-- what the top has left of the error classes -/
structure ErrF (K : PySem.W.Frag) (mg : Str → Option Value) : Prop where
  g0 : mg "FirstError" = some (.ref (He.ga K "FirstError"))
  g : ∀ p ∈ errWords, mg p.1 = some (.ref (He.ga K p.1))
  x : ∀ p ∈ errWords, ExcK K (He.ga K p.1)
  c : ∀ p ∈ errWords, ExcC K (He.ga K p.1)
  kit : ∀ p ∈ errWords, ∀ q ∈ errWords, PySem.W.kitOne K (.ref (He.ga K p.1)) (.ref (He.ga K q.1)) = some (decide (p.1 = q.1))
  ve : ∀ p ∈ errWords, PySem.W.kitOne K (.ref (He.ga K p.1)) (.type "ValueError") = some true
  exm : ∀ p ∈ errWords, PySem.W.exmOne K (.ref (He.ga K p.1)) (.ref (He.ga K "FirstError")) = some true
def errB (K : PySem.W.Frag) (x : Str) : Bool := (He.Fa.exc x).ok K && (decide (PySem.W.findIn K (.ref (He.ga K x)) "__getattribute__" = some (some (.builtin "BaseException.__getattribute__"))) && (decide (PySem.W.findIn K (.ref (He.ga K x)) "__getattr__" = some none) && (PySem.W.hasDictIn K (He.ga K x) && (decide (PySem.W.findIn K (.ref (He.ga K x)) "__class__" = some (some (.builtin "object.__class__"))) && (decide (PySem.W.specialIn K (.builtin "object.__class__") "__get__" = some (some (.builtin "getset_descriptor.__get__"))) &&
  (decide (PySem.W.takesIn K (.builtin "object.__class__") = some true) && decide (PySem.W.mroIn K (He.ga K x) (.type "object") = some true)))))))
def errsB (K : PySem.W.Frag) : Bool := errWords.all fun p => errB K p.1 && (decide (PySem.W.kitOne K (.ref (He.ga K p.1)) (.type "ValueError") = some true) && (decide (PySem.W.exmOne K (.ref (He.ga K p.1)) (.ref (He.ga K "FirstError")) = some true) &&
  errWords.all fun q => decide (PySem.W.kitOne K (.ref (He.ga K p.1)) (.ref (He.ga K q.1)) = some (decide (p.1 = q.1)))))
theorem errF_of {K : PySem.W.Frag} {mg : Str → Option Value} (h : errsB K = true) (g0 : mg "FirstError" = some (.ref (He.ga K "FirstError"))) (g : ∀ p ∈ errWords, mg p.1 = some (.ref (He.ga K p.1))) : ErrF K mg := by
  have h := List.all_eq_true.mp h
  have h1 : ∀ p ∈ errWords, errB K p.1 = true ∧ PySem.W.kitOne K (.ref (He.ga K p.1)) (.type "ValueError") = some true ∧ PySem.W.exmOne K (.ref (He.ga K p.1)) (.ref (He.ga K "FirstError")) = some true ∧ ∀ q ∈ errWords, PySem.W.kitOne K (.ref (He.ga K p.1)) (.ref (He.ga K q.1)) = some (decide (p.1 = q.1)) := fun p hp => by
    have a := h p hp
    rw [Bool.and_eq_true, Bool.and_eq_true, Bool.and_eq_true] at a
    obtain ⟨a1, a2, a3, a4⟩ := a
    exact ⟨a1, of_decide_eq_true a2, of_decide_eq_true a3, fun q hq => of_decide_eq_true (List.all_eq_true.mp a4 q hq)⟩
  have h2 : ∀ p ∈ errWords, ExcK K (He.ga K p.1) ∧ ExcC K (He.ga K p.1) := fun p hp => by
    have a := (h1 p hp).1
    unfold errB at a
    rw [Bool.and_eq_true, Bool.and_eq_true, Bool.and_eq_true, Bool.and_eq_true, Bool.and_eq_true, Bool.and_eq_true, Bool.and_eq_true] at a
    obtain ⟨a1, a2, a3, a4, a5, a6, a7, a8⟩ := a
    obtain ⟨b1, b2, b3, b4⟩ := He.exc_ok a1
    exact ⟨⟨b1, b2, b3, b4⟩, ⟨of_decide_eq_true a2, of_decide_eq_true a3, b3, a4, of_decide_eq_true a5, of_decide_eq_true a6, of_decide_eq_true a7, of_decide_eq_true a8⟩⟩
  exact ⟨g0, g, fun p hp => (h2 p hp).1, fun p hp => (h2 p hp).2, fun p hp => (h1 p hp).2.2.2, fun p hp => (h1 p hp).2.1, fun p hp => (h1 p hp).2.2.1⟩
theorem find_cong {α : Type} {f g : α → Bool} : ∀ {l : List α}, (∀ x ∈ l, f x = g x) → l.find? f = l.find? g
  | [], _ => rfl
  | x :: l, h => by
    rw [List.find?_cons, List.find?_cons, h x List.mem_cons_self, find_cong fun y hy => h y (List.mem_cons_of_mem _ hy)]
/-- the word of a class -/
def errCs (K : PySem.W.Frag) (C : Addr) : Option D := (errWords.find? fun p => decide (He.ga K p.1 = C)).map fun p => .str p.2
def errW (x : Str) : Option D := (errWords.find? fun p => decide (p.1 = x)).map fun p => .str p.2
theorem errCs_inv {K : PySem.W.Frag} {C : Addr} {d : D} (h : errCs K C = some d) : ∃ p ∈ errWords, He.ga K p.1 = C ∧ d = .str p.2 := by
  unfold errCs at h
  rw [Option.map_eq_some_iff] at h
  obtain ⟨p, hp, rfl⟩ := h
  exact ⟨p, List.mem_of_find?_eq_some hp, by simpa using List.find?_some hp, rfl⟩
theorem errW_ok {K : PySem.W.Frag} {mg : Str → Option Value} (Z : ErrF K mg) (y : Str) (d : D) (C : Addr) (h : errW y = some d) (hm : mg y = some (.ref C)) : errCs K C = some d ∧ PySem.W.exmOne K (.ref C) (.ref (He.ga K "FirstError")) = some true := by
  unfold errW at h
  rw [Option.map_eq_some_iff] at h
  obtain ⟨p, hp, rfl⟩ := h
  have hpm := List.mem_of_find?_eq_some hp
  have hpy : p.1 = y := by simpa using List.find?_some hp
  subst hpy
  have eC : C = He.ga K p.1 := by
    have := hm.symm.trans (Z.g p hpm)
    injection this with this
    injection this
  subst eC
  refine ⟨?_, Z.exm p hpm⟩
  have key : ∀ q ∈ errWords, decide (He.ga K q.1 = He.ga K p.1) = decide (q.1 = p.1) := fun q hq => by
    have a := Z.kit p hpm q hq
    by_cases e : q.1 = p.1
    · rw [e, decide_eq_true rfl, decide_eq_true rfl]
    · have e' : ¬ p.1 = q.1 := fun z => e z.symm
      rw [decide_eq_false e'] at a
      rw [decide_eq_false e, decide_eq_false_iff_not]
      intro z
      have b := Z.kit q hq q hq
      rw [← z] at a
      rw [decide_eq_true rfl] at b
      rw [a] at b
      cases b
  unfold errCs
  have : errWords.find? (fun q => decide (He.ga K q.1 = He.ga K p.1)) = some p := by
    rw [← hp]
    exact find_cong (fun q hq => key q hq)
  rw [this]; rfl
/-- the def that tells the word, as a plain function: which b by the class -/
def bWordHead (a : Addr) (b : Str → Bool) : SF := sSet 1 (oLst (aCons (fIsE 0 a (b "OutOfRange")) (aCons (fIsE 0 a (b "Malformed")) (aCons (fIsE 0 a (b "NotThere")) (aCons (fIsE 0 a (b "Refused")) (aCons (fIsE 0 a (b "TooMuch")) aNil))))))
def bWordTest : BF := bCmp gNe (fBlt (g1 gLen) (aCons (fFrz (oLc [2] (fItL (fVar 1)) (tgN 2) (bTru (fVar 2)) (fVar 2))) aNil)) (fC (.int 1))
def bWordEnd : SF := sRt (oSh (fOp gIxC (fFrz (oLst (aCons (fC (.str "range")) (aCons (fC (.str "form")) (aCons (fC (.str "none")) (aCons (fC (.str "refused")) (aCons (fC (.str "much")) aNil))))))) (fOp gIndex (fVar 1) (fC (.bool true)))))
def bWord1 (a : Addr) (b : Str → Bool) : SF := sSeq (bWordHead a b) (sSeq (sIf bWordTest (sRt (oSh (fC (.str "many")))) sNil) bWordEnd)
def bWord2 (a : Addr) (b : Str → Bool) : SF := sSeq (bWordHead a b) (sSeq (sIf (bOr (bNot (bTru (fIsE 0 a true))) bWordTest) (sRt (oSh (fC (.str "many")))) sNil) bWordEnd)
theorem sSeq_nx {f g : SF} {env e : DEnv} (h : f env = some (.nx, e)) : sSeq f g env = g e := by unfold sSeq; rw [h]
theorem bWordHead_ev (a : Addr) (b : Str → Bool) : bWordHead a b [.raw (.ref a), .un, .un] = some (.nx, [.raw (.ref a), .ow [.bool (b "OutOfRange"), .bool (b "Malformed"), .bool (b "NotThere"), .bool (b "Refused"), .bool (b "TooMuch")], .un]) := by
  unfold bWordHead
  walk_at "ev"
theorem bWordTest_ev (a : Addr) (b : Str → Bool) {p : Str × Str} (hp : p ∈ errWords) (hb : ∀ q ∈ errWords, b q.1 = decide (p.1 = q.1)) : ∃ w, bWordTest [.raw (.ref a), .ow [.bool (b "OutOfRange"), .bool (b "Malformed"), .bool (b "NotThere"), .bool (b "Refused"), .bool (b "TooMuch")], .un] = some (false, [.raw (.ref a), .sh (.list [.bool (b "OutOfRange"), .bool (b "Malformed"), .bool (b "NotThere"), .bool (b "Refused"), .bool (b "TooMuch")]), w]) ∧
    bWordEnd [.raw (.ref a), .sh (.list [.bool (b "OutOfRange"), .bool (b "Malformed"), .bool (b "NotThere"), .bool (b "Refused"), .bool (b "TooMuch")]), w] = some (.rt (.sh (.str p.2)), [.raw (.ref a), .sh (.list [.bool (b "OutOfRange"), .bool (b "Malformed"), .bool (b "NotThere"), .bool (b "Refused"), .bool (b "TooMuch")]), w]) := by
  have h1 := hb ("OutOfRange", "range") (by simp)
  have h2 := hb ("Malformed", "form") (by simp)
  have h3 := hb ("NotThere", "none") (by simp)
  have h4 := hb ("Refused", "refused") (by simp)
  have h5 := hb ("TooMuch", "much") (by simp)
  dsimp only at h1 h2 h3 h4 h5
  rw [h1, h2, h3, h4, h5]
  simp only [List.mem_cons, List.not_mem_nil, or_false] at hp
  refine ⟨.un, ?_⟩
  rcases hp with rfl | rfl | rfl | rfl | rfl <;> exact ⟨by rfl, by rfl⟩

theorem bWord1_ev {a : Addr} {b : Str → Bool} {p : Str × Str} (hp : p ∈ errWords) (hb : ∀ q ∈ errWords, b q.1 = decide (p.1 = q.1)) : ∃ e, bWord1 a b [.raw (.ref a), .un, .un] = some (.rt (.sh (.str p.2)), e) := by
  obtain ⟨w, h1, h2⟩ := bWordTest_ev a b hp hb
  unfold bWord1
  rw [sSeq_nx (bWordHead_ev a b)]
  refine ⟨_, (sSeq_nx ?_).trans h2⟩
  unfold sIf
  rw [h1]
  rfl
theorem bWord2_ev {a : Addr} {b : Str → Bool} {p : Str × Str} (hp : p ∈ errWords) (hb : ∀ q ∈ errWords, b q.1 = decide (p.1 = q.1)) : ∃ e, bWord2 a b [.raw (.ref a), .un, .un] = some (.rt (.sh (.str p.2)), e) := by
  obtain ⟨w, h1, h2⟩ := bWordTest_ev a b hp hb
  unfold bWord2
  rw [sSeq_nx (bWordHead_ev a b)]
  refine ⟨_, (sSeq_nx ?_).trans h2⟩
  unfold sIf
  have : bOr (bNot (bTru (fIsE 0 a true))) bWordTest [.raw (.ref a), .ow [.bool (b "OutOfRange"), .bool (b "Malformed"), .bool (b "NotThere"), .bool (b "Refused"), .bool (b "TooMuch")], .un] = some (false, [.raw (.ref a), .sh (.list [.bool (b "OutOfRange"), .bool (b "Malformed"), .bool (b "NotThere"), .bool (b "Refused"), .bool (b "TooMuch")]), w]) := by
    walk_at "ev"
    exact h1
  rw [this]
  rfl

end DL
namespace DL
open PySem PySem.Spec PyProof.Rows L2
/-- a call that does not raise here -/
def oInl (o : OXF) : OF := fun env => match o env with
  | some (.inl c, e) => some (c, e)
  | _ => none
theorem ox_inl {X : Cx} {TP : List Addr} {e : Expr} {o : OXF} (h : POX X TP e o) : PO X TP e (oInl o) := by
  refine ⟨h.pe.imp fun σ H Q ⟨F, G, env, r, env', hf, E, q⟩ => ?_⟩
  unfold oInl at hf
  split at hf
  · rename_i c e1 h1
    cases hf
    exact ⟨F, G, env, .inl r, _, h1, E, q⟩
  · cases hf
theorem def_okX2 {P : Program} {w : World} {K : PySem.W.Frag} {mg : Str → Option Value} {base : Heap} {x qual : Str} {st : Stmt} {f : Addr} {fd : FuncData} {cdv : Value} {k : Nat} {TP : List Addr} {b : SF} (N ps : List Str) (n m : Nat) (W : List Nat) (Fn : CXF) (F : FunC K x qual st f fd cdv) (S : FnScope N ps (defScope st))
    (hF : Fn = defX n m W b) (hn : ps.length = n) (hm : N.length - ps.length = m)
    (hb : ∀ (A : Around) (outer : List Env) (s : Shared) (H : Hp) (E : XK), Room k (bxX P w K mg base N qual st f cdv A outer s H E).A → PSsD (bxX P w K mg base N qual st f cdv A outer s H E) TP W (defBody st) b) :
    FnOk P w K mg base (L2N.CX P w) (k + 1) f fd ps (SpX K TP mg Fn) := by
  subst hF hn hm
  exact def_okX F S hb
theorem huH1 {k : Nat} {A : Around} (r : L2H.RoomH k A) : A.units + 1 < cLine := by have := r.un; omega
theorem huH64 {k : Nat} {A : Around} (r : L2H.RoomH k A) : A.units + 64 < cLine := by have := r.un; omega
theorem huH65 {k : Nat} {A : Around} (r : L2H.RoomH k A) : A.units + 65 < cLine := by have := r.un; omega
end DL
namespace DL
open PySem PySem.Spec PyProof.Rows L2
/-! ### dict(list of pairs), the keys tuples of ints -/
def tpairs : List D → Option (List (List Int × D))
  | [] => some []
  | .tuple [.tuple ks, v] :: r => match intsD ks, tpairs r with
    | some a, some b => some ((a, v) :: b)
    | _, _ => none
  | _ => none
def dT (kvs : List (List Int × D)) : D := .dict (kvs.map fun p => (.tuple (p.1.map .int), p.2))
def gDictT : D → Option D
  | .list xs => match tpairs xs with
    | some kvs => if (kvs.map (·.1)).Nodup ∧ xs.length ≤ sizeLine then some (dT kvs) else none
    | none => none
  | _ => none
theorem tp_of {X : Cx} {pins : List (Addr × Obj)} {σ : L2.St} {H G : Hp} {s : Shared} (I : Inv X pins σ H s) (sg : Same G H) : ∀ {xs : List V} {ds : List D} {kvs : List (List Int × D)}, DqAll X.K G xs ds → tpairs ds = some kvs →
    ∃ (Ts : List Addr) (xq : List (List Int × Addr × Value)), xs = Ts.map V.ref ∧ DqX X.K G xq (kvs.map fun p => (.tuple (p.1.map .int), p.2)) ∧ xq.map (·.1) = kvs.map (·.1) ∧ Ts.length = xq.length ∧
      (∀ (j : Nat) q, xq[j]? = some q → ∃ T, Ts[j]? = some T ∧ IsTup s.heap T #[.ref q.2.1, q.2.2]) ∧ ∀ x ∈ xq, SqT X.K G x.2.1 (x.1.map V.int)
  | _, _, _, .nil, h => by
    cases h
    exact ⟨[], [], rfl, .nil, rfl, rfl, fun j q h => by simp at h, fun x hx => by cases hx⟩
  | _, _, kvs, .cons (d := d) (ds := ds) ra rb, h => by
    unfold tpairs at h
    split at h
    · rename_i h0; cases h0
    · rename_i ks v r h0
      cases h0
      split at h
      · rename_i a b h1 h2
        cases h
        obtain ⟨Ts, xq, e1, e2, e3, e4, e5, e6⟩ := tp_of I sg rb h2
        cases ra with
        | tup q ra =>
          rename_i T xs1
          cases ra with
          | cons r1 ra =>
            cases ra with
            | cons r2 ra =>
              cases ra
              rw [intsD_map h1] at r1
              cases r1 with
              | tup qk rk =>
                rename_i bk ys
                have ey : ys = a.map V.int := intsD_of rk (by rw [intsD_int'])
                subst ey
                obtain ⟨its, rv, ht, _⟩ := I.tuple (sameT sg q)
                obtain ⟨u1, u2, ei, ru1, ru2⟩ := vals2 rv
                subst ei
                cases ru1
                subst e1
                refine ⟨T :: Ts, (a, bk, u2) :: xq, rfl, .cons qk ru2 r2 e2, by rw [List.map_cons, List.map_cons, e3], by simp [e4], fun j qq hj => ?_, fun x hx => ?_⟩
                · cases j with
                  | zero => simp at hj; subst hj; exact ⟨T, rfl, ht⟩
                  | succ j => exact e5 j qq (by simpa using hj)
                · rcases List.mem_cons.mp hx with e | hx
                  · subst e; exact qk
                  · exact e6 x hx
      · cases h
    · cases h
def rDictT (K : PySem.W.Frag) : List V → Hp → VK → Prop := fun xs H Q => ∃ (a : Addr) (G : Hp) (ds : List D) (kvs : List (List Int × D)), xs = [.ref a] ∧ Same G H ∧ Dq K G (.ref a) (.list ds) ∧ tpairs ds = some kvs ∧ (kvs.map (·.1)).Nodup ∧ ds.length ≤ sizeLine ∧
  ∀ d G2 H2, Ext G H G2 H2 → Dq K G2 (.ref d) (dT kvs) → Q (.ref d) H2
theorem call_dictT {X : Cx} (hc : X.calm = true) (hu : X.A.units + 3 < cLine) : CallR X (.type "dict") (rDictT X.K) := by
  intro pins s σ H xs us Q I r hq
  obtain ⟨a, G, ds, kvs, rfl, sg, rd, hk, hnd, hz, q⟩ := hq
  cases r with
  | cons r rr =>
    cases rr
    cases r
    cases rd with
    | @lst _ xl _ ql rl =>
      obtain ⟨Ts, xq, e1, x1, x2, e4, x5, x6⟩ := tp_of I sg rl hk
      subst e1
      obtain ⟨its, rv, pl, _⟩ := I.list (sg.seq ql)
      have ei := refs_at rv
      subst ei
      have hxl : xq.length = ds.length := by rw [← e4, ← dpAll_len rl, List.length_map]
      have P := PairArg.list (prog := X.prog) (w := X.w) a (Ts.map Value.ref).toArray (fun j => Ts.getD j 0) (xq.map fun q => (.ref q.2.1, q.2.2))
      have hps : PairItems s.heap (Ts.map Value.ref).toArray (fun j => Ts.getD j 0) (xq.map fun q => (Value.ref q.2.1, q.2.2)) := by
        refine ⟨by simp [e4], fun j k v hj => ?_⟩
        rw [List.getElem?_map, Option.map_eq_some_iff] at hj
        obtain ⟨qq, hqq, hkv⟩ := hj
        injection hkv with h1 h2
        subst h1 h2
        obtain ⟨T, hT, ht⟩ := x5 j qq hqq
        refine ⟨by simp [hT], ?_⟩
        have : Ts.getD j 0 = T := by rw [List.getD_eq_getElem?_getD, hT]; rfl
        dsimp only
        rw [this]
        exact .inl ht
      refine call_dict_pairsH (knd := tupleKind (mixKind X.prog X.w)) (ps := xq.map fun x => (x.1.map Sum.inl, x.2)) P (I.ok.hd hc) (show X.A.in1.in1.units < cLine by show X.A.units + 1 + 1 < cLine; omega) ⟨pl, hps⟩ ⟨by simp, fun i key w hw => ?_⟩ (fun h2 hk2 x hx => ?_) (by simp; omega) fun h3 tk hd hk3 => ?_
      · have hw : (xq.map fun q => (Value.ref q.2.1, q.2.2))[i]? = some (key, w) := hw
        rw [List.getElem?_map, Option.map_eq_some_iff] at hw
        obtain ⟨qq, hqq, hkv⟩ := hw
        injection hkv with h1 h2
        subst h1 h2
        exact ⟨qq.1.map Sum.inl, qq.2.1, by rw [List.getElem?_map, hqq]; rfl, rfl⟩
      · obtain ⟨y, hy, rfl⟩ := List.mem_map.mp hx
        have kk : (tupleKind (mixKind X.prog X.w)).is s.heap (y.1.map Sum.inl) y.2.1 := key_sq I (by rw [List.map_map]; exact sameT sg (x6 y hy))
        obtain ⟨o, items, n, k1, k2, k3, k4⟩ := kk
        exact ⟨o, items, n, hk2 _ _ (Nat.ne_of_lt (Heap.lt_size k1)) (by simp) k1, k2, k3, k4⟩
      · have hnd2 : ((xq.map fun x => ((x.1.map Sum.inl : List Key), x.2)).map (·.1)).Nodup := by
          rw [List.map_map]
          have e : ((fun x : List Key × Addr × Value => x.1) ∘ fun x : List Int × Addr × Value => ((x.1.map Sum.inl : List Key), x.2)) = (List.map Sum.inl) ∘ (·.1) := rfl
          rw [e, ← List.map_map, x2]
          exact List.Pairwise.map _ (fun a b hab h => hab (inl_inj h)) hnd
        rw [stored_new _ [] (by simpa using hnd2), List.nil_append] at hd
        obtain ⟨o, es, ep, d1, d2, d3, d4, _, d5⟩ := hd
        have hk4 : ∀ b o, s.heap.get? b = some o → h3.get? b = some o := fun b o e => hk3 b o (by simp) e
        have fr : H s.heap.objs.size = none := I.hok.fresh (Nat.le_refl _)
        have x := Ext.new1 (o := HO.ext fun h => h.get? s.heap.objs.size = some o) sg fr
        refine ⟨.ref s.heap.objs.size, upd H s.heap.objs.size (.ext fun h => h.get? s.heap.objs.size = some o), I.laid (t' := tk) hk4 (Nat.le_refl _) (show ObjOk X.prog X.w _ _ _ (.ext _) from ⟨d1, ⟨o, d1⟩, fun a b e k => k _ e⟩), rfl, q _ _ _ x (.dX upd_same ⟨d2, ⟨es, ep, d3, ?_⟩, ?_, ?_, ?_⟩ (dpXMono x.g _ x1))⟩
        · rw [d4, List.map_map]
          apply List.map_congr_left
          rintro ⟨ks, b, u⟩ _
          simp only [Function.comp, entryOfKey, tupleKind, tupleKeyHash, mixKind, intKH, List.map_map]
          rfl
        · rw [x2]; exact hnd
        · exact beq_eq_false_iff_ne.mpr (Nat.ne_of_gt I.big)
        · rw [hxl]; exact hz
theorem cd_dictT {K : PySem.W.Frag} : CallD K (rDictT K) (g1 gDictT) := by
  intro G H xs as d Q h s r q
  cases r with
  | nil => cases h
  | cons ra rb =>
    cases rb with
    | cons _ _ => cases h
    | nil =>
      have ra' := ra
      cases ra' with
      | lst qa r =>
        simp only [g1, gDictT] at h
        split at h
        · rename_i kvs hk
          split at h
          · rename_i hn
            cases h
            exact ⟨_, G, _, kvs, rfl, s, ra, hk, hn.1, hn.2, fun d G2 H2 x rd => q _ G2 H2 x rd⟩
          · cases h
        · cases h
      | _ => cases h
/-- dict(list of pairs): keys of one kind -/
def gDictA (d : D) : Option D := match gDictP d with
  | some r => some r
  | none => gDictT d
theorem call_dictA {X : Cx} (hc : X.calm = true) (hu : X.A.units + 3 < cLine) : CallR X (.type "dict") (fun xs H Q => (∃ (a : Addr) (ps : List Addr) (kvs : List (Key × V)), xs = [.ref a] ∧ SqL X.K H a (ps.map V.ref) ∧ Paired (fun p kv => SqT X.K H p [kV kv.1, kv.2]) ps kvs ∧ ∀ p, H p = none → Q (.ref p) (upd H p (.dK (mergeK [] kvs)))) ∨ rDictT X.K xs H Q) :=
  CallR.or (call_dictP hc) (call_dictT hc hu)
theorem cd_dictA {K : PySem.W.Frag} : CallD K (fun xs H Q => (∃ (a : Addr) (ps : List Addr) (kvs : List (Key × V)), xs = [.ref a] ∧ SqL K H a (ps.map V.ref) ∧ Paired (fun p kv => SqT K H p [kV kv.1, kv.2]) ps kvs ∧ ∀ p, H p = none → Q (.ref p) (upd H p (.dK (mergeK [] kvs)))) ∨ rDictT K xs H Q) (g1 gDictA) := by
  intro G H xs as d Q h s r q
  match as, h with
  | [x], h =>
    simp only [g1, gDictA] at h
    split at h
    · rename_i r' hr'
      cases h
      exact .inl (cd_dictP (by simpa [g1] using hr') s r q)
    · exact .inr (cd_dictT (by simpa [g1] using h) s r q)
end DL
namespace DL
open PySem PySem.Spec PyProof.Rows L2
theorem hu3 {k : Nat} {A : Around} (r : Room k A) : A.units + 3 < cLine := by have := r.un; omega
end DL
namespace DL
open PySem PySem.Spec PyProof.Rows L2
/-! rows for what raises, at a written environment -/
section
variable {c : Cell} {cs : DEnv}
theorem sRaise_c (x : Str) : sRaise x (c :: cs) = some (.ex x, c :: cs) := rfl
theorem oCallX_c (F : CXF) (args : CAF) : oCallX F args (c :: cs) = (bnd (args (c :: cs)) fun as e1 => match getCells e1 as with
  | none => none
  | some ks => if (slotsOf as).Nodup then match F ks with
    | none => none
    | some (r, ks') => if ks'.length = ks.length then some (r, putCells as ks' e1) else none
    else none) := rfl
theorem oInl_c (o : OXF) : oInl o (c :: cs) = (match o (c :: cs) with
  | some (.inl c, e) => some (c, e)
  | _ => none) := rfl
theorem oOk_c (o : OF) : oOk o (c :: cs) = (bnd (o (c :: cs)) fun c e => some (.inl c, e)) := rfl
theorem oIfX_c (k : BF) (a b : OXF) : oIfX k a b (c :: cs) = (bnd (k (c :: cs)) fun k e => if k then a e else b e) := rfl
theorem sRtX_c (o : OXF) : sRtX o (c :: cs) = (match o (c :: cs) with
  | some (.inl c, e) => some (.rt c, e)
  | some (.inr x, e) => some (.ex x, e)
  | none => none) := rfl
theorem sDropX_c (o : OXF) : sDropX o (c :: cs) = (match o (c :: cs) with
  | some (.inl _, e) => some (.nx, e)
  | some (.inr x, e) => some (.ex x, e)
  | none => none) := rfl
theorem sSetX_c (i : Nat) (o : OXF) : sSetX i o (c :: cs) = (match o (c :: cs) with
  | some (.inl c, e) => if i < e.length then some (.nx, e.set i c) else none
  | some (.inr x, e) => some (.ex x, e)
  | none => none) := rfl
theorem sTryW_c (f : SF) (words : Str → Option D) : sTryW f words (c :: cs) = (match f (c :: cs) with
  | some (.ex x, e) => match words x with
    | some d => some (.rt (.sh d), e)
    | none => none
  | r => r) := rfl
end
theorem errW_range : errW "OutOfRange" = some (.str "range") := by rfl
theorem errW_form : errW "Malformed" = some (.str "form") := by rfl
theorem errW_none : errW "NotThere" = some (.str "none") := by rfl
theorem errW_refused : errW "Refused" = some (.str "refused") := by rfl
theorem errW_much : errW "TooMuch" = some (.str "much") := by rfl
/-- a raising def of shared arguments -/
theorem defX_sh {n m : Nat} {W : List Nat} {b : SF} {cs : List Cell} {r : Cell} (h1 : cs.length = n) (h2 : ownOk W cs = true) (h3 : ∀ c ∈ cs, c.owned = false) (hb : ∃ e, b (cs ++ List.replicate m .un) = some (.rt r, e)) : defX n m W b cs = some (.inl r, cs) := by
  obtain ⟨e, hb⟩ := hb
  unfold defX
  rw [if_pos ⟨h1, h2⟩, hb]
  dsimp only
  rw [backs_sh cs e h3]
theorem defX_ex {n m : Nat} {W : List Nat} {b : SF} {cs : List Cell} {x : Str} (h1 : cs.length = n) (h2 : ownOk W cs = true) (h3 : ∀ c ∈ cs, c.owned = false) (hb : ∃ e, b (cs ++ List.replicate m .un) = some (.ex x, e)) : defX n m W b cs = some (.inr x, cs) := by
  obtain ⟨e, hb⟩ := hb
  unfold defX
  rw [if_pos ⟨h1, h2⟩, hb]
  dsimp only
  rw [backs_sh cs e h3]
/-! dicts with tuple keys, from pairs -/
theorem tpairs_ints : ∀ ps : List (List Int × D), tpairs (ps.map fun p => .tuple [.tuple (p.1.map .int), p.2]) = some ps
  | [] => rfl
  | p :: ps => by
    have ih := tpairs_ints ps
    simp only [List.map_cons, tpairs, intsD_int', ih]
theorem pairsD_tup {p : List Int × D} {r : List D} : pairsD (.tuple [.tuple (p.1.map .int), p.2] :: r) = none := by
  simp [pairsD, skey]
theorem gDictA_tups {ps : List (List Int × D)} (h : (ps.map (·.1)).Nodup) (hz : ps.length ≤ 1000000) : gDictA (.list (ps.map fun p => .tuple [.tuple (p.1.map .int), p.2])) = some (dT ps) := by
  have h2 : gDictT (.list (ps.map fun p => .tuple [.tuple (p.1.map .int), p.2])) = some (dT ps) := by
    unfold gDictT
    dsimp only
    rw [tpairs_ints]
    dsimp only
    rw [if_pos ⟨h, by rw [List.length_map, sizeLine_eq]; omega⟩]
  unfold gDictA
  cases ps with
  | nil => rfl
  | cons p ps =>
    have : gDictP (.list ((p :: ps).map fun p => .tuple [.tuple (p.1.map .int), p.2])) = none := by
      unfold gDictP
      dsimp only
      rw [List.map_cons, pairsD_tup]; rfl
    rw [this]
    exact h2
theorem gDictA_ints {ps : List (Int × D)} (h : (ps.map (·.1)).Nodup) : gDictA (.list (ps.map fun p => .tuple [.int p.1, p.2])) = some (dI ps) := by
  unfold gDictA
  rw [gDictP_ints h]
end DL
namespace DL
open PySem PySem.Spec PyProof.Rows L2
theorem gAdd_tup {a b : List D} (h : a.length + b.length ≤ 1000000) : gAdd (.tuple a) (.tuple b) = some (.tuple (a ++ b)) := by
  have : a.length + b.length ≤ sizeLine := by rw [sizeLine_eq]; omega
  simp only [gAdd, this, if_true]
end DL
namespace K38
open PySem PySem.Spec PyProof.Rows L2 DL
noncomputable def b__law_draws : SF :=
  (sSeq (sSet 1 (oLst aNil))
  (sSeq (sFor (fIt (fVar 0)) (tgN 2)
  (sSeq (sSet 5 (oSh (fBlt (g1 gAbs) (aCons (fVar 2) aNil))))
  (sSeq (sIf (bCmp (gOrd (fun i j => decide (i < j))) (fVar 5) (fOp gPow (fC (.int 10)) (fC (.int 18))))
  (sSeq (sSet 6 (oSh (fOp gMod (fBlt (g1 gInt) (aCons (fOp gAdd (fOp gMulA (fVar 5) (fC (.int 48271))) (fC (.int 11))) aNil)) (fC (.int 2147483647)))))
  (sSeq (sDrop (fMd 1 mAppend (aCons (fOp gMod (fBlt (g1 gInt) (aCons (fOp gAdd (fOp gMulA (fVar 6) (fC (.int 69621))) (fVar 5)) aNil)) (fC (.int 2147483629))) aNil)))
  (sSeq (sDrop (fMd 1 mAppend (aCons (fOp gMod (fBlt (g1 gInt) (aCons (fOp gAdd (fVar 6) (fOp gFdiv (fVar 5) (fC (.int 7)))) aNil)) (fC (.int 1000003))) aNil)))
  (sSet 5 (oSh (fC (.int 0)))))))
  sNil)
  (sFor (fArgs gRange1 (aCons (fC (.int 60)) aNil)) (tgN 4)
  (sIf (bCmp (gOrd (fun i j => decide (j < i))) (fVar 5) (fC (.int 0)))
  (sSeq (sDrop (fMd 1 mAppend (aCons (fOp gMod (fBlt (g1 gInt) (aCons (fVar 5) aNil)) (fC (.int 997))) aNil)))
  (sSet 5 (oSh (fOp gFdiv (fVar 5) (fC (.int 997))))))
  sNil)))))
  (sSeq (sSet 3 (oSh (fC (.int 1))))
  (sSeq (sIf (bCmp (gOrd (fun i j => decide (j < i))) (fBlt (g1 gLen) (aCons (fVar 0) aNil)) (fC (.int 0)))
  (sSet 3 (oSh (fOp gAdd (fC (.int 1)) (fBlt (g1 gAbs) (aCons (fOp gIxC (fVar 0) (fC (.int 0))) aNil)))))
  sNil)
  (sSeq (sFor (fArgs gRange1 (aCons (fC (.int 900)) aNil)) (tgN 4)
  (sSeq (sSet 3 (oSh (fOp gMod (fBlt (g1 gInt) (aCons (fOp gAdd (fOp gMulA (fVar 3) (fC (.int 48271))) (fC (.int 69621))) aNil)) (fC (.int 2147483647)))))
  (sDrop (fMd 1 mAppend (aCons (fOp gFdiv (fVar 3) (fC (.int 5))) aNil)))))
  (sRt (oListRev (fVar 1))))))))
noncomputable def F__law_draws : CF := defF 1 6 [] b__law_draws
noncomputable def b__law_take : SF :=
  (sSeq (sIf (bCmp gEq (fPk1 0 (g1 gLen)) (fC (.int 0)))
  (sRt (oSh (fC (.int 0))))
  sNil)
  (sRt (oSh (fOp gMod (fBlt (g1 gInt) (aCons (fMd 0 mPop aNil) aNil)) (fVar 1)))))
noncomputable def F__law_take : CF := defF 2 0 [0] b__law_take
noncomputable def b__law_council : SF :=
  (sSeq (sParO 4 5 (oCall F__law_take (cSlot' 0 (cCons (fC (.int 2)) cNil))) (oCall F__law_take (cSlot' 0 (cCons (fC (.int 4)) cNil))))
  (sSeq (sSet 1 (oLst (aCons (fTup (aCons (fC (.int 7)) (aCons (fC (.int 1)) (aCons (fTup (aCons (fC (.int 0)) (aCons (fC (.int 3)) aNil))) aNil)))) (aCons (fTup (aCons (fC (.int 4)) (aCons (fC (.int 2)) (aCons (fTup (aCons (fC (.int 1)) (aCons (fC (.int 2)) (aCons (fC (.int 3)) aNil)))) aNil)))) (aCons (fTup (aCons (fC (.int 4)) (aCons (fC (.int 2)) (aCons (fTup (aCons (fC (.int 0)) (aCons (fC (.int 1)) (aCons (fC (.int 3)) aNil)))) aNil)))) (aCons (fTup (aCons (fC (.int 6)) (aCons (fC (.int 1)) (aCons (fTup (aCons (fC (.int 1)) (aCons (fC (.int 2)) (aCons (fC (.int 5)) aNil)))) aNil)))) (aCons (fTup (aCons (fC (.int 5)) (aCons (fC (.int 1)) (aCons (fTup (aCons (fC (.int 1)) (aCons (fC (.int 2)) (aCons (fC (.int 3)) (aCons (fC (.int 4)) aNil))))) aNil)))) (aCons (fTup (aCons (fC (.int 7)) (aCons (fC (.int 1)) (aCons (fTup (aCons (fC (.int 2)) (aCons (fC (.int 6)) aNil))) aNil)))) (aCons (fTup (aCons (fC (.int 5)) (aCons (fC (.int 2)) (aCons (fTup (aCons (fC (.int 3)) aNil)) aNil)))) (aCons (fTup (aCons (fC (.int 5)) (aCons (fC (.int 1)) (aCons (fTup (aCons (fC (.int 0)) (aCons (fC (.int 1)) (aCons (fC (.int 4)) aNil)))) aNil)))) (aCons (fTup (aCons (fC (.int 6)) (aCons (fC (.int 1)) (aCons (fTup (aCons (fC (.int 0)) (aCons (fC (.int 2)) aNil))) aNil)))) aNil)))))))))))
  (sSeq (sIf (bCmp (gOrd (fun i j => decide (j < i))) (fVar 5) (fC (.int 1)))
  (sSeq (sAsg (fOp gIxC (fVar 1) (fFrz (oCall F__law_take (cSlot' 0 (cCons (fBlt (g1 gLen) (aCons (fVar 1) aNil)) cNil))))) (tgTup 3 (tgCons (tgN 2) (tgCons (tgN 3) (tgCons (tgN 6) tgNil)))))
  (sRt (oSh (fTup (aCons (fVar 2) (aCons (fVar 3) (aCons (fVar 6) (aCons (fVar 4) aNil))))))))
  sNil)
  (sSeq (sSet 2 (oSh (fOp gAdd (fC (.int 2)) (fFrz (oCall F__law_take (cSlot' 0 (cCons (fC (.int 6)) cNil)))))))
  (sSeq (sSet 3 (oCall F__law_take (cSlot' 0 (cCons (fOp gAdd (fBlt (DL.g2 gMin2) (aCons (fC (.int 2)) (aCons (fOp gSub (fVar 2) (fC (.int 2))) aNil))) (fC (.int 1))) cNil))))
  (sRt (oSh (fTup (aCons (fVar 2) (aCons (fVar 3) (aCons (fBlt (g1 gTuple) (aCons (fFrz (oLc [7] (fArgs gRange1 (aCons (fVar 2) aNil)) (tgN 7) (bCmp gEq (fFrz (oCall F__law_take (cSlot' 0 (cCons (fC (.int 4)) cNil)))) (fC (.int 0))) (fVar 7))) aNil)) (aCons (fVar 4) aNil))))))))))))
noncomputable def F__law_council : CF := defF 1 7 [0] b__law_council
noncomputable def b__law_paths : SF :=
  (sSeq (sParO 3 4 (oLst (aCons (fTup (aCons (fC (.int 0)) aNil)) aNil)) (oLst (aCons (fTup (aCons (fC (.int 0)) aNil)) aNil)))
  (sSeq (sFor (fArgs gRange1 (aCons (fVar 1) aNil)) (tgN 2)
  (sSeq (sSet 5 (oLst aNil))
  (sSeq (sFor (fIt (fVar 4)) (tgN 6)
  (sSet 5 (oSh (fOp gAdd (fVar 5) (fFrz (oLc [7] (fArgs gRange1 (aCons (fVar 0) aNil)) (tgN 7) (bCmp gNotInC (fVar 7) (fVar 6)) (fOp gAdd (fVar 6) (fTup (aCons (fVar 7) aNil)))))))))
  (sSeq (sSet 4 (oSh (fVar 5)))
  (sSet 3 (oSh (fOp gAdd (fVar 3) (fVar 4))))))))
  (sRt (oSh (fVar 3)))))
noncomputable def F__law_paths : CF := defF 2 6 [] b__law_paths
noncomputable def b__law_sayings : SF :=
  (sSeq (sAsg (fVar 0) (tgTup 4 (tgCons (tgN 3) (tgCons (tgN 4) (tgCons (tgN 5) (tgCons (tgN 6) tgNil))))))
  (sSeq (sSet 1 (oLst aNil))
  (sSeq (sFor (fIt (fFrz (oCall F__law_paths (cCons (fVar 3) (cCons (fVar 4) cNil))))) (tgN 2)
  (sIf (bCmp gInC (fOp gIxC (fVar 2) (fUn gNeg (fC (.int 1)))) (fVar 5))
  (sSet 1 (oSh (fOp gAdd (fVar 1) (fFrz (oLc [7] (fArgs gRange1 (aCons (fVar 3) aNil)) (tgN 7) (bCmp gNotInC (fVar 7) (fVar 2)) (fOp gAdd (fVar 2) (fTup (aCons (fVar 7) aNil))))))))
  sNil))
  (sRt (oSorted (aCons (fVar 1) aNil))))))
noncomputable def F__law_sayings : CF := defF 1 7 [] b__law_sayings
noncomputable def b_paths_from : SF :=
  (sSeq (sParO 3 4 (oLst (aCons (fTup (aCons (fC (.int 0)) aNil)) aNil)) (oLst (aCons (fTup (aCons (fC (.int 0)) aNil)) aNil)))
  (sSeq (sFor (fArgs gRange1 (aCons (fVar 1) aNil)) (tgN 2)
  (sSeq (sSet 4 (oLc2 [5, 6] [6] (fIt (fVar 4)) (tgN 5) bYes (fArgs gRange1 (aCons (fVar 0) aNil)) (tgN 6) (bCmp gNotInC (fVar 6) (fVar 5)) (fTup (aStar (fVar 5) (aCons (fVar 6) aNil)))))
  (sExtV 3 4)))
  (sRt (oSh (fVar 3)))))
noncomputable def F_paths_from : CF := defF 2 5 [] b_paths_from
noncomputable def b_sayings : SF :=
  (sSeq (sAsg (fVar 0) (tgTup 4 (tgCons (tgN 3) (tgCons (tgN 4) (tgCons (tgN 5) (tgCons (tgN 6) tgNil))))))
  (sSeq (sSet 1 (oLst aNil))
  (sSeq (sFor (fIt (fFrz (oCall F_paths_from (cCons (fVar 3) (cCons (fVar 4) cNil))))) (tgN 2)
  (sIf (bCmp gInC (fOp gIxC (fVar 2) (fUn gNeg (fC (.int 1)))) (fVar 5))
  (sExtO 1 (oLc [7] (fArgs gRange1 (aCons (fVar 3) aNil)) (tgN 7) (bCmp gNotInC (fVar 7) (fVar 2)) (fTup (aStar (fVar 2) (aCons (fVar 7) aNil)))))
  sNil))
  (sRt (oSorted (aCons (fVar 1) aNil))))))
noncomputable def F_sayings : CF := defF 1 7 [] b_sayings
noncomputable def b_lies_by_saying : SF :=
  (sRt (oSh (fDictZip (fFrz (oCall F_sayings (cCons (fVar 0) cNil))) (fVar 1))))
noncomputable def F_lies_by_saying : CF := defF 2 0 [] b_lies_by_saying
noncomputable def b_heard (R : CF) : SF :=
  (sSeq (sSet 4 (oSh (fTup (aStar (fVar 2) (aCons (fVar 3) aNil)))))
  (sSeq (sIf (bCmp gInC (fVar 4) (fVar 1))
  (sRt (oSh (fOp gIxC (fVar 1) (fVar 4))))
  sNil)
  (sRt (oSh (fIf (bCmp gEq (fBlt (g1 gLen) (aCons (fVar 2) aNil)) (fC (.int 1))) (fOp gIxC (fVar 0) (fC (.int 3))) (fFrz (oCall R (cCons (fVar 0) (cCons (fVar 1) (cCons (fSl (fVar 2) pNone (pSome (fUn gNeg (fC (.int 1))))) (cCons (fOp gIxC (fVar 2) (fUn gNeg (fC (.int 1)))) cNil)))))))))))
noncomputable def F_heard : Nat → CF
  | 0 => fun _ => none
  | n + 1 => defF 4 1 [] (b_heard (F_heard n))
noncomputable def b_makes (R : CF) : SF :=
  (sSeq (sSet 4 (oCall (F_heard 5) (cCons (fVar 0) (cCons (fVar 1) (cCons (fVar 2) (cCons (fVar 3) cNil))))))
  (sSeq (sIf (bCmp gEq (fBlt (g1 gLen) (aCons (fVar 2) aNil)) (fOp gAdd (fOp gIxC (fVar 0) (fC (.int 1))) (fC (.int 1))))
  (sRt (oSh (fVar 4)))
  sNil)
  (sSeq (sSet 5 (oLst (aCons (fVar 4) aNil)))
  (sSeq (sFor (fArgs gRange1 (aCons (fOp gIxC (fVar 0) (fC (.int 0))) aNil)) (tgN 6)
  (sIf (bAnd (bCmp gNotInC (fVar 6) (fVar 2)) (bCmp gNe (fVar 6) (fVar 3)))
  (sDrop (fMd 5 mAppend (aCons (fFrz (oCall R (cCons (fVar 0) (cCons (fVar 1) (cCons (fTup (aStar (fVar 2) (aCons (fVar 6) aNil))) (cCons (fVar 3) cNil)))))) aNil)))
  sNil))
  (sRt (oSh (fBlt (g1 gInt) (aCons (fCmp (gOrd (fun i j => decide (j < i))) (fOp gMulA (fC (.int 2)) (fBlt (g1 gSum) (aCons (fVar 5) aNil))) (fPk1 5 (g1 gLen))) aNil))))))))
noncomputable def F_makes : Nat → CF
  | 0 => fun _ => none
  | n + 1 => defF 4 3 [] (b_makes (F_makes n))
noncomputable def b_decisions : SF :=
  (sSeq (sSet 2 (oCall F_lies_by_saying (cCons (fVar 0) (cCons (fVar 1) cNil))))
  (sRt (oSh (fBlt (g1 gTuple) (aCons (fFrz (oLc [3] (fArgs gRange2 (aCons (fC (.int 1)) (aCons (fOp gIxC (fVar 0) (fC (.int 0))) aNil))) (tgN 3) bYes (fFrz (oCall (F_makes 5) (cCons (fVar 0) (cCons (fVar 2) (cCons (fTup (aCons (fC (.int 0)) aNil)) (cCons (fVar 3) cNil)))))))) aNil)))))
noncomputable def F_decisions : CF := defF 2 2 [] b_decisions
noncomputable def b_do_part : SF :=
  (sSeq (sAsg (fVar 0) (tgTup 4 (tgCons (tgN 4) (tgCons (tgN 5) (tgCons (tgN 6) (tgCons (tgN 7) tgNil))))))
  (sSeq (sSet 2 (oCall F_decisions (cCons (fVar 0) (cCons (fVar 1) cNil))))
  (sSeq (sSet 3 (oLc [8] (fArgs gRange2 (aCons (fC (.int 1)) (aCons (fVar 4) aNil))) (tgN 8) (bCmp gNotInC (fVar 8) (fVar 6)) (fOp gIxC (fVar 2) (fOp gSub (fVar 8) (fC (.int 1))))))
  (sSeq (sIf (bCmp gNotInC (fC (.int 0)) (fVar 6))
  (sDrop (fMd 3 mAppend (aCons (fVar 7) aNil)))
  sNil)
  (sRt (oSh (fAnd (fCmp (gOrd (fun i j => decide (j < i))) (fPk1 3 (g1 gLen)) (fC (.int 0))) (fCmp gNe (fBlt (g1 gMin1) (aCons (fVar 3) aNil)) (fBlt (g1 gMax1) (aCons (fVar 3) aNil))))))))))
noncomputable def F_do_part : CF := defF 2 7 [] b_do_part
noncomputable def b_lies_for : SF :=
  (sSeq (sSet 1 (oSh (fBlt (g1 gLen) (aCons (fFrz (oCall F_sayings (cCons (fVar 0) cNil))) aNil))))
  (sSeq (sIf (bCmp (gOrd (fun i j => decide (j < i))) (fVar 1) (fC (.int 12)))
  (sRaise "TooMuch")
  sNil)
  (sSeq (sSet 2 (oLst (aCons (fTup aNil) aNil)))
  (sSeq (sFor (fArgs gRange1 (aCons (fVar 1) aNil)) (tgN 3)
  (sSet 2 (oLc2 [4, 5] [5] (fIt (fVar 2)) (tgN 4) bYes (fIt (fTup (aCons (fC (.int 0)) (aCons (fC (.int 1)) aNil)))) (tgN 5) bYes (fTup (aStar (fVar 4) (aCons (fVar 5) aNil))))))
  (sSeq (sFor (fIt (fVar 2)) (tgN 4)
  (sIf (bTru (fFrz (oCall F_do_part (cCons (fVar 0) (cCons (fVar 4) cNil)))))
  (sRt (oSh (fVar 4)))
  sNil))
  (sRt (oSh (fC .none))))))))
noncomputable def F_lies_for : CXF := defX 1 5 [] b_lies_for
noncomputable def b__law_told : SF :=
  (sTryW (sRtX (oCallX F_lies_for (cCons (fVar 0) cNil))) errW)
noncomputable def F__law_told : CF := defF 1 1 [] b__law_told
noncomputable def b__law_power : SF :=
  (sSeq (sSet 1 (oSh (fC (.int 1))))
  (sSeq (sFor (fArgs gRange1 (aCons (fVar 0) aNil)) (tgN 2)
  (sSet 1 (oSh (fOp gMulA (fC (.int 2)) (fVar 1)))))
  (sRt (oSh (fVar 1)))))
noncomputable def F__law_power : CF := defF 1 2 [] b__law_power
noncomputable def b__law_heard (R : CF) : SF :=
  (sSeq (sIf (bCmp gInC (fOp gAdd (fVar 2) (fTup (aCons (fVar 3) aNil))) (fVar 1))
  (sRt (oSh (fOp gIxC (fVar 1) (fOp gAdd (fVar 2) (fTup (aCons (fVar 3) aNil))))))
  sNil)
  (sSeq (sIf (bCmp gEq (fBlt (g1 gLen) (aCons (fVar 2) aNil)) (fC (.int 1)))
  (sRt (oSh (fOp gIxC (fVar 0) (fC (.int 3)))))
  sNil)
  (sRt (oCall R (cCons (fVar 0) (cCons (fVar 1) (cCons (fSl (fVar 2) pNone (pSome (fUn gNeg (fC (.int 1))))) (cCons (fOp gIxC (fVar 2) (fUn gNeg (fC (.int 1)))) cNil))))))))
noncomputable def F__law_heard : Nat → CF
  | 0 => fun _ => none
  | n + 1 => defF 4 0 [] (b__law_heard (F__law_heard n))
noncomputable def b__law_makes (R : CF) : SF :=
  (sSeq (sSet 4 (oCall (F__law_heard 5) (cCons (fVar 0) (cCons (fVar 1) (cCons (fVar 2) (cCons (fVar 3) cNil))))))
  (sSeq (sIf (bCmp gEq (fBlt (g1 gLen) (aCons (fVar 2) aNil)) (fOp gAdd (fOp gIxC (fVar 0) (fC (.int 1))) (fC (.int 1))))
  (sRt (oSh (fVar 4)))
  sNil)
  (sSeq (sSet 5 (oSh (fOp gAdd (fFrz (oLst (aCons (fVar 4) aNil))) (fFrz (oLc [6] (fArgs gRange1 (aCons (fOp gIxC (fVar 0) (fC (.int 0))) aNil)) (tgN 6) (bAnd (bCmp gNotInC (fVar 6) (fVar 2)) (bCmp gNe (fVar 6) (fVar 3))) (fFrz (oCall R (cCons (fVar 0) (cCons (fVar 1) (cCons (fOp gAdd (fVar 2) (fTup (aCons (fVar 6) aNil))) (cCons (fVar 3) cNil)))))))))))
  (sRt (oSh (fBlt (g1 gInt) (aCons (fCmp (gOrd (fun i j => decide (j < i))) (fOp gMulA (fC (.int 2)) (fBlt (g1 gSum) (aCons (fVar 5) aNil))) (fBlt (g1 gLen) (aCons (fVar 5) aNil))) aNil)))))))
noncomputable def F__law_makes : Nat → CF
  | 0 => fun _ => none
  | n + 1 => defF 4 3 [] (b__law_makes (F__law_makes n))
noncomputable def b__law_decisions : SF :=
  (sSeq (sSet 3 (oSh (fBlt (g1 gDictA) (aCons (fFrz (oLc [4] (fArgs gRange1 (aCons (fBlt (g1 gLen) (aCons (fVar 2) aNil)) aNil)) (tgN 4) bYes (fTup (aCons (fOp gIxC (fVar 2) (fVar 4)) (aCons (fOp gIxC (fVar 1) (fVar 4)) aNil))))) aNil))))
  (sRt (oSh (fBlt (g1 gTuple) (aCons (fFrz (oLc [5] (fArgs gRange2 (aCons (fC (.int 1)) (aCons (fOp gIxC (fVar 0) (fC (.int 0))) aNil))) (tgN 5) bYes (fFrz (oCall (F__law_makes 5) (cCons (fVar 0) (cCons (fVar 3) (cCons (fTup (aCons (fC (.int 0)) aNil)) (cCons (fVar 5) cNil)))))))) aNil)))))
noncomputable def F__law_decisions : CF := defF 3 3 [] b__law_decisions
noncomputable def b__law_parts : SF :=
  (sSeq (sSet 3 (oCall F__law_decisions (cCons (fVar 0) (cCons (fVar 1) (cCons (fVar 2) cNil)))))
  (sSeq (sSet 4 (oLc [5] (fArgs gRange2 (aCons (fC (.int 1)) (aCons (fOp gIxC (fVar 0) (fC (.int 0))) aNil))) (tgN 5) (bCmp gNotInC (fVar 5) (fOp gIxC (fVar 0) (fC (.int 2)))) (fOp gIxC (fVar 3) (fOp gSub (fVar 5) (fC (.int 1))))))
  (sSeq (sSet 4 (oSh (fOp gAdd (fVar 4) (fFrz (oRep (oLst (aCons (fOp gIxC (fVar 0) (fC (.int 3))) aNil)) (fBlt (g1 gInt) (aCons (fCmp gNotInC (fC (.int 0)) (fOp gIxC (fVar 0) (fC (.int 2)))) aNil)))))))
  (sRt (oSh (fAnd (fCmp gNe (fVar 4) (fFrz (oLst aNil))) (fCmp gNe (fBlt (g1 gMin1) (aCons (fVar 4) aNil)) (fBlt (g1 gMax1) (aCons (fVar 4) aNil)))))))))
noncomputable def F__law_parts : CF := defF 3 3 [] b__law_parts
noncomputable def b_is_number : SF :=
  (sRt (oSh (fAnd (fIsT "int" (fVar 0)) (fAnd (fNot (fIsT "bool" (fVar 0))) (fChain (gOrd (fun i j => decide (i ≤ j))) (gOrd (fun i j => decide (i ≤ j))) (fVar 1) (fVar 0) (fVar 2))))))
noncomputable def F_is_number : CF := defF 3 0 [] b_is_number
noncomputable def b_is_council : SF :=
  (sSeq (sIf (bOr (bNot (bTru (fIsT "tuple" (fVar 0)))) (bOr (bCmp gNe (fBlt (g1 gLen) (aCons (fVar 0) aNil)) (fC (.int 4))) (bNot (bTru (fFrz (oCall F_is_number (cCons (fOp gIxC (fVar 0) (fC (.int 0))) (cCons (fC (.int 2)) (cCons (fC (.int 7)) cNil)))))))))
  (sRt (oSh (fC (.bool false))))
  sNil)
  (sSeq (sAsg (fVar 0) (tgTup 4 (tgCons (tgN 1) (tgCons (tgN 2) (tgCons (tgN 3) (tgCons (tgN 4) tgNil))))))
  (sSeq (sIf (bOr (bNot (bTru (fFrz (oCall F_is_number (cCons (fVar 2) (cCons (fC (.int 0)) (cCons (fBlt (DL.g2 gMin2) (aCons (fC (.int 2)) (aCons (fOp gSub (fVar 1) (fC (.int 2))) aNil))) cNil))))))) (bOr (bNot (bTru (fFrz (oCall F_is_number (cCons (fVar 4) (cCons (fC (.int 0)) (cCons (fC (.int 1)) cNil))))))) (bNot (bTru (fIsT "tuple" (fVar 3))))))
  (sRt (oSh (fC (.bool false))))
  sNil)
  (sSeq (sIf (bNot (bTru (fGenB true [6] (fIt (fVar 3)) (tgN 6) bYes (fFrz (oCall F_is_number (cCons (fVar 6) (cCons (fC (.int 0)) (cCons (fOp gSub (fVar 1) (fC (.int 1))) cNil))))))))
  (sRt (oSh (fC (.bool false))))
  sNil)
  (sRt (oSh (fGenB true [5] (fArgs gRange1 (aCons (fOp gSub (fBlt (g1 gLen) (aCons (fVar 3) aNil)) (fC (.int 1))) aNil)) (tgN 5) bYes (fCmp (gOrd (fun i j => decide (i < j))) (fOp gIxC (fVar 3) (fVar 5)) (fOp gIxC (fVar 3) (fOp gAdd (fVar 5) (fC (.int 1))))))))))))
noncomputable def F_is_council : CF := defF 1 6 [] b_is_council
noncomputable def b__law_alike (R : CF) : SF :=
  (sSeq (sIf (bOr (bTru (fIsT "list" (fVar 1))) (bTru (fIsT "tuple" (fVar 1))))
  (sSeq (sIf (bOr (bCmp gNe (fIsT "list" (fVar 0)) (fIsT "list" (fVar 1))) (bCmp gNe (fIsT "tuple" (fVar 0)) (fIsT "tuple" (fVar 1))))
  (sRt (oSh (fC (.bool false))))
  sNil)
  (sRt (oSh (fAnd (fCmp gEq (fBlt (g1 gLen) (aCons (fVar 0) aNil)) (fBlt (g1 gLen) (aCons (fVar 1) aNil))) (fCmp gEq (fFrz (oLc [2] (fArgs gRange1 (aCons (fBlt (g1 gLen) (aCons (fVar 1) aNil)) aNil)) (tgN 2) (bNot (bTru (fFrz (oCall R (cCons (fOp gIxC (fVar 0) (fVar 2)) (cCons (fOp gIxC (fVar 1) (fVar 2)) cNil)))))) (fVar 2))) (fFrz (oLst aNil)))))))
  sNil)
  (sSeq (sIf (bCmp gIsN (fVar 1) (fC .none))
  (sRt (oSh (fCmp gIsN (fVar 0) (fC .none))))
  sNil)
  (sSeq (sIf (bOr (bTru (fIsT "bool" (fVar 1))) (bTru (fIsT "bool" (fVar 0))))
  (sRt (oSh (fAnd (fIsT "bool" (fVar 0)) (fAnd (fIsT "bool" (fVar 1)) (fCmp gEq (fVar 0) (fVar 1))))))
  sNil)
  (sSeq (sIf (bTru (fIsT "int" (fVar 1)))
  (sRt (oSh (fAnd (fIsT "int" (fVar 0)) (fCmp gEq (fVar 0) (fVar 1)))))
  sNil)
  (sRt (oSh (fAnd (fIsT "str" (fVar 0)) (fCmp gEq (fVar 0) (fVar 1)))))))))
noncomputable def F__law_alike : Nat → CF
  | 0 => fun _ => none
  | n + 1 => defF 2 1 [] (b__law_alike (F__law_alike n))
noncomputable def b_are_lies : SF :=
  (sSeq (sIf (bOr (bNot (bTru (fIsT "tuple" (fVar 1)))) (bCmp gNe (fBlt (g1 gLen) (aCons (fVar 1) aNil)) (fBlt (g1 gLen) (aCons (fFrz (oCall F_sayings (cCons (fVar 0) cNil))) aNil))))
  (sRt (oSh (fC (.bool false))))
  sNil)
  (sRt (oSh (fGenB true [2] (fIt (fVar 1)) (tgN 2) bYes (fFrz (oCall F_is_number (cCons (fVar 2) (cCons (fC (.int 0)) (cCons (fC (.int 1)) cNil)))))))))
noncomputable def F_are_lies : CF := defF 2 1 [] b_are_lies
noncomputable def b_law : SF :=
  (sSeq (sSet 1 (oCall F__law_draws (cCons (fVar 0) cNil)))
  (sSeq (sSet 2 (oCall F__law_council (cSlot' 1 cNil)))
  (sSeq (sSet 3 (oCall F__law_sayings (cCons (fVar 2) cNil)))
  (sSeq (sIf (bOr (bCmp gNotB (fFrz (oCall F_is_council (cCons (fVar 2) cNil))) (fC (.bool true))) (bNot (bTru (fFrz (oCall (F__law_alike 5) (cCons (fFrz (oCall F_sayings (cCons (fVar 2) cNil))) (cCons (fVar 3) cNil)))))))
  (sRt (oSh (fC (.bool false))))
  sNil)
  (sSeq (sFor (fArgs gRange1 (aCons (fC (.int 3)) aNil)) (tgN 4)
  (sSeq (sSet 8 (oSh (fBlt (g1 gTuple) (aCons (fFrz (oLc [11] (fIt (fVar 3)) (tgN 11) bYes (fOp gIxC (fFrz (oLst (aCons (fFrz (oCall F__law_take (cSlot' 1 (cCons (fC (.int 2)) cNil)))) (aCons (fOp gSub (fC (.int 1)) (fOp gIxC (fVar 2) (fC (.int 3)))) (aCons (fOp gMod (fBlt (g1 gInt) (aCons (fVar 4) aNil)) (fC (.int 2))) aNil))))) (fFrz (oCall F__law_take (cSlot' 1 (cCons (fC (.int 3)) cNil))))))) aNil))))
  (sSeq (sSet 9 (oLst (aCons (fC (.bool true)) (aCons (fC (.bool false)) (aCons (fFrz (oCall F__law_decisions (cCons (fVar 2) (cCons (fVar 8) (cCons (fVar 3) cNil))))) (aCons (fFrz (oCall F__law_parts (cCons (fVar 2) (cCons (fVar 8) (cCons (fVar 3) cNil))))) aNil))))))
  (sIf (bNot (bTru (fFrz (oCall (F__law_alike 5) (cCons (fFrz (oLst (aCons (fFrz (oCall F_are_lies (cCons (fVar 2) (cCons (fVar 8) cNil)))) (aCons (fFrz (oCall F_are_lies (cCons (fVar 2) (cCons (fOp gAdd (fVar 8) (fTup (aCons (fC (.int 0)) aNil))) cNil)))) (aCons (fFrz (oCall F_decisions (cCons (fVar 2) (cCons (fVar 8) cNil)))) (aCons (fFrz (oCall F_do_part (cCons (fVar 2) (cCons (fVar 8) cNil)))) aNil)))))) (cCons (fVar 9) cNil))))))
  (sRt (oSh (fC (.bool false))))
  sNil))))
  (sSeq (sSet 5 (oCall F__law_told (cCons (fVar 2) cNil)))
  (sSeq (sIf (bAnd (bCmp (gOrd (fun i j => decide (j < i))) (fOp gIxC (fVar 2) (fC (.int 0))) (fOp gMulA (fC (.int 3)) (fOp gIxC (fVar 2) (fC (.int 1))))) (bAnd (bCmp (gOrd (fun i j => decide (i ≤ j))) (fBlt (g1 gLen) (aCons (fOp gIxC (fVar 2) (fC (.int 2))) aNil)) (fOp gIxC (fVar 2) (fC (.int 1)))) (bAnd (bCmp gNotN (fVar 5) (fC .none)) (bCmp gNe (fVar 5) (fC (.str "much"))))))
  (sRt (oSh (fC (.bool false))))
  sNil)
  (sSeq (sIf (bCmp (gOrd (fun i j => decide (j < i))) (fBlt (g1 gLen) (aCons (fVar 3) aNil)) (fC (.int 12)))
  (sRt (oSh (fCmp gEq (fVar 5) (fC (.str "much")))))
  sNil)
  (sSeq (sIf (bCmp gNotN (fVar 5) (fC .none))
  (sRt (oSh (fAnd (fIsT "tuple" (fVar 5)) (fAnd (fCmp gIsB (fFrz (oCall F_are_lies (cCons (fVar 2) (cCons (fVar 5) cNil)))) (fC (.bool true))) (fFrz (oCall F__law_parts (cCons (fVar 2) (cCons (fVar 5) (cCons (fVar 3) cNil)))))))))
  sNil)
  (sSeq (sSet 6 (oLc [10] (fArgs gRange1 (aCons (fBlt (g1 gLen) (aCons (fVar 3) aNil)) aNil)) (tgN 10) bYes (fFrz (oCall F__law_power (cCons (fVar 10) cNil)))))
  (sSeq (sFor (fArgs gRange1 (aCons (fFrz (oCall F__law_power (cCons (fBlt (g1 gLen) (aCons (fVar 3) aNil)) cNil))) aNil)) (tgN 7)
  (sIf (bTru (fFrz (oCall F__law_parts (cCons (fVar 2) (cCons (fBlt (g1 gTuple) (aCons (fFrz (oLc [12] (fIt (fVar 6)) (tgN 12) bYes (fOp gMod (fBlt (g1 gInt) (aCons (fOp gFdiv (fVar 7) (fVar 12)) aNil)) (fC (.int 2))))) aNil)) (cCons (fVar 3) cNil))))))
  (sRt (oSh (fC (.bool false))))
  sNil))
  (sRt (oSh (fC (.bool true)))))))))))))))
noncomputable def F_law : CF := defF 1 12 [] b_law
end K38
namespace K38
open PySem PySem.Spec PyProof.Rows L2 DL
def topS (i : Nat) : Stmt := PySem.Challenge.pw_happenedfirst_k38_whole_councils_of_twel.main.body.getD i (.Pass ⟨0, 0, 0, 0⟩)
abbrev s__law_draws : Stmt := topS 24
theorem sc__law_draws : FnScope ["script", "draws", "cell", "seed", "k", "number", "first"] ["script"] (defScope s__law_draws) := ⟨rfl, rfl, rfl, by decide +kernel, rfl, by decide +kernel, by decide +kernel⟩
abbrev s__law_take : Stmt := topS 25
theorem sc__law_take : FnScope ["draws", "bound"] ["draws", "bound"] (defScope s__law_take) := ⟨rfl, rfl, rfl, by decide +kernel, rfl, by decide +kernel, by decide +kernel⟩
abbrev s__law_council : Stmt := topS 35
theorem sc__law_council : FnScope ["draws", "great", "many", "deep", "order", "way", "liars", "node"] ["draws"] (defScope s__law_council) := ⟨rfl, rfl, rfl, by decide +kernel, rfl, by decide +kernel, by decide +kernel⟩
abbrev s__law_paths : Stmt := topS 29
theorem sc__law_paths : FnScope ["many", "deep", "turn", "found", "last", "later", "path", "node"] ["many", "deep"] (defScope s__law_paths) := ⟨rfl, rfl, rfl, by decide +kernel, rfl, by decide +kernel, by decide +kernel⟩
abbrev s__law_sayings : Stmt := topS 30
theorem sc__law_sayings : FnScope ["council", "found", "path", "many", "deep", "liars", "order", "node"] ["council"] (defScope s__law_sayings) := ⟨rfl, rfl, rfl, by decide +kernel, rfl, by decide +kernel, by decide +kernel⟩
abbrev s_paths_from : Stmt := topS 14
theorem sc_paths_from : FnScope ["n", "deep", "_", "found", "last", "path", "node"] ["n", "deep"] (defScope s_paths_from) := ⟨rfl, rfl, rfl, by decide +kernel, rfl, by decide +kernel, by decide +kernel⟩
abbrev s_sayings : Stmt := topS 15
theorem sc_sayings : FnScope ["council", "told", "path", "n", "deep", "liars", "_", "node"] ["council"] (defScope s_sayings) := ⟨rfl, rfl, rfl, by decide +kernel, rfl, by decide +kernel, by decide +kernel⟩
abbrev s_lies_by_saying : Stmt := topS 19
theorem sc_lies_by_saying : FnScope ["council", "lies"] ["council", "lies"] (defScope s_lies_by_saying) := ⟨rfl, rfl, rfl, by decide +kernel, rfl, by decide +kernel, by decide +kernel⟩
abbrev s_heard : Stmt := topS 17
theorem sc_heard : FnScope ["council", "lies", "path", "node", "said"] ["council", "lies", "path", "node"] (defScope s_heard) := ⟨rfl, rfl, rfl, by decide +kernel, rfl, by decide +kernel, by decide +kernel⟩
abbrev s_makes : Stmt := topS 18
theorem sc_makes : FnScope ["council", "lies", "path", "node", "own", "parts", "other"] ["council", "lies", "path", "node"] (defScope s_makes) := ⟨rfl, rfl, rfl, by decide +kernel, rfl, by decide +kernel, by decide +kernel⟩
abbrev s_decisions : Stmt := topS 20
theorem sc_decisions : FnScope ["council", "lies", "told", "node"] ["council", "lies"] (defScope s_decisions) := ⟨rfl, rfl, rfl, by decide +kernel, rfl, by decide +kernel, by decide +kernel⟩
abbrev s_do_part : Stmt := topS 21
theorem sc_do_part : FnScope ["council", "lies", "found", "plain", "n", "_", "liars", "order", "node"] ["council", "lies"] (defScope s_do_part) := ⟨rfl, rfl, rfl, by decide +kernel, rfl, by decide +kernel, by decide +kernel⟩
abbrev s_lies_for : Stmt := topS 22
theorem sc_lies_for : FnScope ["council", "many", "rows", "_", "row", "one"] ["council"] (defScope s_lies_for) := ⟨rfl, rfl, rfl, by decide +kernel, rfl, by decide +kernel, by decide +kernel⟩
abbrev s__law_word : Stmt := topS 27
theorem sc__law_word : FnScope ["e", "kinds", "kind"] ["e"] (defScope s__law_word) := ⟨rfl, rfl, rfl, by decide +kernel, rfl, by decide +kernel, by decide +kernel⟩
abbrev s__law_told : Stmt := topS 28
theorem sc__law_told : FnScope ["council", "e"] ["council"] (defScope s__law_told) := ⟨rfl, rfl, rfl, by decide +kernel, rfl, by decide +kernel, by decide +kernel⟩
abbrev s__law_power : Stmt := topS 36
theorem sc__law_power : FnScope ["times", "found", "k"] ["times"] (defScope s__law_power) := ⟨rfl, rfl, rfl, by decide +kernel, rfl, by decide +kernel, by decide +kernel⟩
abbrev s__law_heard : Stmt := topS 31
theorem sc__law_heard : FnScope ["council", "lies", "path", "node"] ["council", "lies", "path", "node"] (defScope s__law_heard) := ⟨rfl, rfl, rfl, by decide +kernel, rfl, by decide +kernel, by decide +kernel⟩
abbrev s__law_makes : Stmt := topS 32
theorem sc__law_makes : FnScope ["council", "lies", "path", "node", "own", "parts", "other"] ["council", "lies", "path", "node"] (defScope s__law_makes) := ⟨rfl, rfl, rfl, by decide +kernel, rfl, by decide +kernel, by decide +kernel⟩
abbrev s__law_decisions : Stmt := topS 33
theorem sc__law_decisions : FnScope ["council", "row", "told", "lies", "k", "node"] ["council", "row", "told"] (defScope s__law_decisions) := ⟨rfl, rfl, rfl, by decide +kernel, rfl, by decide +kernel, by decide +kernel⟩
abbrev s__law_parts : Stmt := topS 34
theorem sc__law_parts : FnScope ["council", "row", "told", "found", "plain", "node"] ["council", "row", "told"] (defScope s__law_parts) := ⟨rfl, rfl, rfl, by decide +kernel, rfl, by decide +kernel, by decide +kernel⟩
abbrev s_is_number : Stmt := topS 8
theorem sc_is_number : FnScope ["value", "least", "most"] ["value", "least", "most"] (defScope s_is_number) := ⟨rfl, rfl, rfl, by decide +kernel, rfl, by decide +kernel, by decide +kernel⟩
abbrev s_is_council : Stmt := topS 13
theorem sc_is_council : FnScope ["value", "n", "deep", "liars", "order", "place", "node"] ["value"] (defScope s_is_council) := ⟨rfl, rfl, rfl, by decide +kernel, rfl, by decide +kernel, by decide +kernel⟩
abbrev s__law_alike : Stmt := topS 26
theorem sc__law_alike : FnScope ["found", "due", "k"] ["found", "due"] (defScope s__law_alike) := ⟨rfl, rfl, rfl, by decide +kernel, rfl, by decide +kernel, by decide +kernel⟩
abbrev s_are_lies : Stmt := topS 16
theorem sc_are_lies : FnScope ["council", "value", "one"] ["council", "value"] (defScope s_are_lies) := ⟨rfl, rfl, rfl, by decide +kernel, rfl, by decide +kernel, by decide +kernel⟩
abbrev s_law : Stmt := topS 37
theorem sc_law : FnScope ["script", "draws", "council", "told", "turn", "found", "powers", "number", "row", "due", "k", "one", "power"] ["script"] (defScope s_law) := ⟨rfl, rfl, rfl, by decide +kernel, rfl, by decide +kernel, by decide +kernel⟩
structure Fs (K : PySem.W.Frag) (mg : Str → Option Value) (base : Heap) (TP : List Addr) where
  a__law_draws : Addr
  d__law_draws : FuncData
  c__law_draws : Addr
  F__law_draws : FunC K "_law_draws" "_law_draws" s__law_draws a__law_draws d__law_draws (.ref c__law_draws)
  g__law_draws : mg "_law_draws" = some (.ref a__law_draws)
  a__law_take : Addr
  d__law_take : FuncData
  c__law_take : Addr
  F__law_take : FunC K "_law_take" "_law_take" s__law_take a__law_take d__law_take (.ref c__law_take)
  g__law_take : mg "_law_take" = some (.ref a__law_take)
  a__law_council : Addr
  d__law_council : FuncData
  c__law_council : Addr
  F__law_council : FunC K "_law_council" "_law_council" s__law_council a__law_council d__law_council (.ref c__law_council)
  g__law_council : mg "_law_council" = some (.ref a__law_council)
  a__law_paths : Addr
  d__law_paths : FuncData
  c__law_paths : Addr
  F__law_paths : FunC K "_law_paths" "_law_paths" s__law_paths a__law_paths d__law_paths (.ref c__law_paths)
  g__law_paths : mg "_law_paths" = some (.ref a__law_paths)
  a__law_sayings : Addr
  d__law_sayings : FuncData
  c__law_sayings : Addr
  F__law_sayings : FunC K "_law_sayings" "_law_sayings" s__law_sayings a__law_sayings d__law_sayings (.ref c__law_sayings)
  g__law_sayings : mg "_law_sayings" = some (.ref a__law_sayings)
  a_paths_from : Addr
  d_paths_from : FuncData
  c_paths_from : Addr
  F_paths_from : FunC K "paths_from" "paths_from" s_paths_from a_paths_from d_paths_from (.ref c_paths_from)
  g_paths_from : mg "paths_from" = some (.ref a_paths_from)
  a_sayings : Addr
  d_sayings : FuncData
  c_sayings : Addr
  F_sayings : FunC K "sayings" "sayings" s_sayings a_sayings d_sayings (.ref c_sayings)
  g_sayings : mg "sayings" = some (.ref a_sayings)
  a_lies_by_saying : Addr
  d_lies_by_saying : FuncData
  c_lies_by_saying : Addr
  F_lies_by_saying : FunC K "lies_by_saying" "lies_by_saying" s_lies_by_saying a_lies_by_saying d_lies_by_saying (.ref c_lies_by_saying)
  g_lies_by_saying : mg "lies_by_saying" = some (.ref a_lies_by_saying)
  a_heard : Addr
  d_heard : FuncData
  c_heard : Addr
  F_heard : FunC K "heard" "heard" s_heard a_heard d_heard (.ref c_heard)
  g_heard : mg "heard" = some (.ref a_heard)
  a_makes : Addr
  d_makes : FuncData
  c_makes : Addr
  F_makes : FunC K "makes" "makes" s_makes a_makes d_makes (.ref c_makes)
  g_makes : mg "makes" = some (.ref a_makes)
  a_decisions : Addr
  d_decisions : FuncData
  c_decisions : Addr
  F_decisions : FunC K "decisions" "decisions" s_decisions a_decisions d_decisions (.ref c_decisions)
  g_decisions : mg "decisions" = some (.ref a_decisions)
  a_do_part : Addr
  d_do_part : FuncData
  c_do_part : Addr
  F_do_part : FunC K "do_part" "do_part" s_do_part a_do_part d_do_part (.ref c_do_part)
  g_do_part : mg "do_part" = some (.ref a_do_part)
  a_lies_for : Addr
  d_lies_for : FuncData
  c_lies_for : Addr
  F_lies_for : FunC K "lies_for" "lies_for" s_lies_for a_lies_for d_lies_for (.ref c_lies_for)
  g_lies_for : mg "lies_for" = some (.ref a_lies_for)
  a__law_word : Addr
  d__law_word : FuncData
  c__law_word : Addr
  F__law_word : FunC K "_law_word" "_law_word" s__law_word a__law_word d__law_word (.ref c__law_word)
  g__law_word : mg "_law_word" = some (.ref a__law_word)
  a__law_told : Addr
  d__law_told : FuncData
  c__law_told : Addr
  F__law_told : FunC K "_law_told" "_law_told" s__law_told a__law_told d__law_told (.ref c__law_told)
  g__law_told : mg "_law_told" = some (.ref a__law_told)
  a__law_power : Addr
  d__law_power : FuncData
  c__law_power : Addr
  F__law_power : FunC K "_law_power" "_law_power" s__law_power a__law_power d__law_power (.ref c__law_power)
  g__law_power : mg "_law_power" = some (.ref a__law_power)
  a__law_heard : Addr
  d__law_heard : FuncData
  c__law_heard : Addr
  F__law_heard : FunC K "_law_heard" "_law_heard" s__law_heard a__law_heard d__law_heard (.ref c__law_heard)
  g__law_heard : mg "_law_heard" = some (.ref a__law_heard)
  a__law_makes : Addr
  d__law_makes : FuncData
  c__law_makes : Addr
  F__law_makes : FunC K "_law_makes" "_law_makes" s__law_makes a__law_makes d__law_makes (.ref c__law_makes)
  g__law_makes : mg "_law_makes" = some (.ref a__law_makes)
  a__law_decisions : Addr
  d__law_decisions : FuncData
  c__law_decisions : Addr
  F__law_decisions : FunC K "_law_decisions" "_law_decisions" s__law_decisions a__law_decisions d__law_decisions (.ref c__law_decisions)
  g__law_decisions : mg "_law_decisions" = some (.ref a__law_decisions)
  a__law_parts : Addr
  d__law_parts : FuncData
  c__law_parts : Addr
  F__law_parts : FunC K "_law_parts" "_law_parts" s__law_parts a__law_parts d__law_parts (.ref c__law_parts)
  g__law_parts : mg "_law_parts" = some (.ref a__law_parts)
  a_is_number : Addr
  d_is_number : FuncData
  c_is_number : Addr
  F_is_number : FunC K "is_number" "is_number" s_is_number a_is_number d_is_number (.ref c_is_number)
  g_is_number : mg "is_number" = some (.ref a_is_number)
  a_is_council : Addr
  d_is_council : FuncData
  c_is_council : Addr
  F_is_council : FunC K "is_council" "is_council" s_is_council a_is_council d_is_council (.ref c_is_council)
  g_is_council : mg "is_council" = some (.ref a_is_council)
  t_is_council : Addr
  T_is_council : GxR.TabB base mg c_is_council t_is_council
  p_is_council : t_is_council ∈ TP
  a__law_alike : Addr
  d__law_alike : FuncData
  c__law_alike : Addr
  F__law_alike : FunC K "_law_alike" "_law_alike" s__law_alike a__law_alike d__law_alike (.ref c__law_alike)
  g__law_alike : mg "_law_alike" = some (.ref a__law_alike)
  a_are_lies : Addr
  d_are_lies : FuncData
  c_are_lies : Addr
  F_are_lies : FunC K "are_lies" "are_lies" s_are_lies a_are_lies d_are_lies (.ref c_are_lies)
  g_are_lies : mg "are_lies" = some (.ref a_are_lies)
  t_are_lies : Addr
  T_are_lies : GxR.TabB base mg c_are_lies t_are_lies
  p_are_lies : t_are_lies ∈ TP
  a_law : Addr
  d_law : FuncData
  c_law : Addr
  F_law : FunC K "law" "law" s_law a_law d_law (.ref c_law)
  g_law : mg "law" = some (.ref a_law)
  err : ErrF K mg
  n_abs : mg "abs" = none
  n_all : mg "all" = none
  n_bool : mg "bool" = none
  n_dict : mg "dict" = none
  n_int : mg "int" = none
  n_isinstance : mg "isinstance" = none
  n_len : mg "len" = none
  n_list : mg "list" = none
  n_max : mg "max" = none
  n_min : mg "min" = none
  n_range : mg "range" = none
  n_reversed : mg "reversed" = none
  n_sorted : mg "sorted" = none
  n_str : mg "str" = none
  n_sum : mg "sum" = none
  n_tuple : mg "tuple" = none
  n_zip : mg "zip" = none
  v_MOST_DEEP : ∃ t, mg "MOST_DEEP" = some (.int 2 t)
  v_MOST_NODES : ∃ t, mg "MOST_NODES" = some (.int 7 t)
  v_MOST_SAYINGS : ∃ t, mg "MOST_SAYINGS" = some (.int 12 t)
section
variable {P : Program} {w : World} {K : PySem.W.Frag} {mg : Str → Option Value} {base : Heap} {TP : List Addr}
theorem bb__law_draws (Z : Fs K mg base TP) : Binds K Z.d__law_draws ["script"] [] := Z.F__law_draws.binds fun _ _ _ _ _ _ us hl => match us, hl with | [_], _ => rfl
theorem bb__law_take (Z : Fs K mg base TP) : Binds K Z.d__law_take ["draws", "bound"] [] := Z.F__law_take.binds fun _ _ _ _ _ _ us hl => match us, hl with | [_, _], _ => rfl
theorem bb__law_council (Z : Fs K mg base TP) : Binds K Z.d__law_council ["draws"] [] := Z.F__law_council.binds fun _ _ _ _ _ _ us hl => match us, hl with | [_], _ => rfl
theorem bb__law_paths (Z : Fs K mg base TP) : Binds K Z.d__law_paths ["many", "deep"] [] := Z.F__law_paths.binds fun _ _ _ _ _ _ us hl => match us, hl with | [_, _], _ => rfl
theorem bb__law_sayings (Z : Fs K mg base TP) : Binds K Z.d__law_sayings ["council"] [] := Z.F__law_sayings.binds fun _ _ _ _ _ _ us hl => match us, hl with | [_], _ => rfl
theorem bb_paths_from (Z : Fs K mg base TP) : Binds K Z.d_paths_from ["n", "deep"] [] := Z.F_paths_from.binds fun _ _ _ _ _ _ us hl => match us, hl with | [_, _], _ => rfl
theorem bb_sayings (Z : Fs K mg base TP) : Binds K Z.d_sayings ["council"] [] := Z.F_sayings.binds fun _ _ _ _ _ _ us hl => match us, hl with | [_], _ => rfl
theorem bb_lies_by_saying (Z : Fs K mg base TP) : Binds K Z.d_lies_by_saying ["council", "lies"] [] := Z.F_lies_by_saying.binds fun _ _ _ _ _ _ us hl => match us, hl with | [_, _], _ => rfl
theorem bb_heard (Z : Fs K mg base TP) : Binds K Z.d_heard ["council", "lies", "path", "node"] [] := Z.F_heard.binds fun _ _ _ _ _ _ us hl => match us, hl with | [_, _, _, _], _ => rfl
theorem bb_makes (Z : Fs K mg base TP) : Binds K Z.d_makes ["council", "lies", "path", "node"] [] := Z.F_makes.binds fun _ _ _ _ _ _ us hl => match us, hl with | [_, _, _, _], _ => rfl
theorem bb_decisions (Z : Fs K mg base TP) : Binds K Z.d_decisions ["council", "lies"] [] := Z.F_decisions.binds fun _ _ _ _ _ _ us hl => match us, hl with | [_, _], _ => rfl
theorem bb_do_part (Z : Fs K mg base TP) : Binds K Z.d_do_part ["council", "lies"] [] := Z.F_do_part.binds fun _ _ _ _ _ _ us hl => match us, hl with | [_, _], _ => rfl
theorem bb_lies_for (Z : Fs K mg base TP) : Binds K Z.d_lies_for ["council"] [] := Z.F_lies_for.binds fun _ _ _ _ _ _ us hl => match us, hl with | [_], _ => rfl
theorem bb__law_word (Z : Fs K mg base TP) : Binds K Z.d__law_word ["e"] [] := Z.F__law_word.binds fun _ _ _ _ _ _ us hl => match us, hl with | [_], _ => rfl
theorem bb__law_told (Z : Fs K mg base TP) : Binds K Z.d__law_told ["council"] [] := Z.F__law_told.binds fun _ _ _ _ _ _ us hl => match us, hl with | [_], _ => rfl
theorem bb__law_power (Z : Fs K mg base TP) : Binds K Z.d__law_power ["times"] [] := Z.F__law_power.binds fun _ _ _ _ _ _ us hl => match us, hl with | [_], _ => rfl
theorem bb__law_heard (Z : Fs K mg base TP) : Binds K Z.d__law_heard ["council", "lies", "path", "node"] [] := Z.F__law_heard.binds fun _ _ _ _ _ _ us hl => match us, hl with | [_, _, _, _], _ => rfl
theorem bb__law_makes (Z : Fs K mg base TP) : Binds K Z.d__law_makes ["council", "lies", "path", "node"] [] := Z.F__law_makes.binds fun _ _ _ _ _ _ us hl => match us, hl with | [_, _, _, _], _ => rfl
theorem bb__law_decisions (Z : Fs K mg base TP) : Binds K Z.d__law_decisions ["council", "row", "told"] [] := Z.F__law_decisions.binds fun _ _ _ _ _ _ us hl => match us, hl with | [_, _, _], _ => rfl
theorem bb__law_parts (Z : Fs K mg base TP) : Binds K Z.d__law_parts ["council", "row", "told"] [] := Z.F__law_parts.binds fun _ _ _ _ _ _ us hl => match us, hl with | [_, _, _], _ => rfl
theorem bb_is_number (Z : Fs K mg base TP) : Binds K Z.d_is_number ["value", "least", "most"] [] := Z.F_is_number.binds fun _ _ _ _ _ _ us hl => match us, hl with | [_, _, _], _ => rfl
theorem bb_is_council (Z : Fs K mg base TP) : Binds K Z.d_is_council ["value"] [] := Z.F_is_council.binds fun _ _ _ _ _ _ us hl => match us, hl with | [_], _ => rfl
theorem bb__law_alike (Z : Fs K mg base TP) : Binds K Z.d__law_alike ["found", "due"] [] := Z.F__law_alike.binds fun _ _ _ _ _ _ us hl => match us, hl with | [_, _], _ => rfl
theorem bb_are_lies (Z : Fs K mg base TP) : Binds K Z.d_are_lies ["council", "value"] [] := Z.F_are_lies.binds fun _ _ _ _ _ _ us hl => match us, hl with | [_, _], _ => rfl
theorem bb_law (Z : Fs K mg base TP) : Binds K Z.d_law ["script"] [] := Z.F_law.binds fun _ _ _ _ _ _ us hl => match us, hl with | [_], _ => rfl
end
end K38
namespace K38
open PySem PySem.Spec PyProof.Rows L2 DL
section
variable {P : Program} {w : World} {K : PySem.W.Frag} {mg : Str → Option Value} {base : Heap} {TP : List Addr}
theorem ok__law_draws (Z : Fs K mg base TP) : FnOk P w K mg base (L2.CX P w) 1 Z.a__law_draws Z.d__law_draws ["script"] (SpD K TP F__law_draws) :=
  def_ok2 (k := 0) (b := b__law_draws) ["script", "draws", "cell", "seed", "k", "number", "first"] ["script"] 1 6 [] F__law_draws Z.F__law_draws sc__law_draws rfl rfl rfl fun A outer s H E hr =>
  (ss_cons (s_set 1 sc__law_draws.nd (o_lst l_nil))
  (ss_cons (s_for PassesOwn.never rfl (i_list (d_var 0)) (g_name 2 sc__law_draws.nd)
  (ss_cons (s_set 5 sc__law_draws.nd (o_sh (d_blt call_abs cd_abs Z.n_abs DL.boot_abs (l_cons (d_var 2) l_nil))))
  (ss_cons (s_if (b_cmp op_lt (ob_ord (fun i j => decide (i < j))) (d_var 5) (d_op op_pow od_pow d_int d_int))
  (ss_cons (s_set 6 sc__law_draws.nd (o_sh (d_op op_modN od_mod (d_bty call_int1 cd_int Z.n_int DL.boot_int (l_cons (d_op op_addA od_add (d_op op_mulA od_mulA (d_var 5) d_int) d_int) l_nil)) d_int)))
  (ss_cons (s_drop (d_md 1 PySem.F.slot_list_append PySem.F.type_list_append mt_append md_append (l_cons (d_op op_modN od_mod (d_bty call_int1 cd_int Z.n_int DL.boot_int (l_cons (d_op op_addA od_add (d_op op_mulA od_mulA (d_var 6) d_int) (d_var 5)) l_nil)) d_int) l_nil)))
  (ss_cons (s_drop (d_md 1 PySem.F.slot_list_append PySem.F.type_list_append mt_append md_append (l_cons (d_op op_modN od_mod (d_bty call_int1 cd_int Z.n_int DL.boot_int (l_cons (d_op op_addA od_add (d_var 6) (d_op op_fdivN od_fdiv (d_var 5) d_int)) l_nil)) d_int) l_nil)))
  (ss_one (s_set 5 sc__law_draws.nd (o_sh d_int))))))
  ss_nil)
  (ss_one (s_for PassesOwn.never rfl (i_range1 Z.n_range (l_cons d_int l_nil)) (g_name 4 sc__law_draws.nd)
  (ss_one (s_if (b_cmp op_gt (ob_ord (fun i j => decide (j < i))) (d_var 5) d_int)
  (ss_cons (s_drop (d_md 1 PySem.F.slot_list_append PySem.F.type_list_append mt_append md_append (l_cons (d_op op_modN od_mod (d_bty call_int1 cd_int Z.n_int DL.boot_int (l_cons (d_var 5) l_nil)) d_int) l_nil)))
  (ss_one (s_set 5 sc__law_draws.nd (o_sh (d_op op_fdivN od_fdiv (d_var 5) d_int)))))
  ss_nil)))))))
  (ss_cons (s_set 3 sc__law_draws.nd (o_sh d_int))
  (ss_cons (s_if (b_cmp op_gt (ob_ord (fun i j => decide (j < i))) (d_blt call_lenA cd_len Z.n_len DL.boot_len (l_cons (d_var 0) l_nil)) d_int)
  (ss_one (s_set 3 sc__law_draws.nd (o_sh (d_op op_addA od_add d_int (d_blt call_abs cd_abs Z.n_abs DL.boot_abs (l_cons (d_ix (ix_C (hu1 hr)) od_ixC (d_var 0) d_int) l_nil))))))
  ss_nil)
  (ss_cons (s_for PassesOwn.never rfl (i_range1 Z.n_range (l_cons d_int l_nil)) (g_name 4 sc__law_draws.nd)
  (ss_cons (s_set 3 sc__law_draws.nd (o_sh (d_op op_modN od_mod (d_bty call_int1 cd_int Z.n_int DL.boot_int (l_cons (d_op op_addA od_add (d_op op_mulA od_mulA (d_var 3) d_int) d_int) l_nil)) d_int)))
  (ss_one (s_drop (d_md 1 PySem.F.slot_list_append PySem.F.type_list_append mt_append md_append (l_cons (d_op op_fdivN od_fdiv (d_var 3) d_int) l_nil))))))
  (ss_one (s_ret (o_listRev rfl Z.n_list Z.n_reversed (d_var 1)))))))))
end
end K38
namespace K38
open PySem PySem.Spec PyProof.Rows L2 DL
section
variable {P : Program} {w : World} {K : PySem.W.Frag} {mg : Str → Option Value} {base : Heap} {TP : List Addr}
theorem ok__law_take (Z : Fs K mg base TP) : FnOk P w K mg base (L2.CX P w) 1 Z.a__law_take Z.d__law_take ["draws", "bound"] (SpD K TP F__law_take) :=
  def_ok2 (k := 0) (b := b__law_take) ["draws", "bound"] ["draws", "bound"] 2 0 [0] F__law_take Z.F__law_take sc__law_take rfl rfl rfl fun A outer s H E hr =>
  (ss_cons (s_if (b_cmp (op_eqD (hu64 hr)) ob_eq (d_pk1 0 call_lenA cd_len Z.n_len DL.boot_len) d_int)
  (ss_one (s_ret (o_sh d_int)))
  ss_nil)
  (ss_one (s_ret (o_sh (d_op op_modN od_mod (d_bty call_int1 cd_int Z.n_int DL.boot_int (l_cons (d_md0 0 PySem.F.slot_list_pop PySem.F.type_list_pop mt_pop md_pop) l_nil)) (d_var 1))))))
end
end K38
namespace K38
open PySem PySem.Spec PyProof.Rows L2 DL
section
variable {P : Program} {w : World} {K : PySem.W.Frag} {mg : Str → Option Value} {base : Heap} {TP : List Addr}
theorem ok__law_council (Z : Fs K mg base TP) : FnOk P w K mg base (L2.CX P w) 2 Z.a__law_council Z.d__law_council ["draws"] (SpD K TP F__law_council) :=
  def_ok2 (k := 1) (b := b__law_council) ["draws", "great", "many", "deep", "order", "way", "liars", "node"] ["draws"] 1 7 [0] F__law_council Z.F__law_council sc__law_council rfl rfl rfl fun A outer s H E hr =>
  (ss_cons (s_parO 4 5 rfl sc__law_council.nd (by decide) (o_call (ok__law_take Z) (Room.mono hr (by omega)) (by rfl) Z.g__law_take Z.F__law_take.kp (bb__law_take Z) (c_slot 0 (c_cons d_int c_nil))) (o_call (ok__law_take Z) (Room.mono hr (by omega)) (by rfl) Z.g__law_take Z.F__law_take.kp (bb__law_take Z) (c_slot 0 (c_cons d_int c_nil))))
  (ss_cons (s_set 1 sc__law_council.nd (o_lst (l_cons (d_tup (l_cons d_int (l_cons d_int (l_cons (d_tup (l_cons d_int (l_cons d_int l_nil))) l_nil)))) (l_cons (d_tup (l_cons d_int (l_cons d_int (l_cons (d_tup (l_cons d_int (l_cons d_int (l_cons d_int l_nil)))) l_nil)))) (l_cons (d_tup (l_cons d_int (l_cons d_int (l_cons (d_tup (l_cons d_int (l_cons d_int (l_cons d_int l_nil)))) l_nil)))) (l_cons (d_tup (l_cons d_int (l_cons d_int (l_cons (d_tup (l_cons d_int (l_cons d_int (l_cons d_int l_nil)))) l_nil)))) (l_cons (d_tup (l_cons d_int (l_cons d_int (l_cons (d_tup (l_cons d_int (l_cons d_int (l_cons d_int (l_cons d_int l_nil))))) l_nil)))) (l_cons (d_tup (l_cons d_int (l_cons d_int (l_cons (d_tup (l_cons d_int (l_cons d_int l_nil))) l_nil)))) (l_cons (d_tup (l_cons d_int (l_cons d_int (l_cons (d_tup (l_cons d_int l_nil)) l_nil)))) (l_cons (d_tup (l_cons d_int (l_cons d_int (l_cons (d_tup (l_cons d_int (l_cons d_int (l_cons d_int l_nil)))) l_nil)))) (l_cons (d_tup (l_cons d_int (l_cons d_int (l_cons (d_tup (l_cons d_int (l_cons d_int l_nil))) l_nil)))) l_nil)))))))))))
  (ss_cons (s_if (b_cmp op_gt (ob_ord (fun i j => decide (j < i))) (d_var 5) d_int)
  (ss_cons (s_asg (d_ix (ix_C (hu1 hr)) od_ixC (d_var 1) (d_frz (o_call (ok__law_take Z) (Room.mono hr (by omega)) (by rfl) Z.g__law_take Z.F__law_take.kp (bb__law_take Z) (c_slot 0 (c_cons (d_blt call_lenA cd_len Z.n_len DL.boot_len (l_cons (d_var 1) l_nil)) c_nil))))) (g_tup rfl (gs_cons (g_name 2 sc__law_council.nd) (gs_cons (g_name 3 sc__law_council.nd) (gs_cons (g_name 6 sc__law_council.nd) gs_nil)))))
  (ss_one (s_ret (o_sh (d_tup (l_cons (d_var 2) (l_cons (d_var 3) (l_cons (d_var 6) (l_cons (d_var 4) l_nil)))))))))
  ss_nil)
  (ss_cons (s_set 2 sc__law_council.nd (o_sh (d_op op_addA od_add d_int (d_frz (o_call (ok__law_take Z) (Room.mono hr (by omega)) (by rfl) Z.g__law_take Z.F__law_take.kp (bb__law_take Z) (c_slot 0 (c_cons d_int c_nil)))))))
  (ss_cons (s_set 3 sc__law_council.nd (o_call (ok__law_take Z) (Room.mono hr (by omega)) (by rfl) Z.g__law_take Z.F__law_take.kp (bb__law_take Z) (c_slot 0 (c_cons (d_op op_addA od_add (d_blt (call_min2 rfl) cd_min2 Z.n_min DL.boot_min (l_cons d_int (l_cons (d_op op_sub od_sub (d_var 2) d_int) l_nil))) d_int) c_nil))))
  (ss_one (s_ret (o_sh (d_tup (l_cons (d_var 2) (l_cons (d_var 3) (l_cons (d_bty call_tuple_of cd_tuple Z.n_tuple DL.boot_tuple (l_cons (d_frz (o_lc rfl sc__law_council.nd (i_range1 Z.n_range (l_cons (d_var 2) l_nil)) (blk_ok ["draws", "great", "many", "deep", "order", "way", "liars", "node"] (defScope s__law_council) [("node", 7)] rfl rfl (by decide +kernel)) (fun _ _ _ _ _ => (g_name 7 sc__law_council.nd (show 7 ∉ Wc 8 [7] by decide))) (fun _ _ _ _ _ => (bs_one (b_cmp (op_eqD (hu64 hr)) ob_eq (d_frz (o_call (ok__law_take Z) (Room.mono hr (by omega)) (by rfl) Z.g__law_take Z.F__law_take.kp (bb__law_take Z) (c_slot 0 (c_cons d_int c_nil)))) d_int))) (fun _ _ _ _ _ => (d_var 7)))) l_nil)) (l_cons (d_var 4) l_nil)))))))))))))
end
end K38
namespace K38
open PySem PySem.Spec PyProof.Rows L2 DL
section
variable {P : Program} {w : World} {K : PySem.W.Frag} {mg : Str → Option Value} {base : Heap} {TP : List Addr}
theorem ok__law_paths (Z : Fs K mg base TP) : FnOk P w K mg base (L2.CX P w) 1 Z.a__law_paths Z.d__law_paths ["many", "deep"] (SpD K TP F__law_paths) :=
  def_ok2 (k := 0) (b := b__law_paths) ["many", "deep", "turn", "found", "last", "later", "path", "node"] ["many", "deep"] 2 6 [] F__law_paths Z.F__law_paths sc__law_paths rfl rfl rfl fun A outer s H E hr =>
  (ss_cons (s_parO 3 4 rfl sc__law_paths.nd (by decide) (o_lst (l_cons (d_tup (l_cons d_int l_nil)) l_nil)) (o_lst (l_cons (d_tup (l_cons d_int l_nil)) l_nil)))
  (ss_cons (s_for PassesOwn.never rfl (i_range1 Z.n_range (l_cons (d_var 1) l_nil)) (g_name 2 sc__law_paths.nd)
  (ss_cons (s_set 5 sc__law_paths.nd (o_lst l_nil))
  (ss_cons (s_for PassesOwn.never rfl (i_list (d_var 4)) (g_name 6 sc__law_paths.nd)
  (ss_one (s_set 5 sc__law_paths.nd (o_sh (d_op op_addA od_add (d_var 5) (d_frz (o_lc rfl sc__law_paths.nd (i_range1 Z.n_range (l_cons (d_var 0) l_nil)) (blk_ok ["many", "deep", "turn", "found", "last", "later", "path", "node"] (defScope s__law_paths) [("node", 7)] rfl rfl (by decide +kernel)) (fun _ _ _ _ _ => (g_name 7 sc__law_paths.nd (show 7 ∉ Wc 8 [7] by decide))) (fun _ _ _ _ _ => (bs_one (b_cmp (op_notInC (hu65 hr)) ob_notInC (d_var 7) (d_var 6)))) (fun _ _ _ _ _ => (d_op op_addA od_add (d_var 6) (d_tup (l_cons (d_var 7) l_nil)))))))))))
  (ss_cons (s_set 4 sc__law_paths.nd (o_sh (d_var 5)))
  (ss_one (s_set 3 sc__law_paths.nd (o_sh (d_op op_addA od_add (d_var 3) (d_var 4)))))))))
  (ss_one (s_ret (o_sh (d_var 3))))))
end
end K38
namespace K38
open PySem PySem.Spec PyProof.Rows L2 DL
section
variable {P : Program} {w : World} {K : PySem.W.Frag} {mg : Str → Option Value} {base : Heap} {TP : List Addr}
theorem ok__law_sayings (Z : Fs K mg base TP) : FnOk P w K mg base (L2.CX P w) 2 Z.a__law_sayings Z.d__law_sayings ["council"] (SpD K TP F__law_sayings) :=
  def_ok2 (k := 1) (b := b__law_sayings) ["council", "found", "path", "many", "deep", "liars", "order", "node"] ["council"] 1 7 [] F__law_sayings Z.F__law_sayings sc__law_sayings rfl rfl rfl fun A outer s H E hr =>
  (ss_cons (s_asg (d_var 0) (g_tup rfl (gs_cons (g_name 3 sc__law_sayings.nd) (gs_cons (g_name 4 sc__law_sayings.nd) (gs_cons (g_name 5 sc__law_sayings.nd) (gs_cons (g_name 6 sc__law_sayings.nd) gs_nil))))))
  (ss_cons (s_set 1 sc__law_sayings.nd (o_lst l_nil))
  (ss_cons (s_for PassesOwn.never rfl (i_list (d_frz (o_call (ok__law_paths Z) (Room.mono hr (by omega)) (by rfl) Z.g__law_paths Z.F__law_paths.kp (bb__law_paths Z) (c_cons (d_var 3) (c_cons (d_var 4) c_nil))))) (g_name 2 sc__law_sayings.nd)
  (ss_one (s_if (b_cmp (op_inC (hu65 hr)) ob_inC (d_ix (ix_C (hu1 hr)) od_ixC (d_var 2) (d_un un_neg ud_neg d_int)) (d_var 5))
  (ss_one (s_set 1 sc__law_sayings.nd (o_sh (d_op op_addA od_add (d_var 1) (d_frz (o_lc rfl sc__law_sayings.nd (i_range1 Z.n_range (l_cons (d_var 3) l_nil)) (blk_ok ["council", "found", "path", "many", "deep", "liars", "order", "node"] (defScope s__law_sayings) [("node", 7)] rfl rfl (by decide +kernel)) (fun _ _ _ _ _ => (g_name 7 sc__law_sayings.nd (show 7 ∉ Wc 8 [7] by decide))) (fun _ _ _ _ _ => (bs_one (b_cmp (op_notInC (hu65 hr)) ob_notInC (d_var 7) (d_var 2)))) (fun _ _ _ _ _ => (d_op op_addA od_add (d_var 2) (d_tup (l_cons (d_var 7) l_nil))))))))))
  ss_nil)))
  (ss_one (s_ret (o_sorted (hu67 hr) Z.n_sorted DL.boot_sorted (l_cons (d_var 1) l_nil)))))))
end
end K38
namespace K38
open PySem PySem.Spec PyProof.Rows L2 DL
section
variable {P : Program} {w : World} {K : PySem.W.Frag} {mg : Str → Option Value} {base : Heap} {TP : List Addr}
theorem ok_paths_from (Z : Fs K mg base TP) : FnOk P w K mg base (L2.CX P w) 1 Z.a_paths_from Z.d_paths_from ["n", "deep"] (SpD K TP F_paths_from) :=
  def_ok2 (k := 0) (b := b_paths_from) ["n", "deep", "_", "found", "last", "path", "node"] ["n", "deep"] 2 5 [] F_paths_from Z.F_paths_from sc_paths_from rfl rfl rfl fun A outer s H E hr =>
  (ss_cons (s_parO 3 4 rfl sc_paths_from.nd (by decide) (o_lst (l_cons (d_tup (l_cons d_int l_nil)) l_nil)) (o_lst (l_cons (d_tup (l_cons d_int l_nil)) l_nil)))
  (ss_cons (s_for PassesOwn.never rfl (i_range1 Z.n_range (l_cons (d_var 1) l_nil)) (g_name 2 sc_paths_from.nd)
  (ss_cons (s_setLc2 (own1 := [6]) 4 rfl sc_paths_from.nd (by rfl) (i_list (d_var 4)) (blk_ok ["n", "deep", "_", "found", "last", "path", "node"] (defScope s_paths_from) [("path", 5), ("node", 6)] rfl rfl (by decide +kernel)) (fun _ _ _ _ _ => (g_name 5 sc_paths_from.nd (show 5 ∉ Wc 7 [5, 6] by decide))) (fun _ _ _ _ _ => bs_nil) (fun _ _ _ _ _ => (i_range1 Z.n_range (l_cons (d_var 0) l_nil))) (fun _ _ _ _ _ => (g_name 6 sc_paths_from.nd (show 6 ∉ Wc 7 [6] by decide))) (fun _ _ _ _ _ => (bs_one (b_cmp (op_notInC (hu65 hr)) ob_notInC (d_var 6) (d_var 5)))) (fun _ _ _ _ _ => (d_tup (l_star (d_var 5) (l_cons (d_var 6) l_nil)))))
  (ss_one (s_extV 3 4))))
  (ss_one (s_ret (o_sh (d_var 3))))))
end
end K38
namespace K38
open PySem PySem.Spec PyProof.Rows L2 DL
section
variable {P : Program} {w : World} {K : PySem.W.Frag} {mg : Str → Option Value} {base : Heap} {TP : List Addr}
theorem ok_sayings (Z : Fs K mg base TP) : FnOk P w K mg base (L2.CX P w) 2 Z.a_sayings Z.d_sayings ["council"] (SpD K TP F_sayings) :=
  def_ok2 (k := 1) (b := b_sayings) ["council", "told", "path", "n", "deep", "liars", "_", "node"] ["council"] 1 7 [] F_sayings Z.F_sayings sc_sayings rfl rfl rfl fun A outer s H E hr =>
  (ss_cons (s_asg (d_var 0) (g_tup rfl (gs_cons (g_name 3 sc_sayings.nd) (gs_cons (g_name 4 sc_sayings.nd) (gs_cons (g_name 5 sc_sayings.nd) (gs_cons (g_name 6 sc_sayings.nd) gs_nil))))))
  (ss_cons (s_set 1 sc_sayings.nd (o_lst l_nil))
  (ss_cons (s_for PassesOwn.never rfl (i_list (d_frz (o_call (ok_paths_from Z) (Room.mono hr (by omega)) (by rfl) Z.g_paths_from Z.F_paths_from.kp (bb_paths_from Z) (c_cons (d_var 3) (c_cons (d_var 4) c_nil))))) (g_name 2 sc_sayings.nd)
  (ss_one (s_if (b_cmp (op_inC (hu65 hr)) ob_inC (d_ix (ix_C (hu1 hr)) od_ixC (d_var 2) (d_un un_neg ud_neg d_int)) (d_var 5))
  (ss_one (s_extO 1 (o_lc rfl sc_sayings.nd (i_range1 Z.n_range (l_cons (d_var 3) l_nil)) (blk_ok ["council", "told", "path", "n", "deep", "liars", "_", "node"] (defScope s_sayings) [("node", 7)] rfl rfl (by decide +kernel)) (fun _ _ _ _ _ => (g_name 7 sc_sayings.nd (show 7 ∉ Wc 8 [7] by decide))) (fun _ _ _ _ _ => (bs_one (b_cmp (op_notInC (hu65 hr)) ob_notInC (d_var 7) (d_var 2)))) (fun _ _ _ _ _ => (d_tup (l_star (d_var 2) (l_cons (d_var 7) l_nil)))))))
  ss_nil)))
  (ss_one (s_ret (o_sorted (hu67 hr) Z.n_sorted DL.boot_sorted (l_cons (d_var 1) l_nil)))))))
end
end K38
namespace K38
open PySem PySem.Spec PyProof.Rows L2 DL
section
variable {P : Program} {w : World} {K : PySem.W.Frag} {mg : Str → Option Value} {base : Heap} {TP : List Addr}
theorem ok_lies_by_saying (Z : Fs K mg base TP) : FnOk P w K mg base (L2.CX P w) 3 Z.a_lies_by_saying Z.d_lies_by_saying ["council", "lies"] (SpD K TP F_lies_by_saying) :=
  def_ok2 (k := 2) (b := b_lies_by_saying) ["council", "lies"] ["council", "lies"] 2 0 [] F_lies_by_saying Z.F_lies_by_saying sc_lies_by_saying rfl rfl rfl fun A outer s H E hr =>
  (ss_one (s_ret (o_sh (d_dictZip rfl (hu64 hr) Z.n_dict Z.n_zip (d_frz (o_call (ok_sayings Z) (Room.mono hr (by omega)) (by rfl) Z.g_sayings Z.F_sayings.kp (bb_sayings Z) (c_cons (d_var 0) c_nil))) (d_var 1)))))
end
end K38
namespace K38
open PySem PySem.Spec PyProof.Rows L2 DL
section
variable {P : Program} {w : World} {K : PySem.W.Frag} {mg : Str → Option Value} {base : Heap} {TP : List Addr}
theorem ok_heard (Z : Fs K mg base TP) : ∀ n : Nat, FnOk P w K mg base (L2.CX P w) (0 + 1 * n) Z.a_heard Z.d_heard ["council", "lies", "path", "node"] (SpD K TP (F_heard n))
  | 0 => fn_never
  | n + 1 => by
    have ih := ok_heard Z n
    exact def_ok2 (k := (0 + 1 * n + 0)) (b := b_heard (F_heard n)) ["council", "lies", "path", "node", "said"] ["council", "lies", "path", "node"] 4 1 [] (F_heard (n + 1)) Z.F_heard sc_heard rfl rfl rfl fun A outer s H E hr =>
  (ss_cons (s_set 4 sc_heard.nd (o_sh (d_tup (l_star (d_var 2) (l_cons (d_var 3) l_nil)))))
  (ss_cons (s_if (b_cmp (op_inC (hu65 hr)) ob_inC (d_var 4) (d_var 1))
  (ss_one (s_ret (o_sh (d_ix (ix_C (hu1 hr)) od_ixC (d_var 1) (d_var 4)))))
  ss_nil)
  (ss_one (s_ret (o_sh (d_if (b_cmp (op_eqD (hu64 hr)) ob_eq (d_blt call_lenA cd_len Z.n_len DL.boot_len (l_cons (d_var 2) l_nil)) d_int) (d_ix (ix_C (hu1 hr)) od_ixC (d_var 0) d_int) (d_frz (o_call ih (Room.mono hr (by omega)) (by rfl) Z.g_heard Z.F_heard.kp (bb_heard Z) (c_cons (d_var 0) (c_cons (d_var 1) (c_cons (d_slice (d_var 2) p_none (p_some (d_un un_neg ud_neg d_int))) (c_cons (d_ix (ix_C (hu1 hr)) od_ixC (d_var 2) (d_un un_neg ud_neg d_int)) c_nil))))))))))))
end
end K38
namespace K38
open PySem PySem.Spec PyProof.Rows L2 DL
section
variable {P : Program} {w : World} {K : PySem.W.Frag} {mg : Str → Option Value} {base : Heap} {TP : List Addr}
theorem ok_makes (Z : Fs K mg base TP) : ∀ n : Nat, FnOk P w K mg base (L2.CX P w) (5 + 1 * n) Z.a_makes Z.d_makes ["council", "lies", "path", "node"] (SpD K TP (F_makes n))
  | 0 => fn_never
  | n + 1 => by
    have ih := ok_makes Z n
    exact def_ok2 (k := (5 + 1 * n + 0)) (b := b_makes (F_makes n)) ["council", "lies", "path", "node", "own", "parts", "other"] ["council", "lies", "path", "node"] 4 3 [] (F_makes (n + 1)) Z.F_makes sc_makes rfl rfl rfl fun A outer s H E hr =>
  (ss_cons (s_set 4 sc_makes.nd (o_call (ok_heard Z 5) (Room.mono hr (by omega)) (by rfl) Z.g_heard Z.F_heard.kp (bb_heard Z) (c_cons (d_var 0) (c_cons (d_var 1) (c_cons (d_var 2) (c_cons (d_var 3) c_nil))))))
  (ss_cons (s_if (b_cmp (op_eqD (hu64 hr)) ob_eq (d_blt call_lenA cd_len Z.n_len DL.boot_len (l_cons (d_var 2) l_nil)) (d_op op_addA od_add (d_ix (ix_C (hu1 hr)) od_ixC (d_var 0) d_int) d_int))
  (ss_one (s_ret (o_sh (d_var 4))))
  ss_nil)
  (ss_cons (s_set 5 sc_makes.nd (o_lst (l_cons (d_var 4) l_nil)))
  (ss_cons (s_for PassesOwn.never rfl (i_range1 Z.n_range (l_cons (d_ix (ix_C (hu1 hr)) od_ixC (d_var 0) d_int) l_nil)) (g_name 6 sc_makes.nd)
  (ss_one (s_if (PBw.pb (bw_and (b_cmp (op_notInC (hu65 hr)) ob_notInC (d_var 6) (d_var 2)) (bw_and1 (b_cmp (op_neD (hu64 hr)) ob_ne (d_var 6) (d_var 3)))))
  (ss_one (s_drop (d_md 5 PySem.F.slot_list_append PySem.F.type_list_append mt_append md_append (l_cons (d_frz (o_call ih (Room.mono hr (by omega)) (by rfl) Z.g_makes Z.F_makes.kp (bb_makes Z) (c_cons (d_var 0) (c_cons (d_var 1) (c_cons (d_tup (l_star (d_var 2) (l_cons (d_var 6) l_nil))) (c_cons (d_var 3) c_nil)))))) l_nil))))
  ss_nil)))
  (ss_one (s_ret (o_sh (d_bty call_int1 cd_int Z.n_int DL.boot_int (l_cons (d_cmp op_gt (ob_ord (fun i j => decide (j < i))) (d_op op_mulA od_mulA d_int (d_blt (cr_sum rfl) cd_sum Z.n_sum DL.boot_sum (l_cons (d_var 5) l_nil))) (d_pk1 5 call_lenA cd_len Z.n_len DL.boot_len)) l_nil)))))))))
end
end K38
namespace K38
open PySem PySem.Spec PyProof.Rows L2 DL
section
variable {P : Program} {w : World} {K : PySem.W.Frag} {mg : Str → Option Value} {base : Heap} {TP : List Addr}
theorem ok_decisions (Z : Fs K mg base TP) : FnOk P w K mg base (L2.CX P w) 11 Z.a_decisions Z.d_decisions ["council", "lies"] (SpD K TP F_decisions) :=
  def_ok2 (k := 10) (b := b_decisions) ["council", "lies", "told", "node"] ["council", "lies"] 2 2 [] F_decisions Z.F_decisions sc_decisions rfl rfl rfl fun A outer s H E hr =>
  (ss_cons (s_set 2 sc_decisions.nd (o_call (ok_lies_by_saying Z) (Room.mono hr (by omega)) (by rfl) Z.g_lies_by_saying Z.F_lies_by_saying.kp (bb_lies_by_saying Z) (c_cons (d_var 0) (c_cons (d_var 1) c_nil))))
  (ss_one (s_ret (o_sh (d_bty call_tuple_of cd_tuple Z.n_tuple DL.boot_tuple (l_cons (d_frz (o_lc rfl sc_decisions.nd (i_range2 Z.n_range (l_cons d_int (l_cons (d_ix (ix_C (hu1 hr)) od_ixC (d_var 0) d_int) l_nil))) (blk_ok ["council", "lies", "told", "node"] (defScope s_decisions) [("node", 3)] rfl rfl (by decide +kernel)) (fun _ _ _ _ _ => (g_name 3 sc_decisions.nd (show 3 ∉ Wc 4 [3] by decide))) (fun _ _ _ _ _ => bs_nil) (fun _ _ _ _ _ => (d_frz (o_call (ok_makes Z 5) (Room.mono hr (by omega)) (by rfl) Z.g_makes Z.F_makes.kp (bb_makes Z) (c_cons (d_var 0) (c_cons (d_var 2) (c_cons (d_tup (l_cons d_int l_nil)) (c_cons (d_var 3) c_nil))))))))) l_nil))))))
end
end K38
namespace K38
open PySem PySem.Spec PyProof.Rows L2 DL
section
variable {P : Program} {w : World} {K : PySem.W.Frag} {mg : Str → Option Value} {base : Heap} {TP : List Addr}
theorem ok_do_part (Z : Fs K mg base TP) : FnOk P w K mg base (L2.CX P w) 12 Z.a_do_part Z.d_do_part ["council", "lies"] (SpD K TP F_do_part) :=
  def_ok2 (k := 11) (b := b_do_part) ["council", "lies", "found", "plain", "n", "_", "liars", "order", "node"] ["council", "lies"] 2 7 [] F_do_part Z.F_do_part sc_do_part rfl rfl rfl fun A outer s H E hr =>
  (ss_cons (s_asg (d_var 0) (g_tup rfl (gs_cons (g_name 4 sc_do_part.nd) (gs_cons (g_name 5 sc_do_part.nd) (gs_cons (g_name 6 sc_do_part.nd) (gs_cons (g_name 7 sc_do_part.nd) gs_nil))))))
  (ss_cons (s_set 2 sc_do_part.nd (o_call (ok_decisions Z) (Room.mono hr (by omega)) (by rfl) Z.g_decisions Z.F_decisions.kp (bb_decisions Z) (c_cons (d_var 0) (c_cons (d_var 1) c_nil))))
  (ss_cons (s_setLc 3 rfl sc_do_part.nd (by rfl) (i_range2 Z.n_range (l_cons d_int (l_cons (d_var 4) l_nil))) (blk_ok ["council", "lies", "found", "plain", "n", "_", "liars", "order", "node"] (defScope s_do_part) [("node", 8)] rfl rfl (by decide +kernel)) (fun _ _ _ _ _ => (g_name 8 sc_do_part.nd (show 8 ∉ Wc 9 [8] by decide))) (fun _ _ _ _ _ => (bs_one (b_cmp (op_notInC (hu65 hr)) ob_notInC (d_var 8) (d_var 6)))) (fun _ _ _ _ _ => (d_ix (ix_C (hu1 hr)) od_ixC (d_var 2) (d_op op_sub od_sub (d_var 8) d_int))))
  (ss_cons (s_if (b_cmp (op_notInC (hu65 hr)) ob_notInC d_int (d_var 6))
  (ss_one (s_drop (d_md 3 PySem.F.slot_list_append PySem.F.type_list_append mt_append md_append (l_cons (d_var 7) l_nil))))
  ss_nil)
  (ss_one (s_ret (o_sh (d_and (d_cmp op_gt (ob_ord (fun i j => decide (j < i))) (d_pk1 3 call_lenA cd_len Z.n_len DL.boot_len) d_int) (d_one (d_cmp (op_neD (hu64 hr)) ob_ne (d_blt (cr_min rfl) cd_min1 Z.n_min DL.boot_min (l_cons (d_var 3) l_nil)) (d_blt (cr_max rfl) cd_max1 Z.n_max DL.boot_max (l_cons (d_var 3) l_nil))))))))))))
end
end K38
namespace K38
open PySem PySem.Spec PyProof.Rows L2 DL
section
variable {P : Program} {w : World} {K : PySem.W.Frag} {mg : Str → Option Value} {base : Heap} {TP : List Addr}
theorem ok_lies_for (Z : Fs K mg base TP) : FnOk P w K mg base (L2N.CX P w) 13 Z.a_lies_for Z.d_lies_for ["council"] (SpX K TP mg F_lies_for) :=
  def_okX2 (k := 12) (b := b_lies_for) ["council", "many", "rows", "_", "row", "one"] ["council"] 1 5 [] F_lies_for Z.F_lies_for sc_lies_for rfl rfl rfl fun A outer s H E hr =>
  (ss_cons (s_set 1 sc_lies_for.nd (o_sh (d_blt call_lenA cd_len Z.n_len DL.boot_len (l_cons (d_frz (o_call (ok_sayings Z) (Room.mono hr (by omega)) (by rfl) Z.g_sayings Z.F_sayings.kp (bb_sayings Z) (c_cons (d_var 0) c_nil))) l_nil))))
  (ss_cons (s_if (b_cmp op_gt (ob_ord (fun i j => decide (j < i))) (d_var 1) (d_gint (by rfl) Z.v_MOST_SAYINGS))
  (ss_one (s_raise rfl (Z.err.g ("TooMuch", "much") (by simp)) (Z.err.x ("TooMuch", "much") (by simp))))
  ss_nil)
  (ss_cons (s_set 2 sc_lies_for.nd (o_lst (l_cons (d_tup l_nil) l_nil)))
  (ss_cons (s_for (passes_of rfl) rfl (i_range1 Z.n_range (l_cons (d_var 1) l_nil)) (g_name 3 sc_lies_for.nd)
  (ss_one (s_setLc2 (own1 := [5]) 2 rfl sc_lies_for.nd (by rfl) (i_list (d_var 2)) (blk_ok ["council", "many", "rows", "_", "row", "one"] (defScope s_lies_for) [("row", 4), ("one", 5)] rfl rfl (by decide +kernel)) (fun _ _ _ _ _ => (g_name 4 sc_lies_for.nd (show 4 ∉ Wc 6 [4, 5] by decide))) (fun _ _ _ _ _ => bs_nil) (fun _ _ _ _ _ => (i_list (d_tup (l_cons d_int (l_cons d_int l_nil))))) (fun _ _ _ _ _ => (g_name 5 sc_lies_for.nd (show 5 ∉ Wc 6 [5] by decide))) (fun _ _ _ _ _ => bs_nil) (fun _ _ _ _ _ => (d_tup (l_star (d_var 4) (l_cons (d_var 5) l_nil)))))))
  (ss_cons (s_for (passes_of rfl) rfl (i_list (d_var 2)) (g_name 4 sc_lies_for.nd)
  (ss_one (s_if (b_tru (d_frz (o_call (ok_do_part Z) (Room.mono hr (by omega)) (by rfl) Z.g_do_part Z.F_do_part.kp (bb_do_part Z) (c_cons (d_var 0) (c_cons (d_var 4) c_nil)))))
  (ss_one (s_ret (o_sh (d_var 4))))
  ss_nil)))
  (ss_one (s_ret (o_sh d_non))))))))
end
end K38
namespace K38
open PySem PySem.Spec PyProof.Rows L2 DL
section
variable {P : Program} {w : World} {K : PySem.W.Frag} {mg : Str → Option Value} {base : Heap} {TP : List Addr}
theorem ok__law_word (Z : Fs K mg base TP) : FnE P w K mg base (L2N.CX P w) 2 Z.a__law_word Z.d__law_word ["e"] (spE K TP (errCs K)) :=
  def_okE Z.F__law_word sc__law_word fun p A outer s H E C d hC hr hot hx => by
    obtain ⟨q, hq, rfl, rfl⟩ := errCs_inv hC
    obtain ⟨e, he⟩ := bWord1_ev (a := p.1) (b := fun z => decide (q.1 = z)) hq (fun _ _ => rfl)
    refine ⟨_, e, ?_, he⟩
    exact ss_cons (s_set 1 sc__law_word.nd (o_lst (l_cons (d_isE 0 (Z.err.c q hq) hx Z.n_isinstance (Z.err.g ("OutOfRange", "range") (by simp)) (Z.err.kit q hq ("OutOfRange", "range") (by simp))) (l_cons (d_isE 0 (Z.err.c q hq) hx Z.n_isinstance (Z.err.g ("Malformed", "form") (by simp)) (Z.err.kit q hq ("Malformed", "form") (by simp))) (l_cons (d_isE 0 (Z.err.c q hq) hx Z.n_isinstance (Z.err.g ("NotThere", "none") (by simp)) (Z.err.kit q hq ("NotThere", "none") (by simp))) (l_cons (d_isE 0 (Z.err.c q hq) hx Z.n_isinstance (Z.err.g ("Refused", "refused") (by simp)) (Z.err.kit q hq ("Refused", "refused") (by simp))) (l_cons (d_isE 0 (Z.err.c q hq) hx Z.n_isinstance (Z.err.g ("TooMuch", "much") (by simp)) (Z.err.kit q hq ("TooMuch", "much") (by simp))) l_nil)))))))
      (ss_cons (s_if (b_cmp (op_neD (huH64 hr)) ob_ne (d_blt call_lenA cd_len Z.n_len DL.boot_len (l_cons (d_frz (o_lcHot hot sc__law_word.nd (d_var 1) (blk_ok ["e", "kinds", "kind"] (defScope s__law_word) [("kind", 2)] rfl rfl (by decide +kernel)) (fun _ _ _ _ _ => (g_name 2 sc__law_word.nd (show 2 ∉ Wc 3 [2] by decide))) (fun _ _ _ _ _ => (bs_one (b_tru (d_var 2)))) (fun _ _ _ _ _ => (d_var 2)))) l_nil)) d_int) (ss_one (s_ret (o_sh d_str))) ss_nil)
      (ss_one (s_ret (o_sh (d_ix (ix_C (huH1 hr)) od_ixC (d_frz (o_lst (l_cons d_str (l_cons d_str (l_cons d_str (l_cons d_str (l_cons d_str l_nil))))))) (d_index (huH65 hr) (d_var 1) d_bl))))))
end
end K38
namespace K38
open PySem PySem.Spec PyProof.Rows L2 DL
section
variable {P : Program} {w : World} {K : PySem.W.Frag} {mg : Str → Option Value} {base : Heap} {TP : List Addr}
theorem ok__law_told (Z : Fs K mg base TP) : FnOk P w K mg base (L2.CX P w) 14 Z.a__law_told Z.d__law_told ["council"] (SpD K TP F__law_told) :=
  def_ok2 (k := 13) (b := b__law_told) ["council", "e"] ["council"] 1 1 [] F__law_told Z.F__law_told sc__law_told rfl rfl rfl fun A outer s H E hr =>
  (ss_one (s_tryW sc__law_told.nd 1 (Room.mono hr (by omega)) Z.err.g0 (ok__law_word Z) Z.g__law_word Z.F__law_word.kp (bb__law_word Z) (fun y d C h1 h2 => errW_ok Z.err y d C h1 h2) (fun pn xe po =>
  (ss_one (s_retX (o_callX (ok_lies_for Z) (Room.mono hr (by omega)) (by rfl) Z.g_lies_for Z.F_lies_for.kp (bb_lies_for Z) (c_cons (d_var 0) c_nil)))))))
end
end K38
namespace K38
open PySem PySem.Spec PyProof.Rows L2 DL
section
variable {P : Program} {w : World} {K : PySem.W.Frag} {mg : Str → Option Value} {base : Heap} {TP : List Addr}
theorem ok__law_power (Z : Fs K mg base TP) : FnOk P w K mg base (L2.CX P w) 1 Z.a__law_power Z.d__law_power ["times"] (SpD K TP F__law_power) :=
  def_ok2 (k := 0) (b := b__law_power) ["times", "found", "k"] ["times"] 1 2 [] F__law_power Z.F__law_power sc__law_power rfl rfl rfl fun A outer s H E hr =>
  (ss_cons (s_set 1 sc__law_power.nd (o_sh d_int))
  (ss_cons (s_for PassesOwn.never rfl (i_range1 Z.n_range (l_cons (d_var 0) l_nil)) (g_name 2 sc__law_power.nd)
  (ss_one (s_set 1 sc__law_power.nd (o_sh (d_op op_mulA od_mulA d_int (d_var 1))))))
  (ss_one (s_ret (o_sh (d_var 1))))))
end
end K38
namespace K38
open PySem PySem.Spec PyProof.Rows L2 DL
section
variable {P : Program} {w : World} {K : PySem.W.Frag} {mg : Str → Option Value} {base : Heap} {TP : List Addr}
theorem ok__law_heard (Z : Fs K mg base TP) : ∀ n : Nat, FnOk P w K mg base (L2.CX P w) (0 + 1 * n) Z.a__law_heard Z.d__law_heard ["council", "lies", "path", "node"] (SpD K TP (F__law_heard n))
  | 0 => fn_never
  | n + 1 => by
    have ih := ok__law_heard Z n
    exact def_ok2 (k := (0 + 1 * n + 0)) (b := b__law_heard (F__law_heard n)) ["council", "lies", "path", "node"] ["council", "lies", "path", "node"] 4 0 [] (F__law_heard (n + 1)) Z.F__law_heard sc__law_heard rfl rfl rfl fun A outer s H E hr =>
  (ss_cons (s_if (b_cmp (op_inC (hu65 hr)) ob_inC (d_op op_addA od_add (d_var 2) (d_tup (l_cons (d_var 3) l_nil))) (d_var 1))
  (ss_one (s_ret (o_sh (d_ix (ix_C (hu1 hr)) od_ixC (d_var 1) (d_op op_addA od_add (d_var 2) (d_tup (l_cons (d_var 3) l_nil)))))))
  ss_nil)
  (ss_cons (s_if (b_cmp (op_eqD (hu64 hr)) ob_eq (d_blt call_lenA cd_len Z.n_len DL.boot_len (l_cons (d_var 2) l_nil)) d_int)
  (ss_one (s_ret (o_sh (d_ix (ix_C (hu1 hr)) od_ixC (d_var 0) d_int))))
  ss_nil)
  (ss_one (s_ret (o_call ih (Room.mono hr (by omega)) (by rfl) Z.g__law_heard Z.F__law_heard.kp (bb__law_heard Z) (c_cons (d_var 0) (c_cons (d_var 1) (c_cons (d_slice (d_var 2) p_none (p_some (d_un un_neg ud_neg d_int))) (c_cons (d_ix (ix_C (hu1 hr)) od_ixC (d_var 2) (d_un un_neg ud_neg d_int)) c_nil)))))))))
end
end K38
namespace K38
open PySem PySem.Spec PyProof.Rows L2 DL
section
variable {P : Program} {w : World} {K : PySem.W.Frag} {mg : Str → Option Value} {base : Heap} {TP : List Addr}
theorem ok__law_makes (Z : Fs K mg base TP) : ∀ n : Nat, FnOk P w K mg base (L2.CX P w) (5 + 1 * n) Z.a__law_makes Z.d__law_makes ["council", "lies", "path", "node"] (SpD K TP (F__law_makes n))
  | 0 => fn_never
  | n + 1 => by
    have ih := ok__law_makes Z n
    exact def_ok2 (k := (5 + 1 * n + 0)) (b := b__law_makes (F__law_makes n)) ["council", "lies", "path", "node", "own", "parts", "other"] ["council", "lies", "path", "node"] 4 3 [] (F__law_makes (n + 1)) Z.F__law_makes sc__law_makes rfl rfl rfl fun A outer s H E hr =>
  (ss_cons (s_set 4 sc__law_makes.nd (o_call (ok__law_heard Z 5) (Room.mono hr (by omega)) (by rfl) Z.g__law_heard Z.F__law_heard.kp (bb__law_heard Z) (c_cons (d_var 0) (c_cons (d_var 1) (c_cons (d_var 2) (c_cons (d_var 3) c_nil))))))
  (ss_cons (s_if (b_cmp (op_eqD (hu64 hr)) ob_eq (d_blt call_lenA cd_len Z.n_len DL.boot_len (l_cons (d_var 2) l_nil)) (d_op op_addA od_add (d_ix (ix_C (hu1 hr)) od_ixC (d_var 0) d_int) d_int))
  (ss_one (s_ret (o_sh (d_var 4))))
  ss_nil)
  (ss_cons (s_set 5 sc__law_makes.nd (o_sh (d_op op_addA od_add (d_frz (o_lst (l_cons (d_var 4) l_nil))) (d_frz (o_lc rfl sc__law_makes.nd (i_range1 Z.n_range (l_cons (d_ix (ix_C (hu1 hr)) od_ixC (d_var 0) d_int) l_nil)) (blk_ok ["council", "lies", "path", "node", "own", "parts", "other"] (defScope s__law_makes) [("other", 6)] rfl rfl (by decide +kernel)) (fun _ _ _ _ _ => (g_name 6 sc__law_makes.nd (show 6 ∉ Wc 7 [6] by decide))) (fun _ _ _ _ _ => (bs_one (PBw.pb (bw_and (b_cmp (op_notInC (hu65 hr)) ob_notInC (d_var 6) (d_var 2)) (bw_and1 (b_cmp (op_neD (hu64 hr)) ob_ne (d_var 6) (d_var 3))))))) (fun _ _ _ _ _ => (d_frz (o_call ih (Room.mono hr (by omega)) (by rfl) Z.g__law_makes Z.F__law_makes.kp (bb__law_makes Z) (c_cons (d_var 0) (c_cons (d_var 1) (c_cons (d_op op_addA od_add (d_var 2) (d_tup (l_cons (d_var 6) l_nil))) (c_cons (d_var 3) c_nil))))))))))))
  (ss_one (s_ret (o_sh (d_bty call_int1 cd_int Z.n_int DL.boot_int (l_cons (d_cmp op_gt (ob_ord (fun i j => decide (j < i))) (d_op op_mulA od_mulA d_int (d_blt (cr_sum rfl) cd_sum Z.n_sum DL.boot_sum (l_cons (d_var 5) l_nil))) (d_blt call_lenA cd_len Z.n_len DL.boot_len (l_cons (d_var 5) l_nil))) l_nil))))))))
end
end K38
namespace K38
open PySem PySem.Spec PyProof.Rows L2 DL
section
variable {P : Program} {w : World} {K : PySem.W.Frag} {mg : Str → Option Value} {base : Heap} {TP : List Addr}
theorem ok__law_decisions (Z : Fs K mg base TP) : FnOk P w K mg base (L2.CX P w) 11 Z.a__law_decisions Z.d__law_decisions ["council", "row", "told"] (SpD K TP F__law_decisions) :=
  def_ok2 (k := 10) (b := b__law_decisions) ["council", "row", "told", "lies", "k", "node"] ["council", "row", "told"] 3 3 [] F__law_decisions Z.F__law_decisions sc__law_decisions rfl rfl rfl fun A outer s H E hr =>
  (ss_cons (s_set 3 sc__law_decisions.nd (o_sh (d_bty (call_dictA rfl (hu3 hr)) cd_dictA Z.n_dict DL.boot_dict (l_cons (d_frz (o_lc rfl sc__law_decisions.nd (i_range1 Z.n_range (l_cons (d_blt call_lenA cd_len Z.n_len DL.boot_len (l_cons (d_var 2) l_nil)) l_nil)) (blk_ok ["council", "row", "told", "lies", "k", "node"] (defScope s__law_decisions) [("k", 4)] rfl rfl (by decide +kernel)) (fun _ _ _ _ _ => (g_name 4 sc__law_decisions.nd (show 4 ∉ Wc 6 [4] by decide))) (fun _ _ _ _ _ => bs_nil) (fun _ _ _ _ _ => (d_tup (l_cons (d_ix (ix_C (hu1 hr)) od_ixC (d_var 2) (d_var 4)) (l_cons (d_ix (ix_C (hu1 hr)) od_ixC (d_var 1) (d_var 4)) l_nil)))))) l_nil))))
  (ss_one (s_ret (o_sh (d_bty call_tuple_of cd_tuple Z.n_tuple DL.boot_tuple (l_cons (d_frz (o_lc rfl sc__law_decisions.nd (i_range2 Z.n_range (l_cons d_int (l_cons (d_ix (ix_C (hu1 hr)) od_ixC (d_var 0) d_int) l_nil))) (blk_ok ["council", "row", "told", "lies", "k", "node"] (defScope s__law_decisions) [("node", 5)] rfl rfl (by decide +kernel)) (fun _ _ _ _ _ => (g_name 5 sc__law_decisions.nd (show 5 ∉ Wc 6 [5] by decide))) (fun _ _ _ _ _ => bs_nil) (fun _ _ _ _ _ => (d_frz (o_call (ok__law_makes Z 5) (Room.mono hr (by omega)) (by rfl) Z.g__law_makes Z.F__law_makes.kp (bb__law_makes Z) (c_cons (d_var 0) (c_cons (d_var 3) (c_cons (d_tup (l_cons d_int l_nil)) (c_cons (d_var 5) c_nil))))))))) l_nil))))))
end
end K38
namespace K38
open PySem PySem.Spec PyProof.Rows L2 DL
section
variable {P : Program} {w : World} {K : PySem.W.Frag} {mg : Str → Option Value} {base : Heap} {TP : List Addr}
theorem ok__law_parts (Z : Fs K mg base TP) : FnOk P w K mg base (L2.CX P w) 12 Z.a__law_parts Z.d__law_parts ["council", "row", "told"] (SpD K TP F__law_parts) :=
  def_ok2 (k := 11) (b := b__law_parts) ["council", "row", "told", "found", "plain", "node"] ["council", "row", "told"] 3 3 [] F__law_parts Z.F__law_parts sc__law_parts rfl rfl rfl fun A outer s H E hr =>
  (ss_cons (s_set 3 sc__law_parts.nd (o_call (ok__law_decisions Z) (Room.mono hr (by omega)) (by rfl) Z.g__law_decisions Z.F__law_decisions.kp (bb__law_decisions Z) (c_cons (d_var 0) (c_cons (d_var 1) (c_cons (d_var 2) c_nil)))))
  (ss_cons (s_setLc 4 rfl sc__law_parts.nd (by rfl) (i_range2 Z.n_range (l_cons d_int (l_cons (d_ix (ix_C (hu1 hr)) od_ixC (d_var 0) d_int) l_nil))) (blk_ok ["council", "row", "told", "found", "plain", "node"] (defScope s__law_parts) [("node", 5)] rfl rfl (by decide +kernel)) (fun _ _ _ _ _ => (g_name 5 sc__law_parts.nd (show 5 ∉ Wc 6 [5] by decide))) (fun _ _ _ _ _ => (bs_one (b_cmp (op_notInC (hu65 hr)) ob_notInC (d_var 5) (d_ix (ix_C (hu1 hr)) od_ixC (d_var 0) d_int)))) (fun _ _ _ _ _ => (d_ix (ix_C (hu1 hr)) od_ixC (d_var 3) (d_op op_sub od_sub (d_var 5) d_int))))
  (ss_cons (s_set 4 sc__law_parts.nd (o_sh (d_op op_addA od_add (d_var 4) (d_frz (o_rep (o_lst (l_cons (d_ix (ix_C (hu1 hr)) od_ixC (d_var 0) d_int) l_nil)) (d_bty call_int1 cd_int Z.n_int DL.boot_int (l_cons (d_cmp (op_notInC (hu65 hr)) ob_notInC d_int (d_ix (ix_C (hu1 hr)) od_ixC (d_var 0) d_int)) l_nil)))))))
  (ss_one (s_ret (o_sh (d_and (d_cmp (op_neD (hu64 hr)) ob_ne (d_var 4) (d_frz (o_lst l_nil))) (d_one (d_cmp (op_neD (hu64 hr)) ob_ne (d_blt (cr_min rfl) cd_min1 Z.n_min DL.boot_min (l_cons (d_var 4) l_nil)) (d_blt (cr_max rfl) cd_max1 Z.n_max DL.boot_max (l_cons (d_var 4) l_nil)))))))))))
end
end K38
namespace K38
open PySem PySem.Spec PyProof.Rows L2 DL
section
variable {P : Program} {w : World} {K : PySem.W.Frag} {mg : Str → Option Value} {base : Heap} {TP : List Addr}
theorem ok_is_number (Z : Fs K mg base TP) : FnOk P w K mg base (L2.CX P w) 1 Z.a_is_number Z.d_is_number ["value", "least", "most"] (SpD K TP F_is_number) :=
  def_ok2 (k := 0) (b := b_is_number) ["value", "least", "most"] ["value", "least", "most"] 3 0 [] F_is_number Z.F_is_number sc_is_number rfl rfl rfl fun A outer s H E hr =>
  (ss_one (s_ret (o_sh (d_and (d_isT "int" Z.n_isinstance Z.n_int DL.boot_int (d_var 0) (by intro d; cases d <;> rfl)) (d_and (d_not (d_isT "bool" Z.n_isinstance Z.n_bool DL.boot_bool (d_var 0) (by intro d; cases d <;> rfl))) (d_one (d_chain op_le (ob_ord (fun i j => decide (i ≤ j))) op_le (ob_ord (fun i j => decide (i ≤ j))) (d_var 1) (d_var 0) (d_var 2))))))))
end
end K38
namespace K38
open PySem PySem.Spec PyProof.Rows L2 DL
section
variable {P : Program} {w : World} {K : PySem.W.Frag} {mg : Str → Option Value} {base : Heap} {TP : List Addr}
theorem ok_is_council (Z : Fs K mg base TP) : FnOk P w K mg base (L2.CX P w) 3 Z.a_is_council Z.d_is_council ["value"] (SpD K TP F_is_council) :=
  def_ok2 (k := 2) (b := b_is_council) ["value", "n", "deep", "liars", "order", "place", "node"] ["value"] 1 6 [] F_is_council Z.F_is_council sc_is_council rfl rfl rfl fun A outer s H E hr =>
  (ss_cons (s_if (PBw.pb (bw_or (b_not (b_tru (d_isT "tuple" Z.n_isinstance Z.n_tuple DL.boot_tuple (d_var 0) (by intro d; cases d <;> rfl)))) (bw_or (b_cmp (op_neD (hu64 hr)) ob_ne (d_blt call_lenA cd_len Z.n_len DL.boot_len (l_cons (d_var 0) l_nil)) d_int) (bw_or1 (b_not (b_tru (d_frz (o_call (ok_is_number Z) (Room.mono hr (by omega)) (by rfl) Z.g_is_number Z.F_is_number.kp (bb_is_number Z) (c_cons (d_ix (ix_C (hu1 hr)) od_ixC (d_var 0) d_int) (c_cons d_int (c_cons (d_gint (by rfl) Z.v_MOST_NODES) c_nil)))))))))))
  (ss_one (s_ret (o_sh d_bl)))
  ss_nil)
  (ss_cons (s_asg (d_var 0) (g_tup rfl (gs_cons (g_name 1 sc_is_council.nd) (gs_cons (g_name 2 sc_is_council.nd) (gs_cons (g_name 3 sc_is_council.nd) (gs_cons (g_name 4 sc_is_council.nd) gs_nil))))))
  (ss_cons (s_if (PBw.pb (bw_or (b_not (b_tru (d_frz (o_call (ok_is_number Z) (Room.mono hr (by omega)) (by rfl) Z.g_is_number Z.F_is_number.kp (bb_is_number Z) (c_cons (d_var 2) (c_cons d_int (c_cons (d_blt (call_min2 rfl) cd_min2 Z.n_min DL.boot_min (l_cons (d_gint (by rfl) Z.v_MOST_DEEP) (l_cons (d_op op_sub od_sub (d_var 1) d_int) l_nil))) c_nil))))))) (bw_or (b_not (b_tru (d_frz (o_call (ok_is_number Z) (Room.mono hr (by omega)) (by rfl) Z.g_is_number Z.F_is_number.kp (bb_is_number Z) (c_cons (d_var 4) (c_cons d_int (c_cons d_int c_nil))))))) (bw_or1 (b_not (b_tru (d_isT "tuple" Z.n_isinstance Z.n_tuple DL.boot_tuple (d_var 3) (by intro d; cases d <;> rfl))))))))
  (ss_one (s_ret (o_sh d_bl)))
  ss_nil)
  (ss_cons (s_if (b_not (b_tru (d_genB true (own := [("node", 6)]) (k := 2 - 1) (Room.mono hr (show 2 - 1 + 1 ≤ 2 - 0 by omega)) rfl Z.n_all DL.boot_all Z.T_is_council Z.p_is_council rfl (gok_ok ["value", "n", "deep", "liars", "order", "place", "node"] (defScope s_is_council) [("node", 6)] rfl rfl (by decide +kernel)) sc_is_council.nd (show (["value", "n", "deep", "liars", "order", "place", "node"] : List Str).contains _ = false by decide +kernel) (i_list (d_var 3)) (fun _ _ _ _ _ _ _ _ _ nr0 => (g_name 6 sc_is_council.nd (show 6 ∉ Wc 7 [6] by decide))) (fun _ _ _ _ _ _ _ _ _ nr0 => bs_nil) (fun _ _ _ _ _ _ _ _ _ nr0 => (d_frz (o_call (ok_is_number Z) (Room.mono (nr0.room (Room.mono hr (show 2 - 1 + 1 ≤ 2 - 0 by omega))) (by omega)) (by rfl) Z.g_is_number Z.F_is_number.kp (bb_is_number Z) (c_cons (d_var 6) (c_cons d_int (c_cons (d_op op_sub od_sub (d_var 1) d_int) c_nil)))))))))
  (ss_one (s_ret (o_sh d_bl)))
  ss_nil)
  (ss_one (s_ret (o_sh (d_genB true (own := [("place", 5)]) (k := 2 - 1) (Room.mono hr (show 2 - 1 + 1 ≤ 2 - 0 by omega)) rfl Z.n_all DL.boot_all Z.T_is_council Z.p_is_council rfl (gok_ok ["value", "n", "deep", "liars", "order", "place", "node"] (defScope s_is_council) [("place", 5)] rfl rfl (by decide +kernel)) sc_is_council.nd (show (["value", "n", "deep", "liars", "order", "place", "node"] : List Str).contains _ = false by decide +kernel) (i_range1 Z.n_range (l_cons (d_op op_sub od_sub (d_blt call_lenA cd_len Z.n_len DL.boot_len (l_cons (d_var 3) l_nil)) d_int) l_nil)) (fun _ _ _ _ _ _ _ _ _ nr0 => (g_name 5 sc_is_council.nd (show 5 ∉ Wc 7 [5] by decide))) (fun _ _ _ _ _ _ _ _ _ nr0 => bs_nil) (fun _ _ _ _ _ _ _ _ _ nr0 => (d_cmp op_lt (ob_ord (fun i j => decide (i < j))) (d_ix (ix_C (hu1 (nr0.room (Room.mono hr (show 2 - 1 + 1 ≤ 2 - 0 by omega))))) od_ixC (d_var 3) (d_var 5)) (d_ix (ix_C (hu1 (nr0.room (Room.mono hr (show 2 - 1 + 1 ≤ 2 - 0 by omega))))) od_ixC (d_var 3) (d_op op_addA od_add (d_var 5) d_int))))))))))))
end
end K38
namespace K38
open PySem PySem.Spec PyProof.Rows L2 DL
section
variable {P : Program} {w : World} {K : PySem.W.Frag} {mg : Str → Option Value} {base : Heap} {TP : List Addr}
theorem ok__law_alike (Z : Fs K mg base TP) : ∀ n : Nat, FnOk P w K mg base (L2.CX P w) (0 + 1 * n) Z.a__law_alike Z.d__law_alike ["found", "due"] (SpD K TP (F__law_alike n))
  | 0 => fn_never
  | n + 1 => by
    have ih := ok__law_alike Z n
    exact def_ok2 (k := (0 + 1 * n + 0)) (b := b__law_alike (F__law_alike n)) ["found", "due", "k"] ["found", "due"] 2 1 [] (F__law_alike (n + 1)) Z.F__law_alike sc__law_alike rfl rfl rfl fun A outer s H E hr =>
  (ss_cons (s_if (PBw.pb (bw_or (b_tru (d_isT "list" Z.n_isinstance Z.n_list DL.boot_list (d_var 1) (by intro d; cases d <;> rfl))) (bw_or1 (b_tru (d_isT "tuple" Z.n_isinstance Z.n_tuple DL.boot_tuple (d_var 1) (by intro d; cases d <;> rfl))))))
  (ss_cons (s_if (PBw.pb (bw_or (b_cmp (op_neD (hu64 hr)) ob_ne (d_isT "list" Z.n_isinstance Z.n_list DL.boot_list (d_var 0) (by intro d; cases d <;> rfl)) (d_isT "list" Z.n_isinstance Z.n_list DL.boot_list (d_var 1) (by intro d; cases d <;> rfl))) (bw_or1 (b_cmp (op_neD (hu64 hr)) ob_ne (d_isT "tuple" Z.n_isinstance Z.n_tuple DL.boot_tuple (d_var 0) (by intro d; cases d <;> rfl)) (d_isT "tuple" Z.n_isinstance Z.n_tuple DL.boot_tuple (d_var 1) (by intro d; cases d <;> rfl))))))
  (ss_one (s_ret (o_sh d_bl)))
  ss_nil)
  (ss_one (s_ret (o_sh (d_and (d_cmp (op_eqD (hu64 hr)) ob_eq (d_blt call_lenA cd_len Z.n_len DL.boot_len (l_cons (d_var 0) l_nil)) (d_blt call_lenA cd_len Z.n_len DL.boot_len (l_cons (d_var 1) l_nil))) (d_one (d_cmp (op_eqD (hu64 hr)) ob_eq (d_frz (o_lc rfl sc__law_alike.nd (i_range1 Z.n_range (l_cons (d_blt call_lenA cd_len Z.n_len DL.boot_len (l_cons (d_var 1) l_nil)) l_nil)) (blk_ok ["found", "due", "k"] (defScope s__law_alike) [("k", 2)] rfl rfl (by decide +kernel)) (fun _ _ _ _ _ => (g_name 2 sc__law_alike.nd (show 2 ∉ Wc 3 [2] by decide))) (fun _ _ _ _ _ => (bs_one (b_not (b_tru (d_frz (o_call ih (Room.mono hr (by omega)) (by rfl) Z.g__law_alike Z.F__law_alike.kp (bb__law_alike Z) (c_cons (d_ix (ix_C (hu1 hr)) od_ixC (d_var 0) (d_var 2)) (c_cons (d_ix (ix_C (hu1 hr)) od_ixC (d_var 1) (d_var 2)) c_nil)))))))) (fun _ _ _ _ _ => (d_var 2)))) (d_frz (o_lst l_nil)))))))))
  ss_nil)
  (ss_cons (s_if (b_cmp op_isN ob_isN (d_var 1) d_non)
  (ss_one (s_ret (o_sh (d_cmp op_isN ob_isN (d_var 0) d_non))))
  ss_nil)
  (ss_cons (s_if (PBw.pb (bw_or (b_tru (d_isT "bool" Z.n_isinstance Z.n_bool DL.boot_bool (d_var 1) (by intro d; cases d <;> rfl))) (bw_or1 (b_tru (d_isT "bool" Z.n_isinstance Z.n_bool DL.boot_bool (d_var 0) (by intro d; cases d <;> rfl))))))
  (ss_one (s_ret (o_sh (d_and (d_isT "bool" Z.n_isinstance Z.n_bool DL.boot_bool (d_var 0) (by intro d; cases d <;> rfl)) (d_and (d_isT "bool" Z.n_isinstance Z.n_bool DL.boot_bool (d_var 1) (by intro d; cases d <;> rfl)) (d_one (d_cmp (op_eqD (hu64 hr)) ob_eq (d_var 0) (d_var 1))))))))
  ss_nil)
  (ss_cons (s_if (b_tru (d_isT "int" Z.n_isinstance Z.n_int DL.boot_int (d_var 1) (by intro d; cases d <;> rfl)))
  (ss_one (s_ret (o_sh (d_and (d_isT "int" Z.n_isinstance Z.n_int DL.boot_int (d_var 0) (by intro d; cases d <;> rfl)) (d_one (d_cmp (op_eqD (hu64 hr)) ob_eq (d_var 0) (d_var 1)))))))
  ss_nil)
  (ss_one (s_ret (o_sh (d_and (d_isT "str" Z.n_isinstance Z.n_str DL.boot_str (d_var 0) (by intro d; cases d <;> rfl)) (d_one (d_cmp (op_eqD (hu64 hr)) ob_eq (d_var 0) (d_var 1)))))))))))
end
end K38
namespace K38
open PySem PySem.Spec PyProof.Rows L2 DL
section
variable {P : Program} {w : World} {K : PySem.W.Frag} {mg : Str → Option Value} {base : Heap} {TP : List Addr}
theorem ok_are_lies (Z : Fs K mg base TP) : FnOk P w K mg base (L2.CX P w) 3 Z.a_are_lies Z.d_are_lies ["council", "value"] (SpD K TP F_are_lies) :=
  def_ok2 (k := 2) (b := b_are_lies) ["council", "value", "one"] ["council", "value"] 2 1 [] F_are_lies Z.F_are_lies sc_are_lies rfl rfl rfl fun A outer s H E hr =>
  (ss_cons (s_if (PBw.pb (bw_or (b_not (b_tru (d_isT "tuple" Z.n_isinstance Z.n_tuple DL.boot_tuple (d_var 1) (by intro d; cases d <;> rfl)))) (bw_or1 (b_cmp (op_neD (hu64 hr)) ob_ne (d_blt call_lenA cd_len Z.n_len DL.boot_len (l_cons (d_var 1) l_nil)) (d_blt call_lenA cd_len Z.n_len DL.boot_len (l_cons (d_frz (o_call (ok_sayings Z) (Room.mono hr (by omega)) (by rfl) Z.g_sayings Z.F_sayings.kp (bb_sayings Z) (c_cons (d_var 0) c_nil))) l_nil))))))
  (ss_one (s_ret (o_sh d_bl)))
  ss_nil)
  (ss_one (s_ret (o_sh (d_genB true (own := [("one", 2)]) (k := 2 - 1) (Room.mono hr (show 2 - 1 + 1 ≤ 2 - 0 by omega)) rfl Z.n_all DL.boot_all Z.T_are_lies Z.p_are_lies rfl (gok_ok ["council", "value", "one"] (defScope s_are_lies) [("one", 2)] rfl rfl (by decide +kernel)) sc_are_lies.nd (show (["council", "value", "one"] : List Str).contains _ = false by decide +kernel) (i_list (d_var 1)) (fun _ _ _ _ _ _ _ _ _ nr0 => (g_name 2 sc_are_lies.nd (show 2 ∉ Wc 3 [2] by decide))) (fun _ _ _ _ _ _ _ _ _ nr0 => bs_nil) (fun _ _ _ _ _ _ _ _ _ nr0 => (d_frz (o_call (ok_is_number Z) (Room.mono (nr0.room (Room.mono hr (show 2 - 1 + 1 ≤ 2 - 0 by omega))) (by omega)) (by rfl) Z.g_is_number Z.F_is_number.kp (bb_is_number Z) (c_cons (d_var 2) (c_cons d_int (c_cons d_int c_nil)))))))))))
end
end K38
namespace K38
open PySem PySem.Spec PyProof.Rows L2 DL
section
variable {P : Program} {w : World} {K : PySem.W.Frag} {mg : Str → Option Value} {base : Heap} {TP : List Addr}
theorem ok_law (Z : Fs K mg base TP) : FnOk P w K mg base (L2.CX P w) 15 Z.a_law Z.d_law ["script"] (SpD K TP F_law) :=
  def_ok2 (k := 14) (b := b_law) ["script", "draws", "council", "told", "turn", "found", "powers", "number", "row", "due", "k", "one", "power"] ["script"] 1 12 [] F_law Z.F_law sc_law rfl rfl rfl fun A outer s H E hr =>
  (ss_cons (s_set 1 sc_law.nd (o_call (ok__law_draws Z) (Room.mono hr (by omega)) (by rfl) Z.g__law_draws Z.F__law_draws.kp (bb__law_draws Z) (c_cons (d_var 0) c_nil)))
  (ss_cons (s_set 2 sc_law.nd (o_call (ok__law_council Z) (Room.mono hr (by omega)) (by rfl) Z.g__law_council Z.F__law_council.kp (bb__law_council Z) (c_slot 1 c_nil)))
  (ss_cons (s_set 3 sc_law.nd (o_call (ok__law_sayings Z) (Room.mono hr (by omega)) (by rfl) Z.g__law_sayings Z.F__law_sayings.kp (bb__law_sayings Z) (c_cons (d_var 2) c_nil)))
  (ss_cons (s_if (PBw.pb (bw_or (b_cmp op_isnot_bl ob_notB (d_frz (o_call (ok_is_council Z) (Room.mono hr (by omega)) (by rfl) Z.g_is_council Z.F_is_council.kp (bb_is_council Z) (c_cons (d_var 2) c_nil))) d_bl) (bw_or1 (b_not (b_tru (d_frz (o_call (ok__law_alike Z 5) (Room.mono hr (by omega)) (by rfl) Z.g__law_alike Z.F__law_alike.kp (bb__law_alike Z) (c_cons (d_frz (o_call (ok_sayings Z) (Room.mono hr (by omega)) (by rfl) Z.g_sayings Z.F_sayings.kp (bb_sayings Z) (c_cons (d_var 2) c_nil))) (c_cons (d_var 3) c_nil)))))))))
  (ss_one (s_ret (o_sh d_bl)))
  ss_nil)
  (ss_cons (s_for PassesOwn.never rfl (i_range1 Z.n_range (l_cons d_int l_nil)) (g_name 4 sc_law.nd)
  (ss_cons (s_set 8 sc_law.nd (o_sh (d_bty call_tuple_of cd_tuple Z.n_tuple DL.boot_tuple (l_cons (d_frz (o_lc rfl sc_law.nd (i_list (d_var 3)) (blk_ok ["script", "draws", "council", "told", "turn", "found", "powers", "number", "row", "due", "k", "one", "power"] (defScope s_law) [("one", 11)] rfl rfl (by decide +kernel)) (fun _ _ _ _ _ => (g_name 11 sc_law.nd (show 11 ∉ Wc 13 [11] by decide))) (fun _ _ _ _ _ => bs_nil) (fun _ _ _ _ _ => (d_ix (ix_C (hu1 hr)) od_ixC (d_frz (o_lst (l_cons (d_frz (o_call (ok__law_take Z) (Room.mono hr (by omega)) (by rfl) Z.g__law_take Z.F__law_take.kp (bb__law_take Z) (c_slot 1 (c_cons d_int c_nil)))) (l_cons (d_op op_sub od_sub d_int (d_ix (ix_C (hu1 hr)) od_ixC (d_var 2) d_int)) (l_cons (d_op op_modN od_mod (d_bty call_int1 cd_int Z.n_int DL.boot_int (l_cons (d_var 4) l_nil)) d_int) l_nil))))) (d_frz (o_call (ok__law_take Z) (Room.mono hr (by omega)) (by rfl) Z.g__law_take Z.F__law_take.kp (bb__law_take Z) (c_slot 1 (c_cons d_int c_nil)))))))) l_nil))))
  (ss_cons (s_set 9 sc_law.nd (o_lst (l_cons d_bl (l_cons d_bl (l_cons (d_frz (o_call (ok__law_decisions Z) (Room.mono hr (by omega)) (by rfl) Z.g__law_decisions Z.F__law_decisions.kp (bb__law_decisions Z) (c_cons (d_var 2) (c_cons (d_var 8) (c_cons (d_var 3) c_nil))))) (l_cons (d_frz (o_call (ok__law_parts Z) (Room.mono hr (by omega)) (by rfl) Z.g__law_parts Z.F__law_parts.kp (bb__law_parts Z) (c_cons (d_var 2) (c_cons (d_var 8) (c_cons (d_var 3) c_nil))))) l_nil))))))
  (ss_one (s_if (b_not (b_tru (d_frz (o_call (ok__law_alike Z 5) (Room.mono hr (by omega)) (by rfl) Z.g__law_alike Z.F__law_alike.kp (bb__law_alike Z) (c_cons (d_frz (o_lst (l_cons (d_frz (o_call (ok_are_lies Z) (Room.mono hr (by omega)) (by rfl) Z.g_are_lies Z.F_are_lies.kp (bb_are_lies Z) (c_cons (d_var 2) (c_cons (d_var 8) c_nil)))) (l_cons (d_frz (o_call (ok_are_lies Z) (Room.mono hr (by omega)) (by rfl) Z.g_are_lies Z.F_are_lies.kp (bb_are_lies Z) (c_cons (d_var 2) (c_cons (d_op op_addA od_add (d_var 8) (d_tup (l_cons d_int l_nil))) c_nil)))) (l_cons (d_frz (o_call (ok_decisions Z) (Room.mono hr (by omega)) (by rfl) Z.g_decisions Z.F_decisions.kp (bb_decisions Z) (c_cons (d_var 2) (c_cons (d_var 8) c_nil)))) (l_cons (d_frz (o_call (ok_do_part Z) (Room.mono hr (by omega)) (by rfl) Z.g_do_part Z.F_do_part.kp (bb_do_part Z) (c_cons (d_var 2) (c_cons (d_var 8) c_nil)))) l_nil)))))) (c_cons (d_var 9) c_nil))))))
  (ss_one (s_ret (o_sh d_bl)))
  ss_nil)))))
  (ss_cons (s_set 5 sc_law.nd (o_call (ok__law_told Z) (Room.mono hr (by omega)) (by rfl) Z.g__law_told Z.F__law_told.kp (bb__law_told Z) (c_cons (d_var 2) c_nil)))
  (ss_cons (s_if (PBw.pb (bw_and (b_cmp op_gt (ob_ord (fun i j => decide (j < i))) (d_ix (ix_C (hu1 hr)) od_ixC (d_var 2) d_int) (d_op op_mulA od_mulA d_int (d_ix (ix_C (hu1 hr)) od_ixC (d_var 2) d_int))) (bw_and (b_cmp op_le (ob_ord (fun i j => decide (i ≤ j))) (d_blt call_lenA cd_len Z.n_len DL.boot_len (l_cons (d_ix (ix_C (hu1 hr)) od_ixC (d_var 2) d_int) l_nil)) (d_ix (ix_C (hu1 hr)) od_ixC (d_var 2) d_int)) (bw_and (b_cmp op_notN ob_notN (d_var 5) d_non) (bw_and1 (b_cmp (op_neD (hu64 hr)) ob_ne (d_var 5) d_str))))))
  (ss_one (s_ret (o_sh d_bl)))
  ss_nil)
  (ss_cons (s_if (b_cmp op_gt (ob_ord (fun i j => decide (j < i))) (d_blt call_lenA cd_len Z.n_len DL.boot_len (l_cons (d_var 3) l_nil)) d_int)
  (ss_one (s_ret (o_sh (d_cmp (op_eqD (hu64 hr)) ob_eq (d_var 5) d_str))))
  ss_nil)
  (ss_cons (s_if (b_cmp op_notN ob_notN (d_var 5) d_non)
  (ss_one (s_ret (o_sh (d_and (d_isT "tuple" Z.n_isinstance Z.n_tuple DL.boot_tuple (d_var 5) (by intro d; cases d <;> rfl)) (d_and (d_cmp op_is_bl ob_isB (d_frz (o_call (ok_are_lies Z) (Room.mono hr (by omega)) (by rfl) Z.g_are_lies Z.F_are_lies.kp (bb_are_lies Z) (c_cons (d_var 2) (c_cons (d_var 5) c_nil)))) d_bl) (d_one (d_frz (o_call (ok__law_parts Z) (Room.mono hr (by omega)) (by rfl) Z.g__law_parts Z.F__law_parts.kp (bb__law_parts Z) (c_cons (d_var 2) (c_cons (d_var 5) (c_cons (d_var 3) c_nil)))))))))))
  ss_nil)
  (ss_cons (s_setLc 6 rfl sc_law.nd (by rfl) (i_range1 Z.n_range (l_cons (d_blt call_lenA cd_len Z.n_len DL.boot_len (l_cons (d_var 3) l_nil)) l_nil)) (blk_ok ["script", "draws", "council", "told", "turn", "found", "powers", "number", "row", "due", "k", "one", "power"] (defScope s_law) [("k", 10)] rfl rfl (by decide +kernel)) (fun _ _ _ _ _ => (g_name 10 sc_law.nd (show 10 ∉ Wc 13 [10] by decide))) (fun _ _ _ _ _ => bs_nil) (fun _ _ _ _ _ => (d_frz (o_call (ok__law_power Z) (Room.mono hr (by omega)) (by rfl) Z.g__law_power Z.F__law_power.kp (bb__law_power Z) (c_cons (d_var 10) c_nil)))))
  (ss_cons (s_for PassesOwn.never rfl (i_range1 Z.n_range (l_cons (d_frz (o_call (ok__law_power Z) (Room.mono hr (by omega)) (by rfl) Z.g__law_power Z.F__law_power.kp (bb__law_power Z) (c_cons (d_blt call_lenA cd_len Z.n_len DL.boot_len (l_cons (d_var 3) l_nil)) c_nil))) l_nil)) (g_name 7 sc_law.nd)
  (ss_one (s_if (b_tru (d_frz (o_call (ok__law_parts Z) (Room.mono hr (by omega)) (by rfl) Z.g__law_parts Z.F__law_parts.kp (bb__law_parts Z) (c_cons (d_var 2) (c_cons (d_bty call_tuple_of cd_tuple Z.n_tuple DL.boot_tuple (l_cons (d_frz (o_lc rfl sc_law.nd (i_list (d_var 6)) (blk_ok ["script", "draws", "council", "told", "turn", "found", "powers", "number", "row", "due", "k", "one", "power"] (defScope s_law) [("power", 12)] rfl rfl (by decide +kernel)) (fun _ _ _ _ _ => (g_name 12 sc_law.nd (show 12 ∉ Wc 13 [12] by decide))) (fun _ _ _ _ _ => bs_nil) (fun _ _ _ _ _ => (d_op op_modN od_mod (d_bty call_int1 cd_int Z.n_int DL.boot_int (l_cons (d_op op_fdivN od_fdiv (d_var 7) (d_var 12)) l_nil)) d_int)))) l_nil)) (c_cons (d_var 3) c_nil))))))
  (ss_one (s_ret (o_sh d_bl)))
  ss_nil)))
  (ss_one (s_ret (o_sh d_bl))))))))))))))
end
end K38

namespace K38
open PySem PySem.Spec PyProof.Rows L2 DL
def fn : List He.DefD := [⟨("_law_draws", none), "_law_draws", "_law_draws", defArgs s__law_draws, defBody s__law_draws, defScope s__law_draws, [], []⟩,
  ⟨("_law_take", none), "_law_take", "_law_take", defArgs s__law_take, defBody s__law_take, defScope s__law_take, [], []⟩,
  ⟨("_law_council", none), "_law_council", "_law_council", defArgs s__law_council, defBody s__law_council, defScope s__law_council, [], []⟩,
  ⟨("_law_paths", none), "_law_paths", "_law_paths", defArgs s__law_paths, defBody s__law_paths, defScope s__law_paths, [], []⟩,
  ⟨("_law_sayings", none), "_law_sayings", "_law_sayings", defArgs s__law_sayings, defBody s__law_sayings, defScope s__law_sayings, [], []⟩,
  ⟨("paths_from", none), "paths_from", "paths_from", defArgs s_paths_from, defBody s_paths_from, defScope s_paths_from, [], []⟩,
  ⟨("sayings", none), "sayings", "sayings", defArgs s_sayings, defBody s_sayings, defScope s_sayings, [], []⟩,
  ⟨("lies_by_saying", none), "lies_by_saying", "lies_by_saying", defArgs s_lies_by_saying, defBody s_lies_by_saying, defScope s_lies_by_saying, [], []⟩,
  ⟨("heard", none), "heard", "heard", defArgs s_heard, defBody s_heard, defScope s_heard, [], []⟩,
  ⟨("makes", none), "makes", "makes", defArgs s_makes, defBody s_makes, defScope s_makes, [], []⟩,
  ⟨("decisions", none), "decisions", "decisions", defArgs s_decisions, defBody s_decisions, defScope s_decisions, [], []⟩,
  ⟨("do_part", none), "do_part", "do_part", defArgs s_do_part, defBody s_do_part, defScope s_do_part, [], []⟩,
  ⟨("lies_for", none), "lies_for", "lies_for", defArgs s_lies_for, defBody s_lies_for, defScope s_lies_for, [], []⟩,
  ⟨("_law_word", none), "_law_word", "_law_word", defArgs s__law_word, defBody s__law_word, defScope s__law_word, [], []⟩,
  ⟨("_law_told", none), "_law_told", "_law_told", defArgs s__law_told, defBody s__law_told, defScope s__law_told, [], []⟩,
  ⟨("_law_power", none), "_law_power", "_law_power", defArgs s__law_power, defBody s__law_power, defScope s__law_power, [], []⟩,
  ⟨("_law_heard", none), "_law_heard", "_law_heard", defArgs s__law_heard, defBody s__law_heard, defScope s__law_heard, [], []⟩,
  ⟨("_law_makes", none), "_law_makes", "_law_makes", defArgs s__law_makes, defBody s__law_makes, defScope s__law_makes, [], []⟩,
  ⟨("_law_decisions", none), "_law_decisions", "_law_decisions", defArgs s__law_decisions, defBody s__law_decisions, defScope s__law_decisions, [], []⟩,
  ⟨("_law_parts", none), "_law_parts", "_law_parts", defArgs s__law_parts, defBody s__law_parts, defScope s__law_parts, [], []⟩,
  ⟨("is_number", none), "is_number", "is_number", defArgs s_is_number, defBody s_is_number, defScope s_is_number, [], []⟩,
  ⟨("is_council", none), "is_council", "is_council", defArgs s_is_council, defBody s_is_council, defScope s_is_council, [], []⟩,
  ⟨("_law_alike", none), "_law_alike", "_law_alike", defArgs s__law_alike, defBody s__law_alike, defScope s__law_alike, [], []⟩,
  ⟨("are_lies", none), "are_lies", "are_lies", defArgs s_are_lies, defBody s_are_lies, defScope s_are_lies, [], []⟩,
  ⟨("law", none), "law", "law", defArgs s_law, defBody s_law, defScope s_law, [], []⟩]
def fa : List He.Fa := .glo "_law_draws" :: .glo "_law_take" :: .glo "_law_council" :: .glo "_law_paths" :: .glo "_law_sayings" :: .glo "paths_from" :: .glo "sayings" :: .glo "lies_by_saying" :: .glo "heard" :: .glo "makes" :: .glo "decisions" :: .glo "do_part" :: .glo "lies_for" :: .glo "_law_word" :: .glo "_law_told" :: .glo "_law_power" :: .glo "_law_heard" :: .glo "_law_makes" :: .glo "_law_decisions" :: .glo "_law_parts" :: .glo "is_number" :: .glo "is_council" :: .glo "_law_alike" :: .glo "are_lies" :: .glo "law" :: .glo "FirstError" :: .glo "OutOfRange" :: .glo "Malformed" :: .glo "NotThere" :: .glo "Refused" :: .glo "TooMuch" :: .free "abs" :: .free "all" :: .free "bool" :: .free "dict" :: .free "int" :: .free "isinstance" :: .free "len" :: .free "list" :: .free "max" :: .free "min" :: .free "range" :: .free "reversed" :: .free "sorted" :: .free "str" :: .free "sum" :: .free "tuple" :: .free "zip" :: .int "MOST_DEEP" 2 :: .int "MOST_NODES" 7 :: .int "MOST_SAYINGS" 12 :: []
def tf : List He.Defn := [("is_council", none), ("are_lies", none)]
abbrev R : PySem.W.OpenRow := PySem.W.OpenLaw.row PySem.Challenge.rw_happenedfirst_k38_whole_councils_of_twel
abbrev hk : PySem.W.Hook := He.hookX 4 fa fn [] tf errsB
def ob (s : PySem.W.SharedT) : He.AlX := He.obsX 4 fa fn [] tf errsB (HandSHeadRun.getT s)
theorem ob_eq (s : PySem.W.SharedT) : ob s = hk.obs s.abs := He.obsX_eq (HandSHeadRun.getT_eq s)
def loose : List Str := "FirstError" :: "OutOfRange" :: "Malformed" :: "NotThere" :: "Refused" :: "TooMuch" :: "is_number" :: "MOST_NODES" :: "MOST_DEEP" :: "MOST_SAYINGS" :: "is_council" :: "paths_from" :: "sayings" :: "are_lies" :: "heard" :: "makes" :: "lies_by_saying" :: "decisions" :: "do_part" :: "lies_for" :: "_law_draws" :: "_law_take" :: "_law_alike" :: "_law_word" :: "_law_told" :: "_law_paths" :: "_law_sayings" :: "_law_heard" :: "_law_makes" :: "_law_decisions" :: "_law_parts" :: "_law_council" :: "_law_power" :: []
theorem run (w : World) : HandSHeadRun.RunEq R (PySem.W.view R.prog [37]) hk ob 3000 loose w := by
  intro os
  kernel_rfl
open PySem.W in
theorem lawAt (hlaw : ∀ ns : List Int, ns.length ≤ 63 → (∀ z ∈ ns, Builtin.Int.intBits z ≤ 1048576) → ∃ e, F_law [.sh (.list (ns.map .int))] = some (.sh (.bool true), e)) (w : World) (mg : Str → Option Value) (f : Addr) (h : Heap) (Y : hk.says w h) (G : h.Ns mainGlobals mg) (hmg : mg ("law" : Str) = some (.ref f)) :
    ∃ K : PySem.W.Frag, K.In h ∧ LamX.LawAtS PySem.Challenge.rw_happenedfirst_k38_whole_councils_of_twel w K (L2.CX PySem.Challenge.rw_happenedfirst_k38_whole_councils_of_twel.prog w) 15 63 "script" mg f h := by
  obtain ⟨K, X, c⟩ := Y
  obtain ⟨d__law_draws, D__law_draws⟩ := c.t.d.def_ 0 (d := ⟨("_law_draws", none), "_law_draws", "_law_draws", defArgs s__law_draws, defBody s__law_draws, defScope s__law_draws, [], []⟩) rfl
  obtain ⟨d__law_take, D__law_take⟩ := c.t.d.def_ 1 (d := ⟨("_law_take", none), "_law_take", "_law_take", defArgs s__law_take, defBody s__law_take, defScope s__law_take, [], []⟩) rfl
  obtain ⟨d__law_council, D__law_council⟩ := c.t.d.def_ 2 (d := ⟨("_law_council", none), "_law_council", "_law_council", defArgs s__law_council, defBody s__law_council, defScope s__law_council, [], []⟩) rfl
  obtain ⟨d__law_paths, D__law_paths⟩ := c.t.d.def_ 3 (d := ⟨("_law_paths", none), "_law_paths", "_law_paths", defArgs s__law_paths, defBody s__law_paths, defScope s__law_paths, [], []⟩) rfl
  obtain ⟨d__law_sayings, D__law_sayings⟩ := c.t.d.def_ 4 (d := ⟨("_law_sayings", none), "_law_sayings", "_law_sayings", defArgs s__law_sayings, defBody s__law_sayings, defScope s__law_sayings, [], []⟩) rfl
  obtain ⟨d_paths_from, D_paths_from⟩ := c.t.d.def_ 5 (d := ⟨("paths_from", none), "paths_from", "paths_from", defArgs s_paths_from, defBody s_paths_from, defScope s_paths_from, [], []⟩) rfl
  obtain ⟨d_sayings, D_sayings⟩ := c.t.d.def_ 6 (d := ⟨("sayings", none), "sayings", "sayings", defArgs s_sayings, defBody s_sayings, defScope s_sayings, [], []⟩) rfl
  obtain ⟨d_lies_by_saying, D_lies_by_saying⟩ := c.t.d.def_ 7 (d := ⟨("lies_by_saying", none), "lies_by_saying", "lies_by_saying", defArgs s_lies_by_saying, defBody s_lies_by_saying, defScope s_lies_by_saying, [], []⟩) rfl
  obtain ⟨d_heard, D_heard⟩ := c.t.d.def_ 8 (d := ⟨("heard", none), "heard", "heard", defArgs s_heard, defBody s_heard, defScope s_heard, [], []⟩) rfl
  obtain ⟨d_makes, D_makes⟩ := c.t.d.def_ 9 (d := ⟨("makes", none), "makes", "makes", defArgs s_makes, defBody s_makes, defScope s_makes, [], []⟩) rfl
  obtain ⟨d_decisions, D_decisions⟩ := c.t.d.def_ 10 (d := ⟨("decisions", none), "decisions", "decisions", defArgs s_decisions, defBody s_decisions, defScope s_decisions, [], []⟩) rfl
  obtain ⟨d_do_part, D_do_part⟩ := c.t.d.def_ 11 (d := ⟨("do_part", none), "do_part", "do_part", defArgs s_do_part, defBody s_do_part, defScope s_do_part, [], []⟩) rfl
  obtain ⟨d_lies_for, D_lies_for⟩ := c.t.d.def_ 12 (d := ⟨("lies_for", none), "lies_for", "lies_for", defArgs s_lies_for, defBody s_lies_for, defScope s_lies_for, [], []⟩) rfl
  obtain ⟨d__law_word, D__law_word⟩ := c.t.d.def_ 13 (d := ⟨("_law_word", none), "_law_word", "_law_word", defArgs s__law_word, defBody s__law_word, defScope s__law_word, [], []⟩) rfl
  obtain ⟨d__law_told, D__law_told⟩ := c.t.d.def_ 14 (d := ⟨("_law_told", none), "_law_told", "_law_told", defArgs s__law_told, defBody s__law_told, defScope s__law_told, [], []⟩) rfl
  obtain ⟨d__law_power, D__law_power⟩ := c.t.d.def_ 15 (d := ⟨("_law_power", none), "_law_power", "_law_power", defArgs s__law_power, defBody s__law_power, defScope s__law_power, [], []⟩) rfl
  obtain ⟨d__law_heard, D__law_heard⟩ := c.t.d.def_ 16 (d := ⟨("_law_heard", none), "_law_heard", "_law_heard", defArgs s__law_heard, defBody s__law_heard, defScope s__law_heard, [], []⟩) rfl
  obtain ⟨d__law_makes, D__law_makes⟩ := c.t.d.def_ 17 (d := ⟨("_law_makes", none), "_law_makes", "_law_makes", defArgs s__law_makes, defBody s__law_makes, defScope s__law_makes, [], []⟩) rfl
  obtain ⟨d__law_decisions, D__law_decisions⟩ := c.t.d.def_ 18 (d := ⟨("_law_decisions", none), "_law_decisions", "_law_decisions", defArgs s__law_decisions, defBody s__law_decisions, defScope s__law_decisions, [], []⟩) rfl
  obtain ⟨d__law_parts, D__law_parts⟩ := c.t.d.def_ 19 (d := ⟨("_law_parts", none), "_law_parts", "_law_parts", defArgs s__law_parts, defBody s__law_parts, defScope s__law_parts, [], []⟩) rfl
  obtain ⟨d_is_number, D_is_number⟩ := c.t.d.def_ 20 (d := ⟨("is_number", none), "is_number", "is_number", defArgs s_is_number, defBody s_is_number, defScope s_is_number, [], []⟩) rfl
  obtain ⟨d_is_council, D_is_council⟩ := c.t.d.def_ 21 (d := ⟨("is_council", none), "is_council", "is_council", defArgs s_is_council, defBody s_is_council, defScope s_is_council, [], []⟩) rfl
  obtain ⟨d__law_alike, D__law_alike⟩ := c.t.d.def_ 22 (d := ⟨("_law_alike", none), "_law_alike", "_law_alike", defArgs s__law_alike, defBody s__law_alike, defScope s__law_alike, [], []⟩) rfl
  obtain ⟨d_are_lies, D_are_lies⟩ := c.t.d.def_ 23 (d := ⟨("are_lies", none), "are_lies", "are_lies", defArgs s_are_lies, defBody s_are_lies, defScope s_are_lies, [], []⟩) rfl
  obtain ⟨d_law, D_law⟩ := c.t.d.def_ 24 (d := ⟨("law", none), "law", "law", defArgs s_law, defBody s_law, defScope s_law, [], []⟩) rfl
  have e := hmg.symm.trans (He.glo_ok X G (c.t.d.fact 24 (f := .glo "law") rfl))
  cases e
  have T : ∀ p ∈ tf, PySem.W.CodeHd h (He.cT K p).1 (He.cT K p).2 := fun p hp => PySem.W.codeHd_of_K X (c.hd p hp)
  refine ⟨K, X, d_law, tf.map (He.cT K), SpD K (tf.map fun p => (He.cT K p).2) F_law, fun p hp => ?_, fun p hp => ?_, fun p hp => ?_, ?_, ?_, ?_⟩
  · obtain ⟨q, hq, rfl⟩ := List.mem_map.mp hp; exact c.empty q hq
  · obtain ⟨q, hq, rfl⟩ := List.mem_map.mp hp; exact c.out q hq
  · obtain ⟨q, hq, rfl⟩ := List.mem_map.mp hp; exact T q hq
  · exact fun s v => FunD.bindsA (ps := ["script"]) D_law (fun _ _ _ _ _ _ us hl => match us, hl with | [_], _ => rfl) s [v] rfl
  · intro H a ns hn hb hT hS
    refine law_sp (fun P hP => ?_) hS (hlaw ns hn hb)
    obtain ⟨q, hq, rfl⟩ := List.mem_map.mp hP
    exact hT _ (List.mem_map.mpr ⟨q, hq, rfl⟩)
  · intro base KB GB TB
    let Z0 : Fs K mg base (tf.map fun p => (He.cT K p).2) := {
      a__law_draws := He.fAd K ("_law_draws", none), d__law_draws := d__law_draws, c__law_draws := He.codeOf K ("_law_draws", none), F__law_draws := funC_of D__law_draws, g__law_draws := He.glo_ok X G (c.t.d.fact 0 (f := .glo "_law_draws") rfl),
      a__law_take := He.fAd K ("_law_take", none), d__law_take := d__law_take, c__law_take := He.codeOf K ("_law_take", none), F__law_take := funC_of D__law_take, g__law_take := He.glo_ok X G (c.t.d.fact 1 (f := .glo "_law_take") rfl),
      a__law_council := He.fAd K ("_law_council", none), d__law_council := d__law_council, c__law_council := He.codeOf K ("_law_council", none), F__law_council := funC_of D__law_council, g__law_council := He.glo_ok X G (c.t.d.fact 2 (f := .glo "_law_council") rfl),
      a__law_paths := He.fAd K ("_law_paths", none), d__law_paths := d__law_paths, c__law_paths := He.codeOf K ("_law_paths", none), F__law_paths := funC_of D__law_paths, g__law_paths := He.glo_ok X G (c.t.d.fact 3 (f := .glo "_law_paths") rfl),
      a__law_sayings := He.fAd K ("_law_sayings", none), d__law_sayings := d__law_sayings, c__law_sayings := He.codeOf K ("_law_sayings", none), F__law_sayings := funC_of D__law_sayings, g__law_sayings := He.glo_ok X G (c.t.d.fact 4 (f := .glo "_law_sayings") rfl),
      a_paths_from := He.fAd K ("paths_from", none), d_paths_from := d_paths_from, c_paths_from := He.codeOf K ("paths_from", none), F_paths_from := funC_of D_paths_from, g_paths_from := He.glo_ok X G (c.t.d.fact 5 (f := .glo "paths_from") rfl),
      a_sayings := He.fAd K ("sayings", none), d_sayings := d_sayings, c_sayings := He.codeOf K ("sayings", none), F_sayings := funC_of D_sayings, g_sayings := He.glo_ok X G (c.t.d.fact 6 (f := .glo "sayings") rfl),
      a_lies_by_saying := He.fAd K ("lies_by_saying", none), d_lies_by_saying := d_lies_by_saying, c_lies_by_saying := He.codeOf K ("lies_by_saying", none), F_lies_by_saying := funC_of D_lies_by_saying, g_lies_by_saying := He.glo_ok X G (c.t.d.fact 7 (f := .glo "lies_by_saying") rfl),
      a_heard := He.fAd K ("heard", none), d_heard := d_heard, c_heard := He.codeOf K ("heard", none), F_heard := funC_of D_heard, g_heard := He.glo_ok X G (c.t.d.fact 8 (f := .glo "heard") rfl),
      a_makes := He.fAd K ("makes", none), d_makes := d_makes, c_makes := He.codeOf K ("makes", none), F_makes := funC_of D_makes, g_makes := He.glo_ok X G (c.t.d.fact 9 (f := .glo "makes") rfl),
      a_decisions := He.fAd K ("decisions", none), d_decisions := d_decisions, c_decisions := He.codeOf K ("decisions", none), F_decisions := funC_of D_decisions, g_decisions := He.glo_ok X G (c.t.d.fact 10 (f := .glo "decisions") rfl),
      a_do_part := He.fAd K ("do_part", none), d_do_part := d_do_part, c_do_part := He.codeOf K ("do_part", none), F_do_part := funC_of D_do_part, g_do_part := He.glo_ok X G (c.t.d.fact 11 (f := .glo "do_part") rfl),
      a_lies_for := He.fAd K ("lies_for", none), d_lies_for := d_lies_for, c_lies_for := He.codeOf K ("lies_for", none), F_lies_for := funC_of D_lies_for, g_lies_for := He.glo_ok X G (c.t.d.fact 12 (f := .glo "lies_for") rfl),
      a__law_word := He.fAd K ("_law_word", none), d__law_word := d__law_word, c__law_word := He.codeOf K ("_law_word", none), F__law_word := funC_of D__law_word, g__law_word := He.glo_ok X G (c.t.d.fact 13 (f := .glo "_law_word") rfl),
      a__law_told := He.fAd K ("_law_told", none), d__law_told := d__law_told, c__law_told := He.codeOf K ("_law_told", none), F__law_told := funC_of D__law_told, g__law_told := He.glo_ok X G (c.t.d.fact 14 (f := .glo "_law_told") rfl),
      a__law_power := He.fAd K ("_law_power", none), d__law_power := d__law_power, c__law_power := He.codeOf K ("_law_power", none), F__law_power := funC_of D__law_power, g__law_power := He.glo_ok X G (c.t.d.fact 15 (f := .glo "_law_power") rfl),
      a__law_heard := He.fAd K ("_law_heard", none), d__law_heard := d__law_heard, c__law_heard := He.codeOf K ("_law_heard", none), F__law_heard := funC_of D__law_heard, g__law_heard := He.glo_ok X G (c.t.d.fact 16 (f := .glo "_law_heard") rfl),
      a__law_makes := He.fAd K ("_law_makes", none), d__law_makes := d__law_makes, c__law_makes := He.codeOf K ("_law_makes", none), F__law_makes := funC_of D__law_makes, g__law_makes := He.glo_ok X G (c.t.d.fact 17 (f := .glo "_law_makes") rfl),
      a__law_decisions := He.fAd K ("_law_decisions", none), d__law_decisions := d__law_decisions, c__law_decisions := He.codeOf K ("_law_decisions", none), F__law_decisions := funC_of D__law_decisions, g__law_decisions := He.glo_ok X G (c.t.d.fact 18 (f := .glo "_law_decisions") rfl),
      a__law_parts := He.fAd K ("_law_parts", none), d__law_parts := d__law_parts, c__law_parts := He.codeOf K ("_law_parts", none), F__law_parts := funC_of D__law_parts, g__law_parts := He.glo_ok X G (c.t.d.fact 19 (f := .glo "_law_parts") rfl),
      a_is_number := He.fAd K ("is_number", none), d_is_number := d_is_number, c_is_number := He.codeOf K ("is_number", none), F_is_number := funC_of D_is_number, g_is_number := He.glo_ok X G (c.t.d.fact 20 (f := .glo "is_number") rfl),
      a_is_council := He.fAd K ("is_council", none), d_is_council := d_is_council, c_is_council := He.codeOf K ("is_council", none), F_is_council := funC_of D_is_council, g_is_council := He.glo_ok X G (c.t.d.fact 21 (f := .glo "is_council") rfl),
      t_is_council := (He.cT K ("is_council", none)).2, T_is_council := (let t := TB (He.cT K ("is_council", none)) (List.mem_map.mpr ⟨("is_council", none), List.mem_of_getElem? (i := 0) rfl, rfl⟩); ⟨t.code, t.bm, t.gP⟩), p_is_council := List.mem_map.mpr ⟨("is_council", none), List.mem_of_getElem? (i := 0) rfl, rfl⟩,
      a__law_alike := He.fAd K ("_law_alike", none), d__law_alike := d__law_alike, c__law_alike := He.codeOf K ("_law_alike", none), F__law_alike := funC_of D__law_alike, g__law_alike := He.glo_ok X G (c.t.d.fact 22 (f := .glo "_law_alike") rfl),
      a_are_lies := He.fAd K ("are_lies", none), d_are_lies := d_are_lies, c_are_lies := He.codeOf K ("are_lies", none), F_are_lies := funC_of D_are_lies, g_are_lies := He.glo_ok X G (c.t.d.fact 23 (f := .glo "are_lies") rfl),
      t_are_lies := (He.cT K ("are_lies", none)).2, T_are_lies := (let t := TB (He.cT K ("are_lies", none)) (List.mem_map.mpr ⟨("are_lies", none), List.mem_of_getElem? (i := 1) rfl, rfl⟩); ⟨t.code, t.bm, t.gP⟩), p_are_lies := List.mem_map.mpr ⟨("are_lies", none), List.mem_of_getElem? (i := 1) rfl, rfl⟩,
      a_law := He.fAd K ("law", none), d_law := d_law, c_law := He.codeOf K ("law", none), F_law := funC_of D_law, g_law := He.glo_ok X G (c.t.d.fact 24 (f := .glo "law") rfl),
      err := errF_of c.more (He.glo_ok X G (c.t.d.fact 25 (f := .glo "FirstError") rfl)) (fun p hp => by
        simp only [List.mem_cons, List.not_mem_nil, or_false] at hp
        rcases hp with rfl | rfl | rfl | rfl | rfl
        · exact He.glo_ok X G (c.t.d.fact 26 (f := .glo "OutOfRange") rfl)
        · exact He.glo_ok X G (c.t.d.fact 27 (f := .glo "Malformed") rfl)
        · exact He.glo_ok X G (c.t.d.fact 28 (f := .glo "NotThere") rfl)
        · exact He.glo_ok X G (c.t.d.fact 29 (f := .glo "Refused") rfl)
        · exact He.glo_ok X G (c.t.d.fact 30 (f := .glo "TooMuch") rfl)),
      n_abs := He.free_ok X G (c.t.d.fact 31 (f := .free "abs") rfl),
      n_all := He.free_ok X G (c.t.d.fact 32 (f := .free "all") rfl),
      n_bool := He.free_ok X G (c.t.d.fact 33 (f := .free "bool") rfl),
      n_dict := He.free_ok X G (c.t.d.fact 34 (f := .free "dict") rfl),
      n_int := He.free_ok X G (c.t.d.fact 35 (f := .free "int") rfl),
      n_isinstance := He.free_ok X G (c.t.d.fact 36 (f := .free "isinstance") rfl),
      n_len := He.free_ok X G (c.t.d.fact 37 (f := .free "len") rfl),
      n_list := He.free_ok X G (c.t.d.fact 38 (f := .free "list") rfl),
      n_max := He.free_ok X G (c.t.d.fact 39 (f := .free "max") rfl),
      n_min := He.free_ok X G (c.t.d.fact 40 (f := .free "min") rfl),
      n_range := He.free_ok X G (c.t.d.fact 41 (f := .free "range") rfl),
      n_reversed := He.free_ok X G (c.t.d.fact 42 (f := .free "reversed") rfl),
      n_sorted := He.free_ok X G (c.t.d.fact 43 (f := .free "sorted") rfl),
      n_str := He.free_ok X G (c.t.d.fact 44 (f := .free "str") rfl),
      n_sum := He.free_ok X G (c.t.d.fact 45 (f := .free "sum") rfl),
      n_tuple := He.free_ok X G (c.t.d.fact 46 (f := .free "tuple") rfl),
      n_zip := He.free_ok X G (c.t.d.fact 47 (f := .free "zip") rfl),
      v_MOST_DEEP := He.int_ok X G (c.t.d.fact 48 (f := .int "MOST_DEEP" 2) rfl),
      v_MOST_NODES := He.int_ok X G (c.t.d.fact 49 (f := .int "MOST_NODES" 7) rfl),
      v_MOST_SAYINGS := He.int_ok X G (c.t.d.fact 50 (f := .int "MOST_SAYINGS" 12) rfl) }
    exact ok_law Z0
end K38
open PySem PySem.W PySem.Calls PyProof.Rows
theorem K38.holds (hlaw : ∀ ns : List Int, ns.length ≤ 63 → (∀ z ∈ ns, Builtin.Int.intBits z ≤ 1048576) → ∃ e, K38.F_law [.sh (.list (ns.map .int))] = some (.sh (.bool true), e)) : PySem.Challenge.rw_happenedfirst_k38_whole_councils_of_twel.Holds := by
  w_on; o_law
  refine HandSHeadRun.head_any (r := OpenLaw.row PySem.Challenge.rw_happenedfirst_k38_whole_councils_of_twel) (q := view (OpenLaw.row PySem.Challenge.rw_happenedfirst_k38_whole_councils_of_twel).prog [37]) (H := K38.hk) (ob := K38.ob) (M := 3000) (loose := K38.loose) (d := HandSHeadRun.topDef (OpenLaw.row PySem.Challenge.rw_happenedfirst_k38_whole_councils_of_twel).prog 37) (kwd := []) K38.ob_eq
    (by kernel_rfl) (fun s => by kernel_rfl) K38.run (by kernel_rfl) (by kernel_rfl) (by kernel_rfl) (by rfl) (by first | assumption | decide +kernel) (by decide +kernel) ⟨rfl, rfl, rfl, rfl, rfl, by decide +kernel⟩ ?hw ?hc
  case hw => w_witness2
  case hc =>
    refine LamX.walk_ofTsE (l := PySem.Challenge.rw_happenedfirst_k38_whole_councils_of_twel) (n := 63) (k := 15) (x := "script") (CX := fun w => L2.CX PySem.Challenge.rw_happenedfirst_k38_whole_councils_of_twel.prog w) rfl (by decide) (by kernel_rfl) ⟨rfl, by decide, by decide⟩ ?F (fun w H s e s' h => DL.cx_no h)
    intro w mg fa h Y G hmg0
    have hmg : mg ("law" : PySem.Str) = some (.ref fa) := by
      have e : (HandSHeadRun.topDef (OpenLaw.row PySem.Challenge.rw_happenedfirst_k38_whole_councils_of_twel).prog 37).name = ("law" : PySem.Str) := by kernel_rfl
      rw [← e]
      exact hmg0
    exact K38.lawAt hlaw w mg fa h Y G hmg
namespace K38
open PySem PySem.Spec PyProof.Rows L2 DL
/-- a tuple of ints -/
abbrev tI (l : List Int) : D := .tuple (l.map .int)
/-- what is told -/
def told (kvs : List (List Int × Int)) (p : List Int) : Option Int := (kvs.find? fun q => decide (q.1 = p)).map (·.2)
def kvD (kvs : List (List Int × Int)) : D := .dict (kvs.map fun q => (tI q.1, .int q.2))
theorem intsD_int : ∀ l : List Int, intsD (l.map .int) = some l
  | [] => rfl
  | x :: l => by simp [intsD, intsD_int l]
theorem inl_eq {a b : List Int} : (a.map (Sum.inl : Int → Key) = b.map Sum.inl) ↔ a = b := ⟨inl_inj, fun h => by rw [h]⟩
theorem look_kv (kvs : List (List Int × Int)) (p : List Int) : look (kvs.map fun q => (tI q.1, PyData.int q.2)) (.tup (p.map .inl)) = some ((told kvs p).map .int) := by
  unfold look
  have : ((kvs.map fun q => (tI q.1, PyData.int q.2)).all fun p => isTup p.1) = true := by
    rw [List.all_eq_true]
    intro x hx
    obtain ⟨q, _, rfl⟩ := List.mem_map.mp hx
    simp [isTup, dkey_ints]
  dsimp only
  rw [if_pos this]
  congr 1
  unfold find told
  clear this
  induction kvs with
  | nil => rfl
  | cons q r ih =>
    simp only [List.map_cons, List.find?_cons, dkey_ints]
    by_cases e : q.1 = p
    · simp [e]
    · have e' : ¬ (some (DKey.tup (q.1.map Sum.inl)) = some (.tup (p.map .inl))) := fun z => e (by
        injection z with z; injection z with z; exact inl_inj z)
      simp only [e, e', decide_false]
      exact ih
theorem in_kv (kvs : List (List Int × Int)) (p : List Int) : gInC (tI p) (kvD kvs) = some (told kvs p).isSome := by
  unfold gInC kvD
  dsimp only
  rw [dkey_ints]
  dsimp only
  rw [look_kv]
  simp
theorem ix_kv (kvs : List (List Int × Int)) (p : List Int) : gIxC (kvD kvs) (tI p) = (told kvs p).map .int := by
  unfold gIxC kvD
  dsimp only
  rw [dkey_ints]
  dsimp only
  rw [look_kv]
  cases told kvs p <;> rfl
/-- what a node hears -/
def hear (kvs : List (List Int × Int)) (order : Int) : Nat → List Int → Int → Int
  | 0, _, _ => order
  | k + 1, p, node => match told kvs (p ++ [node]) with
    | some v => v
    | none => if p.length = 1 then order else hear kvs order k p.dropLast (p.getLastD 0)
abbrev co (n deep : Int) (liars : List Int) (order : Int) : D := .tuple [.int n, .int deep, tI liars, .int order]
theorem defF_ev {n m : Nat} {W : List Nat} {b : SF} {cs : List Cell} {r : Cell} {e : DEnv} (h1 : cs.length = n) (h2 : ownOk W cs = true) (hb : b (cs ++ List.replicate m .un) = some (.rt r, e)) : defF n m W b cs = some (r, backs cs e) := by
  unfold defF
  rw [if_pos ⟨h1, h2⟩, hb]
local macro_rules | `(tactic| walk_at "ev") => `(tactic| try simp -implicitDefEqProofs only [bnd_some, bnd_none, out_some, out_none, fVar_c, fC_c, aNil_c, aCons_c, aStar_c, fOp_c, fUn_c, fCmp_c, bCmp_c, bVal_c, bTru_c, bNot_c, bAnd_c, bOr_c, fAnd_c, fOr_c, fNot_c, fIf_c, fTup_c, oLst_c, fFrz_c, oSh_c, cNil_c, cCons_c, cSlot1_c, oCall_c, sSeq_c, sNil_c, sRt_c, sDrop_c, sIf_c, sSet_c, sAsg_c, sFor_c, sParO_c, sExtV_c, sExtO_c, fSl_c, pNone_c, pSome_c, fBlt_c, oList_c, oListRev_c, oSorted_c, oRep_c, fIsT_c, fChain_c, fMd_c, fIt_c, fArgs_c, bYes_c, oLc_c, oLc2_c, fGenB_c, fDictZip_c, fGet2_c, fPk1_c, fPkL_c, fPkR_c, fPkIx_c, bPkL_c, bPkR_c,
  tgN, tgTup, tgCons, tgNil, gIt, gNeg, gTru, g1, DL.g2, gLen, gInt, getCells, putCells, slotsOf, own?, Cell.owned, isDict, List.drop, List.drop_nil,
  List.cons_append, List.nil_append, List.getElem?_cons_succ, List.getElem?_cons_zero, List.replicate, List.set_cons_succ, List.set_cons_zero, List.length_cons, List.length_nil, Option.map_some, reduceIte, Nat.reduceAdd, Nat.reduceLT, List.nodup_nil, if_true, if_false, Bool.false_eq_true, Bool.true_eq_false, Bool.not_true, Bool.not_false, gSl, cutD_init, gIxC_tup, gIxC_lst, gEq_int, gNe_int, gInC_int, gInC_lint, gNotInC_int, gNotInC_lint, gOrd, List.length_map, in_kv, at0, at1, at2, at3, DL.peek, isSc, gAdd_int, gSub_int, gSum_int])
theorem heard_ok (n deep : Int) (liars : List Int) (order : Int) (kvs : List (List Int × Int)) : ∀ (k : Nat) (p : List Int) (node : Int), p ≠ [] → p.length ≤ k → p.length ≤ 9 → F_heard k [.sh (co n deep liars order), .sh (kvD kvs), .sh (tI p), .sh (.int node)] = some (.sh (.int (hear kvs order k p node)), [.sh (co n deep liars order), .sh (kvD kvs), .sh (tI p), .sh (.int node)])
  | 0, p, node, h, h2, _ => by cases p <;> simp at h h2
  | k + 1, p, node, h, h2, h9 => by
    have hs : ((p.map PyData.int) ++ [PyData.int node]).length ≤ sizeLine := by rw [sizeLine_eq]; simp; omega
    have hm : (p.map PyData.int) ++ [PyData.int node] = (p ++ [node]).map PyData.int := by simp
    refine (defF_ev (e := [.sh (co n deep liars order), .sh (kvD kvs), .sh (tI p), .sh (.int node), .sh (tI (p ++ [node]))]) rfl rfl ?_)
    unfold b_heard hear
    show _ = some _
    walk_at "ev"
    rw [if_pos hs, hm]
    walk_at "ev"
    cases ht : told kvs (p ++ [node]) with
    | some v =>
      simp only [Option.isSome_some]
      walk_at "ev"
      rw [ix_kv, ht]
      walk_at "ev"
    | none =>
      simp only [Option.isSome_none]
      walk_at "ev"
      by_cases hl : p.length = 1
      · have hl' : ((p.length : Nat) : Int) = 1 := by omega
        rw [if_pos hl, decide_eq_true hl', if_pos rfl]
        walk_at "ev"
      · have hl' : ¬ ((p.length : Nat) : Int) = 1 := by omega
        rw [if_neg hl, decide_eq_false hl', if_neg Bool.false_ne_true]
        walk_at "ev"
        have hp : p.map PyData.int ≠ [] := by simpa using h
        rw [atI_m1 hp]
        walk_at "ev"
        have e1 : (p.map PyData.int).dropLast = p.dropLast.map PyData.int := by rw [List.map_dropLast]
        have e2 : (p.map PyData.int).getLast hp = .int (p.getLastD 0) := by
          rw [List.getLast_map]
          · rw [List.getLastD_eq_getLast?, List.getLast?_eq_getLast h]; rfl
        rw [e1, e2]
        have hn : p.dropLast ≠ [] := by
          intro z
          have := congrArg List.length z
          have h0 : p.length ≠ 0 := by simpa using h
          simp at this
          omega
        rw [heard_ok n deep liars order kvs k p.dropLast (p.getLastD 0) hn (by simp; omega) (by simp; omega)]
        walk_at "ev"
/-- what a node makes of it -/
def mk (kvs : List (List Int × Int)) (order n deep : Int) : Nat → List Int → Int → Int
  | 0, _, _ => 0
  | k + 1, p, node => if (p.length : Int) = deep + 1 then hear kvs order 5 p node else
    let parts := hear kvs order 5 p node :: ((upto n).filter fun o => decide (o ∉ p) && decide (o ≠ node)).map fun o => mk kvs order n deep k (p ++ [o]) node
    if (parts.length : Int) < 2 * parts.sum then 1 else 0
theorem mk_eq (kvs : List (List Int × Int)) (order n deep : Int) (k : Nat) (p : List Int) (node : Int) : mk kvs order n deep (k + 1) p node = if (p.length : Int) = deep + 1 then hear kvs order 5 p node else
    if (((hear kvs order 5 p node :: ((upto n).filter fun o => decide (o ∉ p) && decide (o ≠ node)).map fun o => mk kvs order n deep k (p ++ [o]) node).length : Nat) : Int) < 2 * (hear kvs order 5 p node :: ((upto n).filter fun o => decide (o ∉ p) && decide (o ≠ node)).map fun o => mk kvs order n deep k (p ++ [o]) node).sum then 1 else 0 := rfl
theorem makes_loop (n deep : Int) (liars : List Int) (order : Int) (kvs : List (List Int × Int)) (k : Nat) (p : List Int) (node own : Int) (hp : p ≠ []) (h4 : p.length ≤ 8)
    (ih : ∀ o, F_makes k [.sh (co n deep liars order), .sh (kvD kvs), .sh (tI (p ++ [o])), .sh (.int node)] = some (.sh (.int (mk kvs order n deep k (p ++ [o]) node)), [.sh (co n deep liars order), .sh (kvD kvs), .sh (tI (p ++ [o])), .sh (.int node)])) :
    ∀ (os acc : List Int) (x : Cell), acc.length + os.length ≤ 1000 → ∃ y, forL (tgN 6) (sIf (bAnd (bCmp gNotInC (fVar 6) (fVar 2)) (bCmp gNe (fVar 6) (fVar 3)))
      (sDrop (fMd 5 mAppend (aCons (fFrz (oCall (F_makes k) (cCons (fVar 0) (cCons (fVar 1) (cCons (fTup (aStar (fVar 2) (aCons (fVar 6) aNil))) (cCons (fVar 3) cNil)))))) aNil))) sNil) (os.map .int)
      [.sh (co n deep liars order), .sh (kvD kvs), .sh (tI p), .sh (.int node), .sh (.int own), .ow (acc.map .int), x] =
      some (.nx, [.sh (co n deep liars order), .sh (kvD kvs), .sh (tI p), .sh (.int node), .sh (.int own), .ow ((acc ++ (os.filter fun o => decide (o ∉ p) && decide (o ≠ node)).map fun o => mk kvs order n deep k (p ++ [o]) node).map .int), y])
  | [], acc, x, _ => ⟨x, by simp [forL_nil]⟩
  | o :: os, acc, x, hz => by
    have hs : ((p.map PyData.int) ++ [PyData.int o]).length ≤ sizeLine := by rw [sizeLine_eq]; simp; omega
    have hm : (p.map PyData.int) ++ [PyData.int o] = (p ++ [o]).map PyData.int := by simp
    have hz1 : acc.length < sizeLine := by rw [sizeLine_eq]; simp at hz; omega
    rw [List.map_cons, forL_cons]
    walk_at "ev"
    by_cases h1 : o ∈ p
    · simp only [h1, decide_true, Bool.not_true, Bool.false_eq_true, if_false, not_true_eq_false, decide_false, Bool.false_and, List.filter_cons_of_neg, not_false_eq_true]
      walk_at "ev"
      exact makes_loop n deep liars order kvs k p node own hp h4 ih os acc _ (by simp at hz ⊢; omega)
    · by_cases h2 : o = node
      · simp only [h1, h2, decide_true, Bool.not_true, Bool.false_eq_true, if_false, not_true_eq_false, decide_false, Bool.false_and, Bool.and_false, not_false_eq_true, if_true, ne_eq, Bool.not_false]
        walk_at "ev"
        subst h2
        obtain ⟨y, hy⟩ := makes_loop n deep liars order kvs k p o own hp h4 ih os acc (.sh (.int o)) (by simp at hz ⊢; omega)
        refine ⟨y, ?_⟩
        simp [List.filter_cons, h1] at hy ⊢
        exact hy
      · obtain ⟨y, hy⟩ := makes_loop n deep liars order kvs k p node own hp h4 ih os (acc ++ [mk kvs order n deep k (p ++ [o]) node]) (.sh (.int o)) (by simp at hz ⊢; omega)
        refine ⟨y, ?_⟩
        simp only [h1, h2, decide_true, Bool.not_true, Bool.false_eq_true, if_false, not_true_eq_false, decide_false, Bool.false_and, Bool.and_false, not_false_eq_true, if_true, ne_eq, Bool.not_false]
        walk_at "ev"
        rw [if_pos hs, hm]
        walk_at "ev"
        rw [ih o]
        walk_at "ev"
        simp only [mAppend, List.length_map, hz1, if_true]
        walk_at "ev"
        simp [List.filter_cons, h1, h2] at hy ⊢
        exact hy
theorem makes_ok (n deep : Int) (liars : List Int) (order : Int) (kvs : List (List Int × Int)) (hn : 0 ≤ n) (hn2 : n ≤ 900) (hd : 0 ≤ deep) (hd2 : deep ≤ 3) : ∀ (k : Nat) (p : List Int) (node : Int), p ≠ [] → (p.length : Int) ≤ deep + 1 → deep + 2 ≤ p.length + k →
    F_makes k [.sh (co n deep liars order), .sh (kvD kvs), .sh (tI p), .sh (.int node)] = some (.sh (.int (mk kvs order n deep k p node)), [.sh (co n deep liars order), .sh (kvD kvs), .sh (tI p), .sh (.int node)])
  | 0, p, node, h, h2, h3 => by omega
  | k + 1, p, node, h, h2, h3 => by
    have h5 : p.length ≤ 5 := by omega
    have own := heard_ok n deep liars order kvs 5 p node h h5 (by omega)
    by_cases hl : (p.length : Int) = deep + 1
    · refine (defF_ev (e := [.sh (co n deep liars order), .sh (kvD kvs), .sh (tI p), .sh (.int node), .sh (.int (hear kvs order 5 p node)), .un, .un]) rfl rfl ?_)
      rw [mk_eq, if_pos hl]
      unfold b_makes
      walk_at "ev"
      rw [own]
      walk_at "ev"
      rw [decide_eq_true hl]
      walk_at "ev"
    · obtain ⟨y, hy⟩ := makes_loop n deep liars order kvs k p node (hear kvs order 5 p node) h (by omega) (fun o => makes_ok n deep liars order kvs hn hn2 hd hd2 k (p ++ [o]) node (by simp) (by simp; omega) (by simp; omega)) (upto n) [hear kvs order 5 p node] .un (by simp [upto]; omega)
      refine (defF_ev (e := [.sh (co n deep liars order), .sh (kvD kvs), .sh (tI p), .sh (.int node), .sh (.int (hear kvs order 5 p node)), .sh (.list (([hear kvs order 5 p node] ++ ((upto n).filter fun o => decide (o ∉ p) && decide (o ≠ node)).map fun o => mk kvs order n deep k (p ++ [o]) node).map .int)), y]) rfl rfl ?_)
      rw [mk_eq, if_neg hl]
      unfold b_makes
      walk_at "ev"
      rw [own]
      walk_at "ev"
      rw [decide_eq_false hl]
      have hz : (0 + 1 : Nat) ≤ sizeLine := by rw [sizeLine_eq]; omega
      walk_at "ev"
      simp only [hz, if_true]
      walk_at "ev"
      rw [gRange1_int (by omega) (by omega)]
      walk_at "ev"
      have hy := hy
      simp only [List.map_cons, List.map_nil] at hy
      rw [hy]
      walk_at "ev"
      rw [gMulA_int (by omega) (by omega)]
      walk_at "ev"
      simp only [decide_eq_true_eq, List.length_cons, List.length_map, List.cons_append, List.nil_append]
end K38
namespace K38
open PySem PySem.Spec PyProof.Rows L2 DL
theorem defF_ev' {n m : Nat} {W : List Nat} {b : SF} {cs : List Cell} {r : Cell} {e : DEnv} (h1 : cs.length = n) (h2 : ownOk W cs = true) (hb : b (cs ++ List.replicate m .un) = some (.rt r, e)) : defF n m W b cs = some (r, backs cs e) := by
  unfold defF
  rw [if_pos ⟨h1, h2⟩, hb]
local macro_rules | `(tactic| walk_at "ev") => `(tactic| try simp -implicitDefEqProofs only [bnd_some, bnd_none, out_some, out_none, fVar_c, fC_c, aNil_c, aCons_c, aStar_c, fOp_c, fUn_c, fCmp_c, bCmp_c, bVal_c, bTru_c, bNot_c, bAnd_c, bOr_c, fAnd_c, fOr_c, fNot_c, fIf_c, fTup_c, oLst_c, fFrz_c, oSh_c, cNil_c, cCons_c, cSlot1_c, oCall_c, sSeq_c, sNil_c, sRt_c, sDrop_c, sIf_c, sSet_c, sAsg_c, sFor_c, sParO_c, sExtV_c, sExtO_c, fSl_c, pNone_c, pSome_c, fBlt_c, oList_c, oListRev_c, oSorted_c, oRep_c, fIsT_c, fChain_c, fMd_c, fIt_c, fArgs_c, bYes_c, oLc_c, oLc2_c, fGenB_c, fDictZip_c, fGet2_c, fPk1_c, fPkL_c, fPkR_c, fPkIx_c, bPkL_c, bPkR_c,
  tgN, tgTup, tgCons, tgNil, gIt, gNeg, gTru, g1, DL.g2, gLen, gInt, getCells, putCells, slotsOf, own?, Cell.owned, isDict, List.drop, List.drop_nil,
  List.cons_append, List.nil_append, List.getElem?_cons_succ, List.getElem?_cons_zero, List.replicate, List.set_cons_succ, List.set_cons_zero, List.length_cons, List.length_nil, Option.map_some, reduceIte, Nat.reduceAdd, Nat.reduceLT, List.nodup_nil, if_true, if_false, Bool.false_eq_true, Bool.true_eq_false, Bool.not_true, Bool.not_false, gSl, cutD_init, gIxC_tup, gIxC_lst, gEq_int, gNe_int, gInC_int, gInC_lint, gNotInC_int, gNotInC_lint, gOrd, List.length_map, at0, at1, at2, at3, DL.peek, isSc, gAdd_int, gSub_int, gSum_int])

/-- _law_take -/
theorem take_ok (ds : List Int) (b : Int) (hb : 0 < b) (hz : ds.length ≤ 100000000) : ∃ (r : Int) (ds' : List Int), 0 ≤ r ∧ r < b ∧ ds'.length ≤ ds.length ∧ F__law_take [.ow (ds.map .int), .sh (.int b)] = some (.sh (.int r), [.ow (ds'.map .int), .sh (.int b)]) := by
  cases ds with
  | nil =>
    refine ⟨0, [], by omega, hb, by simp, ?_⟩
    refine (defF_ev' (e := [.ow [], .sh (.int b)]) rfl rfl ?_)
    unfold b__law_take
    walk_at "ev"
    rfl
  | cons x l =>
    have hne : ¬ ((l.length + 1 : Nat) : Int) = 0 := by omega
    obtain ⟨d, hd⟩ : ∃ d, (x :: l)[(x :: l).length - 1]? = some d := ⟨_, List.getElem?_eq_getElem (by simp)⟩
    have hf : d.fmod b = d % b := Int.fmod_eq_emod_of_nonneg d (Int.le_of_lt hb)
    have hb0 : b ≠ 0 := by omega
    refine ⟨d.fmod b, (x :: l).dropLast, by rw [hf]; exact Int.emod_nonneg d hb0, by rw [hf]; exact Int.emod_lt_of_pos d hb, by simp, ?_⟩
    refine (defF_ev' (e := [.ow ((x :: l).dropLast.map .int), .sh (.int b)]) rfl rfl ?_)
    unfold b__law_take
    walk_at "ev"
    rw [decide_eq_false hne]
    walk_at "ev"
    have hp : mPop ((x :: l).map PyData.int) [] = some (.int d, (x :: l).dropLast.map .int) := by
      unfold mPop
      simp only [List.length_map, List.getElem?_map, hd, Option.map_some, List.map_dropLast]
    rw [hp]
    walk_at "ev"
    simp only [gMod, hb0, ne_eq, not_false_eq_true, if_true]
    walk_at "ev"
/-- the draws' inner loop: some ints more -/
theorem draws_in (c0 c2 c3 c6 : Cell) : ∀ (ks : List D) (acc : List Int) (num : Int) (x : Cell), acc.length + ks.length ≤ 1000000 → ∃ (acc' : List Int) (num' : Int) (y : Cell), acc'.length ≤ acc.length + ks.length ∧
    forL (tgN 4) (sIf (bCmp (gOrd (fun i j => decide (j < i))) (fVar 5) (fC (.int 0)))
      (sSeq (sDrop (fMd 1 mAppend (aCons (fOp gMod (fBlt (g1 gInt) (aCons (fVar 5) aNil)) (fC (.int 997))) aNil)))
      (sSet 5 (oSh (fOp gFdiv (fVar 5) (fC (.int 997)))))) sNil) ks [c0, .ow (acc.map .int), c2, c3, x, .sh (.int num), c6] = some (.nx, [c0, .ow (acc'.map .int), c2, c3, y, .sh (.int num'), c6])
  | [], acc, num, x, _ => ⟨acc, num, x, by simp, forL_nil ..⟩
  | k :: ks, acc, num, x, hz => by
    have hz1 : acc.length < sizeLine := by rw [sizeLine_eq]; simp at hz; omega
    rw [forL_cons]
    walk_at "ev"
    by_cases h : 0 < num
    · rw [decide_eq_true h]
      walk_at "ev"
      obtain ⟨acc', num', y, h1, h2⟩ := draws_in c0 c2 c3 c6 ks (acc ++ [num.fmod 997]) (num.fdiv 997) (.sh k) (by simp at hz ⊢; omega)
      refine ⟨acc', num', y, by simp at h1 ⊢; omega, ?_⟩
      have hm : gMod (.int num) (.int 997) = some (.int (num.fmod 997)) := by rfl
      have hf : gFdiv (.int num) (.int 997) = some (.int (num.fdiv 997)) := gFdiv_int (by omega) (by omega)
      rw [hm]
      walk_at "ev"
      simp only [mAppend, List.length_map, hz1, if_true]
      walk_at "ev"
      rw [hf]
      walk_at "ev"
      simpa using h2
    · rw [decide_eq_false h]
      walk_at "ev"
      obtain ⟨acc', num', y, h1, h2⟩ := draws_in c0 c2 c3 c6 ks acc num (.sh k) (by simp at hz ⊢; omega)
      exact ⟨acc', num', y, Nat.le_trans h1 (Nat.add_le_add_left (Nat.le_succ _) _), h2⟩
theorem upto_len (n : Int) : (upto n).length = n.toNat := by simp [upto]
/-- the draws' outer loop -/
theorem draws_out (c0 c3 : Cell) : ∀ (ns acc : List Int) (x2 x4 x5 x6 : Cell), acc.length + 62 * ns.length ≤ 1000000 → ∃ (acc' : List Int) (y2 y4 y5 y6 : Cell), acc'.length ≤ acc.length + 62 * ns.length ∧
    forL (tgN 2) (sSeq (sSet 5 (oSh (fBlt (g1 gAbs) (aCons (fVar 2) aNil))))
      (sSeq (sIf (bCmp (gOrd (fun i j => decide (i < j))) (fVar 5) (fOp gPow (fC (.int 10)) (fC (.int 18))))
      (sSeq (sSet 6 (oSh (fOp gMod (fBlt (g1 gInt) (aCons (fOp gAdd (fOp gMulA (fVar 5) (fC (.int 48271))) (fC (.int 11))) aNil)) (fC (.int 2147483647)))))
      (sSeq (sDrop (fMd 1 mAppend (aCons (fOp gMod (fBlt (g1 gInt) (aCons (fOp gAdd (fOp gMulA (fVar 6) (fC (.int 69621))) (fVar 5)) aNil)) (fC (.int 2147483629))) aNil)))
      (sSeq (sDrop (fMd 1 mAppend (aCons (fOp gMod (fBlt (g1 gInt) (aCons (fOp gAdd (fVar 6) (fOp gFdiv (fVar 5) (fC (.int 7)))) aNil)) (fC (.int 1000003))) aNil)))
      (sSet 5 (oSh (fC (.int 0)))))))
      sNil)
      (sFor (fArgs gRange1 (aCons (fC (.int 60)) aNil)) (tgN 4)
      (sIf (bCmp (gOrd (fun i j => decide (j < i))) (fVar 5) (fC (.int 0)))
      (sSeq (sDrop (fMd 1 mAppend (aCons (fOp gMod (fBlt (g1 gInt) (aCons (fVar 5) aNil)) (fC (.int 997))) aNil)))
      (sSet 5 (oSh (fOp gFdiv (fVar 5) (fC (.int 997))))))
      sNil)))) (ns.map .int) [c0, .ow (acc.map .int), x2, c3, x4, x5, x6] = some (.nx, [c0, .ow (acc'.map .int), y2, c3, y4, y5, y6])
  | [], acc, x2, x4, x5, x6, _ => ⟨acc, x2, x4, x5, x6, by simp, forL_nil ..⟩
  | n :: ns, acc, x2, x4, x5, x6, hz => by
    have hz1 : acc.length < sizeLine := by rw [sizeLine_eq]; simp at hz; omega
    have hz2 : acc.length + 1 < sizeLine := by rw [sizeLine_eq]; simp at hz; omega
    rw [List.map_cons, forL_cons]
    walk_at "ev"
    generalize ha : (if n < 0 then -n else n) = a
    have hab : gAbs (.int n) = some (.int a) := by simp [gAbs, ha]
    rw [hab]
    walk_at "ev"
    have hpw : gPow (.int 10) (.int 18) = some (.int 1000000000000000000) := gPow_int (by omega) (by omega) (by decide)
    rw [hpw]
    walk_at "ev"
    have hr : gRange1 [.int 60] = some ((upto 60).map .int) := gRange1_int (by omega) (by omega)
    by_cases h : a < 1000000000000000000
    · rw [decide_eq_true h]
      walk_at "ev"
      have m1 : gMulA (.int a) (.int 48271) = some (.int (a * 48271)) := gMulA_intR (by omega) (by omega)
      rw [m1]
      walk_at "ev"
      have m2 : ∀ z : Int, gMod (.int z) (.int 2147483647) = some (.int (z.fmod 2147483647)) := fun z => rfl
      rw [m2]
      walk_at "ev"
      generalize (a * 48271 + 11).fmod 2147483647 = f
      have m3 : gMulA (.int f) (.int 69621) = some (.int (f * 69621)) := gMulA_intR (by omega) (by omega)
      rw [m3]
      walk_at "ev"
      have m4 : ∀ z : Int, gMod (.int z) (.int 2147483629) = some (.int (z.fmod 2147483629)) := fun z => rfl
      rw [m4]
      walk_at "ev"
      simp only [mAppend, List.length_map, hz1, if_true]
      walk_at "ev"
      have m5 : gFdiv (.int a) (.int 7) = some (.int (a.fdiv 7)) := gFdiv_int (by omega) (by omega)
      rw [m5]
      walk_at "ev"
      have m6 : ∀ z : Int, gMod (.int z) (.int 1000003) = some (.int (z.fmod 1000003)) := fun z => rfl
      rw [m6]
      walk_at "ev"
      simp only [mAppend, List.length_append, List.length_map, List.length_cons, List.length_nil, Nat.zero_add, hz2, if_true]
      walk_at "ev"
      rw [hr]
      walk_at "ev"
      obtain ⟨acc', num', y, h1, h2⟩ := draws_in c0 (.sh (.int n)) c3 (.sh (.int f)) ((upto 60).map .int) (acc ++ [(f * 69621 + a).fmod 2147483629] ++ [(f + a.fdiv 7).fmod 1000003]) 0 x4 (by simp [upto_len] at hz ⊢; omega)
      simp only [List.map_append, List.map_cons, List.map_nil] at h2
      rw [h2]
      walk_at "ev"
      obtain ⟨acc2, y2, y4, y5, y6, h3, h4⟩ := draws_out c0 c3 ns acc' (.sh (.int n)) y (.sh (.int num')) (.sh (.int f)) (by simp [upto_len] at hz h1 ⊢; omega)
      exact ⟨acc2, y2, y4, y5, y6, by simp [upto_len] at h1 ⊢; omega, h4⟩
    · rw [decide_eq_false h]
      walk_at "ev"
      rw [hr]
      walk_at "ev"
      obtain ⟨acc', num', y, h1, h2⟩ := draws_in c0 (.sh (.int n)) c3 x6 ((upto 60).map .int) acc a x4 (by simp [upto_len] at hz ⊢; omega)
      rw [h2]
      walk_at "ev"
      obtain ⟨acc2, y2, y4, y5, y6, h3, h4⟩ := draws_out c0 c3 ns acc' (.sh (.int n)) y (.sh (.int num')) x6 (by simp [upto_len] at hz h1 ⊢; omega)
      exact ⟨acc2, y2, y4, y5, y6, by simp [upto_len] at h1 ⊢; omega, h4⟩
/-- the seed's loop -/
theorem draws_seed (c0 c2 c5 c6 : Cell) : ∀ (ks : List D) (acc : List Int) (seed : Int) (x4 : Cell), acc.length + ks.length ≤ 1000000 → ∃ (acc' : List Int) (seed' : Int) (y4 : Cell), acc'.length = acc.length + ks.length ∧
    forL (tgN 4) (sSeq (sSet 3 (oSh (fOp gMod (fBlt (g1 gInt) (aCons (fOp gAdd (fOp gMulA (fVar 3) (fC (.int 48271))) (fC (.int 69621))) aNil)) (fC (.int 2147483647)))))
      (sDrop (fMd 1 mAppend (aCons (fOp gFdiv (fVar 3) (fC (.int 5))) aNil)))) ks [c0, .ow (acc.map .int), c2, .sh (.int seed), x4, c5, c6] = some (.nx, [c0, .ow (acc'.map .int), c2, .sh (.int seed'), y4, c5, c6])
  | [], acc, seed, x4, _ => ⟨acc, seed, x4, by simp, forL_nil ..⟩
  | k :: ks, acc, seed, x4, hz => by
    have hz1 : acc.length < sizeLine := by rw [sizeLine_eq]; simp at hz; omega
    rw [forL_cons]
    walk_at "ev"
    have m1 : gMulA (.int seed) (.int 48271) = some (.int (seed * 48271)) := gMulA_intR (by omega) (by omega)
    rw [m1]
    walk_at "ev"
    have m2 : ∀ z : Int, gMod (.int z) (.int 2147483647) = some (.int (z.fmod 2147483647)) := fun z => rfl
    rw [m2]
    walk_at "ev"
    generalize (seed * 48271 + 69621).fmod 2147483647 = f
    have m5 : gFdiv (.int f) (.int 5) = some (.int (f.fdiv 5)) := gFdiv_int (by omega) (by omega)
    rw [m5]
    walk_at "ev"
    simp only [mAppend, List.length_map, hz1, if_true]
    walk_at "ev"
    obtain ⟨acc', seed', y, h1, h2⟩ := draws_seed c0 c2 c5 c6 ks (acc ++ [f.fdiv 5]) f (.sh k) (by simp at hz ⊢; omega)
    exact ⟨acc', seed', y, by simp at h1 ⊢; omega, by simpa using h2⟩
/-- _law_draws -/
theorem draws_ok (ns : List Int) (hn : ns.length ≤ 63) : ∃ ds : List Int, ds.length ≤ 10000 ∧ F__law_draws [.sh (.list (ns.map .int))] = some (.ow (ds.map .int), [.sh (.list (ns.map .int))]) := by
  obtain ⟨a1, y2, y4, y5, y6, h1, h2⟩ := draws_out (.sh (.list (ns.map .int))) .un ns [] .un .un .un .un (by simp; omega)
  obtain ⟨U, hU, hr⟩ : ∃ U : List D, U.length = 900 ∧ gRange1 [.int 900] = some U := ⟨(upto 900).map .int, by rw [List.length_map, upto_len]; rfl, gRange1_int (by omega) (by omega)⟩
  have hz : (0 : Nat) ≤ sizeLine := Nat.zero_le _
  have h1 : a1.length ≤ 62 * 63 := by simp at h1; omega
  have go : ∀ seed : Int, ∃ ds : List Int, ds.length ≤ 10000 ∧ ∃ e, (sSeq (sFor (fArgs gRange1 (aCons (fC (.int 900)) aNil)) (tgN 4)
      (sSeq (sSet 3 (oSh (fOp gMod (fBlt (g1 gInt) (aCons (fOp gAdd (fOp gMulA (fVar 3) (fC (.int 48271))) (fC (.int 69621))) aNil)) (fC (.int 2147483647)))))
      (sDrop (fMd 1 mAppend (aCons (fOp gFdiv (fVar 3) (fC (.int 5))) aNil)))))
      (sRt (oListRev (fVar 1)))) [.sh (.list (ns.map .int)), .ow (a1.map .int), y2, .sh (.int seed), y4, y5, y6] = some (.rt (.ow (ds.map .int)), .sh (.list (ns.map .int)) :: e) := fun seed => by
    obtain ⟨a2, s2, z4, h3, h4⟩ := draws_seed (.sh (.list (ns.map .int))) y2 y5 y6 U a1 seed y4 (by omega)
    refine ⟨a2.reverse, by rw [List.length_reverse]; omega, [.sh (.list (a2.map .int)), y2, .sh (.int s2), z4, y5, y6], ?_⟩
    walk_at "ev"
    rw [hr]
    walk_at "ev"
    rw [h4]
    walk_at "ev"
    rw [List.map_reverse]
  by_cases h0 : (0 : Int) < ((ns.length : Nat) : Int)
  · obtain ⟨x, l, rfl⟩ : ∃ x l, ns = x :: l := by cases ns with | nil => simp at h0 | cons x l => exact ⟨x, l, rfl⟩
    generalize ha : (if x < 0 then -x else x) = a
    have hab : gAbs (.int x) = some (.int a) := by simp [gAbs, ha]
    obtain ⟨ds, hl, e, h5⟩ := go (1 + a)
    refine ⟨ds, hl, ?_⟩
    refine (defF_ev' (e := .sh (.list ((x :: l).map .int)) :: e) rfl rfl ?_)
    unfold b__law_draws
    rw [List.map_cons] at h2 h5 ⊢
    walk_at "ev"
    simp only [hz, if_true]
    walk_at "ev"
    rw [show ([] : List D) = ([] : List Int).map .int from rfl, h2]
    walk_at "ev"
    have h6 : (0 : Int) < ((l.length + 1 : Nat) : Int) := by omega
    rw [decide_eq_true h6]
    walk_at "ev"
    rw [hab]
    walk_at "ev"
    exact h5
  · have e0 : ns = [] := by cases ns with | nil => rfl | cons x l => simp at h0
    subst e0
    obtain ⟨ds, hl, e, h5⟩ := go 1
    refine ⟨ds, hl, ?_⟩
    refine (defF_ev' (e := .sh (.list (([] : List Int).map .int)) :: e) rfl rfl ?_)
    unfold b__law_draws
    rw [List.map_nil] at h2 h5 ⊢
    walk_at "ev"
    simp only [hz, if_true]
    walk_at "ev"
    rw [h2]
    walk_at "ev"
    have h6 : ¬ (0 : Int) < ((0 : Nat) : Int) := by omega
    rw [decide_eq_false h6]
    walk_at "ev"
    exact h5
end K38
namespace K38
open PySem PySem.Spec PyProof.Rows L2 DL
local macro_rules | `(tactic| walk_at "ev") => `(tactic| try simp -implicitDefEqProofs only [bnd_some, bnd_none, out_some, out_none, fVar_c, fC_c, aNil_c, aCons_c, aStar_c, fOp_c, fUn_c, fCmp_c, bCmp_c, bVal_c, bTru_c, bNot_c, bAnd_c, bOr_c, fAnd_c, fOr_c, fNot_c, fIf_c, fTup_c, oLst_c, fFrz_c, oSh_c, cNil_c, cCons_c, cSlot1_c, oCall_c, sSeq_c, sNil_c, sRt_c, sDrop_c, sIf_c, sSet_c, sAsg_c, sFor_c, sParO_c, sExtV_c, sExtO_c, fSl_c, pNone_c, pSome_c, fBlt_c, oList_c, oListRev_c, oSorted_c, oRep_c, fIsT_c, fChain_c, fMd_c, fIt_c, fArgs_c, bYes_c, oLc_c, oLc2_c, fGenB_c, fDictZip_c, fGet2_c, fPk1_c, fPkL_c, fPkR_c, fPkIx_c, bPkL_c, bPkR_c,
  tgN, tgTup, tgCons, tgNil, gIt, gNeg, gTru, g1, DL.g2, gLen, gInt, getCells, putCells, slotsOf, own?, Cell.owned, isDict, List.drop, List.drop_nil,
  List.cons_append, List.nil_append, List.getElem?_cons_succ, List.getElem?_cons_zero, List.replicate, List.set_cons_succ, List.set_cons_zero, List.length_cons, List.length_nil, Option.map_some, reduceIte, Nat.reduceAdd, Nat.reduceLT, List.nodup_nil, if_true, if_false, Bool.false_eq_true, Bool.true_eq_false, Bool.not_true, Bool.not_false, gSl, cutD_init, gIxC_tup, gIxC_lst, gEq_int, gNe_int, gInC_int, gInC_lint, gNotInC_int, gNotInC_lint, gOrd, List.length_map, at0, at1, at2, at3, DL.peek, isSc, gAdd_int, gSub_int, gSum_int, DL.wipeD, DL.restD, DL.ownNo, List.all_cons, List.all_nil, Bool.and_true, Bool.and_self])

abbrev tI' (l : List Int) : D := .tuple (l.map .int)
/-- the paths, one longer -/
def pstep (n : Int) (last : List (List Int)) : List (List Int) := last.flatMap fun p => ((upto n).filter fun o => decide (o ∉ p)).map fun o => p ++ [o]
theorem paths_in (c0 c1 c2 c3 c4 : Cell) (p : List Int) (hp : p.length ≤ 100) : ∀ os : List Int, lcL [6] (tgN 6) (bCmp gNotInC (fVar 6) (fVar 5)) (fTup (aStar (fVar 5) (aCons (fVar 6) aNil))) (os.map .int) [c0, c1, c2, c3, c4, .sh (tI' p), .un] =
    some (((os.filter fun o => decide (o ∉ p)).map fun o => p ++ [o]).map tI', [c0, c1, c2, c3, c4, .sh (tI' p), .un])
  | [] => lcL_nil ..
  | o :: os => by
    have hs : ((p.map PyData.int) ++ [PyData.int o]).length ≤ sizeLine := by rw [sizeLine_eq]; simp; omega
    have hm : (p.map PyData.int) ++ [PyData.int o] = (p ++ [o]).map PyData.int := by simp
    rw [List.map_cons, lcL_cons]
    walk_at "ev"
    by_cases h : o ∈ p
    · rw [decide_eq_true h]
      walk_at "ev"
      rw [paths_in c0 c1 c2 c3 c4 p hp os]
      simp [List.filter_cons, h]
    · rw [decide_eq_false h]
      walk_at "ev"
      rw [if_pos hs, hm]
      walk_at "ev"
      rw [paths_in c0 c1 c2 c3 c4 p hp os]
      walk_at "ev"
      simp [List.filter_cons, h]
theorem paths_out (n : Int) (hn : 0 ≤ n) (hn2 : n ≤ 900) (c1 c2 c3 c4 : Cell) : ∀ last : List (List Int), (∀ p ∈ last, p.length ≤ 100) → lc2L [5, 6] [6] (tgN 5) bYes (fArgs gRange1 (aCons (fVar 0) aNil)) (tgN 6) (bCmp gNotInC (fVar 6) (fVar 5)) (fTup (aStar (fVar 5) (aCons (fVar 6) aNil))) (last.map tI') [.sh (.int n), c1, c2, c3, c4, .un, .un] =
    some ((pstep n last).map tI', [.sh (.int n), c1, c2, c3, c4, .un, .un])
  | [], _ => lc2L_nil ..
  | p :: last, h => by
    rw [List.map_cons, lc2L_cons]
    walk_at "ev"
    rw [gRange1_int (by omega) (by omega)]
    walk_at "ev"
    rw [paths_in _ _ _ _ _ p (h p List.mem_cons_self)]
    walk_at "ev"
    rw [paths_out n hn hn2 c1 c2 c3 c4 last fun q hq => h q (List.mem_cons_of_mem _ hq)]
    walk_at "ev"
    simp [pstep]
theorem pstep_len (n : Int) : ∀ last : List (List Int), (pstep n last).length ≤ last.length * n.toNat
  | [] => by simp [pstep]
  | p :: last => by
    have ih := pstep_len n last
    have h1 : ((upto n).filter fun o => decide (o ∉ p)).length ≤ n.toNat := Nat.le_trans (List.length_filter_le _ _) (by simp [upto])
    simp only [pstep, List.flatMap_cons, List.length_append, List.length_map, List.length_cons] at ih ⊢
    rw [Nat.succ_mul]
    omega
/-- one turn of paths_from -/
theorem paths_turn (n deep : Int) (hn : 0 ≤ n) (hn2 : n ≤ 900) (found last : List (List Int)) (x2 k : Cell) (d : D) (h : ∀ p ∈ last, p.length ≤ 100) (hz : found.length + (pstep n last).length ≤ 1000000) :
    (match tgN 2 d [.sh (.int n), .sh (.int deep), x2, .ow (found.map tI'), .ow (last.map tI'), .un, .un] with
      | none => none
      | some e => (sSeq (sSet 4 (oLc2 [5, 6] [6] (fIt (fVar 4)) (tgN 5) bYes (fArgs gRange1 (aCons (fVar 0) aNil)) (tgN 6) (bCmp gNotInC (fVar 6) (fVar 5)) (fTup (aStar (fVar 5) (aCons (fVar 6) aNil))))) (sExtV 3 4)) e) =
    some (.nx, [.sh (.int n), .sh (.int deep), .sh d, .ow ((found ++ pstep n last).map tI'), .ow ((pstep n last).map tI'), .un, .un]) := by
  walk_at "ev"
  rw [paths_out n hn hn2 _ _ _ _ last h]
  walk_at "ev"
  have hz3 : (pstep n last).length ≤ sizeLine := by rw [sizeLine_eq]; omega
  have hz4 : found.length + (pstep n last).length ≤ sizeLine ∧ 3 ≠ 4 := ⟨by rw [sizeLine_eq]; omega, by omega⟩
  simp only [hz3, if_true]
  walk_at "ev"
  rw [if_pos hz4, ← List.map_append]
  rfl
/-- the paths of a council -/
def paths (n : Int) : Nat → List (List Int)
  | 0 => [[0]]
  | 1 => [[0]] ++ pstep n [[0]]
  | _ => [[0]] ++ pstep n [[0]] ++ pstep n (pstep n [[0]])
theorem pstep_mem {n : Int} {last : List (List Int)} {q : List Int} (h : q ∈ pstep n last) : ∃ p ∈ last, ∃ o, q = p ++ [o] ∧ 0 ≤ o ∧ o < n ∧ o ∉ p := by
  simp only [pstep, List.mem_flatMap, List.mem_map, List.mem_filter, decide_eq_true_eq] at h
  obtain ⟨p, hp, o, ⟨ho, h2⟩, rfl⟩ := h
  simp only [upto, List.mem_map, List.mem_range] at ho
  obtain ⟨i, hi, rfl⟩ := ho
  exact ⟨p, hp, _, rfl, by omega, by omega, h2⟩
end K38
namespace K38
open DL (upto)
/-! ## counting -/
theorem nd_len {α : Type} [DecidableEq α] : ∀ (l m : List α), l.Nodup → (∀ x ∈ l, x ∈ m) → l.length ≤ m.length
  | [], m, _, _ => Nat.zero_le _
  | x :: l, m, h, s => by
    have hx : x ∈ m := s x List.mem_cons_self
    rw [List.nodup_cons] at h
    have := nd_len l (m.erase x) h.2 fun y hy => by
      have hne : y ≠ x := fun e => h.1 (e ▸ hy)
      exact (List.mem_erase_of_ne hne).mpr (s y (List.mem_cons_of_mem _ hy))
    rw [List.length_erase_of_mem hx] at this
    have : 0 < m.length := List.length_pos_of_mem hx
    simp only [List.length_cons]
    omega
theorem upto_nd (n : Int) : (upto n).Nodup := by
  unfold upto
  refine List.Pairwise.map _ ?_ (List.nodup_range)
  intro a b h e
  exact h (by omega)
theorem upto_len' (n : Int) : (upto n).length = n.toNat := by simp [upto]
theorem mem_upto {n o : Int} : o ∈ upto n ↔ 0 ≤ o ∧ o < n := by
  unfold upto
  simp only [List.mem_map, List.mem_range]
  constructor
  · rintro ⟨i, hi, rfl⟩; omega
  · rintro ⟨h1, h2⟩; exact ⟨o.toNat, by omega, by omega⟩
theorem filt_split {α : Type} (f : α → Bool) : ∀ l : List α, l.length = (l.filter f).length + (l.filter fun x => !f x).length
  | [] => rfl
  | x :: l => by
    have ih := filt_split f l
    by_cases h : f x = true
    · simp [h]; omega
    · simp [h]; omega
/-- those left outside are many -/
theorem left_many {l s : List Int} (hl : l.Nodup) : l.length ≤ (l.filter fun o => decide (o ∉ s)).length + s.length := by
  have h := filt_split (fun o => decide (o ∉ s)) l
  have h2 := nd_len (l.filter fun o => !decide (o ∉ s)) s (List.Pairwise.filter _ hl) fun x hx => by
    simpa using (List.mem_filter.mp hx).2
  omega
theorem in_few {l s : List Int} (hl : l.Nodup) : (l.filter fun o => decide (o ∈ s)).length ≤ s.length :=
  nd_len _ _ (List.Pairwise.filter _ hl) fun x hx => by simpa using (List.mem_filter.mp hx).2
theorem sum_le {s : List Int} (f : Int → Int) (hf : ∀ o, f o = 0 ∨ f o = 1) : ∀ l : List Int, (∀ o ∈ l, o ∉ s → f o = 0) → (l.map f).sum ≤ ((l.filter fun o => decide (o ∈ s)).length : Int)
  | [], _ => by simp
  | o :: l, h => by
    have ih := sum_le f hf l fun x hx => h x (List.mem_cons_of_mem _ hx)
    have h0 := hf o
    by_cases e : o ∈ s
    · simp only [List.map_cons, List.sum_cons, List.filter_cons, e, decide_true, if_true, List.length_cons]; omega
    · have := h o List.mem_cons_self e
      simp only [List.map_cons, List.sum_cons, List.filter_cons, e, decide_false, Bool.false_eq_true, if_false]; omega
theorem sum_ge {s : List Int} (f : Int → Int) (hf : ∀ o, f o = 0 ∨ f o = 1) : ∀ l : List Int, (∀ o ∈ l, o ∉ s → f o = 1) → (l.length : Int) ≤ (l.map f).sum + ((l.filter fun o => decide (o ∈ s)).length : Int)
  | [], _ => by simp
  | o :: l, h => by
    have ih := sum_ge f hf l fun x hx => h x (List.mem_cons_of_mem _ hx)
    have h0 := hf o
    by_cases e : o ∈ s
    · simp only [List.map_cons, List.sum_cons, List.filter_cons, e, decide_true, if_true, List.length_cons]; omega
    · have := h o List.mem_cons_self e
      simp only [List.map_cons, List.sum_cons, List.filter_cons, e, decide_false, Bool.false_eq_true, if_false, List.length_cons]; omega
theorem sum_out (g : Int → Int) (i : Int) : ∀ l : List Int, l.Nodup → i ∈ l → (l.map g).sum = g i + ((l.filter fun o => decide (o ≠ i)).map g).sum
  | [], _, h => by simp at h
  | o :: l, hn, h => by
    rw [List.nodup_cons] at hn
    by_cases e : o = i
    · subst e
      have : (l.filter fun x => decide (x ≠ o)) = l := by
        rw [List.filter_eq_self]
        intro x hx
        have : x ≠ o := fun e => hn.1 (e ▸ hx)
        simpa using this
      simp only [List.filter_cons, ne_eq, not_true_eq_false, decide_false, Bool.false_eq_true, if_false, List.map_cons, List.sum_cons] at this ⊢
      rw [this]
    · have hi : i ∈ l := by
        rcases List.mem_cons.mp h with h | h
        · exact absurd h.symm e
        · exact h
      have ih := sum_out g i l hn.2 hi
      simp only [List.filter_cons, ne_eq, e, not_false_eq_true, decide_true, if_true, List.map_cons, List.sum_cons] at ih ⊢
      omega
theorem len_out (i : Int) : ∀ l : List Int, l.Nodup → i ∈ l → l.length = 1 + (l.filter fun o => decide (o ≠ i)).length := by
  intro l hn hi
  have := sum_out (fun _ => 1) i l hn hi
  have h1 : ∀ m : List Int, (m.map fun _ => (1 : Int)).sum = (m.length : Int) := by
    intro m
    induction m with
    | nil => rfl
    | cons x m ih => simp only [List.map_cons, List.sum_cons, ih, List.length_cons]; omega
  rw [h1, h1] at this
  omega
/-! ## hearing -/
section
variable {kvs : List (List Int × Int)} {order n deep : Int} {liars : List Int}
theorem hear_fuel : ∀ (k j : Nat) (p : List Int) (node : Int), p ≠ [] → p.length ≤ k → p.length ≤ j → hear kvs order k p node = hear kvs order j p node
  | 0, _, p, _, h, hk, _ => by cases p <;> simp at h hk
  | _, 0, p, _, h, _, hj => by cases p <;> simp at h hj
  | k + 1, j + 1, p, node, h, hk, hj => by
    unfold hear
    cases told kvs (p ++ [node]) with
    | some v => rfl
    | none =>
      dsimp only
      by_cases hl : p.length = 1
      · rw [if_pos hl, if_pos hl]
      · rw [if_neg hl, if_neg hl]
        have h0 : p.length ≠ 0 := by simpa using h
        have hd : p.dropLast ≠ [] := by
          intro z
          have := congrArg List.length z
          simp at this
          omega
        exact hear_fuel k j p.dropLast _ hd (by simp; omega) (by simp; omega)
/-- what is told is 0 or 1, and only by liars -/
structure Lies (kvs : List (List Int × Int)) (liars : List Int) : Prop where
  bit : ∀ p v, told kvs p = some v → v = 0 ∨ v = 1
  by_liars : ∀ p node v, told kvs (p ++ [node]) = some v → p.getLastD 0 ∈ liars
theorem hear_bit (L : Lies kvs liars) (ho : order = 0 ∨ order = 1) : ∀ (k : Nat) (p : List Int) (node : Int), hear kvs order k p node = 0 ∨ hear kvs order k p node = 1
  | 0, _, _ => ho
  | k + 1, p, node => by
    unfold hear
    cases h : told kvs (p ++ [node]) with
    | some v => exact L.bit _ _ h
    | none =>
      dsimp only
      by_cases hl : p.length = 1
      · rw [if_pos hl]; exact ho
      · rw [if_neg hl]; exact hear_bit L ho k _ _
theorem told_no (L : Lies kvs liars) {p : List Int} {node : Int} (h : p.getLastD 0 ∉ liars) : told kvs (p ++ [node]) = none := by
  cases e : told kvs (p ++ [node]) with
  | none => rfl
  | some v => exact absurd (L.by_liars _ _ _ e) h
theorem hear_one (L : Lies kvs liars) {node : Int} {x : Int} (h : x ∉ liars) : hear kvs order 5 [x] node = order := by
  unfold hear
  rw [told_no L (by simpa using h)]
  rfl
theorem hear_more (L : Lies kvs liars) {p : List Int} {o node : Int} (hp : p ≠ []) (hl : p.length ≤ 4) (h : o ∉ liars) : hear kvs order 5 (p ++ [o]) node = hear kvs order 5 p o := by
  have h1 : hear kvs order 5 (p ++ [o]) node = if (p ++ [o]).length = 1 then order else hear kvs order 4 (p ++ [o]).dropLast ((p ++ [o]).getLastD 0) := by
    conv => lhs; unfold hear
    rw [told_no L (by simpa using h)]
  have h0 : p.length ≠ 0 := by simpa using hp
  rw [h1, if_neg (by simp; omega)]
  simp only [List.dropLast_concat]
  have : (p ++ [o]).getLastD 0 = o := by simp
  rw [this]
  exact hear_fuel 4 5 p o hp hl (by omega)
theorem hear_const (L : Lies kvs liars) {p : List Int} (hp : p ≠ []) (hl : p.length ≤ 5) (h : p.getLastD 0 ∉ liars) (i j : Int) : hear kvs order 5 p i = hear kvs order 5 p j := by
  unfold hear
  rw [told_no L h, told_no L h]
theorem mk_bit (L : Lies kvs liars) (ho : order = 0 ∨ order = 1) : ∀ (k : Nat) (p : List Int) (node : Int), mk kvs order n deep k p node = 0 ∨ mk kvs order n deep k p node = 1
  | 0, _, _ => .inl rfl
  | k + 1, p, node => by
    rw [mk_eq]
    by_cases h : (p.length : Int) = deep + 1
    · rw [if_pos h]; exact hear_bit L ho 5 p node
    · rw [if_neg h]
      split <;> simp
/-- validity -/
theorem valid (L : Lies kvs liars) (ho : order = 0 ∨ order = 1) (hd : deep ≤ 3) (hn : 2 * (liars.length : Int) + deep < n) : ∀ (k : Nat) (p : List Int) (node : Int), p ≠ [] → (∀ x ∈ p, 0 ≤ x ∧ x < n) → (p.length : Int) ≤ deep + 1 → deep + 2 ≤ p.length + k →
    p.getLastD 0 ∉ liars → node ∉ liars → mk kvs order n deep k p node = hear kvs order 5 p node
  | 0, p, node, _, _, h1, h2, _, _ => by omega
  | k + 1, p, node, hp, hr, h1, h2, h3, h4 => by
    rw [mk_eq]
    by_cases h : (p.length : Int) = deep + 1
    · rw [if_pos h]
    rw [if_neg h]
    have hp4 : p.length ≤ 4 := by omega
    let O := (upto n).filter fun o => decide (o ∉ p) && decide (o ≠ node)
    have hO : O.Nodup := List.Pairwise.filter _ (upto_nd n)
    have hb := mk_bit (n := n) (deep := deep) L ho k
    have hv : ∀ o ∈ O, o ∉ liars → mk kvs order n deep k (p ++ [o]) node = hear kvs order 5 p node := by
      intro o ho' hol
      have ho2 := mem_upto.mp (List.mem_filter.mp ho').1
      have e1 := valid L ho hd hn k (p ++ [o]) node (by simp) (by
        intro x hx
        rcases List.mem_append.mp hx with hx | hx
        · exact hr x hx
        · simp at hx; subst hx; exact ho2) (by simp; omega) (by simp; omega) (by simpa using hol) h4
      rw [e1, hear_more L hp hp4 hol]
      exact hear_const L hp (by omega) h3 _ _
    have hc : n ≤ (O.length : Int) + p.length + 1 := by
      have := left_many (s := node :: p) (upto_nd n)
      rw [upto_len'] at this
      have e : ((upto n).filter fun o => decide (o ∉ node :: p)) = O := by
        apply List.filter_congr
        intro x _
        by_cases a : x = node <;> by_cases b : x ∈ p <;> simp [a, b]
      rw [e] at this
      simp only [List.length_cons] at this
      omega
    have hf := in_few (s := liars) hO
    have hpl : (p.length : Int) ≤ deep := by omega
    show (if (((hear kvs order 5 p node :: O.map fun o => mk kvs order n deep k (p ++ [o]) node).length : Nat) : Int) < 2 * (hear kvs order 5 p node :: O.map fun o => mk kvs order n deep k (p ++ [o]) node).sum then (1 : Int) else 0) = _
    simp only [List.length_cons, List.length_map, List.sum_cons]
    rcases hear_bit L ho 5 p node with hz | hz
    · have := sum_le (s := liars) (fun o => mk kvs order n deep k (p ++ [o]) node) (fun o => hb _ _) O (fun o a b => by rw [hv o a b, hz])
      rw [hz, if_neg (by omega)]
    · have := sum_ge (s := liars) (fun o => mk kvs order n deep k (p ++ [o]) node) (fun o => hb _ _) O (fun o a b => by rw [hv o a b, hz])
      rw [hz, if_pos (by omega)]
/-- the answer by one list of others -/
theorem mk_all {k : Nat} {p : List Int} {node : Int} (h : (p.length : Int) ≠ deep + 1) (hi : node ∉ p) (hr : 0 ≤ node ∧ node < n) :
    mk kvs order n deep (k + 1) p node = if ((((upto n).filter fun o => decide (o ∉ p)).length : Nat) : Int) < 2 * (((upto n).filter fun o => decide (o ∉ p)).map fun o => if o = node then hear kvs order 5 p node else mk kvs order n deep k (p ++ [o]) node).sum then 1 else 0 := by
  rw [mk_eq, if_neg h]
  let U := (upto n).filter fun o => decide (o ∉ p)
  have hU : U.Nodup := List.Pairwise.filter _ (upto_nd n)
  have hm : node ∈ U := List.mem_filter.mpr ⟨mem_upto.mpr hr, by simpa using hi⟩
  have e : ((upto n).filter fun o => decide (o ∉ p) && decide (o ≠ node)) = U.filter fun o => decide (o ≠ node) := by
    show _ = List.filter _ (List.filter _ _)
    rw [List.filter_filter]
    apply List.filter_congr
    intro x _
    rw [Bool.and_comm]
  have hs := sum_out (fun o => if o = node then hear kvs order 5 p node else mk kvs order n deep k (p ++ [o]) node) node U hU hm
  have hl := len_out node U hU hm
  rw [if_pos rfl] at hs
  have e2 : ((U.filter fun o => decide (o ≠ node)).map fun o => if o = node then hear kvs order 5 p node else mk kvs order n deep k (p ++ [o]) node) = (U.filter fun o => decide (o ≠ node)).map fun o => mk kvs order n deep k (p ++ [o]) node := by
    apply List.map_congr_left
    intro x hx
    have : x ≠ node := by simpa using (List.mem_filter.mp hx).2
    rw [if_neg this]
  rw [e2] at hs
  rw [e]
  show _ = if ((U.length : Nat) : Int) < 2 * (U.map _).sum then (1 : Int) else 0
  rw [hs, hl]
  simp only [List.length_cons, List.length_map, List.sum_cons]
  have a : (((U.filter fun o => decide (o ≠ node)).length + 1 : Nat) : Int) = ((1 + (U.filter fun o => decide (o ≠ node)).length : Nat) : Int) := by omega
  rw [a]
/-- agreement -/
theorem agree (L : Lies kvs liars) (ho : order = 0 ∨ order = 1) (hd : deep ≤ 3) (hl : (liars.length : Int) ≤ deep) (hn : 2 * (liars.length : Int) + deep < n) : ∀ (k : Nat) (p : List Int) (i j : Int), p ≠ [] → p.Nodup → (∀ x ∈ p, (0 ≤ x ∧ x < n) ∧ x ∈ liars) → deep + 2 ≤ p.length + k →
    i ∉ liars → j ∉ liars → 0 ≤ i ∧ i < n → 0 ≤ j ∧ j < n → mk kvs order n deep k p i = mk kvs order n deep k p j
  | 0, p, _, _, _, hnd, hr, h2, _, _, _, _ => by
    have := nd_len p liars hnd fun x hx => (hr x hx).2
    omega
  | k + 1, p, i, j, hp, hnd, hr, h2, hi, hj, ri, rj => by
    have hpl := nd_len p liars hnd fun x hx => (hr x hx).2
    have hne : (p.length : Int) ≠ deep + 1 := by omega
    have ip : i ∉ p := fun h => hi (hr i h).2
    have jp : j ∉ p := fun h => hj (hr j h).2
    rw [mk_all hne ip ri, mk_all hne jp rj]
    have e : (((upto n).filter fun o => decide (o ∉ p)).map fun o => if o = i then hear kvs order 5 p i else mk kvs order n deep k (p ++ [o]) i) = (((upto n).filter fun o => decide (o ∉ p)).map fun o => if o = j then hear kvs order 5 p j else mk kvs order n deep k (p ++ [o]) j) := by
      apply List.map_congr_left
      intro o hO
      have ro := mem_upto.mp (List.mem_filter.mp hO).1
      have op : o ∉ p := by simpa using (List.mem_filter.mp hO).2
      have hp4 : p.length ≤ 4 := by omega
      have hrr : ∀ x ∈ p ++ [o], 0 ≤ x ∧ x < n := by
        intro x hx
        rcases List.mem_append.mp hx with hx | hx
        · exact (hr x hx).1
        · simp at hx; subst hx; exact ro
      have good : o ∉ liars → ∀ z, z ∉ liars → mk kvs order n deep k (p ++ [o]) z = hear kvs order 5 p o := by
        intro hol z hz
        rw [valid L ho hd hn k (p ++ [o]) z (by simp) hrr (by simp; omega) (by simp; omega) (by simpa using hol) hz, hear_more L hp hp4 hol]
      by_cases a : o = i
      · rw [if_pos a]
        by_cases b : o = j
        · rw [if_pos b, ← a, ← b]
        · rw [if_neg b, good (a ▸ hi) j hj, a]
      · rw [if_neg a]
        by_cases b : o = j
        · rw [if_pos b, good (b ▸ hj) i hi, b]
        · rw [if_neg b]
          by_cases hol : o ∈ liars
          · refine agree L ho hd hl hn k (p ++ [o]) i j (by simp) ?_ ?_ (by simp; omega) hi hj ri rj
            · rw [List.nodup_append]
              refine ⟨hnd, by simp, ?_⟩
              intro a ha b hb e
              simp at hb
              subst hb; subst e
              exact op ha
            · intro x hx
              rcases List.mem_append.mp hx with hx | hx
              · exact hr x hx
              · simp at hx; subst hx; exact ⟨ro, hol⟩
          · rw [good hol i hi, good hol j hj]
    rw [e]
/-- all honest ones decide alike, and for the order, if 0 is honest -/
theorem decide_alike (L : Lies kvs liars) (ho : order = 0 ∨ order = 1) (hd0 : 0 ≤ deep) (hd : deep ≤ 3) (hl : (liars.length : Int) ≤ deep) (hn : 2 * (liars.length : Int) + deep < n) {i j : Int} (hi : i ∉ liars) (hj : j ∉ liars) (ri : 0 ≤ i ∧ i < n) (rj : 0 ≤ j ∧ j < n) : mk kvs order n deep 5 [0] i = mk kvs order n deep 5 [0] j := by
  by_cases h : (0 : Int) ∈ liars
  · exact agree L ho hd hl hn 5 [0] i j (by simp) (by simp) (by intro x hx; simp at hx; subst hx; exact ⟨by omega, h⟩) (by simp; omega) hi hj ri rj
  · have v := fun z hz => valid L ho hd hn 5 [0] z (by simp) (by intro x hx; simp at hx; subst hx; omega) (by simp; omega) (by simp; omega) (by simpa using h) hz
    rw [v i hi, v j hj, hear_one L h, hear_one L h]
theorem decide_order (L : Lies kvs liars) (ho : order = 0 ∨ order = 1) (hd0 : 0 ≤ deep) (hd : deep ≤ 3) (hn : 2 * (liars.length : Int) + deep < n) (h : (0 : Int) ∉ liars) {i : Int} (hi : i ∉ liars) : mk kvs order n deep 5 [0] i = order := by
  rw [valid L ho hd hn 5 [0] i (by simp) (by intro x hx; simp at hx; subst hx; omega) (by simp; omega) (by simp; omega) (by simpa using h) hi, hear_one L h]
/-! ## without depth, and turned -/
theorem flat (node : Int) : mk kvs order n 0 5 [0] node = (told kvs [0, node]).getD order := by
  rw [mk_eq, if_pos (by simp)]
  unfold hear
  show (match told kvs ([0] ++ [node]) with | some v => v | none => _) = _
  cases h : told kvs ([0] ++ [node]) with
  | some v =>
    have : told kvs [0, node] = some v := h
    rw [this]; rfl
  | none =>
    have : told kvs [0, node] = none := h
    rw [this]; rfl
theorem told_flip (kvs : List (List Int × Int)) (p : List Int) : told (kvs.map fun q => (q.1, 1 - q.2)) p = (told kvs p).map (1 - ·) := by
  unfold told
  induction kvs with
  | nil => rfl
  | cons q r ih =>
    by_cases e : q.1 = p
    · simp [e]
    · simp only [List.map_cons, List.find?_cons, e, decide_false]
      exact ih
theorem hear_flip : ∀ (k : Nat) (p : List Int) (node : Int), hear (kvs.map fun q => (q.1, 1 - q.2)) (1 - order) k p node = 1 - hear kvs order k p node
  | 0, _, _ => rfl
  | k + 1, p, node => by
    unfold hear
    rw [told_flip]
    cases told kvs (p ++ [node]) with
    | some v => rfl
    | none =>
      dsimp only [Option.map_none]
      by_cases hl : p.length = 1
      · rw [if_pos hl, if_pos hl]
      · rw [if_neg hl, if_neg hl]; exact hear_flip k _ _
theorem sum_flip (f : Int → Int) : ∀ l : List Int, (l.map fun o => 1 - f o).sum = (l.length : Int) - (l.map f).sum
  | [] => by simp
  | x :: l => by
    have := sum_flip f l
    simp only [List.map_cons, List.sum_cons, List.length_cons, this]
    omega
theorem turned (hn : n % 2 = 0) {node : Int} (h0 : 1 ≤ node) (h1 : node < n) : mk (kvs.map fun q => (q.1, 1 - q.2)) (1 - order) n 1 5 [0] node = 1 - mk kvs order n 1 5 [0] node := by
  have hne : (([0] : List Int).length : Int) ≠ 1 + 1 := by simp
  have h2 : node ∉ [(0 : Int)] := by simp; omega
  rw [mk_all hne h2 ⟨by omega, h1⟩, mk_all hne h2 ⟨by omega, h1⟩]
  have e : (((upto n).filter fun o => decide (o ∉ [(0 : Int)])).map fun o => if o = node then hear (kvs.map fun q => (q.1, 1 - q.2)) (1 - order) 5 [0] node else mk (kvs.map fun q => (q.1, 1 - q.2)) (1 - order) n 1 4 ([0] ++ [o]) node) =
      ((upto n).filter fun o => decide (o ∉ [(0 : Int)])).map fun o => 1 - (if o = node then hear kvs order 5 [0] node else mk kvs order n 1 4 ([0] ++ [o]) node) := by
    apply List.map_congr_left
    intro o _
    by_cases a : o = node
    · rw [if_pos a, if_pos a, hear_flip]
    · rw [if_neg a, if_neg a, mk_eq, mk_eq, if_pos (by simp), if_pos (by simp), hear_flip]
  rw [e, sum_flip]
  have hl : (((upto n).filter fun o => decide (o ∉ [(0 : Int)])).length : Int) = n - 1 := by
    have := len_out 0 (upto n) (upto_nd n) (mem_upto.mpr (by omega))
    rw [upto_len'] at this
    have e : ((upto n).filter fun o => decide (o ∉ [(0 : Int)])) = (upto n).filter fun o => decide (o ≠ 0) := by
      apply List.filter_congr
      intro x _
      simp
    rw [e]
    omega
  rw [hl]
  generalize (((upto n).filter fun o => decide (o ∉ [(0 : Int)])).map fun o => if o = node then hear kvs order 5 [0] node else mk kvs order n 1 4 ([0] ++ [o]) node).sum = s
  split <;> split <;> omega
end
end K38
namespace K38
open PySem PySem.Spec PyProof.Rows L2 DL
theorem isT_int_int (i : Int) : isT "int" (.int i) = true := by rfl
theorem isT_bool_int (i : Int) : isT "bool" (.int i) = false := by rfl
theorem isT_tup_tup (l : List D) : isT "tuple" (.tuple l) = true := by rfl
local macro_rules | `(tactic| walk_at "ev") => `(tactic| try simp -implicitDefEqProofs (disch := first | omega | (simp only [List.length_append, List.length_map, List.length_cons, List.length_nil]; omega)) only [bnd_some, bnd_none, out_some, out_none, fVar_c, fC_c, aNil_c, aCons_c, aStar_c, fOp_c, fUn_c, fCmp_c, bCmp_c, bVal_c, bTru_c, bNot_c, bAnd_c, bOr_c, fAnd_c, fOr_c, fNot_c, fIf_c, fTup_s, oLst_s, szN_ok, mAppend_ok, fFrz_c, oSh_c, cNil_c, cCons_c, cSlot1_c, oCall_c, sSeq_c, sNil_c, sRt_c, sDrop_c, sIf_c, sSet_c, sAsg_c, sFor_c, sParO_c, sExtV_c, sExtO_s, fSl_c, pNone_c, pSome_c, fBlt_c, oList_c, oListRev_c, oSorted_c, oRep_c, fIsT_c, fChain_c, fMd_c, fIt_c, fArgs_c, bYes_c, oLc_s, oLc2_s, fGenB_c, fDictZip_c, fGet2_c, fPk1_c, fPkL_c, fPkR_c, fPkIx_c, bPkL_c, bPkR_c,
  turn, lcT, genT, tgN, tgTup, tgCons, tgNil, gIt, gNeg, gTru, g1, DL.g2, gLen, gInt, getCells, putCells, slotsOf, own?, Cell.owned, isDict, List.drop, List.drop_nil,
  List.cons_append, List.nil_append, List.getElem?_cons_succ, List.getElem?_cons_zero, List.replicate, List.set_cons_succ, List.set_cons_zero, List.length_cons, List.length_nil, Option.map_some, reduceIte, Nat.reduceAdd, Nat.reduceLT, List.nodup_nil, if_true, if_false, Bool.false_eq_true, Bool.true_eq_false, Bool.not_true, Bool.not_false, gSl, cutD_init, gIxC_tup, gIxC_lst, gEq_int, gNe_int, gInC_int, gInC_lint, gNotInC_int, gNotInC_lint, gOrd, List.length_map, at0, at1, at2, at3, DL.peek, isSc, gAdd_int, gSub_int, gSum_int, DL.wipeD, DL.restD, DL.ownNo, List.all_cons, List.all_nil, Bool.and_true, Bool.and_self, Bool.true_and, and_self, and_true, true_and, isT_int_int, isT_bool_int, isT_tup_tup])

theorem number_ok (v lo hi : Int) : F_is_number [.sh (.int v), .sh (.int lo), .sh (.int hi)] = some (.sh (.bool (decide (lo ≤ v) && decide (v ≤ hi))), [.sh (.int v), .sh (.int lo), .sh (.int hi)]) := by
  refine defF_sh rfl rfl (by simp [Cell.owned]) ?_
  unfold b_is_number
  walk_at "ev"
  by_cases h : lo ≤ v
  · rw [decide_eq_true h]
    walk_at "ev"
    exact ⟨_, rfl⟩
  · rw [decide_eq_false h]
    walk_at "ev"
    exact ⟨_, rfl⟩
/-- the paths of so many steps, and of as many at most -/
def lasts (n : Int) : Nat → List (List Int)
  | 0 => [[0]]
  | k + 1 => pstep n (lasts n k)
def pathsTo (n : Int) : Nat → List (List Int)
  | 0 => [[0]]
  | k + 1 => pathsTo n k ++ lasts n (k + 1)
theorem lasts_len1 (n : Int) : ∀ (k : Nat), ∀ p ∈ lasts n k, p.length = k + 1
  | 0, p, h => by simp [lasts] at h; subst h; rfl
  | k + 1, p, h => by
    obtain ⟨q, hq, o, rfl, _⟩ := pstep_mem h
    simp [lasts_len1 n k q hq]
theorem lasts_small {n : Int} (h7 : n ≤ 7) : ∀ k ≤ 2, (lasts n k).length ≤ 49 := by
  have h7 : n.toNat ≤ 7 := by omega
  have l1 : (lasts n 1).length ≤ 7 := by have := pstep_len n [[0]]; simp only [List.length_cons, List.length_nil] at this; simp only [lasts]; omega
  intro k hk
  match k, hk with
  | 0, _ => simp [lasts]
  | 1, _ => omega
  | 2, _ =>
    have h := pstep_len n (lasts n 1)
    have h2 := Nat.mul_le_mul l1 h7
    show (pstep n (lasts n 1)).length ≤ 49
    omega
theorem paths_small {n : Int} (h7 : n ≤ 7) : ∀ k ≤ 2, (pathsTo n k).length ≤ 99
  | 0, _ => by simp [pathsTo]
  | 1, _ => by have := lasts_small h7 1 (by omega); simp only [pathsTo, List.length_append, List.length_cons, List.length_nil, Nat.zero_add]; omega
  | 2, _ => by
    have h1 := lasts_small h7 1 (by omega)
    have h2 := lasts_small h7 2 (by omega)
    simp only [pathsTo, List.length_append, List.length_cons, List.length_nil, Nat.zero_add, Nat.reduceAdd]; omega
theorem paths_from_ok (n : Int) (hn : 0 ≤ n) (hn2 : n ≤ 7) (deep : Nat) (hd : deep ≤ 2) : F_paths_from [.sh (.int n), .sh (.int (deep : Int))] = some (.sh (.list ((pathsTo n deep).map tI')), [.sh (.int n), .sh (.int (deep : Int))]) := by
  refine defF_sh rfl rfl (by simp [Cell.owned]) ?_
  unfold b_paths_from
  walk_at "ev"
  rw [gRange1_int (by omega) (by omega)]
  walk_at "ev"
  generalize hx : forL _ _ _ _ = x
  obtain ⟨e, rfl, x2, rfl⟩ : ∃ e, x = some (.nx, e) ∧ ∃ x2, e = [.sh (.int n), .sh (.int (deep : Int)), x2, .ow ((pathsTo n deep).map tI'), .ow ((lasts n deep).map tI'), .un, .un] := by
    have hl : ((upto (deep : Int)).map PyData.int).length = deep := by simp [upto]
    obtain ⟨e, h1, x2, h2⟩ := forL_inv (t := tgN 2) (b := (sSeq (sSet 4 (oLc2 [5, 6] [6] (fIt (fVar 4)) (tgN 5) bYes (fArgs gRange1 (aCons (fVar 0) aNil)) (tgN 6) (bCmp gNotInC (fVar 6) (fVar 5)) (fTup (aStar (fVar 5) (aCons (fVar 6) aNil))))) (sExtV 3 4))) (ds := (upto (deep : Int)).map PyData.int) (env := [.sh (.int n), .sh (.int (deep : Int)), .un, .ow [.tuple [.int 0]], .ow [.tuple [.int 0]], .un, .un]) (fun k e => k ≤ deep ∧ ∃ x2, e = [.sh (.int n), .sh (.int (deep : Int)), x2, .ow ((pathsTo n k).map tI'), .ow ((lasts n k).map tI'), .un, .un]) ⟨by omega, _, rfl⟩ (fun k d e hk ⟨h1, x2, he⟩ => by
      have hk2 : k < deep := by
        have := (List.getElem?_eq_some_iff.mp hk).1
        omega
      subst he
      refine ⟨_, .inl (paths_turn n (deep : Int) hn (by omega) (pathsTo n k) (lasts n k) x2 .un d (fun p hp => by rw [lasts_len1 n k p hp]; omega) ?_), by omega, _, rfl⟩
      have a := paths_small hn2 k (by omega)
      have b := lasts_small hn2 (k + 1) (by omega)
      show _ + (lasts n (k + 1)).length ≤ _
      omega)
    rw [hl] at h2
    exact ⟨e, hx.symm.trans h1, h2⟩
  walk_at "ev"
  exact ⟨_, rfl⟩
end K38
namespace K38
open PySem PySem.Spec PyProof.Rows L2 DL
local macro_rules | `(tactic| walk_at "ev") => `(tactic| try simp -implicitDefEqProofs (disch := first | omega | (simp only [List.length_append, List.length_map, List.length_cons, List.length_nil]; omega)) only [bnd_some, bnd_none, out_some, out_none, fVar_c, fC_c, aNil_c, aCons_c, aStar_c, fOp_c, fUn_c, fCmp_c, bCmp_c, bVal_c, bTru_c, bNot_c, bAnd_c, bOr_c, fAnd_c, fOr_c, fNot_c, fIf_c, fTup_s, oLst_s, szN_ok, mAppend_ok, fFrz_c, oSh_c, cNil_c, cCons_c, cSlot1_c, oCall_c, sSeq_c, sNil_c, sRt_c, sDrop_c, sIf_c, sSet_c, sAsg_c, sFor_c, sParO_c, sExtV_c, sExtO_s, fSl_c, pNone_c, pSome_c, fBlt_c, oList_c, oListRev_c, oSorted_c, oRep_c, fIsT_c, fChain_c, fMd_c, fIt_c, fArgs_c, bYes_c, oLc_s, oLc2_s, fGenB_c, fDictZip_c, fGet2_c, fPk1_c, fPkL_c, fPkR_c, fPkIx_c, bPkL_c, bPkR_c,
  turn, lcT, genT, tgN, tgTup, tgCons, tgNil, gIt, gNeg, gTru, g1, DL.g2, gLen, gInt, getCells, putCells, slotsOf, own?, Cell.owned, isDict, List.drop, List.drop_nil,
  List.cons_append, List.nil_append, List.getElem?_cons_succ, List.getElem?_cons_zero, List.replicate, List.set_cons_succ, List.set_cons_zero, List.length_cons, List.length_nil, Option.map_some, reduceIte, Nat.reduceAdd, Nat.reduceLT, List.nodup_nil, if_true, if_false, Bool.false_eq_true, Bool.true_eq_false, Bool.not_true, Bool.not_false, gSl, cutD_init, gIxC_tup, gIxC_lst, gEq_int, gNe_int, gInC_int, gInC_lint, gNotInC_int, gNotInC_lint, gOrd, List.length_map, at0, at1, at2, at3, DL.peek, isSc, gAdd_int, gSub_int, gSum_int, in_kv, mAppend_ok, DL.wipeD, DL.restD, DL.ownNo, List.all_cons, List.all_nil, Bool.and_true, Bool.and_self, Bool.true_and, and_self, and_true, true_and, isT_int_int, isT_bool_int, isT_tup_tup])


theorem paths_from_ok' (n deep : Int) (hn : 0 ≤ n) (hn2 : n ≤ 7) (hd0 : 0 ≤ deep) (hd : deep ≤ 2) : F_paths_from [.sh (.int n), .sh (.int deep)] = some (.sh (.list ((pathsTo n deep.toNat).map tI')), [.sh (.int n), .sh (.int deep)]) := by
  have := paths_from_ok n hn hn2 deep.toNat (by omega)
  rw [show ((deep.toNat : Nat) : Int) = deep by omega] at this
  exact this
theorem atI_lastI {p : List Int} (h : p ≠ []) : atI (p.map PyData.int) (-1) = some (.int (p.getLastD 0)) := by
  have hp : p.map PyData.int ≠ [] := by simpa using h
  rw [atI_m1 hp, List.getLast_map, List.getLastD_eq_getLast?, List.getLast?_eq_getLast h]; rfl
theorem path_ne {n : Int} : ∀ {k : Nat} {p : List Int}, p ∈ pathsTo n k → p ≠ [] ∧ p.length ≤ k + 1
  | 0, p, h => by simp [pathsTo] at h; subst h; simp
  | k + 1, p, h => by
    rcases List.mem_append.mp h with h | h
    · have := path_ne h; exact ⟨this.1, by omega⟩
    · have := lasts_len1 n (k + 1) p h
      exact ⟨fun z => by subst z; simp at this, by omega⟩
/-- what liars say, in the order of the paths -/
def raw (n deep : Int) (liars : List Int) : List (List Int) := pstep n ((pathsTo n deep.toNat).filter fun p => decide (p.getLastD 0 ∈ liars))
def unT : D → List Int
  | .tuple ds => (intsD ds).getD []
  | _ => []
theorem unT_tI (p : List Int) : unT (tI' p) = p := by simp [unT, tI', intsD_int]
/-- what liars say, in order -/
def says (n deep : Int) (liars : List Int) : List (List Int) := (((raw n deep liars).map tI').mergeSort (PySem.W.dataLe false id)).map unT
theorem says_eq (n deep : Int) (liars : List Int) : ((raw n deep liars).map tI').mergeSort (PySem.W.dataLe false id) = (says n deep liars).map tI' := by
  unfold says
  rw [List.map_map]
  refine (List.map_id _).symm.trans (List.map_congr_left fun d hd => ?_)
  have hd := (List.mergeSort_perm _ _).mem_iff.mp hd
  obtain ⟨p, _, rfl⟩ := List.mem_map.mp hd
  show tI' p = tI' (unT (tI' p))
  rw [unT_tI]
theorem says_perm (n deep : Int) (liars : List Int) : (says n deep liars).Perm (raw n deep liars) := by
  have := (List.mergeSort_perm ((raw n deep liars).map tI') (PySem.W.dataLe false id)).map unT
  rw [List.map_map] at this
  have e : (raw n deep liars).map (unT ∘ tI') = raw n deep liars := by
    refine Eq.trans (List.map_congr_left fun d hd => ?_) (List.map_id _)
    exact unT_tI d
  rw [e] at this
  exact this
theorem sortOk_tI : ∀ (L : List (List Int)), (∀ p ∈ L, p ≠ []) → sortOk (L.map tI') = true := by
  intro L h
  have al : ∀ a b : List Int, PySem.W.alikeAll (a.map PyData.int) (b.map PyData.int) = true := by
    intro a
    induction a with
    | nil => intro b; cases b <;> simp [PySem.W.alikeAll]
    | cons x a ih => intro b; cases b with
      | nil => simp [PySem.W.alikeAll]
      | cons y b => simp [PySem.W.alikeAll, PySem.W.alike, ih]
  unfold sortOk
  simp only [Bool.and_eq_true, Bool.or_eq_true, List.all_eq_true, List.mem_map]
  refine ⟨⟨?_, .inl ?_⟩, ?_⟩
  · rintro _ ⟨p, _, rfl⟩ _ ⟨q, _, rfl⟩
    simp [PySem.W.alike, al]
  · rintro _ ⟨p, hp, rfl⟩
    cases p with
    | nil => exact absurd rfl (h _ hp)
    | cons x p => rfl
  · rintro _ ⟨p, _, rfl⟩
    exact shD_ok (shD_ints p) (by omega)
theorem pstep_app (n : Int) (a b : List (List Int)) : pstep n (a ++ b) = pstep n a ++ pstep n b := by simp [pstep]
theorem raw_len {n deep : Int} {liars : List Int} (hn2 : n ≤ 7) (hd : deep ≤ 2) : (raw n deep liars).length ≤ 700 := by
  have h1 := pstep_len n ((pathsTo n deep.toNat).filter fun p => decide (p.getLastD 0 ∈ liars))
  have h2 := List.length_filter_le (fun p : List Int => decide (p.getLastD 0 ∈ liars)) (pathsTo n deep.toNat)
  have h3 := paths_small hn2 deep.toNat (by omega)
  have h4 := Nat.mul_le_mul (Nat.le_trans h2 h3) (show n.toNat ≤ 7 by omega)
  unfold raw
  omega
theorem raw_ne {n deep : Int} {liars : List Int} {q : List Int} (h : q ∈ raw n deep liars) : ∃ p ∈ pathsTo n deep.toNat, p.getLastD 0 ∈ liars ∧ ∃ o, q = p ++ [o] ∧ 0 ≤ o ∧ o < n ∧ o ∉ p := by
  obtain ⟨p, hp, o, h1, h2⟩ := pstep_mem h
  rw [List.mem_filter] at hp
  exact ⟨p, hp.1, by simpa using hp.2, o, h1, h2⟩
theorem says_len (n deep : Int) (liars : List Int) : (says n deep liars).length = (raw n deep liars).length := (says_perm n deep liars).length_eq
theorem sayings_ok (n deep : Int) (liars : List Int) (order : Int) (hn : 0 ≤ n) (hn2 : n ≤ 7) (hd0 : 0 ≤ deep) (hd : deep ≤ 2) : F_sayings [.sh (co n deep liars order)] = some (.ow ((says n deep liars).map tI'), [.sh (co n deep liars order)]) := by
  refine defF_sh rfl rfl (by simp [Cell.owned]) ?_
  unfold b_sayings
  walk_at "ev"
  rw [paths_from_ok' n deep hn hn2 hd0 hd]
  walk_at "ev"
  generalize hx : forL _ _ _ _ = x
  obtain ⟨e, rfl, x2, rfl⟩ : ∃ e, x = some (.nx, e) ∧ ∃ x2, e = [.sh (co n deep liars order), .ow ((raw n deep liars).map tI'), x2, .sh (.int n), .sh (.int deep), .sh (tI liars), .sh (.int order), .un] := by
    rw [← hx]
    refine forL_run (fun k e => ∃ x2, e = [.sh (co n deep liars order), .ow ((pstep n (((pathsTo n deep.toNat).take k).filter fun p => decide (p.getLastD 0 ∈ liars))).map tI'), x2, .sh (.int n), .sh (.int deep), .sh (tI liars), .sh (.int order), .un]) ⟨_, rfl⟩ (fun e ⟨x2, h2⟩ => ⟨x2, by rw [h2, List.length_map, List.take_length]; rfl⟩) ?_
    · rintro k d e hk ⟨x2, rfl⟩
      rw [List.getElem?_map, Option.map_eq_some_iff] at hk
      obtain ⟨p, hp, rfl⟩ := hk
      have hpm : p ∈ pathsTo n deep.toNat := List.mem_of_getElem? hp
      have hpn := path_ne hpm
      have tk : (pathsTo n deep.toNat).take (k + 1) = (pathsTo n deep.toNat).take k ++ [p] := by
        rw [List.take_add_one, hp]; rfl
      refine ⟨_, .inl ?_, .sh (tI' p), rfl⟩
      walk_at "ev"
      rw [atI_lastI hpn.1]
      walk_at "ev"
      rw [tk, List.filter_append, pstep_app]
      by_cases hl : p.getLastD 0 ∈ liars
      · rw [decide_eq_true hl]
        walk_at "ev"
        rw [gRange1_int (by omega) (by omega)]
        walk_at "ev"
        rw [lcL_of PyData.int (fun o => decide (o ∉ p)) (fun o => tI' (p ++ [o]))]
        · have hf : (((upto n).filter fun o => decide (o ∉ p)).length) ≤ 7 := Nat.le_trans (List.length_filter_le _ _) (by simp [upto]; omega)
          have ht := Nat.le_trans (pstep_len n (((pathsTo n deep.toNat).take k).filter fun p => decide (p.getLastD 0 ∈ liars))) (Nat.mul_le_mul (Nat.le_trans (List.length_filter_le _ _) (Nat.le_trans (List.length_take_le' _ _) (paths_small hn2 deep.toNat (by omega)))) (show n.toNat ≤ 7 by omega))
          walk_at "ev"
          simp only [List.filter_cons, hl, decide_true, List.filter_nil, pstep, List.flatMap_cons, List.flatMap_nil, List.append_nil, List.map_append, List.map_map, if_true]
          rfl
        · intro o _
          have hm : (p.map PyData.int) ++ [PyData.int o] = (p ++ [o]).map PyData.int := by simp
          walk_at "ev"
          by_cases ho : o ∈ p
          · rw [decide_eq_true ho]
            walk_at "ev"
            simp [ho]
          · rw [decide_eq_false ho]
            walk_at "ev"
            rw [hm]
            simp [ho]
      · rw [decide_eq_false hl]
        walk_at "ev"
        simp only [List.filter_cons, hl, decide_false, List.filter_nil, pstep, List.flatMap_nil, List.append_nil, Bool.false_eq_true, if_false]
  walk_at "ev"
  rw [if_pos (sortOk_tI _ fun p hp => by obtain ⟨q, _, _, o, rfl, _⟩ := raw_ne hp; simp), says_eq]
  walk_at "ev"
  exact ⟨_, rfl⟩
end K38
namespace K38
open PySem PySem.Spec PyProof.Rows L2 DL
local macro_rules | `(tactic| walk_at "ev") => `(tactic| try simp -implicitDefEqProofs (disch := first | omega | (simp only [List.length_append, List.length_map, List.length_cons, List.length_nil]; omega)) only [bnd_some, bnd_none, out_some, out_none, fVar_c, fC_c, aNil_c, aCons_c, aStar_c, fOp_c, fUn_c, fCmp_c, bCmp_c, bVal_c, bTru_c, bNot_c, bAnd_c, bOr_c, fAnd_c, fOr_c, fNot_c, fIf_c, fTup_s, oLst_s, szN_ok, mAppend_ok, fFrz_c, oSh_c, cNil_c, cCons_c, cSlot1_c, oCall_c, sSeq_c, sNil_c, sRt_c, sDrop_c, sIf_c, sSet_c, sAsg_c, sFor_c, sParO_c, sExtV_c, sExtO_s, fSl_c, pNone_c, pSome_c, fBlt_c, oList_c, oListRev_c, oSorted_c, fIsT_c, fChain_c, fMd_c, fIt_c, fArgs_c, bYes_c, oLc_s, oLc2_s, fGenB_c, fDictZip_c, fGet2_c, fPk1_c, fPkL_c, fPkR_c, fPkIx_c, bPkL_c, bPkR_c,
  turn, lcT, genT, tgN, tgTup, tgCons, tgNil, gIt, gNeg, gTru, g1, DL.g2, gLen, gInt, getCells, putCells, slotsOf, own?, Cell.owned, isDict, List.drop, List.drop_nil,
  List.cons_append, List.nil_append, List.getElem?_cons_succ, List.getElem?_cons_zero, List.replicate, List.set_cons_succ, List.set_cons_zero, List.length_cons, List.length_nil, Option.map_some, reduceIte, Nat.reduceAdd, Nat.reduceLT, List.nodup_nil, if_true, if_false, Bool.false_eq_true, Bool.true_eq_false, Bool.not_true, Bool.not_false, gSl, cutD_init, gIxC_tup, gIxC_lst, gEq_int, gNe_int, gInC_int, gInC_lint, gNotInC_int, gNotInC_lint, gOrd, List.length_map, at0, at1, at2, at3, DL.peek, isSc, gAdd_int, gSub_int, gSum_int, gMin1_int, gMax1_int, gTuple, gIsN, gNotN, gIsB, gNotB, isNone, isT_int_int, isT_bool_int, isT_tup_tup, isT_tup_lst, isT_lst_tup, isT_lst_lst, isT_bool_bool, isT_tup_bool, isT_lst_bool, isT_tup_int, isT_lst_int, isT_tup_non, isT_lst_non, isT_int_bool, isT_bool_non, DL.wipeD, DL.restD, DL.ownNo, List.all_cons, List.all_nil, Bool.and_true, Bool.and_self, Bool.true_and, and_self, and_true, true_and, decide_true, decide_false, Option.getD_some, oRep_s, repF_0, repF_1, Int.cast_ofNat_Int, Int.natCast_zero, Int.natCast_one, Int.reduceEq, Int.reduceLT, Int.reduceLE, Int.reduceSub, Int.reduceAdd, Int.reduceNe, nd1, sRaise_c, oCallX_c, oInl_c, oOk_c, oIfX_c, sRtX_c, sDropX_c, sSetX_c, sTryW_c, errW_range, errW_form, errW_none, errW_refused, errW_much])
theorem pstep_cons (n : Int) (p : List Int) (L : List (List Int)) : pstep n (p :: L) = (((upto n).filter fun o => decide (o ∉ p)).map fun o => p ++ [o]) ++ pstep n L := by simp [pstep]
theorem pstep_nd (n : Int) : ∀ {L : List (List Int)}, L.Nodup → (pstep n L).Nodup
  | [], _ => by simp [pstep]
  | p :: L, h => by
    rw [List.nodup_cons] at h
    rw [pstep_cons, List.nodup_append]
    refine ⟨?_, pstep_nd n h.2, ?_⟩
    · refine List.Pairwise.map _ ?_ (List.Pairwise.filter _ (upto_nd n))
      intro a b hab e
      exact hab (by simpa using e)
    · intro a ha b hb e
      subst e
      obtain ⟨o, _, rfl⟩ := List.mem_map.mp ha
      obtain ⟨q, hq, o', e, _⟩ := pstep_mem hb
      have := List.append_inj' e rfl
      exact h.1 (this.1 ▸ hq)
theorem lasts_nd (n : Int) : ∀ k, (lasts n k).Nodup
  | 0 => by simp [lasts]
  | k + 1 => pstep_nd n (lasts_nd n k)
theorem paths_nd (n : Int) : ∀ k, (pathsTo n k).Nodup
  | 0 => by simp [pathsTo]
  | k + 1 => by
    simp only [pathsTo]
    rw [List.nodup_append]
    refine ⟨paths_nd n k, lasts_nd n (k + 1), ?_⟩
    intro a ha b hb e
    subst e
    have h1 := (path_ne ha).2
    have h2 := lasts_len1 n (k + 1) a hb
    omega
theorem raw_nd (n deep : Int) (liars : List Int) : (raw n deep liars).Nodup := pstep_nd n (List.Pairwise.filter _ (paths_nd n _))
theorem says_nd (n deep : Int) (liars : List Int) : (says n deep liars).Nodup := (says_perm n deep liars).nodup_iff.mpr (raw_nd n deep liars)
theorem says_mem {n deep : Int} {liars : List Int} {q : List Int} : q ∈ says n deep liars ↔ q ∈ raw n deep liars := (says_perm n deep liars).mem_iff
/-- what is said, with what is told -/
abbrev kv (n deep : Int) (liars lies : List Int) : List (List Int × Int) := (says n deep liars).zip lies
theorem kv_lies {n deep : Int} {liars lies : List Int} (h : ∀ v ∈ lies, v = 0 ∨ v = 1) : Lies (kv n deep liars lies) liars := by
  have mem : ∀ p v, told (kv n deep liars lies) p = some v → (p, v) ∈ kv n deep liars lies := by
    intro p v h
    unfold told at h
    rw [Option.map_eq_some_iff] at h
    obtain ⟨q, hq, rfl⟩ := h
    have h1 := List.mem_of_find?_eq_some hq
    have h2 := List.find?_some hq
    simp at h2
    subst h2
    exact h1
  refine ⟨fun p v hv => h v (List.of_mem_zip (mem p v hv)).2, fun p node v hv => ?_⟩
  have := (List.of_mem_zip (mem _ v hv)).1
  obtain ⟨q, _, hl, o, e, _⟩ := raw_ne (says_mem.mp this)
  have := List.append_inj' e rfl
  rw [this.1]; exact hl
theorem zip_fst {α β : Type} : ∀ {a : List α} {b : List β}, a.length = b.length → (a.zip b).map (·.1) = a
  | [], _, _ => by simp
  | x :: a, [], h => by simp at h
  | x :: a, y :: b, h => by simp [zip_fst (a := a) (b := b) (by simpa using h)]
theorem intsK_tI : ∀ L : List (List Int), intsK (L.map tI') = some L
  | [] => rfl
  | p :: L => by
    have h := intsK_tI L
    rw [List.map_cons]
    show (match intsD (p.map PyData.int), intsK (L.map tI') with | some a, some b => some (a :: b) | _, _ => none) = _
    rw [h, intsD_int]
theorem zip_ok (n deep : Int) (liars lies : List Int) (hl : lies.length = (says n deep liars).length) (h7 : n ≤ 7) (hd : deep ≤ 2) : gDictZip (.list ((says n deep liars).map tI')) (tI lies) = some (kvD (kv n deep liars lies)) := by
  have h1 : (((says n deep liars).zip (lies.map PyData.int)).map (·.1)).Nodup := by
    rw [zip_fst (by simp [hl])]; exact says_nd n deep liars
  have h2 : ((says n deep liars).map tI').length ≤ sizeLine := by
    have := raw_len (liars := liars) h7 hd
    rw [List.length_map, says_len, sizeLine_eq]; omega
  simp only [gDictZip, intsK_tI]
  rw [if_pos ⟨h1, h2⟩]
  simp only [zipKv, kvD, kv, List.zip_map_right, List.map_map]
  rfl
/-- a council -/
structure Co (n deep : Int) (liars : List Int) (order : Int) : Prop where
  n2 : 2 ≤ n
  n7 : n ≤ 7
  d0 : 0 ≤ deep
  d2 : deep ≤ 2
  ord : order = 0 ∨ order = 1
variable {n deep order : Int} {liars lies : List Int}
theorem lies_by_ok (C : Co n deep liars order) (hl : lies.length = (says n deep liars).length) : F_lies_by_saying [.sh (co n deep liars order), .sh (tI lies)] = some (.sh (kvD (kv n deep liars lies)), [.sh (co n deep liars order), .sh (tI lies)]) := by
  refine defF_sh rfl rfl (by simp [Cell.owned]) ?_
  unfold b_lies_by_saying
  walk_at "ev"
  rw [sayings_ok n deep liars order (by have := C.n2; omega) C.n7 C.d0 C.d2]
  walk_at "ev"
  rw [zip_ok n deep liars lies hl C.n7 C.d2]
  walk_at "ev"
  exact ⟨_, rfl⟩
/-- who decides for what -/
abbrev decf (n deep : Int) (liars : List Int) (order : Int) (lies : List Int) : Int → Int := fun node => mk (kv n deep liars lies) order n deep 5 [0] node
def decs (n deep : Int) (liars : List Int) (order : Int) (lies : List Int) : List Int := (ranL 1 n).map (decf n deep liars order lies)
theorem decisions_ok (C : Co n deep liars order) (hl : lies.length = (says n deep liars).length) : F_decisions [.sh (co n deep liars order), .sh (tI lies)] = some (.sh (tI (decs n deep liars order lies)), [.sh (co n deep liars order), .sh (tI lies)]) := by
  obtain ⟨h1, h2, h3, h4, h5⟩ := C
  refine defF_sh rfl rfl (by simp [Cell.owned]) ?_
  unfold b_decisions
  walk_at "ev"
  rw [lies_by_ok ⟨h1, h2, h3, h4, h5⟩ hl]
  walk_at "ev"
  rw [gRange2_int (by omega) (by omega) (by omega) (by omega)]
  walk_at "ev"
  have hm := makes_ok n deep liars order (kv n deep liars lies) (by omega) (by omega) h3 (by omega) 5 [0]
  rw [lcL_of PyData.int (fun _ => true) (fun o => .int (decf n deep liars order lies o))]
  · have : (ranL 1 n).length ≤ 1000 := by simp [ranL]; omega
    walk_at "ev"
    have : ((ranL 1 n).filter fun _ => true).length ≤ 1000 := Nat.le_trans (List.length_filter_le _ _) this
    walk_at "ev"
    rw [List.filter_eq_self.mpr (fun _ _ => rfl), show ((ranL 1 n).map fun o => PyData.int (decf n deep liars order lies o)) = (decs n deep liars order lies).map .int by simp [decs]]
    exact ⟨_, rfl⟩
  · intro o _
    walk_at "ev"
    have := hm o (by simp) (by simp; omega) (by simp; omega)
    simp only [List.map_cons, List.map_nil, tI] at this
    rw [this]
    walk_at "ev"
/-- whether votes part -/
def partB (l : List Int) : Bool := match minI l, maxI l with
  | some a, some b => !decide (a = b)
  | _, _ => false
theorem partB_same {l : List Int} (h : ∀ x ∈ l, ∀ y ∈ l, x = y) : partB l = false := by
  cases l with
  | nil => rfl
  | cons x r =>
    simp only [partB, minI, maxI]
    have := h _ (minI_spec r x).1 _ (maxI_spec r x).1
    rw [this]; simp
/-- the votes that count -/
def votes (n : Int) (liars : List Int) (order : Int) (f : Int → Int) : List Int := ((ranL 1 n).filter fun o => decide (o ∉ liars)).map f ++ (if (0 : Int) ∈ liars then [] else [order])
theorem mem_fromTo {a b o : Int} : o ∈ ranL a b ↔ a ≤ o ∧ o < b := by
  unfold ranL
  simp only [List.mem_map, List.mem_range]
  constructor
  · rintro ⟨i, hi, rfl⟩; omega
  · rintro ⟨h1, h2⟩; exact ⟨(o - a).toNat, by omega, by omega⟩
theorem at_found {n o : Int} (f : Int → Int) (h : o ∈ ranL 1 n) : atI (((ranL 1 n).map f).map PyData.int) (o - 1) = some (.int (f o)) := by
  have h := mem_fromTo.mp h
  have e : (o - 1) = ((o - 1).toNat : Int) := by omega
  rw [e]
  apply atI_nat
  rw [List.getElem?_map, List.getElem?_map]
  have : (ranL 1 n)[(o - 1).toNat]? = some o := by
    unfold ranL
    rw [List.getElem?_map, List.getElem?_range (by omega)]
    simp; omega
  rw [this]; rfl
theorem fromTo_len (a b : Int) : (ranL a b).length = (b - a).toNat := by simp [ranL]
theorem do_part_ok (C : Co n deep liars order) (hl : lies.length = (says n deep liars).length) : F_do_part [.sh (co n deep liars order), .sh (tI lies)] = some (.sh (.bool (partB (votes n liars order (decf n deep liars order lies)))), [.sh (co n deep liars order), .sh (tI lies)]) := by
  obtain ⟨h1, h2, h3, h4, h5⟩ := C
  refine defF_sh rfl rfl (by simp [Cell.owned]) ?_
  unfold b_do_part
  walk_at "ev"
  rw [decisions_ok ⟨h1, h2, h3, h4, h5⟩ hl]
  walk_at "ev"
  rw [gRange2_int (by omega) (by omega) (by omega) (by omega)]
  walk_at "ev"
  rw [lcL_of PyData.int (fun o => decide (o ∉ liars)) (fun o => .int (decf n deep liars order lies o))]
  · have hz : ((ranL 1 n).filter fun o => decide (o ∉ liars)).length ≤ 1000 := Nat.le_trans (List.length_filter_le _ _) (by rw [fromTo_len]; omega)
    walk_at "ev"
    have hv : ((ranL 1 n).filter fun o => decide (o ∉ liars)).map (fun o => PyData.int (decf n deep liars order lies o)) = (((ranL 1 n).filter fun o => decide (o ∉ liars)).map (decf n deep liars order lies)).map .int := by simp
    have fin : ∀ l : List Int, ∃ e, (sRt (oSh (fAnd (fCmp (gOrd (fun i j => decide (j < i))) (fPk1 3 (g1 gLen)) (fC (.int 0))) (fCmp gNe (fBlt (g1 gMin1) (aCons (fVar 3) aNil)) (fBlt (g1 gMax1) (aCons (fVar 3) aNil)))))) [.sh (co n deep liars order), .sh (tI lies), .sh (tI (decs n deep liars order lies)), .ow (l.map .int), .sh (.int n), .sh (.int deep), .sh (tI liars), .sh (.int order), .un] = some (.rt (.sh (.bool (partB l))), e) := by
      intro l
      walk_at "ev"
      cases l with
      | nil => simp [partB, minI]
      | cons x r =>
        have : (0 : Int) < ((x :: r).length : Nat) := by simp
        rw [decide_eq_true this]
        walk_at "ev"
        simp only [minI, maxI, Option.map_some]
        walk_at "ev"
        exact ⟨_, rfl⟩
    by_cases h0 : (0 : Int) ∈ liars
    · rw [decide_eq_true h0]
      walk_at "ev"
      rw [hv]
      have := fin (votes n liars order (decf n deep liars order lies))
      revert this
      simp only [votes, h0, if_true, List.append_nil]
      walk_at "ev"
      exact id
    · rw [decide_eq_false h0]
      walk_at "ev"
      rw [hv]
      have := fin (votes n liars order (decf n deep liars order lies))
      revert this
      simp only [votes, h0, if_false, List.map_append, List.map_cons, List.map_nil]
      walk_at "ev"
      exact id
  · intro o ho
    walk_at "ev"
    by_cases h : o ∈ liars
    · rw [decide_eq_true h]
      walk_at "ev"
      simp [h]
    · rw [decide_eq_false h]
      walk_at "ev"
      simp only [decs]
      rw [at_found _ ho]
      walk_at "ev"
      simp [h]

end K38
namespace K38
open PySem PySem.Spec PyProof.Rows L2 DL
local macro_rules | `(tactic| walk_at "ev") => `(tactic| try simp -implicitDefEqProofs (disch := first | omega | (simp only [List.length_append, List.length_map, List.length_cons, List.length_nil]; omega)) only [bnd_some, bnd_none, out_some, out_none, fVar_c, fC_c, aNil_c, aCons_c, aStar_c, fOp_c, fUn_c, fCmp_c, bCmp_c, bVal_c, bTru_c, bNot_c, bAnd_c, bOr_c, fAnd_c, fOr_c, fNot_c, fIf_c, fTup_s, oLst_s, szN_ok, mAppend_ok, fFrz_c, oSh_c, cNil_c, cCons_c, cSlot1_c, oCall_c, sSeq_c, sNil_c, sRt_c, sDrop_c, sIf_c, sSet_c, sAsg_c, sFor_c, sParO_c, sExtV_c, sExtO_s, fSl_c, pNone_c, pSome_c, fBlt_c, oList_c, oListRev_c, oSorted_c, fIsT_c, fChain_c, fMd_c, fIt_c, fArgs_c, bYes_c, oLc_s, oLc2_s, fGenB_c, fDictZip_c, fGet2_c, fPk1_c, fPkL_c, fPkR_c, fPkIx_c, bPkL_c, bPkR_c,
  turn, lcT, genT, tgN, tgTup, tgCons, tgNil, gIt, gNeg, gTru, g1, DL.g2, gLen, gInt, getCells, putCells, slotsOf, own?, Cell.owned, isDict, List.drop, List.drop_nil,
  List.cons_append, List.nil_append, List.getElem?_cons_succ, List.getElem?_cons_zero, List.replicate, List.set_cons_succ, List.set_cons_zero, List.length_cons, List.length_nil, Option.map_some, reduceIte, Nat.reduceAdd, Nat.reduceLT, List.nodup_nil, if_true, if_false, Bool.false_eq_true, Bool.true_eq_false, Bool.not_true, Bool.not_false, gSl, cutD_init, gIxC_tup, gIxC_lst, gEq_int, gNe_int, gInC_int, gInC_lint, gNotInC_int, gNotInC_lint, gOrd, List.length_map, at0, at1, at2, at3, DL.peek, isSc, gAdd_int, gSub_int, gSum_int, gMin1_int, gMax1_int, gTuple, gIsN, gNotN, gIsB, gNotB, isNone, isT_int_int, isT_bool_int, isT_tup_tup, isT_tup_lst, isT_lst_tup, isT_lst_lst, isT_bool_bool, isT_tup_bool, isT_lst_bool, isT_tup_int, isT_lst_int, isT_tup_non, isT_lst_non, isT_int_bool, isT_bool_non, DL.wipeD, DL.restD, DL.ownNo, List.all_cons, List.all_nil, Bool.and_true, Bool.and_self, Bool.true_and, and_self, and_true, true_and, decide_true, decide_false, Option.getD_some, oRep_s, repF_0, repF_1, Int.cast_ofNat_Int, Int.natCast_zero, Int.natCast_one, Int.reduceEq, Int.reduceLT, Int.reduceLE, Int.reduceSub, Int.reduceAdd, Int.reduceNe, nd1, sRaise_c, oCallX_c, oInl_c, oOk_c, oIfX_c, sRtX_c, sDropX_c, sSetX_c, sTryW_c, errW_range, errW_form, errW_none, errW_refused, errW_much])
variable {n deep order : Int} {liars lies : List Int}
/-- rows of bits -/
def rowsN : Nat → List (List Int)
  | 0 => [[]]
  | k + 1 => (rowsN k).flatMap fun r => [r ++ [0], r ++ [1]]
theorem rowsN_len : ∀ k, (rowsN k).length = 2 ^ k
  | 0 => rfl
  | k + 1 => by
    have : ∀ l : List (List Int), (l.flatMap fun r => [r ++ [0], r ++ [1]]).length = 2 * l.length := by
      intro l
      induction l with
      | nil => rfl
      | cons x l ih => simp only [List.flatMap_cons, List.length_append, ih, List.length_cons, List.length_nil]; omega
    rw [rowsN, this, rowsN_len k]; omega
theorem mem_rowsN : ∀ {k : Nat} {r : List Int}, r ∈ rowsN k ↔ r.length = k ∧ ∀ v ∈ r, v = 0 ∨ v = 1
  | 0, r => by
    simp only [rowsN, List.mem_singleton]
    constructor
    · rintro rfl; simp
    · rintro ⟨h, _⟩; exact List.eq_nil_of_length_eq_zero h
  | k + 1, r => by
    simp only [rowsN, List.mem_flatMap, List.mem_cons, List.not_mem_nil, or_false]
    constructor
    · rintro ⟨q, hq, h⟩
      obtain ⟨h1, h2⟩ := mem_rowsN.mp hq
      rcases h with rfl | rfl
      · refine ⟨by simp [h1], fun v hv => ?_⟩
        rcases List.mem_append.mp hv with hv | hv
        · exact h2 v hv
        · simp at hv; exact .inl hv
      · refine ⟨by simp [h1], fun v hv => ?_⟩
        rcases List.mem_append.mp hv with hv | hv
        · exact h2 v hv
        · simp at hv; exact .inr hv
    · rintro ⟨h1, h2⟩
      have hne : r ≠ [] := fun z => by subst z; simp at h1
      have e := List.dropLast_concat_getLast hne
      refine ⟨r.dropLast, mem_rowsN.mpr ⟨by simp; omega, fun v hv => h2 v (List.dropLast_subset _ hv)⟩, ?_⟩
      rcases h2 _ (List.getLast_mem hne) with h | h
      · rw [h] at e; exact .inl e.symm
      · rw [h] at e; exact .inr e.symm
theorem rows_out (c0 c1 c2 c3 : Cell) : ∀ rs : List (List Int), (∀ r ∈ rs, r.length ≤ 100) → lc2L [4, 5] [5] (tgN 4) bYes (fIt (fTup (aCons (fC (.int 0)) (aCons (fC (.int 1)) aNil)))) (tgN 5) bYes (fTup (aStar (fVar 4) (aCons (fVar 5) aNil))) (rs.map tI') [c0, c1, c2, c3, .un, .un] =
    some ((rs.flatMap fun r => [r ++ [0], r ++ [1]]).map tI', [c0, c1, c2, c3, .un, .un])
  | [], _ => lc2L_nil ..
  | r :: rs, h => by
    have hr := h r List.mem_cons_self
    have hm : ∀ o : Int, (r.map PyData.int) ++ [PyData.int o] = (r ++ [o]).map PyData.int := by simp
    rw [List.map_cons, lc2L_cons]
    walk_at "ev"
    rw [lcL_turn]
    walk_at "ev"
    rw [lcL_turn]
    walk_at "ev"
    rw [lcL_nil]
    walk_at "ev"
    rw [rows_out c0 c1 c2 c3 rs fun q hq => h q (List.mem_cons_of_mem _ hq)]
    walk_at "ev"
    rw [hm, hm]
    simp
/-- lies that part -/
def liesP (n deep : Int) (liars : List Int) (order : Int) (lies : List Int) : Bool := partB (votes n liars order (decf n deep liars order lies))
theorem lies_for_ok (C : Co n deep liars order) (hm : (says n deep liars).length ≤ 12) : F_lies_for [.sh (co n deep liars order)] = some (.inl (.sh (match (rowsN (says n deep liars).length).find? (liesP n deep liars order) with | some r => tI r | none => .none)), [.sh (co n deep liars order)]) := by
  obtain ⟨h1, h2, h3, h4, h5⟩ := C
  refine defX_sh rfl rfl (by simp [Cell.owned]) ?_
  unfold b_lies_for
  walk_at "ev"
  rw [sayings_ok n deep liars order (by omega) h2 h3 h4]
  walk_at "ev"
  generalize hg : (says n deep liars).length = m at hm ⊢
  have hn : ¬ (12 : Int) < (m : Int) := by omega
  rw [decide_eq_false hn]
  walk_at "ev"
  rw [gRange1_int (by omega) (by omega)]
  walk_at "ev"
  generalize hx : forL _ _ _ _ = x
  obtain ⟨e, rfl, x3, rfl⟩ : ∃ e, x = some (.nx, e) ∧ ∃ x3, e = [.sh (co n deep liars order), .sh (.int m), .ow ((rowsN m).map tI'), x3, .un, .un] := by
    rw [← hx]
    refine forL_run (fun k e => ∃ x3, e = [.sh (co n deep liars order), .sh (.int m), .ow ((rowsN k).map tI'), x3, .un, .un]) ⟨_, rfl⟩ (fun e ⟨x3, h⟩ => ⟨x3, by rw [h, List.length_map]; simp [upto]⟩) ?_
    rintro k d e hk ⟨x3, rfl⟩
    have hk : k < m := by
      have := (List.getElem?_eq_some_iff.mp hk).1
      simp [upto] at this
      exact this
    refine ⟨_, .inl ?_, .sh d, rfl⟩
    walk_at "ev"
    rw [rows_out _ _ _ _ _ fun r hr => by have := (mem_rowsN.mp hr).1; omega]
    have hz : ((rowsN k).flatMap fun r => [r ++ [0], r ++ [1]]).length ≤ 10000 := by
      show (rowsN (k + 1)).length ≤ 10000
      rw [rowsN_len]
      exact Nat.le_trans (Nat.pow_le_pow_right (by omega) (show k + 1 ≤ 12 by omega)) (by decide)
    walk_at "ev"
    rfl
  walk_at "ev"
  have key := forL_first (t := tgN 4) (b := (sIf (bTru (fFrz (oCall F_do_part (cCons (fVar 0) (cCons (fVar 4) cNil))))) (sRt (oSh (fVar 4))) sNil)) tI' (liesP n deep liars order) (fun r => .sh (tI r)) (fun e => ∃ x4, e = [.sh (co n deep liars order), .sh (.int m), .sh (.list ((rowsN m).map tI')), x3, x4, .un]) (rowsN m) [.sh (co n deep liars order), .sh (.int m), .sh (.list ((rowsN m).map tI')), x3, .un, .un] (by
    rintro r hr e ⟨x4, rfl⟩
    have hd := do_part_ok (lies := r) ⟨h1, h2, h3, h4, h5⟩ (by rw [hg]; exact (mem_rowsN.mp hr).1)
    constructor
    · intro hp
      have hp' : partB (votes n liars order (decf n deep liars order r)) = true := hp
      rw [hp'] at hd
      refine ⟨[.sh (co n deep liars order), .sh (.int m), .sh (.list ((rowsN m).map tI')), x3, .sh (tI' r), .un], ?_⟩
      walk_at "ev"
      rw [hd]
      walk_at "ev"
    · intro hp
      have hp' : partB (votes n liars order (decf n deep liars order r)) = false := hp
      rw [hp'] at hd
      refine ⟨[.sh (co n deep liars order), .sh (.int m), .sh (.list ((rowsN m).map tI')), x3, .sh (tI' r), .un], ?_, .sh (tI' r), rfl⟩
      walk_at "ev"
      rw [hd]
      walk_at "ev") ⟨_, rfl⟩
  revert key
  cases (rowsN m).find? (liesP n deep liars order) with
  | some r =>
    rintro ⟨e, he⟩
    rw [he]
    exact ⟨_, rfl⟩
  | none =>
    rintro ⟨e, he, x4, rfl⟩
    rw [he]
    walk_at "ev"
    exact ⟨_, rfl⟩


theorem lies_for_much (C : Co n deep liars order) (hm : 12 < (says n deep liars).length) : F_lies_for [.sh (co n deep liars order)] = some (.inr "TooMuch", [.sh (co n deep liars order)]) := by
  obtain ⟨h1, h2, h3, h4, h5⟩ := C
  refine defX_ex rfl rfl (by simp [Cell.owned]) ?_
  unfold b_lies_for
  walk_at "ev"
  rw [sayings_ok n deep liars order (by omega) h2 h3 h4]
  walk_at "ev"
  have hn : (12 : Int) < ((says n deep liars).length : Int) := by omega
  rw [decide_eq_true hn]
  walk_at "ev"
  exact ⟨_, rfl⟩
theorem told_ok (C : Co n deep liars order) : F__law_told [.sh (co n deep liars order)] = some (.sh (if 12 < (says n deep liars).length then .str "much" else match (rowsN (says n deep liars).length).find? (liesP n deep liars order) with | some r => tI r | none => .none), [.sh (co n deep liars order)]) := by
  refine defF_sh rfl rfl (by simp [Cell.owned]) ?_
  unfold b__law_told
  by_cases h : 12 < (says n deep liars).length
  · rw [if_pos h]
    walk_at "ev"
    rw [lies_for_much C h]
    walk_at "ev"
    exact ⟨_, rfl⟩
  · rw [if_neg h]
    walk_at "ev"
    rw [lies_for_ok C (by omega)]
    walk_at "ev"
    exact ⟨_, rfl⟩

end K38
namespace K38
open PySem PySem.Spec PyProof.Rows L2 DL
local macro_rules | `(tactic| walk_at "ev") => `(tactic| try simp -implicitDefEqProofs (disch := first | omega | (simp only [List.length_append, List.length_map, List.length_cons, List.length_nil]; omega)) only [bnd_some, bnd_none, out_some, out_none, fVar_c, fC_c, aNil_c, aCons_c, aStar_c, fOp_c, fUn_c, fCmp_c, bCmp_c, bVal_c, bTru_c, bNot_c, bAnd_c, bOr_c, fAnd_c, fOr_c, fNot_c, fIf_c, fTup_s, oLst_s, szN_ok, mAppend_ok, fFrz_c, oSh_c, cNil_c, cCons_c, cSlot1_c, oCall_c, sSeq_c, sNil_c, sRt_c, sDrop_c, sIf_c, sSet_c, sAsg_c, sFor_c, sParO_c, sExtV_c, sExtO_s, fSl_c, pNone_c, pSome_c, fBlt_c, oList_c, oListRev_c, oSorted_c, fIsT_c, fChain_c, fMd_c, fIt_c, fArgs_c, bYes_c, oLc_s, oLc2_s, fGenB_c, fDictZip_c, fGet2_c, fPk1_c, fPkL_c, fPkR_c, fPkIx_c, bPkL_c, bPkR_c,
  turn, lcT, genT, tgN, tgTup, tgCons, tgNil, gIt, gNeg, gTru, g1, DL.g2, gLen, gInt, getCells, putCells, slotsOf, own?, Cell.owned, isDict, List.drop, List.drop_nil,
  List.cons_append, List.nil_append, List.getElem?_cons_succ, List.getElem?_cons_zero, List.replicate, List.set_cons_succ, List.set_cons_zero, List.length_cons, List.length_nil, Option.map_some, reduceIte, Nat.reduceAdd, Nat.reduceLT, List.nodup_nil, if_true, if_false, Bool.false_eq_true, Bool.true_eq_false, Bool.not_true, Bool.not_false, gSl, cutD_init, gIxC_tup, gIxC_lst, gEq_int, gNe_int, gInC_int, gInC_lint, gNotInC_int, gNotInC_lint, gOrd, List.length_map, at0, at1, at2, at3, DL.peek, isSc, gAdd_int, gSub_int, gSum_int, gMin1_int, gMax1_int, gTuple, gIsN, gNotN, gIsB, gNotB, isNone, isT_int_int, isT_bool_int, isT_tup_tup, isT_tup_lst, isT_lst_tup, isT_lst_lst, isT_bool_bool, isT_tup_bool, isT_lst_bool, isT_tup_int, isT_lst_int, isT_tup_non, isT_lst_non, isT_int_bool, isT_bool_non, DL.wipeD, DL.restD, DL.ownNo, List.all_cons, List.all_nil, Bool.and_true, Bool.and_self, Bool.true_and, and_self, and_true, true_and, decide_true, decide_false, Option.getD_some, oRep_s, repF_0, repF_1, Int.cast_ofNat_Int, Int.natCast_zero, Int.natCast_one, Int.reduceEq, Int.reduceLT, Int.reduceLE, Int.reduceSub, Int.reduceAdd, Int.reduceNe, nd1, sRaise_c, oCallX_c, oInl_c, oOk_c, oIfX_c, sRtX_c, sDropX_c, sSetX_c, sTryW_c, errW_range, errW_form, errW_none, errW_refused, errW_much])
variable {n deep order : Int} {liars lies : List Int}
theorem council_ok (C : Co n deep liars order) (hdn : deep ≤ n - 2) (hl : ∀ x ∈ liars, 0 ≤ x ∧ x < n) (hs : liars.Pairwise (· < ·)) (hz : liars.length ≤ 1000) : F_is_council [.sh (co n deep liars order)] = some (.sh (.bool true), [.sh (co n deep liars order)]) := by
  obtain ⟨h1, h2, h3, h4, h5⟩ := C
  refine defF_sh rfl rfl (by simp [Cell.owned]) ?_
  unfold b_is_council
  walk_at "ev"
  rw [number_ok, decide_eq_true (show (2 : Int) ≤ n by omega), decide_eq_true (show n ≤ 7 by omega)]
  walk_at "ev"
  have hmin : gMin2 (.int 2) (.int (n - 2)) = some (.int (if n - 2 < 2 then n - 2 else 2)) := rfl
  rw [hmin]
  walk_at "ev"
  rw [number_ok, decide_eq_true (show (0 : Int) ≤ deep by omega), decide_eq_true (show deep ≤ if n - 2 < 2 then n - 2 else 2 by split <;> omega)]
  walk_at "ev"
  rw [number_ok, decide_eq_true (show (0 : Int) ≤ order by omega), decide_eq_true (show order ≤ 1 by omega)]
  walk_at "ev"
  rw [genB_all PyData.int (fun x => decide (0 ≤ x) && decide (x ≤ n - 1))]
  · have e1 : (liars.all fun x => decide (0 ≤ x) && decide (x ≤ n - 1)) = true := by
      rw [List.all_eq_true]
      intro x hx
      have := hl x hx
      simp; omega
    rw [e1]
    walk_at "ev"
    rw [gRange1_int (by omega) (by omega)]
    walk_at "ev"
    rw [genB_all PyData.int (fun _ => true)]
    · rw [show ((upto ((liars.length : Int) - 1)).all fun _ => true) = true by simp]
      walk_at "ev"
      exact ⟨_, rfl⟩
    · intro o ho
      have ho := mem_upto'.mp ho
      obtain ⟨j, rfl⟩ : ∃ j : Nat, o = (j : Int) := ⟨o.toNat, by omega⟩
      have hj : j < liars.length := by omega
      have hj1 : j + 1 < liars.length := by omega
      have e1 : atI (liars.map PyData.int) (j : Int) = some (.int liars[j]) := by
        apply atI_nat
        rw [List.getElem?_map, List.getElem?_eq_getElem hj]; rfl
      have e2 : atI (liars.map PyData.int) ((j : Int) + 1) = some (.int liars[j + 1]) := by
        rw [show ((j : Int) + 1) = ((j + 1 : Nat) : Int) by omega]
        apply atI_nat
        rw [List.getElem?_map, List.getElem?_eq_getElem hj1]; rfl
      have e3 : liars[j] < liars[j + 1] := List.pairwise_iff_getElem.mp hs _ _ hj hj1 (by omega)
      walk_at "ev"
      rw [e1]
      walk_at "ev"
      rw [e2]
      walk_at "ev"
      rw [decide_eq_true e3]
  · intro o ho
    walk_at "ev"
    rw [number_ok]
    walk_at "ev"

end K38
namespace K38
open PySem PySem.Spec PyProof.Rows L2 DL
local macro_rules | `(tactic| walk_at "ev") => `(tactic| try simp -implicitDefEqProofs (disch := first | omega | (simp only [List.length_append, List.length_map, List.length_cons, List.length_nil]; omega)) only [bnd_some, bnd_none, out_some, out_none, fVar_c, fC_c, aNil_c, aCons_c, aStar_c, fOp_c, fUn_c, fCmp_c, bCmp_c, bVal_c, bTru_c, bNot_c, bAnd_c, bOr_c, fAnd_c, fOr_c, fNot_c, fIf_c, fTup_s, oLst_s, szN_ok, mAppend_ok, fFrz_c, oSh_c, cNil_c, cCons_c, cSlot1_c, oCall_c, sSeq_c, sNil_c, sRt_c, sDrop_c, sIf_c, sSet_c, sAsg_c, sFor_c, sParO_c, sExtV_c, sExtO_s, fSl_c, pNone_c, pSome_c, fBlt_c, oList_c, oListRev_c, oSorted_c, fIsT_c, fChain_c, fMd_c, fIt_c, fArgs_c, bYes_c, oLc_s, oLc2_s, fGenB_c, fDictZip_c, fGet2_c, fPk1_c, fPkL_c, fPkR_c, fPkIx_c, bPkL_c, bPkR_c,
  turn, lcT, genT, tgN, tgTup, tgCons, tgNil, gIt, gNeg, gTru, g1, DL.g2, gLen, gInt, getCells, putCells, slotsOf, own?, Cell.owned, isDict, List.drop, List.drop_nil,
  List.cons_append, List.nil_append, List.getElem?_cons_succ, List.getElem?_cons_zero, List.replicate, List.set_cons_succ, List.set_cons_zero, List.length_cons, List.length_nil, Option.map_some, reduceIte, Nat.reduceAdd, Nat.reduceLT, List.nodup_nil, if_true, if_false, Bool.false_eq_true, Bool.true_eq_false, Bool.not_true, Bool.not_false, gSl, cutD_init, gIxC_tup, gIxC_lst, gEq_int, gNe_int, gInC_int, gInC_lint, gNotInC_int, gNotInC_lint, gOrd, List.length_map, at0, at1, at2, at3, DL.peek, isSc, gAdd_int, gSub_int, gSum_int, gMin1_int, gMax1_int, gTuple, gIsN, gNotN, gIsB, gNotB, isNone, isT_int_int, isT_bool_int, isT_tup_tup, isT_tup_lst, isT_lst_tup, isT_lst_lst, isT_bool_bool, isT_tup_bool, isT_lst_bool, isT_tup_int, isT_lst_int, isT_tup_non, isT_lst_non, isT_int_bool, isT_bool_non, DL.wipeD, DL.restD, DL.ownNo, List.all_cons, List.all_nil, Bool.and_true, Bool.and_self, Bool.true_and, and_self, and_true, true_and, decide_true, decide_false, Option.getD_some, oRep_s, repF_0, repF_1, Int.cast_ofNat_Int, Int.natCast_zero, Int.natCast_one, Int.reduceEq, Int.reduceLT, Int.reduceLE, Int.reduceSub, Int.reduceAdd, Int.reduceNe, nd1, sRaise_c, oCallX_c, oInl_c, oOk_c, oIfX_c, sRtX_c, sDropX_c, sSetX_c, sTryW_c, errW_range, errW_form, errW_none, errW_refused, errW_much])
theorem alike_eq : ∀ n, F__law_alike n = F_alike n
  | 0 => rfl
  | n + 1 => by
    show defF 2 1 [] (b__law_alike (F__law_alike n)) = defF 2 1 [] (b_alike (F_alike n))
    rw [alike_eq n]
    rfl
/-- a list in a slot, one's own or not -/
def LC (c : Cell) (ds : List D) : Prop := c = .ow ds ∨ c = .sh (.list ds)
theorem take_step {α : Type} {l : List α} {k : Nat} {x : α} (h : l[k]? = some x) : l.take (k + 1) = l.take k ++ [x] := by
  rw [List.take_add_one, h]; rfl
theorem pstep_one (n : Int) (p : List Int) : pstep n [p] = ((upto n).filter fun o => decide (o ∉ p)).map fun o => p ++ [o] := by simp [pstep]
theorem pstep_take_len {n : Int} (h7 : n ≤ 7) {L : List (List Int)} (hL : L.length ≤ 100) (k : Nat) : (pstep n (L.take k)).length ≤ 700 := by
  have := pstep_len n (L.take k)
  have h2 : (L.take k).length ≤ 100 := Nat.le_trans (List.length_take_le' _ _) hL
  have := Nat.mul_le_mul h2 (show n.toNat ≤ 7 by omega)
  omega
theorem paths_inner (n : Int) (hn : 0 ≤ n) (hn2 : n ≤ 7) (c1 c2 c3 c4 x6 : Cell) (L : List (List Int)) (hL : L.length ≤ 100) (hp : ∀ p ∈ L, p.length ≤ 100) : ∃ c5 x6', LC c5 ((pstep n L).map tI') ∧ forL (tgN 6)
    (sSet 5 (oSh (fOp gAdd (fVar 5) (fFrz (oLc [7] (fArgs gRange1 (aCons (fVar 0) aNil)) (tgN 7) (bCmp gNotInC (fVar 7) (fVar 6)) (fOp gAdd (fVar 6) (fTup (aCons (fVar 7) aNil)))))))) (L.map tI') [.sh (.int n), c1, c2, c3, c4, .ow [], x6, .un] = some (.nx, [.sh (.int n), c1, c2, c3, c4, c5, x6', .un]) := by
  generalize hx : forL _ _ _ _ = x
  obtain ⟨e, rfl, c5, x6', h, rfl⟩ : ∃ e, x = some (.nx, e) ∧ ∃ c5 x6', LC c5 ((pstep n L).map tI') ∧ e = [.sh (.int n), c1, c2, c3, c4, c5, x6', .un] := by
    rw [← hx]
    refine forL_run (fun k e => ∃ c5 x6', LC c5 ((pstep n (L.take k)).map tI') ∧ e = [.sh (.int n), c1, c2, c3, c4, c5, x6', .un]) ⟨.ow [], x6, .inl rfl, rfl⟩ (fun e h => by rw [List.length_map, List.take_length] at h; exact h) ?_
    rintro k d e hk ⟨c5, x6', h5, rfl⟩
    rw [List.getElem?_map, Option.map_eq_some_iff] at hk
    obtain ⟨p, hpk, rfl⟩ := hk
    have hpl := hp p (List.mem_of_getElem? hpk)
    have ht := pstep_take_len hn2 hL k
    have hf : ((upto n).filter fun o => decide (o ∉ p)).length ≤ 7 := Nat.le_trans (List.length_filter_le _ _) (by simp [upto]; omega)
    refine ⟨_, .inl ?_, .sh (.list ((pstep n (L.take (k + 1))).map tI')), .sh (tI' p), .inr rfl, rfl⟩
    have fin : ∀ c5 : Cell, LC c5 ((pstep n (L.take k)).map tI') → turn (tgN 6) (sSet 5 (oSh (fOp gAdd (fVar 5) (fFrz (oLc [7] (fArgs gRange1 (aCons (fVar 0) aNil)) (tgN 7) (bCmp gNotInC (fVar 7) (fVar 6)) (fOp gAdd (fVar 6) (fTup (aCons (fVar 7) aNil)))))))) (tI' p) [.sh (.int n), c1, c2, c3, c4, c5, x6', .un] = some (.nx, [.sh (.int n), c1, c2, c3, c4, .sh (.list ((pstep n (L.take (k + 1))).map tI')), .sh (tI' p), .un]) := by
      intro c5 hc
      rcases hc with rfl | rfl <;>
      · walk_at "ev"
        rw [gRange1_int (by omega) (by omega)]
        walk_at "ev"
        rw [lcL_of PyData.int (fun o => decide (o ∉ p)) (fun o => tI' (p ++ [o]))]
        · walk_at "ev"
          rw [gAdd_lst (by simp only [List.length_map]; omega)]
          walk_at "ev"
          rw [take_step hpk, pstep_app, pstep_one, List.map_append, List.map_map]
          rfl
        · intro o _
          walk_at "ev"
          by_cases ho : o ∈ p
          · rw [decide_eq_true ho]
            walk_at "ev"
            simp [ho]
          · rw [decide_eq_false ho]
            walk_at "ev"
            rw [gAdd_tup (by simp only [List.length_map, List.length_cons, List.length_nil]; omega)]
            walk_at "ev"
            simp [ho]
    exact fin c5 h5
  exact ⟨c5, x6', h, rfl⟩
theorem law_paths_ok (n deep : Int) (hn : 0 ≤ n) (hn2 : n ≤ 7) (hd0 : 0 ≤ deep) (hd : deep ≤ 2) : F__law_paths [.sh (.int n), .sh (.int deep)] = some (.sh (.list ((pathsTo n deep.toNat).map tI')), [.sh (.int n), .sh (.int deep)]) := by
  refine defF_sh rfl rfl (by simp [Cell.owned]) ?_
  unfold b__law_paths
  walk_at "ev"
  rw [gRange1_int (by omega) (by omega)]
  walk_at "ev"
  generalize hx : forL _ _ _ _ = x
  obtain ⟨e, rfl, c3, c4, x2, x5, x6, h3, h4, rfl⟩ : ∃ e, x = some (.nx, e) ∧ ∃ c3 c4 x2 x5 x6, LC c3 ((pathsTo n deep.toNat).map tI') ∧ LC c4 ((lasts n deep.toNat).map tI') ∧ e = [.sh (.int n), .sh (.int deep), x2, c3, c4, x5, x6, .un] := by
    rw [← hx]
    refine forL_run (fun k e => k ≤ deep.toNat ∧ ∃ c3 c4 x2 x5 x6, LC c3 ((pathsTo n k).map tI') ∧ LC c4 ((lasts n k).map tI') ∧ e = [.sh (.int n), .sh (.int deep), x2, c3, c4, x5, x6, .un]) ⟨by omega, .ow _, .ow _, .un, .un, .un, .inl rfl, .inl rfl, rfl⟩ (fun e h => by
      have : ((upto deep).map PyData.int).length = deep.toNat := by simp [upto]
      rw [this] at h
      exact h.2) ?_
    rintro k d e hk ⟨hkl, c3, c4, x2, x5, x6, h3, h4, rfl⟩
    have hk2 : k < deep.toNat := by
      have := (List.getElem?_eq_some_iff.mp hk).1
      simpa [upto] using this
    have b1 := paths_small hn2 k (by omega)
    have b2 := lasts_small hn2 k (by omega)
    have b3 := lasts_small hn2 (k + 1) (by omega)
    obtain ⟨c5, x6', h5, h6⟩ := paths_inner n hn hn2 (.sh (.int deep)) (.sh d) c3 (.sh (.list ((lasts n k).map tI'))) x6 (lasts n k) (by omega) (fun p hp => by rw [lasts_len1 n k p hp]; omega)
    refine ⟨[.sh (.int n), .sh (.int deep), .sh d, .sh (.list ((pathsTo n (k + 1)).map tI')), .sh (.list ((lasts n (k + 1)).map tI')), .sh (.list ((lasts n (k + 1)).map tI')), x6', .un], .inl ?_, by omega, _, _, _, _, _, .inr rfl, .inr rfl, rfl⟩
    have e1 : (pstep n (lasts n k)).map tI' = (lasts n (k + 1)).map tI' := rfl
    rw [e1] at h5
    have e2 : (pathsTo n k).map tI' ++ (lasts n (k + 1)).map tI' = (pathsTo n (k + 1)).map tI' := by simp [pathsTo]
    have first : ∀ c4 : Cell, LC c4 ((lasts n k).map tI') → ∀ g : SF, (∀ c5 : Cell, LC c5 ((lasts n (k + 1)).map tI') → g [.sh (.int n), .sh (.int deep), .sh d, c3, .sh (.list ((lasts n k).map tI')), c5, x6', .un] = some (.nx, [.sh (.int n), .sh (.int deep), .sh d, .sh (.list ((pathsTo n (k + 1)).map tI')), .sh (.list ((lasts n (k + 1)).map tI')), .sh (.list ((lasts n (k + 1)).map tI')), x6', .un])) →
        (sSeq (sSet 5 (oLst aNil)) (sSeq (sFor (fIt (fVar 4)) (tgN 6) (sSet 5 (oSh (fOp gAdd (fVar 5) (fFrz (oLc [7] (fArgs gRange1 (aCons (fVar 0) aNil)) (tgN 7) (bCmp gNotInC (fVar 7) (fVar 6)) (fOp gAdd (fVar 6) (fTup (aCons (fVar 7) aNil))))))))) g)) [.sh (.int n), .sh (.int deep), .sh d, c3, c4, x5, x6, .un] = some (.nx, [.sh (.int n), .sh (.int deep), .sh d, .sh (.list ((pathsTo n (k + 1)).map tI')), .sh (.list ((lasts n (k + 1)).map tI')), .sh (.list ((lasts n (k + 1)).map tI')), x6', .un]) := by
      intro c4 h4 g hg
      rcases h4 with rfl | rfl <;>
      · walk_at "ev"
        rw [h6]
        walk_at "ev"
        exact hg c5 h5
    refine first c4 h4 _ fun c5 h5 => ?_
    rcases h3 with rfl | rfl <;> rcases h5 with rfl | rfl <;>
    · walk_at "ev"
      rw [gAdd_lst (by simp only [List.length_map]; omega), e2]
      walk_at "ev"
  have fin : ∀ c3 : Cell, LC c3 ((pathsTo n deep.toNat).map tI') → ∃ e, sRt (oSh (fVar 3)) [.sh (.int n), .sh (.int deep), x2, c3, c4, x5, x6, .un] = some (.rt (.sh (.list ((pathsTo n deep.toNat).map tI'))), e) := by
    intro c3 h
    rcases h with rfl | rfl
    · walk_at "ev"
      exact ⟨_, rfl⟩
    · walk_at "ev"
      exact ⟨_, rfl⟩
  exact fin c3 h3

end K38
namespace K38
open PySem PySem.Spec PyProof.Rows L2 DL
local macro_rules | `(tactic| walk_at "ev") => `(tactic| try simp -implicitDefEqProofs (disch := first | omega | (simp only [List.length_append, List.length_map, List.length_cons, List.length_nil]; omega)) only [bnd_some, bnd_none, out_some, out_none, fVar_c, fC_c, aNil_c, aCons_c, aStar_c, fOp_c, fUn_c, fCmp_c, bCmp_c, bVal_c, bTru_c, bNot_c, bAnd_c, bOr_c, fAnd_c, fOr_c, fNot_c, fIf_c, fTup_s, oLst_s, szN_ok, mAppend_ok, fFrz_c, oSh_c, cNil_c, cCons_c, cSlot1_c, oCall_c, sSeq_c, sNil_c, sRt_c, sDrop_c, sIf_c, sSet_c, sAsg_c, sFor_c, sParO_c, sExtV_c, sExtO_s, fSl_c, pNone_c, pSome_c, fBlt_c, oList_c, oListRev_c, oSorted_c, fIsT_c, fChain_c, fMd_c, fIt_c, fArgs_c, bYes_c, oLc_s, oLc2_s, fGenB_c, fDictZip_c, fGet2_c, fPk1_c, fPkL_c, fPkR_c, fPkIx_c, bPkL_c, bPkR_c,
  turn, lcT, genT, tgN, tgTup, tgCons, tgNil, gIt, gNeg, gTru, g1, DL.g2, gLen, gInt, getCells, putCells, slotsOf, own?, Cell.owned, isDict, List.drop, List.drop_nil,
  List.cons_append, List.nil_append, List.getElem?_cons_succ, List.getElem?_cons_zero, List.replicate, List.set_cons_succ, List.set_cons_zero, List.length_cons, List.length_nil, Option.map_some, reduceIte, Nat.reduceAdd, Nat.reduceLT, List.nodup_nil, if_true, if_false, Bool.false_eq_true, Bool.true_eq_false, Bool.not_true, Bool.not_false, gSl, cutD_init, gIxC_tup, gIxC_lst, gEq_int, gNe_int, gInC_int, gInC_lint, gNotInC_int, gNotInC_lint, gOrd, List.length_map, at0, at1, at2, at3, DL.peek, isSc, gAdd_int, gSub_int, gSum_int, gMin1_int, gMax1_int, gTuple, gIsN, gNotN, gIsB, gNotB, isNone, isT_int_int, isT_bool_int, isT_tup_tup, isT_tup_lst, isT_lst_tup, isT_lst_lst, isT_bool_bool, isT_tup_bool, isT_lst_bool, isT_tup_int, isT_lst_int, isT_tup_non, isT_lst_non, isT_int_bool, isT_bool_non, DL.wipeD, DL.restD, DL.ownNo, List.all_cons, List.all_nil, Bool.and_true, Bool.and_self, Bool.true_and, and_self, and_true, true_and, decide_true, decide_false, Option.getD_some, oRep_s, repF_0, repF_1, Int.cast_ofNat_Int, Int.natCast_zero, Int.natCast_one, Int.reduceEq, Int.reduceLT, Int.reduceLE, Int.reduceSub, Int.reduceAdd, Int.reduceNe, nd1, sRaise_c, oCallX_c, oInl_c, oOk_c, oIfX_c, sRtX_c, sDropX_c, sSetX_c, sTryW_c, errW_range, errW_form, errW_none, errW_refused, errW_much, in_kv])
variable {n deep order : Int} {liars lies : List Int}
theorem law_sayings_ok (n deep : Int) (liars : List Int) (order : Int) (hn : 0 ≤ n) (hn2 : n ≤ 7) (hd0 : 0 ≤ deep) (hd : deep ≤ 2) : F__law_sayings [.sh (co n deep liars order)] = some (.ow ((says n deep liars).map tI'), [.sh (co n deep liars order)]) := by
  refine defF_sh rfl rfl (by simp [Cell.owned]) ?_
  unfold b__law_sayings
  walk_at "ev"
  rw [law_paths_ok n deep hn hn2 hd0 hd]
  walk_at "ev"
  generalize hx : forL _ _ _ _ = x
  obtain ⟨e, rfl, c1, x2, hc, rfl⟩ : ∃ e, x = some (.nx, e) ∧ ∃ c1 x2, LC c1 ((raw n deep liars).map tI') ∧ e = [.sh (co n deep liars order), c1, x2, .sh (.int n), .sh (.int deep), .sh (tI liars), .sh (.int order), .un] := by
    rw [← hx]
    refine forL_run (fun k e => ∃ c1 x2, LC c1 ((pstep n (((pathsTo n deep.toNat).take k).filter fun p => decide (p.getLastD 0 ∈ liars))).map tI') ∧ e = [.sh (co n deep liars order), c1, x2, .sh (.int n), .sh (.int deep), .sh (tI liars), .sh (.int order), .un]) ⟨.ow [], .un, .inl rfl, rfl⟩ (fun e ⟨c1, x2, h1, h2⟩ => ⟨c1, x2, by rw [List.length_map, List.take_length] at h1; exact h1, h2⟩) ?_
    rintro k d e hk ⟨c1, x2, hc, rfl⟩
    rw [List.getElem?_map, Option.map_eq_some_iff] at hk
    obtain ⟨p, hp, rfl⟩ := hk
    have hpm : p ∈ pathsTo n deep.toNat := List.mem_of_getElem? hp
    have hpn := path_ne hpm
    have tk := take_step hp
    by_cases hl : p.getLastD 0 ∈ liars
    · have ht := Nat.le_trans (pstep_len n (((pathsTo n deep.toNat).take k).filter fun p => decide (p.getLastD 0 ∈ liars))) (Nat.mul_le_mul (Nat.le_trans (List.length_filter_le _ _) (Nat.le_trans (List.length_take_le' _ _) (paths_small hn2 deep.toNat (by omega)))) (show n.toNat ≤ 7 by omega))
      have hf : (((upto n).filter fun o => decide (o ∉ p)).length) ≤ 7 := Nat.le_trans (List.length_filter_le _ _) (by simp [upto]; omega)
      refine ⟨_, .inl ?_, .sh (.list ((pstep n (((pathsTo n deep.toNat).take (k + 1)).filter fun p => decide (p.getLastD 0 ∈ liars))).map tI')), .sh (tI' p), .inr rfl, rfl⟩
      rcases hc with rfl | rfl <;>
      · walk_at "ev"
        rw [atI_lastI hpn.1]
        walk_at "ev"
        rw [decide_eq_true hl]
        walk_at "ev"
        rw [gRange1_int (by omega) (by omega)]
        walk_at "ev"
        rw [lcL_of PyData.int (fun o => decide (o ∉ p)) (fun o => tI' (p ++ [o]))]
        · walk_at "ev"
          rw [gAdd_lst (by simp only [List.length_map]; omega)]
          walk_at "ev"
          rw [tk, List.filter_append, pstep_app]
          simp only [List.filter_cons, hl, decide_true, List.filter_nil, if_true, pstep_one, List.map_append, List.map_map]
          rfl
        · intro o _
          walk_at "ev"
          by_cases ho : o ∈ p
          · rw [decide_eq_true ho]
            walk_at "ev"
            simp [ho]
          · rw [decide_eq_false ho]
            walk_at "ev"
            rw [gAdd_tup (by simp only [List.length_map, List.length_cons, List.length_nil]; omega)]
            walk_at "ev"
            simp [ho]
    · refine ⟨_, .inl ?_, c1, .sh (tI' p), ?_, rfl⟩
      · rcases hc with rfl | rfl <;>
        · walk_at "ev"
          rw [atI_lastI hpn.1]
          walk_at "ev"
          rw [decide_eq_false hl]
          walk_at "ev"
      · rw [tk, List.filter_append, pstep_app]
        simp only [List.filter_cons, hl, decide_false, List.filter_nil, pstep, List.flatMap_nil, List.append_nil, Bool.false_eq_true, if_false]
        exact hc
  have so := sortOk_tI (raw n deep liars) fun p hp => by obtain ⟨q, _, _, o, rfl, _⟩ := raw_ne hp; simp
  rcases hc with rfl | rfl <;>
  · walk_at "ev"
    rw [if_pos so, says_eq]
    walk_at "ev"
    exact ⟨_, rfl⟩
theorem law_heard_ok (n deep : Int) (liars : List Int) (order : Int) (kvs : List (List Int × Int)) : ∀ (k : Nat) (p : List Int) (node : Int), p ≠ [] → p.length ≤ k → p.length ≤ 9 → F__law_heard k [.sh (co n deep liars order), .sh (kvD kvs), .sh (tI p), .sh (.int node)] = some (.sh (.int (hear kvs order k p node)), [.sh (co n deep liars order), .sh (kvD kvs), .sh (tI p), .sh (.int node)])
  | 0, p, node, h, h2, _ => by cases p <;> simp at h h2
  | k + 1, p, node, h, h2, h9 => by
    have hm : (p.map PyData.int) ++ [PyData.int node] = (p ++ [node]).map PyData.int := by simp
    refine defF_sh rfl rfl (by simp [Cell.owned]) ?_
    unfold b__law_heard hear
    walk_at "ev"
    rw [gAdd_tup (by simp only [List.length_map, List.length_cons, List.length_nil]; omega), hm]
    walk_at "ev"
    cases ht : told kvs (p ++ [node]) with
    | some v =>
      simp only [Option.isSome_some]
      walk_at "ev"
      rw [gAdd_tup (by simp only [List.length_map, List.length_cons, List.length_nil]; omega), hm]
      walk_at "ev"
      rw [ix_kv, ht]
      walk_at "ev"
      exact ⟨_, rfl⟩
    | none =>
      simp only [Option.isSome_none]
      walk_at "ev"
      by_cases hl : p.length = 1
      · have hl' : ((p.length : Nat) : Int) = 1 := by omega
        rw [if_pos hl, decide_eq_true hl']
        walk_at "ev"
        exact ⟨_, rfl⟩
      · have hl' : ¬ ((p.length : Nat) : Int) = 1 := by omega
        rw [if_neg hl, decide_eq_false hl']
        walk_at "ev"
        have hp : p.map PyData.int ≠ [] := by simpa using h
        rw [atI_m1 hp]
        walk_at "ev"
        have e1 : (p.map PyData.int).dropLast = p.dropLast.map PyData.int := by rw [List.map_dropLast]
        have e2 : (p.map PyData.int).getLast hp = .int (p.getLastD 0) := by
          rw [List.getLast_map]
          · rw [List.getLastD_eq_getLast?, List.getLast?_eq_getLast h]; rfl
        rw [e1, e2]
        have hn : p.dropLast ≠ [] := by
          intro z
          have := congrArg List.length z
          have h0 : p.length ≠ 0 := by simpa using h
          simp at this
          omega
        rw [law_heard_ok n deep liars order kvs k p.dropLast (p.getLastD 0) hn (by simp; omega) (by simp; omega)]
        walk_at "ev"
        exact ⟨_, rfl⟩
theorem law_makes_ok (n deep : Int) (liars : List Int) (order : Int) (kvs : List (List Int × Int)) (hn : 0 ≤ n) (hn2 : n ≤ 900) (hd : 0 ≤ deep) (hd2 : deep ≤ 3) : ∀ (k : Nat) (p : List Int) (node : Int), p ≠ [] → (p.length : Int) ≤ deep + 1 → deep + 2 ≤ p.length + k →
    F__law_makes k [.sh (co n deep liars order), .sh (kvD kvs), .sh (tI p), .sh (.int node)] = some (.sh (.int (mk kvs order n deep k p node)), [.sh (co n deep liars order), .sh (kvD kvs), .sh (tI p), .sh (.int node)])
  | 0, p, node, h, h2, h3 => by omega
  | k + 1, p, node, h, h2, h3 => by
    have h5 : p.length ≤ 5 := by omega
    have own := law_heard_ok n deep liars order kvs 5 p node h h5 (by omega)
    refine defF_sh rfl rfl (by simp [Cell.owned]) ?_
    by_cases hl : (p.length : Int) = deep + 1
    · rw [mk_eq, if_pos hl]
      unfold b__law_makes
      walk_at "ev"
      rw [own]
      walk_at "ev"
      rw [decide_eq_true hl]
      walk_at "ev"
      exact ⟨_, rfl⟩
    · rw [mk_eq, if_neg hl]
      unfold b__law_makes
      walk_at "ev"
      rw [own]
      walk_at "ev"
      rw [decide_eq_false hl]
      walk_at "ev"
      rw [gRange1_int (by omega) (by omega)]
      walk_at "ev"
      rw [lcL_of PyData.int (fun o => decide (o ∉ p) && decide (o ≠ node)) (fun o => .int (mk kvs order n deep k (p ++ [o]) node))]
      · have hf : ((upto n).filter fun o => decide (o ∉ p) && decide (o ≠ node)).length ≤ 900 := Nat.le_trans (List.length_filter_le _ _) (by simp [upto]; omega)
        walk_at "ev"
        rw [gAdd_lst (by simp only [List.length_map, List.length_cons, List.length_nil]; omega)]
        walk_at "ev"
        have hm : ∀ L : List Int, PyData.int (hear kvs order 5 p node) :: (L.map fun o => PyData.int (mk kvs order n deep k (p ++ [o]) node)) = (hear kvs order 5 p node :: L.map fun o => mk kvs order n deep k (p ++ [o]) node).map .int := by simp
        rw [hm]
        walk_at "ev"
        rw [gMulA_int (by omega) (by omega)]
        walk_at "ev"
        simp only [decide_eq_true_eq, List.length_cons, List.length_map]
        exact ⟨_, rfl⟩
      · intro o _
        have ih := law_makes_ok n deep liars order kvs hn hn2 hd hd2 k (p ++ [o]) node (by simp) (by simp; omega) (by simp; omega)
        have hm : (p.map PyData.int) ++ [PyData.int o] = (p ++ [o]).map PyData.int := by simp
        walk_at "ev"
        by_cases ho : o ∈ p
        · rw [decide_eq_true ho]
          walk_at "ev"
          simp [ho]
        · rw [decide_eq_false ho]
          walk_at "ev"
          by_cases ho2 : o = node
          · rw [decide_eq_true ho2]
            walk_at "ev"
            simp [ho2]
          · rw [decide_eq_false ho2]
            walk_at "ev"
            rw [gAdd_tup (by simp only [List.length_map, List.length_cons, List.length_nil]; omega), hm]
            walk_at "ev"
            rw [ih]
            walk_at "ev"
            simp [ho, ho2]

abbrev toldD (n deep : Int) (liars : List Int) : D := .list ((says n deep liars).map tI')
theorem says_small (C : Co n deep liars order) : (says n deep liars).length ≤ 1000 := by have := raw_len (liars := liars) C.n7 C.d2; rw [says_len]; omega
theorem kvs_list (hl : lies.length = (says n deep liars).length) : ((upto (((says n deep liars).length : Nat) : Int)).map fun k => PyData.tuple [tI' ((says n deep liars).getD k.toNat []), .int (lies.getD k.toNat 0)]) = ((kv n deep liars lies).map fun q => (q.1, PyData.int q.2)).map fun p => .tuple [.tuple (p.1.map .int), p.2] := by
  apply List.ext_getElem
  · simp [upto, hl]
  · intro i h1 h2
    have h3 : i < (says n deep liars).length := by simpa [upto] using h1
    simp [upto, kv, List.getD_eq_getElem?_getD, List.getElem?_eq_getElem h3, List.getElem?_eq_getElem (show i < lies.length by omega)]
theorem kvs_nd (hl : lies.length = (says n deep liars).length) : (((kv n deep liars lies).map fun q => (q.1, PyData.int q.2)).map (·.1)).Nodup := by
  rw [List.map_map, show ((fun x : List Int × D => x.1) ∘ fun q : List Int × Int => (q.1, PyData.int q.2)) = (·.1) from rfl, zip_fst hl.symm]
  exact says_nd n deep liars
theorem kvs_D : dT ((kv n deep liars lies).map fun q => (q.1, PyData.int q.2)) = kvD (kv n deep liars lies) := by
  unfold dT kvD
  rw [List.map_map]; rfl
theorem law_decisions_ok (C : Co n deep liars order) (hl : lies.length = (says n deep liars).length) : F__law_decisions [.sh (co n deep liars order), .sh (tI lies), .sh (toldD n deep liars)] = some (.sh (tI (decs n deep liars order lies)), [.sh (co n deep liars order), .sh (tI lies), .sh (toldD n deep liars)]) := by
  have hz := says_small C
  obtain ⟨h1, h2, h3, h4, h5⟩ := C
  refine defF_sh rfl rfl (by simp [Cell.owned]) ?_
  unfold b__law_decisions
  walk_at "ev"
  rw [gRange1_int (by omega) (by omega)]
  walk_at "ev"
  rw [lcL_of PyData.int (fun _ => true) (fun k => PyData.tuple [tI' ((says n deep liars).getD k.toNat []), .int (lies.getD k.toNat 0)])]
  · have hf : ((upto (((says n deep liars).length : Nat) : Int)).filter fun _ => true).length ≤ 1000 := Nat.le_trans (List.length_filter_le _ _) (by simp [upto]; omega)
    walk_at "ev"
    rw [List.filter_eq_self.mpr (fun _ _ => rfl), kvs_list hl, gDictA_tups (kvs_nd hl) (by simp [kv]; omega), kvs_D]
    walk_at "ev"
    rw [gRange2_int (by omega) (by omega) (by omega) (by omega)]
    walk_at "ev"
    have hm := law_makes_ok n deep liars order (kv n deep liars lies) (by omega) (by omega) h3 (by omega) 5 [0]
    rw [lcL_of PyData.int (fun _ => true) (fun o => .int (decf n deep liars order lies o))]
    · have : (ranL 1 n).length ≤ 1000 := by simp [ranL]; omega
      have : ((ranL 1 n).filter fun _ => true).length ≤ 1000 := Nat.le_trans (List.length_filter_le _ _) this
      walk_at "ev"
      rw [List.filter_eq_self.mpr (fun _ _ => rfl), show ((ranL 1 n).map fun o => PyData.int (decf n deep liars order lies o)) = (decs n deep liars order lies).map .int by simp [decs]]
      exact ⟨_, rfl⟩
    · intro o _
      walk_at "ev"
      have := hm o (by simp) (by simp; omega) (by simp; omega)
      simp only [List.map_cons, List.map_nil, tI] at this
      rw [this]
      walk_at "ev"
  · intro o ho
    have ho := mem_upto'.mp ho
    obtain ⟨j, rfl⟩ : ∃ j : Nat, o = (j : Int) := ⟨o.toNat, by omega⟩
    have hj2 : j < (says n deep liars).length := by omega
    have hj : j < lies.length := by omega
    have e1 : atI ((says n deep liars).map tI') (j : Int) = some (tI' ((says n deep liars)[j])) := by
      apply atI_nat
      rw [List.getElem?_map, List.getElem?_eq_getElem hj2]; rfl
    have e2 : atI (lies.map PyData.int) (j : Int) = some (.int lies[j]) := by
      apply atI_nat
      rw [List.getElem?_map, List.getElem?_eq_getElem hj]; rfl
    walk_at "ev"
    rw [e1]
    walk_at "ev"
    rw [e2]
    walk_at "ev"
    simp [List.getD_eq_getElem?_getD, List.getElem?_eq_getElem hj, List.getElem?_eq_getElem hj2]

end K38
namespace K38
open PySem PySem.Spec PyProof.Rows L2 DL
local macro_rules | `(tactic| walk_at "ev") => `(tactic| try simp -implicitDefEqProofs (disch := first | omega | (simp only [List.length_append, List.length_map, List.length_cons, List.length_nil]; omega)) only [bnd_some, bnd_none, out_some, out_none, fVar_c, fC_c, aNil_c, aCons_c, aStar_c, fOp_c, fUn_c, fCmp_c, bCmp_c, bVal_c, bTru_c, bNot_c, bAnd_c, bOr_c, fAnd_c, fOr_c, fNot_c, fIf_c, fTup_s, oLst_s, szN_ok, mAppend_ok, fFrz_c, oSh_c, cNil_c, cCons_c, cSlot1_c, oCall_c, sSeq_c, sNil_c, sRt_c, sDrop_c, sIf_c, sSet_c, sAsg_c, sFor_c, sParO_c, sExtV_c, sExtO_s, fSl_c, pNone_c, pSome_c, fBlt_c, oList_c, oListRev_c, oSorted_c, fIsT_c, fChain_c, fMd_c, fIt_c, fArgs_c, bYes_c, oLc_s, oLc2_s, fGenB_c, fDictZip_c, fGet2_c, fPk1_c, fPkL_c, fPkR_c, fPkIx_c, bPkL_c, bPkR_c,
  turn, lcT, genT, tgN, tgTup, tgCons, tgNil, gIt, gNeg, gTru, g1, DL.g2, gLen, gInt, getCells, putCells, slotsOf, own?, Cell.owned, isDict, List.drop, List.drop_nil,
  List.cons_append, List.nil_append, List.getElem?_cons_succ, List.getElem?_cons_zero, List.replicate, List.set_cons_succ, List.set_cons_zero, List.length_cons, List.length_nil, Option.map_some, reduceIte, Nat.reduceAdd, Nat.reduceLT, List.nodup_nil, if_true, if_false, Bool.false_eq_true, Bool.true_eq_false, Bool.not_true, Bool.not_false, gSl, cutD_init, gIxC_tup, gIxC_lst, gEq_int, gNe_int, gInC_int, gInC_lint, gNotInC_int, gNotInC_lint, gOrd, List.length_map, at0, at1, at2, at3, DL.peek, isSc, gAdd_int, gSub_int, gSum_int, gMin1_int, gMax1_int, gTuple, gIsN, gNotN, gIsB, gNotB, isNone, isT_int_int, isT_bool_int, isT_tup_tup, isT_tup_lst, isT_lst_tup, isT_lst_lst, isT_bool_bool, isT_tup_bool, isT_lst_bool, isT_tup_int, isT_lst_int, isT_tup_non, isT_lst_non, isT_int_bool, isT_bool_non, DL.wipeD, DL.restD, DL.ownNo, List.all_cons, List.all_nil, Bool.and_true, Bool.and_self, Bool.true_and, and_self, and_true, true_and, decide_true, decide_false, Option.getD_some, oRep_s, repF_0, repF_1, Int.cast_ofNat_Int, Int.natCast_zero, Int.natCast_one, Int.reduceEq, Int.reduceLT, Int.reduceLE, Int.reduceSub, Int.reduceAdd, Int.reduceNe, nd1, sRaise_c, oCallX_c, oInl_c, oOk_c, oIfX_c, sRtX_c, sDropX_c, sSetX_c, sTryW_c, errW_range, errW_form, errW_none, errW_refused, errW_much, in_kv])
variable {n deep order : Int} {liars lies : List Int}
theorem law_parts_ok (C : Co n deep liars order) (hl : lies.length = (says n deep liars).length) : F__law_parts [.sh (co n deep liars order), .sh (tI lies), .sh (toldD n deep liars)] = some (.sh (.bool (liesP n deep liars order lies)), [.sh (co n deep liars order), .sh (tI lies), .sh (toldD n deep liars)]) := by
  have hd := law_decisions_ok C hl
  obtain ⟨h1, h2, h3, h4, h5⟩ := C
  refine defF_sh rfl rfl (by simp [Cell.owned]) ?_
  unfold b__law_parts
  walk_at "ev"
  rw [hd]
  walk_at "ev"
  rw [gRange2_int (by omega) (by omega) (by omega) (by omega)]
  walk_at "ev"
  rw [lcL_of PyData.int (fun o => decide (o ∉ liars)) (fun o => .int (decf n deep liars order lies o))]
  · have hz : ((ranL 1 n).filter fun o => decide (o ∉ liars)).length ≤ 1000 := Nat.le_trans (List.length_filter_le _ _) (by rw [fromTo_len]; omega)
    walk_at "ev"
    have hv : ((ranL 1 n).filter fun o => decide (o ∉ liars)).map (fun o => PyData.int (decf n deep liars order lies o)) = (((ranL 1 n).filter fun o => decide (o ∉ liars)).map (decf n deep liars order lies)).map .int := by simp
    rw [hv]
    have fin : ∀ l : List Int, ∃ e, (sRt (oSh (fAnd (fCmp gNe (fVar 4) (fFrz (oLst aNil))) (fCmp gNe (fBlt (g1 gMin1) (aCons (fVar 4) aNil)) (fBlt (g1 gMax1) (aCons (fVar 4) aNil)))))) [.sh (co n deep liars order), .sh (tI lies), .sh (toldD n deep liars), .sh (tI (decs n deep liars order lies)), .sh (.list (l.map .int)), .un] = some (.rt (.sh (.bool (partB l))), e) := by
      intro l
      walk_at "ev"
      rw [gNe_nil]
      cases l with
      | nil => simp [partB, minI, bnd, out]
      | cons x r =>
        rw [decide_eq_false (List.cons_ne_nil x r)]
        walk_at "ev"
        simp only [minI, maxI, Option.map_some]
        walk_at "ev"
        exact ⟨_, rfl⟩
    by_cases h0 : (0 : Int) ∈ liars
    · rw [decide_eq_true h0]
      have := fin (votes n liars order (decf n deep liars order lies))
      revert this
      simp only [votes, h0, if_true, List.append_nil, liesP]
      walk_at "ev"
      rw [gAdd_lst (by simp only [List.length_map, List.length_nil]; omega), List.append_nil]
      walk_at "ev"
      exact id
    · rw [decide_eq_false h0]
      have := fin (votes n liars order (decf n deep liars order lies))
      revert this
      simp only [votes, h0, if_false, List.map_append, List.map_cons, List.map_nil, liesP]
      walk_at "ev"
      rw [gAdd_lst (by simp only [List.length_map, List.length_cons, List.length_nil]; omega)]
      walk_at "ev"
      exact id
  · intro o ho
    walk_at "ev"
    by_cases h : o ∈ liars
    · rw [decide_eq_true h]
      walk_at "ev"
      simp [h]
    · rw [decide_eq_false h]
      walk_at "ev"
      simp only [decs]
      rw [at_found _ ho]
      walk_at "ev"
      simp [h]
theorem pow_pos2 : ∀ j : Nat, (0 : Int) < 2 ^ j
  | 0 => by simp
  | j + 1 => by have := pow_pos2 j; rw [Int.pow_succ]; omega
theorem pow_le2 (i : Nat) : ∀ d : Nat, (2 : Int) ^ i ≤ 2 ^ (i + d)
  | 0 => Int.le_refl _
  | d + 1 => by have := pow_le2 i d; have := pow_pos2 (i + d); rw [← Nat.add_assoc, Int.pow_succ]; omega
theorem law_power_ok (k : Int) (h0 : 0 ≤ k) (h1 : k ≤ 1000) (h2 : (2 : Int) ^ k.toNat ≤ 1000000) : F__law_power [.sh (.int k)] = some (.sh (.int (2 ^ k.toNat)), [.sh (.int k)]) := by
  refine defF_sh rfl rfl (by simp [Cell.owned]) ?_
  unfold b__law_power
  walk_at "ev"
  rw [gRange1_int (by omega) (by omega)]
  walk_at "ev"
  generalize hx : forL _ _ _ _ = x
  obtain ⟨e, rfl, x2, rfl⟩ : ∃ e, x = some (.nx, e) ∧ ∃ x2, e = [.sh (.int k), .sh (.int (2 ^ k.toNat)), x2] := by
    rw [← hx]
    refine forL_run (fun j e => j ≤ k.toNat ∧ ∃ x2, e = [.sh (.int k), .sh (.int (2 ^ j)), x2]) ⟨by omega, .un, rfl⟩ (fun e h => by
      have : ((upto k).map PyData.int).length = k.toNat := by simp [upto]
      rw [this] at h
      exact h.2) ?_
    rintro j d e hk ⟨hj, x2, rfl⟩
    have hk : j < k.toNat := by
      have := (List.getElem?_eq_some_iff.mp hk).1
      simpa [upto] using this
    have hp : (2 : Int) ^ j ≤ 2 ^ k.toNat := by have := pow_le2 j (k.toNat - j); rw [show j + (k.toNat - j) = k.toNat by omega] at this; exact this
    have hp0 := pow_pos2 j
    refine ⟨[.sh (.int k), .sh (.int (2 ^ (j + 1))), .sh d], .inl ?_, by omega, _, rfl⟩
    walk_at "ev"
    rw [gMulA_int (by omega) (by omega), show (2 : Int) * 2 ^ j = 2 ^ (j + 1) by rw [Int.pow_succ]; omega]
    walk_at "ev"
  walk_at "ev"
  exact ⟨_, rfl⟩
/-- bits only -/
def bits (l : List Int) : Bool := l.all fun v => decide (0 ≤ v) && decide (v ≤ 1)
theorem are_lies_ok (C : Co n deep liars order) (l : List Int) (hz : l.length ≤ 100000) : F_are_lies [.sh (co n deep liars order), .sh (tI l)] = some (.sh (.bool (decide (l.length = (says n deep liars).length) && bits l)), [.sh (co n deep liars order), .sh (tI l)]) := by
  obtain ⟨h1, h2, h3, h4, h5⟩ := C
  refine defF_sh rfl rfl (by simp [Cell.owned]) ?_
  unfold b_are_lies
  walk_at "ev"
  rw [sayings_ok n deep liars order (by omega) h2 h3 h4]
  walk_at "ev"
  by_cases h : l.length = (says n deep liars).length
  · have h' : ((l.length : Nat) : Int) = ((says n deep liars).length : Nat) := by omega
    rw [decide_eq_true h, decide_eq_true h']
    walk_at "ev"
    rw [genB_all PyData.int (fun v => decide (0 ≤ v) && decide (v ≤ 1))]
    · walk_at "ev"
      exact ⟨_, rfl⟩
    · intro o ho
      walk_at "ev"
      rw [number_ok]
      walk_at "ev"
  · have h' : ¬ ((l.length : Nat) : Int) = ((says n deep liars).length : Nat) := by omega
    rw [decide_eq_false h, decide_eq_false h']
    walk_at "ev"
    exact ⟨_, rfl⟩

end K38
namespace K38
open PySem PySem.Spec PyProof.Rows L2 DL
local macro_rules | `(tactic| walk_at "ev") => `(tactic| try simp -implicitDefEqProofs (disch := first | omega | (simp only [List.length_append, List.length_map, List.length_cons, List.length_nil]; omega)) only [bnd_some, bnd_none, out_some, out_none, fVar_c, fC_c, aNil_c, aCons_c, aStar_c, fOp_c, fUn_c, fCmp_c, bCmp_c, bVal_c, bTru_c, bNot_c, bAnd_c, bOr_c, fAnd_c, fOr_c, fNot_c, fIf_c, fTup_s, oLst_s, szN_ok, mAppend_ok, fFrz_c, oSh_c, cNil_c, cCons_c, cSlot1_c, oCall_c, sSeq_c, sNil_c, sRt_c, sDrop_c, sIf_c, sSet_c, sAsg_c, sFor_c, sParO_c, sExtV_c, sExtO_s, fSl_c, pNone_c, pSome_c, fBlt_c, oList_c, oListRev_c, oSorted_c, fIsT_c, fChain_c, fMd_c, fIt_c, fArgs_c, bYes_c, oLc_s, oLc2_s, fGenB_c, fDictZip_c, fGet2_c, fPk1_c, fPkL_c, fPkR_c, fPkIx_c, bPkL_c, bPkR_c,
  turn, lcT, genT, tgN, tgTup, tgCons, tgNil, gIt, gNeg, gTru, g1, DL.g2, gLen, gInt, getCells, putCells, slotsOf, own?, Cell.owned, isDict, List.drop, List.drop_nil,
  List.cons_append, List.nil_append, List.getElem?_cons_succ, List.getElem?_cons_zero, List.replicate, List.set_cons_succ, List.set_cons_zero, List.length_cons, List.length_nil, Option.map_some, reduceIte, Nat.reduceAdd, Nat.reduceLT, List.nodup_nil, if_true, if_false, Bool.false_eq_true, Bool.true_eq_false, Bool.not_true, Bool.not_false, gSl, cutD_init, gIxC_tup, gIxC_lst, gEq_int, gNe_int, gInC_int, gInC_lint, gNotInC_int, gNotInC_lint, gOrd, List.length_map, at0, at1, at2, at3, DL.peek, isSc, gAdd_int, gSub_int, gSum_int, gMin1_int, gMax1_int, gTuple, gIsN, gNotN, gIsB, gNotB, isNone, isT_int_int, isT_bool_int, isT_tup_tup, isT_tup_lst, isT_lst_tup, isT_lst_lst, isT_bool_bool, isT_tup_bool, isT_lst_bool, isT_tup_int, isT_lst_int, isT_tup_non, isT_lst_non, isT_int_bool, isT_bool_non, DL.wipeD, DL.restD, DL.ownNo, List.all_cons, List.all_nil, Bool.and_true, Bool.and_self, Bool.true_and, and_self, and_true, true_and, decide_true, decide_false, Option.getD_some, oRep_s, repF_0, repF_1, Int.cast_ofNat_Int, Int.natCast_zero, Int.natCast_one, Int.reduceEq, Int.reduceLT, Int.reduceLE, Int.reduceSub, Int.reduceAdd, Int.reduceNe, nd1, sRaise_c, oCallX_c, oInl_c, oOk_c, oIfX_c, sRtX_c, sDropX_c, sSetX_c, sTryW_c, errW_range, errW_form, errW_none, errW_refused, errW_much, in_kv])

/-- what a council drawn is -/
structure Gc (n deep : Int) (liars : List Int) : Prop where
  n2 : 2 ≤ n
  n7 : n ≤ 7
  d0 : 0 ≤ deep
  d2 : deep ≤ 2
  dn : deep ≤ n - 2
  lr : ∀ x ∈ liars, 0 ≤ x ∧ x < n
  lp : liars.Pairwise (· < ·)
theorem great (r : Int) (h0 : 0 ≤ r) (h1 : r < 9) : ∃ (m d : Int) (l : List Int), atI ([.tuple [.int 7, .int 1, .tuple [.int 0, .int 3]], .tuple [.int 4, .int 2, .tuple [.int 1, .int 2, .int 3]], .tuple [.int 4, .int 2, .tuple [.int 0, .int 1, .int 3]], .tuple [.int 6, .int 1, .tuple [.int 1, .int 2, .int 5]], .tuple [.int 5, .int 1, .tuple [.int 1, .int 2, .int 3, .int 4]], .tuple [.int 7, .int 1, .tuple [.int 2, .int 6]], .tuple [.int 5, .int 2, .tuple [.int 3]], .tuple [.int 5, .int 1, .tuple [.int 0, .int 1, .int 4]], .tuple [.int 6, .int 1, .tuple [.int 0, .int 2]]] : List D) r = some (.tuple [.int m, .int d, tI l]) ∧ Gc m d l := by
  have : r = 0 ∨ r = 1 ∨ r = 2 ∨ r = 3 ∨ r = 4 ∨ r = 5 ∨ r = 6 ∨ r = 7 ∨ r = 8 := by omega
  rcases this with rfl | rfl | rfl | rfl | rfl | rfl | rfl | rfl | rfl
  · exact ⟨7, 1, [0, 3], rfl, ⟨by omega, by omega, by omega, by omega, by omega, by decide, by decide⟩⟩
  · exact ⟨4, 2, [1, 2, 3], rfl, ⟨by omega, by omega, by omega, by omega, by omega, by decide, by decide⟩⟩
  · exact ⟨4, 2, [0, 1, 3], rfl, ⟨by omega, by omega, by omega, by omega, by omega, by decide, by decide⟩⟩
  · exact ⟨6, 1, [1, 2, 5], rfl, ⟨by omega, by omega, by omega, by omega, by omega, by decide, by decide⟩⟩
  · exact ⟨5, 1, [1, 2, 3, 4], rfl, ⟨by omega, by omega, by omega, by omega, by omega, by decide, by decide⟩⟩
  · exact ⟨7, 1, [2, 6], rfl, ⟨by omega, by omega, by omega, by omega, by omega, by decide, by decide⟩⟩
  · exact ⟨5, 2, [3], rfl, ⟨by omega, by omega, by omega, by omega, by omega, by decide, by decide⟩⟩
  · exact ⟨5, 1, [0, 1, 4], rfl, ⟨by omega, by omega, by omega, by omega, by omega, by decide, by decide⟩⟩
  · exact ⟨6, 1, [0, 2], rfl, ⟨by omega, by omega, by omega, by omega, by omega, by decide, by decide⟩⟩
theorem upto_up (n : Int) : (upto n).Pairwise (· < ·) := by
  unfold upto
  refine List.Pairwise.map _ ?_ List.pairwise_lt_range
  intro a b h
  exact Int.ofNat_lt.mpr h
theorem law_council_ok (ds : List Int) (hz : ds.length ≤ 100000) : ∃ (n deep : Int) (liars : List Int) (order : Int) (ds' : List Int), Gc n deep liars ∧ (order = 0 ∨ order = 1) ∧ ds'.length ≤ ds.length ∧ F__law_council [.ow (ds.map .int)] = some (.sh (co n deep liars order), [.ow (ds'.map .int)]) := by
  obtain ⟨o, ds1, a0, a1, a2, a3⟩ := take_ok ds 2 (by omega) (by omega)
  obtain ⟨way, ds2, b0, b1, b2, b3⟩ := take_ok ds1 4 (by omega) (by omega)
  by_cases hw : 1 < way
  · obtain ⟨r, ds3, c0, c1, c2, c3⟩ := take_ok ds2 9 (by omega) (by omega)
    obtain ⟨m, d, l, e1, e2⟩ := great r c0 c1
    refine ⟨m, d, l, o, ds3, e2, by omega, by omega, ?_⟩
    refine defF_own rfl (by simp) (by simp) ?_
    unfold b__law_council
    walk_at "ev"
    rw [a3]
    walk_at "ev"
    rw [b3]
    walk_at "ev"
    rw [decide_eq_true hw]
    walk_at "ev"
    rw [c3]
    walk_at "ev"
    rw [e1]
    walk_at "ev"
    exact ⟨_, rfl⟩
  · obtain ⟨q, ds3, c0, c1, c2, c3⟩ := take_ok ds2 6 (by omega) (by omega)
    generalize hm : 2 + q = m
    have hb : 0 < (if m - 2 < 2 then m - 2 else 2) + 1 := by split <;> omega
    obtain ⟨d, ds4, d0, d1, d2, d3⟩ := take_ok ds3 ((if m - 2 < 2 then m - 2 else 2) + 1) hb (by omega)
    have loop : ∀ (g x : Cell) (y : Option (List D × DEnv)), lcL [7] (tgN 7) (bCmp gEq (fFrz (oCall F__law_take (cSlot' 0 (cCons (fC (.int 4)) cNil)))) (fC (.int 0))) (fVar 7) ((upto m).map PyData.int) [.ow (ds4.map .int), g, .sh (.int m), .sh (.int d), .sh (.int o), .sh (.int way), .un, .un] = y →
        ∃ (l ds5 : List Int), y = some (l.map .int, [.ow (ds5.map .int), g, .sh (.int m), .sh (.int d), .sh (.int o), .sh (.int way), .un, .un]) ∧ l.Sublist (upto m) ∧ ds5.length ≤ ds.length := by
      intro g x y hx
      obtain ⟨ys, e, rfl, l, ds5, rfl, f1, f2, rfl⟩ : ∃ ys e, y = some (ys, e) ∧ ∃ (l ds5 : List Int), ys = l.map .int ∧ l.Sublist (upto m) ∧ ds5.length ≤ ds.length ∧ e = [.ow (ds5.map .int), g, .sh (.int m), .sh (.int d), .sh (.int o), .sh (.int way), .un, .un] := by
        rw [← hx]
        refine lcL_run (fun k ys e => ∃ (l ds5 : List Int), ys = l.map .int ∧ l.Sublist ((upto m).take k) ∧ ds5.length ≤ ds.length ∧ e = [.ow (ds5.map .int), g, .sh (.int m), .sh (.int d), .sh (.int o), .sh (.int way), .un, .un]) ⟨[], ds4, rfl, by simp, by omega, rfl⟩ ?_ ?_
        · rintro zs e ⟨l, ds5, h1, h2, h3, h4⟩
          rw [List.length_map, List.take_length] at h2
          exact ⟨l, ds5, h1, h2, h3, h4⟩
        · rintro k dd ys e hk ⟨l, ds5, rfl, h2, h3, rfl⟩
          rw [List.getElem?_map, Option.map_eq_some_iff] at hk
          obtain ⟨v, ho, rfl⟩ := hk
          obtain ⟨w, ds6, f0, f1, f2, f3⟩ := take_ok ds5 4 (by omega) (by omega)
          have ht := take_step ho
          by_cases hq : w = 0
          · refine ⟨some (.int v), [.ow (ds6.map .int), g, .sh (.int m), .sh (.int d), .sh (.int o), .sh (.int way), .un, .un], ?_, l ++ [v], ds6, by simp, by rw [ht]; exact List.Sublist.append h2 (List.Sublist.refl _), by omega, rfl⟩
            walk_at "ev"
            rw [f3]
            walk_at "ev"
            rw [decide_eq_true hq]
            walk_at "ev"
          · refine ⟨none, [.ow (ds6.map .int), g, .sh (.int m), .sh (.int d), .sh (.int o), .sh (.int way), .un, .un], ?_, l, ds6, by simp, by rw [ht]; exact List.Sublist.trans h2 (List.sublist_append_left ..), by omega, rfl⟩
            walk_at "ev"
            rw [f3]
            walk_at "ev"
            rw [decide_eq_false hq]
            walk_at "ev"
      exact ⟨l, ds5, rfl, f1, f2⟩
    obtain ⟨l, ds5, l1, l2, l3⟩ := loop (.ow [.tuple [.int 7, .int 1, .tuple [.int 0, .int 3]], .tuple [.int 4, .int 2, .tuple [.int 1, .int 2, .int 3]], .tuple [.int 4, .int 2, .tuple [.int 0, .int 1, .int 3]], .tuple [.int 6, .int 1, .tuple [.int 1, .int 2, .int 5]], .tuple [.int 5, .int 1, .tuple [.int 1, .int 2, .int 3, .int 4]], .tuple [.int 7, .int 1, .tuple [.int 2, .int 6]], .tuple [.int 5, .int 2, .tuple [.int 3]], .tuple [.int 5, .int 1, .tuple [.int 0, .int 1, .int 4]], .tuple [.int 6, .int 1, .tuple [.int 0, .int 2]]]) .un _ rfl
    have hlen : l.length ≤ 7 := Nat.le_trans l2.length_le (by simp [upto]; omega)
    refine ⟨m, d, l, o, ds5, ⟨by omega, by omega, d0, by split at d1 <;> omega, by split at d1 <;> omega, fun x hx => mem_upto'.mp (l2.subset hx), (upto_up m).sublist l2⟩, by omega, by omega, ?_⟩
    refine defF_own rfl (by simp) (by simp) ?_
    unfold b__law_council
    walk_at "ev"
    rw [a3]
    walk_at "ev"
    rw [b3]
    walk_at "ev"
    rw [decide_eq_false hw]
    walk_at "ev"
    rw [c3]
    walk_at "ev"
    rw [hm]
    have hmin : gMin2 (.int 2) (.int (m - 2)) = some (.int (if m - 2 < 2 then m - 2 else 2)) := rfl
    walk_at "ev"
    rw [hmin]
    walk_at "ev"
    rw [d3]
    walk_at "ev"
    rw [gRange1_int (by omega) (by omega)]
    walk_at "ev"
    rw [l1]
    walk_at "ev"
    exact ⟨_, rfl⟩


end K38
namespace K38
open PySem PySem.Spec PyProof.Rows L2 DL
local macro_rules | `(tactic| walk_at "ev") => `(tactic| try simp -implicitDefEqProofs (disch := first | omega | (simp only [List.length_append, List.length_map, List.length_cons, List.length_nil]; omega)) only [bnd_some, bnd_none, out_some, out_none, fVar_c, fC_c, aNil_c, aCons_c, aStar_c, fOp_c, fUn_c, fCmp_c, bCmp_c, bVal_c, bTru_c, bNot_c, bAnd_c, bOr_c, fAnd_c, fOr_c, fNot_c, fIf_c, fTup_s, oLst_s, szN_ok, mAppend_ok, fFrz_c, oSh_c, cNil_c, cCons_c, cSlot1_c, oCall_c, sSeq_c, sNil_c, sRt_c, sDrop_c, sIf_c, sSet_c, sAsg_c, sFor_c, sParO_c, sExtV_c, sExtO_s, fSl_c, pNone_c, pSome_c, fBlt_c, oList_c, oListRev_c, oSorted_c, fIsT_c, fChain_c, fMd_c, fIt_c, fArgs_c, bYes_c, oLc_s, oLc2_s, fGenB_c, fDictZip_c, fGet2_c, fPk1_c, fPkL_c, fPkR_c, fPkIx_c, bPkL_c, bPkR_c,
  turn, lcT, genT, tgN, tgTup, tgCons, tgNil, gIt, gNeg, gTru, g1, DL.g2, gLen, gInt, getCells, putCells, slotsOf, own?, Cell.owned, isDict, List.drop, List.drop_nil,
  List.cons_append, List.nil_append, List.getElem?_cons_succ, List.getElem?_cons_zero, List.replicate, List.set_cons_succ, List.set_cons_zero, List.length_cons, List.length_nil, Option.map_some, reduceIte, Nat.reduceAdd, Nat.reduceLT, List.nodup_nil, if_true, if_false, Bool.false_eq_true, Bool.true_eq_false, Bool.not_true, Bool.not_false, gSl, cutD_init, gIxC_tup, gIxC_lst, gEq_int, gNe_int, gInC_int, gInC_lint, gNotInC_int, gNotInC_lint, gOrd, List.length_map, at0, at1, at2, at3, DL.peek, isSc, gAdd_int, gSub_int, gSum_int, gMin1_int, gMax1_int, gTuple, gIsN, gNotN, gIsB, gNotB, isNone, isT_int_int, isT_bool_int, isT_tup_tup, isT_tup_lst, isT_lst_tup, isT_lst_lst, isT_bool_bool, isT_tup_bool, isT_lst_bool, isT_tup_int, isT_lst_int, isT_tup_non, isT_lst_non, isT_int_bool, isT_bool_non, DL.wipeD, DL.restD, DL.ownNo, List.all_cons, List.all_nil, Bool.and_true, Bool.and_self, Bool.true_and, and_self, and_true, true_and, decide_true, decide_false, Option.getD_some, oRep_s, repF_0, repF_1, Int.cast_ofNat_Int, Int.natCast_zero, Int.natCast_one, Int.reduceEq, Int.reduceLT, Int.reduceLE, Int.reduceSub, Int.reduceAdd, Int.reduceNe, nd1, sRaise_c, oCallX_c, oInl_c, oOk_c, oIfX_c, sRtX_c, sDropX_c, sSetX_c, sTryW_c, errW_range, errW_form, errW_none, errW_refused, errW_much, in_kv])
variable {n deep order : Int} {liars lies : List Int}
/-- few liars -/
structure Few (n deep : Int) (liars : List Int) (order : Int) : Prop where
  c : Co n deep liars order
  dn : 3 * deep < n
  ll : (liars.length : Int) ≤ deep
  lr : ∀ x ∈ liars, 0 ≤ x ∧ x < n
  lp : liars.Pairwise (· < ·)
/-- few liars part nobody -/
theorem few_same (F : Few n deep liars order) (hb : ∀ v ∈ lies, v = 0 ∨ v = 1) : partB (votes n liars order (decf n deep liars order lies)) = false := by
  obtain ⟨⟨h1, h2, h3, h4, h5⟩, h6, h7, h8, h9⟩ := F
  have L := kv_lies (n := n) (deep := deep) (liars := liars) hb
  apply partB_same
  have one : ∀ x ∈ votes n liars order (decf n deep liars order lies), (∃ o, 0 ≤ o ∧ o < n ∧ o ∉ liars ∧ x = decf n deep liars order lies o) ∨ ((0 : Int) ∉ liars ∧ x = order) := by
    intro x hx
    unfold votes at hx
    rcases List.mem_append.mp hx with hx | hx
    · obtain ⟨o, ho, rfl⟩ := List.mem_map.mp hx
      rw [List.mem_filter] at ho
      have hr := mem_fromTo.mp ho.1
      exact .inl ⟨o, by omega, by omega, by simpa using ho.2, rfl⟩
    · by_cases h0 : (0 : Int) ∈ liars
      · simp [h0] at hx
      · simp [h0] at hx; exact .inr ⟨h0, hx⟩
  intro x hx y hy
  rcases one x hx with ⟨o, o1, o2, o3, rfl⟩ | ⟨z, rfl⟩ <;> rcases one y hy with ⟨q, q1, q2, q3, rfl⟩ | ⟨z', rfl⟩
  · exact decide_alike L h5 h3 (by omega) h7 (by omega) o3 q3 ⟨o1, o2⟩ ⟨q1, q2⟩
  · exact decide_order L h5 h3 (by omega) (by omega) z' o3
  · exact (decide_order L h5 h3 (by omega) (by omega) z q3).symm
  · rfl
theorem few_none (F : Few n deep liars order) : (rowsN (says n deep liars).length).find? (liesP n deep liars order) = none := by
  rw [List.find?_eq_none]
  intro r hr
  have := few_same F (mem_rowsN.mp hr).2
  unfold liesP
  rw [this]; simp

theorem okd_ints (k : Nat) (l : List Int) (h : l.length ≤ 1000000) : okd (k + 2) (tI l) = true := by
  have : ∀ x ∈ l.map PyData.int, okd (k + 1) x = true := by
    intro x hx
    obtain ⟨i, _, rfl⟩ := List.mem_map.mp hx
    rfl
  simp only [okd, Bool.and_eq_true, decide_eq_true_eq, List.all_eq_true, List.length_map]
  exact ⟨h, this⟩
theorem okd_tups (k : Nat) (L : List (List Int)) (h : L.length ≤ 1000000) (hp : ∀ p ∈ L, p.length ≤ 1000000) : okd (k + 3) (.list (L.map tI')) = true := by
  have : ∀ x ∈ L.map tI', okd (k + 2) x = true := by
    intro x hx
    obtain ⟨p, hp', rfl⟩ := List.mem_map.mp hx
    exact okd_ints k p (hp p hp')
  simp only [okd, Bool.and_eq_true, decide_eq_true_eq, List.all_eq_true, List.length_map]
  exact ⟨h, this⟩
theorem says_short (C : Co n deep liars order) : ∀ p ∈ says n deep liars, p.length ≤ 1000000 := by
  intro p hp
  obtain ⟨q, hq, _, o, rfl, _⟩ := raw_ne (says_mem.mp hp)
  have := (path_ne hq).2
  have := C.d2
  simp; omega
theorem okd_told (C : Co n deep liars order) : okd 5 (toldD n deep liars) = true := okd_tups 2 _ (by have := says_small C; omega) (says_short C)
theorem okd_four (a b c : Bool) (l : List Int) (h : l.length ≤ 1000000) : okd 5 (.list [.bool a, .bool b, tI l, .bool c]) = true := by
  have h1 : okd 4 (tI l) = true := okd_ints 2 l h
  show (decide ([PyData.bool a, .bool b, tI l, .bool c].length ≤ 1000000) && List.all [PyData.bool a, .bool b, tI l, .bool c] (okd 4)) = true
  rw [List.all_cons, List.all_cons, List.all_cons, List.all_cons, h1]
  rfl
theorem decs_len (h7 : n ≤ 7) : (decs n deep liars order lies).length ≤ 6 := by simp [decs, ranL]; omega
theorem pick3 (a b c way : Int) (h0 : 0 ≤ way) (h1 : way < 3) (ha : a = 0 ∨ a = 1) (hb : b = 0 ∨ b = 1) (hc : c = 0 ∨ c = 1) : ∃ v : Int, (v = 0 ∨ v = 1) ∧ atI [PyData.int a, .int b, .int c] way = some (.int v) := by
  have : way = 0 ∨ way = 1 ∨ way = 2 := by omega
  rcases this with rfl | rfl | rfl
  · exact ⟨a, ha, rfl⟩
  · exact ⟨b, hb, rfl⟩
  · exact ⟨c, hc, rfl⟩
theorem bits_of (h : ∀ v ∈ lies, v = 0 ∨ v = 1) : bits lies = true := by
  unfold bits
  rw [List.all_eq_true]
  intro v hv
  rcases h v hv with rfl | rfl <;> rfl
abbrev scr (ns : List Int) : Cell := .sh (.list (ns.map .int))
/-- a row drawn -/
theorem row_drawn (C : Co n deep liars order) (ds : List Int) (hz : ds.length ≤ 100000) (x0 x8 x9 : Cell) (t : Int) (y : Option (List D × DEnv)) (hy : lcL [11] (tgN 11) bYes (fOp gIxC (fFrz (oLst (aCons (fFrz (oCall F__law_take (cSlot' 1 (cCons (fC (.int 2)) cNil)))) (aCons (fOp gSub (fC (.int 1)) (fOp gIxC (fVar 2) (fC (.int 3)))) (aCons (fOp gMod (fBlt (g1 gInt) (aCons (fVar 4) aNil)) (fC (.int 2))) aNil))))) (fFrz (oCall F__law_take (cSlot' 1 (cCons (fC (.int 3)) cNil))))) ((says n deep liars).map tI') [x0, .ow (ds.map .int), .sh (co n deep liars order), .sh (toldD n deep liars), .sh (.int t), .un, .un, .un, x8, x9, .un, .un, .un] = y) :
    ∃ (l ds' : List Int), y = some (l.map .int, [x0, .ow (ds'.map .int), .sh (co n deep liars order), .sh (toldD n deep liars), .sh (.int t), .un, .un, .un, x8, x9, .un, .un, .un]) ∧ l.length = (says n deep liars).length ∧ (∀ v ∈ l, v = 0 ∨ v = 1) ∧ ds'.length ≤ ds.length := by
  obtain ⟨ys, e, rfl, l, ds', rfl, f1, f2, f3, rfl⟩ : ∃ ys e, y = some (ys, e) ∧ ∃ (l ds' : List Int), ys = l.map .int ∧ l.length = (says n deep liars).length ∧ (∀ v ∈ l, v = 0 ∨ v = 1) ∧ ds'.length ≤ ds.length ∧ e = [x0, .ow (ds'.map .int), .sh (co n deep liars order), .sh (toldD n deep liars), .sh (.int t), .un, .un, .un, x8, x9, .un, .un, .un] := by
    rw [← hy]
    refine lcL_run (fun k ys e => ∃ (l ds' : List Int), ys = l.map .int ∧ l.length = k ∧ (∀ v ∈ l, v = 0 ∨ v = 1) ∧ ds'.length ≤ ds.length ∧ e = [x0, .ow (ds'.map .int), .sh (co n deep liars order), .sh (toldD n deep liars), .sh (.int t), .un, .un, .un, x8, x9, .un, .un, .un]) ⟨[], ds, rfl, rfl, by simp, by omega, rfl⟩ ?_ ?_
    · rintro zs e ⟨l, ds', h1, h2, h3, h4, h5⟩
      rw [List.length_map] at h2
      exact ⟨l, ds', h1, h2, h3, h4, h5⟩
    · rintro k dd ys e hk ⟨l, ds', rfl, h2, h3, h4, rfl⟩
      rw [List.getElem?_map, Option.map_eq_some_iff] at hk
      obtain ⟨p, hp, rfl⟩ := hk
      obtain ⟨a, ds2, a0, a1, a2, a3⟩ := take_ok ds' 2 (by omega) (by omega)
      obtain ⟨w, ds3, b0, b1, b2, b3⟩ := take_ok ds2 3 (by omega) (by omega)
      have hmod : t.fmod 2 = 0 ∨ t.fmod 2 = 1 := by
        rw [Int.fmod_eq_emod_of_nonneg t (by omega)]; omega
      have ho := C.ord
      obtain ⟨v, hv, hpk⟩ := pick3 a (1 - order) (t.fmod 2) w b0 b1 (by omega) (by omega) hmod
      refine ⟨some (.int v), [x0, .ow (ds3.map .int), .sh (co n deep liars order), .sh (toldD n deep liars), .sh (.int t), .un, .un, .un, x8, x9, .un, .un, .un], ?_, l ++ [v], ds3, by simp, by simp; omega, ?_, by omega, rfl⟩
      · walk_at "ev"
        rw [a3]
        walk_at "ev"
        rw [gMod_int (by omega)]
        walk_at "ev"
        rw [b3]
        walk_at "ev"
        rw [hpk]
        walk_at "ev"
      · intro z hz
        rcases List.mem_append.mp hz with hz | hz
        · exact h3 z hz
        · simp at hz; subst hz; exact hv
  exact ⟨l, ds', rfl, f1, f2, f3⟩

end K38
namespace K38
open PySem PySem.Spec PyProof.Rows L2 DL
local macro_rules | `(tactic| walk_at "ev") => `(tactic| try simp -implicitDefEqProofs (disch := first | omega | (simp only [List.length_append, List.length_map, List.length_cons, List.length_nil]; omega)) only [bnd_some, bnd_none, out_some, out_none, fVar_c, fC_c, aNil_c, aCons_c, aStar_c, fOp_c, fUn_c, fCmp_c, bCmp_c, bVal_c, bTru_c, bNot_c, bAnd_c, bOr_c, fAnd_c, fOr_c, fNot_c, fIf_c, fTup_s, oLst_s, szN_ok, mAppend_ok, fFrz_c, oSh_c, cNil_c, cCons_c, cSlot1_c, oCall_c, sSeq_c, sNil_c, sRt_c, sDrop_c, sIf_c, sSet_c, sAsg_c, sFor_c, sParO_c, sExtV_c, sExtO_s, fSl_c, pNone_c, pSome_c, fBlt_c, oList_c, oListRev_c, oSorted_c, fIsT_c, fChain_c, fMd_c, fIt_c, fArgs_c, bYes_c, oLc_s, oLc2_s, fGenB_c, fDictZip_c, fGet2_c, fPk1_c, fPkL_c, fPkR_c, fPkIx_c, bPkL_c, bPkR_c,
  turn, lcT, genT, tgN, tgTup, tgCons, tgNil, gIt, gNeg, gTru, g1, DL.g2, gLen, gInt, getCells, putCells, slotsOf, own?, Cell.owned, isDict, List.drop, List.drop_nil,
  List.cons_append, List.nil_append, List.getElem?_cons_succ, List.getElem?_cons_zero, List.replicate, List.set_cons_succ, List.set_cons_zero, List.length_cons, List.length_nil, Option.map_some, reduceIte, Nat.reduceAdd, Nat.reduceLT, List.nodup_nil, if_true, if_false, Bool.false_eq_true, Bool.true_eq_false, Bool.not_true, Bool.not_false, gSl, cutD_init, gIxC_tup, gIxC_lst, gEq_int, gNe_int, gInC_int, gInC_lint, gNotInC_int, gNotInC_lint, gOrd, List.length_map, at0, at1, at2, at3, DL.peek, isSc, gAdd_int, gSub_int, gSum_int, gMin1_int, gMax1_int, gTuple, gIsN, gNotN, gIsB, gNotB, isNone, isT_int_int, isT_bool_int, isT_tup_tup, isT_tup_lst, isT_lst_tup, isT_lst_lst, isT_bool_bool, isT_tup_bool, isT_lst_bool, isT_tup_int, isT_lst_int, isT_tup_non, isT_lst_non, isT_int_bool, isT_bool_non, DL.wipeD, DL.restD, DL.ownNo, List.all_cons, List.all_nil, Bool.and_true, Bool.and_self, Bool.true_and, and_self, and_true, true_and, decide_true, decide_false, Option.getD_some, oRep_s, repF_0, repF_1, Int.cast_ofNat_Int, Int.natCast_zero, Int.natCast_one, Int.reduceEq, Int.reduceLT, Int.reduceLE, Int.reduceSub, Int.reduceAdd, Int.reduceNe, nd1, sRaise_c, oCallX_c, oInl_c, oOk_c, oIfX_c, sRtX_c, sDropX_c, sSetX_c, sTryW_c, errW_range, errW_form, errW_none, errW_refused, errW_much, in_kv])
variable {n deep order : Int} {liars lies : List Int} (ns ds : List Int)
theorem turn4 (C : Co n deep liars order) (hz : ds.length ≤ 100000) (x0 x4 x8 x9 : Cell) (t : Int) : ∃ (ds' : List Int) (y8 y9 : Cell), ds'.length ≤ ds.length ∧ turn (tgN 4)
  (sSeq (sSet 8 (oSh (fBlt (g1 gTuple) (aCons (fFrz (oLc [11] (fIt (fVar 3)) (tgN 11) bYes (fOp gIxC (fFrz (oLst (aCons (fFrz (oCall F__law_take (cSlot' 1 (cCons (fC (.int 2)) cNil)))) (aCons (fOp gSub (fC (.int 1)) (fOp gIxC (fVar 2) (fC (.int 3)))) (aCons (fOp gMod (fBlt (g1 gInt) (aCons (fVar 4) aNil)) (fC (.int 2))) aNil))))) (fFrz (oCall F__law_take (cSlot' 1 (cCons (fC (.int 3)) cNil))))))) aNil))))
  (sSeq (sSet 9 (oLst (aCons (fC (.bool true)) (aCons (fC (.bool false)) (aCons (fFrz (oCall F__law_decisions (cCons (fVar 2) (cCons (fVar 8) (cCons (fVar 3) cNil))))) (aCons (fFrz (oCall F__law_parts (cCons (fVar 2) (cCons (fVar 8) (cCons (fVar 3) cNil))))) aNil))))))
  (sIf (bNot (bTru (fFrz (oCall (F__law_alike 5) (cCons (fFrz (oLst (aCons (fFrz (oCall F_are_lies (cCons (fVar 2) (cCons (fVar 8) cNil)))) (aCons (fFrz (oCall F_are_lies (cCons (fVar 2) (cCons (fOp gAdd (fVar 8) (fTup (aCons (fC (.int 0)) aNil))) cNil)))) (aCons (fFrz (oCall F_decisions (cCons (fVar 2) (cCons (fVar 8) cNil)))) (aCons (fFrz (oCall F_do_part (cCons (fVar 2) (cCons (fVar 8) cNil)))) aNil)))))) (cCons (fVar 9) cNil))))))
  (sRt (oSh (fC (.bool false))))
  sNil))) (.int t) [x0, .ow (ds.map .int), .sh (co n deep liars order), .sh (toldD n deep liars), x4, .un, .un, .un, x8, x9, .un, .un, .un] = some (.nx, [x0, .ow (ds'.map .int), .sh (co n deep liars order), .sh (toldD n deep liars), .sh (.int t), .un, .un, .un, y8, y9, .un, .un, .un]) := by
  have h7 := C.n7
  obtain ⟨l, ds1, a1, a2, a3, a4⟩ := row_drawn C ds hz x0 x8 x9 t _ rfl
  have hs := says_small C
  refine ⟨ds1, .sh (tI l), .sh (.list [.bool true, .bool false, tI (decs n deep liars order l), .bool (liesP n deep liars order l)]), a4, ?_⟩
  have e1 := are_lies_ok C l (by omega)
  rw [decide_eq_true a2, bits_of a3] at e1
  have e2 := are_lies_ok C (l ++ [0]) (by simp; omega)
  rw [decide_eq_false (by simp; omega), Bool.false_and] at e2
  have hm : (l.map PyData.int) ++ [PyData.int 0] = (l ++ [0]).map PyData.int := by simp
  have dp := do_part_ok C a2
  have e3 : partB (votes n liars order (decf n deep liars order l)) = liesP n deep liars order l := rfl
  rw [e3] at dp
  walk_at "ev"
  rw [a1]
  walk_at "ev"
  rw [law_decisions_ok C a2]
  walk_at "ev"
  rw [law_parts_ok C a2]
  walk_at "ev"
  rw [e1]
  walk_at "ev"
  rw [gAdd_tup (by simp only [List.length_map, List.length_cons, List.length_nil]; omega), hm]
  walk_at "ev"
  rw [e2]
  walk_at "ev"
  rw [decisions_ok C a2]
  walk_at "ev"
  rw [dp]
  walk_at "ev"
  rw [alike_eq, alike_same 5 _ (okd_four _ _ _ _ (by have := decs_len (n := n) (deep := deep) (liars := liars) (order := order) (lies := l) h7; omega))]
  walk_at "ev"
theorem st3 (C : Co n deep liars order) (G : Gc n deep liars) (x0 : Cell) : (sIf (bOr (bCmp gNotB (fFrz (oCall F_is_council (cCons (fVar 2) cNil))) (fC (.bool true))) (bNot (bTru (fFrz (oCall (F__law_alike 5) (cCons (fFrz (oCall F_sayings (cCons (fVar 2) cNil))) (cCons (fVar 3) cNil)))))))
  (sRt (oSh (fC (.bool false))))
  sNil) [x0, .ow (ds.map .int), .sh (co n deep liars order), .ow ((says n deep liars).map tI'), .un, .un, .un, .un, .un, .un, .un, .un, .un] = some (.nx, [x0, .ow (ds.map .int), .sh (co n deep liars order), .sh (toldD n deep liars), .un, .un, .un, .un, .un, .un, .un, .un, .un]) := by
  have hl : liars.length ≤ 1000 := by
    have h1 := nd_len liars (upto n) (G.lp.imp fun h => by omega) (fun x hx => mem_upto'.mpr (G.lr x hx))
    have h2 : (upto n).length = n.toNat := by simp [upto]
    have := G.n7
    omega
  walk_at "ev"
  rw [council_ok C G.dn G.lr G.lp hl]
  walk_at "ev"
  rw [sayings_ok n deep liars order (by have := C.n2; omega) C.n7 C.d0 C.d2]
  walk_at "ev"
  have := okd_told C
  rw [alike_eq, alike_same 5 _ this]
  walk_at "ev"
theorem st4 (C : Co n deep liars order) (hz : ds.length ≤ 100000) (x0 : Cell) : ∃ (ds' : List Int) (x4 x8 x9 : Cell), ds'.length ≤ 100000 ∧ (sFor (fArgs gRange1 (aCons (fC (.int 3)) aNil)) (tgN 4)
  (sSeq (sSet 8 (oSh (fBlt (g1 gTuple) (aCons (fFrz (oLc [11] (fIt (fVar 3)) (tgN 11) bYes (fOp gIxC (fFrz (oLst (aCons (fFrz (oCall F__law_take (cSlot' 1 (cCons (fC (.int 2)) cNil)))) (aCons (fOp gSub (fC (.int 1)) (fOp gIxC (fVar 2) (fC (.int 3)))) (aCons (fOp gMod (fBlt (g1 gInt) (aCons (fVar 4) aNil)) (fC (.int 2))) aNil))))) (fFrz (oCall F__law_take (cSlot' 1 (cCons (fC (.int 3)) cNil))))))) aNil))))
  (sSeq (sSet 9 (oLst (aCons (fC (.bool true)) (aCons (fC (.bool false)) (aCons (fFrz (oCall F__law_decisions (cCons (fVar 2) (cCons (fVar 8) (cCons (fVar 3) cNil))))) (aCons (fFrz (oCall F__law_parts (cCons (fVar 2) (cCons (fVar 8) (cCons (fVar 3) cNil))))) aNil))))))
  (sIf (bNot (bTru (fFrz (oCall (F__law_alike 5) (cCons (fFrz (oLst (aCons (fFrz (oCall F_are_lies (cCons (fVar 2) (cCons (fVar 8) cNil)))) (aCons (fFrz (oCall F_are_lies (cCons (fVar 2) (cCons (fOp gAdd (fVar 8) (fTup (aCons (fC (.int 0)) aNil))) cNil)))) (aCons (fFrz (oCall F_decisions (cCons (fVar 2) (cCons (fVar 8) cNil)))) (aCons (fFrz (oCall F_do_part (cCons (fVar 2) (cCons (fVar 8) cNil)))) aNil)))))) (cCons (fVar 9) cNil))))))
  (sRt (oSh (fC (.bool false))))
  sNil)))) [x0, .ow (ds.map .int), .sh (co n deep liars order), .sh (toldD n deep liars), .un, .un, .un, .un, .un, .un, .un, .un, .un] = some (.nx, [x0, .ow (ds'.map .int), .sh (co n deep liars order), .sh (toldD n deep liars), x4, .un, .un, .un, x8, x9, .un, .un, .un]) := by
  walk_at "ev"
  rw [gRange1_int (by omega) (by omega)]
  walk_at "ev"
  generalize hx : forL _ _ _ _ = x
  obtain ⟨e, rfl, ds', x4, x8, x9, h1, rfl⟩ : ∃ e, x = some (.nx, e) ∧ ∃ (ds' : List Int) (x4 x8 x9 : Cell), ds'.length ≤ 100000 ∧ e = [x0, .ow (ds'.map .int), .sh (co n deep liars order), .sh (toldD n deep liars), x4, .un, .un, .un, x8, x9, .un, .un, .un] := by
    rw [← hx]
    refine forL_run (fun k e => ∃ (ds' : List Int) (x4 x8 x9 : Cell), ds'.length ≤ 100000 ∧ e = [x0, .ow (ds'.map .int), .sh (co n deep liars order), .sh (toldD n deep liars), x4, .un, .un, .un, x8, x9, .un, .un, .un]) ⟨ds, .un, .un, .un, hz, rfl⟩ (fun e h => h) ?_
    rintro k d e hk ⟨ds', x4, x8, x9, h1, rfl⟩
    rw [List.getElem?_map, Option.map_eq_some_iff] at hk
    obtain ⟨t, _, rfl⟩ := hk
    obtain ⟨ds2, y8, y9, h2, h3⟩ := turn4 ds' C h1 x0 x4 x8 x9 t
    exact ⟨_, .inl h3, ds2, _, y8, y9, by omega, rfl⟩
  exact ⟨ds', x4, x8, x9, h1, rfl⟩
theorem sh_much : SeqAt.shaped (.str "much") = true := by decide +kernel
theorem gNe_much : gNe (.str "much") (.str "much") = some false := by
  simp only [gNe, sh_much, Bool.and_self, if_true, PyData.eqv]
  simp
theorem gEq_much : gEq (.str "much") (.str "much") = some true := gEq_str sh_much
theorem st6_much (C : Co n deep liars order) (x0 x1 x3 x4 x8 x9 : Cell) : (sIf (bAnd (bCmp (gOrd (fun i j => decide (j < i))) (fOp gIxC (fVar 2) (fC (.int 0))) (fOp gMulA (fC (.int 3)) (fOp gIxC (fVar 2) (fC (.int 1))))) (bAnd (bCmp (gOrd (fun i j => decide (i ≤ j))) (fBlt (g1 gLen) (aCons (fOp gIxC (fVar 2) (fC (.int 2))) aNil)) (fOp gIxC (fVar 2) (fC (.int 1)))) (bAnd (bCmp gNotN (fVar 5) (fC .none)) (bCmp gNe (fVar 5) (fC (.str "much"))))))
  (sRt (oSh (fC (.bool false))))
  sNil) [x0, x1, .sh (co n deep liars order), x3, x4, .sh (.str "much"), .un, .un, x8, x9, .un, .un, .un] = some (.nx, [x0, x1, .sh (co n deep liars order), x3, x4, .sh (.str "much"), .un, .un, x8, x9, .un, .un, .un]) := by
  have h0 := C.d0
  have h2 := C.d2
  walk_at "ev"
  rw [gMulA_int (by omega) (by omega)]
  walk_at "ev"
  by_cases h1 : 3 * deep < n
  · rw [decide_eq_true h1]
    walk_at "ev"
    by_cases h2 : (liars.length : Int) ≤ deep
    · rw [decide_eq_true h2]
      walk_at "ev"
      rw [gNe_much]
      walk_at "ev"
    · rw [decide_eq_false h2]
      walk_at "ev"
  · rw [decide_eq_false h1]
    walk_at "ev"
theorem st6_none (C : Co n deep liars order) (x0 x1 x3 x4 x8 x9 : Cell) : (sIf (bAnd (bCmp (gOrd (fun i j => decide (j < i))) (fOp gIxC (fVar 2) (fC (.int 0))) (fOp gMulA (fC (.int 3)) (fOp gIxC (fVar 2) (fC (.int 1))))) (bAnd (bCmp (gOrd (fun i j => decide (i ≤ j))) (fBlt (g1 gLen) (aCons (fOp gIxC (fVar 2) (fC (.int 2))) aNil)) (fOp gIxC (fVar 2) (fC (.int 1)))) (bAnd (bCmp gNotN (fVar 5) (fC .none)) (bCmp gNe (fVar 5) (fC (.str "much"))))))
  (sRt (oSh (fC (.bool false))))
  sNil) [x0, x1, .sh (co n deep liars order), x3, x4, .sh .none, .un, .un, x8, x9, .un, .un, .un] = some (.nx, [x0, x1, .sh (co n deep liars order), x3, x4, .sh .none, .un, .un, x8, x9, .un, .un, .un]) := by
  have h0 := C.d0
  have h2 := C.d2
  walk_at "ev"
  rw [gMulA_int (by omega) (by omega)]
  walk_at "ev"
  by_cases h1 : 3 * deep < n
  · rw [decide_eq_true h1]
    walk_at "ev"
    by_cases h2 : (liars.length : Int) ≤ deep
    · rw [decide_eq_true h2]
      walk_at "ev"
    · rw [decide_eq_false h2]
      walk_at "ev"
  · rw [decide_eq_false h1]
    walk_at "ev"
theorem st6_some (C : Co n deep liars order) (hf : ¬ (3 * deep < n ∧ (liars.length : Int) ≤ deep)) (d5 : D) (x0 x1 x3 x4 x8 x9 : Cell) : (sIf (bAnd (bCmp (gOrd (fun i j => decide (j < i))) (fOp gIxC (fVar 2) (fC (.int 0))) (fOp gMulA (fC (.int 3)) (fOp gIxC (fVar 2) (fC (.int 1))))) (bAnd (bCmp (gOrd (fun i j => decide (i ≤ j))) (fBlt (g1 gLen) (aCons (fOp gIxC (fVar 2) (fC (.int 2))) aNil)) (fOp gIxC (fVar 2) (fC (.int 1)))) (bAnd (bCmp gNotN (fVar 5) (fC .none)) (bCmp gNe (fVar 5) (fC (.str "much"))))))
  (sRt (oSh (fC (.bool false))))
  sNil) [x0, x1, .sh (co n deep liars order), x3, x4, .sh d5, .un, .un, x8, x9, .un, .un, .un] = some (.nx, [x0, x1, .sh (co n deep liars order), x3, x4, .sh d5, .un, .un, x8, x9, .un, .un, .un]) := by
  have h0 := C.d0
  have h2 := C.d2
  walk_at "ev"
  rw [gMulA_int (by omega) (by omega)]
  walk_at "ev"
  by_cases h1 : 3 * deep < n
  · rw [decide_eq_true h1]
    walk_at "ev"
    have h2 : ¬ (liars.length : Int) ≤ deep := fun h => hf ⟨h1, h⟩
    rw [decide_eq_false h2]
    walk_at "ev"
  · rw [decide_eq_false h1]
    walk_at "ev"
theorem st7_much (h : 12 < (says n deep liars).length) (x0 x1 x2 x4 x8 x9 : Cell) : ∃ e, (sIf (bCmp (gOrd (fun i j => decide (j < i))) (fBlt (g1 gLen) (aCons (fVar 3) aNil)) (fC (.int 12)))
  (sRt (oSh (fCmp gEq (fVar 5) (fC (.str "much")))))
  sNil) [x0, x1, x2, .sh (toldD n deep liars), x4, .sh (.str "much"), .un, .un, x8, x9, .un, .un, .un] = some (.rt (.sh (.bool true)), x0 :: e) := by
  have h' : (12 : Int) < ((says n deep liars).length : Nat) := by omega
  walk_at "ev"
  rw [decide_eq_true h']
  walk_at "ev"
  rw [gEq_much]
  walk_at "ev"
  exact ⟨_, rfl⟩
theorem st7_few (h : (says n deep liars).length ≤ 12) (d5 : D) (x0 x1 x2 x4 x8 x9 : Cell) : (sIf (bCmp (gOrd (fun i j => decide (j < i))) (fBlt (g1 gLen) (aCons (fVar 3) aNil)) (fC (.int 12)))
  (sRt (oSh (fCmp gEq (fVar 5) (fC (.str "much")))))
  sNil) [x0, x1, x2, .sh (toldD n deep liars), x4, .sh d5, .un, .un, x8, x9, .un, .un, .un] = some (.nx, [x0, x1, x2, .sh (toldD n deep liars), x4, .sh d5, .un, .un, x8, x9, .un, .un, .un]) := by
  have h' : ¬ (12 : Int) < ((says n deep liars).length : Nat) := by omega
  walk_at "ev"
  rw [decide_eq_false h']
  walk_at "ev"
theorem st8_some (C : Co n deep liars order) {r : List Int} (h1 : r.length = (says n deep liars).length) (h2 : ∀ v ∈ r, v = 0 ∨ v = 1) (h3 : liesP n deep liars order r = true) (x0 x1 x4 x8 x9 : Cell) : ∃ e, (sIf (bCmp gNotN (fVar 5) (fC .none))
  (sRt (oSh (fAnd (fIsT "tuple" (fVar 5)) (fAnd (fCmp gIsB (fFrz (oCall F_are_lies (cCons (fVar 2) (cCons (fVar 5) cNil)))) (fC (.bool true))) (fFrz (oCall F__law_parts (cCons (fVar 2) (cCons (fVar 5) (cCons (fVar 3) cNil)))))))))
  sNil) [x0, x1, .sh (co n deep liars order), .sh (toldD n deep liars), x4, .sh (tI r), .un, .un, x8, x9, .un, .un, .un] = some (.rt (.sh (.bool true)), x0 :: e) := by
  have hs := says_small C
  have e1 := are_lies_ok C r (by omega)
  rw [decide_eq_true h1, bits_of h2] at e1
  walk_at "ev"
  rw [e1]
  walk_at "ev"
  rw [law_parts_ok C h1, h3]
  walk_at "ev"
  exact ⟨_, rfl⟩
theorem st8_none (x0 x1 x2 x3 x4 x8 x9 : Cell) : (sIf (bCmp gNotN (fVar 5) (fC .none))
  (sRt (oSh (fAnd (fIsT "tuple" (fVar 5)) (fAnd (fCmp gIsB (fFrz (oCall F_are_lies (cCons (fVar 2) (cCons (fVar 5) cNil)))) (fC (.bool true))) (fFrz (oCall F__law_parts (cCons (fVar 2) (cCons (fVar 5) (cCons (fVar 3) cNil)))))))))
  sNil) [x0, x1, x2, x3, x4, .sh .none, .un, .un, x8, x9, .un, .un, .un] = some (.nx, [x0, x1, x2, x3, x4, .sh .none, .un, .un, x8, x9, .un, .un, .un]) := by
  walk_at "ev"
/-- the powers of two -/
def pows (m : Nat) : List Int := (upto (m : Int)).map fun k => 2 ^ k.toNat
theorem pow_small {k : Nat} (h : k ≤ 12) : (2 : Int) ^ k ≤ 4096 := by
  have := pow_le2 k (12 - k)
  rw [show k + (12 - k) = 12 by omega] at this
  exact this
theorem pow_fact {m : Nat} (hm : m ≤ 12) {k : Int} (h0 : 0 ≤ k) (h1 : k ≤ (m : Int)) : F__law_power [.sh (.int k)] = some (.sh (.int (2 ^ k.toNat)), [.sh (.int k)]) :=
  law_power_ok k h0 (by omega) (by have := pow_small (show k.toNat ≤ 12 by omega); omega)
theorem st9 (h : (says n deep liars).length ≤ 12) (x0 x1 x2 x4 x5 x8 x9 : Cell) : (sSet 6 (oLc [10] (fArgs gRange1 (aCons (fBlt (g1 gLen) (aCons (fVar 3) aNil)) aNil)) (tgN 10) bYes (fFrz (oCall F__law_power (cCons (fVar 10) cNil))))) [x0, x1, x2, .sh (toldD n deep liars), x4, x5, .un, .un, x8, x9, .un, .un, .un] = some (.nx, [x0, x1, x2, .sh (toldD n deep liars), x4, x5, .ow ((pows (says n deep liars).length).map .int), .un, x8, x9, .un, .un, .un]) := by
  walk_at "ev"
  rw [gRange1_int (by omega) (by omega)]
  walk_at "ev"
  rw [lcL_of PyData.int (fun _ => true) (fun k => .int (2 ^ k.toNat))]
  · have hf : ((upto (((says n deep liars).length : Nat) : Int)).filter fun _ => true).length ≤ 1000 := Nat.le_trans (List.length_filter_le _ _) (by simp [upto]; omega)
    walk_at "ev"
    rw [List.filter_eq_self.mpr (fun _ _ => rfl), show (upto (((says n deep liars).length : Nat) : Int)).map (fun k => PyData.int (2 ^ k.toNat)) = (pows (says n deep liars).length).map .int by simp [pows]]
  · intro o ho
    have ho := mem_upto'.mp ho
    walk_at "ev"
    rw [pow_fact h ho.1 (by omega)]
    walk_at "ev"
/-- a number's row -/
def rowOf (m : Nat) (v : Int) : List Int := (pows m).map fun p => (v.fdiv p).fmod 2
theorem rowOf_mem (m : Nat) (v : Int) : rowOf m v ∈ rowsN m := by
  refine mem_rowsN.mpr ⟨by simp [rowOf, pows, upto], fun x hx => ?_⟩
  obtain ⟨p, _, rfl⟩ := List.mem_map.mp hx
  show (v.fdiv p).fmod 2 = 0 ∨ (v.fdiv p).fmod 2 = 1
  rw [Int.fmod_eq_emod_of_nonneg _ (by omega)]; omega
theorem turn10 (C : Co n deep liars order) (h : (says n deep liars).length ≤ 12) (hn : (rowsN (says n deep liars).length).find? (liesP n deep liars order) = none) (v : Int) (x0 x1 x4 x5 c6 x7 x8 x9 : Cell) (hc : LC c6 ((pows (says n deep liars).length).map .int)) : turn (tgN 7)
  (sIf (bTru (fFrz (oCall F__law_parts (cCons (fVar 2) (cCons (fBlt (g1 gTuple) (aCons (fFrz (oLc [12] (fIt (fVar 6)) (tgN 12) bYes (fOp gMod (fBlt (g1 gInt) (aCons (fOp gFdiv (fVar 7) (fVar 12)) aNil)) (fC (.int 2))))) aNil)) (cCons (fVar 3) cNil))))))
  (sRt (oSh (fC (.bool false))))
  sNil) (.int v) [x0, x1, .sh (co n deep liars order), .sh (toldD n deep liars), x4, x5, c6, x7, x8, x9, .un, .un, .un] = some (.nx, [x0, x1, .sh (co n deep liars order), .sh (toldD n deep liars), x4, x5, .sh (.list ((pows (says n deep liars).length).map .int)), .sh (.int v), x8, x9, .un, .un, .un]) := by
  have hm := rowOf_mem (says n deep liars).length v
  have hp := List.find?_eq_none.mp hn _ hm
  have hl := (mem_rowsN.mp hm).1
  have e : (pows (says n deep liars).length).map (fun p => PyData.int ((v.fdiv p).fmod 2)) = (rowOf (says n deep liars).length v).map .int := by simp [rowOf]
  have hz : (pows (says n deep liars).length).length ≤ 12 := by simp [pows, upto]; omega
  have hp : liesP n deep liars order (rowOf (says n deep liars).length v) = false := by simpa using hp
  rcases hc with rfl | rfl <;>
  · walk_at "ev"
    rw [lcL_of PyData.int (fun _ => true) (fun p => .int ((v.fdiv p).fmod 2))]
    · have hf : ((pows (says n deep liars).length).filter fun _ => true).length ≤ 1000 := Nat.le_trans (List.length_filter_le _ _) (by omega)
      walk_at "ev"
      rw [List.filter_eq_self.mpr (fun _ _ => rfl), e, law_parts_ok C hl, hp]
      walk_at "ev"
    · intro p hp
      obtain ⟨k, hk, rfl⟩ := List.mem_map.mp hp
      have hk := mem_upto'.mp hk
      have h1 := pow_pos2 k.toNat
      have h2 := pow_small (show k.toNat ≤ 12 by omega)
      walk_at "ev"
      rw [gFdiv_int (by omega) (by omega)]
      walk_at "ev"
      rw [gMod_int (by omega)]
      walk_at "ev"
theorem st10 (C : Co n deep liars order) (h : (says n deep liars).length ≤ 12) (hn : (rowsN (says n deep liars).length).find? (liesP n deep liars order) = none) (x0 x1 x4 x5 x8 x9 : Cell) : ∃ e, (sFor (fArgs gRange1 (aCons (fFrz (oCall F__law_power (cCons (fBlt (g1 gLen) (aCons (fVar 3) aNil)) cNil))) aNil)) (tgN 7)
  (sIf (bTru (fFrz (oCall F__law_parts (cCons (fVar 2) (cCons (fBlt (g1 gTuple) (aCons (fFrz (oLc [12] (fIt (fVar 6)) (tgN 12) bYes (fOp gMod (fBlt (g1 gInt) (aCons (fOp gFdiv (fVar 7) (fVar 12)) aNil)) (fC (.int 2))))) aNil)) (cCons (fVar 3) cNil))))))
  (sRt (oSh (fC (.bool false))))
  sNil)) [x0, x1, .sh (co n deep liars order), .sh (toldD n deep liars), x4, x5, .ow ((pows (says n deep liars).length).map .int), .un, x8, x9, .un, .un, .un] = some (.nx, x0 :: e) := by
  have hb := pow_small h
  have hb0 := pow_pos2 (says n deep liars).length
  walk_at "ev"
  rw [pow_fact h (by omega) (by omega), Int.toNat_natCast]
  walk_at "ev"
  rw [gRange1_int (by omega) (by omega)]
  walk_at "ev"
  generalize hx : forL _ _ _ _ = x
  obtain ⟨e, rfl, e', rfl⟩ : ∃ e, x = some (.nx, e) ∧ ∃ e', e = x0 :: e' := by
    rw [← hx]
    refine forL_run (fun k e => ∃ c6 x7, LC c6 ((pows (says n deep liars).length).map .int) ∧ e = [x0, x1, .sh (co n deep liars order), .sh (toldD n deep liars), x4, x5, c6, x7, x8, x9, .un, .un, .un]) ⟨_, _, .inl rfl, rfl⟩ (fun e ⟨c6, x7, _, h⟩ => ⟨_, h⟩) ?_
    rintro k d e hk ⟨c6, x7, hc, rfl⟩
    rw [List.getElem?_map, Option.map_eq_some_iff] at hk
    obtain ⟨v, _, rfl⟩ := hk
    exact ⟨_, .inl (turn10 C h hn v x0 x1 x4 x5 c6 x7 x8 x9 hc), _, _, .inr rfl, rfl⟩
  exact ⟨_, rfl⟩

end K38
namespace K38
open PySem PySem.Spec PyProof.Rows L2 DL
local macro_rules | `(tactic| walk_at "ev") => `(tactic| try simp -implicitDefEqProofs (disch := first | omega | (simp only [List.length_append, List.length_map, List.length_cons, List.length_nil]; omega)) only [bnd_some, bnd_none, out_some, out_none, fVar_c, fC_c, aNil_c, aCons_c, aStar_c, fOp_c, fUn_c, fCmp_c, bCmp_c, bVal_c, bTru_c, bNot_c, bAnd_c, bOr_c, fAnd_c, fOr_c, fNot_c, fIf_c, fTup_s, oLst_s, szN_ok, mAppend_ok, fFrz_c, oSh_c, cNil_c, cCons_c, cSlot1_c, oCall_c, sSeq_c, sNil_c, sRt_c, sDrop_c, sIf_c, sSet_c, sAsg_c, sFor_c, sParO_c, sExtV_c, sExtO_s, fSl_c, pNone_c, pSome_c, fBlt_c, oList_c, oListRev_c, oSorted_c, fIsT_c, fChain_c, fMd_c, fIt_c, fArgs_c, bYes_c, oLc_s, oLc2_s, fGenB_c, fDictZip_c, fGet2_c, fPk1_c, fPkL_c, fPkR_c, fPkIx_c, bPkL_c, bPkR_c,
  turn, lcT, genT, tgN, tgTup, tgCons, tgNil, gIt, gNeg, gTru, g1, DL.g2, gLen, gInt, getCells, putCells, slotsOf, own?, Cell.owned, isDict, List.drop, List.drop_nil,
  List.cons_append, List.nil_append, List.getElem?_cons_succ, List.getElem?_cons_zero, List.replicate, List.set_cons_succ, List.set_cons_zero, List.length_cons, List.length_nil, Option.map_some, reduceIte, Nat.reduceAdd, Nat.reduceLT, List.nodup_nil, if_true, if_false, Bool.false_eq_true, Bool.true_eq_false, Bool.not_true, Bool.not_false, gSl, cutD_init, gIxC_tup, gIxC_lst, gEq_int, gNe_int, gInC_int, gInC_lint, gNotInC_int, gNotInC_lint, gOrd, List.length_map, at0, at1, at2, at3, DL.peek, isSc, gAdd_int, gSub_int, gSum_int, gMin1_int, gMax1_int, gTuple, gIsN, gNotN, gIsB, gNotB, isNone, isT_int_int, isT_bool_int, isT_tup_tup, isT_tup_lst, isT_lst_tup, isT_lst_lst, isT_bool_bool, isT_tup_bool, isT_lst_bool, isT_tup_int, isT_lst_int, isT_tup_non, isT_lst_non, isT_int_bool, isT_bool_non, DL.wipeD, DL.restD, DL.ownNo, List.all_cons, List.all_nil, Bool.and_true, Bool.and_self, Bool.true_and, and_self, and_true, true_and, decide_true, decide_false, Option.getD_some, oRep_s, repF_0, repF_1, Int.cast_ofNat_Int, Int.natCast_zero, Int.natCast_one, Int.reduceEq, Int.reduceLT, Int.reduceLE, Int.reduceSub, Int.reduceAdd, Int.reduceNe, nd1, sRaise_c, oCallX_c, oInl_c, oOk_c, oIfX_c, sRtX_c, sDropX_c, sSetX_c, sTryW_c, errW_range, errW_form, errW_none, errW_refused, errW_much, in_kv])
theorem sSeq_rt {f g : SF} {env e : DEnv} {c : Cell} (h : f env = some (.rt c, e)) : sSeq f g env = some (.rt c, e) := by unfold sSeq; rw [h]
theorem law_ok (ns : List Int) (hns : ns.length ≤ 63) : ∃ e, F_law [scr ns] = some (.sh (.bool true), e) := by
  obtain ⟨ds0, l0, hdraws⟩ := draws_ok ns hns
  obtain ⟨n, deep, liars, order, ds1, G, ho, l1, hcou⟩ := law_council_ok ds0 (by omega)
  have C : Co n deep liars order := ⟨G.n2, G.n7, G.d0, G.d2, ho⟩
  have hn : 0 ≤ n := by have := C.n2; omega
  refine ⟨[scr ns], ?_⟩
  refine defF_sh rfl rfl (by intro c hc; simp only [List.mem_cons, List.not_mem_nil, or_false] at hc; rcases hc with rfl; rfl) ?_
  unfold b_law
  have h0 : (sSet 1 (oCall F__law_draws (cCons (fVar 0) cNil))) ([scr ns] ++ List.replicate 12 .un) = some (.nx, [scr ns, .ow (ds0.map .int), .un, .un, .un, .un, .un, .un, .un, .un, .un, .un, .un]) := by
    walk_at "ev"
    rw [hdraws]
    walk_at "ev"
  rw [sSeq_nx h0]
  have h1 : (sSet 2 (oCall F__law_council (cSlot' 1 cNil))) [scr ns, .ow (ds0.map .int), .un, .un, .un, .un, .un, .un, .un, .un, .un, .un, .un] = some (.nx, [scr ns, .ow (ds1.map .int), .sh (co n deep liars order), .un, .un, .un, .un, .un, .un, .un, .un, .un, .un]) := by
    walk_at "ev"
    rw [hcou]
    walk_at "ev"
  rw [sSeq_nx h1]
  have h2 : (sSet 3 (oCall F__law_sayings (cCons (fVar 2) cNil))) [scr ns, .ow (ds1.map .int), .sh (co n deep liars order), .un, .un, .un, .un, .un, .un, .un, .un, .un, .un] = some (.nx, [scr ns, .ow (ds1.map .int), .sh (co n deep liars order), .ow ((says n deep liars).map tI'), .un, .un, .un, .un, .un, .un, .un, .un, .un]) := by
    walk_at "ev"
    rw [law_sayings_ok n deep liars order hn C.n7 C.d0 C.d2]
    walk_at "ev"
  rw [sSeq_nx h2, sSeq_nx (st3 ds1 C G (scr ns))]
  obtain ⟨ds2, x4, x8, x9, l2, h4⟩ := st4 ds1 C (by omega) (scr ns)
  rw [sSeq_nx h4]
  have told := told_ok C
  by_cases hm : 12 < (says n deep liars).length
  · rw [if_pos hm] at told
    have h5 : (sSet 5 (oCall F__law_told (cCons (fVar 2) cNil))) [scr ns, .ow (ds2.map .int), .sh (co n deep liars order), .sh (toldD n deep liars), x4, .un, .un, .un, x8, x9, .un, .un, .un] = some (.nx, [scr ns, .ow (ds2.map .int), .sh (co n deep liars order), .sh (toldD n deep liars), x4, .sh (.str "much"), .un, .un, x8, x9, .un, .un, .un]) := by
      walk_at "ev"
      rw [told]
      walk_at "ev"
    rw [sSeq_nx h5, sSeq_nx (st6_much C ..)]
    obtain ⟨e, h7⟩ := st7_much hm (scr ns) (.ow (ds2.map .int)) (.sh (co n deep liars order)) x4 x8 x9
    exact ⟨_, sSeq_rt h7⟩
  · rw [if_neg hm] at told
    have hm : (says n deep liars).length ≤ 12 := by omega
    cases hf : (rowsN (says n deep liars).length).find? (liesP n deep liars order) with
    | some r =>
      rw [hf] at told
      have h5 : (sSet 5 (oCall F__law_told (cCons (fVar 2) cNil))) [scr ns, .ow (ds2.map .int), .sh (co n deep liars order), .sh (toldD n deep liars), x4, .un, .un, .un, x8, x9, .un, .un, .un] = some (.nx, [scr ns, .ow (ds2.map .int), .sh (co n deep liars order), .sh (toldD n deep liars), x4, .sh (tI r), .un, .un, x8, x9, .un, .un, .un]) := by
        walk_at "ev"
        rw [told]
        walk_at "ev"
      have hno : ¬ (3 * deep < n ∧ (liars.length : Int) ≤ deep) := fun ⟨a, b⟩ => by
        have := few_none (n := n) (deep := deep) (liars := liars) (order := order) ⟨C, a, b, G.lr, G.lp⟩
        rw [hf] at this
        cases this
      have hr := mem_rowsN.mp (List.mem_of_find?_eq_some hf)
      rw [sSeq_nx h5, sSeq_nx (st6_some C hno ..), sSeq_nx (st7_few hm ..)]
      obtain ⟨e, h8⟩ := st8_some C hr.1 hr.2 (List.find?_some hf) (scr ns) (.ow (ds2.map .int)) x4 x8 x9
      exact ⟨_, sSeq_rt h8⟩
    | none =>
      rw [hf] at told
      have h5 : (sSet 5 (oCall F__law_told (cCons (fVar 2) cNil))) [scr ns, .ow (ds2.map .int), .sh (co n deep liars order), .sh (toldD n deep liars), x4, .un, .un, .un, x8, x9, .un, .un, .un] = some (.nx, [scr ns, .ow (ds2.map .int), .sh (co n deep liars order), .sh (toldD n deep liars), x4, .sh .none, .un, .un, x8, x9, .un, .un, .un]) := by
        walk_at "ev"
        rw [told]
        walk_at "ev"
      rw [sSeq_nx h5, sSeq_nx (st6_none C ..), sSeq_nx (st7_few hm ..), sSeq_nx (st8_none ..), sSeq_nx (st9 hm ..)]
      obtain ⟨e, h10⟩ := st10 C hm hf (scr ns) (.ow (ds2.map .int)) x4 (.sh .none) x8 x9
      rw [sSeq_nx h10]
      walk_at "ev"
      exact ⟨_, rfl⟩

end K38
theorem PySem.Challenge.cw_happenedfirst_k38_whole_councils_of_twel_holds : PySem.Challenge.rw_happenedfirst_k38_whole_councils_of_twel.Holds := by
  exact K38.holds fun ns hn _ => K38.law_ok ns hn
