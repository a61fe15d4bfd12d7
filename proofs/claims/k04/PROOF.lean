import PyProof.Rows.All
import Wide.All
import OpenK.AllK
import Wide.FinOn
import HandS.ForMost
import HandS.ForExc
import HandS.Lambda
import KE.KDictKeyed
import KE.KDictWalk
import KE.KDictDisplayH
import KE.KDictCopyH
import KE.KDflt
import HandS.Nested
import HandS.Zip
import KE.GoesMore
import HandS.IsInst
import HandS.TupAny
import HandS.TupMul
import HandS.SortInts
import HandS.Sort
import HandS.Conv
import HandS.More
import HandS.SortKw
import HandS.Deep
import HandS.Ends
import HandS.Keys
import KE.KSortKey
import HandS.EndTab
import HandS.MapSum
import KE.KDictSum
import HandS.ExcInit
import HandS.ExcField
import HandS.MakeKwOnly
import HandS.TryMany
import KE.KExcIs
import HandS.ExcIs
import HandS.ExcOwn
import HandS.Style
import KE.GoesComp
import KE.SortData
import PyProof.DictMoreH
import HandS.TupLen
import KE.KEqDict
import KE.SortKeyHeap
import PySem.Challenge.RW_nestboxes_k04_all_nestings_by_search
set_option Elab.async false
set_option linter.all false
set_option maxRecDepth 100000
set_option maxHeartbeats 1000000
set_option autoImplicit false
/-! The data layer: values as plain data, the objects that change as a small memory. -/
namespace Nb
open PySem PySem.Spec PyProof.Rows L2

abbrev Dat := PyData
/-- a live object -/
abbrev rf (a : Nat) : Dat := PyData.dict [(PyData.int (Int.ofNat a), PyData.none)]

mutual
def Rp (K : PySem.W.Frag) (F : Hp) : PyData → V → Prop
  | .none, v => v = .non
  | .bool b, v => v = .bl b
  | .int i, v => v = .int i
  | .str x, v => v = .str x
  | .list ds, v => ∃ a vs, v = .ref a ∧ SqL K F a vs ∧ RpAll K F ds vs
  | .tuple ds, v => ∃ a vs, v = .ref a ∧ SqT K F a vs ∧ RpAll K F ds vs
  | .dict kvs, v => ∃ a : Nat, kvs = [(.int (Int.ofNat a), .none)] ∧ v = .ref a
def RpAll (K : PySem.W.Frag) (F : Hp) : List PyData → List V → Prop
  | [], vs => vs = []
  | d :: ds, vs => ∃ v r, vs = v :: r ∧ Rp K F d v ∧ RpAll K F ds r
end

theorem Same.seqT {K : PySem.W.Frag} {H H' : Hp} {a : Addr} {xs : List V} (e : Same H H') (h : SqT K H a xs) : SqT K H' a xs := by
  rcases h with (h | ⟨o, h⟩) | h
  · exact .inl (.inl (e _ _ h))
  · exact .inl (.inr ⟨o, e _ _ h⟩)
  · exact .inr h

section
variable {K : PySem.W.Frag} {F F' : Hp}
mutual
theorem Rp.mono (s : Same F F') : ∀ {d : PyData} {v : V}, Rp K F d v → Rp K F' d v
  | .none, _, h => by simpa only [Rp] using h
  | .bool _, _, h => by simpa only [Rp] using h
  | .int _, _, h => by simpa only [Rp] using h
  | .str _, _, h => by simpa only [Rp] using h
  | .list ds, v, h => by
    simp only [Rp] at h ⊢
    obtain ⟨a, vs, e, q, r⟩ := h
    exact ⟨a, vs, e, s.seq q, RpAll.mono s r⟩
  | .tuple ds, v, h => by
    simp only [Rp] at h ⊢
    obtain ⟨a, vs, e, q, r⟩ := h
    exact ⟨a, vs, e, Same.seqT s q, RpAll.mono s r⟩
  | .dict _, _, h => by simpa only [Rp] using h
theorem RpAll.mono (s : Same F F') : ∀ {ds : List PyData} {vs : List V}, RpAll K F ds vs → RpAll K F' ds vs
  | [], _, h => by simpa only [RpAll] using h
  | d :: ds, vs, h => by
    simp only [RpAll] at h ⊢
    obtain ⟨v, r, e, h1, h2⟩ := h
    exact ⟨v, r, e, Rp.mono s h1, RpAll.mono s h2⟩
end
theorem RpAll.nil : RpAll K F [] [] := by simp only [RpAll]
theorem RpAll.cons {d : Dat} {ds : List Dat} {v : V} {vs : List V} (h : Rp K F d v) (t : RpAll K F ds vs) : RpAll K F (d :: ds) (v :: vs) := by
  simp only [RpAll]
  exact ⟨v, vs, rfl, h, t⟩
theorem RpAll.inv {d : Dat} {ds : List Dat} {vs : List V} (h : RpAll K F (d :: ds) vs) : ∃ v r, vs = v :: r ∧ Rp K F d v ∧ RpAll K F ds r := by
  simpa only [RpAll] using h
theorem RpAll.nil_inv {vs : List V} (h : RpAll K F [] vs) : vs = [] := by simpa only [RpAll] using h
theorem RpAll.len : ∀ {ds : List Dat} {vs : List V}, RpAll K F ds vs → vs.length = ds.length
  | [], vs, h => by rw [h.nil_inv]; rfl
  | d :: ds, vs, h => by
    obtain ⟨v, r, rfl, _, t⟩ := h.inv
    simp only [List.length_cons, RpAll.len t]
theorem RpAll.get : ∀ {ds : List Dat} {vs : List V} {i : Nat} {d : Dat}, RpAll K F ds vs → ds[i]? = some d → ∃ v, vs[i]? = some v ∧ Rp K F d v
  | [], vs, i, d, h, e => by simp at e
  | d0 :: ds, vs, 0, d, h, e => by
    obtain ⟨v, r, rfl, h1, t⟩ := h.inv
    simp at e
    subst e
    exact ⟨v, rfl, h1⟩
  | d0 :: ds, vs, i + 1, d, h, e => by
    obtain ⟨v, r, rfl, h1, t⟩ := h.inv
    simp at e
    obtain ⟨u, h2, h3⟩ := RpAll.get t e
    exact ⟨u, by simpa using h2, h3⟩
theorem RpAll.get' : ∀ {ds : List Dat} {vs : List V} {i : Nat} {v : V}, RpAll K F ds vs → vs[i]? = some v → ∃ d, ds[i]? = some d ∧ Rp K F d v
  | [], vs, i, v, h, e => by rw [h.nil_inv] at e; simp at e
  | d0 :: ds, vs, 0, v, h, e => by
    obtain ⟨v', r, rfl, h1, t⟩ := h.inv
    simp at e
    subst e
    exact ⟨d0, rfl, h1⟩
  | d0 :: ds, vs, i + 1, v, h, e => by
    obtain ⟨v', r, rfl, h1, t⟩ := h.inv
    simp at e
    obtain ⟨u, h2, h3⟩ := RpAll.get' t e
    exact ⟨u, by simpa using h2, h3⟩
theorem RpAll.append : ∀ {ds es : List Dat} {vs us : List V}, RpAll K F ds vs → RpAll K F es us → RpAll K F (ds ++ es) (vs ++ us)
  | [], es, vs, us, h, t => by rw [h.nil_inv]; exact t
  | d :: ds, es, vs, us, h, t => by
    obtain ⟨v, r, rfl, h1, h2⟩ := h.inv
    exact RpAll.cons h1 (RpAll.append h2 t)
theorem RpAll.take : ∀ {ds : List Dat} {vs : List V} (n : Nat), RpAll K F ds vs → RpAll K F (ds.take n) (vs.take n)
  | _, _, 0, _ => by simpa using RpAll.nil
  | [], vs, n + 1, h => by rw [h.nil_inv]; simpa using RpAll.nil
  | d :: ds, vs, n + 1, h => by
    obtain ⟨v, r, rfl, h1, h2⟩ := h.inv
    exact RpAll.cons h1 (RpAll.take n h2)
theorem RpAll.drop : ∀ {ds : List Dat} {vs : List V} (n : Nat), RpAll K F ds vs → RpAll K F (ds.drop n) (vs.drop n)
  | _, _, 0, h => by simpa using h
  | [], vs, n + 1, h => by rw [h.nil_inv]; simpa using RpAll.nil
  | d :: ds, vs, n + 1, h => by
    obtain ⟨v, r, rfl, h1, h2⟩ := h.inv
    simpa using RpAll.drop n h2
theorem RpAll.set : ∀ {ds : List Dat} {vs : List V} {d : Dat} {v : V} (i : Nat), RpAll K F ds vs → Rp K F d v → RpAll K F (ds.set i d) (vs.set i v)
  | [], vs, d, v, i, h, r => by rw [h.nil_inv]; simpa using RpAll.nil
  | d0 :: ds, vs, d, v, 0, h, r => by
    obtain ⟨v', r', rfl, h1, h2⟩ := h.inv
    exact RpAll.cons r h2
  | d0 :: ds, vs, d, v, i + 1, h, r => by
    obtain ⟨v', r', rfl, h1, h2⟩ := h.inv
    exact RpAll.cons h1 (RpAll.set i h2 r)
theorem RpAll.rev : ∀ {ds : List Dat} {vs : List V}, RpAll K F ds vs → RpAll K F ds.reverse vs.reverse
  | [], vs, h => by rw [h.nil_inv]; simpa using RpAll.nil
  | d :: ds, vs, h => by
    obtain ⟨v, r, rfl, h1, h2⟩ := h.inv
    rw [List.reverse_cons, List.reverse_cons]
    exact (RpAll.rev h2).append (RpAll.cons h1 RpAll.nil)
theorem RpAll.eraseIdx : ∀ {ds : List Dat} {vs : List V} (i : Nat), RpAll K F ds vs → RpAll K F (ds.eraseIdx i) (vs.eraseIdx i)
  | [], vs, i, h => by rw [h.nil_inv]; simpa using RpAll.nil
  | d :: ds, vs, 0, h => by
    obtain ⟨v, r, rfl, h1, h2⟩ := h.inv
    simpa using h2
  | d :: ds, vs, i + 1, h => by
    obtain ⟨v, r, rfl, h1, h2⟩ := h.inv
    exact RpAll.cons h1 (RpAll.eraseIdx i h2)
theorem Rp.non {v : V} : Rp K F .none v ↔ v = .non := by simp only [Rp]
theorem Rp.bl {b : Bool} {v : V} : Rp K F (.bool b) v ↔ v = .bl b := by simp only [Rp]
theorem Rp.int {i : Int} {v : V} : Rp K F (.int i) v ↔ v = .int i := by simp only [Rp]
theorem Rp.str {x : Str} {v : V} : Rp K F (.str x) v ↔ v = .str x := by simp only [Rp]
theorem Rp.lst {ds : List Dat} {v : V} : Rp K F (.list ds) v ↔ ∃ a vs, v = .ref a ∧ SqL K F a vs ∧ RpAll K F ds vs := by simp only [Rp]
theorem Rp.tup {ds : List Dat} {v : V} : Rp K F (.tuple ds) v ↔ ∃ a vs, v = .ref a ∧ SqT K F a vs ∧ RpAll K F ds vs := by simp only [Rp]
theorem Rp.rf {a : Nat} {v : V} : Rp K F (rf a) v ↔ v = .ref a := by
  constructor
  · intro h
    simp only [Nb.rf, Rp] at h
    obtain ⟨b, e, rfl⟩ := h
    injection e with e _
    injection e with e _
    injection e with e
    injection e with e
    rw [e]
  · intro h
    simp only [Nb.rf, Rp]
    exact ⟨a, rfl, h⟩
theorem RpAll.ints : ∀ {ns : List Int} {vs : List V}, RpAll K F (ns.map PyData.int) vs → vs = ns.map V.int
  | [], vs, h => h.nil_inv
  | n :: ns, vs, h => by
    obtain ⟨v, r, rfl, h1, h2⟩ := RpAll.inv (by simpa using h)
    rw [Rp.int.mp h1, RpAll.ints h2]
    rfl
theorem RpAll.of_ints : ∀ {ns : List Int}, RpAll K F (ns.map PyData.int) (ns.map V.int)
  | [] => RpAll.nil
  | n :: ns => RpAll.cons (Rp.int.mpr rfl) RpAll.of_ints
end

/-! ### dicts whose keys are nestings -/
def od : Option Nat → Dat
  | none => .none
  | some k => .int (k : Int)
def lf : Option Nat → Leaf
  | none => .none
  | some k => .num (k : Int)
def hLf : Leaf → Int
  | .none => reduceHash 0xFCA86420
  | .num i => hashInt i
  | .text _ => 0
def hashL (ks : List Leaf) : Int := reduceHash (Builtin.Tuple.tupleHashOf (ks.map hLf))
def entL (x : List Leaf × Addr × Value) : DictEntry := ⟨hashL x.1, .ref x.2.1, x.2.2⟩
def DcO (a : Addr) (xs : List (List Leaf × Addr × Value)) : HO := .ext fun h => (a == sysModules) = false ∧ ∃ o es ep, h.get? a = some o ∧ o.ExactDict ∧ o.data = .dict es ep ∧ es.toList = xs.map entL ∧ (xs.map (·.1)).Nodup
abbrev HK := List (Option Nat)
abbrev DcP (K : PySem.W.Frag) (F : Hp) : List (HK × Int) → List (List Leaf × Addr × Value) → Prop := Paired fun p q => q.1 = p.1.map lf ∧ Rp K F (.tuple (p.1.map od)) (.ref q.2.1) ∧ RelV (.int p.2) q.2.2
theorem DcP.mono {K : PySem.W.Frag} {F F' : Hp} (s : Same F F') {kvs : List (HK × Int)} {xs : List (List Leaf × Addr × Value)} (h : DcP K F kvs xs) : DcP K F' kvs xs := L2.Paired.mapP h fun _ _ q => ⟨q.1, q.2.1.mono s, q.2.2⟩
/-! ### memory -/
/-- an exception: its class, its own values by their names -/
structure DX where
  cls : Str
  nms : List Str
  vals : List Dat
/-- a caught exception -/
def EXO (a : Addr) (cls : Value) (d : Option Addr) : HO := .ext fun h => ∃ (oe : Obj) (vs : Array Value), h.get? a = some oe ∧ Zc cls d oe ∧ oe.data = .fields vs
/-- the object at f is the lambda F with the body b and the defaults dV -/
def LmD (f : Addr) (F : NdefX.NF) (b : Expr) (dV : Value) : HO := .ext fun h => ∃ (od : Option Addr) (sl : Array (Option Value)) (doc pm ctv : Value), h.get? f = some (⟨.type "function", od, .func (PySem.W.kdv_fn "<lambda>" F.qual F.params (.expr b) F.scope F.cl dV doc pm (.ref F.c) ctv), sl⟩ : Obj)
inductive MO where
  | lst (xs : List Dat)
  | ins (C : Str) (L : List Str) (ds : List Dat)
  | raw (o : HO)
  | tab (q : Str)
  | dct (kvs : List (HK × Int))
  | exc (x : DX)
  | lam (nf : NdefX.NF) (b : Expr) (df : Bool)
  | dcs (kvs : List (Str × Dat))
abbrev Mem := Nat → Option MO
def mup (M : Mem) (a : Nat) (o : MO) : Mem := fun b => if b = a then some o else M b
def mdel (M : Mem) (a : Nat) : Mem := fun b => if b = a then none else M b
theorem mup_same {M : Mem} {a : Nat} {o : MO} : mup M a o a = some o := by unfold mup; rw [if_pos rfl]
theorem mup_ne {M : Mem} {a b : Nat} {o : MO} (h : b ≠ a) : mup M a o b = M b := by unfold mup; rw [if_neg h]
theorem mup_mup {M : Mem} {a : Nat} {o u : MO} : mup (mup M a o) a u = mup M a u := by
  funext b; unfold mup; split <;> rfl
theorem mup_comm {M : Mem} {a b : Nat} {o u : MO} (h : a ≠ b) : mup (mup M a o) b u = mup (mup M b u) a o := by
  funext c; unfold mup
  by_cases h1 : c = b
  · subst h1; rw [if_pos rfl, if_neg (Ne.symm h), if_pos rfl]
  · rw [if_neg h1, if_neg h1]
theorem mup_self {M : Mem} {a : Nat} {o : MO} (h : M a = some o) : mup M a o = M := by
  funext b; unfold mup; split
  · rename_i e; rw [e, h]
  · rfl
theorem mdel_mup {M : Mem} {a : Nat} {o : MO} (h : M a = none) : mdel (mup M a o) a = M := by
  funext b; unfold mdel mup
  by_cases e : b = a
  · rw [if_pos e, e, h]
  · rw [if_neg e, if_neg e]
theorem mdel_ne {M : Mem} {a b : Nat} (h : b ≠ a) : mdel M a b = M b := by unfold mdel; rw [if_neg h]
theorem mdel_same {M : Mem} {a : Nat} : mdel M a a = none := by unfold mdel; rw [if_pos rfl]

/-- a dict whose keys are texts -/
abbrev DsP (K : PySem.W.Frag) (F : Hp) : List (Str × Dat) → List (Key × V) → Prop := Paired fun p q => q.1 = .inr p.1 ∧ Rp K F p.2 q.2
theorem DsP.mono {K : PySem.W.Frag} {F F' : Hp} (s : Same F F') {kvs : List (Str × Dat)} {xs : List (Key × V)} (h : DsP K F kvs xs) : DsP K F' kvs xs := L2.Paired.mapP h fun _ _ q => ⟨q.1, q.2.mono s⟩
/-- the dict of an exception -/
def XVs (K : PySem.W.Frag) (F : Hp) (x : DX) (dd : Option Addr) : Prop := (x.nms = [] ∧ x.vals = [] ∧ dd = none) ∨ ∃ d vs, dd = some d ∧ F d = some (.xd (x.nms.zip vs)) ∧ RpAll K F x.vals vs ∧ x.nms.length = x.vals.length
theorem XVs.mono {K : PySem.W.Frag} {F F' : Hp} {x : DX} {dd : Option Addr} (s : Same F F') (h : XVs K F x dd) : XVs K F' x dd := by
  rcases h with h | ⟨d, vs, e, h1, h2, h3⟩
  · exact .inl h
  · exact .inr ⟨d, vs, e, s _ _ h1, h2.mono s, h3⟩
section
variable (K : PySem.W.Frag) (mg : Str → Option Value)
def RMO (F H : Hp) (a : Nat) : MO → Prop
  | .lst xs => ∃ vs, H a = some (.lst vs) ∧ RpAll K F xs vs
  | .ins c L ds => ∃ C dx vs, mg c = some (.ref C) ∧ H a = some (.ins C dx (L.zip vs)) ∧ RpAll K F ds vs ∧ ds.length ≤ L.length
  | .raw o => H a = some o
  | .tab q => ∃ ps : Array Value, H a = some (.tbl ps) ∧ TriplesOk ps.toList ∧ ∀ (pos : Pos) (cv : Value), codeAmong pos ps.toList = some cv → ∃ c, cv = .ref c ∧ F c = some (LamX.CodeO c q)
  | .dct kvs => kvs.length ≤ sizeLine ∧ ∃ xs, H a = some (DcO a xs) ∧ DcP K F kvs xs
  | .exc x => ∃ C d, mg x.cls = some (.ref C) ∧ H a = some (EXO a (.ref C) d) ∧ XVs K F x d
  | .lam nf b df => F nf.c = some (LamX.CodeO nf.c nf.qual) ∧ ∃ dV, H a = some (LmD a nf b dV) ∧ ((df = false ∧ dV = .none) ∨ (df = true ∧ ∃ T, dV = .ref T ∧ F T = some (.tup [.int 0])))
  | .dcs kvs => ∃ xs, H a = some (.dK xs) ∧ DsP K F kvs xs
structure Rpr (H F : Hp) (M : Mem) : Prop where
  sub : Same F H
  mem : ∀ a mo, M a = some mo → F a = none ∧ RMO K mg F H a mo
structure Rst (F : Hp) (ρ : List (Option Dat)) (σ : L2.St) : Prop where
  len : ρ.length = σ.length
  get : ∀ (i : Nat) (d : Dat), ρ[i]? = some (some d) → ∃ v, σ[i]? = some (some v) ∧ Rp K F d v
end
section
variable {K : PySem.W.Frag} {mg : Str → Option Value} {H F F' : Hp} {M : Mem}
theorem RMO.some {a : Nat} {mo : MO} (h : RMO K mg F H a mo) : ∃ o, H a = some o := by
  cases mo with
  | lst xs => obtain ⟨vs, e, _⟩ := h; exact ⟨_, e⟩
  | ins C L ds => obtain ⟨_, dx, vs, _, e, _⟩ := h; exact ⟨_, e⟩
  | raw o => exact ⟨o, h⟩
  | tab q => obtain ⟨ps, e, _⟩ := h; exact ⟨_, e⟩
  | dct kvs => obtain ⟨_, xs, e, _⟩ := h; exact ⟨_, e⟩
  | exc x => obtain ⟨_, _, _, e, _⟩ := h; exact ⟨_, e⟩
  | lam nf b df => obtain ⟨_, _, e, _⟩ := h; exact ⟨_, e⟩
  | dcs kvs => obtain ⟨xs, e, _⟩ := h; exact ⟨_, e⟩
theorem RMO.step {a : Nat} {mo : MO} {H' : Hp} (h : RMO K mg F H a mo) (s : Same F F') (e : H' a = H a) : RMO K mg F' H' a mo := by
  cases mo with
  | lst xs => obtain ⟨vs, q, r⟩ := h; exact ⟨vs, e.trans q, r.mono s⟩
  | ins c L ds => obtain ⟨C, dx, vs, m, q, r, l⟩ := h; exact ⟨C, dx, vs, m, e.trans q, r.mono s, l⟩
  | raw o => exact e.trans h
  | tab q =>
    obtain ⟨ps, a1, a2, a3⟩ := h
    exact ⟨ps, e.trans a1, a2, fun pos cv hc => let ⟨c, b1, b2⟩ := a3 pos cv hc; ⟨c, b1, s _ _ b2⟩⟩
  | dct kvs => obtain ⟨z, xs, q, r⟩ := h; exact ⟨z, xs, e.trans q, r.mono s⟩
  | exc x => obtain ⟨C, d, g, q, r⟩ := h; exact ⟨C, d, g, e.trans q, r.mono s⟩
  | lam nf b df =>
    obtain ⟨a1, dV, a2, a3⟩ := h
    refine ⟨s _ _ a1, dV, e.trans a2, ?_⟩
    rcases a3 with a3 | ⟨z, T, y, q⟩
    · exact .inl a3
    · exact .inr ⟨z, T, y, s _ _ q⟩
  | dcs kvs => obtain ⟨xs, q, r⟩ := h; exact ⟨xs, e.trans q, DsP.mono s r⟩
theorem Rpr.fresh (R : Rpr K mg H F M) {p : Nat} (h : H p = none) : F p = none ∧ M p = none := by
  refine ⟨R.sub.free h, ?_⟩
  cases q : M p with
  | none => rfl
  | some mo =>
    obtain ⟨o, e⟩ := (R.mem p mo q).2.some
    rw [h] at e; cases e
theorem same_upd {p : Nat} {o : HO} (h : F p = none) : Same F (upd F p o) := fun b u e => by
  rw [upd_ne (ne_of_none e h)]; exact e
/-- a new thing, frozen -/
theorem Rpr.new (R : Rpr K mg H F M) {p : Nat} (h : H p = none) (o : HO) : Rpr K mg (upd H p o) (upd F p o) M := by
  obtain ⟨hF, hM⟩ := R.fresh h
  refine ⟨fun b u e => ?_, fun a mo e => ?_⟩
  · by_cases hb : b = p
    · subst hb; rw [upd_same] at e ⊢; exact e
    · rw [upd_ne hb] at e ⊢; exact R.sub b u e
  · have ne : a ≠ p := fun z => by rw [z, hM] at e; cases e
    obtain ⟨h1, h2⟩ := R.mem a mo e
    exact ⟨by rw [upd_ne ne]; exact h1, h2.step (same_upd hF) (upd_ne ne)⟩
/-- a new thing, forgotten -/
theorem Rpr.grow (R : Rpr K mg H F M) {p : Nat} (h : H p = none) (o : HO) : Rpr K mg (upd H p o) F M := by
  obtain ⟨hF, hM⟩ := R.fresh h
  refine ⟨fun b u e => ?_, fun a mo e => ?_⟩
  · have hb : b ≠ p := ne_of_none e hF
    rw [upd_ne hb]; exact R.sub b u e
  · have ne : a ≠ p := fun z => by rw [z, hM] at e; cases e
    obtain ⟨h1, h2⟩ := R.mem a mo e
    exact ⟨h1, h2.step (Same.refl _) (upd_ne ne)⟩
/-- a new thing, live -/
theorem Rpr.live (R : Rpr K mg H F M) {p : Nat} (h : H p = none) {o : HO} {mo : MO} (q : RMO K mg F (upd H p o) p mo) : Rpr K mg (upd H p o) F (mup M p mo) := by
  obtain ⟨hF, hM⟩ := R.fresh h
  have R' := R.grow h o
  refine ⟨R'.sub, fun a mo' e => ?_⟩
  by_cases ha : a = p
  · subst ha; rw [mup_same] at e; cases e; exact ⟨hF, q⟩
  · rw [mup_ne ha] at e; exact R'.mem a mo' e
/-- a live thing is written -/
theorem Rpr.write (R : Rpr K mg H F M) {p : Nat} {mo0 : MO} (h : M p = some mo0) {o : HO} {mo : MO} (q : RMO K mg F (upd H p o) p mo) : Rpr K mg (upd H p o) F (mup M p mo) := by
  obtain ⟨hF, h0⟩ := R.mem p mo0 h
  refine ⟨fun b u e => ?_, fun a mo' e => ?_⟩
  · have hb : b ≠ p := ne_of_none e hF
    rw [upd_ne hb]; exact R.sub b u e
  · by_cases ha : a = p
    · subst ha; rw [mup_same] at e; cases e; exact ⟨hF, q⟩
    · rw [mup_ne ha] at e
      obtain ⟨h1, h2⟩ := R.mem a mo' e
      exact ⟨h1, h2.step (Same.refl _) (upd_ne ha)⟩
theorem Rpr.drop (R : Rpr K mg H F M) (p : Nat) : Rpr K mg H F (mdel M p) := ⟨R.sub, fun a mo e => by
  by_cases ha : a = p
  · subst ha; rw [mdel_same] at e; cases e
  · rw [mdel_ne ha] at e; exact R.mem a mo e⟩
/-- less memory -/
theorem Rpr.less {M' : Mem} (R : Rpr K mg H F M) (h : ∀ a mo, M' a = some mo → M a = some mo) : Rpr K mg H F M' := ⟨R.sub, fun a mo e => R.mem a mo (h a mo e)⟩
/-- a live list is frozen -/
theorem Rpr.freeze (R : Rpr K mg H F M) {p : Nat} {ds : List Dat} (h : M p = some (.lst ds)) : ∃ F', Same F F' ∧ Rpr K mg H F' (mdel M p) ∧ Rp K F' (.list ds) (.ref p) := by
  obtain ⟨hF, vs, e, r⟩ := R.mem p _ h
  refine ⟨upd F p (.lst vs), same_upd hF, ⟨fun b u q => ?_, fun a mo q => ?_⟩, ?_⟩
  · by_cases hb : b = p
    · subst hb; rw [upd_same] at q; rw [← q]; exact e
    · rw [upd_ne hb] at q; exact R.sub b u q
  · have ha : a ≠ p := fun z => by rw [z, mdel_same] at q; cases q
    rw [mdel_ne ha] at q
    obtain ⟨h1, h2⟩ := R.mem a mo q
    exact ⟨by rw [upd_ne ha]; exact h1, h2.step (same_upd hF) rfl⟩
  · exact Rp.lst.mpr ⟨p, vs, rfl, .inl (.inl upd_same), r.mono (same_upd hF)⟩
theorem Rst.mono {ρ : List (Option Dat)} {σ : L2.St} (R : Rst K F ρ σ) (s : Same F F') : Rst K F' ρ σ := ⟨R.len, fun i d e => let ⟨v, h1, h2⟩ := R.get i d e; ⟨v, h1, h2.mono s⟩⟩
theorem Rst.set {ρ : List (Option Dat)} {σ : L2.St} (R : Rst K F ρ σ) {i : Nat} {d : Dat} {v : V} (r : Rp K F d v) : Rst K F (ρ.set i (some d)) (σ.set i (some v)) := by
  refine ⟨by rw [List.length_set, List.length_set, R.len], fun j x e => ?_⟩
  by_cases hj : i = j
  · subst hj
    by_cases hl : i < ρ.length
    · rw [List.getElem?_set_self hl] at e
      cases e
      exact ⟨v, by rw [List.getElem?_set_self (by rw [← R.len]; exact hl)], r⟩
    · rw [List.getElem?_eq_none (by rw [List.length_set]; omega)] at e; cases e
  · rw [List.getElem?_set_ne hj] at e
    rw [List.getElem?_set_ne hj]
    exact R.get j x e
theorem Rst.unset {ρ : List (Option Dat)} {σ : L2.St} (R : Rst K F ρ σ) {i : Nat} : Rst K F (ρ.set i none) (σ.set i none) := by
  refine ⟨by rw [List.length_set, List.length_set, R.len], fun j x e => ?_⟩
  by_cases hj : i = j
  · subst hj
    by_cases hl : i < ρ.length
    · rw [List.getElem?_set_self hl] at e; cases e
    · rw [List.getElem?_eq_none (by rw [List.length_set]; omega)] at e; cases e
  · rw [List.getElem?_set_ne hj] at e
    rw [List.getElem?_set_ne hj]
    exact R.get j x e
/-- forgetting slots -/
theorem Rst.forget {ρ ρ' : List (Option Dat)} {σ : L2.St} (R : Rst K F ρ σ) (hl : ρ'.length = ρ.length) (h : ∀ (i : Nat) (d : Dat), ρ'[i]? = some (some d) → ρ[i]? = some (some d)) : Rst K F ρ' σ :=
  ⟨hl.trans R.len, fun i d e => R.get i d (h i d e)⟩
end

/-- what is tracked, but neither of the memory nor frozen, stays, and stays hidden -/
def Fr (F H : Hp) (M : Mem) (F' H' : Hp) (M' : Mem) : Prop := ∀ a o, H a = some o → M a = none → F a = none → H' a = some o ∧ M' a = none ∧ F' a = none
/-- a step: from one state to a later one -/
structure Nx (K : PySem.W.Frag) (mg : Str → Option Value) (F H : Hp) (M : Mem) (F' H' : Hp) (M' : Mem) : Prop where
  same : Same F F'
  ok : Rpr K mg H' F' M'
  fr : Fr F H M F' H' M'
section
variable {K : PySem.W.Frag} {mg : Str → Option Value} {F H F1 H1 F2 H2 : Hp} {M M1 M2 : Mem}
theorem Nx.refl (R : Rpr K mg H F M) : Nx K mg F H M F H M := ⟨Same.refl _, R, fun a o h m f => ⟨h, m, f⟩⟩
theorem Nx.trans (a : Nx K mg F H M F1 H1 M1) (b : Nx K mg F1 H1 M1 F2 H2 M2) : Nx K mg F H M F2 H2 M2 :=
  ⟨a.same.trans b.same, b.ok, fun c o h m f => let ⟨h1, m1, f1⟩ := a.fr c o h m f; b.fr c o h1 m1 f1⟩
theorem Nx.new (R : Rpr K mg H F M) {p : Nat} (h : H p = none) (o : HO) : Nx K mg F H M (upd F p o) (upd H p o) M :=
  ⟨same_upd (R.fresh h).1, R.new h o, fun a u e m f => ⟨by rw [upd_ne (ne_of_none e h)]; exact e, m, by rw [upd_ne (ne_of_none e h)]; exact f⟩⟩
theorem Nx.grow (R : Rpr K mg H F M) {p : Nat} (h : H p = none) (o : HO) : Nx K mg F H M F (upd H p o) M :=
  ⟨Same.refl _, R.grow h o, fun a u e m f => ⟨by rw [upd_ne (ne_of_none e h)]; exact e, m, f⟩⟩
theorem Nx.live (R : Rpr K mg H F M) {p : Nat} (h : H p = none) {o : HO} {mo : MO} (q : RMO K mg F (upd H p o) p mo) : Nx K mg F H M F (upd H p o) (mup M p mo) :=
  ⟨Same.refl _, R.live h q, fun a u e m f => ⟨by rw [upd_ne (ne_of_none e h)]; exact e, by rw [mup_ne (ne_of_none e h)]; exact m, f⟩⟩
theorem Nx.write (R : Rpr K mg H F M) {p : Nat} {mo0 : MO} (h : M p = some mo0) {o : HO} {mo : MO} (q : RMO K mg F (upd H p o) p mo) : Nx K mg F H M F (upd H p o) (mup M p mo) := by
  refine ⟨Same.refl _, R.write h q, fun a u e m f => ?_⟩
  have ne : a ≠ p := fun z => by rw [z, h] at m; cases m
  exact ⟨by rw [upd_ne ne]; exact e, by rw [mup_ne ne]; exact m, f⟩
theorem Nx.drop (R : Rpr K mg H F M) (p : Nat) : Nx K mg F H M F H (mdel M p) :=
  ⟨Same.refl _, R.drop p, fun a u e m f => ⟨e, (by
    by_cases z : a = p
    · rw [z, mdel_same]
    · rw [mdel_ne z]; exact m), f⟩⟩
theorem Nx.less {M' : Mem} (R : Rpr K mg H F M) (h : ∀ a mo, M' a = some mo → M a = some mo) : Nx K mg F H M F H M' :=
  ⟨Same.refl _, R.less h, fun a u e m f => ⟨e, (by
    cases q : M' a with
    | none => rfl
    | some mo => rw [h a mo q] at m; cases m), f⟩⟩
theorem Nx.freeze (R : Rpr K mg H F M) {p : Nat} {ds : List Dat} (h : M p = some (.lst ds)) : ∃ F', Nx K mg F H M F' H (mdel M p) ∧ Rp K F' (.list ds) (.ref p) := by
  obtain ⟨hF, vs, e, r⟩ := R.mem p _ h
  refine ⟨upd F p (.lst vs), ⟨same_upd hF, ⟨fun b u q => ?_, fun a mo q => ?_⟩, fun a u e' m f => ?_⟩, ?_⟩
  · by_cases hb : b = p
    · subst hb; rw [upd_same] at q; rw [← q]; exact e
    · rw [upd_ne hb] at q; exact R.sub b u q
  · have ha : a ≠ p := fun z => by rw [z, mdel_same] at q; cases q
    rw [mdel_ne ha] at q
    obtain ⟨h1, h2⟩ := R.mem a mo q
    exact ⟨by rw [upd_ne ha]; exact h1, h2.step (same_upd hF) rfl⟩
  · have ne : a ≠ p := fun z => by rw [z, h] at m; cases m
    exact ⟨e', by rw [mdel_ne ne]; exact m, by rw [upd_ne ne]; exact f⟩
  · exact Rp.lst.mpr ⟨p, vs, rfl, .inl (.inl upd_same), r.mono (same_upd hF)⟩
end

/-! ### readings -/
abbrev Rho := List (Option Dat)
abbrev DQ := Dat → Mem → Prop
abbrev XQ := DX → Mem → Prop
abbrev DE := Rho → Mem → DQ → XQ → Prop
abbrev DT := Rho → Mem → (Bool → Mem → Prop) → XQ → Prop
abbrev DA := Rho → Mem → (List Dat → Mem → Prop) → XQ → Prop
abbrev DR1 := Dat → Mem → DQ → Prop
abbrev DR2 := Dat → Dat → Mem → DQ → Prop
abbrev DRL := List Dat → Mem → DQ → Prop
abbrev DRM := Dat → List Dat → Mem → DQ → Prop
abbrev DSp := List Dat → Mem → DQ → XQ → Prop
structure DEnds where
  nx : Rho → Mem → Prop
  rt : DQ
  bk : Rho → Mem → Prop := fun _ _ => False
  ct : Rho → Mem → Prop := fun _ _ => False
  ex : DX → Rho → Mem → Prop
abbrev DS := DEnds → Rho → Mem → Prop
abbrev DG := Dat → Rho → Mem → (Rho → Mem → Prop) → Prop
abbrev DGs := List Dat → Rho → Mem → (Rho → Mem → Prop) → Prop
abbrev DI := Rho → Mem → (List Dat → Mem → Prop) → XQ → Prop

section
variable (K : PySem.W.Frag) (mg : Str → Option Value)
def Rx (F : Hp) (x : DX) (c : Value) (dd : Option Addr) : Prop :=
  ∃ C, mg x.cls = some (.ref C) ∧ c = .ref C ∧ XVs K F x dd
def CQ (F0 H0 : Hp) (M0 : Mem) (Qd : DQ) (Q : VK) : Prop := ∀ F H M d v, Nx K mg F0 H0 M0 F H M → Rp K F d v → Qd d M → Q v H
def CB (F0 H0 : Hp) (M0 : Mem) (Qd : Bool → Mem → Prop) (Q : Bool → Hp → Prop) : Prop := ∀ F H M b, Nx K mg F0 H0 M0 F H M → Qd b M → Q b H
def CA (F0 H0 : Hp) (M0 : Mem) (Qd : List Dat → Mem → Prop) (Q : List V → Hp → Prop) : Prop := ∀ F H M ds vs, Nx K mg F0 H0 M0 F H M → RpAll K F ds vs → Qd ds M → Q vs H
def CS (F0 H0 : Hp) (M0 : Mem) (Qd : Rho → Mem → Prop) (Q : L2.St → Hp → Prop) : Prop := ∀ F H M ρ σ, Nx K mg F0 H0 M0 F H M → Rst K F ρ σ → Qd ρ M → Q σ H
def CXd (F0 H0 : Hp) (M0 : Mem) (Ed : XQ) (W : Value → Option Addr → Hp → Prop) : Prop := ∀ F H M x c dd, Nx K mg F0 H0 M0 F H M → Rx K mg F x c dd → Ed x M → W c dd H
def CXs (F0 H0 : Hp) (M0 : Mem) (Ed : DX → Rho → Mem → Prop) (W : WX) : Prop := ∀ F H M ρ σ x c dd, Nx K mg F0 H0 M0 F H M → Rst K F ρ σ → Rx K mg F x c dd → Ed x ρ M → W c dd σ H
structure CD (W : WX) (F0 H0 : Hp) (M0 : Mem) (Dd : DEnds) (Q : Ends) : Prop where
  nx : CS K mg F0 H0 M0 Dd.nx Q.nx
  rt : CQ K mg F0 H0 M0 Dd.rt Q.rt
  bk : CS K mg F0 H0 M0 Dd.bk Q.bk
  ct : CS K mg F0 H0 M0 Dd.ct Q.ct
  ex : CXs K mg F0 H0 M0 Dd.ex W
variable (W : WX)
def LE (f : DE) : TE := fun σ H Q => ∃ F M ρ Qd Ed, Rst K F ρ σ ∧ Rpr K mg H F M ∧ f ρ M Qd Ed ∧ CQ K mg F H M Qd Q ∧ CXd K mg F H M Ed fun c d H' => W c d σ H'
def LT (f : DT) : TT := fun σ H Q => ∃ F M ρ Qd Ed, Rst K F ρ σ ∧ Rpr K mg H F M ∧ f ρ M Qd Ed ∧ CB K mg F H M Qd Q ∧ CXd K mg F H M Ed fun c d H' => W c d σ H'
def LA (f : DA) : TA := fun σ H Q => ∃ F M ρ Qd Ed, Rst K F ρ σ ∧ Rpr K mg H F M ∧ f ρ M Qd Ed ∧ CA K mg F H M Qd Q ∧ CXd K mg F H M Ed fun c d H' => W c d σ H'
def LS (f : DS) : TS := fun Q σ H => ∃ F M ρ Dd, Rst K F ρ σ ∧ Rpr K mg H F M ∧ f Dd ρ M ∧ CD K mg W F H M Dd Q
def LG (g : DG) : TG := fun v σ H Q => ∃ F M ρ d Qd, Rst K F ρ σ ∧ Rpr K mg H F M ∧ Rp K F d v ∧ g d ρ M Qd ∧ CS K mg F H M Qd Q
def LGs (g : DGs) : TGs := fun vs σ H Q => ∃ F M ρ ds Qd, Rst K F ρ σ ∧ Rpr K mg H F M ∧ RpAll K F ds vs ∧ g ds ρ M Qd ∧ CS K mg F H M Qd Q
def LR1 (g : DR1) : V → Hp → VK → Prop := fun x H Q => ∃ F M dx Qd, Rp K F dx x ∧ Rpr K mg H F M ∧ g dx M Qd ∧ CQ K mg F H M Qd Q
def LR2 (g : DR2) : R2 := fun x y H Q => ∃ F M dx dy Qd, Rp K F dx x ∧ Rp K F dy y ∧ Rpr K mg H F M ∧ g dx dy M Qd ∧ CQ K mg F H M Qd Q
def LRL (g : DRL) : List V → Hp → VK → Prop := fun xs H Q => ∃ F M ds Qd, RpAll K F ds xs ∧ Rpr K mg H F M ∧ g ds M Qd ∧ CQ K mg F H M Qd Q
def LRM (g : DRM) : V → List V → Hp → VK → Prop := fun x xs H Q => ∃ F M d ds Qd, Rp K F d x ∧ RpAll K F ds xs ∧ Rpr K mg H F M ∧ g d ds M Qd ∧ CQ K mg F H M Qd Q
def LSp (s : DSp) : Sp := fun vs H Q E => ∃ F M ds Qd Ed, RpAll K F ds vs ∧ Rpr K mg H F M ∧ s ds M Qd Ed ∧ CQ K mg F H M Qd Q ∧ CXd K mg F H M Ed E
/-- a walk yields the data ds -/
def Wlk (F : Hp) (J : It) (ds : List Dat) : Prop := ∀ i F2 H2 M2, Same F F2 → Rpr K mg H2 F2 M2 →
  (ds[i]? = none → J.stop i H2) ∧ ∀ d, ds[i]? = some d → J.go i H2 ∧ ∀ x H3, J.yld i H2 x H3 → ∃ F3, Nx K mg F2 H2 M2 F3 H3 M2 ∧ Rp K F3 d x
def LI (f : DI) : TI := fun σ H R => ∃ F M ρ Qd Ed, Rst K F ρ σ ∧ Rpr K mg H F M ∧ f ρ M Qd Ed ∧
  (∀ F' H' M' ds J, Nx K mg F H M F' H' M' → Wlk K mg F' J ds → Qd ds M' → R J H') ∧ CXd K mg F H M Ed fun c d H' => W c d σ H'
end

/-! ### judgements -/
structure EE (X : Cx) (W : WX) (e : Expr) (f : DE) : Prop where
  h : PE X e (LE X.K X.mg W f)
structure ET (X : Cx) (W : WX) (e : Expr) (f : DT) : Prop where
  h : PT X e (LT X.K X.mg W f)
structure EW (X : Cx) (W : WX) (e : Expr) (f : DT) : Prop where
  h : PW X e (LT X.K X.mg W f)
structure EA (X : Cx) (W : WX) (es : List Expr) (f : DA) : Prop where
  h : PA X es (LA X.K X.mg W f)
structure ES (X : Cx) (W : WX) (st : Stmt) (f : DS) : Prop where
  h : PS X st (LS X.K X.mg W f)
structure SS (X : Cx) (W : WX) (st : List Stmt) (f : DS) : Prop where
  h : PSs X st (LS X.K X.mg W f)
structure EG (X : Cx) (t : Expr) (g : DG) : Prop where
  h : PG X t (LG X.K X.mg g)
structure EGs (X : Cx) (ts : List Expr) (g : DGs) : Prop where
  h : PGs X ts (LGs X.K X.mg g)
structure EI (X : Cx) (W : WX) (tg iter : Expr) (f : DI) : Prop where
  h : PI X tg iter (LI X.K X.mg W f)

section
variable {K : PySem.W.Frag} {mg : Str → Option Value} {F F' H H' : Hp} {M M' : Mem}
theorem CQ.mono {Qd : DQ} {Q : VK} (c : CQ K mg F H M Qd Q) (s : Nx K mg F H M F' H' M') : CQ K mg F' H' M' Qd Q := fun F2 H M d v s2 => c F2 H M d v (s.trans s2)
theorem CB.mono {Qd : Bool → Mem → Prop} {Q : Bool → Hp → Prop} (c : CB K mg F H M Qd Q) (s : Nx K mg F H M F' H' M') : CB K mg F' H' M' Qd Q := fun F2 H M d s2 => c F2 H M d (s.trans s2)
theorem CA.mono {Qd : List Dat → Mem → Prop} {Q : List V → Hp → Prop} (c : CA K mg F H M Qd Q) (s : Nx K mg F H M F' H' M') : CA K mg F' H' M' Qd Q := fun F2 H M d v s2 => c F2 H M d v (s.trans s2)
theorem CS.mono {Qd : Rho → Mem → Prop} {Q : L2.St → Hp → Prop} (c : CS K mg F H M Qd Q) (s : Nx K mg F H M F' H' M') : CS K mg F' H' M' Qd Q := fun F2 H M d v s2 => c F2 H M d v (s.trans s2)
theorem CXd.mono {Ed : XQ} {W : Value → Option Addr → Hp → Prop} (c : CXd K mg F H M Ed W) (s : Nx K mg F H M F' H' M') : CXd K mg F' H' M' Ed W := fun F2 H M x c' dd s2 => c F2 H M x c' dd (s.trans s2)
theorem CXs.mono {Ed : DX → Rho → Mem → Prop} {W : WX} (c : CXs K mg F H M Ed W) (s : Nx K mg F H M F' H' M') : CXs K mg F' H' M' Ed W := fun F2 H M ρ σ x c' dd s2 => c F2 H M ρ σ x c' dd (s.trans s2)
theorem CD.mono {W : WX} {Dd : DEnds} {Q : Ends} (c : CD K mg W F H M Dd Q) (s : Nx K mg F H M F' H' M') : CD K mg W F' H' M' Dd Q := ⟨c.nx.mono s, c.rt.mono s, c.bk.mono s, c.ct.mono s, c.ex.mono s⟩
/-- an expression's wish about exceptions, from a statement's -/
theorem CXs.at {Ed : DX → Rho → Mem → Prop} {W : WX} {ρ : Rho} {σ : L2.St} (c : CXs K mg F H M Ed W) (R : Rst K F ρ σ) : CXd K mg F H M (fun x M => Ed x ρ M) fun c d H => W c d σ H :=
  fun F2 H M x c' dd n2 rx h => c F2 H M ρ σ x c' dd n2 (R.mono n2.same) rx h
end

section
variable {X : Cx} {W : WX} {e : Expr}
theorem PE.imp {t t' : TE} (h : PE X e t) (hi : ∀ σ H Q, t' σ H Q → t σ H Q) : PE X e t' := ⟨fun pins s σ H Q I q => h.run pins s σ H Q I (hi σ H Q q)⟩
theorem PT.imp {t t' : TT} (h : PT X e t) (hi : ∀ σ H Q, t' σ H Q → t σ H Q) : PT X e t' := ⟨fun pins s σ H Q I q => h.run pins s σ H Q I (hi σ H Q q)⟩
theorem PW.imp {t t' : TT} (h : PW X e t) (hi : ∀ σ H Q, t' σ H Q → t σ H Q) : PW X e t' := ⟨fun wh pins s σ H Q I q => h.run wh pins s σ H Q I (hi σ H Q q)⟩
theorem PA.imp {es : List Expr} {t t' : TA} (h : PA X es t) (hi : ∀ σ H Q, t' σ H Q → t σ H Q) : PA X es t' := ⟨fun ps pins s σ H Q I q => h.run ps pins s σ H Q I (hi σ H Q q)⟩
theorem PS.imp {st : Stmt} {t t' : TS} (h : PS X st t) (hi : ∀ Q σ H, t' Q σ H → t Q σ H) : PS X st t' := ⟨fun pins s σ H Q I q => h.run pins s σ H Q I (hi Q σ H q)⟩
theorem PSs.imp {st : List Stmt} {t t' : TS} (h : PSs X st t) (hi : ∀ Q σ H, t' Q σ H → t Q σ H) : PSs X st t' := ⟨fun pins s σ H Q I q => h.run pins s σ H Q I (hi Q σ H q)⟩
theorem PG.imp {t t' : TG} (h : PG X e t) (hi : ∀ v σ H Q, t' v σ H Q → t v σ H Q) : PG X e t' := ⟨fun pins s σ H v u Q I r q => h.run pins s σ H v u Q I r (hi v σ H Q q)⟩
theorem PGs.imp {es : List Expr} {t t' : TGs} (h : PGs X es t) (hi : ∀ v σ H Q, t' v σ H Q → t v σ H Q) : PGs X es t' := ⟨fun pins s σ H v u Q I r q => h.run pins s σ H v u Q I r (hi v σ H Q q)⟩
theorem PI.imp {tg it : Expr} {t t' : TI} (h : PI X tg it t) (hi : ∀ σ H Q, t' σ H Q → t σ H Q) : PI X tg it t' := ⟨fun pins s σ H Q I q => h.run pins s σ H Q I (hi σ H Q q)⟩
end

/-! ### expressions -/
def dVar (i : Nat) : DE := fun ρ M Q _ => match ρ[i]? with
  | some (some d) => Q d M
  | _ => False
def dC (d : Dat) : DE := fun _ M Q _ => Q d M
def dOp (g : DR2) (a b : DE) : DE := fun ρ M Q E => a ρ M (fun x M1 => b ρ M1 (fun y M2 => g x y M2 Q) E) E
def dUn (g : DR1) (a : DE) : DE := fun ρ M Q E => a ρ M (fun x M1 => g x M1 Q) E
def dNil : DA := fun _ M Q _ => Q [] M
def dCons (a : DE) (r : DA) : DA := fun ρ M Q E => a ρ M (fun x M1 => r ρ M1 (fun xs M2 => Q (x :: xs) M2) E) E
def dTup (a : DA) : DE := fun ρ M Q E => a ρ M (fun ds M1 => ds.length ≤ sizeLine ∧ Q (.tuple ds) M1) E
/-- a list that stays as it is -/
def dLst (a : DA) : DE := fun ρ M Q E => a ρ M (fun ds M1 => ds.length ≤ sizeLine ∧ Q (.list ds) M1) E
/-- a list that may change -/
def dLstL (a : DA) : DE := fun ρ M Q E => a ρ M (fun ds M1 => ds.length ≤ sizeLine ∧ ∀ p, M1 p = none → Q (rf p) (mup M1 p (.lst ds))) E
def dCall (s : DSp) (a : DA) : DE := fun ρ M Q E => a ρ M (fun ds M1 => s ds M1 Q E) E
def dBlt (g : DRL) (a : DA) : DE := fun ρ M Q E => a ρ M (fun ds M1 => g ds M1 Q) E
/-- a list that came is frozen -/
def dFrz (a : DE) : DE := fun ρ M Q E => a ρ M (fun d M1 => match d with
  | .dict [(.int (Int.ofNat p), .none)] => (match M1 p with
    | some (.lst ds) => Q (.list ds) (mdel M1 p)
    | _ => False)
  | _ => False) E
/-- a value that is True or False, as a test -/
def dB (a : DE) : DT := fun ρ M Q E => a ρ M (fun d M1 => match d with
  | .bool b => Q b M1
  | _ => False) E
def truD (d : Dat) (M : Mem) : Option Bool := match d with
  | .none => some false
  | .bool b => some b
  | .int i => some (i != 0)
  | .list xs => some (!xs.isEmpty)
  | .tuple xs => some (!xs.isEmpty)
  | _ => none
def dTru (a : DE) : DT := fun ρ M Q E => a ρ M (fun d M1 => match truD d M1 with
  | some b => Q b M1
  | none => False) E
def dNotT (t : DT) : DT := fun ρ M Q E => t ρ M (fun b M1 => Q (!b) M1) E
def dAndT (t u : DT) : DT := fun ρ M Q E => t ρ M (fun b M1 => if b = true then u ρ M1 Q E else Q false M1) E
def dOrT (t u : DT) : DT := fun ρ M Q E => t ρ M (fun b M1 => if b = true then Q true M1 else u ρ M1 Q E) E
/-- .. as values -/
def dNotV (a : DE) : DE := fun ρ M Q E => a ρ M (fun d M1 => match d with
  | .bool b => Q (.bool (!b)) M1
  | _ => False) E
def dAndV (a b : DE) : DE := fun ρ M Q E => a ρ M (fun d M1 => match d with
  | .bool c => if c = true then b ρ M1 Q E else Q (.bool false) M1
  | _ => False) E
def dOrV (a b : DE) : DE := fun ρ M Q E => a ρ M (fun d M1 => match d with
  | .bool c => if c = true then Q (.bool true) M1 else b ρ M1 Q E
  | _ => False) E
def dIf (t : DT) (a b : DE) : DE := fun ρ M Q E => t ρ M (fun c M1 => if c = true then a ρ M1 Q E else b ρ M1 Q E) E
def dChain (g g' : DR2) (a b c : DE) : DE := fun ρ M Q E => a ρ M (fun x M1 => b ρ M1 (fun y M2 => g x y M2 fun z M3 => match z with
  | .bool k => if k = true then c ρ M3 (fun w M4 => g' y w M4 Q) E else Q (.bool false) M3
  | _ => False) E) E

section
variable {X : Cx} {W : WX} {e a b c : Expr} {es : List Expr} {pos : Pos} {fa fb fc f : DE} {ga : DA}
theorem ee_var (i : Nat) {x : Str} (hN : X.N[i]? = some x := by rfl) (hv : Vis X.env.scope x := by first | exact Or.inl rfl | exact Or.inr (Or.inl rfl) | exact Or.inr (Or.inr rfl)) (hd : (x == ("__debug__" : Str)) = false := by decide)
    (hcd : (x == ("__classdict__" : Str)) = false := by decide) : EE X W (.Name x pos) (dVar i) := by
  refine ⟨PE.imp (pe_var (i := i) hN hv hd hcd) ?_⟩
  rintro σ H Q ⟨F, M, ρ, Qd, Ed, rs, rp, hf, cq, cx⟩
  unfold dVar at hf
  split at hf
  · rename_i d e
    obtain ⟨v, h1, h2⟩ := rs.get i d e
    exact ⟨v, h1, cq F H M d v (Nx.refl rp) h2 hf⟩
  · exact hf.elim
theorem ee_c {v : V} {d : Dat} (h : PE X e (tC v)) (r : ∀ F, Rp X.K F d v) : EE X W e (dC d) := by
  refine ⟨PE.imp h ?_⟩
  rintro σ H Q ⟨F, M, ρ, Qd, Ed, rs, rp, hf, cq, cx⟩
  exact cq F H M d v (Nx.refl rp) (r F) hf
theorem ee_int {i : Int} {j} : EE X W (.Constant (.int i) j pos) (dC (.int i)) := ee_c pe_int fun _ => Rp.int.mpr rfl
theorem ee_bl {b : Bool} {j} : EE X W (.Constant (.bool b) j pos) (dC (.bool b)) := ee_c pe_bl fun _ => Rp.bl.mpr rfl
theorem ee_non {j} : EE X W (.Constant .none j pos) (dC .none) := ee_c pe_non fun _ => Rp.non.mpr rfl
theorem ee_str {x : Str} {j} : EE X W (.Constant (.str x) j pos) (dC (.str x)) := ee_c pe_str fun _ => Rp.str.mpr rfl
/-- a module's constant -/
theorem ee_glob {x : Str} {v : V} {u : Value} {d : Dat} (hm : X.mg x = some u) (r : RelV v u) (rd : ∀ F, Rp X.K F d v) (hg : Gl X x := by rfl) (hd : (x == ("__debug__" : Str)) = false := by decide) : EE X W (.Name x pos) (dC d) := ee_c (pe_glob hg hm r hd) rd

theorem lift_op {g : DR2} : ∀ σ H Q, LE X.K X.mg W (dOp g fa fb) σ H Q → tOp (LR2 X.K X.mg g) (LE X.K X.mg W fa) (LE X.K X.mg W fb) σ H Q := by
  rintro σ H Q ⟨F, M, ρ, Qd, Ed, rs, rp, hf, cq, cx⟩
  refine ⟨F, M, ρ, _, Ed, rs, rp, hf, fun F1 H1 M1 dx x n1 rx q1 => ?_, cx⟩
  refine ⟨F1, M1, ρ, _, Ed, rs.mono n1.same, n1.ok, q1, fun F2 H2 M2 dy y n2 ry q2 => ?_, cx.mono n1⟩
  exact ⟨F2, M2, dx, dy, Qd, rx.mono n2.same, ry, n2.ok, q2, cq.mono (n1.trans n2)⟩
theorem ee_op {op : Operator} {g : DR2} (ho : OpR X (binaryOp op) (LR2 X.K X.mg g)) (ha : EE X W a fa) (hb : EE X W b fb) : EE X W (.BinOp a op b pos) (dOp g fa fb) := ⟨PE.imp (pe_op ho ha.h hb.h) lift_op⟩
theorem ee_cmp {op : CmpOp} {g : DR2} (ho : OpR X (compareOp op) (LR2 X.K X.mg g)) (ha : EE X W a fa) (hb : EE X W b fb) (hm : behindInMarks op b = false := by first | exact nomark _ | rfl) : EE X W (.Compare a [op] [b] pos) (dOp g fa fb) := ⟨PE.imp (pe_cmpR ho ha.h hb.h hm) lift_op⟩
theorem et_cmp {op : CmpOp} {g : DR2} (ho : OpR X (compareOp op) (LR2 X.K X.mg g)) (ha : EE X W a fa) (hb : EE X W b fb) (hm : behindInMarks op b = false := by first | exact nomark _ | rfl) : ET X W (.Compare a [op] [b] pos) (dB (dOp g fa fb)) := by
  refine ⟨PT.imp (pt_cmpR ho ha.h hb.h hm) ?_⟩
  rintro σ H Q ⟨F, M, ρ, Qd, Ed, rs, rp, hf, cq, cx⟩
  refine lift_op σ H _ ⟨F, M, ρ, _, Ed, rs, rp, hf, fun F1 H1 M1 dx x n1 rx q1 => ?_, cx⟩
  try dsimp only at q1
  split at q1
  · exact ⟨_, Rp.bl.mp rx, cq F1 H1 M1 _ n1 q1⟩
  · exact q1.elim
theorem ee_un {op : UnaryOp} {g : DR1} (ho : UnR X (unaryOp op) (LR1 X.K X.mg g)) (ha : EE X W a fa) : EE X W (.UnaryOp op a pos) (dUn g fa) := by
  refine ⟨PE.imp (pe_un ho ha.h) ?_⟩
  rintro σ H Q ⟨F, M, ρ, Qd, Ed, rs, rp, hf, cq, cx⟩
  refine ⟨F, M, ρ, _, Ed, rs, rp, hf, fun F1 H1 M1 dx x n1 rx q1 => ?_, cx⟩
  exact ⟨F1, M1, dx, Qd, rx, n1.ok, q1, cq.mono n1⟩
theorem lift_chain {g g' : DR2} : ∀ σ H Q, LE X.K X.mg W (dChain g g' fa fb fc) σ H Q → tChain (LR2 X.K X.mg g) (LR2 X.K X.mg g') (LE X.K X.mg W fa) (LE X.K X.mg W fb) (LE X.K X.mg W fc) σ H Q := by
  rintro σ H Q ⟨F, M, ρ, Qd, Ed, rs, rp, hf, cq, cx⟩
  refine ⟨F, M, ρ, _, Ed, rs, rp, hf, fun F1 H1 M1 dx x n1 rx q1 => ?_, cx⟩
  refine ⟨F1, M1, ρ, _, Ed, rs.mono n1.same, n1.ok, q1, fun F2 H2 M2 dy y n2 ry q2 => ?_, cx.mono n1⟩
  refine ⟨F2, M2, dx, dy, _, rx.mono n2.same, ry, n2.ok, q2, fun F3 H3 M3 dz z n3 rz q3 => ?_⟩
  try dsimp only at q3
  split at q3
  · rename_i k
    refine ⟨k, Rp.bl.mp rz, ?_⟩
    cases k with
    | true =>
      rw [if_pos rfl] at q3 ⊢
      refine ⟨F3, M3, ρ, _, Ed, rs.mono ((n1.trans n2).trans n3).same, n3.ok, q3, fun F4 H4 M4 dw w n4 rw q4 => ?_, cx.mono ((n1.trans n2).trans n3)⟩
      exact ⟨F4, M4, dy, dw, Qd, ry.mono (n3.trans n4).same, rw, n4.ok, q4, cq.mono (((n1.trans n2).trans n3).trans n4)⟩
    | false =>
      rw [if_neg Bool.false_ne_true] at q3 ⊢
      exact cq F3 H3 M3 _ _ ((n1.trans n2).trans n3) (Rp.bl.mpr rfl) q3
  · exact q3.elim
theorem ee_chain {op op' : CmpOp} {g g' : DR2} (ho : OpR X (compareOp op) (LR2 X.K X.mg g)) (ho' : OpR X (compareOp op') (LR2 X.K X.mg g')) (ha : EE X W a fa) (hb : EE X W b fb) (hc : EE X W c fc)
    (hm : lastMarks [op, op'] [b, c] = false := by with_unfolding_all rfl) : EE X W (.Compare a [op, op'] [b, c] pos) (dChain g g' fa fb fc) :=
  ⟨PE.imp (pe_chain ho ho' ha.h hb.h hc.h hm) lift_chain⟩
theorem et_chain {op op' : CmpOp} {g g' : DR2} (ho : OpR X (compareOp op) (LR2 X.K X.mg g)) (ho' : OpR X (compareOp op') (LR2 X.K X.mg g')) (ha : EE X W a fa) (hb : EE X W b fb) (hc : EE X W c fc)
    (hm : lastMarks [op, op'] [b, c] = false := by with_unfolding_all rfl) : ET X W (.Compare a [op, op'] [b, c] pos) (dB (dChain g g' fa fb fc)) := by
  refine ⟨PT.imp (pt_chain ho ho' ha.h hb.h hc.h hm) ?_⟩
  rintro σ H Q ⟨F, M, ρ, Qd, Ed, rs, rp, hf, cq, cx⟩
  refine lift_chain σ H _ ⟨F, M, ρ, _, Ed, rs, rp, hf, fun F1 H1 M1 dx x n1 rx q1 => ?_, cx⟩
  try dsimp only at q1
  split at q1
  · exact ⟨_, Rp.bl.mp rx, cq F1 H1 M1 _ n1 q1⟩
  · exact q1.elim
theorem lift_B (fa : DE) : ∀ σ H Q, LT X.K X.mg W (dB fa) σ H Q → L2.tB (LE X.K X.mg W fa) σ H Q := by
  rintro σ H Q ⟨F, M, ρ, Qd, Ed, rs, rp, hf, cq, cx⟩
  refine ⟨F, M, ρ, _, Ed, rs, rp, hf, fun F1 H1 M1 dx x n1 rx q1 => ?_, cx⟩
  try dsimp only at q1
  split at q1
  · exact ⟨_, Rp.bl.mp rx, cq F1 H1 M1 _ n1 q1⟩
  · exact q1.elim
/-- an expression that gives True or False, as a test -/
theorem et_val (ha : EE X W a fa) (he : ∀ whole, isTrue a X.env whole = (do let v ← whole; standAt a.pos; holding [v] (truthy v)) := by intro _; rfl) : ET X W a (dB fa) := ⟨PT.imp (pt_val ha.h he) (lift_B fa)⟩
theorem truD_ok {F H : Hp} {M : Mem} {d : Dat} {v : V} {b : Bool} (r : Rp X.K F d v) (rp : Rpr X.K X.mg H F M) (h : truD d M = some b) : TruV X.K v H b := by
  unfold truD at h
  split at h
  · cases h
    rw [Rp.non.mp r]; rfl
  · cases h; rw [Rp.bl.mp r]; rfl
  · cases h; rw [Rp.int.mp r]; rfl
  · cases h
    obtain ⟨a, vs, rfl, q, t⟩ := Rp.lst.mp r
    refine .inl ⟨vs, rp.sub.seq q, ?_⟩
    cases t' : vs with
    | nil => rw [t'] at t; have := t.len; cases ‹List Dat› with
      | nil => rfl
      | cons _ _ => simp at this
    | cons _ _ => rw [t'] at t; have := t.len; cases ‹List Dat› with
      | nil => simp at this
      | cons _ _ => rfl
  · cases h
    obtain ⟨a, vs, rfl, q, t⟩ := Rp.tup.mp r
    refine .inr (.inl ⟨vs, Same.seqT rp.sub q, ?_⟩)
    cases t' : vs with
    | nil => rw [t'] at t; have := t.len; cases ‹List Dat› with
      | nil => rfl
      | cons _ _ => simp at this
    | cons _ _ => rw [t'] at t; have := t.len; cases ‹List Dat› with
      | nil => simp at this
      | cons _ _ => rfl
  · cases h
theorem et_tru (ha : EE X W a fa) (he : ∀ whole, isTrue a X.env whole = (do let v ← whole; standAt a.pos; holding [v] (truthy v)) := by intro _; rfl) : ET X W a (dTru fa) := by
  refine ⟨PT.imp (pt_truth ha.h he) ?_⟩
  rintro σ H Q ⟨F, M, ρ, Qd, Ed, rs, rp, hf, cq, cx⟩
  refine ⟨F, M, ρ, _, Ed, rs, rp, hf, fun F1 H1 M1 dx x n1 rx q1 => ?_, cx⟩
  try dsimp only at q1
  split at q1
  · rename_i b hb
    exact ⟨b, truD_ok rx n1.ok hb, cq F1 H1 M1 _ n1 q1⟩
  · exact q1.elim
variable {ft fu : DT}
theorem et_not (ha : ET X W a ft) : ET X W (.UnaryOp .Not a pos) (dNotT ft) := by
  refine ⟨PT.imp (pt_not ha.h) ?_⟩
  rintro σ H Q ⟨F, M, ρ, Qd, Ed, rs, rp, hf, cq, cx⟩
  exact ⟨F, M, ρ, _, Ed, rs, rp, hf, fun F1 H1 M1 b n1 q1 => cq F1 H1 M1 _ n1 q1, cx⟩
theorem et_w (h : EW X W a ft) : ET X W a ft := ⟨h.h.pt⟩
theorem ew_and1 (ha : ET X W a ft) : EW X W (.BoolOp .And [a] pos) ft := ⟨pw_and1 ha.h⟩
theorem ew_or1 (ha : ET X W a ft) : EW X W (.BoolOp .Or [a] pos) ft := ⟨pw_or1 ha.h⟩
theorem ew_and {rest : List Expr} (ha : ET X W a ft) (hb : EW X W (.BoolOp .And (b :: rest) pos) fu) : EW X W (.BoolOp .And (a :: b :: rest) pos) (dAndT ft fu) := by
  refine ⟨PW.imp (pw_and ha.h hb.h) ?_⟩
  rintro σ H Q ⟨F, M, ρ, Qd, Ed, rs, rp, hf, cq, cx⟩
  refine ⟨F, M, ρ, _, Ed, rs, rp, hf, fun F1 H1 M1 b n1 q1 => ?_, cx⟩
  cases b with
  | true =>
    rw [if_pos rfl] at q1 ⊢
    exact ⟨F1, M1, ρ, _, Ed, rs.mono n1.same, n1.ok, q1, cq.mono n1, cx.mono n1⟩
  | false =>
    rw [if_neg Bool.false_ne_true] at q1 ⊢
    exact cq F1 H1 M1 _ n1 q1
theorem ew_or {rest : List Expr} (ha : ET X W a ft) (hb : EW X W (.BoolOp .Or (b :: rest) pos) fu) : EW X W (.BoolOp .Or (a :: b :: rest) pos) (dOrT ft fu) := by
  refine ⟨PW.imp (pw_or ha.h hb.h) ?_⟩
  rintro σ H Q ⟨F, M, ρ, Qd, Ed, rs, rp, hf, cq, cx⟩
  refine ⟨F, M, ρ, _, Ed, rs, rp, hf, fun F1 H1 M1 b n1 q1 => ?_, cx⟩
  cases b with
  | false =>
    rw [if_neg Bool.false_ne_true] at q1 ⊢
    exact ⟨F1, M1, ρ, _, Ed, rs.mono n1.same, n1.ok, q1, cq.mono n1, cx.mono n1⟩
  | true =>
    rw [if_pos rfl] at q1 ⊢
    exact cq F1 H1 M1 _ n1 q1
theorem ee_one {op} (ha : EE X W a fa) : EE X W (.BoolOp op [a] pos) fa := ⟨pe_one ha.h⟩
theorem ee_and {rest : List Expr} (ha : EE X W a fa) (hb : EE X W (.BoolOp .And (b :: rest) pos) fb) : EE X W (.BoolOp .And (a :: b :: rest) pos) (dAndV fa fb) := by
  refine ⟨PE.imp (pe_and ha.h hb.h) ?_⟩
  rintro σ H Q ⟨F, M, ρ, Qd, Ed, rs, rp, hf, cq, cx⟩
  refine ⟨F, M, ρ, _, Ed, rs, rp, hf, fun F1 H1 M1 dx x n1 rx q1 => ?_, cx⟩
  try dsimp only at q1
  split at q1
  · rename_i c
    refine ⟨c, Rp.bl.mp rx, ?_⟩
    cases c with
    | true =>
      rw [if_pos rfl] at q1 ⊢
      exact ⟨F1, M1, ρ, _, Ed, rs.mono n1.same, n1.ok, q1, cq.mono n1, cx.mono n1⟩
    | false =>
      rw [if_neg Bool.false_ne_true] at q1 ⊢
      exact cq F1 H1 M1 _ _ n1 (Rp.bl.mpr rfl) q1
  · exact q1.elim
theorem ee_or {rest : List Expr} (ha : EE X W a fa) (hb : EE X W (.BoolOp .Or (b :: rest) pos) fb) : EE X W (.BoolOp .Or (a :: b :: rest) pos) (dOrV fa fb) := by
  refine ⟨PE.imp (pe_or ha.h hb.h) ?_⟩
  rintro σ H Q ⟨F, M, ρ, Qd, Ed, rs, rp, hf, cq, cx⟩
  refine ⟨F, M, ρ, _, Ed, rs, rp, hf, fun F1 H1 M1 dx x n1 rx q1 => ?_, cx⟩
  try dsimp only at q1
  split at q1
  · rename_i c
    refine ⟨c, Rp.bl.mp rx, ?_⟩
    cases c with
    | false =>
      rw [if_neg Bool.false_ne_true] at q1 ⊢
      exact ⟨F1, M1, ρ, _, Ed, rs.mono n1.same, n1.ok, q1, cq.mono n1, cx.mono n1⟩
    | true =>
      rw [if_pos rfl] at q1 ⊢
      exact cq F1 H1 M1 _ _ n1 (Rp.bl.mpr rfl) q1
  · exact q1.elim
theorem ee_not (ha : EE X W a fa) : EE X W (.UnaryOp .Not a pos) (dNotV fa) := by
  refine ⟨PE.imp (pe_not ha.h) ?_⟩
  rintro σ H Q ⟨F, M, ρ, Qd, Ed, rs, rp, hf, cq, cx⟩
  refine ⟨F, M, ρ, _, Ed, rs, rp, hf, fun F1 H1 M1 dx x n1 rx q1 => ?_, cx⟩
  try dsimp only at q1
  split at q1
  · exact ⟨_, Rp.bl.mp rx, cq F1 H1 M1 _ _ n1 (Rp.bl.mpr rfl) q1⟩
  · exact q1.elim
theorem ee_if (hc : ET X W c ft) (ha : EE X W a fa) (hb : EE X W b fb) : EE X W (.IfExp c a b pos) (dIf ft fa fb) := by
  refine ⟨PE.imp (pe_ifExp hc.h ha.h hb.h) ?_⟩
  rintro σ H Q ⟨F, M, ρ, Qd, Ed, rs, rp, hf, cq, cx⟩
  refine ⟨F, M, ρ, _, Ed, rs, rp, hf, fun F1 H1 M1 k n1 q1 => ?_, cx⟩
  cases k with
  | true =>
    rw [if_pos rfl] at q1 ⊢
    exact ⟨F1, M1, ρ, _, Ed, rs.mono n1.same, n1.ok, q1, cq.mono n1, cx.mono n1⟩
  | false =>
    rw [if_neg Bool.false_ne_true] at q1 ⊢
    exact ⟨F1, M1, ρ, _, Ed, rs.mono n1.same, n1.ok, q1, cq.mono n1, cx.mono n1⟩
/-! arguments, displays -/
theorem ea_nil : EA X W [] dNil := by
  refine ⟨PA.imp pa_nil ?_⟩
  rintro σ H Q ⟨F, M, ρ, Qd, Ed, rs, rp, hf, cq, cx⟩
  exact cq F H M _ _ (Nx.refl rp) RpAll.nil hf
theorem ea_cons (ha : EE X W e fa) (hr : EA X W es ga) (hs : starEach (e :: es) X.env = (false, eval e X.env) :: starEach es X.env := by rfl) : EA X W (e :: es) (dCons fa ga) := by
  refine ⟨PA.imp (pa_cons ha.h hr.h hs) ?_⟩
  rintro σ H Q ⟨F, M, ρ, Qd, Ed, rs, rp, hf, cq, cx⟩
  refine ⟨F, M, ρ, _, Ed, rs, rp, hf, fun F1 H1 M1 dx x n1 rx q1 => ?_, cx⟩
  refine ⟨F1, M1, ρ, _, Ed, rs.mono n1.same, n1.ok, q1, fun F2 H2 M2 ds vs n2 rv q2 => ?_, cx.mono n1⟩
  exact cq F2 H2 M2 _ _ (n1.trans n2) (RpAll.cons (rx.mono n2.same) rv) q2
theorem ee_tup {x1} (h : EA X W es ga) : EE X W (.Tuple es x1 pos) (dTup ga) := by
  refine ⟨PE.imp (pe_tup h.h) ?_⟩
  rintro σ H Q ⟨F, M, ρ, Qd, Ed, rs, rp, hf, cq, cx⟩
  refine ⟨F, M, ρ, _, Ed, rs, rp, hf, fun F1 H1 M1 ds vs n1 rv q1 => ?_, cx⟩
  refine ⟨by rw [rv.len]; exact q1.1, fun p hp => ?_⟩
  have hF := (n1.ok.fresh hp).1
  exact cq _ _ M1 _ _ (n1.trans (Nx.new n1.ok hp _)) (Rp.tup.mpr ⟨p, vs, rfl, SqT.of upd_same, rv.mono (same_upd hF)⟩) q1.2
theorem ee_lst (h : EA X W es ga) : EE X W (.List es pos) (dLst ga) := by
  refine ⟨PE.imp (pe_lst h.h) ?_⟩
  rintro σ H Q ⟨F, M, ρ, Qd, Ed, rs, rp, hf, cq, cx⟩
  refine ⟨F, M, ρ, _, Ed, rs, rp, hf, fun F1 H1 M1 ds vs n1 rv q1 => ?_, cx⟩
  refine ⟨by rw [rv.len]; exact q1.1, fun p hp => ?_⟩
  have hF := (n1.ok.fresh hp).1
  exact cq _ _ M1 _ _ (n1.trans (Nx.new n1.ok hp _)) (Rp.lst.mpr ⟨p, vs, rfl, SqL.of upd_same, rv.mono (same_upd hF)⟩) q1.2
theorem ee_lstL (h : EA X W es ga) : EE X W (.List es pos) (dLstL ga) := by
  refine ⟨PE.imp (pe_lst h.h) ?_⟩
  rintro σ H Q ⟨F, M, ρ, Qd, Ed, rs, rp, hf, cq, cx⟩
  refine ⟨F, M, ρ, _, Ed, rs, rp, hf, fun F1 H1 M1 ds vs n1 rv q1 => ?_, cx⟩
  refine ⟨by rw [rv.len]; exact q1.1, fun p hp => ?_⟩
  exact cq _ _ _ _ _ (n1.trans (Nx.live (mo := .lst ds) n1.ok hp ⟨vs, upd_same, rv⟩)) (Rp.rf.mpr rfl) (q1.2 p (n1.ok.fresh hp).2)
theorem ee_frz (h : EE X W e fa) : EE X W e (dFrz fa) := by
  refine ⟨PE.imp h.h ?_⟩
  rintro σ H Q ⟨F, M, ρ, Qd, Ed, rs, rp, hf, cq, cx⟩
  refine ⟨F, M, ρ, _, Ed, rs, rp, hf, fun F1 H1 M1 d v n1 rv q1 => ?_, cx⟩
  try dsimp only at q1
  split at q1
  · rename_i p
    split at q1
    · rename_i ds hM
      obtain ⟨F2, n2, r2⟩ := Nx.freeze n1.ok hM
      rw [Rp.rf.mp rv]
      exact cq F2 H1 _ _ _ (n1.trans n2) r2 q1
    · exact q1.elim
  · exact q1.elim
end
end Nb
set_option Elab.async false
set_option linter.all false
set_option maxRecDepth 100000
set_option maxHeartbeats 1000000
set_option autoImplicit false
namespace Nb
open PySem PySem.Spec PyProof.Rows L2

/-! ### calls -/
section
variable {X : Cx} {W : WX} {x : Str} {p pos apos : Pos} {e o : Expr} {es : List Expr} {fo : DE} {ga : DA} {g : DRL}
theorem ee_callB {id : String} (hc : CallR X (.builtin id) (LRL X.K X.mg g)) (hm : X.mg x = none) (hv : bootBuiltins x = some (.builtin id)) (ha : EA X W (e :: es) ga) (hg : Gl X x := by rfl) (hn : x ≠ "__name__" := by decide) (hdb : (x == ("__debug__" : Str)) = false := by decide)
    (he : starEach (e :: es) X.env = (false, eval e X.env) :: starEach es X.env := by rfl) (hpl : (backTo pos (starEach es X.env)).any (·.1) = false := by rfl) : EE X W (.Call (.Name x p) (e :: es) [] pos) (dBlt g ga) := by
  refine ⟨PE.imp (pe_callB hc hg hm hv ha.h hn hdb he hpl) ?_⟩
  rintro σ H Q ⟨F, M, ρ, Qd, Ed, rs, rp, hf, cq, cx⟩
  refine ⟨F, M, ρ, _, Ed, rs, rp, hf, fun F1 H1 M1 ds vs n1 rv q1 => ?_, cx⟩
  exact ⟨F1, M1, ds, Qd, rv, n1.ok, q1, cq.mono n1⟩
theorem ee_callTy {T : String} (hc : CallR X (.type T) (LRL X.K X.mg g)) (hm : X.mg x = none) (hv : bootBuiltins x = some (.type T)) (ha : EA X W (e :: es) ga) (hg : Gl X x := by rfl) (hn : x ≠ "__name__" := by decide) (hdb : (x == ("__debug__" : Str)) = false := by decide)
    (he : starEach (e :: es) X.env = (false, eval e X.env) :: starEach es X.env := by rfl) (hpl : (backTo pos (starEach es X.env)).any (·.1) = false := by rfl) : EE X W (.Call (.Name x p) (e :: es) [] pos) (dBlt g ga) := by
  refine ⟨PE.imp (pe_callTy hc hg hm hv ha.h hn hdb he hpl) ?_⟩
  rintro σ H Q ⟨F, M, ρ, Qd, Ed, rs, rp, hf, cq, cx⟩
  refine ⟨F, M, ρ, _, Ed, rs, rp, hf, fun F1 H1 M1 ds vs n1 rv q1 => ?_, cx⟩
  exact ⟨F1, M1, ds, Qd, rv, n1.ok, q1, cq.mono n1⟩
/-- a def of the module, called -/
theorem ee_call {k : Nat} {f : Addr} {fd : FuncData} {ps : List Str} {s : DSp} (Fk : FnOk X.prog X.w X.K X.mg X.base (L2.CX X.prog X.w) k f fd ps (LSp X.K X.mg s)) (hr : Room k X.A) (hm : X.mg x = some (.ref f)) (hk : PySem.W.keepIn X.K (.ref f) = true) (hb : Binds X.K fd ps [])
    (tk : Takes X W) (ha : EA X W (e :: es) ga) (hg : Gl X x := by rfl) (hdb : (x == ("__debug__" : Str)) = false := by decide)
    (he : starEach (e :: es) X.env = (false, eval e X.env) :: starEach es X.env := by rfl) (hpl : (backTo pos (starEach es X.env)).any (·.1) = false := by rfl) : EE X W (.Call (.Name x p) (e :: es) [] pos) (dCall s ga) := by
  refine ⟨PE.imp (pe_callS Fk hr hg hm hk hb (fun σ => passAt tk σ) ha.h hdb he hpl) ?_⟩
  rintro σ H Q ⟨F, M, ρ, Qd, Ed, rs, rp, hf, cq, cx⟩
  refine ⟨F, M, ρ, _, Ed, rs, rp, hf, fun F1 H1 M1 ds vs n1 rv q1 => ?_, cx⟩
  exact ⟨F1, M1, ds, Qd, Ed, rv, n1.ok, q1, cq.mono n1, cx.mono n1⟩
end

/-! ### statements -/
def dNext : DS := fun Q ρ M => Q.nx ρ M
def dSeq (f g : DS) : DS := fun Q ρ M => f { Q with nx := g Q } ρ M
def dPass : DS := dNext
def dBrk : DS := fun Q ρ M => Q.bk ρ M
def dCont : DS := fun Q ρ M => Q.ct ρ M
def dDrop (a : DE) : DS := fun Q ρ M => a ρ M (fun _ M1 => Q.nx ρ M1) fun x M1 => Q.ex x ρ M1
def dRet (a : DE) : DS := fun Q ρ M => a ρ M Q.rt fun x M1 => Q.ex x ρ M1
def dRetN : DS := fun Q _ M => Q.rt .none M
def dIfS (t : DT) (f g : DS) : DS := fun Q ρ M => t ρ M (fun b M1 => if b = true then f Q ρ M1 else g Q ρ M1) fun x M1 => Q.ex x ρ M1
def dNever : DS := fun _ _ _ => False
def dAsg (a : DE) (g : DG) : DS := fun Q ρ M => a ρ M (fun d M1 => g d ρ M1 Q.nx) fun x M1 => Q.ex x ρ M1
def dAug (i : Nat) (g : DR2) (a : DE) : DS := fun Q ρ M => match ρ[i]? with
  | some (some x) => a ρ M (fun y M1 => g x y M1 fun z M2 => Q.nx (ρ.set i (some z)) M2) fun x M1 => Q.ex x ρ M1
  | _ => False
def dPar (i j : Nat) (a : DA) : DS := fun Q ρ M => a ρ M (fun ds M1 => match ds with
  | [d, e] => Q.nx ((ρ.set i (some d)).set j (some e)) M1
  | _ => False) fun x M1 => Q.ex x ρ M1
def gN (i : Nat) : DG := fun d ρ M Q => Q (ρ.set i (some d)) M
def gNilD : DGs := fun ds ρ M Q => match ds with
  | [] => Q ρ M
  | _ => False
def gConsD (g : DG) (r : DGs) : DGs := fun ds ρ M Q => match ds with
  | d :: t => g d ρ M fun ρ1 M1 => r t ρ1 M1 Q
  | [] => False
def gTupD (n : Nat) (g : DGs) : DG := fun d ρ M Q => match d with
  | .tuple ds => ds.length = n ∧ g ds ρ M Q
  | _ => False
def dWhileN (t : DT) (b : DS) (Q : DEnds) : Nat → Rho → Mem → Prop
  | 0, _, _ => False
  | n + 1, ρ, M => t ρ M (fun c M1 => if c = true then b { Q with nx := dWhileN t b Q n, ct := dWhileN t b Q n, bk := Q.nx } ρ M1 else Q.nx ρ M1) fun x M1 => Q.ex x ρ M1
def dWhile (t : DT) (b : DS) : DS := fun Q ρ M => ∃ n, dWhileN t b Q n ρ M
def dForL (g : DG) (b : DS) (Q : DEnds) : List Dat → Rho → Mem → Prop
  | [], ρ, M => Q.nx ρ M
  | d :: ds, ρ, M => g d ρ M fun ρ1 M1 => b { Q with nx := dForL g b Q ds, ct := dForL g b Q ds, bk := Q.nx } ρ1 M1
def dFor (it : DI) (g : DG) (b : DS) : DS := fun Q ρ M => it ρ M (fun ds M1 => dForL g b Q ds ρ M1) fun x M1 => Q.ex x ρ M1

section
variable {X : Cx} {W : WX} {st : Stmt} {rest : List Stmt} {f g : DS} {e : Expr} {fe : DE} {pos : Pos}
theorem ss_nil : SS X W [] dNext := by
  refine ⟨PSs.imp pss_nil ?_⟩
  rintro Q σ H ⟨F, M, ρ, Dd, rs, rp, hf, cd⟩
  exact cd.nx F H M ρ σ (Nx.refl rp) rs hf
theorem lift_seq : ∀ Q σ H, LS X.K X.mg W (dSeq f g) Q σ H → tSeq (LS X.K X.mg W f) (LS X.K X.mg W g) Q σ H := by
  rintro Q σ H ⟨F, M, ρ, Dd, rs, rp, hf, cd⟩
  exact ⟨F, M, ρ, _, rs, rp, hf, ⟨fun F1 H1 M1 ρ1 σ1 n1 rs1 q1 => ⟨F1, M1, ρ1, Dd, rs1, n1.ok, q1, cd.mono n1⟩, cd.rt, cd.bk, cd.ct, cd.ex⟩⟩
theorem ss_cons (h1 : ES X W st f) (h2 : SS X W rest g) : SS X W (st :: rest) (dSeq f g) := ⟨PSs.imp (pss_cons h1.h h2.h) lift_seq⟩
theorem ss_one (h1 : ES X W st f) : SS X W [st] f := ⟨pss_one h1.h⟩
theorem es_pass : ES X W (.Pass pos) dPass := by
  refine ⟨PS.imp ps_pass ?_⟩
  rintro Q σ H ⟨F, M, ρ, Dd, rs, rp, hf, cd⟩
  exact cd.nx F H M ρ σ (Nx.refl rp) rs hf
theorem es_break : ES X W (.Break pos) dBrk := by
  refine ⟨PS.imp ps_break ?_⟩
  rintro Q σ H ⟨F, M, ρ, Dd, rs, rp, hf, cd⟩
  exact cd.bk F H M ρ σ (Nx.refl rp) rs hf
theorem es_continue : ES X W (.Continue pos) dCont := by
  refine ⟨PS.imp ps_continue ?_⟩
  rintro Q σ H ⟨F, M, ρ, Dd, rs, rp, hf, cd⟩
  exact cd.ct F H M ρ σ (Nx.refl rp) rs hf
theorem es_expr (he : EE X W e fe) (hs : swapsWith e none pos.line X.env = pure false := by rfl) : ES X W (.Expr e pos) (dDrop fe) := by
  refine ⟨PS.imp (ps_expr he.h hs) ?_⟩
  rintro Q σ H ⟨F, M, ρ, Dd, rs, rp, hf, cd⟩
  exact ⟨F, M, ρ, _, _, rs, rp, hf, fun F1 H1 M1 d v n1 rv q1 => cd.nx F1 H1 M1 ρ σ n1 (rs.mono n1.same) q1, cd.ex.at rs⟩
theorem es_ret (he : EE X W e fe) : ES X W (.Return (some e) pos) (dRet fe) := by
  refine ⟨PS.imp (ps_ret he.h) ?_⟩
  rintro Q σ H ⟨F, M, ρ, Dd, rs, rp, hf, cd⟩
  exact ⟨F, M, ρ, _, _, rs, rp, hf, cd.rt, cd.ex.at rs⟩
theorem es_retN : ES X W (.Return none pos) dRetN := by
  refine ⟨PS.imp ps_retN ?_⟩
  rintro Q σ H ⟨F, M, ρ, Dd, rs, rp, hf, cd⟩
  exact cd.rt F H M .none .non (Nx.refl rp) (Rp.non.mpr rfl) hf
theorem es_if {c : Expr} {a b : List Stmt} {t : DT} (hc : ET X W c t) (ha : SS X W a f) (hb : SS X W b g) : ES X W (.If c a b pos) (dIfS t f g) := by
  refine ⟨PS.imp (ps_if hc.h ha.h hb.h) ?_⟩
  rintro Q σ H ⟨F, M, ρ, Dd, rs, rp, hf, cd⟩
  refine ⟨F, M, ρ, _, _, rs, rp, hf, fun F1 H1 M1 k n1 q1 => ?_, cd.ex.at rs⟩
  cases k with
  | true =>
    rw [if_pos rfl] at q1 ⊢
    exact ⟨F1, M1, ρ, Dd, rs.mono n1.same, n1.ok, q1, cd.mono n1⟩
  | false =>
    rw [if_neg Bool.false_ne_true] at q1 ⊢
    exact ⟨F1, M1, ρ, Dd, rs.mono n1.same, n1.ok, q1, cd.mono n1⟩
theorem es_never : ES X W st dNever := ⟨PS.imp ps_never fun _ _ _ ⟨_, _, _, _, _, _, hf, _⟩ => hf.elim⟩
theorem ss_never {sts : List Stmt} : SS X W sts dNever := ⟨PSs.imp pss_never fun _ _ _ ⟨_, _, _, _, _, _, hf, _⟩ => hf.elim⟩
theorem es_asg {tg : Expr} {gt : DG} (he : EE X W e fe) (hg : EG X tg gt) (hs : swapsWithSole [tg] e pos.line X.env = pure false := by rfl) (hw : swappedStores [tg] e X.env = pure none := by rfl)
    (h1 : (assignEach [tg] X.env).map (·.2) = [assign tg X.env] := by rfl) : ES X W (.Assign [tg] e pos) (dAsg fe gt) := by
  refine ⟨PS.imp (ps_asg he.h hg.h hs hw h1) ?_⟩
  rintro Q σ H ⟨F, M, ρ, Dd, rs, rp, hf, cd⟩
  refine ⟨F, M, ρ, _, _, rs, rp, hf, fun F1 H1 M1 d v n1 rv q1 => ?_, cd.ex.at rs⟩
  exact ⟨F1, M1, ρ, d, _, rs.mono n1.same, n1.ok, rv, q1, cd.nx.mono n1⟩
theorem es_set {i : Nat} {x : Str} {pos' : Pos} (hN : X.N.Nodup) (he : EE X W e fe) (hi : X.N[i]? = some x := by rfl) (hx : Loc X.env.scope x := by first | exact Or.inl rfl | exact Or.inr rfl) (hs : swapsWith e (some (.Name x pos')) pos.line X.env = pure false := by rfl)
    (hf : X.fn x = true ∨ X.env.scope.names.lookup x = some .local := by first | exact .inl rfl | exact .inr rfl | assumption) : ES X W (.Assign [.Name x pos'] e pos) (dAsg fe (gN i)) := by
  refine ⟨PS.imp (ps_set hN hi hx he.h hs hf) ?_⟩
  rintro Q σ H ⟨F, M, ρ, Dd, rs, rp, hf, cd⟩
  refine ⟨F, M, ρ, _, _, rs, rp, hf, fun F1 H1 M1 d v n1 rv q1 => ?_, cd.ex.at rs⟩
  exact cd.nx F1 H1 M1 _ _ n1 ((rs.mono n1.same).set rv) q1
/-- a, b = e1, e2 -/
theorem es_par {i j : Nat} {x y : Str} {a b : Expr} {ta : DA} {px py pt : Pos} {kt k2 pt2} (hc : X.calm = true) (hN : X.N.Nodup) (ha : EA X W [a, b] ta) (hi : X.N[i]? = some x := by rfl) (hj : X.N[j]? = some y := by rfl) (hij : i ≠ j := by decide)
    (hx : X.env.scope.names.lookup x = some .local := by rfl) (hy : X.env.scope.names.lookup y = some .local := by rfl)
    (hw : swappedStores [.Tuple [.Name x px, .Name y py] kt pt] (.Tuple [a, b] k2 pt2) X.env = pure (some [x, y]) := by rfl)
    (hs : swapsWithSole [.Tuple [.Name x px, .Name y py] kt pt] (.Tuple [a, b] k2 pt2) pos.line X.env = pure false := by rfl) :
    ES X W (.Assign [.Tuple [.Name x px, .Name y py] kt pt] (.Tuple [a, b] k2 pt2) pos) (dPar i j ta) := by
  refine ⟨PS.imp (ps_par hc hN hi hj hij hx hy ha.h hw hs) ?_⟩
  rintro Q σ H ⟨F, M, ρ, Dd, rs, rp, hf, cd⟩
  refine ⟨F, M, ρ, _, _, rs, rp, hf, fun F1 H1 M1 ds vs n1 rv q1 => ?_, cd.ex.at rs⟩
  try dsimp only at q1
  split at q1
  · obtain ⟨v1, r1, rfl, h1, t1⟩ := rv.inv
    obtain ⟨v2, r2, rfl, h2, t2⟩ := t1.inv
    obtain rfl := t2.nil_inv
    exact ⟨v1, v2, rfl, cd.nx F1 H1 M1 _ _ n1 (((rs.mono n1.same).set h1).set h2) q1⟩
  · exact q1.elim
theorem es_aug {i : Nat} {x : Str} {op : Operator} {gr : DR2} {pos' : Pos} (hN : X.N.Nodup) (ho : PIp X op (LR2 X.K X.mg gr)) (he : EE X W e fe) (hi : X.N[i]? = some x := by rfl) (hx : Loc X.env.scope x := by first | exact Or.inl rfl | exact Or.inr rfl)
    (hf : X.fn x = true ∨ X.env.scope.names.lookup x = some .local := by first | exact .inl rfl | exact .inr rfl | assumption) : ES X W (.AugAssign (.Name x pos') op e pos) (dAug i gr fe) := by
  refine ⟨PS.imp (ps_aug hN hi hx he.h ho hf) ?_⟩
  rintro Q σ H ⟨F, M, ρ, Dd, rs, rp, hf, cd⟩
  unfold dAug at hf
  split at hf
  · rename_i d hd
    obtain ⟨v, h1, h2⟩ := rs.get i d hd
    refine ⟨v, h1, F, M, ρ, _, _, rs, rp, hf, fun F1 H1 M1 d1 v1 n1 rv q1 => ?_, cd.ex.at rs⟩
    refine ⟨F1, M1, d, d1, _, h2.mono n1.same, rv, n1.ok, q1, fun F2 H2 M2 d2 v2 n2 rv2 q2 => ?_⟩
    exact cd.nx F2 H2 M2 _ _ (n1.trans n2) ((rs.mono (n1.trans n2).same).set rv2) q2
  · exact hf.elim
/-! targets -/
theorem eg_name {i : Nat} {x : Str} (hN : X.N.Nodup) (hi : X.N[i]? = some x := by rfl) (hx : Loc X.env.scope x := by first | exact Or.inl rfl | exact Or.inr rfl) (hf : X.fn x = true ∨ X.env.scope.names.lookup x = some .local := by first | exact .inl rfl | exact .inr rfl | assumption) : EG X (.Name x pos) (gN i) := by
  refine ⟨PG.imp (pg_name hN hi hx hf) ?_⟩
  rintro v σ H Q ⟨F, M, ρ, d, Qd, rs, rp, rv, hf, cs⟩
  exact cs F H M _ _ (Nx.refl rp) (rs.set rv) hf
theorem egs_nil : EGs X [] gNilD := by
  refine ⟨PGs.imp pgs_nil ?_⟩
  rintro v σ H Q ⟨F, M, ρ, d, Qd, rs, rp, rv, hf, cs⟩
  unfold gNilD at hf
  split at hf
  · exact ⟨rv.nil_inv, cs F H M _ _ (Nx.refl rp) rs hf⟩
  · exact hf.elim
theorem egs_cons {es : List Expr} {gt : DG} {gr : DGs} (h1 : EG X e gt) (h2 : EGs X es gr) (hs : (assignEach (e :: es) X.env).map (·.2) = assign e X.env :: (assignEach es X.env).map (·.2) := by rfl) : EGs X (e :: es) (gConsD gt gr) := by
  refine ⟨PGs.imp (pgs_cons h1.h h2.h hs) ?_⟩
  rintro vs σ H Q ⟨F, M, ρ, d, Qd, rs, rp, rv, hf, cs⟩
  unfold gConsD at hf
  split at hf
  · obtain ⟨v1, r1, rfl, q1, t1⟩ := rv.inv
    refine ⟨v1, r1, rfl, F, M, ρ, _, _, rs, rp, q1, hf, fun F1 H1 M1 ρ1 σ1 n1 rs1 q => ?_⟩
    exact ⟨F1, M1, ρ1, _, Qd, rs1, n1.ok, t1.mono n1.same, q, cs.mono n1⟩
  · exact hf.elim
theorem eg_tup {es : List Expr} {k : Nat} {gt : DGs} {n : Nat} (hc : X.calm = true) (h : EGs X es gt) (hn : (assignEach es X.env).length = n := by rfl) (hst : (assignEach es X.env).findIdx? (·.1) = none := by rfl) : EG X (.Tuple es k pos) (gTupD n gt) := by
  refine ⟨PG.imp (pg_tup hc h.h hn hst) ?_⟩
  rintro v σ H Q ⟨F, M, ρ, d, Qd, rs, rp, rv, hf, cs⟩
  unfold gTupD at hf
  split at hf
  · obtain ⟨a, vs, rfl, hq, t⟩ := Rp.tup.mp rv
    exact ⟨a, vs, rfl, Same.seqT rp.sub hq, by rw [t.len]; exact hf.1, F, M, ρ, _, Qd, rs, rp, t, hf.2, cs⟩
  · exact hf.elim
/-! loops -/
theorem es_while {c : Expr} {body : List Stmt} {t : DT} (hp : PassesOwn (model X.prog X.w) X.A X.env X.xe) (hc : ET X W c t) (hb : SS X W body f) : ES X W (.While c body [] pos) (dWhile t f) := by
  refine ⟨PS.imp (ps_while hp hc.h hb.h) ?_⟩
  rintro Q σ H ⟨F, M, ρ, Dd, rs, rp, ⟨n, hf⟩, cd⟩
  refine ⟨fun m σ' H' => ∃ F' M' ρ', Nx X.K X.mg F H M F' H' M' ∧ Rst X.K F' ρ' σ' ∧ dWhileN t f Dd m ρ' M', ⟨n, F, M, ρ, Nx.refl rp, rs, hf⟩, ?_⟩
  rintro m σ1 H1 ⟨F1, M1, ρ1, n1, rs1, h1⟩
  cases m with
  | zero => exact h1.elim
  | succ m =>
    refine ⟨F1, M1, ρ1, _, _, rs1, n1.ok, h1, fun F2 H2 M2 b n2 q2 => ?_, (cd.ex.mono n1).at rs1⟩
    cases b with
    | true =>
      rw [if_pos rfl] at q2 ⊢
      refine ⟨fun σ' H' => ∃ F' M' ρ', Nx X.K X.mg F H M F' H' M' ∧ Rst X.K F' ρ' σ' ∧ dWhileN t f Dd m ρ' M', fun σ' H' h => ⟨m, Nat.lt_succ_self m, h⟩, ?_⟩
      refine ⟨F2, M2, ρ1, _, rs1.mono n2.same, n2.ok, q2, ?_⟩
      have n12 := n1.trans n2
      have nxt : CS X.K X.mg F2 H2 M2 (dWhileN t f Dd m) fun σ' H' => ∃ F' M' ρ', Nx X.K X.mg F H M F' H' M' ∧ Rst X.K F' ρ' σ' ∧ dWhileN t f Dd m ρ' M' := fun F3 H3 M3 ρ3 σ3 n3 rs3 q3 => ⟨F3, M3, ρ3, n12.trans n3, rs3, q3⟩
      exact ⟨nxt, cd.rt.mono n12, cd.nx.mono n12, nxt, cd.ex.mono n12⟩
    | false =>
      rw [if_neg Bool.false_ne_true] at q2 ⊢
      exact cd.nx F2 H2 M2 ρ1 σ1 (n1.trans n2) (rs1.mono n2.same) q2
theorem es_for {tg iter : Expr} {body : List Stmt} {it : DI} {gt : DG} (hp : PassesOwn (model X.prog X.w) X.A X.env X.xe) (hc : X.calm = true) (hi : EI X W tg iter it) (hg : EG X tg gt) (hb : SS X W body f)
    (hs : ∀ x, foldedSetIterable iter X.env x = pure x := by intro _; rfl) : ES X W (.For tg iter body [] pos) (dFor it gt f) := by
  refine ⟨PS.imp (ps_for hp hc hi.h hg.h hb.h hs) ?_⟩
  rintro Q σ H ⟨F, M, ρ, Dd, rs, rp, hf, cd⟩
  refine ⟨F, M, ρ, _, _, rs, rp, hf, fun F1 H1 M1 ds J n1 wk q1 => ?_, cd.ex.at rs⟩
  refine ⟨fun i m σ' H' => m = ds.length - i ∧ i ≤ ds.length ∧ ∃ F' M' ρ', Nx X.K X.mg F1 H1 M1 F' H' M' ∧ Rst X.K F' ρ' σ' ∧ dForL gt f Dd (ds.drop i) ρ' M', ⟨_, rfl, Nat.zero_le _, F1, M1, ρ, Nx.refl n1.ok, rs.mono n1.same, by simpa using q1⟩, ?_⟩
  rintro i m σ2 H2 ⟨rfl, hi, F2, M2, ρ2, n2, rs2, q2⟩
  obtain ⟨wstop, wgo⟩ := wk i F2 H2 M2 n2.same n2.ok
  by_cases hlt : i < ds.length
  · have hd : ds[i]? = some ds[i] := by simp [hlt]
    obtain ⟨go, yl⟩ := wgo _ hd
    rw [List.drop_eq_getElem_cons hlt] at q2
    refine .inr ⟨go, fun σ' H' => ∃ F' M' ρ', Nx X.K X.mg F1 H1 M1 F' H' M' ∧ Rst X.K F' ρ' σ' ∧ dForL gt f Dd (ds.drop (i + 1)) ρ' M', fun σ' H' h => ⟨ds.length - (i + 1), by omega, rfl, hlt, h⟩, fun x H3 y => ?_⟩
    obtain ⟨F3, n3, rx⟩ := yl x H3 y
    refine ⟨F3, M2, ρ2, _, _, rs2.mono n3.same, n3.ok, rx, q2, fun F4 H4 M4 ρ4 σ4 n4 rs4 q4 => ?_⟩
    have n14 := (n2.trans n3).trans n4
    refine ⟨F4, M4, ρ4, _, rs4, n4.ok, q4, ?_⟩
    have nxt : CS X.K X.mg F4 H4 M4 (dForL gt f Dd (ds.drop (i + 1))) fun σ' H' => ∃ F' M' ρ', Nx X.K X.mg F1 H1 M1 F' H' M' ∧ Rst X.K F' ρ' σ' ∧ dForL gt f Dd (ds.drop (i + 1)) ρ' M' := fun F5 H5 M5 ρ5 σ5 n5 rs5 q5 => ⟨F5, M5, ρ5, n14.trans n5, rs5, q5⟩
    have n04 := n1.trans n14
    exact ⟨nxt, cd.rt.mono n04, cd.nx.mono n04, nxt, cd.ex.mono n04⟩
  · have e : i = ds.length := by omega
    subst e
    rw [List.drop_length] at q2
    exact .inl ⟨wstop (by simp), cd.nx F2 H2 M2 ρ2 σ2 (n1.trans n2) rs2 q2⟩
end
end Nb
set_option Elab.async false
set_option linter.all false
set_option maxRecDepth 100000
set_option maxHeartbeats 1000000
set_option autoImplicit false
namespace PySem
open Sem (wp)
open AutoSeq1 (wpAny_loadPart')
theorem nb_meets_enumerate_newT (l : Addr) (items : Array Value) (n : Nat) (dct : Option Addr) (sl : Array (Option Value)) :
    Meets (Builtin.«enumerate.__new__» ⟨[.type "enumerate", .ref l], []⟩) (fun _ R s => s.heap.get? l = some { cls := .type "tuple", dict := dct, data := .seq items n, slots := sl } ∧
      R (.ok (.ret (.ref (s.heap.push { cls := .type "tuple_iterator", data := .fields #[.ref l, .int 0 0] }).objs.size)))
        { s with heap := (s.heap.push { cls := .type "tuple_iterator", data := .fields #[.ref l, .int 0 0] }).push { cls := .type "enumerate", data := .fields #[.none, .bool false, .ref s.heap.objs.size, rawInt 0, .none, .none] } }) :=
  .of_wp fun prog w A R s h => by
    obtain ⟨hp, g, d, tk, os⟩ := s; obtain ⟨hl, h⟩ := h
    have hsub := sub_enumerate
    have hL : Heap.IsTuple (Shared.heap ⟨hp, g, d, tk, os⟩) l items := ⟨_, hl, rfl, n, rfl⟩
    wp_walk using wpAny_loadPart' hl
    refine wpAny_stack_any fun st => wpAny_pure ?_
    split
    · rename_i c _ _ _ _ _
      cases (c == Value.type "enumerate")
      · wp_walk using wpAny_loadPart' hl, wpAny_pyIter_tuple hL
        exact ⟨_, rfl, h⟩
      · wp_walk using wpAny_loadPart' hl, wpAny_pyIter_tuple hL
        exact ⟨_, rfl, h⟩
    · wp_walk using wpAny_loadPart' hl, wpAny_pyIter_tuple hL
      exact ⟨_, rfl, h⟩
section
variable {prog : Program} {w : World} {A : Around} {E : Value → Shared → Prop} {s : Shared}
theorem nb_call_enumerate_tuple {l : Addr} {items : Array Value} {Q : Value → Shared → Prop} (hL : s.heap.IsTuple l items)
    (h : ∀ h', IsEnum h' (s.heap.objs.size + 1) s.heap.objs.size 0 .none → h'.IsTupleIter s.heap.objs.size l 0 → h'.objs.size = s.heap.objs.size + 2 →
      (∀ b o, s.heap.get? b = some o → h'.get? b = some o) → Q (.ref (s.heap.objs.size + 1)) { s with heap := h' }) :
    wpAny (model prog w) A (call (.type "enumerate") [.ref l]) Q E s := by
  obtain ⟨⟨c, dct, dt, sl⟩, hl, hc, n, hd⟩ := hL
  replace hc : c = .type "tuple" := hc
  replace hd : dt = .seq items n := hd
  subst hc hd
  refine callType_new F.called_enumerate (by decide) (F.typeCall_enumerate_1 _) (F.newCall_enumerate_1 _) (fun obj => F.args_object_init_2 obj _) F.entry_enumerate_new
    (nb_meets_enumerate_newT l items n dct sl) ⟨hl, ?_⟩
  have hz : (s.heap.push { cls := .type "tuple_iterator", data := .fields #[.ref l, .int 0 0] }).objs.size = s.heap.objs.size + 1 := Heap.size_push ..
  show _ ∧ _
  rw [hz]
  have he : IsEnum ((s.heap.push { cls := .type "tuple_iterator", data := .fields #[.ref l, .int 0 0] }).push
      { cls := .type "enumerate", data := .fields #[.none, .bool false, .ref s.heap.objs.size, rawInt 0, .none, .none] }) (s.heap.objs.size + 1) s.heap.objs.size 0 .none := by
    have := Heap.get?_push_size (s.heap.push { cls := .type "tuple_iterator", data := .fields #[.ref l, .int 0 0] })
      (o := { cls := .type "enumerate", data := .fields #[.none, .bool false, .ref s.heap.objs.size, rawInt 0, .none, .none] }) rfl
    rw [hz] at this; exact this
  refine ⟨⟨_, he, rfl⟩, h _ he ⟨_, Heap.get?_push_of_some _ (Heap.get?_push_size _ rfl), rfl, rfl⟩ (by rw [Heap.size_push, hz]) fun b o x => Heap.get?_push_of_some _ (Heap.get?_push_of_some _ x)⟩
end
end PySem

namespace Nb
open PySem PySem.Spec PyProof.Rows L2

/-! ### enumerate over a tuple -/
def IteT (K : PySem.W.Frag) (a : Addr) : It :=
  ⟨fun i H => ∃ (xs : List V) (x : V), SqT K H a xs ∧ xs[i]? = some x, fun i H v H' => ∃ T x, v = .ref T ∧ H T = none ∧ H' = upd H T (.tup [.int (i : Nat), x]) ∧ ∀ xs, SqT K H a xs → xs[i]? = some x, fun i H => ∃ xs : List V, SqT K H a xs ∧ xs.length ≤ i⟩
theorem turn_enumT {P : Program} {w : World} {K : PySem.W.Frag} {elts : List Expr} {kk : Nat} {tpos : Pos} (a e it : Addr) (hai : a ≠ it) (hae : a ≠ e) :
    Turn P w K (.Tuple elts kk tpos) (IteT K a) [e, it] e (fun i h => (∃ old, IsEnum h e it ((i : Nat) : Int) old) ∧ h.IsTupleIter it a i ∧ e ≠ it) where
  mem := by simp
  obj := fun i h st b hb => by
    obtain ⟨⟨old, he⟩, ⟨o, ho, hc, hd⟩, _⟩ := st
    have e' : b = e ∨ b = it := by simpa using hb
    rcases e' with z | z
    · rw [z]; exact ⟨_, he, fun v q => nomatch q⟩
    · rw [z]; exact ⟨o, ho, fun v q => by rw [hd] at q; cases q⟩
  keep := fun i h h' st k => let ⟨⟨old, he⟩, hi, hne⟩ := st; ⟨⟨old, k e (by simp) _ he⟩, hi.at fun o q => k it (by simp) o q, hne⟩
  item := by
    intro X hP hw hK hc i pins s σ H E I hf st hg
    subst hP hw hK
    obtain ⟨⟨old, he⟩, hit, hne⟩ := st
    obtain ⟨xs, x, hq, hx⟩ := hg
    obtain ⟨its, rv, p, hz⟩ := I.tuple hq
    obtain ⟨u, hu, ru⟩ := rv.get hx
    have hel : e < s.heap.objs.size := Heap.lt_size he
    have hil : it < s.heap.objs.size := by obtain ⟨_, q, _⟩ := hit; exact Heap.lt_size q
    have hlt : i < its.toArray.size := by
      have := (List.getElem?_eq_some_iff.mp hu).1
      simpa using this
    have Dr := Draws.tuple (prog := X.prog) (w := X.w) (A := X.A.in1) (I.ok.hd hc) it a hai its.toArray
    refine wpAny_pyNext_enum_itemD Dr he ⟨hit, p⟩ hlt hne (by simp; exact ⟨hne, Ne.symm hae⟩) fun x' h' tk hP ho hit' hT hsz hk => ?_
    have ex : x' = u := by
      have h1 : its.toArray[i]? = some x' := hP
      rw [List.getElem?_toArray, hu] at h1
      exact (Option.some.inj h1).symm
    subst ex
    refine ⟨_, rfl, wpAny_letOwnedTupleGo_enum (s := { s with heap := h', toks := tk + 1 }) ho fun h'' he' sb => ?_⟩
    have hT2 : h''.get? s.heap.objs.size = some { cls := .type "tuple", data := .seq #[.int i tk, x'] } := (sb.2 _ (Nat.ne_of_gt hel)).trans hT
    have new : ObjOk X.prog X.w (upd H s.heap.objs.size (.tup [.int (i : Nat), x])) h'' s.heap.objs.size (.tup [.int (i : Nat), x]) :=
      ⟨by show 2 ≤ sizeLine; decide, [.int i tk, x'], .cons ⟨_, rfl⟩ (.cons ru .nil), ⟨_, hT2, rfl, _, rfl⟩⟩
    have I1 : Inv X pins σ (upd H s.heap.objs.size (.tup [.int (i : Nat), x])) { s with heap := h'', toks := tk + 1 } :=
      I.turnedNew (ch := [e, it]) (fun b ob hb q => (sb.2 b (fun z => hb (by simp [z]))).trans (hk b ob (fun z => hb (by simp [z])) (fun z => hb (by simp [z])) q)) hf (Nat.le_refl _) new
    refine ⟨.ref s.heap.objs.size, _, I1, rfl, ⟨_, x, rfl, I.hok.fresh (Nat.le_refl _), rfl, fun ys hy => by rw [I.tuple_inj hy hq]; exact hx⟩, ⟨⟨x', ?_⟩, hit'.1.at fun o q => (sb.2 it (Ne.symm hne)).trans q, hne⟩, fun b hb => ?_⟩
    · have e1 : ((i + 1 : Nat) : Int) = (i : Int) + 1 := by omega
      rw [e1]; exact he'
    · have hb' : b < s.heap.objs.size := by
        have e' : b = e ∨ b = it := by simpa using hb
        rcases e' with z | z
        · rw [z]; exact hel
        · rw [z]; exact hil
      rw [upd_ne (Nat.ne_of_lt hb')]
      exact (hf b hb).1
  done := by
    intro X hP hw hK hc i pins s σ H E I hf st hg
    subst hP hw hK
    obtain ⟨⟨old, he⟩, hit, hne⟩ := st
    obtain ⟨xs, hq, hx⟩ := hg
    obtain ⟨its, rv, p, hz⟩ := I.tuple hq
    obtain ⟨f0, f1, f2, f3, f4, f5⟩ := hf it (by simp)
    have hl := rv.length
    have hin : its.toArray[i]? = none := by simp; omega
    have hT : s.TypeIs (.ref e) "enumerate" := ⟨_, he, rfl⟩
    unfold pyNext
    refine wpAny_bind (wpAny_attempt (wpAny_callSpecial?_slot (name := Str.ofString "__next__") hT F.slot_enumerate_next
      (wpAny_call_entry F.slot_enumerate_next hT F.entry_enumerate_next ?_ (F.args_enumerate_next_1 _))))
    show wpAny _ _ (field (.ref e) 2 >>= _) _ _ _
    refine wpAny_bind (wpAny_field he rfl (x := .ref it) rfl ?_)
    refine wpAny_bind (PySem.wpAny_nextOf_tuple_end (I.ok.hd hc) hit (show s.heap.IsTuple a its.toArray from p) hin fun h' x he' hx' => ?_)
    obtain ⟨o, ho, hc'⟩ := hx'
    refine wpAny_bind (wpAny_isInstance (T := "StopIteration") (b := true) ⟨o, ho, hc'⟩ isSubtype_stop ?_)
    exact wpAny_pure ⟨rfl, I.turned (t' := s.toks) (fun b o hb q => he' b o hb q) f0 f1 f3 f4 f5⟩
  self := fun A i s Q E st h => let ⟨⟨_, he⟩, _⟩ := st; wpAny_pyIter_enum he h
def iEnumA (K : PySem.W.Frag) (ta : TA) : TI := fun σ H R => ta σ H fun vs H1 => ∃ a xs, vs = [.ref a] ∧ ((SqL K H1 a xs ∧ R (Ite K a) H1) ∨ (SqT K H1 a xs ∧ R (IteT K a) H1))
theorem pi_enumA {X : Cx} {e : Expr} {ta : TA} {p pos tpos : Pos} {elts : List Expr} {kk : Nat} (hg : Gl X "enumerate") (hm : X.mg "enumerate" = none) (ha : PA X [e] ta) (hs : starEach [e] X.env = [(false, eval e X.env)] := by rfl) :
    PI X (.Tuple elts kk tpos) (.Call (.Name "enumerate" p) [e] [] pos) (iEnumA X.K ta) := by
  refine ⟨fun pins s σ H R I h => ?_⟩
  refine Call_ (ld_blt I hg hm boot_enumerate (PyProof.Rows.callWith_type1 (thn (ha.run pos pins s σ H _ I h) fun us s1 ⟨vs, H1, I1, r1, q1⟩ => ?_) hs rfl))
  obtain ⟨a, xs, ex, hq⟩ := q1
  subst ex
  cases r1 with
  | cons r rr =>
    cases rr
    cases r
    have fp : ∀ b, b ∈ [s1.heap.objs.size + 1, s1.heap.objs.size] → FpOk X pins H1 b := fun b hb => by
      have e' : b = s1.heap.objs.size + 1 ∨ b = s1.heap.objs.size := by simpa using hb
      have hle : s1.heap.objs.size ≤ b := by
        rcases e' with z | z
        · rw [z]; exact Nat.le_add_right _ _
        · rw [z]; exact Nat.le_refl _
      exact I1.fpOk hle (I1.hok.fresh hle)
    rcases hq with ⟨hq, q⟩ | ⟨hq, q⟩
    · obtain ⟨its, rv, p', hz⟩ := I1.list hq
      refine call_enumerate_list p'.isList fun h' he hit hsz hk => wpAny_pyIter_enum he ?_
      have I2 : Inv X pins σ H1 { s1 with heap := h' } := I1.kept (t' := s1.toks) hk
      exact ⟨s1.heap.objs.size + 1, [s1.heap.objs.size + 1, s1.heap.objs.size], _, _, H1, rfl, I2, turn_enum a (s1.heap.objs.size + 1) s1.heap.objs.size, ⟨⟨.none, he⟩, hit, Nat.succ_ne_self _⟩, fp, q⟩
    · obtain ⟨its, rv, p', hz⟩ := I1.tuple hq
      have hlt : a < s1.heap.objs.size := p'.lt
      refine nb_call_enumerate_tuple (show s1.heap.IsTuple a its.toArray from p') fun h' he hit hsz hk => wpAny_pyIter_enum he ?_
      have I2 : Inv X pins σ H1 { s1 with heap := h' } := I1.kept (t' := s1.toks) hk
      exact ⟨s1.heap.objs.size + 1, [s1.heap.objs.size + 1, s1.heap.objs.size], _, _, H1, rfl, I2, turn_enumT a (s1.heap.objs.size + 1) s1.heap.objs.size (Nat.ne_of_lt hlt) (Nat.ne_of_lt (Nat.lt_succ_of_lt hlt)), ⟨⟨.none, he⟩, hit, Nat.succ_ne_self _⟩, fp, q⟩
/-- a list or a tuple, walked -/
def iSeqV (K : PySem.W.Frag) (tl : TE) : TI := fun σ H R => tl σ H fun x H1 => ∃ a, x = .ref a ∧ (((∃ xs, SqL K H1 a xs) ∧ R (Itl K a) H1) ∨ ((∃ xs, SqT K H1 a xs) ∧ R (Itt K a) H1))
theorem pi_seqV {X : Cx} {tg l : Expr} {tl : TE} (hl : PE X l tl) : PI X tg l (iSeqV X.K tl) := by
  refine ⟨fun pins s σ H R I h => ?_⟩
  refine thn (hl.run pins s σ H _ I h) fun v s1 ⟨x, H1, I1, r1, q1⟩ => ?_
  obtain ⟨a, e, q⟩ := q1
  subst e
  cases r1
  have fp : ∀ b, b ∈ [s1.heap.objs.size] → FpOk X pins H1 b := fun b hb => by
    have e : b = s1.heap.objs.size := by simpa using hb
    subst e
    exact I1.fpOk (Nat.le_refl _) (I1.hok.fresh (Nat.le_refl _))
  rcases q with ⟨⟨xs, hq⟩, q⟩ | ⟨⟨xs, hq⟩, q⟩
  · obtain ⟨its, rv, p, hz⟩ := I1.list hq
    refine wpAny_pyIter_list p.isList ?_
    exact ⟨s1.heap.objs.size, [s1.heap.objs.size], _, _, H1, rfl, I1.kept (t' := s1.toks) fun b o e => Heap.get?_push_of_some _ e, turn_list a _, ⟨_, Heap.get?_push_size _ rfl, rfl, rfl⟩, fp, q⟩
  · obtain ⟨its, rv, p, hz⟩ := I1.tuple hq
    refine wpAny_pyIter_tuple (show s1.heap.IsTuple a its.toArray from p) ?_
    exact ⟨s1.heap.objs.size, [s1.heap.objs.size], _, _, H1, rfl, I1.kept (t' := s1.toks) fun b o e => Heap.get?_push_of_some _ e, turn_tuple a _, ⟨_, Heap.get?_push_size _ rfl, rfl, rfl⟩, fp, q⟩

/-! ### walks over data -/
section
variable {K : PySem.W.Frag} {mg : Str → Option Value} {F : Hp} {a b : Addr} {ds es : List Dat} {vs us : List V}
theorem wlk_list (h : SqL K F a vs) (r : RpAll K F ds vs) : Wlk K mg F (Itl K a) ds := fun i F2 H2 M2 s rp => by
  have hq : SqL K H2 a vs := (s.trans rp.sub).seq h
  refine ⟨fun e => ⟨vs, hq, ?_⟩, fun d e => ?_⟩
  · rw [r.len]; exact List.getElem?_eq_none_iff.mp e
  · obtain ⟨v, e1, r1⟩ := r.get e
    refine ⟨⟨vs, v, hq, e1⟩, fun x H3 y => ?_⟩
    obtain ⟨rfl, y⟩ := y
    have e2 := y vs hq
    rw [e1] at e2; cases e2
    exact ⟨F2, Nx.refl rp, r1.mono s⟩
theorem wlk_tup (h : SqT K F a vs) (r : RpAll K F ds vs) : Wlk K mg F (Itt K a) ds := fun i F2 H2 M2 s rp => by
  have hq : SqT K H2 a vs := Same.seqT (s.trans rp.sub) h
  refine ⟨fun e => ⟨vs, hq, ?_⟩, fun d e => ?_⟩
  · rw [r.len]; exact List.getElem?_eq_none_iff.mp e
  · obtain ⟨v, e1, r1⟩ := r.get e
    refine ⟨⟨vs, v, hq, e1⟩, fun x H3 y => ?_⟩
    obtain ⟨rfl, y⟩ := y
    have e2 := y vs hq
    rw [e1] at e2; cases e2
    exact ⟨F2, Nx.refl rp, r1.mono s⟩
/-- lo, lo + 1, .. -/
def rngD (lo : Int) : Nat → List Dat
  | 0 => []
  | n + 1 => .int lo :: rngD (lo + 1) n
theorem rngD_len : ∀ (n : Nat) (lo : Int), (rngD lo n).length = n
  | 0, _ => rfl
  | n + 1, lo => by simp [rngD, rngD_len n]
theorem rngD_get : ∀ (n : Nat) (lo : Int) (i : Nat), (rngD lo n)[i]? = if i < n then some (.int (lo + i)) else none
  | 0, _, i => by simp [rngD]
  | n + 1, lo, 0 => by simp [rngD]
  | n + 1, lo, i + 1 => by
    rw [rngD, List.getElem?_cons_succ, rngD_get n]
    by_cases h : i < n
    · rw [if_pos h, if_pos (by omega)]
      congr 2
      omega
    · rw [if_neg h, if_neg (by omega)]
theorem wlk_rng (lo : Int) (n : Nat) : Wlk K mg F (Itr lo n) (rngD lo n) := fun i F2 H2 M2 s rp => by
  refine ⟨fun e => ?_, fun d e => ?_⟩
  · have := List.getElem?_eq_none_iff.mp e
    rw [rngD_len] at this
    exact this
  · rw [rngD_get] at e
    split at e
    · rename_i hi
      cases e
      refine ⟨hi, fun x H3 y => ?_⟩
      obtain ⟨rfl, rfl⟩ := y
      exact ⟨F2, Nx.refl rp, Rp.int.mpr rfl⟩
    · cases e
def enumD (k : Nat) : List Dat → List Dat
  | [] => []
  | d :: ds => .tuple [.int (k : Int), d] :: enumD (k + 1) ds
theorem enumD_len : ∀ (ds : List Dat) (k : Nat), (enumD k ds).length = ds.length
  | [], _ => rfl
  | d :: ds, k => by simp [enumD, enumD_len ds]
theorem enumD_get : ∀ (ds : List Dat) (k i : Nat), (enumD k ds)[i]? = (ds[i]?).map fun d => .tuple [.int ((k + i : Nat) : Int), d]
  | [], _, i => by simp [enumD]
  | d :: ds, k, 0 => by simp [enumD]
  | d :: ds, k, i + 1 => by
    rw [enumD, List.getElem?_cons_succ, enumD_get ds, List.getElem?_cons_succ]
    have e : k + 1 + i = k + (i + 1) := by omega
    rw [e]
theorem pair_new {F2 H2 : Hp} {M2 : Mem} {T : Addr} {x y : V} {d e : Dat} (rp : Rpr K mg H2 F2 M2) (h : H2 T = none) (r1 : Rp K F2 d x) (r2 : Rp K F2 e y) :
    ∃ F3, Nx K mg F2 H2 M2 F3 (upd H2 T (.tup [x, y])) M2 ∧ Rp K F3 (.tuple [d, e]) (.ref T) := by
  have hF := (rp.fresh h).1
  exact ⟨_, Nx.new rp h _, Rp.tup.mpr ⟨T, _, rfl, SqT.of upd_same, RpAll.cons (r1.mono (same_upd hF)) (RpAll.cons (r2.mono (same_upd hF)) RpAll.nil)⟩⟩
theorem wlk_enum (h : SqL K F a vs) (r : RpAll K F ds vs) : Wlk K mg F (Ite K a) (enumD 0 ds) := fun i F2 H2 M2 s rp => by
  have hq : SqL K H2 a vs := (s.trans rp.sub).seq h
  refine ⟨fun e => ⟨vs, hq, ?_⟩, fun d e => ?_⟩
  · have := List.getElem?_eq_none_iff.mp e
    rw [enumD_len] at this
    rw [r.len]; exact this
  · rw [enumD_get] at e
    obtain ⟨d', e', rfl⟩ := Option.map_eq_some_iff.mp e
    obtain ⟨v, e1, r1⟩ := r.get e'
    refine ⟨⟨vs, v, hq, e1⟩, fun x H3 y => ?_⟩
    obtain ⟨T, x', rfl, hT, rfl, y⟩ := y
    have e2 := y vs hq
    rw [e1] at e2; cases e2
    rw [Nat.zero_add]
    exact pair_new rp hT (Rp.int.mpr rfl) (r1.mono s)
theorem wlk_enumT (h : SqT K F a vs) (r : RpAll K F ds vs) : Wlk K mg F (IteT K a) (enumD 0 ds) := fun i F2 H2 M2 s rp => by
  have hq : SqT K H2 a vs := Same.seqT (s.trans rp.sub) h
  refine ⟨fun e => ⟨vs, hq, ?_⟩, fun d e => ?_⟩
  · have := List.getElem?_eq_none_iff.mp e
    rw [enumD_len] at this
    rw [r.len]; exact this
  · rw [enumD_get] at e
    obtain ⟨d', e', rfl⟩ := Option.map_eq_some_iff.mp e
    obtain ⟨v, e1, r1⟩ := r.get e'
    refine ⟨⟨vs, v, hq, e1⟩, fun x H3 y => ?_⟩
    obtain ⟨T, x', rfl, hT, rfl, y⟩ := y
    have e2 := y vs hq
    rw [e1] at e2; cases e2
    rw [Nat.zero_add]
    exact pair_new rp hT (Rp.int.mpr rfl) (r1.mono s)
def zipD : List Dat → List Dat → List Dat
  | a :: as, b :: bs => .tuple [a, b] :: zipD as bs
  | _, _ => []
theorem zipD_get : ∀ (as bs : List Dat) (i : Nat), (zipD as bs)[i]? = match as[i]?, bs[i]? with
    | some a, some b => some (.tuple [a, b])
    | _, _ => none
  | [], bs, i => by simp [zipD]
  | a :: as, [], i => by
    simp only [zipD, List.getElem?_nil]
    split <;> first | rfl | (rename_i h; cases h)
  | a :: as, b :: bs, 0 => by simp [zipD]
  | a :: as, b :: bs, i + 1 => by
    simp only [zipD, List.getElem?_cons_succ]
    exact zipD_get as bs i
theorem wlk_zip (h1 : SqL K F a vs) (h2 : SqL K F b us) (r1 : RpAll K F ds vs) (r2 : RpAll K F es us) : Wlk K mg F (Itz K a b) (zipD ds es) := fun i F2 H2 M2 s rp => by
  have hq1 : SqL K H2 a vs := (s.trans rp.sub).seq h1
  have hq2 : SqL K H2 b us := (s.trans rp.sub).seq h2
  refine ⟨fun e => ⟨vs, us, hq1, hq2, ?_⟩, fun d e => ?_⟩
  · rw [zipD_get] at e
    rw [r1.len, r2.len]
    rcases Nat.lt_or_ge i ds.length with h | h
    · rcases Nat.lt_or_ge i es.length with h' | h'
      · rw [List.getElem?_eq_getElem h, List.getElem?_eq_getElem h'] at e
        cases e
      · exact .inr h'
    · exact .inl h
  · rw [zipD_get] at e
    split at e
    · rename_i da db ea eb
      cases e
      obtain ⟨v, e1, q1⟩ := r1.get ea
      obtain ⟨u, e2, q2⟩ := r2.get eb
      refine ⟨⟨vs, us, v, u, hq1, hq2, e1, e2⟩, fun x H3 y => ?_⟩
      obtain ⟨T, x', y', rfl, hT, rfl, y1, y2⟩ := y
      have z1 := y1 vs hq1
      have z2 := y2 us hq2
      rw [e1] at z1; cases z1
      rw [e2] at z2; cases z2
      exact pair_new rp hT (q1.mono s) (q2.mono s)
    · cases e
theorem wlk_zipT (h1 : SqT K F a vs) (h2 : SqT K F b us) (r1 : RpAll K F ds vs) (r2 : RpAll K F es us) : Wlk K mg F (RZ.ItzT K a b) (zipD ds es) := fun i F2 H2 M2 s rp => by
  have hq1 : SqT K H2 a vs := Same.seqT (s.trans rp.sub) h1
  have hq2 : SqT K H2 b us := Same.seqT (s.trans rp.sub) h2
  refine ⟨fun e => ⟨vs, us, hq1, hq2, ?_⟩, fun d e => ?_⟩
  · rw [zipD_get] at e
    rw [r1.len, r2.len]
    rcases Nat.lt_or_ge i ds.length with h | h
    · rcases Nat.lt_or_ge i es.length with h' | h'
      · rw [List.getElem?_eq_getElem h, List.getElem?_eq_getElem h'] at e
        cases e
      · exact .inr h'
    · exact .inl h
  · rw [zipD_get] at e
    split at e
    · rename_i da db ea eb
      cases e
      obtain ⟨v, e1, q1⟩ := r1.get ea
      obtain ⟨u, e2, q2⟩ := r2.get eb
      refine ⟨⟨vs, us, v, u, hq1, hq2, e1, e2⟩, fun x H3 y => ?_⟩
      obtain ⟨T, x', y', rfl, hT, rfl, y1, y2⟩ := y
      have z1 := y1 vs hq1
      have z2 := y2 us hq2
      rw [e1] at z1; cases z1
      rw [e2] at z2; cases z2
      exact pair_new rp hT (q1.mono s) (q2.mono s)
    · cases e
end

/-! ### what a for walks -/
def iSeqD (a : DE) : DI := fun ρ M Q E => a ρ M (fun d M1 => match d with
  | .list ds => Q ds M1
  | .tuple ds => Q ds M1
  | _ => False) E
def iRng1D (a : DA) : DI := fun ρ M Q E => a ρ M (fun ds M1 => match ds with
  | [.int j] => (-(2 ^ 62) ≤ j ∧ j < 2 ^ 62) ∧ Q (rngD 0 j.toNat) M1
  | _ => False) E
def iRng2D (a : DA) : DI := fun ρ M Q E => a ρ M (fun ds M1 => match ds with
  | [.int i, .int j] => (-(2 ^ 62) ≤ i ∧ i < 2 ^ 62 ∧ -(2 ^ 62) ≤ j ∧ j < 2 ^ 62) ∧ Q (rngD i (j - i).toNat) M1
  | _ => False) E
def iEnumD (a : DA) : DI := fun ρ M Q E => a ρ M (fun ds M1 => match ds with
  | [.list ds] => Q (enumD 0 ds) M1
  | [.tuple ds] => Q (enumD 0 ds) M1
  | _ => False) E
def iZipD (a : DA) : DI := fun ρ M Q E => a ρ M (fun ds M1 => match ds with
  | [.list ds, .list es] => Q (zipD ds es) M1
  | [.tuple ds, .tuple es] => Q (zipD ds es) M1
  | _ => False) E
section
variable {X : Cx} {W : WX} {tg e : Expr} {fe : DE} {ga : DA} {p pos tpos : Pos} {elts : List Expr} {kk : Nat}
theorem ei_seq (he : EE X W e fe) : EI X W tg e (iSeqD fe) := by
  refine ⟨PI.imp (pi_seqV he.h) ?_⟩
  rintro σ H R ⟨F, M, ρ, Qd, Ed, rs, rp, hf, cq, cx⟩
  refine ⟨F, M, ρ, _, Ed, rs, rp, hf, fun F1 H1 M1 d v n1 rv q1 => ?_, cx⟩
  try dsimp only at q1
  split at q1
  · obtain ⟨a, vs, rfl, q, t⟩ := Rp.lst.mp rv
    exact ⟨a, rfl, .inl ⟨⟨vs, n1.ok.sub.seq q⟩, cq F1 H1 M1 _ _ n1 (wlk_list q t) q1⟩⟩
  · obtain ⟨a, vs, rfl, q, t⟩ := Rp.tup.mp rv
    exact ⟨a, rfl, .inr ⟨⟨vs, Same.seqT n1.ok.sub q⟩, cq F1 H1 M1 _ _ n1 (wlk_tup q t) q1⟩⟩
  · exact q1.elim
theorem RpAll.one {K : PySem.W.Frag} {F : Hp} {d : Dat} {vs : List V} (h : RpAll K F [d] vs) : ∃ v, vs = [v] ∧ Rp K F d v := by
  obtain ⟨v, r, rfl, h1, t⟩ := h.inv
  obtain rfl := t.nil_inv
  exact ⟨v, rfl, h1⟩
theorem RpAll.two {K : PySem.W.Frag} {F : Hp} {d e : Dat} {vs : List V} (h : RpAll K F [d, e] vs) : ∃ v u, vs = [v, u] ∧ Rp K F d v ∧ Rp K F e u := by
  obtain ⟨v, r, rfl, h1, t⟩ := h.inv
  obtain ⟨u, rfl, h2⟩ := t.one
  exact ⟨v, u, rfl, h1, h2⟩
theorem ei_range1 (hm : X.mg "range" = none) (ha : EA X W [e] ga) (hg : Gl X "range" := by rfl) (hs : starEach [e] X.env = [(false, eval e X.env)] := by rfl) : EI X W tg (.Call (.Name "range" p) [e] [] pos) (iRng1D ga) := by
  refine ⟨PI.imp (pi_range1 hg hm ha.h hs) ?_⟩
  rintro σ H R ⟨F, M, ρ, Qd, Ed, rs, rp, hf, cq, cx⟩
  refine ⟨F, M, ρ, _, Ed, rs, rp, hf, fun F1 H1 M1 ds vs n1 rv q1 => ?_, cx⟩
  try dsimp only at q1
  split at q1
  · rename_i j
    obtain ⟨v, rfl, h1⟩ := rv.one
    exact ⟨j, by rw [Rp.int.mp h1], q1.1.1, q1.1.2, cq F1 H1 M1 _ _ n1 (wlk_rng 0 _) q1.2⟩
  · exact q1.elim
theorem ei_range2 {e2 : Expr} (hm : X.mg "range" = none) (ha : EA X W [e, e2] ga) (hg : Gl X "range" := by rfl) (hs : starEach [e, e2] X.env = [(false, eval e X.env), (false, eval e2 X.env)] := by rfl) (hs2 : starEach [e2] X.env = [(false, eval e2 X.env)] := by rfl) :
    EI X W tg (.Call (.Name "range" p) [e, e2] [] pos) (iRng2D ga) := by
  refine ⟨PI.imp (pi_range2 hg hm ha.h hs hs2) ?_⟩
  rintro σ H R ⟨F, M, ρ, Qd, Ed, rs, rp, hf, cq, cx⟩
  refine ⟨F, M, ρ, _, Ed, rs, rp, hf, fun F1 H1 M1 ds vs n1 rv q1 => ?_, cx⟩
  try dsimp only at q1
  split at q1
  · rename_i i j
    obtain ⟨v, u, rfl, h1, h2⟩ := rv.two
    exact ⟨i, j, by rw [Rp.int.mp h1, Rp.int.mp h2], q1.1, cq F1 H1 M1 _ _ n1 (wlk_rng i _) q1.2⟩
  · exact q1.elim
theorem ei_enum (hm : X.mg "enumerate" = none) (ha : EA X W [e] ga) (hg : Gl X "enumerate" := by rfl) (hs : starEach [e] X.env = [(false, eval e X.env)] := by rfl) : EI X W (.Tuple elts kk tpos) (.Call (.Name "enumerate" p) [e] [] pos) (iEnumD ga) := by
  refine ⟨PI.imp (pi_enumA hg hm ha.h hs) ?_⟩
  rintro σ H R ⟨F, M, ρ, Qd, Ed, rs, rp, hf, cq, cx⟩
  refine ⟨F, M, ρ, _, Ed, rs, rp, hf, fun F1 H1 M1 ds vs n1 rv q1 => ?_, cx⟩
  try dsimp only at q1
  split at q1
  · obtain ⟨v, rfl, h1⟩ := rv.one
    obtain ⟨a, vs, rfl, q, t⟩ := Rp.lst.mp h1
    exact ⟨a, vs, rfl, .inl ⟨n1.ok.sub.seq q, cq F1 H1 M1 _ _ n1 (wlk_enum q t) q1⟩⟩
  · obtain ⟨v, rfl, h1⟩ := rv.one
    obtain ⟨a, vs, rfl, q, t⟩ := Rp.tup.mp h1
    exact ⟨a, vs, rfl, .inr ⟨Same.seqT n1.ok.sub q, cq F1 H1 M1 _ _ n1 (wlk_enumT q t) q1⟩⟩
  · exact q1.elim
theorem ei_zip {e2 : Expr} (hm : X.mg "zip" = none) (ha : EA X W [e, e2] ga) (hg : Gl X "zip" := by rfl) (hs : starEach [e, e2] X.env = (false, eval e X.env) :: starEach [e2] X.env := by rfl) (hpl : (backTo pos (starEach [e2] X.env)).any (·.1) = false := by rfl) :
    EI X W (.Tuple elts kk tpos) (.Call (.Name "zip" p) [e, e2] [] pos) (iZipD ga) := by
  refine ⟨PI.imp (RZ.pi_zipA hg hm ha.h hs hpl) ?_⟩
  rintro σ H R ⟨F, M, ρ, Qd, Ed, rs, rp, hf, cq, cx⟩
  refine ⟨F, M, ρ, _, Ed, rs, rp, hf, fun F1 H1 M1 ds vs n1 rv q1 => ?_, cx⟩
  try dsimp only at q1
  split at q1
  · obtain ⟨v, u, rfl, h1, h2⟩ := rv.two
    obtain ⟨a, vs, rfl, q, t⟩ := Rp.lst.mp h1
    obtain ⟨b, us, rfl, q', t'⟩ := Rp.lst.mp h2
    exact ⟨a, b, vs, us, rfl, .inl ⟨n1.ok.sub.seq q, n1.ok.sub.seq q', cq F1 H1 M1 _ _ n1 (wlk_zip q q' t t') q1⟩⟩
  · obtain ⟨v, u, rfl, h1, h2⟩ := rv.two
    obtain ⟨a, vs, rfl, q, t⟩ := Rp.tup.mp h1
    obtain ⟨b, us, rfl, q', t'⟩ := Rp.tup.mp h2
    exact ⟨a, b, vs, us, rfl, .inr ⟨Same.seqT n1.ok.sub q, Same.seqT n1.ok.sub q', cq F1 H1 M1 _ _ n1 (wlk_zipT q q' t t') q1⟩⟩
  · exact q1.elim
end
end Nb
set_option Elab.async false
set_option linter.all false
set_option maxRecDepth 100000
set_option maxHeartbeats 1000000
set_option autoImplicit false
namespace Nb
open PySem PySem.Spec PyProof.Rows L2

/-! ### comprehensions -/
theorem wipe_get (σ : L2.St) : ∀ (vs : List Nat) (j : Nat), (wipe σ vs)[j]? = if j ∈ vs then (σ[j]?).map (fun _ => none) else σ[j]?
  | [], j => by simp [wipe]
  | v :: vs, j => by
    unfold wipe
    by_cases h : v = j
    · subst h
      rw [if_pos (by simp)]
      by_cases hl : v < σ.length
      · rw [List.getElem?_set_self (by rw [wipe_length]; exact hl), List.getElem?_eq_getElem hl]
        rfl
      · rw [List.getElem?_eq_none (by rw [List.length_set, wipe_length]; omega), List.getElem?_eq_none (by omega)]
        rfl
    · rw [List.getElem?_set_ne h, wipe_get σ vs j]
      by_cases hj : j ∈ vs
      · rw [if_pos hj, if_pos (by simp [hj])]
      · rw [if_neg hj, if_neg (by simp [hj]; exact fun e => h e.symm)]
theorem wipe_set {σ : L2.St} {i : Nat} {x : Option V} {vs : List Nat} (h : i ∈ vs) : wipe (σ.set i x) vs = wipe σ vs := by
  apply List.ext_getElem?
  intro j
  rw [wipe_get, wipe_get]
  by_cases hj : j ∈ vs
  · rw [if_pos hj, if_pos hj]
    by_cases e : i = j
    · subst e
      by_cases hl : i < σ.length
      · rw [List.getElem?_set_self hl, List.getElem?_eq_getElem hl]
        rfl
      · rw [List.getElem?_eq_none (by rw [List.length_set]; omega), List.getElem?_eq_none (by omega)]
    · rw [List.getElem?_set_ne e]
  · rw [if_neg hj, if_neg hj, List.getElem?_set_ne (fun e : i = j => hj (by rw [← e]; exact h))]
theorem wipe_wipe {σ : L2.St} {vs : List Nat} : wipe (wipe σ vs) vs = wipe σ vs := by
  apply List.ext_getElem?
  intro j
  rw [wipe_get, wipe_get]
  split
  · cases σ[j]? <;> rfl
  · rfl
def wipeD (ρ : Rho) : List Nat → Rho
  | [] => ρ
  | v :: vs => (wipeD ρ vs).set v none
theorem Rst.wipe {K : PySem.W.Frag} {F : Hp} {ρ : Rho} {σ : L2.St} (R : Rst K F ρ σ) : ∀ vs : List Nat, Rst K F (wipeD ρ vs) (L2.wipe σ vs)
  | [] => R
  | v :: vs => (Rst.wipe R vs).unset
/-- targets that store at vs alone -/
def LGv (K : PySem.W.Frag) (mg : Str → Option Value) (vs : List Nat) (g : DG) : TG := fun v σ H Q => ∃ F M ρ d Qd, Rst K F ρ σ ∧ Rpr K mg H F M ∧ Rp K F d v ∧ g d ρ M Qd ∧
  ∀ F' H' M' ρ' σ', Nx K mg F H M F' H' M' → Rst K F' ρ' σ' → wipe σ' vs = wipe σ vs → Qd ρ' M' → Q σ' H'
def LGvs (K : PySem.W.Frag) (mg : Str → Option Value) (vs : List Nat) (g : DGs) : TGs := fun us σ H Q => ∃ F M ρ ds Qd, Rst K F ρ σ ∧ Rpr K mg H F M ∧ RpAll K F ds us ∧ g ds ρ M Qd ∧
  ∀ F' H' M' ρ' σ', Nx K mg F H M F' H' M' → Rst K F' ρ' σ' → wipe σ' vs = wipe σ vs → Qd ρ' M' → Q σ' H'
structure EGv (X : Cx) (vs : List Nat) (t : Expr) (g : DG) : Prop where
  h : PG X t (LGv X.K X.mg vs g)
structure EGvs (X : Cx) (vs : List Nat) (ts : List Expr) (g : DGs) : Prop where
  h : PGs X ts (LGvs X.K X.mg vs g)
section
variable {X : Cx} {vs : List Nat} {e : Expr} {pos : Pos}
theorem evg_name {i : Nat} {x : Str} (hN : X.N.Nodup) (hv : i ∈ vs := by decide) (hi : X.N[i]? = some x := by rfl) (hx : Loc X.env.scope x := by first | exact Or.inl rfl | exact Or.inr rfl) (hf : X.fn x = true ∨ X.env.scope.names.lookup x = some .local := by first | exact .inl rfl | exact .inr rfl | assumption) : EGv X vs (.Name x pos) (gN i) := by
  refine ⟨PG.imp (pg_name hN hi hx hf) ?_⟩
  rintro v σ H Q ⟨F, M, ρ, d, Qd, rs, rp, rv, hf, cs⟩
  exact cs F H M _ _ (Nx.refl rp) (rs.set rv) (wipe_set hv) hf
theorem evgs_nil : EGvs X vs [] gNilD := by
  refine ⟨PGs.imp pgs_nil ?_⟩
  rintro v σ H Q ⟨F, M, ρ, d, Qd, rs, rp, rv, hf, cs⟩
  unfold gNilD at hf
  split at hf
  · exact ⟨rv.nil_inv, cs F H M _ _ (Nx.refl rp) rs rfl hf⟩
  · exact hf.elim
theorem evgs_cons {es : List Expr} {gt : DG} {gr : DGs} (h1 : EGv X vs e gt) (h2 : EGvs X vs es gr) (hs : (assignEach (e :: es) X.env).map (·.2) = assign e X.env :: (assignEach es X.env).map (·.2) := by rfl) : EGvs X vs (e :: es) (gConsD gt gr) := by
  refine ⟨PGs.imp (pgs_cons h1.h h2.h hs) ?_⟩
  rintro us σ H Q ⟨F, M, ρ, d, Qd, rs, rp, rv, hf, cs⟩
  unfold gConsD at hf
  split at hf
  · obtain ⟨v1, r1, rfl, q1, t1⟩ := rv.inv
    refine ⟨v1, r1, rfl, F, M, ρ, _, _, rs, rp, q1, hf, fun F1 H1 M1 ρ1 σ1 n1 rs1 w1 q => ?_⟩
    exact ⟨F1, M1, ρ1, _, Qd, rs1, n1.ok, t1.mono n1.same, q, fun F2 H2 M2 ρ2 σ2 n2 rs2 w2 q2 => cs F2 H2 M2 ρ2 σ2 (n1.trans n2) rs2 (w2.trans w1) q2⟩
  · exact hf.elim
theorem evg_tup {es : List Expr} {k : Nat} {gt : DGs} {n : Nat} (hc : X.calm = true) (h : EGvs X vs es gt) (hn : (assignEach es X.env).length = n := by rfl) (hst : (assignEach es X.env).findIdx? (·.1) = none := by rfl) : EGv X vs (.Tuple es k pos) (gTupD n gt) := by
  refine ⟨PG.imp (pg_tup hc h.h hn hst) ?_⟩
  rintro v σ H Q ⟨F, M, ρ, d, Qd, rs, rp, rv, hf, cs⟩
  unfold gTupD at hf
  split at hf
  · obtain ⟨a, us, rfl, hq, t⟩ := Rp.tup.mp rv
    exact ⟨a, us, rfl, Same.seqT rp.sub hq, by rw [t.len]; exact hf.1, F, M, ρ, _, Qd, rs, rp, t, hf.2, cs⟩
  · exact hf.elim
end
/-- what is wished of exceptions where none may leave -/
abbrev W0 : WX := fun _ _ _ _ => False
abbrev noX : XQ := fun _ _ => False
theorem CXd.none {K : PySem.W.Frag} {mg : Str → Option Value} {F H : Hp} {M : Mem} {W : Value → Option Addr → Hp → Prop} : CXd K mg F H M noX W := fun _ _ _ _ _ _ _ _ h => h.elim
/-- the tests of a comprehension -/
structure ETs (X : Cx) (W : WX) (ifs : List Expr) (f : DT) : Prop where
  h : PTs X ifs (LT X.K X.mg W f)
def dYes : DT := fun _ M Q _ => Q true M
section
variable {X : Cx} {W : WX}
theorem ets_nil : ETs X W [] dYes := by
  refine ⟨⟨fun pins s σ H Q I h => ?_⟩⟩
  obtain ⟨F, M, ρ, Qd, Ed, rs, rp, hf, cq, cx⟩ := h
  exact pts_nil.run pins s σ H Q I (cq F H M true (Nx.refl rp) hf)
theorem ets_one {c : Expr} {f : DT} (h : ET X W c f) : ETs X W [c] f := ⟨pts_one h.h⟩
end
def dLcL (g : DG) (t : DT) (elt : DE) (ρ : Rho) : List Dat → List Dat → Mem → (List Dat → Mem → Prop) → Prop
  | [], acc, M, Q => Q acc M
  | d :: ds, acc, M, Q => g d ρ M fun ρ1 M1 => t ρ1 M1 (fun b M2 => if b = true then elt ρ1 M2 (fun x M3 => acc.length < sizeLine ∧ dLcL g t elt ρ ds (acc ++ [x]) M3 Q) noX else dLcL g t elt ρ ds acc M2 Q) noX
def dLc (it : DI) (g : DG) (t : DT) (elt : DE) (vs : List Nat) : DE := fun ρ M Q E => it ρ M (fun ds M1 => dLcL g t elt (wipeD ρ vs) ds [] M1 fun out M2 => Q (.list out) M2) E
/-- .. a list that may change -/
def dLcLive (it : DI) (g : DG) (t : DT) (elt : DE) (vs : List Nat) : DE := fun ρ M Q E => it ρ M (fun ds M1 => dLcL g t elt (wipeD ρ vs) ds [] M1 fun out M2 => ∀ p, M2 p = none → Q (rf p) (mup M2 p (.lst out))) E
def delH (H : Hp) (a : Addr) : Hp := fun b => if b = a then none else H b
theorem delH_same {H : Hp} {a : Addr} : delH H a a = none := by unfold delH; rw [if_pos rfl]
theorem delH_ne {H : Hp} {a b : Addr} (h : b ≠ a) : delH H a b = H b := by unfold delH; rw [if_neg h]
theorem upd_delH {H : Hp} {a : Addr} {o : HO} (h : H a = some o) : upd (delH H a) a o = H := by
  funext b
  unfold upd delH
  by_cases e : b = a
  · subst e; rw [if_pos rfl, h]
  · rw [if_neg e, if_neg e]
section
variable {K : PySem.W.Frag} {mg : Str → Option Value} {W : WX} {it : DI} {g : DG} {t : DT} {elt : DE} {vs : List Nat}
/-- the turns of a comprehension, the new list at D -/
theorem lc_turns {ρ : Rho} {σ : L2.St} {ds : List Dat} {Qd : List Dat → Mem → Prop} {Q : VK} {F1 H1 : Hp} {M1 : Mem} {J : It} {D : Addr} (rs : Rst K F1 ρ σ) (rp1 : Rpr K mg H1 F1 M1) (wk : Wlk K mg F1 J ds) (hD : H1 D = none)
    (q1 : dLcL g t elt (wipeD ρ vs) ds [] M1 Qd)
    (fin : ∀ F' H'' M' acc vacc, Nx K mg F1 H1 M1 F' H'' M' → H'' D = none → RpAll K F' acc vacc → Qd acc M' → Q (.ref D) (upd H'' D (.lst vacc))) :
    ∃ W' : Nat → Nat → Hp → Prop, (∃ m, W' 0 m (upd H1 D (.lst []))) ∧ ∀ i m H, W' i m H →
      (J.stop i H ∧ Q (.ref D) H) ∨ (J.go i H ∧ ∃ Nx' : Hp → Prop, (∀ H', Nx' H' → ∃ m', m' < m ∧ W' (i + 1) m' H') ∧ ∀ x H', J.yld i H x H' → LGv K mg vs g x (wipe σ vs) H' fun σ2 H2 => wipe σ2 vs = wipe σ vs ∧ LT K mg W0 t σ2 H2 fun b H3 =>
        if b = true then LE K mg W0 elt σ2 H3 fun y H4 => ∃ acc, H4 D = some (.lst acc) ∧ acc.length < sizeLine ∧ Nx' (upd H4 D (.lst (acc ++ [y]))) else Nx' H3) := by
  -- the state at turn i
  have St : Nat → Hp → Prop := fun i H => True
  refine ⟨fun i m H => m = ds.length - i ∧ i ≤ ds.length ∧ ∃ F' H'' M' acc vacc, H = upd H'' D (.lst vacc) ∧ H'' D = none ∧ Nx K mg F1 H1 M1 F' H'' M' ∧ RpAll K F' acc vacc ∧ dLcL g t elt (wipeD ρ vs) (ds.drop i) acc M' Qd,
    ⟨_, rfl, Nat.zero_le _, F1, H1, M1, [], [], rfl, hD, Nx.refl rp1, RpAll.nil, by simpa using q1⟩, ?_⟩
  rintro i m H ⟨rfl, hi, F2, H2, M2, acc, vacc, rfl, hD2, n2, ra, q2⟩
  have rp2 : Rpr K mg (upd H2 D (.lst vacc)) F2 M2 := n2.ok.grow hD2 _
  have hid := n2.ok.fresh hD2
  obtain ⟨wstop, wgo⟩ := wk i F2 _ M2 n2.same rp2
  by_cases hlt : i < ds.length
  · have hd : ds[i]? = some ds[i] := by simp [hlt]
    obtain ⟨go, yl⟩ := wgo _ hd
    rw [List.drop_eq_getElem_cons hlt] at q2
    refine .inr ⟨go, fun H => ∃ F' H'' M' acc vacc, H = upd H'' D (.lst vacc) ∧ H'' D = none ∧ Nx K mg F1 H1 M1 F' H'' M' ∧ RpAll K F' acc vacc ∧ dLcL g t elt (wipeD ρ vs) (ds.drop (i + 1)) acc M' Qd,
      fun H' h => ⟨ds.length - (i + 1), by omega, rfl, hlt, h⟩, fun x H3 y => ?_⟩
    obtain ⟨F3, n3, rx⟩ := yl x H3 y
    -- a later state, the list taken out of it
    have back : ∀ {F' H' : Hp} {M' : Mem}, Nx K mg F2 (upd H2 D (.lst vacc)) M2 F' H' M' → H' D = some (.lst vacc) ∧ Nx K mg F1 H1 M1 F' (delH H' D) M' := fun {F' H' M'} n => by
      obtain ⟨h1, m1, f1⟩ := n.fr D _ upd_same hid.2 hid.1
      refine ⟨h1, n2.same.trans n.same, ⟨fun b u e => ?_, fun a mo e => ?_⟩, fun a o e m f => ?_⟩
      · have ne : b ≠ D := fun z => by rw [z, f1] at e; cases e
        rw [delH_ne ne]; exact n.ok.sub b u e
      · have ne : a ≠ D := fun z => by rw [z, m1] at e; cases e
        obtain ⟨k1, k2⟩ := n.ok.mem a mo e
        exact ⟨k1, k2.step (Same.refl _) (delH_ne ne)⟩
      · have ne : a ≠ D := ne_of_none e hD
        obtain ⟨k1, k2, k3⟩ := n2.fr a o e m f
        obtain ⟨j1, j2, j3⟩ := n.fr a o (by rw [upd_ne ne]; exact k1) k2 k3
        exact ⟨by rw [delH_ne ne]; exact j1, j2, j3⟩
    have rs3 : Rst K F3 (wipeD ρ vs) (wipe σ vs) := (rs.mono ((n2.same).trans n3.same)).wipe vs
    refine ⟨F3, M2, _, _, _, rs3, n3.ok, rx, q2, fun F4 H4 M4 ρ4 σ4 n4 rs4 w4 q4 => ⟨w4.trans wipe_wipe, ?_⟩⟩
    refine ⟨F4, M4, ρ4, _, _, rs4, n4.ok, q4, fun F5 H5 M5 b n5 q5 => ?_, CXd.none⟩
    cases b with
    | true =>
      rw [if_pos rfl] at q5 ⊢
      refine ⟨F5, M5, ρ4, _, _, rs4.mono n5.same, n5.ok, q5, fun F6 H6 M6 d6 v6 n6 r6 q6 => ?_, CXd.none⟩
      obtain ⟨hDD, n16⟩ := back (((n3.trans n4).trans n5).trans n6)
      refine ⟨vacc, hDD, by rw [ra.len]; exact q6.1, F6, delH H6 D, M6, acc ++ [d6], vacc ++ [v6], ?_, delH_same, n16, ?_, q6.2⟩
      · rw [← upd_delH hDD, upd_upd, upd_delH hDD]
      · exact (ra.mono (((n3.trans n4).trans n5).trans n6).same).append (RpAll.cons r6 RpAll.nil)
    | false =>
      rw [if_neg Bool.false_ne_true] at q5 ⊢
      obtain ⟨hDD, n15⟩ := back ((n3.trans n4).trans n5)
      exact ⟨F5, delH H5 D, M5, acc, vacc, (upd_delH hDD).symm, delH_same, n15, ra.mono ((n3.trans n4).trans n5).same, q5⟩
  · have e : i = ds.length := by omega
    subst e
    rw [List.drop_length] at q2
    exact .inl ⟨wstop (by simp), fin F2 H2 M2 acc vacc n2 hD2 ra q2⟩
end
section
variable {X : Cx} {W : WX} {elt tg iter : Expr} {ifs : List Expr} {scope : Scope} {own : List (Str × Nat)} {pos : Pos} {it : DI} {g : DG} {t : DT} {fe : DE}
theorem lift_lc : ∀ σ H Q, LE X.K X.mg W (dLc it g t fe (own.map (·.2))) σ H Q → tLc (LI X.K X.mg W it) (LGv X.K X.mg (own.map (·.2)) g) (LT X.K X.mg W0 t) (LE X.K X.mg W0 fe) (own.map (·.2)) σ H Q := by
  rintro σ H Q ⟨F, M, ρ, Qd, Ed, rs, rp, hf, cq, cx⟩
  refine ⟨F, M, ρ, _, Ed, rs, rp, hf, fun F1 H1 M1 ds J n1 wk q1 D hD => ?_, cx⟩
  refine lc_turns (rs.mono n1.same) n1.ok wk hD q1 fun F' H'' M' acc vacc n' hD' ra qf => ?_
  exact cq _ _ _ _ _ ((n1.trans n').trans (Nx.new n'.ok hD' _)) (Rp.lst.mpr ⟨D, vacc, rfl, SqL.of upd_same, ra.mono (same_upd (n'.ok.fresh hD').1)⟩) qf
theorem lift_lcLive : ∀ σ H Q, LE X.K X.mg W (dLcLive it g t fe (own.map (·.2))) σ H Q → tLc (LI X.K X.mg W it) (LGv X.K X.mg (own.map (·.2)) g) (LT X.K X.mg W0 t) (LE X.K X.mg W0 fe) (own.map (·.2)) σ H Q := by
  rintro σ H Q ⟨F, M, ρ, Qd, Ed, rs, rp, hf, cq, cx⟩
  refine ⟨F, M, ρ, _, Ed, rs, rp, hf, fun F1 H1 M1 ds J n1 wk q1 D hD => ?_, cx⟩
  refine lc_turns (rs.mono n1.same) n1.ok wk hD q1 fun F' H'' M' acc vacc n' hD' ra qf => ?_
  exact cq _ _ _ _ _ ((n1.trans n').trans (Nx.live (mo := .lst acc) n'.ok hD' ⟨vacc, upd_same, ra⟩)) (Rp.rf.mpr rfl) (qf D (n'.ok.fresh hD').2)
theorem ee_lc (own : List (Str × Nat)) (hc : X.calm = true) (hN : X.N.Nodup) (hi : EI X W tg iter it) (ok : BlkOk X.N X.env.scope scope own)
    (hg : ∀ (s : Shared) (H : Hp) (C : Addr) (cl : List (Str × Addr)) (fp : List Addr), EGv (X.blk s H scope (compEnvC scope cl C X.env) fp) (own.map (·.2)) tg g) (ht : ∀ (s : Shared) (H : Hp) (C : Addr) (cl : List (Str × Addr)) (fp : List Addr), ETs (X.blk s H scope (compEnvC scope cl C X.env) fp) W0 ifs t)
    (he : ∀ (s : Shared) (H : Hp) (C : Addr) (cl : List (Str × Addr)) (fp : List Addr), EE (X.blk s H scope (compEnvC scope cl C X.env) fp) W0 elt fe) (hs : ∀ x, foldedSetIterable iter X.env x = pure x := by intro _; rfl) :
    EE X W (.ListComp elt [⟨tg, iter, ifs, 0⟩] scope pos) (dLc it g t fe (own.map (·.2))) :=
  ⟨PE.imp (pe_lc (te := LE X.K X.mg W0 fe) (tt := LT X.K X.mg W0 t) (g := LGv X.K X.mg (own.map (·.2)) g) hc hN hi.h ok (fun s H C cl fp => (hg s H C cl fp).h) (fun s H C cl fp => (ht s H C cl fp).h) (fun s H C cl fp => (he s H C cl fp).h) hs) lift_lc⟩
theorem ee_lcLive (own : List (Str × Nat)) (hc : X.calm = true) (hN : X.N.Nodup) (hi : EI X W tg iter it) (ok : BlkOk X.N X.env.scope scope own)
    (hg : ∀ (s : Shared) (H : Hp) (C : Addr) (cl : List (Str × Addr)) (fp : List Addr), EGv (X.blk s H scope (compEnvC scope cl C X.env) fp) (own.map (·.2)) tg g) (ht : ∀ (s : Shared) (H : Hp) (C : Addr) (cl : List (Str × Addr)) (fp : List Addr), ETs (X.blk s H scope (compEnvC scope cl C X.env) fp) W0 ifs t)
    (he : ∀ (s : Shared) (H : Hp) (C : Addr) (cl : List (Str × Addr)) (fp : List Addr), EE (X.blk s H scope (compEnvC scope cl C X.env) fp) W0 elt fe) (hs : ∀ x, foldedSetIterable iter X.env x = pure x := by intro _; rfl) :
    EE X W (.ListComp elt [⟨tg, iter, ifs, 0⟩] scope pos) (dLcLive it g t fe (own.map (·.2))) :=
  ⟨PE.imp (pe_lc (te := LE X.K X.mg W0 fe) (tt := LT X.K X.mg W0 t) (g := LGv X.K X.mg (own.map (·.2)) g) hc hN hi.h ok (fun s H C cl fp => (hg s H C cl fp).h) (fun s H C cl fp => (ht s H C cl fp).h) (fun s H C cl fp => (he s H C cl fp).h) hs) lift_lcLive⟩
/-- name = [..] on one line, the name a local -/
theorem es_setLc {i : Nat} {y : Str} {py spos : Pos} (own : List (Str × Nat)) (hc : X.calm = true) (hN : X.N.Nodup) (hi : EI X W tg iter it) (ok : BlkOk X.N X.env.scope scope own)
    (hg : ∀ (s : Shared) (H : Hp) (C : Addr) (cl : List (Str × Addr)) (fp : List Addr), EGv (X.blk s H scope (compEnvC scope cl C X.env) fp) (own.map (·.2)) tg g) (ht : ∀ (s : Shared) (H : Hp) (C : Addr) (cl : List (Str × Addr)) (fp : List Addr), ETs (X.blk s H scope (compEnvC scope cl C X.env) fp) W0 ifs t)
    (he : ∀ (s : Shared) (H : Hp) (C : Addr) (cl : List (Str × Addr)) (fp : List Addr), EE (X.blk s H scope (compEnvC scope cl C X.env) fp) W0 elt fe)
    (hsw : swapsWith (.ListComp elt [⟨tg, iter, ifs, 0⟩] scope pos) (some (.Name y py)) spos.line X.env = pure true) (hy : X.N[i]? = some y := by rfl) (hyl : X.env.scope.names.lookup y = some .local := by rfl) (hs : ∀ x, foldedSetIterable iter X.env x = pure x := by intro _; rfl) :
    ES X W (.Assign [.Name y py] (.ListComp elt [⟨tg, iter, ifs, 0⟩] scope pos) spos) (dAsg (dLc it g t fe (own.map (·.2))) (gN i)) := by
  refine ⟨PS.imp (ps_setLc (te := LE X.K X.mg W0 fe) (tt := LT X.K X.mg W0 t) (g := LGv X.K X.mg (own.map (·.2)) g) hc hN hy hyl hsw hi.h ok (fun s H C cl fp => (hg s H C cl fp).h) (fun s H C cl fp => (ht s H C cl fp).h) (fun s H C cl fp => (he s H C cl fp).h) hs) ?_⟩
  rintro Q σ H ⟨F, M, ρ, Dd, rs, rp, hf, cd⟩
  refine lift_lc σ H _ ⟨F, M, ρ, _, _, rs, rp, hf, fun F1 H1 M1 d v n1 rv q1 => ?_, cd.ex.at rs⟩
  exact cd.nx F1 H1 M1 _ _ n1 ((rs.mono n1.same).set rv) q1
theorem es_setLcLive {i : Nat} {y : Str} {py spos : Pos} (own : List (Str × Nat)) (hc : X.calm = true) (hN : X.N.Nodup) (hi : EI X W tg iter it) (ok : BlkOk X.N X.env.scope scope own)
    (hg : ∀ (s : Shared) (H : Hp) (C : Addr) (cl : List (Str × Addr)) (fp : List Addr), EGv (X.blk s H scope (compEnvC scope cl C X.env) fp) (own.map (·.2)) tg g) (ht : ∀ (s : Shared) (H : Hp) (C : Addr) (cl : List (Str × Addr)) (fp : List Addr), ETs (X.blk s H scope (compEnvC scope cl C X.env) fp) W0 ifs t)
    (he : ∀ (s : Shared) (H : Hp) (C : Addr) (cl : List (Str × Addr)) (fp : List Addr), EE (X.blk s H scope (compEnvC scope cl C X.env) fp) W0 elt fe)
    (hsw : swapsWith (.ListComp elt [⟨tg, iter, ifs, 0⟩] scope pos) (some (.Name y py)) spos.line X.env = pure true) (hy : X.N[i]? = some y := by rfl) (hyl : X.env.scope.names.lookup y = some .local := by rfl) (hs : ∀ x, foldedSetIterable iter X.env x = pure x := by intro _; rfl) :
    ES X W (.Assign [.Name y py] (.ListComp elt [⟨tg, iter, ifs, 0⟩] scope pos) spos) (dAsg (dLcLive it g t fe (own.map (·.2))) (gN i)) := by
  refine ⟨PS.imp (ps_setLc (te := LE X.K X.mg W0 fe) (tt := LT X.K X.mg W0 t) (g := LGv X.K X.mg (own.map (·.2)) g) hc hN hy hyl hsw hi.h ok (fun s H C cl fp => (hg s H C cl fp).h) (fun s H C cl fp => (ht s H C cl fp).h) (fun s H C cl fp => (he s H C cl fp).h) hs) ?_⟩
  rintro Q σ H ⟨F, M, ρ, Dd, rs, rp, hf, cd⟩
  refine lift_lcLive σ H _ ⟨F, M, ρ, _, _, rs, rp, hf, fun F1 H1 M1 d v n1 rv q1 => ?_, cd.ex.at rs⟩
  exact cd.nx F1 H1 M1 _ _ n1 ((rs.mono n1.same).set rv) q1
end
end Nb
set_option Elab.async false
set_option linter.all false
set_option maxRecDepth 100000
set_option maxHeartbeats 1000000
set_option autoImplicit false
namespace Nb
open PySem PySem.Spec PyProof.Rows L2

/-! ### operators by data -/
section
variable {K : PySem.W.Frag} {mg : Str → Option Value} {F H : Hp} {M : Mem} {Qd : DQ} {Q : VK}
theorem CQ.now (cq : CQ K mg F H M Qd Q) (rp : Rpr K mg H F M) {d : Dat} {v : V} (r : Rp K F d v) (q : Qd d M) : Q v H := cq F H M d v (Nx.refl rp) r q
theorem CQ.tup (cq : CQ K mg F H M Qd Q) (rp : Rpr K mg H F M) {ds : List Dat} {vs : List V} (r : RpAll K F ds vs) (q : Qd (.tuple ds) M) : ∀ p, H p = none → Q (.ref p) (upd H p (.tup vs)) := fun p hp =>
  cq _ _ M _ _ (Nx.new rp hp _) (Rp.tup.mpr ⟨p, vs, rfl, SqT.of upd_same, r.mono (same_upd (rp.fresh hp).1)⟩) q
theorem CQ.lst (cq : CQ K mg F H M Qd Q) (rp : Rpr K mg H F M) {ds : List Dat} {vs : List V} (r : RpAll K F ds vs) (q : Qd (.list ds) M) : ∀ p, H p = none → Q (.ref p) (upd H p (.lst vs)) := fun p hp =>
  cq _ _ M _ _ (Nx.new rp hp _) (Rp.lst.mpr ⟨p, vs, rfl, SqL.of upd_same, r.mono (same_upd (rp.fresh hp).1)⟩) q
theorem CQ.live (cq : CQ K mg F H M Qd Q) (rp : Rpr K mg H F M) {ds : List Dat} {vs : List V} (r : RpAll K F ds vs) (q : ∀ p, M p = none → Qd (rf p) (mup M p (.lst ds))) : ∀ p, H p = none → Q (.ref p) (upd H p (.lst vs)) := fun p hp =>
  cq _ _ _ _ _ (Nx.live (mo := .lst ds) rp hp ⟨vs, upd_same, r⟩) (Rp.rf.mpr rfl) (q p (rp.fresh hp).2)
/-- a list, frozen or live -/
def lstOf (d : Dat) (M : Mem) : Option (List Dat) := match d with
  | .list ds => some ds
  | .dict [(.int (Int.ofNat p), .none)] => (match M p with
    | some (.lst ds) => some ds
    | _ => none)
  | _ => none
theorem lstOf_rf {M : Mem} {p : Nat} {ds : List Dat} (h : M p = some (.lst ds)) : lstOf (rf p) M = some ds := by
  show (match M p with
    | some (.lst ds) => some ds
    | _ => none) = some ds
  rw [h]
theorem lstOf_list {M : Mem} {ds : List Dat} : lstOf (.list ds) M = some ds := rfl
theorem lstOf_ok {d : Dat} {v : V} {ds : List Dat} (r : Rp K F d v) (rp : Rpr K mg H F M) (h : lstOf d M = some ds) : ∃ a vs, v = .ref a ∧ SqL K H a vs ∧ RpAll K F ds vs := by
  unfold lstOf at h
  split at h
  · cases h
    obtain ⟨a, vs, rfl, q, t⟩ := Rp.lst.mp r
    exact ⟨a, vs, rfl, rp.sub.seq q, t⟩
  · rename_i p
    split at h
    · rename_i ds' hM
      cases h
      obtain ⟨_, vs, e, t⟩ := rp.mem p _ hM
      exact ⟨p, vs, Rp.rf.mp r, SqL.of e, t⟩
    · cases h
  · cases h
theorem RpAll.ints_of {ds : List Dat} {vs : List V} {ns : List Int} (h : RpAll K F ds vs) (e : ds = ns.map PyData.int) : vs = ns.map V.int := by
  subst e
  exact h.ints
theorem RpAll.bools : ∀ {bs : List Bool} {vs : List V}, RpAll K F (bs.map PyData.bool) vs → vs = bs.map V.bl
  | [], vs, h => h.nil_inv
  | b :: bs, vs, h => by
    obtain ⟨v, r, rfl, h1, h2⟩ := RpAll.inv (by simpa using h)
    rw [Rp.bl.mp h1, RpAll.bools h2]
    rfl
theorem RpAll.flat : ∀ {ds : List Dat} {vs : List V} (n : Nat), RpAll K F ds vs → RpAll K F (List.replicate n ds).flatten (List.replicate n vs).flatten
  | _, _, 0, _ => RpAll.nil
  | ds, vs, n + 1, h => by
    rw [List.replicate_succ, List.replicate_succ, List.flatten_cons, List.flatten_cons]
    exact h.append (RpAll.flat n h)
/-- data without live things is plain data -/
theorem canLay_all : ∀ {ds : List Dat}, PyData.canLayAll0 ds = true → ∀ d ∈ ds, PyData.canLay0 d = true
  | [], _, d, h => by cases h
  | x :: xs, e, d, h => by
    simp only [PyData.canLayAll0, Bool.and_eq_true] at e
    rcases List.mem_cons.mp h with rfl | h
    · exact e.1
    · exact canLay_all e.2 d h
mutual
theorem Rp.dp {K : PySem.W.Frag} {F : Hp} : ∀ {d : Dat} {v : V}, Rp K F d v → PyData.canLay0 d = true → Dp K F v d
  | .none, v, h, _ => by rw [Rp.non.mp h]; exact .non
  | .bool b, v, h, _ => by rw [Rp.bl.mp h]; exact .bl b
  | .int i, v, h, _ => by rw [Rp.int.mp h]; exact .int i
  | .str x, v, h, _ => by rw [Rp.str.mp h]; exact .str x
  | .list ds, v, h, e => by
    obtain ⟨a, vs, rfl, q, t⟩ := Rp.lst.mp h
    exact .lst q (RpAll.dp t (by simpa [PyData.canLay0] using e))
  | .tuple ds, v, h, e => by
    obtain ⟨a, vs, rfl, q, t⟩ := Rp.tup.mp h
    exact .tup q (RpAll.dp t (by simpa [PyData.canLay0] using e))
  | .dict kvs, v, h, e => by simp [PyData.canLay0] at e
theorem RpAll.dp {K : PySem.W.Frag} {F : Hp} : ∀ {ds : List Dat} {vs : List V}, RpAll K F ds vs → PyData.canLayAll0 ds = true → DpAll K F vs ds
  | [], vs, h, _ => by rw [h.nil_inv]; exact .nil
  | d :: ds, vs, h, e => by
    obtain ⟨v, r, rfl, h1, t⟩ := h.inv
    have e' : PyData.canLay0 d = true ∧ PyData.canLayAll0 ds = true := by simpa [PyData.canLayAll0] using e
    exact .cons (Rp.dp h1 e'.1) (RpAll.dp t e'.2)
end
mutual
theorem Dp.mono {K : PySem.W.Frag} {F F' : Hp} (s : Same F F') : ∀ {d : Dat} {v : V}, Dp K F v d → Dp K F' v d
  | .none, v, h => by cases h; exact .non
  | .bool b, v, h => by cases h; exact .bl b
  | .int i, v, h => by cases h; exact .int i
  | .str x, v, h => by cases h; exact .str x
  | .list ds, v, h => by
    cases h with
    | lst q t => exact .lst (s.seq q) (DpAll.mono s t)
  | .tuple ds, v, h => by
    cases h with
    | tup q t => exact .tup (Same.seqT s q) (DpAll.mono s t)
  | .dict kvs, v, h => by cases h
theorem DpAll.mono {K : PySem.W.Frag} {F F' : Hp} (s : Same F F') : ∀ {ds : List Dat} {vs : List V}, DpAll K F vs ds → DpAll K F' vs ds
  | [], vs, h => by cases h; exact .nil
  | d :: ds, vs, h => by
    cases h with
    | cons h1 t => exact .cons (Dp.mono s h1) (DpAll.mono s t)
end
theorem Rp.plain {d : Dat} {v : V} (r : Rp K F d v) (rp : Rpr K mg H F M) (h : SeqAt.shaped d = true) : Dp K H v d := Dp.mono rp.sub (Rp.dp r (SeqAt.canLay_of_shaped h))
end

/-- a live list, as data -/
def vw (d : Dat) (M : Mem) : Dat := match d with
  | .dict [(.int (Int.ofNat p), .none)] => (match M p with
    | some (.lst ds) => .list ds
    | _ => d)
  | _ => d
theorem vw_rf {M : Mem} {p : Nat} {ds : List Dat} (h : M p = some (.lst ds)) : vw (rf p) M = .list ds := by
  show (match M p with
    | some (.lst ds) => PyData.list ds
    | _ => rf p) = .list ds
  rw [h]
theorem vw_plain {K : PySem.W.Frag} {mg : Str → Option Value} {F H : Hp} {M : Mem} {d : Dat} {v : V} (r : Rp K F d v) (rp : Rpr K mg H F M) (h : SeqAt.shaped (vw d M) = true) : Dp K H v (vw d M) := by
  unfold vw at h ⊢
  split at h
  · rename_i p
    split at h
    · rename_i ds hM
      obtain ⟨_, vs, e, t⟩ := rp.mem p _ hM
      rw [Rp.rf.mp r]
      exact .lst (SqL.of e) (DpAll.mono rp.sub (RpAll.dp t (by simpa [PyData.canLay0] using SeqAt.canLay_of_shaped h)))
    · exact r.plain rp h
  · exact r.plain rp h

def gAdd : DR2 := fun x y M Q => match x, y with
  | .int i, .int j => Q (.int (i + j)) M
  | .tuple a, .tuple b => a.length + b.length ≤ sizeLine ∧ Q (.tuple (a ++ b)) M
  | .list a, .list b => a.length + b.length ≤ sizeLine ∧ Q (.list (a ++ b)) M
  | .str a, .str b => a.length + b.length ≤ sizeLine ∧ Q (.str (a ++ b)) M
  | _, _ => False
/-- .. two lists, the new one live -/
def gAddL : DR2 := fun x y M Q => match lstOf x M, lstOf y M with
  | some a, some b => a.length + b.length ≤ sizeLine ∧ ∀ p, M p = none → Q (rf p) (mup M p (.lst (a ++ b)))
  | _, _ => False
def gSub : DR2 := fun x y M Q => match x, y with
  | .int i, .int j => Q (.int (i - j)) M
  | _, _ => False
def gMul : DR2 := fun x y M Q => match x, y with
  | .int i, .int j => CMul i j ∧ Q (.int (i * j)) M
  | .list a, .int k => (-(2 ^ 63) ≤ k ∧ k < 2 ^ 63 ∧ a.length * k.toNat ≤ sizeLine) ∧ Q (.list (List.replicate k.toNat a).flatten) M
  | _, _ => False
def gMulL : DR2 := fun x y M Q => match x, y with
  | .list a, .int k => (-(2 ^ 63) ≤ k ∧ k < 2 ^ 63 ∧ a.length * k.toNat ≤ sizeLine) ∧ ∀ p, M p = none → Q (rf p) (mup M p (.lst (List.replicate k.toNat a).flatten))
  | _, _ => False
def gFdiv : DR2 := fun x y M Q => match x, y with
  | .int i, .int j => CDiv i j ∧ Q (.int (i / j)) M
  | _, _ => False
def gMod : DR2 := fun x y M Q => match x, y with
  | .int i, .int j => 0 < j ∧ Q (.int (i % j)) M
  | _, _ => False
def gPow : DR2 := fun x y M Q => match x, y with
  | .int i, .int j => CPow i j ∧ Q (.int (i ^ j.toNat)) M
  | _, _ => False
def gLt : DR2 := fun x y M Q => match x, y with
  | .int i, .int j => Q (.bool (decide (i < j))) M
  | _, _ => False
def gLe : DR2 := fun x y M Q => match x, y with
  | .int i, .int j => Q (.bool (decide (i ≤ j))) M
  | _, _ => False
def gGt : DR2 := fun x y M Q => match x, y with
  | .int i, .int j => Q (.bool (decide (j < i))) M
  | _, _ => False
def gGe : DR2 := fun x y M Q => match x, y with
  | .int i, .int j => Q (.bool (decide (j ≤ i))) M
  | _, _ => False
def gEq : DR2 := fun x y M Q => (SeqAt.shaped (vw x M) = true ∧ SeqAt.shaped (vw y M) = true) ∧ Q (.bool (PyData.eqv (vw x M) (vw y M))) M
def gNe : DR2 := fun x y M Q => (SeqAt.shaped (vw x M) = true ∧ SeqAt.shaped (vw y M) = true) ∧ Q (.bool (!PyData.eqv (vw x M) (vw y M))) M
def isNon : Dat → Bool
  | .none => true
  | _ => false
def gIsN : DR2 := fun x y M Q => match y with
  | .none => Q (.bool (isNon x)) M
  | _ => False
def gNotN : DR2 := fun x y M Q => match y with
  | .none => Q (.bool (!isNon x)) M
  | _ => False
def flatD : Dat → Bool
  | .none => true
  | .bool _ => true
  | .int _ => true
  | .str _ => true
  | _ => false
def inD (x : Dat) (ys : List Dat) : Bool := ys.any fun y => PyData.eqv y x
/-- x in y: a tuple, or a list, of flat things -/
def gIn : DR2 := fun x y M Q => match y with
  | .tuple ys => (flatD x = true ∧ ys.all flatD = true) ∧ Q (.bool (inD x ys)) M
  | _ => match lstOf y M with
    | some ys => (flatD x = true ∧ ys.all flatD = true) ∧ Q (.bool (inD x ys)) M
    | none => False
def gNotIn : DR2 := fun x y M Q => match y with
  | .tuple ys => (flatD x = true ∧ ys.all flatD = true) ∧ Q (.bool (!inD x ys)) M
  | _ => match lstOf y M with
    | some ys => (flatD x = true ∧ ys.all flatD = true) ∧ Q (.bool (!inD x ys)) M
    | none => False
def gIx : DR2 := fun x y M Q => match y with
  | .int i => (match x with
    | .tuple ds => (match atI ds i with
      | some d => Q d M
      | none => False)
    | _ => match lstOf x M with
      | some ds => (match atI ds i with
        | some d => Q d M
        | none => False)
      | none => False)
  | _ => False
section
variable {X : Cx}
theorem og_add : OpR X (binaryOp .Add) (LR2 X.K X.mg gAdd) := by
  rintro pins s σ H x y v u Q I rx ry ⟨F, M, dx, dy, Qd, r1, r2, rp, hg, cq⟩
  unfold gAdd at hg
  split at hg
  · rw [Rp.int.mp r1] at rx
    rw [Rp.int.mp r2] at ry
    exact op_add pins s σ H _ _ v u Q I rx ry ⟨_, _, rfl, rfl, cq.now rp (Rp.int.mpr rfl) hg⟩
  · obtain ⟨a, vs, rfl, q, t⟩ := Rp.tup.mp r1
    obtain ⟨b, us, rfl, q', t'⟩ := Rp.tup.mp r2
    refine op_catA pins s σ H _ _ v u Q I rx ry ⟨a, b, vs, us, rfl, rfl, Same.seqT rp.sub q, Same.seqT rp.sub q', by rw [t.len, t'.len]; exact hg.1, fun e => ?_, fun e e' => ?_, fun e e' => cq.tup rp (t.append t') hg.2⟩
    · subst e
      have e0 := t.len
      rename_i a' b'
      cases a' with
      | nil => exact cq.now rp r2 hg.2
      | cons _ _ => simp at e0
    · subst e'
      have e0 := t'.len
      rename_i a' b'
      cases b' with
      | nil =>
        have hq := hg.2
        rw [List.append_nil] at hq
        exact cq.now rp r1 hq
      | cons _ _ => simp at e0
  · obtain ⟨a, vs, rfl, q, t⟩ := Rp.lst.mp r1
    obtain ⟨b, us, rfl, q', t'⟩ := Rp.lst.mp r2
    cases rx
    cases ry
    obtain ⟨its, rv, p, hz⟩ := I.list (rp.sub.seq q)
    obtain ⟨its2, rv2, p2, hz2⟩ := I.list (rp.sub.seq q')
    have hsz : its.length + its2.length ≤ sizeLine := by rw [← rv.length, ← rv2.length, t.len, t'.len]; exact hg.1
    obtain ⟨⟨cls, dd, data, sl⟩, n, ho, hc, hd0, hd⟩ := id p
    obtain ⟨⟨cls2, dd2, data2, sl2⟩, n2, ho2, hc2, hd02, hd2⟩ := id p2
    simp only at hc hd hc2 hd2
    subst hc hd hc2 hd2
    have e : its.toArray ++ its2.toArray = (its ++ its2).toArray := by simp
    refine concat_meets ⟨_, ho, rfl⟩ ⟨_, ho2, rfl⟩ noFill_list_add seq_list_add PySem.F.slot_list_add PySem.F.entry_list_add (PySem.F.args_list_add_2 _ _) (list_addW a b its.toArray its2.toArray n n2 dd dd2 sl sl2 (by simpa using hsz)) ⟨ho, ho2, ?_⟩
    rw [e]
    exact ⟨.ref _, _, I.lnew (t' := s.toks) (rv.append rv2) (by rw [List.length_append, t.len, t'.len]; exact hg.1), rfl, cq.lst rp (t.append t') hg.2 _ I.fresh⟩
  · rw [Rp.str.mp r1] at rx
    rw [Rp.str.mp r2] at ry
    exact op_add_str pins s σ H _ _ v u Q I rx ry ⟨_, _, rfl, rfl, hg.1, cq.now rp (Rp.str.mpr rfl) hg.2⟩
  · exact hg.elim
theorem og_addL : OpR X (binaryOp .Add) (LR2 X.K X.mg gAddL) := by
  rintro pins s σ H x y v u Q I rx ry ⟨F, M, dx, dy, Qd, r1, r2, rp, hg, cq⟩
  unfold gAddL at hg
  split at hg
  · rename_i da db ea eb
    obtain ⟨a, vs, rfl, q, t⟩ := lstOf_ok r1 rp ea
    obtain ⟨b, us, rfl, q', t'⟩ := lstOf_ok r2 rp eb
    cases rx
    cases ry
    obtain ⟨its, rv, p, hz⟩ := I.list q
    obtain ⟨its2, rv2, p2, hz2⟩ := I.list q'
    have hsz : its.length + its2.length ≤ sizeLine := by rw [← rv.length, ← rv2.length, t.len, t'.len]; exact hg.1
    obtain ⟨⟨cls, dd, data, sl⟩, n, ho, hc, hd0, hd⟩ := id p
    obtain ⟨⟨cls2, dd2, data2, sl2⟩, n2, ho2, hc2, hd02, hd2⟩ := id p2
    simp only at hc hd hc2 hd2
    subst hc hd hc2 hd2
    have e : its.toArray ++ its2.toArray = (its ++ its2).toArray := by simp
    refine concat_meets ⟨_, ho, rfl⟩ ⟨_, ho2, rfl⟩ noFill_list_add seq_list_add PySem.F.slot_list_add PySem.F.entry_list_add (PySem.F.args_list_add_2 _ _) (list_addW a b its.toArray its2.toArray n n2 dd dd2 sl sl2 (by simpa using hsz)) ⟨ho, ho2, ?_⟩
    rw [e]
    exact ⟨.ref _, _, I.lnew (t' := s.toks) (rv.append rv2) (by rw [List.length_append, t.len, t'.len]; exact hg.1), rfl, cq.live rp (t.append t') hg.2 _ I.fresh⟩
  · exact hg.elim
theorem og_sub : OpR X (binaryOp .Sub) (LR2 X.K X.mg gSub) := by
  rintro pins s σ H x y v u Q I rx ry ⟨F, M, dx, dy, Qd, r1, r2, rp, hg, cq⟩
  unfold gSub at hg
  split at hg
  · rw [Rp.int.mp r1] at rx
    rw [Rp.int.mp r2] at ry
    exact op_sub pins s σ H _ _ v u Q I rx ry ⟨_, _, rfl, rfl, cq.now rp (Rp.int.mpr rfl) hg⟩
  · exact hg.elim
theorem og_fdiv : OpR X (binaryOp .FloorDiv) (LR2 X.K X.mg gFdiv) := by
  rintro pins s σ H x y v u Q I rx ry ⟨F, M, dx, dy, Qd, r1, r2, rp, hg, cq⟩
  unfold gFdiv at hg
  split at hg
  · rw [Rp.int.mp r1] at rx
    rw [Rp.int.mp r2] at ry
    exact op_fdiv pins s σ H _ _ v u Q I rx ry ⟨_, _, rfl, rfl, hg.1, cq.now rp (Rp.int.mpr rfl) hg.2⟩
  · exact hg.elim
theorem og_mod : OpR X (binaryOp .Mod) (LR2 X.K X.mg gMod) := by
  rintro pins s σ H x y v u Q I rx ry ⟨F, M, dx, dy, Qd, r1, r2, rp, hg, cq⟩
  unfold gMod at hg
  split at hg
  · rw [Rp.int.mp r1] at rx
    rw [Rp.int.mp r2] at ry
    exact op_mod pins s σ H _ _ v u Q I rx ry ⟨_, _, rfl, rfl, hg.1, cq.now rp (Rp.int.mpr rfl) hg.2⟩
  · exact hg.elim
theorem og_pow : OpR X (binaryOp .Pow) (LR2 X.K X.mg gPow) := by
  rintro pins s σ H x y v u Q I rx ry ⟨F, M, dx, dy, Qd, r1, r2, rp, hg, cq⟩
  unfold gPow at hg
  split at hg
  · rw [Rp.int.mp r1] at rx
    rw [Rp.int.mp r2] at ry
    exact op_pow pins s σ H _ _ v u Q I rx ry ⟨_, _, rfl, rfl, hg.1, cq.now rp (Rp.int.mpr rfl) hg.2⟩
  · exact hg.elim
theorem cmp_int {f : Value → Value → Sem Value} {p : Int → Int → Bool} {g : DR2} (ho : OpR X f (rI0 fun i j => .bl (p i j)))
    (hg : ∀ x y M Q, g x y M Q → ∃ i j, x = .int i ∧ y = .int j ∧ Q (.bool (p i j)) M) : OpR X f (LR2 X.K X.mg g) := by
  rintro pins s σ H x y v u Q I rx ry ⟨F, M, dx, dy, Qd, r1, r2, rp, h, cq⟩
  obtain ⟨i, j, rfl, rfl, q⟩ := hg _ _ _ _ h
  rw [Rp.int.mp r1] at rx
  rw [Rp.int.mp r2] at ry
  exact ho pins s σ H _ _ v u Q I rx ry ⟨_, _, rfl, rfl, cq.now rp (Rp.bl.mpr rfl) q⟩
theorem og_lt : OpR X (compareOp .Lt) (LR2 X.K X.mg gLt) := cmp_int op_lt fun x y M Q h => by
  unfold gLt at h
  split at h
  · exact ⟨_, _, rfl, rfl, h⟩
  · exact h.elim
theorem og_le : OpR X (compareOp .LtE) (LR2 X.K X.mg gLe) := cmp_int op_le fun x y M Q h => by
  unfold gLe at h
  split at h
  · exact ⟨_, _, rfl, rfl, h⟩
  · exact h.elim
theorem og_gt : OpR X (compareOp .Gt) (LR2 X.K X.mg gGt) := cmp_int op_gt fun x y M Q h => by
  unfold gGt at h
  split at h
  · exact ⟨_, _, rfl, rfl, h⟩
  · exact h.elim
theorem og_ge : OpR X (compareOp .GtE) (LR2 X.K X.mg gGe) := cmp_int op_ge fun x y M Q h => by
  unfold gGe at h
  split at h
  · exact ⟨_, _, rfl, rfl, h⟩
  · exact h.elim
theorem og_eq (hu : X.A.units + 64 < cLine) : OpR X (compareOp .Eq) (LR2 X.K X.mg gEq) := by
  rintro pins s σ H x y v u Q I rx ry ⟨F, M, dx, dy, Qd, r1, r2, rp, hg, cq⟩
  exact op_eqD hu pins s σ H _ _ v u Q I rx ry ⟨vw dx M, vw dy M, vw_plain r1 rp hg.1.1, vw_plain r2 rp hg.1.2, hg.1.1, hg.1.2, cq.now rp (Rp.bl.mpr rfl) hg.2⟩
theorem og_ne (hu : X.A.units + 64 < cLine) : OpR X (compareOp .NotEq) (LR2 X.K X.mg gNe) := by
  rintro pins s σ H x y v u Q I rx ry ⟨F, M, dx, dy, Qd, r1, r2, rp, hg, cq⟩
  exact op_neD hu pins s σ H _ _ v u Q I rx ry ⟨vw dx M, vw dy M, vw_plain r1 rp hg.1.1, vw_plain r2 rp hg.1.2, hg.1.1, hg.1.2, cq.now rp (Rp.bl.mpr rfl) hg.2⟩
theorem isNon_ok {K : PySem.W.Frag} {F : Hp} {d : Dat} {v : V} (r : Rp K F d v) : isNon d = decide (v = .non) := by
  cases d with
  | none => rw [Rp.non.mp r]; rfl
  | bool b => rw [Rp.bl.mp r]; rfl
  | int i => rw [Rp.int.mp r]; rfl
  | str x => rw [Rp.str.mp r]; rfl
  | list ds => obtain ⟨a, vs, rfl, _⟩ := Rp.lst.mp r; rfl
  | tuple ds => obtain ⟨a, vs, rfl, _⟩ := Rp.tup.mp r; rfl
  | dict kvs =>
    simp only [Rp] at r
    obtain ⟨a, _, rfl⟩ := r
    rfl
theorem og_isN : OpR X (compareOp .Is) (LR2 X.K X.mg gIsN) := by
  rintro pins s σ H x y v u Q I rx ry ⟨F, M, dx, dy, Qd, r1, r2, rp, hg, cq⟩
  unfold gIsN at hg
  split at hg
  · refine op_isN pins s σ H _ _ v u Q I rx ry ⟨Rp.non.mp r2, ?_⟩
    rw [← isNon_ok r1]
    exact cq.now rp (Rp.bl.mpr rfl) hg
  · exact hg.elim
theorem og_notN : OpR X (compareOp .IsNot) (LR2 X.K X.mg gNotN) := by
  rintro pins s σ H x y v u Q I rx ry ⟨F, M, dx, dy, Qd, r1, r2, rp, hg, cq⟩
  unfold gNotN at hg
  split at hg
  · refine op_notN pins s σ H _ _ v u Q I rx ry ⟨Rp.non.mp r2, ?_⟩
    rw [← isNon_ok r1]
    exact cq.now rp (Rp.bl.mpr rfl) hg
  · exact hg.elim
theorem flat_ok {K : PySem.W.Frag} {F : Hp} {d : Dat} {v : V} (r : Rp K F d v) (h : flatD d = true) : flatV v = true := by
  cases d with
  | none => rw [Rp.non.mp r]; rfl
  | bool b => rw [Rp.bl.mp r]; rfl
  | int i => rw [Rp.int.mp r]; rfl
  | str x => rw [Rp.str.mp r]; rfl
  | list ds => cases h
  | tuple ds => cases h
  | dict kvs => cases h
theorem eqV_ok {K : PySem.W.Frag} {F : Hp} {d e : Dat} {v u : V} (r1 : Rp K F d v) (r2 : Rp K F e u) (h1 : flatD d = true) (h2 : flatD e = true) : eqV v u = PyData.eqv d e := by
  cases d <;> first | (cases h1; done) | skip
  all_goals cases e <;> first | (cases h2; done) | skip
  all_goals (simp only [Rp] at r1 r2; subst r1 r2; simp [eqV, PyData.eqv])
theorem inV_ok {K : PySem.W.Frag} {F : Hp} {d : Dat} {v : V} (r : Rp K F d v) (h : flatD d = true) : ∀ {es : List Dat} {us : List V}, RpAll K F es us → es.all flatD = true → us.all flatV = true ∧ inV v us = inD d es
  | [], us, t, _ => by rw [t.nil_inv]; exact ⟨rfl, rfl⟩
  | e :: es, us, t, a => by
    obtain ⟨u, r', rfl, h1, t'⟩ := t.inv
    rw [List.all_cons, Bool.and_eq_true] at a
    obtain ⟨k1, k2⟩ := inV_ok r h t' a.2
    refine ⟨by rw [List.all_cons, flat_ok h1 a.1, k1]; rfl, ?_⟩
    unfold inV inD at k2 ⊢
    rw [List.any_cons, List.any_cons, eqV_ok h1 r a.1 h, k2]
theorem og_in : OpR X (compareOp .In) (LR2 X.K X.mg gIn) := by
  rintro pins s σ H x y v u Q I rx ry ⟨F, M, dx, dy, Qd, r1, r2, rp, hg, cq⟩
  unfold gIn at hg
  split at hg
  · obtain ⟨b, us, rfl, q, t⟩ := Rp.tup.mp r2
    obtain ⟨k1, k2⟩ := inV_ok r1 hg.1.1 t hg.1.2
    refine op_in_seq pins s σ H _ _ v u Q I rx ry ⟨b, us, rfl, .inr (Same.seqT rp.sub q), flat_ok r1 hg.1.1, k1, ?_⟩
    rw [if_neg Bool.false_ne_true, k2]
    exact cq.now rp (Rp.bl.mpr rfl) hg.2
  · split at hg
    · rename_i es ee
      obtain ⟨b, us, rfl, q, t⟩ := lstOf_ok r2 rp ee
      obtain ⟨k1, k2⟩ := inV_ok r1 hg.1.1 t hg.1.2
      refine op_in_seq pins s σ H _ _ v u Q I rx ry ⟨b, us, rfl, .inl q, flat_ok r1 hg.1.1, k1, ?_⟩
      rw [if_neg Bool.false_ne_true, k2]
      exact cq.now rp (Rp.bl.mpr rfl) hg.2
    · exact hg.elim
theorem og_notIn : OpR X (compareOp .NotIn) (LR2 X.K X.mg gNotIn) := by
  rintro pins s σ H x y v u Q I rx ry ⟨F, M, dx, dy, Qd, r1, r2, rp, hg, cq⟩
  unfold gNotIn at hg
  split at hg
  · obtain ⟨b, us, rfl, q, t⟩ := Rp.tup.mp r2
    obtain ⟨k1, k2⟩ := inV_ok r1 hg.1.1 t hg.1.2
    refine op_notIn_seq pins s σ H _ _ v u Q I rx ry ⟨b, us, rfl, .inr (Same.seqT rp.sub q), flat_ok r1 hg.1.1, k1, ?_⟩
    rw [if_pos rfl, k2]
    exact cq.now rp (Rp.bl.mpr rfl) hg.2
  · split at hg
    · rename_i es ee
      obtain ⟨b, us, rfl, q, t⟩ := lstOf_ok r2 rp ee
      obtain ⟨k1, k2⟩ := inV_ok r1 hg.1.1 t hg.1.2
      refine op_notIn_seq pins s σ H _ _ v u Q I rx ry ⟨b, us, rfl, .inl q, flat_ok r1 hg.1.1, k1, ?_⟩
      rw [if_pos rfl, k2]
      exact cq.now rp (Rp.bl.mpr rfl) hg.2
    · exact hg.elim
theorem RpAll.atI {K : PySem.W.Frag} {F : Hp} {ds : List Dat} {vs : List V} {i : Int} {d : Dat} (t : RpAll K F ds vs) (e : L2.atI ds i = some d) : ∃ v, L2.atI vs i = some v ∧ Rp K F d v := by
  unfold L2.atI at e ⊢
  rw [t.len]
  cases q : ixN ds.length i with
  | none => rw [q] at e; cases e
  | some j =>
    rw [q] at e
    exact t.get e
theorem ig_ix : IxR X (LR2 X.K X.mg gIx) := by
  rintro value slice pins s σ H x y v u Q I rx ry ⟨F, M, dx, dy, Qd, r1, r2, rp, hg, cq⟩ hs
  unfold gIx at hg
  split at hg
  · rename_i i
    rw [Rp.int.mp r2] at ry
    split at hg
    · rename_i ds
      split at hg
      · rename_i d ed
        obtain ⟨a, vs, rfl, q, t⟩ := Rp.tup.mp r1
        obtain ⟨v', e', r'⟩ := RpAll.atI t ed
        exact ix_tup value slice pins s σ H _ _ v u Q I rx ry ⟨a, vs, i, v', rfl, rfl, Same.seqT rp.sub q, e', cq.now rp r' hg⟩ hs
      · exact hg.elim
    · split at hg
      · rename_i ds el
        split at hg
        · rename_i d ed
          obtain ⟨a, vs, rfl, q, t⟩ := lstOf_ok r1 rp el
          obtain ⟨v', e', r'⟩ := RpAll.atI t ed
          exact ix_list value slice pins s σ H _ _ v u Q I rx ry ⟨a, vs, i, v', rfl, rfl, q, e', cq.now rp r' hg⟩ hs
        · exact hg.elim
      · exact hg.elim
  · exact hg.elim
end
end Nb
set_option Elab.async false
set_option linter.all false
set_option maxRecDepth 100000
set_option maxHeartbeats 1000000
set_option autoImplicit false
namespace Nb
open PySem PySem.Spec PyProof.Rows L2

/-! ### a def by its body -/
abbrev wOf (E : XK) : WX := fun c d _ H => E c d H
def endsOf (Qd : DQ) (Ed : XQ) : DEnds := { nx := fun _ M => Qd .none M, rt := Qd, ex := fun x _ M => Ed x M }
def startD (n : Nat) (ds : List Dat) : Rho := ds.map some ++ List.replicate (n - ds.length) none
theorem start_ok {K : PySem.W.Frag} {F : Hp} {N : List Str} {ds : List Dat} {vs : List V} (r : RpAll K F ds vs) : Rst K F (startD N.length ds) (L2.start N vs) := by
  refine ⟨by simp [startD, L2.start, r.len], fun i d e => ?_⟩
  unfold startD at e
  unfold L2.start
  by_cases hi : i < ds.length
  · rw [List.getElem?_append_left (by simpa using hi), List.getElem?_map] at e
    cases q : ds[i]? with
    | none => rw [q] at e; cases e
    | some d' =>
      rw [q] at e
      cases e
      obtain ⟨v, h1, h2⟩ := r.get q
      refine ⟨v, ?_, h2⟩
      rw [List.getElem?_append_left (by rw [List.length_map, r.len]; exact hi), List.getElem?_map, h1]
      rfl
  · rw [List.getElem?_append_right (by simpa using hi), List.getElem?_replicate] at e
    split at e <;> cases e
section
variable {P : Program} {w : World} {K : PySem.W.Frag} {mg : Str → Option Value} {base : Heap}
/-- a def keeps its promise: hb its body's term, hp the promise over the data -/
theorem dfn_of {x qual : Str} {st : Stmt} {f : Addr} {fd : FuncData} {N ps : List Str} {k : Nat} {s : DSp} (fb : DS) (Fn : Fun K x qual st f fd) (S : FnScope N ps (defScope st)) (len : ∀ ds M Q E, s ds M Q E → ds.length = ps.length)
    (hb : ∀ (cdv : Value) (A : Around) (outer : List Env) (s0 : Shared) (H : Hp) (E : XK), Room k (A.deeper (envOfC qual (defScope st) s0.heap.objs.size f cdv)) →
      SS (cxOf (L2.CX P w) P w K mg base N qual (defScope st) f cdv A outer s0 H E) (wOf E) (defBody st) fb)
    (hp : ∀ ds M Qd Ed, s ds M Qd Ed → fb (endsOf Qd Ed) (startD N.length ds) M) : FnOk P w K mg base (L2.CX P w) (k + 1) f fd ps (LSp K mg s) := by
  refine Fn.okX S (fun vs H Q E h => ?_) (fun cdv A outer s0 H vs Q E hr h => ⟨LS K mg (wOf E) fb, (hb cdv A outer s0 H E hr).h, ?_⟩)
  · obtain ⟨F, M, ds, Qd, Ed, rv, rp, hs, _⟩ := h
    rw [rv.len]
    exact len _ _ _ _ hs
  · obtain ⟨F, M, ds, Qd, Ed, rv, rp, hs, cq, cx⟩ := h
    refine ⟨F, M, _, _, start_ok rv, rp, hp ds M Qd Ed hs, ?_⟩
    refine ⟨fun F' H' M' ρ σ n rs q => cq F' H' M' .none .non n (Rp.non.mpr rfl) q, cq, fun _ _ _ _ _ _ _ q => q.elim, fun _ _ _ _ _ _ _ q => q.elim, fun F' H' M' ρ σ x' c dd n rs rx q => cx F' H' M' x' c dd n rx q⟩
/-- a weaker promise -/
theorem LSp.imp {s s' : DSp} (h : ∀ ds M Q E, s' ds M Q E → s ds M Q E) : ∀ vs H Q E, LSp K mg s' vs H Q E → LSp K mg s vs H Q E := by
  rintro vs H Q E ⟨F, M, ds, Qd, Ed, rv, rp, hs, r⟩
  exact ⟨F, M, ds, Qd, Ed, rv, rp, h _ _ _ _ hs, r⟩
end

/-! ### classes -/
/-- a class of the module: L its attributes, in the order in which they come -/
structure ClsT (K : PySem.W.Frag) (mg : Str → Option Value) (c : Str) (L : List Str) (C : Addr) : Prop where
  cl : Cls K C
  gc : mg c = some (.ref C)
  no : ∀ f ∈ L, NoAttr K C f
  nd : L.Nodup
  few : L.length < 1000
theorem zip_lookup : ∀ {L : List Str} {vs : List V} {i : Nat} {f : Str} {v : V}, L.Nodup → L[i]? = some f → vs[i]? = some v → (L.zip vs).lookup f = some v
  | [], _, _, _, _, _, h, _ => by simp at h
  | g :: L, [], _, _, _, _, _, h => by simp at h
  | g :: L, u :: vs, 0, f, v, _, h1, h2 => by
    simp at h1 h2
    subst h1 h2
    simp [List.zip_cons_cons, List.lookup]
  | g :: L, u :: vs, i + 1, f, v, hn, h1, h2 => by
    simp at h1 h2
    have ne : f ≠ g := fun e => (List.nodup_cons.mp hn).1 (by rw [← e]; exact List.mem_of_getElem? h1)
    rw [List.zip_cons_cons, List.lookup_cons]
    rw [show (f == g) = false from by simp [ne]]
    exact zip_lookup (List.nodup_cons.mp hn).2 h1 h2
theorem zip_none : ∀ {L : List Str} {vs : List V} {f : Str}, f ∉ L → (L.zip vs).lookup f = none
  | [], _, _, _ => rfl
  | g :: L, [], _, _ => rfl
  | g :: L, u :: vs, f, h => by
    rw [List.zip_cons_cons, List.lookup_cons]
    rw [show (f == g) = false from by simp; exact fun e => h (by rw [e]; exact List.mem_cons_self)]
    exact zip_none fun e => h (List.mem_cons_of_mem _ e)
def putAt {α : Type} (i : Nat) (d : α) (ds : List α) : List α := if i < ds.length then ds.set i d else ds ++ [d]
theorem putF_zip : ∀ {L : List Str} {vs : List V} {i : Nat} {f : Str} (v : V), L.Nodup → L[i]? = some f → i ≤ vs.length → putF f v (L.zip vs) = L.zip (putAt i v vs)
  | [], _, _, _, _, _, h, _ => by simp at h
  | g :: L, [], i, f, v, _, h1, h2 => by
    have e : i = 0 := by simpa using h2
    subst e
    simp at h1
    subst h1
    simp [putAt, putF]
  | g :: L, u :: vs, 0, f, v, _, h1, _ => by
    simp at h1
    subst h1
    simp [putAt, putF, List.zip_cons_cons]
  | g :: L, u :: vs, i + 1, f, v, hn, h1, h2 => by
    simp at h1 h2
    have ne : g ≠ f := fun e => (List.nodup_cons.mp hn).1 (by rw [e]; exact List.mem_of_getElem? h1)
    have ih := putF_zip (vs := vs) v (List.nodup_cons.mp hn).2 h1 h2
    rw [List.zip_cons_cons]
    show (if g = f then _ else (g, u) :: putF f v (L.zip vs)) = _
    rw [if_neg ne, ih]
    unfold putAt
    by_cases hl : i < vs.length
    · rw [if_pos hl, if_pos (by simpa using hl)]
      rfl
    · rw [if_neg hl, if_neg (by simpa using hl)]
      rfl
theorem putAt_len {α : Type} {i : Nat} {d : α} {ds : List α} (h : i ≤ ds.length) {n : Nat} (hn : i < n) (hl : ds.length ≤ n) : (putAt i d ds).length ≤ n := by
  unfold putAt
  split
  · rw [List.length_set]; exact hl
  · rw [List.length_append, List.length_singleton]; omega
theorem RpAll.putAt {K : PySem.W.Frag} {F : Hp} {ds : List Dat} {vs : List V} {i : Nat} {d : Dat} {v : V} (h : RpAll K F ds vs) (r : Rp K F d v) : RpAll K F (Nb.putAt i d ds) (Nb.putAt i v vs) := by
  unfold Nb.putAt
  rw [h.len]
  split
  · exact h.set i r
  · exact h.append (RpAll.cons r RpAll.nil)
section
variable {K : PySem.W.Frag} {mg : Str → Option Value} {F H : Hp} {M : Mem} {c : Str} {L : List Str} {C : Addr}
theorem ins_of {p : Nat} {ds : List Dat} (rp : Rpr K mg H F M) (T : ClsT K mg c L C) (h : M p = some (.ins c L ds)) : ∃ dx vs, H p = some (.ins C dx (L.zip vs)) ∧ RpAll K F ds vs ∧ ds.length ≤ L.length := by
  obtain ⟨_, C', dx, vs, g, e, r, l⟩ := rp.mem p _ h
  rw [T.gc] at g
  cases g
  exact ⟨dx, vs, e, r, l⟩
end
/-- o.f -/
def dFld (c : Str) (L : List Str) (i : Nat) (a : DE) : DE := fun ρ M Q E => a ρ M (fun d M1 => ∃ p ds v, d = rf p ∧ M1 p = some (.ins c L ds) ∧ ds[i]? = some v ∧ Q v M1) E
/-- o.f = e -/
def dSetFld (c : Str) (L : List Str) (i : Nat) (o a : DE) : DS := fun Q ρ M => a ρ M (fun v M1 => o ρ M1 (fun d M2 => ∃ p ds, d = rf p ∧ M2 p = some (.ins c L ds) ∧ i ≤ ds.length ∧ Q.nx ρ (mup M2 p (.ins c L (putAt i v ds)))) fun x M2 => Q.ex x ρ M2) fun x M1 => Q.ex x ρ M1
/-- o.m(e, ..) -/
def dMeth (c : Str) (L : List Str) (s : DSp) (o : DE) (a : DA) : DE := fun ρ M Q E => o ρ M (fun d M1 => ∃ p ds, d = rf p ∧ M1 p = some (.ins c L ds) ∧ a ρ M1 (fun es M2 => s (d :: es) M2 Q E) E) E
/-- C(e, ..) -/
def dMake (c : Str) (L : List Str) (s : DSp) (a : DA) : DE := fun ρ M Q E => a ρ M (fun ds M1 => ∀ p, M1 p = none → s (rf p :: ds) (mup M1 p (.ins c L [])) (fun d M2 => d = .none ∧ Q (rf p) M2) E) E

section
variable {X : Cx} {CX : CXT} {k : Nat} {f C : Addr} {fd : FuncData} {ps : List Str} {sp : Sp} {E : L2.St → XK} {x m : Str} {p pos apos : Pos} {e o : Expr} {es : List Expr} {ta : TE} {t : TA}
/-- o.m(e, ..) of a method that may raise -/
def tMethS (C : Addr) (m : Str) (sp : Sp) (E : L2.St → XK) (ta : TE) (t : TA) : TE := fun σ H Q => ta σ H fun x H1 => ∃ a dx fs, x = .ref a ∧ H1 a = some (.ins C dx fs) ∧ fs.lookup m = none ∧ t σ H1 fun vs H2 => sp (x :: vs) H2 Q (E σ)
theorem pe_methS {pl : Sem Bool} (he : PE X o ta) (c : Cls X.K C) (hm : Meth X.K C m f)
    (F : FnOk X.prog X.w X.K X.mg X.base CX k f fd ps sp) (hr : Room k X.A) (hb : Binds X.K fd ps []) (hx : ∀ σ, PassesAt CX X σ (E σ)) (ha : PA X (e :: es) t)
    (hst : starEach (e :: es) X.env = (false, eval e X.env) :: starEach es X.env := by rfl) (hpl : (backTo pos (starEach es X.env)).any (·.1) = false := by rfl)
    (ht : eval (.Call (.Attribute o m apos) (e :: es) [] pos) X.env = (do
      let ov ← eval o X.env
      standAt apos.atName
      let (f, first) ← holding [ov] (getMethod ov m pl)
      callWith pos f first (backTo pos (starEach (e :: es) X.env)) (backToKw pos (keywordEach [] X.env))) := by rfl) :
    PE X (.Call (.Attribute o m apos) (e :: es) [] pos) (tMethS C m sp E ta t) := by
  refine ⟨fun pins s σ H Q I h => ?_⟩
  refine PySem.W.methodCall_KW (pl := pl) (thn (he.run pins s σ H _ I h) fun u s1 ⟨x, H1, I1, rx, a, dx, fs, ex, ea, l, q⟩ => ?_) ht
  subst ex
  obtain rfl : u = Value.ref a := rx
  refine getmeth_ok I1 ea c hm l ?_
  refine PySem.W.callWith_K (first := [.ref a]) (h₀ := X.base) I.ok.mod.kin hm.kp (thn (ha.run pos pins s1 σ H1 _ I1 q) fun us s2 ⟨vs, H2, I2, r, q2⟩ => ⟨I2.kIn, ?_⟩) hst hpl
  exact run_fnS (us := .ref a :: us) (vs := .ref a :: vs) F hr hb (hx σ) I2 (.cons rfl r) q2
theorem pe_methS0 {pl : Sem Bool} (he : PE X o ta) (c : Cls X.K C) (hm : Meth X.K C m f)
    (F : FnOk X.prog X.w X.K X.mg X.base CX k f fd ps sp) (hr : Room k X.A) (hb : Binds X.K fd ps []) (hx : ∀ σ, PassesAt CX X σ (E σ))
    (ht : eval (.Call (.Attribute o m apos) [] [] pos) X.env = (do
      let ov ← eval o X.env
      standAt apos.atName
      let (f, first) ← holding [ov] (getMethod ov m pl)
      callWith pos f first (backTo pos (starEach [] X.env)) (backToKw pos (keywordEach [] X.env))) := by rfl) :
    PE X (.Call (.Attribute o m apos) [] [] pos) (tMethS C m sp E ta tNil) := by
  refine ⟨fun pins s σ H Q I h => ?_⟩
  refine PySem.W.methodCall_KW (pl := pl) (thn (he.run pins s σ H _ I h) fun u s1 ⟨x, H1, I1, rx, a, dx, fs, ex, ea, l, q⟩ => ?_) ht
  subst ex
  obtain rfl : u = Value.ref a := rx
  refine getmeth_ok I1 ea c hm l ?_
  exact PySem.W.callWith_K0 (first := [.ref a]) I1.kIn hm.kp (run_fnS (us := [.ref a]) (vs := [.ref a]) F hr hb (hx σ) I1 (.cons rfl .nil) q)
theorem run_makeS {pins : List (Addr × Obj)} {σ : L2.St} {H : Hp} {s : Shared} {Q : VK} {us : List Value} {vs : List V} (Mk0 : Mk X.K C f) (F : FnOk X.prog X.w X.K X.mg X.base CX k f fd ps sp) (hr : Room (k + 1) X.A) (hb : Binds X.K fd ps [])
    (hx : PassesAt CX X σ (E σ)) (I : Inv X pins σ H s) (r : Vals vs us)
    (h : ∀ x dx, H x = none → H dx = none → dx ≠ x → sp (.ref x :: vs) (upd (upd H dx (.own x)) x (.ins C dx [])) (fun v H2 => v = .non ∧ Q (.ref x) H2) (E σ)) :
    wpAny (model X.prog X.w) X.A (call (.ref C) us) (EP X pins σ Q) X.xe s := by
  have hq := h (s.heap.objs.size + 1) s.heap.objs.size (I.hok.fresh (Nat.le_succ _)) (I.hok.fresh (Nat.le_refl _)) (Nat.ne_of_lt (Nat.lt_succ_self _))
  have I2 := Inv.made (C := C) I
  have r2 : Vals (V.ref (s.heap.objs.size + 1) :: vs) (Value.ref (s.heap.objs.size + 1) :: us) := .cons rfl r
  have hl : (Value.ref (s.heap.objs.size + 1) :: us).length = ps.length := by
    have e := r2.length
    rw [F.len _ _ _ _ hq] at e
    exact e.symm
  have b := hb _ (Value.ref (s.heap.objs.size + 1) :: us) I2.kIn (by rw [List.append_nil]; exact hl)
  rw [List.append_nil] at b
  refine wpAny_call (make_map (f := f) I.kIn Mk0.makes Mk0.init (beq_iff_eq.mp Mk0.fn) (codeAny_mono (F.run _ X.stack _ _ ⟨Value.ref (s.heap.objs.size + 1) :: us, []⟩ (Value.ref (s.heap.objs.size + 1) :: us) _ _ (E σ) (hr.make C us [])
    (I2.env0.make C us []) b r2 hq) fun r s' hq' => ?_))
  cases r with
  | error e => exact hx pins _ _ e s' I2 hq'
  | ok fl =>
    cases fl with
    | ret u =>
      obtain ⟨v, H', I3, rv, ev, q3⟩ := I2.after hq'
      subst ev
      exact ⟨rv, ⟨V.ref (s.heap.objs.size + 1), H', I3, rfl, q3⟩⟩
    | next => exact False.elim hq'
    | brk => exact False.elim hq'
    | cont => exact False.elim hq'
def tMakeS (C : Addr) (sp : Sp) (E : L2.St → XK) (t : TA) : TE := fun σ H Q => t σ H fun vs H1 => ∀ x dx, H1 x = none → H1 dx = none → dx ≠ x →
  sp (.ref x :: vs) (upd (upd H1 dx (.own x)) x (.ins C dx [])) (fun v H2 => v = .non ∧ Q (.ref x) H2) (E σ)
theorem pe_makeS (Mk0 : Mk X.K C f) (F : FnOk X.prog X.w X.K X.mg X.base CX k f fd ps sp) (hr : Room (k + 1) X.A) (hg : Gl X x) (hm : X.mg x = some (.ref C)) (hb : Binds X.K fd ps []) (hx : ∀ σ, PassesAt CX X σ (E σ))
    (ha : PA X (e :: es) t) (hdb : (x == ("__debug__" : Str)) = false := by decide) (he : starEach (e :: es) X.env = (false, eval e X.env) :: starEach es X.env := by rfl) (hpl : (backTo pos (starEach es X.env)).any (·.1) = false := by rfl) :
    PE X (.Call (.Name x p) (e :: es) [] pos) (tMakeS C sp E t) := by
  refine ⟨fun pins s σ H Q I h => ?_⟩
  refine wpAny_Call_Name_kw (ld_glob I hg hm ?_ hdb)
  refine PySem.W.callWith_K (h₀ := X.base) I.ok.mod.kin Mk0.kp (thn (ha.run pos pins s σ H _ I h) fun us s1 ⟨vs, H1, I1, r, q⟩ => ⟨I1.kIn, ?_⟩) he hpl
  exact run_makeS Mk0 F hr hb (hx σ) I1 r q
end
section
variable {X : Cx} {W : WX} {c m : Str} {L : List Str} {C : Addr} {e o : Expr} {es : List Expr} {fo fe : DE} {ga : DA} {pos pos' apos p : Pos} {k : Nat} {fa : Addr} {fd : FuncData} {ps : List Str} {s : DSp} {x : Str}
theorem ee_fld {f : Str} (T : ClsT X.K X.mg c L C) (i : Nat) (he : EE X W e fo) (hi : L[i]? = some f := by rfl) (hb : attributeBase e f X.env (eval e X.env) = eval e X.env := by rfl) : EE X W (.Attribute e f pos) (dFld c L i fo) := by
  refine ⟨PE.imp (pe_fld he.h hb) ?_⟩
  rintro σ H Q ⟨F, M, ρ, Qd, Ed, rs, rp, hf, cq, cx⟩
  refine ⟨F, M, ρ, _, Ed, rs, rp, hf, fun F1 H1 M1 d v n1 rv q1 => ?_, cx⟩
  obtain ⟨q, ds, d', rfl, hM, hd, q1⟩ := q1
  obtain ⟨dx, vs, hH, t, _⟩ := ins_of n1.ok T hM
  obtain ⟨v', h1, h2⟩ := t.get hd
  exact ⟨q, C, dx, _, v', Rp.rf.mp rv, hH, T.cl, T.no f (List.mem_of_getElem? hi), zip_lookup T.nd hi h1, cq F1 H1 M1 _ _ n1 h2 q1⟩
theorem es_setFld {f : Str} (T : ClsT X.K X.mg c L C) (i : Nat) (ho : EE X W o fo) (he : EE X W e fe) (hi : L[i]? = some f := by rfl) (hs : swapsWith e (some (.Attribute o f pos')) pos.line X.env = pure false := by rfl) :
    ES X W (.Assign [.Attribute o f pos'] e pos) (dSetFld c L i fo fe) := by
  refine ⟨PS.imp (ps_fld ho.h he.h hs) ?_⟩
  rintro Q σ H ⟨F, M, ρ, Dd, rs, rp, hf, cd⟩
  refine ⟨F, M, ρ, _, _, rs, rp, hf, fun F1 H1 M1 d1 v1 n1 r1 q1 => ?_, cd.ex.at rs⟩
  refine ⟨F1, M1, ρ, _, _, rs.mono n1.same, n1.ok, q1, fun F2 H2 M2 d v n2 rv q2 => ?_, (cd.ex.mono n1).at (rs.mono n1.same)⟩
  obtain ⟨q, ds, rfl, hM, hl, q2⟩ := q2
  obtain ⟨dx, vs, hH, t, hlen⟩ := ins_of n2.ok T hM
  have hiL : i < L.length := (List.getElem?_eq_some_iff.mp hi).1
  refine ⟨q, C, dx, _, Rp.rf.mp rv, hH, T.cl, T.no f (List.mem_of_getElem? hi), ?_, ?_⟩
  · have h1 : (L.zip vs).length ≤ L.length := by rw [List.length_zip]; exact Nat.min_le_left _ _
    exact Nat.lt_of_le_of_lt h1 T.few
  · rw [putF_zip v1 T.nd hi (by rw [t.len]; exact hl)]
    have n3 := Nx.write (o := .ins C dx (L.zip (putAt i v1 vs))) (mo := .ins c L (putAt i d1 ds)) n2.ok hM ⟨C, dx, _, T.gc, upd_same, t.putAt (r1.mono n2.same), putAt_len hl hiL hlen⟩
    exact cd.nx _ _ _ ρ σ ((n1.trans n2).trans n3) (rs.mono ((n1.trans n2).trans n3).same) q2
theorem ee_meth {pl : Sem Bool} (T : ClsT X.K X.mg c L C) (hm : Meth X.K C m fa) (Fk : FnOk X.prog X.w X.K X.mg X.base (L2.CX X.prog X.w) k fa fd ps (LSp X.K X.mg s)) (hr : Room k X.A) (hb : Binds X.K fd ps []) (tk : Takes X W) (ho : EE X W o fo) (ha : EA X W (e :: es) ga) (hno : m ∉ L := by decide +kernel)
    (hst : starEach (e :: es) X.env = (false, eval e X.env) :: starEach es X.env := by rfl) (hpl : (backTo pos (starEach es X.env)).any (·.1) = false := by rfl)
    (ht : eval (.Call (.Attribute o m apos) (e :: es) [] pos) X.env = (do
      let ov ← eval o X.env
      standAt apos.atName
      let (f, first) ← holding [ov] (getMethod ov m pl)
      callWith pos f first (backTo pos (starEach (e :: es) X.env)) (backToKw pos (keywordEach [] X.env))) := by rfl) : EE X W (.Call (.Attribute o m apos) (e :: es) [] pos) (dMeth c L s fo ga) := by
  refine ⟨PE.imp (pe_methS ho.h T.cl hm Fk hr hb (fun σ => passAt tk σ) ha.h hst hpl ht) ?_⟩
  rintro σ H Q ⟨F, M, ρ, Qd, Ed, rs, rp, hf, cq, cx⟩
  refine ⟨F, M, ρ, _, Ed, rs, rp, hf, fun F1 H1 M1 d v n1 rv q1 => ?_, cx⟩
  obtain ⟨q, ds, rfl, hM, q1⟩ := q1
  obtain ⟨dx, vs, hH, t, _⟩ := ins_of n1.ok T hM
  refine ⟨q, dx, _, Rp.rf.mp rv, hH, zip_none hno, F1, M1, ρ, _, Ed, rs.mono n1.same, n1.ok, q1, fun F2 H2 M2 es us n2 re q2 => ?_, cx.mono n1⟩
  exact ⟨F2, M2, _, Qd, Ed, RpAll.cons (rv.mono n2.same) re, n2.ok, q2, cq.mono (n1.trans n2), cx.mono (n1.trans n2)⟩
theorem ee_meth0 {pl : Sem Bool} (T : ClsT X.K X.mg c L C) (hm : Meth X.K C m fa) (Fk : FnOk X.prog X.w X.K X.mg X.base (L2.CX X.prog X.w) k fa fd ps (LSp X.K X.mg s)) (hr : Room k X.A) (hb : Binds X.K fd ps []) (tk : Takes X W) (ho : EE X W o fo) (hno : m ∉ L := by decide +kernel)
    (ht : eval (.Call (.Attribute o m apos) [] [] pos) X.env = (do
      let ov ← eval o X.env
      standAt apos.atName
      let (f, first) ← holding [ov] (getMethod ov m pl)
      callWith pos f first (backTo pos (starEach [] X.env)) (backToKw pos (keywordEach [] X.env))) := by rfl) : EE X W (.Call (.Attribute o m apos) [] [] pos) (dMeth c L s fo dNil) := by
  refine ⟨PE.imp (pe_methS0 ho.h T.cl hm Fk hr hb (fun σ => passAt tk σ) ht) ?_⟩
  rintro σ H Q ⟨F, M, ρ, Qd, Ed, rs, rp, hf, cq, cx⟩
  refine ⟨F, M, ρ, _, Ed, rs, rp, hf, fun F1 H1 M1 d v n1 rv q1 => ?_, cx⟩
  obtain ⟨q, ds, rfl, hM, q1⟩ := q1
  obtain ⟨dx, vs, hH, t, _⟩ := ins_of n1.ok T hM
  exact ⟨q, dx, _, Rp.rf.mp rv, hH, zip_none hno, F1, M1, _, Qd, Ed, RpAll.cons rv RpAll.nil, n1.ok, q1, cq.mono n1, cx.mono n1⟩
theorem ee_make (T : ClsT X.K X.mg c L C) (Mk0 : Mk X.K C fa) (Fk : FnOk X.prog X.w X.K X.mg X.base (L2.CX X.prog X.w) k fa fd ps (LSp X.K X.mg s)) (hr : Room (k + 1) X.A) (hb : Binds X.K fd ps []) (tk : Takes X W) (ha : EA X W (e :: es) ga) (hg : Gl X c := by rfl) (hdb : (c == ("__debug__" : Str)) = false := by decide)
    (he : starEach (e :: es) X.env = (false, eval e X.env) :: starEach es X.env := by rfl) (hpl : (backTo pos (starEach es X.env)).any (·.1) = false := by rfl) : EE X W (.Call (.Name c p) (e :: es) [] pos) (dMake c L s ga) := by
  refine ⟨PE.imp (pe_makeS Mk0 Fk hr hg T.gc hb (fun σ => passAt tk σ) ha.h hdb he hpl) ?_⟩
  rintro σ H Q ⟨F, M, ρ, Qd, Ed, rs, rp, hf, cq, cx⟩
  refine ⟨F, M, ρ, _, Ed, rs, rp, hf, fun F1 H1 M1 ds vs n1 rv q1 a dx ha hdx hne => ?_, cx⟩
  have n2 := Nx.grow n1.ok hdx (.own a)
  have ha2 : (upd H1 dx (.own a)) a = none := by rw [upd_ne (Ne.symm hne)]; exact ha
  have n3 := Nx.live (o := .ins C dx []) (mo := .ins c L []) n2.ok ha2 ⟨C, dx, [], T.gc, by rw [upd_same, List.zip_nil_right], RpAll.nil, Nat.zero_le _⟩
  have n := (n1.trans n2).trans n3
  refine ⟨F1, _, _, _, Ed, RpAll.cons (Rp.rf.mpr rfl) (rv.mono (n2.trans n3).same), n.ok, q1 a (n1.ok.fresh ha).2, fun F4 H4 M4 d v n4 rv4 q4 => ?_, cx.mono n⟩
  obtain ⟨rfl, q4⟩ := q4
  exact ⟨Rp.non.mp rv4, cq F4 H4 M4 _ _ (n.trans n4) (Rp.rf.mpr rfl) q4⟩
end
end Nb
set_option Elab.async false
set_option linter.all false
set_option maxRecDepth 100000
set_option maxHeartbeats 1000000
set_option autoImplicit false
namespace Nb
open PySem PySem.Spec PyProof.Rows L2

/-! ### built-ins by data -/
def gLen : DRL := fun ds M Q => match ds with
  | [.tuple xs] => Q (.int xs.length) M
  | [.str x] => x.length ≤ sizeLine ∧ Q (.int x.length) M
  | [d] => (match lstOf d M with
    | some xs => Q (.int xs.length) M
    | none => False)
  | _ => False
/-- tuple(x) -/
def gTupOf : DRL := fun ds M Q => match ds with
  | [.tuple xs] => Q (.tuple xs) M
  | [d] => (match lstOf d M with
    | some xs => Q (.tuple xs) M
    | none => False)
  | _ => False
def seqOf (d : Dat) (M : Mem) : Option (List Dat) := match d with
  | .tuple xs => some xs
  | _ => lstOf d M
/-- list(x) -/
def gLstOf : DRL := fun ds M Q => match ds with
  | [d] => (match seqOf d M with
    | some xs => Q (.list xs) M
    | none => False)
  | _ => False
def gLstOfL : DRL := fun ds M Q => match ds with
  | [d] => (match seqOf d M with
    | some xs => ∀ p, M p = none → Q (rf p) (mup M p (.lst xs))
    | none => False)
  | _ => False
def gSum : DRL := fun ds M Q => ∃ (d : Dat) (ns : List Int), ds = [d] ∧ lstOf d M = some (ns.map PyData.int) ∧ Q (.int ns.sum) M
def gAny : DRL := fun ds M Q => ∃ (d : Dat) (bs : List Bool), ds = [d] ∧ lstOf d M = some (bs.map PyData.bool) ∧ Q (.bool (bs.any id)) M
def gAll : DRL := fun ds M Q => ∃ (d : Dat) (bs : List Bool), ds = [d] ∧ lstOf d M = some (bs.map PyData.bool) ∧ Q (.bool (bs.all id)) M
/-- max(xs), min(xs) -/
def gMax1 : DRL := fun ds M Q => ∃ (d : Dat) (ns : List Int), ds = [d] ∧ lstOf d M = some (ns.map PyData.int) ∧ 0 < ns.length ∧ ∀ m, m ∈ ns → (∀ y, y ∈ ns → y ≤ m) → Q (.int m) M
def gMin1 : DRL := fun ds M Q => ∃ (d : Dat) (ns : List Int), ds = [d] ∧ lstOf d M = some (ns.map PyData.int) ∧ 0 < ns.length ∧ ∀ m, m ∈ ns → (∀ y, y ∈ ns → m ≤ y) → Q (.int m) M
/-- max(i, j), min(i, j) -/
def gMax2 : DRL := fun ds M Q => match ds with
  | [.int i, .int j] => Q (.int (if j > i then j else i)) M
  | _ => False
def gMin2 : DRL := fun ds M Q => match ds with
  | [.int i, .int j] => Q (.int (if j < i then j else i)) M
  | _ => False
def gInt1 : DRL := fun ds M Q => match ds with
  | [.int i] => Q (.int i) M
  | [.bool b] => Q (.int (if b then 1 else 0)) M
  | _ => False
def gSorted : DRL := fun ds M Q => ∃ (d : Dat) (ns : List Int), ds = [d] ∧ lstOf d M = some (ns.map PyData.int) ∧ ∀ ns' : List Int, ns'.Perm ns → ns'.Pairwise (· ≤ ·) → Q (.list (ns'.map PyData.int)) M
section
variable {X : Cx}
theorem seqOf_ok {K : PySem.W.Frag} {mg : Str → Option Value} {F H : Hp} {M : Mem} {d : Dat} {v : V} {ds : List Dat} (r : Rp K F d v) (rp : Rpr K mg H F M) (h : seqOf d M = some ds) : ∃ a vs, v = .ref a ∧ (SqL K H a vs ∨ SqT K H a vs) ∧ RpAll K F ds vs := by
  unfold seqOf at h
  split at h
  · cases h
    obtain ⟨a, vs, rfl, q, t⟩ := Rp.tup.mp r
    exact ⟨a, vs, rfl, .inr (Same.seqT rp.sub q), t⟩
  · obtain ⟨a, vs, e, q, t⟩ := lstOf_ok r rp h
    exact ⟨a, vs, e, .inl q, t⟩
theorem cg_len : CallR X (.builtin "len") (LRL X.K X.mg gLen) := by
  rintro pins s σ H xs us Q I r ⟨F, M, ds, Qd, rd, rp, hg, cq⟩
  unfold gLen at hg
  split at hg
  · obtain ⟨v, rfl, h1⟩ := rd.one
    obtain ⟨a, vs, rfl, q, t⟩ := Rp.tup.mp h1
    refine call_len_seq pins s σ H _ us Q I r ⟨a, vs, rfl, .inr (Same.seqT rp.sub q), ?_⟩
    rw [t.len]
    exact cq.now rp (Rp.int.mpr rfl) hg
  · rename_i x
    obtain ⟨v, rfl, h1⟩ := rd.one
    exact call_len pins s σ H _ us Q I r ⟨v, x.length, rfl, by rw [Rp.str.mp h1]; exact ⟨hg.1, rfl⟩, cq.now rp (Rp.int.mpr rfl) hg.2⟩
  · split at hg
    · rename_i es ee
      obtain ⟨v, rfl, h1⟩ := rd.one
      obtain ⟨a, vs, rfl, q, t⟩ := lstOf_ok h1 rp ee
      refine call_len_seq pins s σ H _ us Q I r ⟨a, vs, rfl, .inl q, ?_⟩
      rw [t.len]
      exact cq.now rp (Rp.int.mpr rfl) hg
    · exact hg.elim
  · exact hg.elim
theorem cg_tuple : CallR X (.type "tuple") (LRL X.K X.mg gTupOf) := by
  rintro pins s σ H xs us Q I r ⟨F, M, ds, Qd, rd, rp, hg, cq⟩
  unfold gTupOf at hg
  split at hg
  · obtain ⟨v, rfl, h1⟩ := rd.one
    obtain ⟨a, vs, rfl, q, t⟩ := Rp.tup.mp h1
    exact call_tuple_of pins s σ H _ us Q I r ⟨a, vs, rfl, .inr ⟨Same.seqT rp.sub q, cq.now rp h1 hg⟩⟩
  · split at hg
    · rename_i es ee
      obtain ⟨v, rfl, h1⟩ := rd.one
      obtain ⟨a, vs, rfl, q, t⟩ := lstOf_ok h1 rp ee
      exact call_tuple_of pins s σ H _ us Q I r ⟨a, vs, rfl, .inl ⟨q, cq.tup rp t hg⟩⟩
    · exact hg.elim
  · exact hg.elim
theorem cg_list : CallR X (.type "list") (LRL X.K X.mg gLstOf) := by
  rintro pins s σ H xs us Q I r ⟨F, M, ds, Qd, rd, rp, hg, cq⟩
  unfold gLstOf at hg
  split at hg
  · split at hg
    · rename_i es ee
      obtain ⟨v, rfl, h1⟩ := rd.one
      obtain ⟨a, vs, rfl, q, t⟩ := seqOf_ok h1 rp ee
      exact call_list_of pins s σ H _ us Q I r ⟨a, vs, rfl, q, cq.lst rp t hg⟩
    · exact hg.elim
  · exact hg.elim
theorem cg_listL : CallR X (.type "list") (LRL X.K X.mg gLstOfL) := by
  rintro pins s σ H xs us Q I r ⟨F, M, ds, Qd, rd, rp, hg, cq⟩
  unfold gLstOfL at hg
  split at hg
  · split at hg
    · rename_i es ee
      obtain ⟨v, rfl, h1⟩ := rd.one
      obtain ⟨a, vs, rfl, q, t⟩ := seqOf_ok h1 rp ee
      exact call_list_of pins s σ H _ us Q I r ⟨a, vs, rfl, q, cq.live rp t hg⟩
    · exact hg.elim
  · exact hg.elim
theorem lst_ints {K : PySem.W.Frag} {mg : Str → Option Value} {F H : Hp} {M : Mem} {d : Dat} {v : V} {ns : List Int} (r : Rp K F d v) (rp : Rpr K mg H F M) (h : lstOf d M = some (ns.map PyData.int)) : ∃ a, v = .ref a ∧ SqL K H a (ns.map V.int) := by
  obtain ⟨a, vs, e, q, t⟩ := lstOf_ok r rp h
  rw [t.ints] at q
  exact ⟨a, e, q⟩
theorem cg_sum (hc : X.calm = true) : CallR X (.builtin "sum") (LRL X.K X.mg gSum) := by
  rintro pins s σ H xs us Q I r ⟨F, M, ds, Qd, rd, rp, ⟨d, ns, rfl, e, hg⟩, cq⟩
  obtain ⟨v, rfl, h1⟩ := rd.one
  obtain ⟨a, rfl, q⟩ := lst_ints h1 rp e
  exact cr_sum hc pins s σ H _ us Q I r ⟨a, ns, rfl, q, cq.now rp (Rp.int.mpr rfl) hg⟩
theorem cg_max1 (hc : X.calm = true) : CallR X (.builtin "max") (LRL X.K X.mg gMax1) := by
  rintro pins s σ H xs us Q I r ⟨F, M, ds, Qd, rd, rp, ⟨d, ns, rfl, e, hl, hg⟩, cq⟩
  obtain ⟨v, rfl, h1⟩ := rd.one
  obtain ⟨a, rfl, q⟩ := lst_ints h1 rp e
  exact cr_max hc pins s σ H _ us Q I r ⟨a, ns, rfl, q, hl, fun m h2 h3 => cq.now rp (Rp.int.mpr rfl) (hg m h2 h3)⟩
theorem cg_min1 (hc : X.calm = true) : CallR X (.builtin "min") (LRL X.K X.mg gMin1) := by
  rintro pins s σ H xs us Q I r ⟨F, M, ds, Qd, rd, rp, ⟨d, ns, rfl, e, hl, hg⟩, cq⟩
  obtain ⟨v, rfl, h1⟩ := rd.one
  obtain ⟨a, rfl, q⟩ := lst_ints h1 rp e
  exact cr_min hc pins s σ H _ us Q I r ⟨a, ns, rfl, q, hl, fun m h2 h3 => cq.now rp (Rp.int.mpr rfl) (hg m h2 h3)⟩
theorem cg_sorted : CallR X (.builtin "sorted") (LRL X.K X.mg gSorted) := by
  rintro pins s σ H xs us Q I r ⟨F, M, ds, Qd, rd, rp, ⟨d, ns, rfl, e, hg⟩, cq⟩
  obtain ⟨v, rfl, h1⟩ := rd.one
  obtain ⟨a, rfl, q⟩ := lst_ints h1 rp e
  exact cr_sortedI pins s σ H _ us Q I r ⟨a, ns, rfl, q, fun ns' p h2 h3 hp => cq.lst rp RpAll.of_ints (hg ns' h2 h3) p hp⟩
theorem RpAll.of_bools {K : PySem.W.Frag} {F : Hp} : ∀ {bs : List Bool}, RpAll K F (bs.map PyData.bool) (bs.map V.bl)
  | [] => RpAll.nil
  | n :: ns => RpAll.cons (Rp.bl.mpr rfl) RpAll.of_bools
theorem cg_any (hc : X.calm = true) : CallR X (.builtin "any") (LRL X.K X.mg gAny) := by
  rintro pins s σ H xs us Q I r ⟨F, M, ds, Qd, rd, rp, ⟨d, bs, rfl, e, hg⟩, cq⟩
  obtain ⟨v, rfl, h1⟩ := rd.one
  obtain ⟨a, vs, rfl, q, t⟩ := lstOf_ok h1 rp e
  rw [t.bools] at q
  exact cr_any hc pins s σ H _ us Q I r ⟨a, bs, rfl, q, cq.now rp (Rp.bl.mpr rfl) hg⟩
theorem cg_all (hc : X.calm = true) : CallR X (.builtin "all") (LRL X.K X.mg gAll) := by
  rintro pins s σ H xs us Q I r ⟨F, M, ds, Qd, rd, rp, ⟨d, bs, rfl, e, hg⟩, cq⟩
  obtain ⟨v, rfl, h1⟩ := rd.one
  obtain ⟨a, vs, rfl, q, t⟩ := lstOf_ok h1 rp e
  rw [t.bools] at q
  exact cr_all hc pins s σ H _ us Q I r ⟨a, bs, rfl, q, cq.now rp (Rp.bl.mpr rfl) hg⟩
theorem cg_max2 (hc : X.calm = true) : CallR X (.builtin "max") (LRL X.K X.mg gMax2) := by
  rintro pins s σ H xs us Q I r ⟨F, M, ds, Qd, rd, rp, hg, cq⟩
  unfold gMax2 at hg
  split at hg
  · obtain ⟨v, u, rfl, h1, h2⟩ := rd.two
    rw [Rp.int.mp h1, Rp.int.mp h2] at r
    exact call_max2 hc pins s σ H _ us Q I r ⟨_, _, rfl, cq.now rp (Rp.int.mpr rfl) hg⟩
  · exact hg.elim
theorem cg_min2 (hc : X.calm = true) : CallR X (.builtin "min") (LRL X.K X.mg gMin2) := by
  rintro pins s σ H xs us Q I r ⟨F, M, ds, Qd, rd, rp, hg, cq⟩
  unfold gMin2 at hg
  split at hg
  · obtain ⟨v, u, rfl, h1, h2⟩ := rd.two
    rw [Rp.int.mp h1, Rp.int.mp h2] at r
    exact call_min2 hc pins s σ H _ us Q I r ⟨_, _, rfl, cq.now rp (Rp.int.mpr rfl) hg⟩
  · exact hg.elim
theorem cg_int : CallR X (.type "int") (LRL X.K X.mg gInt1) := by
  rintro pins s σ H xs us Q I r ⟨F, M, ds, Qd, rd, rp, hg, cq⟩
  unfold gInt1 at hg
  split at hg
  · obtain ⟨v, rfl, h1⟩ := rd.one
    rw [Rp.int.mp h1] at r
    exact call_int1 pins s σ H _ us Q I r (.inl ⟨_, rfl, cq.now rp (Rp.int.mpr rfl) hg⟩)
  · obtain ⟨v, rfl, h1⟩ := rd.one
    rw [Rp.bl.mp h1] at r
    exact call_int1 pins s σ H _ us Q I r (.inr ⟨_, rfl, cq.now rp (Rp.int.mpr rfl) hg⟩)
  · exact hg.elim
end
/-! ### isinstance -/
def tyD (d : Dat) (M : Mem) : Option String := match d with
  | .none => some "NoneType"
  | .bool _ => some "bool"
  | .int _ => some "int"
  | .str _ => some "str"
  | .tuple _ => some "tuple"
  | .list _ => some "list"
  | .dict [(.int (Int.ofNat p), .none)] => (match M p with
    | some (.lst _) => some "list"
    | _ => none)
  | _ => none
/-- which of these are under which -/
inductive TyN where
  | int | bool | str | tuple | list
def TyN.nm : TyN → String
  | .int => "int"
  | .bool => "bool"
  | .str => "str"
  | .tuple => "tuple"
  | .list => "list"
def isTy (T : TyN) (d : Dat) (M : Mem) : Option Bool := match d with
  | .none => some false
  | .bool _ => some (match T with | .int => true | .bool => true | _ => false)
  | .int _ => some (match T with | .int => true | _ => false)
  | .str _ => some (match T with | .str => true | _ => false)
  | .tuple _ => some (match T with | .tuple => true | _ => false)
  | .list _ => some (match T with | .list => true | _ => false)
  | .dict [(.int (Int.ofNat p), .none)] => (match M p with
    | some (.lst _) => some (match T with | .list => true | _ => false)
    | _ => none)
  | _ => none
theorem isTy_ok {K : PySem.W.Frag} {mg : Str → Option Value} {F H : Hp} {M : Mem} {T : TyN} {d : Dat} {v : V} {b : Bool} (r : Rp K F d v) (rp : Rpr K mg H F M) (h : isTy T d M = some b) : ∃ n, tyD d M = some n ∧ TyX K H v (.type n) ∧ kitB n T.nm = some b := by
  have sqT : ∀ {a : Addr} {vs : List V}, SqT K F a vs → TyX K H (.ref a) (.type "tuple") := fun {a vs} q => by
    rcases q with (q | ⟨o, q⟩) | ⟨o, its, n, hk, hc, _⟩
    · exact .base (.tup (rp.sub _ _ q))
    · exact .fTuple (rp.sub _ _ q)
    · exact .kTuple hk hc
  have sqL : ∀ {a : Addr} {vs : List V}, SqL K F a vs → TyX K H (.ref a) (.type "list") := fun {a vs} q => by
    rcases q with (q | ⟨o, q⟩) | ⟨o, its, n, hk, hc, _⟩
    · exact .base (.lst (rp.sub _ _ q))
    · exact .base (.frz (rp.sub _ _ q))
    · exact .kList hk hc
  unfold isTy at h
  split at h
  · rw [Rp.non.mp r]
    refine ⟨_, rfl, .base .non, ?_⟩
    cases h; cases T <;> decide +kernel
  · rw [Rp.bl.mp r]
    refine ⟨_, rfl, .base (.bl _), ?_⟩
    cases h; cases T <;> decide +kernel
  · rw [Rp.int.mp r]
    refine ⟨_, rfl, .base (.int _), ?_⟩
    cases h; cases T <;> decide +kernel
  · rw [Rp.str.mp r]
    refine ⟨_, rfl, .base (.str _), ?_⟩
    cases h; cases T <;> decide +kernel
  · obtain ⟨a, vs, rfl, q, t⟩ := Rp.tup.mp r
    refine ⟨_, rfl, sqT q, ?_⟩
    cases h; cases T <;> decide +kernel
  · obtain ⟨a, vs, rfl, q, t⟩ := Rp.lst.mp r
    refine ⟨_, rfl, sqL q, ?_⟩
    cases h; cases T <;> decide +kernel
  · rename_i p
    split at h
    · rename_i ds hM
      obtain ⟨_, vs, e, t⟩ := rp.mem p _ hM
      rw [Rp.rf.mp r]
      refine ⟨"list", ?_, .base (.lst e), ?_⟩
      · show (match M p with | some (.lst _) => some "list" | _ => none) = some "list"
        rw [hM]
      · cases h; cases T <;> decide +kernel
    · cases h
  · cases h
def dIsi (T : TyN) (a : DE) : DE := fun ρ M Q E => a ρ M (fun d M1 => match isTy T d M1 with
  | some b => Q (.bool b) M1
  | none => False) E
/-- isinstance(x, (T, U)) -/
def dIsi2 (T U : TyN) (a : DE) : DE := fun ρ M Q E => a ρ M (fun d M1 => match isTy T d M1, isTy U d M1 with
  | some b, some c => Q (.bool (b || c)) M1
  | _, _ => False) E
section
variable {X : Cx} {W : WX} {e e2 : Expr} {fe : DE} {p p2 p3 p4 pos : Pos} {x y : Str} {kk : Nat}
theorem ee_isi (T : TyN) (hm : X.mg "isinstance" = none) (hmT : X.mg x = none) (hv : bootBuiltins x = some (.type T.nm)) (he : EE X W e fe) (hg : Gl X "isinstance" := by rfl) (hgT : Gl X x := by rfl) (hn : x ≠ "__name__" := by decide) (hd : (x == ("__debug__" : Str)) = false := by decide)
    (hs : starEach [e, .Name x p2] X.env = (false, eval e X.env) :: starEach [.Name x p2] X.env := by rfl) (hs2 : starEach [.Name x p2] X.env = (false, eval (.Name x p2) X.env) :: starEach [] X.env := by rfl) (hpl : (backTo pos (starEach [.Name x p2] X.env)).any (·.1) = false := by rfl) :
    EE X W (.Call (.Name "isinstance" p) [e, .Name x p2] [] pos) (dIsi T fe) := by
  refine ⟨PE.imp (pe_callB call_isi hg hm (by decide +kernel) (pa_cons he.h (pa_cons (pe_bltn (v := .ty T.nm) hgT hmT hv rfl hn hd) pa_nil hs2) hs) (he := hs) (hpl := hpl)) ?_⟩
  rintro σ H Q ⟨F, M, ρ, Qd, Ed, rs, rp, hf, cq, cx⟩
  refine ⟨F, M, ρ, _, Ed, rs, rp, hf, fun F1 H1 M1 d v n1 rv q1 => ?_, cx⟩
  try dsimp only at q1
  split at q1
  · rename_i b hb
    obtain ⟨n, _, ty, k⟩ := isTy_ok rv n1.ok hb
    exact ⟨v, .ty T.nm, .type n, _, b, rfl, .ty _, ty, kit_ty k, cq F1 H1 M1 _ _ n1 (Rp.bl.mpr rfl) q1⟩
  · exact q1.elim
theorem ee_isi2 (T U : TyN) (hm : X.mg "isinstance" = none) (hmT : X.mg x = none) (hv : bootBuiltins x = some (.type T.nm)) (hmU : X.mg y = none) (hvU : bootBuiltins y = some (.type U.nm)) (he : EE X W e fe) (hg : Gl X "isinstance" := by rfl) (hgT : Gl X x := by rfl) (hgU : Gl X y := by rfl)
    (hn : x ≠ "__name__" := by decide) (hd : (x == ("__debug__" : Str)) = false := by decide) (hnU : y ≠ "__name__" := by decide) (hdU : (y == ("__debug__" : Str)) = false := by decide)
    (hs : starEach [e, .Tuple [.Name x p2, .Name y p3] kk p4] X.env = (false, eval e X.env) :: starEach [.Tuple [.Name x p2, .Name y p3] kk p4] X.env := by rfl)
    (hs2 : starEach [.Tuple [.Name x p2, .Name y p3] kk p4] X.env = (false, eval (.Tuple [.Name x p2, .Name y p3] kk p4) X.env) :: starEach [] X.env := by rfl) (hpl : (backTo pos (starEach [.Tuple [.Name x p2, .Name y p3] kk p4] X.env)).any (·.1) = false := by rfl) 
    (hs3 : starEach [.Name x p2, .Name y p3] X.env = (false, eval (.Name x p2) X.env) :: starEach [.Name y p3] X.env := by rfl) (hs4 : starEach [.Name y p3] X.env = (false, eval (.Name y p3) X.env) :: starEach [] X.env := by rfl) :
    EE X W (.Call (.Name "isinstance" p) [e, .Tuple [.Name x p2, .Name y p3] kk p4] [] pos) (dIsi2 T U fe) := by
  refine ⟨PE.imp (pe_callB call_isiT hg hm (by decide +kernel) (pa_cons he.h (pa_cons (pe_tup (pa_cons (pe_bltn (v := .ty T.nm) hgT hmT hv rfl hn hd) (pa_cons (pe_bltn (v := .ty U.nm) hgU hmU hvU rfl hnU hdU) pa_nil hs4) hs3)) pa_nil hs2) hs) (he := hs) (hpl := hpl)) ?_⟩
  rintro σ H Q ⟨F, M, ρ, Qd, Ed, rs, rp, hf, cq, cx⟩
  refine ⟨F, M, ρ, _, Ed, rs, rp, hf, fun F1 H1 M1 d v n1 rv q1 => ?_, cx⟩
  try dsimp only at q1
  split at q1
  · rename_i b c hb hc
    have n2 := fun {q : Addr} (hq : H1 q = none) => Nx.grow n1.ok hq (.tup [.ty T.nm, .ty U.nm])
    refine ⟨by show 2 ≤ sizeLine; decide, fun q hq => ?_⟩
    obtain ⟨n, e1, ty', k'⟩ := isTy_ok rv (n2 hq).ok hb
    obtain ⟨n', e2, _, k2⟩ := isTy_ok rv (n2 hq).ok hc
    rw [e1] at e2
    cases e2
    refine ⟨v, q, _, .type n, [.type T.nm, .type U.nm], b || c, rfl, upd_same, .cons (.ty _) (.cons (.ty _) .nil), ty', ?_, cq _ _ M1 _ _ (n1.trans (n2 hq)) (Rp.bl.mpr rfl) q1⟩
    refine kitAny_cons (kit_ty k') (fun e => ?_) (fun e => by rw [e]; rfl)
    subst e
    refine kitAny_cons (kit_ty k2) (fun e => ?_) (fun e => by rw [e]; rfl)
    subst e
    exact kitAny_nil
  · exact q1.elim
end
end Nb
set_option Elab.async false
set_option linter.all false
set_option maxRecDepth 100000
set_option maxHeartbeats 1000000
set_option autoImplicit false
namespace Nb
open PySem PySem.Spec PyProof.Rows L2

/-! ### products of lists, tuples -/
section
variable {X : Cx}
theorem rep_list {pins : List (Addr × Obj)} {s : Shared} {σ : L2.St} {H : Hp} {l : Addr} {k : Int} {t : Tok} {vs : List V} {Q : VK} (I : Inv X pins σ H s) (hq : SqL X.K H l vs) (h1 : -(2 ^ 63) ≤ k) (h2 : k < 2 ^ 63) (hz : vs.length * k.toNat ≤ sizeLine) (hH : H l = some (.lst vs))
    (q : ∀ p, H p = none → Q (.ref p) (upd H p (.lst (List.replicate k.toNat vs).flatten))) : wpAny (model X.prog X.w) X.A (binaryOp .Mult (.ref l) (.int k t)) (EP X pins σ Q) X.xe s :=
  op_rep pins s σ H (.ref l) (.int k) _ _ Q I rfl ⟨t, rfl⟩ ⟨l, k, vs, rfl, rfl, hH, h1, h2, hz, q⟩
/-- list * int: the list one that was made here -/
def gRep : DR2 := fun x y M Q => match x, y with
  | .dict [(.int (Int.ofNat p), .none)], .int k => (match M p with
    | some (.lst a) => (-(2 ^ 63) ≤ k ∧ k < 2 ^ 63 ∧ a.length * k.toNat ≤ sizeLine) ∧ Q (.list (List.replicate k.toNat a).flatten) M
    | _ => False)
  | _, _ => False
def gRepL : DR2 := fun x y M Q => match x, y with
  | .dict [(.int (Int.ofNat p), .none)], .int k => (match M p with
    | some (.lst a) => (-(2 ^ 63) ≤ k ∧ k < 2 ^ 63 ∧ a.length * k.toNat ≤ sizeLine) ∧ ∀ q, M q = none → Q (rf q) (mup M q (.lst (List.replicate k.toNat a).flatten))
    | _ => False)
  | _, _ => False
def gMulI : DR2 := fun x y M Q => match x, y with
  | .int i, .int j => CMul i j ∧ Q (.int (i * j)) M
  | _, _ => False
theorem og_mul : OpR X (binaryOp .Mult) (LR2 X.K X.mg gMulI) := by
  rintro pins s σ H x y v u Q I rx ry ⟨F, M, dx, dy, Qd, r1, r2, rp, hg, cq⟩
  unfold gMulI at hg
  split at hg
  · rw [Rp.int.mp r1] at rx
    rw [Rp.int.mp r2] at ry
    exact op_mul pins s σ H _ _ v u Q I rx ry ⟨_, _, rfl, rfl, hg.1, cq.now rp (Rp.int.mpr rfl) hg.2⟩
  · exact hg.elim
theorem og_imul : OpR X (inplaceOp .Mult) (LR2 X.K X.mg gMulI) := by
  rintro pins s σ H x y v u Q I rx ry ⟨F, M, dx, dy, Qd, r1, r2, rp, hg, cq⟩
  unfold gMulI at hg
  split at hg
  · rw [Rp.int.mp r1] at rx
    rw [Rp.int.mp r2] at ry
    exact iop_mul pins s σ H _ _ v u Q I rx ry ⟨_, _, rfl, rfl, hg.1, cq.now rp (Rp.int.mpr rfl) hg.2⟩
  · exact hg.elim
def gAddI : DR2 := fun x y M Q => match x, y with
  | .int i, .int j => Q (.int (i + j)) M
  | _, _ => False
theorem og_iadd : OpR X (inplaceOp .Add) (LR2 X.K X.mg gAddI) := by
  rintro pins s σ H x y v u Q I rx ry ⟨F, M, dx, dy, Qd, r1, r2, rp, hg, cq⟩
  unfold gAddI at hg
  split at hg
  · rw [Rp.int.mp r1] at rx
    rw [Rp.int.mp r2] at ry
    exact iop_add pins s σ H _ _ v u Q I rx ry ⟨_, _, rfl, rfl, cq.now rp (Rp.int.mpr rfl) hg⟩
  · exact hg.elim
theorem og_rep : OpR X (binaryOp .Mult) (LR2 X.K X.mg gRep) := by
  rintro pins s σ H x y v u Q I rx ry ⟨F, M, dx, dy, Qd, r1, r2, rp, hg, cq⟩
  unfold gRep at hg
  split at hg
  · rename_i p k
    split at hg
    · rename_i a hM
      obtain ⟨_, vs, e, t⟩ := rp.mem p _ hM
      rw [Rp.rf.mp r1] at rx
      rw [Rp.int.mp r2] at ry
      exact op_rep pins s σ H _ _ v u Q I rx ry ⟨p, k, vs, rfl, rfl, e, hg.1.1, hg.1.2.1, by rw [t.len]; exact hg.1.2.2, cq.lst rp (t.flat _) hg.2⟩
    · exact hg.elim
  · exact hg.elim
theorem og_repL : OpR X (binaryOp .Mult) (LR2 X.K X.mg gRepL) := by
  rintro pins s σ H x y v u Q I rx ry ⟨F, M, dx, dy, Qd, r1, r2, rp, hg, cq⟩
  unfold gRepL at hg
  split at hg
  · rename_i p k
    split at hg
    · rename_i a hM
      obtain ⟨_, vs, e, t⟩ := rp.mem p _ hM
      rw [Rp.rf.mp r1] at rx
      rw [Rp.int.mp r2] at ry
      exact op_rep pins s σ H _ _ v u Q I rx ry ⟨p, k, vs, rfl, rfl, e, hg.1.1, hg.1.2.1, by rw [t.len]; exact hg.1.2.2, cq.live rp (t.flat _) hg.2⟩
    · exact hg.elim
  · exact hg.elim
end
/-! ### slices -/
def cutD {α : Type} (xs : List α) (lo hi : Option Int) : List α := (xs.drop (HT.sIx xs.length 0 lo)).take (HT.sIx xs.length xs.length hi - HT.sIx xs.length 0 lo)
theorem RpAll.cut {K : PySem.W.Frag} {F : Hp} {ds : List Dat} {vs : List V} (lo hi : Option Int) (h : RpAll K F ds vs) : RpAll K F (cutD ds lo hi) (L2.cutV vs lo hi) := by
  unfold cutD L2.cutV
  rw [h.len]
  exact (h.drop _).take _
def gSl (x : Dat) (lo hi : Option Int) (M : Mem) (Q : DQ) : Prop := match x with
  | .tuple ds => Q (.tuple (cutD ds lo hi)) M
  | .str z => z.length ≤ sizeLine ∧ Q (.str (cutS z lo hi)) M
  | _ => match lstOf x M with
    | some ds => Q (.list (cutD ds lo hi)) M
    | none => False
abbrev DO := Rho → Mem → (Option Int → Mem → Prop) → XQ → Prop
def LO (K : PySem.W.Frag) (mg : Str → Option Value) (W : WX) (f : DO) : TO := fun σ H Q => ∃ F M ρ Qd Ed, Rst K F ρ σ ∧ Rpr K mg H F M ∧ f ρ M Qd Ed ∧
  (∀ F' H' M' o, Nx K mg F H M F' H' M' → Qd o M' → Q o H') ∧ CXd K mg F H M Ed fun c d H' => W c d σ H'
structure EO (X : Cx) (W : WX) (e : Option Expr) (f : DO) : Prop where
  h : PO X e (LO X.K X.mg W f)
def oNone : DO := fun _ M Q _ => Q none M
def oSome (a : DE) : DO := fun ρ M Q E => a ρ M (fun d M1 => match d with
  | .int i => Q (some i) M1
  | _ => False) E
def dSl (a : DE) (l u : DO) : DE := fun ρ M Q E => a ρ M (fun x M1 => l ρ M1 (fun lo M2 => u ρ M2 (fun hi M3 => gSl x lo hi M3 Q) E) E) E
section
variable {X : Cx} {W : WX} {e : Expr} {lo hi : Option Expr} {fe : DE} {fl fh : DO} {p2 pos : Pos}
theorem eo_none : EO X W none oNone := by
  refine ⟨⟨fun pins s σ H Q I h => ?_⟩⟩
  obtain ⟨F, M, ρ, Qd, Ed, rs, rp, hf, cq, cx⟩ := h
  exact po_none.run pins s σ H Q I (cq F H M none (Nx.refl rp) hf)
theorem eo_some (he : EE X W e fe) : EO X W (some e) (oSome fe) := by
  refine ⟨⟨fun pins s σ H Q I h => (po_some he.h).run pins s σ H Q I ?_⟩⟩
  obtain ⟨F, M, ρ, Qd, Ed, rs, rp, hf, cq, cx⟩ := h
  refine ⟨F, M, ρ, _, Ed, rs, rp, hf, fun F1 H1 M1 d v n1 rv q1 => ?_, cx⟩
  try dsimp only at q1
  split at q1
  · exact ⟨_, Rp.int.mp rv, cq F1 H1 M1 _ n1 q1⟩
  · exact q1.elim
def rSlAny (K : PySem.W.Frag) : V → Option Int → Option Int → Hp → VK → Prop := fun x lo hi H Q => rSlA K x lo hi H Q ∨ (rSlL K x lo hi H Q ∨ rSlS x lo hi H Q)
theorem sl_any : SlR X (rSlAny X.K) := SlR.or sl_tupA (SlR.or sl_list sl_str)
theorem ee_slice (he : EE X W e fe) (hl : EO X W lo fl) (hh : EO X W hi fh) : EE X W (.Subscript e (.Slice lo hi none p2) pos) (dSl fe fl fh) := by
  refine ⟨PE.imp (pe_slice sl_any he.h hl.h hh.h) ?_⟩
  rintro σ H Q ⟨F, M, ρ, Qd, Ed, rs, rp, hf, cq, cx⟩
  refine ⟨F, M, ρ, _, Ed, rs, rp, hf, fun F1 H1 M1 d v n1 rv q1 => ?_, cx⟩
  refine ⟨F1, M1, ρ, _, Ed, rs.mono n1.same, n1.ok, q1, fun F2 H2 M2 l n2 q2 => ?_, cx.mono n1⟩
  refine ⟨F2, M2, ρ, _, Ed, rs.mono (n1.trans n2).same, n2.ok, q2, fun F3 H3 M3 u n3 q3 => ?_, cx.mono (n1.trans n2)⟩
  have cq3 := cq.mono ((n1.trans n2).trans n3)
  have rv3 := rv.mono (n2.trans n3).same
  unfold gSl at q3
  split at q3
  · obtain ⟨a, vs, rfl, q, t⟩ := Rp.tup.mp rv3
    refine .inl ⟨a, vs, rfl, Same.seqT n3.ok.sub q, fun e0 => ?_, fun _ => cq3.tup n3.ok (t.cut l u) q3⟩
    rename_i ds
    have e1 : cutD ds l u = ds := by
      unfold cutD
      rw [← t.len, e0.1, e0.2, List.drop_zero, Nat.sub_zero, t.len, List.take_length]
    rw [e1] at q3
    exact cq3.now n3.ok rv3 q3
  · exact .inr (.inr ⟨_, Rp.str.mp rv3, q3.1, cq3.now n3.ok (Rp.str.mpr rfl) q3.2⟩)
  · split at q3
    · rename_i ds el
      obtain ⟨a, vs, rfl, q, t⟩ := lstOf_ok rv3 n3.ok el
      exact .inr (.inl ⟨a, vs, rfl, q, cq3.lst n3.ok (t.cut l u) q3⟩)
    · exact q3.elim
theorem ee_ix {b : Expr} {fb : DE} (ha : EE X W e fe) (hb : EE X W b fb) (hs : PlainIx b := by exact fun _ _ => rfl) : EE X W (.Subscript e b pos) (dOp gIx fe fb) := ⟨PE.imp (pe_ix ig_ix ha.h hb.h hs) lift_op⟩
end
/-! ### methods of lists -/
def dBM (ty : Dat → Mem → Prop) (g : DRM) (o : DE) (a : DA) : DE := fun ρ M Q E => o ρ M (fun d M1 => ty d M1 ∧ a ρ M1 (fun ds M2 => g d ds M2 Q) E) E
def tyL (d : Dat) (M : Mem) : Prop := (lstOf d M).isSome = true
def tyS (d : Dat) (_ : Mem) : Prop := ∃ x, d = .str x
def gAppend : DRM := fun d es M Q => ∃ p xs y, d = rf p ∧ es = [y] ∧ M p = some (.lst xs) ∧ xs.length < sizeLine ∧ Q .none (mup M p (.lst (xs ++ [y])))
def gPop : DRM := fun d es M Q => ∃ p xs y, d = rf p ∧ es = [] ∧ M p = some (.lst xs) ∧ xs[xs.length - 1]? = some y ∧ Q y (mup M p (.lst xs.dropLast))
def gPopAt : DRM := fun d es M Q => ∃ p xs i k y, d = rf p ∧ es = [.int i] ∧ M p = some (.lst xs) ∧ ixN xs.length i = some k ∧ xs[k]? = some y ∧ Q y (mup M p (.lst (xs.eraseIdx k)))
def gClear : DRM := fun d es M Q => ∃ p xs, d = rf p ∧ es = [] ∧ M p = some (.lst xs) ∧ Q .none (mup M p (.lst []))
def gInsert : DRM := fun d es M Q => ∃ p xs i y, d = rf p ∧ es = [.int i, y] ∧ M p = some (.lst xs) ∧ xs.length < sizeLine ∧ 0 ≤ i ∧ i < 2 ^ 63 ∧ Q .none (mup M p (.lst (xs.take i.toNat ++ [y] ++ xs.drop i.toNat)))
def gIndex : DRM := fun d es M Q => ∃ xs y j z, lstOf d M = some xs ∧ es = [y] ∧ flatD y = true ∧ xs.all flatD = true ∧ xs[j]? = some z ∧ PyData.eqv z y = true ∧ (∀ (m : Nat) (z' : Dat), m < j → xs[m]? = some z' → PyData.eqv z' y = false) ∧ Q (.int (j : Nat)) M
section
variable {X : Cx} {W : WX} {o e : Expr} {es : List Expr} {fo : DE} {ga : DA} {apos cpos : Pos} {id : String} {name : Str} {g : DRM}
theorem tyL_ok {K : PySem.W.Frag} {mg : Str → Option Value} {F H : Hp} {M : Mem} {d : Dat} {v : V} (r : Rp K F d v) (rp : Rpr K mg H F M) (h : tyL d M) : tyV K "list" v H := by
  obtain ⟨ds, e⟩ := Option.isSome_iff_exists.mp h
  obtain ⟨a, vs, rfl, q, t⟩ := lstOf_ok r rp e
  exact .inl ⟨rfl, vs, q⟩
theorem ee_bmL (slot : Slot "list" name id) (hty : typeOf (.builtin id) = pure (.type "method_descriptor")) (hm : MtR X id (LRM X.K X.mg g)) (ho : EE X W o fo) (ha : EA X W (e :: es) ga)
    (hbase : attributeBase o name X.env (eval o X.env) = eval o X.env := by rfl)
    (hfew : ((backTo cpos (starEach (e :: es) X.env)).all (fun x => !x.1) && (backToKw cpos (keywordEach [] X.env)).all (fun x => x.1.isSome)
      && decide ((e :: es).length + ([] : List Keyword).length + (if ([] : List Keyword).isEmpty then 0 else 1) < 30)) = true := by rfl)
    (hline : (apos.endLine == cpos.line) = true := by rfl) (hs : starEach (e :: es) X.env = (false, eval e X.env) :: starEach es X.env := by rfl) (hplain : (backTo cpos (starEach es X.env)).any (·.1) = false := by rfl) :
    EE X W (.Call (.Attribute o name apos) (e :: es) [] cpos) (dBM tyL g fo ga) := by
  refine ⟨PE.imp (pe_bm PySem.F.plainAttrs_list slot hty hm ho.h ha.h hbase hfew hline hs hplain) ?_⟩
  rintro σ H Q ⟨F, M, ρ, Qd, Ed, rs, rp, hf, cq, cx⟩
  refine ⟨F, M, ρ, _, Ed, rs, rp, hf, fun F1 H1 M1 d v n1 rv q1 => ?_, cx⟩
  refine ⟨tyL_ok rv n1.ok q1.1, F1, M1, ρ, _, Ed, rs.mono n1.same, n1.ok, q1.2, fun F2 H2 M2 ds vs n2 re q2 => ?_, cx.mono n1⟩
  exact ⟨F2, M2, d, ds, Qd, rv.mono n2.same, re, n2.ok, q2, cq.mono (n1.trans n2)⟩
theorem ee_bmL0 (slot : Slot "list" name id) (hty : typeOf (.builtin id) = pure (.type "method_descriptor")) (hm : MtR X id (LRM X.K X.mg g)) (ho : EE X W o fo)
    (hbase : attributeBase o name X.env (eval o X.env) = eval o X.env := by rfl) (hline : (apos.endLine == cpos.line) = true := by rfl) :
    EE X W (.Call (.Attribute o name apos) [] [] cpos) (dBM tyL g fo dNil) := by
  refine ⟨PE.imp (pe_bm0 PySem.F.plainAttrs_list slot hty hm ho.h hbase hline) ?_⟩
  rintro σ H Q ⟨F, M, ρ, Qd, Ed, rs, rp, hf, cq, cx⟩
  refine ⟨F, M, ρ, _, Ed, rs, rp, hf, fun F1 H1 M1 d v n1 rv q1 => ?_, cx⟩
  exact ⟨tyL_ok rv n1.ok q1.1, F1, M1, d, [], Qd, rv, RpAll.nil, n1.ok, q1.2, cq.mono n1⟩
theorem mg_append : MtR X "list.append" (LRM X.K X.mg gAppend) := by
  rintro pins s σ H x xs v us Q I rx rxs ⟨F, M, d, ds, Qd, r1, rd, rp, ⟨p, ys, y, rfl, rfl, hM, hl, hg⟩, cq⟩
  obtain ⟨_, vs, e, t⟩ := rp.mem p _ hM
  obtain ⟨w, rfl, h1⟩ := rd.one
  refine mt_append pins s σ H x _ v us Q I rx rxs ⟨p, vs, w, Rp.rf.mp r1, rfl, e, by rw [t.len]; exact hl, ?_⟩
  exact cq _ _ _ _ _ (Nx.write (mo := .lst (ys ++ [y])) rp hM ⟨_, upd_same, t.append (RpAll.cons h1 RpAll.nil)⟩) (Rp.non.mpr rfl) hg
theorem RpAll.dropLast {K : PySem.W.Frag} {F : Hp} {ds : List Dat} {vs : List V} (h : RpAll K F ds vs) : RpAll K F ds.dropLast vs.dropLast := by
  rw [List.dropLast_eq_take, List.dropLast_eq_take, h.len]
  exact h.take _
theorem mg_pop : MtR X "list.pop" (LRM X.K X.mg gPop) := by
  rintro pins s σ H x xs v us Q I rx rxs ⟨F, M, d, ds, Qd, r1, rd, rp, ⟨p, ys, y, rfl, rfl, hM, hl, hg⟩, cq⟩
  obtain ⟨_, vs, e, t⟩ := rp.mem p _ hM
  obtain rfl := rd.nil_inv
  obtain ⟨w, h1, h2⟩ := t.get hl
  refine mt_pop pins s σ H x _ v us Q I rx rxs ⟨p, vs, w, Rp.rf.mp r1, rfl, e, by rw [t.len]; exact h1, ?_⟩
  exact cq _ _ _ _ _ (Nx.write (mo := .lst ys.dropLast) rp hM ⟨_, upd_same, t.dropLast⟩) h2 hg
theorem mg_popAt : MtR X "list.pop" (LRM X.K X.mg gPopAt) := by
  rintro pins s σ H x xs v us Q I rx rxs ⟨F, M, d, ds, Qd, r1, rd, rp, ⟨p, ys, i, k, y, rfl, rfl, hM, hk, hl, hg⟩, cq⟩
  obtain ⟨_, vs, e, t⟩ := rp.mem p _ hM
  obtain ⟨w, rfl, h1⟩ := rd.one
  obtain ⟨w', h2, h3⟩ := t.get hl
  obtain ⟨k1, k2, k3, k4⟩ := ixN_seq hk
  have hz : vs.length ≤ sizeLine := (I.list (SqL.of e)).elim fun its q => q.2.2
  have hz' : ys.length ≤ sizeLine := by rw [← t.len]; exact hz
  have hline := line63
  refine mt_popAt pins s σ H x _ v us Q I rx rxs ⟨p, vs, i, k, w', Rp.rf.mp r1, by rw [Rp.int.mp h1], e, by omega, by omega, by rw [t.len]; exact k1, h2, ?_⟩
  exact cq _ _ _ _ _ (Nx.write (mo := .lst (ys.eraseIdx k)) rp hM ⟨_, upd_same, t.eraseIdx k⟩) h3 hg
theorem mg_clear : MtR X "list.clear" (LRM X.K X.mg gClear) := by
  rintro pins s σ H x xs v us Q I rx rxs ⟨F, M, d, ds, Qd, r1, rd, rp, ⟨p, ys, rfl, rfl, hM, hg⟩, cq⟩
  obtain ⟨_, vs, e, t⟩ := rp.mem p _ hM
  obtain rfl := rd.nil_inv
  refine mt_clear pins s σ H x _ v us Q I rx rxs ⟨p, vs, Rp.rf.mp r1, rfl, e, ?_⟩
  exact cq _ _ _ _ _ (Nx.write (mo := .lst []) rp hM ⟨_, upd_same, RpAll.nil⟩) (Rp.non.mpr rfl) hg
theorem mg_insert : MtR X "list.insert" (LRM X.K X.mg gInsert) := by
  rintro pins s σ H x xs v us Q I rx rxs ⟨F, M, d, ds, Qd, r1, rd, rp, ⟨p, ys, i, y, rfl, rfl, hM, hl, h0, h1, hg⟩, cq⟩
  obtain ⟨_, vs, e, t⟩ := rp.mem p _ hM
  obtain ⟨w, w', rfl, k1, k2⟩ := rd.two
  refine mt_insert pins s σ H x _ v us Q I rx rxs ⟨p, vs, i, w', Rp.rf.mp r1, by rw [Rp.int.mp k1], e, by rw [t.len]; exact hl, h0, h1, ?_⟩
  exact cq _ _ _ _ _ (Nx.write (mo := .lst (ys.take i.toNat ++ [y] ++ ys.drop i.toNat)) rp hM ⟨_, upd_same, ((t.take _).append (RpAll.cons k2 RpAll.nil)).append (t.drop _)⟩) (Rp.non.mpr rfl) hg
theorem flat_all {K : PySem.W.Frag} {F : Hp} : ∀ {ds : List Dat} {vs : List V}, RpAll K F ds vs → ds.all flatD = true → vs.all flatV = true
  | [], vs, t, _ => by rw [t.nil_inv]; rfl
  | d :: ds, vs, t, h => by
    obtain ⟨v, r, rfl, h1, t'⟩ := t.inv
    rw [List.all_cons, Bool.and_eq_true] at h
    rw [List.all_cons, flat_ok h1 h.1, flat_all t' h.2]
    rfl
theorem mg_index : MtR X "list.index" (LRM X.K X.mg gIndex) := by
  rintro pins s σ H x xs v us Q I rx rxs ⟨F, M, d, ds, Qd, r1, rd, rp, ⟨ys, y, j, z, hL, rfl, fy, fys, hz, hzy, hno, hg⟩, cq⟩
  obtain ⟨a, vs, rfl, q, t⟩ := lstOf_ok r1 rp hL
  obtain ⟨w, rfl, h1⟩ := rd.one
  obtain ⟨z', h2, h3⟩ := t.get hz
  have fl : ∀ {m : Nat} {z : Dat}, ys[m]? = some z → flatD z = true := fun {m z} h => List.all_eq_true.mp fys z (List.mem_of_getElem? h)
  refine mt_index pins s σ H _ _ v us Q I rx rxs ⟨a, vs, w, j, z', rfl, rfl, q, flat_ok h1 fy, flat_all t fys, h2, ?_, fun m u hm hu => ?_, cq.now rp (Rp.int.mpr rfl) hg⟩
  · rw [eqV_ok h3 h1 (fl hz) fy]; exact hzy
  · obtain ⟨d', e1, e2⟩ := t.get' hu
    rw [eqV_ok e2 h1 (fl e1) fy]
    exact hno m d' hm e1
end
/-! ### stores to places -/
def gSubD (o i : DE) : DG := fun v ρ M Q => o ρ M (fun d M1 => i ρ M1 (fun x M2 => ∃ p xs k j, d = rf p ∧ x = .int k ∧ M2 p = some (.lst xs) ∧ ixN xs.length k = some j ∧ Q ρ (mup M2 p (.lst (xs.set j v)))) noX) noX
section
variable {X : Cx} {o i : Expr} {fo fi : DE} {pos : Pos}
theorem eg_sub (ho : EE X W0 o fo) (hi : EE X W0 i fi) (ha : ∀ v, assign (.Subscript o i pos) X.env v = (do
      let ov ← holding [v] (eval o X.env)
      let iv ← holding [v, ov] (eval i X.env)
      standAt pos
      holding [v, ov, iv] (setItem ov iv v)
      release [v, ov, iv] []) := by intro _; rfl) : EG X (.Subscript o i pos) (gSubD fo fi) := by
  refine ⟨PG.imp (pg_sub ho.h hi.h set_list ha) ?_⟩
  rintro v σ H Q ⟨F, M, ρ, d, Qd, rs, rp, rv, hf, cs⟩
  refine ⟨F, M, ρ, _, _, rs, rp, hf, fun F1 H1 M1 x1 v1 n1 r1 q1 => ?_, CXd.none⟩
  refine ⟨F1, M1, ρ, _, _, rs.mono n1.same, n1.ok, q1, fun F2 H2 M2 x2 v2 n2 r2 q2 => ?_, CXd.none⟩
  obtain ⟨p, xs, k, j, rfl, rfl, hM, hj, q2⟩ := q2
  obtain ⟨_, vs, e, t⟩ := n2.ok.mem p _ hM
  refine ⟨p, vs, k, j, Rp.rf.mp r1, Rp.int.mp r2, e, by rw [t.len]; exact hj, ?_⟩
  have n3 := Nx.write (mo := .lst (xs.set j d)) n2.ok hM ⟨_, upd_same, t.set j (rv.mono (n1.trans n2).same)⟩
  exact cs _ _ _ _ _ ((n1.trans n2).trans n3) (rs.mono ((n1.trans n2).trans n3).same) q2
end
/-! ### list(range(n)) -/
theorem rgV_ok {K : PySem.W.Frag} {F : Hp} (a : Int) : ∀ (n : Nat) (b : Int), RpAll K F (rngD b n) ((List.range n).map fun i => V.int (b + (i : Nat)))
  | 0, b => by simpa [rngD] using RpAll.nil
  | n + 1, b => by
    rw [List.range_succ_eq_map, List.map_cons, List.map_map]
    have ih := rgV_ok (K := K) (F := F) a n (b + 1)
    refine RpAll.cons (Rp.int.mpr (by simp)) ?_
    have e : ((fun i : Nat => V.int (b + (i : Nat))) ∘ Nat.succ) = fun i : Nat => V.int (b + 1 + (i : Nat)) := by
      funext i
      show V.int (b + ((i + 1 : Nat) : Int)) = V.int (b + 1 + i)
      congr 1
      omega
    rw [e]
    exact ih
def dLstRng (a : DE) : DE := fun ρ M Q E => a ρ M (fun d M1 => match d with
  | .int n => RgOk 0 n ∧ Q (.list (rngD 0 n.toNat)) M1
  | _ => False) E
def dLstRngL (a : DE) : DE := fun ρ M Q E => a ρ M (fun d M1 => match d with
  | .int n => RgOk 0 n ∧ ∀ p, M1 p = none → Q (rf p) (mup M1 p (.lst (rngD 0 n.toNat)))
  | _ => False) E
section
variable {X : Cx} {W : WX} {e : Expr} {fe : DE} {p p2 pos pos2 : Pos}
theorem ee_lstRng (hc : X.calm = true) (hm : X.mg "list" = none) (hm2 : X.mg "range" = none) (he : EE X W e fe) (hg : Gl X "list" := by rfl) (hg2 : Gl X "range" := by rfl) (na2 : starEach [e] X.env = (false, eval e X.env) :: starEach [] X.env := by rfl)
    (na : starEach [.Call (.Name "range" p2) [e] [] pos2] X.env = (false, eval (.Call (.Name "range" p2) [e] [] pos2) X.env) :: starEach [] X.env := by rfl) : EE X W (.Call (.Name "list" p) [.Call (.Name "range" p2) [e] [] pos2] [] pos) (dLstRng fe) := by
  refine ⟨PE.imp (pe_listRg hc hg hm (prg_1 hg2 hm2 he.h na2) na) ?_⟩
  rintro σ H Q ⟨F, M, ρ, Qd, Ed, rs, rp, hf, cq, cx⟩
  refine ⟨F, M, ρ, _, Ed, rs, rp, hf, fun F1 H1 M1 d v n1 rv q1 => ?_, cx⟩
  try dsimp only at q1
  split at q1
  · rename_i n
    refine ⟨n, Rp.int.mp rv, q1.1, ?_⟩
    have e : (n - 0).toNat = n.toNat := by simp
    unfold rgV
    rw [e]
    exact (cq.mono n1).lst n1.ok (rgV_ok 0 n.toNat 0) q1.2
  · exact q1.elim
theorem ee_lstRngL (hc : X.calm = true) (hm : X.mg "list" = none) (hm2 : X.mg "range" = none) (he : EE X W e fe) (hg : Gl X "list" := by rfl) (hg2 : Gl X "range" := by rfl) (na2 : starEach [e] X.env = (false, eval e X.env) :: starEach [] X.env := by rfl)
    (na : starEach [.Call (.Name "range" p2) [e] [] pos2] X.env = (false, eval (.Call (.Name "range" p2) [e] [] pos2) X.env) :: starEach [] X.env := by rfl) : EE X W (.Call (.Name "list" p) [.Call (.Name "range" p2) [e] [] pos2] [] pos) (dLstRngL fe) := by
  refine ⟨PE.imp (pe_listRg hc hg hm (prg_1 hg2 hm2 he.h na2) na) ?_⟩
  rintro σ H Q ⟨F, M, ρ, Qd, Ed, rs, rp, hf, cq, cx⟩
  refine ⟨F, M, ρ, _, Ed, rs, rp, hf, fun F1 H1 M1 d v n1 rv q1 => ?_, cx⟩
  try dsimp only at q1
  split at q1
  · rename_i n
    refine ⟨n, Rp.int.mp rv, q1.1, ?_⟩
    have e : (n - 0).toNat = n.toNat := by simp
    unfold rgV
    rw [e]
    exact (cq.mono n1).live n1.ok (rgV_ok 0 n.toNat 0) q1.2
  · exact q1.elim
end
end Nb
set_option Elab.async false
set_option linter.all false
set_option maxRecDepth 100000
set_option maxHeartbeats 1000000
set_option autoImplicit false
namespace Nb
open PySem PySem.Spec PyProof.Rows L2

/-! ### what the module's top has left -/
section
variable (P : Program) (w : World) (K : PySem.W.Frag) (mg : Str → Option Value) (base : Heap)
/-- a def that keeps its promise -/
def HasFn (x : Str) (k : Nat) (s : DSp) : Prop := ∃ f fd ps, FnOk P w K mg base (L2.CX P w) k f fd ps (LSp K mg s) ∧ mg x = some (.ref f) ∧ PySem.W.keepIn K (.ref f) = true ∧ Binds K fd ps []
def FunAt (x : Str) (st : Stmt) (ps : List Str) : Prop := ∃ f fd, mg x = some (.ref f) ∧ Fun K x x st f fd ∧ Binds K fd ps []
def HasCls (c : Str) (L : List Str) : Prop := ∃ C, ClsT K mg c L C
def HasMeth (c : Str) (L : List Str) (m : Str) (k : Nat) (s : DSp) : Prop := ∃ C f fd ps, ClsT K mg c L C ∧ Meth K C m f ∧ FnOk P w K mg base (L2.CX P w) k f fd ps (LSp K mg s) ∧ Binds K fd ps []
def MethAt (c : Str) (L : List Str) (m q : Str) (st : Stmt) (ps : List Str) : Prop := ∃ C f fd, ClsT K mg c L C ∧ Meth K C m f ∧ Fun K m q st f fd ∧ Binds K fd ps []
def HasMake (c : Str) (L : List Str) (k : Nat) (s : DSp) : Prop := ∃ C f fd ps, ClsT K mg c L C ∧ Mk K C f ∧ FnOk P w K mg base (L2.CX P w) k f fd ps (LSp K mg s) ∧ Binds K fd ps []
def MakeAt (c : Str) (L : List Str) (q : Str) (st : Stmt) (ps : List Str) : Prop := ∃ C f fd, ClsT K mg c L C ∧ Mk K C f ∧ Fun K "__init__" q st f fd ∧ Binds K fd ps []
end
section
variable {P : Program} {w : World} {K : PySem.W.Frag} {mg : Str → Option Value} {base : Heap} {x c m q : Str} {L ps : List Str} {k : Nat} {s : DSp} {st : Stmt}
theorem FunAt.has (A : FunAt K mg x st ps) (h : ∀ f fd, Fun K x x st f fd → FnOk P w K mg base (L2.CX P w) k f fd ps (LSp K mg s)) : HasFn P w K mg base x k s :=
  let ⟨f, fd, g, F, b⟩ := A
  ⟨f, fd, ps, h f fd F, g, F.kp, b⟩
theorem MethAt.has (A : MethAt K mg c L m q st ps) (h : ∀ f fd, Fun K m q st f fd → FnOk P w K mg base (L2.CX P w) k f fd ps (LSp K mg s)) : HasMeth P w K mg base c L m k s :=
  let ⟨C, f, fd, T, M, F, b⟩ := A
  ⟨C, f, fd, ps, T, M, h f fd F, b⟩
theorem MakeAt.has (A : MakeAt K mg c L q st ps) (h : ∀ f fd, Fun K "__init__" q st f fd → FnOk P w K mg base (L2.CX P w) k f fd ps (LSp K mg s)) : HasMake P w K mg base c L k s :=
  let ⟨C, f, fd, T, M, F, b⟩ := A
  ⟨C, f, fd, ps, T, M, h f fd F, b⟩
end
section
variable {X : Cx} {W : WX} {x c m : Str} {L : List Str} {e o : Expr} {es : List Expr} {fo fe : DE} {ga : DA} {pos pos' apos p : Pos} {k : Nat} {s : DSp}
theorem ee_callH (h : HasFn X.prog X.w X.K X.mg X.base x k s) (hr : Room k X.A) (tk : Takes X W) (ha : EA X W (e :: es) ga) (hg : Gl X x := by rfl) (hdb : (x == ("__debug__" : Str)) = false := by decide)
    (he : starEach (e :: es) X.env = (false, eval e X.env) :: starEach es X.env := by rfl) (hpl : (backTo pos (starEach es X.env)).any (·.1) = false := by rfl) : EE X W (.Call (.Name x p) (e :: es) [] pos) (dCall s ga) := by
  obtain ⟨f, fd, ps, Fk, hm, hk, hb⟩ := h
  exact ee_call Fk hr hm hk hb tk ha hg hdb he hpl
theorem ee_fldH {f : Str} (h : HasCls X.K X.mg c L) (i : Nat) (he : EE X W e fo) (hi : L[i]? = some f := by rfl) (hb : attributeBase e f X.env (eval e X.env) = eval e X.env := by rfl) : EE X W (.Attribute e f pos) (dFld c L i fo) := by
  obtain ⟨C, T⟩ := h
  exact ee_fld T i he hi hb
theorem es_setFldH {f : Str} (h : HasCls X.K X.mg c L) (i : Nat) (ho : EE X W o fo) (he : EE X W e fe) (hi : L[i]? = some f := by rfl) (hs : swapsWith e (some (.Attribute o f pos')) pos.line X.env = pure false := by rfl) :
    ES X W (.Assign [.Attribute o f pos'] e pos) (dSetFld c L i fo fe) := by
  obtain ⟨C, T⟩ := h
  exact es_setFld T i ho he hi hs
theorem ee_methH {pl : Sem Bool} (h : HasMeth X.prog X.w X.K X.mg X.base c L m k s) (hr : Room k X.A) (tk : Takes X W) (ho : EE X W o fo) (ha : EA X W (e :: es) ga) (hno : m ∉ L := by decide +kernel)
    (hst : starEach (e :: es) X.env = (false, eval e X.env) :: starEach es X.env := by rfl) (hpl : (backTo pos (starEach es X.env)).any (·.1) = false := by rfl)
    (ht : eval (.Call (.Attribute o m apos) (e :: es) [] pos) X.env = (do
      let ov ← eval o X.env
      standAt apos.atName
      let (f, first) ← holding [ov] (getMethod ov m pl)
      callWith pos f first (backTo pos (starEach (e :: es) X.env)) (backToKw pos (keywordEach [] X.env))) := by rfl) : EE X W (.Call (.Attribute o m apos) (e :: es) [] pos) (dMeth c L s fo ga) := by
  obtain ⟨C, f, fd, ps, T, hm, Fk, hb⟩ := h
  exact ee_meth (pl := pl) T hm Fk hr hb tk ho ha hno hst hpl ht
theorem ee_methH0 {pl : Sem Bool} (h : HasMeth X.prog X.w X.K X.mg X.base c L m k s) (hr : Room k X.A) (tk : Takes X W) (ho : EE X W o fo) (hno : m ∉ L := by decide +kernel)
    (ht : eval (.Call (.Attribute o m apos) [] [] pos) X.env = (do
      let ov ← eval o X.env
      standAt apos.atName
      let (f, first) ← holding [ov] (getMethod ov m pl)
      callWith pos f first (backTo pos (starEach [] X.env)) (backToKw pos (keywordEach [] X.env))) := by rfl) : EE X W (.Call (.Attribute o m apos) [] [] pos) (dMeth c L s fo dNil) := by
  obtain ⟨C, f, fd, ps, T, hm, Fk, hb⟩ := h
  exact ee_meth0 (pl := pl) T hm Fk hr hb tk ho hno ht
theorem ee_makeH (h : HasMake X.prog X.w X.K X.mg X.base c L k s) (hr : Room (k + 1) X.A) (tk : Takes X W) (ha : EA X W (e :: es) ga) (hg : Gl X c := by rfl) (hdb : (c == ("__debug__" : Str)) = false := by decide)
    (he : starEach (e :: es) X.env = (false, eval e X.env) :: starEach es X.env := by rfl) (hpl : (backTo pos (starEach es X.env)).any (·.1) = false := by rfl) : EE X W (.Call (.Name c p) (e :: es) [] pos) (dMake c L s ga) := by
  obtain ⟨C, f, fd, ps, T, hm, Fk, hb⟩ := h
  exact ee_make T hm Fk hr hb tk ha hg hdb he hpl
end
/-! ### what a def has left behind is forgotten -/
def clip (M0 M : Mem) : Mem := fun a => if (M0 a).isSome = true then M a else none
theorem clip_less {M0 M : Mem} : ∀ a mo, clip M0 M a = some mo → M a = some mo := fun a mo h => by
  unfold clip at h
  split at h
  · exact h
  · cases h
@[simp] theorem clip_self (M : Mem) : clip M M = M := by
  funext a
  unfold clip
  split
  · rfl
  · rename_i h
    cases e : M a with
    | none => rfl
    | some _ => rw [e] at h; exact absurd rfl h
theorem clip_in {M0 M : Mem} {p : Nat} {o : MO} (h : (M0 p).isSome = true) : clip M0 (mup M p o) = mup (clip M0 M) p o := by
  funext a
  unfold clip mup
  by_cases e : a = p
  · subst e; simp [h]
  · simp [e]
theorem clip_out {M0 M : Mem} {p : Nat} {o : MO} (h : M0 p = none) : clip M0 (mup M p o) = clip M0 M := by
  funext a
  unfold clip mup
  by_cases e : a = p
  · subst e; simp [h]
  · simp [e]
theorem clip_del {M0 M : Mem} {p : Nat} (h : M0 p = none) : clip M0 (mdel M p) = clip M0 M := by
  funext a
  unfold clip mdel
  by_cases e : a = p
  · subst e; simp [h]
  · simp [e]
section
variable {P : Program} {w : World} {K : PySem.W.Frag} {mg : Str → Option Value} {base : Heap}
/-- .. a def's promise, its own leavings forgotten -/
theorem dfn_gc {x qual : Str} {st : Stmt} {f : Addr} {fd : FuncData} {N ps : List Str} {k : Nat} {s : DSp} (fb : DS) (Fn : Fun K x qual st f fd) (S : FnScope N ps (defScope st)) (len : ∀ ds M Q E, s ds M Q E → ds.length = ps.length)
    (hb : ∀ (cdv : Value) (A : Around) (outer : List Env) (s0 : Shared) (H : Hp) (E : XK), Room k (A.deeper (envOfC qual (defScope st) s0.heap.objs.size f cdv)) →
      SS (cxOf (L2.CX P w) P w K mg base N qual (defScope st) f cdv A outer s0 H E) (wOf E) (defBody st) fb)
    (hp : ∀ ds M Qd Ed, s ds M Qd Ed → fb (endsOf (fun d M' => Qd d (clip M M')) (fun x M' => Ed x (clip M M'))) (startD N.length ds) M) : FnOk P w K mg base (L2.CX P w) (k + 1) f fd ps (LSp K mg s) := by
  refine Fn.okX S (fun vs H Q E h => ?_) (fun cdv A outer s0 H vs Q E hr h => ⟨LS K mg (wOf E) fb, (hb cdv A outer s0 H E hr).h, ?_⟩)
  · obtain ⟨F, M, ds, Qd, Ed, rv, rp, hs, _⟩ := h
    rw [rv.len]
    exact len _ _ _ _ hs
  · obtain ⟨F, M, ds, Qd, Ed, rv, rp, hs, cq, cx⟩ := h
    refine ⟨F, M, _, _, start_ok rv, rp, hp ds M Qd Ed hs, ?_⟩
    have ls : ∀ {F' H' M'}, Nx K mg F H M F' H' M' → Nx K mg F H M F' H' (clip M M') := fun n => n.trans (Nx.less n.ok clip_less)
    refine ⟨fun F' H' M' ρ σ n rs q => cq F' H' _ .none .non (ls n) (Rp.non.mpr rfl) q, fun F' H' M' d v n r q => cq F' H' _ d v (ls n) r q, fun _ _ _ _ _ _ _ q => q.elim, fun _ _ _ _ _ _ _ q => q.elim, fun F' H' M' ρ σ x' c dd n rs rx q => cx F' H' _ x' c dd (ls n) rx q⟩
theorem pip_of {X : Cx} {op : Operator} {g : DR2} (h : OpR X (inplaceOp op) (LR2 X.K X.mg g)) : PIp X op (LR2 X.K X.mg g) := fun pins s σ H x y v u Q I r1 r2 q => h pins s σ H x y v u Q I r1 r2 q
end
/-- the built-ins' names, not taken -/
structure Blt (mg : Str → Option Value) : Prop where
  len : mg "len" = none
  range : mg "range" = none
  enumerate : mg "enumerate" = none
  zip : mg "zip" = none
  isinstance : mg "isinstance" = none
  tuple : mg "tuple" = none
  list : mg "list" = none
  int : mg "int" = none
  bool : mg "bool" = none
  str : mg "str" = none
  sum : mg "sum" = none
  any : mg "any" = none
  all : mg "all" = none
  min : mg "min" = none
  max : mg "max" = none
  sorted : mg "sorted" = none
  set : mg "set" = none
end Nb
set_option Elab.async false
set_option linter.all false
set_option maxRecDepth 100000
set_option maxHeartbeats 1000000
set_option autoImplicit false
namespace Nb
open PySem PySem.Spec PyProof.Rows L2 SrtO Srt
section
variable {prog : Program} {w : World} {A : Around} {E : Value → Shared → Prop} {s : Shared}
theorem collect_tup {l : Addr} {vs : List Value} {Q : List Value → Shared → Prop} (hl : IsTup s.heap l vs.toArray)
    (h : Q vs { s with heap := (s.heap.push (seqObj "list" #[] 0)).update s.heap.objs.size (Obj.mapSeq (· ++ vs.toArray)) }) (hsz : vs.length ≤ sizeLine) :
    wpAny (model prog w) A (collect (.ref l)) Q E s := by
  obtain ⟨o, ho, hc, n, hd⟩ := id hl
  unfold collect
  refine wpAny_bind (wpAny_runValue (codeAny_builtin entry_proto_collect' ?_))
  show wpAny _ _ (do again (.builtin "list.__iadd__" ⟨[← newList [], .ref l], []⟩)) _ _ s
  refine wpAny_bind (wpAny_newList (wpAny_pure ⟨Code.quiet_builtin _ (by decide +kernel), codeAny_builtin entry_list_iadd' ?_⟩))
  show wpAny _ _ (Builtin.List.listExtendWith (.ref s.heap.objs.size) (.ref l) (.ref s.heap.objs.size)) _ _ { s with heap := s.heap.push (seqObj "list" #[] 0) }
  unfold Builtin.List.listExtendWith
  have ho' : (s.heap.push (seqObj "list" #[] 0)).get? l = some o := Heap.get?_push_of_some _ ho
  refine wpAny_bind (wpAny_typeOf (T := "tuple") ⟨o, ho', hc⟩ ?_)
  have ht : (Value.type "tuple" == Value.type "tuple") = true := by rfl
  rw [if_pos (by rw [ht]; simp)]
  refine wpAny_bind (listItems_at ho' hd ?_)
  refine wpAny_bind (listItems_at (xs := #[]) (n := 0) (Heap.get?_push_size _ rfl) rfl ?_)
  rw [if_neg (by simp)]
  refine wpAny_bind (listUpdate_at (xs := #[]) (n := 0) (Heap.get?_push_size _ rfl) rfl ?_ (Nat.zero_le _) (by show (#[] ++ vs.toArray).size ≤ sizeLine + 1; simp only [Array.size_append, List.size_toArray, List.length_nil]; omega))
  refine wpAny_pure ?_
  show wpAny (model prog w) A (do
      let o ← load s.heap.objs.size
      match o.data with
      | .seq xs _ => pure xs.toList
      | _ => unsupported "internal:collect") Q E { s with heap := (s.heap.push (seqObj "list" #[] 0)).update s.heap.objs.size (Obj.mapSeq (· ++ vs.toArray)) }
  refine wpAny_bind (wpAny_load (get?_update_seq (Heap.get?_push_size _ rfl) _) ?_)
  show wpAny _ _ (pure ((#[] : Array Value) ++ vs.toArray).toList) Q E _
  rw [show ((#[] : Array Value) ++ vs.toArray).toList = vs by simp]
  exact wpAny_pure h
theorem sorted_ordT {l : Addr} {vs : List Value} {ltv : Value → Value → Bool} {Q : Value → Shared → Prop} (O : Swo ltv) (hl : IsTup s.heap l vs.toArray) (hz : vs.length ≤ sizeLine)
    (hS : 2 ≤ vs.length → ∀ (h₁ : Heap) (a : Addr), h₁.get? a = some (seqObj "list" vs.toArray 0) → (∀ b o, s.heap.get? b = some o → b ≠ a ∧ h₁.get? b = some o) → SortableO prog w A.in1.in1 { s with heap := h₁ } a vs ltv)
    (h : ∀ out : List Value, Srtd ltv out → Stb ltv out vs → Q (.ref (s.heap.objs.size + 1)) { s with heap := sortedAll s.heap vs out.toArray }) :
    wpAny (model prog w) A (call (.builtin "sorted") [.ref l]) Q E s := by
  refine Calls.call_function_entry kind_sorted plain_sorted entry_sorted (args_sorted1 _) ?_
  unfold Builtin.«sorted»
  refine wpAny_bind (m := checkCount "sorted" 1 1 _) (wpAny_pure ?_)
  refine wpAny_bind (collect_tup hl ?_ hz)
  refine wpAny_bind (wpAny_newList ?_ hz)
  have hsz : ((s.heap.push (seqObj "list" #[] 0)).update s.heap.objs.size (Obj.mapSeq (· ++ vs.toArray))).objs.size = s.heap.objs.size + 1 := by
    rw [Heap.size_update, size_push']
  have hoL : (((s.heap.push (seqObj "list" #[] 0)).update s.heap.objs.size (Obj.mapSeq (· ++ vs.toArray))).push (seqObj "list" vs.toArray 0)).get? (s.heap.objs.size + 1) = some (seqObj "list" vs.toArray 0) := by
    rw [← hsz]; exact Heap.get?_push_size _ rfl
  have keep : ∀ b o, s.heap.get? b = some o → b ≠ s.heap.objs.size + 1 ∧ (((s.heap.push (seqObj "list" #[] 0)).update s.heap.objs.size (Obj.mapSeq (· ++ vs.toArray))).push (seqObj "list" vs.toArray 0)).get? b = some o := fun b o q => by
    have hlt : b < s.heap.objs.size := Heap.lt_size q
    refine ⟨Nat.ne_of_lt (Nat.lt_succ_of_lt hlt), Heap.get?_push_of_some _ ?_⟩
    rw [Heap.get?_update_ne _ _ _ _ (Nat.ne_of_lt hlt)]
    exact Heap.get?_push_of_some _ q
  show wpAny _ _ _ _ _ { s with heap := ((s.heap.push (seqObj "list" #[] 0)).update s.heap.objs.size (Obj.mapSeq (· ++ vs.toArray))).push (seqObj "list" vs.toArray 0) }
  rw [hsz]
  refine wpAny_bind (wpAny_holding (wpAny_call_entry slot_list_sort ⟨_, hoL, rfl⟩ entry_list_sort (list_sort_ord O hoL hz (fun h2 => hS h2 _ _ hoL keep) fun out hs hb => ⟨_, rfl, ?_⟩) (args_list_sort _)))
  exact wpAny_pure ⟨_, rfl, h out hs hb⟩
end
def rSortedTI (K : PySem.W.Frag) : List V → Hp → VK → Prop := fun vs H Q => ∃ (a : Addr) (ns : List Int), vs = [V.ref a] ∧ SqT K H a (ns.map V.int) ∧
  ∀ (ns' : List Int) (p : Addr), ns'.Perm ns → ns'.Pairwise (· ≤ ·) → H p = none → Q (.ref p) (upd H p (.lst (ns'.map V.int)))
/-- sorted(t), a tuple of ints -/
def gSortedT : DRL := fun ds M Q => ∃ (ns : List Int), ds = [.tuple (ns.map PyData.int)] ∧ ∀ ns' : List Int, ns'.Perm ns → ns'.Pairwise (· ≤ ·) → Q (.list (ns'.map PyData.int)) M
section
variable {X : Cx}
theorem cr_sortedTI : CallR X (.builtin "sorted") (rSortedTI X.K) := by
  intro pins s σ H vs us Q I r h
  obtain ⟨a, ns, rfl, hs, q⟩ := h
  obtain ⟨its, rv, hl, hz⟩ := I.tuple hs
  rw [Vals.ref1 r]
  have hi := rv.ints
  refine sorted_ordT SrtO.swo_int hl (by rw [← rv.length]; exact hz) (fun h2 h₁ a' _ _ => SrtO.ints_sortable hi h2) fun out h1 h2 => ?_
  obtain ⟨k1, k2, k3⟩ := SrtO.ints_out hi h1 h2
  obtain ⟨ep, he'⟩ := PyProof.Rows.sortedAll_at s.heap its out.toArray
  have hlen : ((out.map SrtO.iv).map V.int).length ≤ sizeLine := by
    rw [List.length_map, k2.length_eq]
    rw [List.length_map] at hz
    exact hz
  exact ⟨.ref _, upd H (s.heap.objs.size + 1) (.lst ((out.map SrtO.iv).map V.int)), I.laid (t' := s.toks) (fun _ _ => PyProof.Rows.sortedAll_old) (Nat.le_succ _) ⟨hlen, out, ep, vals_of_ints k1, he'⟩, rfl, q _ _ k2 k3 (I.hok.fresh (Nat.le_succ _))⟩
end
end Nb
set_option Elab.async false
set_option linter.all false
set_option maxRecDepth 100000
set_option maxHeartbeats 1000000
set_option autoImplicit false
namespace Nb
open PySem PySem.Spec PyProof.Rows L2
/-! ### an object's field that holds a live list is settled: the list stays as it is from now on -/
theorem RpAll.setAt {K : PySem.W.Frag} {F : Hp} {d' : Dat} {v : V} : ∀ {ds : List Dat} {vs : List V} {i : Nat}, RpAll K F ds vs → vs[i]? = some v → Rp K F d' v → RpAll K F (ds.set i d') vs
  | [], _, _, h, _, _ => by simpa using h
  | d :: ds, [], _, h, e, _ => by simp at e
  | d :: ds, u :: vs, 0, h, e, r => by
    obtain ⟨v', t, e', h1, h2⟩ := h
    cases e'
    cases e
    exact RpAll.cons r h2
  | d :: ds, u :: vs, i + 1, h, e, r => by
    obtain ⟨v', t, e', h1, h2⟩ := h
    cases e'
    exact RpAll.cons h1 (RpAll.setAt h2 (by simpa using e) r)
section
variable {K : PySem.W.Frag} {mg : Str → Option Value} {F H : Hp} {M : Mem}
theorem Nx.settle (R : Rpr K mg H F M) {p q i : Nat} {c : Str} {L : List Str} {fs xs : List Dat} (hp : M p = some (.ins c L fs)) (hf : fs[i]? = some (rf q)) (hq : M q = some (.lst xs)) :
    ∃ F', Nx K mg F H M F' H (mup (mdel M q) p (.ins c L (fs.set i (.list xs)))) := by
  have hpq : p ≠ q := fun z => by rw [z, hq] at hp; cases hp
  obtain ⟨F', n1, r⟩ := Nx.freeze R hq
  refine ⟨F', n1.trans ?_⟩
  have hp1 : mdel M q p = some (.ins c L fs) := by rw [mdel_ne hpq]; exact hp
  obtain ⟨hFp, C, dx, vs, m, e, t, hl⟩ := n1.ok.mem p _ hp1
  obtain ⟨v, h1, h2⟩ := t.get hf
  have hv : v = .ref q := Rp.rf.mp h2
  subst hv
  refine ⟨Same.refl _, ⟨n1.ok.sub, fun a mo h => ?_⟩, fun a o h3 h4 h5 => ⟨h3, ?_, h5⟩⟩
  · by_cases ha : a = p
    · subst ha
      rw [mup_same] at h
      cases h
      exact ⟨hFp, C, dx, vs, m, e, t.setAt h1 r, by rw [List.length_set]; exact hl⟩
    · rw [mup_ne ha] at h
      exact n1.ok.mem a mo h
  · have ha : a ≠ p := fun z => by rw [z, hp1] at h4; cases h4
    rw [mup_ne ha]; exact h4
end
def dStl (c : Str) (L : List Str) (i : Nat) (a : DE) : DE := fun ρ M Q E => a ρ M (fun d M1 => ∃ p fs q xs, d = rf p ∧ M1 p = some (.ins c L fs) ∧ fs[i]? = some (rf q) ∧ M1 q = some (.lst xs) ∧ Q d (mup (mdel M1 q) p (.ins c L (fs.set i (.list xs))))) E
theorem ee_stl {X : Cx} {W : WX} {e : Expr} {fe : DE} {c : Str} {L : List Str} {i : Nat} (he : EE X W e fe) : EE X W e (dStl c L i fe) := by
  refine ⟨PE.imp he.h ?_⟩
  rintro σ H Q ⟨F, M, ρ, Qd, Ed, rs, rp, hf, cq, cx⟩
  refine ⟨F, M, ρ, _, Ed, rs, rp, hf, fun F1 H1 M1 d v n1 rv q1 => ?_, cx⟩
  obtain ⟨p, fs, q, xs, rfl, h1, h2, h3, q1⟩ := q1
  obtain ⟨F', n2⟩ := Nx.settle n1.ok h1 h2 h3
  exact cq F' H1 _ _ _ (n1.trans n2) (rv.mono n2.same) q1
end Nb
set_option Elab.async false
set_option linter.all false
set_option maxRecDepth 100000
set_option maxHeartbeats 1000000
set_option autoImplicit false
namespace Nb
open PySem PySem.Spec PyProof.Rows L2
theorem cg_sortedT {X : Cx} : CallR X (.builtin "sorted") (LRL X.K X.mg gSortedT) := by
  rintro pins s σ H xs us Q I r ⟨F, M, ds, Qd, rd, rp, ⟨ns, rfl, hg⟩, cq⟩
  obtain ⟨v, rfl, h1⟩ := rd.one
  obtain ⟨a, vs, rfl, q, t⟩ := Rp.tup.mp h1
  rw [t.ints] at q
  exact cr_sortedTI pins s σ H _ us Q I r ⟨a, ns, rfl, Same.seqT rp.sub q, fun ns' p h2 h3 hp => cq.lst rp RpAll.of_ints (hg ns' h2 h3) p hp⟩
theorem room65 {k : Nat} {A : Around} (r : Room k A) : A.units + 65 < cLine := by have := r.un; omega
/-- x not in xs, a list of anything -/
def gNotInD : DR2 := fun x y M Q => ∃ ys, vw y M = .list ys ∧ (SeqAt.shaped (vw x M) = true ∧ SeqAt.shaped (.list ys) = true) ∧ Q (.bool (!ys.any fun z => PyData.eqv z (vw x M))) M
theorem og_notInD {X : Cx} (hu : X.A.units + 65 < cLine) : OpR X (compareOp .NotIn) (LR2 X.K X.mg gNotInD) := by
  rintro pins s σ H x y v u Q I rx ry ⟨F, M, dx, dy, Qd, r1, r2, rp, ⟨ys, e, hs, hg⟩, cq⟩
  have k1 := vw_plain r1 rp hs.1
  have k2 := vw_plain r2 rp (by rw [e]; exact hs.2)
  rw [e] at k2
  exact op_notInD hu pins s σ H _ _ v u Q I rx ry ⟨vw dx M, ys, k1, k2, hs.1, hs.2, cq.now rp (Rp.bl.mpr rfl) hg⟩
end Nb
set_option Elab.async false
set_option linter.all false
set_option maxRecDepth 100000
set_option maxHeartbeats 1000000
set_option autoImplicit false
namespace Nb
open PySem PySem.Spec PyProof.Rows L2

/-! ### what the top has left, fact by fact -/
section
variable {K : PySem.W.Frag} {h : Heap} {mg : Str → Option Value} {x qual c m : Str} {st : Stmt} {f C : Addr} {oc : Value} {od an : Option Addr} {osl : Array (Option Value)} {kV doc pm cdv ct : Value} {ps L : List Str}
/-- the parameters bind as they come -/
def BindOk (x qual : Str) (st : Stmt) (ps : List Str) : Prop := ∀ (kV doc pm : Value) (an : Option Addr) (cdv ct : Value) (us : List Value), us.length = ps.length → bindArgs (PySem.W.fnOf x qual (defArgs st) (defBody st) (defScope st) .none kV doc pm an cdv ct) ⟨us, []⟩ = pure (ps.zip us)
theorem funAt_mk (X : K.In h) (G : h.Ns mainGlobals mg) (b : BindOk x x st ps) (a : PySem.W.nsIn K mainGlobals x = some (some (.ref f))) (l : K.lookup f = some ⟨oc, od, .func (PySem.W.fnOf x x (defArgs st) (defBody st) (defScope st) .none kV doc pm an cdv ct), osl⟩)
    (c : PySem.W.codeIn K cdv x = true) (k : PySem.W.keepIn K (.ref f) = true) : FunAt K mg x st ps := ⟨f, _, PySem.W.mg_of X G a, fun_mk l c k, (fun_mk l c k).binds b⟩
structure MethF (K : PySem.W.Frag) (C : Addr) (m qual : Str) (st : Stmt) (ps : List Str) : Prop where
  ex : ∃ f fd, Meth K C m f ∧ Fun K m qual st f fd ∧ Binds K fd ps []
theorem methF_mk (b : BindOk m qual st ps) (a : PySem.W.findIn K (.ref C) m = some (some (.ref f))) (i : PySem.W.isFn K (.ref f) = true) (l : K.lookup f = some ⟨oc, od, .func (PySem.W.fnOf m qual (defArgs st) (defBody st) (defScope st) .none kV doc pm an cdv ct), osl⟩)
    (c : PySem.W.codeIn K cdv qual = true) (k : PySem.W.keepIn K (.ref f) = true) : MethF K C m qual st ps := ⟨f, _, ⟨a, i, k⟩, fun_mk l c k, (fun_mk l c k).binds b⟩
structure MakeF (K : PySem.W.Frag) (C : Addr) (qual : Str) (st : Stmt) (ps : List Str) : Prop where
  ex : ∃ f fd, Mk K C f ∧ Fun K "__init__" qual st f fd ∧ Binds K fd ps []
theorem makeF_mk (b : BindOk "__init__" qual st ps) (a : PySem.W.findIn K (.ref C) "__init__" = some (some (.ref f))) (i : PySem.W.isFn K (.ref f) = true) (l : K.lookup f = some ⟨oc, od, .func (PySem.W.fnOf "__init__" qual (defArgs st) (defBody st) (defScope st) .none kV doc pm an cdv ct), osl⟩)
    (c : PySem.W.codeIn K cdv qual = true) (k : PySem.W.keepIn K (.ref f) = true) (mk : PySem.W.makesIn K C = true) (kc : PySem.W.keepIn K (.ref C) = true) : MakeF K C qual st ps := ⟨f, _, ⟨mk, a, i, kc⟩, fun_mk l c k, (fun_mk l c k).binds b⟩
theorem clsT_mk (X : K.In h) (G : h.Ns mainGlobals mg) (a : PySem.W.nsIn K mainGlobals c = some (some (.ref C))) (nd : L.Nodup) (few : L.length < 1000) (no : ∀ f ∈ L, NoAttr K C f) (pg : PySem.W.plainGet K C Str.empty = true) (hd : PySem.W.hasDictIn K C = true) (po : PySem.W.plainOver K C = true)
    (sa : PySem.W.findIn K (.ref C) "__setattr__" = some (some (.builtin "object.__setattr__"))) : ClsT K mg c L C := ⟨⟨pg, hd, po, sa⟩, PySem.W.mg_of X G a, no, nd, few⟩
theorem ClsT.has (T : ClsT K mg c L C) : HasCls K mg c L := ⟨C, T⟩
theorem ClsT.meth (T : ClsT K mg c L C) (m' : MethF K C m qual st ps) : MethAt K mg c L m qual st ps := by
  obtain ⟨f, fd, h1, h2, h3⟩ := m'.ex
  exact ⟨C, f, fd, T, h1, h2, h3⟩
theorem ClsT.make (T : ClsT K mg c L C) (m' : MakeF K C qual st ps) : MakeAt K mg c L qual st ps := by
  obtain ⟨f, fd, h1, h2, h3⟩ := m'.ex
  exact ⟨C, f, fd, T, h1, h2, h3⟩
theorem con_int (X : K.In h) (G : h.Ns mainGlobals mg) {i : Int} {t : Tok} (a : PySem.W.nsIn K mainGlobals x = some (some (.int i t))) : ∃ t, mg x = some (.int i t) := ⟨t, PySem.W.mg_of X G a⟩
theorem con_str (X : K.In h) (G : h.Ns mainGlobals mg) {i : Str} {t : Tok} (a : PySem.W.nsIn K mainGlobals x = some (some (.str i t))) : ∃ t, mg x = some (.str i t) := ⟨t, PySem.W.mg_of X G a⟩
theorem no_name (X : K.In h) (G : h.Ns mainGlobals mg) (a : PySem.W.nsIn K mainGlobals x = some none) : mg x = none := PySem.W.mg_none_of X G a
end
/-! ### the end -/
def spTop (s : DSp) (K : PySem.W.Frag) : Sp := fun vs H Q E => ∀ mg : Str → Option Value, LSp K mg s vs H Q E
theorem law_end {P : Program} {w : World} {K : PySem.W.Frag} {h : Heap} {mg : Str → Option Value} {fa f : Addr} {x : Str} {st : Stmt} {p : Str} {k : Nat} {s : DSp} {oc : Value} {od an : Option Addr} {osl : Array (Option Value)} {kV doc pm cdv ct : Value} (X : K.In h) (G : h.Ns mainGlobals mg) (hfa : mg x = some (.ref fa)) (b : BindOk x x st [p])
    (a : PySem.W.nsIn K mainGlobals x = some (some (.ref f))) (l : K.lookup f = some ⟨oc, od, .func (PySem.W.fnOf x x (defArgs st) (defBody st) (defScope st) .none kV doc pm an cdv ct), osl⟩)
    (c : PySem.W.codeIn K cdv x = true) (kp : PySem.W.keepIn K (.ref f) = true) (ok : ∀ (base : Heap) (f : Addr) (fd : FuncData), Fun K x x st f fd → FnOk P w K mg base (L2.CX P w) k f fd [p] (LSp K mg s)) :
    ∃ fd : FuncData, (∀ (s : Shared) (u : Value), BindsTo s fd ⟨[u], []⟩ [(p, u)]) ∧ ∀ base : Heap, K.In base → base.Ns mainGlobals mg → FnOk P w K mg base (L2.CX P w) k fa fd [p] (spTop s K) := by
  have e := hfa.symm.trans (PySem.W.mg_of X G a)
  cases e
  exact ⟨_, fun s u => .of_eq (b _ _ _ _ _ _ [u] rfl), fun base _ _ => (ok base _ _ (fun_mk l c kp)).imp fun vs H Q E q => q mg⟩
theorem walk_law {l : PySem.W.OpenLaw} {k : Nat} {q : Program} {loose : List Str} {XP : (Str → Option Value) → Heap → Prop} {YP : World → Heap → Prop} {d : DefRec} {K : Params → PySem.W.Frag} {p : Str} {s : DSp}
    (hs : ∀ (ns : List Int) (M : Mem) (Q : DQ) (E : XQ), ns.length ≤ 63 → (∀ M', Q (.bool true) M') → s [.list (ns.map PyData.int)] M Q E) (hn : l.most = some 63) (hdf : d.params.defaults = []) (hr : Room k callerA)
    (hY : ∀ (w : World) (h : Heap), YP w h → (K w.params).In h)
    (F : ∀ (w : World) (mg : Str → Option Value) (fa : Addr) (h : Heap), (K w.params).In h → h.Ns mainGlobals mg → mg d.name = some (.ref fa) →
      ∃ fd : FuncData, (∀ (s : Shared) (u : Value), BindsTo s fd ⟨[u], []⟩ [(p, u)]) ∧ ∀ base : Heap, (K w.params).In base → base.Ns mainGlobals mg → FnOk l.prog w (K w.params) mg base (L2.CX l.prog w) k fa fd [p] (spTop s (K w.params))) :
    PySem.W.WalkO q loose XP YP l.row.toRowW d [] (fun f vs => PySem.call f vs) :=
  L2.walk_of (n := 63) (k := k) (x := p) (CX := fun w => L2.CX l.prog w) (sp := fun w => spTop s (K w.params)) hn (by decide) hdf hr hY F
    (fun w H a ns hl _ hS mg => ⟨H, fun _ => none, [.list (ns.map PyData.int)], fun d _ => d = .bool true, fun _ _ => False, .cons (Rp.lst.mpr ⟨a, _, rfl, hS, RpAll.of_ints⟩) .nil, ⟨Same.refl _, fun a mo e => by cases e⟩, hs ns _ _ _ hl (fun _ => rfl),
      fun F' H' M' d v n r e => by subst e; exact Rp.bl.mp r, fun _ _ _ _ _ _ _ _ z => z.elim⟩)
    (fun w H s e s' z => by
      obtain ⟨_, _, _, _, _, _, _, _, _, _, _, _, z⟩ := z
      exact z)
end Nb
set_option Elab.async false
set_option linter.all false
set_option maxRecDepth 100000
set_option maxHeartbeats 2000000
set_option autoImplicit false
namespace Nb
open PySem PySem.Spec PyProof.Rows L2 SrtO Srt PySem.W
/-- two pairs are not the wrong way round -/
abbrev PwB (g : V → Int × Int) (ys : List V) : Prop := ys.Pairwise fun x y => lexB (g y) (g x) = false
theorem isPair_inj {h : Heap} {v : Value} {a b c d : Int} (p : IsPair h v a b) (q : IsPair h v c d) : a = c ∧ b = d := by
  obtain ⟨x, o, t, u, n, rfl, ho, hc, hd⟩ := p
  obtain ⟨x', o', t', u', n', e, ho', hc', hd'⟩ := q
  cases e
  rw [ho] at ho'
  cases ho'
  rw [hd] at hd'
  cases hd'
  exact ⟨rfl, rfl⟩
open Classical in
/-- the pair that a value is -/
noncomputable def prOf (h : Heap) (v : Value) : Int × Int := if q : ∃ p : Int × Int, IsPair h v p.1 p.2 then q.choose else (0, 0)
theorem prOf_eq {h : Heap} {v : Value} {p : Int × Int} (q : IsPair h v p.1 p.2) : prOf h v = p := by
  have ex : ∃ p : Int × Int, IsPair h v p.1 p.2 := ⟨p, q⟩
  unfold prOf
  rw [dif_pos ex]
  obtain ⟨a, b⟩ := isPair_inj ex.choose_spec q
  exact Prod.ext a b
/-- the sorted pairs as abstract values -/
theorem key_lift {xs : List V} {ks vs : List Value} {ps : List (Value × Value)} {k : Value → Int × Int} {g : V → Int × Int} (rv : Vals xs vs) (hl : ks.length = vs.length)
    (hr : ∀ (j : Nat) (x : V) (u : Value), xs[j]? = some x → ks[j]? = some u → k u = g x) (hp : ps.Perm (ks.zip vs)) (hs : Srtd (lt2 fun v u => lexB (k v) (k u)) ps) :
    ∃ ys : List V, Vals ys (ps.map Prod.snd) ∧ ys.Perm xs ∧ PwB g ys := by
  have l1 : xs.length = vs.length := rv.length
  have lz : (ks.zip vs).length = vs.length := by rw [List.length_zip, hl, Nat.min_self]
  have m2 : (xs.zip (ks.zip vs)).map Prod.snd = ks.zip vs := List.map_snd_zip (by rw [lz, l1]; exact Nat.le_refl _)
  have m1 : (xs.zip (ks.zip vs)).map Prod.fst = xs := List.map_fst_zip (by rw [lz, l1]; exact Nat.le_refl _)
  obtain ⟨zs, p, q⟩ := perm_lift Prod.snd hp _ m2
  have all : ∀ z ∈ zs, RelV z.1 z.2.2 ∧ k z.2.1 = g z.1 := by
    intro z hz
    obtain ⟨j, hj⟩ := List.mem_iff_getElem?.mp (p.mem_iff.mp hz)
    obtain ⟨h1, h2⟩ := List.getElem?_zip_eq_some.mp hj
    obtain ⟨h3, h4⟩ := List.getElem?_zip_eq_some.mp h2
    obtain ⟨u, h5, h6⟩ := rv.get h1
    have e : u = z.2.2 := Option.some.inj (h5.symm.trans h4)
    rw [e] at h6
    exact ⟨h6, hr j _ _ h1 h3⟩
  refine ⟨zs.map Prod.fst, ?_, ?_, ?_⟩
  · have e : ps.map Prod.snd = zs.map fun z => z.2.2 := by rw [← q, List.map_map]; rfl
    rw [e]
    exact vals_maps Prod.fst (fun z => z.2.2) zs fun z hz => (all z hz).1
  · have h := p.map Prod.fst
    rw [m1] at h
    exact h
  · have hs' : (zs.map Prod.snd).Pairwise (fun x y => lexB (k y.1) (k x.1) = false) := by rw [q]; exact hs
    rw [List.pairwise_map] at hs'
    show (zs.map Prod.fst).Pairwise _
    rw [List.pairwise_map]
    refine List.Pairwise.imp_of_mem (fun {x y} hx hy h => ?_) hs'
    have h' : lexB (k y.2.1) (k x.2.1) = false := h
    rw [(all x hx).2, (all y hy).2] at h'
    exact h'
theorem Vals.snoc {xs : List V} {vs : List Value} (h : Vals xs vs) {x : V} {v : Value} (r : RelV x v) : Vals (xs ++ [x]) (vs ++ [v]) := by
  induction h with
  | nil => exact .cons r .nil
  | cons a _ ih => exact .cons a ih
section
variable {X : Cx} {pins : List (Addr × Obj)} {σ : L2.St} {H : Hp} {s : Shared}
theorem pin_add {b : Addr} {o : Obj} {pins' : List (Addr × Obj)} (I : Inv X pins' σ H s) (ho : s.heap.get? b = some o) (hn : H b = none) (h1 : b ≠ X.env.locals) (h2 : b ∉ X.fs) (h3 : ∀ v, o.data ≠ .cell v) : Inv X ((b, o) :: pins') σ H s :=
  I.pins_of fun p hp => by
    rcases List.mem_cons.mp hp with rfl | hp
    · exact ⟨ho, hn, h1, h2, h3⟩
    · exact I.pin p (List.mem_append_right _ hp)
theorem pin_drop {q : Addr × Obj} {pins' : List (Addr × Obj)} (I : Inv X (q :: pins') σ H s) : Inv X pins' σ H s := I.pins_of fun p hp => I.pin p (List.mem_append_right _ (List.mem_cons_of_mem _ hp))
theorem seq_nocell {c : String} {vs : Array Value} {n : Nat} : ∀ v, (seqObj c vs n).data ≠ .cell v := fun v z => by cases z
/-- sorted(l, key=f): the turns' promises -/
theorem sorted_key {l f : Addr} {xs : List V} {Q : VK} {g : V → Int × Int} (St : Nat → Hp → List V → Prop) (I : Inv X pins σ H s) (hs : SqL X.K H l xs) (h0 : St 0 H [])
    (turn : ∀ (i : Nat) (x : V) (u : Value) (s' : Shared) (H' : Hp) (kvs : List V) (pins' : List (Addr × Obj)), Inv X pins' σ H' s' → xs[i]? = some x → RelV x u → St i H' kvs →
      wpAny (model X.prog X.w) X.A.in1.in1 (PySem.call (.ref f) [u]) (EP X pins' σ fun v H'' => St (i + 1) H'' (kvs ++ [v])) (fun _ _ => False) s')
    (done : ∀ (H' : Hp) (kvs : List V), St xs.length H' kvs → (∀ (j : Nat) (x v : V), xs[j]? = some x → kvs[j]? = some v → ∃ t, v = .ref t ∧ SqT X.K H' t [.int (g x).1, .int (g x).2]) ∧
      ∀ (ys : List V) (p : Addr), ys.Perm xs → PwB g ys → H' p = none → Q (.ref p) (upd H' p (.lst ys))) :
    wpAny (model X.prog X.w) X.A (PySem.call (.builtin "sorted") [.ref l] [(Str.ofString "key", .ref f)]) (EP X pins σ Q) X.xe s := by
  obtain ⟨its, rv, hl, hz⟩ := I.list hs
  have lv : xs.length = its.length := rv.length
  have hz' : its.length ≤ sizeLine := by rw [← lv]; exact hz
  refine call_function_entry_kw kind_sorted plain_sorted entry_sorted (ksk_s1 _ _) ?_
  unfold Builtin.«sorted»
  refine wpAny_bind (m := checkCount "sorted" 1 1 _) (wpAny_pure ?_)
  refine wpAny_bind (collect_list hl.isList ?_ hz')
  refine wpAny_bind (wpAny_newList ?_ hz')
  have hsz : ((s.heap.push (seqObj "list" #[] 0)).update s.heap.objs.size (Obj.mapSeq (· ++ its.toArray))).objs.size = s.heap.objs.size + 1 := by
    rw [Heap.size_update, size_push']
  have hoL : (((s.heap.push (seqObj "list" #[] 0)).update s.heap.objs.size (Obj.mapSeq (· ++ its.toArray))).push (seqObj "list" its.toArray 0)).get? (s.heap.objs.size + 1) = some (seqObj "list" its.toArray 0) := by
    rw [← hsz]; exact Heap.get?_push_size _ rfl
  have keep : ∀ b o, s.heap.get? b = some o → (((s.heap.push (seqObj "list" #[] 0)).update s.heap.objs.size (Obj.mapSeq (· ++ its.toArray))).push (seqObj "list" its.toArray 0)).get? b = some o := fun b o q => by
    have hlt : b < s.heap.objs.size := Heap.lt_size q
    refine Heap.get?_push_of_some _ ?_
    rw [Heap.get?_update_ne _ _ _ _ (Nat.ne_of_lt hlt)]
    exact Heap.get?_push_of_some _ q
  show wpAny _ _ _ _ _ { s with heap := ((s.heap.push (seqObj "list" #[] 0)).update s.heap.objs.size (Obj.mapSeq (· ++ its.toArray))).push (seqObj "list" its.toArray 0) }
  rw [hsz]
  generalize hh1 : ((s.heap.push (seqObj "list" #[] 0)).update s.heap.objs.size (Obj.mapSeq (· ++ its.toArray))).push (seqObj "list" its.toArray 0) = h1 at hoL keep ⊢
  have I1 : Inv X pins σ H { s with heap := h1 } := I.kept (t' := s.toks) keep
  generalize haa : s.heap.objs.size + 1 = a at hoL ⊢
  have fa : FpOk X pins H a := I.fpOk (by omega) (I.hok.fresh (by omega))
  obtain ⟨na, aL, afs, aex, acl, apn⟩ := id fa
  refine wpAny_bind (wpAny_holding (wpAny_call_entry_kw slot_list_sort ⟨_, hoL, rfl⟩ entry_list_sort ?body (ksk_l1 _ _)))
  case body =>
    rw [ksk_t1]
    have ha : a < h1.objs.size := Heap.lt_size hoL
    unfold ksk_tree
    refine wpAny_bind (listItems_at hoL rfl ?_)
    refine wpAny_bind (listUpdate_at hoL rfl ?_ (by rw [List.size_toArray]; exact hz') (Nat.zero_le _))
    obtain ⟨e1, ho1⟩ : ∃ e1, (h1.update a (Obj.mapSeq fun _ => (#[] : Array Value))).get? a = some (seqObj "list" #[] e1) := ⟨_, get?_update_seq hoL (fun _ => #[])⟩
    refine wpAny_bind (seqEpoch_at ho1 rfl ?_)
    refine wpAny_bind (wpAny_newTuple ?_ (by show its.length ≤ _; exact hz'))
    refine wpAny_bind (wpAny_newList ?_ (Nat.zero_le _))
    refine wpAny_holding ?_
    generalize hh2 : h1.update a (Obj.mapSeq fun _ => (#[] : Array Value)) = h2 at ho1 ⊢
    have I2 : Inv X pins σ H { s with heap := h2 } := Inv.turned (s := { s with heap := h1 }) (t' := s.toks) (it := a) (h' := h2) I1 (fun b o hb e => by rw [← hh2]; exact (Heap.get?_update_ne _ _ _ _ hb).trans e) na aL aex acl apn
    have fk : FpOk X pins H (h2.objs.size + 1) := I2.fpOk (by show h2.objs.size ≤ _; omega) (I2.hok.fresh (by show h2.objs.size ≤ _; omega))
    obtain ⟨nk, kL, kfs, kex, kcl, kpn⟩ := id fk
    have hka : h2.objs.size + 1 ≠ a := Nat.ne_of_gt (Nat.lt_succ_of_lt (Heap.lt_size ho1))
    have hk3 : ((h2.push (seqObj "tuple" its.toArray 0)).push (seqObj "list" #[] 0)).get? (h2.objs.size + 1) = some (seqObj "list" #[] 0) := by
      rw [← size_push' h2 (seqObj "tuple" its.toArray 0)]; exact Heap.get?_push_size _ rfl
    have ho3 : ((h2.push (seqObj "tuple" its.toArray 0)).push (seqObj "list" #[] 0)).get? a = some (seqObj "list" #[] e1) := Heap.get?_push_of_some _ (Heap.get?_push_of_some _ ho1)
    have I3 : Inv X pins σ H { s with heap := (h2.push (seqObj "tuple" its.toArray 0)).push (seqObj "list" #[] 0) } := I2.kept (t' := s.toks) fun b o e => Heap.get?_push_of_some _ (Heap.get?_push_of_some _ e)
    show wpAny _ _ (ksk_rest a (.ref f) false its.toArray e1 (.ref (h2.push (seqObj "tuple" its.toArray 0)).objs.size)) _ _ { s with heap := (h2.push (seqObj "tuple" its.toArray 0)).push (seqObj "list" #[] 0) }
    rw [size_push']
    generalize h2.objs.size + 1 = kS at nk kL kfs kex kcl kpn hka hk3 ⊢
    generalize (h2.push (seqObj "tuple" its.toArray 0)).push (seqObj "list" #[] 0) = h3 at hk3 ho3 I3 ⊢
    clear hh1 hh2 haa hoL ho1 I1 I2 keep hsz
    have P0 : Inv X ((kS, seqObj "list" #[] 0) :: (a, seqObj "list" #[] e1) :: pins) σ H { s with heap := h3 } := pin_add (pin_add I3 ho3 na aL afs seq_nocell) hk3 nk kL kfs seq_nocell
    -- after the turns
    have fin : ∀ (s4 : Shared) (H' : Hp) (kvs : List V) (kA : Array Value) (e : Nat), Inv X ((kS, seqObj "list" kA e) :: (a, seqObj "list" #[] e1) :: pins) σ H' s4 → Vals kvs kA.toList → St xs.length H' kvs → kvs.length = xs.length →
        wpAny (model X.prog X.w) X.A.in1.in1 (ksk_end a false its.toArray e1 (.ref kS) kA) (fun fin s' => ∃ v, fin = .done (.ret v) ∧ wpAny (model X.prog X.w) X.A.in1 (pure (PySem.Fin.done (.ret (.ref a)))) (fun fin s' => ∃ v, fin = .done (.ret v) ∧ EP X pins σ Q v s') X.xe s') X.xe s4 := by
      intro s4 H' kvs kA e J rk hSt hlen
      obtain ⟨hpair, hdone⟩ := done H' kvs hSt
      have pk := J.pin _ (List.mem_append_right _ (.head _))
      have pa := J.pin _ (List.mem_append_right _ (.tail _ (.head _)))
      have hkl : kA.toList.length = its.length := by rw [← rk.length, hlen, lv]
      have hks : kA.size = its.length := by rw [← Array.length_toList]; exact hkl
      have hzl : (kA.zip its.toArray).toList = kA.toList.zip its := by simp
      have hP : ∀ (j : Nat) (x : V) (u : Value), xs[j]? = some x → kA.toList[j]? = some u → IsPair s4.heap u (g x).1 (g x).2 := fun j x u hx hu => by
        obtain ⟨v, hv⟩ : ∃ v, kvs[j]? = some v := ⟨kvs[j]'(by rw [hlen]; exact (List.getElem?_eq_some_iff.mp hx).1), by simp⟩
        obtain ⟨u', hu', r⟩ := rk.get hv
        rw [hu] at hu'
        cases hu'
        obtain ⟨t, rfl, q⟩ := hpair j x v hx hv
        obtain rfl : u = Value.ref t := r
        obtain ⟨ts, rt, ⟨o, ho, hc, n, hd⟩, _⟩ := J.tuple q
        obtain ⟨u1, u2, rfl, ri, rj⟩ := vals2 rt
        obtain ⟨t1, rfl⟩ := ri
        obtain ⟨t2, rfl⟩ := rj
        exact ⟨t, o, t1, t2, n, rfl, ho, hc, hd⟩
      have hx : ∀ (j : Nat) (u : Value), kA.toList[j]? = some u → ∃ x, xs[j]? = some x := fun j u hu => ⟨xs[j]'(by rw [lv, ← hkl]; exact (List.getElem?_eq_some_iff.mp hu).1), by simp⟩
      have hk : ∀ (j : Nat) (x : V) (u : Value), xs[j]? = some x → kA.toList[j]? = some u → prOf s4.heap u = g x := fun j x u h1 h2 => prOf_eq (hP j x u h1 h2)
      have tailP : ∀ st : SortSt, Srtd (lt2 fun v u => lexB (prOf s4.heap v) (prOf s4.heap u)) (arrOf st).toList → (arrOf st).toList.Perm (kA.zip its.toArray).toList → failedOf st = none →
          wpAny (model X.prog X.w) X.A.in1.in1 (ksk_tail a false e1 (.ref kS) st) (fun fin s' => ∃ v, fin = .done (.ret v) ∧ wpAny (model X.prog X.w) X.A.in1 (pure (PySem.Fin.done (.ret (.ref a)))) (fun fin s' => ∃ v, fin = .done (.ret v) ∧ EP X pins σ Q v s') X.xe s') X.xe s4 := by
        intro st hsr hpm hfl
        rw [hzl] at hpm
        obtain ⟨ys, ry, py, oy⟩ := key_lift rv hkl hk hpm hsr
        have hsz2 : ((arrOf st).map (·.2)).size = its.length := by
          have := hpm.length_eq
          rw [List.length_zip, hkl, Nat.min_self] at this
          rw [Array.size_map, ← Array.length_toList]
          exact this
        have sk := Heap.SameBut.update s4.heap kS (Obj.mapSeq fun _ => (#[] : Array Value))
        have na1 : (s4.heap.update kS (Obj.mapSeq fun _ => (#[] : Array Value))).get? a = some (seqObj "list" #[] e1) := (sk.2 a hka.symm).trans pa.1
        unfold ksk_tail
        try dsimp only
        refine wpAny_bind (listUpdate_at pk.1 rfl ?_ (by rw [hks]; exact hz') (Nat.zero_le _))
        refine wpAny_bind (wpAny_letGo ?_)
        refine wpAny_bind (seqEpoch_at na1 rfl ?_)
        refine wpAny_bind (listUpdate_at na1 rfl ?_ (Nat.zero_le _) (by simp only [Bool.false_eq_true, if_false]; rw [hsz2]; omega))
        rw [hfl]
        simp only [bne_self_eq_false, Bool.false_eq_true, if_false]
        refine wpAny_pure ⟨_, rfl, wpAny_pure ⟨_, rfl, ?_⟩⟩
        obtain ⟨c2, hc2⟩ : ∃ c2, ((s4.heap.update kS (Obj.mapSeq fun _ => (#[] : Array Value))).update a (Obj.mapSeq fun _ => (arrOf st).map (·.2))).get? a = some (seqObj "list" ((arrOf st).map (·.2)) c2) := ⟨_, get?_update_seq na1 fun _ => (arrOf st).map (·.2)⟩
        have J1 : Inv X pins σ H' s4 := pin_drop (pin_drop J)
        have J2 : Inv X pins σ H' { s4 with heap := s4.heap.update kS (Obj.mapSeq fun _ => (#[] : Array Value)) } :=
          Inv.turned (s := s4) (t' := s4.toks) (it := kS) (h' := s4.heap.update kS (Obj.mapSeq fun _ => (#[] : Array Value))) J1 (fun b o hb e => (sk.2 b hb).trans e) pk.2.1 kL kex kcl kpn
        have sa := Heap.SameBut.update (s4.heap.update kS (Obj.mapSeq fun _ => (#[] : Array Value))) a (Obj.mapSeq fun _ => (arrOf st).map (·.2))
        have eo : (arrOf st).toList.map Prod.snd = ((arrOf st).map (·.2)).toList := by rw [Array.toList_map]
        rw [eo] at ry
        refine ⟨.ref a, upd H' a (.lst ys), Inv.take (s := { s4 with heap := s4.heap.update kS (Obj.mapSeq fun _ => (#[] : Array Value)) }) (t' := s4.toks) (it := a) (o := .lst ys) J2 (fun b ob hb e => (sa.2 b hb).trans e) ⟨pa.2.1, aL, afs, aex, acl, apn⟩ ?_, rfl, hdone ys a py oy pa.2.1⟩
        exact ⟨by rw [py.length_eq]; exact hz, ((arrOf st).map (·.2)).toList, c2, ry, by rw [Array.toArray_toList]; exact hc2⟩
      unfold ksk_end
      try dsimp only
      simp only [Bool.false_eq_true, if_false]
      by_cases h2 : its.toArray.size < 2
      · rw [if_pos h2, if_pos h2]
        refine wpAny_bind (wpAny_pure ?_)
        rw [StateT.run_pure]
        refine wpAny_bind (wpAny_pure ?_)
        try dsimp only
        refine tailP (SortSt.mk' general' (kA.zip its.toArray) #[] 7 none) ?_ (List.Perm.refl _) rfl
        show Srtd _ (kA.zip its.toArray).toList
        have hl2 : (kA.zip its.toArray).toList.length < 2 := by
          rw [hzl, List.length_zip, hkl, Nat.min_self]
          simpa using h2
        match (kA.zip its.toArray).toList, hl2 with
        | [], _ => exact List.Pairwise.nil
        | [v], _ => exact List.pairwise_singleton _ _
        | _ :: _ :: l, h => exact absurd h (by rw [List.length_cons, List.length_cons]; omega)
      · rw [if_neg h2, if_neg h2]
        have h2' : 2 ≤ its.length := by simpa using h2
        have hall : ∀ v ∈ kA.toList, IsPair s4.heap v (prOf s4.heap v).1 (prOf s4.heap v).2 := fun v hv => by
          obtain ⟨j, hj⟩ := List.mem_iff_getElem?.mp hv
          obtain ⟨x, hx⟩ := hx j v hj
          rw [hk j x v hx hj]
          exact hP j x v hx hj
        obtain ⟨κ, hkind, hT⟩ := pairs_sortableO (prog := X.prog) (w := X.w) (A := X.A.in1.in1) (s := s4) (a := kS) (vs := kA.toList) (k := prOf s4.heap) (by omega) hall (fun o e => by
          rw [pk.1] at e
          cases e
          exact fun z => by
            injection z with z3
            exact absurd z3 (by decide)) s4.heap (fun b o _ e => e)
        rw [Array.toArray_toList] at hkind
        refine wpAny_bind (hkind _ _ ?_)
        have hall2 : AllL (fun p : Keyed => p.1 ∈ kA.toList) (kA.zip its.toArray).toList := fun p hm => by
          rw [hzl] at hm
          exact (List.of_mem_zip hm).1
        refine wpAny_bind (wpAny_mono (wpS_sortO (st0 := SortSt.mk' κ (kA.zip its.toArray) #[] 7 none)
          (Q := fun _ st' => Srtd (lt2 fun v u => lexB (prOf s4.heap v) (prOf s4.heap u)) (arrOf st').toList ∧ Stb (lt2 fun v u => lexB (prOf s4.heap v) (prOf s4.heap u)) (arrOf st').toList (kA.zip its.toArray).toList ∧ failedOf st' = none) (swo2 (swo_lex (prOf s4.heap))) hT rfl hall2 rfl rfl fun st' a1 a2 a3 => ⟨a1, a2, a3⟩) ?_ fun _ _ e => e)
        rintro ⟨⟨⟩, st'⟩ s' ⟨rfl, hp1, hp2, hf⟩
        try dsimp only
        exact tailP st' hp1 hp2.perm hf
    unfold ksk_rest
    refine wpAny_bind (wpAny_rule ?_)
    first
      | rw [List.forIn_toArray]
      | (rw [← Array.forIn_toList]; simp only [List.toList_toArray])
      | rw [← Array.forIn_toList]
    refine wpAny_bind (ksk_fold (fun i s' => ∃ (H' : Hp) (kvs : List V) (kA : Array Value) (e : Nat), Inv X ((kS, seqObj "list" kA e) :: (a, seqObj "list" #[] e1) :: pins) σ H' s' ∧ Vals kvs kA.toList ∧ kvs.length = i ∧ St i H' kvs) its 0 _
      ⟨H, [], #[], 0, P0, .nil, rfl, h0⟩ ?step ?done)
    case step =>
      rintro j u s' hu ⟨H', kvs, kA, e, J, rk, hlen, hSt⟩
      simp only [Nat.zero_add] at hlen hSt ⊢
      obtain ⟨x, hx⟩ : ∃ x, xs[j]? = some x := ⟨xs[j]'(by rw [lv]; exact (List.getElem?_eq_some_iff.mp hu).1), by simp⟩
      obtain ⟨u', hu', r⟩ := rv.get hx
      rw [hu] at hu'
      cases hu'
      refine wpAny_bind (wpAny_attempt (wpAny_mono (turn j x u s' H' kvs _ J hx r hSt) (fun v s'' he => ?_) fun _ _ hF => hF.elim))
      obtain ⟨y, H'', J2, ry, hS2⟩ := he
      try dsimp only
      have pk := J2.pin _ (List.mem_append_right _ (.head _))
      have pa := J2.pin _ (List.mem_append_right _ (.tail _ (.head _)))
      have hks : kA.size = j := by rw [← Array.length_toList, ← rk.length, hlen]
      have hjl : j < its.length := (List.getElem?_eq_some_iff.mp hu).1
      have sk := Heap.SameBut.update s''.heap kS (Obj.mapSeq (·.push v))
      obtain ⟨c2, hc2⟩ : ∃ c2, (s''.heap.update kS (Obj.mapSeq (·.push v))).get? kS = some (seqObj "list" (kA.push v) c2) := ⟨_, get?_update_seq pk.1 (·.push v)⟩
      refine wpAny_bind (listUpdate_at pk.1 rfl ?_ (by rw [hks]; omega) (by rw [Array.size_push]; omega))
      have J3 : Inv X ((a, seqObj "list" #[] e1) :: pins) σ H'' s'' := pin_drop J2
      have J4 : Inv X ((a, seqObj "list" #[] e1) :: pins) σ H'' { s'' with heap := s''.heap.update kS (Obj.mapSeq (·.push v)) } :=
        Inv.turned (s := s'') (t' := s''.toks) (it := kS) (h' := s''.heap.update kS (Obj.mapSeq (·.push v))) J3 (fun b o hb e => (sk.2 b hb).trans e) pk.2.1 kL kex kcl (fun p hp => by
          rcases List.mem_append.mp hp with hp | hp
          · exact kpn p (List.mem_append_left _ hp)
          · rcases List.mem_cons.mp hp with rfl | hp
            · exact hka.symm
            · exact kpn p (List.mem_append_right _ hp))
      refine wpAny_pure ⟨rfl, H'', kvs ++ [y], kA.push v, c2, pin_add J4 hc2 pk.2.1 kL kfs seq_nocell, ?_, by rw [List.length_append, hlen]; rfl, hS2⟩
      rw [Array.toList_push]
      exact Vals.snoc rk ry
    case done =>
      rintro s' ⟨H', kvs, kA, e, J, rk, hlen, hSt⟩
      have pk := J.pin _ (List.mem_append_right _ (.head _))
      try dsimp only
      refine wpAny_bind (listItems_at pk.1 rfl ?_)
      rw [Nat.zero_add, ← lv] at hlen hSt
      exact fin s' H' kvs kA e J rk hSt hlen
end
end Nb
set_option Elab.async false
set_option linter.all false
set_option maxRecDepth 100000
set_option maxHeartbeats 2000000
set_option autoImplicit false
namespace Nb
open PySem PySem.Spec PyProof.Rows L2 LamX NdefX

/-! ### a lambda's object -/
/-- the object at f is the lambda F with the body b -/
def LmO (f : Addr) (F : NF) (b : Expr) : HO := .ext fun h => ∃ (od : Option Addr) (sl : Array (Option Value)) (pm ctv : Value), h.get? f = some (⟨.type "function", od, .func (PySem.W.kla_fn "<lambda>" F.qual F.params b F.scope F.cl pm (.ref F.c) ctv), sl⟩ : Obj)
theorem lmO_ne {f : Addr} {F : NF} {b : Expr} (ps : Array Value) : LmO f F b ≠ .tbl ps := fun z => by
  unfold LmO at z
  cases z
theorem lmO_at {P : Program} {w : World} {H : Hp} {h : Heap} {f : Addr} {F : NF} {b : Expr} (hok : HOk P w H h) (e : H f = some (LmO f F b)) : ∃ (od : Option Addr) (sl : Array (Option Value)) (pm ctv : Value), h.get? f = some (⟨.type "function", od, .func (PySem.W.kla_fn "<lambda>" F.qual F.params b F.scope F.cl pm (.ref F.c) ctv), sl⟩ : Obj) := by
  obtain ⟨z, _, _⟩ := hok f _ e
  exact z
section
variable {X : Cx} {pins : List (Addr × Obj)} {σ : L2.St} {H : Hp} {s : Shared}
theorem inv_lm {F : NF} {b : Expr} {o : Obj} {t' : Nat} {pm ctv : Value} (I : Inv X pins σ H s) (ho : o = { cls := .type "function", data := .func (PySem.W.kla_fn "<lambda>" F.qual F.params b F.scope F.cl pm (.ref F.c) ctv) }) :
    Inv X pins σ (upd H s.heap.objs.size (LmO s.heap.objs.size F b)) { s with heap := s.heap.push o, toks := t' } := by
  subst ho
  refine I.laid (a := s.heap.objs.size) (fun b u e => Heap.get?_push_of_some _ e) (Nat.le_refl _) ?_
  have e : (s.heap.push ({ cls := .type "function", data := .func (PySem.W.kla_fn "<lambda>" F.qual F.params b F.scope F.cl pm (.ref F.c) ctv) } : Obj)).get? s.heap.objs.size = some ({ cls := .type "function", data := .func (PySem.W.kla_fn "<lambda>" F.qual F.params b F.scope F.cl pm (.ref F.c) ctv) } : Obj) := Heap.get?_push_size _ rfl
  exact ⟨⟨_, _, pm, ctv, e⟩, ⟨_, e⟩, fun h1 h2 ⟨od, sl, p, t, z⟩ st => ⟨od, sl, p, t, st _ z⟩⟩
/-- the lambda of this maker, its code object at c' -/
abbrev lmF (X : Cx) (params : Arguments) (scope : Scope) (c' : Addr) : NF := ⟨"<lambda>", X.env.qual ++ "<lambda>", params, [], scope, cloFrom X.env.cells scope.names [], c'⟩
/-- how the tracked heap goes on when a lambda is made -/
inductive LamMade (H : Hp) (P : Addr) (q : Str) (ps : Array Value) (N : Addr → NF) (b : Expr) : Addr → Addr → Hp → Prop
  | miss {f c' : Addr} {pos : Pos} : H c' = none → H f = none → f ≠ c' → (∀ (p' : Pos) (cv : Value), codeAmong p' (ps ++ #[rawInt pos.line, rawInt pos.col, .ref c']).toList = some cv → codeAmong p' ps.toList = some cv ∨ cv = .ref c') → TriplesOk (ps ++ #[rawInt pos.line, rawInt pos.col, .ref c']).toList →
      LamMade H P q ps N b f c' (upd (upd (upd H P (.tbl (ps ++ #[rawInt pos.line, rawInt pos.col, .ref c']))) c' (CodeO c' q)) f (LmO f (N c') b))
  | hit {f c' : Addr} {pos : Pos} : codeAmong pos ps.toList = some (.ref c') → H f = none → LamMade H P q ps N b f c' (upd H f (LmO f (N c') b))
theorem lam_make3 {ps : Array Value} {c P : Addr} {params : Arguments} {body : Expr} {scope : Scope} {pos : Pos} {E : Value → Shared → Prop} {Q : Value → Shared → Prop} (I : Inv X pins σ H s) (TB : TabB X.base X.mg c P) (hcode : X.env.code = .ref c)
    (hP : H P = some (.tbl ps)) (ht : TriplesOk ps.toList) (ha : ∀ (pos : Pos) (cv : Value), codeAmong pos ps.toList = some cv → ∃ c, cv = .ref c ∧ H c = some (CodeO c (X.env.qual ++ "<lambda>"))) (hdef : defaultsOf params X.env = ([], [])) (hfree : ∀ y ∈ scope.names, y.2 = .free → ∃ c, X.env.cells.lookup y.1 = some c)
    (h : ∀ (f c' : Addr) (H1 : Hp) (s' : Shared), Inv X pins σ H1 s' → LamMade H P (X.env.qual ++ "<lambda>") ps (lmF X params scope) body f c' H1 → Q (.ref f) s') :
    wpAny (model X.prog X.w) X.A (eval (.Lambda params body scope pos) X.env) Q E s := by
  refine PySem.W.kla_eval hdef ?_
  have bP : s.heap.BuiltinsAt X.mg P := TB.bm.keeps I.bk
  have hP' : s.heap.get? P = some { cls := .none, data := .fields ps } := I.hok P _ hP
  cases hc : codeAmong pos ps.toList with
  | none =>
    refine PySem.W.kla_makeFunction (mg := X.mg) (c := c) (P := P) (ps := ps) (closure_ok hfree) I.ok.glob (I.mod.glob.keeps I.bk) hcode (TB.code.keeps I.bk) hP' ht hc TB.gP bP fun c' ctv h' tk hx hge hlt hrec htb => ?_
    obtain ⟨c2, oc, vs, t, e2, hoc, hd, hv⟩ := hrec
    cases e2
    have nC : H c' = none := I.hok.fresh hge
    have I1 := inv_table (t' := tk) (more := #[rawInt pos.line, rawInt pos.col, .ref c']) (h' := h') I hP (fun b o hb e => hx b o hb e) htb hge ⟨oc, vs, t, hoc, hd, hv⟩
    have eL : (ps ++ #[rawInt pos.line, rawInt pos.col, .ref c']).toList = ps.toList ++ [rawInt pos.line, rawInt pos.col, .ref c'] := by simp
    have I2 := inv_lm (F := lmF X params scope c') (b := body) (t' := tk) (pm := (X.mg "__name__").getD .none) (ctv := ctv) I1 rfl
    refine h h'.objs.size c' _ _ I2 (.miss (pos := pos) nC (I.hok.fresh (Nat.le_trans hge (Nat.le_of_lt hlt))) (Nat.ne_of_gt hlt) (fun p' cv hcv => ?_) (by rw [eL]; exact PySem.TriplesOk_snoc _ _ _ _ ht))
    rw [eL] at hcv
    exact among_app _ ht hcv
  | some cv =>
    obtain ⟨c', e, hco⟩ := ha pos cv hc
    subst e
    refine PySem.W.kla_makeFunctionHit (mg := X.mg) (c := c) (P := P) (ps := ps) (closure_ok hfree) I.ok.glob (I.mod.glob.keeps I.bk) hcode (TB.code.keeps I.bk) hP' ht hc bP fun ctv h' tk hx hsz => ?_
    have I1 : Inv X pins σ H { s with heap := h', toks := tk } := I.kept hx
    have nF : H h'.objs.size = none := I1.hok.fresh (Nat.le_refl _)
    have I2 := inv_lm (F := lmF X params scope c') (b := body) (t' := tk) (pm := (X.mg "__name__").getD .none) (ctv := ctv) I1 rfl
    exact h h'.objs.size c' _ _ I2 (.hit (pos := pos) hc nF)
/-- over data: the frozen part has grown by the lambda -/
theorem LamMade.nx {K : PySem.W.Frag} {mg : Str → Option Value} {F : Hp} {M : Mem} {P : Addr} {q : Str} {ps : Array Value} {N : Addr → NF} {b : Expr} {f c' : Addr} {H1 : Hp} (m : LamMade H P q ps N b f c' H1) (rp : Rpr K mg H F M) (hP : M P = some (.tab q)) (hps : H P = some (.tbl ps))
    (ha : ∀ (pos : Pos) (cv : Value), codeAmong pos ps.toList = some cv → ∃ c, cv = .ref c ∧ F c = some (CodeO c q)) : ∃ F1, Nx K mg F H M F1 H1 M ∧ F1 f = some (LmO f (N c') b) ∧ F1 c' = some (CodeO c' q) := by
  have hFP := (rp.mem P _ hP).1
  cases m with
  | @miss pos nC nf nfc hal htr =>
    have fC := rp.fresh nC
    have fF := rp.fresh nf
    have nPc : c' ≠ P := fun z => by rw [z, hps] at nC; cases nC
    have nPf : f ≠ P := fun z => by rw [z, hps] at nf; cases nf
    have same : Same F (upd (upd F c' (CodeO c' q)) f (LmO f (N c') b)) := fun d u e => by
      rw [upd_ne (ne_of_none e fF.1), upd_ne (ne_of_none e fC.1)]; exact e
    refine ⟨_, ⟨same, ⟨fun d u e => ?_, fun a mo e => ?_⟩, fun a o e1 e2 e3 => ?_⟩, upd_same, ?_⟩
    · by_cases h1 : d = f
      · subst h1; rw [upd_same] at e ⊢; exact e
      · rw [upd_ne h1] at e ⊢
        by_cases h2 : d = c'
        · subst h2; rw [upd_same] at e ⊢; exact e
        · rw [upd_ne h2] at e ⊢
          have h3 : d ≠ P := ne_of_none e hFP
          rw [upd_ne h3]
          exact rp.sub d u e
    · have h1 : a ≠ f := fun z => by rw [z, fF.2] at e; cases e
      have h2 : a ≠ c' := fun z => by rw [z, fC.2] at e; cases e
      obtain ⟨g1, g2⟩ := rp.mem a mo e
      refine ⟨by rw [upd_ne h1, upd_ne h2]; exact g1, ?_⟩
      by_cases h3 : a = P
      · subst h3
        rw [hP] at e
        cases e
        refine ⟨_, by rw [upd_ne h1, upd_ne h2, upd_same], htr, fun p' cv hcv => ?_⟩
        rcases hal p' cv hcv with z | z
        · obtain ⟨c0, k1, k2⟩ := ha p' cv z
          exact ⟨c0, k1, same _ _ k2⟩
        · exact ⟨c', z, by rw [upd_ne (Ne.symm nfc), upd_same]⟩
      · exact g2.step same (by rw [upd_ne h1, upd_ne h2, upd_ne h3])
    · have h1 : a ≠ f := fun z => by rw [z, nf] at e1; cases e1
      have h2 : a ≠ c' := fun z => by rw [z, nC] at e1; cases e1
      have h3 : a ≠ P := fun z => by rw [z, hP] at e2; cases e2
      exact ⟨by rw [upd_ne h1, upd_ne h2, upd_ne h3]; exact e1, e2, by rw [upd_ne h1, upd_ne h2]; exact e3⟩
    · rw [upd_ne (Ne.symm nfc), upd_same]
  | @hit pos hc nf =>
    obtain ⟨c0, k1, k2⟩ := ha pos _ hc
    cases k1
    have fF := rp.fresh nf
    have ncf : c' ≠ f := fun z => by rw [z, fF.1] at k2; cases k2
    exact ⟨_, Nx.new rp nf _, upd_same, by rw [upd_ne ncf]; exact k2⟩
end
end Nb
set_option Elab.async false
set_option linter.all false
set_option maxRecDepth 100000
set_option maxHeartbeats 2000000
set_option autoImplicit false
namespace Nb
open PySem PySem.Spec PyProof.Rows L2 LamX NdefX SrtO
/-! ### the lambda called -/
theorem lam_call {CX : CXT} {P : Program} {w : World} {K : PySem.W.Frag} {mg : Str → Option Value} {base : Heap} {N ps fr : List Str} {F : NF} {f : Addr} {b : Expr} {k : Nat} {A : Around} {outer : List Env} {s : Shared} {H : Hp} {us : List Value} {vs : List V} {ws : List (Option V)} {Q : VK} {E : XK}
    (S : NScope N ps fr F.scope) (hb : ∀ (pm ctv : Value) (us : List Value), us.length = ps.length → bindArgs (PySem.W.kla_fn "<lambda>" F.qual F.params b F.scope F.cl pm (.ref F.c) ctv) ⟨us, []⟩ = pure (ps.zip us))
    (hr : Room (k + 1) A) (e0 : Env0 P w K mg base A outer s H) (hf : H f = some (LmO f F b)) (hc : H F.c = some (CodeO F.c F.qual)) (C : CellsAt F.cl fr ws s.heap H) (r : Vals vs us) (hl : vs.length = ps.length)
    (hbody : Room k (A.deeper (envF F f s.heap.objs.size)) → ∃ t, PE (ncx CX P w K mg base N F f A outer s H E) b t ∧ t (startF N vs ws) H Q) :
    codeAny (model P w) A (.call (.ref f) ⟨us, []⟩) (CR CX outer P w H s Q E) s := by
  have lim : s.heap.NoLimit := e0.mod.nolimit.keeps fun b o e => (e0.bs b o e).1
  obtain ⟨od, sl, pm, ctv, ho⟩ := lmO_at e0.hok hf
  refine PySem.W.kla_callFunE hr.depth ho rfl S.co S.gen rfl (codeO_at e0.hok hc) ?_
  rw [hb pm ctv us (by rw [← r.length]; exact hl)]
  refine wpAny_pure (wpAny_newFunctionEnv S.nocell (fun ⟨n, _⟩ hy => S.par n (List.of_mem_zip hy).1) (fun h₁ hns hsb => ⟨lim.fresh _ hsb, ?_⟩) S.kind)
  show codeAny _ _ (.expr b (envF F f s.heap.objs.size)) _ _
  have kp : ∀ b o, s.heap.get? b = some o → h₁.get? b = some o := fun b o e => hsb.extBut b o (Nat.ne_of_lt (Heap.lt_size e)) (Heap.get?_push_of_some _ e)
  obtain ⟨t, ht, hq⟩ := hbody (hr.deeper _)
  have I : Inv (ncx CX P w K mg base N F f A outer s H E) [] (startF N vs ws) H { s with heap := h₁, toks := s.toks + (ps.zip us).length } := inv_startN S hr.hd e0 hl r C hns kp
  refine PySem.W.kla_codeExpr (wpAny_mono (ht.run [] _ (startF N vs ws) H Q I hq) (fun v s' hq => ?_) fun e s' hq => hq)
  obtain ⟨w', H', J', rv, q⟩ := hq
  exact ⟨w', H', J'.os, J'.bare, J'.base, J'.hok, rv, q⟩
/-! ### its slots over data -/
def startFD (n : Nat) (ds : List Dat) (ws : List (Option Dat)) : Rho := ds.map some ++ (ws ++ List.replicate (n - ds.length - ws.length) none)
theorem startF_ok {K : PySem.W.Frag} {F : Hp} {N : List Str} {ds : List Dat} {vs : List V} {wd : List (Option Dat)} {ws : List (Option V)} (r : RpAll K F ds vs) (hl : wd.length = ws.length) (hw : ∀ (i : Nat) (d : Dat), wd[i]? = some (some d) → ∃ v, ws[i]? = some (some v) ∧ Rp K F d v) :
    Rst K F (startFD N.length ds wd) (startF N vs ws) := by
  refine ⟨by simp [startFD, startF, r.len, hl], fun i d e => ?_⟩
  unfold startFD at e
  unfold startF
  by_cases hi : i < ds.length
  · rw [List.getElem?_append_left (by simpa using hi), List.getElem?_map] at e
    cases q : ds[i]? with
    | none => rw [q] at e; cases e
    | some d' =>
      rw [q] at e
      cases e
      obtain ⟨v, h1, h2⟩ := r.get q
      refine ⟨v, ?_, h2⟩
      rw [List.getElem?_append_left (by rw [List.length_map, r.len]; exact hi), List.getElem?_map, h1]
      rfl
  · rw [List.getElem?_append_right (by rw [List.length_map]; omega), List.length_map] at e
    rw [List.getElem?_append_right (by rw [List.length_map, r.len]; omega), List.length_map, r.len]
    by_cases h2 : i - ds.length < wd.length
    · rw [List.getElem?_append_left h2] at e
      rw [List.getElem?_append_left (by rw [← hl]; exact h2)]
      exact hw _ d e
    · rw [List.getElem?_append_right (by omega), List.getElem?_replicate] at e
      split at e <;> cases e
theorem slots_ok {K : PySem.W.Frag} {F : Hp} {ρ : Rho} {σ : L2.St} (R : Rst K F ρ σ) (js : List Nat) : ∀ (i : Nat) (d : Dat), (js.map fun j => (ρ[j]?).join)[i]? = some (some d) → ∃ v, (js.map (slotAt σ))[i]? = some (some v) ∧ Rp K F d v := fun i d e => by
  rw [List.getElem?_map] at e
  cases q : js[i]? with
  | none => rw [q] at e; cases e
  | some j =>
    rw [q] at e
    have e' : (ρ[j]?).join = some d := Option.some.inj e
    have e2 : ρ[j]? = some (some d) := by
      cases z : ρ[j]? with
      | none => rw [z] at e'; cases e'
      | some o => rw [z] at e'; have : o = some d := e'; rw [this]
    obtain ⟨v, h1, h2⟩ := R.get j d e2
    refine ⟨v, ?_, h2⟩
    rw [List.getElem?_map, q]
    show some (slotAt σ j) = some (some v)
    rw [slotAt_of h1]
/-! ### sorted(xs, key=lambda x: ..) -/
abbrev keyD (p : Int × Int) : Dat := .tuple [.int p.1, .int p.2]
def dSortKey (P : Nat) (q : Str) (n : Nat) (js : List Nat) (fb : DE) (fe : DE) : DE := fun ρ M Q E => fe ρ M (fun d M1 => ∃ (ns : List Int) (gi : Int → Int × Int), lstOf d M1 = some (ns.map PyData.int) ∧ M1 P = some (.tab q) ∧
  (∀ x, x ∈ ns → fb (startFD n [.int x] (js.map fun j => (ρ[j]?).join)) M1 (fun k M2 => k = keyD (gi x) ∧ M2 = M1) noX) ∧
  ∀ ns' : List Int, ns'.Perm ns → ns'.Pairwise (fun x y => lexB (gi y) (gi x) = false) → Q (.list (ns'.map PyData.int)) M1) E
theorem RpAll.snoc {K : PySem.W.Frag} {F : Hp} {ds : List Dat} {vs : List V} (h : RpAll K F ds vs) {d : Dat} {v : V} (r : Rp K F d v) : RpAll K F (ds ++ [d]) (vs ++ [v]) := h.append (.cons r .nil)
section
variable {X : Cx} {W : WX} {e body : Expr} {fe fb : DE} {params : Arguments} {scope : Scope} {c P : Addr} {q : Str} {N ps fr : List Str} {js : List Nat} {k : Nat} {a : Str} {p pos lpos kpos : Pos}
theorem ee_sortKey (N : List Str) (fr : List Str) (js : List Nat) (TB : TabB X.base X.mg c P) (hcode : X.env.code = .ref c) (hq : X.env.qual ++ "<lambda>" = q) (S : NScope N [a] fr scope) (hnf : ndefB X.env.scope scope fr = true) (hr : Room (k + 3) X.A) (hm : X.mg "sorted" = none) (he : EE X W e fe)
    (hbody : ∀ (cl : List (Str × Addr)) (c' f : Addr) (A : Around) (outer : List Env) (s : Shared) (H : Hp), Room k (A.deeper (envF ⟨"<lambda>", X.env.qual ++ "<lambda>", params, [], scope, cl, c'⟩ f s.heap.objs.size)) →
      EE (ncx (L2.CX X.prog X.w) X.prog X.w X.K X.mg X.base N ⟨"<lambda>", X.env.qual ++ "<lambda>", params, [], scope, cl, c'⟩ f A outer s H (fun _ _ _ => False)) W0 body fb)
    (hjs : js.map (fun j => X.N[j]?) = fr.map some := by rfl) (hg : Gl X "sorted" := by rfl) (hdef : defaultsOf params X.env = ([], []) := by rfl)
    (hb : ∀ (qq : Str) (cl : List (Str × Addr)) (cc pm ctv : Value) (us : List Value), us.length = 1 → bindArgs (PySem.W.kla_fn "<lambda>" qq params body scope cl pm cc ctv) ⟨us, []⟩ = pure ([a].zip us) := by exact fun _ _ _ _ _ us hl => match us, hl with | [_], _ => rfl)
    (hst0 : starEach [e] X.env = (false, eval e X.env) :: starEach [] X.env := by rfl) (hst : backTo pos (starEach [e] X.env) = (false, eval e X.env) :: backTo pos (starEach [] X.env) := by rfl) (hpl : (backTo pos (starEach [e] X.env)).any (·.1) = false := by rfl) :
    EE X W (.Call (.Name "sorted" p) [e] [⟨some "key", .Lambda params body scope lpos, kpos⟩] pos) (dSortKey P q N.length js fb fe) := by
  refine ⟨⟨fun pins s σ H Q I h => ?_⟩⟩
  obtain ⟨F, M, ρ, Qd, Ed, rs, rp, hf, cq, cx⟩ := h
  have pl : PE X (.Lambda params body scope lpos) (fun σ H Q => ∃ ps : Array Value, H P = some (.tbl ps) ∧ TriplesOk ps.toList ∧ (∀ (pos : Pos) (cv : Value), codeAmong pos ps.toList = some cv → ∃ c, cv = .ref c ∧ H c = some (CodeO c (X.env.qual ++ "<lambda>"))) ∧
      ∀ (f c' : Addr) (H1 : Hp), LamMade H P (X.env.qual ++ "<lambda>") ps (lmF X params scope) body f c' H1 → Q (.ref f) H1) := by
    refine ⟨fun pins s σ H Q I h => ?_⟩
    obtain ⟨ps, h1, h2, h3, h4⟩ := h
    exact lam_make3 I TB hcode h1 h2 h3 hdef (fun y hy e => (ndef_free hnf y hy e).elim (fun z => I.ok.has _ (.inl z)) fun z => I.ok.has _ (.inr z)) fun f c' H1 s' I1 m => ⟨.ref f, H1, I1, rfl, h4 f c' H1 m⟩
  subst hq
  refine wpAny_Call_Name_kw (ld_blt (u := .builtin "sorted") I hg hm (by decide +kernel) ?_ (by decide) (by decide))
  refine PyProof.Rows.callWith_kw (thn ((ea_cons he ea_nil hst0).h.run pos pins s σ H (fun vs H1 => ∃ F1 M1 v, vs = [v] ∧ Nx X.K X.mg F H M F1 H1 M1 ∧ ∃ d, Rp X.K F1 d v ∧ ∃ (ns : List Int) (gi : Int → Int × Int), lstOf d M1 = some (ns.map PyData.int) ∧ M1 P = some (.tab (X.env.qual ++ "<lambda>")) ∧
      (∀ x, x ∈ ns → fb (startFD N.length [.int x] (js.map fun j => (ρ[j]?).join)) M1 (fun k M2 => k = keyD (gi x) ∧ M2 = M1) noX) ∧
      ∀ ns' : List Int, ns'.Perm ns → ns'.Pairwise (fun x y => lexB (gi y) (gi x) = false) → Qd (.list (ns'.map PyData.int)) M1) I
      ⟨F, M, ρ, (fun ds M1 => match ds with | [d] => (∃ (ns : List Int) (gi : Int → Int × Int), lstOf d M1 = some (ns.map PyData.int) ∧ M1 P = some (.tab (X.env.qual ++ "<lambda>")) ∧ (∀ x, x ∈ ns → fb (startFD N.length [.int x] (js.map fun j => (ρ[j]?).join)) M1 (fun k M2 => k = keyD (gi x) ∧ M2 = M1) noX) ∧ ∀ ns' : List Int, ns'.Perm ns → ns'.Pairwise (fun x y => lexB (gi y) (gi x) = false) → Qd (.list (ns'.map PyData.int)) M1) | _ => False), Ed, rs, rp, hf, fun F1 H1 M1 ds vs n1 rd q1 => by
        obtain ⟨d0, rfl⟩ : ∃ d0, ds = [d0] := by
          cases ds with
          | nil => exact ⟨.none, False.elim q1⟩
          | cons d0 t => cases t with
            | nil => exact ⟨d0, rfl⟩
            | cons d1 t => exact ⟨.none, False.elim q1⟩
        obtain ⟨v, rfl, r1⟩ := rd.one
        exact ⟨F1, M1, _, rfl, n1, _, r1, q1⟩, cx⟩) fun us s1 ⟨vs, H1, I1, r1, q1⟩ => ?_) hst hpl (by rfl) (by rfl)
  obtain ⟨F1, M1, v, rfl, n1, d, rd, ns, gi, hl, hM, hk, hfin⟩ := q1
  obtain ⟨_, ps, hps, htr, hcodes⟩ := n1.ok.mem P _ hM
  refine thn ((pk_cons (nm := some "key") (kpos := kpos) pl pk_nil).run pos pins s1 σ H1 (fun zs H2 => ∃ F2 f c', zs = [V.ref f] ∧ Nx X.K X.mg F1 H1 M1 F2 H2 M1 ∧ F2 f = some (LmO f (lmF X params scope c') body) ∧ F2 c' = some (CodeO c' (X.env.qual ++ "<lambda>"))) I1
    ⟨ps, hps, htr, fun p cv hc => let ⟨c0, k1, k2⟩ := hcodes p cv hc; ⟨c0, k1, n1.ok.sub _ _ k2⟩, fun f c' H2 m => by
      obtain ⟨F2, k1, k2, k3⟩ := m.nx n1.ok hM hps hcodes
      exact ⟨F2, f, c', rfl, k1, k2, k3⟩⟩) fun ws' s2 ⟨zs, H2, I2, r2, q2⟩ => ?_
  obtain ⟨F2, f, c', rfl, n2, hLm, hCo⟩ := q2
  obtain ⟨u, rfl, ru⟩ := vals1 r1
  obtain ⟨wv, rfl, rw'⟩ := vals1 r2
  obtain rfl : wv = Value.ref f := rw'
  obtain ⟨l, rfl, hs⟩ := lst_ints (rd.mono n2.same) n2.ok hl
  obtain rfl : u = Value.ref l := ru
  have hr' : Room (k + 1) X.A.in1.in1 := (show Room (k + 1 + 1 + 1) X.A from hr).in1.in1
  show wpAny _ _ (PySem.call (.builtin "sorted") [.ref l] [(Str.ofString "key", .ref f)]) _ _ s2
  have rs2 := rs.mono (n1.same.trans n2.same)
  refine sorted_key (g := fun x => match x with | .int z => gi z | _ => (0, 0)) (fun i H' kvs => ∃ F', Nx X.K X.mg F2 H2 M1 F' H' M1 ∧ RpAll X.K F' ((ns.take i).map fun z => keyD (gi z)) kvs) I2 hs ⟨F2, Nx.refl n2.ok, .nil⟩ ?_ ?_
  · rintro i x u s' H' kvs pins' I' hx rx ⟨F', n3, rk⟩
    rw [List.getElem?_map] at hx
    cases hz : ns[i]? with
    | none => rw [hz] at hx; cases hx
    | some z =>
      rw [hz] at hx
      cases hx
      have hzm : z ∈ ns := List.mem_of_getElem? hz
      have hf' : H' f = some (LmO f (lmF X params scope c') body) := n3.ok.sub _ _ (n3.same _ _ hLm)
      have hc' : H' c' = some (CodeO c' (X.env.qual ++ "<lambda>")) := n3.ok.sub _ _ (n3.same _ _ hCo)
      have e0 : Env0 X.prog X.w X.K X.mg X.base X.A.in1.in1 X.stack s' H' := ⟨by first | exact I'.env0.frames | (simpa using I'.env0.frames), I'.env0.mod, I'.env0.bs, I'.env0.bsz, I'.env0.funs, I'.env0.frf, I'.env0.hok, I'.env0.bare⟩
      have C := cells_of I' (Caps.made (scope := scope) I'.ok (ndef_free hnf) (ndef_fr hnf) hjs)
      have rc := lam_call (CX := L2.CX X.prog X.w) (F := lmF X params scope c') (b := body) (N := N) (ps := [a]) (fr := fr) (us := [u]) (vs := [V.int z]) (ws := js.map (slotAt σ))
        (Q := fun v H'' => ∃ F'', Nx X.K X.mg F2 H2 M1 F'' H'' M1 ∧ RpAll X.K F'' ((ns.take (i + 1)).map fun z => keyD (gi z)) (kvs ++ [v])) (E := fun _ _ _ => False) S (fun pm ctv us hl => hb _ _ _ pm ctv us hl) hr' e0 hf' hc' C (.cons rx .nil) rfl
        (fun hroom => ⟨_, (hbody _ c' f _ X.stack s' H' hroom).h, ⟨F', M1, startFD N.length [.int z] (js.map fun j => (ρ[j]?).join), fun k M2 => k = keyD (gi z) ∧ M2 = M1, noX,
          startF_ok (.cons (Rp.int.mpr rfl) .nil) (by rw [List.length_map, List.length_map]) (slots_ok (rs2.mono n3.same) js), n3.ok, hk z hzm, fun F'' H'' M'' dk vk n4 rk4 q4 => ?_, fun _ _ _ _ _ _ _ _ zz => zz.elim⟩⟩)
      · refine wpAny_call (codeAny_mono rc fun r s'' hq => ?_)
        cases r with
        | error e =>
          obtain ⟨_, _, _, _, _, _, _, _, _, _, _, _, zz⟩ := hq
          exact zz
        | ok fl =>
          cases fl with
          | ret u => exact I'.after hq
          | next => exact False.elim hq
          | brk => exact False.elim hq
          | cont => exact False.elim hq
      · obtain ⟨rfl, rfl⟩ := q4
        refine ⟨F'', n3.trans n4, ?_⟩
        have et : (ns.take (i + 1)).map (fun z => keyD (gi z)) = (ns.take i).map (fun z => keyD (gi z)) ++ [keyD (gi z)] := by rw [List.take_add_one, hz]; simp
        rw [et]
        exact RpAll.snoc (rk.mono n4.same) rk4
  · rintro H' kvs ⟨F', n3, rk⟩
    rw [List.length_map, List.take_length] at rk
    refine ⟨fun j x v hx hv => ?_, fun ys p py oy hp => ?_⟩
    · rw [List.getElem?_map] at hx
      cases hz : ns[j]? with
      | none => rw [hz] at hx; cases hx
      | some z =>
        rw [hz] at hx
        cases hx
        obtain ⟨v', h1, h2⟩ := rk.get (i := j) (d := keyD (gi z)) (by rw [List.getElem?_map, hz]; rfl)
        rw [hv] at h1
        cases h1
        obtain ⟨t, vs, rfl, q, rt⟩ := Rp.tup.mp h2
        refine ⟨t, rfl, ?_⟩
        obtain ⟨v1, v2, rfl, a1, a3⟩ := rt.two
        rw [Rp.int.mp a1, Rp.int.mp a3] at q
        exact Same.seqT n3.ok.sub q
    · obtain ⟨ns', h1, h2⟩ := perm_lift V.int py ns rfl
      subst h2
      refine cq _ _ M1 (.list (ns'.map PyData.int)) _ ((n1.trans n2).trans (n3.trans (Nx.new n3.ok hp (.lst (ns'.map V.int))))) (Rp.lst.mpr ⟨p, _, rfl, SqL.of upd_same, RpAll.of_ints⟩) (hfin ns' h1 ?_)
      have := List.pairwise_map.mp oy
      exact this
end
end Nb
set_option Elab.async false
set_option linter.all false
set_option maxRecDepth 100000
set_option maxHeartbeats 2000000
set_option autoImplicit false
namespace Nb
open PySem PySem.Spec PyProof.Rows L2 LamX
/-! ### a def that makes lambdas: its code object is known -/
structure FunC (K : PySem.W.Frag) (x qual : Str) (st : Stmt) (f : Addr) (fd : FuncData) (c : Addr) : Prop where
  ex : ∃ (oc : Value) (od : Option Addr) (kV doc pm : Value) (an : Option Addr) (ct : Value) (osl : Array (Option Value)),
    fd = PySem.W.fnOf x qual (defArgs st) (defBody st) (defScope st) .none kV doc pm an (.ref c) ct ∧ K.lookup f = some ⟨oc, od, .func fd, osl⟩ ∧ PySem.W.codeIn K (.ref c) qual = true
theorem FunC.fun_ {K : PySem.W.Frag} {x qual : Str} {st : Stmt} {f c : Addr} {fd : FuncData} (F : FunC K x qual st f fd c) (kp : PySem.W.keepIn K (.ref f) = true) : Fun K x qual st f fd := by
  obtain ⟨oc, od, kV, doc, pm, an, ct, osl, rfl, lk, hcd⟩ := F.ex
  exact ⟨⟨oc, od, kV, doc, pm, an, .ref c, ct, osl, rfl, lk, hcd⟩, kp⟩
section
variable {P : Program} {w : World} {K : PySem.W.Frag} {mg : Str → Option Value} {base : Heap}
theorem dfnC_gc {x qual : Str} {st : Stmt} {f c : Addr} {fd : FuncData} {N ps : List Str} {k : Nat} {s : DSp} (fb : DS) (Fn : FunC K x qual st f fd c) (S : FnScope N ps (defScope st)) (len : ∀ ds M Q E, s ds M Q E → ds.length = ps.length)
    (hb : ∀ (A : Around) (outer : List Env) (s0 : Shared) (H : Hp) (E : XK), Room k (A.deeper (envOfC qual (defScope st) s0.heap.objs.size f (.ref c))) →
      SS (cxOf (L2.CX P w) P w K mg base N qual (defScope st) f (.ref c) A outer s0 H E) (wOf E) (defBody st) fb)
    (hp : ∀ ds M Qd Ed, s ds M Qd Ed → fb (endsOf (fun d M' => Qd d (clip M M')) (fun x M' => Ed x (clip M M'))) (startD N.length ds) M) : FnOk P w K mg base (L2.CX P w) (k + 1) f fd ps (LSp K mg s) := by
  obtain ⟨oc, od, kV, doc, pm, an, ct, osl, rfl, lk, hcd⟩ := Fn.ex
  refine fn_of lk hcd S (fun vs H Q E h => ?_) fun A outer s0 H vs Q E hr h => ⟨LS K mg (wOf E) fb, (hb A outer s0 H E hr).h, ?_⟩
  · obtain ⟨F, M, ds, Qd, Ed, rv, rp, hs, _⟩ := h
    rw [rv.len]
    exact len _ _ _ _ hs
  · obtain ⟨F, M, ds, Qd, Ed, rv, rp, hs, cq, cx⟩ := h
    refine ⟨F, M, _, _, start_ok rv, rp, hp ds M Qd Ed hs, ?_⟩
    have ls : ∀ {F' H' M'}, Nx K mg F H M F' H' M' → Nx K mg F H M F' H' (clip M M') := fun n => n.trans (Nx.less n.ok clip_less)
    refine ⟨fun F' H' M' ρ σ n rs q => cq F' H' _ .none .non (ls n) (Rp.non.mpr rfl) q, fun F' H' M' d v n r q => cq F' H' _ d v (ls n) r q, fun _ _ _ _ _ _ _ q => q.elim, fun _ _ _ _ _ _ _ q => q.elim, fun F' H' M' ρ σ x' c dd n rs rx q => cx F' H' _ x' c dd (ls n) rx q⟩
end
section
variable (K : PySem.W.Frag) (mg : Str → Option Value) (base : Heap)
def MethAtC (c : Str) (L : List Str) (m q : Str) (st : Stmt) (ps : List Str) (P : Addr) : Prop := ∃ C f fd cc, ClsT K mg c L C ∧ Meth K C m f ∧ FunC K m q st f fd cc ∧ Binds K fd ps [] ∧ TabB base mg cc P
def FunAtC (x : Str) (st : Stmt) (ps : List Str) (P : Addr) : Prop := ∃ f fd cc, mg x = some (.ref f) ∧ PySem.W.keepIn K (.ref f) = true ∧ FunC K x x st f fd cc ∧ Binds K fd ps [] ∧ TabB base mg cc P
end
section
variable {P : Program} {w : World} {K : PySem.W.Frag} {mg : Str → Option Value} {base h : Heap} {x c m q : Str} {L ps : List Str} {k : Nat} {s : DSp} {st : Stmt} {T : Addr}
theorem MethAtC.has (A : MethAtC K mg base c L m q st ps T) (h : ∀ f fd cc, FunC K m q st f fd cc → TabB base mg cc T → FnOk P w K mg base (L2.CX P w) k f fd ps (LSp K mg s)) : HasMeth P w K mg base c L m k s :=
  let ⟨C, f, fd, cc, T, M, F, b, TB⟩ := A
  ⟨C, f, fd, ps, T, M, h f fd cc F TB, b⟩
theorem FunAtC.has (A : FunAtC K mg base x st ps T) (h : ∀ f fd cc, FunC K x x st f fd cc → TabB base mg cc T → FnOk P w K mg base (L2.CX P w) k f fd ps (LSp K mg s)) : HasFn P w K mg base x k s :=
  let ⟨f, fd, cc, g, kp, F, b, TB⟩ := A
  ⟨f, fd, ps, h f fd cc F TB, g, kp, b⟩
/-- the fact at the head, the code object's address told -/
def MethFC (K : PySem.W.Frag) (C : Addr) (m qual : Str) (st : Stmt) (ps : List Str) (cc : Addr) : Prop := ∃ f fd, Meth K C m f ∧ FunC K m qual st f fd cc ∧ Binds K fd ps []
theorem methFC_mk {C f cc : Addr} {oc : Value} {od an : Option Addr} {osl : Array (Option Value)} {kV doc pm ct : Value} (b : BindOk m q st ps) (a : PySem.W.findIn K (.ref C) m = some (some (.ref f))) (i : PySem.W.isFn K (.ref f) = true) (l : K.lookup f = some ⟨oc, od, .func (PySem.W.fnOf m q (defArgs st) (defBody st) (defScope st) .none kV doc pm an (.ref cc) ct), osl⟩)
    (c : PySem.W.codeIn K (.ref cc) q = true) (k : PySem.W.keepIn K (.ref f) = true) : MethFC K C m q st ps cc := ⟨f, _, ⟨a, i, k⟩, ⟨⟨oc, od, kV, doc, pm, an, ct, osl, rfl, l, c⟩⟩, (fun_mk l c k).binds b⟩
theorem ClsT.methC {C cc : Addr} (Tc : ClsT K mg c L C) (m' : MethFC K C m q st ps cc) (TB : TabB base mg cc T) : MethAtC K mg base c L m q st ps T := by
  obtain ⟨f, fd, h1, h2, h3⟩ := m'
  exact ⟨C, f, fd, cc, Tc, h1, h2, h3, TB⟩
end
/-! ### the end, with tables -/
theorem law_endT {l : PySem.W.OpenLaw} {w : World} {K : PySem.W.Frag} {h : Heap} {mg : Str → Option Value} {fa f : Addr} {x : Str} {st : Stmt} {p : Str} {k : Nat} {s : DSp} {oc : Value} {od an : Option Addr} {osl : Array (Option Value)} {kV doc pm cdv ct : Value} (cs : List (Addr × Addr)) (M0 : Mem) (X : K.In h) (G : h.Ns mainGlobals mg)
    (hM0 : ∀ a mo, M0 a = some mo → ∃ q, mo = .tab q ∧ a ∈ cs.map (·.2)) (hs : ∀ (ns : List Int) (Q : DQ) (E : XQ), ns.length ≤ 63 → (∀ M', Q (.bool true) M') → s [.list (ns.map PyData.int)] M0 Q E) (hfa : mg x = some (.ref fa)) (b : BindOk x x st [p])
    (a : PySem.W.nsIn K mainGlobals x = some (some (.ref f))) (lk : K.lookup f = some ⟨oc, od, .func (PySem.W.fnOf x x (defArgs st) (defBody st) (defScope st) .none kV doc pm an cdv ct), osl⟩)
    (c : PySem.W.codeIn K cdv x = true) (kp : PySem.W.keepIn K (.ref f) = true) (hT : ∀ p ∈ cs, h.get? p.2 = some { cls := .none, data := .fields #[] }) (nT : ∀ p ∈ cs, K.lookup p.2 = none) (hC : ∀ p ∈ cs, PySem.W.CodeHd h p.1 p.2)
    (ok : ∀ (base : Heap), (∀ p ∈ cs, TabB base mg p.1 p.2) → ∀ (f : Addr) (fd : FuncData), Fun K x x st f fd → FnOk l.prog w K mg base (L2.CX l.prog w) k f fd [p] (LSp K mg s)) :
    LawAtS l w K (L2.CX l.prog w) k 63 p mg fa h := by
  have e := hfa.symm.trans (PySem.W.mg_of X G a)
  cases e
  refine ⟨_, cs, LSp K mg s, hT, nT, hC, fun s u => .of_eq (b _ _ _ _ _ _ [u] rfl), fun H a ns hl _ hH hS => ?_, fun base _ _ TB => ok base TB _ _ (fun_mk lk c kp)⟩
  have hne : ∀ o, H a = some o → (∀ ps, o ≠ .tbl ps) → a ∉ cs.map (·.2) := fun o e n z => by
    obtain ⟨p, hp, rfl⟩ := List.mem_map.mp z
    rw [hH p hp] at e
    cases e
    exact n _ rfl
  have hF : ∀ o, H a = some o → (∀ ps, o ≠ .tbl ps) → (fun b => if b ∈ cs.map (·.2) then none else H b) a = some o := fun o e n => by
    show (if a ∈ cs.map (·.2) then none else H a) = some o
    rw [if_neg (hne o e n)]
    exact e
  refine ⟨fun b => if b ∈ cs.map (·.2) then none else H b, M0, [.list (ns.map PyData.int)], fun d _ => d = .bool true, fun _ _ => False, .cons (Rp.lst.mpr ⟨a, _, rfl, ?_, RpAll.of_ints⟩) .nil, ⟨fun b u e => ?_, fun b mo e => ?_⟩, hs ns _ _ hl (fun _ => rfl),
    fun F' H' M' d v n r e => by subst e; exact Rp.bl.mp r, fun _ _ _ _ _ _ _ _ z => z.elim⟩
  · rcases hS with (q | ⟨o, q⟩) | q
    · exact .inl (.inl (hF _ q fun ps z => by cases z))
    · exact .inl (.inr ⟨o, hF _ q fun ps z => by cases z⟩)
    · exact .inr q
  · have e : (if b ∈ cs.map (·.2) then none else H b) = some u := e
    split at e
    · cases e
    · exact e
  · obtain ⟨q, rfl, hm⟩ := hM0 b mo e
    refine ⟨if_pos hm, ?_⟩
    obtain ⟨p, hp, rfl⟩ := List.mem_map.mp hm
    exact ⟨#[], hH p hp, True.intro, fun pos cv hc => by
      have z : codeAmong pos [] = some cv := hc
      simp [codeAmong] at z⟩
theorem cx_false : ∀ {P : Program} (w : World) (H : Hp) (s : Shared) (e : Value) (s' : Shared), L2.CX P w [] H s (fun _ _ _ => False) e s' → False := fun w H s e s' z => by
  obtain ⟨_, _, _, _, _, _, _, _, _, _, _, _, z⟩ := z
  exact z
end Nb
set_option Elab.async false
set_option linter.all false
set_option maxRecDepth 100000
set_option maxHeartbeats 1000000
set_option autoImplicit false
namespace Nb
open PySem PySem.Spec PyProof.Rows L2

/-! ### rules for loops -/
theorem while_rule {t : DT} {b : DS} {Q : DEnds} {ρ : Rho} {M : Mem} (I : Nat → Rho → Mem → Prop) (n : Nat) (h0 : I n ρ M)
    (hs : ∀ n ρ M, I n ρ M → ∀ K : Rho → Mem → Prop, (∀ m ρ' M', m < n → I m ρ' M' → K ρ' M') →
      t ρ M (fun c M1 => if c = true then b { Q with nx := K, ct := K, bk := Q.nx } ρ M1 else Q.nx ρ M1) fun x M1 => Q.ex x ρ M1) : dWhile t b Q ρ M := by
  have key : ∀ N n ρ M, n < N → I n ρ M → dWhileN t b Q N ρ M := by
    intro N
    induction N with
    | zero => intro n ρ M h; omega
    | succ N ih =>
      intro n ρ M h hI
      exact hs n ρ M hI _ fun m ρ' M' hm hI' => ih m ρ' M' (by omega) hI'
  exact ⟨n + 1, key _ n ρ M (by omega) h0⟩
theorem for_rule {g : DG} {b : DS} {Q : DEnds} {ds : List Dat} {ρ : Rho} {M : Mem} (I : Nat → Rho → Mem → Prop) (h0 : I 0 ρ M)
    (hs : ∀ i d ρ M, ds[i]? = some d → I i ρ M → ∀ K : Rho → Mem → Prop, (∀ ρ' M', I (i + 1) ρ' M' → K ρ' M') → g d ρ M fun ρ1 M1 => b { Q with nx := K, ct := K, bk := Q.nx } ρ1 M1)
    (he : ∀ ρ M, I ds.length ρ M → Q.nx ρ M) : dForL g b Q ds ρ M := by
  induction ds generalizing ρ M I with
  | nil => exact he ρ M h0
  | cons d ds ih =>
    refine hs 0 d ρ M rfl h0 _ fun ρ' M' h1 => ?_
    exact ih (fun i => I (i + 1)) h1 (fun i d ρ M e hI K hK => hs (i + 1) d ρ M e hI K hK) fun ρ M h => he ρ M h
theorem lc_rule {g : DG} {t : DT} {el : DE} {ρ : Rho} {ds : List Dat} {M : Mem} {Q : List Dat → Mem → Prop} (I : Nat → List Dat → Mem → Prop) (acc : List Dat) (h0 : I 0 acc M)
    (hs : ∀ i d acc M, ds[i]? = some d → I i acc M → ∀ K : List Dat → Mem → Prop, (∀ acc' M', I (i + 1) acc' M' → K acc' M') →
      g d ρ M fun ρ1 M1 => t ρ1 M1 (fun b M2 => if b = true then el ρ1 M2 (fun x M3 => acc.length < sizeLine ∧ K (acc ++ [x]) M3) noX else K acc M2) noX)
    (he : ∀ acc M, I ds.length acc M → Q acc M) : dLcL g t el ρ ds acc M Q := by
  induction ds generalizing acc M I with
  | nil => exact he acc M h0
  | cons d ds ih =>
    refine hs 0 d acc M rfl h0 (fun acc' M' => dLcL g t el ρ ds acc' M' Q) fun acc' M' h1 => ?_
    exact ih (fun i => I (i + 1)) acc' h1 (fun i d acc M e hI K hK => hs (i + 1) d acc M e hI K hK) fun acc M h => he acc M h
/-- a comprehension that changes nothing -/
theorem lc_pure {g : DG} {t : DT} {el : DE} {ρ : Rho} {ds : List Dat} {M : Mem} {Q : List Dat → Mem → Prop} (f : Dat → Option Dat) (hl : ds.length ≤ sizeLine)
    (hs : ∀ d, d ∈ ds → ∀ (acc : List Dat) (K : List Dat → Mem → Prop), acc.length < sizeLine → (match f d with | some x => K (acc ++ [x]) M | none => K acc M) →
      g d ρ M fun ρ1 M1 => t ρ1 M1 (fun b M2 => if b = true then el ρ1 M2 (fun x M3 => acc.length < sizeLine ∧ K (acc ++ [x]) M3) noX else K acc M2) noX)
    (he : Q (ds.filterMap f) M) : dLcL g t el ρ ds [] M Q := by
  refine lc_rule (fun i acc M' => M' = M ∧ acc = (ds.take i).filterMap f) [] ⟨rfl, rfl⟩ ?_ ?_
  · rintro i d acc M' hd ⟨rfl, rfl⟩ K hK
    have hi : i < ds.length := (List.getElem?_eq_some_iff.mp hd).1
    have e : ds.take (i + 1) = ds.take i ++ [d] := by rw [List.take_add_one, hd]; rfl
    have hz : ((ds.take i).filterMap f).length < sizeLine := Nat.lt_of_le_of_lt (List.length_filterMap_le _ _) (by rw [List.length_take]; omega)
    refine hs d (List.mem_iff_getElem?.mpr ⟨i, hd⟩) _ K hz ?_
    split
    · rename_i x hx
      exact hK _ _ ⟨rfl, by rw [e, List.filterMap_append]; simp [hx]⟩
    · rename_i hx
      exact hK _ _ ⟨rfl, by rw [e, List.filterMap_append]; simp [hx]⟩
  · rintro acc M' ⟨rfl, rfl⟩
    rw [List.take_length]
    exact he

/-! ### unfolding -/
@[simp] theorem u0 (i : Nat) (ρ : Rho) (M : Mem) (Q : DQ) (E : XQ) : dVar i ρ M Q E = (match ρ[i]? with | some (some d) => Q d M | _ => False) := rfl
@[simp] theorem u1 (d : Dat) (ρ : Rho) (M : Mem) (Q : DQ) (E : XQ) : dC d ρ M Q E = Q d M := rfl
@[simp] theorem u2 (g : DR2) (a b : DE) (ρ : Rho) (M : Mem) (Q : DQ) (E : XQ) : dOp g a b ρ M Q E = a ρ M (fun x M1 => b ρ M1 (fun y M2 => g x y M2 Q) E) E := rfl
@[simp] theorem u3 (ρ : Rho) (M : Mem) (Q : List Dat → Mem → Prop) (E : XQ) : dNil ρ M Q E = Q [] M := rfl
@[simp] theorem u4 (a : DE) (r : DA) (ρ : Rho) (M : Mem) (Q : List Dat → Mem → Prop) (E : XQ) : dCons a r ρ M Q E = a ρ M (fun x M1 => r ρ M1 (fun xs M2 => Q (x :: xs) M2) E) E := rfl
@[simp] theorem u5 (a : DA) (ρ : Rho) (M : Mem) (Q : DQ) (E : XQ) : dTup a ρ M Q E = a ρ M (fun ds M1 => ds.length ≤ sizeLine ∧ Q (.tuple ds) M1) E := rfl
@[simp] theorem u6 (a : DA) (ρ : Rho) (M : Mem) (Q : DQ) (E : XQ) : dLst a ρ M Q E = a ρ M (fun ds M1 => ds.length ≤ sizeLine ∧ Q (.list ds) M1) E := rfl
@[simp] theorem u7 (a : DA) (ρ : Rho) (M : Mem) (Q : DQ) (E : XQ) : dLstL a ρ M Q E = a ρ M (fun ds M1 => ds.length ≤ sizeLine ∧ ∀ p, M1 p = none → Q (rf p) (mup M1 p (.lst ds))) E := rfl
@[simp] theorem u8 (s : DSp) (a : DA) (ρ : Rho) (M : Mem) (Q : DQ) (E : XQ) : dCall s a ρ M Q E = a ρ M (fun ds M1 => s ds M1 Q E) E := rfl
@[simp] theorem u9 (g : DRL) (a : DA) (ρ : Rho) (M : Mem) (Q : DQ) (E : XQ) : dBlt g a ρ M Q E = a ρ M (fun ds M1 => g ds M1 Q) E := rfl
@[simp] theorem u10 (a : DE) (ρ : Rho) (M : Mem) (Q : Bool → Mem → Prop) (E : XQ) : dB a ρ M Q E = a ρ M (fun d M1 => match d with | .bool b => Q b M1 | _ => False) E := rfl
@[simp] theorem u11 (a : DE) (ρ : Rho) (M : Mem) (Q : Bool → Mem → Prop) (E : XQ) : dTru a ρ M Q E = a ρ M (fun d M1 => match truD d M1 with | some b => Q b M1 | none => False) E := rfl
@[simp] theorem u12 (t : DT) (ρ : Rho) (M : Mem) (Q : Bool → Mem → Prop) (E : XQ) : dNotT t ρ M Q E = t ρ M (fun b M1 => Q (!b) M1) E := rfl
@[simp] theorem u13 (t u : DT) (ρ : Rho) (M : Mem) (Q : Bool → Mem → Prop) (E : XQ) : dAndT t u ρ M Q E = t ρ M (fun b M1 => if b = true then u ρ M1 Q E else Q false M1) E := rfl
@[simp] theorem u14 (t u : DT) (ρ : Rho) (M : Mem) (Q : Bool → Mem → Prop) (E : XQ) : dOrT t u ρ M Q E = t ρ M (fun b M1 => if b = true then Q true M1 else u ρ M1 Q E) E := rfl
@[simp] theorem u15 (a : DE) (ρ : Rho) (M : Mem) (Q : DQ) (E : XQ) : dNotV a ρ M Q E = a ρ M (fun d M1 => match d with | .bool b => Q (.bool (!b)) M1 | _ => False) E := rfl
@[simp] theorem u16 (a b : DE) (ρ : Rho) (M : Mem) (Q : DQ) (E : XQ) : dAndV a b ρ M Q E = a ρ M (fun d M1 => match d with | .bool c => if c = true then b ρ M1 Q E else Q (.bool false) M1 | _ => False) E := rfl
@[simp] theorem u17 (a b : DE) (ρ : Rho) (M : Mem) (Q : DQ) (E : XQ) : dOrV a b ρ M Q E = a ρ M (fun d M1 => match d with | .bool c => if c = true then Q (.bool true) M1 else b ρ M1 Q E | _ => False) E := rfl
@[simp] theorem u18 (t : DT) (a b : DE) (ρ : Rho) (M : Mem) (Q : DQ) (E : XQ) : dIf t a b ρ M Q E = t ρ M (fun c M1 => if c = true then a ρ M1 Q E else b ρ M1 Q E) E := rfl
@[simp] theorem u19 (g g' : DR2) (a b c : DE) (ρ : Rho) (M : Mem) (Q : DQ) (E : XQ) : dChain g g' a b c ρ M Q E = a ρ M (fun x M1 => b ρ M1 (fun y M2 => g x y M2 fun z M3 => match z with | .bool k => if k = true then c ρ M3 (fun w M4 => g' y w M4 Q) E else Q (.bool false) M3 | _ => False) E) E := rfl
@[simp] theorem u20 (Q : DEnds) (ρ : Rho) (M : Mem) : dNext Q ρ M = Q.nx ρ M := rfl
@[simp] theorem u21 (Q : DEnds) (ρ : Rho) (M : Mem) : dPass Q ρ M = Q.nx ρ M := rfl
@[simp] theorem u22 (f g : DS) (Q : DEnds) (ρ : Rho) (M : Mem) : dSeq f g Q ρ M = f { Q with nx := g Q } ρ M := rfl
@[simp] theorem u23 (a : DE) (Q : DEnds) (ρ : Rho) (M : Mem) : dDrop a Q ρ M = a ρ M (fun _ M1 => Q.nx ρ M1) fun x M1 => Q.ex x ρ M1 := rfl
@[simp] theorem u24 (a : DE) (Q : DEnds) (ρ : Rho) (M : Mem) : dRet a Q ρ M = a ρ M Q.rt fun x M1 => Q.ex x ρ M1 := rfl
@[simp] theorem u25 (Q : DEnds) (ρ : Rho) (M : Mem) : dRetN Q ρ M = Q.rt .none M := rfl
@[simp] theorem u26 (t : DT) (f g : DS) (Q : DEnds) (ρ : Rho) (M : Mem) : dIfS t f g Q ρ M = t ρ M (fun b M1 => if b = true then f Q ρ M1 else g Q ρ M1) fun x M1 => Q.ex x ρ M1 := rfl
@[simp] theorem u27 (Q : DEnds) (ρ : Rho) (M : Mem) : dNever Q ρ M = False := rfl
@[simp] theorem u28 (a : DE) (g : DG) (Q : DEnds) (ρ : Rho) (M : Mem) : dAsg a g Q ρ M = a ρ M (fun d M1 => g d ρ M1 Q.nx) fun x M1 => Q.ex x ρ M1 := rfl
@[simp] theorem u29 (i : Nat) (d : Dat) (ρ : Rho) (M : Mem) (Q : Rho → Mem → Prop) : gN i d ρ M Q = Q (ρ.set i (some d)) M := rfl
@[simp] theorem u30 (it : DI) (g : DG) (b : DS) (Q : DEnds) (ρ : Rho) (M : Mem) : dFor it g b Q ρ M = it ρ M (fun ds M1 => dForL g b Q ds ρ M1) fun x M1 => Q.ex x ρ M1 := rfl
@[simp] theorem u32 (g : DG) (r : DGs) (d : Dat) (ds : List Dat) (ρ : Rho) (M : Mem) (Q : Rho → Mem → Prop) : gConsD g r (d :: ds) ρ M Q = g d ρ M fun ρ1 M1 => r ds ρ1 M1 Q := rfl
@[simp] theorem u33 (ρ : Rho) (M : Mem) (Q : Rho → Mem → Prop) : gNilD [] ρ M Q = Q ρ M := rfl
@[simp] theorem u34 (ρ : Rho) (M : Mem) (Q : Bool → Mem → Prop) (E : XQ) : dYes ρ M Q E = Q true M := rfl
@[simp] theorem u35 (it : DI) (g : DG) (t : DT) (elt : DE) (vs : List Nat) (ρ : Rho) (M : Mem) (Q : DQ) (E : XQ) : dLc it g t elt vs ρ M Q E = it ρ M (fun ds M1 => dLcL g t elt (wipeD ρ vs) ds [] M1 fun out M2 => Q (.list out) M2) E := rfl
@[simp] theorem u36 (Q : DQ) (E : XQ) : endsOf Q E = { nx := fun _ M => Q .none M, rt := Q, ex := fun x _ M => E x M } := rfl
@[simp] theorem u37 (i j : Int) (M : Mem) (Q : DQ) : gLt (.int i) (.int j) M Q = Q (.bool (decide (i < j))) M := rfl
@[simp] theorem u38 (i j : Int) (M : Mem) (Q : DQ) : gLe (.int i) (.int j) M Q = Q (.bool (decide (i ≤ j))) M := rfl
@[simp] theorem u39 (i j : Int) (M : Mem) (Q : DQ) : gGt (.int i) (.int j) M Q = Q (.bool (decide (j < i))) M := rfl
@[simp] theorem u40 (i j : Int) (M : Mem) (Q : DQ) : gGe (.int i) (.int j) M Q = Q (.bool (decide (j ≤ i))) M := rfl
@[simp] theorem u41 (x : Dat) (M : Mem) (Q : DQ) : gIsN x .none M Q = Q (.bool (isNon x)) M := rfl
@[simp] theorem u42 (x : Dat) (M : Mem) (Q : DQ) : gNotN x .none M Q = Q (.bool (!isNon x)) M := rfl
@[simp] theorem u43 (i j : Int) (M : Mem) (Q : DQ) : gAdd (.int i) (.int j) M Q = Q (.int (i + j)) M := rfl
@[simp] theorem u44 (i j : List Dat) (M : Mem) (Q : DQ) : gAdd (.tuple i) (.tuple j) M Q = (i.length + j.length ≤ sizeLine ∧ Q (.tuple (i ++ j)) M) := rfl
@[simp] theorem u45 (i j : List Dat) (M : Mem) (Q : DQ) : gAdd (.list i) (.list j) M Q = (i.length + j.length ≤ sizeLine ∧ Q (.list (i ++ j)) M) := rfl
@[simp] theorem u46 (i j : Int) (M : Mem) (Q : DQ) : gSub (.int i) (.int j) M Q = Q (.int (i - j)) M := rfl
@[simp] theorem u47 (i j : Int) (M : Mem) (Q : DQ) : gMulI (.int i) (.int j) M Q = (CMul i j ∧ Q (.int (i * j)) M) := rfl
@[simp] theorem u48 (i j : Int) (M : Mem) (Q : DQ) : gFdiv (.int i) (.int j) M Q = (CDiv i j ∧ Q (.int (i / j)) M) := rfl
@[simp] theorem u49 (i j : Int) (M : Mem) (Q : DQ) : gMod (.int i) (.int j) M Q = (0 < j ∧ Q (.int (i % j)) M) := rfl
@[simp] theorem u50 (i j : Int) (M : Mem) (Q : DQ) : gPow (.int i) (.int j) M Q = (CPow i j ∧ Q (.int (i ^ j.toNat)) M) := rfl
@[simp] theorem u51 (ds : List Dat) (i : Int) (M : Mem) (Q : DQ) : gIx (.tuple ds) (.int i) M Q = (match atI ds i with | some d => Q d M | none => False) := rfl
@[simp] theorem u52 (ds : List Dat) (i : Int) (M : Mem) (Q : DQ) : gIx (.list ds) (.int i) M Q = (match atI ds i with | some d => Q d M | none => False) := rfl
@[simp] theorem u53 (xs : List Dat) (M : Mem) (Q : DQ) : gLen [.tuple xs] M Q = Q (.int xs.length) M := rfl
@[simp] theorem u54 (xs : List Dat) (M : Mem) (Q : DQ) : gLen [.list xs] M Q = Q (.int xs.length) M := rfl
@[simp] theorem u55 (xs : List Dat) (M : Mem) (Q : DQ) : gTupOf [.tuple xs] M Q = Q (.tuple xs) M := rfl
@[simp] theorem u56 (xs : List Dat) (M : Mem) (Q : DQ) : gTupOf [.list xs] M Q = Q (.tuple xs) M := rfl
@[simp] theorem u57 (i j : Int) (M : Mem) (Q : DQ) : gMax2 [.int i, .int j] M Q = Q (.int (if j > i then j else i)) M := rfl
@[simp] theorem u58 (i j : Int) (M : Mem) (Q : DQ) : gMin2 [.int i, .int j] M Q = Q (.int (if j < i then j else i)) M := rfl
@[simp] theorem u60 (a : DA) (ρ : Rho) (M : Mem) (Q : List Dat → Mem → Prop) (E : XQ) : iRng1D a ρ M Q E = a ρ M (fun ds M1 => match ds with | [.int j] => (-(2 ^ 62) ≤ j ∧ j < 2 ^ 62) ∧ Q (rngD 0 j.toNat) M1 | _ => False) E := rfl
@[simp] theorem u63 (T : TyN) (a : DE) (ρ : Rho) (M : Mem) (Q : DQ) (E : XQ) : dIsi T a ρ M Q E = a ρ M (fun d M1 => match isTy T d M1 with | some b => Q (.bool b) M1 | none => False) E := rfl
@[simp] theorem u64 (T U : TyN) (a : DE) (ρ : Rho) (M : Mem) (Q : DQ) (E : XQ) : dIsi2 T U a ρ M Q E = a ρ M (fun d M1 => match isTy T d M1, isTy U d M1 with | some b, some c => Q (.bool (b || c)) M1 | _, _ => False) E := rfl
@[simp] theorem u65 (ρ : Rho) (M : Mem) (Q : Option Int → Mem → Prop) (E : XQ) : oNone ρ M Q E = Q none M := rfl
@[simp] theorem u66 (a : DE) (ρ : Rho) (M : Mem) (Q : Option Int → Mem → Prop) (E : XQ) : oSome a ρ M Q E = a ρ M (fun d M1 => match d with | .int i => Q (some i) M1 | _ => False) E := rfl
@[simp] theorem u67 (a : DE) (l v : DO) (ρ : Rho) (M : Mem) (Q : DQ) (E : XQ) : dSl a l v ρ M Q E = a ρ M (fun x M1 => l ρ M1 (fun lo M2 => v ρ M2 (fun hi M3 => gSl x lo hi M3 Q) E) E) E := rfl
@[simp] theorem u68 (ds : List Dat) (lo hi : Option Int) (M : Mem) (Q : DQ) : gSl (.tuple ds) lo hi M Q = Q (.tuple (cutD ds lo hi)) M := rfl
@[simp] theorem u69 (ds : List Dat) (lo hi : Option Int) (M : Mem) (Q : DQ) : gSl (.list ds) lo hi M Q = Q (.list (cutD ds lo hi)) M := rfl
@[simp] theorem u70 (ty : Dat → Mem → Prop) (g : DRM) (o : DE) (a : DA) (ρ : Rho) (M : Mem) (Q : DQ) (E : XQ) : dBM ty g o a ρ M Q E = o ρ M (fun d M1 => ty d M1 ∧ a ρ M1 (fun ds M2 => g d ds M2 Q) E) E := rfl
@[simp] theorem u71 (x : Dat) (ys : List Dat) (M : Mem) (Q : DQ) : gIn x (.tuple ys) M Q = ((flatD x = true ∧ ys.all flatD = true) ∧ Q (.bool (inD x ys)) M) := rfl
@[simp] theorem u72 (x : Dat) (ys : List Dat) (M : Mem) (Q : DQ) : gIn x (.list ys) M Q = ((flatD x = true ∧ ys.all flatD = true) ∧ Q (.bool (inD x ys)) M) := rfl
@[simp] theorem u73 (x : Dat) (ys : List Dat) (M : Mem) (Q : DQ) : gNotIn x (.tuple ys) M Q = ((flatD x = true ∧ ys.all flatD = true) ∧ Q (.bool (!inD x ys)) M) := rfl
@[simp] theorem u74 (x : Dat) (ys : List Dat) (M : Mem) (Q : DQ) : gNotIn x (.list ys) M Q = ((flatD x = true ∧ ys.all flatD = true) ∧ Q (.bool (!inD x ys)) M) := rfl
@[simp] theorem u75 (T : TyN) (i : Int) (M : Mem) : isTy T (.int i) M = some (match T with | .int => true | _ => false) := rfl
@[simp] theorem u76 (T : TyN) (M : Mem) : isTy T .none M = some false := rfl
@[simp] theorem u77 (T : TyN) (l : List Dat) (M : Mem) : isTy T (.tuple l) M = some (match T with | .tuple => true | _ => false) := rfl
@[simp] theorem u78 (T : TyN) (l : List Dat) (M : Mem) : isTy T (.list l) M = some (match T with | .list => true | _ => false) := rfl
@[simp] theorem u79 (T : TyN) (l : Str) (M : Mem) : isTy T (.str l) M = some (match T with | .str => true | _ => false) := rfl
@[simp] theorem u80 (l : List Dat) (M : Mem) : lstOf (.list l) M = some l := rfl
@[simp] theorem u81 (x y : Dat) (M : Mem) (Q : DQ) : gEq x y M Q = ((SeqAt.shaped (vw x M) = true ∧ SeqAt.shaped (vw y M) = true) ∧ Q (.bool (PyData.eqv (vw x M) (vw y M))) M) := rfl
@[simp] theorem u82 (x y : Dat) (M : Mem) (Q : DQ) : gNe x y M Q = ((SeqAt.shaped (vw x M) = true ∧ SeqAt.shaped (vw y M) = true) ∧ Q (.bool (!PyData.eqv (vw x M) (vw y M))) M) := rfl
@[simp] theorem u83 (i j : Nat) (a : DA) (Q : DEnds) (ρ : Rho) (M : Mem) : dPar i j a Q ρ M = a ρ M (fun ds M1 => match ds with | [x, y] => Q.nx ((ρ.set i (some x)).set j (some y)) M1 | _ => False) fun x M1 => Q.ex x ρ M1 := rfl
@[simp] theorem u84 (a : DE) (ρ : Rho) (M : Mem) (Q : DQ) (E : XQ) : dLstRngL a ρ M Q E = a ρ M (fun d M1 => match d with | .int n => RgOk 0 n ∧ ∀ p, M1 p = none → Q (rf p) (mup M1 p (.lst (rngD 0 n.toNat))) | _ => False) E := rfl
@[simp] theorem u85 (a : DE) (ρ : Rho) (M : Mem) (Q : DQ) (E : XQ) : dLstRng a ρ M Q E = a ρ M (fun d M1 => match d with | .int n => RgOk 0 n ∧ Q (.list (rngD 0 n.toNat)) M1 | _ => False) E := rfl
/-! ### data -/
def op : Option Int → Dat
  | none => .none
  | some k => .int k
abbrev Bx := Option Int × Option Nat
def bxD (b : Bx) : Dat := .tuple [op b.1, od b.2]
def yd (y : List Bx) : Dat := .tuple (y.map bxD)
def hD (h : List (Option Nat)) : Dat := .tuple (h.map od)
def nD (l : List Nat) : List Dat := l.map fun (k : Nat) => PyData.int (k : Int)
def hold (y : List Bx) : List (Option Nat) := y.map (·.2)
theorem od_inj {a b : Option Nat} (h : od a = od b) : a = b := by
  cases a <;> cases b <;> simp [od] at h <;> simp <;> omega
theorem op_inj {a b : Option Int} (h : op a = op b) : a = b := by
  cases a <;> cases b <;> simp [op] at h <;> simp [h]
theorem map_inj {α β : Type} {f : α → β} (hf : ∀ a b, f a = f b → a = b) : ∀ {x y : List α}, x.map f = y.map f → x = y
  | [], [], _ => rfl
  | [], _ :: _, h => by simp at h
  | _ :: _, [], h => by simp at h
  | a :: x, b :: y, h => by
    simp only [List.map_cons, List.cons.injEq] at h
    rw [hf _ _ h.1, map_inj hf h.2]
@[simp] theorem od_eq {a b : Option Nat} : od a = od b ↔ a = b := ⟨od_inj, fun h => by rw [h]⟩
@[simp] theorem op_eq' {a b : Option Int} : op a = op b ↔ a = b := ⟨op_inj, fun h => by rw [h]⟩
@[simp] theorem bxD_eq {a b : Bx} : bxD a = bxD b ↔ a = b := by
  constructor
  · intro h
    simp [bxD] at h
    exact Prod.ext h.1 h.2
  · intro h; rw [h]
@[simp] theorem yd_eq {a b : List Bx} : yd a = yd b ↔ a = b := by
  constructor
  · intro h
    simp only [yd, PyData.tuple.injEq] at h
    exact map_inj (fun a b => bxD_eq.mp) h
  · intro h; rw [h]
@[simp] theorem hD_eq {a b : List (Option Nat)} : hD a = hD b ↔ a = b := by
  constructor
  · intro h
    simp only [hD, PyData.tuple.injEq] at h
    exact map_inj (fun a b => od_inj) h
  · intro h; rw [h]
@[simp] theorem nD_eq {a b : List Nat} : nD a = nD b ↔ a = b := by
  constructor
  · intro h
    exact map_inj (fun a b e => by simp at e; omega) h
  · intro h; rw [h]
@[simp] theorem nD_len (l : List Nat) : (nD l).length = l.length := by simp [nD]
@[simp] theorem isNon_od (a : Option Nat) : isNon (od a) = a.isNone := by cases a <;> rfl
@[simp] theorem isNon_op (a : Option Int) : isNon (op a) = a.isNone := by cases a <;> rfl
@[simp] theorem isNon_int (a : Int) : isNon (.int a) = false := rfl
@[simp] theorem isNon_none : isNon .none = true := rfl
@[simp] theorem flat_od (a : Option Nat) : flatD (od a) = true := by cases a <;> rfl
@[simp] theorem flat_op (a : Option Int) : flatD (op a) = true := by cases a <;> rfl
@[simp] theorem flat_int (a : Int) : flatD (.int a) = true := rfl
@[simp] theorem flat_none : flatD .none = true := rfl
@[simp] theorem flat_str (a : Str) : flatD (.str a) = true := rfl
@[simp] theorem flat_nD (l : List Nat) : (nD l).all flatD = true := by simp [nD]
@[simp] theorem flat_hD (l : List (Option Nat)) : (l.map od).all flatD = true := by simp
@[simp] theorem eqv_ii (a b : Int) : PyData.eqv (.int a) (.int b) = decide (a = b) := by
  show (a == b) = _
  by_cases h : a = b <;> simp [h]
@[simp] theorem eqv_oo (a b : Option Nat) : PyData.eqv (od a) (od b) = decide (a = b) := by
  cases a <;> cases b <;> simp [od] <;> first | rfl | omega
@[simp] theorem eqv_oi (a : Option Nat) (b : Int) : PyData.eqv (od a) (.int b) = decide (a.map (fun k => (k : Int)) = some b) := by
  cases a <;> simp [od] <;> rfl
@[simp] theorem in_nD (k : Nat) (l : List Nat) : inD (.int (k : Int)) (nD l) = decide (k ∈ l) := by
  unfold inD nD
  induction l with
  | nil => rfl
  | cons a l ih =>
    simp only [List.map_cons, List.any_cons, eqv_ii, ih, List.mem_cons]
    by_cases h : (a : Int) = k
    · simp [h]; left; omega
    · have : ¬ k = a := by omega
      simp [h, this]
@[simp] theorem atI_nat' {α : Type} (ds : List α) (k : Nat) : atI ds (k : Int) = ds[k]? := by
  cases h : ds[k]? with
  | some v => exact atI_nat h
  | none =>
    have : ds.length ≤ k := by simpa using h
    unfold atI ixN
    rw [if_pos (by omega), if_neg (by omega)]
    rfl
@[simp] theorem atI_two {α : Type} (ds : List α) : atI ds 2 = ds[2]? := atI_nat' ds 2
@[simp] theorem atI_three {α : Type} (ds : List α) : atI ds 3 = ds[3]? := atI_nat' ds 3
@[simp] theorem atI_zero {α : Type} (ds : List α) : atI ds 0 = ds[0]? := atI_nat' ds 0
@[simp] theorem atI_one {α : Type} (ds : List α) : atI ds 1 = ds[1]? := atI_nat' ds 1
@[simp] theorem shaped_int (i : Int) : SeqAt.shaped (.int i) = true := rfl
@[simp] theorem shaped_none : SeqAt.shaped .none = true := rfl
@[simp] theorem shaped_od (i : Option Nat) : SeqAt.shaped (od i) = true := by cases i <;> rfl
@[simp] theorem shaped_op (i : Option Int) : SeqAt.shaped (op i) = true := by cases i <;> rfl
@[simp] theorem vw_int (i : Int) (M : Mem) : vw (.int i) M = .int i := rfl
@[simp] theorem vw_none (M : Mem) : vw .none M = .none := rfl
@[simp] theorem vw_od (i : Option Nat) (M : Mem) : vw (od i) M = od i := by cases i <;> rfl
@[simp] theorem vw_op (i : Option Int) (M : Mem) : vw (op i) M = op i := by cases i <;> rfl
@[simp] theorem vw_tup (l : List Dat) (M : Mem) : vw (.tuple l) M = .tuple l := rfl
@[simp] theorem vw_list (l : List Dat) (M : Mem) : vw (.list l) M = .list l := rfl
@[simp high] theorem rf_eq {p q : Nat} : (rf p = rf q) ↔ p = q := by
  constructor
  · intro h
    simp only [rf, PyData.dict.injEq, List.cons.injEq, Prod.mk.injEq, PyData.int.injEq, Int.ofNat.injEq, and_true] at h
    exact h
  · intro h; rw [h]
@[simp] theorem mup_app {M : Mem} {a b : Nat} {o : MO} : mup M a o b = if b = a then some o else M b := rfl
@[simp] theorem mup_twice {M : Mem} {a : Nat} {o u : MO} : mup (mup M a o) a u = mup M a u := mup_mup
def frz (d : Dat) (M : Mem) (Q : DQ) : Prop := match d with
  | .dict [(.int (Int.ofNat p), .none)] => (match M p with
    | some (.lst ds) => Q (.list ds) (mdel M p)
    | _ => False)
  | _ => False
@[simp] theorem f_frz (a : DE) (ρ : Rho) (M : Mem) (Q : DQ) (E : XQ) : dFrz a ρ M Q E = a ρ M (fun d M1 => frz d M1 Q) E := rfl
@[simp] theorem f_frz2 (p : Nat) (M : Mem) (Q : DQ) : frz (rf p) M Q = (match M p with | some (.lst ds) => Q (.list ds) (mdel M p) | _ => False) := rfl
@[simp] theorem f_lst (p : Nat) (M : Mem) : lstOf (rf p) M = (match M p with | some (.lst ds) => some ds | _ => none) := rfl
@[simp] theorem f_vw (p : Nat) (M : Mem) : vw (rf p) M = (match M p with | some (.lst ds) => .list ds | _ => rf p) := rfl
@[simp] theorem f_len (p : Nat) (M : Mem) (Q : DQ) : gLen [rf p] M Q = (match lstOf (rf p) M with | some xs => Q (.int xs.length) M | none => False) := rfl
@[simp] theorem f_tup (p : Nat) (M : Mem) (Q : DQ) : gTupOf [rf p] M Q = (match lstOf (rf p) M with | some xs => Q (.tuple xs) M | none => False) := rfl
@[simp] theorem f_in (x : Dat) (p : Nat) (M : Mem) (Q : DQ) : gIn x (rf p) M Q = (match lstOf (rf p) M with | some ys => (flatD x = true ∧ ys.all flatD = true) ∧ Q (.bool (inD x ys)) M | none => False) := rfl
@[simp] theorem f_notin (x : Dat) (p : Nat) (M : Mem) (Q : DQ) : gNotIn x (rf p) M Q = (match lstOf (rf p) M with | some ys => (flatD x = true ∧ ys.all flatD = true) ∧ Q (.bool (!inD x ys)) M | none => False) := rfl
@[simp] theorem f_ix (p : Nat) (i : Int) (M : Mem) (Q : DQ) : gIx (rf p) (.int i) M Q = (match lstOf (rf p) M with | some ds => (match atI ds i with | some d => Q d M | none => False) | none => False) := rfl
@[simp] theorem f_sl (p : Nat) (lo hi : Option Int) (M : Mem) (Q : DQ) : gSl (rf p) lo hi M Q = (match lstOf (rf p) M with | some ds => Q (.list (cutD ds lo hi)) M | none => False) := rfl
@[simp] theorem f_tyL (d : Dat) (M : Mem) : tyL d M = ((lstOf d M).isSome = true) := rfl
@[simp] theorem f_repL (p : Nat) (k : Int) (M : Mem) (Q : DQ) : gRepL (rf p) (.int k) M Q = (match M p with | some (.lst a) => (-(2 ^ 63) ≤ k ∧ k < 2 ^ 63 ∧ a.length * k.toNat ≤ sizeLine) ∧ ∀ q, M q = none → Q (rf q) (mup M q (.lst (List.replicate k.toNat a).flatten)) | _ => False) := rfl
@[simp] theorem f_app (d y : Dat) (M : Mem) (Q : DQ) : gAppend d [y] M Q = ∃ p xs, d = rf p ∧ M p = some (.lst xs) ∧ xs.length < sizeLine ∧ Q .none (mup M p (.lst (xs ++ [y]))) := by
  apply propext
  constructor
  · rintro ⟨p, xs, y', h1, h2, h3⟩
    cases h2
    exact ⟨p, xs, h1, h3⟩
  · rintro ⟨p, xs, h⟩
    exact ⟨p, xs, y, h.1, rfl, h.2⟩
theorem od_ix (h : List (Option Nat)) (k : Nat) : (h.map od)[k]? = (h[k]?).map od := List.getElem?_map
@[simp] theorem flat_mem (l : List Nat) : (∀ x, x ∈ nD l → flatD x = true) = True := by
  simp only [eq_iff_iff, iff_true]
  intro x hx
  obtain ⟨k, _, rfl⟩ := List.mem_map.mp hx
  rfl
def sh (n : Nat) (d : Dat) : Prop := d.canLay0 = true ∧ d.depth ≤ n
theorem sh_all {n : Nat} : ∀ {l : List Dat}, (∀ x ∈ l, sh n x) → PyData.canLayAll0 l = true ∧ PyData.depthAll l ≤ n
  | [], _ => ⟨rfl, Nat.zero_le _⟩
  | x :: l, h => by
    obtain ⟨h1, h2⟩ := h x (by simp)
    obtain ⟨h3, h4⟩ := sh_all (l := l) fun y hy => h y (by simp [hy])
    refine ⟨?_, ?_⟩
    · show (PyData.canLay0 x && PyData.canLayAll0 l) = true
      rw [h1, h3]; rfl
    · show max (PyData.depth x) (PyData.depthAll l) ≤ n
      omega
theorem sh_tup {n : Nat} {l : List Dat} (h : ∀ x ∈ l, sh n x) : sh (n + 1) (.tuple l) := by
  obtain ⟨h1, h2⟩ := sh_all h
  refine ⟨by unfold PyData.canLay0; exact h1, ?_⟩
  show PyData.depthAll l + 1 ≤ n + 1
  omega
theorem sh_list {n : Nat} {l : List Dat} (h : ∀ x ∈ l, sh n x) : sh (n + 1) (.list l) := by
  obtain ⟨h1, h2⟩ := sh_all h
  refine ⟨by unfold PyData.canLay0; exact h1, ?_⟩
  show PyData.depthAll l + 1 ≤ n + 1
  omega
theorem sh_od (n : Nat) (o : Option Nat) : sh n (od o) := by cases o <;> exact ⟨rfl, Nat.zero_le _⟩
theorem sh_op (n : Nat) (o : Option Int) : sh n (op o) := by cases o <;> exact ⟨rfl, Nat.zero_le _⟩
theorem sh_int (n : Nat) (o : Int) : sh n (.int o) := ⟨rfl, Nat.zero_le _⟩
theorem sh_bxD (n : Nat) (b : Bx) : sh (n + 1) (bxD b) := sh_tup (by simp [sh_od, sh_op])
theorem sh_yd (n : Nat) (y : List Bx) : sh (n + 2) (yd y) := sh_tup (by
  intro x hx
  obtain ⟨b, _, rfl⟩ := List.mem_map.mp hx
  exact sh_bxD n b)
theorem sh_hD (n : Nat) (h : List (Option Nat)) : sh (n + 1) (hD h) := sh_tup (by
  intro x hx
  obtain ⟨b, _, rfl⟩ := List.mem_map.mp hx
  exact sh_od n b)
theorem sh_nD (n : Nat) (l : List Nat) : sh (n + 1) (.list (nD l)) := sh_list (by
  intro x hx
  obtain ⟨b, _, rfl⟩ := List.mem_map.mp hx
  exact sh_int n _)
theorem sh.shaped {n : Nat} {d : Dat} (h : sh n d) (hn : n ≤ 64) : SeqAt.shaped d = true := by
  unfold SeqAt.shaped
  rw [h.1, Bool.true_and]
  exact decide_eq_true (Nat.le_trans h.2 hn)
@[simp] theorem shaped_yd (y : List Bx) : SeqAt.shaped (yd y) = true := (sh_yd 0 y).shaped (by decide)
@[simp] theorem shaped_hD (y : List (Option Nat)) : SeqAt.shaped (hD y) = true := (sh_hD 0 y).shaped (by decide)
@[simp] theorem shaped_nD (y : List Nat) : SeqAt.shaped (.list (nD y)) = true := (sh_nD 0 y).shaped (by decide)
@[simp] theorem shaped_nil : SeqAt.shaped (.tuple []) = true := rfl
@[simp] theorem shaped_lnil : SeqAt.shaped (.list []) = true := rfl
@[simp] theorem isTy_od (T : TyN) (o : Option Nat) (M : Mem) : isTy T (od o) M = some (match o with | none => false | some _ => (match T with | .int => true | _ => false)) := by cases o <;> rfl
def sqD (d : Dat) (M : Mem) (Q : List Dat → Mem → Prop) : Prop := match d with
  | .list ds => Q ds M
  | .tuple ds => Q ds M
  | _ => False
def enD (ds : List Dat) (M : Mem) (Q : List Dat → Mem → Prop) : Prop := match ds with
  | [.list ds] => Q (enumD 0 ds) M
  | [.tuple ds] => Q (enumD 0 ds) M
  | _ => False
def tpD (n : Nat) (g : DGs) (d : Dat) (ρ : Rho) (M : Mem) (Q : Rho → Mem → Prop) : Prop := match d with
  | .tuple ds => ds.length = n ∧ g ds ρ M Q
  | _ => False
def zpD (ds : List Dat) (M : Mem) (Q : List Dat → Mem → Prop) : Prop := match ds with
  | [.list ds, .list es] => Q (zipD ds es) M
  | [.tuple ds, .tuple es] => Q (zipD ds es) M
  | _ => False
@[simp] theorem v_zp (a : DA) (ρ : Rho) (M : Mem) (Q : List Dat → Mem → Prop) (E : XQ) : iZipD a ρ M Q E = a ρ M (fun d M1 => zpD d M1 Q) E := rfl
@[simp] theorem v_sq (a : DE) (ρ : Rho) (M : Mem) (Q : List Dat → Mem → Prop) (E : XQ) : iSeqD a ρ M Q E = a ρ M (fun d M1 => sqD d M1 Q) E := rfl
@[simp] theorem v_en (a : DA) (ρ : Rho) (M : Mem) (Q : List Dat → Mem → Prop) (E : XQ) : iEnumD a ρ M Q E = a ρ M (fun d M1 => enD d M1 Q) E := rfl
@[simp] theorem v_tp (n : Nat) (g : DGs) (d : Dat) (ρ : Rho) (M : Mem) (Q : Rho → Mem → Prop) : gTupD n g d ρ M Q = tpD n g d ρ M Q := rfl
section
variable (M : Mem) (Q : DQ) (R : List Dat → Mem → Prop) (ds es : List Dat) (h h' : List (Option Nat)) (y y' : List Bx) (b : Bx) (k : Nat)
@[simp] theorem w_sq1 : sqD (.list ds) M R = R ds M := rfl
@[simp] theorem w_sq2 : sqD (.tuple ds) M R = R ds M := rfl
@[simp] theorem w_sq3 : sqD (hD h) M R = R (h.map od) M := rfl
@[simp] theorem w_sq4 : sqD (yd y) M R = R (y.map bxD) M := rfl
@[simp] theorem w_en1 : enD [.list ds] M R = R (enumD 0 ds) M := rfl
@[simp] theorem w_en2 : enD [.tuple ds] M R = R (enumD 0 ds) M := rfl
@[simp] theorem w_en3 : enD [hD h] M R = R (enumD 0 (h.map od)) M := rfl
@[simp] theorem w_en4 : enD [yd y] M R = R (enumD 0 (y.map bxD)) M := rfl
@[simp] theorem w_tp1 (n : Nat) (g : DGs) (ρ : Rho) (S : Rho → Mem → Prop) : tpD n g (.tuple ds) ρ M S = (ds.length = n ∧ g ds ρ M S) := rfl
@[simp] theorem w_tp2 (g : DGs) (ρ : Rho) (S : Rho → Mem → Prop) : tpD 2 g (bxD b) ρ M S = g [op b.1, od b.2] ρ M S := by
  show (_ ∧ _) = _
  simp
@[simp] theorem w_len1 : gLen [hD h] M Q = Q (.int h.length) M := by
  show Q (.int ((h.map od).length : Nat)) M = _
  rw [List.length_map]
@[simp] theorem w_len2 : gLen [yd y] M Q = Q (.int y.length) M := by
  show Q (.int ((y.map bxD).length : Nat)) M = _
  rw [List.length_map]
@[simp] theorem w_len3 : gLen [bxD b] M Q = Q (.int 2) M := rfl
@[simp] theorem w_tup1 : gTupOf [hD h] M Q = Q (hD h) M := rfl
@[simp] theorem w_ix1 : gIx (hD h) (.int (k : Int)) M Q = (match h[k]? with | some o => Q (od o) M | none => False) := by
  show (match atI (h.map od) (k : Int) with | some d => Q d M | none => False) = _
  rw [atI_nat', List.getElem?_map]
  cases h[k]? <;> rfl
@[simp] theorem w_ix2 : gIx (yd y) (.int (k : Int)) M Q = (match y[k]? with | some o => Q (bxD o) M | none => False) := by
  show (match atI (y.map bxD) (k : Int) with | some d => Q d M | none => False) = _
  rw [atI_nat', List.getElem?_map]
  cases y[k]? <;> rfl
@[simp] theorem w_ix3 : gIx (bxD b) (.int 0) M Q = Q (op b.1) M := rfl
@[simp] theorem w_ix4 : gIx (bxD b) (.int 1) M Q = Q (od b.2) M := rfl
@[simp] theorem w_ix5 (l : List Nat) : gIx (.list (nD l)) (.int (k : Int)) M Q = (match l[k]? with | some o => Q (.int (o : Int)) M | none => False) := by
  show (match atI (l.map fun (k : Nat) => PyData.int (k : Int)) (k : Int) with | some d => Q d M | none => False) = _
  rw [atI_nat', List.getElem?_map]
  cases l[k]? <;> rfl
@[simp] theorem w_add1 : gAdd (hD h) (hD h') M Q = (h.length + h'.length ≤ sizeLine ∧ Q (hD (h ++ h')) M) := by
  show ((h.map od).length + (h'.map od).length ≤ sizeLine ∧ Q (.tuple (h.map od ++ h'.map od)) M) = _
  rw [List.length_map, List.length_map, ← List.map_append]; rfl
@[simp] theorem w_add2 : gAdd (yd y) (yd y') M Q = (y.length + y'.length ≤ sizeLine ∧ Q (yd (y ++ y')) M) := by
  show ((y.map bxD).length + (y'.map bxD).length ≤ sizeLine ∧ Q (.tuple (y.map bxD ++ y'.map bxD)) M) = _
  rw [List.length_map, List.length_map, ← List.map_append]; rfl
@[simp] theorem w_add3 (o : Option Nat) : gAdd (hD h) (.tuple [od o]) M Q = (h.length + 1 ≤ sizeLine ∧ Q (hD (h ++ [o])) M) := w_add1 M Q h [o]
@[simp] theorem w_add4 : gAdd (yd y) (.tuple [bxD b]) M Q = (y.length + 1 ≤ sizeLine ∧ Q (yd (y ++ [b])) M) := w_add2 M Q y [b]
@[simp] theorem w_add5 (p : Option Int) (o : Option Nat) : gAdd (yd y) (.tuple [.tuple [op p, od o]]) M Q = (y.length + 1 ≤ sizeLine ∧ Q (yd (y ++ [(p, o)])) M) := w_add2 M Q y [(p, o)]
theorem cut_map {α β : Type} (f : α → β) (l : List α) (lo hi : Option Int) : cutD (l.map f) lo hi = (cutD l lo hi).map f := by
  unfold cutD
  rw [List.length_map, List.map_take, List.map_drop]
@[simp] theorem w_sl1 (lo hi : Option Int) : gSl (hD h) lo hi M Q = Q (hD (cutD h lo hi)) M := by
  show Q (.tuple (cutD (h.map od) lo hi)) M = _
  rw [cut_map]; rfl
@[simp] theorem w_sl2 (lo hi : Option Int) : gSl (yd y) lo hi M Q = Q (yd (cutD y lo hi)) M := by
  show Q (.tuple (cutD (y.map bxD) lo hi)) M = _
  rw [cut_map]; rfl
@[simp] theorem w_ty1 (T : TyN) : isTy T (hD h) M = some (match T with | .tuple => true | _ => false) := rfl
@[simp] theorem w_ty2 (T : TyN) : isTy T (yd y) M = some (match T with | .tuple => true | _ => false) := rfl
@[simp] theorem w_ty3 (T : TyN) : isTy T (bxD b) M = some (match T with | .tuple => true | _ => false) := rfl
@[simp] theorem w_vw1 : vw (hD h) M = hD h := rfl
@[simp] theorem w_vw2 : vw (yd y) M = yd y := rfl
@[simp] theorem w_vw3 : vw (bxD b) M = bxD b := rfl
end
@[simp] theorem cut_take {α : Type} (l : List α) (k : Nat) : cutD l none (some (k : Int)) = l.take k := by
  unfold cutD
  rw [HT.sIx_none, HT.sIx_nat, List.drop_zero, Nat.sub_zero]
  by_cases h : k ≤ l.length
  · rw [Nat.min_eq_left h]
  · rw [Nat.min_eq_right (by omega), List.take_length, List.take_of_length_le (by omega)]
@[simp] theorem cut_drop {α : Type} (l : List α) (k : Nat) : cutD l (some (k : Int)) none = l.drop k := by
  unfold cutD
  rw [HT.sIx_none, HT.sIx_nat]
  by_cases h : k ≤ l.length
  · rw [Nat.min_eq_left h, List.take_of_length_le (by rw [List.length_drop]; omega)]
  · rw [Nat.min_eq_right (by omega), List.drop_of_length_le (Nat.le_refl _), List.drop_of_length_le (by omega)]; simp
@[simp] theorem cut_drop1 {α : Type} (l : List α) (k : Nat) : cutD l (some ((k : Int) + 1)) none = l.drop (k + 1) := cut_drop l (k + 1)
def prB (p : Option Int) : Bool := p.all fun a => decide (1 ≤ a ∧ a ≤ 99)
def hoB (o : Option Nat) (n : Int) : Bool := o.all fun k => decide ((k : Int) ≤ n - 1)
theorem sizeLine_eq : sizeLine = 16777216 := rfl
end Nb
set_option Elab.async false
set_option linter.all false
set_option maxRecDepth 100000
set_option maxHeartbeats 1000000
set_option autoImplicit false
namespace Nb
/-! ### chains of holders -/
abbrev Hld := List (Option Nat)
inductive Ch (h : Hld) : Option Nat → List Nat → Prop
  | nil : Ch h none []
  | cons {i : Nat} {o : Option Nat} {l : List Nat} : h[i]? = some o → Ch h o l → Ch h (some i) (i :: l)
theorem Ch.det {h : Hld} {o : Option Nat} {l l' : List Nat} (a : Ch h o l) (b : Ch h o l') : l = l' := by
  induction a generalizing l' with
  | nil => cases b; rfl
  | cons e _ ih =>
    cases b with
    | cons e' b' =>
      rw [e] at e'; cases e'
      rw [ih b']
theorem Ch.suf {h : Hld} {o : Option Nat} {l : List Nat} (a : Ch h o l) {j : Nat} (hj : j ∈ l) : ∃ l', Ch h (some j) l' ∧ l'.length ≤ l.length := by
  induction a with
  | nil => cases hj
  | @cons i o l e c ih =>
    rcases List.mem_cons.mp hj with z | z
    · subst z; exact ⟨_, .cons e c, Nat.le_refl _⟩
    · obtain ⟨l', h1, h2⟩ := ih z
      exact ⟨l', h1, by simp; omega⟩
theorem Ch.nodup {h : Hld} {o : Option Nat} {l : List Nat} (a : Ch h o l) : l.Nodup := by
  induction a with
  | nil => exact List.nodup_nil
  | @cons i o l e c ih =>
    refine List.nodup_cons.mpr ⟨fun hm => ?_, ih⟩
    obtain ⟨l', h1, h2⟩ := c.suf hm
    have := h1.det (Ch.cons e c)
    subst this
    simp at h2
    omega
theorem Ch.lt {h : Hld} {o : Option Nat} {l : List Nat} (a : Ch h o l) : ∀ j ∈ l, j < h.length := by
  induction a with
  | nil => intro j hj; cases hj
  | cons e c ih =>
    intro j hj
    rcases List.mem_cons.mp hj with z | z
    · subst z; exact (List.getElem?_eq_some_iff.mp e).1
    · exact ih j z
theorem pigeon {l : List Nat} (nd : l.Nodup) {n : Nat} (h : ∀ j ∈ l, j < n) : l.length ≤ n := by
  induction n generalizing l with
  | zero =>
    cases l with
    | nil => simp
    | cons a l => exact absurd (h a (by simp)) (by omega)
  | succ n ih =>
    have h1 : (l.filter (· != n)).length ≤ n := ih (nd.filter _) fun j hj => by
      obtain ⟨h1, h2⟩ := List.mem_filter.mp hj
      have := h j h1
      simp at h2
      omega
    have h2 : l.length ≤ (l.filter (· != n)).length + 1 := by
      clear ih h h1
      induction l with
      | nil => simp
      | cons a l ih =>
        obtain ⟨ha, nd'⟩ := List.nodup_cons.mp nd
        by_cases e : a = n
        · subst e
          have : l.filter (· != a) = l := List.filter_eq_self.mpr fun x hx => by
            have : x ≠ a := fun z => ha (z ▸ hx)
            simp [this]
          simp [this]
        · have := ih nd'
          simp [e]
          omega
    omega
theorem Ch.len {h : Hld} {o : Option Nat} {l : List Nat} (a : Ch h o l) : l.length ≤ h.length := pigeon a.nodup a.lt
/-- nothing is inside itself -/
def Acy (h : Hld) : Prop := ∀ i, i < h.length → ∃ l, Ch h (some i) l
theorem Acy.at {h : Hld} (a : Acy h) {i : Nat} {o : Option Nat} (e : h[i]? = some o) : ∃ l, Ch h o l := by
  obtain ⟨l, c⟩ := a i (List.getElem?_eq_some_iff.mp e).1
  cases c with
  | cons e' c' =>
    rw [e] at e'; cases e'
    exact ⟨_, c'⟩
theorem Acy.lt {h : Hld} (a : Acy h) {i j : Nat} (e : h[i]? = some (some j)) : j < h.length := by
  obtain ⟨l, c⟩ := a.at e
  cases c with
  | cons e' _ => exact (List.getElem?_eq_some_iff.mp e').1
theorem Ch.set {h : Hld} {o : Option Nat} {l : List Nat} (a : Ch h o l) {b : Nat} {t : Option Nat} (hb : b ∉ l) : Ch (h.set b t) o l := by
  induction a with
  | nil => exact .nil
  | @cons i o l e c ih =>
    have h1 : b ≠ i := fun z => hb (by simp [z])
    exact .cons (by rw [List.getElem?_set_ne h1]; exact e) (ih fun z => hb (by simp [z]))
theorem Ch.set_any {h : Hld} {o : Option Nat} {l : List Nat} (a : Ch h o l) {b : Nat} {t : Option Nat} {lt : List Nat} (c : Ch h t lt) (hb : b ∉ lt) : ∃ l', Ch (h.set b t) o l' := by
  induction a with
  | nil => exact ⟨_, .nil⟩
  | @cons i o l e ci ih =>
    by_cases z : b = i
    · subst z
      exact ⟨_, .cons (by rw [List.getElem?_set_self (List.getElem?_eq_some_iff.mp e).1]) (c.set hb)⟩
    · obtain ⟨l', c'⟩ := ih
      exact ⟨_, .cons (by rw [List.getElem?_set_ne z]; exact e) c'⟩
theorem Acy.set {h : Hld} (a : Acy h) {b : Nat} {t : Option Nat} {lt : List Nat} (c : Ch h t lt) (hb : b ∉ lt) : Acy (h.set b t) := fun i hi => by
  rw [List.length_set] at hi
  obtain ⟨l, ci⟩ := a i hi
  exact ci.set_any c hb
theorem Acy.none (n : Nat) : Acy (List.replicate n none) := fun i hi => by
  rw [List.length_replicate] at hi
  exact ⟨[i], .cons (by rw [List.getElem?_replicate, if_pos hi]) .nil⟩
/-- a yard as the law draws it -/
structure Yok (y : List Bx) : Prop where
  pos : 0 < y.length
  le : y.length ≤ 12
  pr : ∀ b ∈ y, ∀ p, b.1 = some p → 1 ≤ p ∧ p ≤ 99
  ac : Acy (hold y)
end Nb
set_option Elab.async false
set_option linter.all false
set_option maxRecDepth 100000
set_option maxHeartbeats 1000000
set_option autoImplicit false
namespace Nb
open PySem PySem.Spec PyProof.Rows L2
/-! ### dicts whose keys are nestings -/
theorem room1 {k : Nat} {A : Around} (r : Room k A) : A.units + 1 < cLine := by have := room65 r; omega
abbrev lkind (P : Program) (w : World) := tupleKind (leafKind P w)
theorem lf_inj {a b : Option Nat} (h : lf a = lf b) : a = b := by
  cases a <;> cases b <;> simp [lf] at h <;> simp <;> omega
theorem lfs_inj : ∀ {a b : HK}, a.map lf = b.map lf → a = b
  | [], [], _ => rfl
  | [], _ :: _, h => by simp at h
  | _ :: _, [], h => by simp at h
  | a :: as, b :: bs, h => by
    simp only [List.map_cons, List.cons.injEq] at h
    rw [lf_inj h.1, lfs_inj h.2]
theorem hash_none (w : World) : NestedKey.hash w .none = reduceHash 0xFCA86420 := by rw [NestedKey.hash]
theorem hash_num (w : World) (i : Int) : NestedKey.hash w (.num i) = hashInt i := by rw [NestedKey.hash]
theorem hl_none : hLf .none = reduceHash 0xFCA86420 := by rw [hLf]
theorem hl_num (i : Int) : hLf (.num i) = hashInt i := by rw [hLf]
theorem lk_hash (P : Program) (w : World) (l : Leaf) : (leafKind P w).hash l = l.key.hash w := by rw [leafKind]
theorem lf_hash (P : Program) (w : World) (o : Option Nat) : (leafKind P w).hash (lf o) = hLf (lf o) := by
  cases o with
  | none =>
    rw [lk_hash]
    have e : (lf none).key = NestedKey.none := rfl
    rw [e, hash_none]
    exact hl_none.symm
  | some k =>
    rw [lk_hash]
    have e : (lf (some k)).key = NestedKey.num (k : Int) := rfl
    rw [e, hash_num]
    exact (hl_num _).symm
theorem tk_hash (P : Program) (w : World) (ks : List Leaf) : (lkind P w).hash ks = tupleKeyHash (leafKind P w) ks := rfl
theorem hash_lfs (P : Program) (w : World) (h : HK) : (lkind P w).hash (h.map lf) = hashL (h.map lf) := by
  rw [tk_hash, tupleKeyHash, hashL]
  have e : (h.map lf).map (leafKind P w).hash = (h.map lf).map hLf := by
    rw [List.map_map, List.map_map]
    exact List.map_congr_left fun o _ => lf_hash P w o
  rw [e]
theorem ent_one (P : Program) (w : World) (h : HK) (q : Addr × Value) : entryOfKey (lkind P w) (h.map lf, q) = entL (h.map lf, q) := by
  rw [entryOfKey, entL, hash_lfs]
theorem ent_ok {K : PySem.W.Frag} {F : Hp} (P : Program) (w : World) {kvs : List (HK × Int)} {xs : List (List Leaf × Addr × Value)} (h : DcP K F kvs xs) : xs.map (entryOfKey (lkind P w)) = xs.map entL := by
  induction h with
  | nil => rw [List.map_nil, List.map_nil]
  | @cons p q ps qs r t ih =>
    obtain ⟨q1, q2⟩ := q
    obtain ⟨r1, _⟩ := r
    have r1 : q1 = p.1.map lf := r1
    subst r1
    rw [List.map_cons, List.map_cons, ih]
    exact congrArg (fun z => z :: _) (ent_one P w p.1 q2)
def lkD (kvs : List (HK × Int)) (h : HK) : Option Int := (kvs.find? fun p => decide (p.1 = h)).map (·.2)
def putD (kvs : List (HK × Int)) (h : HK) (i : Int) : List (HK × Int) := if (lkD kvs h).isSome then kvs.map fun p => if p.1 = h then (p.1, i) else p else kvs ++ [(h, i)]
theorem putD_len (kvs : List (HK × Int)) (h : HK) (i : Int) : (putD kvs h i).length ≤ kvs.length + 1 := by
  unfold putD
  split <;> simp
section
variable {K : PySem.W.Frag} {F : Hp} {kvs : List (HK × Int)} {xs : List (List Leaf × Addr × Value)}
theorem DcP.look (r : DcP K F kvs xs) (h : HK) : RelO ((lkD kvs h).map V.int) ((atKey xs (h.map lf)).map (·.2)) := by
  induction r with
  | nil => exact True.intro
  | @cons p q ps qs r t ih =>
    unfold lkD atKey at ih ⊢
    by_cases e : p.1 = h
    · have e2 : q.1 = h.map lf := by rw [r.1, e]
      simp only [List.find?_cons, e, e2, decide_true, Option.map_some]
      exact r.2.2
    · have e2 : ¬ q.1 = h.map lf := fun z => e (lfs_inj (r.1.symm.trans z))
      simp only [List.find?_cons, e, e2, decide_false]
      exact ih
theorem DcP.some_iff (r : DcP K F kvs xs) (h : HK) : (lkD kvs h).isSome = (atKey xs (h.map lf)).isSome := by
  have q := (r.look h).isSome_eq
  rw [Option.isSome_map, Option.isSome_map] at q
  exact q
theorem DcP.repl (r : DcP K F kvs xs) (h : HK) {i : Int} {u : Value} (ru : RelV (.int i) u) : DcP K F (kvs.map fun p => if p.1 = h then (p.1, i) else p) (xs.map (PySem.putAt (h.map lf) u)) := by
  induction r with
  | nil => exact .nil
  | @cons p q ps qs r t ih =>
    refine .cons ?_ ih
    by_cases e : p.1 = h
    · have e2 : q.1 = h.map lf := by rw [r.1, e]
      unfold PySem.putAt
      dsimp only
      rw [if_pos e, if_pos e2]
      exact ⟨r.1, r.2.1, ru⟩
    · have e2 : ¬ q.1 = h.map lf := fun z => e (lfs_inj (r.1.symm.trans z))
      unfold PySem.putAt
      dsimp only
      rw [if_neg e, if_neg e2]
      exact r
theorem paired_snoc {α β : Type} {G : α → β → Prop} {a : α} {b : β} (hab : G a b) : ∀ {l : List α} {m : List β}, Paired G l m → Paired G (l ++ [a]) (m ++ [b])
  | _, _, .nil => .cons hab .nil
  | _, _, .cons r t => .cons r (paired_snoc hab t)
theorem DcP.put (r : DcP K F kvs xs) {h : HK} {i : Int} {u : Value} {b : Addr} (rk : Rp K F (.tuple (h.map od)) (.ref b)) (ru : RelV (.int i) u) : DcP K F (putD kvs h i) (storedH xs (h.map lf) b u) := by
  unfold putD storedH
  rw [r.some_iff h]
  split
  · exact r.repl h ru
  · exact paired_snoc (G := fun p q => q.1 = p.1.map lf ∧ Rp K F (.tuple (p.1.map od)) (.ref q.2.1) ∧ RelV (.int p.2) q.2.2) (a := (h, i)) (b := (h.map lf, b, u)) ⟨rfl, rk, ru⟩ r
end
section
variable {X : Cx} {pins : List (Addr × Obj)} {σ : L2.St} {H F : Hp} {M : Mem} {s : Shared} {a b : Addr}
theorem items_lf {P : Program} {w : World} {K : PySem.W.Frag} {F : Hp} : ∀ {h : HK} {vs : List V} {us : List Value}, RpAll K F (h.map od) vs → Vals vs us → ItemsAre (leafKind P w) (h.map lf) us
  | [], vs, us, t, r => by
    rw [List.map_nil] at t
    obtain rfl := t.nil_inv
    cases r
    exact .nil
  | o :: h, vs, us, t, r => by
    rw [List.map_cons] at t
    obtain ⟨v, vs', rfl, h1, t'⟩ := t.inv
    cases r with
    | cons r1 rr =>
      refine .cons ?_ (items_lf t' rr)
      cases o with
      | none =>
        have e : v = .non := Rp.non.mp h1
        subst e
        have e2 : _ = Value.none := r1
        rw [e2]
        rfl
      | some k =>
        have e : v = .int (k : Int) := Rp.int.mp h1
        subst e
        obtain ⟨tk, e2⟩ := r1
        rw [e2]
        show decide ((k : Int) = (k : Int)) = true
        exact decide_eq_true rfl
theorem key_lf (I : Inv X pins σ H s) (rp : Rpr X.K X.mg H F M) {h : HK} (r : Rp X.K F (.tuple (h.map od)) (.ref b)) : (lkind X.prog X.w).is s.heap (h.map lf) b := by
  obtain ⟨a, vs, e, q, t⟩ := Rp.tup.mp r
  cases e
  obtain ⟨its, rv, ⟨o, ho, hc, n, hd⟩, hz⟩ := I.tuple (Same.seqT rp.sub q)
  exact ⟨o, its.toArray, n, ho, hc, hd, by simpa using items_lf t rv⟩
theorem dcH_of (I : Inv X pins σ H s) (rp : Rpr X.K X.mg H F M) {kvs : List (HK × Int)} {xs : List (List Leaf × Addr × Value)} (e : H a = some (DcO a xs)) (p : DcP X.K F kvs xs) :
    (a == sysModules) = false ∧ s.heap.DictOfH (lkind X.prog X.w) a xs := by
  obtain ⟨⟨h0, o, es, ep, h1, h2, h3, h4, h5⟩, _, _⟩ := I.hok a _ e
  refine ⟨h0, o, es, ep, h1, h2, h3, by rw [ent_ok _ _ p]; exact h4, fun x hx => ?_, h5⟩
  have all : ∀ {l : List (HK × Int)} {m : List (List Leaf × Addr × Value)}, DcP X.K F l m → ∀ x ∈ m, (lkind X.prog X.w).is s.heap x.1 x.2.1 := by
    intro l m q
    induction q with
    | nil => intro x hx; cases hx
    | @cons p q ps qs r t ih =>
      intro x hx
      rcases List.mem_cons.mp hx with z | z
      · subst z
        rw [r.1]
        exact key_lf I rp r.2.1
      · exact ih x z
  exact all p x hx
theorem dct_of (I : Inv X pins σ H s) (rp : Rpr X.K X.mg H F M) {kvs : List (HK × Int)} (hM : M a = some (.dct kvs)) :
    kvs.length ≤ sizeLine ∧ (a == sysModules) = false ∧ ∃ xs, H a = some (DcO a xs) ∧ DcP X.K F kvs xs ∧ s.heap.DictOfH (lkind X.prog X.w) a xs := by
  obtain ⟨_, z, xs, e, p⟩ := rp.mem a _ hM
  obtain ⟨h0, h1⟩ := dcH_of I rp e p
  exact ⟨z, h0, xs, e, p, h1⟩
theorem dcO_ok {P : Program} {w : World} {K : PySem.W.Frag} {F H' : Hp} {h' : Heap} {kvs : List (HK × Int)} {xs : List (List Leaf × Addr × Value)} (p : DcP K F kvs xs) (hd : (a == sysModules) = false) (dd : h'.DictOfH (lkind P w) a xs) : ObjOk P w H' h' a (DcO a xs) := by
  obtain ⟨o, es, ep, h1, h2, h3, h4, _, h5⟩ := dd
  refine ⟨⟨hd, o, es, ep, h1, h2, h3, by rw [← ent_ok P w p]; exact h4, h5⟩, ⟨o, h1⟩, ?_⟩
  rintro g1 g2 ⟨k0, o', es', ep', k1, k2⟩ keep
  exact ⟨k0, o', es', ep', keep _ k1, k2⟩
end
/-! {} -/
def dDctNew : DE := fun _ M Q _ => ∀ p, M p = none → Q (rf p) (mup M p (.dct []))
theorem ee_dctNew {X : Cx} {W : WX} {pos : Pos} : EE X W (.Dict [] [] pos) dDctNew := by
  refine ⟨⟨fun pins s σ H Q I h => ?_⟩⟩
  obtain ⟨F, M, ρ, Qd, Ed, rs, rp, hf, cq, cx⟩ := h
  have hn := I.hok.fresh (Nat.le_refl s.heap.objs.size)
  have hd : (s.heap.objs.size == sysModules) = false := beq_eq_false_iff_ne.mpr (Ne.symm (Nat.ne_of_lt I.big))
  have new : ObjOk X.prog X.w (upd H s.heap.objs.size (DcO s.heap.objs.size [])) (s.heap.push { cls := .type "dict", data := .dict #[] }) s.heap.objs.size (DcO s.heap.objs.size []) :=
    dcO_ok (K := X.K) (F := F) (kvs := []) .nil hd (Heap.DictOfH.new s.heap)
  refine wpAny_Dict_empty ⟨.ref s.heap.objs.size, _, I.laid (a := s.heap.objs.size) (o := DcO s.heap.objs.size []) (t' := s.toks) (fun _ _ q => Heap.get?_push_of_some _ q) (Nat.le_refl _) new, rfl, ?_⟩
  exact cq _ _ _ _ _ (Nx.live (mo := .dct []) rp hn ⟨Nat.zero_le _, [], upd_same, .nil⟩) (Rp.rf.mpr rfl) (hf _ (rp.fresh hn).2)
/-! d[k] = v -/
def gSubDD (o i : DE) : DG := fun v ρ M Q => o ρ M (fun d M1 => i ρ M1 (fun x M2 => ∃ p kvs h n, d = rf p ∧ x = .tuple (h.map od) ∧ v = .int n ∧ M2 p = some (.dct kvs) ∧ kvs.length < sizeLine ∧ Q ρ (mup M2 p (.dct (putD kvs h n)))) noX) noX
def rSetX (K : PySem.W.Frag) (mg : Str → Option Value) : V → V → V → Hp → (Hp → Prop) → Prop := fun o i v H Q => ∃ F M a kvs h n, o = .ref a ∧ Rp K F (.tuple (h.map od)) i ∧ v = .int n ∧ Rpr K mg H F M ∧ M a = some (.dct kvs) ∧ kvs.length < sizeLine ∧
  ∀ xs', DcP K F (putD kvs h n) xs' → Q (upd H a (DcO a xs'))
theorem set_dctX {X : Cx} (hu : X.A.units + 1 < cLine) : PSet X (rSetX X.K X.mg) := by
  intro pins s σ H o i v ov iv u Q I ro ri rv h
  obtain ⟨F, M, a, kvs, hk, n, rfl, rk, rfl, rp, hM, hl, q⟩ := h
  cases (show ov = Value.ref a from ro)
  obtain ⟨b, vs, e, _, _⟩ := Rp.tup.mp rk
  subst e
  cases (show iv = Value.ref b from ri)
  obtain ⟨z, hd, xs, e, p, dd⟩ := dct_of I rp hM
  have hz : xs.length ≤ sizeLine := by rw [← Paired.length p]; exact z
  refine wpAny_setItem_heap (hsz := hz) (tupleKind_room_in1 hu) (key_lf I rp rk) dd fun h' dd' hs => ?_
  have p' := p.put rk rv
  have he : ∃ q, h'.get? a = some q := let ⟨q, _, _, hq, _⟩ := dd'; ⟨q, hq⟩
  exact ⟨_, I.write (x := a) (e := a) (by rw [e]; exact True.intro) (.inl rfl) (fun b' q' hb z' => (hs.2 b' hb).trans z') he (dcO_ok p' hd dd'), q _ p'⟩
section
variable {X : Cx} {o i : Expr} {fo fi : DE} {pos : Pos}
theorem eg_subD (hu : X.A.units + 1 < cLine) (ho : EE X W0 o fo) (hi : EE X W0 i fi) (ha : ∀ v, assign (.Subscript o i pos) X.env v = (do
      let ov ← holding [v] (eval o X.env)
      let iv ← holding [v, ov] (eval i X.env)
      standAt pos
      holding [v, ov, iv] (setItem ov iv v)
      release [v, ov, iv] []) := by intro _; rfl) : EG X (.Subscript o i pos) (gSubDD fo fi) := by
  refine ⟨PG.imp (pg_sub ho.h hi.h (set_dctX hu) ha) ?_⟩
  rintro v σ H Q ⟨F, M, ρ, d, Qd, rs, rp, rv, hf, cs⟩
  refine ⟨F, M, ρ, _, _, rs, rp, hf, fun F1 H1 M1 x1 v1 n1 r1 q1 => ?_, CXd.none⟩
  refine ⟨F1, M1, ρ, _, _, rs.mono n1.same, n1.ok, q1, fun F2 H2 M2 x2 v2 n2 r2 q2 => ?_, CXd.none⟩
  obtain ⟨p, kvs, h, n, rfl, rfl, rfl, hM, hl, q2⟩ := q2
  refine ⟨F2, M2, p, kvs, h, n, Rp.rf.mp r1, r2, Rp.int.mp (rv.mono (n1.trans n2).same), n2.ok, hM, hl, fun xs' p' => ?_⟩
  have n3 := Nx.write (mo := .dct (putD kvs h n)) (o := DcO p xs') n2.ok hM ⟨by have := putD_len kvs h n; omega, xs', upd_same, p'⟩
  exact cs _ _ _ _ _ ((n1.trans n2).trans n3) (rs.mono ((n1.trans n2).trans n3).same) q2
end
end Nb
set_option Elab.async false
set_option linter.all false
set_option maxRecDepth 100000
set_option maxHeartbeats 1000000
set_option autoImplicit false
namespace Nb
open PySem PySem.Spec PyProof.Rows L2
theorem EE.go {X : Cx} {W : WX} {e : Expr} {f : DE} (h : EE X W e f) {pins : List (Addr × Obj)} {σ : L2.St} {H F : Hp} {M : Mem} {s : Shared} {ρ : Rho} {Qd : DQ} {Ed : XQ} (I : Inv X pins σ H s) (rs : Rst X.K F ρ σ) (rp : Rpr X.K X.mg H F M) (hf : f ρ M Qd Ed)
    (cx : CXd X.K X.mg F H M Ed fun c d H' => W c d σ H') : wpAny (model X.prog X.w) X.A (eval e X.env) (fun u s1 => ∃ x H1 F1 M1 d, Inv X pins σ H1 s1 ∧ L2.RelV x u ∧ Nx X.K X.mg F H M F1 H1 M1 ∧ Rp X.K F1 d x ∧ Qd d M1) X.xe s :=
  thn (h.h.run pins s σ H (fun x H1 => ∃ F1 M1 d, Nx X.K X.mg F H M F1 H1 M1 ∧ Rp X.K F1 d x ∧ Qd d M1) I ⟨F, M, ρ, Qd, Ed, rs, rp, hf, fun F1 H1 M1 d v n r q => ⟨F1, M1, d, n, r, q⟩, cx⟩)
    fun u s1 ⟨x, H1, I1, rx, F1, M1, d, n, r, q⟩ => ⟨x, H1, F1, M1, d, I1, rx, n, r, q⟩
/-! d.get(k, x) -/
def dDGet2 (fd fk fx : DE) : DE := fun ρ M Q E => fd ρ M (fun d M1 => ∃ p kvs, d = rf p ∧ M1 p = some (.dct kvs) ∧ fk ρ M1 (fun k M2 => fx ρ M2 (fun x M3 => ∃ kvs' h n, k = .tuple (h.map od) ∧ x = .int n ∧ M3 p = some (.dct kvs') ∧ Q (.int ((lkD kvs' h).getD n)) M3) E) E) E
theorem ee_dget2 {X : Cx} {W : WX} {o e f : Expr} {fd fk fx : DE} {apos cpos : Pos} (hu : X.A.units + 1 < cLine) (ho : EE X W o fd) (he : EE X W e fk) (hf' : EE X W f fx) (m : M2 X o "get" apos e f cpos := by exact ⟨rfl, rfl, rfl, rfl⟩) : EE X W (.Call (.Attribute o "get" apos) [e, f] [] cpos) (dDGet2 fd fk fx) := by
  refine ⟨⟨fun pins s σ H Q I h => ?_⟩⟩
  obtain ⟨F, M, ρ, Qd, Ed, rs, rp, hf, cq, cx⟩ := h
  refine wpAny_Call_method m.base m.few m.line PySem.F.plainAttrs_dict PySem.F.slot_dict_get PySem.F.type_dict_get (thn (ho.go I rs rp hf cx) fun u s1 ⟨x, H1, F1, M1, d, I1, rx, n1, r1, p, kvs, ed, hM, q1⟩ => ?_)
  subst ed
  obtain rfl : x = .ref p := Rp.rf.mp r1
  cases (show u = Value.ref p from rx)
  obtain ⟨z, hd, xs, e1, p1, dd⟩ := dct_of I1 n1.ok hM
  refine ⟨dd.typeIs, fun b q => ?_, ?_⟩
  · cases q
    obtain ⟨ob, _, _, h1, h2, _⟩ := dd
    exact ⟨ob, h1, h2.2.1⟩
  rw [m.trees]
  refine Calls.callWith_builtin rfl (Calls.evalArgs_plain (Calls.spliced_cons (thn (he.go I1 (rs.mono n1.same) n1.ok q1 (cx.mono n1)) fun iv s2 ⟨y, H2, F2, M2, dk, I2, ry, n2, r2, q2⟩ =>
    Calls.spliced_cons (thn (hf'.go I2 (rs.mono (n1.trans n2).same) n2.ok q2 (cx.mono (n1.trans n2))) fun fv s3 ⟨zv, H3, F3, M3, dx, I3, rz, n3, r3, q3⟩ => Calls.spliced_nil ?_))))
  obtain ⟨kvs', hk, n, rfl, rfl, hM3, q3⟩ := q3
  obtain ⟨z3, hd3, xs3, e3, p3, dd3⟩ := dct_of I3 n3.ok hM3
  have r2' := r2.mono n3.same
  obtain ⟨b, vs, eb, _, _⟩ := Rp.tup.mp r2'
  subst eb
  cases (show iv = Value.ref b from ry)
  obtain rfl : zv = .int n := Rp.int.mp r3
  refine call_meetsIn PySem.F.slot_dict_get dd3.typeIs PySem.F.entry_dict_get (PySem.F.args_dict_get_3 _ _ _) (meetsH_dict_get_default (lkind X.prog X.w) p b hd3 fv) ⟨tupleKind_room_in1 hu, hk.map lf, xs3, key_lf I3 n3.ok r2', dd3, ?_⟩
  have g := (p3.look hk).getD rz
  have eg : ((lkD kvs' hk).map V.int).getD (.int n) = .int ((lkD kvs' hk).getD n) := by cases lkD kvs' hk <;> rfl
  rw [eg] at g
  exact ⟨_, H3, I3.tok _, g, cq _ _ _ _ _ ((n1.trans n2).trans n3) (Rp.int.mpr rfl) q3⟩
/-! {k: v} -/
def dDct1 (fk fv : DE) : DE := fun ρ M Q E => ∀ p, M p = none → fk ρ (mup M p (.dct [])) (fun k M1 => fv ρ M1 (fun v M2 => ∃ h n, k = .tuple (h.map od) ∧ v = .int n ∧ M2 p = some (.dct []) ∧ Q (rf p) (mup M2 p (.dct [(h, n)]))) E) E
theorem ee_dct1 {X : Cx} {W : WX} {k v : Expr} {fk fv : DE} {pos : Pos} (hu : X.A.units + 1 < cLine) (hk : EE X W k fk) (hv : EE X W v fv) : EE X W (.Dict [some k] [v] pos) (dDct1 fk fv) := by
  refine ⟨⟨fun pins s σ H Q I h => ?_⟩⟩
  obtain ⟨F, M, ρ, Qd, Ed, rs, rp, hf, cq, cx⟩ := h
  have hn := I.hok.fresh (Nat.le_refl s.heap.objs.size)
  have hd : (s.heap.objs.size == sysModules) = false := beq_eq_false_iff_ne.mpr (Ne.symm (Nat.ne_of_lt I.big))
  have new : ObjOk X.prog X.w (upd H s.heap.objs.size (DcO s.heap.objs.size [])) (s.heap.push { cls := .type "dict", data := .dict #[] }) s.heap.objs.size (DcO s.heap.objs.size []) :=
    dcO_ok (K := X.K) (F := F) (kvs := []) .nil hd (Heap.DictOfH.new s.heap)
  have I1 := I.laid (a := s.heap.objs.size) (o := DcO s.heap.objs.size []) (t' := s.toks) (fun _ _ q => Heap.get?_push_of_some _ q) (Nat.le_refl _) new
  have n1 : Nx X.K X.mg F H M F (upd H s.heap.objs.size (DcO s.heap.objs.size [])) (mup M s.heap.objs.size (.dct [])) := Nx.live (mo := .dct []) rp hn ⟨Nat.zero_le _, [], upd_same, .nil⟩
  have hf1 := hf _ (rp.fresh hn).2
  have hz := zip_pairTrees [some k] [v] X.env pos rfl rfl
  rw [arm_eval_Dict, hz, dictDisplay_pairs (pairTrees [some k] [v] X.env pos) (by intro z; cases z) (by show 1 < 17; decide)]
  refine wpAny_bind (wpAny_standAt (wpAny_bind (wpAny_subDictH (knd := lkind X.prog X.w) (by show X.A.units < cLine; omega) (by show 1 ≤ 15; decide) ?_)))
  refine pairTrees_cons_walk (thn (hk.go I1 (rs.mono n1.same) n1.ok hf1 (cx.mono n1)) fun u s2 ⟨x, H2, F2, M2, dk, I2, rx, n2, r2, q2⟩ => thn (hv.go I2 (rs.mono (n1.trans n2).same) n2.ok q2 (cx.mono (n1.trans n2))) fun fv s3 ⟨zv, H3, F3, M3, dx, I3, rz, n3, r3, q3⟩ => pairTrees_nil_walk ?_)
  obtain ⟨hh, n, rfl, rfl, hM3, q3⟩ := q3
  obtain ⟨z3, hd3, xs3, e3, p3, dd3⟩ := dct_of I3 n3.ok hM3
  cases p3
  have r2' := r2.mono n3.same
  obtain ⟨b, vs, eb, _, _⟩ := Rp.tup.mp r2'
  subst eb
  cases (show u = Value.ref b from rx)
  obtain rfl : zv = .int n := Rp.int.mp r3
  refine ⟨[(hh.map lf, b, fv)], ⟨rfl, rfl, key_lf I3 n3.ok r2', True.intro⟩, dd3, fun h' tk dx' hs => wpAny_pure ?_⟩
  have hxs : storedAllH ([] : List (List Leaf × Addr × Value)) [(hh.map lf, b, fv)] = [(hh.map lf, b, fv)] := rfl
  rw [hxs] at dx'
  have p' : DcP X.K F3 [(hh, n)] [(hh.map lf, b, fv)] := .cons ⟨rfl, r2', rz⟩ .nil
  have he : ∃ q, h'.get? s.heap.objs.size = some q := let ⟨q, _, _, hq, _⟩ := dx'; ⟨q, hq⟩
  refine ⟨.ref s.heap.objs.size, _, I3.write (x := s.heap.objs.size) (e := s.heap.objs.size) (t' := tk) (by rw [e3]; exact True.intro) (.inl rfl) (fun b' q' hb z' => (hs.2 b' hb).trans z') he (dcO_ok p' hd dx'), rfl, ?_⟩
  exact cq _ _ _ _ _ (((n1.trans n2).trans n3).trans (Nx.write (mo := .dct [(hh, n)]) n3.ok hM3 ⟨by show 1 ≤ sizeLine; decide, _, upd_same, p'⟩)) (Rp.rf.mpr rfl) q3
end Nb
set_option Elab.async false
set_option linter.all false
set_option maxRecDepth 100000
set_option maxHeartbeats 1000000
set_option autoImplicit false
namespace Nb
open PySem PySem.Spec PyProof.Rows L2
/-! ### d.items() of such a dict, walked -/
def Itx (d : Addr) (o : Obj) (xs : List (List Leaf × Addr × Value)) : It :=
  ⟨fun i H => H d = some (.frz o (DcO d xs)) ∧ i < xs.length ∧ ∃ k a n t, xs[i]? = some (k, a, .int n t),
   fun i H x H' => ∃ T k a n t, xs[i]? = some (k, a, .int n t) ∧ x = .ref T ∧ H T = none ∧ H' = upd H T (.tup [.ref a, .int n]),
   fun i H => H d = some (.frz o (DcO d xs)) ∧ xs.length ≤ i⟩
section
variable {X : Cx} {pins : List (Addr × Obj)} {σ : L2.St} {H : Hp} {s : Shared} {d : Addr} {o : Obj} {xs : List (List Leaf × Addr × Value)}
theorem inv_frzX (I : Inv X pins σ H s) (h : H d = some (.frz o (DcO d xs))) :
    (d == sysModules) = false ∧ s.heap.get? d = some o ∧ o.ExactDict ∧ ∃ (es : Array DictEntry) (ep : Nat), o.data = .dict es ep ∧ es.toList = xs.map entL := by
  obtain ⟨hd, ⟨hs, o', es, ep, ho, hx, hdt, hent, _⟩, _, _⟩ := I.hok d _ h
  rw [hd] at ho
  cases ho
  exact ⟨hs, hd, hx, es, ep, hdt, hent⟩
theorem ent_get {es : Array DictEntry} (h : es.toList = xs.map entL) {i : Nat} {q : List Leaf × Addr × Value} (e : xs[i]? = some q) : ∃ hi : i < es.size, es[i] = entL q := by
  have h1 : es[i]? = some (entL q) := by
    rw [← Array.getElem?_toList, h, List.getElem?_map, e]
    rfl
  have hi : i < es.size := by
    by_cases z : i < es.size
    · exact z
    · rw [Array.getElem?_eq_none (by omega)] at h1
      cases h1
  rw [Array.getElem?_eq_getElem hi] at h1
  exact ⟨hi, Option.some.inj h1⟩
theorem ent_size {es : Array DictEntry} (h : es.toList = xs.map entL) : es.size = xs.length := by
  rw [← Array.length_toList, h, List.length_map]
end
theorem turn_itemsX {P : Program} {w : World} {K : PySem.W.Frag} {d : Addr} {o : Obj} {es : Array DictEntry} {ep : Nat} {xs : List (List Leaf × Addr × Value)} {elts : List Expr} {kk : Nat} {tpos : Pos} (it : Addr) (hod : o.data = .dict es ep) :
    Turn P w K (.Tuple elts kk tpos) (Itx d o xs) [it] it (fun i h => ∃ ok ov, IsItemIter h it d i es.size ep ok ov) where
  mem := by simp
  obj := fun i h st b hb => by
    have e : b = it := by simpa using hb
    subst e
    obtain ⟨ok, ov, e⟩ := st
    exact ⟨_, e, fun v z => nomatch z⟩
  keep := fun i h h' st k => let ⟨ok, ov, e⟩ := st; ⟨ok, ov, k it (by simp) _ e⟩
  item := by
    intro X hP hw hK hc i pins s σ H E I hf st hg
    subst hP hw hK
    obtain ⟨hd, hi, k, a, n, t, hkv⟩ := hg
    obtain ⟨hs, hgd, hx, es', ep', hdt, hent⟩ := inv_frzX I hd
    obtain ⟨rfl, rfl⟩ := dict_ep hod hdt
    obtain ⟨hlt', he'⟩ := ent_get hent hkv
    obtain ⟨ok, ov, he⟩ := st
    have hlt : it < s.heap.objs.size := Heap.lt_size he
    refine wpAny_pyNext_items_item_raw he ⟨o, hgd, hx, hdt⟩ hlt' fun h' ho hT hz hk => ?_
    refine ⟨_, rfl, wpAny_letOwnedTupleGo_items (s := { s with heap := h' }) ho fun h'' he'' sb => ?_⟩
    rw [he'] at hT
    have hT2 : h''.get? s.heap.objs.size = some { cls := .type "tuple", data := .seq #[.ref a, .int n t] } := (sb.2 _ (Nat.ne_of_gt hlt)).trans hT
    have new : ObjOk X.prog X.w (upd H s.heap.objs.size (.tup [.ref a, .int n])) h'' s.heap.objs.size (.tup [.ref a, .int n]) :=
      ⟨by show 2 ≤ sizeLine; decide, [.ref a, .int n t], .cons rfl (.cons ⟨t, rfl⟩ .nil), ⟨_, hT2, rfl, _, rfl⟩⟩
    have I1 : Inv X pins σ (upd H s.heap.objs.size (.tup [.ref a, .int n])) { s with heap := h'' } :=
      I.turnedNew (t' := s.toks) (ch := [it]) (fun b ob hb e => (sb.2 b (by simpa using hb)).trans (hk b ob (by simpa using hb) e)) hf (Nat.le_refl _) new
    refine ⟨.ref s.heap.objs.size, _, I1, rfl, ⟨_, k, a, n, t, hkv, rfl, I.hok.fresh (Nat.le_refl _), rfl⟩, ⟨_, _, he''⟩, fun b hb => ?_⟩
    have e : b = it := by simpa using hb
    rw [e, upd_ne (Nat.ne_of_lt hlt)]
    exact (hf it (by simp)).1
  done := by
    intro X hP hw hK hc i pins s σ H E I hf st hg
    subst hP hw hK
    obtain ⟨hd, hi⟩ := hg
    obtain ⟨f0, f1, f2, f3, f4, f5⟩ := hf it (by simp)
    obtain ⟨hs, hgd, hx, es', ep', hdt, hent⟩ := inv_frzX I hd
    obtain ⟨rfl, rfl⟩ := dict_ep hod hdt
    obtain ⟨ok, ov, he⟩ := st
    exact wpAny_pyNext_items_end_raw (I.ok.hd hc) he ⟨o, hgd, hx, hdt⟩ (by rw [ent_size hent]; exact hi) fun h' eb => ⟨rfl, I.turned (t' := s.toks) (fun b ob hb e => eb b ob hb e) f0 f1 f3 f4 f5⟩
  self := fun A i s Q E st h => let ⟨_, _, e⟩ := st; PySem.W.kcp_self e h
def itmD (kvs : List (HK × Int)) : List Dat := kvs.map fun q => .tuple [.tuple (q.1.map od), .int q.2]
theorem wlk_items {K : PySem.W.Frag} {mg : Str → Option Value} {F : Hp} {d : Addr} {o : Obj} {kvs : List (HK × Int)} {xs : List (List Leaf × Addr × Value)} (hF : F d = some (.frz o (DcO d xs))) (p : DcP K F kvs xs) : Wlk K mg F (Itx d o xs) (itmD kvs) := fun i F2 H2 M2 s rp => by
  have hH : H2 d = some (.frz o (DcO d xs)) := rp.sub _ _ (s _ _ hF)
  have hl : kvs.length = xs.length := Paired.length p
  refine ⟨fun e => ⟨hH, ?_⟩, fun dd e => ?_⟩
  · have := List.getElem?_eq_none_iff.mp e
    simp [itmD] at this
    omega
  · unfold itmD at e
    rw [List.getElem?_map] at e
    obtain ⟨q, e1, rfl⟩ := Option.map_eq_some_iff.mp e
    obtain ⟨⟨k, a, v⟩, e2, r1, r2, t, r3⟩ := paired_get p e1
    have r3 : v = .int q.2 t := r3
    subst r3
    have hi : i < xs.length := (List.getElem?_eq_some_iff.mp e2).1
    refine ⟨⟨hH, hi, k, a, q.2, t, e2⟩, fun x H3 y => ?_⟩
    obtain ⟨T, k', a', n', t', e3, rfl, hT, rfl⟩ := y
    rw [e2] at e3
    cases e3
    exact pair_new rp hT (r2.mono s) (Rp.int.mpr rfl)
def iItemsD (a : DE) : DI := fun ρ M Q E => a ρ M (fun d M1 => ∃ p kvs, d = rf p ∧ M1 p = some (.dct kvs) ∧ Q (itmD kvs) (mdel M1 p)) E
theorem ei_items {X : Cx} {W : WX} {e : Expr} {fe : DE} {apos cpos tpos : Pos} {elts : List Expr} {kk : Nat} (he : EE X W e fe) (hbase : attributeBase e "items" X.env (eval e X.env) = eval e X.env := by rfl) (hline : (apos.endLine == cpos.line) = true := by rfl) :
    EI X W (.Tuple elts kk tpos) (.Call (.Attribute e "items" apos) [] [] cpos) (iItemsD fe) := by
  refine ⟨⟨fun pins s σ H R I h => ?_⟩⟩
  obtain ⟨F, M, ρ, Qd, Ed, rs, rp, hf, hR, cx⟩ := h
  refine wpAny_Call_method (T := "dict") (id := "dict.items") hbase rfl hline PySem.F.plainAttrs_dict PySem.F.slot_dict_items PySem.F.type_dict_items (thn (he.go I rs rp hf cx) fun u s1 ⟨x, H1, F1, M1, d, I1, rx, n1, r1, p, kvs, ed, hM, q1⟩ => ?_)
  subst ed
  obtain rfl : x = .ref p := Rp.rf.mp r1
  cases (show u = Value.ref p from rx)
  obtain ⟨z, hd, xs, e1, p1, dd⟩ := dct_of I1 n1.ok hM
  obtain ⟨od', I2⟩ := I1.lock e1 True.intro
  obtain ⟨hs, hgd, hx, es, ep, hdt, hent⟩ := inv_frzX I2 upd_same
  have raw : s1.heap.DictRaw p es ep := ⟨od', hgd, hx, hdt⟩
  refine ⟨dd.typeIs, fun b q => ?_, ?_⟩
  · cases q
    exact ⟨od', hgd, hx.2.1⟩
  have hF1 : F1 p = none := (n1.ok.mem p _ hM).1
  have sF : Same F1 (upd F1 p (.frz od' (DcO p xs))) := same_upd hF1
  have n2 : Nx X.K X.mg F1 H1 M1 (upd F1 p (.frz od' (DcO p xs))) (upd H1 p (.frz od' (DcO p xs))) (mdel M1 p) := by
    refine ⟨sF, ⟨fun b o' eb => ?_, fun a mo ea => ?_⟩, fun a o' ha hm hfa => ?_⟩
    · by_cases hb : b = p
      · subst hb; rw [upd_same] at eb ⊢; exact eb
      · rw [upd_ne hb] at eb ⊢; exact n1.ok.sub b o' eb
    · have ne : a ≠ p := fun z => by rw [z, mdel_same] at ea; cases ea
      rw [mdel_ne ne] at ea
      obtain ⟨h1, h2⟩ := n1.ok.mem a mo ea
      exact ⟨by rw [upd_ne ne]; exact h1, h2.step sF (upd_ne ne)⟩
    · have ne : a ≠ p := fun z => by rw [z, hM] at hm; cases hm
      exact ⟨by rw [upd_ne ne]; exact ha, by rw [mdel_ne ne]; exact hm, by rw [upd_ne ne]; exact hfa⟩
  have I3 : Inv X pins σ (upd H1 p (.frz od' (DcO p xs))) { s1 with heap := s1.heap.push { cls := .type "dict_items", data := .fields #[.ref p] } } := I2.kept (t' := s1.toks) fun b ob q => Heap.get?_push_of_some _ q
  have fin : wpAny (model X.prog X.w) X.A (pyIter (.ref s1.heap.objs.size)) (PIE X pins σ (.Tuple elts kk tpos) R) X.xe { s1 with heap := s1.heap.push { cls := .type "dict_items", data := .fields #[.ref p] } } := by
    refine wpAny_pyIter_items_raw (d := p) ⟨_, Heap.get?_push_size _ rfl, rfl, rfl⟩ (raw.push _) (pi_one (tk := s1.toks) I3 _ (turn_itemsX _ hdt) ⟨.none, .none, ?_⟩ (hR _ _ _ _ _ (n1.trans n2) (wlk_items upd_same (p1.mono sF)) q1))
    exact Heap.get?_push_size _ rfl
  show wpAny _ _ (callWith cpos (.builtin "dict.items") [.ref p] [] []) _ X.xe s1
  exact method_meetsIn PySem.F.slot_dict_items PySem.F.entry_dict_items rfl (PySem.evalArgs_none ⟨rfl, raw.typeIs, PySem.F.args_dict_items_1 _, _, meets_dict_items_raw p hs, ⟨⟨es, ep, raw⟩, fin⟩⟩)
/-! ### sum(d.values()) -/
def dSumV (a : DE) : DE := fun ρ M Q E => a ρ M (fun d M1 => ∃ p kvs, d = rf p ∧ M1 p = some (.dct kvs) ∧ Q (.int (kvs.map (·.2)).sum) M1) E
theorem preSum_vals {kvs : List (HK × Int)} : ∀ n, n ≤ kvs.length → preSum (fun j => (kvs[j]?.map (·.2)).getD 0) n = ((kvs.take n).map (·.2)).sum
  | 0, _ => rfl
  | n + 1, hn => by
    have hx : kvs[n]? = some kvs[n] := List.getElem?_eq_getElem hn
    show preSum _ n + (kvs[n]?.map (·.2)).getD 0 = _
    rw [preSum_vals n (Nat.le_of_succ_le hn), List.take_succ, hx, List.map_append, List.sum_append]
    simp
theorem sum_vals {prog : Program} {w : World} {A : Around} {E : Value → Shared → Prop} {s : Shared} {r d : Addr} {es : Array DictEntry} {ep : Nat} {Q : Value → Shared → Prop} (hh : A.handled = none) (hv : s.heap.IsValuesView r d) (hm : s.heap.DictRaw d es ep) (val : Nat → Int)
    (hval : ∀ (i : Nat) (hi : i < es.size), ∃ t : Tok, es[i].val = Value.int (val i) t) (h : ∀ h' tk t', (∀ b o, s.heap.get? b = some o → h'.get? b = some o) → Q (.int (preSum val es.size) t') { s with heap := h', toks := tk }) : wpAny (model prog w) A (call (.builtin "sum") [.ref r]) Q E s := by
  have K := PySem.KdlSrc.rawValues (prog := prog) (w := w) (r := r) (d := d) (es := es) (ep := ep)
  refine call_sum_walkAnyS ?_
  obtain ⟨oI, St, hit, W, st⟩ := K.iter A.in1 s hh ⟨hv, hm⟩
  refine hit _ _ ⟨s.heap.objs.size, _, _, _, es.size, _, _, val, rfl, W.toS, st, fun b hb => ?_, fun i v ⟨hi, e⟩ => ?_, fun s' t' hmv => ?_⟩
  · show b < (s.heap.push oI).objs.size
    rw [Heap.size_push]
    rcases List.mem_cons.mp hb with e | hb
    · rw [e]; exact Nat.lt_succ_self _
    · rw [List.mem_singleton.mp hb]; exact Nat.lt_succ_of_lt (K.there _ ⟨hv, hm⟩).2
  · rw [e]; exact hval i hi
  · have hk : ∀ b o, s.heap.get? b = some o → s'.heap.get? b = some o := fun b o e =>
      hmv.heap b o (fun hI => absurd (Heap.lt_size e) (by rw [List.mem_singleton.mp hI]; exact Nat.lt_irrefl _)) (Heap.get?_push_of_some _ e)
    rw [Moved.eq_with hmv]
    exact h s'.heap s'.toks t' hk
theorem ee_sumV {X : Cx} {W : WX} {e : Expr} {fe : DE} {p0 apos cpos pos : Pos} (hc : X.calm = true) (hms : X.mg "sum" = none) (he : EE X W e fe) (hgs : Gl X "sum" := by rfl)
    (hbase : attributeBase e "values" X.env (eval e X.env) = eval e X.env := by rfl) (hline : (apos.endLine == cpos.line) = true := by rfl)
    (hs1 : starEach [.Call (.Attribute e "values" apos) [] [] cpos] X.env = (false, eval (.Call (.Attribute e "values" apos) [] [] cpos) X.env) :: starEach [] X.env := by rfl)
    (hp1 : (backTo pos (starEach [] X.env)).any (·.1) = false := by rfl) : EE X W (.Call (.Name "sum" p0) [.Call (.Attribute e "values" apos) [] [] cpos] [] pos) (dSumV fe) := by
  refine ⟨⟨fun pins s σ H Q I h => ?_⟩⟩
  obtain ⟨F, M, ρ, Qd, Ed, rs, rp, hf, cq, cx⟩ := h
  refine wpAny_Call_Name_kw (ld_blt I hgs hms boot_sum ?_)
  refine PyProof.Rows.callWith_builtin1 ?_ hs1 hp1
  rw [hs1]
  show wpAny _ _ (spliced ((false, eval (.Call (.Attribute e "values" apos) [] [] cpos) X.env) :: backTo pos (starEach [] X.env))) _ _ s
  refine Calls.spliced_cons ?_
  refine wpAny_Call_method (T := "dict") (id := "dict.values") hbase rfl hline PySem.F.plainAttrs_dict PySem.F.slot_dict_values PySem.F.type_dict_values (thn (he.go I rs rp hf cx) fun u s1 ⟨x, H1, F1, M1, d, I1, rx, n1, r1, p, kvs, ed, hM, q1⟩ => ?_)
  subst ed
  obtain rfl : x = .ref p := Rp.rf.mp r1
  cases (show u = Value.ref p from rx)
  obtain ⟨z, hd, xs, e1, p1, dd⟩ := dct_of I1 n1.ok hM
  obtain ⟨⟨_, o, es, ep, hgd, hx, hdt, hent, _⟩, _, _⟩ := I1.hok p _ e1
  have raw : s1.heap.DictRaw p es ep := ⟨o, hgd, hx, hdt⟩
  refine ⟨dd.typeIs, fun b q => ?_, ?_⟩
  · cases q
    exact ⟨o, hgd, hx.2.1⟩
  show wpAny _ _ (callWith cpos (.builtin "dict.values") [.ref p] [] []) _ X.xe s1
  refine method_meetsIn PySem.F.slot_dict_values PySem.F.entry_dict_values rfl (PySem.evalArgs_none ⟨rfl, raw.typeIs, PySem.F.args_dict_values_1 _, _, meets_dict_values_raw p hd, ⟨⟨es, ep, raw⟩, ?_⟩⟩)
  refine Calls.spliced_nil ?_
  have hl : kvs.length = xs.length := Paired.length p1
  refine sum_vals (I1.ok.hd hc) ⟨_, Heap.get?_push_size _ rfl, rfl, rfl⟩ (raw.push _) (fun j => (kvs[j]?.map (·.2)).getD 0) (fun i hi => ?_) fun h' tk t' hk => ?_
  · have hi' : i < kvs.length := by rw [hl, ← ent_size hent]; exact hi
    obtain ⟨q, e2, _, _, t, r3⟩ := paired_get p1 (List.getElem?_eq_getElem hi')
    obtain ⟨_, e3⟩ := ent_get hent e2
    refine ⟨t, ?_⟩
    rw [e3, List.getElem?_eq_getElem hi']
    exact r3
  · have e4 : preSum (fun j => (kvs[j]?.map (·.2)).getD 0) es.size = (kvs.map (·.2)).sum := by
      rw [ent_size hent, ← hl, preSum_vals _ (Nat.le_refl _), List.take_length]
    rw [e4]
    exact ⟨.int _, H1, I1.kept (t' := tk) fun b o' e => hk b o' (Heap.get?_push_of_some _ e), ⟨t', rfl⟩, cq _ _ _ _ _ n1 (Rp.int.mpr rfl) q1⟩
end Nb
set_option Elab.async false
set_option linter.all false
set_option maxRecDepth 100000
set_option maxHeartbeats 1000000
set_option autoImplicit false
namespace Nb
open PySem PySem.Spec PyProof.Rows L2
/-! ### a variable's live list stays as it is from here on -/
def dFzS (i : Nat) (f : DS) : DS := fun Q ρ M => ∃ q ds, ρ[i]? = some (some (rf q)) ∧ M q = some (.lst ds) ∧ f Q (ρ.set i (some (.list ds))) (mdel M q)
theorem es_fz {X : Cx} {W : WX} {st : Stmt} {f : DS} (i : Nat) (h : ES X W st f) : ES X W st (dFzS i f) := by
  refine ⟨PS.imp h.h ?_⟩
  rintro Q σ H ⟨F, M, ρ, Dd, rs, rp, ⟨q, ds, hρ, hM, hf⟩, cd⟩
  obtain ⟨F', n1, r1⟩ := Nx.freeze rp hM
  obtain ⟨v, h1, h2⟩ := rs.get i _ hρ
  have hv : v = .ref q := Rp.rf.mp h2
  subst hv
  have rs' : Rst X.K F' (ρ.set i (some (.list ds))) σ := by
    have e : σ = σ.set i (some (.ref q)) := by
      apply List.ext_getElem?
      intro j
      by_cases z : i = j
      · subst z
        rw [List.getElem?_set_self (List.getElem?_eq_some_iff.mp h1).1, h1]
      · rw [List.getElem?_set_ne z]
    rw [e]
    exact (rs.mono n1.same).set r1
  exact ⟨F', mdel M q, _, Dd, rs', n1.ok, hf, cd.mono n1⟩
/-! ### the second item of a pair, a live list, stays as it is from here on -/
def dFrz2 (a : DE) : DE := fun ρ M Q E => a ρ M (fun d M1 => (d = .none ∧ Q .none M1) ∨ ∃ c p ds, d = .tuple [c, rf p] ∧ M1 p = some (.lst ds) ∧ Q (.tuple [c, .list ds]) (mdel M1 p)) E
theorem ee_frz2 {X : Cx} {W : WX} {e : Expr} {fa : DE} (h : EE X W e fa) : EE X W e (dFrz2 fa) := by
  refine ⟨PE.imp h.h ?_⟩
  rintro σ H Q ⟨F, M, ρ, Qd, Ed, rs, rp, hf, cq, cx⟩
  refine ⟨F, M, ρ, _, Ed, rs, rp, hf, fun F1 H1 M1 d v n1 rv q1 => ?_, cx⟩
  rcases q1 with ⟨rfl, q1⟩ | ⟨c, p, ds, rfl, hM, q1⟩
  · exact cq F1 H1 M1 _ _ n1 rv q1
  · obtain ⟨F2, n2, r2⟩ := Nx.freeze n1.ok hM
    obtain ⟨a, vs, rfl, q, t⟩ := Rp.tup.mp rv
    obtain ⟨v1, r, rfl, h1, t'⟩ := t.inv
    obtain ⟨v2, r', rfl, h2, t''⟩ := t'.inv
    obtain rfl := t''.nil_inv
    have hv : v2 = .ref p := Rp.rf.mp h2
    subst hv
    exact cq F2 H1 _ _ _ (n1.trans n2) (Rp.tup.mpr ⟨a, _, rfl, Same.seqT n2.same q, RpAll.cons (h1.mono n2.same) (RpAll.cons r2 RpAll.nil)⟩) q1
/-! ### len(set(xs)), no item twice -/
def dLenSet (a : DE) : DE := fun ρ M Q E => a ρ M (fun d M1 => ∃ ns : List Int, d = .list (ns.map PyData.int) ∧ ns.length < 64 ∧ ns.Nodup ∧ Q (.int ns.length) M1) E
theorem ee_lenSet {X : Cx} {W : WX} {a : Expr} {fa : DE} {p p2 q pos : Pos} (hc : X.calm = true) (hm : X.mg "len" = none) (hm2 : X.mg "set" = none) (ha : EE X W a fa) (hg : Gl X "len" := by rfl) (hg2 : Gl X "set" := by rfl)
    (na : starEach [a] X.env = (false, eval a X.env) :: starEach [] X.env := by rfl) : EE X W (.Call (.Name "len" p) [.Call (.Name "set" p2) [a] [] q] [] pos) (dLenSet fa) := by
  refine ⟨PE.imp (RZ.pe_lenSetI hg hm hg2 hm2 ha.h hc na) ?_⟩
  rintro σ H Q ⟨F, M, ρ, Qd, Ed, rs, rp, hf, cq, cx⟩
  refine ⟨F, M, ρ, _, Ed, rs, rp, hf, fun F1 H1 M1 d v n1 rv q1 => ?_, cx⟩
  obtain ⟨ns, rfl, h64, nd, q1⟩ := q1
  obtain ⟨l, vs, rfl, q, t⟩ := Rp.lst.mp rv
  obtain rfl := t.ints
  exact ⟨l, ns, rfl, n1.ok.sub.seq q, nd, by omega, cq F1 H1 M1 _ _ n1 (Rp.int.mpr rfl) q1⟩
/-! ### a def that makes lambdas, its leavings kept -/
section
variable {P : Program} {w : World} {K : PySem.W.Frag} {mg : Str → Option Value} {base : Heap}
theorem dfnC_of {x qual : Str} {st : Stmt} {f c : Addr} {fd : FuncData} {N ps : List Str} {k : Nat} {s : DSp} (fb : DS) (Fn : FunC K x qual st f fd c) (S : FnScope N ps (defScope st)) (len : ∀ ds M Q E, s ds M Q E → ds.length = ps.length)
    (hb : ∀ (A : Around) (outer : List Env) (s0 : Shared) (H : Hp) (E : XK), Room k (A.deeper (envOfC qual (defScope st) s0.heap.objs.size f (.ref c))) →
      SS (cxOf (L2.CX P w) P w K mg base N qual (defScope st) f (.ref c) A outer s0 H E) (wOf E) (defBody st) fb)
    (hp : ∀ ds M Qd Ed, s ds M Qd Ed → fb (endsOf Qd Ed) (startD N.length ds) M) : FnOk P w K mg base (L2.CX P w) (k + 1) f fd ps (LSp K mg s) := by
  obtain ⟨oc, od, kV, doc, pm, an, ct, osl, rfl, lk, hcd⟩ := Fn.ex
  refine fn_of lk hcd S (fun vs H Q E h => ?_) fun A outer s0 H vs Q E hr h => ⟨LS K mg (wOf E) fb, (hb A outer s0 H E hr).h, ?_⟩
  · obtain ⟨F, M, ds, Qd, Ed, rv, rp, hs, _⟩ := h
    rw [rv.len]
    exact len _ _ _ _ hs
  · obtain ⟨F, M, ds, Qd, Ed, rv, rp, hs, cq, cx⟩ := h
    refine ⟨F, M, _, _, start_ok rv, rp, hp ds M Qd Ed hs, ?_⟩
    refine ⟨fun F' H' M' ρ σ n rs q => cq F' H' M' .none .non n (Rp.non.mpr rfl) q, fun F' H' M' d v n r q => cq F' H' M' d v n r q, fun _ _ _ _ _ _ _ q => q.elim, fun _ _ _ _ _ _ _ q => q.elim, fun F' H' M' ρ σ x' c dd n rs rx q => cx F' H' M' x' c dd n rx q⟩
end
end Nb
set_option Elab.async false
set_option linter.all false
set_option maxRecDepth 100000
set_option maxHeartbeats 4000000
/-! making an own exception by keywords -/
namespace PySem
namespace NbX
open PySem.W PySem.Calls PyProof.Rows PySem.HandSPX
open Builtin Builtin.ObjectAttr
section
variable {M : Model} {A : Around} {E : Value → Shared → Prop} {h : Heap} {g : Array GenState} {d : Drawn} {t : Nat} {os : OsState}
variable {nm q : Str} {C N : Addr} {bs bm bmB : List Value} {hdct : Bool} {sn : List Str} {sub : List Value} {ab : Bool} {col : Option Bool} {dd : Option Addr} {k0 k1 k2 k3 k5 : Option Value} {B newId initId : String}
theorem check_new_ownK (F : ExcBaseFacts B newId initId bmB) (hT : ∀ X : String, bm.contains (.type X) = bmB.contains (.type X)) {rest : List Value} {kw : List (Str × Value)} {Q : Unit → Shared → Prop}
    (hC : h.get? C = some (excClassObj nm q C N bs bm hdct sn sub ab col dd k0 k1 k2 k3 k5 newId)) (hq : Q () ⟨h, g, d, t, os⟩) : wpAny M A (checkBuiltinCall newId ⟨.ref C :: rest, kw⟩) Q E ⟨h, g, d, t, os⟩ := by
  have hcont : (Value.ref C :: bm).contains (.type B) = true := by rw [List.contains_cons, hT, F.hasB, Bool.or_true]
  have hstar := F.noStar
  simp only [checkBuiltinCall, F.newKind, F.newSplit, F.newRow]
  repeat (first | refine wpAny_loadPart_at hC ?_ | (refine wpAny_isSubtype_exc hC ?_; rw [hcont]) | refine wpAny_staticBase_exc hC ?_ | refine wpAny_madeBy_exc hC ?_ | simp only [bne_self_eq_false, Bool.false_eq_true, if_false] | wp_step)
  exact hq
end
section
variable {prog : Program} {w : World} {A : Around} {E : Value → Shared → Prop} {R : Result → Shared → Prop} {h : Heap} {g : Array GenState} {d : Drawn} {t : Nat} {os : OsState}
variable {nm q : Str} {C N : Addr} {bs bm bmB : List Value} {hdct : Bool} {sn : List Str} {sub : List Value} {ab : Bool} {col : Option Bool} {dd : Option Addr} {k0 k1 k2 k3 k5 : Option Value} {B newId initId : String}
theorem new_ownK (F : ExcBaseFacts B newId initId bmB) (hT : ∀ X : String, bm.contains (.type X) = bmB.contains (.type X)) {rest : List Value} {kw : List (Str × Value)}
    (hC : h.get? C = some (excClassObj nm q C N bs bm hdct sn sub ab col dd k0 k1 k2 k3 k5 newId))
    (hq : R (.ok (.ret (.ref (h.objs.size + 1)))) ⟨(h.push { cls := .type "tuple", data := .seq rest.toArray }).push
      { cls := .ref C, data := .fields #[.ref h.objs.size, .none, .none, .none, .bool false, .none] }, g, d, t, os⟩) (hrest : rest.length ≤ sizeLine) :
    codeAny (model prog w) A (.builtin newId ⟨.ref C :: rest, kw⟩) R ⟨h, g, d, t, os⟩ := by
  have hends := F.ends
  have hcB : (Value.ref C :: bm).contains (.type B) = true := by rw [List.contains_cons, hT, F.hasB, Bool.or_true]
  have hcA : (Value.ref C :: bm).contains (.type "AttributeError") = false := by rw [List.contains_cons, hT, F.noAttr]; rfl
  have hcN : (Value.ref C :: bm).contains (.type "NameError") = false := by rw [List.contains_cons, hT, F.noName]; rfl
  refine codeAny_builtinAt F.entry ?_
  unfold Builtin.«BaseException.__new__»
  refine wpAt_bind ?_
  show wpAt _ _ _ (stack >>= _) _ _ _
  refine wpAt_bind (wpAt_stack fun p below => wpAt_of_wpAny ?_)
  wp_walk
  refine wpAt_of_wpAny ?_
  rw [F.owner]
  repeat (first | with_reducible refine wpAny_madeHere_exc F.canon hC ?_ | with_reducible refine wpAny_loadPart_at hC ?_ | (with_reducible refine wpAny_isSubtype_exc hC ?_; first | rw [hcB] | rw [hcA] | rw [hcN]) | wp_step)
  show R _ _
  rw [Heap.size_push]
  exact hq
theorem type_call_ownK (F : ExcBaseFacts B newId initId bmB) (hT : ∀ X : String, bm.contains (.type X) = bmB.contains (.type X)) {rest : List Value} {kw : List (Str × Value)} {fI : Addr} {Q : Fin → Shared → Prop}
    (hC : h.get? C = some (excClassObj nm q C N bs bm hdct sn sub ab col dd k0 k1 k2 k3 k5 newId))
    (hi : W.Looks (model prog w) h (typeLookup (.ref C) "__init__") (some (.ref fI))) (hb : ∀ self, W.Looks (model prog w) h (bindSpecial (.ref fI) self) (.ref fI, [self])) (hrest : rest.length ≤ sizeLine)
    (hq : codeAny (model prog w) A (.call (.ref fI) ⟨.ref (h.objs.size + 1) :: rest, kw⟩)
      (fun r s' => match r with | .ok (.ret v) => v = .none ∧ Q (.done (.ret (.ref (h.objs.size + 1)))) s' | .ok _ => False | .error e => E e s')
      ⟨(h.push (W.kdv_tup rest)).push (excO C h.objs.size), g, d, t, os⟩) :
    wpAny (model prog w) A (Builtin.«type.__call__» ⟨.ref C :: rest, kw⟩) Q E ⟨h, g, d, t, os⟩ := by
  repeat (first | with_reducible refine wpAny_loadPart_at hC ?_ | with_reducible refine wpAny_madeBy_exc hC ?_ | wp_step)
  refine codeAny_call_builtin_code (Code.quiet_builtin _ F.quiet) (check_new_ownK F hT hC ?_)
  refine new_ownK F hT hC ?_ hrest
  show wpAny _ _ _ _ _ _
  have k : ∀ b o, h.get? b = some o → ((h.push (W.kdv_tup rest)).push (excO C h.objs.size)).get? b = some o := fun b o e => Heap.get?_push_of_some _ (Heap.get?_push_of_some _ e)
  have hC₁ := k _ _ hC
  have hget : ((h.push (W.kdv_tup rest)).push (excO C h.objs.size)).get? (h.objs.size + 1) = some (excO C h.objs.size) := by heap_get
  have hcC : (Value.ref C :: bm).contains (.ref C) = true := by simp
  have i1 := hi.keeps k
  have b1 := (hb (.ref (h.objs.size + 1))).keeps k
  unfold isInstance
  repeat (first | with_reducible refine wpAny_loadPart_at hget ?_ | (with_reducible refine wpAny_isSubtype_exc hC₁ ?_; rw [hcC]) | wp_step)
  show wpAny _ _ (typeLookup (.ref C) _) _ _ _
  refine i1.at ?_
  refine wpAny_holding (wpAny_bind (b1.at ?_))
  refine wpAny_bind (wpAny_call (codeAny_mono hq fun r s' z => ?_))
  rcases r with e | (v | _ | _ | _) <;> first | exact z | exact z.elim | skip
  obtain ⟨rfl, z⟩ := z
  first
    | exact wpAny_pure (wpAny_pure z)
    | (wp_walk; exact z)
theorem check_type_callK {rest : List Value} {kw : List (Str × Value)} {Q : Unit → Shared → Prop} (hC : h.get? C = some (excClassObj nm q C N bs bm hdct sn sub ab col dd k0 k1 k2 k3 k5 newId))
    (hq : Q () ⟨h, g, d, t, os⟩) : wpAny (model prog w) A (checkBuiltinCall "type.__call__" ⟨.ref C :: rest, kw⟩) Q E ⟨h, g, d, t, os⟩ := by
  have f3 := tc_sub
  refine PySem.W.check_slot (s := ⟨h, g, d, t, os⟩) tc_kind tc_split (fun A' Q' E' s' k qq => ?_) (PySem.W.tc_args _ _ _) hq
  obtain ⟨hp, g', d', t', os'⟩ := s'
  have hC' : hp.get? C = some (excClassObj nm q C N bs bm hdct sn sub ab col dd k0 k1 k2 k3 k5 newId) := k _ _ hC
  have hT : (⟨hp, g', d', t', os'⟩ : Shared).TypeIs (.ref C) "type" := ⟨_, hC', rfl⟩
  unfold isInstance
  repeat (any_goals (first | assumption | with_reducible refine wpAny_loadPart_at hC' ?_ | wp_step))
theorem call_ownK (F : ExcBaseFacts B newId initId bmB) (hT : ∀ X : String, bm.contains (.type X) = bmB.contains (.type X)) {rest : List Value} {kw : List (Str × Value)} {fI : Addr}
    (hC : h.get? C = some (excClassObj nm q C N bs bm hdct sn sub ab col dd k0 k1 k2 k3 k5 newId))
    (hi : W.Looks (model prog w) h (typeLookup (.ref C) "__init__") (some (.ref fI))) (hb : ∀ self, W.Looks (model prog w) h (bindSpecial (.ref fI) self) (.ref fI, [self])) (hrest : rest.length ≤ sizeLine)
    (hq : codeAny (model prog w) (A.under (.builtin "type.__call__" ⟨.ref C :: rest, kw⟩)) (.call (.ref fI) ⟨.ref (h.objs.size + 1) :: rest, kw⟩) (W.InitBack (h.objs.size + 1) R)
      ⟨(h.push (W.kdv_tup rest)).push (excO C h.objs.size), g, d, t, os⟩) :
    codeAny (model prog w) A (.call (.ref C) ⟨rest, kw⟩) R ⟨h, g, d, t, os⟩ := by
  have f1 := tc_lookup
  have f2 := tc_bind (.ref C)
  have hTy : (⟨h, g, d, t, os⟩ : Shared).TypeIs (.ref C) "type" := ⟨_, hC, rfl⟩
  refine codeAny_of_tree ?_
  show wpAny _ _ (callAny (.ref C) _) _ _ _
  repeat (any_goals (first | assumption | with_reducible refine wpAny_loadPart_at hC ?_ | wp_step))
  refine ⟨rfl, ?_⟩
  refine codeAny_call_builtin_at (Code.quiet_builtin _ (by decide +kernel)) entry_typeCall (check_type_callK hC (type_call_ownK F hT hC hi hb hrest ?_))
  refine codeAny_mono hq fun r s' z => ?_
  rcases r with e | (v | _ | _ | _) <;> exact z
end
end NbX
end PySem
set_option Elab.async false
set_option linter.all false
set_option maxRecDepth 100000
set_option maxHeartbeats 4000000
set_option autoImplicit false
namespace Nb
open PySem PySem.Spec PyProof.Rows L2

/-! ### the caught exception, tracked -/
theorem EXO_ok {P : Program} {w : World} {H : Hp} {h : Heap} {a : Addr} {oe : Obj} {cls : Value} {d : Option Addr} (ha : h.get? a = some oe) (hz : Zc cls d oe) (hd : ∃ vs, oe.data = .fields vs) : ObjOk P w H h a (EXO a cls d) := by
  obtain ⟨vs, hd⟩ := hd
  exact ⟨⟨oe, vs, ha, hz, hd⟩, ⟨_, ha⟩, fun h1 h2 ⟨oe, vs, e, z⟩ k => ⟨oe, vs, k _ e, z⟩⟩
theorem EXO_at {P : Program} {w : World} {H : Hp} {h : Heap} {a : Addr} {cls : Value} {d : Option Addr} (hok : HOk P w H h) (e : H a = some (EXO a cls d)) : ∃ (oe : Obj) (vs : Array Value), h.get? a = some oe ∧ Zc cls d oe ∧ oe.data = .fields vs := by
  obtain ⟨z, _, _⟩ := hok a _ e
  exact z
section
variable {X : Cx} {pins : List (Addr × Obj)} {σ : L2.St} {H : Hp} {s : Shared}
theorem inv_track {a : Addr} {o : HO} (I : Inv X pins σ H s) (na : H a = none) (n0 : X.s_0.heap.get? a = none) (nL : a ≠ X.env.locals) (nc : ∀ x c, X.env.cells.lookup x = some c → c ≠ a) (np : ∀ p ∈ X.pn ++ pins, p.1 ≠ a) (ok : ObjOk X.prog X.w (upd H a o) s.heap a o) : Inv X pins σ (upd H a o) s := by
  have up : ∀ b u, H b = some u → upd H a o b = some u := fun b u e => by rw [upd_ne (ne_of_none e na)]; exact e
  refine ⟨I.ok, I.os, I.bare, ⟨I.base.keep, I.base.slot, fun b ob e n hx => ?_, I.base.there, fun b xs e => up _ _ (I.base.tups b xs e), fun b ob u e => up _ _ (I.base.frzs b ob u e), fun b ps e => ?_⟩, I.loc, I.cell, ?_, fun x c e => ?_, fun p hp => ?_, fun b u e => ?_, I.len⟩
  · have hb : b ≠ a := fun z => by rw [z, n0] at e; cases e
    rw [upd_ne hb]
    exact I.base.free b ob e n hx
  · obtain ⟨more, q⟩ := I.base.tbls b ps e
    exact ⟨more, up _ _ q⟩
  · rw [upd_ne (Ne.symm nL)]
    exact I.free
  · rw [upd_ne (nc x c e)]
    exact I.freeC x c e
  · obtain ⟨h1, h2, h3⟩ := I.pin p hp
    exact ⟨h1, by rw [upd_ne (np p hp)]; exact h2, h3⟩
  · by_cases hb : b = a
    · subst hb
      rw [upd_same] at e
      cases e
      exact ok
    · rw [upd_ne hb] at e
      exact (I.hok b u e).stay (fun c v _ q => q) (fun c q => up _ _ q) fun c xs q => up _ _ q
theorem inv_suite0 {a : Addr} (I : Inv X pins σ H s) : Inv (X.suite a (X.pn ++ pins)) [] σ H s :=
  ⟨I.ok.suite _ _, I.os, I.bare, I.base, I.loc, I.cell, I.free, I.freeC, fun p hp => I.pin p (by rw [List.append_nil] at hp; exact hp), I.hok, I.len⟩
theorem inv_unsuite0 {a : Addr} (I : Inv (X.suite a (X.pn ++ pins)) [] σ H s) (ok : X.Ok) : Inv X pins σ H s :=
  ⟨ok, I.os, I.bare, I.base, I.loc, I.cell, I.free, I.freeC, fun p hp => I.pin p (List.mem_append_left _ hp), I.hok, I.len⟩
end
/-! ### try, several clauses, named or not -/
def Dn (i : Option Nat) (D : Ends) : Ends := match i with
  | none => D
  | some i => { nx := fun σ H => D.nx (σ.set i none) H, rt := D.rt, bk := fun σ H => D.bk (σ.set i none) H, ct := fun σ H => D.ct (σ.set i none) H }
def sN (i : Option Nat) (a : Addr) (σ : L2.St) : L2.St := match i with
  | none => σ
  | some i => σ.set i (some (.ref a))
def wAll (K : PySem.W.Frag) (Wout : WX) (D : Ends) : List (Value × Option Nat × TS) → WX
  | [] => Wout
  | (c, i, ts) :: r => fun cls d σ H => ∃ b, PySem.W.exmOne K cls c = some b ∧ (b = true → ∀ a, H a = none → ts (Dn i D) (sN i a σ) (upd H a (EXO a cls d))) ∧ (b = false → wAll K Wout D r cls d σ H)
inductive HdsT (X : Cx) : List ExceptHandler → List (Value × Option Nat × TS) → Prop
  | nil : HdsT X [] []
  | cons {x : Str} {c : Value} {ts : TS} {b₀ : Stmt} {suite : List Stmt} {np pos' : Pos} {hds : List ExceptHandler} {l : List (Value × Option Nat × TS)} (hc : Names X x c)
      (hsu : ∀ (a : Addr) (pn : List (Addr × Obj)), PSs (X.suite a pn) (b₀ :: suite) ts) (r : HdsT X hds l) :
      HdsT X (.ExceptHandler (some (.Name x np)) none (b₀ :: suite) pos' :: hds) ((c, none, ts) :: l)
  | consAs {x n : Str} {i : Nat} {c : Value} {ts : TS} {b₀ : Stmt} {suite : List Stmt} {np pos' : Pos} {hds : List ExceptHandler} {l : List (Value × Option Nat × TS)} (hc : Names X x c) (hi : X.N[i]? = some n) (hln : X.env.kindOf n = some .local)
      (hsu : ∀ (a : Addr) (pn : List (Addr × Obj)), PSs (X.suite a pn) (b₀ :: suite) ts) (r : HdsT X hds l) :
      HdsT X (.ExceptHandler (some (.Name x np)) (some n) (b₀ :: suite) pos' :: hds) ((c, some i, ts) :: l)
section
variable {X : Cx} {body : List Stmt} {h₀ : ExceptHandler} {hds : List ExceptHandler} {l : List (Value × Option Nat × TS)} {pos : Pos} {tb : WX → TS} {Wout : WX}
theorem ps_try_all (hs : X.stack = X.env :: X.outer) (hf : X.env.frame = some X.env.locals) (hex : X.ex = []) (hN : X.N.Nodup) (tk : Takes X Wout)
    (hb : ∀ (W : WX) (pn : List (Addr × Obj)) (xe : Value → Shared → Prop), Takes (X.tr pn xe) W → PassesOwn (model X.prog X.w) X.A X.env xe → PSs (X.tr pn xe) body (tb W))
    (hh : HdsT X (h₀ :: hds) l) : PS X (.Try body (h₀ :: hds) [] [] pos) (fun D σ H => tb (wAll X.K Wout D l) D σ H) := by
  refine ⟨fun pins s σ H D I h => ?_⟩
  have ok := I.ok
  have hfr : X.A.frames = some (X.env :: X.outer) := by rw [ok.frames, hs]
  refine wpAny_Try_except ?_
  refine wpAny_mono ((hb (wAll X.K Wout D l) (X.pn ++ pins) (fun e s₁ => wpAny (model X.prog X.w) X.A (noteFrame e X.env) (fun _ s₂ => wpAny (model X.prog X.w) X.A (setFlight e none) (fun _ s₃ =>
    wpAny (model X.prog X.w) X.A (handleBy e X.env (h₀ :: hds)) (SP X pins D) X.xe s₃) X.xe s₂) X.xe s₁) (fun u s' xx => ?_) PassesOwn.looking).run [] s σ H D (I.toTry _) h) (fun f s1 hsp => ?_) (fun e s1 he => he)
  · obtain ⟨a, B, sI, pins', σ', H', cls, d, rfl, J', nb, up, sky, na, os, ag, w⟩ := xx
    have J : Inv X pins σ' H' sI := J'.ofTry ok
    have sky' : Sky B (X.env :: X.outer) a (Zc cls d) X.env.locals s'.heap := by rw [← hs]; exact sky
    show wpAny (model X.prog X.w) X.A (noteFrame (.ref a) X.env) _ _ _
    refine Sky.land Zc.steady hfr hf sky' fun h3 fl3 up3 => ?_
    have J3 : Inv X pins σ' H' { s' with heap := h3 } := J.landed nb fl3.1 (up.trans up3) os ag
    obtain ⟨oe3, vs3, he3, hz3, hd3⟩ := fl3.there
    have notFr : ∀ {h : Heap} {o : Obj} {vs : Array Value}, h.FunFrames B (X.env :: X.outer) → h.get? a = some o → o.data = .fields vs → a ∉ frs (X.env :: X.outer) := fun {h o vs} ff e dd hm => by
      obtain ⟨_, o', e', hnf⟩ := ff.mem hm
      rw [e] at e'; cases e'
      exact hnf _ dd
    have nfr := notFr fl3.2.2.1 he3 hd3
    have nL : a ≠ X.env.locals := fun z => nfr (List.mem_filterMap.mpr ⟨X.env, List.mem_cons_self, by rw [hf, z]⟩)
    have Ba : B.get? a = none := fl3.2.1
    have n0 : X.s_0.heap.get? a = none := by
      cases q : X.s_0.heap.get? a with
      | none => rfl
      | some o =>
        obtain ⟨o', q'⟩ := J.base.there a o q (by rw [hex]; exact fun z => by cases z)
        have z := nb a o' q' (by rw [hs]; exact nfr)
        rw [Ba] at z; cases z
    have np : ∀ p ∈ X.pn ++ pins, p.1 ≠ a := fun p hp e => by
      obtain ⟨h1, h2, h3, h4, h5⟩ := J.pin p hp
      have nst : p.1 ∉ frs X.stack := fun hm => by
        rcases List.mem_cons.mp (J.stkSub _ hm) with z | z
        · exact h3 z
        · exact h4 z
      have z := nb p.1 p.2 h1 nst
      rw [e, Ba] at z; cases z
    have S3 : Inv (X.suite a (X.pn ++ pins)) [] σ' H' { s' with heap := h3 } := inv_suite0 J3
    have go : ∀ {hds' : List ExceptHandler} {l' : List (Value × Option Nat × TS)}, HdsT X hds' l' → wAll X.K Wout D l' cls d σ' H' →
        wpAny (model X.prog X.w) X.A (handleBy (.ref a) X.env hds') (SP X pins D) X.xe { s' with heap := h3 } := by
      intro hds' l' hk
      have LT : PySem.W.Looks (model X.prog X.w) h3 (typeOf (.ref a)) cls := fun A Q E s k q => wpAny_typeOf_ref (k _ _ he3) (by rw [hz3.1]; exact q)
      have test : ∀ {x : Str} {c : Value} {np : Pos} {Q : Value → Shared → Prop} {E : Value → Shared → Prop}, Names X x c → Q c { s' with heap := h3 } → wpAny (model X.prog X.w) (X.A.mark (some (.ref a))) (eval (.Name x np) X.env) Q E { s' with heap := h3 } := fun {x c np Q E} hc q => by
        obtain ⟨hg, hdbg, hm | ⟨hm, hv, hnn⟩⟩ := hc
        · exact ld_glob (X := X.suite a (X.pn ++ pins)) S3 hg hm q hdbg
        · exact ld_blt (X := X.suite a (X.pn ++ pins)) S3 hg hm hv q hnn hdbg
      have track : ∀ {h4 : Heap}, HandSPX.FlyingZ B (X.env :: X.outer) a (Zc cls d) h4 → h3.UpToSlots h4 → Inv (X.suite a (X.pn ++ pins)) [] σ' (upd H' a (EXO a cls d)) { s' with heap := h4 } := fun {h4} fl4 up4 => by
        have J4 : Inv X pins σ' H' { s' with heap := h4 } := J.landed nb fl4.1 ((up.trans up3).trans up4) os ag
        obtain ⟨oe4, vs4, he4, hz4, hd4⟩ := fl4.there
        refine inv_track (inv_suite0 J4) na n0 nL (fun x c e z => ?_) (fun p hp => np p (by rw [List.append_nil] at hp; exact hp)) (EXO_ok he4 hz4 ⟨_, hd4⟩)
        obtain ⟨v, o, ho, hdc⟩ := J4.cell x c e
        rw [z] at ho
        have ho' : h4.get? a = some o := ho
        rw [he4] at ho'
        cases ho'
        rw [hd4] at hdc
        cases hdc
      induction hk with
      | nil =>
        intro w
        refine wpAny_handleBy_nil ?_
        obtain ⟨k1, k2, k3, oe, vs, T, oT, ts', he, hz, hd, h1, hr⟩ := id fl3
        unfold PySem.passOn
        refine wpAny_bind (wpAny_field he hd h1 ?_)
        rw [if_neg (show ¬ ((Value.ref T == Value.none) = true) from by simp)]
        have fin : wpAny (model X.prog X.w) X.A (setFlight (.ref a) X.env.frame) (fun _ s4 => wpAny (model X.prog X.w) X.A (throw (.ref a) : Sem Flow) (SP X pins D) X.xe s4) X.xe { s' with heap := h3 } := by
          rw [hf]
          refine HandSPX.setFlight_upZ fl3 fun h4 hh4 up4 => wpAny_throw (tk _ _ ?_)
          exact ⟨a, B, sI, pins, σ', H', cls, d, rfl, J, nb, (up.trans up3).trans up4, .inr (.inr (by rw [hs]; exact hh4)), na, os, ag, w⟩
        first
          | exact wpAny_bind (wpAny_pure (wpAny_bind fin))
          | exact wpAny_bind fin
      | @cons x c ts b₀ suite np pos' hds2 l2 hc hsu r ih =>
        intro w
        obtain ⟨b, hb1, hyes, hno⟩ := w
        refine wpAny_handleBy_cons (codeAny_handlers_test ?_) (by intro q; cases q)
        have LM := PySem.W.exm_one (M := model X.prog X.w) (J3.kIn) LT hb1
        refine test hc (LM.here ?_)
        cases b with
        | true =>
          refine codeAny_handlers_suite ?_
          refine HandSPX.lands_againZ fl3 fun h4 fl4 up4 => ?_
          refine wpAny_mono ((hsu a (X.pn ++ pins)).run [] _ _ _ _ (track fl4 up4) (hyes rfl a na)) (fun f s6 hsp => ?_) (fun _ _ z => False.elim z)
          cases f with
          | next =>
            obtain ⟨σ6, H6, S6, q6⟩ := hsp
            exact ⟨_, _, inv_unsuite0 S6 ok, q6⟩
          | brk =>
            obtain ⟨σ6, H6, S6, q6⟩ := hsp
            exact ⟨_, _, inv_unsuite0 S6 ok, q6⟩
          | cont =>
            obtain ⟨σ6, H6, S6, q6⟩ := hsp
            exact ⟨_, _, inv_unsuite0 S6 ok, q6⟩
          | ret u =>
            obtain ⟨v6, σ6, H6, S6, r6, q6⟩ := hsp
            exact ⟨_, _, _, inv_unsuite0 S6 ok, r6, q6⟩
        | false =>
          show wpAny _ X.A (handleBy (.ref a) X.env hds2) _ _ _
          exact ih (hno rfl)
      | @consAs x n i c ts b₀ suite np pos' hds2 l2 hc hi hln hsu r ih =>
        intro w
        obtain ⟨b, hb1, hyes, hno⟩ := w
        refine wpAny_handleBy_cons (codeAny_handlers_test ?_) (by intro q; cases q)
        have LM := PySem.W.exm_one (M := model X.prog X.w) (J3.kIn) LT hb1
        refine test hc (LM.here ?_)
        cases b with
        | true =>
          refine codeAny_handlers_suite_as ?_
          refine HandSPX.lands_againZ fl3 fun h4 fl4 up4 => ?_
          refine store_ok (X := X.suite a (X.pn ++ pins)) (v := .ref a) (track fl4 up4) hN hi (.inl hln) rfl (fun s5 S5 => ?_) (.inr hln)
          refine wpAny_mono ((hsu a (X.pn ++ pins)).run [] s5 _ _ _ S5 (hyes rfl a na)) (fun f s6 hsp => ?_) (fun _ _ z => False.elim z)
          have end_ : ∀ {σ6 : L2.St} {H6 : Hp} {Q : Shared → Prop}, Inv (X.suite a (X.pn ++ pins)) [] σ6 H6 s6 → (∀ s7, Inv X pins (σ6.set i none) H6 s7 → Q s7) →
              wpAny (model X.prog X.w) X.A (do bindName X.env n .none; unbindBehindTheSuite X.env n pos') (fun _ s7 => Q s7) X.xe s6 := fun {σ6 H6 Q} S6 hq => gone_ok (inv_unsuite0 S6 ok) hN hi hln hq
          cases f with
          | next =>
            obtain ⟨σ6, H6, S6, q6⟩ := hsp
            exact end_ S6 fun s7 J7 => ⟨_, _, J7, q6⟩
          | brk =>
            obtain ⟨σ6, H6, S6, q6⟩ := hsp
            exact end_ S6 fun s7 J7 => ⟨_, _, J7, q6⟩
          | cont =>
            obtain ⟨σ6, H6, S6, q6⟩ := hsp
            exact end_ S6 fun s7 J7 => ⟨_, _, J7, q6⟩
          | ret u =>
            obtain ⟨v6, σ6, H6, S6, r6, q6⟩ := hsp
            exact end_ S6 fun s7 J7 => ⟨_, _, _, J7, r6, q6⟩
        | false =>
          show wpAny _ X.A (handleBy (.ref a) X.env hds2) _ _ _
          exact ih (hno rfl)
    exact go hh w
  · cases f with
    | next =>
      obtain ⟨σ', H', J', q⟩ := hsp
      exact wpAny_execs_nil ⟨σ', H', J'.ofTry ok, q⟩
    | brk =>
      obtain ⟨σ', H', J', q⟩ := hsp
      exact ⟨σ', H', J'.ofTry ok, q⟩
    | cont =>
      obtain ⟨σ', H', J', q⟩ := hsp
      exact ⟨σ', H', J'.ofTry ok, q⟩
    | ret u =>
      obtain ⟨v, σ', H', J', r, q⟩ := hsp
      exact ⟨v, σ', H', J'.ofTry ok, r, q⟩
end
/-! ### over data -/
def xKinds : List Str := ["BadYard", "BadGoal", "BadDeed", "BadMove", "NoBox", "NoWay", "BadPrice", "Full", "BadText"]
def subX (x c : Str) : Bool := x == c || c == "BoxError"
def QnD (i : Option Nat) (Q : DEnds) : DEnds := match i with
  | none => { Q with ex := fun _ _ _ => False }
  | some i => { nx := fun ρ M => Q.nx (ρ.set i none) M, rt := Q.rt, bk := fun ρ M => Q.bk (ρ.set i none) M, ct := fun ρ M => Q.ct (ρ.set i none) M, ex := fun _ _ _ => False }
def rN (i : Option Nat) (a : Nat) (ρ : Rho) : Rho := match i with
  | none => ρ
  | some i => ρ.set i (some (rf a))
def dHds (Q : DEnds) : List (Str × Option Nat × DS) → DX → Rho → Mem → Prop
  | [], x, ρ, M => Q.ex x ρ M
  | (c, i, f) :: r, x, ρ, M => if subX x.cls c = true then ∀ a, M a = none → f (QnD i Q) (rN i a ρ) (mup M a (.exc x)) else dHds Q r x ρ M
def dTry (b : DS) (l : List (Str × Option Nat × DS)) : DS := fun Q ρ M => b { Q with ex := fun x ρ1 M1 => x.cls ∈ xKinds ∧ dHds Q l x ρ1 M1 } ρ M
/-- what the head says of the own classes -/
structure XTab (K : PySem.W.Frag) (mg : Str → Option Value) : Prop where
  cls : ∀ c ∈ ("BoxError" : Str) :: xKinds, ∃ C, mg c = some (.ref C)
  exm : ∀ x ∈ xKinds, ∀ c ∈ ("BoxError" : Str) :: xKinds, ∀ Cx Cc, mg x = some (.ref Cx) → mg c = some (.ref Cc) → PySem.W.exmOne K (.ref Cx) (.ref Cc) = some (subX x c)
  kit : ∀ x ∈ xKinds, ∀ c ∈ ("BoxError" : Str) :: xKinds, ∀ Cx Cc, mg x = some (.ref Cx) → mg c = some (.ref Cc) → PySem.W.kitOne K (.ref Cx) (.ref Cc) = some (subX x c)
  kitV : ∀ x ∈ xKinds, ∀ Cx, mg x = some (.ref Cx) → PySem.W.kitOne K (.ref Cx) (.type "ValueError") = some true
  exc : ∀ x ∈ xKinds, ∀ Cx, mg x = some (.ref Cx) → ExcC K Cx
  fld : ∀ x ∈ xKinds, ∀ Cx, mg x = some (.ref Cx) → ∀ f ∈ (["number", "why", "row"] : List Str), PySem.W.findIn K (.ref Cx) f = some none
  ve : mg "ValueError" = none
inductive HdsD (X : Cx) : List ExceptHandler → List (Str × Option Nat × DS) → Prop
  | nil : HdsD X [] []
  | cons {x : Str} {f : DS} {b₀ : Stmt} {suite : List Stmt} {np pos' : Pos} {hds : List ExceptHandler} {l : List (Str × Option Nat × DS)} (hx : x ∈ ("BoxError" : Str) :: xKinds) (hg : Gl X x) (hdb : (x == ("__debug__" : Str)) = false)
      (hsu : ∀ (a : Addr) (pn : List (Addr × Obj)), SS (X.suite a pn) (fun _ _ _ _ => False) (b₀ :: suite) f) (r : HdsD X hds l) :
      HdsD X (.ExceptHandler (some (.Name x np)) none (b₀ :: suite) pos' :: hds) ((x, none, f) :: l)
  | consAs {x n : Str} {i : Nat} {f : DS} {b₀ : Stmt} {suite : List Stmt} {np pos' : Pos} {hds : List ExceptHandler} {l : List (Str × Option Nat × DS)} (hx : x ∈ ("BoxError" : Str) :: xKinds) (hg : Gl X x) (hdb : (x == ("__debug__" : Str)) = false)
      (hi : X.N[i]? = some n) (hln : X.env.kindOf n = some .local) (hsu : ∀ (a : Addr) (pn : List (Addr × Obj)), SS (X.suite a pn) (fun _ _ _ _ => False) (b₀ :: suite) f) (r : HdsD X hds l) :
      HdsD X (.ExceptHandler (some (.Name x np)) (some n) (b₀ :: suite) pos' :: hds) ((x, some i, f) :: l)
section
variable {X : Cx} {W : WX} {body : List Stmt} {fb : DS} {h₀ : ExceptHandler} {hds : List ExceptHandler} {l : List (Str × Option Nat × DS)} {pos : Pos}
theorem hds_lift (T : XTab X.K X.mg) {hds : List ExceptHandler} {l : List (Str × Option Nat × DS)} (h : HdsD X hds l) : ∃ lT, HdsT X hds lT ∧ ∀ {F H : Hp} {M : Mem} {Dd : DEnds} {D : Ends}, CD X.K X.mg W F H M Dd D → CXs X.K X.mg F H M (fun x ρ M => x.cls ∈ xKinds ∧ dHds Dd l x ρ M) (wAll X.K W D lT) := by
  induction h with
  | nil => exact ⟨[], .nil, fun {F H M Dd D} cd F1 H1 M1 ρ σ x c dd n rs rx h => cd.ex F1 H1 M1 ρ σ x c dd n rs rx h.2⟩
  | @cons x0 f b₀ suite np pos' hds l hx hg hdb hsu r ih =>
    obtain ⟨lT, h1, h2⟩ := ih
    obtain ⟨Cc, gc⟩ := T.cls x0 hx
    refine ⟨_, .cons (c := .ref Cc) (ts := LS X.K X.mg (fun _ _ _ _ => False) f) ⟨hg, hdb, .inl gc⟩ (fun a pn => (hsu a pn).h) h1, fun {F H M Dd D} cd F1 H1 M1 ρ σ x c dd n rs rx h => ?_⟩
    obtain ⟨hk, h⟩ := h
    obtain ⟨Cx, gx, rfl, xv⟩ := id rx
    refine ⟨subX x.cls x0, T.exm _ hk _ hx _ _ gx gc, fun hb a na => ?_, fun hb => h2 cd F1 H1 M1 ρ σ x _ dd n rs rx ⟨hk, ?_⟩⟩
    · unfold dHds at h
      rw [if_pos hb] at h
      have n2 := Nx.live (o := EXO a (.ref Cx) dd) (mo := .exc x) n.ok na ⟨Cx, dd, gx, upd_same, xv⟩
      have n3 := n.trans n2
      exact ⟨F1, _, ρ, QnD none Dd, rs, n2.ok, h a (n.ok.fresh na).2, ⟨cd.nx.mono n3, cd.rt.mono n3, cd.bk.mono n3, cd.ct.mono n3, fun _ _ _ _ _ _ _ _ _ _ _ z => z.elim⟩⟩
    · unfold dHds at h
      rw [if_neg (by rw [hb]; exact Bool.false_ne_true)] at h
      exact h
  | @consAs x0 nm i f b₀ suite np pos' hds l hx hg hdb hi hln hsu r ih =>
    obtain ⟨lT, h1, h2⟩ := ih
    obtain ⟨Cc, gc⟩ := T.cls x0 hx
    refine ⟨_, .consAs (c := .ref Cc) (ts := LS X.K X.mg (fun _ _ _ _ => False) f) ⟨hg, hdb, .inl gc⟩ hi hln (fun a pn => (hsu a pn).h) h1, fun {F H M Dd D} cd F1 H1 M1 ρ σ x c dd n rs rx h => ?_⟩
    obtain ⟨hk, h⟩ := h
    obtain ⟨Cx, gx, rfl, xv⟩ := id rx
    refine ⟨subX x.cls x0, T.exm _ hk _ hx _ _ gx gc, fun hb a na => ?_, fun hb => h2 cd F1 H1 M1 ρ σ x _ dd n rs rx ⟨hk, ?_⟩⟩
    · unfold dHds at h
      rw [if_pos hb] at h
      have n2 := Nx.live (o := EXO a (.ref Cx) dd) (mo := .exc x) n.ok na ⟨Cx, dd, gx, upd_same, xv⟩
      have n3 := n.trans n2
      refine ⟨F1, _, ρ.set i (some (rf a)), QnD (some i) Dd, rs.set (Rp.rf.mpr rfl), n2.ok, h a (n.ok.fresh na).2, ⟨?_, cd.rt.mono n3, ?_, ?_, fun _ _ _ _ _ _ _ _ _ _ _ z => z.elim⟩⟩
      · exact fun F4 H4 M4 ρ4 σ4 n4 rs4 q4 => cd.nx F4 H4 M4 _ _ (n3.trans n4) rs4.unset q4
      · exact fun F4 H4 M4 ρ4 σ4 n4 rs4 q4 => cd.bk F4 H4 M4 _ _ (n3.trans n4) rs4.unset q4
      · exact fun F4 H4 M4 ρ4 σ4 n4 rs4 q4 => cd.ct F4 H4 M4 _ _ (n3.trans n4) rs4.unset q4
    · unfold dHds at h
      rw [if_neg (by rw [hb]; exact Bool.false_ne_true)] at h
      exact h
theorem es_try (T : XTab X.K X.mg) (tk : Takes X W) (hN : X.N.Nodup)
    (hb : ∀ (W' : WX) (pn : List (Addr × Obj)) (xe : Value → Shared → Prop), Takes (X.tr pn xe) W' → PassesOwn (model X.prog X.w) X.A X.env xe → SS (X.tr pn xe) W' body fb) (hh : HdsD X (h₀ :: hds) l)
    (hs : X.stack = X.env :: X.outer := by rfl) (hf : X.env.frame = some X.env.locals := by rfl) (hex : X.ex = [] := by rfl) : ES X W (.Try body (h₀ :: hds) [] [] pos) (dTry fb l) := by
  obtain ⟨lT, h1, h2⟩ := hds_lift (W := W) T hh
  refine ⟨PS.imp (ps_try_all hs hf hex hN tk (tb := fun W' => LS X.K X.mg W' fb) (fun W' pn xe t p => (hb W' pn xe t p).h) h1) ?_⟩
  rintro Q σ H ⟨F, M, ρ, Dd, rs, rp, hf, cd⟩
  exact ⟨F, M, ρ, _, rs, rp, hf, ⟨cd.nx, cd.rt, cd.bk, cd.ct, h2 cd⟩⟩
end
end Nb
set_option Elab.async false
set_option linter.all false
set_option maxRecDepth 100000
set_option maxHeartbeats 4000000
set_option autoImplicit false
namespace Nb
open PySem PySem.Spec PyProof.Rows L2

/-! ### e.f and isinstance(e, C) of a caught exception -/
def dXf (f : Str) (a : DE) : DE := fun ρ M Q E => a ρ M (fun d M1 => ∃ p x v, d = rf p ∧ M1 p = some (.exc x) ∧ x.cls ∈ xKinds ∧ (x.nms.zip x.vals).lookup f = some v ∧ Q v M1) E
def dIsX (c : Str) (a : DE) : DE := fun ρ M Q E => a ρ M (fun d M1 => ∃ p x, d = rf p ∧ M1 p = some (.exc x) ∧ x.cls ∈ xKinds ∧ Q (.bool (subX x.cls c)) M1) E
def dIsXV (a : DE) : DE := fun ρ M Q E => a ρ M (fun d M1 => ∃ p x, d = rf p ∧ M1 p = some (.exc x) ∧ x.cls ∈ xKinds ∧ Q (.bool true) M1) E
theorem zip_lookup2 {K : PySem.W.Frag} {F : Hp} : ∀ {L : List Str} {ds : List Dat} {vs : List V} {f : Str} {d : Dat}, RpAll K F ds vs → (L.zip ds).lookup f = some d → ∃ v, (L.zip vs).lookup f = some v ∧ Rp K F d v
  | [], _, _, _, _, _, h => by simp at h
  | g :: L, [], _, _, _, _, h => by simp at h
  | g :: L, d0 :: ds, vs, f, d, r, h => by
    obtain ⟨v0, t, rfl, r0, rt⟩ := r.inv
    rw [List.zip_cons_cons] at h ⊢
    by_cases e : f = g
    · subst e
      simp [List.lookup] at h ⊢
      subst h
      exact r0
    · have e' : (f == g) = false := by simpa using e
      simp only [List.lookup, e'] at h ⊢
      exact zip_lookup2 rt h
/-- the exception's object as an instance -/
theorem exo_inst {X : Cx} {pins : List (Addr × Obj)} {σ : L2.St} {H F : Hp} {M : Mem} {s : Shared} {p : Nat} {x : DX} (I : Inv X pins σ H s) (rp : Rpr X.K X.mg H F M) (h : M p = some (.exc x)) :
    ∃ C oe od, X.mg x.cls = some (.ref C) ∧ PySem.W.InstAt s.heap p oe C od ∧ ∀ f d, (x.nms.zip x.vals).lookup f = some d → ∃ v u o, Rp X.K F d v ∧ RelV v u ∧ od = some o ∧ PySem.W.lookIn f o = some (some u) := by
  obtain ⟨_, C, d, gx, hH, xv⟩ := rp.mem p _ h
  obtain ⟨oe, vs, ha, hz, hd⟩ := EXO_at I.hok hH
  have hnc : PySem.W.notCls oe := by unfold PySem.W.notCls; rw [hd]
  rcases xv with ⟨e1, e2, e3⟩ | ⟨dd, us, e, hF, r, hl⟩
  · refine ⟨C, oe, none, gx, ⟨ha, hz.1, hnc, by rw [hz.2, e3]; trivial⟩, fun f d h => ?_⟩
    rw [e1] at h
    simp at h
  · have ea := rp.sub _ _ hF
    obtain ⟨mA, hns, hr⟩ := (show ObjOk X.prog X.w H s.heap dd (.xd (x.nms.zip us)) from I.hok dd _ ea)
    obtain ⟨od, ho, hlk⟩ := lookIn_ns hns
    refine ⟨C, oe, some od, gx, ⟨ha, hz.1, hnc, by rw [hz.2, e]; exact ho⟩, fun f d h => ?_⟩
    obtain ⟨v, h1, h2⟩ := zip_lookup2 r h
    obtain ⟨u, hu, ru⟩ := RelO.some_of (v := v) (o := mA f) (by rw [← h1]; exact hr f)
    exact ⟨v, u, od, h2, ru, rfl, by rw [hlk, hu]⟩
section
variable {X : Cx} {W : WX} {e : Expr} {fe : DE} {p p2 pos : Pos} {c f : Str}
theorem ee_xf (T : XTab X.K X.mg) (he : EE X W e fe) (hf : f ∈ (["number", "why", "row"] : List Str) := by decide) (hb : attributeBase e f X.env (eval e X.env) = eval e X.env := by rfl) : EE X W (.Attribute e f pos) (dXf f fe) := by
  refine ⟨⟨fun pins s σ H Q I h => ?_⟩⟩
  obtain ⟨F, M, ρ, Qd, Ed, rs, rp, hr, cq, cx⟩ := h
  refine attr_of hb (thn (he.h.run pins s σ H (fun v H1 => ∃ F1 M1 d, Nx X.K X.mg F H M F1 H1 M1 ∧ Rp X.K F1 d v ∧ ∃ p x v, d = rf p ∧ M1 p = some (.exc x) ∧ x.cls ∈ xKinds ∧ (x.nms.zip x.vals).lookup f = some v ∧ Qd v M1) I
    ⟨F, M, ρ, _, Ed, rs, rp, hr, fun F1 H1 M1 d v n rv q => ⟨F1, M1, d, n, rv, q⟩, cx⟩) fun u s1 hh => ?_)
  obtain ⟨v, H1, I1, ru, F1, M1, d, n, rv, q, x, v2, rfl, hM, hk, hl, hq⟩ := hh
  obtain rfl := Rp.rf.mp rv
  obtain rfl : u = Value.ref q := ru
  obtain ⟨C, oe, od, gx, J, hv⟩ := exo_inst I1 n.ok hM
  obtain ⟨v3, u3, o, r3, r4, rfl, hlk⟩ := hv f v2 hl
  have E := T.exc _ hk C gx
  exact HandSPX.exc_get I1.kIn J E.hg E.hk E.hs (PySem.W.findObj_own E.hd (T.fld _ hk C gx f hf) rfl hlk) (handed_of r4) ⟨v3, H1, I1.tok _, r4, cq F1 H1 M1 v2 v3 n r3 hq⟩
theorem isx_run {pins : List (Addr × Obj)} {σ : L2.St} {H F : Hp} {M : Mem} {s : Shared} {q : Nat} {x : DX} {cv : Value} {b : Bool} {Q : Value → Shared → Prop} {E : Value → Shared → Prop} {A : Around} (T : XTab X.K X.mg) (I : Inv X pins σ H s) (rp : Rpr X.K X.mg H F M) (hM : M q = some (.exc x)) (hk : x.cls ∈ xKinds)
    (e : ∀ C, X.mg x.cls = some (.ref C) → PySem.W.kitOne X.K (.ref C) cv = some b) (h : ∀ tk, Q (.bool b) { s with toks := tk }) : wpAny (model X.prog X.w) A (call (.builtin "isinstance") [.ref q, cv]) Q E s := by
  obtain ⟨C, oe, od, gx, J, _⟩ := exo_inst I rp hM
  have E := T.exc _ hk C gx
  obtain ⟨cd, hc, _⟩ := PySem.W.any_some E.hd
  exact PySem.W.kia_one (PySem.W.kitx_exc (gt := none) (by rw [hc]; rfl) E.hg E.hk E.hs E.ha E.hn E.ht E.hm) I.kIn J (e C gx) (fun z => nomatch z) h
theorem isx_core {cn : Str} {cv : Value} (T : XTab X.K X.mg) (hm : X.mg "isinstance" = none) (he : EE X W e fe) (ld : ∀ {pins : List (Addr × Obj)} {σ : L2.St} {H : Hp} {s : Shared} {Q : Value → Shared → Prop} {E : Value → Shared → Prop}, Inv X pins σ H s → Q cv s → wpAny (model X.prog X.w) X.A (eval (.Name cn p2) X.env) Q E s)
    (g : DX → Bool) (hk1 : ∀ x C, x.cls ∈ xKinds → X.mg x.cls = some (.ref C) → PySem.W.kitOne X.K (.ref C) cv = some (g x)) (hg : Gl X "isinstance")
    (hs : starEach [e, .Name cn p2] X.env = (false, eval e X.env) :: starEach [.Name cn p2] X.env) (hs2 : starEach [.Name cn p2] X.env = (false, eval (.Name cn p2) X.env) :: starEach [] X.env) (hpl : (backTo pos (starEach [.Name cn p2] X.env)).any (·.1) = false) :
    EE X W (.Call (.Name "isinstance" p) [e, .Name cn p2] [] pos) (fun ρ M Q E => fe ρ M (fun d M1 => ∃ p x, d = rf p ∧ M1 p = some (.exc x) ∧ x.cls ∈ xKinds ∧ Q (.bool (g x)) M1) E) := by
  refine ⟨⟨fun pins s σ H Q I h => ?_⟩⟩
  obtain ⟨F, M, ρ, Qd, Ed, rs, rp, hr, cq, cx⟩ := h
  refine wpAny_Call_Name_kw (ld_blt (u := .builtin "isinstance") I hg hm (by decide +kernel) ?_ (by decide) (by decide))
  refine PyProof.Rows.callWith_method1 (first := []) ?_ hs hpl
  rw [hs, hs2]
  show wpAny _ _ (spliced ((false, eval e X.env) :: (backTo pos ((false, eval (.Name cn p2) X.env) :: starEach [] X.env)))) _ _ s
  refine Calls.spliced_cons (thn (he.h.run pins s σ H (fun v H1 => ∃ F1 M1 d, Nx X.K X.mg F H M F1 H1 M1 ∧ Rp X.K F1 d v ∧ ∃ p x, d = rf p ∧ M1 p = some (.exc x) ∧ x.cls ∈ xKinds ∧ Qd (.bool (g x)) M1) I
    ⟨F, M, ρ, _, Ed, rs, rp, hr, fun F1 H1 M1 d v n rv q => ⟨F1, M1, d, n, rv, q⟩, cx⟩) fun u s1 hh => ?_)
  obtain ⟨v, H1, I1, ru, F1, M1, d, n, rv, q, x, rfl, hM, hk, hq⟩ := hh
  obtain rfl := Rp.rf.mp rv
  obtain rfl : u = Value.ref q := ru
  refine Calls.spliced_cons (ld I1 ?_)
  refine Calls.spliced_nil ?_
  exact isx_run T I1 n.ok hM hk (fun C gx => hk1 x C hk gx) fun tk => ⟨.bl (g x), H1, I1.kept (t' := tk) fun _ _ z => z, rfl, cq F1 H1 M1 _ _ n (Rp.bl.mpr rfl) hq⟩
theorem ee_isx (T : XTab X.K X.mg) (c : Str) (hm : X.mg "isinstance" = none) (he : EE X W e fe) (hc : c ∈ ("BoxError" : Str) :: xKinds := by decide) (hg : Gl X "isinstance" := by rfl) (hgc : Gl X c := by rfl) (hdb : (c == ("__debug__" : Str)) = false := by decide)
    (hs : starEach [e, .Name c p2] X.env = (false, eval e X.env) :: starEach [.Name c p2] X.env := by rfl) (hs2 : starEach [.Name c p2] X.env = (false, eval (.Name c p2) X.env) :: starEach [] X.env := by rfl) (hpl : (backTo pos (starEach [.Name c p2] X.env)).any (·.1) = false := by rfl) :
    EE X W (.Call (.Name "isinstance" p) [e, .Name c p2] [] pos) (dIsX c fe) := by
  obtain ⟨Cc, gc⟩ := T.cls c hc
  exact isx_core T hm he (fun I q => ld_glob I hgc gc q hdb) (fun x => subX x.cls c) (fun x C hk gx => T.kit _ hk _ hc _ _ gx gc) hg hs hs2 hpl
theorem ee_isxV (T : XTab X.K X.mg) (hm : X.mg "isinstance" = none) (hm2 : X.mg "ValueError" = none) (he : EE X W e fe) (hg : Gl X "isinstance" := by rfl) (hgc : Gl X "ValueError" := by rfl)
    (hs : starEach [e, .Name "ValueError" p2] X.env = (false, eval e X.env) :: starEach [.Name "ValueError" p2] X.env := by rfl) (hs2 : starEach [.Name "ValueError" p2] X.env = (false, eval (.Name "ValueError" p2) X.env) :: starEach [] X.env := by rfl) (hpl : (backTo pos (starEach [.Name "ValueError" p2] X.env)).any (·.1) = false := by rfl) :
    EE X W (.Call (.Name "isinstance" p) [e, .Name "ValueError" p2] [] pos) (dIsXV fe) :=
  isx_core T hm he (fun I q => ld_blt I hgc hm2 PyProof.Rows.Boot.«ValueError» q (by decide) (by decide)) (fun _ => true) (fun x C hk gx => T.kitV _ hk _ gx) hg hs hs2 hpl
end
end Nb
set_option Elab.async false
set_option linter.all false
set_option maxRecDepth 100000
set_option maxHeartbeats 4000000
set_option autoImplicit false
namespace Nb
open PySem PySem.Spec PyProof.Rows L2

/-! ### C.__init__(self, ..) through an own class without own __init__ -/
structure BoxOk (K : PySem.W.Frag) (C0 : Addr) : Prop where
  rd : PySem.W.readsIn K C0 (.type "type") = true
  ga : PySem.W.specialIn K (.ref C0) "__getattribute__" = some (some (.builtin "type.__getattribute__"))
  at_ : PySem.W.findCls K (.ref C0) (.type "type") "__init__" = some (.val (.builtin "ValueError.__init__"))
section
variable {X : Cx} {e : Expr} {es : List Expr} {ta : TA} {p1 p2 pos : Pos} {x : Str}
theorem pe_boxinit {pl : Sem Bool} {C0 : Addr} (hg : Gl X x) (hm : X.mg x = some (.ref C0)) (B : BoxOk X.K C0) (ha : PA X (e :: es) ta) (hdb : (x == ("__debug__" : Str)) = false := by decide)
    (hc : eval (.Call (.Attribute (.Name x p1) "__init__" p2) (e :: es) [] pos) X.env = (do
      let ov ← eval (.Name x p1) X.env
      standAt p2.atName
      let (f, first) ← holding [ov] (getMethod ov "__init__" pl)
      callWith pos f first (backTo pos (starEach (e :: es) X.env)) (backToKw pos (keywordEach [] X.env))) := by rfl)
    (he : starEach (e :: es) X.env = (false, eval e X.env) :: starEach es X.env := by rfl) (hpl : (backTo pos (starEach es X.env)).any (·.1) = false := by rfl) :
    PE X (.Call (.Attribute (.Name x p1) "__init__" p2) (e :: es) [] pos) (tVeI X.K ta) := by
  refine ⟨fun pins s σ H Q I h => ?_⟩
  refine PySem.W.methodCall_KW (ld_glob I hg hm ?_ hdb) hc
  refine PySem.W.method_cls I.kIn B.ga (PySem.W.cls_value I.kIn B.rd B.at_ (by decide +kernel) ?_)
  show wpAny _ _ (callWith pos (Value.builtin "ValueError.__init__") [] (backTo pos (starEach (e :: es) X.env)) []) _ _ _
  refine PyProof.Rows.callWith_method1 (thn (ha.run pos pins _ σ H _ (I.tok _) h) fun us s1 ⟨vs, H1, I1, r1, a, C, ws, ev, hl, T, ea, q⟩ => ?_) he hpl
  subst ev
  cases r1 with
  | @cons _ u0 _ ur ra rw' =>
    obtain rfl : u0 = Value.ref a := ra
    have hlen : ur.length ≤ sizeLine := by
      rw [← Paired.length rw', sizeLine_eq]
      omega
    exact oinit_ok T I1 ea hlen fun s' J => ⟨.non, H1, J, rfl, q⟩
end
/-! ### C(f=e, ..), C's own __init__ by keywords -/
def tMkK (C : Addr) (sp : Sp) (n : Nat) (tk : TA) : L2.St → Hp → XK → Prop := fun σ H Q => tk σ H fun zs H1 => zs.length = n ∧ ∀ a, H1 a = none → sp (.ref a :: zs) (upd H1 a (exo a C none))
  (fun v H2 => v = .non ∧ ∃ (d : Addr) (fs : List (Str × V)), H2 a = some (exo a C (some d)) ∧ H2 d = some (exd d fs) ∧ H1 d = none ∧ Q (.ref C) (some d) (upd (del H2 a) d (.xd fs))) (fun _ _ _ => False)
section
variable {X : Cx} {p pos : Pos} {kws : List Keyword} {tk : TA}
theorem pmk_oexK {CX : CXT} {x : Str} {C fI : Addr} {k : Nat} {fd : FuncData} {ps ks : List Str} {sp : Sp} (T : OexC X.K C) (iC : PySem.W.findIn X.K (.ref C) "__init__" = some (some (.ref fI))) (tI : PySem.W.typeIn X.K (.ref fI) = some (.type "function"))
    (F1 : FnOk X.prog X.w X.K X.mg X.base CX k fI fd ps sp) (hr : Room (k + 1) X.A) (hb : KBn X.K fd ps 1 ks (fun us ws => us ++ ws) (fun vs zs => vs ++ zs)) (hx : Passes CX X (fun _ _ _ => False)) (hg : Gl X x) (hm : X.mg x = some (.ref C)) (hkw : PK X kws tk)
    (hall : (backToKw pos (keywordEach kws X.env)).all (·.1.isSome) = true) (hks : (backToKw pos (keywordEach kws X.env)).filterMap (·.1) = ks) (hdb : (x == ("__debug__" : Str)) = false)
    (hpl : ((backTo pos (starEach [] X.env)).any (·.1) || (backToKw pos (keywordEach kws X.env)).any (·.1.isNone)) = false) : PMk X (.Call (.Name x p) [] kws pos) (tMkK C sp ks.length tk) := by
  intro pins s σ H Q I h
  obtain ⟨nm, q, N, bs, bm, sn, sub, ab, col, dd, k0, k1, k2, k3, k5, hC, hbm⟩ := T.cls
  refine wpAny_Call_Name_kw (ld_glob I hg hm ?_ hdb)
  refine PySem.W.callWith_KW0 (h₀ := X.base) I.ok.mod.kin T.kC hall ?_ hpl
  refine thn (hkw.run pos pins s σ H _ I h) fun ws s1 ⟨zs, H1, I1, rz, hz, q1⟩ => ⟨I1.kIn, ?_⟩
  rw [hks]
  show wpAny _ _ (call (.ref C) [] (ks.zip ws)) _ _ _
  obtain ⟨hp, g, dr, tk, os⟩ := s1
  have hsz : hp.objs.size ≤ hp.objs.size + 1 := Nat.le_succ _
  have hn : H1 (hp.objs.size + 1) = none := I1.hok.fresh hsz
  have hq := q1 (hp.objs.size + 1) hn
  have kk : ∀ b o, hp.get? b = some o → ((hp.push (PySem.W.kdv_tup [])).push (PySem.HandSPX.excO C hp.objs.size)).get? b = some o := fun b o e => Heap.get?_push_of_some _ (Heap.get?_push_of_some _ e)
  have hget : ((hp.push (PySem.W.kdv_tup [])).push (PySem.HandSPX.excO C hp.objs.size)).get? (hp.objs.size + 1) = some (PySem.HandSPX.excO C hp.objs.size) := by heap_get
  have I2 : Inv X pins σ (upd H1 (hp.objs.size + 1) (exo (hp.objs.size + 1) C none)) ⟨(hp.push (PySem.W.kdv_tup [])).push (PySem.HandSPX.excO C hp.objs.size), g, dr, tk, os⟩ :=
    I1.laid (t' := tk) (a := hp.objs.size + 1) (o := exo (hp.objs.size + 1) C none) (h' := (hp.push (PySem.W.kdv_tup [])).push (PySem.HandSPX.excO C hp.objs.size)) kk hsz (exo_ok hget)
  have r2 : Vals (V.ref (hp.objs.size + 1) :: zs) (Value.ref (hp.objs.size + 1) :: ws) := .cons rfl rz
  have lw : ws.length = ks.length := rz.length.symm.trans hz
  refine wpAny_call (PySem.NbX.call_ownK (rest := []) (kw := ks.zip ws) F.excBase_ValueError (fun Y => PySem.HandSPX.refsVE_contains Y bm hbm) (I1.kIn _ _ hC) (PySem.W.looks_findIn I1.kIn iC) (fun self => PySem.W.bind_fn I1.kIn self tI) (Nat.zero_le _)
    (codeAny_mono (F1.run _ X.stack _ _ ⟨[Value.ref (hp.objs.size + 1)], ks.zip ws⟩ (Value.ref (hp.objs.size + 1) :: ws) _ _ (fun _ _ _ => False) (hr.make C [] (ks.zip ws)) (I2.env0.make C [] (ks.zip ws)) (hb.to _ [Value.ref (hp.objs.size + 1)] ws I2.kIn rfl lw) r2 hq) fun r s' hq' => ?_))
  cases r with
  | error er => exact hx pins σ _ _ er s' I2 hq'
  | ok fl =>
    cases fl with
    | ret u =>
      obtain ⟨v, H2, os2, bare2, un2, hok2, rv, ev, d, fs, ea, ed, hd1, q2⟩ := hq'
      subst ev
      obtain ⟨h2, g2, d2, t2, os'⟩ := s'
      exact ⟨rv, mk_end (raises_own T.exC T.tyC) I1 hsz kk un2 hok2 os2 bare2 ea ed hd1 q2⟩
    | next => exact False.elim hq'
    | brk => exact False.elim hq'
    | cont => exact False.elim hq'
/-- C() -/
theorem pmk_own0 {x : Str} {C : Addr} {bmB : List Value} {B newId initId : String} (F : ExcBaseFacts B newId initId bmB) (q : PySem.W.excIn X.K C bmB newId = true) (gC : X.mg x = some (.ref C)) (kC : PySem.W.keepIn X.K (.ref C) = true) (r : Raises X (.ref C)) (hg : Gl X x)
    (hdb : (x == ("__debug__" : Str)) = false) : PMk X (.Call (.Name x p) [] [] pos) (fun _ H Q => Q (.ref C) none H) := by
  intro pins s σ H Q I h
  refine wpAny_Call_Name_kw (ld_glob I hg gC ?_ hdb)
  refine PySem.W.callWith_K0 (first := []) I.kIn kC ?_
  show wpAny _ _ (call (.ref C) []) _ _ _
  obtain ⟨bm, N, nm, qn, bs, hdct, sn, sub, ab, col, dd, k0, k1, k2, k3, k5, mN, hC, hN, hni, T⟩ := exc_obj I.kIn q
  refine wpAny_call_exc_subT F T hC hN hni (fun h' e hm => ?_) (Nat.zero_le _)
  exact mk_of I hm r h (I.hok.gone hm.new)
end
/-! ### what the defs __init__ compute -/
def spI1 (K : PySem.W.Frag) (f : Str) : Sp := fun vs H Q _ => ∃ (a C : Addr) (y : V), vs = [.ref a, y] ∧ OexC K C ∧ PySem.W.findIn K (.ref C) f = some none ∧ H a = some (exo a C none) ∧ ∀ dx, H dx = none → dx ≠ a → Q .non (upd (upd H dx (exd dx [(f, y)])) a (exo a C (some dx)))
def spI2 (K : PySem.W.Frag) (f g : Str) : Sp := fun vs H Q _ => ∃ (a C : Addr) (y z : V), vs = [.ref a, y, z] ∧ OexC K C ∧ PySem.W.findIn K (.ref C) f = some none ∧ PySem.W.findIn K (.ref C) g = some none ∧ H a = some (exo a C none) ∧
  ∀ dx, H dx = none → dx ≠ a → Q .non (upd (upd (upd H dx (exd dx [(f, y)])) a (exo a C (some dx))) dx (exd dx [(g, z), (f, y)]))
section
variable (P : Program) (w : World) (K : PySem.W.Frag) (mg : Str → Option Value) (base : Heap)
def HasX0 (c : Str) : Prop := ∃ C, mg c = some (.ref C) ∧ PySem.W.excIn K C HandSPX.veTail "ValueError.__new__" = true ∧ PySem.W.keepIn K (.ref C) = true ∧ PySem.W.subIn K (.ref C) (.type "BaseException") = some true ∧ PySem.W.typeIn K (.ref C) = some (.type "type")
def HasX1 (c f : Str) : Prop := ∃ C fI fd, mg c = some (.ref C) ∧ OexC K C ∧ PySem.W.findIn K (.ref C) f = some none ∧ PySem.W.findIn K (.ref C) "__init__" = some (some (.ref fI)) ∧ PySem.W.typeIn K (.ref fI) = some (.type "function") ∧
  FnOk P w K mg base (L2.CX P w) 1 fI fd ["self", f] (spI1 K f) ∧ KBn K fd ["self", f] 1 [f] (fun us ws => us ++ ws) (fun vs zs => vs ++ zs)
def HasX2 (c f g : Str) : Prop := ∃ C fI fd, mg c = some (.ref C) ∧ OexC K C ∧ PySem.W.findIn K (.ref C) f = some none ∧ PySem.W.findIn K (.ref C) g = some none ∧ PySem.W.findIn K (.ref C) "__init__" = some (some (.ref fI)) ∧ PySem.W.typeIn K (.ref fI) = some (.type "function") ∧
  FnOk P w K mg base (L2.CX P w) 1 fI fd ["self", f, g] (spI2 K f g) ∧ KBn K fd ["self", f, g] 1 [f, g] (fun us ws => us ++ ws) (fun vs zs => vs ++ zs)
end
/-! ### raise -/
def dRaise (c : Str) (nms : List Str) (a : DA) : DS := fun Q ρ M => a ρ M (fun vs M1 => Q.ex ⟨c, nms, vs.reverse⟩ ρ M1) fun x M1 => Q.ex x ρ M1
theorem exo_end1 {H : Hp} {a d : Addr} {o u : HO} (ha : H a = none) (n : d ≠ a) (xd : HO) : upd (del (upd (upd H d o) a u) a) d xd = upd H d xd := by
  funext b
  by_cases h : b = d
  · subst h; rw [upd_same, upd_same]
  · rw [upd_ne h, upd_ne h]
    by_cases h2 : b = a
    · subst h2; rw [del_same, ha]
    · rw [del_ne h2, upd_ne h2, upd_ne h]
theorem passes0 {X : Cx} : Passes (L2.CX X.prog X.w) X (fun _ _ _ => False) := fun pins σ H s e s' I c => by
  obtain ⟨_, _, _, _, _, _, _, _, _, _, _, _, z⟩ := c
  exact z.elim
section
variable {X : Cx} {W : WX} {e e2 : Expr} {fe fe2 : DE} {p kp kp2 pos pos' : Pos} {c f g m : Str} {j : Nat}
theorem es_raise0 (h : HasX0 X.K X.mg c) (hc : X.calm = true) (tk : Takes X W) (hg : Gl X c := by rfl) (hdb : (c == ("__debug__" : Str)) = false := by decide) : ES X W (.Raise (some (.Call (.Name c p) [] [] pos)) none pos') (dRaise c [] dNil) := by
  obtain ⟨C, gC, q, kC, e1, e2⟩ := h
  refine ⟨PS.imp (ps_raise hc tk (pmk_own0 F.excBase_ValueError q gC kC (raises_own e1 e2) hg hdb)) ?_⟩
  rintro Q σ H ⟨F, M, ρ, Dd, rs, rp, hf, cd⟩
  exact cd.ex F H M ρ σ ⟨c, [], []⟩ _ _ (Nx.refl rp) rs ⟨C, gC, rfl, .inl ⟨rfl, rfl, rfl⟩⟩ hf
theorem es_raiseM (h : HasX0 X.K X.mg c) (hc : X.calm = true) (tk : Takes X W) (hg : Gl X c := by rfl) (hdb : (c == ("__debug__" : Str)) = false := by decide) : ES X W (.Raise (some (.Call (.Name c p) [.Constant (.str m) j kp] [] pos)) none pos') (dRaise c [] dNil) := by
  obtain ⟨C, gC, q, kC, e1, e2⟩ := h
  refine ⟨PS.imp (ps_raise hc tk (pmk_own F.excBase_ValueError q gC kC (raises_own e1 e2) hg hdb)) ?_⟩
  rintro Q σ H ⟨F, M, ρ, Dd, rs, rp, hf, cd⟩
  exact cd.ex F H M ρ σ ⟨c, [], []⟩ _ _ (Nx.refl rp) rs ⟨C, gC, rfl, .inl ⟨rfl, rfl, rfl⟩⟩ hf
theorem es_raise1 (h : HasX1 X.prog X.w X.K X.mg X.base c f) (hr : Room 2 X.A) (hc : X.calm = true) (tk : Takes X W) (he : EE X W e fe) (hg : Gl X c := by rfl) (hdb : (c == ("__debug__" : Str)) = false := by decide)
    (hall : (backToKw pos (keywordEach [⟨some f, e, kp⟩] X.env)).all (·.1.isSome) = true := by rfl) (hks : (backToKw pos (keywordEach [⟨some f, e, kp⟩] X.env)).filterMap (·.1) = [f] := by rfl)
    (hpl : ((backTo pos (starEach [] X.env)).any (·.1) || (backToKw pos (keywordEach [⟨some f, e, kp⟩] X.env)).any (·.1.isNone)) = false := by rfl) :
    ES X W (.Raise (some (.Call (.Name c p) [] [⟨some f, e, kp⟩] pos)) none pos') (dRaise c [f] (dCons fe dNil)) := by
  obtain ⟨C, fI, fd, gC, T, no, iC, tI, F1, hb⟩ := h
  refine ⟨PS.imp (ps_raise hc tk (pmk_oexK T iC tI F1 hr hb passes0 hg gC (pk_cons he.h pk_nil) hall hks hdb hpl)) ?_⟩
  rintro Q σ H ⟨F, M, ρ, Dd, rs, rp, hf, cd⟩
  refine ⟨F, M, ρ, _, _, rs, rp, hf, fun F1 H1 M1 d v n1 rv q1 => ?_, cd.ex.at rs⟩
  refine ⟨rfl, fun a na => ⟨a, C, v, rfl, T, no, upd_same, fun dx nd ne => ⟨rfl, dx, [(f, v)], by rw [upd_same], by rw [upd_ne ne, upd_same], by rw [upd_ne ne] at nd; exact nd, ?_⟩⟩⟩
  rw [upd_ne ne] at nd
  have eH : upd (del (upd (upd (upd H1 a (exo a C none)) dx (exd dx [(f, v)])) a (exo a C (some dx))) a) dx (.xd [(f, v)]) = upd H1 dx (.xd [(f, v)]) := by
    funext b
    by_cases h : b = dx
    · subst h; rw [upd_same, upd_same]
    · rw [upd_ne h, upd_ne h]
      by_cases h2 : b = a
      · subst h2; rw [del_same, na]
      · rw [del_ne h2, upd_ne h2, upd_ne h, upd_ne h2]
  rw [eH]
  have n2 := Nx.new n1.ok nd (.xd [(f, v)])
  refine cd.ex _ _ M1 ρ σ ⟨c, [f], [d]⟩ _ _ (n1.trans n2) (rs.mono (n1.trans n2).same) ⟨C, gC, rfl, .inr ⟨dx, [v], rfl, upd_same, .cons (rv.mono n2.same) .nil, rfl⟩⟩ q1
theorem es_raise2 (h : HasX2 X.prog X.w X.K X.mg X.base c f g) (hr : Room 2 X.A) (hc : X.calm = true) (tk : Takes X W) (he : EE X W e fe) (he2 : EE X W e2 fe2) (hg : Gl X c := by rfl) (hdb : (c == ("__debug__" : Str)) = false := by decide)
    (hall : (backToKw pos (keywordEach [⟨some f, e, kp⟩, ⟨some g, e2, kp2⟩] X.env)).all (·.1.isSome) = true := by rfl) (hks : (backToKw pos (keywordEach [⟨some f, e, kp⟩, ⟨some g, e2, kp2⟩] X.env)).filterMap (·.1) = [f, g] := by rfl)
    (hpl : ((backTo pos (starEach [] X.env)).any (·.1) || (backToKw pos (keywordEach [⟨some f, e, kp⟩, ⟨some g, e2, kp2⟩] X.env)).any (·.1.isNone)) = false := by rfl) :
    ES X W (.Raise (some (.Call (.Name c p) [] [⟨some f, e, kp⟩, ⟨some g, e2, kp2⟩] pos)) none pos') (dRaise c [g, f] (dCons fe (dCons fe2 dNil))) := by
  obtain ⟨C, fI, fd, gC, T, no, no2, iC, tI, F1, hb⟩ := h
  refine ⟨PS.imp (ps_raise hc tk (pmk_oexK T iC tI F1 hr hb passes0 hg gC (pk_cons he.h (pk_cons he2.h pk_nil)) hall hks hdb hpl)) ?_⟩
  rintro Q σ H ⟨F, M, ρ, Dd, rs, rp, hf, cd⟩
  refine ⟨F, M, ρ, _, _, rs, rp, hf, fun F1 H1 M1 d v n1 rv q1 => ?_, cd.ex.at rs⟩
  refine ⟨F1, M1, ρ, _, _, rs.mono n1.same, n1.ok, q1, fun F2 H2 M2 d2 v2 n2 rv2 q2 => ?_, (cd.ex.mono n1).at (rs.mono n1.same)⟩
  refine ⟨rfl, fun a na => ⟨a, C, v, v2, rfl, T, no, no2, upd_same, fun dx nd ne => ⟨rfl, dx, [(g, v2), (f, v)], by rw [upd_ne (Ne.symm ne), upd_same], by rw [upd_same], by rw [upd_ne ne] at nd; exact nd, ?_⟩⟩⟩
  rw [upd_ne ne] at nd
  have eH : upd (del (upd (upd (upd (upd H2 a (exo a C none)) dx (exd dx [(f, v)])) a (exo a C (some dx))) dx (exd dx [(g, v2), (f, v)])) a) dx (.xd [(g, v2), (f, v)]) = upd H2 dx (.xd [(g, v2), (f, v)]) := by
    funext b
    by_cases h : b = dx
    · subst h; rw [upd_same, upd_same]
    · rw [upd_ne h, upd_ne h]
      by_cases h2 : b = a
      · subst h2; rw [del_same, na]
      · rw [del_ne h2, upd_ne h, upd_ne h2, upd_ne h, upd_ne h2]
  rw [eH]
  have n3 := Nx.new n2.ok nd (.xd [(g, v2), (f, v)])
  have n := (n1.trans n2).trans n3
  refine cd.ex _ _ M2 ρ σ ⟨c, [g, f], [d2, d]⟩ _ _ n (rs.mono n.same) ⟨C, gC, rfl, .inr ⟨dx, [v2, v], rfl, upd_same, .cons (rv2.mono n3.same) (.cons (rv.mono (n2.trans n3).same) .nil), rfl⟩⟩ q2
end
end Nb
set_option Elab.async false
set_option linter.all false
set_option maxRecDepth 100000
set_option maxHeartbeats 4000000
set_option autoImplicit false
namespace Nb
open PySem PySem.Spec PyProof.Rows L2
/-! ### the defs __init__ -/
section
variable {P : Program} {w : World} {K : PySem.W.Frag} {mg : Str → Option Value} {base : Heap} {q f g : Str} {st : Stmt} {fI : Addr} {fd : FuncData}
def tInit1 (K : PySem.W.Frag) (f : Str) : TS := tSeq (L2.tDrop (tVeI K (tCons (tVar 0) (tCons (tC (.str "refused")) tNil)))) (tOst K f (tVar 0) (tVar 1))
def tInit2 (K : PySem.W.Frag) (f g : Str) : TS := tSeq (L2.tDrop (tVeI K (tCons (tVar 0) (tCons (tC (.str "refused")) tNil)))) (tSeq (tOst K f (tVar 0) (tVar 1)) (tOst K g (tVar 0) (tVar 2)))
theorem init1_ok (Fn : Fun K "__init__" q st fI fd) (S : FnScope ["self", f] ["self", f] (defScope st))
    (hb : ∀ cdv A outer s0 H E, PSs (cxOf (L2.CX P w) P w K mg base ["self", f] q (defScope st) fI cdv A outer s0 H E) (defBody st) (tInit1 K f)) : FnOk P w K mg base (L2.CX P w) 1 fI fd ["self", f] (spI1 K f) := by
  obtain ⟨oc, od, kV, doc, pm, an, cdv, ct, osl, rfl, lk, hcd⟩ := Fn.ex
  refine fn_of lk hcd S (fun vs H Q E ⟨a, C, y, e, _⟩ => by rw [e]; rfl) fun A outer s0 H vs Q E hr ⟨a, C, y, e, T, no, ha, hq⟩ => ⟨_, hb cdv A outer s0 H E, ?_⟩
  subst e
  refine ⟨.ref a, rfl, a, C, [.str "refused"], rfl, by decide, T, ha, ?_⟩
  refine ⟨y, rfl, .ref a, rfl, a, C, rfl, T, no, .inl ⟨ha, fun dx nd ne => hq dx nd ne⟩⟩
theorem init2_ok (Fn : Fun K "__init__" q st fI fd) (S : FnScope ["self", f, g] ["self", f, g] (defScope st))
    (hb : ∀ cdv A outer s0 H E, PSs (cxOf (L2.CX P w) P w K mg base ["self", f, g] q (defScope st) fI cdv A outer s0 H E) (defBody st) (tInit2 K f g)) : FnOk P w K mg base (L2.CX P w) 1 fI fd ["self", f, g] (spI2 K f g) := by
  obtain ⟨oc, od, kV, doc, pm, an, cdv, ct, osl, rfl, lk, hcd⟩ := Fn.ex
  refine fn_of lk hcd S (fun vs H Q E ⟨a, C, y, z, e, _⟩ => by rw [e]; rfl) fun A outer s0 H vs Q E hr ⟨a, C, y, z, e, T, no, no2, ha, hq⟩ => ⟨_, hb cdv A outer s0 H E, ?_⟩
  subst e
  refine ⟨.ref a, rfl, a, C, [.str "refused"], rfl, by decide, T, ha, ?_⟩
  refine ⟨y, rfl, .ref a, rfl, a, C, rfl, T, no, .inl ⟨ha, fun dx nd ne => ?_⟩⟩
  refine ⟨z, rfl, .ref a, rfl, a, C, rfl, T, no2, .inr ⟨dx, [(f, y)], upd_same, by rw [upd_ne ne, upd_same], by simp, hq dx nd ne⟩⟩
end
section
variable (K : PySem.W.Frag) (mg : Str → Option Value)
def X1At (c f q : Str) (st : Stmt) : Prop := ∃ C fI fd, mg c = some (.ref C) ∧ OexC K C ∧ PySem.W.findIn K (.ref C) f = some none ∧ PySem.W.findIn K (.ref C) "__init__" = some (some (.ref fI)) ∧ PySem.W.typeIn K (.ref fI) = some (.type "function") ∧
  Fun K "__init__" q st fI fd ∧ KBn K fd ["self", f] 1 [f] (fun us ws => us ++ ws) (fun vs zs => vs ++ zs)
def X2At (c f g q : Str) (st : Stmt) : Prop := ∃ C fI fd, mg c = some (.ref C) ∧ OexC K C ∧ PySem.W.findIn K (.ref C) f = some none ∧ PySem.W.findIn K (.ref C) g = some none ∧ PySem.W.findIn K (.ref C) "__init__" = some (some (.ref fI)) ∧ PySem.W.typeIn K (.ref fI) = some (.type "function") ∧
  Fun K "__init__" q st fI fd ∧ KBn K fd ["self", f, g] 1 [f, g] (fun us ws => us ++ ws) (fun vs zs => vs ++ zs)
def BoxAt : Prop := ∃ C0, mg "BoxError" = some (.ref C0) ∧ BoxOk K C0
end
section
variable {P : Program} {w : World} {K : PySem.W.Frag} {mg : Str → Option Value} {base : Heap} {c q f g : Str} {st : Stmt}
theorem X1At.has (A : X1At K mg c f q st) (h : ∀ fI fd, Fun K "__init__" q st fI fd → FnOk P w K mg base (L2.CX P w) 1 fI fd ["self", f] (spI1 K f)) : HasX1 P w K mg base c f := by
  obtain ⟨C, fI, fd, h1, h2, h3, h4, h5, h6, h7⟩ := A
  exact ⟨C, fI, fd, h1, h2, h3, h4, h5, h fI fd h6, h7⟩
theorem X2At.has (A : X2At K mg c f g q st) (h : ∀ fI fd, Fun K "__init__" q st fI fd → FnOk P w K mg base (L2.CX P w) 1 fI fd ["self", f, g] (spI2 K f g)) : HasX2 P w K mg base c f g := by
  obtain ⟨C, fI, fd, h1, h2, h3, h3', h4, h5, h6, h7⟩ := A
  exact ⟨C, fI, fd, h1, h2, h3, h3', h4, h5, h fI fd h6, h7⟩
end
/-! ### the facts at the head -/
/-- an own class over ValueError, with its own __init__ or without -/
def oexB (K : PySem.W.Frag) (C : Addr) : Bool := match K.lookup C with
  | some ⟨.type "type", _, .cls cd, sl⟩ => (match cd.mro, sl.toList with
    | .ref C' :: bm, [_, _, _, _, some (.builtin n), _] => C' == C && (n == "ValueError.__new__" && (!cd.hasDel && (cd.hasDict && PySem.HandSPX.refsVE bm)))
    | _, _ => false)
  | _ => false
theorem oexB_cls {K : PySem.W.Frag} {C : Addr} (q : oexB K C = true) : ∃ nm q N bs bm sn sub ab col dd k0 k1 k2 k3 k5, K.lookup C = some (excClassObj nm q C N bs bm true sn sub ab col dd k0 k1 k2 k3 k5 "ValueError.__new__") ∧ PySem.HandSPX.refsVE bm = true := by
  unfold oexB at q
  split at q
  · rename_i dd cd sl ho
    split at q
    · rename_i C' bm k0 k1 k2 k3 n k5 hm hs
      simp only [Bool.and_eq_true, beq_iff_eq, Bool.not_eq_true'] at q
      obtain ⟨rfl, rfl, hdel, hd, hb⟩ := q
      obtain ⟨nm, bs, mro, ns, qn, hdct, sn, sub, ab, col, del⟩ := cd
      dsimp only at hm hdel hd
      subst hm hdel hd
      have hsl : sl = #[k0, k1, k2, k3, some (.builtin "ValueError.__new__"), k5] := by
        obtain ⟨l⟩ := sl
        simp only at hs
        rw [hs]
      subst hsl
      exact ⟨nm, qn, ns, bs, bm, sn, sub, ab, col, dd, k0, k1, k2, k3, k5, ho, hb⟩
    · cases q
  · cases q
def oexAll (K : PySem.W.Frag) (C : Addr) : Bool := oexB K C && (decide (PySem.W.findIn K (.ref C) "__setattr__" = some (some (.builtin "object.__setattr__"))) && (decide (PySem.W.subIn K (.ref C) (.type "BaseException") = some true) && (decide (PySem.W.typeIn K (.ref C) = some (.type "type")) && PySem.W.keepIn K (.ref C))))
theorem oexAll_ok {K : PySem.W.Frag} {C : Addr} (h : oexAll K C = true) : OexC K C := by
  obtain ⟨h1, h⟩ := Bool.and_eq_true_iff.mp h
  obtain ⟨h2, h⟩ := Bool.and_eq_true_iff.mp h
  obtain ⟨h3, h⟩ := Bool.and_eq_true_iff.mp h
  obtain ⟨h4, h5⟩ := Bool.and_eq_true_iff.mp h
  exact ⟨oexB_cls h1, of_decide_eq_true h2, of_decide_eq_true h3, of_decide_eq_true h4, h5⟩
section
variable {K : PySem.W.Frag} {h : Heap} {mg : Str → Option Value} {c q f g : Str} {st : Stmt} {C fI : Addr} {oc : Value} {od an : Option Addr} {osl : Array (Option Value)} {kV doc pm cdv ct : Value} {ps ks : List Str}
/-- the keywords bind -/
def KBindOk (q : Str) (st : Stmt) (ps ks : List Str) : Prop := ∀ (kV doc pm : Value) (an : Option Addr) (cdv ct : Value) (us ws : List Value), us.length = 1 → ws.length = ks.length → bindArgs (PySem.W.fnOf "__init__" q (defArgs st) (defBody st) (defScope st) .none kV doc pm an cdv ct) ⟨us, ks.zip ws⟩ = pure (ps.zip (us ++ ws))
theorem kbn_mk {fd : FuncData} (b : KBindOk q st ps ks) (Fn : Fun K "__init__" q st fI fd) : KBn K fd ps 1 ks (fun us ws => us ++ ws) (fun vs zs => vs ++ zs) := by
  obtain ⟨oc, od, kV, doc, pm, an, cdv, ct, osl, rfl, lk, hcd⟩ := Fn.ex
  exact ⟨fun s us ws X l1 l2 => .of_eq (b _ _ _ _ _ _ us ws l1 l2), fun r1 r2 => r1.append r2⟩
theorem x1_mk (X : K.In h) (G : h.Ns mainGlobals mg) (b : KBindOk q st ["self", f] [f]) (a : PySem.W.nsIn K mainGlobals c = some (some (.ref C))) (o : oexAll K C = true) (no : PySem.W.findIn K (.ref C) f = some none) (i : PySem.W.findIn K (.ref C) "__init__" = some (some (.ref fI)))
    (t : PySem.W.typeIn K (.ref fI) = some (.type "function")) (l : K.lookup fI = some ⟨oc, od, .func (PySem.W.fnOf "__init__" q (defArgs st) (defBody st) (defScope st) .none kV doc pm an cdv ct), osl⟩) (cc : PySem.W.codeIn K cdv q = true) (k : PySem.W.keepIn K (.ref fI) = true) : X1At K mg c f q st :=
  ⟨C, fI, _, PySem.W.mg_of X G a, oexAll_ok o, no, i, t, fun_mk l cc k, kbn_mk b (fun_mk l cc k)⟩
theorem x2_mk (X : K.In h) (G : h.Ns mainGlobals mg) (b : KBindOk q st ["self", f, g] [f, g]) (a : PySem.W.nsIn K mainGlobals c = some (some (.ref C))) (o : oexAll K C = true) (no : PySem.W.findIn K (.ref C) f = some none) (no2 : PySem.W.findIn K (.ref C) g = some none) (i : PySem.W.findIn K (.ref C) "__init__" = some (some (.ref fI)))
    (t : PySem.W.typeIn K (.ref fI) = some (.type "function")) (l : K.lookup fI = some ⟨oc, od, .func (PySem.W.fnOf "__init__" q (defArgs st) (defBody st) (defScope st) .none kV doc pm an cdv ct), osl⟩) (cc : PySem.W.codeIn K cdv q = true) (k : PySem.W.keepIn K (.ref fI) = true) : X2At K mg c f g q st :=
  ⟨C, fI, _, PySem.W.mg_of X G a, oexAll_ok o, no, no2, i, t, fun_mk l cc k, kbn_mk b (fun_mk l cc k)⟩
def x0B (K : PySem.W.Frag) (C : Addr) : Bool := PySem.W.excIn K C HandSPX.veTail "ValueError.__new__" && (PySem.W.keepIn K (.ref C) && (decide (PySem.W.subIn K (.ref C) (.type "BaseException") = some true) && decide (PySem.W.typeIn K (.ref C) = some (.type "type"))))
theorem x0_mk (X : K.In h) (G : h.Ns mainGlobals mg) (a : PySem.W.nsIn K mainGlobals c = some (some (.ref C))) (o : x0B K C = true) : HasX0 K mg c := by
  obtain ⟨h1, o⟩ := Bool.and_eq_true_iff.mp o
  obtain ⟨h2, o⟩ := Bool.and_eq_true_iff.mp o
  obtain ⟨h3, h4⟩ := Bool.and_eq_true_iff.mp o
  exact ⟨C, PySem.W.mg_of X G a, h1, h2, of_decide_eq_true h3, of_decide_eq_true h4⟩
theorem box_mk (X : K.In h) (G : h.Ns mainGlobals mg) (a : PySem.W.nsIn K mainGlobals "BoxError" = some (some (.ref C))) (rd : PySem.W.readsIn K C (.type "type") = true)
    (ga : PySem.W.specialIn K (.ref C) "__getattribute__" = some (some (.builtin "type.__getattribute__"))) (at_ : PySem.W.findCls K (.ref C) (.type "type") "__init__" = some (.val (.builtin "ValueError.__init__"))) : BoxAt K mg := ⟨C, PySem.W.mg_of X G a, rd, ga, at_⟩
end
/-! ### the table of the classes -/
def exmB (K : PySem.W.Frag) (x c : Str) (Cx Cc : Addr) : Bool := decide (PySem.W.exmOne K (.ref Cx) (.ref Cc) = some (subX x c)) && decide (PySem.W.kitOne K (.ref Cx) (.ref Cc) = some (subX x c))
def excB (K : PySem.W.Frag) (D : Addr) : Bool := decide (PySem.W.findIn K (.ref D) "__getattribute__" = some (some (.builtin "BaseException.__getattribute__"))) && (decide (PySem.W.findIn K (.ref D) "__getattr__" = some none) && (decide (PySem.W.subIn K (.ref D) (.type "BaseException") = some true) && (PySem.W.hasDictIn K D &&
  (decide (PySem.W.findIn K (.ref D) "__class__" = some (some (.builtin "object.__class__"))) && (decide (PySem.W.specialIn K (.builtin "object.__class__") "__get__" = some (some (.builtin "getset_descriptor.__get__"))) && (decide (PySem.W.takesIn K (.builtin "object.__class__") = some true) && decide (PySem.W.mroIn K D (.type "object") = some true)))))))
theorem excB_ok {K : PySem.W.Frag} {D : Addr} (h : excB K D = true) : ExcC K D := by
  obtain ⟨h1, h⟩ := Bool.and_eq_true_iff.mp h
  obtain ⟨h2, h⟩ := Bool.and_eq_true_iff.mp h
  obtain ⟨h3, h⟩ := Bool.and_eq_true_iff.mp h
  obtain ⟨h4, h⟩ := Bool.and_eq_true_iff.mp h
  obtain ⟨h5, h⟩ := Bool.and_eq_true_iff.mp h
  obtain ⟨h6, h⟩ := Bool.and_eq_true_iff.mp h
  obtain ⟨h7, h8⟩ := Bool.and_eq_true_iff.mp h
  exact ⟨of_decide_eq_true h1, of_decide_eq_true h2, of_decide_eq_true h3, h4, of_decide_eq_true h5, of_decide_eq_true h6, of_decide_eq_true h7, of_decide_eq_true h8⟩
def ownB (K : PySem.W.Frag) (D : Addr) : Bool := excB K D && (decide (PySem.W.kitOne K (.ref D) (.type "ValueError") = some true) && (decide (PySem.W.findIn K (.ref D) "number" = some none) && (decide (PySem.W.findIn K (.ref D) "why" = some none) && decide (PySem.W.findIn K (.ref D) "row" = some none))))
def xtabB (K : PySem.W.Frag) (L A : List (Str × Addr)) : Bool := L.all fun p => ownB K p.2 && A.all fun r => exmB K p.1 r.1 p.2 r.2
theorem xtab_of {K : PySem.W.Frag} {h : Heap} {mg : Str → Option Value} (X : K.In h) (G : h.Ns mainGlobals mg) (C0 : Addr) (Cs : List Addr) (hl : Cs.length = xKinds.length) (h0 : PySem.W.nsIn K mainGlobals "BoxError" = some (some (.ref C0)))
    (hs : ∀ p ∈ xKinds.zip Cs, PySem.W.nsIn K mainGlobals p.1 = some (some (.ref p.2))) (hv : PySem.W.nsIn K mainGlobals "ValueError" = some none) (hb : xtabB K (xKinds.zip Cs) (("BoxError", C0) :: xKinds.zip Cs) = true) : XTab K mg := by
  have at_ : ∀ x ∈ xKinds, ∀ Cx, mg x = some (.ref Cx) → (x, Cx) ∈ xKinds.zip Cs := fun x hx Cx gx => by
    obtain ⟨i, hi⟩ := List.mem_iff_getElem?.mp hx
    have hlt : i < Cs.length := by rw [hl]; exact (List.getElem?_eq_some_iff.mp hi).1
    have hm : (x, Cs[i]) ∈ xKinds.zip Cs := List.mem_of_getElem? (i := i) (List.getElem?_zip_eq_some.mpr ⟨hi, List.getElem?_eq_getElem hlt⟩)
    have e := PySem.W.mg_of X G (hs _ hm)
    have e' : some (Value.ref Cx) = some (.ref Cs[i]) := gx.symm.trans e
    cases e'
    exact hm
  have atA : ∀ c ∈ ("BoxError" : Str) :: xKinds, ∀ Cc, mg c = some (.ref Cc) → (c, Cc) ∈ (("BoxError" : Str), C0) :: xKinds.zip Cs := fun c hc Cc gc => by
    rcases List.mem_cons.mp hc with rfl | hc
    · have e' : some (Value.ref Cc) = some (.ref C0) := gc.symm.trans (PySem.W.mg_of X G h0)
      cases e'
      exact List.mem_cons_self ..
    · exact List.mem_cons_of_mem _ (at_ c hc Cc gc)
  have row : ∀ x ∈ xKinds, ∀ Cx, mg x = some (.ref Cx) → ownB K Cx = true ∧ ∀ c ∈ ("BoxError" : Str) :: xKinds, ∀ Cc, mg c = some (.ref Cc) → exmB K x c Cx Cc = true := fun x hx Cx gx => by
    have z := List.all_eq_true.mp hb _ (at_ x hx Cx gx)
    obtain ⟨z1, z2⟩ := Bool.and_eq_true_iff.mp z
    exact ⟨z1, fun c hc Cc gc => List.all_eq_true.mp z2 _ (atA c hc Cc gc)⟩
  refine ⟨fun c hc => ?_, fun x hx c hc Cx Cc gx gc => ?_, fun x hx c hc Cx Cc gx gc => ?_, fun x hx Cx gx => ?_, fun x hx Cx gx => ?_, fun x hx Cx gx f hf => ?_, PySem.W.mg_none_of X G hv⟩
  · rcases List.mem_cons.mp hc with rfl | hc
    · exact ⟨C0, PySem.W.mg_of X G h0⟩
    · obtain ⟨i, hi⟩ := List.mem_iff_getElem?.mp hc
      have hlt : i < Cs.length := by rw [hl]; exact (List.getElem?_eq_some_iff.mp hi).1
      have hm : (c, Cs[i]) ∈ xKinds.zip Cs := List.mem_of_getElem? (i := i) (List.getElem?_zip_eq_some.mpr ⟨hi, List.getElem?_eq_getElem hlt⟩)
      exact ⟨_, PySem.W.mg_of X G (hs _ hm)⟩
  · exact of_decide_eq_true (Bool.and_eq_true_iff.mp ((row x hx Cx gx).2 c hc Cc gc)).1
  · exact of_decide_eq_true (Bool.and_eq_true_iff.mp ((row x hx Cx gx).2 c hc Cc gc)).2
  · obtain ⟨_, z⟩ := Bool.and_eq_true_iff.mp (row x hx Cx gx).1
    exact of_decide_eq_true (Bool.and_eq_true_iff.mp z).1
  · exact excB_ok (Bool.and_eq_true_iff.mp (row x hx Cx gx).1).1
  · obtain ⟨_, z⟩ := Bool.and_eq_true_iff.mp (row x hx Cx gx).1
    obtain ⟨_, z⟩ := Bool.and_eq_true_iff.mp z
    obtain ⟨z1, z⟩ := Bool.and_eq_true_iff.mp z
    obtain ⟨z2, z3⟩ := Bool.and_eq_true_iff.mp z
    simp only [List.mem_cons, List.not_mem_nil, or_false] at hf
    rcases hf with rfl | rfl | rfl
    · exact of_decide_eq_true z1
    · exact of_decide_eq_true z2
    · exact of_decide_eq_true z3
theorem xtab_mk {K : PySem.W.Frag} {h : Heap} {mg : Str → Option Value} {C0 C1 C2 C3 C4 C5 C6 C7 C8 C9 : Addr} (X : K.In h) (G : h.Ns mainGlobals mg) (a0 : PySem.W.nsIn K mainGlobals "BoxError" = some (some (.ref C0))) (a1 : PySem.W.nsIn K mainGlobals "BadYard" = some (some (.ref C1))) (a2 : PySem.W.nsIn K mainGlobals "BadGoal" = some (some (.ref C2)))
    (a3 : PySem.W.nsIn K mainGlobals "BadDeed" = some (some (.ref C3))) (a4 : PySem.W.nsIn K mainGlobals "BadMove" = some (some (.ref C4))) (a5 : PySem.W.nsIn K mainGlobals "NoBox" = some (some (.ref C5))) (a6 : PySem.W.nsIn K mainGlobals "NoWay" = some (some (.ref C6))) (a7 : PySem.W.nsIn K mainGlobals "BadPrice" = some (some (.ref C7)))
    (a8 : PySem.W.nsIn K mainGlobals "Full" = some (some (.ref C8))) (a9 : PySem.W.nsIn K mainGlobals "BadText" = some (some (.ref C9))) (hv : PySem.W.nsIn K mainGlobals "ValueError" = some none)
    (hb : xtabB K (xKinds.zip [C1, C2, C3, C4, C5, C6, C7, C8, C9]) (("BoxError", C0) :: xKinds.zip [C1, C2, C3, C4, C5, C6, C7, C8, C9]) = true) : XTab K mg :=
  xtab_of X G C0 [C1, C2, C3, C4, C5, C6, C7, C8, C9] rfl a0 (fun p hp => by
    simp only [xKinds, List.zip_cons_cons, List.zip_nil_right, List.mem_cons, List.not_mem_nil, or_false] at hp
    rcases hp with rfl | rfl | rfl | rfl | rfl | rfl | rfl | rfl | rfl
    all_goals assumption) hv hb
end Nb
set_option Elab.async false
set_option linter.all false
set_option maxRecDepth 100000
set_option maxHeartbeats 4000000
set_option autoImplicit false
namespace Nb
open PySem PySem.Spec PyProof.Rows L2 LamX NdefX

/-! ### list.count, str.split -/
def gCount : DRM := fun d es M Q => ∃ xs y, lstOf d M = some xs ∧ es = [y] ∧ flatD y = true ∧ xs.all flatD = true ∧ Q (.int ((xs.countP fun z => PyData.eqv z y : Nat) : Int)) M
theorem cnt1 {y : V} : ∀ {ys : List V} {us : List Value}, Vals ys us → ys.all flatV = true → us.countP (eqU y) = ys.countP fun z => eqV z y
  | _, _, .nil, _ => rfl
  | y0 :: ys, u :: us, .cons r t, f => by
    rw [List.all_cons, Bool.and_eq_true] at f
    rw [List.countP_cons, List.countP_cons, cnt1 t f.2, eqU_of r f.1]
theorem cnt2 {K : PySem.W.Frag} {F : Hp} {y : V} {d : Dat} (r : Rp K F d y) (hd : flatD d = true) : ∀ {ds : List Dat} {vs : List V}, RpAll K F ds vs → ds.all flatD = true → (vs.countP fun z => eqV z y) = ds.countP fun z => PyData.eqv z d
  | [], vs, t, _ => by rw [t.nil_inv]; rfl
  | d0 :: ds, vs, t, f => by
    obtain ⟨v, r0, rfl, h1, t'⟩ := t.inv
    rw [List.all_cons, Bool.and_eq_true] at f
    rw [List.countP_cons, List.countP_cons, cnt2 r hd t' f.2, eqV_ok h1 r f.1 hd]
section
variable {X : Cx}
theorem mg_count : MtR X "list.count" (LRM X.K X.mg gCount) := by
  rintro pins s σ H x xs v us Q I rx rxs ⟨F, M, d, ds, Qd, r1, rd, rp, ⟨ys, y, hL, rfl, fy, fys, hg⟩, cq⟩
  obtain ⟨a, vs, rfl, q, t⟩ := lstOf_ok r1 rp hL
  obtain ⟨w, rfl, h1⟩ := rd.one
  cases rx
  cases rxs with
  | cons ry rt =>
    rename_i uy ut
    cases rt
    obtain ⟨its, rv, ⟨⟨cls, dd, data, sl⟩, n, ho, hc, hdn, hd⟩, hlen⟩ := I.list q
    simp only at hc hd
    subst hc hd
    have fvs := flat_all t fys
    refine call_meets PySem.F.slot_list_count ⟨_, ho, rfl⟩ PySem.F.entry_list_count (PySem.F.args_list_count_2 _ _)
      (SeqAt.list_countAt a its.toArray n dd sl uy (eqU w)) ⟨ho, fun u' hu' => mem_eqAt ry (flat_ok h1 fy) rv fvs u' (by simpa using hu'), ?_⟩
    have ec : its.toArray.toList.countP (eqU w) = ys.countP fun z => PyData.eqv z y := by
      show its.countP (eqU w) = _
      rw [cnt1 rv fvs, cnt2 h1 fy t fys]
    refine ⟨.int ((ys.countP fun z => PyData.eqv z y : Nat) : Int), H, I.tok _, ⟨s.toks, ?_⟩, cq.now rp (Rp.int.mpr rfl) hg⟩
    show Value.int ((its.toArray.toList.countP (eqU w) : Nat) : Int) s.toks = _
    rw [ec]
end
def dSplit (o e : DE) : DE := fun ρ M Q E => o ρ M (fun d M1 => ∃ a, d = .str a ∧ e ρ M1 (fun x M2 => ∃ b, x = .str b ∧ (b.length == 0) = false ∧ a.length + 2 ≤ sizeLine ∧ Q (.list ((Txt.split a b).map PyData.str)) M2) E) E
theorem RpAll.of_strs {K : PySem.W.Frag} {F : Hp} : ∀ {ys : List Str}, RpAll K F (ys.map PyData.str) (ys.map V.str)
  | [] => .nil
  | y :: ys => .cons (Rp.str.mpr rfl) RpAll.of_strs
section
variable {X : Cx} {W : WX} {o e : Expr} {fo fe : DE} {apos pos : Pos}
theorem ee_split (ho : EE X W o fo) (he : EE X W e fe) (hs : starEach [e] X.env = [(false, eval e X.env)] := by rfl) (hbase : attributeBase o "split" X.env (eval o X.env) = eval o X.env := by rfl) (hline : (apos.endLine == pos.line) = true := by rfl) :
    EE X W (.Call (.Attribute o "split" apos) [e] [] pos) (dSplit fo fe) := by
  refine ⟨PE.imp (pe_split ho.h he.h hs hbase hline) ?_⟩
  rintro σ H Q ⟨F, M, ρ, Qd, Ed, rs, rp, hf, cq, cx⟩
  refine ⟨F, M, ρ, _, Ed, rs, rp, hf, fun F1 H1 M1 d v n1 rv q1 => ?_, cx⟩
  obtain ⟨a, rfl, q1⟩ := q1
  obtain rfl := Rp.str.mp rv
  refine ⟨⟨a, rfl⟩, F1, M1, ρ, _, Ed, rs.mono n1.same, n1.ok, q1, fun F2 H2 M2 d v n2 rv2 q2 => ?_, cx.mono n1⟩
  obtain ⟨b, rfl, hb, hz, q2⟩ := q2
  obtain rfl := Rp.str.mp rv2
  exact ⟨a, b, rfl, rfl, hb, hz, CQ.lst (cq.mono (n1.trans n2)) n2.ok RpAll.of_strs q2⟩
end
/-! ### a, b, c = x, y, z -/
def dPar3 (i j k : Nat) (a : DA) : DS := fun Q ρ M => a ρ M (fun ds M1 => match ds with
  | [d, e, f] => Q.nx (((ρ.set i (some d)).set j (some e)).set k (some f)) M1
  | _ => False) fun x M1 => Q.ex x ρ M1
theorem es_par3 {X : Cx} {W : WX} {i j k : Nat} {x y z : Str} {a b c : Expr} {ta : DA} {px py pz pt pos : Pos} {kt k2 pt2} (hc : X.calm = true) (hN : X.N.Nodup) (ha : EA X W [a, b, c] ta) (hi : X.N[i]? = some x := by rfl) (hj : X.N[j]? = some y := by rfl) (hk : X.N[k]? = some z := by rfl) (hij : i ≠ j := by decide) (hik : i ≠ k := by decide) (hjk : j ≠ k := by decide)
    (hx : X.env.scope.names.lookup x = some .local := by rfl) (hy : X.env.scope.names.lookup y = some .local := by rfl) (hz : X.env.scope.names.lookup z = some .local := by rfl)
    (hw : swappedStores [.Tuple [.Name x px, .Name y py, .Name z pz] kt pt] (.Tuple [a, b, c] k2 pt2) X.env = pure (some [x, y, z]) := by rfl)
    (hs : swapsWithSole [.Tuple [.Name x px, .Name y py, .Name z pz] kt pt] (.Tuple [a, b, c] k2 pt2) pos.line X.env = pure false := by rfl) :
    ES X W (.Assign [.Tuple [.Name x px, .Name y py, .Name z pz] kt pt] (.Tuple [a, b, c] k2 pt2) pos) (dPar3 i j k ta) := by
  refine ⟨PS.imp (ps_par3 hc hN hi hj hk hij hik hjk hx hy hz ha.h hw hs) ?_⟩
  rintro Q σ H ⟨F, M, ρ, Dd, rs, rp, hf, cd⟩
  refine ⟨F, M, ρ, _, _, rs, rp, hf, fun F1 H1 M1 ds vs n1 rv q1 => ?_, cd.ex.at rs⟩
  try dsimp only at q1
  split at q1
  · obtain ⟨v1, r1, rfl, h1, t1⟩ := rv.inv
    obtain ⟨v2, r2, rfl, h2, t2⟩ := t1.inv
    obtain ⟨v3, r3, rfl, h3, t3⟩ := t2.inv
    obtain rfl := t3.nil_inv
    exact ⟨v1, v2, v3, rfl, cd.nx F1 H1 M1 _ _ n1 ((((rs.mono n1.same).set h1).set h2).set h3) q1⟩
  · exact q1.elim
/-! ### a lambda called by the def that got it -/
theorem cells_un {cl : List (Str × Addr)} {fr : List Str} {ws : List (Option V)} {h h' : Heap} {H H' : Hp} {fs : List Addr} (C : CellsAt cl fr ws h H) (un : Un fs [] H H' h h') : CellsAt cl fr ws h' H' := by
  have kp : ∀ y c, cl.lookup y = some c → ∀ v, h.IsCell c v → h'.IsCell c v := fun y c e v ⟨o, ho, hd⟩ => by
    obtain ⟨sl, q⟩ := un.any ho (C.all y c e).1 (by simp)
    exact ⟨_, q, hd⟩
  refine ⟨C.len, fun y c e => ?_, C.inj, fun i y e => ?_⟩
  · obtain ⟨n, v, z⟩ := C.all y c e
    refine ⟨?_, v, kp y c e v z⟩
    obtain ⟨o, ho, _⟩ := z
    exact un.free c o ho n (by simp)
  · obtain ⟨c, hc, hv⟩ := C.has i y e
    refine ⟨c, hc, fun v ev => ?_⟩
    obtain ⟨u, r, z⟩ := hv v ev
    exact ⟨u, r, kp y c hc _ z⟩
theorem pe_lamact {Z : Cx} {W : WX} {N fr : List Str} {F : NF} {f : Addr} {b : Expr} {k i : Nat} {a : Str} {ws : List (Option V)} {fb : DE} {p1 p2 : Pos} (C0 : CellsAt F.cl fr ws Z.s_0.heap Z.H_0) (hex : Z.ex = []) (S : NScope N [] fr F.scope)
    (hb : ∀ (pm ctv : Value), bindArgs (PySem.W.kla_fn "<lambda>" F.qual F.params b F.scope F.cl pm (.ref F.c) ctv) ⟨[], []⟩ = pure []) (hr : Room (k + 1) Z.A) (tk : Takes Z W)
    (hbody : ∀ (A : Around) (outer : List Env) (s : Shared) (H : Hp) (E : XK), Room k (A.deeper (envF F f s.heap.objs.size)) → EE (ncx (L2.CX Z.prog Z.w) Z.prog Z.w Z.K Z.mg Z.base N F f A outer s H E) (wOf E) b fb)
    (hN : Z.N[i]? = some a) (hv : Vis Z.env.scope a) (hd : (a == ("__debug__" : Str)) = false := by decide) (hcd : (a == ("__classdict__" : Str)) = false := by decide) :
    PE Z (.Call (.Name a p1) [] [] p2) (fun σ H Q => σ[i]? = some (some (.ref f)) ∧ H f = some (LmO f F b) ∧ H F.c = some (CodeO F.c F.qual) ∧ LE Z.K Z.mg (fun c d _ H' => W c d σ H') fb (startF N [] ws) H Q) := by
  refine ⟨fun pins s σ H Q I h => ?_⟩
  obtain ⟨hs, hf, hc, ht⟩ := h
  refine wpAny_Call_Name_kw (thn ((pe_var (pos := p1) (i := i) hN hv hd hcd).run pins s σ H (fun v H1 => v = .ref f ∧ H1 = H) I ⟨.ref f, hs, rfl, rfl⟩) fun u s1 ⟨v, H1, I1, r1, q1⟩ => ?_)
  obtain ⟨ev, eH⟩ := q1
  subst ev
  rw [eH] at I1
  obtain rfl : u = Value.ref f := r1
  obtain ⟨od, sl, pm, ctv, ho⟩ := lmO_at I1.hok hf
  refine PySem.W.callWith_F0 ⟨_, _, _, _, ho⟩ ?_
  have un : Un Z.fs [] Z.H_0 H Z.s_0.heap s1.heap := by have z := I1.base; rw [hex] at z; exact z
  have rc := lam_call (CX := L2.CX Z.prog Z.w) (F := F) (b := b) (N := N) (ps := []) (fr := fr) (us := []) (vs := []) (ws := ws) (Q := Q) (E := fun c d H' => W c d σ H') S (fun pm ctv us hl => by
      cases us with
      | nil => exact hb pm ctv
      | cons _ _ => cases hl) hr I1.env0 hf hc (cells_un C0 un) .nil rfl (fun hroom => ⟨_, (hbody Z.A Z.stack s1 H (fun c d H' => W c d σ H') hroom).h, ht⟩)
  refine wpAny_call (codeAny_mono rc fun r s' hq => ?_)
  cases r with
  | error e => exact passAt tk σ pins H s1 e s' I1 hq
  | ok fl =>
    cases fl with
    | ret u => exact I1.after hq
    | next => exact False.elim hq
    | brk => exact False.elim hq
    | cont => exact False.elim hq
theorem kunits {A : Around} {env : Env} {a : Option Value} (h : A.units + 100 < cLine) : ((A.deeper env).mark a).units + 64 < cLine := by
  show A.units + 3 + 64 < _
  omega
theorem ntk {P : Program} {w : World} {K : PySem.W.Frag} {mg : Str → Option Value} {base : Heap} {N : List Str} {F : NF} {f : Addr} {A : Around} {outer : List Env} {s : Shared} {H : Hp} {E : XK} : Takes (ncx (L2.CX P w) P w K mg base N F f A outer s H E) (wOf E) := takes_of (E := E) rfl rfl rfl rfl
theorem npo {P : Program} {w : World} {K : PySem.W.Frag} {mg : Str → Option Value} {base : Heap} {N : List Str} {F : NF} {f : Addr} {A : Around} {outer : List Env} {s : Shared} {H : Hp} {E : XK} : PassesOwn (model P w) (ncx (L2.CX P w) P w K mg base N F f A outer s H E).A (ncx (L2.CX P w) P w K mg base N F f A outer s H E).env (ncx (L2.CX P w) P w K mg base N F f A outer s H E).xe := passes_of rfl
/-! ### _law_kind(lambda: e) -/
structure KindOk (P : Program) (w : World) (K : PySem.W.Frag) (mg : Str → Option Value) (base : Heap) (nk : Nat) (l : List (Str × Option Nat × DS)) : Prop where
  ex : ∃ (g : Addr) (fd : FuncData) (st : Stmt) (Ng : List Str) (h₀ : ExceptHandler) (hds : List ExceptHandler) (p1 p2 p3 p8 : Pos), mg "_law_kind" = some (.ref g) ∧ Fun K "_law_kind" "_law_kind" st g fd ∧ Binds K fd ["_law_work"] [] ∧ FnScope Ng ["_law_work"] (defScope st) ∧ Ng.length = nk ∧ Ng[0]? = some ("_law_work" : Str) ∧ Vis (defScope st) "_law_work" ∧
    defBody st = [.Try [.Return (some (.Call (.Name "_law_work" p1) [] [] p2)) p3] (h₀ :: hds) [] [] p8] ∧ ∀ cdv A outer s H E, A.units + 100 < cLine → HdsD (cxOf (L2.CX P w) P w K mg base Ng "_law_kind" (defScope st) g cdv A outer s H E) (h₀ :: hds) l
def dKind (P : Nat) (q : Str) (n : Nat) (js : List Nat) (fb : DE) (nk : Nat) (l : List (Str × Option Nat × DS)) : DE := fun ρ M Q E => M P = some (.tab q) ∧ fb (startFD n [] (js.map fun j => (ρ[j]?).join)) M Q (fun x M1 => x.cls ∈ xKinds ∧ ∀ f, dHds (endsOf (fun d M' => Q d (clip M1 M')) noX) l x (startD nk [rf f]) M1)
section
variable {X : Cx} {W : WX} {body : Expr} {fb : DE} {params : Arguments} {scope : Scope} {c P : Addr} {q : Str} {k nk : Nat} {l : List (Str × Option Nat × DS)} {p pos lpos : Pos}
theorem ee_kind (N : List Str) (fr : List Str) (js : List Nat) (T : XTab X.K X.mg) (HK : KindOk X.prog X.w X.K X.mg X.base nk l) (TB : TabB X.base X.mg c P) (hcode : X.env.code = .ref c) (hq : X.env.qual ++ "<lambda>" = q) (S : NScope N [] fr scope) (hnf : ndefB X.env.scope scope fr = true) (hr : Room (k + 2) X.A)
    (hbody : ∀ (cl : List (Str × Addr)) (c' f : Addr) (A : Around) (outer : List Env) (s : Shared) (H : Hp) (E : XK), Room k (A.deeper (envF ⟨"<lambda>", X.env.qual ++ "<lambda>", params, [], scope, cl, c'⟩ f s.heap.objs.size)) →
      EE (ncx (L2.CX X.prog X.w) X.prog X.w X.K X.mg X.base N ⟨"<lambda>", X.env.qual ++ "<lambda>", params, [], scope, cl, c'⟩ f A outer s H E) (wOf E) body fb)
    (hjs : js.map (fun j => X.N[j]?) = fr.map some := by rfl) (hg : Gl X "_law_kind" := by rfl) (hdef : defaultsOf params X.env = ([], []) := by rfl)
    (hb : ∀ (qq : Str) (cl : List (Str × Addr)) (cc pm ctv : Value), bindArgs (PySem.W.kla_fn "<lambda>" qq params body scope cl pm cc ctv) ⟨[], []⟩ = pure [] := by exact fun _ _ _ _ _ => rfl) :
    EE X W (.Call (.Name "_law_kind" p) [.Lambda params body scope lpos] [] pos) (dKind P q N.length js fb nk l) := by
  refine ⟨⟨fun pins s σ H Q I h => ?_⟩⟩
  obtain ⟨F, M, ρ, Qd, Ed, rs, rp, ⟨hM, hf⟩, cq, cx⟩ := h
  obtain ⟨g, fd, st, Ng, h₀, hds, p1, p2, p3, p8, gm, Fn, hbd, Sg, hnk, hN0, hv0, hst, hh⟩ := HK.ex
  obtain ⟨_, ps, hps, htr, hcodes⟩ := rp.mem P _ hM
  subst hq
  refine wpAny_Call_Name_kw (ld_glob I hg gm ?_ (by decide))
  refine PySem.W.callWith_K (h₀ := X.base) I.ok.mod.kin Fn.kp ?_ (by rfl) (by rfl)
  show wpAny _ _ (spliced ((false, eval (.Lambda params body scope lpos) X.env) :: backTo pos (starEach [] X.env))) _ _ s
  refine Calls.spliced_cons (lam_make3 I TB hcode hps htr (fun p cv hc => let ⟨c0, k1, k2⟩ := hcodes p cv hc; ⟨c0, k1, rp.sub _ _ k2⟩) hdef (fun y hy e => (ndef_free hnf y hy e).elim (fun z => I.ok.has _ (.inl z)) fun z => I.ok.has _ (.inr z)) fun f c' H1 s' I1 m => ?_)
  obtain ⟨F1, n1, hLm, hCo⟩ := m.nx rp hM hps hcodes
  refine Calls.spliced_nil ⟨I1.kIn, ?_⟩
  have Cc := cells_of I1 (Caps.made (scope := scope) I1.ok (ndef_free hnf) (ndef_fr hnf) hjs)
  have rc : codeAny (model X.prog X.w) X.A (.call (.ref g) ⟨[.ref f], []⟩) (CR (L2.CX X.prog X.w) X.stack X.prog X.w H1 s' Q (fun _ _ _ => False)) s' := by
    obtain ⟨oc, od, kV, doc, pm, an, cdv, ct, osl, rfl, lk, hcd⟩ := Fn.ex
    refine run_ofS (N := Ng) (ps := ["_law_work"]) (us := [.ref f]) (vs := [.ref f]) (k := k + 1) lk hcd Sg (hr.mono (by omega)) I1.env0 (hbd s' [.ref f] I1.kIn rfl) (.cons rfl .nil) rfl fun hr' => ?_
    rw [hst]
    obtain ⟨lT, h1, h2⟩ := hds_lift (W := fun _ _ _ _ => False) (X := cxOf (L2.CX X.prog X.w) X.prog X.w X.K X.mg X.base Ng "_law_kind" (defScope st) g cdv X.A X.stack s' H1 (fun _ _ _ => False)) T (hh cdv X.A X.stack s' H1 (fun _ _ _ => False) (by have := hr.un; omega))
    refine ⟨_, pss_one (ps_try_all (X := cxOf (L2.CX X.prog X.w) X.prog X.w X.K X.mg X.base Ng "_law_kind" (defScope st) g cdv X.A X.stack s' H1 (fun _ _ _ => False)) rfl rfl rfl Sg.nd L2.takes0
      (tb := fun W' => tRet (fun σ' H' Q' => σ'[0]? = some (some (.ref f)) ∧ H' f = some (LmO f (lmF X params scope c') body) ∧ H' c' = some (CodeO c' (X.env.qual ++ "<lambda>")) ∧ LE X.K X.mg (fun c d _ H'' => W' c d σ' H'') fb (startF N [] (js.map (slotAt σ))) H' Q'))
      (fun W' pn xe t pp => pss_one (ps_ret (pe_lamact (Z := (cxOf (L2.CX X.prog X.w) X.prog X.w X.K X.mg X.base Ng "_law_kind" (defScope st) g cdv X.A X.stack s' H1 (fun _ _ _ => False)).tr pn xe) (F := lmF X params scope c') (f := f) (b := body) (fr := fr) (ws := js.map (slotAt σ)) Cc rfl S (fun pm ctv => hb _ _ _ _ _) hr' t
        (fun A outer s H E hroom => hbody _ c' f A outer s H E hroom) hN0 hv0))) h1), ?_⟩
    have h0 : (L2.start Ng [V.ref f])[0]? = some (some (V.ref f)) := rfl
    refine ⟨h0, n1.ok.sub _ _ hLm, n1.ok.sub _ _ hCo, F1, M, startFD N.length [] (js.map fun j => (ρ[j]?).join), Qd, _, startF_ok .nil (by rw [List.length_map, List.length_map]) (slots_ok (rs.mono n1.same) js), n1.ok, hf, cq.mono n1, ?_⟩
    rintro F2 H2 M2 x cv dd n2 rx ⟨hk, hh2⟩
    have cq2 := cq.mono (n1.trans n2)
    have ls : ∀ {F' H' M'}, Nx X.K X.mg F2 H2 M2 F' H' M' → Nx X.K X.mg F2 H2 M2 F' H' (clip M2 M') := fun n => n.trans (Nx.less n.ok clip_less)
    have rst : Rst X.K F2 (startD nk [rf f]) (L2.start Ng [V.ref f]) := by
      rw [← hnk]
      exact start_ok (.cons (Rp.rf.mpr rfl) .nil)
    refine h2 (F := F2) (H := H2) (M := M2) (Dd := endsOf (fun d M' => Qd d (clip M2 M')) noX) (D := { nx := fun _ H' => Q .non H', rt := Q }) ⟨fun F' H' M' ρ' σ' n rs' q' => cq2 F' H' _ .none .non (ls n) (Rp.non.mpr rfl) q', fun F' H' M' d v n r q' => cq2 F' H' _ d v (ls n) r q', fun _ _ _ _ _ _ _ q' => q'.elim, fun _ _ _ _ _ _ _ q' => q'.elim, fun _ _ _ _ _ _ _ _ _ _ _ q' => q'.elim⟩
      F2 H2 M2 _ _ x cv dd (Nx.refl n2.ok) rst rx ⟨hk, hh2 f⟩
  refine wpAny_call (codeAny_mono rc fun r s2 hq' => ?_)
  cases r with
  | error e =>
    obtain ⟨_, _, _, _, _, _, _, _, _, _, _, _, zz⟩ := hq'
    exact zz.elim
  | ok fl =>
    cases fl with
    | ret u => exact I1.after hq'
    | next => exact False.elim hq'
    | brk => exact False.elim hq'
    | cont => exact False.elim hq'
end
/-! ### the end of a law that makes lambdas itself -/
theorem law_endL {l : PySem.W.OpenLaw} {w : World} {K : PySem.W.Frag} {h : Heap} {mg : Str → Option Value} {fa f cc : Addr} {x : Str} {st : Stmt} {p : Str} {k : Nat} {s : DSp} {oc : Value} {od an : Option Addr} {osl : Array (Option Value)} {kV doc pm ct : Value} (cs : List (Addr × Addr)) (M0 : Mem) (X : K.In h) (G : h.Ns mainGlobals mg)
    (hM0 : ∀ a mo, M0 a = some mo → ∃ q, mo = .tab q ∧ a ∈ cs.map (·.2)) (hs : ∀ (ns : List Int) (Q : DQ) (E : XQ), ns.length ≤ 63 → (∀ M', Q (.bool true) M') → s [.list (ns.map PyData.int)] M0 Q E) (hfa : mg x = some (.ref fa)) (b : BindOk x x st [p])
    (a : PySem.W.nsIn K mainGlobals x = some (some (.ref f))) (lk : K.lookup f = some ⟨oc, od, .func (PySem.W.fnOf x x (defArgs st) (defBody st) (defScope st) .none kV doc pm an (.ref cc) ct), osl⟩)
    (c : PySem.W.codeIn K (.ref cc) x = true) (kp : PySem.W.keepIn K (.ref f) = true) (hT : ∀ p ∈ cs, h.get? p.2 = some { cls := .none, data := .fields #[] }) (nT : ∀ p ∈ cs, K.lookup p.2 = none) (hC : ∀ p ∈ cs, PySem.W.CodeHd h p.1 p.2)
    (ok : ∀ (base : Heap), (∀ p ∈ cs, TabB base mg p.1 p.2) → ∀ (f : Addr) (fd : FuncData), FunC K x x st f fd cc → FnOk l.prog w K mg base (L2.CX l.prog w) k f fd [p] (LSp K mg s)) :
    LawAtS l w K (L2.CX l.prog w) k 63 p mg fa h := by
  have e := hfa.symm.trans (PySem.W.mg_of X G a)
  cases e
  refine ⟨_, cs, LSp K mg s, hT, nT, hC, fun s u => .of_eq (b _ _ _ _ _ _ [u] rfl), fun H a ns hl _ hH hS => ?_, fun base _ _ TB => ok base TB _ _ ⟨⟨oc, od, kV, doc, pm, an, ct, osl, rfl, lk, c⟩⟩⟩
  have hne : ∀ o, H a = some o → (∀ ps, o ≠ .tbl ps) → a ∉ cs.map (·.2) := fun o e n z => by
    obtain ⟨p, hp, rfl⟩ := List.mem_map.mp z
    rw [hH p hp] at e
    cases e
    exact n _ rfl
  have hF : ∀ o, H a = some o → (∀ ps, o ≠ .tbl ps) → (fun b => if b ∈ cs.map (·.2) then none else H b) a = some o := fun o e n => by
    show (if a ∈ cs.map (·.2) then none else H a) = some o
    rw [if_neg (hne o e n)]
    exact e
  refine ⟨fun b => if b ∈ cs.map (·.2) then none else H b, M0, [.list (ns.map PyData.int)], fun d _ => d = .bool true, fun _ _ => False, .cons (Rp.lst.mpr ⟨a, _, rfl, ?_, RpAll.of_ints⟩) .nil, ⟨fun b u e => ?_, fun b mo e => ?_⟩, hs ns _ _ hl (fun _ => rfl),
    fun F' H' M' d v n r e => by subst e; exact Rp.bl.mp r, fun _ _ _ _ _ _ _ _ z => z.elim⟩
  · rcases hS with (q | ⟨o, q⟩) | q
    · exact .inl (.inl (hF _ q fun ps z => by cases z))
    · exact .inl (.inr ⟨o, hF _ q fun ps z => by cases z⟩)
    · exact .inr q
  · have e : (if b ∈ cs.map (·.2) then none else H b) = some u := e
    split at e
    · cases e
    · exact e
  · obtain ⟨q, rfl, hm⟩ := hM0 b mo e
    refine ⟨if_pos hm, ?_⟩
    obtain ⟨p, hp, rfl⟩ := List.mem_map.mp hm
    exact ⟨#[], hH p hp, True.intro, fun pos cv hc => by
      have z : codeAmong pos [] = some cv := hc
      simp [codeAmong] at z⟩
theorem law_endL1 {l : PySem.W.OpenLaw} {w : World} {K : PySem.W.Frag} {h : Heap} {mg : Str → Option Value} {fa f cc : Addr} {x : Str} {st : Stmt} {p : Str} {k : Nat} {s : DSp} {oc : Value} {od an : Option Addr} {osl : Array (Option Value)} {kV doc pm ct : Value} (P : Addr) (M0 : Mem) (X : K.In h) (G : h.Ns mainGlobals mg)
    (hM0 : ∀ a mo, M0 a = some mo → ∃ q, mo = .tab q ∧ a = P) (hs : ∀ (ns : List Int) (Q : DQ) (E : XQ), ns.length ≤ 63 → (∀ M', Q (.bool true) M') → s [.list (ns.map PyData.int)] M0 Q E) (hfa : mg x = some (.ref fa)) (b : BindOk x x st [p])
    (a : PySem.W.nsIn K mainGlobals x = some (some (.ref f))) (lk : K.lookup f = some ⟨oc, od, .func (PySem.W.fnOf x x (defArgs st) (defBody st) (defScope st) .none kV doc pm an (.ref cc) ct), osl⟩)
    (c : PySem.W.codeIn K (.ref cc) x = true) (kp : PySem.W.keepIn K (.ref f) = true) (hT : h.get? P = some { cls := .none, data := .fields #[] }) (nT : K.lookup P = none) (hC : PySem.W.CodeHd h cc P)
    (ok : ∀ (base : Heap), TabB base mg cc P → ∀ (f : Addr) (fd : FuncData), FunC K x x st f fd cc → FnOk l.prog w K mg base (L2.CX l.prog w) k f fd [p] (LSp K mg s)) :
    LawAtS l w K (L2.CX l.prog w) k 63 p mg fa h :=
  law_endL [(cc, P)] M0 X G (fun a mo e => let ⟨q, h1, h2⟩ := hM0 a mo e; ⟨q, h1, by rw [h2]; simp⟩) hs hfa b a lk c kp (fun p hp => by cases List.mem_singleton.mp hp; exact hT) (fun p hp => by cases List.mem_singleton.mp hp; exact nT) (fun p hp => by cases List.mem_singleton.mp hp; exact hC)
    fun base TB => ok base (TB _ (List.mem_singleton.mpr rfl))
end Nb
set_option Elab.async false
set_option linter.all false
set_option maxRecDepth 100000
set_option maxHeartbeats 4000000
set_option autoImplicit false
namespace Nb
open PySem PySem.Spec PyProof.Rows L2 LamX NdefX

/-! ### lambdas as values, with or without one default 0 -/
theorem lmD_at {P : Program} {w : World} {H : Hp} {h : Heap} {f : Addr} {F : NF} {b : Expr} {dV : Value} (hok : HOk P w H h) (e : H f = some (LmD f F b dV)) : ∃ (od : Option Addr) (sl : Array (Option Value)) (doc pm ctv : Value), h.get? f = some (⟨.type "function", od, .func (PySem.W.kdv_fn "<lambda>" F.qual F.params (.expr b) F.scope F.cl dV doc pm (.ref F.c) ctv), sl⟩ : Obj) := by
  obtain ⟨z, _, _⟩ := hok f _ e
  exact z
/-- the table of code objects behind the making of a lambda -/
inductive TabMade (H : Hp) (P : Addr) (q : Str) (ps : Array Value) : Addr → Hp → Prop
  | miss {c' : Addr} {pos : Pos} : H c' = none → (∀ (p' : Pos) (cv : Value), codeAmong p' (ps ++ #[rawInt pos.line, rawInt pos.col, .ref c']).toList = some cv → codeAmong p' ps.toList = some cv ∨ cv = .ref c') → TriplesOk (ps ++ #[rawInt pos.line, rawInt pos.col, .ref c']).toList →
      TabMade H P q ps c' (upd (upd H P (.tbl (ps ++ #[rawInt pos.line, rawInt pos.col, .ref c']))) c' (CodeO c' q))
  | hit {c' : Addr} {pos : Pos} : codeAmong pos ps.toList = some (.ref c') → TabMade H P q ps c' H
section
variable {X : Cx} {pins : List (Addr × Obj)} {σ : L2.St} {H : Hp} {s : Shared}
theorem inv_lmD {F : NF} {b : Expr} {o : Obj} {t' : Nat} {dV doc pm ctv : Value} (I : Inv X pins σ H s) (ho : o = { cls := .type "function", data := .func (PySem.W.kdv_fn "<lambda>" F.qual F.params (.expr b) F.scope F.cl dV doc pm (.ref F.c) ctv) }) :
    Inv X pins σ (upd H s.heap.objs.size (LmD s.heap.objs.size F b dV)) { s with heap := s.heap.push o, toks := t' } := by
  subst ho
  refine I.laid (a := s.heap.objs.size) (fun b u e => Heap.get?_push_of_some _ e) (Nat.le_refl _) ?_
  have e : (s.heap.push ({ cls := .type "function", data := .func (PySem.W.kdv_fn "<lambda>" F.qual F.params (.expr b) F.scope F.cl dV doc pm (.ref F.c) ctv) } : Obj)).get? s.heap.objs.size = some ({ cls := .type "function", data := .func (PySem.W.kdv_fn "<lambda>" F.qual F.params (.expr b) F.scope F.cl dV doc pm (.ref F.c) ctv) } : Obj) := Heap.get?_push_size _ rfl
  exact ⟨⟨_, _, doc, pm, ctv, e⟩, ⟨_, e⟩, fun h1 h2 ⟨od, sl, d, p, t, z⟩ st => ⟨od, sl, d, p, t, st _ z⟩⟩
theorem lam_tail {ps : Array Value} {c P : Addr} {params : Arguments} {body : Expr} {scope : Scope} {pos : Pos} {dV : Value} {E : Value → Shared → Prop} {Q : Value → Shared → Prop} (I : Inv X pins σ H s) (TB : TabB X.base X.mg c P) (hcode : X.env.code = .ref c)
    (hP : H P = some (.tbl ps)) (ht : TriplesOk ps.toList) (ha : ∀ (pos : Pos) (cv : Value), codeAmong pos ps.toList = some cv → ∃ c, cv = .ref c ∧ H c = some (CodeO c (X.env.qual ++ "<lambda>"))) (hfree : ∀ y ∈ scope.names, y.2 = .free → ∃ c, X.env.cells.lookup y.1 = some c)
    (h : ∀ (f c' : Addr) (H1 : Hp) (s' : Shared), TabMade H P (X.env.qual ++ "<lambda>") ps c' H1 → H1 f = none → Inv X pins σ (upd H1 f (LmD f (lmF X params scope c') body dV)) s' → Q (.ref f) s') :
    wpAny (model X.prog X.w) X.A (makeTail "<lambda>" (X.env.qual ++ "<lambda>") params (.expr body) scope X.env dV .none none pos pos.line) Q E s := by
  have bP : s.heap.BuiltinsAt X.mg P := TB.bm.keeps I.bk
  have hP' : s.heap.get? P = some { cls := .none, data := .fields ps } := I.hok P _ hP
  cases hc : codeAmong pos ps.toList with
  | none =>
    refine PySem.W.kdv_makeTail (mg := X.mg) (c := c) (P := P) (ps := ps) (closure_ok hfree) I.ok.glob (I.mod.glob.keeps I.bk) hcode (TB.code.keeps I.bk) hP' ht hc TB.gP bP fun c' ctv doc h' tk hx hge hlt hrec htb => ?_
    obtain ⟨c2, oc, vs, t, e2, hoc, hd, hv⟩ := hrec
    cases e2
    have nC : H c' = none := I.hok.fresh hge
    have I1 := inv_table (t' := tk) (more := #[rawInt pos.line, rawInt pos.col, .ref c']) (h' := h') I hP (fun b o hb e => hx b o hb e) htb hge ⟨oc, vs, t, hoc, hd, hv⟩
    have eL : (ps ++ #[rawInt pos.line, rawInt pos.col, .ref c']).toList = ps.toList ++ [rawInt pos.line, rawInt pos.col, .ref c'] := by simp
    have nF := I1.hok.fresh (Nat.le_refl h'.objs.size)
    have I2 := inv_lmD (F := lmF X params scope c') (b := body) (t' := tk) (dV := dV) (doc := doc) (pm := (X.mg "__name__").getD .none) (ctv := ctv) I1 rfl
    refine h h'.objs.size c' _ _ (.miss (pos := pos) nC (fun p' cv hcv => ?_) (by rw [eL]; exact PySem.TriplesOk_snoc _ _ _ _ ht)) nF I2
    rw [eL] at hcv
    exact among_app _ ht hcv
  | some cv =>
    obtain ⟨c', e, hco⟩ := ha pos cv hc
    subst e
    refine PySem.W.kdv_makeTailHit (mg := X.mg) (c := c) (P := P) (ps := ps) (closure_ok hfree) I.ok.glob (I.mod.glob.keeps I.bk) hcode (TB.code.keeps I.bk) hP' ht hc bP fun ctv doc h' tk hx hsz => ?_
    have I1 : Inv X pins σ H { s with heap := h', toks := tk } := I.kept hx
    have nF : H h'.objs.size = none := I1.hok.fresh (Nat.le_refl _)
    have I2 := inv_lmD (F := lmF X params scope c') (b := body) (t' := tk) (dV := dV) (doc := doc) (pm := (X.mg "__name__").getD .none) (ctv := ctv) I1 rfl
    exact h h'.objs.size c' _ _ (.hit (pos := pos) hc) nF I2
/-- how the defaults of a lambda lie: none, or one 0 -/
def DfV (H H0 : Hp) (df : Bool) (dV : Value) : Prop := (df = false ∧ dV = .none ∧ H0 = H) ∨ (df = true ∧ ∃ T, dV = .ref T ∧ H T = none ∧ H0 = upd H T (.tup [.int 0]))
def DfE (df : Bool) (params : Arguments) : Prop := (df = false ∧ params.defaults = []) ∨ (df = true ∧ ∃ j p, params.defaults = [.Constant (.int 0) j p])
theorem lam_makeD {ps : Array Value} {c P : Addr} {params : Arguments} {body : Expr} {scope : Scope} {pos : Pos} {df : Bool} {Q : Value → Shared → Prop} (I : Inv X pins σ H s) (TB : TabB X.base X.mg c P) (hcode : X.env.code = .ref c)
    (hP : H P = some (.tbl ps)) (ht : TriplesOk ps.toList) (ha : ∀ (pos : Pos) (cv : Value), codeAmong pos ps.toList = some cv → ∃ c, cv = .ref c ∧ H c = some (CodeO c (X.env.qual ++ "<lambda>"))) (hk0 : params.kw_defaults = []) (hdf : DfE df params) (hfree : ∀ y ∈ scope.names, y.2 = .free → ∃ c, X.env.cells.lookup y.1 = some c)
    (h : ∀ (dV : Value) (f c' : Addr) (H0 H1 : Hp) (s' : Shared), DfV H H0 df dV → TabMade H0 P (X.env.qual ++ "<lambda>") ps c' H1 → H1 f = none → Inv X pins σ (upd H1 f (LmD f (lmF X params scope c') body dV)) s' → Q (.ref f) s') :
    wpAny (model X.prog X.w) X.A (eval (.Lambda params body scope pos) X.env) Q X.xe s := by
  rcases hdf with ⟨rfl, hd⟩ | ⟨rfl, j, p, hd⟩
  · refine PySem.W.kla_eval (by rw [defaultsOf_eq, hd, hk0]; rfl) ?_
    rw [makeFunction_eq]
    simp only [List.zip_nil_right, List.filterMap_nil, List.isEmpty_nil, if_true, pure_bind]
    exact lam_tail I TB hcode hP ht ha hfree fun f c' H1 s' m n I' => h _ f c' H H1 s' (.inl ⟨rfl, rfl, rfl⟩) m n I'
  · refine PySem.W.kdv_lam (by rw [hd]; rfl) hk0 ?_
    rw [hd]
    refine PySem.W.kdv_all1 (thn ((pe_int (i := 0)).run pins s σ H (fun v H1 => v = .int 0 ∧ H1 = H) I ⟨rfl, rfl⟩) fun u s1 ⟨v, H1, I1, r1, q1⟩ => ?_)
    obtain ⟨ev, eH⟩ := q1
    subst ev
    rw [eH] at I1
    refine PySem.W.kdv_all0 ?_
    rw [makeFunction_eq]
    simp only [List.zip_nil_right, List.filterMap_nil, List.isEmpty_nil, List.isEmpty_cons, if_true, pure_bind, Bool.false_eq_true, if_false]
    refine wpAny_bind (wpAny_newTextTuple ?_)
    have hf : H s1.heap.objs.size = none := I1.hok.fresh (Nat.le_refl _)
    have I2 : Inv X pins σ (upd H s1.heap.objs.size (.tup [.int 0])) { s1 with heap := s1.heap.push { cls := .type "tuple", data := .seq [u].toArray } } :=
      I1.laid (t' := s1.toks) (fun b u e => Heap.get?_push_of_some _ e) (Nat.le_refl _) ⟨by simp [sizeLine], [u], .cons r1 .nil, ⟨_, Heap.get?_push_size _ rfl, rfl, _, rfl⟩⟩
    have hne : P ≠ s1.heap.objs.size := ne_of_none hP hf
    refine lam_tail I2 TB hcode (by rw [upd_ne hne]; exact hP) ht (fun p cv hc => ?_) hfree fun f c' H1 s' m n I' => h _ f c' _ H1 s' (.inr ⟨rfl, _, rfl, hf, rfl⟩) m n I'
    obtain ⟨c0, k1, k2⟩ := ha p cv hc
    exact ⟨c0, k1, by rw [upd_ne (ne_of_none k2 hf)]; exact k2⟩
end
/-- over data -/
theorem TabMade.nx {K : PySem.W.Frag} {mg : Str → Option Value} {F H H1 : Hp} {M : Mem} {P : Addr} {q : Str} {ps : Array Value} {c' : Addr} (m : TabMade H P q ps c' H1) (rp : Rpr K mg H F M) (hP : M P = some (.tab q)) (hps : H P = some (.tbl ps))
    (ha : ∀ (pos : Pos) (cv : Value), codeAmong pos ps.toList = some cv → ∃ c, cv = .ref c ∧ F c = some (CodeO c q)) : ∃ F1, Nx K mg F H M F1 H1 M ∧ F1 c' = some (CodeO c' q) := by
  have hFP := (rp.mem P _ hP).1
  cases m with
  | @miss pos nC hal htr =>
    have fC := rp.fresh nC
    have nPc : c' ≠ P := fun z => by rw [z, hps] at nC; cases nC
    have same : Same F (upd F c' (CodeO c' q)) := same_upd fC.1
    refine ⟨_, ⟨same, ⟨fun d u e => ?_, fun a mo e => ?_⟩, fun a o e1 e2 e3 => ?_⟩, upd_same⟩
    · by_cases h2 : d = c'
      · subst h2; rw [upd_same] at e ⊢; exact e
      · rw [upd_ne h2] at e ⊢
        rw [upd_ne (ne_of_none e hFP)]
        exact rp.sub d u e
    · have h2 : a ≠ c' := fun z => by rw [z, fC.2] at e; cases e
      obtain ⟨g1, g2⟩ := rp.mem a mo e
      refine ⟨by rw [upd_ne h2]; exact g1, ?_⟩
      by_cases h3 : a = P
      · subst h3
        rw [hP] at e
        cases e
        refine ⟨_, by rw [upd_ne h2, upd_same], htr, fun p' cv hcv => ?_⟩
        rcases hal p' cv hcv with z | z
        · obtain ⟨c0, k1, k2⟩ := ha p' cv z
          exact ⟨c0, k1, same _ _ k2⟩
        · exact ⟨c', z, upd_same⟩
      · exact g2.step same (by rw [upd_ne h2, upd_ne h3])
    · have h2 : a ≠ c' := fun z => by rw [z, nC] at e1; cases e1
      have h3 : a ≠ P := fun z => by rw [z, hP] at e2; cases e2
      exact ⟨by rw [upd_ne h2, upd_ne h3]; exact e1, e2, by rw [upd_ne h2]; exact e3⟩
  | @hit pos hc =>
    obtain ⟨c0, k1, k2⟩ := ha pos _ hc
    cases k1
    exact ⟨F, Nx.refl rp, k2⟩
/-- the words of the lambdas of a frame: the number of a lambda, its object's words, its body, whether it has a default -/
abbrev LamI := Nat → NF → Expr → Bool → Prop
def dLam (P : Nat) (q : Str) (L : LamI) (i : Nat) (df : Bool) : DE := fun _ M Q _ => M P = some (.tab q) ∧ ∀ p nf b, M p = none → L i nf b df → Q (rf p) (mup M p (.lam nf b df))
section
variable {X : Cx} {W : WX} {body : Expr} {params : Arguments} {scope : Scope} {c P : Addr} {q : Str} {lpos : Pos} {df : Bool}
theorem ee_lam (L : LamI) (i : Nat) (fr : List Str) (TB : TabB X.base X.mg c P) (hcode : X.env.code = .ref c) (hq : X.env.qual ++ "<lambda>" = q) (hnf : ndefB X.env.scope scope fr = true) (hL : ∀ c', L i (lmF X params scope c') body df) (hdf : DfE df params) (hk0 : params.kw_defaults = [] := by rfl) :
    EE X W (.Lambda params body scope lpos) (dLam P q L i df) := by
  refine ⟨⟨fun pins s σ H Q I h => ?_⟩⟩
  obtain ⟨F, M, ρ, Qd, Ed, rs, rp, ⟨hM, hf⟩, cq, cx⟩ := h
  obtain ⟨_, ps, hps, htr, hcodes⟩ := rp.mem P _ hM
  subst hq
  refine lam_makeD I TB hcode hps htr (fun p cv hc => let ⟨c0, k1, k2⟩ := hcodes p cv hc; ⟨c0, k1, rp.sub _ _ k2⟩) hk0 hdf (fun y hy e => (ndef_free hnf y hy e).elim (fun z => I.ok.has _ (.inl z)) fun z => I.ok.has _ (.inr z)) fun dV f c' H0 H1 s' hdv m nf I1 => ?_
  have key : ∃ F0, Nx X.K X.mg F H M F0 H0 M ∧ H0 P = some (.tbl ps) ∧ ((df = false ∧ dV = .none) ∨ (df = true ∧ ∃ T, dV = .ref T ∧ F0 T = some (.tup [.int 0]))) := by
    rcases hdv with ⟨h1, h2, rfl⟩ | ⟨h1, T, h2, hT, rfl⟩
    · exact ⟨F, Nx.refl rp, hps, .inl ⟨h1, h2⟩⟩
    · exact ⟨_, Nx.new rp hT _, by rw [upd_ne (ne_of_none hps hT)]; exact hps, .inr ⟨h1, T, h2, upd_same⟩⟩
  obtain ⟨F0, n0, hps0, hd0⟩ := key
  obtain ⟨F1, n1, hc1⟩ := m.nx n0.ok hM hps0 fun p cv hc => let ⟨c0, k1, k2⟩ := hcodes p cv hc; ⟨c0, k1, n0.same _ _ k2⟩
  have n2 := Nx.live (o := LmD f (lmF X params scope c') body dV) (mo := .lam (lmF X params scope c') body df) n1.ok nf ⟨hc1, dV, upd_same, by
    rcases hd0 with hd0 | ⟨a1, T, a2, a3⟩
    · exact .inl hd0
    · exact .inr ⟨a1, T, a2, n1.same _ _ a3⟩⟩
  exact ⟨.ref f, _, I1, rfl, cq _ _ _ _ _ ((n0.trans n1).trans n2) (Rp.rf.mpr rfl) (hf f _ _ (n1.ok.fresh nf).2 (hL c'))⟩
end
end Nb
set_option Elab.async false
set_option linter.all false
set_option maxRecDepth 100000
set_option maxHeartbeats 4000000
set_option autoImplicit false
namespace Nb
open PySem PySem.Spec PyProof.Rows L2 LamX NdefX

/-! ### calls of lambdas that are values -/
def dvV (df : Bool) : List V := if df then [.int 0] else []
def dvD (df : Bool) : List Dat := if df then [.int 0] else []
theorem dv_ok {K : PySem.W.Frag} {F : Hp} (df : Bool) : RpAll K F (dvD df) (dvV df) := by
  cases df
  · exact .nil
  · exact .cons (Rp.int.mpr rfl) .nil
/-- how the lambda's arguments are bound when it is called without any -/
def BindL (nf : NF) (b : Expr) (df : Bool) (ps : List Str) : Prop :=
  (df = false ∧ ps = [] ∧ ∀ (doc pm ctv : Value), bindArgs (PySem.W.kdv_fn "<lambda>" nf.qual nf.params (.expr b) nf.scope nf.cl .none doc pm (.ref nf.c) ctv) ⟨[], []⟩ = pure []) ∨
  (df = true ∧ ∃ a : Str, ps = [a] ∧ ∀ (T : Addr) (doc pm ctv : Value), ∃ kk : Option (Array Value) → Sem (List (Str × Value)), bindArgs (PySem.W.kdv_fn "<lambda>" nf.qual nf.params (.expr b) nf.scope nf.cl (.ref T) doc pm (.ref nf.c) ctv) ⟨[], []⟩ = seqItems? (.ref T) >>= kk ∧ ∀ u, kk (some #[u]) = pure [(a, u)])
/-- the lambda's object with its code object, tracked -/
def LamH (H : Hp) (f : Addr) (nf : NF) (b : Expr) (df : Bool) : Prop := H nf.c = some (CodeO nf.c nf.qual) ∧ ∃ dV, H f = some (LmD f nf b dV) ∧ ((df = false ∧ dV = .none) ∨ (df = true ∧ ∃ T, dV = .ref T ∧ H T = some (.tup [.int 0])))
theorem lam_callD {CX : CXT} {P : Program} {w : World} {K : PySem.W.Frag} {mg : Str → Option Value} {base : Heap} {N ps fr : List Str} {F : NF} {f : Addr} {b : Expr} {df : Bool} {k : Nat} {A : Around} {outer : List Env} {s : Shared} {H : Hp} {ws : List (Option V)} {Q : VK} {E : XK}
    (S : NScope N ps fr F.scope) (hB : BindL F b df ps) (hr : Room (k + 1) A) (e0 : Env0 P w K mg base A outer s H) (hL : LamH H f F b df) (C : CellsAt F.cl fr ws s.heap H)
    (hbody : Room k (A.deeper (envF F f s.heap.objs.size)) → ∃ t, PE (ncx CX P w K mg base N F f A outer s H E) b t ∧ t (startF N (dvV df) ws) H Q) :
    codeAny (model P w) A (.call (.ref f) ⟨[], []⟩) (CR CX outer P w H s Q E) s := by
  obtain ⟨hc, dV, hf, hd⟩ := hL
  have lim : s.heap.NoLimit := e0.mod.nolimit.keeps fun b o e => (e0.bs b o e).1
  obtain ⟨od, sl, doc, pm, ctv, ho⟩ := lmD_at e0.hok hf
  obtain ⟨us, r, hl, hbind⟩ : ∃ us, Vals (dvV df) us ∧ (dvV df).length = ps.length ∧ BindsTo s (PySem.W.kdv_fn "<lambda>" F.qual F.params (.expr b) F.scope F.cl dV doc pm (.ref F.c) ctv) ⟨[], []⟩ (ps.zip us) := by
    rcases hB with ⟨rfl, rfl, hb⟩ | ⟨rfl, a, rfl, hb⟩
    · rcases hd with ⟨_, rfl⟩ | ⟨z, _⟩
      · exact ⟨[], .nil, rfl, .of_eq (hb doc pm ctv)⟩
      · cases z
    · rcases hd with ⟨z, _⟩ | ⟨_, T, rfl, hT⟩
      · cases z
      · obtain ⟨_, its, rv, o, h1, _, n, h3⟩ := e0.hok T _ hT
        obtain ⟨kk, g1, g2⟩ := hb T doc pm ctv
        cases rv with
        | cons r1 t1 =>
          cases t1
          rename_i u
          exact ⟨[u], .cons r1 .nil, rfl, .of_defaults (T := T) rfl h1 h3 g1 (g2 u)⟩
  refine PySem.W.kla_callFunE hr.depth ho rfl S.co S.gen rfl (codeO_at e0.hok hc) (hbind _ _ _ _ ?_)
  refine wpAny_newFunctionEnv S.nocell (fun ⟨n, _⟩ hy => S.par n (List.of_mem_zip hy).1) (fun h₁ hns hsb => ⟨lim.fresh _ hsb, ?_⟩) S.kind
  show codeAny _ _ (.expr b (envF F f s.heap.objs.size)) _ _
  have kp : ∀ b o, s.heap.get? b = some o → h₁.get? b = some o := fun b o e => hsb.extBut b o (Nat.ne_of_lt (Heap.lt_size e)) (Heap.get?_push_of_some _ e)
  obtain ⟨t, ht, hq⟩ := hbody (hr.deeper _)
  have I : Inv (ncx CX P w K mg base N F f A outer s H E) [] (startF N (dvV df) ws) H { s with heap := h₁, toks := s.toks + (ps.zip us).length } := inv_startN S hr.hd e0 hl r C hns kp
  exact PySem.W.kla_codeExpr (wpAny_mono (ht.run [] _ _ H Q I hq) (fun v s' ⟨w', H', J', rv, q⟩ => ⟨w', H', J'.os, J'.bare, J'.base, J'.hok, rv, q⟩) fun e s' hq => hq)
theorem pe_lamactD {Z : Cx} {W : WX} {N ps fr : List Str} {F : NF} {f : Addr} {b : Expr} {df : Bool} {k i : Nat} {a : Str} {ws : List (Option V)} {fb : DE} {p1 p2 : Pos} (C0 : CellsAt F.cl fr ws Z.s_0.heap Z.H_0) (hex : Z.ex = []) (S : NScope N ps fr F.scope)
    (hb : BindL F b df ps) (hr : Room (k + 1) Z.A) (tk : Takes Z W)
    (hbody : ∀ (A : Around) (outer : List Env) (s : Shared) (H : Hp) (E : XK), Room k (A.deeper (envF F f s.heap.objs.size)) → EE (ncx (L2.CX Z.prog Z.w) Z.prog Z.w Z.K Z.mg Z.base N F f A outer s H E) (wOf E) b fb)
    (hN : Z.N[i]? = some a) (hv : Vis Z.env.scope a) (hd : (a == ("__debug__" : Str)) = false := by decide) (hcd : (a == ("__classdict__" : Str)) = false := by decide) :
    PE Z (.Call (.Name a p1) [] [] p2) (fun σ H Q => σ[i]? = some (some (.ref f)) ∧ LamH H f F b df ∧ LE Z.K Z.mg (fun c d _ H' => W c d σ H') fb (startF N (dvV df) ws) H Q) := by
  refine ⟨fun pins s σ H Q I h => ?_⟩
  obtain ⟨hs, hf, ht⟩ := h
  refine wpAny_Call_Name_kw (thn ((pe_var (pos := p1) (i := i) hN hv hd hcd).run pins s σ H (fun v H1 => v = .ref f ∧ H1 = H) I ⟨.ref f, hs, rfl, rfl⟩) fun u s1 ⟨v, H1, I1, r1, q1⟩ => ?_)
  obtain ⟨ev, eH⟩ := q1
  subst ev
  rw [eH] at I1
  obtain rfl : u = Value.ref f := r1
  obtain ⟨od, sl, doc, pm, ctv, ho⟩ := lmD_at I1.hok hf.2.choose_spec.1
  refine PySem.W.callWith_F0 ⟨_, _, _, _, ho⟩ ?_
  have un : Un Z.fs [] Z.H_0 H Z.s_0.heap s1.heap := by have z := I1.base; rw [hex] at z; exact z
  have rc := lam_callD (CX := L2.CX Z.prog Z.w) (F := F) (b := b) (N := N) (ps := ps) (fr := fr) (ws := ws) (Q := Q) (E := fun c d H' => W c d σ H') S hb hr I1.env0 hf (cells_un C0 un) (fun hroom => ⟨_, (hbody Z.A Z.stack s1 H (fun c d H' => W c d σ H') hroom).h, ht⟩)
  refine wpAny_call (codeAny_mono rc fun r s' hq => ?_)
  cases r with
  | error e => exact passAt tk σ pins H s1 e s' I1 hq
  | ok fl =>
    cases fl with
    | ret u => exact I1.after hq
    | next => exact False.elim hq
    | brk => exact False.elim hq
    | cont => exact False.elim hq
/-- the lambda nf with the body b of the frame X: its reading fb -/
structure LamOk (X : Cx) (k : Nat) (nf : NF) (b : Expr) (df : Bool) (n : Nat) (js : List Nat) (fb : DE) : Prop where
  ex : ∃ N ps fr : List Str, N.length = n ∧ NScope N ps fr nf.scope ∧ BindL nf b df ps ∧ (X.Ok → Caps X nf.cl fr js) ∧
    ∀ (f : Addr) (A : Around) (outer : List Env) (s : Shared) (H : Hp) (E : XK), Room k (A.deeper (envF nf f s.heap.objs.size)) → EE (ncx (L2.CX X.prog X.w) X.prog X.w X.K X.mg X.base N nf f A outer s H E) (wOf E) b fb
abbrev LamB := List (Nat × List Nat × DE)
def LamsOk (X : Cx) (k : Nat) (L : LamI) (bs : LamB) : Prop := ∀ i nf b df n js fb, L i nf b df → bs[i]? = some (n, js, fb) → LamOk X k nf b df n js fb
/-- what _law_kind makes of an exception -/
def kXQ (nk : Nat) (l : List (Str × Option Nat × DS)) (Q : DQ) : XQ := fun x M1 => x.cls ∈ xKinds ∧ ∀ f, dHds (endsOf (fun d M' => Q d (clip M1 M')) noX) l x (startD nk [rf f]) M1
def dActK (L : LamI) (bs : LamB) (nk : Nat) (l : List (Str × Option Nat × DS)) (d : Dat) (ρ : Rho) (M : Mem) (Q : DQ) : Prop := ∃ p nf b df i n js fb, d = rf p ∧ M p = some (.lam nf b df) ∧ L i nf b df ∧ bs[i]? = some (n, js, fb) ∧
  fb (startFD n (dvD df) (js.map fun j => (ρ[j]?).join)) M Q (kXQ nk l Q)
section
variable {X : Cx} {W : WX} {L : LamI} {bs : LamB} {k nk : Nat} {l : List (Str × Option Nat × DS)}
theorem RMO.lamH {K : PySem.W.Frag} {mg : Str → Option Value} {F H : Hp} {a : Nat} {nf : NF} {b : Expr} {df : Bool} (sub : Same F H) (h : RMO K mg F H a (.lam nf b df)) : LamH H a nf b df := by
  obtain ⟨h1, dV, h2, h3⟩ := h
  refine ⟨sub _ _ h1, dV, h2, ?_⟩
  rcases h3 with h3 | ⟨z, T, y, q⟩
  · exact .inl h3
  · exact .inr ⟨z, T, y, sub _ _ q⟩
/-- _law_kind called with a lambda of this frame -/
theorem kind_call {E : Value → Shared → Prop} {pins : List (Addr × Obj)} {σ : L2.St} {H F : Hp} {s : Shared} {M : Mem} {ρ : Rho} {Qd : DQ} {Q : VK} {d : Dat} {v : V} {u : Value} (T : XTab X.K X.mg) (HK : KindOk X.prog X.w X.K X.mg X.base nk l) (HL : LamsOk X k L bs) (hr : Room (k + 2) X.A)
    (I : Inv X pins σ H s) (rs : Rst X.K F ρ σ) (rp : Rpr X.K X.mg H F M) (rv : Rp X.K F d v) (ru : RelV v u) (hf : dActK L bs nk l d ρ M Qd) (cq : CQ X.K X.mg F H M Qd Q) :
    ∃ g : Addr, X.mg "_law_kind" = some (.ref g) ∧ PySem.W.keepIn X.K (.ref g) = true ∧ wpAny (model X.prog X.w) X.A (call (.ref g) [u]) (EP X pins σ Q) E s := by
  obtain ⟨p, nf, b, df, i, n, js, fb, rfl, hM, hLi, hbi, hf⟩ := hf
  obtain rfl := Rp.rf.mp rv
  obtain rfl : u = Value.ref p := ru
  obtain ⟨g, fd, st, Ng, h₀, hds, p1, p2, p3, p8, gm, Fn, hbd, Sg, hnk, hN0, hv0, hst, hh⟩ := HK.ex
  obtain ⟨N, ps, fr, hn, S, hbl, hcap, hbody⟩ := (HL i nf b df n js fb hLi hbi).ex
  refine ⟨g, gm, Fn.kp, ?_⟩
  have hLam : LamH H p nf b df := RMO.lamH rp.sub (rp.mem p _ hM).2
  have Cc := cells_of I (hcap I.ok)
  have rc : codeAny (model X.prog X.w) X.A (.call (.ref g) ⟨[.ref p], []⟩) (CR (L2.CX X.prog X.w) X.stack X.prog X.w H s Q (fun _ _ _ => False)) s := by
    obtain ⟨oc, od, kV, doc, pm, an, cdv, ct, osl, rfl, lk, hcd⟩ := Fn.ex
    refine run_ofS (N := Ng) (ps := ["_law_work"]) (us := [.ref p]) (vs := [.ref p]) (k := k + 1) lk hcd Sg (hr.mono (by omega)) I.env0 (hbd s [.ref p] I.kIn rfl) (.cons rfl .nil) rfl fun hr' => ?_
    rw [hst]
    obtain ⟨lT, h1, h2⟩ := hds_lift (W := fun _ _ _ _ => False) (X := cxOf (L2.CX X.prog X.w) X.prog X.w X.K X.mg X.base Ng "_law_kind" (defScope st) g cdv X.A X.stack s H (fun _ _ _ => False)) T (hh cdv X.A X.stack s H (fun _ _ _ => False) (by have := hr.un; omega))
    refine ⟨_, pss_one (ps_try_all (X := cxOf (L2.CX X.prog X.w) X.prog X.w X.K X.mg X.base Ng "_law_kind" (defScope st) g cdv X.A X.stack s H (fun _ _ _ => False)) rfl rfl rfl Sg.nd L2.takes0
      (tb := fun W' => tRet (fun σ' H' Q' => σ'[0]? = some (some (.ref p)) ∧ LamH H' p nf b df ∧ LE X.K X.mg (fun c d _ H'' => W' c d σ' H'') fb (startF N (dvV df) (js.map (slotAt σ))) H' Q'))
      (fun W' pn xe t pp => pss_one (ps_ret (pe_lamactD (Z := (cxOf (L2.CX X.prog X.w) X.prog X.w X.K X.mg X.base Ng "_law_kind" (defScope st) g cdv X.A X.stack s H (fun _ _ _ => False)).tr pn xe) (F := nf) (f := p) (b := b) (fr := fr) (ws := js.map (slotAt σ)) Cc rfl S hbl hr' t
        (fun A outer s H E hroom => hbody p A outer s H E hroom) hN0 hv0))) h1), ?_⟩
    have h0 : (L2.start Ng [V.ref p])[0]? = some (some (V.ref p)) := rfl
    refine ⟨h0, hLam, F, M, startFD n (dvD df) (js.map fun j => (ρ[j]?).join), Qd, _, ?_, rp, hf, cq, ?_⟩
    · rw [← hn]
      exact startF_ok (dv_ok df) (by rw [List.length_map, List.length_map]) (slots_ok rs js)
    rintro F2 H2 M2 x cv dd n2 rx ⟨hk, hh2⟩
    have cq2 := cq.mono n2
    have ls : ∀ {F' H' M'}, Nx X.K X.mg F2 H2 M2 F' H' M' → Nx X.K X.mg F2 H2 M2 F' H' (clip M2 M') := fun n => n.trans (Nx.less n.ok clip_less)
    have rst : Rst X.K F2 (startD nk [rf p]) (L2.start Ng [V.ref p]) := by
      rw [← hnk]
      exact start_ok (.cons (Rp.rf.mpr rfl) .nil)
    refine h2 (F := F2) (H := H2) (M := M2) (Dd := endsOf (fun d M' => Qd d (clip M2 M')) noX) (D := { nx := fun _ H' => Q .non H', rt := Q }) ⟨fun F' H' M' ρ' σ' n rs' q' => cq2 F' H' _ .none .non (ls n) (Rp.non.mpr rfl) q', fun F' H' M' d v n r q' => cq2 F' H' _ d v (ls n) r q', fun _ _ _ _ _ _ _ q' => q'.elim, fun _ _ _ _ _ _ _ q' => q'.elim, fun _ _ _ _ _ _ _ _ _ _ _ q' => q'.elim⟩
      F2 H2 M2 _ _ x cv dd (Nx.refl n2.ok) rst rx ⟨hk, hh2 p⟩
  refine wpAny_call (codeAny_mono rc fun r s2 hq' => ?_)
  cases r with
  | error e =>
    obtain ⟨_, _, _, _, _, _, _, _, _, _, _, _, zz⟩ := hq'
    exact zz.elim
  | ok fl =>
    cases fl with
    | ret u => exact I.after hq'
    | next => exact False.elim hq'
    | brk => exact False.elim hq'
    | cont => exact False.elim hq'
def dKindV (L : LamI) (bs : LamB) (fe : DE) (nk : Nat) (l : List (Str × Option Nat × DS)) : DE := fun ρ M Q E => fe ρ M (fun d M1 => dActK L bs nk l d ρ M1 Q) E
theorem ee_kindV {e : Expr} {fe : DE} {p pos : Pos} (T : XTab X.K X.mg) (HK : KindOk X.prog X.w X.K X.mg X.base nk l) (HL : LamsOk X k L bs) (hr : Room (k + 2) X.A) (he : EE X W e fe) (hg : Gl X "_law_kind" := by rfl)
    (hst : starEach [e] X.env = (false, eval e X.env) :: starEach [] X.env := by rfl) (hpl : (backTo pos (starEach [] X.env)).any (·.1) = false := by rfl) :
    EE X W (.Call (.Name "_law_kind" p) [e] [] pos) (dKindV L bs fe nk l) := by
  refine ⟨⟨fun pins s σ H Q I h => ?_⟩⟩
  obtain ⟨F, M, ρ, Qd, Ed, rs, rp, hf, cq, cx⟩ := h
  obtain ⟨g, fd, st, Ng, h₀, hds, p1, p2, p3, p8, gm, Fn, _⟩ := HK.ex
  refine wpAny_Call_Name_kw (ld_glob I hg gm ?_ (by decide))
  refine PySem.W.callWith_K (h₀ := X.base) I.ok.mod.kin Fn.kp (thn ((ea_cons he ea_nil hst).h.run pos pins s σ H (fun vs H1 => ∃ F1 M1 d v, vs = [v] ∧ Nx X.K X.mg F H M F1 H1 M1 ∧ Rp X.K F1 d v ∧ dActK L bs nk l d ρ M1 Qd) I
    ⟨F, M, ρ, (fun ds M1 => match ds with | [d] => dActK L bs nk l d ρ M1 Qd | _ => False), Ed, rs, rp, hf, fun F1 H1 M1 ds vs n1 rd q1 => by
        obtain ⟨d0, rfl⟩ : ∃ d0, ds = [d0] := by
          cases ds with
          | nil => exact ⟨.none, False.elim q1⟩
          | cons d0 t => cases t with
            | nil => exact ⟨d0, rfl⟩
            | cons d1 t => exact ⟨.none, False.elim q1⟩
        obtain ⟨v, rfl, r1⟩ := rd.one
        exact ⟨F1, M1, d0, v, rfl, n1, r1, q1⟩, cx⟩) fun us s1 ⟨vs, H1, I1, r1, q1⟩ => ⟨I1.kIn, ?_⟩) hst hpl
  obtain ⟨F1, M1, d, v, rfl, n1, rd, hk⟩ := q1
  obtain ⟨u, rfl, ru⟩ := vals1 r1
  obtain ⟨g', gm', _, z⟩ := kind_call T HK HL hr I1 (rs.mono n1.same) n1.ok rd ru hk (cq.mono n1)
  rw [gm] at gm'
  cases gm'
  exact z
end
end Nb
set_option Elab.async false
set_option linter.all false
set_option maxRecDepth 100000
set_option maxHeartbeats 4000000
set_option autoImplicit false
namespace Nb
open PySem PySem.Spec PyProof.Rows L2 LamX NdefX

/-! ### [_law_kind(x) for x in lambdas] -/
section
variable {X : Cx} {pins : List (Addr × Obj)} {σ : L2.St} {H : Hp} {s : Shared} {h' : Heap}
/-- two untracked objects change -/
theorem inv_two {t' : Nat} {D J : Addr} (I : Inv X pins σ H s) (k : ∀ b o, b ≠ D → b ≠ J → s.heap.get? b = some o → h'.get? b = some o) (fD : FpOk X pins H D) (fJ : FpOk X pins H J) : Inv X pins σ H { s with heap := h', toks := t' } := by
  have nD : ∀ b u, H b = some u → b ≠ D := fun b u e z => by rw [z, fD.1] at e; cases e
  have nJ : ∀ b u, H b = some u → b ≠ J := fun b u e z => by rw [z, fJ.1] at e; cases e
  have ne : ∀ {b}, b ∉ [D, J] → b ≠ D ∧ b ≠ J := fun {b} h => ⟨fun z => h (by simp [z]), fun z => h (by simp [z])⟩
  refine I.step (g' := s.gens) (d' := s.drawn) (ch := [D, J]) (fun b hb => ?_) (fun b o _ _ hc e _ => k b o (ne hc).1 (ne hc).2 e) (fun b o _ _ hc e _ => ⟨o.slots, k b o (ne hc).1 (ne hc).2 e⟩) (fun _ _ _ _ n => n)
    (fun b o hc e => ⟨o, k b o (ne hc).1 (ne hc).2 e⟩) (fun _ _ e => e) (fun _ _ _ e => e) (fun b ps e => ⟨#[], by rw [e]; simp⟩) (fun m hm => ?_) (fun b u e => ?_) I.bare
  · have e : b = D ∨ b = J := by simpa using hb
    rcases e with rfl | rfl
    · exact ⟨fD.2.2.2.1, fD.2.1, fD.2.2.2.2.1, fD.2.2.2.2.2⟩
    · exact ⟨fJ.2.2.2.1, fJ.2.1, fJ.2.2.2.2.1, fJ.2.2.2.2.2⟩
  · obtain ⟨o, es, ep, ho, r⟩ := hm
    exact ⟨o, es, ep, k _ o (Ne.symm fD.2.1) (Ne.symm fJ.2.1) ho, r⟩
  · refine (I.hok b u e).stay (fun c v hc q => ?_) (fun _ q => q) fun _ _ q => q
    have hc' : c ≠ D ∧ c ≠ J := by
      rcases hc with z | z
      · rw [z]; exact ⟨nD b u e, nJ b u e⟩
      · exact ⟨nD c _ z, nJ c _ z⟩
    exact k c v hc'.1 hc'.2 q
end
def dKsL (L : LamI) (bs : LamB) (nk : Nat) (l : List (Str × Option Nat × DS)) (ρ : Rho) : List Dat → List Dat → Mem → (List Dat → Mem → Prop) → Prop
  | [], acc, M, Q => Q acc M
  | d :: ds, acc, M, Q => acc.length < sizeLine ∧ dActK L bs nk l d ρ M fun x M1 => dKsL L bs nk l ρ ds (acc ++ [x]) M1 Q
def dKinds (L : LamI) (bs : LamB) (fe : DE) (nk : Nat) (l : List (Str × Option Nat × DS)) : DE := fun ρ M Q E => fe ρ M (fun d M1 => ∃ ps : List Nat, d = .list (ps.map rf) ∧ ps.length ≤ sizeLine ∧ dKsL L bs nk l ρ (ps.map rf) [] M1 fun out M2 => Q (.list out) M2) E
theorem vals_refs {K : PySem.W.Frag} {F : Hp} : ∀ {ps : List Nat} {vs : List V} {us : List Value}, RpAll K F (ps.map rf) vs → Vals vs us → us = ps.map Value.ref
  | [], vs, us, h, r => by rw [h.nil_inv] at r; cases r; rfl
  | p :: ps, vs, us, h, r => by
    obtain ⟨v, t, rfl, h1, h2⟩ := RpAll.inv (by simpa using h)
    obtain rfl := Rp.rf.mp h1
    cases r with
    | cons r1 r2 =>
      rename_i u us
      obtain rfl : u = Value.ref p := r1
      rw [vals_refs h2 r2]
      rfl
section
variable {X : Cx} {W : WX} {L : LamI} {bs : LamB} {k nk : Nat} {l : List (Str × Option Nat × DS)} {iter : Expr} {fe : DE} {w : Str} {scope : Scope} {p1 p2 p3 p4 pos : Pos}
theorem ee_kinds (T : XTab X.K X.mg) (HK : KindOk X.prog X.w X.K X.mg X.base nk l) (HL : LamsOk X k L bs) (hr : Room (k + 2) X.A) (hi : EE X W iter fe) (hc : X.calm = true)
    (hsc : (scope.kind = .function) ∧ (∀ y ∈ scope.names, y.2 ≠ .cell) ∧ (∀ y ∈ scope.names, y.2 ≠ .free) ∧ (∀ y ∈ scope.names, y.2 = .local → scope.names.lookup y.1 = some .local))
    (hg : ∀ (C : Addr) (cl : List (Str × Addr)), (compEnvC scope cl C X.env).kindOf "_law_kind" = some .globalImplicit := by exact fun _ _ => rfl)
    (hw : ∀ (C : Addr) (cl : List (Str × Addr)), (compEnvC scope cl C X.env).kindOf w = some .local := by exact fun _ _ => rfl)
    (hk : ∀ (C : Addr) (cl : List (Str × Addr)), (compEnvC scope cl C X.env).scope.kind = .function := by exact fun _ _ => rfl)
    (hd : (w == ("__debug__" : Str)) = false := by decide) (hs : ∀ x, foldedSetIterable iter X.env x = pure x := by intro _; rfl)
    (hst : ∀ (C : Addr) (cl : List (Str × Addr)), starEach [.Name w p2] (compEnvC scope cl C X.env) = (false, eval (.Name w p2) (compEnvC scope cl C X.env)) :: starEach [] (compEnvC scope cl C X.env) := by exact fun _ _ => rfl)
    (hpl : ∀ (C : Addr) (cl : List (Str × Addr)), (backTo p3 (starEach [] (compEnvC scope cl C X.env))).any (·.1) = false := by exact fun _ _ => rfl) :
    EE X W (.ListComp (.Call (.Name "_law_kind" p1) [.Name w p2] [] p3) [⟨.Name w p4, iter, [], 0⟩] scope pos) (dKinds L bs fe nk l) := by
  refine ⟨⟨fun pins s σ H Q I h => ?_⟩⟩
  obtain ⟨F, M, ρ, Qd, Ed, rs, rp, hf, cq, cx⟩ := h
  obtain ⟨hsk, hsc1, hsc2, hsl⟩ := hsc
  refine ListComp_goes (closure_ok (env := X.env) (scope := scope) fun y hy e => absurd e (hsc2 y hy)) hsc1 hsk hsl ?_ hs
  generalize hcl : cloFrom X.env.cells scope.names [] = cl
  refine thn (hi.h.run pins s σ H (fun v H1 => ∃ F1 M1 d, Nx X.K X.mg F H M F1 H1 M1 ∧ Rp X.K F1 d v ∧ ∃ ps : List Nat, d = .list (ps.map rf) ∧ ps.length ≤ sizeLine ∧ dKsL L bs nk l ρ (ps.map rf) [] M1 fun out M2 => Qd (.list out) M2) I
    ⟨F, M, ρ, _, Ed, rs, rp, hf, fun F1 H1 M1 d v n1 rv q1 => ⟨F1, M1, d, n1, rv, q1⟩, cx⟩) fun u s1 ⟨v, H1, I1, ru, F1, M1, d, n1, rv, ps, ed, hz, hks⟩ => ?_
  subst ed
  obtain ⟨a, vs, rfl, hsq, rvs⟩ := Rp.lst.mp rv
  obtain rfl : u = Value.ref a := ru
  have listAt : ∀ {pins' : List (Addr × Obj)} {H' F' : Hp} {s' : Shared} {M' : Mem}, Inv X pins' σ H' s' → Nx X.K X.mg F1 H1 M1 F' H' M' → s'.heap.IsList a (ps.map Value.ref).toArray := fun {pins' H' F' s' M'} I' n' => by
    obtain ⟨its, ri, p, _⟩ := I'.list ((n'.same.trans n'.ok.sub).seq hsq)
    rw [← vals_refs rvs ri]
    exact p.isList
  refine wpAny_pyIter_list (listAt I1 (Nx.refl n1.ok)) ?_
  generalize hJ : s1.heap.objs.size = J
  have aJ : a < J := by
    obtain ⟨o, e, _⟩ := listAt I1 (Nx.refl n1.ok)
    rw [← hJ]; exact Heap.lt_size e
  have I2 : Inv X pins σ H1 { s1 with heap := s1.heap.push { cls := .type "list_iterator", data := .fields #[.ref a, .int 0 0] } } := I1.kept (t' := s1.toks) fun b o e => Heap.get?_push_of_some _ e
  have szJ : (s1.heap.push { cls := .type "list_iterator", data := .fields #[.ref a, .int 0 0] }).objs.size = J + 1 := by rw [Heap.size_push, hJ]
  have fJ : FpOk X pins H1 J := I1.fpOk (Nat.le_of_eq hJ) (I1.hok.fresh (Nat.le_of_eq hJ))
  refine ⟨J, [J, a], [J], (ps.map Value.ref).toArray.size, _, _, rfl, Goes.list (I.ok.hd hc) J a (Nat.ne_of_lt aJ) (ps.map Value.ref).toArray, by simpa using hz, ⟨?_, listAt I2 (Nx.refl n1.ok)⟩, fun b hb => ?_, fun D C s3 hB => ?_⟩
  · rw [← hJ]
    exact ⟨_, Heap.get?_push_size _ rfl, rfl, rfl⟩
  · show b < (s1.heap.push _).objs.size
    rw [szJ]
    rcases List.mem_cons.mp hb with z | z
    · rw [z]; exact Nat.lt_succ_self _
    · rw [List.mem_singleton.mp z]; exact Nat.lt_succ_of_lt aJ
  obtain ⟨⟨h3, tk3, rfl⟩, hold, hD, hC, hDC, hNs⟩ := hB
  have hD' : J + 1 ≤ D := by rw [← szJ]; exact hD
  have hC' : J + 1 ≤ C := by rw [← szJ]; exact hC
  have I3 : Inv X pins σ H1 { s1 with heap := h3, toks := tk3 } := I2.kept (t' := tk3) hold
  have fD : FpOk X pins H1 D := I2.fpOk hD (I2.hok.fresh hD)
  have fC : FpOk X pins H1 C := I2.fpOk hC (I2.hok.fresh hC)
  have nDJ : D ≠ J := Nat.ne_of_gt hD'
  have nCJ : C ≠ J := Nat.ne_of_gt hC'
  generalize henv : compEnvC scope cl C X.env = ce
  have heg : ce.kindOf "_law_kind" = some .globalImplicit := by rw [← henv]; exact hg C cl
  have hew : ce.kindOf w = some .local := by rw [← henv]; exact hw C cl
  have hek : ce.scope.kind = .function := by rw [← henv]; exact hk C cl
  have hel : ce.locals = C := by rw [← henv]; rfl
  have hegl : ce.globals = mainGlobals := by rw [← henv]; exact I.ok.glob
  have hst' : starEach [.Name w p2] ce = (false, eval (.Name w p2) ce) :: starEach [] ce := by rw [← henv]; exact hst C cl
  have hpl' : (backTo p3 (starEach [] ce)).any (·.1) = false := by rw [← henv]; exact hpl C cl
  refine ⟨fun i ys s' => ∃ H' F' M' acc vacc m, Inv X pins σ H' s' ∧ FpOk X pins H' D ∧ FpOk X pins H' J ∧ FpOk X pins H' C ∧ s'.heap.Ns C m ∧ Nx X.K X.mg F1 H1 M1 F' H' M' ∧ RpAll X.K F' acc vacc ∧ Vals vacc ys ∧ acc.length = i ∧ dKsL L bs nk l ρ ((ps.map rf).drop i) acc M' fun out M2 => Qd (.list out) M2,
    ⟨H1, F1, M1, [], [], _, I3, fD, fJ, fC, hNs, Nx.refl n1.ok, .nil, .nil, rfl, hks⟩, ?_, ?_, ?_⟩
  · rintro i ys s' h' tk ⟨H', F', M', acc, vacc, m, I', gD, gJ, gC, hn, n', ra, rv', hl, hq⟩ hkp htk
    refine ⟨H', F', M', acc, vacc, m, inv_two (t' := tk) I' (fun b o h1 h2 e => hkp b o (by simp [h1, h2]) e) gD gJ, gD, gJ, gC, ?_, n', ra, rv', hl, hq⟩
    obtain ⟨o, es, ep, ho, r⟩ := hn
    exact ⟨o, es, ep, hkp C o (by simp [Ne.symm hDC, nCJ]) ho, r⟩
  · rintro i v ys s' hi' hY hSt ⟨H', F', M', acc, vacc, m, I', gD, gJ, gC, hn, n', ra, rv', hl, hq⟩ hPL
    have hi2 : i < ps.length := by simpa using hi'
    obtain ⟨p, hp⟩ : ∃ p, ps[i]? = some p := ⟨ps[i], by simp [hi2]⟩
    have ev : v = Value.ref p := by
      have hY : (ps.map Value.ref).toArray[i]? = some v := hY
      simp [hp] at hY
      exact hY.symm
    subst ev
    have hdr : (ps.map rf).drop i = rf p :: (ps.map rf).drop (i + 1) := by
      have hlt : i < (ps.map rf).length := by simpa using hi2
      rw [List.drop_eq_getElem_cons hlt]
      congr 1
      have e2 : (ps.map rf)[i]? = some (rf p) := by rw [List.getElem?_map, hp]; rfl
      rw [List.getElem?_eq_getElem hlt] at e2
      exact Option.some.inj e2
    rw [hdr] at hq
    obtain ⟨hacc, hq⟩ := hq
    refine wpAny_assign_Name (wpAny_storeName_local hew (by rw [hel]; exact hn) (fun h4 hn4 sb4 => ?_) (by rw [hek]; rfl))
    rw [hel] at hn4 sb4
    have I4 : Inv X pins σ H' { s' with heap := h4, toks := s'.toks + 1 } := I'.turned (t' := s'.toks + 1) (fun b o hb e => (sb4.2 b hb).trans e) gC.1 gC.2.1 gC.2.2.2.1 gC.2.2.2.2.1 gC.2.2.2.2.2
    show wpAny _ _ (testsOf [] ce) _ _ _
    refine wpAny_pure ?_
    rw [if_pos rfl]
    -- what must stay behind the call
    obtain ⟨oC, es, ep, hoC, hrC⟩ := id hn4
    obtain ⟨nD, hoD⟩ := hPL
    obtain ⟨hStJ, hStA⟩ := hSt
    obtain ⟨oJ, hoJ, hrJ⟩ := id hStJ
    have kD := (sb4.2 D hDC).trans hoD
    have kJ : h4.get? J = some oJ := (sb4.2 J (Ne.symm nCJ)).trans hoJ
    have I5 := pin_add (pin_add (pin_add I4 kJ gJ.1 gJ.2.1 gJ.2.2.1 (fun v z => by rw [hrJ.2] at z; cases z)) kD gD.1 gD.2.1 gD.2.2.1 (fun v z => by cases z)) hoC gC.1 gC.2.1 gC.2.2.1 (fun v z => by rw [hrC.1] at z; cases z)
    have rP : Rp X.K F' (rf p) (V.ref p) := Rp.rf.mpr rfl
    obtain ⟨g, gm, gk, hcall⟩ := kind_call (E := notedBy (model X.prog X.w) X.A ce (CompFails (model X.prog X.w) X.A X.xe ce)) (Q := fun v H'' => ∃ F'' M'' x, Nx X.K X.mg F' H' M' F'' H'' M'' ∧ Rp X.K F'' x v ∧ dKsL L bs nk l ρ ((ps.map rf).drop (i + 1)) (acc ++ [x]) M'' fun out M2 => Qd (.list out) M2) T HK HL hr I5 (rs.mono (n1.same.trans n'.same)) n'.ok rP (u := .ref p) rfl hq (fun F'' H'' M'' x v n'' r'' q'' => ⟨F'', M'', x, n'', r'', q''⟩)
    refine wpAny_Call_Name_kw (Calls.Name_function_global hek heg (Calls.loadGlobal_global (by rw [hegl]; exact I5.mod.glob.keeps I5.bk) gm ?_) (by decide))
    refine PySem.W.callWith_K (h₀ := X.base) I5.ok.mod.kin gk ?_ hst' hpl'
    rw [hst']
    show wpAny _ _ (spliced ((false, eval (.Name w p2) ce) :: backTo p3 (starEach [] ce))) _ _ _
    refine Calls.spliced_cons (wpAny_Name (wpAny_loadName_local hek hew (by rw [hel]; exact hn4) (if_pos rfl) ?_) hd)
    have e0 : backTo p3 (starEach [] ce) = [] := rfl
    rw [e0]
    refine Calls.spliced_nil ⟨I5.kIn, ?_⟩
    refine wpAny_mono hcall (fun x s6 hx => ?_) fun _ _ e => e
    obtain ⟨xv, H6, I6, rx, F6, M6, xd, n6, r6, q6⟩ := hx
    have gC6 := I6.pin (C, oC) (List.mem_append_right _ (.head _))
    have gD6 := I6.pin _ (List.mem_append_right _ (.tail _ (.head _)))
    have gJ6 := I6.pin (J, oJ) (List.mem_append_right _ (.tail _ (.tail _ (.head _))))
    refine ⟨⟨H6, F6, M6, acc ++ [xd], vacc ++ [xv], _, pin_drop (pin_drop (pin_drop I6)), ⟨gD6.2.1, gD.2⟩, ⟨gJ6.2.1, gJ.2⟩, ⟨gC6.2.1, gC.2⟩, ⟨oC, es, ep, gC6.1, hrC⟩, n'.trans n6, RpAll.snoc (ra.mono n6.same) r6, rv'.snoc rx, by simp [hl], q6⟩, ⟨⟨oJ, gJ6.1, hrJ⟩, listAt I6 (n'.trans n6)⟩, ⟨nD, gD6.1⟩⟩
  · rintro ys s' ⟨H', F', M', acc, vacc, m, I', gD, gJ, gC, hn, n', ra, rv', hl, hq⟩ ⟨nD, hoD⟩
    refine ⟨m, by rw [hel]; exact hn, fun h6 sb => ?_⟩
    rw [hel] at sb
    have I6 : Inv X pins σ H' { s' with heap := h6 } := I'.turned (t' := s'.toks) (fun b o hb e => (sb.2 b hb).trans e) gC.1 gC.2.1 gC.2.2.2.1 gC.2.2.2.2.1 gC.2.2.2.2.2
    have hdr : (ps.map rf).drop (ps.map Value.ref).toArray.size = [] := List.drop_of_length_le (by simp)
    rw [hdr] at hq
    have hal : acc.length ≤ sizeLine := by rw [hl]; simpa using hz
    refine ⟨.ref D, upd H' D (.lst vacc), Inv.take (s := { s' with heap := h6 }) (h' := h6) (t' := s'.toks) (o := .lst vacc) I6 (fun b ob hb e => e) gD ⟨?_, ys, nD, rv', (sb.2 D hDC).trans hoD⟩, rfl, ?_⟩
    · rw [ra.len]; exact hal
    · exact cq _ _ _ _ _ ((n1.trans n').trans (Nx.new n'.ok gD.1 _)) (Rp.lst.mpr ⟨D, vacc, rfl, SqL.of upd_same, ra.mono (same_upd (n'.ok.fresh gD.1).1)⟩) hq
end
end Nb
set_option Elab.async false
set_option linter.all false
set_option maxRecDepth 100000
set_option maxHeartbeats 4000000
set_option autoImplicit false
namespace Nb
open PySem PySem.Spec PyProof.Rows L2 LamX NdefX

abbrev LamT := Arguments × Expr × Scope × Bool
/-- the words of a frame's lambdas -/
def LamL (X : Cx) (ls : List LamT) : LamI := fun i nf b df => ∃ p s c', ls[i]? = some (p, b, s, df) ∧ nf = lmF X p s c'
theorem lamL_at {X : Cx} {L : LamI} {ls : List LamT} (e : L = LamL X ls) {i : Nat} {p : Arguments} {b : Expr} {s : Scope} {df : Bool} (h : ls[i]? = some (p, b, s, df)) : ∀ c', L i (lmF X p s c') b df := fun c' => by
  rw [e]
  exact ⟨p, s, c', h, rfl⟩
theorem lam_ex {X : Cx} {k : Nat} {ls : List LamT} {bs : LamB} {C : LamI → Prop} (hl : LamsOk X k (LamL X ls) bs) (h : ∀ L, L = LamL X ls → LamsOk X k L bs → C L) : ∃ L, C L := ⟨_, h _ rfl hl⟩
theorem ls0 {a0 : LamT} {l : List LamT} : (a0 :: l)[0]? = some a0 := rfl
theorem ls1 {a0 a1 : LamT} {l : List LamT} : (a0 :: a1 :: l)[1]? = some a1 := rfl
theorem ls2 {a0 a1 a2 : LamT} {l : List LamT} : (a0 :: a1 :: a2 :: l)[2]? = some a2 := rfl
theorem ls3 {a0 a1 a2 a3 : LamT} {l : List LamT} : (a0 :: a1 :: a2 :: a3 :: l)[3]? = some a3 := rfl
theorem ls4 {a0 a1 a2 a3 a4 : LamT} {l : List LamT} : (a0 :: a1 :: a2 :: a3 :: a4 :: l)[4]? = some a4 := rfl
theorem ls5 {a0 a1 a2 a3 a4 a5 : LamT} {l : List LamT} : (a0 :: a1 :: a2 :: a3 :: a4 :: a5 :: l)[5]? = some a5 := rfl
theorem ls6 {a0 a1 a2 a3 a4 a5 a6 : LamT} {l : List LamT} : (a0 :: a1 :: a2 :: a3 :: a4 :: a5 :: a6 :: l)[6]? = some a6 := rfl
theorem ls7 {a0 a1 a2 a3 a4 a5 a6 a7 : LamT} {l : List LamT} : (a0 :: a1 :: a2 :: a3 :: a4 :: a5 :: a6 :: a7 :: l)[7]? = some a7 := rfl
theorem ls8 {a0 a1 a2 a3 a4 a5 a6 a7 a8 : LamT} {l : List LamT} : (a0 :: a1 :: a2 :: a3 :: a4 :: a5 :: a6 :: a7 :: a8 :: l)[8]? = some a8 := rfl
theorem ls9 {a0 a1 a2 a3 a4 a5 a6 a7 a8 a9 : LamT} {l : List LamT} : (a0 :: a1 :: a2 :: a3 :: a4 :: a5 :: a6 :: a7 :: a8 :: a9 :: l)[9]? = some a9 := rfl
inductive LamsP (X : Cx) (k : Nat) : List LamT → LamB → Prop
  | nil : LamsP X k [] []
  | cons {p : Arguments} {b : Expr} {s : Scope} {df : Bool} {n : Nat} {js : List Nat} {fb : DE} {ls : List LamT} {bs : LamB} : (∀ c', LamOk X k (lmF X p s c') b df n js fb) → LamsP X k ls bs → LamsP X k ((p, b, s, df) :: ls) ((n, js, fb) :: bs)
theorem LamsP.at {X : Cx} {k : Nat} {ls : List LamT} {bs : LamB} (h : LamsP X k ls bs) : ∀ {i : Nat} {p : Arguments} {b : Expr} {s : Scope} {df : Bool} {n : Nat} {js : List Nat} {fb : DE}, ls[i]? = some (p, b, s, df) → bs[i]? = some (n, js, fb) → ∀ c', LamOk X k (lmF X p s c') b df n js fb := by
  induction h with
  | nil => intro i p b s df n js fb h1 h2; simp at h1
  | cons h0 _ ih =>
    intro i p b s df n js fb h1 h2
    cases i with
    | zero =>
      simp at h1 h2
      obtain ⟨rfl, rfl, rfl, rfl⟩ := h1
      obtain ⟨rfl, rfl, rfl⟩ := h2
      exact h0
    | succ i => exact ih (by simpa using h1) (by simpa using h2)
theorem LamsP.ok {X : Cx} {k : Nat} {ls : List LamT} {bs : LamB} (h : LamsP X k ls bs) : LamsOk X k (LamL X ls) bs := by
  rintro i nf b df n js fb ⟨p, s, c', h1, rfl⟩ h2
  exact h.at h1 h2 c'
section
variable {X : Cx} {k : Nat} {params : Arguments} {body : Expr} {scope : Scope} {fb : DE}
theorem lamok_0 (N fr : List Str) (js : List Nat) (S : NScope N [] fr scope) (hnf : ndefB X.env.scope scope fr = true)
    (hbody : ∀ (c' f : Addr) (A : Around) (outer : List Env) (s : Shared) (H : Hp) (E : XK), Room k (A.deeper (envF (lmF X params scope c') f s.heap.objs.size)) → EE (ncx (L2.CX X.prog X.w) X.prog X.w X.K X.mg X.base N (lmF X params scope c') f A outer s H E) (wOf E) body fb)
    (hjs : js.map (fun j => X.N[j]?) = fr.map some := by rfl)
    (hb : ∀ (qq : Str) (cl : List (Str × Addr)) (cc doc pm ctv : Value), bindArgs (PySem.W.kdv_fn "<lambda>" qq params (.expr body) scope cl .none doc pm cc ctv) ⟨[], []⟩ = pure [] := by exact fun _ _ _ _ _ _ => rfl) :
    ∀ c', LamOk X k (lmF X params scope c') body false N.length js fb := fun c' =>
  ⟨N, [], fr, rfl, S, .inl ⟨rfl, rfl, fun doc pm ctv => hb _ _ _ _ _ _⟩, fun ok => Caps.made (scope := scope) ok (ndef_free hnf) (ndef_fr hnf) hjs, fun f A outer s H E hr => hbody c' f A outer s H E hr⟩
theorem lamok_1 (N fr : List Str) (a : Str) (js : List Nat) (S : NScope N [a] fr scope) (hnf : ndefB X.env.scope scope fr = true)
    (hbody : ∀ (c' f : Addr) (A : Around) (outer : List Env) (s : Shared) (H : Hp) (E : XK), Room k (A.deeper (envF (lmF X params scope c') f s.heap.objs.size)) → EE (ncx (L2.CX X.prog X.w) X.prog X.w X.K X.mg X.base N (lmF X params scope c') f A outer s H E) (wOf E) body fb)
    (hjs : js.map (fun j => X.N[j]?) = fr.map some := by rfl)
    (hb : ∀ (qq : Str) (cl : List (Str × Addr)) (T : Addr) (cc doc pm ctv : Value), ∃ kk : Option (Array Value) → Sem (List (Str × Value)), bindArgs (PySem.W.kdv_fn "<lambda>" qq params (.expr body) scope cl (.ref T) doc pm cc ctv) ⟨[], []⟩ = seqItems? (.ref T) >>= kk ∧ ∀ u, kk (some #[u]) = pure [(a, u)] := by exact fun _ _ _ _ _ _ _ => ⟨_, rfl, fun _ => rfl⟩) :
    ∀ c', LamOk X k (lmF X params scope c') body true N.length js fb := fun c' =>
  ⟨N, [a], fr, rfl, S, .inr ⟨rfl, a, rfl, fun T doc pm ctv => hb _ _ T _ _ _ _⟩, fun ok => Caps.made (scope := scope) ok (ndef_free hnf) (ndef_fr hnf) hjs, fun f A outer s H E hr => hbody c' f A outer s H E hr⟩
end
section
variable {P : Program} {w : World} {K : PySem.W.Frag} {mg : Str → Option Value} {base : Heap}
/-- a def that makes lambdas and keeps them as values -/
theorem dfnL_gc {x qual : Str} {st : Stmt} {f c : Addr} {fd : FuncData} {N ps : List Str} {k : Nat} {s : DSp} (fb : LamI → DS) (Fn : FunC K x qual st f fd c) (S : FnScope N ps (defScope st)) (len : ∀ ds M Q E, s ds M Q E → ds.length = ps.length)
    (hb : ∀ (A : Around) (outer : List Env) (s0 : Shared) (H : Hp) (E : XK), Room k (A.deeper (envOfC qual (defScope st) s0.heap.objs.size f (.ref c))) →
      ∃ L, SS (cxOf (L2.CX P w) P w K mg base N qual (defScope st) f (.ref c) A outer s0 H E) (wOf E) (defBody st) (fb L))
    (hp : ∀ L ds M Qd Ed, s ds M Qd Ed → fb L (endsOf (fun d M' => Qd d (clip M M')) (fun x M' => Ed x (clip M M'))) (startD N.length ds) M) : FnOk P w K mg base (L2.CX P w) (k + 1) f fd ps (LSp K mg s) := by
  obtain ⟨oc, od, kV, doc, pm, an, ct, osl, rfl, lk, hcd⟩ := Fn.ex
  refine fn_of lk hcd S (fun vs H Q E h => ?_) fun A outer s0 H vs Q E hr h => ⟨LS K mg (wOf E) (fb (hb A outer s0 H E hr).choose), (hb A outer s0 H E hr).choose_spec.h, ?_⟩
  · obtain ⟨F, M, ds, Qd, Ed, rv, rp, hs, _⟩ := h
    rw [rv.len]
    exact len _ _ _ _ hs
  · obtain ⟨F, M, ds, Qd, Ed, rv, rp, hs, cq, cx⟩ := h
    refine ⟨F, M, _, _, start_ok rv, rp, hp _ ds M Qd Ed hs, ?_⟩
    have ls : ∀ {F' H' M'}, Nx K mg F H M F' H' M' → Nx K mg F H M F' H' (clip M M') := fun n => n.trans (Nx.less n.ok clip_less)
    exact ⟨fun F' H' M' ρ σ n rs q => cq F' H' _ .none .non (ls n) (Rp.non.mpr rfl) q, fun F' H' M' d v n r q => cq F' H' _ d v (ls n) r q, fun _ _ _ _ _ _ _ q => q.elim, fun _ _ _ _ _ _ _ q => q.elim, fun F' H' M' ρ σ x' c dd n rs rx q => cx F' H' _ x' c dd (ls n) rx q⟩
end
/-- the end of a law that makes lambdas itself, beside another def -/
theorem law_endL2 {l : PySem.W.OpenLaw} {w : World} {K : PySem.W.Frag} {h : Heap} {mg : Str → Option Value} {fa f cc : Addr} {x : Str} {st : Stmt} {p : Str} {k : Nat} {s : DSp} {oc : Value} {od an : Option Addr} {osl : Array (Option Value)} {kV doc pm ct : Value} (P c2 P2 : Addr) (M0 : Mem) (X : K.In h) (G : h.Ns mainGlobals mg)
    (hM0 : ∀ a mo, M0 a = some mo → ∃ q, mo = .tab q ∧ (a = P ∨ a = P2)) (hs : ∀ (ns : List Int) (Q : DQ) (E : XQ), ns.length ≤ 63 → (∀ M', Q (.bool true) M') → s [.list (ns.map PyData.int)] M0 Q E) (hfa : mg x = some (.ref fa)) (b : BindOk x x st [p])
    (a : PySem.W.nsIn K mainGlobals x = some (some (.ref f))) (lk : K.lookup f = some ⟨oc, od, .func (PySem.W.fnOf x x (defArgs st) (defBody st) (defScope st) .none kV doc pm an (.ref cc) ct), osl⟩)
    (c : PySem.W.codeIn K (.ref cc) x = true) (kp : PySem.W.keepIn K (.ref f) = true) (hT : h.get? P = some { cls := .none, data := .fields #[] }) (nT : K.lookup P = none) (hC : PySem.W.CodeHd h cc P)
    (hT2 : h.get? P2 = some { cls := .none, data := .fields #[] }) (nT2 : K.lookup P2 = none) (hC2 : PySem.W.CodeHd h c2 P2)
    (ok : ∀ (base : Heap), TabB base mg cc P → TabB base mg c2 P2 → ∀ (f : Addr) (fd : FuncData), FunC K x x st f fd cc → FnOk l.prog w K mg base (L2.CX l.prog w) k f fd [p] (LSp K mg s)) :
    LawAtS l w K (L2.CX l.prog w) k 63 p mg fa h := by
  have two : ∀ {φ : Addr × Addr → Prop}, φ (cc, P) → φ (c2, P2) → ∀ q ∈ [(cc, P), (c2, P2)], φ q := fun {φ} h1 h2 q hq => by
    rcases List.mem_cons.mp hq with z | z
    · rw [z]; exact h1
    · rw [List.mem_singleton.mp z]; exact h2
  exact law_endL [(cc, P), (c2, P2)] M0 X G (fun a mo e => let ⟨q, h1, h2⟩ := hM0 a mo e; ⟨q, h1, by rcases h2 with z | z <;> (rw [z]; simp)⟩) hs hfa b a lk c kp (two hT hT2) (two nT nT2) (two hC hC2)
    fun base TB => ok base (TB (cc, P) (by simp)) (TB (c2, P2) (by simp))
end Nb
set_option Elab.async false
set_option linter.all false
set_option maxRecDepth 100000
set_option maxHeartbeats 4000000
set_option autoImplicit false
namespace Nb
open PySem PySem.Spec PyProof.Rows L2 LamX NdefX
/-! ### a def that tells a live list: the rest is let go -/
def refOf : Dat → Option Nat
  | .dict [(.int (Int.ofNat p), .none)] => some p
  | _ => none
@[simp] theorem refOf_rf (p : Nat) : refOf (rf p) = some p := rfl
/-- the answer's list stays -/
def clipR (M0 : Mem) (d : Dat) (M : Mem) : Mem := fun a => if refOf d = some a then M a else clip M0 M a
theorem clipR_less {M0 M : Mem} {d : Dat} : ∀ a mo, clipR M0 d M a = some mo → M a = some mo := fun a mo h => by
  unfold clipR at h
  split at h
  · exact h
  · exact clip_less a mo h
theorem clipR_rf {M0 M : Mem} {p : Nat} {mo : MO} (h : M p = some mo) : clipR M0 (rf p) M = mup (clip M0 M) p mo := by
  funext a
  unfold clipR mup
  by_cases z : a = p
  · subst z; simp [h]
  · have : ¬ p = a := fun e => z e.symm
    simp [z, this]
/-- the answer's list stays, and the lists in it -/
def clipR2 (M0 : Mem) (d : Dat) (M : Mem) : Mem := fun a => if (refOf d = some a ∨ ((refOf d).bind fun p => match M p with | some (.lst ds) => some (ds.any fun x => refOf x == some a) | _ => none) = some true) then M a else clip M0 M a
theorem clipR2_less {M0 M : Mem} {d : Dat} : ∀ a mo, clipR2 M0 d M a = some mo → M a = some mo := fun a mo h => by
  unfold clipR2 at h
  split at h
  · exact h
  · exact clip_less a mo h
section
variable {P : Program} {w : World} {K : PySem.W.Frag} {mg : Str → Option Value} {base : Heap}
theorem dfnK_gc (ck : Mem → Dat → Mem → Mem) (hck : ∀ M0 d M a mo, ck M0 d M a = some mo → M a = some mo) {x qual : Str} {st : Stmt} {f : Addr} {fd : FuncData} {N ps : List Str} {k : Nat} {s : DSp} (fb : DS) (Fn : Fun K x qual st f fd) (S : FnScope N ps (defScope st)) (len : ∀ ds M Q E, s ds M Q E → ds.length = ps.length)
    (hb : ∀ (cdv : Value) (A : Around) (outer : List Env) (s0 : Shared) (H : Hp) (E : XK), Room k (A.deeper (envOfC qual (defScope st) s0.heap.objs.size f cdv)) →
      SS (cxOf (L2.CX P w) P w K mg base N qual (defScope st) f cdv A outer s0 H E) (wOf E) (defBody st) fb)
    (hp : ∀ ds M Qd Ed, s ds M Qd Ed → fb (endsOf (fun d M' => Qd d (ck M d M')) (fun x M' => Ed x (clip M M'))) (startD N.length ds) M) : FnOk P w K mg base (L2.CX P w) (k + 1) f fd ps (LSp K mg s) := by
  refine Fn.okX S (fun vs H Q E h => ?_) (fun cdv A outer s0 H vs Q E hr h => ⟨LS K mg (wOf E) fb, (hb cdv A outer s0 H E hr).h, ?_⟩)
  · obtain ⟨F, M, ds, Qd, Ed, rv, rp, hs, _⟩ := h
    rw [rv.len]
    exact len _ _ _ _ hs
  · obtain ⟨F, M, ds, Qd, Ed, rv, rp, hs, cq, cx⟩ := h
    refine ⟨F, M, _, _, start_ok rv, rp, hp ds M Qd Ed hs, ?_⟩
    have ls : ∀ {F' H' M'}, Nx K mg F H M F' H' M' → Nx K mg F H M F' H' (clip M M') := fun n => n.trans (Nx.less n.ok clip_less)
    have lk : ∀ {F' H' M'} (d : Dat), Nx K mg F H M F' H' M' → Nx K mg F H M F' H' (ck M d M') := fun d n => n.trans (Nx.less n.ok (hck M d _))
    exact ⟨fun F' H' M' ρ σ n rs q => cq F' H' _ .none .non (lk _ n) (Rp.non.mpr rfl) q, fun F' H' M' d v n r q => cq F' H' _ d v (lk d n) r q, fun _ _ _ _ _ _ _ q => q.elim, fun _ _ _ _ _ _ _ q => q.elim, fun F' H' M' ρ σ x' c dd n rs rx q => cx F' H' _ x' c dd (ls n) rx q⟩
theorem dfnR_gc {x qual : Str} {st : Stmt} {f : Addr} {fd : FuncData} {N ps : List Str} {k : Nat} {s : DSp} (fb : DS) (Fn : Fun K x qual st f fd) (S : FnScope N ps (defScope st)) (len : ∀ ds M Q E, s ds M Q E → ds.length = ps.length)
    (hb : ∀ (cdv : Value) (A : Around) (outer : List Env) (s0 : Shared) (H : Hp) (E : XK), Room k (A.deeper (envOfC qual (defScope st) s0.heap.objs.size f cdv)) →
      SS (cxOf (L2.CX P w) P w K mg base N qual (defScope st) f cdv A outer s0 H E) (wOf E) (defBody st) fb)
    (hp : ∀ ds M Qd Ed, s ds M Qd Ed → fb (endsOf (fun d M' => Qd d (clipR M d M')) (fun x M' => Ed x (clip M M'))) (startD N.length ds) M) : FnOk P w K mg base (L2.CX P w) (k + 1) f fd ps (LSp K mg s) :=
  dfnK_gc clipR (fun _ _ _ => clipR_less) fb Fn S len hb hp
theorem dfnR2_gc {x qual : Str} {st : Stmt} {f : Addr} {fd : FuncData} {N ps : List Str} {k : Nat} {s : DSp} (fb : DS) (Fn : Fun K x qual st f fd) (S : FnScope N ps (defScope st)) (len : ∀ ds M Q E, s ds M Q E → ds.length = ps.length)
    (hb : ∀ (cdv : Value) (A : Around) (outer : List Env) (s0 : Shared) (H : Hp) (E : XK), Room k (A.deeper (envOfC qual (defScope st) s0.heap.objs.size f cdv)) →
      SS (cxOf (L2.CX P w) P w K mg base N qual (defScope st) f cdv A outer s0 H E) (wOf E) (defBody st) fb)
    (hp : ∀ ds M Qd Ed, s ds M Qd Ed → fb (endsOf (fun d M' => Qd d (clipR2 M d M')) (fun x M' => Ed x (clip M M'))) (startD N.length ds) M) : FnOk P w K mg base (L2.CX P w) (k + 1) f fd ps (LSp K mg s) :=
  dfnK_gc clipR2 (fun _ _ _ => clipR2_less) fb Fn S len hb hp
end
end Nb
set_option Elab.async false
set_option linter.all false
set_option maxRecDepth 100000
set_option maxHeartbeats 1000000
set_option autoImplicit false
namespace Nb
open PySem PySem.Spec PyProof.Rows L2
def tabP : Nat := 157
def tabL : Nat := 2
end Nb
set_option Elab.async false
set_option linter.all false
set_option maxRecDepth 100000
set_option maxHeartbeats 2000000
set_option autoImplicit false
namespace Nb
open PySem PySem.Spec PyProof.Rows L2
/-! ### sorted(l), a list of lists of ints -/
def intsD (l : List Int) : Dat := .list (l.map PyData.int)
def sortLL (ls : List (List Int)) : List (List Int) := ls.mergeSort (PySem.W.dataLe false intsD)
def gSortedLL : DRL := fun ds M Q => ∃ ls : List (List Int), ds = [.list (ls.map intsD)] ∧ Q (.list ((sortLL ls).map intsD)) M
theorem intsD_depth (l : List Int) : (intsD l).depth ≤ 1 := by
  unfold intsD
  show PyData.depth (.list (l.map PyData.int)) ≤ 1
  rw [PyData.depth, PySem.W.depth_ints]
  exact Nat.le_refl _
theorem intsD_sh (l : List Int) : SeqAt.shaped (intsD l) = true := by
  have : sh 1 (intsD l) := sh_list (n := 0) fun x hx => by
    obtain ⟨i, _, rfl⟩ := List.mem_map.mp hx
    exact sh_int 0 i
  exact this.shaped (by decide)
theorem each_of {K : PySem.W.Frag} {F : Hp} : ∀ {ls : List (List Int)} {vs : List V} {us : List Value}, RpAll K F (ls.map intsD) vs → Vals vs us → PySem.W.EachIs (fun u l => ∃ v, RelV v u ∧ Rp K F (intsD l) v) us ls
  | [], _, _, r, t => by
    cases r
    cases t
    exact .nil
  | l :: ls, vs, us, r, t => by
    obtain ⟨v, vs', rfl, r1, r2⟩ := r.inv
    cases t with
    | cons t1 t2 => exact .cons ⟨v, t1, r1⟩ (each_of r2 t2)
theorem of_each {K : PySem.W.Frag} {F : Hp} : ∀ {ls : List (List Int)} {us : List Value}, PySem.W.EachIs (fun u l => ∃ v, RelV v u ∧ Rp K F (intsD l) v) us ls → ∃ vs, RpAll K F (ls.map intsD) vs ∧ Vals vs us
  | _, _, .nil => ⟨[], .nil, .nil⟩
  | _, _, .cons ⟨v, t1, r1⟩ t => by
    obtain ⟨vs, r, t'⟩ := of_each t
    exact ⟨v :: vs, .cons r1 r, .cons t1 t'⟩
section
variable {X : Cx}
theorem cg_sortedLL (hu : X.A.units + 64 < cLine) : CallR X (.builtin "sorted") (LRL X.K X.mg gSortedLL) := by
  rintro pins s σ H xs us Q I r ⟨F, M, ds, Qd, rd, rp, ⟨ls, rfl, hg⟩, cq⟩
  obtain ⟨v, rfl, h1⟩ := rd.one
  obtain ⟨p, vs, rfl, hF, t⟩ := Rp.lst.mp h1
  have hs := rp.sub.seq hF
  obtain ⟨its, rv, hl, hz⟩ := I.list hs
  rw [Vals.ref1 r]
  have e := each_of t rv
  have hn : ls.length = its.length := by rw [e.length]
  have hz2 : its.length ≤ sizeLine := by rw [← rv.length]; exact hz
  have er : PySem.W.EachIs (fun u l => ∃ as, Reads s.heap u (intsD l) as) its ls := (PySem.W.each_mem e).mono fun u l ⟨⟨v, rv', rp'⟩, hm⟩ => Dp.reads I _ v u (Rp.plain rp' rp (intsD_sh l)) rv'
  refine PySem.W.sorted_data hl.isList e er (PySem.W.AllAlike.of fun b b' => by show PySem.W.alike (.list _) (.list _) = true; rw [PySem.W.alike]; exact PySem.W.alike_ints _ _) (PySem.W.Sortable.others fun b => (⟨(fun z => by cases z), (fun xs z => by cases z)⟩ : intsD b ≠ .none ∧ ∀ xs, intsD b ≠ .tuple xs)) (by rw [hn]; exact hz2) (fun b _ => by have := intsD_depth b; omega) fun out ho eo => ?_
  obtain ⟨vs', ra', tv'⟩ := of_each eo
  obtain ⟨ep, he'⟩ := PyProof.Rows.sortedAll_at s.heap its out.toArray
  have hlen : vs'.length ≤ sizeLine := by
    rw [tv'.length, ho, hn]
    exact hz2
  exact ⟨.ref _, upd H (s.heap.objs.size + 1) (.lst vs'), I.laid (t' := s.toks) (fun _ _ => PyProof.Rows.sortedAll_old) (Nat.le_succ _) ⟨hlen, out, ep, tv', he'⟩, rfl, cq.lst rp ra' hg _ (I.hok.fresh (Nat.le_succ _))⟩
end
end Nb
set_option Elab.async false
set_option linter.all false
set_option maxRecDepth 100000
set_option maxHeartbeats 1000000
set_option autoImplicit false
namespace Nb
open PySem PySem.Spec PyProof.Rows L2
abbrev tabQ : Str := ("Task.way" : Str) ++ ".<locals>." ++ "<lambda>"
abbrev tabLQ : Str := ("law" : Str) ++ ".<locals>." ++ "<lambda>"
def L_Task : List Str := ["boxes", "wanted", "holders", "some"]
def price (y : List Bx) (i : Nat) : Option Int := (y[i]?).bind (·.1)
def someL (y : List Bx) (g : Hld) : List Nat := (List.range y.length).filter fun i => decide ((hold y)[i]? ≠ g[i]?)
def mayB (y : List Bx) (g : Hld) : Bool := (someL y g).all fun i => (price y i).isSome
def costI (y : List Bx) (g : Hld) : Int := ((someL y g).map fun i => (price y i).getD 0).sum
def taskF (y : List Bx) (g : Hld) : List Dat := [yd y, hD g, hD (hold y), .list (nD (someL y g))]
def StOk (st : List Dat) : Prop := ∃ (ns : List Int) (c m r : Int), st = [.list (ns.map PyData.int), .int c, .int m, .int r] ∧ 0 ≤ c ∧ ns.length ≤ 63
def ix : List Nat → Nat → Nat
  | [], _ => 0
  | a :: l, i => if a = i then 0 else ix l i + 1
theorem ix_at {l : List Nat} {i : Nat} (h : i ∈ l) : l[ix l i]? = some i := by
  induction l with
  | nil => cases h
  | cons a l ih =>
    by_cases z : a = i
    · simp [ix, z]
    · simp [ix, z]
      exact ih (by simpa [Ne.symm z] using h)
theorem ix_first {l : List Nat} {i m x : Nat} (hm : m < ix l i) (h : l[m]? = some x) : x ≠ i := by
  induction l generalizing m with
  | nil => simp at h
  | cons a l ih =>
    by_cases z : a = i
    · simp [ix, z] at hm
    · simp [ix, z] at hm
      cases m with
      | zero => simp at h; exact fun e => z (h.trans e)
      | succ m => exact ih (m := m) (by omega) (by simpa using h)
def rgo (h : Hld) : Nat → List Nat → Option Nat → List Nat
  | 0, _, _ => []
  | _ + 1, _, none => []
  | n + 1, path, some i => if i ∈ path then path.drop (ix path i) else rgo h n (path ++ [i]) ((h[i]?).join)
def ringFrom (h : Hld) (b : Nat) : List Nat := rgo h (h.length + 1) [] (some b)
/-- all that is named is there -/
def Bnd (h : Hld) : Prop := ∀ (i j : Nat), h[i]? = some (some j) → j < h.length
theorem Acy.bnd {h : Hld} (a : Acy h) : Bnd h := fun i j e => a.lt (i := i) (j := j) e
theorem rgo_ch {h : Hld} {o : Option Nat} {l : List Nat} (c : Ch h o l) : ∀ (n : Nat) (path : List Nat), (path ++ l).Nodup → rgo h n path o = [] := by
  induction c with
  | nil => intro n path _; cases n <;> rfl
  | @cons i o l e c ih =>
    intro n path nd
    cases n with
    | zero => rfl
    | succ n =>
      have hn : i ∉ path := fun z => (List.nodup_append.mp nd).2.2 i z i (by simp) rfl
      simp [rgo, hn, e]
      exact ih n (path ++ [i]) (by simpa using nd)
theorem ring_acy {h : Hld} (a : Acy h) {b : Nat} (hb : b < h.length) : ringFrom h b = [] := by
  obtain ⟨l, c⟩ := a b hb
  exact rgo_ch c _ [] (by simpa using c.nodup)
def topOf (y : List Bx) (l : List Nat) : Option Nat := l.find? fun i => (price y i).isSome
def upOf (h : Hld) : Nat → Option Nat → List Nat
  | 0, _ => []
  | _ + 1, none => []
  | n + 1, some i => i :: upOf h n (h[i]?.join)
theorem Ch.up {h : Hld} {o : Option Nat} {l : List Nat} (c : Ch h o l) : ∀ n, l.length ≤ n → upOf h n o = l := by
  induction c with
  | nil => intro n hn; cases n <;> rfl
  | cons e c ih =>
    intro n hn
    cases n with
    | zero => simp at hn
    | succ n =>
      simp at hn
      simp [upOf, e, ih n hn]
def staysB (y : List Bx) (i : Nat) : Bool := (upOf (hold y) y.length (some i)).all fun j => !(price y j).isSome
def freeN (y : List Bx) : Nat := (y.filter fun b => b.1.isSome).length
def staysN (y : List Bx) : Nat := ((List.range y.length).filter fun i => staysB y i).length
def reachI (y : List Bx) : Int := if freeN y = 0 then 1 else ((1 + staysN y : Nat) : Int) * ((y.length + 1 : Nat) : Int) ^ (freeN y - 1)
/-! ### values of any sort -/
def plnB : Dat → Bool
  | .dict _ => false
  | _ => true
def numB : Dat → Int → Int → Bool
  | .int i, lo, hi => decide (lo ≤ i ∧ i ≤ hi)
  | _, _, _ => false
def holB (d : Dat) (n : Int) : Bool := isNon d || numB d 0 (n - 1)
@[simp] theorem pln_int (i : Int) : plnB (.int i) = true := rfl
@[simp] theorem pln_od (o : Option Nat) : plnB (od o) = true := by cases o <;> rfl
@[simp] theorem pln_op (o : Option Int) : plnB (op o) = true := by cases o <;> rfl
@[simp] theorem num_int (i lo hi : Int) : numB (.int i) lo hi = decide (lo ≤ i ∧ i ≤ hi) := rfl
@[simp] theorem hol_od (o : Option Nat) (n : Int) : holB (od o) n = hoB o n := by
  cases o with
  | none => rfl
  | some k => simp [holB, od, isNon, hoB]
def prD (d : Dat) : Bool := isNon d || numB d 1 99
@[simp] theorem prD_op (o : Option Int) : prD (op o) = prB o := by
  cases o with
  | none => rfl
  | some k => simp [prD, op, isNon, prB]
@[simp] theorem pln_str (x : Str) : plnB (.str x) = true := rfl
@[simp] theorem pln_none : plnB .none = true := rfl
@[simp] theorem pln_bool (b : Bool) : plnB (.bool b) = true := rfl
@[simp] theorem pln_tup (l : List Dat) : plnB (.tuple l) = true := rfl
@[simp] theorem pln_list (l : List Dat) : plnB (.list l) = true := rfl
def numX (c : Str) (n : Int) : DX := ⟨c, ["number"], [.int n]⟩
def X0 (c : Str) : DX := ⟨c, [], []⟩
/-- the first box that is in itself -/
def selfOf (h : Hld) : Option Nat := (List.range h.length).find? fun b => decide (b ∈ ringFrom h b)
def isTupD : Dat → Bool
  | .tuple _ => true
  | _ => false
def isLstD : Dat → Bool
  | .list _ => true
  | _ => false
/-- a box, among so many -/
def boxB (d : Dat) (n : Int) : Bool := match d with
  | .tuple [p, h] => prD p && holB h n
  | _ => false
def badBox (l : List Dat) : Option Nat := (List.range l.length).find? fun k => decide (k = 12) || !boxB ((l[k]?).getD .none) (l.length : Int)
def PlBox (x : Dat) : Prop := plnB x = true ∧ ∀ l, x = .tuple l → l.length ≤ 1000 ∧ ∀ z ∈ l, plnB z = true
/-- what is no yard, and its first that can't be -/
def BadY (d : Dat) (n : Nat) : Prop := (n = 0 ∧ plnB d = true ∧ isTupD d = false) ∨ (n = 0 ∧ d = .tuple []) ∨
  (∃ l, d = .tuple l ∧ l ≠ [] ∧ l.length ≤ 100000 ∧ SeqAt.shaped d = true ∧ (∀ x ∈ l, PlBox x) ∧ badBox l = some n) ∨
  (∃ y, d = yd y ∧ 0 < y.length ∧ y.length ≤ 12 ∧ (∀ b ∈ y, prB b.1 = true ∧ hoB b.2 (y.length : Int) = true) ∧ selfOf (hold y) = some n)
def badHol (m : Nat) (l : List Dat) : Option Nat := (List.range l.length).find? fun k => decide (k = m) || !holB ((l[k]?).getD .none) (m : Int)
def BadG (m : Nat) (d : Dat) (n : Nat) : Prop := (n = 0 ∧ plnB d = true ∧ isTupD d = false) ∨
  (∃ l, d = .tuple l ∧ l.length ≤ 1000 ∧ (∀ x ∈ l, plnB x = true) ∧ (badHol m l = some n ∨ (badHol m l = none ∧ l.length < m ∧ n = l.length))) ∨
  (∃ g : Hld, d = hD g ∧ g.length = m ∧ Bnd g ∧ selfOf g = some n)
def opnB : Dat → Bool
  | .str x => x == "open"
  | _ => false
def badWsh (m : Nat) (l : List Dat) : Option Nat := (List.range l.length).find? fun k => decide (k = m) || !(opnB ((l[k]?).getD .none) || holB ((l[k]?).getD .none) (m : Int))
def BadW (m : Nat) (d : Dat) (n : Nat) : Prop := (n = 0 ∧ plnB d = true ∧ isTupD d = false) ∨
  (∃ l, d = .tuple l ∧ l.length ≤ 1000 ∧ (∀ x ∈ l, plnB x = true ∧ (∀ z, x = .str z → SeqAt.shaped x = true)) ∧ (badWsh m l = some n ∨ (badWsh m l = none ∧ l.length < m ∧ n = l.length)))
/-! ### yards.py -/
def sp_is_number : DSp := fun ds M Q _ => ∃ (a : Dat) (lo hi : Int), ds = [a, .int lo, .int hi] ∧ plnB a = true ∧ Q (.bool (numB a lo hi)) M
def sp_is_holder : DSp := fun ds M Q _ => ∃ (a : Dat) (n : Int), ds = [a, .int n] ∧ plnB a = true ∧ Q (.bool (holB a n)) M
def sp_is_price : DSp := fun ds M Q _ => ∃ a : Dat, ds = [a] ∧ plnB a = true ∧ Q (.bool (prD a)) M
def sp_holders_of : DSp := fun ds M Q _ => ∃ y, ds = [yd y] ∧ y.length ≤ 12 ∧ Q (hD (hold y)) M
def sp_ring_from : DSp := fun ds M Q _ => ∃ (h : Hld) (b : Nat), ds = [hD h, .int (b : Int)] ∧ Bnd h ∧ h.length ≤ 12 ∧ b < h.length ∧ Q (.list (nD (ringFrom h b))) M
def sp_first_in_itself : DSp := fun ds M Q _ => ∃ (h : Hld), ds = [hD h] ∧ Bnd h ∧ h.length ≤ 12 ∧ Q (od (selfOf h)) M
def sp_need_yard : DSp := fun ds M Q E => (∃ y, ds = [yd y] ∧ Yok y ∧ Q .none M) ∨ (∃ d n, ds = [d] ∧ BadY d n ∧ E (numX "BadYard" (n : Int)) M)
def sp_need_goal : DSp := fun ds M Q E => (∃ (y : List Bx) (g : Hld), ds = [yd y, hD g] ∧ y.length ≤ 12 ∧ g.length = y.length ∧ Acy g ∧ Q .none M) ∨ (∃ (y : List Bx) (d : Dat) (n : Nat), ds = [yd y, d] ∧ y.length ≤ 12 ∧ BadG y.length d n ∧ E (numX "BadGoal" (n : Int)) M)
def sp_need_box : DSp := fun ds M Q E => (∃ (y : List Bx) (k : Nat), ds = [yd y, .int (k : Int)] ∧ y.length ≤ 12 ∧ k < y.length ∧ Q .none M) ∨ (∃ (y : List Bx) (d : Dat), ds = [yd y, d] ∧ y.length ≤ 12 ∧ plnB d = true ∧ numB d 0 ((y.length : Int) - 1) = false ∧ E (X0 "NoBox") M)
def sp_chain_of : DSp := fun ds M Q _ => ∃ (h : Hld) (b : Nat) (o : Option Nat) (l : List Nat), ds = [hD h, .int (b : Int)] ∧ h.length ≤ 12 ∧ h[b]? = some o ∧ Ch h o l ∧ Q (.list (nD l)) M
def sp_chain_ofL : DSp := fun ds M Q _ => ∃ (h : Hld) (b : Nat) (o : Option Nat) (l : List Nat), ds = [hD h, .int (b : Int)] ∧ h.length ≤ 12 ∧ h[b]? = some o ∧ Ch h o l ∧ ∀ p, M p = none → Q (rf p) (mup M p (.lst (nD l)))
/-- the holders above a box -/
def chI (y : List Bx) (k : Nat) : List Nat := upOf (hold y) y.length (((hold y)[k]?).join)
def inI (y : List Bx) (k : Nat) : List Nat := (List.range y.length).filter fun i => decide (k ∈ chI y i)
def dpI (y : List Bx) : List Nat := (List.range y.length).map fun i => (chI y i).length
/-- what is refused ahead: no yard, or no box -/
def badYB (ds : List Dat) (M : Mem) (E : XQ) : Prop := (∃ d n a, ds = [d, a] ∧ BadY d n ∧ E (numX "BadYard" (n : Int)) M) ∨ (∃ (y : List Bx) (a : Dat), ds = [yd y, a] ∧ Yok y ∧ plnB a = true ∧ numB a 0 ((y.length : Int) - 1) = false ∧ E (X0 "NoBox") M)
def sp_chain : DSp := fun ds M Q E => (∃ (y : List Bx) (k : Nat), ds = [yd y, .int (k : Int)] ∧ Yok y ∧ k < y.length ∧ Q (.list (nD (chI y k))) M) ∨ badYB ds M E
def sp_chainL : DSp := fun ds M Q E => (∃ (y : List Bx) (k : Nat), ds = [yd y, .int (k : Int)] ∧ Yok y ∧ k < y.length ∧ ∀ p, M p = none → Q (rf p) (mup M p (.lst (nD (chI y k))))) ∨ badYB ds M E
def sp_inside : DSp := fun ds M Q E => (∃ (y : List Bx) (k : Nat), ds = [yd y, .int (k : Int)] ∧ Yok y ∧ k < y.length ∧ Q (.list (nD (inI y k))) M) ∨ badYB ds M E
def sp_insideL : DSp := fun ds M Q E => (∃ (y : List Bx) (k : Nat), ds = [yd y, .int (k : Int)] ∧ Yok y ∧ k < y.length ∧ ∀ p, M p = none → Q (rf p) (mup M p (.lst (nD (inI y k))))) ∨ badYB ds M E
def sp_depths : DSp := fun ds M Q E => (∃ (y : List Bx), ds = [yd y] ∧ Yok y ∧ Q (.list (nD (dpI y))) M) ∨ (∃ d n, ds = [d] ∧ BadY d n ∧ E (numX "BadYard" (n : Int)) M)
def sp_depthsL : DSp := fun ds M Q E => (∃ (y : List Bx), ds = [yd y] ∧ Yok y ∧ ∀ p, M p = none → Q (rf p) (mup M p (.lst (nD (dpI y))))) ∨ (∃ d n, ds = [d] ∧ BadY d n ∧ E (numX "BadYard" (n : Int)) M)
/-! ### moves.py -/
def sp_is_under : DSp := fun ds M Q _ => ∃ (h : Hld) (b : Nat) (o : Option Nat), ds = [hD h, .int (b : Int), od o] ∧ h.length ≤ 12 ∧ Acy h ∧ (∀ k, o = some k → k < h.length) ∧ Q (.bool (decide (b ∈ upOf h h.length o))) M
def sp_placed : DSp := fun ds M Q _ => ∃ (h : Hld) (b : Nat) (o : Option Nat), ds = [hD h, .int (b : Int), od o] ∧ h.length ≤ 12 ∧ b < h.length ∧ Q (hD (h.set b o)) M
/-! ### moves of any sort -/
def AOk (a : Dat) : Prop := (∃ i, a = .int i) ∨ a = .none ∨ a = .bool true ∨ a = .str "0" ∨ a = .str "floor"
def MvOk (d : Dat) : Prop := ∃ l : List Dat, (d = .list l ∨ d = .tuple l) ∧ l.length ≤ 3 ∧ ∀ a ∈ l, AOk a
def toN : Dat → Nat
  | .int i => i.toNat
  | _ => 0
def toO : Dat → Option Nat
  | .int i => some i.toNat
  | _ => none
def whyA (y : List Bx) (h : Hld) (a b : Dat) : Str :=
  if numB a 0 ((y.length : Int) - 1) = false then "form" else if holB b (y.length : Int) = false then "form" else if price y (toN a) = none then "price" else if h[toN a]? = some (toO b) then "there" else if toN a ∈ upOf h h.length (toO b) then "inside" else ""
def whyOf (y : List Bx) (h : Hld) : Dat → Str
  | .tuple [a, b] => whyA y h a b
  | _ => "form"
def whyD (w : Str) : Dat := if w = "" then .none else .str w
def mvH (h : Hld) : Dat → Hld
  | .tuple [a, b] => h.set (toN a) (toO b)
  | _ => h
def mvP (y : List Bx) : Dat → Int
  | .tuple [a, _] => (price y (toN a)).getD 0
  | _ => 0
def runB (y : List Bx) : List Dat → Nat → Hld → Int → (Nat × Str) ⊕ (Hld × Int)
  | [], _, h, t => .inr (h, t)
  | m :: ms, n, h, t => if whyOf y h m = "" then runB y ms (n + 1) (mvH h m) (t + mvP y m) else .inl (n, whyOf y h m)
def badX (n : Int) (w : Str) : DX := ⟨"BadMove", ["why", "number"], [.str w, .int n]⟩
def badD (n : Int) (w : Str) : Dat := .tuple [.str "BadMove", .int n, .str w]
def sp_fault_of : DSp := fun ds M Q _ => ∃ (y : List Bx) (h : Hld) (m : Dat), ds = [yd y, hD h, m] ∧ y.length ≤ 12 ∧ h.length = y.length ∧ Acy h ∧ MvOk m ∧ Q (whyD (whyOf y h m)) M
def sp__law_why : DSp := fun ds M Q _ => ∃ (y : List Bx) (h : Hld) (m : Dat), ds = [yd y, hD h, m] ∧ y.length ≤ 12 ∧ h.length = y.length ∧ Acy h ∧ MvOk m ∧ Q (.str (whyOf y h m)) M
def sp_need_list : DSp := fun ds M Q E => ∃ d, ds = [d] ∧ plnB d = true ∧ ((∃ l, d = .list l ∧ Q .none M) ∨ ((∀ l, d ≠ .list l) ∧ E (badX 0 "form") M))
def endB (r : (Nat × Str) ⊕ (Hld × Int)) (M : Mem) (Q : DQ) (E : XQ) : Prop := match r with
  | .inr (h, t) => Q (.tuple [hD h, .int t]) M
  | .inl (n, w) => E (badX (n : Int) w) M
def sp_behind : DSp := fun ds M Q E => ∃ (y : List Bx) (ms : List Dat), ds = [yd y, .list ms] ∧ Yok y ∧ (∀ m ∈ ms, MvOk m) ∧ endB (runB y ms 0 (hold y) 0) M Q E
def sp_done : DSp := fun ds M Q E => ∃ (y : List Bx) (d : Dat), ds = [yd y, d] ∧ Yok y ∧ plnB d = true ∧ ((∃ ms, d = .list ms ∧ (∀ m ∈ ms, MvOk m) ∧ endB (runB y ms 0 (hold y) 0) M Q E) ∨ ((∀ l, d ≠ .list l) ∧ E (badX 0 "form") M))
/-! ### least.py -/
def badYG (ds : List Dat) (M : Mem) (E : XQ) : Prop := (∃ d n a, ds = [d, a] ∧ BadY d n ∧ E (numX "BadYard" (n : Int)) M) ∨ (∃ (y : List Bx) (a : Dat) (n : Nat), ds = [yd y, a] ∧ Yok y ∧ BadG y.length a n ∧ E (numX "BadGoal" (n : Int)) M)
def sp_Task_init : DSp := fun ds M Q _ => ∃ (p : Nat) (y : List Bx) (g : Hld), ds = [rf p, yd y, hD g] ∧ y.length ≤ 12 ∧ g.length = y.length ∧ M p = some (.ins "Task" L_Task []) ∧ Q .none (mup M p (.ins "Task" L_Task (taskF y g)))
def sp_Task_may : DSp := fun ds M Q _ => ∃ (p : Nat) (y : List Bx) (g : Hld), ds = [rf p] ∧ y.length ≤ 12 ∧ g.length = y.length ∧ M p = some (.ins "Task" L_Task (taskF y g)) ∧ Q (.bool (mayB y g)) M
def sp_Task_cost : DSp := fun ds M Q _ => ∃ (p : Nat) (y : List Bx) (g : Hld), ds = [rf p] ∧ y.length ≤ 12 ∧ g.length = y.length ∧ M p = some (.ins "Task" L_Task (taskF y g)) ∧ mayB y g = true ∧ Q (.int (costI y g)) M
/-! ### orders -/
def okB (h g : Hld) (b : Nat) : Bool := !decide (b ∈ upOf h h.length ((g[b]?).join))
def cnt (g : Hld) : Nat → Hld → List Nat → Int
  | 0, _, _ => 1
  | n + 1, h, left => (left.map fun b => if okB h g b = true then cnt g n (h.set b ((g[b]?).join)) (left.filter fun x => x != b) else 0).sum
def ordI (y : List Bx) (g : Hld) : Int := cnt g (someL y g).length (hold y) (someL y g)
def sp_Task_orders : DSp := fun ds M Q _ => ∃ (p : Nat) (y : List Bx) (g : Hld), ds = [rf p] ∧ Yok y ∧ g.length = y.length ∧ Acy g ∧ (someL y g).length ≤ 8 ∧ M p = some (.ins "Task" L_Task (taskF y g)) ∧ Q (.int (ordI y g)) M
def sp_orders : DSp := fun ds M Q E => (∃ (y : List Bx) (g : Hld), ds = [yd y, hD g] ∧ Yok y ∧ g.length = y.length ∧ Acy g ∧ (mayB y g = true → (someL y g).length ≤ 8) ∧ Q (.int (if mayB y g = true then ordI y g else 0)) M) ∨ badYG ds M E
/-! ### ways -/
def dep (g : Hld) (b : Nat) : Nat := (upOf g g.length ((g[b]?).join)).length
structure WayOk (y : List Bx) (g : Hld) (l : List Nat) : Prop where
  perm : l.Perm (someL y g)
  srt : l.Pairwise fun a b => dep g a ≤ dep g b
  lx : l.Pairwise fun a b => dep g a < dep g b ∨ (dep g a = dep g b ∧ a ≤ b)
def wayD (g : Hld) (l : List Nat) : List Dat := l.map fun (b : Nat) => .tuple [.int (b : Int), od ((g[b]?).join)]
def msOf (g : Hld) (l : List Nat) : List (Nat × Option Nat) := l.map fun b => (b, (g[b]?).join)
def msD (ms : List (Nat × Option Nat)) : List Dat := ms.map fun m => .tuple [.int (m.1 : Int), od m.2]
theorem wayD_ms (g : Hld) (l : List Nat) : wayD g l = msD (msOf g l) := by simp [wayD, msD, msOf]
def runM (h : Hld) : List (Nat × Option Nat) → Hld
  | [] => h
  | m :: ms => runM (h.set m.1 m.2) ms
def costM (y : List Bx) (ms : List (Nat × Option Nat)) : Int := (ms.map fun m => (price y m.1).getD 0).sum
structure Leg1 (y : List Bx) (h : Hld) (b : Nat) (o : Option Nat) : Prop where
  lt : b < y.length
  pr : (price y b).isSome = true
  ne : h[b]? ≠ some o
  ho : ∀ k, o = some k → k < y.length
  un : b ∉ upOf h h.length o
def Legal (y : List Bx) : Hld → List (Nat × Option Nat) → Prop
  | _, [] => True
  | h, m :: ms => Leg1 y h m.1 m.2 ∧ Legal y (h.set m.1 m.2) ms
def sp_Task_way : DSp := fun ds M Q _ => ∃ (p : Nat) (y : List Bx) (g : Hld), ds = [rf p] ∧ Yok y ∧ g.length = y.length ∧ Acy g ∧ M p = some (.ins "Task" L_Task (taskF y g)) ∧ M tabP = some (.tab tabQ) ∧ ∀ l, WayOk y g l → Q (.list (wayD g l)) M
def sp_task_of : DSp := fun ds M Q E => (∃ (y : List Bx) (g : Hld), ds = [yd y, hD g] ∧ Yok y ∧ g.length = y.length ∧ Acy g ∧ ∀ p, M p = none → Q (rf p) (mup M p (.ins "Task" L_Task (taskF y g)))) ∨ badYG ds M E
def sp_least : DSp := fun ds M Q E => (∃ (y : List Bx) (g : Hld), ds = [yd y, hD g] ∧ Yok y ∧ g.length = y.length ∧ Acy g ∧ M tabP = some (.tab tabQ) ∧ (mayB y g = true → ∀ l, WayOk y g l → Q (.tuple [.int (costI y g), .list (wayD g l)]) M) ∧ (mayB y g = false → Q .none M)) ∨ badYG ds M E
def sp_fewest : DSp := fun ds M Q E => (∃ (y : List Bx) (g : Hld), ds = [yd y, hD g] ∧ Yok y ∧ g.length = y.length ∧ Acy g ∧ (mayB y g = true → Q (.int (someL y g).length) M) ∧ (mayB y g = false → Q .none M)) ∨ badYG ds M E
def sp_top_of : DSp := fun ds M Q _ => ∃ (y : List Bx) (b : Nat) (l : List Nat), ds = [yd y, .int (b : Int)] ∧ y.length ≤ 12 ∧ Ch (hold y) (some b) l ∧ Q (od (topOf y l)) M
def sp_reach : DSp := fun ds M Q _ => ∃ y, ds = [yd y] ∧ Yok y ∧ Q (.int (reachI y)) M
/-- judged: what is refused, only -/
def sp_judged : DSp := fun ds M _ E => (∃ d n a b, ds = [d, a, b] ∧ BadY d n ∧ E (numX "BadYard" (n : Int)) M) ∨ (∃ (y : List Bx) (a b : Dat) (n : Nat), ds = [yd y, a, b] ∧ Yok y ∧ BadG y.length a n ∧ E (numX "BadGoal" (n : Int)) M) ∨
  (∃ (y : List Bx) (g : Hld) (b : Dat), ds = [yd y, hD g, b] ∧ Yok y ∧ g.length = y.length ∧ Acy g ∧ plnB b = true ∧ isLstD b = false ∧ E (badX 0 "form") M) ∨
  (∃ (y : List Bx) (g : Hld) (ms : List Dat) (n : Nat) (w : Str), ds = [yd y, hD g, .list ms] ∧ Yok y ∧ g.length = y.length ∧ Acy g ∧ (∀ m ∈ ms, MvOk m) ∧ runB y ms 0 (hold y) 0 = .inl (n, w) ∧ E (badX (n : Int) w) M)
/-! ### the law's draws -/
def sp__law_start : DSp := fun ds M Q _ => ∃ ns : List Int, ds = [.list (ns.map PyData.int)] ∧ ns.length ≤ 63 ∧ ∀ p st, M p = none → StOk st → Q (rf p) (mup M p (.lst st))
def sp__law_drawn : DSp := fun ds M Q _ => ∃ (p : Nat) (st : List Dat) (many : Int), ds = [rf p, .int many] ∧ M p = some (.lst st) ∧ StOk st ∧ 0 < many ∧ many < 1000 ∧ ∀ (r : Nat) st', (r : Int) < many → StOk st' → Q (.int (r : Int)) (mup M p (.lst st'))
def sp__law_turned : DSp := fun ds M Q _ => ∃ (p : Nat) (st : List Dat) (n : Nat), ds = [rf p, .int (n : Int)] ∧ M p = some (.lst st) ∧ StOk st ∧ n ≤ 12 ∧ ∀ t st', t.Perm (List.range n) → StOk st' → Q (.list (nD t)) (mup M p (.lst st'))
def sp__law_nesting : DSp := fun ds M Q _ => ∃ (p : Nat) (st : List Dat) (n : Nat), ds = [rf p, .int (n : Int)] ∧ M p = some (.lst st) ∧ StOk st ∧ n ≤ 12 ∧ ∀ (h : Hld) st', h.length = n → Acy h → StOk st' → Q (hD h) (mup M p (.lst st'))
def sp__law_yard : DSp := fun ds M Q _ => ∃ (p : Nat) (st : List Dat) (most : Nat), ds = [rf p, .int (most : Int)] ∧ M p = some (.lst st) ∧ StOk st ∧ 0 < most ∧ most ≤ 12 ∧ ∀ y st', Yok y → y.length ≤ most → StOk st' → Q (yd y) (mup M p (.lst st'))
/-- a nesting: a tuple, a list, a list that may change -/
def HAt (A : Dat) (h : Hld) (M : Mem) : Prop := A = hD h ∨ A = .list (h.map od) ∨ ∃ q, A = rf q ∧ M q = some (.lst (h.map od))
def sp__law_up : DSp := fun ds M Q _ => ∃ (A : Dat) (h : Hld) (b : Nat) (o : Option Nat), ds = [A, .int (b : Int)] ∧ HAt A h M ∧ h.length ≤ 12 ∧ h[b]? = some o ∧ Bnd h ∧ Q (.list (nD (upOf h h.length o))) M
theorem up_ch {ds : List Dat} {M : Mem} {Q : DQ} {E : XQ} (hbd : ∀ h : Hld, Acy h → Bnd h) (k : ∃ (tup : Bool) (h : Hld) (b : Nat) (o : Option Nat) (l : List Nat), ds = [hD h, .int (b : Int)] ∧ h.length ≤ 12 ∧ h[b]? = some o ∧ Acy h ∧ Ch h o l ∧ Q (.list (nD l)) M) : sp__law_up ds M Q E := by
  obtain ⟨t, h, b, o, l, e, hl, hb, ac, c, q⟩ := k
  exact ⟨hD h, h, b, o, e, .inl rfl, hl, hb, hbd h ac, by rw [c.up _ c.len]; exact q⟩
def sp__law_goal : DSp := fun ds M Q _ => ∃ (p : Nat) (st : List Dat) (y : List Bx), ds = [rf p, yd y] ∧ M p = some (.lst st) ∧ StOk st ∧ Yok y ∧ ∀ (g : Hld) st', g.length = y.length → Acy g → StOk st' → Q (hD g) (mup M p (.lst st'))
def sp__law_is_box : DSp := fun ds M Q _ => ∃ (a : Dat) (n : Int), ds = [a, .int n] ∧ plnB a = true ∧ Q (.bool (numB a 0 (n - 1))) M
def sp__law_move : DSp := fun ds M Q _ => ∃ (p : Nat) (st : List Dat) (n : Nat), ds = [rf p, .int (n : Int)] ∧ M p = some (.lst st) ∧ StOk st ∧ 0 < n ∧ n ≤ 12 ∧ ∀ m st', MvOk m → StOk st' → Q m (mup M p (.lst st'))
/-! ### the same -/
def vwN : Nat → Dat → Mem → Dat
  | 0, d, _ => d
  | n + 1, d, M => match d with
    | .list l => .list (l.map fun x => vwN n x M)
    | .tuple l => .tuple (l.map fun x => vwN n x M)
    | .dict [(.int (Int.ofNat p), .none)] => (match M p with
      | some (.lst ds) => .list (ds.map fun x => vwN n x M)
      | _ => d)
    | _ => d
def smD : Nat → Dat → Prop
  | 0, _ => False
  | n + 1, d => (flatD d = true ∧ sh 0 d) ∨ ∃ l : List Dat, (d = .tuple l ∨ d = .list l) ∧ l.length ≤ 1000 ∧ ∀ x ∈ l, smD n x
def spr__law_same (n : Nat) : DSp := fun ds M Q _ => ∃ d e, ds = [d, e] ∧ smD n e ∧ vwN n d M = e ∧ Q (.bool true) M
theorem spr__law_same_zero {ds : List Dat} {M : Mem} {Q : DQ} {E : XQ} (h : spr__law_same 0 ds M Q E) : False := by
  obtain ⟨d, e, _, h, _⟩ := h
  exact h
def sp__law_same : DSp := spr__law_same 8
/-! ### wishes -/
def L_Hope : List Str := ["boxes", "wish", "arrows", "loops"]
abbrev Wel := Option (Option Nat)
def wD : Wel → Dat
  | none => .str "open"
  | some o => od o
def wlD (w : List Wel) : Dat := .tuple (w.map wD)
@[simp] theorem wD_eq {a b : Wel} : wD a = wD b ↔ a = b := by
  constructor
  · intro h
    cases a with
    | none => cases b with
      | none => rfl
      | some o => cases o <;> simp [wD, od] at h
    | some o => cases b with
      | none => cases o <;> simp [wD, od] at h
      | some o' => rw [od_inj (show od o = od o' from h)]
  · intro h; rw [h]
@[simp] theorem wlD_eq {a b : List Wel} : wlD a = wlD b ↔ a = b := by
  constructor
  · intro h
    simp only [wlD, PyData.tuple.injEq] at h
    exact map_inj (fun a b => wD_eq.mp) h
  · intro h; rw [h]
@[simp] theorem eqv_os (o : Option Nat) (x : Str) : PyData.eqv (od o) (.str x) = false := by cases o <;> rfl
@[simp] theorem eqv_ss (x : Str) : PyData.eqv (.str x) (.str x) = true := by
  show (x == x) = true
  simp
@[simp] theorem eqv_wo (a : Wel) : PyData.eqv (wD a) (.str "open") = a.isNone := by
  cases a with
  | none => exact eqv_ss _
  | some o => exact eqv_os o _
@[simp] theorem shaped_open : SeqAt.shaped (.str "open") = true := by decide +kernel
@[simp] theorem shaped_wD (a : Wel) : SeqAt.shaped (wD a) = true := by
  cases a with
  | none => exact shaped_open
  | some o => exact shaped_od o
@[simp] theorem flat_wD (a : Wel) : flatD (wD a) = true := by
  cases a with
  | none => rfl
  | some o => exact flat_od o
@[simp] theorem vw_strU (x : Str) (M : Mem) : vw (.str x) M = .str x := rfl
@[simp] theorem vw_wD (a : Wel) (M : Mem) : vw (wD a) M = wD a := by
  cases a with
  | none => rfl
  | some o => exact vw_od o M
section
variable (M : Mem) (Q : DQ) (R : List Dat → Mem → Prop) (w : List Wel) (k : Nat)
@[simp] theorem w_sq5 : sqD (wlD w) M R = R (w.map wD) M := rfl
@[simp] theorem w_en5 : enD [wlD w] M R = R (enumD 0 (w.map wD)) M := rfl
@[simp] theorem w_len5 : gLen [wlD w] M Q = Q (.int w.length) M := by
  show Q (.int ((w.map wD).length : Nat)) M = _
  rw [List.length_map]
@[simp] theorem w_ix6 : gIx (wlD w) (.int (k : Int)) M Q = (match w[k]? with | some o => Q (wD o) M | none => False) := by
  show (match atI (w.map wD) (k : Int) with | some d => Q d M | none => False) = _
  rw [atI_nat', List.getElem?_map]
  cases w[k]? <;> rfl
@[simp] theorem w_ty5 (T : TyN) : isTy T (wlD w) M = some (match T with | .tuple => true | _ => false) := rfl
@[simp] theorem w_vw5 : vw (wlD w) M = wlD w := rfl
@[simp] theorem w_zp5 (h : Hld) : zpD [wlD w, hD h] M R = R (zipD (w.map wD) (h.map od)) M := rfl
@[simp] theorem isTy_wD (a : Wel) : isTy .str (wD a) M = some a.isNone := by
  cases a with
  | none => rfl
  | some o => cases o <;> rfl
end
def arE (e : Wel) (b : Bx) : Option Nat := match e with
  | none => b.2
  | some o => o
def arr (y : List Bx) (w : List Wel) : Hld := List.zipWith arE w y
def WBnd (w : List Wel) : Prop := ∀ (i j : Nat), w[i]? = some (some (some j)) → j < w.length
structure Wok (y : List Bx) (w : List Wel) : Prop where
  len : w.length = y.length
  bnd : WBnd w
def loopOf (a : Hld) (b : Nat) : Option (List Nat) := if (ringFrom a b).head? = some b ∧ ∀ x ∈ ringFrom a b, b ≤ x then some (ringFrom a b) else none
def loopsOf (a : Hld) : List (List Nat) := (List.range a.length).filterMap (loopOf a)
def lpD (l : List (List Nat)) : List Dat := l.map fun r => .tuple (nD r)
def hopeF (y : List Bx) (w : List Wel) : List Dat := [yd y, wlD w, hD (arr y w), .list (lpD (loopsOf (arr y w)))]
def opn (y : List Bx) (w : List Wel) (b : Nat) : Prop := w[b]? = some none ∧ (price y b).isSome = true
def pr (y : List Bx) (b : Nat) : Int := (price y b).getD 0
structure Brk (y : List Bx) (w : List Wel) (r bl : List Nat) : Prop where
  mem : ∀ b ∈ bl, b ∈ r ∧ opn y w b ∧ ∀ x ∈ r, opn y w x → pr y b ≤ pr y x
  all : bl = [] → ∀ x ∈ r, ¬ opn y w x
def Blk (y : List Bx) (w : List Wel) : Prop := (∃ i, i < y.length ∧ price y i = none ∧ (arr y w)[i]? ≠ (hold y)[i]?) ∨ ∃ r ∈ loopsOf (arr y w), ∀ x ∈ r, ¬ opn y w x
def brkG (a : Hld) (bs : List Nat) : Hld := (List.range a.length).map fun i => if i ∈ bs then none else (a[i]?).join
structure BrkS (y : List Bx) (w : List Wel) (bs : List Nat) : Prop where
  len : bs.length = (loopsOf (arr y w)).length
  ok : ∀ (i : Nat) (r : List Nat) (b : Nat), (loopsOf (arr y w))[i]? = some r → bs[i]? = some b → b ∈ r ∧ opn y w b ∧ ∀ x ∈ r, opn y w x → pr y b ≤ pr y x
def Fits (w : List Wel) (g : Hld) : Prop := ∀ (i : Nat) (o : Option Nat), w[i]? = some (some o) → g[i]? = some o
structure Best (y : List Bx) (w : List Wel) (g : Hld) : Prop where
  len : g.length = y.length
  ac : Acy g
  fits : Fits w g
  may : mayB y g = true
  least : ∀ g', g'.length = y.length → Acy g' → Fits w g' → mayB y g' = true → costI y g ≤ costI y g'
end Nb
set_option Elab.async false
set_option linter.all false
set_option maxRecDepth 100000
set_option maxHeartbeats 1000000
set_option autoImplicit false
namespace Nb
open PySem PySem.Spec PyProof.Rows L2
def bd_is_number : DS := (dRet (dAndV (dIsi .int (dVar 0)) (dAndV (dNotV (dIsi .bool (dVar 0))) (dChain gLe gLe (dVar 1) (dVar 0) (dVar 2)))))
def bd_is_price : DS := (dRet (dOrV (dOp gIsN (dVar 0) (dC .none)) (dCall sp_is_number (dCons (dVar 0) (dCons (dC (.int 1)) (dCons (dC (.int 99)) dNil))))))
def bd_is_holder : DS := (dRet (dOrV (dOp gIsN (dVar 0) (dC .none)) (dCall sp_is_number (dCons (dVar 0) (dCons (dC (.int 0)) (dCons (dOp gSub (dVar 1) (dC (.int 1))) dNil))))))
def bd_holders_of : DS := (dRet (dBlt gTupOf (dCons (dLc (iSeqD (dVar 0)) (gTupD 2 (gConsD (gN 1) (gConsD (gN 2) gNilD))) dYes (dVar 2) [1, 2]) dNil)))
def bd_ring_from : DS := (dSeq (dPar 2 3 (dCons (dLstL dNil) (dCons (dVar 1) dNil)))
  (dSeq (dWhile (dAndT (dB (dOp gNotN (dVar 3) (dC .none))) (dB (dOp gNotIn (dVar 3) (dVar 2)))) (dSeq (dDrop (dBM tyL gAppend (dVar 2) (dCons (dVar 3) dNil)))
  (dAsg (dOp gIx (dVar 0) (dVar 3)) (gN 3))))
  (dRet (dIf (dB (dOp gIsN (dVar 3) (dC .none))) (dLst dNil) (dSl (dVar 2) (oSome (dBM tyL gIndex (dVar 2) (dCons (dVar 3) dNil))) oNone)))))
def bd_first_in_itself : DS := (dSeq (dFor (iRng1D (dCons (dBlt gLen (dCons (dVar 0) dNil)) dNil)) (gN 1) (dIfS (dB (dOp gIn (dVar 1) (dCall sp_ring_from (dCons (dVar 0) (dCons (dVar 1) dNil))))) (dRet (dVar 1)) dNext))
  (dRet (dC .none)))
def bd_need_yard : DS := (dSeq (dIfS (dOrT (dNotT (dB (dIsi .tuple (dVar 0)))) (dB (dOp gEq (dVar 0) (dTup dNil)))) (dRaise "BadYard" ["number"] (dCons (dC (.int 0)) dNil)) dNext)
  (dSeq (dFor (iEnumD (dCons (dVar 0) dNil)) (gTupD 2 (gConsD (gN 1) (gConsD (gN 2) gNilD))) (dSeq (dIfS (dOrT (dB (dOp gEq (dVar 1) (dC (.int 12)))) (dOrT (dNotT (dB (dIsi .tuple (dVar 2)))) (dB (dOp gNe (dBlt gLen (dCons (dVar 2) dNil)) (dC (.int 2)))))) (dRaise "BadYard" ["number"] (dCons (dVar 1) dNil)) dNext)
  (dIfS (dOrT (dNotT (dB (dCall sp_is_price (dCons (dOp gIx (dVar 2) (dC (.int 0))) dNil)))) (dNotT (dB (dCall sp_is_holder (dCons (dOp gIx (dVar 2) (dC (.int 1))) (dCons (dBlt gLen (dCons (dVar 0) dNil)) dNil)))))) (dRaise "BadYard" ["number"] (dCons (dVar 1) dNil)) dNext)))
  (dSeq (dAsg (dCall sp_first_in_itself (dCons (dCall sp_holders_of (dCons (dVar 0) dNil)) dNil)) (gN 1))
  (dIfS (dB (dOp gNotN (dVar 1) (dC .none))) (dRaise "BadYard" ["number"] (dCons (dVar 1) dNil)) dNext))))
def bd_need_goal : DS := (dSeq (dIfS (dNotT (dB (dIsi .tuple (dVar 1)))) (dRaise "BadGoal" ["number"] (dCons (dC (.int 0)) dNil)) dNext)
  (dSeq (dFor (iEnumD (dCons (dVar 1) dNil)) (gTupD 2 (gConsD (gN 2) (gConsD (gN 3) gNilD))) (dIfS (dOrT (dB (dOp gEq (dVar 2) (dBlt gLen (dCons (dVar 0) dNil)))) (dNotT (dB (dCall sp_is_holder (dCons (dVar 3) (dCons (dBlt gLen (dCons (dVar 0) dNil)) dNil)))))) (dRaise "BadGoal" ["number"] (dCons (dVar 2) dNil)) dNext))
  (dSeq (dIfS (dB (dOp gLt (dBlt gLen (dCons (dVar 1) dNil)) (dBlt gLen (dCons (dVar 0) dNil)))) (dRaise "BadGoal" ["number"] (dCons (dBlt gLen (dCons (dVar 1) dNil)) dNil)) dNext)
  (dSeq (dAsg (dCall sp_first_in_itself (dCons (dVar 1) dNil)) (gN 2))
  (dIfS (dB (dOp gNotN (dVar 2) (dC .none))) (dRaise "BadGoal" ["number"] (dCons (dVar 2) dNil)) dNext)))))
def bd_need_box : DS := (dIfS (dNotT (dB (dCall sp_is_number (dCons (dVar 1) (dCons (dC (.int 0)) (dCons (dOp gSub (dBlt gLen (dCons (dVar 0) dNil)) (dC (.int 1))) dNil)))))) (dRaise "NoBox" [] dNil) dNext)
def bd_chain_of : DS := (dSeq (dPar 2 3 (dCons (dLstL dNil) (dCons (dOp gIx (dVar 0) (dVar 1)) dNil)))
  (dSeq (dWhile (dB (dOp gNotN (dVar 3) (dC .none))) (dSeq (dDrop (dBM tyL gAppend (dVar 2) (dCons (dVar 3) dNil)))
  (dAsg (dOp gIx (dVar 0) (dVar 3)) (gN 3))))
  (dRet (dFrz (dVar 2)))))
def bd_chain_ofL : DS := (dSeq (dPar 2 3 (dCons (dLstL dNil) (dCons (dOp gIx (dVar 0) (dVar 1)) dNil)))
  (dSeq (dWhile (dB (dOp gNotN (dVar 3) (dC .none))) (dSeq (dDrop (dBM tyL gAppend (dVar 2) (dCons (dVar 3) dNil)))
  (dAsg (dOp gIx (dVar 0) (dVar 3)) (gN 3))))
  (dRet (dVar 2))))
def bd_chain : DS := (dSeq (dDrop (dCall sp_need_yard (dCons (dVar 0) dNil)))
  (dSeq (dDrop (dCall sp_need_box (dCons (dVar 0) (dCons (dVar 1) dNil))))
  (dRet (dCall sp_chain_of (dCons (dCall sp_holders_of (dCons (dVar 0) dNil)) (dCons (dVar 1) dNil))))))
def bd_chainL : DS := (dSeq (dDrop (dCall sp_need_yard (dCons (dVar 0) dNil)))
  (dSeq (dDrop (dCall sp_need_box (dCons (dVar 0) (dCons (dVar 1) dNil))))
  (dRet (dCall sp_chain_ofL (dCons (dCall sp_holders_of (dCons (dVar 0) dNil)) (dCons (dVar 1) dNil))))))
def bd_inside : DS := (dSeq (dDrop (dCall sp_need_yard (dCons (dVar 0) dNil)))
  (dSeq (dDrop (dCall sp_need_box (dCons (dVar 0) (dCons (dVar 1) dNil))))
  (dSeq (dAsg (dCall sp_holders_of (dCons (dVar 0) dNil)) (gN 2))
  (dRet (dLc (iRng1D (dCons (dBlt gLen (dCons (dVar 0) dNil)) dNil)) (gN 3) (dB (dOp gIn (dVar 1) (dCall sp_chain_of (dCons (dVar 2) (dCons (dVar 3) dNil))))) (dVar 3) [3])))))
def bd_insideL : DS := (dSeq (dDrop (dCall sp_need_yard (dCons (dVar 0) dNil)))
  (dSeq (dDrop (dCall sp_need_box (dCons (dVar 0) (dCons (dVar 1) dNil))))
  (dSeq (dAsg (dCall sp_holders_of (dCons (dVar 0) dNil)) (gN 2))
  (dRet (dLcLive (iRng1D (dCons (dBlt gLen (dCons (dVar 0) dNil)) dNil)) (gN 3) (dB (dOp gIn (dVar 1) (dCall sp_chain_of (dCons (dVar 2) (dCons (dVar 3) dNil))))) (dVar 3) [3])))))
def bd_depths : DS := (dSeq (dDrop (dCall sp_need_yard (dCons (dVar 0) dNil)))
  (dSeq (dAsg (dCall sp_holders_of (dCons (dVar 0) dNil)) (gN 1))
  (dRet (dLc (iRng1D (dCons (dBlt gLen (dCons (dVar 0) dNil)) dNil)) (gN 2) dYes (dBlt gLen (dCons (dCall sp_chain_of (dCons (dVar 1) (dCons (dVar 2) dNil))) dNil)) [2]))))
def bd_depthsL : DS := (dSeq (dDrop (dCall sp_need_yard (dCons (dVar 0) dNil)))
  (dSeq (dAsg (dCall sp_holders_of (dCons (dVar 0) dNil)) (gN 1))
  (dRet (dLcLive (iRng1D (dCons (dBlt gLen (dCons (dVar 0) dNil)) dNil)) (gN 2) dYes (dBlt gLen (dCons (dCall sp_chain_of (dCons (dVar 1) (dCons (dVar 2) dNil))) dNil)) [2]))))
def bd_is_under : DS := (dRet (dAndV (dOp gNotN (dVar 2) (dC .none)) (dOrV (dOp gEq (dVar 2) (dVar 1)) (dOp gIn (dVar 1) (dCall sp_chain_of (dCons (dVar 0) (dCons (dVar 2) dNil)))))))
def bd_placed : DS := (dRet (dOp gAdd (dOp gAdd (dSl (dVar 0) oNone (oSome (dVar 1))) (dTup (dCons (dVar 2) dNil))) (dSl (dVar 0) (oSome (dOp gAdd (dVar 1) (dC (.int 1)))) oNone)))
def bd_fault_of : DS := (dSeq (dIfS (dOrT (dNotT (dB (dIsi .tuple (dVar 2)))) (dOrT (dB (dOp gNe (dBlt gLen (dCons (dVar 2) dNil)) (dC (.int 2)))) (dNotT (dB (dCall sp_is_number (dCons (dOp gIx (dVar 2) (dC (.int 0))) (dCons (dC (.int 0)) (dCons (dOp gSub (dBlt gLen (dCons (dVar 0) dNil)) (dC (.int 1))) dNil)))))))) (dRet (dC (.str "form"))) dNext)
  (dSeq (dIfS (dNotT (dB (dCall sp_is_holder (dCons (dOp gIx (dVar 2) (dC (.int 1))) (dCons (dBlt gLen (dCons (dVar 0) dNil)) dNil))))) (dRet (dC (.str "form"))) dNext)
  (dSeq (dIfS (dB (dOp gIsN (dOp gIx (dOp gIx (dVar 0) (dOp gIx (dVar 2) (dC (.int 0)))) (dC (.int 0))) (dC .none))) (dRet (dC (.str "price"))) dNext)
  (dSeq (dIfS (dB (dOp gEq (dOp gIx (dVar 1) (dOp gIx (dVar 2) (dC (.int 0)))) (dOp gIx (dVar 2) (dC (.int 1))))) (dRet (dC (.str "there"))) dNext)
  (dRet (dIf (dB (dCall sp_is_under (dCons (dVar 1) (dCons (dOp gIx (dVar 2) (dC (.int 0))) (dCons (dOp gIx (dVar 2) (dC (.int 1))) dNil))))) (dC (.str "inside")) (dC .none)))))))
def bd_need_list : DS := (dIfS (dNotT (dB (dIsi .list (dVar 0)))) (dRaise "BadMove" ["why", "number"] (dCons (dC (.int 0)) (dCons (dC (.str "form")) dNil))) dNext)
def bd_behind : DS := (dSeq (dPar 2 3 (dCons (dCall sp_holders_of (dCons (dVar 0) dNil)) (dCons (dC (.int 0)) dNil)))
  (dSeq (dFor (iEnumD (dCons (dVar 1) dNil)) (gTupD 2 (gConsD (gN 4) (gConsD (gN 5) gNilD))) (dSeq (dAsg (dCall sp_fault_of (dCons (dVar 0) (dCons (dVar 2) (dCons (dVar 5) dNil)))) (gN 6))
  (dSeq (dIfS (dB (dOp gNotN (dVar 6) (dC .none))) (dRaise "BadMove" ["why", "number"] (dCons (dVar 4) (dCons (dVar 6) dNil))) dNext)
  (dSeq (dAsg (dCall sp_placed (dCons (dVar 2) (dCons (dOp gIx (dVar 5) (dC (.int 0))) (dCons (dOp gIx (dVar 5) (dC (.int 1))) dNil)))) (gN 2))
  (dAug 3 gAddI (dOp gIx (dOp gIx (dVar 0) (dOp gIx (dVar 5) (dC (.int 0)))) (dC (.int 0))))))))
  (dRet (dTup (dCons (dVar 2) (dCons (dVar 3) dNil))))))
def bd_done : DS := (dSeq (dDrop (dCall sp_need_yard (dCons (dVar 0) dNil)))
  (dSeq (dDrop (dCall sp_need_list (dCons (dVar 1) dNil)))
  (dRet (dCall sp_behind (dCons (dVar 0) (dCons (dVar 1) dNil))))))
def bd_Task_init : DS := (dSeq (dSetFld "Task" L_Task 0 (dVar 0) (dVar 1))
  (dSeq (dSetFld "Task" L_Task 1 (dVar 0) (dVar 2))
  (dSeq (dSetFld "Task" L_Task 2 (dVar 0) (dCall sp_holders_of (dCons (dVar 1) dNil)))
  (dSetFld "Task" L_Task 3 (dVar 0) (dLc (iRng1D (dCons (dBlt gLen (dCons (dVar 1) dNil)) dNil)) (gN 3) (dB (dOp gNe (dOp gIx (dFld "Task" L_Task 2 (dVar 0)) (dVar 3)) (dOp gIx (dVar 2) (dVar 3)))) (dVar 3) [3])))))
def bd_Task_may : DS := (dRet (dNotV (dBlt gAny (dCons (dLc (iSeqD (dFld "Task" L_Task 3 (dVar 0))) (gN 1) dYes (dOp gIsN (dOp gIx (dOp gIx (dFld "Task" L_Task 0 (dVar 0)) (dVar 1)) (dC (.int 0))) (dC .none)) [1]) dNil))))
def bd_Task_cost : DS := (dRet (dBlt gSum (dCons (dLc (iSeqD (dFld "Task" L_Task 3 (dVar 0))) (gN 1) dYes (dOp gIx (dOp gIx (dFld "Task" L_Task 0 (dVar 0)) (dVar 1)) (dC (.int 0))) [1]) dNil)))
def bd_Task_way : DS := (dSeq (dAsg (dSortKey tabP tabQ 2 [0] (dTup (dCons (dBlt gLen (dCons (dCall sp_chain_of (dCons (dFld "Task" L_Task 1 (dVar 1)) (dCons (dVar 0) dNil))) dNil)) (dCons (dVar 0) dNil))) (dFld "Task" L_Task 3 (dVar 0))) (gN 1))
  (dRet (dLc (iSeqD (dVar 1)) (gN 2) dYes (dTup (dCons (dVar 2) (dCons (dOp gIx (dFld "Task" L_Task 1 (dVar 0)) (dVar 2)) dNil))) [2])))
def bd_Task_orders : DS := (dSeq (dAsg (dDct1 (dFld "Task" L_Task 2 (dVar 0)) (dC (.int 1))) (gN 1))
  (dSeq (dFor (iSeqD (dFld "Task" L_Task 3 (dVar 0))) (gN 2) (dSeq (dAsg dDctNew (gN 3))
  (dSeq (dFor (iItemsD (dVar 1)) (gTupD 2 (gConsD (gN 4) (gConsD (gN 5) gNilD))) (dFor (iSeqD (dFld "Task" L_Task 3 (dVar 0))) (gN 6) (dIfS (dAndT (dB (dOp gNe (dOp gIx (dVar 4) (dVar 6)) (dOp gIx (dFld "Task" L_Task 1 (dVar 0)) (dVar 6)))) (dNotT (dB (dCall sp_is_under (dCons (dVar 4) (dCons (dVar 6) (dCons (dOp gIx (dFld "Task" L_Task 1 (dVar 0)) (dVar 6)) dNil))))))) (dSeq (dAsg (dCall sp_placed (dCons (dVar 4) (dCons (dVar 6) (dCons (dOp gIx (dFld "Task" L_Task 1 (dVar 0)) (dVar 6)) dNil)))) (gN 7))
  (dAsg (dOp gAdd (dDGet2 (dVar 3) (dVar 7) (dC (.int 0))) (dVar 5)) (gSubDD (dVar 3) (dVar 7)))) dNext)))
  (dAsg (dVar 3) (gN 1)))))
  (dRet (dSumV (dVar 1)))))
def bd_task_of : DS := (dSeq (dDrop (dCall sp_need_yard (dCons (dVar 0) dNil)))
  (dSeq (dDrop (dCall sp_need_goal (dCons (dVar 0) (dCons (dVar 1) dNil))))
  (dRet (dMake "Task" L_Task sp_Task_init (dCons (dVar 0) (dCons (dVar 1) dNil))))))
def bd_least : DS := (dSeq (dAsg (dCall sp_task_of (dCons (dVar 0) (dCons (dVar 1) dNil))) (gN 2))
  (dRet (dIf (dB (dMeth "Task" L_Task sp_Task_may (dVar 2) dNil)) (dTup (dCons (dMeth "Task" L_Task sp_Task_cost (dVar 2) dNil) (dCons (dMeth "Task" L_Task sp_Task_way (dVar 2) dNil) dNil))) (dC .none))))
def bd_fewest : DS := (dSeq (dAsg (dCall sp_task_of (dCons (dVar 0) (dCons (dVar 1) dNil))) (gN 2))
  (dRet (dIf (dB (dMeth "Task" L_Task sp_Task_may (dVar 2) dNil)) (dBlt gLen (dCons (dFld "Task" L_Task 3 (dVar 2)) dNil)) (dC .none))))
def bd_orders : DS := (dSeq (dAsg (dCall sp_task_of (dCons (dVar 0) (dCons (dVar 1) dNil))) (gN 2))
  (dRet (dIf (dB (dMeth "Task" L_Task sp_Task_may (dVar 2) dNil)) (dMeth "Task" L_Task sp_Task_orders (dVar 2) dNil) (dC (.int 0)))))
def bd_top_of : DS := (dSeq (dAsg (dVar 1) (gN 2))
  (dSeq (dWhile (dAndT (dB (dOp gNotN (dVar 2) (dC .none))) (dB (dOp gIsN (dOp gIx (dOp gIx (dVar 0) (dVar 2)) (dC (.int 0))) (dC .none)))) (dAsg (dOp gIx (dOp gIx (dVar 0) (dVar 2)) (dC (.int 1))) (gN 2)))
  (dRet (dVar 2))))
def bd_reach : DS := (dSeq (dDrop (dCall sp_need_yard (dCons (dVar 0) dNil)))
  (dSeq (dAsg (dBlt gLen (dCons (dLc (iSeqD (dVar 0)) (gTupD 2 (gConsD (gN 4) (gConsD (gN 5) gNilD))) (dB (dOp gNotN (dVar 4) (dC .none))) (dVar 4) [4, 5]) dNil)) (gN 1))
  (dSeq (dIfS (dB (dOp gEq (dVar 1) (dC (.int 0)))) (dRet (dC (.int 1))) dNext)
  (dSeq (dAsg (dOp gAdd (dC (.int 1)) (dBlt gLen (dCons (dLc (iRng1D (dCons (dBlt gLen (dCons (dVar 0) dNil)) dNil)) (gN 6) (dB (dOp gIsN (dCall sp_top_of (dCons (dVar 0) (dCons (dVar 6) dNil))) (dC .none))) (dVar 6) [6]) dNil))) (gN 2))
  (dSeq (dFor (iRng1D (dCons (dOp gSub (dVar 1) (dC (.int 1))) dNil)) (gN 3) (dAug 2 gMulI (dOp gAdd (dBlt gLen (dCons (dVar 0) dNil)) (dC (.int 1)))))
  (dRet (dVar 2)))))))
def bd_judged : DS := (dSeq (dDrop (dCall sp_need_yard (dCons (dVar 0) dNil)))
  (dSeq (dDrop (dCall sp_need_goal (dCons (dVar 0) (dCons (dVar 1) dNil))))
  (dSeq (dDrop (dCall sp_need_list (dCons (dVar 2) dNil)))
  (dSeq (dAsg (dCall sp_behind (dCons (dVar 0) (dCons (dVar 2) dNil))) (gTupD 2 (gConsD (gN 3) (gConsD (gN 4) gNilD))))
  (dRet (dTup (dCons (dOp gEq (dVar 3) (dVar 1)) (dCons (dOp gSub (dVar 4) (dMeth "Task" L_Task sp_Task_cost (dMake "Task" L_Task sp_Task_init (dCons (dVar 0) (dCons (dVar 3) dNil))) dNil)) dNil))))))))
def bd__law_start : DS := (dSeq (dAsg (dC (.int 1)) (gN 1))
  (dSeq (dFor (iSeqD (dVar 0)) (gN 2) (dAsg (dOp gMod (dOp gAdd (dOp gAdd (dOp gMulI (dVar 1) (dC (.int 48271))) (dVar 2)) (dC (.int 7))) (dC (.int 2147483647))) (gN 1)))
  (dRet (dLstL (dCons (dVar 0) (dCons (dC (.int 0)) (dCons (dVar 1) (dCons (dC (.int 0)) dNil))))))))
def bd__law_drawn : DS := (dSeq (dIfS (dB (dOp gGt (dOp gIx (dVar 0) (dC (.int 3))) (dC (.int 0)))) (dSeq (dAsg (dOp gMod (dOp gIx (dVar 0) (dC (.int 3))) (dVar 1)) (gN 2))
  (dSeq (dAsg (dOp gFdiv (dOp gIx (dVar 0) (dC (.int 3))) (dVar 1)) (gSubD (dVar 0) (dC (.int 3))))
  (dRet (dVar 2)))) dNext)
  (dSeq (dAsg (dOp gAdd (dOp gIx (dVar 0) (dC (.int 1))) (dC (.int 1))) (gSubD (dVar 0) (dC (.int 1))))
  (dSeq (dIfS (dB (dOp gLe (dOp gIx (dVar 0) (dC (.int 1))) (dBlt gLen (dCons (dOp gIx (dVar 0) (dC (.int 0))) dNil)))) (dSeq (dAsg (dOp gIx (dOp gIx (dVar 0) (dC (.int 0))) (dOp gSub (dOp gIx (dVar 0) (dC (.int 1))) (dC (.int 1)))) (gN 3))
  (dSeq (dAsg (dIf (dB (dOp gGe (dVar 3) (dOp gPow (dC (.int 10)) (dC (.int 18))))) (dOp gFdiv (dVar 3) (dVar 1)) (dC (.int 0))) (gSubD (dVar 0) (dC (.int 3))))
  (dRet (dOp gMod (dVar 3) (dVar 1))))) dNext)
  (dSeq (dAsg (dOp gMod (dOp gAdd (dOp gMulI (dOp gIx (dVar 0) (dC (.int 2))) (dC (.int 48271))) (dC (.int 11))) (dC (.int 2147483647))) (gSubD (dVar 0) (dC (.int 2))))
  (dRet (dOp gMod (dOp gFdiv (dOp gIx (dVar 0) (dC (.int 2))) (dC (.int 7))) (dVar 1)))))))
def bd__law_turned : DS := (dSeq (dPar 2 3 (dCons (dLstRngL (dVar 1)) (dCons (dLstL dNil) dNil)))
  (dSeq (dWhile (dB (dOp gNe (dVar 2) (dLst dNil))) (dDrop (dBM tyL gAppend (dVar 3) (dCons (dBM tyL gPopAt (dVar 2) (dCons (dCall sp__law_drawn (dCons (dVar 0) (dCons (dBlt gLen (dCons (dVar 2) dNil)) dNil))) dNil)) dNil))))
  (dRet (dFrz (dVar 3)))))
def bd__law_nesting : DS := (dSeq (dPar 2 3 (dCons (dCall sp__law_turned (dCons (dVar 0) (dCons (dVar 1) dNil))) (dCons (dCall sp__law_drawn (dCons (dVar 0) (dCons (dC (.int 4)) dNil))) dNil)))
  (dSeq (dAsg (dOp gRepL (dLstL (dCons (dC .none) dNil)) (dVar 1)) (gN 4))
  (dSeq (dFor (iRng1D (dCons (dVar 1) dNil)) (gN 5) (dSeq (dAsg (dLst (dCons (dC .none) (dCons (dOp gIx (dVar 2) (dOp gSub (dVar 5) (dC (.int 1)))) (dCons (dOp gIx (dVar 2) (dCall sp__law_drawn (dCons (dVar 0) (dCons (dBlt gMax2 (dCons (dC (.int 1)) (dCons (dVar 5) dNil))) dNil)))) dNil)))) (gN 6))
  (dAsg (dIf (dB (dOp gGt (dVar 5) (dC (.int 0)))) (dOp gIx (dVar 6) (dBlt gMin2 (dCons (dVar 3) (dCons (dCall sp__law_drawn (dCons (dVar 0) (dCons (dC (.int 3)) dNil))) dNil)))) (dC .none)) (gSubD (dVar 4) (dOp gIx (dVar 2) (dVar 5))))))
  (dRet (dBlt gTupOf (dCons (dVar 4) dNil))))))
def bd__law_yard : DS := (dSeq (dAsg (dOp gAdd (dC (.int 1)) (dCall sp__law_drawn (dCons (dVar 0) (dCons (dVar 1) dNil)))) (gN 2))
  (dSeq (dAsg (dTup (dCons (dOp gIx (dLst (dCons (dC (.int 3)) (dCons (dC (.int 12)) (dCons (dC (.int 60)) dNil)))) (dCall sp__law_drawn (dCons (dVar 0) (dCons (dC (.int 3)) dNil)))) (dCons (dOp gIx (dLst (dCons (dC (.int 2)) (dCons (dC (.int 99)) dNil))) (dCall sp__law_drawn (dCons (dVar 0) (dCons (dC (.int 2)) dNil)))) dNil))) (gTupD 2 (gConsD (gN 3) (gConsD (gN 4) gNilD))))
  (dSeq (dAsg (dCall sp__law_nesting (dCons (dVar 0) (dCons (dVar 2) dNil))) (gN 5))
  (dSeq (dAsg (dLc (iSeqD (dVar 5)) (gN 7) dYes (dIf (dB (dOp gEq (dCall sp__law_drawn (dCons (dVar 0) (dCons (dVar 3) dNil))) (dC (.int 0)))) (dC .none) (dOp gAdd (dC (.int 1)) (dCall sp__law_drawn (dCons (dVar 0) (dCons (dVar 4) dNil))))) [7]) (gN 6))
  (dRet (dBlt gTupOf (dCons (dLc (iRng1D (dCons (dVar 2) dNil)) (gN 8) dYes (dTup (dCons (dOp gIx (dVar 6) (dVar 8)) (dCons (dOp gIx (dVar 5) (dVar 8)) dNil))) [8]) dNil)))))))
def bd__law_up : DS := (dSeq (dPar 2 3 (dCons (dLstL dNil) (dCons (dOp gIx (dVar 0) (dVar 1)) dNil)))
  (dSeq (dWhile (dAndT (dB (dOp gNotN (dVar 3) (dC .none))) (dB (dOp gLt (dBlt gLen (dCons (dVar 2) dNil)) (dBlt gLen (dCons (dVar 0) dNil))))) (dSeq (dDrop (dBM tyL gAppend (dVar 2) (dCons (dVar 3) dNil)))
  (dAsg (dOp gIx (dVar 0) (dVar 3)) (gN 3))))
  (dRet (dFrz (dVar 2)))))
def bd__law_goal : DS := (dSeq (dPar 2 3 (dCons (dBlt gTupOf (dCons (dLc (iSeqD (dVar 1)) (gN 5) dYes (dOp gIx (dVar 5) (dC (.int 1))) [5]) dNil)) (dCons (dCall sp__law_drawn (dCons (dVar 0) (dCons (dC (.int 4)) dNil))) dNil)))
  (dSeq (dIfS (dB (dOp gEq (dVar 3) (dC (.int 0)))) (dRet (dCall sp__law_nesting (dCons (dVar 0) (dCons (dBlt gLen (dCons (dVar 1) dNil)) dNil)))) dNext)
  (dSeq (dFor (iRng1D (dCons (dCall sp__law_drawn (dCons (dVar 0) (dCons (dOp gAdd (dOp gMulI (dC (.int 2)) (dBlt gLen (dCons (dVar 1) dNil))) (dC (.int 1))) dNil))) dNil)) (gN 4) (dSeq (dPar 5 6 (dCons (dCall sp__law_drawn (dCons (dVar 0) (dCons (dBlt gLen (dCons (dVar 1) dNil)) dNil))) (dCons (dCall sp__law_drawn (dCons (dVar 0) (dCons (dOp gAdd (dBlt gLen (dCons (dVar 1) dNil)) (dC (.int 1))) dNil))) dNil)))
  (dSeq (dAsg (dIf (dB (dOp gEq (dVar 6) (dBlt gLen (dCons (dVar 1) dNil)))) (dC .none) (dVar 6)) (gN 6))
  (dSeq (dAsg (dOrV (dOp gIsN (dVar 6) (dC .none)) (dAndV (dOp gNe (dVar 6) (dVar 5)) (dOp gNotIn (dVar 5) (dCall sp__law_up (dCons (dVar 2) (dCons (dVar 6) dNil)))))) (gN 7))
  (dIfS (dAndT (dTru (dVar 7)) (dOrT (dB (dOp gNotN (dOp gIx (dOp gIx (dVar 1) (dVar 5)) (dC (.int 0))) (dC .none))) (dAndT (dB (dOp gEq (dVar 3) (dC (.int 1)))) (dB (dOp gEq (dVar 4) (dC (.int 3))))))) (dAsg (dOp gAdd (dOp gAdd (dSl (dVar 2) oNone (oSome (dVar 5))) (dTup (dCons (dVar 6) dNil))) (dSl (dVar 2) (oSome (dOp gAdd (dVar 5) (dC (.int 1)))) oNone)) (gN 2)) dNext)))))
  (dRet (dVar 2)))))
def bd__law_is_box : DS := (dRet (dAndV (dIsi .int (dVar 0)) (dAndV (dNotV (dIsi .bool (dVar 0))) (dChain gLe gLt (dC (.int 0)) (dVar 0) (dVar 1)))))
def bd__law_why : DS := (dSeq (dIfS (dOrT (dNotT (dB (dIsi .tuple (dVar 2)))) (dOrT (dB (dOp gNe (dBlt gLen (dCons (dVar 2) dNil)) (dC (.int 2)))) (dNotT (dB (dCall sp__law_is_box (dCons (dOp gIx (dVar 2) (dC (.int 0))) (dCons (dBlt gLen (dCons (dVar 0) dNil)) dNil))))))) (dRet (dC (.str "form"))) dNext)
  (dSeq (dAsg (dVar 2) (gTupD 2 (gConsD (gN 3) (gConsD (gN 4) gNilD))))
  (dSeq (dIfS (dAndT (dB (dOp gNotN (dVar 4) (dC .none))) (dNotT (dB (dCall sp__law_is_box (dCons (dVar 4) (dCons (dBlt gLen (dCons (dVar 0) dNil)) dNil)))))) (dRet (dC (.str "form"))) dNext)
  (dSeq (dIfS (dB (dOp gIsN (dOp gIx (dOp gIx (dVar 0) (dVar 3)) (dC (.int 0))) (dC .none))) (dRet (dC (.str "price"))) dNext)
  (dSeq (dIfS (dB (dOp gEq (dOp gIx (dVar 1) (dVar 3)) (dVar 4))) (dRet (dC (.str "there"))) dNext)
  (dRet (dIf (dAndT (dB (dOp gNotN (dVar 4) (dC .none))) (dOrT (dB (dOp gEq (dVar 4) (dVar 3))) (dB (dOp gIn (dVar 3) (dCall sp__law_up (dCons (dVar 1) (dCons (dVar 4) dNil))))))) (dC (.str "inside")) (dC (.str "")))))))))
def bd__law_move : DS := (dSeq (dPar3 2 3 4 (dCons (dCall sp__law_drawn (dCons (dVar 0) (dCons (dVar 1) dNil))) (dCons (dCall sp__law_drawn (dCons (dVar 0) (dCons (dOp gAdd (dVar 1) (dC (.int 1))) dNil))) (dCons (dCall sp__law_drawn (dCons (dVar 0) (dCons (dC (.int 60)) dNil))) dNil))))
  (dSeq (dAsg (dIf (dB (dOp gEq (dVar 3) (dVar 1))) (dC .none) (dVar 3)) (gN 3))
  (dSeq (dIfS (dB (dOp gLt (dVar 4) (dC (.int 5)))) (dAsg (dOp gIx (dLst (dCons (dVar 1) (dCons (dOp gSub (dC (.int 0)) (dC (.int 1))) (dCons (dC (.bool true)) (dCons (dC .none) (dCons (dC (.str "0")) dNil)))))) (dVar 4)) (gN 2)) dNext)
  (dSeq (dIfS (dB (dChain gLe gLt (dC (.int 5)) (dVar 4) (dC (.int 9)))) (dAsg (dOp gIx (dLst (dCons (dVar 1) (dCons (dOp gSub (dC (.int 0)) (dC (.int 1))) (dCons (dC (.bool true)) (dCons (dC (.str "floor")) dNil))))) (dOp gSub (dVar 4) (dC (.int 5)))) (gN 3)) dNext)
  (dRet (dIf (dB (dOp gIn (dVar 4) (dTup (dCons (dC (.int 9)) (dCons (dC (.int 10)) (dCons (dC (.int 11)) dNil)))))) (dOp gIx (dLst (dCons (dLst (dCons (dVar 2) (dCons (dVar 3) dNil))) (dCons (dTup (dCons (dVar 2) dNil)) (dCons (dTup (dCons (dVar 2) (dCons (dVar 3) (dCons (dC (.int 1)) dNil)))) dNil)))) (dOp gSub (dVar 4) (dC (.int 9)))) (dTup (dCons (dVar 2) (dCons (dVar 3) dNil)))))))))
def bd__law_same (n : Nat) : DS := (dSeq (dIfS (dB (dIsi2 .tuple .list (dVar 1))) (dSeq (dIfS (dOrT (dNotT (dB (dIsi2 .tuple .list (dVar 0)))) (dB (dOp gNe (dIsi .list (dVar 0)) (dIsi .list (dVar 1))))) (dRet (dC (.bool false))) dNext)
  (dSeq (dIfS (dB (dOp gNe (dBlt gLen (dCons (dVar 0) dNil)) (dBlt gLen (dCons (dVar 1) dNil)))) (dRet (dC (.bool false))) dNext)
  (dRet (dOp gEq (dLc (iRng1D (dCons (dBlt gLen (dCons (dVar 1) dNil)) dNil)) (gN 3) (dNotT (dB (dCall (spr__law_same n) (dCons (dOp gIx (dVar 0) (dVar 3)) (dCons (dOp gIx (dVar 1) (dVar 3)) dNil))))) (dVar 3) [3]) (dLst dNil))))) dNext)
  (dSeq (dAsg (dAndV (dOp gEq (dIsi .bool (dVar 0)) (dIsi .bool (dVar 1))) (dOp gEq (dIsi .int (dVar 0)) (dIsi .int (dVar 1)))) (gN 2))
  (dRet (dAndV (dVar 2) (dOp gEq (dVar 0) (dVar 1))))))
def bdk__law_kind : List (Str × Option Nat × DS) := [("BoxError", some 1, (dSeq (dAsg (dLst (dCons (dIsX "BadYard" (dVar 1)) (dCons (dIsX "BadGoal" (dVar 1)) (dCons (dIsX "BadDeed" (dVar 1)) (dCons (dIsX "BadMove" (dVar 1)) dNil))))) (gN 2))
  (dSeq (dAsg (dOp gAdd (dVar 2) (dLst (dCons (dIsX "NoBox" (dVar 1)) (dCons (dIsX "NoWay" (dVar 1)) (dCons (dIsX "BadPrice" (dVar 1)) (dCons (dIsX "Full" (dVar 1)) dNil)))))) (gN 2))
  (dSeq (dAsg (dOp gAdd (dVar 2) (dLst (dCons (dIsX "BadText" (dVar 1)) dNil))) (gN 2))
  (dSeq (dAsg (dC (.str "BadYard BadGoal BadDeed BadMove NoBox NoWay BadPrice Full BadText")) (gN 3))
  (dSeq (dIfS (dOrT (dB (dOp gNe (dBM tyL gCount (dVar 2) (dCons (dC (.bool true)) dNil)) (dC (.int 1)))) (dNotT (dB (dIsXV (dVar 1))))) (dRet (dC (.str "other"))) dNext)
  (dSeq (dAsg (dOp gIx (dSplit (dVar 3) (dC (.str " "))) (dBM tyL gIndex (dVar 2) (dCons (dC (.bool true)) dNil))) (gN 4))
  (dSeq (dIfS (dB (dOp gEq (dVar 4) (dC (.str "BadMove")))) (dRet (dTup (dCons (dVar 4) (dCons (dXf "number" (dVar 1)) (dCons (dXf "why" (dVar 1)) dNil))))) dNext)
  (dSeq (dIfS (dB (dOp gIn (dVar 4) (dTup (dCons (dC (.str "BadYard")) (dCons (dC (.str "BadGoal")) (dCons (dC (.str "BadDeed")) dNil)))))) (dRet (dTup (dCons (dVar 4) (dCons (dXf "number" (dVar 1)) dNil)))) dNext)
  (dRet (dIf (dB (dOp gEq (dVar 4) (dC (.str "BadText")))) (dTup (dCons (dVar 4) (dCons (dXf "row" (dVar 1)) dNil))) (dVar 4))))))))))))]
end Nb
set_option Elab.async false
set_option linter.all false
set_option maxRecDepth 100000
set_option maxHeartbeats 2000000
set_option autoImplicit false
namespace Nb
open PySem PySem.Spec PyProof.Rows L2
/-! ### unfolding: exceptions, lambdas -/
@[simp] theorem x_try (b : DS) (l : List (Str × Option Nat × DS)) (Q : DEnds) (ρ : Rho) (M : Mem) : dTry b l Q ρ M = b { Q with ex := fun x ρ1 M1 => x.cls ∈ xKinds ∧ dHds Q l x ρ1 M1 } ρ M := rfl
@[simp] theorem x_raise (c : Str) (nms : List Str) (a : DA) (Q : DEnds) (ρ : Rho) (M : Mem) : dRaise c nms a Q ρ M = a ρ M (fun vs M1 => Q.ex ⟨c, nms, vs.reverse⟩ ρ M1) fun x M1 => Q.ex x ρ M1 := rfl
theorem hd_skip {Q : DEnds} {c : Str} {i : Option Nat} {f : DS} {r : List (Str × Option Nat × DS)} {x : DX} {ρ : Rho} {M : Mem} (h : subX x.cls c = false) (k : dHds Q r x ρ M) : dHds Q ((c, i, f) :: r) x ρ M := by
  show if subX x.cls c = true then _ else _
  rw [if_neg (by rw [h]; exact Bool.false_ne_true)]
  exact k
theorem hd_take {Q : DEnds} {c : Str} {i : Option Nat} {f : DS} {r : List (Str × Option Nat × DS)} {x : DX} {ρ : Rho} {M : Mem} (h : subX x.cls c = true) (k : ∀ a, M a = none → f (QnD i Q) (rN i a ρ) (mup M a (.exc x))) : dHds Q ((c, i, f) :: r) x ρ M := by
  show if subX x.cls c = true then _ else _
  rw [if_pos h]
  exact k
@[simp] theorem x_xf (f : Str) (a : DE) (ρ : Rho) (M : Mem) (Q : DQ) (E : XQ) : dXf f a ρ M Q E = a ρ M (fun d M1 => ∃ p x v, d = rf p ∧ M1 p = some (.exc x) ∧ x.cls ∈ xKinds ∧ (x.nms.zip x.vals).lookup f = some v ∧ Q v M1) E := rfl
@[simp] theorem x_isv (a : DE) (ρ : Rho) (M : Mem) (Q : DQ) (E : XQ) : dIsXV a ρ M Q E = a ρ M (fun d M1 => ∃ p x, d = rf p ∧ M1 p = some (.exc x) ∧ x.cls ∈ xKinds ∧ Q (.bool true) M1) E := rfl
@[simp] theorem x_isx (c : Str) (a : DE) (ρ : Rho) (M : Mem) (Q : DQ) (E : XQ) : dIsX c a ρ M Q E = a ρ M (fun d M1 => ∃ p x, d = rf p ∧ M1 p = some (.exc x) ∧ x.cls ∈ xKinds ∧ Q (.bool (subX x.cls c)) M1) E := rfl
@[simp] theorem x_spl (o e : DE) (ρ : Rho) (M : Mem) (Q : DQ) (E : XQ) : dSplit o e ρ M Q E = o ρ M (fun d M1 => ∃ a, d = .str a ∧ e ρ M1 (fun x M2 => ∃ b, x = .str b ∧ (b.length == 0) = false ∧ a.length + 2 ≤ sizeLine ∧ Q (.list ((Txt.split a b).map PyData.str)) M2) E) E := rfl
@[simp] theorem x_q0 (Q : DEnds) : QnD none Q = { Q with ex := fun _ _ _ => False } := rfl
@[simp] theorem x_q1 (Q : DEnds) (i : Nat) : QnD (some i) Q = { nx := fun ρ M => Q.nx (ρ.set i none) M, rt := Q.rt, bk := fun ρ M => Q.bk (ρ.set i none) M, ct := fun ρ M => Q.ct (ρ.set i none) M, ex := fun _ _ _ => False } := rfl
@[simp] theorem x_r0 (a : Nat) (ρ : Rho) : rN none a ρ = ρ := rfl
@[simp] theorem x_r1 (i a : Nat) (ρ : Rho) : rN (some i) a ρ = ρ.set i (some (rf a)) := rfl
@[simp] theorem x_kind (P : Nat) (q : Str) (n : Nat) (js : List Nat) (fb : DE) (nk : Nat) (l : List (Str × Option Nat × DS)) (ρ : Rho) (M : Mem) (Q : DQ) (E : XQ) : dKind P q n js fb nk l ρ M Q E = (M P = some (.tab q) ∧ fb (startFD n [] (js.map fun j => (ρ[j]?).join)) M Q (fun x M1 => x.cls ∈ xKinds ∧ ∀ f, dHds (endsOf (fun d M' => Q d (clip M1 M')) noX) l x (startD nk [rf f]) M1)) := rfl
@[simp] theorem x_par3 (i j k : Nat) (a : DA) (Q : DEnds) (ρ : Rho) (M : Mem) : dPar3 i j k a Q ρ M = a ρ M (fun ds M1 => match ds with
  | [d, e, f] => Q.nx (((ρ.set i (some d)).set j (some e)).set k (some f)) M1
  | _ => False) fun x M1 => Q.ex x ρ M1 := rfl
@[simp] theorem x_cnt (xs : List Dat) (y : Dat) (M : Mem) (Q : DQ) : gCount (.list xs) [y] M Q = ((flatD y = true ∧ xs.all flatD = true) ∧ Q (.int ((xs.countP fun z => PyData.eqv z y : Nat) : Int)) M) := by
  apply propext
  constructor
  · rintro ⟨xs', y', h1, h2, h3, h4, h5⟩
    cases h1
    cases h2
    exact ⟨⟨h3, h4⟩, h5⟩
  · rintro ⟨⟨h3, h4⟩, h5⟩
    exact ⟨xs, y, rfl, rfl, h3, h4, h5⟩
theorem x_idx {xs : List Dat} {y z : Dat} {j : Nat} {M : Mem} {Q : DQ} (fy : flatD y = true) (fx : xs.all flatD = true) (hz : xs[j]? = some z) (e : PyData.eqv z y = true) (hno : ∀ (m : Nat) (z' : Dat), m < j → xs[m]? = some z' → PyData.eqv z' y = false) (hq : Q (.int (j : Nat)) M) : gIndex (.list xs) [y] M Q := ⟨xs, y, j, z, rfl, rfl, fy, fx, hz, e, hno, hq⟩
end Nb
set_option Elab.async false
set_option linter.all false
set_option maxRecDepth 100000
set_option maxHeartbeats 2000000
set_option autoImplicit false
namespace Nb
open PySem PySem.Spec PyProof.Rows L2
/-! ### what _law_kind tells -/
def kSuite : DS := (dSeq (dAsg (dLst (dCons (dIsX "BadYard" (dVar 1)) (dCons (dIsX "BadGoal" (dVar 1)) (dCons (dIsX "BadDeed" (dVar 1)) (dCons (dIsX "BadMove" (dVar 1)) dNil))))) (gN 2))
  (dSeq (dAsg (dOp gAdd (dVar 2) (dLst (dCons (dIsX "NoBox" (dVar 1)) (dCons (dIsX "NoWay" (dVar 1)) (dCons (dIsX "BadPrice" (dVar 1)) (dCons (dIsX "Full" (dVar 1)) dNil)))))) (gN 2))
  (dSeq (dAsg (dOp gAdd (dVar 2) (dLst (dCons (dIsX "BadText" (dVar 1)) dNil))) (gN 2))
  (dSeq (dAsg (dC (.str "BadYard BadGoal BadDeed BadMove NoBox NoWay BadPrice Full BadText")) (gN 3))
  (dSeq (dIfS (dOrT (dB (dOp gNe (dBM tyL gCount (dVar 2) (dCons (dC (.bool true)) dNil)) (dC (.int 1)))) (dNotT (dB (dIsXV (dVar 1))))) (dRet (dC (.str "other"))) dNext)
  (dSeq (dAsg (dOp gIx (dSplit (dVar 3) (dC (.str " "))) (dBM tyL gIndex (dVar 2) (dCons (dC (.bool true)) dNil))) (gN 4))
  (dSeq (dIfS (dB (dOp gEq (dVar 4) (dC (.str "BadMove")))) (dRet (dTup (dCons (dVar 4) (dCons (dXf "number" (dVar 1)) (dCons (dXf "why" (dVar 1)) dNil))))) dNext)
  (dSeq (dIfS (dB (dOp gIn (dVar 4) (dTup (dCons (dC (.str "BadYard")) (dCons (dC (.str "BadGoal")) (dCons (dC (.str "BadDeed")) dNil)))))) (dRet (dTup (dCons (dVar 4) (dCons (dXf "number" (dVar 1)) dNil)))) dNext)
  (dRet (dIf (dB (dOp gEq (dVar 4) (dC (.str "BadText")))) (dTup (dCons (dVar 4) (dCons (dXf "row" (dVar 1)) dNil))) (dVar 4)))))))))))
def kL : List (Str × Option Nat × DS) := [("BoxError", some 1, kSuite)]
/-- an own exception with the values that its class has -/
inductive Own : DX → Dat → Prop
  | yard (n : Dat) : Own ⟨"BadYard", ["number"], [n]⟩ (.tuple [.str "BadYard", n])
  | goal (n : Dat) : Own ⟨"BadGoal", ["number"], [n]⟩ (.tuple [.str "BadGoal", n])
  | deed (n : Dat) : Own ⟨"BadDeed", ["number"], [n]⟩ (.tuple [.str "BadDeed", n])
  | move (n w : Dat) : Own ⟨"BadMove", ["why", "number"], [w, n]⟩ (.tuple [.str "BadMove", n, w])
  | text (n : Dat) : Own ⟨"BadText", ["row"], [n]⟩ (.tuple [.str "BadText", n])
  | box : Own ⟨"NoBox", [], []⟩ (.str "NoBox")
  | way : Own ⟨"NoWay", [], []⟩ (.str "NoWay")
  | price : Own ⟨"BadPrice", [], []⟩ (.str "BadPrice")
  | full : Own ⟨"Full", [], []⟩ (.str "Full")
def kWords : List Str := ["BadYard", "BadGoal", "BadDeed", "BadMove", "NoBox", "NoWay", "BadPrice", "Full", "BadText"]
theorem split_words : Txt.split "BadYard BadGoal BadDeed BadMove NoBox NoWay BadPrice Full BadText" " " = kWords := by decide +kernel
theorem len_words : (("BadYard BadGoal BadDeed BadMove NoBox NoWay BadPrice Full BadText" : Str)).length + 2 ≤ sizeLine := by decide +kernel
theorem seq_mid' {f g : DS} {Q : DEnds} {ρ : Rho} {M : Mem} (P : Rho → Mem → Prop) (h1 : ∀ R : Rho → Mem → Prop, (∀ ρ' M', P ρ' M' → R ρ' M') → f { Q with nx := R } ρ M) (h2 : ∀ ρ' M', P ρ' M' → g Q ρ' M') : dSeq f g Q ρ M := h1 _ h2
theorem Own.kind {x : DX} {d : Dat} (o : Own x d) : x.cls ∈ xKinds := by cases o <;> dsimp only <;> decide
theorem Own.word {x : DX} {d : Dat} (o : Own x d) : ∃ j : Nat, j < 9 ∧ kWords[j]? = some x.cls ∧ ([subX x.cls "BadYard", subX x.cls "BadGoal", subX x.cls "BadDeed", subX x.cls "BadMove", subX x.cls "NoBox", subX x.cls "NoWay", subX x.cls "BadPrice", subX x.cls "Full", subX x.cls "BadText"] = (List.range 9).map fun i => i == j) := by
  cases o
  · exact ⟨0, by decide, by rfl, by dsimp only; decide +kernel⟩
  · exact ⟨1, by decide, by rfl, by dsimp only; decide +kernel⟩
  · exact ⟨2, by decide, by rfl, by dsimp only; decide +kernel⟩
  · exact ⟨3, by decide, by rfl, by dsimp only; decide +kernel⟩
  · exact ⟨8, by decide, by rfl, by dsimp only; decide +kernel⟩
  · exact ⟨4, by decide, by rfl, by dsimp only; decide +kernel⟩
  · exact ⟨5, by decide, by rfl, by dsimp only; decide +kernel⟩
  · exact ⟨6, by decide, by rfl, by dsimp only; decide +kernel⟩
  · exact ⟨7, by decide, by rfl, by dsimp only; decide +kernel⟩
def boolsAt (j : Nat) : List Dat := ((List.range 9).map fun i => i == j).map PyData.bool
theorem bools_cnt {j : Nat} (h : j < 9) : ((boolsAt j).countP fun z => PyData.eqv z (.bool true)) = 1 := by
  have : j = 0 ∨ j = 1 ∨ j = 2 ∨ j = 3 ∨ j = 4 ∨ j = 5 ∨ j = 6 ∨ j = 7 ∨ j = 8 := by omega
  rcases this with rfl | rfl | rfl | rfl | rfl | rfl | rfl | rfl | rfl <;> rfl
theorem bools_flat {j : Nat} : (boolsAt j).all flatD = true := rfl
theorem bools_idx {j : Nat} (h : j < 9) {M : Mem} {Q : DQ} (hq : Q (.int (j : Nat)) M) : gIndex (.list (boolsAt j)) [.bool true] M Q := by
  refine x_idx (z := .bool true) (j := j) rfl bools_flat ?_ rfl (fun m z' hm hz => ?_) hq
  · have : j = 0 ∨ j = 1 ∨ j = 2 ∨ j = 3 ∨ j = 4 ∨ j = 5 ∨ j = 6 ∨ j = 7 ∨ j = 8 := by omega
    rcases this with rfl | rfl | rfl | rfl | rfl | rfl | rfl | rfl | rfl <;> rfl
  · have e : (boolsAt j)[m]? = some (.bool (m == j)) := by
      unfold boolsAt
      rw [List.getElem?_map, List.getElem?_map, List.getElem?_range (by omega)]
      rfl
    rw [e] at hz
    cases hz
    have e2 : (m == j) = false := by simpa using Nat.ne_of_lt hm
    rw [e2]
    rfl
theorem str_sh (x : Str) (h : PyData.canLay0 (.str x) = true) : SeqAt.shaped (.str x) = true := sh.shaped (n := 0) ⟨h, Nat.le_refl _⟩ (by decide)
theorem vw_str (x : Str) (M : Mem) : vw (.str x) M = .str x := rfl
theorem vw_b (x : Bool) (M : Mem) : vw (.bool x) M = .bool x := rfl
theorem eqv_str (x y : Str) : PyData.eqv (.str x) (.str y) = (x == y) := rfl
theorem kind_ok {x : DX} {d : Dat} (o : Own x d) {M : Mem} {Q : DQ} (hq : Q d M) (f : Nat) : dHds (endsOf (fun d M' => Q d (clip M M')) noX) kL x (startD 5 [rf f]) M := by
  have hk := o.kind
  refine hd_take (by unfold subX; simp) fun p hp => ?_
  have hcl : ∀ d, Q d M → Q d (clip M (mup M p (.exc x))) := fun d h => by
    rw [clip_out hp, clip_self]; exact h
  simp only [kSuite]
  obtain ⟨j, hj, hw, hb⟩ := o.word
  refine seq_mid' (fun ρ' M' => M' = mup M p (.exc x) ∧ ρ' = [some (rf f), some (rf p), some (.list [.bool (subX x.cls "BadYard"), .bool (subX x.cls "BadGoal"), .bool (subX x.cls "BadDeed"), .bool (subX x.cls "BadMove")]), none, none]) ?_ ?_
  · intro R hR
    simp [startD, hk, sizeLine_eq]
    exact hR _ _ ⟨rfl, rfl⟩
  rintro _ _ ⟨rfl, rfl⟩
  refine seq_mid' (fun ρ' M' => M' = mup M p (.exc x) ∧ ρ' = [some (rf f), some (rf p), some (.list [.bool (subX x.cls "BadYard"), .bool (subX x.cls "BadGoal"), .bool (subX x.cls "BadDeed"), .bool (subX x.cls "BadMove"), .bool (subX x.cls "NoBox"), .bool (subX x.cls "NoWay"), .bool (subX x.cls "BadPrice"), .bool (subX x.cls "Full")]), none, none]) ?_ ?_
  · intro R hR
    simp [hk, sizeLine_eq]
    exact hR _ _ ⟨rfl, rfl⟩
  rintro _ _ ⟨rfl, rfl⟩
  have eb : [PyData.bool (subX x.cls "BadYard"), .bool (subX x.cls "BadGoal"), .bool (subX x.cls "BadDeed"), .bool (subX x.cls "BadMove"), .bool (subX x.cls "NoBox"), .bool (subX x.cls "NoWay"), .bool (subX x.cls "BadPrice"), .bool (subX x.cls "Full"), .bool (subX x.cls "BadText")] = boolsAt j := by
    unfold boolsAt
    rw [← hb]
    rfl
  refine seq_mid' (fun ρ' M' => M' = mup M p (.exc x) ∧ ρ' = [some (rf f), some (rf p), some (.list (boolsAt j)), none, none]) ?_ ?_
  · intro R hR
    simp [hk, sizeLine_eq]
    exact hR _ _ ⟨rfl, by rw [← eb]⟩
  rintro _ _ ⟨rfl, rfl⟩
  refine seq_mid' (fun ρ' M' => M' = mup M p (.exc x) ∧ ρ' = [some (rf f), some (rf p), some (.list (boolsAt j)), some (.str "BadYard BadGoal BadDeed BadMove NoBox NoWay BadPrice Full BadText"), none]) ?_ ?_
  · intro R hR
    simp
    exact hR _ _ ⟨rfl, rfl⟩
  rintro _ _ ⟨rfl, rfl⟩
  refine seq_mid' (fun ρ' M' => M' = mup M p (.exc x) ∧ ρ' = [some (rf f), some (rf p), some (.list (boolsAt j)), some (.str "BadYard BadGoal BadDeed BadMove NoBox NoWay BadPrice Full BadText"), none]) ?_ ?_
  · intro R hR
    have hc := bools_cnt hj
    have hfl := bools_flat (j := j)
    simp only [u26, u14, u10, u2, u70, u0, u4, u3, u1, List.getElem?_cons_succ, List.getElem?_cons_zero, f_tyL, u80, x_cnt, hc, hfl]
    simp [flatD, hk]
    exact hR _ _ ⟨rfl, rfl⟩
  rintro _ _ ⟨rfl, rfl⟩
  refine seq_mid' (fun ρ' M' => M' = mup M p (.exc x) ∧ ρ' = [some (rf f), some (rf p), some (.list (boolsAt j)), some (.str "BadYard BadGoal BadDeed BadMove NoBox NoWay BadPrice Full BadText"), some (.str x.cls)]) ?_ ?_
  · intro R hR
    have hlen := len_words
    simp only [u28, u2, x_spl, u0, u1, u70, u4, u3, List.getElem?_cons_succ, List.getElem?_cons_zero, f_tyL, u80]
    refine ⟨_, rfl, _, rfl, by decide, hlen, rfl, bools_idx hj ?_⟩
    rw [split_words, u52, atI_nat', List.getElem?_map, hw]
    exact hR _ _ ⟨rfl, rfl⟩
  rintro _ _ ⟨rfl, rfl⟩
  cases o with
  | yard n =>
    dsimp only at hk hq ⊢
    simp [x_xf, vw_str, eqv_str, flatD, inD, List.lookup, sizeLine_eq, hk, str_sh "BadMove" (by decide +kernel), (show (Str.ofString "BadYard" == Str.ofString "BadMove") = false from by decide), (show (Str.ofString "BadMove" == Str.ofString "BadYard") = false from by decide), str_sh "BadYard" (by decide +kernel), str_sh "BadGoal" (by decide +kernel), (show (Str.ofString "BadYard" == Str.ofString "BadGoal") = false from by decide), (show (Str.ofString "BadGoal" == Str.ofString "BadYard") = false from by decide), str_sh "BadDeed" (by decide +kernel), (show (Str.ofString "BadYard" == Str.ofString "BadDeed") = false from by decide), (show (Str.ofString "BadDeed" == Str.ofString "BadYard") = false from by decide), str_sh "BadText" (by decide +kernel), (show (Str.ofString "BadYard" == Str.ofString "BadText") = false from by decide), (show (Str.ofString "BadText" == Str.ofString "BadYard") = false from by decide), (show (Str.ofString "number" == Str.ofString "why") = false from by decide)]
    exact hcl _ hq
  | goal n =>
    dsimp only at hk hq ⊢
    simp [x_xf, vw_str, eqv_str, flatD, inD, List.lookup, sizeLine_eq, hk, str_sh "BadMove" (by decide +kernel), (show (Str.ofString "BadGoal" == Str.ofString "BadMove") = false from by decide), (show (Str.ofString "BadMove" == Str.ofString "BadGoal") = false from by decide), str_sh "BadYard" (by decide +kernel), (show (Str.ofString "BadGoal" == Str.ofString "BadYard") = false from by decide), (show (Str.ofString "BadYard" == Str.ofString "BadGoal") = false from by decide), str_sh "BadGoal" (by decide +kernel), str_sh "BadDeed" (by decide +kernel), (show (Str.ofString "BadGoal" == Str.ofString "BadDeed") = false from by decide), (show (Str.ofString "BadDeed" == Str.ofString "BadGoal") = false from by decide), str_sh "BadText" (by decide +kernel), (show (Str.ofString "BadGoal" == Str.ofString "BadText") = false from by decide), (show (Str.ofString "BadText" == Str.ofString "BadGoal") = false from by decide), (show (Str.ofString "number" == Str.ofString "why") = false from by decide)]
    exact hcl _ hq
  | deed n =>
    dsimp only at hk hq ⊢
    simp [x_xf, vw_str, eqv_str, flatD, inD, List.lookup, sizeLine_eq, hk, str_sh "BadMove" (by decide +kernel), (show (Str.ofString "BadDeed" == Str.ofString "BadMove") = false from by decide), (show (Str.ofString "BadMove" == Str.ofString "BadDeed") = false from by decide), str_sh "BadYard" (by decide +kernel), (show (Str.ofString "BadDeed" == Str.ofString "BadYard") = false from by decide), (show (Str.ofString "BadYard" == Str.ofString "BadDeed") = false from by decide), str_sh "BadGoal" (by decide +kernel), (show (Str.ofString "BadDeed" == Str.ofString "BadGoal") = false from by decide), (show (Str.ofString "BadGoal" == Str.ofString "BadDeed") = false from by decide), str_sh "BadDeed" (by decide +kernel), str_sh "BadText" (by decide +kernel), (show (Str.ofString "BadDeed" == Str.ofString "BadText") = false from by decide), (show (Str.ofString "BadText" == Str.ofString "BadDeed") = false from by decide), (show (Str.ofString "number" == Str.ofString "why") = false from by decide)]
    exact hcl _ hq
  | move n w =>
    dsimp only at hk hq ⊢
    simp [x_xf, vw_str, eqv_str, flatD, inD, List.lookup, sizeLine_eq, hk, str_sh "BadMove" (by decide +kernel), str_sh "BadYard" (by decide +kernel), (show (Str.ofString "BadMove" == Str.ofString "BadYard") = false from by decide), (show (Str.ofString "BadYard" == Str.ofString "BadMove") = false from by decide), str_sh "BadGoal" (by decide +kernel), (show (Str.ofString "BadMove" == Str.ofString "BadGoal") = false from by decide), (show (Str.ofString "BadGoal" == Str.ofString "BadMove") = false from by decide), str_sh "BadDeed" (by decide +kernel), (show (Str.ofString "BadMove" == Str.ofString "BadDeed") = false from by decide), (show (Str.ofString "BadDeed" == Str.ofString "BadMove") = false from by decide), str_sh "BadText" (by decide +kernel), (show (Str.ofString "BadMove" == Str.ofString "BadText") = false from by decide), (show (Str.ofString "BadText" == Str.ofString "BadMove") = false from by decide), (show (Str.ofString "number" == Str.ofString "why") = false from by decide)]
    exact hcl _ hq
  | text n =>
    dsimp only at hk hq ⊢
    simp [x_xf, vw_str, eqv_str, flatD, inD, List.lookup, sizeLine_eq, hk, str_sh "BadMove" (by decide +kernel), (show (Str.ofString "BadText" == Str.ofString "BadMove") = false from by decide), (show (Str.ofString "BadMove" == Str.ofString "BadText") = false from by decide), str_sh "BadYard" (by decide +kernel), (show (Str.ofString "BadText" == Str.ofString "BadYard") = false from by decide), (show (Str.ofString "BadYard" == Str.ofString "BadText") = false from by decide), str_sh "BadGoal" (by decide +kernel), (show (Str.ofString "BadText" == Str.ofString "BadGoal") = false from by decide), (show (Str.ofString "BadGoal" == Str.ofString "BadText") = false from by decide), str_sh "BadDeed" (by decide +kernel), (show (Str.ofString "BadText" == Str.ofString "BadDeed") = false from by decide), (show (Str.ofString "BadDeed" == Str.ofString "BadText") = false from by decide), str_sh "BadText" (by decide +kernel), (show (Str.ofString "number" == Str.ofString "why") = false from by decide)]
    exact hcl _ hq
  | box =>
    dsimp only at hk hq ⊢
    simp [x_xf, vw_str, eqv_str, flatD, inD, List.lookup, sizeLine_eq, hk, str_sh "BadMove" (by decide +kernel), (show (Str.ofString "NoBox" == Str.ofString "BadMove") = false from by decide), (show (Str.ofString "BadMove" == Str.ofString "NoBox") = false from by decide), str_sh "BadYard" (by decide +kernel), (show (Str.ofString "NoBox" == Str.ofString "BadYard") = false from by decide), (show (Str.ofString "BadYard" == Str.ofString "NoBox") = false from by decide), str_sh "BadGoal" (by decide +kernel), (show (Str.ofString "NoBox" == Str.ofString "BadGoal") = false from by decide), (show (Str.ofString "BadGoal" == Str.ofString "NoBox") = false from by decide), str_sh "BadDeed" (by decide +kernel), (show (Str.ofString "NoBox" == Str.ofString "BadDeed") = false from by decide), (show (Str.ofString "BadDeed" == Str.ofString "NoBox") = false from by decide), str_sh "BadText" (by decide +kernel), (show (Str.ofString "NoBox" == Str.ofString "BadText") = false from by decide), (show (Str.ofString "BadText" == Str.ofString "NoBox") = false from by decide), str_sh "NoBox" (by decide +kernel), (show (Str.ofString "number" == Str.ofString "why") = false from by decide)]
    exact hcl _ hq
  | way =>
    dsimp only at hk hq ⊢
    simp [x_xf, vw_str, eqv_str, flatD, inD, List.lookup, sizeLine_eq, hk, str_sh "BadMove" (by decide +kernel), (show (Str.ofString "NoWay" == Str.ofString "BadMove") = false from by decide), (show (Str.ofString "BadMove" == Str.ofString "NoWay") = false from by decide), str_sh "BadYard" (by decide +kernel), (show (Str.ofString "NoWay" == Str.ofString "BadYard") = false from by decide), (show (Str.ofString "BadYard" == Str.ofString "NoWay") = false from by decide), str_sh "BadGoal" (by decide +kernel), (show (Str.ofString "NoWay" == Str.ofString "BadGoal") = false from by decide), (show (Str.ofString "BadGoal" == Str.ofString "NoWay") = false from by decide), str_sh "BadDeed" (by decide +kernel), (show (Str.ofString "NoWay" == Str.ofString "BadDeed") = false from by decide), (show (Str.ofString "BadDeed" == Str.ofString "NoWay") = false from by decide), str_sh "BadText" (by decide +kernel), (show (Str.ofString "NoWay" == Str.ofString "BadText") = false from by decide), (show (Str.ofString "BadText" == Str.ofString "NoWay") = false from by decide), str_sh "NoWay" (by decide +kernel), (show (Str.ofString "number" == Str.ofString "why") = false from by decide)]
    exact hcl _ hq
  | price =>
    dsimp only at hk hq ⊢
    simp [x_xf, vw_str, eqv_str, flatD, inD, List.lookup, sizeLine_eq, hk, str_sh "BadMove" (by decide +kernel), (show (Str.ofString "BadPrice" == Str.ofString "BadMove") = false from by decide), (show (Str.ofString "BadMove" == Str.ofString "BadPrice") = false from by decide), str_sh "BadYard" (by decide +kernel), (show (Str.ofString "BadPrice" == Str.ofString "BadYard") = false from by decide), (show (Str.ofString "BadYard" == Str.ofString "BadPrice") = false from by decide), str_sh "BadGoal" (by decide +kernel), (show (Str.ofString "BadPrice" == Str.ofString "BadGoal") = false from by decide), (show (Str.ofString "BadGoal" == Str.ofString "BadPrice") = false from by decide), str_sh "BadDeed" (by decide +kernel), (show (Str.ofString "BadPrice" == Str.ofString "BadDeed") = false from by decide), (show (Str.ofString "BadDeed" == Str.ofString "BadPrice") = false from by decide), str_sh "BadText" (by decide +kernel), (show (Str.ofString "BadPrice" == Str.ofString "BadText") = false from by decide), (show (Str.ofString "BadText" == Str.ofString "BadPrice") = false from by decide), str_sh "BadPrice" (by decide +kernel), (show (Str.ofString "number" == Str.ofString "why") = false from by decide)]
    exact hcl _ hq
  | full =>
    dsimp only at hk hq ⊢
    simp [x_xf, vw_str, eqv_str, flatD, inD, List.lookup, sizeLine_eq, hk, str_sh "BadMove" (by decide +kernel), (show (Str.ofString "Full" == Str.ofString "BadMove") = false from by decide), (show (Str.ofString "BadMove" == Str.ofString "Full") = false from by decide), str_sh "BadYard" (by decide +kernel), (show (Str.ofString "Full" == Str.ofString "BadYard") = false from by decide), (show (Str.ofString "BadYard" == Str.ofString "Full") = false from by decide), str_sh "BadGoal" (by decide +kernel), (show (Str.ofString "Full" == Str.ofString "BadGoal") = false from by decide), (show (Str.ofString "BadGoal" == Str.ofString "Full") = false from by decide), str_sh "BadDeed" (by decide +kernel), (show (Str.ofString "Full" == Str.ofString "BadDeed") = false from by decide), (show (Str.ofString "BadDeed" == Str.ofString "Full") = false from by decide), str_sh "BadText" (by decide +kernel), (show (Str.ofString "Full" == Str.ofString "BadText") = false from by decide), (show (Str.ofString "BadText" == Str.ofString "Full") = false from by decide), str_sh "Full" (by decide +kernel), (show (Str.ofString "number" == Str.ofString "why") = false from by decide)]
    exact hcl _ hq
end Nb
set_option Elab.async false
set_option linter.all false
set_option maxRecDepth 100000
set_option maxHeartbeats 1000000
set_option autoImplicit false
namespace Nb
open PySem PySem.Spec PyProof.Rows L2
@[simp] theorem v_gN (i : Nat) (d : Dat) (ρ : Rho) (M : Mem) (Q : Rho → Mem → Prop) : gN i d ρ M Q = Q (ρ.set i (some d)) M := rfl
theorem set_cut {α : Type} (l : List α) (k : Nat) (a : α) (h : k < l.length) : l.take k ++ [a] ++ l.drop (k + 1) = l.set k a := by
  rw [List.set_eq_take_append_cons_drop, if_pos h]
  simp
theorem seq_mid {f g : DS} {Q : DEnds} {ρ : Rho} {M : Mem} (P : Rho → Mem → Prop) (h1 : ∀ R : Rho → Mem → Prop, (∀ ρ' M', P ρ' M' → R ρ' M') → f { Q with nx := R } ρ M) (h2 : ∀ ρ' M', P ρ' M' → g Q ρ' M') : dSeq f g Q ρ M := h1 _ h2
@[simp] theorem cast_eq' {a b : Nat} : ((a : Int) = (b : Int)) ↔ a = b := Int.ofNat_inj
theorem pure_is_number : ∀ ds M Q E, sp_is_number ds M Q E → bd_is_number (endsOf (fun d M' => Q d (clip M M')) (fun x M' => E x (clip M M'))) (startD 3 ds) M := by
  rintro _ M Q E ⟨a, lo, hi, rfl, hp, h⟩
  cases a with
  | int a =>
    simp [bd_is_number, startD]
    by_cases h1 : lo ≤ a
    · have h2 : ¬ a < lo := by omega
      simp_all
    · rw [if_neg h1]
      simp [h1] at h
      exact h
  | dict _ => cases hp
  | none => simp [bd_is_number, startD]; simpa [numB] using h
  | bool b => simp [bd_is_number, startD, isTy]; simpa [numB] using h
  | str s => simp [bd_is_number, startD]; simpa [numB] using h
  | list l => simp [bd_is_number, startD]; simpa [numB] using h
  | tuple l => simp [bd_is_number, startD]; simpa [numB] using h
theorem pure_is_holder : ∀ ds M Q E, sp_is_holder ds M Q E → bd_is_holder (endsOf (fun d M' => Q d (clip M M')) (fun x M' => E x (clip M M'))) (startD 2 ds) M := by
  rintro _ M Q E ⟨a, n, rfl, hp, h⟩
  cases a with
  | dict _ => cases hp
  | none => simp [bd_is_holder, startD]; simpa [holB, isNon] using h
  | _ => simp [bd_is_holder, startD, sp_is_number, isNon, hp, and_assoc]; simpa [holB, isNon] using h
theorem pure__law_is_box : ∀ ds M Q E, sp__law_is_box ds M Q E → bd__law_is_box (endsOf (fun d M' => Q d (clip M M')) (fun x M' => E x (clip M M'))) (startD 2 ds) M := by
  rintro _ M Q E ⟨a, n, rfl, hp, h⟩
  cases a with
  | int a =>
    simp [bd__law_is_box, startD]
    have e : decide (0 ≤ a ∧ a ≤ n - 1) = (decide (0 ≤ a) && decide (a < n)) := by
      by_cases h1 : 0 ≤ a <;> by_cases h2 : a < n <;> simp [h1, h2] <;> omega
    rw [num_int, e] at h
    by_cases h1 : 0 ≤ a
    · simp [h1] at h ⊢; exact h
    · simp [h1] at h ⊢; exact h
  | dict _ => cases hp
  | none => simp [bd__law_is_box, startD]; simpa [numB] using h
  | bool b => simp [bd__law_is_box, startD, isTy]; simpa [numB] using h
  | str s => simp [bd__law_is_box, startD]; simpa [numB] using h
  | list l => simp [bd__law_is_box, startD]; simpa [numB] using h
  | tuple l => simp [bd__law_is_box, startD]; simpa [numB] using h
theorem pure_is_price : ∀ ds M Q E, sp_is_price ds M Q E → bd_is_price (endsOf (fun d M' => Q d (clip M M')) (fun x M' => E x (clip M M'))) (startD 1 ds) M := by
  rintro _ M Q E ⟨a, rfl, hp, h⟩
  cases a with
  | dict _ => cases hp
  | none => simp [bd_is_price, startD]; simpa [prD, isNon] using h
  | _ => simp [bd_is_price, startD, sp_is_number, isNon, hp, and_assoc]; simpa [prD, isNon] using h
theorem fm_map {α β γ : Type} (f : α → β) (g : β → Option γ) (k : α → γ) (h : ∀ a, g (f a) = some (k a)) (l : List α) : (l.map f).filterMap g = l.map k := by
  induction l with
  | nil => rfl
  | cons a l ih => simp [h, ih]
theorem pure_holders_of : ∀ ds M Q E, sp_holders_of ds M Q E → bd_holders_of (endsOf (fun d M' => Q d (clip M M')) (fun x M' => E x (clip M M'))) (startD 3 ds) M := by
  rintro _ M Q E ⟨y, rfl, hl, h⟩
  simp [bd_holders_of, startD]
  refine lc_pure (fun d => match d with | .tuple [a, b] => some b | _ => none) (by simp [sizeLine_eq]; omega) ?_ ?_
  · intro d hd acc K ha hk
    obtain ⟨b, hb, rfl⟩ := List.mem_map.mp hd
    simp_all [bxD, wipeD]
  · rw [fm_map bxD _ (fun b => od b.2) fun _ => rfl]
    have e : y.map (fun b => od b.2) = (hold y).map od := by simp [hold]
    rw [e]
    simp
    exact h
theorem nD_get (l : List Nat) (k : Nat) : (nD l)[k]? = (l[k]?).map fun (j : Nat) => PyData.int (j : Int) := List.getElem?_map
theorem get_lt {α : Type} {l : List α} {n i : Nat} (h : l.length = n) (hi : i < n) : ∃ a, l[i]? = some a := ⟨l[i]'(by omega), by simp [h, hi]⟩
theorem pure_chain_of : ∀ ds M Q E, sp_chain_of ds M Q E → bd_chain_of (endsOf (fun d M' => Q d (clip M M')) (fun x M' => E x (clip M M'))) (startD 4 ds) M := by
  rintro _ M Q E ⟨h, b, o, l, rfl, hl, hb, hc, hq⟩
  have hlen := hc.len
  simp [bd_chain_of, startD, hD, hb, sizeLine_eq]
  intro p hp
  refine while_rule (fun n ρ M' => ∃ acc o l', n = l'.length ∧ ρ = [some (hD h), some (.int b), some (rf p), some (od o)] ∧ M' = mup M p (.lst (nD acc)) ∧ Ch h o l' ∧ acc ++ l' = l) _ ⟨[], o, l, rfl, rfl, rfl, hc, rfl⟩ ?_
  rintro n ρ M' ⟨acc, o', l', rfl, rfl, rfl, hc', he⟩ K hK
  cases hc' with
  | nil =>
    simp at he
    subst he
    simp [od, clip_del hp, clip_out hp, hq]
  | @cons i o2 l2 e c =>
    have : acc.length < 16777216 := by
      have := congrArg List.length he
      simp at this
      omega
    simp [od, hD, e, sizeLine_eq, this]
    exact hK _ _ _ (by simp) ⟨acc ++ [i], o2, l2, rfl, rfl, by simp [nD, od], c, by simpa using he⟩
theorem pure_chain_ofL : ∀ ds M Q E, sp_chain_ofL ds M Q E → bd_chain_ofL (endsOf (fun d M' => Q d (clipR M d M')) (fun x M' => E x (clip M M'))) (startD 4 ds) M := by
  rintro _ M Q E ⟨h, b, o, l, rfl, hl, hb, hc, hq⟩
  have hlen := hc.len
  simp [bd_chain_ofL, startD, hD, hb, sizeLine_eq]
  intro p hp
  refine while_rule (fun n ρ M' => ∃ acc o l', n = l'.length ∧ ρ = [some (hD h), some (.int b), some (rf p), some (od o)] ∧ M' = mup M p (.lst (nD acc)) ∧ Ch h o l' ∧ acc ++ l' = l) _ ⟨[], o, l, rfl, rfl, rfl, hc, rfl⟩ ?_
  rintro n ρ M' ⟨acc, o', l', rfl, rfl, rfl, hc', he⟩ K hK
  cases hc' with
  | nil =>
    simp at he
    subst he
    simp [od]
    rw [clipR_rf (mo := .lst (nD acc)) (by simp), clip_out hp, clip_self]
    exact hq p hp
  | @cons i o2 l2 e c =>
    have : acc.length < 16777216 := by
      have := congrArg List.length he
      simp at this
      omega
    simp [od, hD, e, sizeLine_eq, this]
    exact hK _ _ _ (by simp) ⟨acc ++ [i], o2, l2, rfl, rfl, by simp [nD, od], c, by simpa using he⟩
theorem nD_drop (l : List Nat) (k : Nat) : (nD l).drop k = nD (l.drop k) := by simp [nD, List.map_drop]
theorem pure_ring_from : ∀ ds M Q E, sp_ring_from ds M Q E → bd_ring_from (endsOf (fun d M' => Q d (clip M M')) (fun x M' => E x (clip M M'))) (startD 4 ds) M := by
  rintro _ M Q E ⟨h, b, rfl, bd, hl, hb, hq⟩
  simp [bd_ring_from, startD, sizeLine_eq]
  intro p hp
  refine while_rule (fun n ρ M' => ∃ acc o, ρ = [some (hD h), some (.int b), some (rf p), some (od o)] ∧ M' = mup M p (.lst (nD acc)) ∧ rgo h n acc o = ringFrom h b ∧ acc.Nodup ∧ (∀ i ∈ acc, i < h.length) ∧ (∀ i, o = some i → i < h.length) ∧ n + acc.length = h.length + 1) (h.length + 1)
    ⟨[], some b, rfl, rfl, rfl, by simp, by simp, fun i e => by cases e; exact hb, rfl⟩ ?_
  rintro n ρ M' ⟨acc, o, rfl, rfl, hr, nd, hlt, ho, hn⟩ K hK
  have hal := pigeon nd hlt
  obtain ⟨n, rfl⟩ : ∃ m, n = m + 1 := ⟨n - 1, by omega⟩
  cases o with
  | none =>
    have hr' : ([] : List Nat) = ringFrom h b := hr
    rw [← hr'] at hq
    simp [od, clip_out hp, sizeLine_eq]
    exact hq
  | some i =>
    have hi := ho i rfl
    obtain ⟨o2, ho2⟩ := get_lt rfl hi
    by_cases z : i ∈ acc
    · have hr' : acc.drop (ix acc i) = ringFrom h b := by rw [← hr]; simp [rgo, z]
      rw [← hr'] at hq
      simp [od, z]
      refine ⟨nD acc, _, ix acc i, .int (i : Int), by simp, rfl, by simp, by simp, by rw [nD_get, ix_at z]; rfl, by simp, fun m z' hm hz' => ?_, ?_⟩
      · rw [nD_get] at hz'
        cases hx : acc[m]? with
        | none => rw [hx] at hz'; cases hz'
        | some x =>
          rw [hx] at hz'
          cases hz'
          have := ix_first hm hx
          simp
          omega
      · simp [nD_drop, clip_out hp]
        exact hq
    · have hr' : rgo h n (acc ++ [i]) o2 = ringFrom h b := by rw [← hr]; simp [rgo, z, ho2]
      have h1 : acc.length < 16777216 := by omega
      simp [od, z, ho2, sizeLine_eq, h1]
      refine hK n _ _ (by omega) ⟨acc ++ [i], o2, rfl, by simp [nD], hr', ?_, ?_, ?_, by simp; omega⟩
      · rw [List.nodup_append]
        exact ⟨nd, by simp, fun a ha b' hb' => by simp at hb'; rw [hb']; exact fun e => z (e ▸ ha)⟩
      · intro j hj
        rcases List.mem_append.mp hj with q | q
        · exact hlt j q
        · simp at q; omega
      · intro j e
        exact bd i j (by rw [ho2, e])
theorem find_none {l : List Nat} {q : Nat → Bool} (h : ∀ x ∈ l, q x = false) : l.find? q = none := by
  rw [List.find?_eq_none]
  intro x hx
  simp [h x hx]
theorem find_at {n : Nat} {q : Nat → Bool} {i : Nat} (hi : i < n) (h : q i = true) (hb : ∀ j, j < i → q j = false) : (List.range n).find? q = some i :=
  List.find?_range_eq_some.mpr ⟨h, by simpa using hi, fun j hj => by simp [hb j hj]⟩
theorem find_spec {n : Nat} {q : Nat → Bool} {i : Nat} (h : (List.range n).find? q = some i) : i < n ∧ q i = true ∧ ∀ j, j < i → q j = false := by
  obtain ⟨h1, h2, h3⟩ := List.find?_range_eq_some.mp h
  exact ⟨by simpa using h2, h1, fun j hj => by simpa using h3 j hj⟩
theorem find_no {n : Nat} {q : Nat → Bool} (h : (List.range n).find? q = none) : ∀ j, j < n → q j = false := fun j hj => by
  have := List.find?_eq_none.mp h j (by simpa using hj)
  simpa using this
theorem pure_first_in_itself : ∀ ds M Q E, sp_first_in_itself ds M Q E → bd_first_in_itself (endsOf (fun d M' => Q d (clip M M')) (fun x M' => E x (clip M M'))) (startD 2 ds) M := by
  rintro _ M Q E ⟨h, rfl, bd, hl, hq⟩
  simp [bd_first_in_itself, startD]
  refine ⟨by omega, for_rule (fun i ρ M' => (M' = M ∧ ∃ v, ρ = [some (hD h), v]) ∧ ∀ j, j < i → decide (j ∈ ringFrom h j) = false) ⟨⟨rfl, _, rfl⟩, fun j hj => absurd hj (by omega)⟩ ?_ ?_⟩
  · rintro i d ρ M' hd ⟨⟨rfl, v, rfl⟩, hI⟩ K hK
    rw [rngD_get] at hd
    split at hd
    · rename_i hi
      cases hd
      simp [sp_ring_from, and_assoc]
      refine ⟨bd, hl, hi, ?_⟩
      by_cases z : i ∈ ringFrom h i
      · have e : selfOf h = some i := find_at hi (by simpa using z) hI
        rw [e] at hq
        simp [z]
        exact hq
      · simp [z]
        refine hK _ _ ⟨⟨rfl, _, rfl⟩, fun j hj => ?_⟩
        by_cases e : j = i
        · subst e; simpa using z
        · exact hI j (by omega)
    · cases hd
  · rintro ρ M' ⟨⟨rfl, v, rfl⟩, hI⟩
    rw [rngD_len] at hI
    have e : selfOf h = none := find_none fun x hx => hI x (by simpa using hx)
    rw [e] at hq
    simpa [od] using hq
theorem self_acy {h : Hld} (ac : Acy h) : selfOf h = none := find_none fun x hx => by
  have hx : x < h.length := by simpa using hx
  rw [ring_acy ac hx]
  rfl
end Nb
set_option Elab.async false
set_option linter.all false
set_option maxRecDepth 100000
set_option maxHeartbeats 1000000
set_option autoImplicit false
namespace Nb
open PySem PySem.Spec PyProof.Rows L2
theorem eqv_yd_nil {y : List Bx} (h : 0 < y.length) : PyData.eqv (yd y) (.tuple []) = false := by
  cases y with
  | nil => exact absurd h (by decide)
  | cons b y => rfl
theorem Yok.prI {y : List Bx} (ok : Yok y) {i : Nat} {b : Bx} (hb : y[i]? = some b) : prB b.1 = true := by
  have hm : b ∈ y := List.mem_iff_getElem?.mpr ⟨i, hb⟩
  obtain ⟨p, o⟩ := b
  cases p with
  | none => rfl
  | some p => simpa [prB] using ok.pr _ hm p rfl
theorem Acy.hoI {h : Hld} (a : Acy h) {i : Nat} {o : Option Nat} (e : h[i]? = some o) : hoB o h.length = true := by
  cases o with
  | none => rfl
  | some k =>
    have := a.lt e
    simp [hoB]
    omega
theorem hold_len (y : List Bx) : (hold y).length = y.length := by simp [hold]
theorem hold_get {y : List Bx} {i : Nat} {b : Bx} (h : y[i]? = some b) : (hold y)[i]? = some b.2 := by simp [hold, h]
theorem isTup_ty {d : Dat} (h : plnB d = true) (M : Mem) : isTy .tuple d M = some (isTupD d) := by cases d <;> first | rfl | cases h
theorem yok_box {y : List Bx} (ok : Yok y) {i : Nat} {b : Bx} (hb : y[i]? = some b) : prB b.1 = true ∧ hoB b.2 (y.length : Int) = true := by
  refine ⟨ok.prI hb, ?_⟩
  have h5 := ok.ac.hoI (hold_get hb)
  rwa [hold_len] at h5
theorem sh0_num {n : Int} : SeqAt.shaped (.int n) = true := rfl
theorem pln_vw {d : Dat} (h : plnB d = true) (M : Mem) : vw d M = d := by cases d <;> first | rfl | cases h
theorem boxB_inv {d : Dat} {n : Int} (h : boxB d n = true) : ∃ p x, d = .tuple [p, x] ∧ prD p = true ∧ holB x n = true := by
  unfold boxB at h
  split at h
  · rename_i p x
    simp at h
    exact ⟨p, x, rfl, h.1, h.2⟩
  · cases h
/-- one turn of need_yard's look at the boxes -/
theorem need_turn {d : Dat} {x : Dat} {i : Nat} {n : Int} {Q : DEnds} {v w : Option Dat} {M : Mem} (hn : gLen [d] M = fun Q => Q (.int n) M) (hx : PlBox x) (h12 : i = 12 ∨ boxB x n = false → Q.ex (numX "BadYard" (i : Int)) [some d, some (.int (i : Int)), some x] M) (hok : i ≠ 12 → boxB x n = true → Q.nx [some d, some (.int (i : Int)), some x] M) :
    (dSeq (dIfS (dOrT (dB (dOp gEq (dVar 1) (dC (.int 12)))) (dOrT (dNotT (dB (dIsi .tuple (dVar 2)))) (dB (dOp gNe (dBlt gLen (dCons (dVar 2) dNil)) (dC (.int 2)))))) (dRaise "BadYard" ["number"] (dCons (dVar 1) dNil)) dNext)
  (dIfS (dOrT (dNotT (dB (dCall sp_is_price (dCons (dOp gIx (dVar 2) (dC (.int 0))) dNil)))) (dNotT (dB (dCall sp_is_holder (dCons (dOp gIx (dVar 2) (dC (.int 1))) (dCons (dBlt gLen (dCons (dVar 0) dNil)) dNil)))))) (dRaise "BadYard" ["number"] (dCons (dVar 1) dNil)) dNext)) Q [some d, some (.int (i : Int)), some x] M := by
  have bad : ∀ {h : i = 12 ∨ boxB x n = false}, Q.ex ⟨"BadYard", ["number"], [.int (i : Int)]⟩ [some d, some (.int (i : Int)), some x] M := fun {h} => h12 h
  by_cases e : i = 12
  · have e2 : (i : Int) = 12 := by omega
    simp [e2]
    have := bad (h := .inl e)
    rw [e2] at this
    exact this
  have e2 : ¬ (i : Int) = 12 := by omega
  obtain ⟨hp, hl⟩ := hx
  cases x with
  | dict _ => cases hp
  | tuple l =>
    obtain ⟨hl1, hl2⟩ := hl l rfl
    match l, hl2 with
    | [], _ => simp [e2]; exact bad (h := .inr rfl)
    | [a], _ => simp [e2]; exact bad (h := .inr rfl)
    | a :: b :: c :: r, _ =>
      have hne : ¬ ((r.length : Int) + 1 + 1 + 1 = 2) := by omega
      simp [e2, hne]
      exact bad (h := .inr rfl)
    | [a, b], hl2 =>
      have pa := hl2 a (by simp)
      have pb := hl2 b (by simp)
      have eb : boxB (.tuple [a, b]) n = (prD a && holB b n) := rfl
      rw [eb] at hok bad
      cases h1 : prD a with
      | false =>
        simp [e2, sp_is_price, and_assoc, pa, h1]
        exact bad (h := .inr (by rw [h1]; rfl))
      | true =>
        simp [e2, sp_is_price, sp_is_holder, and_assoc, pa, pb, h1, hn]
        cases h2 : holB b n with
        | false =>
          simp
          exact bad (h := .inr (by rw [h1, h2]; rfl))
        | true =>
          simp
          exact hok e (by rw [h1, h2]; rfl)
  | _ => simp [e2, isTy]; exact bad (h := .inr rfl)
theorem pure_need_yard : ∀ ds M Q E, sp_need_yard ds M Q E → bd_need_yard (endsOf (fun d M' => Q d (clip M M')) (fun x M' => E x (clip M M'))) (startD 3 ds) M := by
  have good : ∀ (y : List Bx) (M : Mem) (Q : DQ) (E : XQ), 0 < y.length → y.length ≤ 12 → (∀ b ∈ y, prB b.1 = true ∧ hoB b.2 (y.length : Int) = true) → Bnd (hold y) → (match selfOf (hold y) with | none => Q .none M | some n => E (numX "BadYard" (n : Int)) M) →
      bd_need_yard (endsOf (fun d M' => Q d (clip M M')) (fun x M' => E x (clip M M'))) (startD 3 [yd y]) M := by
    intro y M Q E h1 h2 hb bd hq
    have ne := eqv_yd_nil h1
    simp [bd_need_yard, startD, ne, sizeLine_eq, -u22]
    refine seq_mid (fun ρ' M' => M' = M ∧ ρ' = [some (yd y), none, none]) ?_ ?_
    · intro R hR
      simp [ne]
      exact hR _ _ ⟨rfl, rfl⟩
    rintro _ M ⟨rfl, rfl⟩
    refine seq_mid (fun ρ' M' => M' = M ∧ ∃ v w, ρ' = [some (yd y), v, w]) ?_ ?_
    · intro R hR
      simp only [u30, v_en, u4, u3, u0, List.getElem?_cons_zero, w_en4]
      refine for_rule (fun i ρ M' => M' = M ∧ ∃ v w, ρ = [some (yd y), v, w]) ⟨rfl, _, _, rfl⟩ ?_ ?_
      · rintro i d ρ M' hd ⟨rfl, v, w, rfl⟩ K hK
        rw [enumD_get] at hd
        simp only [List.getElem?_map] at hd
        cases hb' : y[i]? with
        | none => rw [hb'] at hd; simp at hd
        | some b =>
          rw [hb'] at hd
          have hi : i < y.length := (List.getElem?_eq_some_iff.mp hb').1
          simp at hd
          subst hd
          obtain ⟨b1, b2⟩ := hb b (List.mem_of_getElem? hb')
          have hbx : boxB (bxD b) (y.length : Int) = true := by simp [boxB, bxD, b1, b2]
          simp only [v_tp, w_tp1, u32, u29, u33, List.set_cons_succ, List.set_cons_zero]
          refine ⟨rfl, need_turn (n := (y.length : Int)) (v := none) (w := none) (by funext Q; simp) ⟨rfl, fun l e => ?_⟩ (fun h => ?_) (fun _ _ => hK _ _ ⟨rfl, _, _, rfl⟩)⟩
          · simp [bxD] at e
            subst e
            refine ⟨by simp, fun z hz => ?_⟩
            simp at hz
            rcases hz with rfl | rfl
            · exact pln_op _
            · exact pln_od _
          · rcases h with z | z
            · omega
            · rw [hbx] at z; cases z
      · rintro ρ M' ⟨rfl, v, w, rfl⟩
        exact hR _ _ ⟨rfl, _, _, rfl⟩
    rintro _ M ⟨rfl, v, w, rfl⟩
    simp [sp_holders_of, sp_first_in_itself, h2, hold_len, bd]
    cases hs : selfOf (hold y) with
    | none =>
      rw [hs] at hq
      simp [od]
      simpa using hq
    | some n =>
      rw [hs] at hq
      simp [od]
      simpa [numX] using hq
  rintro _ M Q E (⟨y, rfl, ok, hq⟩ | ⟨d, n, rfl, hb, hq⟩)
  · refine good y M Q E ok.pos ok.le (fun b hb => ?_) (Acy.bnd ok.ac) ?_
    · obtain ⟨i, hi⟩ := List.mem_iff_getElem?.mp hb
      exact yok_box ok hi
    · rw [self_acy ok.ac]
      exact hq
  rcases hb with ⟨rfl, hp, ht⟩ | ⟨rfl, rfl⟩ | ⟨l, rfl, hne, hl, hs, hx, hbad⟩ | ⟨y, rfl, h1, h2, hbx, hs⟩
  · cases d with
    | dict _ => cases hp
    | tuple l => cases ht
    | _ => simp [bd_need_yard, startD, isTy]; simpa [numX] using hq
  · have e : PyData.eqv (.tuple []) (.tuple []) = true := rfl
    simp [bd_need_yard, startD, e, sizeLine_eq]
    simpa [numX] using hq
  · obtain ⟨hn, hbn, hbj⟩ := find_spec hbad
    have e : PyData.eqv (.tuple l) (.tuple []) = false := by
      cases l with
      | nil => exact absurd rfl hne
      | cons a l => rfl
    simp only [bd_need_yard]
    refine seq_mid (fun ρ' M' => M' = M ∧ ρ' = [some (.tuple l), none, none]) ?_ ?_
    · intro R hR
      simp [startD, e, hs, sizeLine_eq]
      exact hR _ _ ⟨rfl, rfl⟩
    rintro _ M ⟨rfl, rfl⟩
    refine seq_mid (fun _ _ => False) ?_ (fun _ _ z => z.elim)
    intro R hR
    simp only [u30, v_en, u4, u3, u0, List.getElem?_cons_zero, w_en2]
    refine for_rule (fun i ρ M' => M' = M ∧ i ≤ n ∧ ∃ v w, ρ = [some (.tuple l), v, w]) ⟨rfl, Nat.zero_le _, _, _, rfl⟩ ?_ ?_
    · rintro i d ρ M' hd ⟨rfl, hin, v, w, rfl⟩ K hK
      rw [enumD_get] at hd
      cases hb' : l[i]? with
      | none => rw [hb'] at hd; simp at hd
      | some x =>
        rw [hb'] at hd
        have hi : i < l.length := (List.getElem?_eq_some_iff.mp hb').1
        simp at hd
        subst hd
        simp only [v_tp, w_tp1, u32, u29, u33, List.set_cons_succ, List.set_cons_zero]
        refine ⟨rfl, need_turn (n := (l.length : Int)) (v := none) (w := none) (by funext Q; simp) (hx x (List.mem_of_getElem? hb')) (fun h => ?_) (fun h1 h2 => ?_)⟩
        · have : i = n := by
            refine Classical.byContradiction fun z => ?_
            have := hbj i (by omega)
            rw [hb'] at this
            simp at this
            rcases h with q | q
            · exact this.1 q
            · rw [this.2] at q; cases q
          subst this
          simpa [numX] using hq
        · refine hK _ _ ⟨rfl, ?_, _, _, rfl⟩
          have : i ≠ n := fun z => by
            subst z
            rw [hb'] at hbn
            simp [h1, h2] at hbn
          omega
    · rintro ρ M' ⟨rfl, hin, v, w, rfl⟩
      rw [enumD_len] at hin
      omega
  · refine good y M Q E h1 h2 hbx (fun i j h => ?_) ?_
    · rw [hold_len]
      obtain ⟨b, hb, he⟩ : ∃ b, y[i]? = some b ∧ b.2 = some j := by
        simp only [hold, List.getElem?_map] at h
        cases hb : y[i]? with
        | none => rw [hb] at h; cases h
        | some b => rw [hb] at h; exact ⟨b, rfl, by simpa using h⟩
      have := (hbx b (List.mem_of_getElem? hb)).2
      rw [he] at this
      simp [hoB] at this
      omega
    · rw [hs]; exact hq
end Nb
set_option Elab.async false
set_option linter.all false
set_option maxRecDepth 100000
set_option maxHeartbeats 1000000
set_option autoImplicit false
namespace Nb
open PySem PySem.Spec PyProof.Rows L2
theorem some_len (y : List Bx) (g : Hld) : (someL y g).length ≤ y.length := by
  have := List.length_filter_le (fun i => decide ((hold y)[i]? ≠ g[i]?)) (List.range y.length)
  simpa [someL] using this
theorem rngD_eq (n : Nat) : rngD 0 n = nD (List.range n) := by
  apply List.ext_getElem?
  intro i
  rw [rngD_get]
  simp only [nD, List.getElem?_map, List.getElem?_range']
  by_cases h : i < n
  · simp [h]
  · simp [h]
theorem clip_set {M : Mem} {p : Nat} {o u : MO} (h : M p = some u) : clip M (mup M p o) = mup M p o := by
  rw [clip_in (by rw [h]; rfl), clip_self]
theorem fm_filter (l : List Nat) (f : Dat → Option Dat) (q : Nat → Bool) (h : ∀ k ∈ l, f (.int (k : Int)) = if q k then some (.int (k : Int)) else none) : (nD l).filterMap f = nD (l.filter q) := by
  induction l with
  | nil => rfl
  | cons a l ih =>
    have h1 := h a (by simp)
    have h2 := ih fun k hk => h k (by simp [hk])
    simp only [nD, List.map_cons, List.filterMap_cons, h1] at h2 ⊢
    by_cases z : q a = true
    · simp [z, h2]
    · simp [z, h2]
theorem mem_rng {n : Nat} {d : Dat} (h : d ∈ rngD 0 n) : ∃ k, k < n ∧ d = .int (k : Int) := by
  rw [rngD_eq] at h
  obtain ⟨k, hk, rfl⟩ := List.mem_map.mp h
  exact ⟨k, by simpa using hk, rfl⟩
theorem fm_any (l : List Nat) (f : Nat → Dat) : (nD l).filterMap (fun d => match d with | .int (Int.ofNat k) => some (f k) | _ => none) = l.map f := by
  induction l with
  | nil => rfl
  | cons a l ih => simp only [nD, List.map_cons, List.filterMap_cons] at ih ⊢; rw [ih]
theorem mem_nD {l : List Nat} {d : Dat} (h : d ∈ nD l) : ∃ k ∈ l, d = .int (k : Int) := by
  obtain ⟨k, hk, rfl⟩ := List.mem_map.mp h
  exact ⟨k, hk, rfl⟩
theorem some_lt {y : List Bx} {g : Hld} {k : Nat} (h : k ∈ someL y g) : k < y.length := by
  simp [someL] at h
  exact h.1
theorem get_y {y : List Bx} {k : Nat} (h : k < y.length) : ∃ b, y[k]? = some b ∧ price y k = b.1 := ⟨y[k], by simp [h], by simp [price, h]⟩
def onI (f : Nat → Dat) (d : Dat) : Option Dat := match d with
  | .int (Int.ofNat k) => some (f k)
  | _ => none
theorem fm_onI (f : Nat → Dat) (l : List Nat) : (nD l).filterMap (onI f) = l.map f := by
  induction l with
  | nil => rfl
  | cons a l ih => simp only [nD, List.map_cons, List.filterMap_cons] at ih ⊢; rw [ih]; rfl
@[simp] theorem onI_int (f : Nat → Dat) (k : Nat) : onI f (.int (k : Int)) = some (f k) := rfl
def onIf (q : Nat → Bool) (f : Nat → Dat) (d : Dat) : Option Dat := match d with
  | .int (Int.ofNat k) => if q k = true then some (f k) else none
  | _ => none
@[simp] theorem onIf_int (q : Nat → Bool) (f : Nat → Dat) (k : Nat) : onIf q f (.int (k : Int)) = if q k = true then some (f k) else none := rfl
theorem fm_onIf (q : Nat → Bool) (f : Nat → Dat) (l : List Nat) : (nD l).filterMap (onIf q f) = (l.filter q).map f := by
  induction l with
  | nil => rfl
  | cons a l ih =>
    have e : onIf q f (.int (a : Int)) = if q a = true then some (f a) else none := rfl
    simp only [nD, List.map_cons, List.filterMap_cons, e] at ih ⊢
    by_cases h : q a = true
    · simp [h, ih]
    · simp [h, ih]
theorem goal_turns {y : List Bx} {l : List Dat} {M : Mem} {Q : DEnds} {v w : Option Dat} {k : Nat} (hk : k ≤ l.length) (hp : ∀ x ∈ l, plnB x = true) (hok : ∀ j, j < k → (decide (j = y.length) || !holB ((l[j]?).getD .none) (y.length : Int)) = false)
    (hbad : k < l.length → (decide (k = y.length) || !holB ((l[k]?).getD .none) (y.length : Int)) = true ∧ ∀ v, Q.ex (numX "BadGoal" (k : Int)) [some (yd y), some (.tuple l), some (.int (k : Int)), v] M) (hend : k = l.length → ∀ v w, Q.nx [some (yd y), some (.tuple l), v, w] M) :
    dForL (gTupD 2 (gConsD (gN 2) (gConsD (gN 3) gNilD))) (dIfS (dOrT (dB (dOp gEq (dVar 2) (dBlt gLen (dCons (dVar 0) dNil)))) (dNotT (dB (dCall sp_is_holder (dCons (dVar 3) (dCons (dBlt gLen (dCons (dVar 0) dNil)) dNil)))))) (dRaise "BadGoal" ["number"] (dCons (dVar 2) dNil)) dNext) Q (enumD 0 l) [some (yd y), some (.tuple l), v, w] M := by
  refine for_rule (fun i ρ M' => M' = M ∧ i ≤ k ∧ ∃ v w, ρ = [some (yd y), some (.tuple l), v, w]) ⟨rfl, Nat.zero_le _, _, _, rfl⟩ ?_ ?_
  · rintro i d ρ M' hd ⟨rfl, hik, v, w, rfl⟩ K hK
    rw [enumD_get] at hd
    cases hb : l[i]? with
    | none => rw [hb] at hd; cases hd
    | some x =>
      rw [hb] at hd
      have hi : i < l.length := (List.getElem?_eq_some_iff.mp hb).1
      have px := hp x (List.mem_of_getElem? hb)
      simp at hd
      subst hd
      simp
      by_cases h1 : i < k
      · have := hok i h1
        rw [hb] at this
        simp at this
        have e2 : ¬ i = y.length := by omega
        simp [e2, sp_is_holder, and_assoc, px, this.2]
        exact hK _ _ ⟨rfl, h1, _, _, rfl⟩
      · obtain rfl : i = k := by omega
        obtain ⟨h2, h3⟩ := hbad hi
        rw [hb] at h2
        simp at h2
        by_cases e : i = y.length
        · simp [e]
          have := h3 (some x)
          simp [numX, e] at this
          rw [← e] at this ⊢
          exact this
        · have e2 : ¬ i = y.length := e
          have h4 : holB x (y.length : Int) = false := h2.resolve_left e
          simp [e2, sp_is_holder, and_assoc, px, h4]
          exact h3 _
  · rintro ρ M' ⟨rfl, hik, v, w, rfl⟩
    rw [enumD_len] at hik
    exact hend (by omega) v w
theorem goal_ok {y : List Bx} {g : Hld} (hl : g.length = y.length) (bd : Bnd g) : (∀ x ∈ g.map od, plnB x = true) ∧ ∀ j, j < (g.map od).length → (decide (j = y.length) || !holB (((g.map od)[j]?).getD .none) (y.length : Int)) = false := by
  refine ⟨fun x hx => ?_, fun j hj => ?_⟩
  · obtain ⟨o, _, rfl⟩ := List.mem_map.mp hx
    exact pln_od o
  · rw [List.length_map] at hj
    obtain ⟨o, ho⟩ := get_lt rfl hj
    rw [List.getElem?_map, ho]
    simp
    refine ⟨by omega, ?_⟩
    cases o with
    | none => rfl
    | some k =>
      have := bd j k ho
      simp [hoB]
      omega
theorem pure_need_goal : ∀ ds M Q E, sp_need_goal ds M Q E → bd_need_goal (endsOf (fun d M' => Q d (clip M M')) (fun x M' => E x (clip M M'))) (startD 4 ds) M := by
  have good : ∀ (y : List Bx) (g : Hld) (M : Mem) (Q : DQ) (E : XQ), y.length ≤ 12 → g.length = y.length → Bnd g → (match selfOf g with | none => Q .none M | some n => E (numX "BadGoal" (n : Int)) M) →
      bd_need_goal (endsOf (fun d M' => Q d (clip M M')) (fun x M' => E x (clip M M'))) (startD 4 [yd y, hD g]) M := by
    intro y g M Q E h2 hl bd hq
    obtain ⟨g1, g2⟩ := goal_ok hl bd
    simp only [bd_need_goal]
    refine seq_mid (fun ρ' M' => M' = M ∧ ρ' = [some (yd y), some (hD g), none, none]) ?_ ?_
    · intro R hR
      simp [startD]
      exact hR _ _ ⟨rfl, rfl⟩
    rintro _ M ⟨rfl, rfl⟩
    refine seq_mid (fun ρ' M' => M' = M ∧ ∃ v w, ρ' = [some (yd y), some (hD g), v, w]) ?_ ?_
    · intro R hR
      simp only [u30, v_en, u4, u3, u0, List.getElem?_cons_zero, List.getElem?_cons_succ, w_en3]
      exact goal_turns (k := (g.map od).length) (Nat.le_refl _) g1 g2 (fun h => absurd h (by omega)) fun _ v w => hR _ _ ⟨rfl, _, _, rfl⟩
    rintro _ M ⟨rfl, v, w, rfl⟩
    have e : ¬ (g.length : Int) < y.length := by omega
    simp [e, sp_first_in_itself, bd, hl, h2]
    cases hs : selfOf g with
    | none =>
      rw [hs] at hq
      simp [od]
      simpa using hq
    | some n =>
      rw [hs] at hq
      simp [od]
      simpa [numX] using hq
  rintro _ M Q E (⟨y, g, rfl, h2, hl, ac, hq⟩ | ⟨y, d, n, rfl, h2, hb, hq⟩)
  · refine good y g M Q E h2 hl ac.bnd ?_
    rw [self_acy ac]
    exact hq
  rcases hb with ⟨rfl, hp, ht⟩ | ⟨l, rfl, hl, hp, hbad⟩ | ⟨g, rfl, hl, bd, hs⟩
  · cases d with
    | dict _ => cases hp
    | tuple l => cases ht
    | _ => simp [bd_need_goal, startD, isTy]; simpa [numX] using hq
  · simp only [bd_need_goal]
    refine seq_mid (fun ρ' M' => M' = M ∧ ρ' = [some (yd y), some (.tuple l), none, none]) ?_ ?_
    · intro R hR
      simp [startD]
      exact hR _ _ ⟨rfl, rfl⟩
    rintro _ M ⟨rfl, rfl⟩
    rcases hbad with hbad | ⟨hno, hlt, rfl⟩
    · obtain ⟨hn, hbn, hbj⟩ := find_spec hbad
      refine seq_mid (fun _ _ => False) ?_ (fun _ _ z => z.elim)
      intro R hR
      simp only [u30, v_en, u4, u3, u0, List.getElem?_cons_zero, List.getElem?_cons_succ, w_en2]
      exact goal_turns (k := n) (Nat.le_of_lt hn) hp hbj (fun _ => ⟨hbn, fun v => by simpa using hq⟩) fun e => absurd e (by omega)
    · refine seq_mid (fun ρ' M' => M' = M ∧ ∃ v w, ρ' = [some (yd y), some (.tuple l), v, w]) ?_ ?_
      · intro R hR
        simp only [u30, v_en, u4, u3, u0, List.getElem?_cons_zero, List.getElem?_cons_succ, w_en2]
        exact goal_turns (k := l.length) (Nat.le_refl _) hp (find_no hno) (fun h => absurd h (by omega)) fun _ v w => hR _ _ ⟨rfl, _, _, rfl⟩
      rintro _ M ⟨rfl, v, w, rfl⟩
      refine seq_mid (fun _ _ => False) ?_ (fun _ _ z => z.elim)
      intro R hR
      have e : (l.length : Int) < y.length := by omega
      simp [e]
      simpa [numX] using hq
  · refine good y g M Q E h2 hl bd ?_
    rw [hs]
    exact hq
theorem pure_need_box : ∀ ds M Q E, sp_need_box ds M Q E → bd_need_box (endsOf (fun d M' => Q d (clip M M')) (fun x M' => E x (clip M M'))) (startD 2 ds) M := by
  rintro _ M Q E (⟨y, k, rfl, h2, hk, hq⟩ | ⟨y, d, rfl, h2, hp, hn, hq⟩)
  · have e : (k : Int) ≤ (y.length : Int) - 1 := by omega
    simp [bd_need_box, startD, sp_is_number, and_assoc, e]
    simpa using hq
  · simp [bd_need_box, startD, sp_is_number, and_assoc, hp, hn]
    simpa [X0] using hq
theorem chain_len (y : List Bx) (k : Nat) : (chI y k).length ≤ y.length := by
  have : ∀ (h : Hld) (n : Nat) (o : Option Nat), (upOf h n o).length ≤ n := by
    intro h n
    induction n with
    | zero => intro o; simp [upOf]
    | succ n ih =>
      intro o
      cases o with
      | none => simp [upOf]
      | some i => have := ih ((h[i]?).join); simp [upOf]; omega
  exact this _ _ _
theorem chain_at {y : List Bx} (ok : Yok y) {k : Nat} (hk : k < y.length) : ∃ o l, (hold y)[k]? = some o ∧ Ch (hold y) o l ∧ l = chI y k := by
  obtain ⟨o, ho⟩ := get_lt (hold_len y) hk
  obtain ⟨l, hc⟩ := ok.ac.at ho
  refine ⟨o, l, ho, hc, ?_⟩
  unfold chI
  rw [ho]
  have := hc.up y.length (by have := hc.len; rwa [hold_len] at this)
  exact this.symm
theorem pure_chain : ∀ ds M Q E, sp_chain ds M Q E → bd_chain (endsOf (fun d M' => Q d (clip M M')) (fun x M' => E x (clip M M'))) (startD 2 ds) M := by
  rintro _ M Q E (⟨y, k, rfl, ok, hk, hq⟩ | ⟨d, n, a, rfl, hb, hq⟩ | ⟨y, a, rfl, ok, hp, hn, hq⟩)
  · obtain ⟨o, l, ho, hc, rfl⟩ := chain_at ok hk
    simp [bd_chain, startD]
    refine .inl ⟨y, rfl, ok, ?_⟩
    simp
    refine .inl ⟨y, k, rfl, ok.le, hk, ?_⟩
    simp [sp_holders_of, ok.le]
    refine ⟨hold y, k, o, _, rfl, by rw [hold_len]; exact ok.le, ho, hc, ?_⟩
    simpa using hq
  · simp [bd_chain, startD]
    exact .inr ⟨d, n, rfl, hb, by simpa using hq⟩
  · simp [bd_chain, startD]
    refine .inl ⟨y, rfl, ok, ?_⟩
    simp
    exact .inr ⟨y, a, rfl, ok.le, hp, hn, by simpa using hq⟩
theorem pure_chainL : ∀ ds M Q E, sp_chainL ds M Q E → bd_chainL (endsOf (fun d M' => Q d (clipR M d M')) (fun x M' => E x (clip M M'))) (startD 2 ds) M := by
  rintro _ M Q E (⟨y, k, rfl, ok, hk, hq⟩ | ⟨d, n, a, rfl, hb, hq⟩ | ⟨y, a, rfl, ok, hp, hn, hq⟩)
  · obtain ⟨o, l, ho, hc, rfl⟩ := chain_at ok hk
    simp [bd_chainL, startD]
    refine .inl ⟨y, rfl, ok, ?_⟩
    simp
    refine .inl ⟨y, k, rfl, ok.le, hk, ?_⟩
    simp [sp_holders_of, ok.le]
    refine ⟨hold y, k, o, _, rfl, by rw [hold_len]; exact ok.le, ho, hc, fun p hp => ?_⟩
    show Q (rf p) (clipR M (rf p) _)
    rw [clipR_rf (mo := .lst (nD (chI y k))) (by simp), clip_out hp, clip_self]
    exact hq p hp
  · simp [bd_chainL, startD]
    exact .inr ⟨d, n, rfl, hb, by simpa using hq⟩
  · simp [bd_chainL, startD]
    refine .inl ⟨y, rfl, ok, ?_⟩
    simp
    exact .inr ⟨y, a, rfl, ok.le, hp, hn, by simpa using hq⟩
theorem inside_turns {y : List Bx} (ok : Yok y) {k : Nat} {M : Mem} {v : Option Dat} {K : List Dat → Mem → Prop} (hK : K (nD (inI y k)) M) : dLcL (gN 3) (dB (dOp gIn (dVar 1) (dCall sp_chain_of (dCons (dVar 2) (dCons (dVar 3) dNil))))) (dVar 3) (wipeD [some (yd y), some (.int (k : Int)), some (hD (hold y)), v] [3]) (rngD 0 y.length) [] M K := by
  have hy := ok.le
  refine lc_pure (onIf (fun i => decide (k ∈ chI y i)) fun (i : Nat) => .int (i : Int)) (by rw [rngD_len, sizeLine_eq]; omega) ?_ ?_
  · intro d hd acc K ha hk
    obtain ⟨i, hi, rfl⟩ := mem_rng hd
    obtain ⟨o, l, ho, hc, rfl⟩ := chain_at ok hi
    simp [wipeD, sp_chain_of, and_assoc]
    refine ⟨by rw [hold_len]; exact hy, o, ho, _, hc, ?_⟩
    by_cases z : k ∈ chI y i
    · simp [z] at hk ⊢; exact ⟨ha, hk⟩
    · simp [z] at hk ⊢; exact hk
  · rw [rngD_eq, fm_onIf]
    exact hK
theorem pure_inside : ∀ ds M Q E, sp_inside ds M Q E → bd_inside (endsOf (fun d M' => Q d (clip M M')) (fun x M' => E x (clip M M'))) (startD 4 ds) M := by
  rintro _ M Q E (⟨y, k, rfl, ok, hk, hq⟩ | ⟨d, n, a, rfl, hb, hq⟩ | ⟨y, a, rfl, ok, hp, hn, hq⟩)
  · have hy := ok.le
    simp [bd_inside, startD]
    refine .inl ⟨y, rfl, ok, ?_⟩
    simp
    refine .inl ⟨y, k, rfl, ok.le, hk, ?_⟩
    simp [sp_holders_of, ok.le]
    refine ⟨by omega, ?_⟩
    exact inside_turns (v := none) ok (by simpa using hq)
  · simp [bd_inside, startD]
    exact .inr ⟨d, n, rfl, hb, by simpa using hq⟩
  · simp [bd_inside, startD]
    refine .inl ⟨y, rfl, ok, ?_⟩
    simp
    exact .inr ⟨y, a, rfl, ok.le, hp, hn, by simpa using hq⟩
@[simp] theorem u_lcL (it : DI) (g : DG) (t : DT) (elt : DE) (vs : List Nat) (ρ : Rho) (M : Mem) (Q : DQ) (E : XQ) : dLcLive it g t elt vs ρ M Q E = it ρ M (fun ds M1 => dLcL g t elt (wipeD ρ vs) ds [] M1 fun out M2 => ∀ p, M2 p = none → Q (rf p) (mup M2 p (.lst out))) E := rfl
theorem clipR_new {M : Mem} {p : Nat} {l : List Dat} (hp : M p = none) : clipR M (rf p) (mup M p (.lst l)) = mup M p (.lst l) := by
  rw [clipR_rf (mo := .lst l) (by simp), clip_out hp, clip_self]
theorem pure_insideL : ∀ ds M Q E, sp_insideL ds M Q E → bd_insideL (endsOf (fun d M' => Q d (clipR M d M')) (fun x M' => E x (clip M M'))) (startD 4 ds) M := by
  rintro _ M Q E (⟨y, k, rfl, ok, hk, hq⟩ | ⟨d, n, a, rfl, hb, hq⟩ | ⟨y, a, rfl, ok, hp, hn, hq⟩)
  · have hy := ok.le
    simp [bd_insideL, startD]
    refine .inl ⟨y, rfl, ok, ?_⟩
    simp
    refine .inl ⟨y, k, rfl, ok.le, hk, ?_⟩
    simp [sp_holders_of, ok.le]
    refine ⟨by omega, ?_⟩
    exact inside_turns (v := none) ok fun p hp => by
      show Q (rf p) (clipR M (rf p) _)
      rw [clipR_new hp]
      exact hq p hp
  · simp [bd_insideL, startD]
    exact .inr ⟨d, n, rfl, hb, by simpa using hq⟩
  · simp [bd_insideL, startD]
    refine .inl ⟨y, rfl, ok, ?_⟩
    simp
    exact .inr ⟨y, a, rfl, ok.le, hp, hn, by simpa using hq⟩
theorem depth_turns {y : List Bx} (ok : Yok y) {M : Mem} {v : Option Dat} {K : List Dat → Mem → Prop} (hK : K (nD (dpI y)) M) : dLcL (gN 2) dYes (dBlt gLen (dCons (dCall sp_chain_of (dCons (dVar 1) (dCons (dVar 2) dNil))) dNil)) (wipeD [some (yd y), some (hD (hold y)), v] [2]) (rngD 0 y.length) [] M K := by
  have hy := ok.le
  refine lc_pure (onI fun i => .int (((chI y i).length : Nat) : Int)) (by rw [rngD_len, sizeLine_eq]; omega) ?_ ?_
  · intro d hd acc K ha hk
    obtain ⟨i, hi, rfl⟩ := mem_rng hd
    obtain ⟨o, l, ho, hc, rfl⟩ := chain_at ok hi
    simp [wipeD, sp_chain_of, and_assoc]
    refine ⟨by rw [hold_len]; exact hy, o, ho, _, hc, ?_⟩
    simp at hk ⊢
    exact ⟨ha, hk⟩
  · rw [rngD_eq, fm_onI]
    have e : (List.range y.length).map (fun i => PyData.int (((chI y i).length : Nat) : Int)) = nD (dpI y) := by simp [nD, dpI]
    rw [e]
    exact hK
theorem pure_depths : ∀ ds M Q E, sp_depths ds M Q E → bd_depths (endsOf (fun d M' => Q d (clip M M')) (fun x M' => E x (clip M M'))) (startD 3 ds) M := by
  rintro _ M Q E (⟨y, rfl, ok, hq⟩ | ⟨d, n, rfl, hb, hq⟩)
  · have hy := ok.le
    simp [bd_depths, startD]
    refine .inl ⟨y, rfl, ok, ?_⟩
    simp [sp_holders_of, ok.le]
    exact ⟨by omega, depth_turns (v := none) ok (by simpa using hq)⟩
  · simp [bd_depths, startD]
    exact .inr ⟨d, n, rfl, hb, by simpa using hq⟩
theorem pure_depthsL : ∀ ds M Q E, sp_depthsL ds M Q E → bd_depthsL (endsOf (fun d M' => Q d (clipR M d M')) (fun x M' => E x (clip M M'))) (startD 3 ds) M := by
  rintro _ M Q E (⟨y, rfl, ok, hq⟩ | ⟨d, n, rfl, hb, hq⟩)
  · have hy := ok.le
    simp [bd_depthsL, startD]
    refine .inl ⟨y, rfl, ok, ?_⟩
    simp [sp_holders_of, ok.le]
    refine ⟨by omega, depth_turns (v := none) ok fun p hp => ?_⟩
    show Q (rf p) (clipR M (rf p) _)
    rw [clipR_new hp]
    exact hq p hp
  · simp [bd_depthsL, startD]
    exact .inr ⟨d, n, rfl, hb, by simpa using hq⟩
end Nb
set_option Elab.async false
set_option linter.all false
set_option maxRecDepth 100000
set_option maxHeartbeats 2000000
set_option autoImplicit false
namespace Nb
open PySem PySem.Spec PyProof.Rows L2
/-! ### the law's own draws -/
theorem StOk.get {st : List Dat} (h : StOk st) : ∃ (ns : List Int) (c m r : Int), st = [.list (ns.map PyData.int), .int c, .int m, .int r] ∧ 0 ≤ c ∧ ns.length ≤ 63 := h
theorem StOk.mk' {ns : List Int} {c m r : Int} (hc : 0 ≤ c) (hl : ns.length ≤ 63) : StOk [.list (ns.map PyData.int), .int c, .int m, .int r] := ⟨ns, c, m, r, rfl, hc, hl⟩
theorem pure__law_start : ∀ ds M Q E, sp__law_start ds M Q E → bd__law_start (endsOf Q E) (startD 3 ds) M := by
  rintro _ M Q E ⟨ns, rfl, hl, hq⟩
  simp [bd__law_start, startD]
  refine for_rule (fun i ρ M' => M' = M ∧ ∃ (m : Int) (v : Option Dat), ρ = [some (.list (ns.map PyData.int)), some (.int m), v]) ⟨rfl, _, _, rfl⟩ ?_ ?_
  · rintro i d ρ M' hd ⟨rfl, m, v, rfl⟩ K hK
    rw [List.getElem?_map] at hd
    cases hb : ns[i]? with
    | none => rw [hb] at hd; simp at hd
    | some b =>
      rw [hb] at hd
      simp at hd
      subst hd
      simp
      exact ⟨Or.inr (by decide), hK _ _ ⟨rfl, _, _, rfl⟩⟩
  · rintro ρ M' ⟨rfl, m, v, rfl⟩
    simp [sizeLine_eq]
    exact fun p hp => hq p _ hp (StOk.mk' (by omega) hl)
theorem pure__law_drawn : ∀ ds M Q E, sp__law_drawn ds M Q E → bd__law_drawn (endsOf (fun d M' => Q d (clip M M')) (fun x M' => E x (clip M M'))) (startD 4 ds) M := by
  rintro _ M Q E ⟨p, st, many, rfl, hp, ⟨ns, c, m, r, rfl, hc, hl⟩, h0, h1, hq⟩
  have nn : ∀ z : Int, 0 ≤ z % many := fun z => Int.emod_nonneg z (by omega)
  have ll : ∀ z : Int, z % many < many := fun z => Int.emod_lt_of_pos z h0
  have cd : ∀ z : Int, CDiv z many := fun z => ⟨h0, by omega⟩
  have fin : ∀ (z : Int) (ns : List Int) (c m r : Int), 0 ≤ c → ns.length ≤ 63 → Q (.int (z % many)) (mup M p (.lst [.list (ns.map PyData.int), .int c, .int m, .int r])) := fun z ns c m r hc hl => by
    have := hq (z % many).toNat _ (by have := nn z; have := ll z; omega) (StOk.mk' (m := m) (r := r) hc hl)
    rw [Int.toNat_of_nonneg (nn z)] at this
    exact this
  simp [bd__law_drawn, startD, hp]
  by_cases hr : 0 < r
  · simp [hr, h0, cd, gSubD, hp, ixN]
    rw [clip_set hp]
    exact fin _ _ _ _ _ hc hl
  · simp [hr, gSubD, hp, ixN]
    have e : (c + 1).toNat = c.toNat + 1 := by omega
    by_cases hc2 : c + 1 ≤ ns.length
    · have hc3 : c.toNat < ns.length := by omega
      have e2 : c = (c.toNat : Int) := by omega
      obtain ⟨z, hz⟩ : ∃ z, ns[c.toNat]? = some z := ⟨ns[c.toNat], by simp [hc3]⟩
      simp [hc2]
      have e3 : atI (List.map PyData.int ns) c = some (.int z) := by
        rw [e2, atI_nat', List.getElem?_map]
        simp at hz ⊢
        simp [hz]
      have cp : CPow 10 18 := by refine ⟨by decide, by decide, by decide⟩
      simp [e3, cp, cd, h0]
      split
      · rw [clip_set hp]
        exact fin _ _ _ _ _ (by omega) hl
      · rw [clip_set hp]
        exact fin _ _ _ _ _ (by omega) hl
    · have cm : ∀ z : Int, CMul z 48271 := fun z => Or.inr (by decide)
      have c7 : ∀ z : Int, CDiv z 7 := fun z => ⟨by decide, by decide⟩
      simp [hc2, cm, c7, h0]
      rw [clip_set hp]
      exact fin _ _ _ _ _ (by omega) hl
@[simp] theorem eqv_nD_nil (l : List Nat) : PyData.eqv (.list (nD l)) (.list []) = l.isEmpty := by cases l <;> rfl
@[simp] theorem f_popAt (d : Dat) (i : Int) (M : Mem) (Q : DQ) : gPopAt d [.int i] M Q = ∃ p xs k y, d = rf p ∧ M p = some (.lst xs) ∧ ixN xs.length i = some k ∧ xs[k]? = some y ∧ Q y (mup M p (.lst (xs.eraseIdx k))) := by
  apply propext
  constructor
  · rintro ⟨p, xs, i', k, y, h1, h2, h3⟩
    cases h2
    exact ⟨p, xs, k, y, h1, h3⟩
  · rintro ⟨p, xs, k, y, h⟩
    exact ⟨p, xs, i, k, y, h.1, rfl, h.2⟩
theorem ixN_nat' {n j : Nat} (hj : j < n) : ixN n (j : Int) = some j := by
  unfold ixN
  rw [if_pos (by omega), if_pos (by omega)]
  simp
theorem perm_erase {l : List Nat} {k x : Nat} (h : l[k]? = some x) : l.Perm (x :: l.eraseIdx k) := by
  induction l generalizing k with
  | nil => simp at h
  | cons a l ih =>
    cases k with
    | zero =>
      simp at h
      subst h
      simp
    | succ k =>
      simp at h
      simp only [List.eraseIdx_cons_succ]
      exact ((ih h).cons a).trans (List.Perm.swap _ _ _)
theorem nD_erase (l : List Nat) (k : Nat) : (nD l).eraseIdx k = nD (l.eraseIdx k) := by
  induction l generalizing k with
  | nil => rfl
  | cons a l ih =>
    cases k with
    | zero => rfl
    | succ k =>
      show (PyData.int (a : Int)) :: (nD l).eraseIdx k = nD (a :: l.eraseIdx k)
      rw [ih]
      rfl
theorem mup_free {c : Prop} [Decidable c] {o : MO} {r : Option MO} (h : (if c then some o else r) = none) : ¬ c ∧ r = none := by
  split at h
  · cases h
  · rename_i z; exact ⟨z, h⟩
theorem pure__law_turned : ∀ ds M Q E, sp__law_turned ds M Q E → bd__law_turned (endsOf (fun d M' => Q d (clip M M')) (fun x M' => E x (clip M M'))) (startD 4 ds) M := by
  rintro _ M Q E ⟨p, st, n, rfl, hp, hst, hn, hq⟩
  simp [bd__law_turned, startD, RgOk, sizeLine_eq]
  refine ⟨⟨by omega, by omega⟩, fun a ha b hb => ?_⟩
  obtain ⟨hba, hb⟩ := mup_free hb
  have hpa : p ≠ a := fun z => by rw [z, ha] at hp; cases hp
  have hpb : p ≠ b := fun z => by rw [z, hb] at hp; cases hp
  refine while_rule (fun k ρ M' => ∃ left found st', k = left.length ∧ ρ = [some (rf p), some (.int n), some (rf a), some (rf b)] ∧ M' = mup (mup (mup M p (.lst st')) a (.lst (nD left))) b (.lst (nD found)) ∧ StOk st' ∧ (found ++ left).Perm (List.range n)) _
    ⟨List.range n, [], st, rfl, rfl, by rw [mup_self hp, rngD_eq]; rfl, hst, by simp⟩ ?_
  rintro k ρ M' ⟨left, found, st', rfl, rfl, rfl, hst', hpm⟩ K hK
  have hab : a ≠ b := fun z => hba z.symm
  have hlen := hpm.length_eq
  simp at hlen
  cases left with
  | nil =>
    simp at hpm
    simp [hba, hab]
    rw [mdel_mup (by simp [hpb.symm, hba, hb]), clip_out ha, clip_set hp]
    exact hq _ _ hpm hst'
  | cons x left =>
    simp [hba, hpa, hpb, hab, sp__law_drawn, and_assoc]
    have hll : left.length + 1 < 1000 := by simp at hlen; omega
    refine ⟨hst', by omega, fun r st2 hr hst2 => ?_⟩
    obtain ⟨y, hy⟩ : ∃ y, (x :: left)[r]? = some y := ⟨(x :: left)[r]'(by simpa using hr), by simp⟩
    refine ⟨nD (x :: left), by simp [hpa.symm], r, ixN_nat' (by simpa using hr), .int (y : Int), by simp [nD, hy, -List.map_cons], nD found, by simp [hpb.symm], by rw [nD_len, sizeLine_eq]; simp at hlen; omega, ?_⟩
    refine hK ((x :: left).eraseIdx r).length _ _ (by rw [List.length_eraseIdx, if_pos (by simpa using hr)]; simp) ⟨(x :: left).eraseIdx r, found ++ [y], st2, rfl, rfl, ?_, hst2, ?_⟩
    · rw [nD_erase]
      have e : nD found ++ [PyData.int (y : Int)] = nD (found ++ [y]) := by simp [nD]
      rw [e]
      funext c
      unfold mup
      by_cases c1 : c = a <;> by_cases c2 : c = b <;> by_cases c3 : c = p <;> simp [c1, c2, c3]
    · have := (perm_erase hy).symm
      rw [List.append_assoc]
      exact (List.Perm.append_left found this).trans hpm
theorem acy_up {h : Hld} {o : Option Nat} {l : List Nat} (c : Ch h o l) {S : List Nat} (hs : ∀ (x j : Nat), h[x]? = some (some j) → j ∈ S) (ho : ∀ j, o = some j → j ∈ S) : ∀ x ∈ l, x ∈ S := by
  induction c with
  | nil => intro x hx; cases hx
  | @cons i o l e c ih =>
    intro x hx
    rcases List.mem_cons.mp hx with z | z
    · subst z; exact ho _ rfl
    · exact ih (fun j hj => hs i j (by rw [e, hj])) x z
theorem nest_step {h : Hld} {t : List Nat} {k b : Nat} {v : Option Nat} (nd : t.Nodup) (hb : t[k]? = some b) (ac : Acy h) (hs : ∀ (x j : Nat), h[x]? = some (some j) → j ∈ t.take k) (hv : ∀ j, v = some j → j ∈ t.take k ∧ j < h.length) :
    Acy (h.set b v) ∧ ∀ (x j : Nat), (h.set b v)[x]? = some (some j) → j ∈ t.take (k + 1) := by
  have hk : k < t.length := (List.getElem?_eq_some_iff.mp hb).1
  have e : t.take (k + 1) = t.take k ++ [b] := by rw [List.take_add_one, hb]; rfl
  have hnb : b ∉ t.take k := by
    have h1 : (t.take (k + 1)).Nodup := nd.sublist (List.take_sublist _ _)
    rw [e] at h1
    exact fun z => (List.nodup_append.mp h1).2.2 b z b (by simp) rfl
  constructor
  · cases v with
    | none => exact ac.set (lt := []) .nil (by simp)
    | some j =>
      obtain ⟨h1, h2⟩ := hv j rfl
      obtain ⟨l, c⟩ := ac j h2
      exact ac.set c fun z => hnb (acy_up c hs (fun j' e' => by cases e'; exact h1) b z)
  · intro x j hx
    rw [e]
    by_cases hxb : b = x
    · subst hxb
      rw [List.getElem?_set] at hx
      simp at hx
      exact List.mem_append_left _ (hv j hx.2).1
    · rw [List.getElem?_set_ne hxb] at hx
      exact List.mem_append_left _ (hs x j hx)
theorem od_set (h : Hld) (b : Nat) (v : Option Nat) : (h.map od).set b (od v) = (h.set b v).map od := by rw [List.map_set]
theorem atI_neg1 {ds : List Dat} (h : 0 < ds.length) : ∃ d, atI ds (-1) = some d := by
  unfold atI ixN
  rw [if_neg (by decide), if_pos (by omega)]
  exact ⟨ds[(-1 + (ds.length : Int)).toNat]'(by omega), by simp⟩
theorem mem_take {t : List Nat} {k j x : Nat} (h : t[j]? = some x) (hj : j < k) : x ∈ t.take k := by
  refine List.mem_iff_getElem?.mpr ⟨j, ?_⟩
  rw [List.getElem?_take, if_pos hj, h]
theorem pure__law_nesting : ∀ ds M Q E, sp__law_nesting ds M Q E → bd__law_nesting (endsOf (fun d M' => Q d (clip M M')) (fun x M' => E x (clip M M'))) (startD 7 ds) M := by
  rintro _ M Q E ⟨p, st, n, rfl, hp, hst, hn, hq⟩
  simp [bd__law_nesting, startD, sp__law_turned, sp__law_drawn, and_assoc, hp, sizeLine_eq]
  refine ⟨hst, hn, fun t st1 ht hs1 => ⟨hs1, fun r st2 hr hs2 a ha => ⟨by omega, by omega, fun q hq' => ⟨by omega, ?_⟩⟩⟩⟩
  obtain ⟨hap, ha⟩ := mup_free ha
  obtain ⟨_, ha⟩ := mup_free ha
  obtain ⟨hqa, hq'⟩ := mup_free hq'
  obtain ⟨hqp, hq'⟩ := mup_free hq'
  obtain ⟨_, hq'⟩ := mup_free hq'
  have tl : t.length = n := by simpa using ht.length_eq
  have nd : t.Nodup := ht.symm.nodup List.nodup_range
  have tlt : ∀ j ∈ t, j < n := fun j hj => by simpa using ht.mem_iff.mp hj
  refine for_rule (fun i ρ M' => ∃ (h : Hld) (st' : List Dat) (v w : Option Dat), ρ = [some (rf p), some (.int n), some (.list (nD t)), some (.int r), some (rf q), v, w] ∧ M' = mup (mup (mup M p (.lst st')) a (.lst [.none])) q (.lst (h.map od)) ∧ StOk st' ∧ h.length = n ∧ Acy h ∧
    ∀ (x j : Nat), h[x]? = some (some j) → j ∈ t.take i) ⟨List.replicate n none, st2, _, _, rfl, by simp [od], hs2, by simp, Acy.none n, fun x j hx => by simp [List.getElem?_replicate] at hx⟩ ?_ ?_
  · rintro i d ρ M' hd ⟨h, st', v, w, rfl, rfl, hs', hl, ac, hs⟩ K hK
    rw [rngD_get] at hd
    split at hd
    · rename_i hi
      cases hd
      obtain ⟨b, hb⟩ := get_lt tl hi
      have hbn : b < n := tlt b (List.mem_iff_getElem?.mpr ⟨i, hb⟩)
      have fin : ∀ (v : Option Nat) (st3 : List Dat) (w : Option Dat), StOk st3 → (∀ j, v = some j → j ∈ t.take i ∧ j < h.length) →
          K [some (rf p), some (.int n), some (.list (nD t)), some (.int r), some (rf q), some (.int i), w] (mup (mup (mup M p (.lst st3)) a (.lst [.none])) q (.lst ((h.map od).set b (od v)))) := fun v st3 w h3 hv => by
        obtain ⟨k1, k2⟩ := nest_step nd hb ac hs hv
        exact hK _ _ ⟨h.set b v, st3, _, _, rfl, by rw [od_set], h3, by simp [hl], k1, k2⟩
      have fix : ∀ (s1 s2 : List Dat) (x y : List Dat), mup (mup (mup (mup (mup M p (.lst s1)) a (.lst [.none])) q (.lst x)) p (.lst s2)) q (.lst y) = mup (mup (mup M p (.lst s2)) a (.lst [.none])) q (.lst y) := fun s1 s2 x y => by
        funext c
        unfold mup
        by_cases c1 : c = a <;> by_cases c2 : c = q <;> by_cases c3 : c = p <;> simp [c1, c2, c3, hqa, hqp, hap, Ne.symm hqa, Ne.symm hqp, Ne.symm hap]
      have fix2 : ∀ (s1 s2 s3 : List Dat) (x y : List Dat), mup (mup (mup (mup (mup (mup M p (.lst s1)) a (.lst [.none])) q (.lst x)) p (.lst s2)) p (.lst s3)) q (.lst y) = mup (mup (mup M p (.lst s3)) a (.lst [.none])) q (.lst y) := fun s1 s2 s3 x y => by
        funext c
        unfold mup
        by_cases c1 : c = a <;> by_cases c2 : c = q <;> by_cases c3 : c = p <;> simp [c1, c2, c3, hqa, hqp, hap, Ne.symm hqa, Ne.symm hqp, Ne.symm hap]
      cases i with
      | zero =>
        simp [(Ne.symm hqp), (Ne.symm hap), sp__law_drawn, and_assoc]
        obtain ⟨d0, hd0⟩ := atI_neg1 (ds := nD t) (by simp; omega)
        simp only [hd0]
        refine ⟨hs', fun r1 st3 hr1 hs3 => ?_⟩
        have : r1 = 0 := by omega
        subst this
        simp [nD_get, hb, sizeLine_eq, gSubD, hqp]
        refine ⟨b, by rw [hl]; exact ixN_nat' hbn, ?_⟩
        rw [fix]
        exact fin none st3 _ hs3 (fun j e => by cases e)
      | succ i =>
        obtain ⟨c, hc⟩ := get_lt tl (i := i) (by omega)
        have e1 : ((i : Int) + 1 - 1) = (i : Int) := by omega
        simp [(Ne.symm hqp), (Ne.symm hap), sp__law_drawn, and_assoc, hc, e1]
        rw [nD_get, hc]
        refine ⟨hs', by split <;> omega, by split <;> omega, fun r1 st3 hr1 hs3 => ?_⟩
        have hr1' : r1 < i + 1 := by split at hr1 <;> omega
        obtain ⟨x, hx⟩ := get_lt tl (i := r1) (by omega)
        rw [nD_get, hx]
        refine ⟨by rw [sizeLine_eq]; omega, hs3, fun r2 st4 hr2 hs4 => ?_⟩
        have key : ∃ o : Option Nat, (∀ j, o = some j → j ∈ t.take (i + 1) ∧ j < h.length) ∧ atI [PyData.none, .int (c : Int), .int (x : Int)] (if r2 < r then (r2 : Int) else (r : Int)) = some (od o) := by
          have hm : ∃ z : Nat, z < 3 ∧ (if r2 < r then (r2 : Int) else (r : Int)) = (z : Int) := by
            by_cases h1 : r2 < r
            · exact ⟨r2, by omega, by rw [if_pos h1]⟩
            · exact ⟨r, by omega, by rw [if_neg h1]⟩
          obtain ⟨z, hz, e⟩ := hm
          rw [e, atI_nat']
          have hzz : z = 0 ∨ z = 1 ∨ z = 2 := by omega
          rcases hzz with rfl | rfl | rfl
          · exact ⟨none, ⟨fun j e => (by cases e), rfl⟩⟩
          · exact ⟨some c, ⟨fun j e => (by cases e; exact ⟨mem_take hc (by omega), by rw [hl]; exact tlt _ (List.mem_iff_getElem?.mpr ⟨i, hc⟩)⟩), rfl⟩⟩
          · exact ⟨some x, ⟨fun j e => (by cases e; exact ⟨mem_take hx (by omega), by rw [hl]; exact tlt _ (List.mem_iff_getElem?.mpr ⟨r1, hx⟩)⟩), rfl⟩⟩
        obtain ⟨o, ho, ea⟩ := key
        have hb' : atI (nD t) ((i : Int) + 1) = some (.int (b : Int)) := by
          have : ((i : Int) + 1) = ((i + 1 : Nat) : Int) := rfl
          rw [this, atI_nat', nD_get, hb]
          rfl
        simp [ea, gSubD, hb', hqp]
        refine ⟨b, by rw [hl]; exact ixN_nat' hbn, ?_⟩
        rw [fix]
        exact fin o st4 _ hs4 ho
    · cases hd
  · rintro ρ M' ⟨h, st', v, w, rfl, rfl, hs', hl, ac, hs⟩
    simp
    rw [clip_out hq', clip_out ha, clip_set hp]
    exact hq h st' hl ac hs'
end Nb
set_option Elab.async false
set_option linter.all false
set_option maxRecDepth 100000
set_option maxHeartbeats 2000000
set_option autoImplicit false
namespace Nb
open PySem PySem.Spec PyProof.Rows L2
theorem pure__law_yard : ∀ ds M Q E, sp__law_yard ds M Q E → bd__law_yard (endsOf (fun d M' => Q d (clip M M')) (fun x M' => E x (clip M M'))) (startD 9 ds) M := by
  rintro _ M Q E ⟨p, st, most, rfl, hp, hst, h0, h12, hq⟩
  simp [bd__law_yard, startD, sp__law_drawn, and_assoc, hp]
  refine ⟨hst, by omega, by omega, fun r st1 hr hs1 => ⟨by rw [sizeLine_eq]; omega, hs1, fun r2 st2 hr2 hs2 => ?_⟩⟩
  obtain ⟨rare, hrare, hr0, hr1⟩ : ∃ rare : Int, [PyData.int 3, PyData.int 12, PyData.int 60][r2]? = some (.int rare) ∧ 0 < rare ∧ rare < 1000 := by
    have : r2 = 0 ∨ r2 = 1 ∨ r2 = 2 := by omega
    rcases this with rfl | rfl | rfl
    · exact ⟨3, rfl, by decide, by decide⟩
    · exact ⟨12, rfl, by decide, by decide⟩
    · exact ⟨60, rfl, by decide, by decide⟩
  simp only [hrare]
  simp [sizeLine_eq]
  refine ⟨hs2, fun r3 st3 hr3 hs3 => ?_⟩
  obtain ⟨dear, hdear, hd0, hd1⟩ : ∃ dear : Int, [PyData.int 2, PyData.int 99][r3]? = some (.int dear) ∧ 0 < dear ∧ dear ≤ 99 := by
    have : r3 = 0 ∨ r3 = 1 := by omega
    rcases this with rfl | rfl
    · exact ⟨2, rfl, by decide, by decide⟩
    · exact ⟨99, rfl, by decide, by decide⟩
  simp only [hdear]
  obtain ⟨n, hn⟩ : ∃ n : Nat, n = 1 + r := ⟨_, rfl⟩
  have hn' : (1 + (r : Int)) = (n : Int) := by omega
  simp [sp__law_nesting, hn', and_assoc]
  refine ⟨hs3, by omega, fun h st4 hl ac hs4 => ?_⟩
  refine lc_rule (fun i acc M' => ∃ (ps : List (Option Int)) (st' : List Dat), acc = ps.map op ∧ ps.length = i ∧ (∀ x ∈ ps, ∀ v, x = some v → 1 ≤ v ∧ v ≤ 99) ∧ StOk st' ∧ M' = mup M p (.lst st')) [] ⟨[], st4, rfl, rfl, by simp, hs4, rfl⟩ ?_ ?_
  · rintro i d acc M' hd ⟨ps, st', rfl, rfl, hps, hs', rfl⟩ K hK
    have hi : ps.length < n := by
      have := (List.getElem?_eq_some_iff.mp hd).1
      simpa [hl] using this
    simp [wipeD, sp__law_drawn, and_assoc, sizeLine_eq]
    refine ⟨hs', hr0, hr1, fun r4 st5 hr4 hs5 => ?_⟩
    by_cases z : r4 = 0
    · simp [z]
      refine ⟨by omega, hK _ _ ⟨ps ++ [none], st5, by simp [op], by simp, ?_, hs5, rfl⟩⟩
      intro x hx v e
      rcases List.mem_append.mp hx with q | q
      · exact hps x q v e
      · simp at q; rw [q] at e; cases e
    · simp [z]
      refine ⟨hs5, hd0, by omega, fun r5 st6 hr5 hs6 => ⟨by omega, hK _ _ ⟨ps ++ [some (1 + (r5 : Int))], st6, by simp [op], by simp, ?_, hs6, rfl⟩⟩⟩
      intro x hx v e
      rcases List.mem_append.mp hx with q | q
      · exact hps x q v e
      · simp at q
        rw [q] at e
        cases e
        omega
  · rintro acc M' ⟨ps, st', rfl, hpl, hps, hs', rfl⟩
    have hpl : ps.length = n := by simpa [hl] using hpl
    refine ⟨by omega, lc_pure (onI fun k => bxD ((ps[k]?).join, (h[k]?).join)) (by rw [rngD_len, sizeLine_eq]; omega) ?_ ?_⟩
    · intro d hd acc K ha hk
      obtain ⟨k, hk', rfl⟩ := mem_rng hd
      obtain ⟨a, h1⟩ := get_lt hpl hk'
      obtain ⟨b, h2⟩ := get_lt hl hk'
      simp [wipeD, h1, h2, sizeLine_eq]
      have hk : K (acc ++ [bxD ((ps[k]?).join, (h[k]?).join)]) _ := hk
      rw [h1, h2] at hk
      exact ⟨ha, hk⟩
    · rw [rngD_eq, fm_onI, clip_set hp]
      have e : (List.range n).map (fun k => bxD ((ps[k]?).join, (h[k]?).join)) = ((ps.zip h).map bxD) := by
        apply List.ext_getElem?
        intro i
        simp only [List.getElem?_map]
        by_cases hi : i < n
        · obtain ⟨a, h1⟩ := get_lt hpl hi
          obtain ⟨b, h2⟩ := get_lt hl hi
          rw [List.getElem?_range hi, (List.getElem?_zip_eq_some (z := (a, b))).mpr ⟨h1, h2⟩]
          simp [h1, h2]
        · rw [List.getElem?_eq_none (by simp; omega), List.getElem?_eq_none (by simp; omega)]
          rfl
      rw [e]
      have hz : (ps.zip h).length = n := by rw [List.length_zip]; omega
      have hh : hold (ps.zip h) = h := by
        unfold hold
        exact List.map_snd_zip (by omega)
      refine hq (ps.zip h) st' ⟨by omega, by omega, fun b hb v e => ?_, by rw [hh]; exact ac⟩ (by omega) hs'
      exact hps b.1 (List.of_mem_zip hb).1 v e
theorem upOf_len (h : Hld) : ∀ (n : Nat) (o : Option Nat), (upOf h n o).length ≤ n
  | 0, _ => by simp [upOf]
  | n + 1, none => by simp [upOf]
  | n + 1, some i => by have := upOf_len h n ((h[i]?).join); simp [upOf]; omega
theorem HAt.ix {A : Dat} {h : Hld} {M : Mem} (a : HAt A h M) (k : Nat) (Q : DQ) : gIx A (.int (k : Int)) M Q = (match h[k]? with | some o => Q (od o) M | none => False) := by
  rcases a with rfl | rfl | ⟨q, rfl, hq⟩
  · exact w_ix1 M Q h k
  · rw [u52, atI_nat', List.getElem?_map]
    cases h[k]? <;> rfl
  · rw [f_ix, f_lst, hq]
    show (match atI (h.map od) (k : Int) with | some d => Q d M | none => False) = _
    rw [atI_nat', List.getElem?_map]
    cases h[k]? <;> rfl
theorem HAt.len {A : Dat} {h : Hld} {M : Mem} (a : HAt A h M) (Q : DQ) : gLen [A] M Q = Q (.int h.length) M := by
  rcases a with rfl | rfl | ⟨q, rfl, hq⟩
  · exact w_len1 M Q h
  · rw [u54, List.length_map]
  · rw [f_len, f_lst, hq]
    show Q (.int ((h.map od).length : Nat)) M = _
    rw [List.length_map]
theorem HAt.mup {A : Dat} {h : Hld} {M : Mem} (a : HAt A h M) {p : Nat} {o : MO} (hp : M p = none) : HAt A h (mup M p o) := by
  rcases a with e | e | ⟨q, e, hq⟩
  · exact .inl e
  · exact .inr (.inl e)
  · exact .inr (.inr ⟨q, e, by rw [mup_ne (fun z => by rw [z, hp] at hq; cases hq)]; exact hq⟩)
theorem pure__law_up : ∀ ds M Q E, sp__law_up ds M Q E → bd__law_up (endsOf (fun d M' => Q d (clip M M')) (fun x M' => E x (clip M M'))) (startD 4 ds) M := by
  rintro _ M Q E ⟨A, h, b, o, rfl, hA, hl, hb, bd, hq⟩
  have hbo : ∀ i, o = some i → i < h.length := fun i e => bd b i (by rw [hb, e])
  simp only [bd__law_up]
  refine seq_mid (fun ρ' M' => ∃ p, M p = none ∧ M' = mup M p (.lst []) ∧ ρ' = [some A, some (.int (b : Int)), some (rf p), some (od o)]) ?_ ?_
  · intro R hR
    simp [startD, sizeLine_eq, dPar]
    intro p hp
    rw [(hA.mup hp).ix, hb]
    exact hR _ _ ⟨p, hp, rfl, rfl⟩
  rintro _ _ ⟨p, hp, rfl, rfl⟩
  refine seq_mid (fun ρ' M' => ∃ o', M' = mup M p (.lst (nD (upOf h h.length o))) ∧ ρ' = [some A, some (.int (b : Int)), some (rf p), o']) ?_ ?_
  · intro R hR
    refine while_rule (fun n ρ M' => ∃ acc o', ρ = [some A, some (.int b), some (rf p), some (od o')] ∧ M' = mup M p (.lst (nD acc)) ∧ acc ++ upOf h n o' = upOf h h.length o ∧ n + acc.length = h.length ∧ ∀ i, o' = some i → i < h.length) h.length ⟨[], o, rfl, rfl, by simp, by simp, hbo⟩ ?_
    rintro n ρ M' ⟨acc, o', rfl, rfl, he, hn, ho'⟩ K hK
    have hA' := hA.mup (o := .lst (nD acc)) hp
    cases o' with
    | none =>
      have e0 : upOf h n none = [] := by cases n <;> rfl
      rw [e0, List.append_nil] at he
      subst he
      simp [od]
      exact hR _ _ ⟨_, rfl, rfl⟩
    | some i =>
      cases n with
      | zero =>
        have e0 : upOf h 0 (some i) = [] := rfl
        rw [e0, List.append_nil] at he
        subst he
        have h3 : ¬ (upOf h h.length o).length < h.length := by omega
        simp [od, hA'.len, h3]
        exact hR _ _ ⟨_, rfl, rfl⟩
      | succ n =>
        obtain ⟨o2, ho2⟩ := get_lt rfl (ho' i rfl)
        have h2 : acc.length < 16777216 := by omega
        have h3 : acc.length < h.length := by omega
        simp [od, hA'.len, h3, sizeLine_eq, h2]
        have hA2 := hA.mup (o := .lst (nD acc ++ [.int (i : Int)])) hp
        rw [hA2.ix, ho2]
        refine hK n _ _ (by omega) ⟨acc ++ [i], o2, rfl, by simp [nD, od], ?_, by simp; omega, fun j e => bd i j (by rw [ho2, e])⟩
        rw [← he]
        simp [upOf, ho2]
  rintro _ _ ⟨o', rfl, rfl⟩
  simp [clip_del hp, clip_out hp]
  exact hq
theorem pure__law_goal : ∀ ds M Q E, sp__law_goal ds M Q E → bd__law_goal (endsOf (fun d M' => Q d (clip M M')) (fun x M' => E x (clip M M'))) (startD 8 ds) M := by
  rintro _ M Q E ⟨p, st, y, rfl, hp, hst, ok, hq⟩
  have hl := ok.le
  have h0 := ok.pos
  simp [bd__law_goal, startD]
  refine lc_pure (fun d => match d with | .tuple [a, b] => some b | _ => none) (by simp [sizeLine_eq]; omega) ?_ ?_
  · intro d hd acc K ha hk
    obtain ⟨b, hb, rfl⟩ := List.mem_map.mp hd
    simp [wipeD]
    exact ⟨ha, hk⟩
  · rw [fm_map bxD _ (fun b => od b.2) fun _ => rfl]
    have e : PyData.tuple (y.map (fun b => od b.2)) = hD (hold y) := by simp [hold, hD]
    simp [e, sp__law_drawn, and_assoc, hp]
    refine ⟨hst, fun way st1 hw hs1 => ?_⟩
    by_cases z : way = 0
    · simp [z, sp__law_nesting, and_assoc]
      refine ⟨hs1, hl, fun h st2 h1 h2 h3 => ?_⟩
      rw [clip_set hp]
      exact hq h st2 h1 h2 h3
    · simp [z, and_assoc]
      have cm : CMul 2 (y.length : Int) := Or.inl (by decide)
      refine ⟨cm, hs1, by omega, by omega, fun r st2 hr hs2 => ⟨by omega, ?_⟩⟩
      refine for_rule (fun i ρ M' => ∃ (h : Hld) (st' : List Dat) (v4 v5 v6 v7 : Option Dat), ρ = [some (rf p), some (yd y), some (hD h), some (.int way), v4, v5, v6, v7] ∧ M' = mup M p (.lst st') ∧ StOk st' ∧ h.length = y.length ∧ Acy h)
        ⟨hold y, st2, _, _, _, _, rfl, rfl, hs2, hold_len y, ok.ac⟩ ?_ ?_
      · rintro i d ρ M' hd ⟨h, st', v4, v5, v6, v7, rfl, rfl, hs', hlen, ac⟩ K hK
        rw [rngD_get] at hd
        split at hd
        · cases hd
          rw [v_gN]
          refine seq_mid (fun ρ' M' => ∃ (b t : Nat) (st4 : List Dat), b < y.length ∧ t < y.length + 1 ∧ StOk st4 ∧ ρ' = [some (rf p), some (yd y), some (hD h), some (.int way), some (.int i), some (.int b), some (.int t), v7] ∧ M' = mup M p (.lst st4)) ?_ ?_
          · intro R hR
            simp [sp__law_drawn, and_assoc]
            exact ⟨hs', h0, by omega, fun b st3 hb hs3 => ⟨hs3, by omega, fun t st4 ht hs4 => hR _ _ ⟨b, t, st4, hb, by omega, hs4, rfl, rfl⟩⟩⟩
          rintro ρ' M' ⟨b, t, st4, hb, ht, hs4, rfl, rfl⟩
          obtain ⟨pb, hpb, _⟩ := get_y hb
          obtain ⟨hv, hhv⟩ := get_lt hlen hb
          have fin : ∀ (o : Option Nat) (v7 : Option Dat) (lt : List Nat), Ch h o lt → b ∉ lt → K [some (rf p), some (yd y), some (hD (h.take b ++ [o] ++ h.drop (b + 1))), some (.int way), some (.int i), some (.int b), some (od o), v7] (mup M p (.lst st4)) := fun o v7 lt hc hn => by
            rw [set_cut h b o (by omega)]
            exact hK _ _ ⟨h.set b o, st4, _, _, _, _, rfl, rfl, hs4, by simp [hlen], ac.set hc hn⟩
          have skip : ∀ (o : Option Nat) (v7 : Option Dat), K [some (rf p), some (yd y), some (hD h), some (.int way), some (.int i), some (.int b), some (od o), v7] (mup M p (.lst st4)) := fun o v7 =>
            hK _ _ ⟨h, st4, _, _, _, _, rfl, rfl, hs4, hlen, ac⟩
          refine seq_mid (fun ρ' M' => ∃ o : Option Nat, (∀ k, o = some k → k < y.length) ∧ ρ' = [some (rf p), some (yd y), some (hD h), some (.int way), some (.int i), some (.int b), some (od o), v7] ∧ M' = mup M p (.lst st4)) ?_ ?_
          · intro R hR
            by_cases zt : t = y.length
            · have zt' : (t : Int) = y.length := by omega
              simp [zt']
              exact hR _ _ ⟨none, by simp, rfl, rfl⟩
            · have zt' : ¬ (t : Int) = y.length := by omega
              simp [zt']
              exact hR _ _ ⟨some t, fun k e => by cases e; omega, rfl, rfl⟩
          rintro ρ' M' ⟨o, ho, rfl, rfl⟩
          refine seq_mid (fun ρ' M' => ∃ c : Bool, (c = true → ∃ lt, Ch h o lt ∧ b ∉ lt) ∧ ρ' = [some (rf p), some (yd y), some (hD h), some (.int way), some (.int i), some (.int b), some (od o), some (.bool c)] ∧ M' = mup M p (.lst st4)) ?_ ?_
          · intro R hR
            cases o with
            | none =>
              simp [od]
              exact hR _ _ ⟨true, fun _ => ⟨[], .nil, by simp⟩, rfl, rfl⟩
            | some t =>
              have ht := ho t rfl
              obtain ⟨l, hc⟩ := ac t (by omega)
              obtain ⟨o2, l2, h1, h2, rfl⟩ : ∃ o2 l2, h[t]? = some o2 ∧ Ch h o2 l2 ∧ l = t :: l2 := by
                cases hc with
                | cons e c => exact ⟨_, _, e, c, rfl⟩
              by_cases ztb : t = b
              · have ztb' : (t : Int) = b := by omega
                simp [od, ztb']
                refine hR _ _ ⟨false, by simp, ?_, rfl⟩
                simp [od, ztb']
              · have ztb' : ¬ (t : Int) = b := by omega
                have e3 : sp__law_up = sp__law_up := rfl
                simp [od, ztb']
                refine up_ch (fun h a => a.bnd) ⟨true, h, t, o2, l2, rfl, by omega, h1, ac, h2, ?_⟩
                simp
                refine hR _ _ ⟨!decide (b ∈ l2), fun e => ⟨t :: l2, hc, ?_⟩, rfl, rfl⟩
                simp at e ⊢
                exact ⟨fun z => ztb z.symm, e⟩
          rintro ρ' M' ⟨c, hc, rfl, rfl⟩
          cases c with
          | false =>
            simp [truD]
            exact skip _ _
          | true =>
            obtain ⟨lt, hc1, hc2⟩ := hc rfl
            have hfin := fin o (some (.bool true)) lt hc1 hc2
            have e1 : (min b h.length + (1 + (h.length - (b + 1)))) ≤ 16777216 := by omega
            have e2 : (min b h.length + 1 + (h.length - (b + 1))) ≤ 16777216 := by omega
            simp [truD, hpb, sizeLine_eq] at hfin ⊢
            have s1 := skip o (some (.bool true))
            split
            · split
              · split
                · exact ⟨by omega, by omega, hfin⟩
                · exact s1
              · exact s1
            · exact ⟨by omega, by omega, hfin⟩
        · cases hd
      · rintro ρ M' ⟨h, st', v4, v5, v6, v7, rfl, rfl, hs', hlen, ac⟩
        simp
        rw [clip_set hp]
        exact hq h st' hlen ac hs'
end Nb
set_option Elab.async false
set_option linter.all false
set_option maxRecDepth 100000
set_option maxHeartbeats 2000000
set_option autoImplicit false
namespace Nb
open PySem PySem.Spec PyProof.Rows L2
theorem eqBB (a b : Bool) : PyData.eqv (.bool a) (.bool b) = (a == b) := by cases a <;> cases b <;> rfl
theorem vwBB (b : Bool) (M : Mem) : vw (.bool b) M = .bool b := rfl
theorem shBB (b : Bool) : SeqAt.shaped (.bool b) = true := rfl
theorem vw_flat {d : Dat} (h : flatD d = true) (M : Mem) : vw d M = d := by cases d <;> first | rfl | cases h
/-- a tuple, a list, a list that may change: its things -/
structure Sq (d : Dat) (M : Mem) (l : List Dat) (t : Bool) : Prop where
  tyT : isTy .tuple d M = some t
  tyL : isTy .list d M = some (!t)
  len : ∀ Q : DQ, gLen [d] M Q = Q (.int l.length) M
  ix : ∀ (i : Nat) (Q : DQ), gIx d (.int (i : Int)) M Q = (match l[i]? with | some x => Q x M | none => False)
theorem Sq.tup (l : List Dat) (M : Mem) : Sq (.tuple l) M l true := ⟨rfl, rfl, fun Q => rfl, fun i Q => by rw [u51, atI_nat']; try (cases l[i]? <;> rfl)⟩
theorem Sq.lst (l : List Dat) (M : Mem) : Sq (.list l) M l false := ⟨rfl, rfl, fun Q => rfl, fun i Q => by rw [u52, atI_nat']; try (cases l[i]? <;> rfl)⟩
theorem Sq.rf {p : Nat} {l : List Dat} {M : Mem} (h : M p = some (.lst l)) : Sq (Nb.rf p) M l false := by
  refine ⟨?_, ?_, fun Q => ?_, fun i Q => ?_⟩
  · show (match M p with | some (.lst _) => _ | _ => _) = _
    rw [h]
  · show (match M p with | some (.lst _) => _ | _ => _) = _
    rw [h]; rfl
  · rw [f_len, f_lst, h]
  · rw [f_ix, f_lst, h]
    show (match atI l (i : Int) with | some d => Q d M | none => False) = _
    rw [atI_nat']
theorem vw_flat_inv {n : Nat} {d e : Dat} {M : Mem} (h : vwN (n + 1) d M = e) (hf : flatD e = true) : d = e := by
  unfold vwN at h
  split at h
  · subst h; cases hf
  · subst h; cases hf
  · split at h
    · subst h; cases hf
    · exact h
  · exact h
theorem vw_seq_inv {n : Nat} {d e : Dat} {M : Mem} {l : List Dat} (h : vwN (n + 1) d M = e) (he : e = .tuple l ∨ e = .list l) : ∃ l' t, l'.map (fun x => vwN n x M) = l ∧ Sq d M l' t ∧ Sq e M l t := by
  rcases he with rfl | rfl
  · unfold vwN at h
    split at h
    · cases h
    · rename_i l'
      injection h with h
      exact ⟨l', true, h, Sq.tup _ _, Sq.tup _ _⟩
    · split at h <;> cases h
    · rename_i h1 h2 h3
      exact absurd h (h2 l)
  · unfold vwN at h
    split at h
    · rename_i l'
      injection h with h
      exact ⟨l', false, h, Sq.lst _ _, Sq.lst _ _⟩
    · cases h
    · rename_i p
      split at h
      · rename_i ds hM
        injection h with h
        exact ⟨ds, false, h, Sq.rf hM, Sq.lst _ _⟩
      · cases h
    · rename_i h1 h2 h3
      exact absurd h (h1 l)
theorem pure__law_same (n : Nat) : ∀ ds M Qd Ed, spr__law_same (n + 1) ds M Qd Ed → bd__law_same n (endsOf (fun d M' => Qd d (clip M M')) (fun x M' => Ed x (clip M M'))) (startD 4 ds) M := by
  rintro _ M Q E ⟨d, e, rfl, hd, hv, hq⟩
  simp only [bd__law_same]
  rcases hd with ⟨hf, hs⟩ | ⟨l, hl, h64, hx⟩
  · obtain rfl := vw_flat_inv hv hf
    have sd := hs.shaped (by decide)
    have ed := SeqAt.eqv_refl _ hs.1
    have vd := vw_flat hf M
    refine seq_mid (fun ρ' M' => M' = M ∧ ρ' = [some d, some d, none, none]) ?_ ?_
    · intro R hR
      have h1 : isTy .tuple d M = some false := by cases d <;> first | rfl | cases hf
      have h2 : isTy .list d M = some false := by cases d <;> first | rfl | cases hf
      simp [startD, h1, h2]
      exact hR _ _ ⟨rfl, rfl⟩
    rintro _ M ⟨rfl, rfl⟩
    obtain ⟨b1, h1⟩ : ∃ b, isTy .bool d M = some b := by cases d <;> first | exact ⟨_, rfl⟩ | cases hf
    obtain ⟨b2, h2⟩ : ∃ b, isTy .int d M = some b := by cases d <;> first | exact ⟨_, rfl⟩ | cases hf
    simp [h1, h2, vwBB, shBB, eqBB, vd, sd, ed]
    exact hq
  · obtain ⟨l', t, hm, sd, se⟩ := vw_seq_inv hv hl
    have hll : l'.length = l.length := by rw [← hm, List.length_map]
    refine seq_mid (fun _ _ => False) ?_ (fun _ _ z => z.elim)
    intro R hR
    have key : ∀ (M1 : Mem) (K : List Dat → Mem → Prop), M1 = M → K [] M1 → dLcL (gN 3) (dNotT (dB (dCall (spr__law_same n) (dCons (dOp gIx (dVar 0) (dVar 3)) (dCons (dOp gIx (dVar 1) (dVar 3)) dNil))))) (dVar 3) (wipeD [some d, some e, none, none] [3]) (rngD 0 l.length) [] M1 K := fun M1 K hM1 hK => by
      subst hM1
      refine lc_pure (fun _ => none) (by rw [rngD_len]; rw [sizeLine_eq]; omega) ?_ ?_
      · intro z hz acc K' ha hk
        obtain ⟨i, hi⟩ := List.mem_iff_getElem?.mp hz
        rw [rngD_get] at hi
        split at hi
        rotate_left
        · cases hi
        rename_i hlt
        obtain rfl : z = .int (i : Int) := by simpa using hi.symm
        have e1 : l[i]? = some l[i] := List.getElem?_eq_getElem hlt
        have hlt' : i < l'.length := by omega
        have e2 : l'[i]? = some l'[i] := List.getElem?_eq_getElem hlt'
        have hsm := hx l[i] (List.getElem_mem hlt)
        have e3 : vwN n l'[i] M1 = l[i] := by
          have h1 : (l'.map fun x => vwN n x M1)[i]? = l[i]? := by rw [hm]
          rw [List.getElem?_map, e2, e1] at h1
          exact Option.some.inj h1
        simp [wipeD, sd.ix, se.ix, e1, e2]
        exact ⟨_, _, rfl, hsm, e3, hk⟩
      · have e : (rngD 0 l.length).filterMap (fun _ => (none : Option Dat)) = [] := by
          induction rngD 0 l.length with
          | nil => rfl
          | cons a r ih => simpa using ih
        rw [e]
        exact hK
    have hl63 : (l.length : Int) < 4611686018427387904 := by omega
    have e0 : PyData.eqv (.list []) (.list []) = true := rfl
    cases t
    · simp [startD, sd.tyT, sd.tyL, se.tyT, se.tyL, sd.len, se.len, hll, vwBB, shBB, eqBB, hl63]
      refine key _ _ rfl ⟨rfl, ?_⟩
      simp [e0]
      exact hq
    · simp [startD, sd.tyT, sd.tyL, se.tyT, se.tyL, sd.len, se.len, hll, vwBB, shBB, eqBB, hl63]
      refine key _ _ rfl ⟨rfl, ?_⟩
      simp [e0]
      exact hq
/-! things that are the same by themselves -/
theorem vw_self : ∀ {n : Nat} {d : Dat} (M : Mem), smD n d → vwN n d M = d
  | 0, d, M, h => h.elim
  | n + 1, d, M, h => by
    rcases h with ⟨hf, _⟩ | ⟨l, rfl | rfl, _, hx⟩
    · cases d <;> first | rfl | cases hf
    · show PyData.tuple (l.map fun x => vwN n x M) = _
      congr 1
      refine (List.map_congr_left fun x hx' => vw_self M (hx x hx')).trans (by simp)
    · show PyData.list (l.map fun x => vwN n x M) = _
      congr 1
      refine (List.map_congr_left fun x hx' => vw_self M (hx x hx')).trans (by simp)
theorem sm_flat {n : Nat} {d : Dat} (hf : flatD d = true) (hs : sh 0 d) : smD (n + 1) d := .inl ⟨hf, hs⟩
theorem sm_int {n : Nat} (i : Int) : smD (n + 1) (.int i) := .inl ⟨rfl, sh_int 0 i⟩
theorem sm_od {n : Nat} (o : Option Nat) : smD (n + 1) (od o) := .inl ⟨by cases o <;> rfl, sh_od 0 o⟩
theorem sm_op {n : Nat} (o : Option Int) : smD (n + 1) (op o) := .inl ⟨by cases o <;> rfl, sh_op 0 o⟩
theorem sm_bool {n : Nat} (b : Bool) : smD (n + 1) (.bool b) := .inl ⟨rfl, ⟨rfl, Nat.le_refl _⟩⟩
theorem sm_none {n : Nat} : smD (n + 1) .none := .inl ⟨rfl, ⟨rfl, Nat.le_refl _⟩⟩
theorem sm_tup {n : Nat} {l : List Dat} (h : l.length ≤ 1000) (hx : ∀ x ∈ l, smD n x) : smD (n + 1) (.tuple l) := .inr ⟨l, .inl rfl, h, hx⟩
theorem sm_lst {n : Nat} {l : List Dat} (h : l.length ≤ 1000) (hx : ∀ x ∈ l, smD n x) : smD (n + 1) (.list l) := .inr ⟨l, .inr rfl, h, hx⟩
theorem sm_nD {n : Nat} {l : List Nat} (h : l.length ≤ 1000) : smD (n + 2) (.list (nD l)) := sm_lst (by rw [nD_len]; exact h) fun x hx => by
  obtain ⟨k, _, rfl⟩ := mem_nD hx
  exact sm_int _
theorem sm_nDt {n : Nat} {l : List Nat} (h : l.length ≤ 1000) : smD (n + 2) (.tuple (nD l)) := sm_tup (by rw [nD_len]; exact h) fun x hx => by
  obtain ⟨k, _, rfl⟩ := mem_nD hx
  exact sm_int _
/-- a list that may change, seen -/
theorem vw_live {n p : Nat} {M : Mem} {l l' : List Dat} (h : M p = some (.lst l)) (e : l.map (fun x => vwN n x M) = l') : vwN (n + 1) (rf p) M = .list l' := by
  show (match M p with | some (.lst ds) => PyData.list (ds.map fun x => vwN n x M) | _ => rf p) = _
  rw [h, ← e]
theorem vw_nD {n : Nat} {M : Mem} (l : List Nat) : (nD l).map (fun x => vwN (n + 1) x M) = nD l := by
  unfold nD
  rw [List.map_map]
  rfl
end Nb
set_option Elab.async false
set_option linter.all false
set_option maxRecDepth 100000
set_option maxHeartbeats 2000000
set_option autoImplicit false
namespace Nb
open PySem PySem.Spec PyProof.Rows L2
/-! ### unfolding: lambdas as values -/
@[simp] theorem x_lam (P : Nat) (q : Str) (L : LamI) (i : Nat) (df : Bool) (ρ : Rho) (M : Mem) (Q : DQ) (E : XQ) : dLam P q L i df ρ M Q E = (M P = some (.tab q) ∧ ∀ p nf b, M p = none → L i nf b df → Q (rf p) (mup M p (.lam nf b df))) := rfl
@[simp] theorem dvD_f : dvD false = [] := rfl
@[simp] theorem dvD_t : dvD true = [.int 0] := rfl
def Old (M M' : Mem) : Prop := ∀ a mo, M a = some mo → M' a = some mo
theorem Old.refl (M : Mem) : Old M M := fun _ _ h => h
theorem Old.trans {M M' M'' : Mem} (a : Old M M') (b : Old M' M'') : Old M M'' := fun c o h => b c o (a c o h)
theorem Old.new {M : Mem} {p : Nat} {o : MO} (h : M p = none) : Old M (mup M p o) := fun a mo e => by
  rw [mup_ne (fun z => by rw [z, h] at e; cases e)]; exact e
/-- several lambdas made, one behind another -/
def dLams (P : Nat) (q : Str) (L : LamI) : Nat → List Bool → DA
  | _, [] => dNil
  | i, df :: r => dCons (dLam P q L i df) (dLams P q L (i + 1) r)
inductive LamsAt (L : LamI) (M : Mem) : Nat → List Bool → List Nat → Prop
  | nil {i : Nat} : LamsAt L M i [] []
  | cons {i p : Nat} {df : Bool} {r : List Bool} {ps : List Nat} {nf : NdefX.NF} {b : Expr} : M p = some (.lam nf b df) → L i nf b df → LamsAt L M (i + 1) r ps → LamsAt L M i (df :: r) (p :: ps)
theorem LamsAt.old {L : LamI} {M M' : Mem} {i : Nat} {r : List Bool} {ps : List Nat} (h : LamsAt L M i r ps) (o : Old M M') : LamsAt L M' i r ps := by
  induction h with
  | nil => exact .nil
  | cons h1 h2 _ ih => exact .cons (o _ _ h1) h2 ih
theorem LamsAt.inv {L : LamI} {M : Mem} {i : Nat} {df : Bool} {r : List Bool} {ps : List Nat} (h : LamsAt L M i (df :: r) ps) : ∃ p t nf b, ps = p :: t ∧ M p = some (.lam nf b df) ∧ L i nf b df ∧ LamsAt L M (i + 1) r t := by
  cases h with
  | cons h1 h2 h3 => exact ⟨_, _, _, _, rfl, h1, h2, h3⟩
theorem LamsAt.inv0 {L : LamI} {M : Mem} {i : Nat} {ps : List Nat} (h : LamsAt L M i [] ps) : ps = [] := by
  cases h
  rfl
theorem LamsAt.len {L : LamI} {M : Mem} {i : Nat} {r : List Bool} {ps : List Nat} (h : LamsAt L M i r ps) : ps.length = r.length := by
  induction h with
  | nil => rfl
  | cons _ _ _ ih => simp [ih]
theorem lams_rule {P : Nat} {q : Str} {L : LamI} {dfs : List Bool} {i : Nat} {ρ : Rho} {M : Mem} {Q : List Dat → Mem → Prop} {E : XQ} (hM : M P = some (.tab q)) (h : ∀ ps M', LamsAt L M' i dfs ps → Old M M' → Q (ps.map rf) M') : dLams P q L i dfs ρ M Q E := by
  induction dfs generalizing i M Q with
  | nil => exact h [] M .nil (Old.refl M)
  | cons df r ih =>
    refine ⟨hM, fun p nf b hp hL => ?_⟩
    refine ih (Old.new hp _ _ hM) fun ps M' hl ho => ?_
    exact h (p :: ps) M' (.cons (ho _ _ mup_same) hL hl) ((Old.new hp).trans ho)
@[simp] theorem x_kinds (L : LamI) (bs : LamB) (fe : DE) (nk : Nat) (l : List (Str × Option Nat × DS)) (ρ : Rho) (M : Mem) (Q : DQ) (E : XQ) : dKinds L bs fe nk l ρ M Q E = fe ρ M (fun d M1 => ∃ ps : List Nat, d = .list (ps.map rf) ∧ ps.length ≤ sizeLine ∧ dKsL L bs nk l ρ (ps.map rf) [] M1 fun out M2 => Q (.list out) M2) E := rfl
@[simp] theorem x_kindV (L : LamI) (bs : LamB) (fe : DE) (nk : Nat) (l : List (Str × Option Nat × DS)) (ρ : Rho) (M : Mem) (Q : DQ) (E : XQ) : dKindV L bs fe nk l ρ M Q E = fe ρ M (fun d M1 => dActK L bs nk l d ρ M1 Q) E := rfl
/-- what a call through _law_kind tells -/
theorem act_raise {L : LamI} {bs : LamB} {p : Nat} {ρ : Rho} {M : Mem} {Q : DQ} {nf : NdefX.NF} {b : Expr} {df : Bool} {i n : Nat} {js : List Nat} {fb : DE} (hM : M p = some (.lam nf b df)) (hL : L i nf b df) (hb : bs[i]? = some (n, js, fb))
    (h : fb (startFD n (dvD df) (js.map fun j => (ρ[j]?).join)) M Q (kXQ 5 bdk__law_kind Q)) : dActK L bs 5 bdk__law_kind (rf p) ρ M Q :=
  ⟨p, nf, b, df, i, n, js, fb, rfl, hM, hL, hb, h⟩
theorem own_ex {x : DX} {d : Dat} (o : Own x d) {M : Mem} {Q : DQ} (hq : Q d M) : kXQ 5 bdk__law_kind Q x M := ⟨o.kind, fun f => kind_ok o hq f⟩
theorem ex_box {M : Mem} {Q : DQ} (hq : Q (.str "NoBox") M) : kXQ 5 bdk__law_kind Q (X0 "NoBox") M := own_ex .box hq
theorem ex_way {M : Mem} {Q : DQ} (hq : Q (.str "NoWay") M) : kXQ 5 bdk__law_kind Q (X0 "NoWay") M := own_ex .way hq
theorem ex_price {M : Mem} {Q : DQ} (hq : Q (.str "BadPrice") M) : kXQ 5 bdk__law_kind Q (X0 "BadPrice") M := own_ex .price hq
theorem ex_full {M : Mem} {Q : DQ} (hq : Q (.str "Full") M) : kXQ 5 bdk__law_kind Q (X0 "Full") M := own_ex .full hq
theorem ex_yard {M : Mem} {Q : DQ} {n : Int} (hq : Q (.tuple [.str "BadYard", .int n]) M) : kXQ 5 bdk__law_kind Q (numX "BadYard" n) M := own_ex (.yard _) hq
theorem ex_goal {M : Mem} {Q : DQ} {n : Int} (hq : Q (.tuple [.str "BadGoal", .int n]) M) : kXQ 5 bdk__law_kind Q (numX "BadGoal" n) M := own_ex (.goal _) hq
theorem ex_deed {M : Mem} {Q : DQ} {n : Int} (hq : Q (.tuple [.str "BadDeed", .int n]) M) : kXQ 5 bdk__law_kind Q (numX "BadDeed" n) M := own_ex (.deed _) hq
theorem ex_move {M : Mem} {Q : DQ} {n : Int} {w : Str} (hq : Q (.tuple [.str "BadMove", .int n, .str w]) M) : kXQ 5 bdk__law_kind Q (badX n w) M := own_ex (.move _ _) hq
theorem kL_eq : bdk__law_kind = kL := rfl
theorem call1 {s : DSp} {ρ : Rho} {M : Mem} {Q : DQ} {E : XQ} {i : Nat} {a : Dat} (hi : ρ[i]? = some (some a)) (h : s [a] M Q E) : dCall s (dCons (dVar i) dNil) ρ M Q E := by
  simp only [u8, u4, u3, u0, hi]
  exact h
theorem call2 {s : DSp} {ρ : Rho} {M : Mem} {Q : DQ} {E : XQ} {i j : Nat} {a b : Dat} (hi : ρ[i]? = some (some a)) (hj : ρ[j]? = some (some b)) (h : s [a, b] M Q E) : dCall s (dCons (dVar i) (dCons (dVar j) dNil)) ρ M Q E := by
  simp only [u8, u4, u3, u0, hi, hj]
  exact h
@[simp] theorem f_rep (p : Nat) (k : Int) (M : Mem) (Q : DQ) : gRep (rf p) (.int k) M Q = (match M p with | some (.lst a) => (-(2 ^ 63) ≤ k ∧ k < 2 ^ 63 ∧ a.length * k.toNat ≤ sizeLine) ∧ Q (.list (List.replicate k.toNat a).flatten) M | _ => False) := rfl
/-- the drawing's state at p, the tables of lambdas -/
def LTb (T : List (Nat × Str)) (p : Nat) (M : Mem) : Prop := (∃ st, M p = some (.lst st) ∧ StOk st) ∧ ∀ t ∈ T, M t.1 = some (.tab t.2) ∧ ¬ t.1 = p
theorem LTb.up {T : List (Nat × Str)} {p : Nat} {M : Mem} (h : LTb T p M) {st : List Dat} (hs : StOk st) : LTb T p (mup M p (.lst st)) := ⟨⟨st, mup_same, hs⟩, fun t ht => ⟨by rw [mup_ne (h.2 t ht).2]; exact (h.2 t ht).1, (h.2 t ht).2⟩⟩
theorem LTb.old {T : List (Nat × Str)} {p : Nat} {M M' : Mem} (h : LTb T p M) (o : Old M M') : LTb T p M' := by
  obtain ⟨⟨st, h1, h2⟩, h3⟩ := h
  exact ⟨⟨st, o _ _ h1, h2⟩, fun t ht => ⟨o _ _ (h3 t ht).1, (h3 t ht).2⟩⟩
theorem LTb.new {T : List (Nat × Str)} {p q : Nat} {M : Mem} (h : LTb T p M) (hq : M q = none) (o : MO) : LTb T p (mup M q o) := h.old (Old.new hq)
theorem LTb.chg {T : List (Nat × Str)} {p q : Nat} {M : Mem} (h : LTb T p M) {l : List Dat} (hq : M q = some (.lst l)) (hqp : ¬ q = p) (o : MO) : LTb T p (mup M q o) := by
  obtain ⟨⟨st, h1, h2⟩, h3⟩ := h
  exact ⟨⟨st, by rw [mup_ne (fun z => hqp z.symm)]; exact h1, h2⟩, fun t ht => ⟨by rw [mup_ne (fun z => by have := (h3 t ht).1; rw [z, hq] at this; cases this)]; exact (h3 t ht).1, (h3 t ht).2⟩⟩
theorem LTb.del {T : List (Nat × Str)} {p q : Nat} {M : Mem} (h : LTb T p M) {l : List Dat} (hq : M q = some (.lst l)) (hqp : ¬ q = p) : LTb T p (mdel M q) := by
  obtain ⟨⟨st, h1, h2⟩, h3⟩ := h
  exact ⟨⟨st, by rw [mdel_ne (fun z => hqp z.symm)]; exact h1, h2⟩, fun t ht => ⟨by rw [mdel_ne (fun z => by have := (h3 t ht).1; rw [z, hq] at this; cases this)]; exact (h3 t ht).1, (h3 t ht).2⟩⟩
theorem LTb.ne {T : List (Nat × Str)} {p q : Nat} {M : Mem} (h : LTb T p M) (hq : M q = none) : ¬ q = p := fun z => by
  obtain ⟨⟨st, h1, _⟩, _⟩ := h
  rw [z, h1] at hq; cases hq
theorem LTb.st {T : List (Nat × Str)} {p : Nat} {M : Mem} (h : LTb T p M) : ∃ st, M p = some (.lst st) ∧ StOk st := h.1
theorem LTb.tab {T : List (Nat × Str)} {p : Nat} {M : Mem} (h : LTb T p M) {a : Nat} {q : Str} (ht : (a, q) ∈ T) : M a = some (.tab q) := (h.2 _ ht).1
theorem Old.up {M : Mem} {p : Nat} {o : MO} (h : ∀ mo, M p ≠ some mo) : Old M (mup M p o) := fun a mo e => by
  rw [mup_ne (fun z => h mo (by rw [← z]; exact e))]; exact e
theorem bs0 {a : Nat × List Nat × DE} {l : LamB} : (a :: l)[0]? = some a := rfl
theorem bs1 {a b : Nat × List Nat × DE} {l : LamB} : (a :: b :: l)[1]? = some b := rfl
theorem bs2 {a b c : Nat × List Nat × DE} {l : LamB} : (a :: b :: c :: l)[2]? = some c := rfl
theorem bs3 {a b c d : Nat × List Nat × DE} {l : LamB} : (a :: b :: c :: d :: l)[3]? = some d := rfl
theorem bs4 {a b c d e : Nat × List Nat × DE} {l : LamB} : (a :: b :: c :: d :: e :: l)[4]? = some e := rfl
theorem bs5 {a b c d e f : Nat × List Nat × DE} {l : LamB} : (a :: b :: c :: d :: e :: f :: l)[5]? = some f := rfl
theorem bs6 {a b c d e f g : Nat × List Nat × DE} {l : LamB} : (a :: b :: c :: d :: e :: f :: g :: l)[6]? = some g := rfl
end Nb
set_option Elab.async false
set_option linter.all false
set_option maxRecDepth 100000
set_option maxHeartbeats 2000000
set_option autoImplicit false
namespace Nb
open PySem PySem.Spec PyProof.Rows L2
@[simp] theorem w_addn (h : Hld) (M : Mem) (Q : DQ) : gAdd (hD h) (.tuple [.none]) M Q = (h.length + 1 ≤ sizeLine ∧ Q (hD (h ++ [none])) M) := w_add3 M Q h none
@[simp] theorem w_addi (h : Hld) (k : Nat) (M : Mem) (Q : DQ) : gAdd (hD h) (.tuple [.int (k : Int)]) M Q = (h.length + 1 ≤ sizeLine ∧ Q (hD (h ++ [some k])) M) := w_add3 M Q h (some k)
theorem map_inj' {f : Option Nat → Dat} (hf : ∀ a b, f a = f b → a = b) : ∀ {l m : List (Option Nat)}, l.map f = m.map f → l = m
  | [], [], _ => rfl
  | [], _ :: _, h => by simp at h
  | _ :: _, [], h => by simp at h
  | a :: l, b :: m, h => by
    simp at h
    rw [hf a b h.1, map_inj' hf h.2]
theorem pure_is_under : ∀ ds M Q E, sp_is_under ds M Q E → bd_is_under (endsOf (fun d M' => Q d (clip M M')) (fun x M' => E x (clip M M'))) (startD 3 ds) M := by
  rintro _ M Q E ⟨h, b, o, rfl, hl, ac, ho, hq⟩
  cases o with
  | none =>
    have e0 : upOf h h.length none = [] := by cases h.length <;> rfl
    rw [e0] at hq
    simp [bd_is_under, startD, od]
    simpa using hq
  | some k =>
    have hk := ho k rfl
    obtain ⟨l, hc⟩ := ac k hk
    have eu := hc.up h.length hc.len
    rw [eu] at hq
    obtain ⟨o2, l2, h1, h2, rfl⟩ : ∃ o2 l2, h[k]? = some o2 ∧ Ch h o2 l2 ∧ l = k :: l2 := by
      cases hc with
      | cons e c => exact ⟨_, _, e, c, rfl⟩
    by_cases z : k = b
    · subst z
      simp [bd_is_under, startD, od]
      simpa using hq
    · have z' : ¬ (k : Int) = b := by omega
      have z2 : ¬ b = k := fun e => z e.symm
      simp [bd_is_under, startD, od, z', sp_chain_of, and_assoc]
      refine ⟨hl, o2, h1, l2, h2, ?_⟩
      simp [z2] at hq
      simpa using hq
theorem pure_placed : ∀ ds M Q E, sp_placed ds M Q E → bd_placed (endsOf (fun d M' => Q d (clip M M')) (fun x M' => E x (clip M M'))) (startD 3 ds) M := by
  rintro _ M Q E ⟨h, b, o, rfl, hl, hb, hq⟩
  have cut : h.take b ++ o :: h.drop (b + 1) = h.set b o := by rw [← set_cut h b o hb]; simp
  simp [bd_placed, startD, sizeLine_eq, cut]
  exact ⟨by omega, by omega, hq⟩
/-! ### moves of any sort -/
theorem AOk.pln {a : Dat} (h : AOk a) : plnB a = true := by
  rcases h with ⟨i, rfl⟩ | rfl | rfl | rfl | rfl <;> rfl
theorem AOk.sh {a : Dat} (h : AOk a) : sh 0 a := by
  rcases h with ⟨i, rfl⟩ | rfl | rfl | rfl | rfl
  · exact sh_int 0 i
  · exact ⟨rfl, Nat.le_refl _⟩
  · exact ⟨rfl, Nat.le_refl _⟩
  · exact ⟨by decide +kernel, Nat.le_refl _⟩
  · exact ⟨by decide +kernel, Nat.le_refl _⟩
theorem MvOk.sh {m : Dat} (h : MvOk m) : sh 1 m := by
  obtain ⟨l, rfl | rfl, _, h2⟩ := h
  · exact sh_list fun x hx => (h2 x hx).sh
  · exact sh_tup fun x hx => (h2 x hx).sh
@[simp] theorem toN_nat (k : Nat) : toN (.int (k : Int)) = k := rfl
@[simp] theorem toO_od (o : Option Nat) : toO (od o) = o := by cases o <;> rfl
theorem num_true {a : Dat} {n : Nat} (h : numB a 0 ((n : Int) - 1) = true) : ∃ k : Nat, k < n ∧ a = .int (k : Int) := by
  cases a with
  | int i =>
    simp at h
    exact ⟨i.toNat, by omega, by congr 1; omega⟩
  | _ => cases h
theorem hol_true {a : Dat} {n : Nat} (h : holB a (n : Int) = true) : ∃ o : Option Nat, a = od o ∧ ∀ k, o = some k → k < n := by
  cases a with
  | none => exact ⟨none, rfl, fun k e => by cases e⟩
  | int i =>
    simp [holB, isNon] at h
    exact ⟨some i.toNat, by simp [od]; omega, fun k e => by cases e; omega⟩
  | _ => cases h
@[simp] theorem whyD1 : whyD "form" = .str "form" := rfl
@[simp] theorem whyD2 : whyD "price" = .str "price" := rfl
@[simp] theorem whyD3 : whyD "there" = .str "there" := rfl
@[simp] theorem whyD4 : whyD "inside" = .str "inside" := rfl
@[simp] theorem whyD0 : whyD "" = .none := rfl
theorem pure_fault_of : ∀ ds M Q E, sp_fault_of ds M Q E → bd_fault_of (endsOf (fun d M' => Q d (clip M M')) (fun x M' => E x (clip M M'))) (startD 3 ds) M := by
  rintro _ M Q E ⟨y, h, m, rfl, hl, hh, ac, ⟨l, hm, l3, ha⟩, hq⟩
  rcases hm with rfl | rfl
  · simp [bd_fault_of, startD]
    simpa [whyOf] using hq
  match l, ha with
  | [], _ => simp [bd_fault_of, startD]; simpa [whyOf] using hq
  | [a], _ => simp [bd_fault_of, startD]; simpa [whyOf] using hq
  | a :: b :: c :: r, _ =>
    have hne : ¬ ((r.length : Int) + 1 + 1 + 1 = 2) := by omega
    have e : whyOf y h (.tuple (a :: b :: c :: r)) = "form" := rfl
    rw [e] at hq
    simp [bd_fault_of, startD, hne]
    simpa using hq
  | [a, b], ha =>
    have pa := (ha a (by simp)).pln
    have pb := (ha b (by simp)).pln
    have hq : Q (whyD (whyA y h a b)) M := hq
    unfold whyA at hq
    cases hn : numB a 0 ((y.length : Int) - 1) with
    | false =>
      rw [hn, if_pos rfl] at hq
      simp [bd_fault_of, startD, sp_is_number, and_assoc, pa, hn]
      simpa using hq
    | true =>
      rw [hn, if_neg (by decide)] at hq
      obtain ⟨k, hk, rfl⟩ := num_true hn
      cases hb : holB b (y.length : Int) with
      | false =>
        rw [hb, if_pos rfl] at hq
        simp at hn
        simp [bd_fault_of, startD, sp_is_number, sp_is_holder, and_assoc, pb, hn, hb]
        simpa using hq
      | true =>
        rw [hb, if_neg (by decide)] at hq
        obtain ⟨o, rfl, ho⟩ := hol_true hb
        obtain ⟨bx, h1, h2⟩ := get_y hk
        obtain ⟨o1, ho1⟩ := get_lt hh hk
        rw [toN_nat, toO_od, h2, ho1] at hq
        simp at hn hb
        cases hp : bx.1 with
        | none =>
          rw [hp, if_pos rfl] at hq
          simp [bd_fault_of, startD, sp_is_number, sp_is_holder, and_assoc, hn, hb, h1, hp]
          simpa using hq
        | some v =>
          rw [hp, if_neg (by simp)] at hq
          by_cases hne : o1 = o
          · rw [hne, if_pos rfl] at hq
            simp [bd_fault_of, startD, sp_is_number, sp_is_holder, and_assoc, hn, hb, h1, hp, ho1, hne]
            simpa using hq
          · rw [if_neg (by simpa using hne)] at hq
            simp [bd_fault_of, startD, sp_is_number, sp_is_holder, and_assoc, hn, hb, h1, hp, ho1, hne, sp_is_under]
            refine ⟨by omega, ac, fun k e => by rw [hh]; exact ho k e, ?_⟩
            by_cases hu : k ∈ upOf h h.length o
            · rw [if_pos hu] at hq
              simp [hu]
              simpa using hq
            · rw [if_neg hu] at hq
              simp [hu]
              simpa using hq
theorem up_mem {h : Hld} (ac : Acy h) {k : Nat} {o2 : Option Nat} (hk : h[k]? = some o2) (b : Nat) : b ∈ upOf h h.length (some k) ↔ (b = k ∨ b ∈ upOf h h.length o2) := by
  have hlt := (List.getElem?_eq_some_iff.mp hk).1
  obtain ⟨l, hc⟩ := ac k hlt
  rw [hc.up _ hc.len]
  cases hc with
  | @cons i o3 l2 e c =>
    rw [hk] at e
    cases e
    have hl2 : l2.length ≤ h.length := c.len
    rw [c.up _ hl2]
    simp
theorem why_rest {y : List Bx} {h : Hld} {k : Nat} {b : Dat} {M : Mem} {Q : DQ} {E : XQ} (hl : y.length ≤ 12) (hh : h.length = y.length) (ac : Acy h) (hk : k < y.length) (pb : plnB b = true) (hn : numB (.int (k : Int)) 0 ((y.length : Int) - 1) = true) (hq : Q (.str (whyA y h (.int (k : Int)) b)) M) :
    (dSeq (dIfS (dAndT (dB (dOp gNotN (dVar 4) (dC .none))) (dNotT (dB (dCall sp__law_is_box (dCons (dVar 4) (dCons (dBlt gLen (dCons (dVar 0) dNil)) dNil)))))) (dRet (dC (.str "form"))) dNext)
  (dSeq (dIfS (dB (dOp gIsN (dOp gIx (dOp gIx (dVar 0) (dVar 3)) (dC (.int 0))) (dC .none))) (dRet (dC (.str "price"))) dNext)
  (dSeq (dIfS (dB (dOp gEq (dOp gIx (dVar 1) (dVar 3)) (dVar 4))) (dRet (dC (.str "there"))) dNext)
  (dRet (dIf (dAndT (dB (dOp gNotN (dVar 4) (dC .none))) (dOrT (dB (dOp gEq (dVar 4) (dVar 3))) (dB (dOp gIn (dVar 3) (dCall sp__law_up (dCons (dVar 1) (dCons (dVar 4) dNil))))))) (dC (.str "inside")) (dC (.str ""))))))) (endsOf (fun d M' => Q d (clip M M')) (fun x M' => E x (clip M M'))) [some (yd y), some (hD h), some (.tuple [.int (k : Int), b]), some (.int (k : Int)), some b] M := by
  unfold whyA at hq
  rw [hn, if_neg (by decide)] at hq
  cases hb : holB b (y.length : Int) with
  | false =>
    rw [hb, if_pos rfl] at hq
    have hb1 : isNon b = false := by
      simp [holB] at hb
      exact hb.1
    have hb2 : numB b 0 ((y.length : Int) - 1) = false := by
      simp [holB] at hb
      exact hb.2
    refine seq_mid (fun _ _ => False) ?_ (fun _ _ z => z.elim)
    intro R hR
    simp [sp__law_is_box, and_assoc, pb, hb1, hb2]
    simpa using hq
  | true =>
    rw [hb, if_neg (by decide)] at hq
    obtain ⟨o, rfl, ho⟩ := hol_true hb
    obtain ⟨bx, h1, h2⟩ := get_y hk
    obtain ⟨o1, ho1⟩ := get_lt hh hk
    rw [toN_nat, toO_od, h2, ho1] at hq
    refine seq_mid (fun ρ' M' => M' = M ∧ ρ' = [some (yd y), some (hD h), some (.tuple [.int (k : Int), od o]), some (.int (k : Int)), some (od o)]) ?_ ?_
    · intro R hR
      cases o with
      | none =>
        simp [od]
        exact hR _ _ ⟨rfl, rfl⟩
      | some j =>
        have hj := ho j rfl
        have hj2 : (j : Int) ≤ (y.length : Int) - 1 := by omega
        simp [sp__law_is_box, and_assoc, od, hj2]
        exact hR _ _ ⟨rfl, rfl⟩
    rintro _ M ⟨rfl, rfl⟩
    cases hp : bx.1 with
    | none =>
      rw [hp, if_pos rfl] at hq
      refine seq_mid (fun _ _ => False) ?_ (fun _ _ z => z.elim)
      intro R hR
      simp [h1, hp]
      simpa using hq
    | some v =>
      rw [hp, if_neg (by simp)] at hq
      refine seq_mid (fun ρ' M' => M' = M ∧ ρ' = [some (yd y), some (hD h), some (.tuple [.int (k : Int), od o]), some (.int (k : Int)), some (od o)]) ?_ ?_
      · intro R hR
        simp [h1, hp]
        exact hR _ _ ⟨rfl, rfl⟩
      rintro _ M ⟨rfl, rfl⟩
      by_cases hne : o1 = o
      · rw [hne, if_pos rfl] at hq
        refine seq_mid (fun _ _ => False) ?_ (fun _ _ z => z.elim)
        intro R hR
        simp [ho1, hne]
        simpa using hq
      · rw [if_neg (by simpa using hne)] at hq
        refine seq_mid (fun ρ' M' => M' = M ∧ ρ' = [some (yd y), some (hD h), some (.tuple [.int (k : Int), od o]), some (.int (k : Int)), some (od o)]) ?_ ?_
        · intro R hR
          simp [ho1, hne]
          exact hR _ _ ⟨rfl, rfl⟩
        rintro _ M ⟨rfl, rfl⟩
        cases o with
        | none =>
          have e0 : upOf h h.length none = [] := by cases h.length <;> rfl
          rw [e0, if_neg (by simp)] at hq
          simp [od]
          simpa using hq
        | some j =>
          have hj := ho j rfl
          obtain ⟨o2, ho2⟩ := get_lt hh hj
          have um := up_mem ac ho2 k
          by_cases hjk : j = k
          · subst hjk
            rw [if_pos (um.mpr (.inl rfl))] at hq
            simp [od]
            simpa using hq
          · have hjk' : ¬ (j : Int) = k := by omega
            simp [od, hjk', sp__law_up, and_assoc]
            refine ⟨h, .inl rfl, hh ▸ hl, o2, ho2, ac.bnd, ?_⟩
            have um2 : k ∈ upOf h h.length (some j) ↔ k ∈ upOf h h.length o2 := um.trans ⟨fun z => z.elim (fun e => absurd e.symm hjk) id, .inr⟩
            by_cases hu : k ∈ upOf h h.length o2
            · rw [if_pos (um2.mpr hu)] at hq
              simp [hu]
              simpa using hq
            · rw [if_neg (fun z => hu (um2.mp z))] at hq
              simp [hu]
              simpa using hq
theorem pure__law_why : ∀ ds M Q E, sp__law_why ds M Q E → bd__law_why (endsOf (fun d M' => Q d (clip M M')) (fun x M' => E x (clip M M'))) (startD 5 ds) M := by
  rintro _ M Q E ⟨y, h, m, rfl, hl, hh, ac, ⟨l, hm, l3, ha⟩, hq⟩
  rcases hm with rfl | rfl
  · simp [bd__law_why, startD]
    simpa [whyOf] using hq
  match l, ha with
  | [], _ => simp [bd__law_why, startD]; simpa [whyOf] using hq
  | [a], _ => simp [bd__law_why, startD]; simpa [whyOf] using hq
  | a :: b :: c :: r, _ =>
    have hne : ¬ ((r.length : Int) + 1 + 1 + 1 = 2) := by omega
    have e : whyOf y h (.tuple (a :: b :: c :: r)) = "form" := rfl
    rw [e] at hq
    simp [bd__law_why, startD, hne]
    simpa using hq
  | [a, b], ha =>
    have pa := (ha a (by simp)).pln
    have pb := (ha b (by simp)).pln
    have hq : Q (.str (whyA y h a b)) M := hq
    clear ha
    simp only [bd__law_why]
    cases hn : numB a 0 ((y.length : Int) - 1) with
    | false =>
      unfold whyA at hq
      rw [hn, if_pos rfl] at hq
      refine seq_mid (fun _ _ => False) ?_ (fun _ _ z => z.elim)
      intro R hR
      simp [startD, sp__law_is_box, and_assoc, pa, hn]
      simpa using hq
    | true =>
      obtain ⟨k, hk, rfl⟩ := num_true hn
      refine seq_mid (fun ρ' M' => M' = M ∧ ρ' = [some (yd y), some (hD h), some (.tuple [.int (k : Int), b]), none, none]) ?_ ?_
      · intro R hR
        simp at hn
        simp [startD, sp__law_is_box, and_assoc, hn]
        exact hR _ _ ⟨rfl, rfl⟩
      rintro _ M ⟨rfl, rfl⟩
      refine seq_mid (fun ρ' M' => M' = M ∧ ρ' = [some (yd y), some (hD h), some (.tuple [.int (k : Int), b]), some (.int (k : Int)), some b]) ?_ ?_
      · intro R hR
        simp
        exact hR _ _ ⟨rfl, rfl⟩
      rintro _ M ⟨rfl, rfl⟩
      exact why_rest hl hh ac hk pb hn hq
end Nb
set_option Elab.async false
set_option linter.all false
set_option maxRecDepth 100000
set_option maxHeartbeats 2000000
set_option autoImplicit false
namespace Nb
open PySem PySem.Spec PyProof.Rows L2
theorem pure_need_list : ∀ ds M Q E, sp_need_list ds M Q E → bd_need_list (endsOf (fun d M' => Q d (clip M M')) (fun x M' => E x (clip M M'))) (startD 1 ds) M := by
  rintro _ M Q E ⟨d, rfl, hp, ⟨l, rfl, hq⟩ | ⟨hn, hq⟩⟩
  · simp [bd_need_list, startD]
    simpa using hq
  · cases d with
    | dict _ => cases hp
    | list l => exact absurd rfl (hn l)
    | _ => simp [bd_need_list, startD, isTy]; simpa [badX] using hq
theorem why_ok {y : List Bx} {h : Hld} {m : Dat} (hm : MvOk m) (hw : whyOf y h m = "") : ∃ (k : Nat) (o : Option Nat) (v : Int), m = .tuple [.int (k : Int), od o] ∧ k < y.length ∧ (∀ j, o = some j → j < y.length) ∧ price y k = some v ∧ k ∉ upOf h h.length o := by
  obtain ⟨l, rfl | rfl, l3, ha⟩ := hm
  · have e : whyOf y h (.list l) = "form" := rfl
    rw [e] at hw
    cases hw
  match l, ha with
  | [], _ => have e : whyOf y h (.tuple []) = "form" := rfl; rw [e] at hw; cases hw
  | [a], _ => have e : whyOf y h (.tuple [a]) = "form" := rfl; rw [e] at hw; cases hw
  | a :: b :: c :: r, _ => have e : whyOf y h (.tuple (a :: b :: c :: r)) = "form" := rfl; rw [e] at hw; cases hw
  | [a, b], ha =>
    have hw : whyA y h a b = "" := hw
    unfold whyA at hw
    cases hn : numB a 0 ((y.length : Int) - 1) with
    | false => rw [hn, if_pos rfl] at hw; cases hw
    | true =>
      rw [hn, if_neg (by decide)] at hw
      obtain ⟨k, hk, rfl⟩ := num_true hn
      cases hb : holB b (y.length : Int) with
      | false => rw [hb, if_pos rfl] at hw; cases hw
      | true =>
        rw [hb, if_neg (by decide)] at hw
        obtain ⟨o, rfl, ho⟩ := hol_true hb
        rw [toN_nat, toO_od] at hw
        cases hp : price y k with
        | none => rw [hp, if_pos rfl] at hw; cases hw
        | some v =>
          rw [hp, if_neg (by simp)] at hw
          by_cases hne : h[k]? = some o
          · rw [if_pos hne] at hw; cases hw
          · rw [if_neg hne] at hw
            by_cases hu : k ∈ upOf h h.length o
            · rw [if_pos hu] at hw; cases hw
            · exact ⟨k, o, v, rfl, hk, ho, hp, hu⟩
theorem acy_move {y : List Bx} {h : Hld} (hh : h.length = y.length) (ac : Acy h) {b : Nat} {o : Option Nat} (ho : ∀ j, o = some j → j < y.length) (hu : b ∉ upOf h h.length o) : Acy (h.set b o) := by
  have ⟨l, c⟩ : ∃ l, Ch h o l := by
    cases o with
    | none => exact ⟨[], .nil⟩
    | some j => exact ac j (by rw [hh]; exact ho j rfl)
  rw [c.up _ c.len] at hu
  exact ac.set c hu
theorem whyD_some {w : Str} (h : w ≠ "") : whyD w = .str w := if_neg h
theorem pure_behind : ∀ ds M Q E, sp_behind ds M Q E → bd_behind (endsOf (fun d M' => Q d (clip M M')) (fun x M' => E x (clip M M'))) (startD 7 ds) M := by
  rintro _ M Q E ⟨y, ms, rfl, ok, hms, hq⟩
  have hyl := ok.le
  simp [bd_behind, startD, sp_holders_of, and_assoc, hyl]
  refine for_rule (fun i ρ M' => M' = M ∧ ∃ h t v4 v5 v6, ρ = [some (yd y), some (.list ms), some (hD h), some (.int t), v4, v5, v6] ∧ h.length = y.length ∧ Acy h ∧ endB (runB y (ms.drop i) i h t) M Q E) ⟨rfl, hold y, 0, _, _, _, rfl, hold_len y, ok.ac, by simpa using hq⟩ ?_ ?_
  · rintro i d ρ M' hd ⟨rfl, h, t, v4, v5, v6, rfl, hh, ac, hr⟩ K hK
    rw [enumD_get] at hd
    cases hm : ms[i]? with
    | none => rw [hm] at hd; cases hd
    | some m =>
      rw [hm] at hd
      simp at hd
      subst hd
      have hi := (List.getElem?_eq_some_iff.mp hm).1
      have hdr : ms.drop i = m :: ms.drop (i + 1) := by
        rw [List.drop_eq_getElem_cons hi]
        congr 1
        have := List.getElem?_eq_getElem hi
        rw [this] at hm
        exact Option.some.inj hm
      have hmo := hms m (List.mem_of_getElem? hm)
      rw [hdr] at hr
      unfold runB at hr
      by_cases hw : whyOf y h m = ""
      · rw [if_pos hw] at hr
        obtain ⟨k, o, v, rfl, hk, ho, hp, hu⟩ := why_ok hmo hw
        obtain ⟨bx, h1, h2⟩ := get_y hk
        have hv : bx.1 = some v := by rw [← h2]; exact hp
        simp [sp_fault_of, sp_placed, and_assoc, h1, hv]
        refine ⟨hyl, hh, ac, hmo, ?_⟩
        rw [hw]
        simp [sp_placed, and_assoc, h1, hv]
        refine ⟨by omega, by rw [hh]; exact hk, ?_⟩
        unfold dAug
        simp [h1, hv, gAddI]
        refine hK _ _ ⟨rfl, h.set k o, t + v, _, _, _, rfl, by simpa using hh, acy_move hh ac ho hu, ?_⟩
        simp [mvH, mvP, hp] at hr
        exact hr
      · rw [if_neg hw] at hr
        simp [sp_fault_of, and_assoc]
        refine ⟨hyl, hh, ac, hmo, ?_⟩
        rw [whyD_some hw]
        simp [isNon]
        simpa [badX, endB] using hr
  · rintro ρ M' ⟨rfl, h, t, v4, v5, v6, rfl, hh, ac, hr⟩
    rw [enumD_len, List.drop_length] at hr
    simp [sizeLine_eq]
    simpa [runB, endB] using hr
theorem pure_done : ∀ ds M Q E, sp_done ds M Q E → bd_done (endsOf (fun d M' => Q d (clip M M')) (fun x M' => E x (clip M M'))) (startD 2 ds) M := by
  rintro _ M Q E ⟨y, d, rfl, ok, hp, hq⟩
  have cl : ∀ r M, endB r M Q E → endB r M (fun d M' => Q d (clip M M')) (fun x M' => E x (clip M M')) := fun r M h => by
    unfold endB at h ⊢
    split at h
    · simpa using h
    · simpa using h
  simp [bd_done, startD]
  refine .inl ⟨y, rfl, ok, ?_⟩
  rcases hq with ⟨ms, rfl, hms, hq⟩ | ⟨hn, hq⟩
  · simp [sp_need_list, and_assoc, ok]
    exact ⟨y, ms, rfl, ok, hms, cl _ _ hq⟩
  · simp [sp_need_list, and_assoc, ok]
    exact ⟨hp, .inr ⟨hn, by simpa using hq⟩⟩
/-! ### a drawn move -/
theorem five {r : Nat} (hr : r < 5) (n : Int) : ∃ d, [PyData.int n, .int (-1), .bool true, .none, .str "0"][r]? = some d ∧ AOk d := by
  have : r = 0 ∨ r = 1 ∨ r = 2 ∨ r = 3 ∨ r = 4 := by omega
  rcases this with rfl | rfl | rfl | rfl | rfl
  · exact ⟨_, rfl, .inl ⟨_, rfl⟩⟩
  · exact ⟨_, rfl, .inl ⟨_, rfl⟩⟩
  · exact ⟨_, rfl, .inr (.inr (.inl rfl))⟩
  · exact ⟨_, rfl, .inr (.inl rfl)⟩
  · exact ⟨_, rfl, .inr (.inr (.inr (.inl rfl)))⟩
theorem four {r : Nat} (hr : r < 4) (n : Int) : ∃ d, [PyData.int n, .int (-1), .bool true, .str "floor"][r]? = some d ∧ AOk d := by
  have : r = 0 ∨ r = 1 ∨ r = 2 ∨ r = 3 := by omega
  rcases this with rfl | rfl | rfl | rfl
  · exact ⟨_, rfl, .inl ⟨_, rfl⟩⟩
  · exact ⟨_, rfl, .inl ⟨_, rfl⟩⟩
  · exact ⟨_, rfl, .inr (.inr (.inl rfl))⟩
  · exact ⟨_, rfl, .inr (.inr (.inr (.inr rfl)))⟩
theorem three {r : Nat} (hr : r < 3) {a b : Dat} (ha : AOk a) (hb : AOk b) : ∃ d, [PyData.list [a, b], .tuple [a], .tuple [a, b, .int 1]][r]? = some d ∧ MvOk d := by
  have : r = 0 ∨ r = 1 ∨ r = 2 := by omega
  rcases this with rfl | rfl | rfl
  · refine ⟨_, rfl, [a, b], .inl rfl, by simp, fun x hx => ?_⟩
    simp at hx
    rcases hx with rfl | rfl <;> assumption
  · refine ⟨_, rfl, [a], .inr rfl, by simp, fun x hx => ?_⟩
    simp at hx
    rw [hx]
    exact ha
  · refine ⟨_, rfl, [a, b, .int 1], .inr rfl, by simp, fun x hx => ?_⟩
    simp at hx
    rcases hx with rfl | rfl | rfl
    · exact ha
    · exact hb
    · exact .inl ⟨_, rfl⟩
theorem mv_two {a b : Dat} (ha : AOk a) (hb : AOk b) : MvOk (.tuple [a, b]) := by
  refine ⟨[a, b], .inr rfl, by simp, fun x hx => ?_⟩
  simp at hx
  rcases hx with rfl | rfl <;> assumption
theorem pure__law_move : ∀ ds M Q E, sp__law_move ds M Q E → bd__law_move (endsOf (fun d M' => Q d (clip M M')) (fun x M' => E x (clip M M'))) (startD 5 ds) M := by
  rintro _ M Q E ⟨p, st, n, rfl, hp, hst, h0, h12, hq⟩
  simp only [bd__law_move]
  refine seq_mid (fun ρ' M' => ∃ (b t o : Nat) (st : List Dat), o < 60 ∧ StOk st ∧ M' = mup M p (.lst st) ∧ ρ' = [some (rf p), some (.int (n : Int)), some (.int (b : Int)), some (.int (t : Int)), some (.int (o : Int))]) ?_ ?_
  · intro R hR
    simp [startD, sp__law_drawn, and_assoc]
    refine ⟨st, hp, hst, by omega, by omega, fun b s1 hb h1 => ?_⟩
    refine ⟨h1, by omega, fun t s2 ht h2 => ?_⟩
    refine ⟨h2, fun o s3 ho h3 => hR _ _ ⟨b, t, o, s3, by omega, h3, rfl, rfl⟩⟩
  rintro _ _ ⟨b, t, o, st, ho, hst, rfl, rfl⟩
  refine seq_mid (fun ρ' M' => ∃ (td : Dat), AOk td ∧ M' = mup M p (.lst st) ∧ ρ' = [some (rf p), some (.int (n : Int)), some (.int (b : Int)), some td, some (.int (o : Int))]) ?_ ?_
  · intro R hR
    by_cases e : t = n
    · simp [e]
      exact hR _ _ ⟨_, .inr (.inl rfl), rfl, rfl⟩
    · have e' : ¬ (t : Int) = n := by omega
      simp [e']
      exact hR _ _ ⟨_, .inl ⟨_, rfl⟩, rfl, rfl⟩
  rintro _ _ ⟨td, htd, rfl, rfl⟩
  refine seq_mid (fun ρ' M' => ∃ (bd : Dat), AOk bd ∧ M' = mup M p (.lst st) ∧ ρ' = [some (rf p), some (.int (n : Int)), some bd, some td, some (.int (o : Int))]) ?_ ?_
  · intro R hR
    by_cases e : o < 5
    · have e' : (o : Int) < 5 := by omega
      obtain ⟨d, h1, h2⟩ := five e (n : Int)
      simp [e', sizeLine_eq, h1]
      exact hR _ _ ⟨d, h2, rfl, rfl⟩
    · have e' : ¬ (o : Int) < 5 := by omega
      simp [e']
      exact hR _ _ ⟨_, .inl ⟨_, rfl⟩, rfl, rfl⟩
  rintro _ _ ⟨bd, hbd, rfl, rfl⟩
  refine seq_mid (fun ρ' M' => ∃ (td : Dat), AOk td ∧ M' = mup M p (.lst st) ∧ ρ' = [some (rf p), some (.int (n : Int)), some bd, some td, some (.int (o : Int))]) ?_ ?_
  · intro R hR
    by_cases e1 : 5 ≤ o
    · have e1' : (5 : Int) ≤ o := by omega
      by_cases e2 : o < 9
      · have e2' : (o : Int) < 9 := by omega
        obtain ⟨d, h1, h2⟩ := four (r := o - 5) (by omega) (n : Int)
        have e3 : (o : Int) - 5 = ((o - 5 : Nat) : Int) := by omega
        simp [e1', e2', sizeLine_eq, e3, h1]
        exact hR _ _ ⟨d, h2, rfl, rfl⟩
      · have e2' : ¬ (o : Int) < 9 := by omega
        simp [e1', e2']
        exact hR _ _ ⟨td, htd, rfl, rfl⟩
    · have e1' : ¬ (5 : Int) ≤ o := by omega
      simp [e1']
      exact hR _ _ ⟨td, htd, rfl, rfl⟩
  rintro _ _ ⟨td, htd, rfl, rfl⟩
  have fin : ∀ m, MvOk m → Q m (clip M (mup M p (.lst st))) := fun m hm => by
    rw [clip_set hp]
    exact hq m st hm hst
  by_cases e : o = 9 ∨ o = 10 ∨ o = 11
  · have e1 : inD (.int (o : Int)) [.int 9, .int 10, .int 11] = true := by
      rcases e with rfl | rfl | rfl <;> rfl
    obtain ⟨d, h1, h2⟩ := three (r := o - 9) (by omega) hbd htd
    have e3 : (o : Int) - 9 = ((o - 9 : Nat) : Int) := by omega
    simp [e1, flatD, sizeLine_eq, e3, h1]
    exact fin d h2
  · have e1 : inD (.int (o : Int)) [.int 9, .int 10, .int 11] = false := by
      have a1 : ¬ (9 : Int) = o := by omega
      have a2 : ¬ (10 : Int) = o := by omega
      have a3 : ¬ (11 : Int) = o := by omega
      simp [inD, a1, a2, a3]
    simp [e1, flatD, sizeLine_eq]
    exact fin _ (mv_two hbd htd)
end Nb
set_option Elab.async false
set_option linter.all false
set_option maxRecDepth 100000
set_option maxHeartbeats 2000000
set_option autoImplicit false
namespace Nb
open PySem PySem.Spec PyProof.Rows L2
section
variable (ρ : Rho) (M : Mem) (Q : DQ) (E : XQ) (R : Rho → Mem → Prop) (S : List Dat → Mem → Prop) (a b c : DE) (v : Dat)
@[simp] theorem x_new : dDctNew ρ M Q E = ∀ p, M p = none → Q (rf p) (mup M p (.dct [])) := rfl
@[simp] theorem x_one : dDct1 a b ρ M Q E = ∀ p, M p = none → a ρ (mup M p (.dct [])) (fun k M1 => b ρ M1 (fun v M2 => ∃ h n, k = .tuple (h.map od) ∧ v = .int n ∧ M2 p = some (.dct []) ∧ Q (rf p) (mup M2 p (.dct [(h, n)]))) E) E := rfl
@[simp] theorem x_get : dDGet2 a b c ρ M Q E = a ρ M (fun d M1 => ∃ p kvs, d = rf p ∧ M1 p = some (.dct kvs) ∧ b ρ M1 (fun k M2 => c ρ M2 (fun x M3 => ∃ kvs' h n, k = .tuple (h.map od) ∧ x = .int n ∧ M3 p = some (.dct kvs') ∧ Q (.int ((lkD kvs' h).getD n)) M3) E) E) E := rfl
@[simp] theorem x_sub : gSubDD a b v ρ M R = a ρ M (fun d M1 => b ρ M1 (fun x M2 => ∃ p kvs h n, d = rf p ∧ x = .tuple (h.map od) ∧ v = .int n ∧ M2 p = some (.dct kvs) ∧ kvs.length < sizeLine ∧ R ρ (mup M2 p (.dct (putD kvs h n)))) noX) noX := rfl
@[simp] theorem x_items : iItemsD a ρ M S E = a ρ M (fun d M1 => ∃ p kvs, d = rf p ∧ M1 p = some (.dct kvs) ∧ S (itmD kvs) (mdel M1 p)) E := rfl
@[simp] theorem x_sumV : dSumV a ρ M Q E = a ρ M (fun d M1 => ∃ p kvs, d = rf p ∧ M1 p = some (.dct kvs) ∧ Q (.int (kvs.map (·.2)).sum) M1) E := rfl
end
theorem hD_inj {a b : Hld} (h : hD a = .tuple (b.map od)) : b = a := by
  simp only [hD, PyData.tuple.injEq] at h
  exact (map_inj (fun a b => od_inj) h).symm
@[simp] theorem hD_tup (a b : Hld) : (hD a = .tuple (b.map od)) ↔ b = a := ⟨hD_inj, fun h => by rw [h]; rfl⟩
theorem er_filter {l : List Nat} (nd : l.Nodup) {k b : Nat} (h : l[k]? = some b) : l.take k ++ l.drop (k + 1) = l.filter fun x => x != b := by
  induction l generalizing k with
  | nil => simp at h
  | cons a l ih =>
    obtain ⟨ha, nd'⟩ := List.nodup_cons.mp nd
    cases k with
    | zero =>
      simp at h
      subst h
      have : l.filter (fun x => x != a) = l := List.filter_eq_self.mpr fun x hx => by
        have : x ≠ a := fun z => ha (z ▸ hx)
        simp [this]
      simp [this]
    | succ k =>
      simp at h
      have hab : a ≠ b := fun z => ha (z ▸ List.mem_of_getElem? h)
      simp [hab, ih nd' h]
theorem filt_len {l : List Nat} (nd : l.Nodup) {b : Nat} (h : b ∈ l) : (l.filter fun x => x != b).length + 1 = l.length := by
  obtain ⟨k, hk⟩ := List.mem_iff_getElem?.mp h
  rw [← er_filter nd hk]
  have := (List.getElem?_eq_some_iff.mp hk).1
  simp
  omega
theorem nD_take (l : List Nat) (k : Nat) : (nD l).take k = nD (l.take k) := by simp [nD, List.map_take]
theorem nD_app (a b : List Nat) : nD a ++ nD b = nD (a ++ b) := by simp [nD]
theorem nD_get' {l : List Nat} {k b : Nat} (h : l[k]? = some b) : (nD l)[k]? = some (.int (b : Int)) := by rw [nD_get, h]; rfl
theorem okB_ch {h g : Hld} {b : Nat} (ac : Acy h) (gb : Bnd g) (hgl : g.length = h.length) (hk : okB h g b = true) : Acy (h.set b ((g[b]?).join)) := by
  cases hg : (g[b]?).join with
  | none => exact ac.set .nil (by simp)
  | some k =>
    have hk' : k < h.length := by
      rw [← hgl]
      refine gb b k ?_
      cases e : g[b]? with
      | none => rw [e] at hg; cases hg
      | some o => rw [e] at hg; have : o = some k := hg; rw [this]
    obtain ⟨l, c⟩ := ac k hk'
    unfold okB at hk
    rw [hg, c.up _ c.len] at hk
    exact ac.set c (by simpa using hk)
/-! ### the table of orders -/
def leftL (S : List Nat) (h g : Hld) : List Nat := S.filter fun b => decide (h[b]? ≠ g[b]?)
def cN (g : Hld) (S : List Nat) (m : Nat) (h : Hld) : Int := cnt g m h (leftL S h g)
def WS (F : HK → Int) (kvs : List (HK × Int)) : Int := (kvs.map fun p => p.2 * F p.1).sum
def bdN (n : Nat) : Nat → Nat
  | 0 => 1
  | i + 1 => bdN n i * (n - i)
theorem bdN_le : ∀ n, n ≤ 8 → ∀ i, i ≤ 8 → bdN n i ≤ 40320 := by
  intro n hn i hi
  have : ∀ n : Fin 9, ∀ i : Fin 9, bdN n i ≤ 40320 := by decide
  exact this ⟨n, by omega⟩ ⟨i, by omega⟩
def Ag (M M' : Mem) : Prop := ∀ a, M a ≠ none → M' a = M a
theorem Ag.clip {M M' : Mem} (h : Ag M M') : clip M M' = M := by
  funext a
  unfold Nb.clip
  cases e : M a with
  | none => simp
  | some o => simp [h a (by rw [e]; simp), e]
theorem Ag.up {M M' : Mem} (h : Ag M M') {q : Nat} (hq : M q = none) (o : MO) : Ag M (mup M' q o) := fun a ha => by
  have : a ≠ q := fun z => ha (z ▸ hq)
  rw [mup_ne this]; exact h a ha
theorem Ag.del {M M' : Mem} (h : Ag M M') {q : Nat} (hq : M q = none) : Ag M (mdel M' q) := fun a ha => by
  have : a ≠ q := fun z => ha (z ▸ hq)
  rw [mdel_ne this]; exact h a ha
theorem Ag.free {M M' : Mem} (h : Ag M M') {q : Nat} (hq : M' q = none) : M q = none := by
  cases e : M q with
  | none => rfl
  | some o => rw [h q (by rw [e]; simp), e] at hq; cases hq
theorem lk_none {kvs : List (HK × Int)} {h : HK} (e : lkD kvs h = none) : ∀ p ∈ kvs, p.1 ≠ h := fun p hp z => by
  unfold lkD at e
  rw [Option.map_eq_none_iff, List.find?_eq_none] at e
  exact e p hp (by simpa using z)
theorem put_keys (kvs : List (HK × Int)) (h : HK) (i : Int) : (putD kvs h i).map (·.1) = if (lkD kvs h).isSome then kvs.map (·.1) else kvs.map (·.1) ++ [h] := by
  unfold putD
  split
  · rw [List.map_map]
    apply List.map_congr_left
    intro p _
    simp only [Function.comp]
    split <;> rfl
  · simp
theorem put_nodup {kvs : List (HK × Int)} {h : HK} {i : Int} (nd : (kvs.map (·.1)).Nodup) : ((putD kvs h i).map (·.1)).Nodup := by
  rw [put_keys]
  split
  · exact nd
  · rename_i e
    have e : lkD kvs h = none := by simpa using e
    rw [List.nodup_append]
    refine ⟨nd, by simp, fun a ha b hb z => ?_⟩
    obtain ⟨p, hp, rfl⟩ := List.mem_map.mp ha
    simp at hb
    exact lk_none e p hp (z.trans hb)
theorem put_mem {kvs : List (HK × Int)} {h : HK} {i : Int} {P : HK → Prop} (hP : ∀ p ∈ kvs, P p.1) (hh : P h) : ∀ p ∈ putD kvs h i, P p.1 := fun p hp => by
  have : p.1 ∈ (putD kvs h i).map (·.1) := List.mem_map.mpr ⟨p, hp, rfl⟩
  rw [put_keys] at this
  split at this
  · obtain ⟨q, hq, e⟩ := List.mem_map.mp this
    rw [← e]; exact hP q hq
  · rcases List.mem_append.mp this with z | z
    · obtain ⟨q, hq, e⟩ := List.mem_map.mp z
      rw [← e]; exact hP q hq
    · simp at z
      rw [z]; exact hh
theorem WS_cons (F : HK → Int) (p : HK × Int) (kvs : List (HK × Int)) : WS F (p :: kvs) = p.2 * F p.1 + WS F kvs := by simp [WS]
theorem WS_app (F : HK → Int) (a b : List (HK × Int)) : WS F (a ++ b) = WS F a + WS F b := by simp [WS]
theorem WS_same {F : HK → Int} {h : HK} {v : Int} : ∀ {kvs : List (HK × Int)}, (∀ p ∈ kvs, p.1 ≠ h) → WS F (kvs.map fun p => if p.1 = h then (p.1, v) else p) = WS F kvs
  | [], _ => rfl
  | p :: kvs, hn => by
    rw [List.map_cons, WS_cons, WS_cons, WS_same fun q hq => hn q (by simp [hq]), if_neg (hn p (by simp))]
theorem WS_repl {F : HK → Int} {h : HK} {v w : Int} : ∀ {kvs : List (HK × Int)}, (kvs.map (·.1)).Nodup → lkD kvs h = some v → WS F (kvs.map fun p => if p.1 = h then (p.1, v + w) else p) = WS F kvs + w * F h
  | [], _, e => by simp [lkD] at e
  | p :: kvs, nd, e => by
    rw [List.map_cons, List.nodup_cons] at nd
    rw [List.map_cons, WS_cons, WS_cons]
    by_cases z : p.1 = h
    · have e2 : p.2 = v := by simpa [lkD, List.find?_cons, z] using e
      have hn : ∀ q ∈ kvs, q.1 ≠ h := fun q hq e3 => nd.1 (List.mem_map.mpr ⟨q, hq, by rw [e3, z]⟩)
      rw [WS_same hn, if_pos z, z, e2, Int.add_mul]
      omega
    · have e2 : lkD kvs h = some v := by simpa [lkD, List.find?_cons, z] using e
      rw [WS_repl nd.2 e2, if_neg z]
      omega
theorem WS_put {F : HK → Int} {kvs : List (HK × Int)} {h : HK} {w : Int} (nd : (kvs.map (·.1)).Nodup) : WS F (putD kvs h ((lkD kvs h).getD 0 + w)) = WS F kvs + w * F h := by
  unfold putD
  cases e : lkD kvs h with
  | none =>
    simp only [Option.isSome_none, Bool.false_eq_true, if_false, Option.getD_none]
    rw [WS_app, WS_cons]
    simp [WS]
  | some v =>
    simp only [Option.isSome_some, if_true, Option.getD_some]
    exact WS_repl nd e
theorem left_set {S : List Nat} {h g : Hld} {b : Nat} {o : Option Nat} (hb : b < h.length) (hg : g[b]? = some o) : leftL S (h.set b o) g = (leftL S h g).filter fun x => x != b := by
  unfold leftL
  rw [List.filter_filter]
  apply List.filter_congr
  intro x _
  by_cases z : x = b
  · subst z
    rw [List.getElem?_set_self hb, hg]
    simp
  · have z2 : b ≠ x := fun e => z e.symm
    rw [List.getElem?_set_ne z2]
    simp [z]
theorem filt_sum (q : Nat → Bool) (F : Nat → Int) : ∀ S : List Nat, ((S.filter q).map F).sum = (S.map fun b => if q b = true then F b else 0).sum
  | [] => rfl
  | b :: S => by
    have ih := filt_sum q F S
    by_cases z : q b = true
    · simp [z, ih]
    · simp [z, ih]
def stG (g : Hld) (S : List Nat) (m : Nat) (h : Hld) (b : Nat) : Int := if h[b]? ≠ g[b]? ∧ okB h g b = true then cN g S m (h.set b ((g[b]?).join)) else 0
theorem cN_step {g : Hld} {S : List Nat} {m : Nat} {h : Hld} (hS : ∀ b ∈ S, b < h.length) (hgl : g.length = h.length) : cN g S (m + 1) h = (S.map (stG g S m h)).sum := by
  show ((leftL S h g).map fun b => if okB h g b = true then cnt g m (h.set b ((g[b]?).join)) ((leftL S h g).filter fun x => x != b) else 0).sum = _
  have e1 : (leftL S h g).map (fun b => if okB h g b = true then cnt g m (h.set b ((g[b]?).join)) ((leftL S h g).filter fun x => x != b) else 0) = (leftL S h g).map fun b => if okB h g b = true then cN g S m (h.set b ((g[b]?).join)) else 0 := by
    apply List.map_congr_left
    intro b hb
    have hbS := (List.mem_filter.mp hb).1
    obtain ⟨o, ho⟩ := get_lt hgl (hS b hbS)
    have hj : (g[b]?).join = o := by rw [ho]; rfl
    unfold cN
    rw [hj, left_set (hS b hbS) ho]
  rw [e1]
  have e2 := filt_sum (fun b => decide (h[b]? ≠ g[b]?)) (fun b => if okB h g b = true then cN g S m (h.set b ((g[b]?).join)) else 0) S
  unfold leftL
  rw [e2]
  congr 1
  apply List.map_congr_left
  intro b _
  unfold stG
  by_cases z : h[b]? ≠ g[b]?
  · by_cases z2 : okB h g b = true
    · simp [z, z2]
    · simp [z, z2]
  · simp [z]
theorem left_some (y : List Bx) (g : Hld) : leftL (someL y g) (hold y) g = someL y g := by
  unfold leftL someL
  rw [List.filter_filter]
  apply List.filter_congr
  intro x _
  simp
theorem some_nodup (y : List Bx) (g : Hld) : (someL y g).Nodup := List.nodup_range.filter _
theorem WS_one (kvs : List (HK × Int)) (g : Hld) (S : List Nat) : WS (cN g S 0) kvs = (kvs.map (·.2)).sum := by
  unfold WS
  congr 1
  apply List.map_congr_left
  intro p _
  show p.2 * 1 = p.2
  omega
/-- what a table of level i keeps -/
structure Lv (y : List Bx) (g : Hld) (S : List Nat) (m : Nat) (kvs : List (HK × Int)) : Prop where
  nd : (kvs.map (·.1)).Nodup
  ok : ∀ e ∈ kvs, e.1.length = y.length ∧ Acy e.1 ∧ (leftL S e.1 g).length = m
theorem itm_get (kvs : List (HK × Int)) (j : Nat) : (itmD kvs)[j]? = (kvs[j]?).map fun q => .tuple [hD q.1, .int q.2] := List.getElem?_map
theorem itm_len (kvs : List (HK × Int)) : (itmD kvs).length = kvs.length := List.length_map _
theorem take_len {S : List Nat} {q : Nat → Bool} (k : Nat) : ((S.take k).filter q).length ≤ (S.filter q).length := ((List.take_sublist k S).filter q).length_le
theorem filt_snoc {S : List Nat} {q : Nat → Bool} {k b : Nat} (h : S[k]? = some b) : (S.take (k + 1)).filter q = (S.take k).filter q ++ (if q b = true then [b] else []) := by
  rw [List.take_add_one, h, List.filter_append]
  by_cases z : q b = true <;> simp [z]
theorem pure_Task_orders : ∀ ds M Q E, sp_Task_orders ds M Q E → bd_Task_orders (endsOf (fun d M' => Q d (clip M M')) (fun x M' => E x (clip M M'))) (startD 8 ds) M := by
  rintro _ M0 Q E ⟨p, y, g, rfl, ok, hgl, acg, h8, hp, hq⟩
  have hyl := ok.le
  obtain ⟨S, hS⟩ : ∃ S, S = someL y g := ⟨_, rfl⟩
  obtain ⟨n, hn⟩ : ∃ n, n = S.length := ⟨_, rfl⟩
  have hSnd : S.Nodup := hS ▸ some_nodup y g
  have hSlt : ∀ b ∈ S, b < y.length := fun b hb => some_lt (hS ▸ hb)
  have hord : ordI y g = cN g S n (hold y) := by
    unfold ordI cN
    rw [← hS, ← hn]
    congr 1
    rw [hS, left_some]
  have hn8 : n ≤ 8 := by rw [hn, hS]; exact h8
  have gb := acg.bnd
  have hT : M0 p = some (.ins "Task" L_Task [yd y, hD g, hD (hold y), .list (nD S)]) := by rw [hp, hS]; rfl
  have fld : ∀ M' : Mem, Ag M0 M' → M' p = some (.ins "Task" L_Task [yd y, hD g, hD (hold y), .list (nD S)]) := fun M' h => by rw [h p (by rw [hT]; simp), hT]
  simp only [bd_Task_orders]
  refine seq_mid (fun ρ' M' => ∃ q, M0 q = none ∧ Ag M0 M' ∧ M' q = some (.dct [(hold y, 1)]) ∧ ρ' = [some (rf p), some (rf q), none, none, none, none, none, none]) ?_ ?_
  · intro R hR
    simp [startD]
    intro q hq1
    have hpq : ¬ p = q := fun z => by rw [z, hq1] at hT; cases hT
    simp [dFld, hpq, hT]
    exact hR _ _ ⟨q, hq1, fun a ha => mup_ne (fun z => ha (z ▸ hq1)), by simp, rfl⟩
  rintro _ M1 ⟨q0, hq0, ag0, hm0, rfl⟩
  refine seq_mid (fun ρ' M' => ∃ q kvs v2 v3 v4 v5 v6 v7, M0 q = none ∧ Ag M0 M' ∧ M' q = some (.dct kvs) ∧ WS (cN g S 0) kvs = cN g S n (hold y) ∧ ρ' = [some (rf p), some (rf q), v2, v3, v4, v5, v6, v7]) ?_ ?_
  rotate_left
  · rintro _ M' ⟨q, kvs, v2, v3, v4, v5, v6, v7, hq1, ag, hm, hw, rfl⟩
    simp [hm]
    rw [ag.clip, ← WS_one kvs g S, hw, ← hord]
    exact hq
  intro R hR
  simp [dFld, fld M1 ag0]
  refine for_rule (fun i ρ M' => ∃ q kvs v2 v3 v4 v5 v6 v7, M0 q = none ∧ Ag M0 M' ∧ M' q = some (.dct kvs) ∧ Lv y g S (n - i) kvs ∧ kvs.length ≤ bdN n i ∧ WS (cN g S (n - i)) kvs = cN g S n (hold y) ∧ ρ = [some (rf p), some (rf q), v2, v3, v4, v5, v6, v7]) ⟨q0, _, _, _, _, _, _, _, hq0, ag0, hm0, ⟨by simp, fun e he => ?_⟩, by simp [bdN], by simp [WS], rfl⟩ ?_ ?_
  · simp at he
    subst he
    refine ⟨hold_len y, ok.ac, ?_⟩
    show (leftL S (hold y) g).length = n - 0
    rw [hS, left_some, ← hS, ← hn]
    rfl
  rotate_left
  · rintro ρ M' ⟨q, kvs, v2, v3, v4, v5, v6, v7, hq1, ag, hm, _, _, hw, rfl⟩
    rw [nD_len, ← hn, Nat.sub_self] at hw
    exact hR _ _ ⟨q, kvs, _, _, _, _, _, _, hq1, ag, hm, hw, rfl⟩
  clear hm0 hq0 ag0
  rintro i d ρ M2 hd ⟨q, kvs, v2, v3, v4, v5, v6, v7, hqn, ag, hm, lv, hkl, hw, rfl⟩ K hK
  have hi : i < n := by
    have := (List.getElem?_eq_some_iff.mp hd).1
    rw [nD_len] at this
    omega
  obtain ⟨m, hmm⟩ : ∃ m, n - i = m + 1 := ⟨n - i - 1, by omega⟩
  have hm' : n - (i + 1) = m := by omega
  have hbd := bdN_le n hn8 (i + 1) (by omega)
  have hbd' : bdN n (i + 1) = bdN n i * (m + 1) := by show bdN n i * (n - i) = _; rw [hmm]
  have hkm : kvs.length * (m + 1) ≤ 40320 := by
    have := Nat.mul_le_mul_right (m + 1) hkl
    omega
  rw [v_gN]
  refine seq_mid (fun ρ' M' => ∃ r, M0 r = none ∧ ¬ q = r ∧ Ag M0 M' ∧ M' q = some (.dct kvs) ∧ M' r = some (.dct []) ∧ ρ' = [some (rf p), some (rf q), some d, some (rf r), v4, v5, v6, v7]) ?_ ?_
  · intro R hR
    simp
    intro r hr
    have hqr : ¬ q = r := fun z => by rw [z, hr] at hm; cases hm
    have hrn := ag.free hr
    exact hR _ _ ⟨r, hrn, hqr, ag.up hrn _, by simp [hqr, hm], by simp, rfl⟩
  rintro _ M3 ⟨r, hrn, hqr, ag3, hq3, hr3, rfl⟩
  have hrq : ¬ r = q := fun z => hqr z.symm
  refine seq_mid (fun ρ' M' => ∃ L v4 v5 v6 v7, Ag M0 M' ∧ M' r = some (.dct L) ∧ Lv y g S m L ∧ L.length ≤ kvs.length * (m + 1) ∧ WS (cN g S m) L = WS (cN g S (m + 1)) kvs ∧ ρ' = [some (rf p), some (rf q), some d, some (rf r), v4, v5, v6, v7]) ?_ ?_
  rotate_left
  · rintro _ M4 ⟨L, v4, v5, v6, v7, ag4, hr4, lv4, hl4, hw4, rfl⟩
    simp
    refine hK _ _ ⟨r, L, _, _, _, _, _, _, hrn, ag4, hr4, by rw [hm']; exact lv4, by rw [hbd']; exact Nat.le_trans hl4 (Nat.mul_le_mul_right _ hkl), ?_, rfl⟩
    rw [hm', hw4, ← hmm]
    exact hw
  intro R hR
  simp [hq3]
  refine for_rule (fun j ρ M' => ∃ L v4 v5 v6 v7, Ag M0 M' ∧ M' r = some (.dct L) ∧ Lv y g S m L ∧ L.length ≤ j * (m + 1) ∧ WS (cN g S m) L = WS (cN g S (m + 1)) (kvs.take j) ∧ ρ = [some (rf p), some (rf q), some d, some (rf r), v4, v5, v6, v7]) ⟨[], _, _, _, _, ag3.del hqn, by rw [mdel_ne hrq]; exact hr3, ⟨by simp, fun e he => by cases he⟩, by simp, by simp [WS], rfl⟩ ?_ ?_
  rotate_left
  · rintro ρ M4 ⟨L, v4, v5, v6, v7, ag4, hr4, lv4, hl4, hw4, rfl⟩
    rw [itm_len] at hl4 hw4
    rw [List.take_length] at hw4
    exact hR _ _ ⟨L, _, _, _, _, ag4, hr4, lv4, hl4, hw4, rfl⟩
  clear hr3 hq3 ag3 hm
  rintro j dj ρ M4 hdj ⟨L, v4, v5, v6, v7, ag4, hr4, lv4, hl4, hw4, rfl⟩ K2 hK2
  rw [itm_get] at hdj
  cases hkj : kvs[j]? with
  | none => rw [hkj] at hdj; cases hdj
  | some e =>
  rw [hkj] at hdj
  simp at hdj
  subst hdj
  obtain ⟨h, w⟩ := e
  obtain ⟨hhl, hha, hhm⟩ := lv.ok _ (List.mem_of_getElem? hkj)
  have hhl : h.length = y.length := hhl
  have hha : Acy h := hha
  have hhm : (leftL S h g).length = m + 1 := by rw [← hmm]; exact hhm
  have hjl : j < kvs.length := (List.getElem?_eq_some_iff.mp hkj).1
  have hghl : g.length = h.length := by omega
  have hjm : (j + 1) * (m + 1) ≤ 40320 := Nat.le_trans (Nat.mul_le_mul_right _ hjl) hkm
  have hjm' : (j + 1) * (m + 1) = j * (m + 1) + (m + 1) := by rw [Nat.add_mul]; omega
  have hstep : WS (cN g S (m + 1)) (kvs.take (j + 1)) = WS (cN g S (m + 1)) (kvs.take j) + w * (S.map (stG g S m h)).sum := by
    rw [List.take_add_one, hkj, Option.toList_some, WS_app, WS_cons, cN_step (fun b hb => by rw [hhl]; exact hSlt b hb) hghl]
    simp [WS]
  simp [dFld, fld M4 ag4]
  refine for_rule (fun k ρ M' => ∃ L v6 v7, Ag M0 M' ∧ M' r = some (.dct L) ∧ Lv y g S m L ∧ L.length ≤ j * (m + 1) + ((S.take k).filter fun b => decide (h[b]? ≠ g[b]?)).length ∧ WS (cN g S m) L = WS (cN g S (m + 1)) (kvs.take j) + w * ((S.take k).map (stG g S m h)).sum ∧ ρ = [some (rf p), some (rf q), some d, some (rf r), some (hD h), some (.int w), v6, v7]) ⟨L, _, _, ag4, hr4, lv4, by simpa using hl4, by rw [hw4]; simp, rfl⟩ ?_ ?_
  rotate_left
  · rintro ρ M5 ⟨L, v6, v7, ag5, hr5, lv5, hl5, hw5, rfl⟩
    rw [nD_len, List.take_length] at hl5 hw5
    have : (S.filter fun b => decide (h[b]? ≠ g[b]?)).length = m + 1 := hhm
    exact hK2 _ _ ⟨L, _, _, _, _, ag5, hr5, lv5, by omega, by rw [hw5, hstep], rfl⟩
  clear hr4 hw4 hl4 lv4 ag4
  rintro k dk ρ M5 hdk ⟨L, v6, v7, ag5, hr5, lv5, hl5, hw5, rfl⟩ K3 hK3
  rw [nD_get] at hdk
  cases hbk : S[k]? with
  | none => rw [hbk] at hdk; cases hdk
  | some b =>
  rw [hbk] at hdk
  cases hdk
  have hbS := List.mem_of_getElem? hbk
  have hby := hSlt b hbS
  obtain ⟨o1, ho1⟩ := get_lt hhl hby
  obtain ⟨o2, ho2⟩ := get_lt hgl hby
  have hj2 : (g[b]?).join = o2 := by rw [ho2]; rfl
  have hfl := filt_snoc (q := fun b => decide (h[b]? ≠ g[b]?)) hbk
  have hfle := take_len (S := S) (q := fun b => decide (h[b]? ≠ g[b]?)) k
  have hfm : (S.filter fun b => decide (h[b]? ≠ g[b]?)).length = m + 1 := hhm
  have hsum : ((S.take (k + 1)).map (stG g S m h)).sum = ((S.take k).map (stG g S m h)).sum + stG g S m h b := by
    rw [List.take_add_one, hbk]
    simp
  have hlen1 : ((S.take k).filter fun b => decide (h[b]? ≠ g[b]?)).length ≤ ((S.take (k + 1)).filter fun b => decide (h[b]? ≠ g[b]?)).length := by
    rw [hfl, List.length_append]; omega
  have hob : ∀ k', o2 = some k' → k' < h.length := fun k' e => by
    rw [← hghl]; exact gb b k' (by rw [ho2, e])
  have skip : ∀ v6 v7, stG g S m h b = 0 → K3 [some (rf p), some (rf q), some d, some (rf r), some (hD h), some (.int w), v6, v7] M5 := fun v6 v7 e => hK3 _ _ ⟨L, _, _, ag5, hr5, lv5, by omega, by rw [hw5, hsum, e]; simp, rfl⟩
  by_cases z1 : o1 = o2
  · simp [ho1, ho2, z1, dFld, fld M5 ag5]
    exact skip _ _ (by simp [stG, ho1, ho2, z1])
  · simp [ho1, ho2, z1, dFld, fld M5 ag5, sp_is_under, and_assoc]
    refine ⟨by omega, hha, hob, ?_⟩
    by_cases z2 : b ∈ upOf h h.length o2
    · simp [z2]
      exact skip _ _ (by simp [stG, okB, hj2, z2])
    · have hok : okB h g b = true := by simp [okB, hj2, z2]
      have hstG : stG g S m h b = cN g S m (h.set b o2) := by simp [stG, ho1, ho2, z1, hok, hj2]
      have hne : h[b]? ≠ g[b]? := by rw [ho1, ho2]; simpa using z1
      have hbl : b ∈ leftL S h g := List.mem_filter.mpr ⟨hbS, by simpa using hne⟩
      have hlen2 : ((S.take (k + 1)).filter fun b => decide (h[b]? ≠ g[b]?)).length = ((S.take k).filter fun b => decide (h[b]? ≠ g[b]?)).length + 1 := by
        rw [hfl, List.length_append]
        simp [hne]
      have hlen3 := take_len (S := S) (q := fun b => decide (h[b]? ≠ g[b]?)) (k + 1)
      have hLl : L.length < 16777216 := by omega
      have hacy : Acy (h.set b o2) := by rw [← hj2]; exact okB_ch hha gb hghl hok
      have hleft : (leftL S (h.set b o2) g).length = m := by
        rw [left_set (by omega) ho2]
        have := filt_len (hSnd.filter _) hbl
        have e : (List.filter (fun b => decide (h[b]? ≠ g[b]?)) S) = leftL S h g := rfl
        rw [e] at this
        omega
      have hput := WS_put (F := cN g S m) (h := h.set b o2) (w := w) lv5.nd
      simp [z2, sp_placed, and_assoc, dFld, fld M5 ag5]
      refine ⟨by omega, by omega, ?_⟩
      simp [hr5, hrq, sizeLine_eq, hLl]
      have hpl := putD_len L (h.set b o2) ((lkD L (h.set b o2)).getD 0 + w)
      refine hK3 _ _ ⟨_, _, _, ag5.up hrn _, by simp; rfl, ⟨put_nodup lv5.nd, put_mem (P := fun x => x.length = y.length ∧ Acy x ∧ (leftL S x g).length = m) lv5.ok ⟨by simpa using hhl, hacy, hleft⟩⟩, by omega, ?_, rfl⟩
      rw [hput, hw5, hsum, hstG, Int.mul_add, Int.add_assoc]
end Nb
set_option Elab.async false
set_option linter.all false
set_option maxRecDepth 100000
set_option maxHeartbeats 2000000
set_option autoImplicit false
namespace Nb
open PySem PySem.Spec PyProof.Rows L2
theorem pure_Task_init : ∀ ds M Q E, sp_Task_init ds M Q E → bd_Task_init (endsOf (fun d M' => Q d (clip M M')) (fun x M' => E x (clip M M'))) (startD 4 ds) M := by
  rintro _ M Q E ⟨p, y, g, rfl, hl, hg, hp, hq⟩
  simp [bd_Task_init, startD, dSetFld, dFld, hp, putAt, sp_holders_of, hl]
  refine ⟨by omega, lc_pure (fun d => match d with | .int (Int.ofNat k) => if (hold y)[k]? ≠ g[k]? then some (.int (k : Int)) else none | _ => none) (by rw [rngD_len, sizeLine_eq]; omega) ?_ ?_⟩
  · intro d hd acc K ha hk
    obtain ⟨k, hk', rfl⟩ := mem_rng hd
    obtain ⟨a, h1⟩ := get_lt (hold_len y) hk'
    obtain ⟨b, h2⟩ := get_lt hg hk'
    simp [wipeD, dFld, h1, h2]
    have hk : (match (if (hold y)[k]? ≠ g[k]? then some (PyData.int (k : Int)) else none) with | some x => K (acc ++ [x]) _ | none => K acc _) := hk
    rw [h1, h2] at hk
    by_cases z : a = b
    · simp [z] at hk ⊢; exact hk
    · simp [z] at hk ⊢; exact ⟨ha, hk⟩
  · rw [rngD_eq, fm_filter _ _ (fun i => decide ((hold y)[i]? ≠ g[i]?)) (fun k _ => by by_cases z : (hold y)[k]? = g[k]? <;> simp [z])]
    have e : (List.range y.length).filter (fun i => decide ((hold y)[i]? ≠ g[i]?)) = someL y g := rfl
    rw [e]
    simp [clip_set hp]
    exact hq
theorem pure_Task_may : ∀ ds M Q E, sp_Task_may ds M Q E → bd_Task_may (endsOf (fun d M' => Q d (clip M M')) (fun x M' => E x (clip M M'))) (startD 2 ds) M := by
  rintro _ M Q E ⟨p, y, g, rfl, hl, hg, hp, hq⟩
  have sl := some_len y g
  simp [bd_Task_may, startD, dFld, hp, taskF]
  refine lc_pure (onI fun k => .bool (price y k).isNone) (by rw [nD_len, sizeLine_eq]; omega) ?_ ?_
  · intro d hd acc K ha hk
    obtain ⟨k, hk', rfl⟩ := mem_nD hd
    obtain ⟨b, h1, h2⟩ := get_y (some_lt hk')
    simp [wipeD, dFld, hp, taskF, h1]
    have hk : K (acc ++ [PyData.bool (price y k).isNone]) M := hk
    rw [h2] at hk
    exact ⟨ha, hk⟩
  · rw [fm_onI]
    refine ⟨_, (someL y g).map fun k => (price y k).isNone, rfl, by simp, ?_⟩
    simp
    have e : (!(someL y g).any fun k => (price y k).isNone) = mayB y g := by
      unfold mayB
      rw [List.not_any_eq_all_not]
      congr 1
      funext i
      cases price y i <;> rfl
    have e2 : (!(List.any (someL y g) (id ∘ fun k => (price y k).isNone))) = mayB y g := e
    first | (rw [e2]; exact hq) | (rw [e]; exact hq)
theorem pure_Task_cost : ∀ ds M Q E, sp_Task_cost ds M Q E → bd_Task_cost (endsOf (fun d M' => Q d (clip M M')) (fun x M' => E x (clip M M'))) (startD 2 ds) M := by
  rintro _ M Q E ⟨p, y, g, rfl, hl, hg, hp, hm, hq⟩
  have sl := some_len y g
  simp [bd_Task_cost, startD, dFld, hp, taskF]
  refine lc_pure (onI fun k => .int ((price y k).getD 0)) (by rw [nD_len, sizeLine_eq]; omega) ?_ ?_
  · intro d hd acc K ha hk
    obtain ⟨k, hk', rfl⟩ := mem_nD hd
    obtain ⟨b, h1, h2⟩ := get_y (some_lt hk')
    simp [wipeD, dFld, hp, taskF, h1]
    have hk : K (acc ++ [PyData.int ((price y k).getD 0)]) M := hk
    rw [h2] at hk
    have hs : (price y k).isSome = true := List.all_eq_true.mp hm k hk'
    rw [h2] at hs
    cases h3 : b.1 with
    | none => rw [h3] at hs; cases hs
    | some v => rw [h3] at hk; exact ⟨ha, hk⟩
  · rw [fm_onI]
    refine ⟨_, (someL y g).map fun k => (price y k).getD 0, rfl, by simp, ?_⟩
    simp
    exact hq
theorem pure_top_of : ∀ ds M Q E, sp_top_of ds M Q E → bd_top_of (endsOf (fun d M' => Q d (clip M M')) (fun x M' => E x (clip M M'))) (startD 3 ds) M := by
  rintro _ M Q E ⟨y, b, l, rfl, hl, hc, hq⟩
  simp [bd_top_of, startD]
  refine while_rule (fun n ρ M' => ∃ o l', n = l'.length ∧ ρ = [some (yd y), some (.int b), some (od o)] ∧ M' = M ∧ Ch (hold y) o l' ∧ topOf y l' = topOf y l) _ ⟨some b, l, rfl, rfl, rfl, hc, rfl⟩ ?_
  rintro n ρ M' ⟨o', l', rfl, rfl, rfl, hc', he⟩ K hK
  cases hc' with
  | nil =>
    simp [od]
    rw [← he] at hq
    exact hq
  | @cons i o2 l2 e c =>
    have hi : i < y.length := by
      have := (List.getElem?_eq_some_iff.mp e).1
      rwa [hold_len] at this
    obtain ⟨b', h1, h2⟩ := get_y hi
    have h3 := hold_get h1
    rw [e] at h3
    cases h3
    cases h4 : b'.1 with
    | none =>
      simp [od, h1, h4]
      refine hK _ _ _ (by simp) ⟨b'.2, l2, rfl, rfl, rfl, c, ?_⟩
      rw [← he]
      simp [topOf, h2, h4]
    | some v =>
      simp [od, h1, h4]
      rw [← he] at hq
      simp [topOf, h2, h4, od] at hq
      exact hq
def keyN (g : Hld) (z : Int) : Int × Int := (((upOf g g.length ((g[z.toNat]?).join)).length : Nat), z)
def wF (g : Hld) (d : Dat) : Option Dat := match d with | .int z => some (.tuple [.int z, od ((g[z.toNat]?).join)]) | _ => none
theorem pure_Task_way : ∀ ds M Q E, sp_Task_way ds M Q E → bd_Task_way (endsOf (fun d M' => Q d (clip M M')) (fun x M' => E x (clip M M'))) (startD 3 ds) M := by
  rintro _ M Q E ⟨p, y, g, rfl, ok, hl, ac, hp, hM, hq⟩
  have hy := ok.le
  have sl := some_len y g
  simp [bd_Task_way, startD, dSortKey, dFld, hp, taskF]
  refine ⟨(someL y g).map fun (k : Nat) => (k : Int), by simp [nD], hM, keyN g, ?_, ?_⟩
  · intro x hx
    obtain ⟨k, hk, rfl⟩ := List.mem_map.mp hx
    have hky := some_lt hk
    obtain ⟨o, ho⟩ := get_lt hl hky
    obtain ⟨l, hc⟩ := ac.at ho
    simp [startFD, dFld, hp, taskF, sp_chain_of, and_assoc]
    refine ⟨by omega, o, ho, l, hc, ?_⟩
    have := hc.up g.length hc.len
    simp [sizeLine_eq, keyD, keyN, ho, this]
  · intro ns' hpm hsrt
    obtain ⟨l, hlp, rfl⟩ := perm_lift (fun (k : Nat) => (k : Int)) hpm (someL y g) rfl
    have hm : ∀ b ∈ l, b < y.length := fun b hb => some_lt (hlp.mem_iff.mp hb)
    have hlen : l.length ≤ 12 := by rw [hlp.length_eq]; omega
    have hw : WayOk y g l := ⟨hlp, by
      rw [List.pairwise_map] at hsrt
      refine hsrt.imp fun {a b} hab => ?_
      have h1 : ¬ (keyN g (b : Int)).1 < (keyN g (a : Int)).1 := fun z => by
        have := (SrtO.lexB_iff (p := keyN g (b : Int)) (q := keyN g (a : Int))).mpr (.inl z)
        rw [hab] at this
        cases this
      simp only [keyN, Int.toNat_natCast] at h1
      unfold dep
      omega, by
      rw [List.pairwise_map] at hsrt
      refine hsrt.imp fun {a b} hab => ?_
      have h1 : ¬ ((keyN g (b : Int)).1 < (keyN g (a : Int)).1 ∨ ((keyN g (b : Int)).1 = (keyN g (a : Int)).1 ∧ (keyN g (b : Int)).2 < (keyN g (a : Int)).2)) := fun z => by
        have := (SrtO.lexB_iff (p := keyN g (b : Int)) (q := keyN g (a : Int))).mpr z
        rw [hab] at this
        cases this
      simp only [keyN, Int.toNat_natCast] at h1
      unfold dep
      omega⟩
    refine lc_pure (wF g) (by rw [List.length_map, List.length_map, sizeLine_eq]; omega) ?_ ?_
    · intro d hd acc K ha hk
      obtain ⟨z, hz, rfl⟩ := List.mem_map.mp hd
      obtain ⟨k, hk1, rfl⟩ := List.mem_map.mp hz
      obtain ⟨o, ho⟩ := get_lt hl (hm k hk1)
      simp [wipeD, dFld, hp, taskF, ho, sizeLine_eq]
      have hk : K (acc ++ [.tuple [.int (k : Int), od ((g[(k : Int).toNat]?).join)]]) M := hk
      simp [ho] at hk
      exact ⟨ha, hk⟩
    · have e : ((l.map fun (k : Nat) => (k : Int)).map PyData.int).filterMap (wF g) = wayD g l := by
        rw [List.map_map, fm_map (PyData.int ∘ fun (k : Nat) => (k : Int)) _ (fun (k : Nat) => .tuple [.int (k : Int), od ((g[k]?).join)]) fun k => by simp [wF]]
        rfl
      rw [e]
      simp
      exact hq l hw
theorem badYG_cl {ds : List Dat} {M : Mem} {E : XQ} (h : badYG ds M E) : badYG ds M (fun x M' => E x (clip M M')) := by
  rcases h with ⟨d, n, a, e, hb, hq⟩ | ⟨y, a, n, e, ok, hb, hq⟩
  · exact .inl ⟨d, n, a, e, hb, by simpa using hq⟩
  · exact .inr ⟨y, a, n, e, ok, hb, by simpa using hq⟩
theorem badYG_two {ds : List Dat} {M : Mem} {E : XQ} (h : badYG ds M E) : ∃ d a, ds = [d, a] := by
  rcases h with ⟨d, n, a, e, _⟩ | ⟨y, a, n, e, _⟩
  · exact ⟨d, a, e⟩
  · exact ⟨_, a, e⟩
theorem pure_task_of : ∀ ds M Q E, sp_task_of ds M Q E → bd_task_of (endsOf Q E) (startD 2 ds) M := by
  rintro _ M Q E (⟨y, g, rfl, ok, hl, ac, hq⟩ | ⟨d, n, a, rfl, hb, hq⟩ | ⟨y, a, n, rfl, ok, hb, hq⟩)
  · simp [bd_task_of, startD]
    refine .inl ⟨y, rfl, ok, ?_⟩
    simp
    refine .inl ⟨y, g, rfl, ok.le, hl, ac, ?_⟩
    simp [dMake, sp_Task_init, and_assoc, ok.le, hl]
    exact hq
  · simp [bd_task_of, startD]
    exact .inr ⟨d, n, rfl, hb, hq⟩
  · simp [bd_task_of, startD]
    refine .inl ⟨y, rfl, ok, ?_⟩
    simp
    exact .inr ⟨y, a, n, rfl, ok.le, hb, hq⟩
theorem pure_least : ∀ ds M Q E, sp_least ds M Q E → bd_least (endsOf (fun d M' => Q d (clip M M')) (fun x M' => E x (clip M M'))) (startD 3 ds) M := by
  rintro ds M Q E (⟨y, g, rfl, ok, hl, ac, hM, h1, h2⟩ | hb)
  · simp [bd_least, startD]
    refine .inl ⟨y, g, rfl, ok, hl, ac, fun p hp => ?_⟩
    have hne : ¬ tabP = p := fun z => by rw [z, hp] at hM; cases hM
    simp [dMeth, and_assoc]
    cases hm : mayB y g with
    | true =>
      refine ⟨p, y, g, rfl, ok.le, hl, by simp, ?_⟩
      simp [hm, sizeLine_eq]
      refine ⟨p, y, g, rfl, ok.le, hl, by simp, hm, ?_⟩
      simp
      refine ⟨p, y, g, rfl, ok, hl, ac, by simp, by simp [hne, hM], fun l hw => ?_⟩
      show Q _ (clip M (mup M p _))
      rw [clip_out hp, clip_self]
      exact h1 hm l hw
    | false =>
      refine ⟨p, y, g, rfl, ok.le, hl, by simp, ?_⟩
      simp [hm]
      rw [clip_out hp, clip_self]
      exact h2 hm
  · obtain ⟨d, a, rfl⟩ := badYG_two hb
    simp [bd_least, startD]
    exact .inr (badYG_cl hb)
theorem pure_fewest : ∀ ds M Q E, sp_fewest ds M Q E → bd_fewest (endsOf (fun d M' => Q d (clip M M')) (fun x M' => E x (clip M M'))) (startD 3 ds) M := by
  rintro ds M Q E (⟨y, g, rfl, ok, hl, ac, h1, h2⟩ | hb)
  · simp [bd_fewest, startD]
    refine .inl ⟨y, g, rfl, ok, hl, ac, fun p hp => ?_⟩
    simp [dMeth, and_assoc]
    cases hm : mayB y g with
    | true =>
      refine ⟨p, y, g, rfl, ok.le, hl, by simp, ?_⟩
      simp [hm, dFld, taskF]
      rw [clip_out hp, clip_self]
      exact h1 hm
    | false =>
      refine ⟨p, y, g, rfl, ok.le, hl, by simp, ?_⟩
      simp [hm]
      rw [clip_out hp, clip_self]
      exact h2 hm
  · obtain ⟨d, a, rfl⟩ := badYG_two hb
    simp [bd_fewest, startD]
    exact .inr (badYG_cl hb)
theorem pure_orders : ∀ ds M Q E, sp_orders ds M Q E → bd_orders (endsOf (fun d M' => Q d (clip M M')) (fun x M' => E x (clip M M'))) (startD 3 ds) M := by
  rintro ds M Q E (⟨y, g, rfl, ok, hl, ac, h8, hq⟩ | hb)
  · simp [bd_orders, startD]
    refine .inl ⟨y, g, rfl, ok, hl, ac, fun p hp => ?_⟩
    simp [dMeth, and_assoc]
    cases hm : mayB y g with
    | true =>
      rw [if_pos hm] at hq
      refine ⟨p, y, g, rfl, ok.le, hl, by simp, ?_⟩
      simp [hm]
      refine ⟨p, y, g, rfl, ok, hl, ac, h8 hm, by simp, ?_⟩
      show Q _ (clip M (mup M p _))
      rw [clip_out hp, clip_self]
      exact hq
    | false =>
      rw [if_neg (by rw [hm]; decide)] at hq
      refine ⟨p, y, g, rfl, ok.le, hl, by simp, ?_⟩
      simp [hm]
      rw [clip_out hp, clip_self]
      exact hq
  · obtain ⟨d, a, rfl⟩ := badYG_two hb
    simp [bd_orders, startD]
    exact .inr (badYG_cl hb)
theorem topOf_none (y : List Bx) (l : List Nat) : (topOf y l).isNone = l.all fun j => !(price y j).isSome := by
  unfold topOf
  induction l with
  | nil => rfl
  | cons a l ih =>
    cases z : price y a with
    | some v => simp [z]
    | none =>
      simp [z] at ih ⊢
      exact ih
theorem stays_ch {y : List Bx} {i : Nat} {l : List Nat} (hc : Ch (hold y) (some i) l) : staysB y i = l.all fun j => !(price y j).isSome := by
  have hlen := hc.len
  rw [hold_len] at hlen
  unfold staysB
  rw [hc.up _ hlen]
def prF (d : Dat) : Option Dat := match d with
  | .tuple [a, _] => if isNon a = true then none else some a
  | _ => none
theorem prF_bx (b : Bx) : prF (bxD b) = if b.1.isSome = true then some (op b.1) else none := by
  obtain ⟨p, o⟩ := b
  cases p <;> rfl
theorem prF_len (y : List Bx) : (y.filterMap (prF ∘ bxD)).length = freeN y := by
  unfold freeN
  induction y with
  | nil => rfl
  | cons b y ih =>
    have e : (prF ∘ bxD) b = if b.1.isSome = true then some (op b.1) else none := prF_bx b
    simp only [List.filterMap_cons, e]
    by_cases z : b.1.isSome = true
    · simp only [z, if_pos, List.filter_cons, List.length_cons, ih]
    · simp only [z, if_neg, List.filter_cons, ih]
      simp
      exact ih
theorem pure_reach : ∀ ds M Q E, sp_reach ds M Q E → bd_reach (endsOf (fun d M' => Q d (clip M M')) (fun x M' => E x (clip M M'))) (startD 7 ds) M := by
  rintro _ M Q E ⟨y, rfl, ok, hq⟩
  have hl := ok.le
  have h0 := ok.pos
  simp [bd_reach, startD]
  refine .inl ⟨y, rfl, ok, ?_⟩
  simp
  refine lc_pure prF (by simp [sizeLine_eq]; omega) ?_ ?_
  · intro d hd acc K ha hk
    obtain ⟨b, hb, rfl⟩ := List.mem_map.mp hd
    rw [prF_bx] at hk
    cases h3 : b.1 with
    | none => simp [wipeD, h3] at hk ⊢; exact hk
    | some v => simp [wipeD, h3] at hk ⊢; exact ⟨ha, hk⟩
  · obtain ⟨out, ho, hol⟩ : ∃ out, List.filterMap prF (List.map bxD y) = out ∧ out.length = freeN y := ⟨_, rfl, by rw [List.filterMap_map]; exact prF_len y⟩
    rw [ho]
    by_cases z : freeN y = 0
    · have z' : out = [] := List.eq_nil_of_length_eq_zero (by omega)
      simp [z']
      simpa [reachI, z] using hq
    · have z' : ¬ out = [] := fun e => z (by rw [← hol, e]; rfl)
      simp [z', hol]
      refine ⟨by omega, lc_pure (onIf (fun i => staysB y i) (fun (j : Nat) => .int (j : Int))) (by rw [rngD_len, sizeLine_eq]; omega) ?_ ?_⟩
      · intro d hd acc K ha hk
        obtain ⟨k, hk', rfl⟩ := mem_rng hd
        obtain ⟨l, hc⟩ := ok.ac k (by rw [hold_len]; exact hk')
        simp [wipeD, sp_top_of, and_assoc]
        refine ⟨hl, l, hc, ?_⟩
        have e := topOf_none y l
        rw [← stays_ch hc] at e
        simp at hk
        cases h3 : staysB y k with
        | false =>
          rw [h3] at e
          simp [h3] at hk
          have e' : ¬ topOf y l = none := fun z => by rw [z] at e; cases e
          simp [e']
          exact hk
        | true =>
          rw [h3] at e
          simp [h3] at hk
          have e' : topOf y l = none := Option.isNone_iff_eq_none.mp e
          simp [e']
          exact ⟨ha, hk⟩
      · have e3 : ((rngD 0 y.length).filterMap (onIf (fun i => staysB y i) fun (j : Nat) => PyData.int (j : Int))).length = staysN y := by
          rw [rngD_eq, fm_onIf, List.length_map]; rfl
        have hf : freeN y ≤ 12 := by
          have := List.length_filter_le (fun b : Bx => b.1.isSome) y
          unfold freeN
          omega
        have e4 : ((freeN y : Int) - 1).toNat = freeN y - 1 := by omega
        rw [e3]
        refine ⟨⟨by omega, by omega⟩, ?_⟩
        refine for_rule (fun i ρ M' => M' = M ∧ ∃ v3 v4 v5 v6, ρ = [some (yd y), some (.int (freeN y)), some (.int (((1 + staysN y : Nat) : Int) * ((y.length + 1 : Nat) : Int) ^ i)), v3, v4, v5, v6]) ⟨rfl, none, none, none, none, by simp⟩ ?_ ?_
        · rintro i d ρ M' hd ⟨rfl, v3, v4, v5, v6, rfl⟩ K hK
          rw [v_gN]
          unfold dAug
          simp
          refine ⟨Or.inr (by omega), hK _ _ ⟨rfl, some d, v4, v5, v6, ?_⟩⟩
          simp
          rw [Int.pow_succ, Int.mul_assoc]
        · rintro ρ M' ⟨rfl, v3, v4, v5, v6, rfl⟩
          simp [rngD_len]
          simp [reachI, z] at hq
          exact hq
theorem pure_judged : ∀ ds M Q E, sp_judged ds M Q E → bd_judged (endsOf (fun d M' => Q d (clip M M')) (fun x M' => E x (clip M M'))) (startD 5 ds) M := by
  rintro _ M Q E (⟨d, n, a, b, rfl, hb, hq⟩ | ⟨y, a, b, n, rfl, ok, hb, hq⟩ | ⟨y, g, b, rfl, ok, hl, ac, hp, hn, hq⟩ | ⟨y, g, ms, n, w, rfl, ok, hl, ac, hms, hr, hq⟩)
  · simp [bd_judged, startD]
    exact .inr ⟨d, n, rfl, hb, by simpa using hq⟩
  · simp [bd_judged, startD]
    refine .inl ⟨y, rfl, ok, ?_⟩
    simp
    exact .inr ⟨y, a, n, rfl, ok.le, hb, by simpa using hq⟩
  · simp [bd_judged, startD]
    refine .inl ⟨y, rfl, ok, ?_⟩
    simp
    refine .inl ⟨y, g, rfl, ok.le, hl, ac, ?_⟩
    simp
    refine ⟨b, rfl, hp, .inr ⟨fun l e => ?_, by simpa using hq⟩⟩
    subst e
    cases hn
  · simp [bd_judged, startD]
    refine .inl ⟨y, rfl, ok, ?_⟩
    simp
    refine .inl ⟨y, g, rfl, ok.le, hl, ac, ?_⟩
    simp
    refine ⟨_, rfl, rfl, .inl ⟨ms, rfl, ?_⟩⟩
    simp
    refine ⟨y, ms, rfl, ok, hms, ?_⟩
    rw [hr]
    simpa [endB] using hq
end Nb
set_option Elab.async false
set_option linter.all false
set_option maxRecDepth 100000
set_option maxHeartbeats 2000000
set_option autoImplicit false
namespace Nb
open PySem PySem.Spec PyProof.Rows L2
theorem arr_len {y : List Bx} {w : List Wel} (k : Wok y w) : (arr y w).length = y.length := by
  unfold arr
  rw [List.length_zipWith, k.len, Nat.min_self]
theorem arr_get {y : List Bx} {w : List Wel} {i : Nat} {e : Wel} {b : Bx} (h1 : w[i]? = some e) (h2 : y[i]? = some b) : (arr y w)[i]? = some (arE e b) := by
  unfold arr
  rw [List.getElem?_zipWith, h1, h2]
theorem arr_bnd {y : List Bx} {w : List Wel} (ok : Yok y) (k : Wok y w) : Bnd (arr y w) := fun i j h => by
  rw [arr_len k]
  have hi : i < y.length := by
    have := (List.getElem?_eq_some_iff.mp h).1
    rwa [arr_len k] at this
  obtain ⟨b, hb, _⟩ := get_y hi
  obtain ⟨e, he⟩ := get_lt k.len hi
  rw [arr_get he hb] at h
  cases e with
  | none =>
    simp only [arE] at h
    have := ok.ac.lt (i := i) (j := j) (by rw [hold_get hb]; simpa using h)
    rwa [hold_len] at this
  | some o =>
    simp only [arE] at h
    have := k.bnd i j (by rw [he]; simpa using h)
    rwa [k.len] at this
theorem loop_cyc0 {a : Hld} {r : List Nat} (h : r ∈ loopsOf a) : ∃ b, b < a.length ∧ ringFrom a b = r ∧ r.head? = some b ∧ ∀ x ∈ r, b ≤ x := by
  obtain ⟨b, hb, e⟩ := List.mem_filterMap.mp h
  unfold loopOf at e
  split at e
  · rename_i h2
    cases e
    exact ⟨b, by simpa using hb, rfl, h2.1, h2.2⟩
  · cases e
theorem rgo_sub {h : Hld} (bd : Bnd h) : ∀ (n : Nat) (path : List Nat) (o : Option Nat), path.Nodup → (∀ i ∈ path, i < h.length) → (∀ i, o = some i → i < h.length) → (rgo h n path o).Nodup ∧ ∀ i ∈ rgo h n path o, i < h.length
  | 0, _, _, _, _, _ => ⟨List.nodup_nil, fun i hi => by cases hi⟩
  | n + 1, path, none, _, _, _ => ⟨List.nodup_nil, fun i hi => by cases hi⟩
  | n + 1, path, some i, nd, hp, ho => by
    unfold rgo
    split
    · exact ⟨nd.sublist (List.drop_sublist _ _), fun j hj => hp j (List.mem_of_mem_drop hj)⟩
    · rename_i z
      refine rgo_sub bd n _ _ ?_ ?_ ?_
      · rw [List.nodup_append]
        exact ⟨nd, by simp, fun a ha b' hb' => by simp at hb'; rw [hb']; exact fun e => z (e ▸ ha)⟩
      · intro j hj
        rcases List.mem_append.mp hj with q | q
        · exact hp j q
        · simp at q; rw [q]; exact ho i rfl
      · intro j e
        cases h2 : h[i]? with
        | none => rw [h2] at e; cases e
        | some o2 =>
          rw [h2] at e
          have e : o2 = some j := e
          exact bd i j (by rw [h2, e])
theorem ring_sub {h : Hld} (bd : Bnd h) {b : Nat} (hb : b < h.length) : (ringFrom h b).Nodup ∧ ∀ i ∈ ringFrom h b, i < h.length := rgo_sub bd _ _ _ List.nodup_nil (fun i hi => by cases hi) (fun i e => by cases e; exact hb)
theorem loop_sub {a : Hld} (bd : Bnd a) {r : List Nat} (h : r ∈ loopsOf a) : r.Nodup ∧ (∀ i ∈ r, i < a.length) ∧ ∃ b t, r = b :: t := by
  obtain ⟨b, hb, rfl, h1, _⟩ := loop_cyc0 h
  obtain ⟨k1, k2⟩ := ring_sub bd hb
  refine ⟨k1, k2, ?_⟩
  cases e : ringFrom a b with
  | nil => rw [e] at h1; cases h1
  | cons x t => exact ⟨x, t, rfl⟩
theorem loops_len (a : Hld) : (loopsOf a).length ≤ a.length := by
  have := List.length_filterMap_le (loopOf a) (List.range a.length)
  simpa [loopsOf] using this
theorem filter_len (l : List Nat) (q : Nat → Bool) : (l.filter q).length ≤ l.length := List.length_filter_le _ _
/-! ### rings -/
def hdD (l : List Nat) (e : Nat) : Nat := match l with
  | [] => e
  | x :: _ => x
def Lk (a : Hld) : List Nat → Nat → Prop
  | [], _ => True
  | x :: t, e => a[x]? = some (some (hdD t e)) ∧ Lk a t e
theorem Lk.app {a : Hld} : ∀ {p q : List Nat} {e : Nat}, Lk a (p ++ q) e ↔ Lk a p (hdD q e) ∧ Lk a q e
  | [], q, e => by simp [Lk]
  | x :: p, q, e => by
    have ih := Lk.app (a := a) (p := p) (q := q) (e := e)
    have h : hdD (p ++ q) e = hdD p (hdD q e) := by cases p <;> rfl
    simp only [List.cons_append, Lk, h, ih]
    exact ⟨fun ⟨h1, h2, h3⟩ => ⟨⟨h1, h2⟩, h3⟩, fun ⟨⟨h1, h2⟩, h3⟩ => ⟨h1, h2, h3⟩⟩
structure Cyc (a : Hld) (b : Nat) (t : List Nat) : Prop where
  nd : (b :: t).Nodup
  lk : Lk a (b :: t) b
theorem Lk.closed {a : Hld} : ∀ {r : List Nat} {e : Nat}, Lk a r e → ∀ x ∈ r, ∃ j, a[x]? = some (some j) ∧ (j ∈ r ∨ j = e)
  | [], _, _, x, hx => by cases hx
  | y :: t, e, ⟨h1, h2⟩, x, hx => by
    rcases List.mem_cons.mp hx with z | z
    · subst z
      refine ⟨_, h1, ?_⟩
      cases t with
      | nil => exact .inr rfl
      | cons c t => exact .inl (by simp [hdD])
    · obtain ⟨j, k1, k2⟩ := h2.closed x z
      exact ⟨j, k1, k2.elim (fun q => .inl (by simp [q])) .inr⟩
theorem Cyc.closed {a : Hld} {b : Nat} {t : List Nat} (c : Cyc a b t) : ∀ x ∈ b :: t, ∃ j ∈ b :: t, a[x]? = some (some j) := fun x hx => by
  obtain ⟨j, h1, h2⟩ := c.lk.closed x hx
  exact ⟨j, h2.elim id (fun e => by simp [e]), h1⟩
theorem Cyc.rot {a : Hld} {b : Nat} {t p q : List Nat} {x : Nat} (c : Cyc a b t) (h : b :: t = p ++ x :: q) : Cyc a x (q ++ p) := by
  have nd := c.nd
  have lk := c.lk
  rw [h] at nd lk
  obtain ⟨h1, h2⟩ := Lk.app.mp lk
  have e : x :: (q ++ p) = (x :: q) ++ p := rfl
  refine ⟨?_, ?_⟩
  · rw [e]; exact (List.perm_append_comm.nodup_iff).mp nd
  · rw [e]
    refine Lk.app.mpr ⟨?_, h1⟩
    cases p with
    | nil =>
      have : b = x := by simp at h; exact h.1
      rw [this] at h2
      exact h2
    | cons b' p' =>
      have : b = b' := by simp at h; exact h.1
      rw [this] at h2
      exact h2
theorem cyc_go {a : Hld} {b : Nat} {t : List Nat} (c : Cyc a b t) : ∀ (q p : List Nat) (x n : Nat), b :: t = p ++ x :: q → q.length + 2 ≤ n → rgo a n p (some x) = b :: t
  | [], p, x, n, h, hn => by
    obtain ⟨n, rfl⟩ : ∃ m, n = m + 2 := ⟨n - 2, by simp at hn; omega⟩
    have nd := c.nd
    have lk := c.lk
    rw [h] at nd lk
    have hx : x ∉ p := fun z => (List.nodup_append.mp nd).2.2 x z x (by simp) rfl
    have h1 := (Lk.app.mp lk).2.1
    have e1 : rgo a (n + 2) p (some x) = rgo a (n + 1) (p ++ [x]) (some b) := by
      rw [rgo, if_neg hx, h1]
      rfl
    rw [e1, ← h]
    simp [rgo, ix]
  | y :: q, p, x, n, h, hn => by
    obtain ⟨n, rfl⟩ : ∃ m, n = m + 1 := ⟨n - 1, by simp at hn; omega⟩
    have nd := c.nd
    have lk := c.lk
    rw [h] at nd lk
    have hx : x ∉ p := fun z => (List.nodup_append.mp nd).2.2 x z x (by simp) rfl
    have h1 := (Lk.app.mp lk).2.1
    simp [rgo, hx, h1, hdD]
    exact cyc_go c q (p ++ [x]) y n (by rw [h]; simp) (by simp at hn ⊢; omega)
theorem Cyc.lt {a : Hld} {b : Nat} {t : List Nat} (c : Cyc a b t) : ∀ x ∈ b :: t, x < a.length := fun x hx => by
  obtain ⟨j, _, h⟩ := c.closed x hx
  exact (List.getElem?_eq_some_iff.mp h).1
theorem Cyc.ring {a : Hld} {b : Nat} {t : List Nat} (c : Cyc a b t) : ringFrom a b = b :: t := by
  have := pigeon c.nd c.lt
  exact cyc_go c t [] b _ rfl (by simp at this; omega)
theorem rgo_cyc {a : Hld} : ∀ (n : Nat) (p : List Nat) (i : Nat), p.Nodup → Lk a p i → rgo a n p (some i) = [] ∨ ∃ b t, rgo a n p (some i) = b :: t ∧ Cyc a b t
  | 0, _, _, _, _ => .inl rfl
  | n + 1, p, i, nd, lk => by
    by_cases z : i ∈ p
    · have e : rgo a (n + 1) p (some i) = p.drop (ix p i) := by simp [rgo, z]
      rw [e]
      refine .inr ?_
      have hix := ix_at z
      have hl := (List.getElem?_eq_some_iff.mp hix).1
      have hd : p.drop (ix p i) = i :: p.drop (ix p i + 1) := by
        rw [List.drop_eq_getElem_cons hl]
        congr 1
        exact (List.getElem?_eq_some_iff.mp hix).2
      refine ⟨i, _, hd, ?_, ?_⟩
      · rw [← hd]; exact nd.sublist (List.drop_sublist _ _)
      · have := lk
        rw [← List.take_append_drop (ix p i) p] at this
        have h2 := (Lk.app.mp this).2
        rw [hd] at h2
        exact h2
    · have e : rgo a (n + 1) p (some i) = rgo a n (p ++ [i]) ((a[i]?).join) := by simp [rgo, z]
      rw [e]
      have nd' : (p ++ [i]).Nodup := by
        rw [List.nodup_append]
        exact ⟨nd, by simp, fun x hx b' hb' => by simp at hb'; rw [hb']; exact fun e => z (e ▸ hx)⟩
      cases ho : (a[i]?).join with
      | none => cases n <;> exact .inl rfl
      | some j =>
        have hj : a[i]? = some (some j) := by
          cases q : a[i]? with
          | none => rw [q] at ho; cases ho
          | some o => rw [q] at ho; have : o = some j := ho; rw [this]
        exact rgo_cyc n _ j nd' (Lk.app.mpr ⟨lk, hj, True.intro⟩)
theorem rgo_none {a : Hld} (bd : Bnd a) : ∀ (n : Nat) (p : List Nat) (i : Nat), p.Nodup → (∀ x ∈ p, x < a.length) → i < a.length → n + p.length = a.length + 1 → rgo a n p (some i) = [] → ∃ l, Ch a (some i) l
  | 0, p, i, nd, hp, _, hn, _ => by have := pigeon nd hp; omega
  | n + 1, p, i, nd, hp, hi, hn, hr => by
    by_cases z : i ∈ p
    · have e : rgo a (n + 1) p (some i) = p.drop (ix p i) := by simp [rgo, z]
      rw [e] at hr
      have hl := (List.getElem?_eq_some_iff.mp (ix_at z)).1
      have := congrArg List.length hr
      simp at this
      omega
    · have e : rgo a (n + 1) p (some i) = rgo a n (p ++ [i]) ((a[i]?).join) := by simp [rgo, z]
      rw [e] at hr
      obtain ⟨o, ho⟩ := get_lt rfl hi
      cases o with
      | none => exact ⟨[i], .cons ho .nil⟩
      | some j =>
        rw [ho] at hr
        obtain ⟨l, c⟩ := rgo_none bd n (p ++ [i]) j (by
          rw [List.nodup_append]
          exact ⟨nd, by simp, fun x hx b' hb' => by simp at hb'; rw [hb']; exact fun e => z (e ▸ hx)⟩) (fun x hx => by
            rcases List.mem_append.mp hx with q | q
            · exact hp x q
            · simp at q; omega) (bd i j ho) (by simp; omega) hr
        exact ⟨i :: l, .cons ho c⟩
theorem no_closed {g : Hld} (ac : Acy g) {r : List Nat} (hne : r ≠ []) : ¬ ∀ x ∈ r, ∃ j ∈ r, g[x]? = some (some j) := fun h => by
  have key : ∀ {o : Option Nat} {l : List Nat}, Ch g o l → ∀ i, o = some i → i ∈ r → False := by
    intro o l c
    induction c with
    | nil => intro i e; cases e
    | cons e c ih =>
      intro i hi hr
      cases hi
      obtain ⟨j, hj, hj2⟩ := h _ hr
      rw [e] at hj2
      cases hj2
      exact ih j rfl hj
  cases r with
  | nil => exact hne rfl
  | cons x t =>
    obtain ⟨j, _, hj⟩ := h x (by simp)
    obtain ⟨l, c⟩ := ac x (List.getElem?_eq_some_iff.mp hj).1
    exact key c x rfl (by simp)
theorem loop_cyc {a : Hld} {r : List Nat} (h : r ∈ loopsOf a) : ∃ b t, r = b :: t ∧ Cyc a b t ∧ ringFrom a b = r ∧ ∀ x ∈ r, b ≤ x := by
  obtain ⟨b, hb, h1, h2, h3⟩ := loop_cyc0 h
  rcases rgo_cyc (a := a) (a.length + 1) [] b List.nodup_nil True.intro with z | ⟨b', t, z, c⟩
  · have : ringFrom a b = [] := z
    rw [h1] at this
    rw [this] at h2
    cases h2
  · have e : ringFrom a b = b' :: t := z
    rw [h1] at e
    subst e
    have : b' = b := by simpa using h2
    subst this
    exact ⟨b', t, rfl, c, h1, h3⟩
/-- rings that share a box are the same -/
theorem loop_same {a : Hld} {r s : List Nat} (hr : r ∈ loopsOf a) (hs : s ∈ loopsOf a) {x : Nat} (h1 : x ∈ r) (h2 : x ∈ s) : r = s := by
  obtain ⟨b, t, rfl, c, e1, m1⟩ := loop_cyc hr
  obtain ⟨b', t', rfl, c', e2, m2⟩ := loop_cyc hs
  obtain ⟨p, q, hp⟩ := List.append_of_mem h1
  obtain ⟨p', q', hp'⟩ := List.append_of_mem h2
  have k1 := (c.rot hp).ring
  have k2 := (c'.rot hp').ring
  have k : x :: (q ++ p) = x :: (q' ++ p') := k1.symm.trans k2
  have mem : ∀ z, z ∈ b :: t ↔ z ∈ b' :: t' := fun z => by
    rw [hp, hp']
    have hk : z ∈ x :: (q ++ p) ↔ z ∈ x :: (q' ++ p') := by rw [k]
    simp only [List.mem_append, List.mem_cons] at hk ⊢
    constructor
    · intro hz
      have := hk.mp (by rcases hz with z1 | z1 | z1; exact .inr (.inr z1); exact .inl z1; exact .inr (.inl z1))
      rcases this with z1 | z1 | z1
      · exact .inr (.inl z1)
      · exact .inr (.inr z1)
      · exact .inl z1
    · intro hz
      have := hk.mpr (by rcases hz with z1 | z1 | z1; exact .inr (.inr z1); exact .inl z1; exact .inr (.inl z1))
      rcases this with z1 | z1 | z1
      · exact .inr (.inl z1)
      · exact .inr (.inr z1)
      · exact .inl z1
  have h3 := m1 b' ((mem b').mpr (by simp))
  have h4 := m2 b ((mem b).mp (by simp))
  have : b = b' := by omega
  subst this
  rw [← e1, ← e2]
theorem fm_nodup {f : Nat → Option (List Nat)} (hf : ∀ i r, f i = some r → r.head? = some i) : ∀ l : List Nat, l.Nodup → (l.filterMap f).Nodup
  | [], _ => List.nodup_nil
  | i :: l, nd => by
    obtain ⟨h1, h2⟩ := List.nodup_cons.mp nd
    have ih := fm_nodup hf l h2
    cases e : f i with
    | none => simpa [List.filterMap_cons, e] using ih
    | some r =>
      rw [List.filterMap_cons, e]
      refine List.nodup_cons.mpr ⟨fun hm => ?_, ih⟩
      obtain ⟨j, hj, e2⟩ := List.mem_filterMap.mp hm
      have k1 := hf i r e
      have k2 := hf j r e2
      rw [k1] at k2
      cases k2
      exact h1 hj
theorem loops_nodup (a : Hld) : (loopsOf a).Nodup := fm_nodup (fun i r e => by
  unfold loopOf at e
  split at e
  · rename_i h; cases e; exact h.1
  · cases e) _ List.nodup_range
/-! ### the cheapest goal -/
theorem cl_a {y : List Bx} {w : List Wel} {r : List Nat} (hr : r ∈ loopsOf (arr y w)) : r ≠ [] ∧ ∀ x ∈ r, ∃ j ∈ r, (arr y w)[x]? = some (some j) := by
  obtain ⟨b, t, rfl, c, _, _⟩ := loop_cyc hr
  exact ⟨by simp, c.closed⟩
structure Fea (y : List Bx) (w : List Wel) (g : Hld) : Prop where
  len : g.length = y.length
  ac : Acy g
  fits : Fits w g
  may : mayB y g = true
theorem fea_moved {y : List Bx} {w : List Wel} {g : Hld} (wk : Wok y w) (f : Fea y w g) {i : Nat} (hi : i < y.length) (h : (arr y w)[i]? ≠ (hold y)[i]?) : i ∈ someL y g := by
  obtain ⟨b, hb, _⟩ := get_y hi
  obtain ⟨e, he⟩ := get_lt wk.len hi
  rw [arr_get he hb, hold_get hb] at h
  cases e with
  | none => exact absurd rfl h
  | some o =>
    have := f.fits i o he
    simp only [someL, List.mem_filter, List.mem_range, decide_eq_true_eq]
    refine ⟨hi, ?_⟩
    rw [hold_get hb, this]
    exact fun z => h z.symm
theorem may_some {y : List Bx} {g : Hld} (h : mayB y g = true) {i : Nat} (hi : i ∈ someL y g) : (price y i).isSome = true := List.all_eq_true.mp h i hi
theorem fea_loop {y : List Bx} {w : List Wel} {g : Hld} (wk : Wok y w) (f : Fea y w g) {r : List Nat} (hr : r ∈ loopsOf (arr y w)) : ∃ x ∈ r, opn y w x ∧ x ∈ someL y g := by
  obtain ⟨hne, hcl⟩ := cl_a hr
  have : ∃ x ∈ r, g[x]? ≠ (arr y w)[x]? := Classical.byContradiction fun z => no_closed f.ac hne fun x hx => by
    obtain ⟨j, hj, e⟩ := hcl x hx
    refine ⟨j, hj, ?_⟩
    have : g[x]? = (arr y w)[x]? := Classical.byContradiction fun q => z ⟨x, hx, q⟩
    rw [this, e]
  obtain ⟨x, hx, hgx⟩ := this
  obtain ⟨j, hj, e⟩ := hcl x hx
  have hxy : x < y.length := by
    have := (List.getElem?_eq_some_iff.mp e).1
    rwa [arr_len wk] at this
  obtain ⟨b, hb, hbp⟩ := get_y hxy
  obtain ⟨el, he⟩ := get_lt wk.len hxy
  cases el with
  | some o =>
    exfalso
    rw [arr_get he hb] at hgx
    exact hgx (f.fits x o he)
  | none =>
    have ha : (arr y w)[x]? = (hold y)[x]? := by rw [arr_get he hb, hold_get hb]; rfl
    have hm : x ∈ someL y g := by
      simp only [someL, List.mem_filter, List.mem_range, decide_eq_true_eq]
      refine ⟨hxy, fun z => hgx ?_⟩
      rw [ha, z]
    exact ⟨x, hx, ⟨he, may_some f.may hm⟩, hm⟩
theorem not_blk {y : List Bx} {w : List Wel} {g : Hld} (wk : Wok y w) (f : Fea y w g) : ¬ Blk y w := by
  rintro (⟨i, hi, h1, h2⟩ | ⟨r, hr, h⟩)
  · have := may_some f.may (fea_moved wk f hi h2)
    rw [h1] at this
    cases this
  · obtain ⟨x, hx, ho, _⟩ := fea_loop wk f hr
    exact h x hx ho
def sumP (y : List Bx) (l : List Nat) : Int := (l.map (pr y)).sum
theorem sumP_perm {y : List Bx} {l m : List Nat} (h : l.Perm m) : sumP y l = sumP y m := by
  unfold sumP
  induction h with
  | nil => rfl
  | cons x _ ih => simp [ih]
  | swap x z l => simp; omega
  | trans _ _ a b => exact a.trans b
theorem sum_sub {y : List Bx} (hp : ∀ i, 0 ≤ pr y i) : ∀ (l m : List Nat), l.Nodup → (∀ x ∈ l, x ∈ m) → sumP y l ≤ sumP y m
  | [], m, _, _ => by
    unfold sumP
    induction m with
    | nil => simp
    | cons x m ih => simp at ih ⊢; have := hp x; omega
  | x :: l, m, nd, h => by
    obtain ⟨h1, h2⟩ := List.nodup_cons.mp nd
    obtain ⟨p, q, rfl⟩ := List.append_of_mem (h x (by simp))
    have := sum_sub hp l (p ++ q) h2 fun z hz => by
      have := h z (by simp [hz])
      simp only [List.mem_append, List.mem_cons] at this ⊢
      rcases this with k | k | k
      · exact .inl k
      · exact absurd (k ▸ hz) h1
      · exact .inr k
    unfold sumP at this ⊢
    simp at this ⊢
    omega
theorem pr_nn {y : List Bx} (ok : Yok y) (i : Nat) : 0 ≤ pr y i := by
  unfold pr
  cases h : price y i with
  | none => simp
  | some v =>
    unfold price at h
    cases hb : y[i]? with
    | none => rw [hb] at h; cases h
    | some b =>
      rw [hb] at h
      have := ok.pr b (List.mem_of_getElem? hb) v h
      simp
      omega
theorem brk_len (a : Hld) (bs : List Nat) : (brkG a bs).length = a.length := by simp [brkG]
theorem brk_get {a : Hld} {bs : List Nat} {i : Nat} {o : Option Nat} (h : a[i]? = some o) : (brkG a bs)[i]? = some (if i ∈ bs then none else o) := by
  have hi := (List.getElem?_eq_some_iff.mp h).1
  unfold brkG
  rw [List.getElem?_map, List.getElem?_range hi]
  simp [h]
theorem BrkS.mem {y : List Bx} {w : List Wel} {bs : List Nat} (h : BrkS y w bs) {b : Nat} (hb : b ∈ bs) : ∃ r ∈ loopsOf (arr y w), b ∈ r ∧ opn y w b := by
  obtain ⟨i, hi⟩ := List.mem_iff_getElem?.mp hb
  obtain ⟨r, hr⟩ := get_lt h.len.symm (List.getElem?_eq_some_iff.mp hi).1
  obtain ⟨h1, h2, _⟩ := h.ok i r b hr hi
  exact ⟨r, List.mem_of_getElem? hr, h1, h2⟩
theorem BrkS.of {y : List Bx} {w : List Wel} {bs : List Nat} (h : BrkS y w bs) {r : List Nat} (hr : r ∈ loopsOf (arr y w)) : ∃ b ∈ bs, b ∈ r := by
  obtain ⟨i, hi⟩ := List.mem_iff_getElem?.mp hr
  obtain ⟨b, hb⟩ := get_lt h.len (List.getElem?_eq_some_iff.mp hi).1
  exact ⟨b, List.mem_of_getElem? hb, (h.ok i r b hi hb).1⟩
theorem brk_acy {y : List Bx} {w : List Wel} {bs : List Nat} (ok : Yok y) (wk : Wok y w) (h : BrkS y w bs) : Acy (brkG (arr y w) bs) := fun i hi => by
  have bd : Bnd (brkG (arr y w) bs) := fun i j e => by
    have hi := (List.getElem?_eq_some_iff.mp e).1
    rw [brk_len] at hi ⊢
    obtain ⟨o, ho⟩ := get_lt rfl hi
    rw [brk_get ho] at e
    split at e
    · cases e
    · cases e; exact arr_bnd ok wk i j ho
  refine rgo_none bd _ [] i List.nodup_nil (by simp) hi rfl ?_
  rcases rgo_cyc (a := brkG (arr y w) bs) ((brkG (arr y w) bs).length + 1) [] i List.nodup_nil True.intro with z | ⟨b, t, z, c⟩
  · exact z
  · exfalso
    -- a ring of the new goal is one of the arrows
    have up : ∀ x j, (brkG (arr y w) bs)[x]? = some (some j) → (arr y w)[x]? = some (some j) := fun x j e => by
      have hx := (List.getElem?_eq_some_iff.mp e).1
      rw [brk_len] at hx
      obtain ⟨o, ho⟩ := get_lt rfl hx
      rw [brk_get ho] at e
      split at e
      · cases e
      · cases e; exact ho
    have lkup : ∀ (r : List Nat) (e : Nat), Lk (brkG (arr y w) bs) r e → Lk (arr y w) r e := by
      intro r
      induction r with
      | nil => intro e _; trivial
      | cons x t ih => intro e h; exact ⟨up _ _ h.1, ih e h.2⟩
    have ca : Cyc (arr y w) b t := ⟨c.nd, lkup _ _ c.lk⟩
    -- the least of it
    obtain ⟨m, hm, hmin⟩ : ∃ m ∈ b :: t, ∀ x ∈ b :: t, m ≤ x := by
      have : ∀ l : List Nat, l ≠ [] → ∃ m ∈ l, ∀ x ∈ l, m ≤ x := by
        intro l
        induction l with
        | nil => intro h; exact absurd rfl h
        | cons a l ih =>
          intro _
          cases l with
          | nil => exact ⟨a, by simp, fun x hx => by simp at hx; omega⟩
          | cons c l =>
            obtain ⟨m, hm, h⟩ := ih (by simp)
            by_cases q : a ≤ m
            · exact ⟨a, by simp, fun x hx => by
                rcases List.mem_cons.mp hx with e | e
                · omega
                · have := h x e; omega⟩
            · exact ⟨m, List.mem_cons_of_mem _ hm, fun x hx => by
                rcases List.mem_cons.mp hx with e | e
                · omega
                · exact h x e⟩
      exact this _ (by simp)
    obtain ⟨p, q, hpq⟩ := List.append_of_mem hm
    have cr := ca.rot hpq
    have hsub : ∀ x ∈ m :: (q ++ p), x ∈ b :: t := fun x hx => by
      rw [hpq]
      simp only [List.mem_append, List.mem_cons] at hx ⊢
      rcases hx with k | k | k
      · exact .inr (.inl k)
      · exact .inr (.inr k)
      · exact .inl k
    have hlo : m :: (q ++ p) ∈ loopsOf (arr y w) := by
      refine List.mem_filterMap.mpr ⟨m, by simpa using cr.lt m (by simp), ?_⟩
      unfold loopOf
      rw [cr.ring, if_pos ⟨rfl, fun x hx => hmin x (hsub x hx)⟩]
    obtain ⟨x, hx, hxr⟩ := h.of hlo
    obtain ⟨j, _, e⟩ := c.closed x (hsub x hxr)
    have hxl := (List.getElem?_eq_some_iff.mp e).1
    rw [brk_len] at hxl
    obtain ⟨o, ho⟩ := get_lt rfl hxl
    rw [brk_get ho, if_pos hx] at e
    cases e
theorem brk_best {y : List Bx} {w : List Wel} {bs : List Nat} (ok : Yok y) (wk : Wok y w) (hnb : ¬ Blk y w) (h : BrkS y w bs) : Best y w (brkG (arr y w) bs) := by
  have hal := arr_len wk
  have moved : ∀ i, i ∈ someL y (brkG (arr y w) bs) → i ∈ bs ∨ (i < y.length ∧ (arr y w)[i]? ≠ (hold y)[i]?) := fun i hi => by
    have hy := some_lt hi
    by_cases z : i ∈ bs
    · exact .inl z
    · refine .inr ⟨hy, fun e => ?_⟩
      obtain ⟨o, ho⟩ := get_lt hal hy
      simp only [someL, List.mem_filter, decide_eq_true_eq] at hi
      apply hi.2
      rw [brk_get ho, if_neg z, ← e, ho]
  have hmay : mayB y (brkG (arr y w) bs) = true := List.all_eq_true.mpr fun i hi => by
    rcases moved i hi with z | ⟨h1, h2⟩
    · obtain ⟨_, _, _, ho⟩ := h.mem z
      exact ho.2
    · cases hp : price y i with
      | some v => rfl
      | none => exact absurd (Or.inl ⟨i, h1, hp, h2⟩) hnb
  refine ⟨by rw [brk_len, hal], brk_acy ok wk h, fun i o e => ?_, hmay, fun g hl ac hf hm => ?_⟩
  · have hi : i < y.length := by
      have := (List.getElem?_eq_some_iff.mp e).1
      rwa [wk.len] at this
    obtain ⟨b, hb, _⟩ := get_y hi
    rw [brk_get (arr_get e hb), if_neg]
    · rfl
    · intro z
      obtain ⟨_, _, _, ho⟩ := h.mem z
      rw [ho.1] at e
      cases e
  · have f : Fea y w g := ⟨hl, ac, hf, hm⟩
    have nn := pr_nn ok
    -- the boxes that must move
    let F := (List.range y.length).filter fun i => decide ((arr y w)[i]? ≠ (hold y)[i]?)
    have hF : ∀ i, i ∈ F ↔ i < y.length ∧ (arr y w)[i]? ≠ (hold y)[i]? := fun i => by simp [F]
    have hFn : F.Nodup := List.nodup_range.filter _
    -- one box of each ring moves
    have ch : ∀ r : List Nat, ∃ x, r ∈ loopsOf (arr y w) → x ∈ r ∧ opn y w x ∧ x ∈ someL y g := fun r => by
      by_cases hr : r ∈ loopsOf (arr y w)
      · obtain ⟨x, h1, h2, h3⟩ := fea_loop wk f hr
        exact ⟨x, fun _ => ⟨h1, h2, h3⟩⟩
      · exact ⟨0, fun z => absurd z hr⟩
    let X := fun r => (ch r).choose
    have hX : ∀ r ∈ loopsOf (arr y w), X r ∈ r ∧ opn y w (X r) ∧ X r ∈ someL y g := fun r hr => (ch r).choose_spec hr
    have nX : ((loopsOf (arr y w)).map X).Nodup := by
      have : ∀ l : List (List Nat), l.Nodup → (∀ r ∈ l, r ∈ loopsOf (arr y w)) → (l.map X).Nodup := by
        intro l
        induction l with
        | nil => intro _ _; exact List.nodup_nil
        | cons r l ih =>
          intro nd hl
          obtain ⟨h1, h2⟩ := List.nodup_cons.mp nd
          refine List.nodup_cons.mpr ⟨fun hm => ?_, ih h2 fun s hs => hl s (by simp [hs])⟩
          obtain ⟨s, hs, e⟩ := List.mem_map.mp hm
          have hs' := hl s (by simp [hs])
          have hr' := hl r (by simp)
          have : r = s := loop_same hr' hs' (hX r hr').1 (e ▸ (hX s hs').1)
          exact h1 (this ▸ hs)
      exact this _ (loops_nodup _) fun r hr => hr
    have nFX : (F ++ (loopsOf (arr y w)).map X).Nodup := by
      rw [List.nodup_append]
      refine ⟨hFn, nX, fun i hi x hx e => ?_⟩
      obtain ⟨r, hr, rfl⟩ := List.mem_map.mp hx
      have ho := (hX r hr).2.1
      have h1 := (hF i).mp hi
      obtain ⟨b, hb, _⟩ := get_y h1.1
      rw [← e] at ho
      exact h1.2 (by rw [arr_get ho.1 hb, hold_get hb]; rfl)
    have s1 : costI y (brkG (arr y w) bs) ≤ sumP y (F ++ bs) := sum_sub nn _ _ (List.nodup_range.filter _) fun i hi => by
      rcases moved i hi with z | z
      · exact List.mem_append_right _ z
      · exact List.mem_append_left _ ((hF i).mpr z)
    have s2 : sumP y (F ++ (loopsOf (arr y w)).map X) ≤ costI y g := sum_sub nn _ _ nFX fun i hi => by
      rcases List.mem_append.mp hi with z | z
      · exact fea_moved wk f ((hF i).mp z).1 ((hF i).mp z).2
      · obtain ⟨r, hr, rfl⟩ := List.mem_map.mp z
        exact (hX r hr).2.2
    have s3 : sumP y bs ≤ sumP y ((loopsOf (arr y w)).map X) := by
      have : ∀ (l : List (List Nat)) (b : List Nat), b.length = l.length → (∀ (i : Nat) (r : List Nat) (x : Nat), l[i]? = some r → b[i]? = some x → pr y x ≤ pr y (X r)) → sumP y b ≤ sumP y (l.map X) := by
        intro l
        induction l with
        | nil => intro b hb _; cases b with
          | nil => simp [sumP]
          | cons _ _ => simp at hb
        | cons r l ih =>
          intro b hb hh
          cases b with
          | nil => simp at hb
          | cons x b =>
            have h1 := hh 0 r x rfl rfl
            have h2 := ih b (by simpa using hb) fun i r x e1 e2 => hh (i + 1) r x e1 e2
            unfold sumP at h2 ⊢
            simp at h2 ⊢
            omega
      refine this _ _ h.len fun i r x e1 e2 => ?_
      have hr := List.mem_of_getElem? e1
      exact (h.ok i r x e1 e2).2.2 _ (hX r hr).1 (hX r hr).2.1
    have e1 : sumP y (F ++ bs) = sumP y F + sumP y bs := by simp [sumP]
    have e2 : sumP y (F ++ (loopsOf (arr y w)).map X) = sumP y F + sumP y ((loopsOf (arr y w)).map X) := by simp [sumP]
    omega
def acyB (h : Hld) : Bool := (List.range h.length).all fun k => !decide (k ∈ upOf h h.length ((h[k]?).join))
theorem upOf_lk {h : Hld} : ∀ (l : List Nat) (e m : Nat), Lk h l e → upOf h (l.length + m) (some (hdD l e)) = l ++ upOf h m (some e)
  | [], e, m, _ => by simp [hdD]
  | x :: t, e, m, ⟨h1, h2⟩ => by
    have ih := upOf_lk t e m h2
    have : (x :: t).length + m = (t.length + m) + 1 := by simp; omega
    rw [this]
    show upOf h (t.length + m + 1) (some x) = _
    simp only [upOf, h1, Option.join]
    exact congrArg _ ih
theorem acyB_iff {h : Hld} (bd : Bnd h) : acyB h = true ↔ Acy h := by
  constructor
  · intro hb i hi
    refine rgo_none bd _ [] i List.nodup_nil (by simp) hi rfl ?_
    rcases rgo_cyc (a := h) (h.length + 1) [] i List.nodup_nil True.intro with z | ⟨b, t, z, c⟩
    · exact z
    · exfalso
      have hbl := c.lt b (by simp)
      have hle := pigeon c.nd c.lt
      have h1 := List.all_eq_true.mp hb b (by simpa using hbl)
      have e : (h[b]?).join = some (hdD t b) := by rw [c.lk.1]; rfl
      rw [e] at h1
      obtain ⟨m, hm⟩ : ∃ m, h.length = t.length + (m + 1) := ⟨h.length - t.length - 1, by simp at hle; omega⟩
      rw [hm, upOf_lk t b (m + 1) c.lk.2] at h1
      simp [upOf] at h1
  · intro ac
    refine List.all_eq_true.mpr fun k hk => ?_
    have hk' : k < h.length := by simpa using hk
    obtain ⟨o, ho⟩ := get_lt rfl hk'
    obtain ⟨l, c⟩ := ac.at ho
    rw [ho]
    show (!decide (k ∈ upOf h h.length o)) = true
    rw [c.up _ c.len]
    have := (Ch.cons ho c).nodup
    simpa using (List.nodup_cons.mp this).1
theorem lk_same {h : Hld} {e : Nat} : ∀ {l m : List Nat} {x : Nat}, Lk h (x :: l) e → Lk h (x :: m) e → e ∉ l → e ∉ m → l = m
  | [], [], _, _, _, _, _ => rfl
  | [], y :: m, x, h1, h2, _, k2 => by
    have := h1.1.symm.trans h2.1
    simp [hdD] at this
    exact absurd (by simp [this]) k2
  | y :: l, [], x, h1, h2, k1, _ => by
    have := h1.1.symm.trans h2.1
    simp [hdD] at this
    exact absurd (by simp [this]) k1
  | y :: l, z :: m, x, h1, h2, k1, k2 => by
    have := h1.1.symm.trans h2.1
    simp [hdD] at this
    subst this
    rw [lk_same h1.2 h2.2 (fun q => k1 (by simp [q])) (fun q => k2 (by simp [q]))]
theorem lk_nodup {h : Hld} {e : Nat} : ∀ {l : List Nat}, Lk h l e → e ∉ l → l.Nodup
  | [], _, _ => List.nodup_nil
  | x :: l, h1, k => by
    have hl : e ∉ l := fun q => k (by simp [q])
    refine List.nodup_cons.mpr ⟨fun hx => ?_, lk_nodup h1.2 hl⟩
    obtain ⟨b, c, rfl⟩ := List.append_of_mem hx
    have h2 : Lk h (x :: c) e := (Lk.app.mp h1.2).2
    have := lk_same h1 h2 hl (fun q => hl (by simp [q]))
    have := congrArg List.length this
    simp at this
    omega
theorem upOf_pre {h : Hld} : ∀ (n : Nat) (o : Option Nat) (t r : List Nat) (x : Nat), upOf h n o = t ++ x :: r → Lk h t x ∧ o = some (hdD t x)
  | 0, o, t, r, x, e => by cases t <;> simp [upOf] at e
  | n + 1, none, t, r, x, e => by cases t <;> simp [upOf] at e
  | n + 1, some i, [], r, x, e => by
    simp [upOf] at e
    exact ⟨True.intro, by rw [e.1]; rfl⟩
  | n + 1, some i, y :: t, r, x, e => by
    simp [upOf] at e
    obtain ⟨rfl, e⟩ := e
    obtain ⟨h1, h2⟩ := upOf_pre n _ t r x e
    refine ⟨⟨?_, h1⟩, rfl⟩
    cases q : h[i]? with
    | none => rw [q] at h2; cases h2
    | some o => rw [q] at h2; have h2 : o = some (hdD t x) := h2; rw [h2]
/-- a box is in the ring from itself just if it is above itself -/
theorem ring_up {h : Hld} (bd : Bnd h) {k : Nat} (hk : k < h.length) : k ∈ ringFrom h k ↔ k ∈ upOf h h.length ((h[k]?).join) := by
  constructor
  · intro hr
    have := rgo_cyc (a := h) (h.length + 1) [] k List.nodup_nil True.intro
    rcases this with z | ⟨b, t, z, c⟩
    · have z : ringFrom h k = [] := z
      rw [z] at hr; cases hr
    · have z : ringFrom h k = b :: t := z
      rw [z] at hr
      obtain ⟨p, q, e⟩ := List.append_of_mem hr
      have c2 := c.rot e
      have hle := pigeon c2.nd c2.lt
      have e2 : (h[k]?).join = some (hdD (q ++ p) k) := by rw [c2.lk.1]; rfl
      obtain ⟨m, hm⟩ : ∃ m, h.length = (q ++ p).length + (m + 1) := ⟨h.length - (q ++ p).length - 1, by simp at hle ⊢; omega⟩
      rw [e2, hm, upOf_lk (q ++ p) k (m + 1) c2.lk.2]
      simp [upOf]
  · intro hu
    obtain ⟨t, r, e, hnt⟩ := List.eq_append_cons_of_mem hu
    obtain ⟨h1, h2⟩ := upOf_pre _ _ t r k e
    have c : Cyc h k t := ⟨List.nodup_cons.mpr ⟨hnt, lk_nodup h1 hnt⟩, ⟨by
      cases q : h[k]? with
      | none => rw [q] at h2; cases h2
      | some o => rw [q] at h2; have h2 : o = some (hdD t k) := h2; rw [h2], h1⟩⟩
    rw [c.ring]
    simp
/-- the first box that is above itself -/
def selfUp (h : Hld) : Option Nat := (List.range h.length).find? fun k => decide (k ∈ upOf h h.length ((h[k]?).join))
theorem self_up {h : Hld} (bd : Bnd h) : selfUp h = selfOf h := by
  unfold selfUp selfOf
  have : ∀ (l : List Nat), (∀ x ∈ l, x < h.length) → l.find? (fun k => decide (k ∈ upOf h h.length ((h[k]?).join))) = l.find? (fun b => decide (b ∈ ringFrom h b)) := by
    intro l
    induction l with
    | nil => intro _; rfl
    | cons a l ih =>
      intro hl
      have e : decide (a ∈ upOf h h.length ((h[a]?).join)) = decide (a ∈ ringFrom h a) := by
        have := ring_up bd (hl a (by simp))
        by_cases z : a ∈ ringFrom h a <;> simp [z, this.symm]
      simp only [List.find?_cons, e, ih fun x hx => hl x (by simp [hx])]
  exact this _ fun x hx => by simpa using hx
end Nb
set_option Elab.async false
set_option linter.all false
set_option maxRecDepth 100000
set_option maxHeartbeats 2000000
set_option autoImplicit false
namespace Nb
open PySem PySem.Calls PySem.Spec PyProof.Rows L2
/-! ### d[k], k not in d, len(d), d.get(k), d.pop(k), keyed by tuples of holders -/
def dXix (fo fk : DE) : DE := fun ρ M Q E => fo ρ M (fun d M1 => ∃ p, d = rf p ∧ (∃ kvs, M1 p = some (.dct kvs)) ∧ fk ρ M1 (fun x M2 => ∃ kvs h n, x = .tuple (h.map od) ∧ M2 p = some (.dct kvs) ∧ lkD kvs h = some n ∧ Q (.int n) M2) E) E
theorem look_int {o : Option (Addr × Value)} {n : Int} (h : RelO (some (V.int n)) (o.map (·.2))) : ∃ a t, o = some (a, .int n t) := by
  cases o with
  | none => cases h
  | some p =>
    obtain ⟨a, v⟩ := p
    obtain ⟨t, e⟩ := (show RelV (.int n) v from h)
    exact ⟨a, t, by rw [e]⟩
section
variable {X : Cx} {W : WX} {o e i : Expr} {fo fk : DE} {pos apos cpos : Pos}
theorem ee_xix (hu : X.A.units + 1 < cLine) (ho : EE X W o fo) (hi : EE X W i fk) (hs : NoSl i := by exact fun _ _ => rfl) : EE X W (.Subscript o i pos) (dXix fo fk) := by
  refine ⟨⟨fun pins s σ H Q I h => ?_⟩⟩
  obtain ⟨F, M, ρ, Qd, Ed, rs, rp, hf, cq, cx⟩ := h
  refine subD_of PySem.F.slot_dict_getitem.lookup hs (thn (ho.go I rs rp hf cx) fun u s1 ⟨x, H1, F1, M1, d, I1, rx, n1, r1, p, ed, hM1, q1⟩ => ?_)
  subst ed
  obtain rfl : x = .ref p := Rp.rf.mp r1
  cases (show u = Value.ref p from rx)
  refine thn (hi.go I1 (rs.mono n1.same) n1.ok q1 (cx.mono n1)) fun iv s2 ⟨y, H2, F2, M2, dk, I2, ry, n2, r2, q2⟩ => ?_
  obtain ⟨kvs, hk, n, rfl, hM, hl, q2⟩ := q2
  obtain ⟨z, hd, xs, e1, p1, dd⟩ := dct_of I2 n2.ok hM
  obtain ⟨b, vs, eb, _, _⟩ := Rp.tup.mp r2
  subst eb
  cases (show iv = Value.ref b from ry)
  have lk := p1.look hk
  rw [hl] at lk
  obtain ⟨a, t, ea⟩ := look_int lk
  exact ⟨dd.typeIs, wpAny_getItem_heap (tupleKind_room_in1 hu) (key_lf I2 n2.ok r2) dd ea ⟨.int n, H2, I2.tok _, ⟨t, rfl⟩, cq _ _ _ _ _ (n1.trans n2) (Rp.int.mpr rfl) q2⟩⟩
def gNotInX : DR2 := fun x y M Q => ∃ p kvs h, x = .tuple (h.map od) ∧ y = rf p ∧ M p = some (.dct kvs) ∧ Q (.bool (!(lkD kvs h).isSome)) M
theorem og_notInX (hu : X.A.units + 64 < cLine) : OpR X (compareOp .NotIn) (LR2 X.K X.mg gNotInX) := by
  rintro pins s σ H x y v u Q I rx ry ⟨F, M, dx, dy, Qd, r1, r2, rp, ⟨p, kvs, h, rfl, rfl, hM, hg⟩, cq⟩
  obtain rfl : y = .ref p := Rp.rf.mp r2
  cases (show u = Value.ref p from ry)
  obtain ⟨b, vs, eb, _, _⟩ := Rp.tup.mp r1
  subst eb
  cases (show v = Value.ref b from rx)
  obtain ⟨z, hd, xs, e1, p1, dd⟩ := dct_of I rp hM
  refine wpAny_notIn_heap (tupleKind_room_in1 (by omega)) (key_lf I rp r1) hd dd ?_
  rw [← p1.some_iff h]
  exact ⟨.bl _, H, I.tok _, rfl, cq.now rp (Rp.bl.mpr rfl) hg⟩
def gLenX : DRL := fun ds M Q => ∃ p kvs, ds = [rf p] ∧ M p = some (.dct kvs) ∧ Q (.int (kvs.length : Nat)) M
theorem cg_lenX : CallR X (.builtin "len") (LRL X.K X.mg gLenX) := by
  rintro pins s σ H xs us Q I r ⟨F, M, ds, Qd, rd, rp, ⟨p, kvs, rfl, hM, hg⟩, cq⟩
  obtain ⟨v, rfl, h1⟩ := rd.one
  obtain rfl : v = .ref p := Rp.rf.mp h1
  rw [Vals.ref1 r]
  obtain ⟨z, hd, xs, e1, p1, dd⟩ := dct_of I rp hM
  have hl : kvs.length = xs.length := Paired.length p1
  refine call_len_dictH hd dd (by rw [← hl]; rw [sizeLine_eq] at z; omega) ?_
  rw [← hl]
  exact ⟨.int (kvs.length : Nat), H, I.tok _, ⟨_, rfl⟩, cq.now rp (Rp.int.mpr rfl) hg⟩
/-! d.get(k) -/
def dXget (fd fk : DE) : DE := fun ρ M Q E => fd ρ M (fun d M1 => ∃ p, d = rf p ∧ (∃ kvs, M1 p = some (.dct kvs)) ∧ fk ρ M1 (fun k M2 => ∃ kvs h, k = .tuple (h.map od) ∧ M2 p = some (.dct kvs) ∧ Q (op (lkD kvs h)) M2) E) E
theorem ee_xget (hu : X.A.units + 1 < cLine) (ho : EE X W o fo) (he : EE X W e fk) (m : M1 X o "get" apos e cpos := by exact ⟨rfl, rfl, rfl, rfl⟩) :
    EE X W (.Call (.Attribute o "get" apos) [e] [] cpos) (dXget fo fk) := by
  refine ⟨⟨fun pins s σ H Q I h => ?_⟩⟩
  obtain ⟨F, M, ρ, Qd, Ed, rs, rp, hf, cq, cx⟩ := h
  refine wpAny_Call_method m.base m.few m.line PySem.F.plainAttrs_dict PySem.F.slot_dict_get PySem.F.type_dict_get (thn (ho.go I rs rp hf cx) fun u s1 ⟨x, H1, F1, M1, d, I1, rx, n1, r1, p, ed, ⟨kvs0, hM0⟩, q1⟩ => ?_)
  subst ed
  obtain rfl : x = .ref p := Rp.rf.mp r1
  cases (show u = Value.ref p from rx)
  obtain ⟨z0, hd0, xs0, e0, p0, dd0⟩ := dct_of I1 n1.ok hM0
  refine ⟨dd0.typeIs, fun b q => ?_, ?_⟩
  · cases q
    obtain ⟨ob, _, _, h1, h2, _⟩ := dd0
    exact ⟨ob, h1, h2.2.1⟩
  rw [m.trees]
  refine Calls.callWith_builtin rfl (Calls.evalArgs_plain (Calls.spliced_cons (thn (he.go I1 (rs.mono n1.same) n1.ok q1 (cx.mono n1)) fun iv s2 ⟨y, H2, F2, M2, dk, I2, ry, n2, r2, q2⟩ => Calls.spliced_nil ?_)))
  obtain ⟨kvs, hk, rfl, hM, q2⟩ := q2
  obtain ⟨z, hd, xs, e1, p1, dd⟩ := dct_of I2 n2.ok hM
  obtain ⟨b, vs, eb, _, _⟩ := Rp.tup.mp r2
  subst eb
  cases (show iv = Value.ref b from ry)
  refine call_meetsIn PySem.F.slot_dict_get dd.typeIs PySem.F.entry_dict_get (PySem.F.args_dict_get_2 _ _) (meetsH_dict_get (lkind X.prog X.w) p b hd) ⟨tupleKind_room_in1 hu, hk.map lf, xs, key_lf I2 n2.ok r2, dd, ?_⟩
  have lk := p1.look hk
  cases hl : lkD kvs hk with
  | none =>
    rw [hl] at lk q2
    cases ha : atKey xs (hk.map lf) with
    | some pr => rw [ha] at lk; cases lk
    | none => exact ⟨.non, H2, I2.tok _, rfl, cq _ _ _ _ _ (n1.trans n2) (Rp.non.mpr rfl) q2⟩
  | some n =>
    rw [hl] at lk q2
    obtain ⟨a, t, ea⟩ := look_int lk
    rw [ea]
    exact ⟨.int n, H2, I2.tok _, ⟨t, rfl⟩, cq _ _ _ _ _ (n1.trans n2) (Rp.int.mpr rfl) q2⟩
/-! d.pop(k) -/
def dropD (kvs : List (HK × Int)) (h : HK) : List (HK × Int) := kvs.filter fun p => decide (p.1 ≠ h)
theorem DcP.drop {K : PySem.W.Frag} {F : Hp} {kvs : List (HK × Int)} {xs : List (List Leaf × Addr × Value)} (r : DcP K F kvs xs) (h : HK) : DcP K F (dropD kvs h) (withoutH xs (h.map lf)) := by
  induction r with
  | nil => exact .nil
  | @cons p q ps qs r t ih =>
    unfold dropD withoutH at ih ⊢
    rw [List.filter_cons, List.filter_cons]
    by_cases e : p.1 = h
    · have e2 : q.1 = h.map lf := by rw [r.1, e]
      rw [if_neg (by simp [e]), if_neg (by simp [e2])]
      exact ih
    · have e2 : ¬ q.1 = h.map lf := fun z => e (lfs_inj (r.1.symm.trans z))
      rw [if_pos (by simp [e]), if_pos (by simp [e2])]
      exact .cons r ih
def dXpop (fd fk : DE) : DE := fun ρ M Q E => fd ρ M (fun d M1 => ∃ p, d = rf p ∧ (∃ kvs, M1 p = some (.dct kvs)) ∧ fk ρ M1 (fun k M2 => ∃ kvs h n, k = .tuple (h.map od) ∧ M2 p = some (.dct kvs) ∧ lkD kvs h = some n ∧ Q (.int n) (mup M2 p (.dct (dropD kvs h)))) E) E
theorem ee_xpop (hu : X.A.units + 1 < cLine) (ho : EE X W o fo) (he : EE X W e fk) (m : M1 X o "pop" apos e cpos := by exact ⟨rfl, rfl, rfl, rfl⟩) :
    EE X W (.Call (.Attribute o "pop" apos) [e] [] cpos) (dXpop fo fk) := by
  refine ⟨⟨fun pins s σ H Q I h => ?_⟩⟩
  obtain ⟨F, M, ρ, Qd, Ed, rs, rp, hf, cq, cx⟩ := h
  refine wpAny_Call_method m.base m.few m.line PySem.F.plainAttrs_dict PySem.F.slot_dict_pop PySem.F.type_dict_pop (thn (ho.go I rs rp hf cx) fun u s1 ⟨x, H1, F1, M1, d, I1, rx, n1, r1, p, ed, ⟨kvs0, hM0⟩, q1⟩ => ?_)
  subst ed
  obtain rfl : x = .ref p := Rp.rf.mp r1
  cases (show u = Value.ref p from rx)
  obtain ⟨z0, hd0, xs0, e0, p0, dd0⟩ := dct_of I1 n1.ok hM0
  refine ⟨dd0.typeIs, fun b q => ?_, ?_⟩
  · cases q
    obtain ⟨ob, _, _, h1, h2, _⟩ := dd0
    exact ⟨ob, h1, h2.2.1⟩
  rw [m.trees]
  refine Calls.callWith_builtin rfl (Calls.evalArgs_plain (Calls.spliced_cons (thn (he.go I1 (rs.mono n1.same) n1.ok q1 (cx.mono n1)) fun iv s2 ⟨y, H2, F2, M2, dk, I2, ry, n2, r2, q2⟩ => Calls.spliced_nil ?_)))
  obtain ⟨kvs, hk, n, rfl, hM, hl, q2⟩ := q2
  obtain ⟨z, hd, xs, e1, p1, dd⟩ := dct_of I2 n2.ok hM
  obtain ⟨b, vs, eb, _, _⟩ := Rp.tup.mp r2
  subst eb
  cases (show iv = Value.ref b from ry)
  have lk := p1.look hk
  rw [hl] at lk
  obtain ⟨a, t, ea⟩ := look_int lk
  have hz : xs.length ≤ sizeLine := by rw [← Paired.length p1]; exact z
  refine call_pop_heap (hsz := hz) (.inl rfl) (PySem.F.args_dict_pop_2 _ _) (tupleKind_room_in1 hu) (key_lf I2 n2.ok r2) hd dd ea fun h' dd' hs => ?_
  have p' := p1.drop hk
  have he' : ∃ q, h'.get? p = some q := let ⟨q, _, _, hq, _⟩ := dd'; ⟨q, hq⟩
  have hz' : (dropD kvs hk).length ≤ sizeLine := Nat.le_trans (List.length_filter_le _ _) z
  have n3 := Nx.write (mo := .dct (dropD kvs hk)) (o := DcO p (withoutH xs (hk.map lf))) n2.ok hM ⟨hz', _, upd_same, p'⟩
  exact ⟨.int n, _, I2.write (x := p) (e := p) (by rw [e1]; exact True.intro) (.inl rfl) (fun b' q' hb z' => (hs.2 b' hb).trans z') he' (dcO_ok p' hd dd'), ⟨t, rfl⟩, cq _ _ _ _ _ ((n1.trans n2).trans n3) (Rp.int.mpr rfl) q2⟩
end
/-! d != {} -/
section
variable {prog : Program} {w : World} {A : Around} {E : Value → Shared → Prop} {s : Shared}
theorem same_empty {nm : String} {a b : Addr} {es es' : Array DictEntry} {ep ep' : Nat} {Q : Bool → Shared → Prop} (ha : (a == sysModules) = false) (hb : (b == sysModules) = false) (da : s.heap.DictRaw a es ep) (db : s.heap.DictRaw b es' ep') (h0 : es'.size = 0)
    (h : Q (es.size == 0) s) : wpAny (model prog w) A (Builtin.Dict.samePairs nm a b) Q E s := by
  obtain ⟨oa, hoa, _, hda⟩ := da
  obtain ⟨ob, hob, _, hdb⟩ := db
  unfold Builtin.Dict.samePairs Builtin.Dict.showsAll
  rw [if_neg (show ¬ (a == sysModules) = true by rw [ha]; exact Bool.false_ne_true), if_neg (show ¬ (b == sysModules) = true by rw [hb]; exact Bool.false_ne_true)]
  refine wpAny_bind (wpAny_pure (wpAny_bind (wpAny_pure ?_)))
  refine wpAny_bind (wpAny_dictEntries hoa hda ?_)
  dsimp only
  refine wpAny_bind (wpAny_dictEntries hob hdb ?_)
  by_cases hsz : es.size = 0
  case neg =>
    rw [if_pos (by rw [h0]; simpa using hsz)]
    have hbf : (es.size == 0) = false := by simpa using hsz
    rw [hbf] at h
    exact wpAny_bind (wpAny_rule (wpAny_pure h))
  case pos =>
    rw [if_neg (by rw [hsz, h0]; simp)]
    refine wpAny_bind (wpAny_dictEpoch hoa hda ?_)
    refine wpAny_bind ?_
    rw [Std.Legacy.Range.forIn_eq_forIn_range']
    simp only [Std.Legacy.Range.size, Nat.sub_zero, Nat.add_sub_cancel, Nat.div_one]
    rw [hsz]
    have e : (es.size == 0) = true := by simpa using hsz
    rw [e] at h
    exact wpAny_pure (wpAny_pure h)
theorem ne_empty {a b : Addr} {es es' : Array DictEntry} {ep ep' : Nat} {Q : Value → Shared → Prop} (ha : (a == sysModules) = false) (hb : (b == sysModules) = false) (da : s.heap.DictRaw a es ep) (db : s.heap.DictRaw b es' ep') (h0 : es'.size = 0) (hu : A.units < cLine)
    (h : Q (.bool (!(es.size == 0))) s) : wpAny (model prog w) A (compareOp .NotEq (.ref a) (.ref b)) Q E s := by
  refine wpAny_richCompare_same_room (op := .NotEq) da.typeIs db.typeIs PySem.F.slot_dict_ne (wpAny_call_entry PySem.F.slot_dict_ne da.typeIs PySem.F.entry_dict_ne ?_ (PySem.F.args_dict_ne_2 _ _)) hu
  show wpAny _ _ (Builtin.Dict.dictSlotArgs "__ne__" ⟨[.ref a, .ref b], []⟩ >>= _) _ _ s
  refine wpAny_bind ?_
  unfold Builtin.Dict.dictSlotArgs
  refine wpAny_bind (wpAny_notOrdered_dict da.typeIs ?_)
  show wpAny _ _ (pure (Value.ref a, Value.ref b)) _ _ s
  refine wpAny_pure ?_
  refine wpAny_bind (wpAny_isInstance (T := "dict") db.typeIs PySem.F.sub_dict_dict ?_)
  simp only [Bool.not_true, Bool.false_eq_true, if_false]
  refine wpAny_bind (wpAny_pure (wpAny_bind (wpAny_pure ?_)))
  refine wpAny_bind (same_empty ha hb da db h0 ?_)
  refine wpAny_pure ⟨_, rfl, ?_, ?_⟩
  · exact fun x => nomatch x
  · have e : ((es.size == 0) == false) = !(es.size == 0) := by cases (es.size == 0) <;> rfl
    show Q (.bool ((es.size == 0) == false)) s
    rw [e]
    exact h
end
def gNeX : DR2 := fun x y M Q => ∃ p q kvs, x = rf p ∧ y = rf q ∧ M p = some (.dct kvs) ∧ M q = some (.dct []) ∧ Q (.bool (!(kvs.length == 0))) M
theorem og_neX {X : Cx} (hu : X.A.units + 64 < cLine) : OpR X (compareOp .NotEq) (LR2 X.K X.mg gNeX) := by
  rintro pins s σ H x y v u Q I rx ry ⟨F, M, dx, dy, Qd, r1, r2, rp, ⟨p, q, kvs, rfl, rfl, hM, hM2, hg⟩, cq⟩
  obtain rfl : x = .ref p := Rp.rf.mp r1
  cases (show v = Value.ref p from rx)
  obtain rfl : y = .ref q := Rp.rf.mp r2
  cases (show u = Value.ref q from ry)
  obtain ⟨z, hd, xs, e1, p1, dd⟩ := dct_of I rp hM
  obtain ⟨z2, hd2, xs2, e2, p2, dd2⟩ := dct_of I rp hM2
  obtain ⟨es, ep, ra, hs, _⟩ := dd.raw
  obtain ⟨es2, ep2, rb, hs2, _⟩ := dd2.raw
  have l1 : kvs.length = xs.length := Paired.length p1
  have l2 : ([] : List (HK × Int)).length = xs2.length := Paired.length p2
  refine ne_empty hd hd2 ra rb (by rw [hs2, ← l2]; rfl) (by omega) ?_
  rw [hs, ← l1]
  exact ⟨.bl _, H, I, rfl, cq.now rp (Rp.bl.mpr rfl) hg⟩
end Nb
set_option Elab.async false
set_option linter.all false
set_option maxRecDepth 100000
set_option maxHeartbeats 2000000
set_option autoImplicit false
namespace Nb
open PySem PySem.Calls PySem.Spec PyProof.Rows L2
/-! ### [d[x] for x in d], [x for x in d if d[x] == c] -/
def vod : Option Nat → V
  | none => .non
  | some k => .int (k : Int)
theorem rp_vod {K : PySem.W.Frag} {F : Hp} : ∀ h : HK, RpAll K F (h.map od) (h.map vod)
  | [] => .nil
  | none :: h => .cons (Rp.non.mpr rfl) (rp_vod h)
  | some k :: h => .cons (Rp.int.mpr rfl) (rp_vod h)
theorem vod_of {K : PySem.W.Frag} {F : Hp} : ∀ {h : HK} {vs : List V}, RpAll K F (h.map od) vs → vs = h.map vod
  | [], _, t => t.nil_inv
  | o :: h, vs, t => by
    rw [List.map_cons] at t
    obtain ⟨v, vs', rfl, h1, t'⟩ := t.inv
    rw [vod_of t', List.map_cons]
    cases o with
    | none => rw [show v = .non from Rp.non.mp h1]; rfl
    | some k => rw [show v = .int (k : Int) from Rp.int.mp h1]; rfl
def KeyIs (K : PySem.W.Frag) (H : Hp) (a : Addr) (h : HK) : Prop := SqT K H a (h.map vod)
def EntOk (K : PySem.W.Frag) (H : Hp) (xs : List (List Leaf × Addr × Value)) : Prop := ∀ y ∈ xs, ∃ h, y.1 = h.map lf ∧ KeyIs K H y.2.1 h
section
variable {X : Cx} {pins : List (Addr × Obj)} {σ : L2.St} {H F : Hp} {M : Mem} {s : Shared} {a p : Addr} {ob : Obj} {xs : List (List Leaf × Addr × Value)}
theorem key_at (F : Hp) (I : Inv X pins σ H s) {h : HK} (k : KeyIs X.K H a h) : (lkind X.prog X.w).is s.heap (h.map lf) a := by
  obtain ⟨its, rv, ⟨o, ho, hc, n, hd⟩, hz⟩ := I.tuple k
  exact ⟨o, its.toArray, n, ho, hc, hd, by simpa using items_lf (K := X.K) (F := F) (rp_vod h) rv⟩
theorem ents_eq (P : Program) (w : World) {K : PySem.W.Frag} {H : Hp} {xs : List (List Leaf × Addr × Value)} (e : EntOk K H xs) : xs.map (entryOfKey (lkind P w)) = xs.map entL := List.map_congr_left fun y hy => by
  obtain ⟨h, hk, _⟩ := e y hy
  obtain ⟨k, q⟩ := y
  have hk : k = h.map lf := hk
  subst hk
  exact ent_one P w h q
theorem frz_dict (I : Inv X pins σ H s) (e : H p = some (.frz ob (DcO p xs))) (eo : EntOk X.K H xs) : (p == sysModules) = false ∧ s.heap.DictOfH (lkind X.prog X.w) p xs := by
  obtain ⟨hd, ⟨h0, o, es, ep, h1, h2, h3, h4, h5⟩, _, _⟩ := I.hok p _ e
  refine ⟨h0, o, es, ep, h1, h2, h3, by rw [ents_eq X.prog X.w eo]; exact h4, fun x hx => ?_, h5⟩
  obtain ⟨h, hk, ka⟩ := eo x hx
  rw [hk]
  exact key_at (fun _ => none) I ka
def tIxL (K : PySem.W.Frag) (i j : Nat) : TE := fun σ H Q => ∃ p a ob xs h a' n t, σ[i]? = some (some (.ref p)) ∧ σ[j]? = some (some (.ref a)) ∧ H p = some (.frz ob (DcO p xs)) ∧ KeyIs K H a h ∧ EntOk K H xs ∧ atKey xs (h.map lf) = some (a', .int n t) ∧ Q (.int n) H
theorem pe_ixL {o e : Expr} {i j : Nat} {pos : Pos} (hu : X.A.units + 1 < cLine) (ho : PE X o (tVar i)) (hi : PE X e (tVar j)) (hs : NoSl e := by exact fun _ _ => rfl) : PE X (.Subscript o e pos) (tIxL X.K i j) := by
  refine ⟨fun pins s σ H Q I h => ?_⟩
  obtain ⟨p, a, ob, xs, h, a', n, t, e1, e2, e3, e4, e5, e6, q⟩ := h
  refine subD_of PySem.F.slot_dict_getitem.lookup hs (thn (ho.run pins s σ H (fun v H1 => v = .ref p ∧ H1 = H) I ⟨_, e1, rfl, rfl⟩) fun u s1 ⟨x, H1, I1, rx, q1, q2⟩ => ?_)
  subst q1 q2
  cases (show u = Value.ref p from rx)
  refine thn (hi.run pins s1 σ H1 (fun v H2 => v = .ref a ∧ H2 = H1) I1 ⟨_, e2, rfl, rfl⟩) fun iv s2 ⟨y, H2, I2, ry, q1, q2⟩ => ?_
  subst q1 q2
  cases (show iv = Value.ref a from ry)
  obtain ⟨hd, dd⟩ := frz_dict I2 e3 e5
  exact ⟨dd.typeIs, wpAny_getItem_heap (tupleKind_room_in1 hu) (key_at (fun _ => none) I2 e4) dd e6 ⟨.int n, H2, I2.tok _, ⟨t, rfl⟩, q⟩⟩
end
/-! walking its keys -/
def ItkX (d : Addr) (o : Obj) (xs : List (List Leaf × Addr × Value)) : It :=
  ⟨fun i H => H d = some (.frz o (DcO d xs)) ∧ i < xs.length,
   fun i H x H' => ∃ k a v, xs[i]? = some (k, a, v) ∧ x = .ref a ∧ H' = H,
   fun i H => H d = some (.frz o (DcO d xs)) ∧ xs.length ≤ i⟩
theorem turn_keysX {P : Program} {w : World} {K : PySem.W.Frag} {tg : Expr} {d : Addr} {o : Obj} {es : Array DictEntry} {ep : Nat} {xs : List (List Leaf × Addr × Value)} (it : Addr) (hod : o.data = .dict es ep) :
    Turn P w K tg (ItkX d o xs) [it] it (fun i h => h.IsKeyIter it d i es.size ep) where
  mem := by simp
  obj := fun i h st b hb => by
    have e : b = it := by simpa using hb
    subst e
    obtain ⟨o', h1, h2, h3⟩ := id st
    exact ⟨o', h1, fun v z => by rw [h3] at z; cases z⟩
  keep := fun i h h' st k => by
    obtain ⟨o', h1, h2, h3⟩ := id st
    exact ⟨o', k it (by simp) _ h1, h2, h3⟩
  item := by
    intro X hP hw hK hc i pins s σ H E I hf st hg
    subst hP hw hK
    obtain ⟨hd, hi⟩ := hg
    obtain ⟨f0, f1, f2, f3, f4, f5⟩ := hf it (by simp)
    obtain ⟨hs, hgd, hx, es', ep', hdt, hent⟩ := inv_frzX I hd
    obtain ⟨rfl, rfl⟩ := dict_ep hod hdt
    obtain ⟨⟨k, a, v⟩, hkv⟩ : ∃ q, xs[i]? = some q := ⟨_, List.getElem?_eq_getElem hi⟩
    obtain ⟨hlt', he'⟩ := ent_get hent hkv
    refine wpAny_pyNext_keys_item_raw st ⟨o, hgd, hx, hdt⟩ hlt' fun h' st' sb => ?_
    have I1 : Inv X pins σ H { s with heap := h' } := I.turned (t' := s.toks) (fun b ob hb e => (sb.2 b hb).trans e) f0 f1 f3 f4 f5
    obtain ⟨oi, e, c, dd⟩ := id st'
    rw [he']
    exact ⟨.ref a, rfl, go_of (s := { s with heap := h' }) e c dd (by decide) ⟨.ref a, H, I1, rfl, ⟨k, a, v, hkv, rfl, rfl⟩, st', fun b hb => (hf b hb).1⟩⟩
  done := by
    intro X hP hw hK hc i pins s σ H E I hf st hg
    subst hP hw hK
    obtain ⟨hd, hi⟩ := hg
    obtain ⟨f0, f1, f2, f3, f4, f5⟩ := hf it (by simp)
    obtain ⟨hs, hgd, hx, es', ep', hdt, hent⟩ := inv_frzX I hd
    obtain ⟨rfl, rfl⟩ := dict_ep hod hdt
    exact wpAny_pyNext_keys_end_raw (I.ok.hd hc) st ⟨o, hgd, hx, hdt⟩ (by rw [ent_size hent]; exact hi) fun h' eb => ⟨rfl, I.turned (t' := s.toks) (fun b ob hb e => eb b ob hb e) f0 f1 f3 f4 f5⟩
  self := fun A i s Q E st h => by
    refine wpAny_pyIter_slot st.typeIs F.slot_dict_keyiterator_iter (wpAny_call_entry F.slot_dict_keyiterator_iter st.typeIs F.entry_dict_keyiterator_iter ?_ (F.args_dict_keyiterator_iter_1 _))
    show wpAny _ _ (ret (.ref it)) _ _ s
    exact wpAny_pure ⟨_, rfl, "dict_keyiterator", _, st.typeIs, F.slot_dict_keyiterator_next.lookup, h⟩
def iKeysX (td : TE) : TI := fun σ H R => td σ H fun v H1 => ∃ p ob xs, v = .ref p ∧ H1 p = some (.frz ob (DcO p xs)) ∧ R (ItkX p ob xs) H1
section
variable {X : Cx} {tg e : Expr} {td : TE}
theorem pi_keysX (he : PE X e td) : PI X tg e (iKeysX td) := by
  refine ⟨fun pins s σ H R I h => ?_⟩
  refine thn (he.run pins s σ H _ I h) fun u s1 ⟨x, H1, I1, rx, d, ob, xs, ex, hd, q⟩ => ?_
  subst ex
  obtain rfl : u = Value.ref d := rx
  obtain ⟨hs, hgd, hx, es, ep, hdt, hent⟩ := inv_frzX I1 hd
  exact wpAny_pyIter_dict_raw hs ⟨ob, hgd, hx, hdt⟩ (pi_one (tk := s1.toks) I1 _ (turn_keysX _ hdt) ⟨_, Heap.get?_push_size _ rfl, rfl, rfl⟩ q)
end
end Nb
set_option Elab.async false
set_option linter.all false
set_option maxRecDepth 100000
set_option maxHeartbeats 2000000
set_option autoImplicit false
namespace Nb
open PySem PySem.Calls PySem.Spec PyProof.Rows L2
/-! ### the comprehensions over a dict keyed by tuples of holders: [d[x] for x in d], [x for x in d if d[x] == c] -/
theorem key_is {K : PySem.W.Frag} {F H : Hp} {h : HK} {a : Addr} (s : Same F H) (r : Rp K F (.tuple (h.map od)) (.ref a)) : KeyIs K H a h := by
  obtain ⟨a', vs, e, q, t⟩ := Rp.tup.mp r
  cases e
  rw [vod_of t] at q
  exact Same.seqT s q
theorem ent_is {K : PySem.W.Frag} {F H : Hp} (s : Same F H) {kvs : List (HK × Int)} {xs : List (List Leaf × Addr × Value)} (p : DcP K F kvs xs) : EntOk K H xs := by
  induction p with
  | nil => intro y hy; cases hy
  | @cons q x qs ys r t ih =>
    intro y hy
    rcases List.mem_cons.mp hy with z | z
    · subst z
      exact ⟨q.1, r.1, key_is s r.2.1⟩
    · exact ih y z
theorem dcp_keys {K : PySem.W.Frag} {F : Hp} {kvs : List (HK × Int)} {xs : List (List Leaf × Addr × Value)} (p : DcP K F kvs xs) : xs.map (·.1) = kvs.map fun q => q.1.map lf := by
  induction p with
  | nil => rfl
  | @cons q x qs ys r t ih => rw [List.map_cons, List.map_cons, ih, r.1]
theorem dcp_nodup {K : PySem.W.Frag} {F : Hp} {kvs : List (HK × Int)} {xs : List (List Leaf × Addr × Value)} (p : DcP K F kvs xs) (h : (xs.map (·.1)).Nodup) : (kvs.map (·.1)).Nodup := by
  rw [dcp_keys p] at h
  have e : (kvs.map fun q => q.1.map lf) = (kvs.map (·.1)).map (List.map lf) := by rw [List.map_map]; rfl
  rw [e] at h
  exact List.Pairwise.of_map _ (fun a b hab e => hab (by rw [e])) h
theorem lkD_mem : ∀ {kvs : List (HK × Int)} {h : HK} {n : Int}, (kvs.map (·.1)).Nodup → (h, n) ∈ kvs → lkD kvs h = some n
  | [], _, _, _, hm => by cases hm
  | q :: qs, h, n, nd, hm => by
    rw [List.map_cons, List.nodup_cons] at nd
    unfold lkD
    rw [List.find?_cons]
    by_cases e : q.1 = h
    · rcases List.mem_cons.mp hm with z | z
      · rw [← z]; simp
      · exact absurd (List.mem_map.mpr ⟨_, z, e.symm⟩) nd.1
    · rcases List.mem_cons.mp hm with z | z
      · exact absurd (by rw [← z]) e
      · simp only [e, decide_false]
        exact lkD_mem nd.2 z
section
variable {K : PySem.W.Frag} {mg : Str → Option Value} {F H : Hp} {M : Mem} {p : Addr} {kvs : List (HK × Int)} {xs : List (List Leaf × Addr × Value)} {ob : Obj} {σ : L2.St}
theorem same_lock (s : Same F H) (hp : F p = none) {u : HO} : Same F (upd H p u) := fun b v e => by
  have ne : b ≠ p := fun z => by rw [z, hp] at e; cases e
  rw [upd_ne ne]
  exact s b v e
theorem upd_back {D : Addr} {u v w : HO} (h : H p = some w) (ne : D ≠ p) : upd (upd (upd H p u) D v) p w = upd H D v := by
  funext b
  by_cases h1 : b = p
  · subst h1
    rw [upd_same, upd_ne (Ne.symm ne), h]
  · rw [upd_ne h1]
    by_cases h2 : b = D
    · subst h2; rw [upd_same, upd_same]
    · rw [upd_ne h2, upd_ne h1, upd_ne h2]
/-- what a turn needs of the locked dict -/
theorem ent_turn (s : Same F H) (hp : F p = none) (dp : DcP K F kvs xs) (nd : (kvs.map (·.1)).Nodup) {D : Addr} {l : HO} (hD : (upd H p (.frz ob (DcO p xs))) D = none) {i : Nat} {k : List Leaf} {a : Addr} {v : Value} (hi : xs[i]? = some (k, a, v)) :
    ∃ q, kvs[i]? = some q ∧ KeyIs K (upd (upd H p (.frz ob (DcO p xs))) D l) a q.1 ∧ EntOk K (upd (upd H p (.frz ob (DcO p xs))) D l) xs ∧ (∃ a' t, atKey xs (q.1.map lf) = some (a', .int q.2 t)) ∧ Rp K F (.tuple (q.1.map od)) (.ref a) ∧ (upd (upd H p (.frz ob (DcO p xs))) D l) p = some (.frz ob (DcO p xs)) := by
  have ne : p ≠ D := fun z => by rw [← z, upd_same] at hD; cases hD
  have hFD : F D = none := by
    cases e : F D with
    | none => rfl
    | some u =>
      have := same_lock (u := .frz ob (DcO p xs)) s hp D u e
      rw [hD] at this
      cases this
  have s2 : Same F (upd (upd H p (.frz ob (DcO p xs))) D l) := same_lock (same_lock s hp) hFD
  have hl : kvs.length = xs.length := Paired.length dp
  have hlt : i < kvs.length := by rw [hl]; exact (List.getElem?_eq_some_iff.mp hi).1
  obtain ⟨y, e2, r1, r2, r3⟩ := paired_get dp (List.getElem?_eq_getElem hlt)
  rw [hi] at e2
  cases e2
  refine ⟨kvs[i], List.getElem?_eq_getElem hlt, key_is s2 r2, ent_is s2 dp, ?_, r2, by rw [upd_ne ne, upd_same]⟩
  have lk := dp.look kvs[i].1
  rw [lkD_mem (kvs := kvs) (h := kvs[i].1) (n := kvs[i].2) nd (List.getElem_mem hlt)] at lk
  obtain ⟨a', t, e⟩ := look_int lk
  exact ⟨a', t, e⟩
theorem take_snoc {α : Type} {l : List α} {i : Nat} {x : α} (h : l[i]? = some x) : l.take (i + 1) = l.take i ++ [x] := by
  rw [List.take_add_one, h]; rfl
theorem vals_core {i j : Nat} {Q : VK} (s : Same F H) (hp : F p = none) (hH : H p = some (DcO p xs)) (hz : kvs.length ≤ sizeLine) (dp : DcP K F kvs xs) (nd : (kvs.map (·.1)).Nodup) (hi : σ[i]? = some (some (.ref p))) (hj : j < σ.length) (hij : i ≠ j)
    (hQ : ∀ D vacc, H D = none → vacc = kvs.map (fun q => V.int q.2) → Q (.ref D) (upd H D (.lst vacc))) :
    tLc (iKeysX (tVar i)) (gName j) tYes (tIxL K i j) [j] σ (upd H p (.frz ob (DcO p xs))) (fun v H' => H' p = some (.frz ob (DcO p xs)) ∧ Q v (upd H' p (DcO p xs))) := by
  refine ⟨.ref p, hi, p, ob, xs, rfl, upd_same, fun D hD => ?_⟩
  have ne : D ≠ p := fun z => by rw [z, upd_same] at hD; cases hD
  have hl : kvs.length = xs.length := Paired.length dp
  refine ⟨fun t m H' => m = kvs.length - t ∧ t ≤ kvs.length ∧ H' = upd (upd H p (.frz ob (DcO p xs))) D (.lst ((kvs.take t).map fun q => V.int q.2)), ⟨_, rfl, Nat.zero_le _, rfl⟩, ?_⟩
  rintro t m H' ⟨rfl, ht, rfl⟩
  by_cases hlt : t < kvs.length
  · refine .inr ⟨⟨by rw [upd_ne (Ne.symm ne), upd_same], by rw [← hl]; exact hlt⟩, fun H' => H' = upd (upd H p (.frz ob (DcO p xs))) D (.lst ((kvs.take (t + 1)).map fun q => V.int q.2)), fun H' e => ⟨kvs.length - (t + 1), by omega, rfl, hlt, e⟩, ?_⟩
    rintro x H' ⟨k, a, v, hk, rfl, rfl⟩
    obtain ⟨q, hq, h1, h2, ⟨a', tk, h3⟩, h4, h5⟩ := ent_turn (l := .lst ((kvs.take t).map fun q => V.int q.2)) s hp dp nd hD hk
    refine ⟨(wipe_set (by simp)).trans wipe_wipe, ?_⟩
    unfold tYes
    dsimp only
    rw [if_pos rfl]
    refine ⟨p, a, ob, xs, q.1, a', q.2, tk, ?_, ?_, h5, h1, h2, h3, ?_⟩
    · rw [List.getElem?_set_ne (Ne.symm hij), wipe_get, if_neg (by simpa using hij)]
      exact hi
    · rw [List.getElem?_set_self (by rw [wipe_length]; exact hj)]
    · refine ⟨_, upd_same, by rw [List.length_map, List.length_take]; omega, ?_⟩
      rw [upd_upd, take_snoc hq, List.map_append]
      rfl
  · have e : t = kvs.length := by omega
    subst e
    refine .inl ⟨⟨by rw [upd_ne (Ne.symm ne), upd_same], by rw [hl]; exact Nat.le_refl _⟩, by rw [upd_ne (Ne.symm ne), upd_same], ?_⟩
    rw [upd_back hH ne]
    refine hQ D _ ?_ (by rw [List.take_length])
    rw [upd_ne ne] at hD
    exact hD
theorem keys_core {i j l : Nat} {c : Int} {Q : VK} (s : Same F H) (hp : F p = none) (hH : H p = some (DcO p xs)) (hz : kvs.length ≤ sizeLine) (dp : DcP K F kvs xs) (nd : (kvs.map (·.1)).Nodup) (hi : σ[i]? = some (some (.ref p))) (hc : σ[l]? = some (some (.int c))) (hj : j < σ.length) (hij : i ≠ j) (hlj : l ≠ j)
    (hQ : ∀ D vacc, H D = none → RpAll K F ((kvs.filter fun q => q.2 == c).map fun q => .tuple (q.1.map od)) vacc → Q (.ref D) (upd H D (.lst vacc))) :
    tLc (iKeysX (tVar i)) (gName j) (tTest (tOp rEq (tIxL K i j) (tVar l))) (tVar j) [j] σ (upd H p (.frz ob (DcO p xs))) (fun v H' => H' p = some (.frz ob (DcO p xs)) ∧ Q v (upd H' p (DcO p xs))) := by
  refine ⟨.ref p, hi, p, ob, xs, rfl, upd_same, fun D hD => ?_⟩
  have ne : D ≠ p := fun z => by rw [z, upd_same] at hD; cases hD
  have hl : kvs.length = xs.length := Paired.length dp
  refine ⟨fun t m H' => m = kvs.length - t ∧ t ≤ kvs.length ∧ ∃ vacc, H' = upd (upd H p (.frz ob (DcO p xs))) D (.lst vacc) ∧ RpAll K F (((kvs.take t).filter fun q => q.2 == c).map fun q => .tuple (q.1.map od)) vacc, ⟨_, rfl, Nat.zero_le _, [], rfl, .nil⟩, ?_⟩
  rintro t m H' ⟨rfl, ht, vacc, rfl, ra⟩
  by_cases hlt : t < kvs.length
  · refine .inr ⟨⟨by rw [upd_ne (Ne.symm ne), upd_same], by rw [← hl]; exact hlt⟩, fun H' => ∃ vacc, H' = upd (upd H p (.frz ob (DcO p xs))) D (.lst vacc) ∧ RpAll K F (((kvs.take (t + 1)).filter fun q => q.2 == c).map fun q => .tuple (q.1.map od)) vacc, fun H' e => ⟨kvs.length - (t + 1), by omega, rfl, hlt, e⟩, ?_⟩
    rintro x H' ⟨k, a, v, hk, rfl, rfl⟩
    obtain ⟨q, hq, h1, h2, ⟨a', tk, h3⟩, h4, h5⟩ := ent_turn (l := .lst vacc) s hp dp nd hD hk
    refine ⟨(wipe_set (by simp)).trans wipe_wipe, ?_⟩
    refine ⟨p, a, ob, xs, q.1, a', q.2, tk, ?_, ?_, h5, h1, h2, h3, .int c, ?_, rfl, _, rfl, ?_⟩
    · rw [List.getElem?_set_ne (Ne.symm hij), wipe_get, if_neg (by simpa using hij)]
      exact hi
    · rw [List.getElem?_set_self (by rw [wipe_length]; exact hj)]
    · rw [List.getElem?_set_ne (Ne.symm hlj), wipe_get, if_neg (by simpa using hlj)]
      exact hc
    · rw [dec_int]
      dsimp only
      by_cases hqc : (q.2 == c) = true
      · rw [if_pos hqc]
        refine ⟨.ref a, by rw [List.getElem?_set_self (by rw [wipe_length]; exact hj)], vacc, upd_same, ?_, vacc ++ [.ref a], by rw [upd_upd], ?_⟩
        · rw [ra.len, List.length_map]
          have := List.length_filter_le (fun q : HK × Int => q.2 == c) (kvs.take t)
          rw [List.length_take] at this
          omega
        · rw [take_snoc hq, List.filter_append, List.filter_cons, if_pos hqc, List.filter_nil, List.map_append]
          exact ra.append (.cons h4 .nil)
      · rw [if_neg hqc]
        refine ⟨vacc, rfl, ?_⟩
        rw [take_snoc hq, List.filter_append, List.filter_cons, if_neg hqc, List.filter_nil, List.append_nil]
        exact ra
  · have e : t = kvs.length := by omega
    subst e
    refine .inl ⟨⟨by rw [upd_ne (Ne.symm ne), upd_same], by rw [hl]; exact Nat.le_refl _⟩, by rw [upd_ne (Ne.symm ne), upd_same], ?_⟩
    rw [upd_back hH ne]
    refine hQ D _ ?_ (by rw [List.take_length] at ra; exact ra)
    rw [upd_ne ne] at hD
    exact hD
end
def dXvals (i j : Nat) : DE := fun ρ M Q _ => ∃ p kvs, ρ[i]? = some (some (rf p)) ∧ j < ρ.length ∧ i ≠ j ∧ M p = some (.dct kvs) ∧ ((kvs.map (·.1)).Nodup → Q (.list (kvs.map fun q => .int q.2)) M)
def dXkeys (i j l : Nat) : DE := fun ρ M Q _ => ∃ p kvs c, ρ[i]? = some (some (rf p)) ∧ ρ[l]? = some (some (.int c)) ∧ j < ρ.length ∧ i ≠ j ∧ l ≠ j ∧ M p = some (.dct kvs) ∧ ((kvs.map (·.1)).Nodup → Q (.list ((kvs.filter fun q => q.2 == c).map fun q => .tuple (q.1.map od))) M)
section
variable {X : Cx} {W : WX} {scope : Scope} {pos p1 p2 p3 p4 p5 p6 p7 p8 : Pos} {d x c : Str} {i j l : Nat}
theorem ee_xvals (hc : X.calm = true) (hN : X.N.Nodup) (hu : X.A.units + 1 < cLine) (ok : BlkOk X.N X.env.scope scope [(x, j)]) (hd : X.N[i]? = some d := by rfl) (hx : X.N[j]? = some x := by rfl)
    (vd : Vis X.env.scope d := by first | exact Or.inl rfl | exact Or.inr (Or.inl rfl) | exact Or.inr (Or.inr rfl))
    (vd2 : ∀ (s : Shared) (H : Hp) (C : Addr) (cl : List (Str × Addr)) (fp : List Addr), Vis (X.blk s H scope (compEnvC scope cl C X.env) fp).env.scope d := by intro _ _ _ _ _; first | exact Or.inl rfl | exact Or.inr (Or.inl rfl) | exact Or.inr (Or.inr rfl))
    (vx2 : ∀ (s : Shared) (H : Hp) (C : Addr) (cl : List (Str × Addr)) (fp : List Addr), Vis (X.blk s H scope (compEnvC scope cl C X.env) fp).env.scope x := by intro _ _ _ _ _; first | exact Or.inl rfl | exact Or.inr (Or.inl rfl) | exact Or.inr (Or.inr rfl))
    (lx2 : ∀ (s : Shared) (H : Hp) (C : Addr) (cl : List (Str × Addr)) (fp : List Addr), Loc (X.blk s H scope (compEnvC scope cl C X.env) fp).env.scope x := by intro _ _ _ _ _; first | exact Or.inl rfl | exact Or.inr rfl)
    (fx2 : ∀ (s : Shared) (H : Hp) (C : Addr) (cl : List (Str × Addr)) (fp : List Addr), (X.blk s H scope (compEnvC scope cl C X.env) fp).fn x = true ∨ (X.blk s H scope (compEnvC scope cl C X.env) fp).env.scope.names.lookup x = some .local := by intro _ _ _ _ _; first | exact .inl rfl | exact .inr rfl)
    (hd1 : (d == ("__debug__" : Str)) = false := by decide) (hd2 : (d == ("__classdict__" : Str)) = false := by decide) (hx1 : (x == ("__debug__" : Str)) = false := by decide) (hx2 : (x == ("__classdict__" : Str)) = false := by decide)
    (hs : ∀ z, foldedSetIterable (.Name d p1) X.env z = pure z := by intro _; rfl) :
    EE X W (.ListComp (.Subscript (.Name d p2) (.Name x p3) p4) [⟨.Name x p5, .Name d p1, [], 0⟩] scope pos) (dXvals i j) := by
  refine ⟨⟨fun pins s σ H Q I h => ?_⟩⟩
  obtain ⟨F, M, ρ, Qd, Ed, rs, rp, ⟨p, kvs, hi, hj, hij, hM, q⟩, cq, cx⟩ := h
  obtain ⟨v, e1, r1⟩ := rs.get _ _ hi
  obtain rfl : v = .ref p := Rp.rf.mp r1
  obtain ⟨hp, hz, xs, hH, dp⟩ := rp.mem p _ hM
  obtain ⟨⟨_, _, _, _, _, _, _, _, hnd⟩, _, _⟩ := I.hok p _ hH
  have nd := dcp_nodup dp hnd
  have P := pe_lock (pe_lc (X := X) (wi := iKeysX (tVar i)) (g := gName j) (tt := tYes) (te := tIxL X.K i j) (tg := .Name x p5) (iter := .Name d p1) (elt := .Subscript (.Name d p2) (.Name x p3) p4) (ifs := []) (pos := pos) (own := [(x, j)]) hc hN (pi_keysX (pe_var hd vd hd1 hd2)) ok
    (fun s H C cl fp => pg_name hN hx (lx2 s H C cl fp) (fx2 s H C cl fp)) (fun s H C cl fp => pts_nil) (fun s H C cl fp => pe_ixL hu (pe_var hd (vd2 s H C cl fp) hd1 hd2) (pe_var hx (vx2 s H C cl fp) hx1 hx2)) hs)
  refine P.run pins s σ H Q I ⟨p, DcO p xs, hH, True.intro, fun ob => ?_⟩
  refine vals_core rp.sub hp hH hz dp nd e1 (by rw [← rs.len]; exact hj) hij fun D vacc hD ev => ?_
  refine cq _ _ _ _ _ (Nx.new rp hD _) (Rp.lst.mpr ⟨D, vacc, rfl, SqL.of upd_same, ?_⟩) (q nd)
  rw [ev]
  have e : (kvs.map fun q => PyData.int q.2) = (kvs.map (·.2)).map PyData.int := by rw [List.map_map]; rfl
  have e2 : (kvs.map fun q => V.int q.2) = (kvs.map (·.2)).map V.int := by rw [List.map_map]; rfl
  rw [e, e2]
  exact RpAll.of_ints
theorem es_setXkeys {k : Nat} {y : Str} {py spos : Pos} (hc : X.calm = true) (hN : X.N.Nodup) (hu : X.A.units + 1 < cLine) (ok : BlkOk X.N X.env.scope scope [(x, j)])
    (hsw : swapsWith (.ListComp (.Name x p2) [⟨.Name x p5, .Name d p1, [.Compare (.Subscript (.Name d p3) (.Name x p4) p6) [.Eq] [.Name c p7] p8], 0⟩] scope pos) (some (.Name y py)) spos.line X.env = pure true)
    (hd : X.N[i]? = some d := by rfl) (hx : X.N[j]? = some x := by rfl) (hcn : X.N[l]? = some c := by rfl) (hy : X.N[k]? = some y := by rfl) (hyl : X.env.scope.names.lookup y = some .local := by rfl)
    (vd : Vis X.env.scope d := by first | exact Or.inl rfl | exact Or.inr (Or.inl rfl) | exact Or.inr (Or.inr rfl))
    (vd2 : ∀ (s : Shared) (H : Hp) (C : Addr) (cl : List (Str × Addr)) (fp : List Addr), Vis (X.blk s H scope (compEnvC scope cl C X.env) fp).env.scope d := by intro _ _ _ _ _; first | exact Or.inl rfl | exact Or.inr (Or.inl rfl) | exact Or.inr (Or.inr rfl))
    (vc2 : ∀ (s : Shared) (H : Hp) (C : Addr) (cl : List (Str × Addr)) (fp : List Addr), Vis (X.blk s H scope (compEnvC scope cl C X.env) fp).env.scope c := by intro _ _ _ _ _; first | exact Or.inl rfl | exact Or.inr (Or.inl rfl) | exact Or.inr (Or.inr rfl))
    (vx2 : ∀ (s : Shared) (H : Hp) (C : Addr) (cl : List (Str × Addr)) (fp : List Addr), Vis (X.blk s H scope (compEnvC scope cl C X.env) fp).env.scope x := by intro _ _ _ _ _; first | exact Or.inl rfl | exact Or.inr (Or.inl rfl) | exact Or.inr (Or.inr rfl))
    (lx2 : ∀ (s : Shared) (H : Hp) (C : Addr) (cl : List (Str × Addr)) (fp : List Addr), Loc (X.blk s H scope (compEnvC scope cl C X.env) fp).env.scope x := by intro _ _ _ _ _; first | exact Or.inl rfl | exact Or.inr rfl)
    (fx2 : ∀ (s : Shared) (H : Hp) (C : Addr) (cl : List (Str × Addr)) (fp : List Addr), (X.blk s H scope (compEnvC scope cl C X.env) fp).fn x = true ∨ (X.blk s H scope (compEnvC scope cl C X.env) fp).env.scope.names.lookup x = some .local := by intro _ _ _ _ _; first | exact .inl rfl | exact .inr rfl)
    (hd1 : (d == ("__debug__" : Str)) = false := by decide) (hd2 : (d == ("__classdict__" : Str)) = false := by decide) (hx1 : (x == ("__debug__" : Str)) = false := by decide) (hx2 : (x == ("__classdict__" : Str)) = false := by decide) (hc1 : (c == ("__debug__" : Str)) = false := by decide) (hc2 : (c == ("__classdict__" : Str)) = false := by decide)
    (hm : behindInMarks .Eq (.Name c p7) = false := by rfl)
    (hs : ∀ z, foldedSetIterable (.Name d p1) X.env z = pure z := by intro _; rfl) :
    ES X W (.Assign [.Name y py] (.ListComp (.Name x p2) [⟨.Name x p5, .Name d p1, [.Compare (.Subscript (.Name d p3) (.Name x p4) p6) [.Eq] [.Name c p7] p8], 0⟩] scope pos) spos) (dAsg (dXkeys i j l) (gN k)) := by
  refine ⟨⟨fun pins s σ H Q I h => ?_⟩⟩
  obtain ⟨F, M, ρ, Dd, rs, rp, ⟨p, kvs, cc, hi, hl, hj, hij, hlj, hM, q⟩, cd⟩ := h
  obtain ⟨v, e1, r1⟩ := rs.get _ _ hi
  obtain rfl : v = .ref p := Rp.rf.mp r1
  obtain ⟨v2, e2, r2⟩ := rs.get _ _ hl
  obtain rfl : v2 = .int cc := Rp.int.mp r2
  obtain ⟨hp, hz, xs, hH, dp⟩ := rp.mem p _ hM
  obtain ⟨⟨_, _, _, _, _, _, _, _, hnd⟩, _, _⟩ := I.hok p _ hH
  have nd := dcp_nodup dp hnd
  have P := ps_lock (ps_setLc (X := X) (i := k) (y := y) (py := py) (spos := spos) (wi := iKeysX (tVar i)) (g := gName j) (tt := tTest (tOp rEq (tIxL X.K i j) (tVar l))) (te := tVar j) (tg := .Name x p5) (iter := .Name d p1) (elt := .Name x p2) (ifs := [.Compare (.Subscript (.Name d p3) (.Name x p4) p6) [.Eq] [.Name c p7] p8]) (pos := pos) (own := [(x, j)]) hc hN hy hyl hsw (pi_keysX (pe_var hd vd hd1 hd2)) ok
    (fun s H C cl fp => pg_name hN hx (lx2 s H C cl fp) (fx2 s H C cl fp)) (fun s H C cl fp => pts_one (pt_cmpR op_eq (pe_ixL hu (pe_var hd (vd2 s H C cl fp) hd1 hd2) (pe_var hx (vx2 s H C cl fp) hx1 hx2)) (pe_var hcn (vc2 s H C cl fp) hc1 hc2) hm)) (fun s H C cl fp => pe_var hx (vx2 s H C cl fp) hx1 hx2) hs)
  refine P.run pins s σ H Q I ⟨p, DcO p xs, hH, True.intro, fun ob => ?_⟩
  refine keys_core (Q := fun v H1 => Q.nx (σ.set k (some v)) H1) rp.sub hp hH hz dp nd e1 e2 (by rw [← rs.len]; exact hj) hij hlj fun D vacc hD ra => ?_
  have r : Rp X.K (upd F D (.lst vacc)) (.list ((kvs.filter fun q => q.2 == cc).map fun q => .tuple (q.1.map od))) (.ref D) := Rp.lst.mpr ⟨D, vacc, rfl, SqL.of upd_same, ra.mono (same_upd (rp.fresh hD).1)⟩
  exact cd.nx _ _ _ _ _ (Nx.new rp hD _) ((rs.mono (same_upd (rp.fresh hD).1)).set r) (q nd)
end
end Nb
set_option Elab.async false
set_option linter.all false
set_option maxRecDepth 100000
set_option maxHeartbeats 2000000
set_option autoImplicit false
namespace Nb
open PySem PySem.Spec PyProof.Rows L2 SrtO Srt PySem.W
section
variable {X : Cx} {pins : List (Addr × Obj)} {σ : L2.St} {H : Hp} {s : Shared}
theorem each_map {α β γ : Type} {R : α → β → Prop} {S : α → γ → Prop} {g : β → γ} (h : ∀ a b, R a b → S a (g b)) : ∀ {as : List α} {bs : List β}, EachIs R as bs → EachIs S as (bs.map g)
  | _, _, .nil => .nil
  | _, _, .cons r t => .cons (h _ _ r) (each_map h t)
theorem key_liftP {xs : List V} {ks vs : List Value} {ps : List (Value × Value)} (rv : Vals xs vs) (hl : ks.length = vs.length) (hp : ps.Perm (ks.zip vs)) :
    ∃ ys : List V, Vals ys (ps.map Prod.snd) ∧ ys.Perm xs := by
  have l1 : xs.length = vs.length := rv.length
  have lz : (ks.zip vs).length = vs.length := by rw [List.length_zip, hl, Nat.min_self]
  have m2 : (xs.zip (ks.zip vs)).map Prod.snd = ks.zip vs := List.map_snd_zip (by rw [lz, l1]; exact Nat.le_refl _)
  have m1 : (xs.zip (ks.zip vs)).map Prod.fst = xs := List.map_fst_zip (by rw [lz, l1]; exact Nat.le_refl _)
  obtain ⟨zs, p, q⟩ := perm_lift Prod.snd hp _ m2
  have all : ∀ z ∈ zs, RelV z.1 z.2.2 := by
    intro z hz
    obtain ⟨j, hj⟩ := List.mem_iff_getElem?.mp (p.mem_iff.mp hz)
    obtain ⟨h1, h2⟩ := List.getElem?_zip_eq_some.mp hj
    obtain ⟨h3, h4⟩ := List.getElem?_zip_eq_some.mp h2
    obtain ⟨u, h5, h6⟩ := rv.get h1
    have e : u = z.2.2 := Option.some.inj (h5.symm.trans h4)
    rw [e] at h6
    exact h6
  refine ⟨zs.map Prod.fst, ?_, ?_⟩
  · have e : ps.map Prod.snd = zs.map fun z => z.2.2 := by rw [← q, List.map_map]; rfl
    rw [e]
    exact vals_maps Prod.fst (fun z => z.2.2) zs fun z hz => all z hz
  · have h := p.map Prod.fst
    rw [m1] at h
    exact h
/-- sorted(d, key=f): what f tells are lists of ints -/
theorem sorted_keyD {l f : Addr} {xs : List V} {its : List Value} {Q : VK} (St : Nat → Hp → List V → Prop) (I : Inv X pins σ H s) (rv : Vals xs its) (hz : xs.length ≤ sizeLine) (hu : X.A.in1.in1.units + 65 < cLine)
    (src : ∀ (R : List Value → Shared → Prop), (∀ (h' : Heap) (tk : Nat), (∀ b o, s.heap.get? b = some o → h'.get? b = some o) → R its { s with heap := h', toks := tk }) → wpAny (model X.prog X.w) X.A.in1 (collect (.ref l)) R X.xe s) (h0 : St 0 H [])
    (turn : ∀ (i : Nat) (x : V) (u : Value) (s' : Shared) (H' : Hp) (kvs : List V) (pins' : List (Addr × Obj)), Inv X pins' σ H' s' → xs[i]? = some x → RelV x u → St i H' kvs →
      wpAny (model X.prog X.w) X.A.in1.in1 (PySem.call (.ref f) [u]) (EP X pins' σ fun v H'' => St (i + 1) H'' (kvs ++ [v])) (fun _ _ => False) s')
    (done : ∀ (H' : Hp) (kvs : List V), St xs.length H' kvs → (∃ (F' : Hp) (M' : Mem) (kz : List (List Int)), Rpr X.K X.mg H' F' M' ∧ RpAll X.K F' (kz.map intsD) kvs) ∧
      ∀ (ys : List V) (p : Addr), ys.Perm xs → H' p = none → Q (.ref p) (upd H' p (.lst ys))) :
    wpAny (model X.prog X.w) X.A (PySem.call (.builtin "sorted") [.ref l] [(Str.ofString "key", .ref f)]) (EP X pins σ Q) X.xe s := by
  have lv : xs.length = its.length := rv.length
  have hz' : its.length ≤ sizeLine := by rw [← lv]; exact hz
  refine call_function_entry_kw kind_sorted plain_sorted entry_sorted (ksk_s1 _ _) ?_
  unfold Builtin.«sorted»
  refine wpAny_bind (m := checkCount "sorted" 1 1 _) (wpAny_pure ?_)
  refine wpAny_bind (src _ fun h0' tk0 keep => ?_)
  refine wpAny_bind (wpAny_newList ?_ hz')
  have hoL : (h0'.push (seqObj "list" its.toArray 0)).get? h0'.objs.size = some (seqObj "list" its.toArray 0) := Heap.get?_push_size _ rfl
  show wpAny _ _ _ _ _ { s with heap := h0'.push (seqObj "list" its.toArray 0), toks := tk0 }
  have I0 : Inv X pins σ H { s with heap := h0', toks := tk0 } := I.kept (t' := tk0) keep
  have I1 : Inv X pins σ H { s with heap := h0'.push (seqObj "list" its.toArray 0), toks := tk0 } := I.kept (t' := tk0) fun b o e => Heap.get?_push_of_some _ (keep b o e)
  have fa : FpOk X pins H h0'.objs.size := I0.fpOk (Nat.le_refl _) (I0.hok.fresh (Nat.le_refl _))
  generalize hh1 : h0'.push (seqObj "list" its.toArray 0) = h1 at hoL I1 ⊢
  generalize haa : h0'.objs.size = a at hoL fa ⊢
  obtain ⟨na, aL, afs, aex, acl, apn⟩ := id fa
  refine wpAny_bind (wpAny_holding (wpAny_call_entry_kw slot_list_sort ⟨_, hoL, rfl⟩ entry_list_sort ?body (ksk_l1 _ _)))
  case body =>
    rw [ksk_t1]
    have ha : a < h1.objs.size := Heap.lt_size hoL
    unfold ksk_tree
    refine wpAny_bind (listItems_at hoL rfl ?_)
    refine wpAny_bind (listUpdate_at hoL rfl ?_ (by rw [List.size_toArray]; exact hz') (Nat.zero_le _))
    obtain ⟨e1, ho1⟩ : ∃ e1, (h1.update a (Obj.mapSeq fun _ => (#[] : Array Value))).get? a = some (seqObj "list" #[] e1) := ⟨_, get?_update_seq hoL (fun _ => #[])⟩
    refine wpAny_bind (seqEpoch_at ho1 rfl ?_)
    refine wpAny_bind (wpAny_newTuple ?_ (by show its.length ≤ _; exact hz'))
    refine wpAny_bind (wpAny_newList ?_ (Nat.zero_le _))
    refine wpAny_holding ?_
    generalize hh2 : h1.update a (Obj.mapSeq fun _ => (#[] : Array Value)) = h2 at ho1 ⊢
    have I2 : Inv X pins σ H { s with heap := h2, toks := tk0 } := Inv.turned (s := { s with heap := h1, toks := tk0 }) (t' := tk0) (it := a) (h' := h2) I1 (fun b o hb e => by rw [← hh2]; exact (Heap.get?_update_ne _ _ _ _ hb).trans e) na aL aex acl apn
    have fk : FpOk X pins H (h2.objs.size + 1) := I2.fpOk (by show h2.objs.size ≤ _; omega) (I2.hok.fresh (by show h2.objs.size ≤ _; omega))
    obtain ⟨nk, kL, kfs, kex, kcl, kpn⟩ := id fk
    have hka : h2.objs.size + 1 ≠ a := Nat.ne_of_gt (Nat.lt_succ_of_lt (Heap.lt_size ho1))
    have hk3 : ((h2.push (seqObj "tuple" its.toArray 0)).push (seqObj "list" #[] 0)).get? (h2.objs.size + 1) = some (seqObj "list" #[] 0) := by
      rw [← size_push' h2 (seqObj "tuple" its.toArray 0)]; exact Heap.get?_push_size _ rfl
    have ho3 : ((h2.push (seqObj "tuple" its.toArray 0)).push (seqObj "list" #[] 0)).get? a = some (seqObj "list" #[] e1) := Heap.get?_push_of_some _ (Heap.get?_push_of_some _ ho1)
    have I3 : Inv X pins σ H { s with heap := (h2.push (seqObj "tuple" its.toArray 0)).push (seqObj "list" #[] 0), toks := tk0 } := I2.kept (t' := tk0) fun b o e => Heap.get?_push_of_some _ (Heap.get?_push_of_some _ e)
    show wpAny _ _ (ksk_rest a (.ref f) false its.toArray e1 (.ref (h2.push (seqObj "tuple" its.toArray 0)).objs.size)) _ _ { s with heap := (h2.push (seqObj "tuple" its.toArray 0)).push (seqObj "list" #[] 0), toks := tk0 }
    rw [size_push']
    generalize h2.objs.size + 1 = kS at nk kL kfs kex kcl kpn hka hk3 ⊢
    generalize (h2.push (seqObj "tuple" its.toArray 0)).push (seqObj "list" #[] 0) = h3 at hk3 ho3 I3 ⊢
    clear hh1 hh2 haa hoL ho1 I0 I1 I2 keep
    have P0 : Inv X ((kS, seqObj "list" #[] 0) :: (a, seqObj "list" #[] e1) :: pins) σ H { s with heap := h3, toks := tk0 } := pin_add (pin_add I3 ho3 na aL afs seq_nocell) hk3 nk kL kfs seq_nocell
    -- after the turns
    have fin : ∀ (s4 : Shared) (H' : Hp) (kvs : List V) (kA : Array Value) (e : Nat), Inv X ((kS, seqObj "list" kA e) :: (a, seqObj "list" #[] e1) :: pins) σ H' s4 → Vals kvs kA.toList → St xs.length H' kvs → kvs.length = xs.length →
        wpAny (model X.prog X.w) X.A.in1.in1 (ksk_end a false its.toArray e1 (.ref kS) kA) (fun fin s' => ∃ v, fin = .done (.ret v) ∧ wpAny (model X.prog X.w) X.A.in1 (pure (PySem.Fin.done (.ret (.ref a)))) (fun fin s' => ∃ v, fin = .done (.ret v) ∧ EP X pins σ Q v s') X.xe s') X.xe s4 := by
      intro s4 H' kvs kA e J rk hSt hlen
      obtain ⟨hpair, hdone⟩ := done H' kvs hSt
      have pk := J.pin _ (List.mem_append_right _ (.head _))
      have pa := J.pin _ (List.mem_append_right _ (.tail _ (.head _)))
      have hkl : kA.toList.length = its.length := by rw [← rk.length, hlen, lv]
      have hks : kA.size = its.length := by rw [← Array.length_toList]; exact hkl
      have hzl : (kA.zip its.toArray).toList = kA.toList.zip its := by simp
      obtain ⟨F', M', kz, rp', rk'⟩ := hpair
      have S : SortsAt X.prog X.w X.A.in1.in1 s4 (dataKind s4.heap (kz.map intsD)) kA.toList := SortsAt.data (each_map (S := fun u d => ∃ as, Reads s4.heap u d as) (fun u l ⟨v, rv', rp2⟩ => Dp.reads J _ v u (Rp.plain rp2 rp' (intsD_sh l)) rv') (each_of rk' rk))
        (AllAlike.of fun b b' => by show alike (.list _) (.list _) = true; rw [alike]; exact alike_ints _ _) (Sortable.others fun b => (⟨(fun z => by cases z), (fun xs z => by cases z)⟩ : intsD b ≠ .none ∧ ∀ xs, intsD b ≠ .tuple xs)) (fun d hd => by
          obtain ⟨b, _, rfl⟩ := List.mem_map.mp hd
          have := intsD_depth b
          omega)
      have hK : PyProof.Rows.KeysOf (dataKind s4.heap (kz.map intsD)) (kA.zip its.toArray) := keysOf_zip S.keys
      obtain ⟨kd, k1, k2⟩ := S.kind
      have tailP : ∀ st : SortSt, (arrOf st).toList.Perm (kA.zip its.toArray).toList → failedOf st = none →
          wpAny (model X.prog X.w) X.A.in1.in1 (ksk_tail a false e1 (.ref kS) st) (fun fin s' => ∃ v, fin = .done (.ret v) ∧ wpAny (model X.prog X.w) X.A.in1 (pure (PySem.Fin.done (.ret (.ref a)))) (fun fin s' => ∃ v, fin = .done (.ret v) ∧ EP X pins σ Q v s') X.xe s') X.xe s4 := by
        intro st hpm hfl
        rw [hzl] at hpm
        obtain ⟨ys, ry, py⟩ := key_liftP rv hkl hpm
        have hsz2 : ((arrOf st).map (·.2)).size = its.length := by
          have := hpm.length_eq
          rw [List.length_zip, hkl, Nat.min_self] at this
          rw [Array.size_map, ← Array.length_toList]
          exact this
        have sk := Heap.SameBut.update s4.heap kS (Obj.mapSeq fun _ => (#[] : Array Value))
        have na1 : (s4.heap.update kS (Obj.mapSeq fun _ => (#[] : Array Value))).get? a = some (seqObj "list" #[] e1) := (sk.2 a hka.symm).trans pa.1
        unfold ksk_tail
        try dsimp only
        refine wpAny_bind (listUpdate_at pk.1 rfl ?_ (by rw [hks]; exact hz') (Nat.zero_le _))
        refine wpAny_bind (wpAny_letGo ?_)
        refine wpAny_bind (seqEpoch_at na1 rfl ?_)
        refine wpAny_bind (listUpdate_at na1 rfl ?_ (Nat.zero_le _) (by simp only [Bool.false_eq_true, if_false]; rw [hsz2]; omega))
        rw [hfl]
        simp only [bne_self_eq_false, Bool.false_eq_true, if_false]
        refine wpAny_pure ⟨_, rfl, wpAny_pure ⟨_, rfl, ?_⟩⟩
        obtain ⟨c2, hc2⟩ : ∃ c2, ((s4.heap.update kS (Obj.mapSeq fun _ => (#[] : Array Value))).update a (Obj.mapSeq fun _ => (arrOf st).map (·.2))).get? a = some (seqObj "list" ((arrOf st).map (·.2)) c2) := ⟨_, get?_update_seq na1 fun _ => (arrOf st).map (·.2)⟩
        have J1 : Inv X pins σ H' s4 := pin_drop (pin_drop J)
        have J2 : Inv X pins σ H' { s4 with heap := s4.heap.update kS (Obj.mapSeq fun _ => (#[] : Array Value)) } :=
          Inv.turned (s := s4) (t' := s4.toks) (it := kS) (h' := s4.heap.update kS (Obj.mapSeq fun _ => (#[] : Array Value))) J1 (fun b o hb e => (sk.2 b hb).trans e) pk.2.1 kL kex kcl kpn
        have sa := Heap.SameBut.update (s4.heap.update kS (Obj.mapSeq fun _ => (#[] : Array Value))) a (Obj.mapSeq fun _ => (arrOf st).map (·.2))
        have eo : (arrOf st).toList.map Prod.snd = ((arrOf st).map (·.2)).toList := by rw [Array.toList_map]
        rw [eo] at ry
        refine ⟨.ref a, upd H' a (.lst ys), Inv.take (s := { s4 with heap := s4.heap.update kS (Obj.mapSeq fun _ => (#[] : Array Value)) }) (t' := s4.toks) (it := a) (o := .lst ys) J2 (fun b ob hb e => (sa.2 b hb).trans e) ⟨pa.2.1, aL, afs, aex, acl, apn⟩ ?_, rfl, hdone ys a py pa.2.1⟩
        exact ⟨by rw [py.length_eq]; exact hz, ((arrOf st).map (·.2)).toList, c2, ry, by rw [Array.toArray_toList]; exact hc2⟩
      unfold ksk_end
      try dsimp only
      simp only [Bool.false_eq_true, if_false]
      by_cases h2 : its.toArray.size < 2
      · rw [if_pos h2, if_pos h2]
        refine wpAny_bind (wpAny_pure ?_)
        rw [StateT.run_pure]
        refine wpAny_bind (wpAny_pure ?_)
        try dsimp only
        exact tailP (SortSt.mk' general' (kA.zip its.toArray) #[] 7 none) (List.Perm.refl _) rfl
      · rw [if_neg h2, if_neg h2]
        have h2' : 2 ≤ its.length := by simpa using h2
        refine wpAny_bind (k2 (by rw [hkl]; exact h2') _ ?_)
        refine wpAny_bind (wpAny_mono (PyProof.Rows.H.wpS_sortRunsSt (κ := dataKind s4.heap (kz.map intsD)) (kd := kd) (a₀ := kA.zip its.toArray) (st := SortSt.mk' kd (kA.zip its.toArray) #[] 7 none)
          (Q := fun _ st' => failedOf st' = none ∧ (arrOf st').toList.Perm (kA.zip its.toArray).toList) k1 hK ⟨Array.Perm.refl _, rfl, rfl⟩ rfl (Stable.refl _) (by rw [Array.size_zip, hks, List.size_toArray, Nat.min_self]; omega) fun st' a1 a2 a3 a4 => ⟨a2, Array.perm_iff_toList_perm.mp a1⟩) ?_ fun _ _ e => e)
        rintro ⟨⟨⟩, st'⟩ s' ⟨rfl, hf, hp⟩
        try dsimp only
        exact tailP st' hp hf
    unfold ksk_rest
    refine wpAny_bind (wpAny_rule ?_)
    first
      | rw [List.forIn_toArray]
      | (rw [← Array.forIn_toList]; simp only [List.toList_toArray])
      | rw [← Array.forIn_toList]
    refine wpAny_bind (ksk_fold (fun i s' => ∃ (H' : Hp) (kvs : List V) (kA : Array Value) (e : Nat), Inv X ((kS, seqObj "list" kA e) :: (a, seqObj "list" #[] e1) :: pins) σ H' s' ∧ Vals kvs kA.toList ∧ kvs.length = i ∧ St i H' kvs) its 0 _
      ⟨H, [], #[], 0, P0, .nil, rfl, h0⟩ ?step ?done)
    case step =>
      rintro j u s' hu ⟨H', kvs, kA, e, J, rk, hlen, hSt⟩
      simp only [Nat.zero_add] at hlen hSt ⊢
      obtain ⟨x, hx⟩ : ∃ x, xs[j]? = some x := ⟨xs[j]'(by rw [lv]; exact (List.getElem?_eq_some_iff.mp hu).1), by simp⟩
      obtain ⟨u', hu', r⟩ := rv.get hx
      rw [hu] at hu'
      cases hu'
      refine wpAny_bind (wpAny_attempt (wpAny_mono (turn j x u s' H' kvs _ J hx r hSt) (fun v s'' he => ?_) fun _ _ hF => hF.elim))
      obtain ⟨y, H'', J2, ry, hS2⟩ := he
      try dsimp only
      have pk := J2.pin _ (List.mem_append_right _ (.head _))
      have pa := J2.pin _ (List.mem_append_right _ (.tail _ (.head _)))
      have hks : kA.size = j := by rw [← Array.length_toList, ← rk.length, hlen]
      have hjl : j < its.length := (List.getElem?_eq_some_iff.mp hu).1
      have sk := Heap.SameBut.update s''.heap kS (Obj.mapSeq (·.push v))
      obtain ⟨c2, hc2⟩ : ∃ c2, (s''.heap.update kS (Obj.mapSeq (·.push v))).get? kS = some (seqObj "list" (kA.push v) c2) := ⟨_, get?_update_seq pk.1 (·.push v)⟩
      refine wpAny_bind (listUpdate_at pk.1 rfl ?_ (by rw [hks]; omega) (by rw [Array.size_push]; omega))
      have J3 : Inv X ((a, seqObj "list" #[] e1) :: pins) σ H'' s'' := pin_drop J2
      have J4 : Inv X ((a, seqObj "list" #[] e1) :: pins) σ H'' { s'' with heap := s''.heap.update kS (Obj.mapSeq (·.push v)) } :=
        Inv.turned (s := s'') (t' := s''.toks) (it := kS) (h' := s''.heap.update kS (Obj.mapSeq (·.push v))) J3 (fun b o hb e => (sk.2 b hb).trans e) pk.2.1 kL kex kcl (fun p hp => by
          rcases List.mem_append.mp hp with hp | hp
          · exact kpn p (List.mem_append_left _ hp)
          · rcases List.mem_cons.mp hp with rfl | hp
            · exact hka.symm
            · exact kpn p (List.mem_append_right _ hp))
      refine wpAny_pure ⟨rfl, H'', kvs ++ [y], kA.push v, c2, pin_add J4 hc2 pk.2.1 kL kfs seq_nocell, ?_, by rw [List.length_append, hlen]; rfl, hS2⟩
      rw [Array.toList_push]
      exact Vals.snoc rk ry
    case done =>
      rintro s' ⟨H', kvs, kA, e, J, rk, hlen, hSt⟩
      have pk := J.pin _ (List.mem_append_right _ (.head _))
      try dsimp only
      refine wpAny_bind (listItems_at pk.1 rfl ?_)
      rw [Nat.zero_add, ← lv] at hlen hSt
      exact fin s' H' kvs kA e J rk hSt hlen
end
def dXsort (sp : DSp) (fe : DE) : DE := fun ρ M Q E => fe ρ M (fun d M1 => ∃ p kvs, d = rf p ∧ M1 p = some (.dct kvs) ∧ (∀ h ∈ kvs.map (·.1), ∃ l : List Int, sp [.tuple (h.map od)] M1 (fun r M2 => r = intsD l ∧ M2 = M1) noX) ∧
  ((kvs.map (·.1)).Nodup → ∀ hs : List HK, hs.Perm (kvs.map (·.1)) → Q (.list (hs.map fun h => .tuple (h.map od))) M1)) E
theorem dcp_vals {K : PySem.W.Frag} {F : Hp} {kvs : List (HK × Int)} {xs : List (List Leaf × Addr × Value)} (p : DcP K F kvs xs) : RpAll K F (kvs.map fun q => .tuple (q.1.map od)) (xs.map fun x => V.ref x.2.1) := by
  induction p with
  | nil => exact .nil
  | @cons q x qs ys r t ih => exact .cons r.2.1 ih
theorem perm_rp {K : PySem.W.Frag} {F : Hp} {ds : List Dat} {vs ys : List V} (r : RpAll K F ds vs) (p : ys.Perm vs) : ∃ es, es.Perm ds ∧ RpAll K F es ys := by
  induction p generalizing ds with
  | nil => exact ⟨[], by rw [show ds = [] from by cases ds with | nil => rfl | cons d t => obtain ⟨_, _, e, _⟩ := r.inv; cases e], .nil⟩
  | cons x p ih =>
    cases ds with
    | nil => cases r
    | cons d t =>
      obtain ⟨v, vs', e, h1, h2⟩ := r.inv
      cases e
      obtain ⟨es, q, r'⟩ := ih h2
      exact ⟨d :: es, q.cons d, .cons h1 r'⟩
  | swap x y l =>
    cases ds with
    | nil => cases r
    | cons d t =>
      obtain ⟨v, vs', e, h1, h2⟩ := r.inv
      cases e
      cases t with
      | nil => cases h2
      | cons d2 t =>
        obtain ⟨v, vs', e, h3, h4⟩ := h2.inv
        cases e
        exact ⟨d2 :: d :: t, List.Perm.swap .., .cons h3 (.cons h1 h4)⟩
  | trans p1 p2 ih1 ih2 =>
    obtain ⟨es, q, r'⟩ := ih2 r
    obtain ⟨es2, q2, r2⟩ := ih1 r'
    exact ⟨es2, q2.trans q, r2⟩
theorem perm_mapL {α β : Type} {f : α → β} {l : List α} : ∀ {m : List β}, m.Perm (l.map f) → ∃ l' : List α, l'.Perm l ∧ m = l'.map f := fun {m} h => by
  obtain ⟨zs, p, q⟩ := perm_lift f h l rfl
  exact ⟨zs, p, q.symm⟩
section
variable {X : Cx} {W : WX} {e : Expr} {fe : DE} {sp : DSp} {f : Str} {k : Nat} {p1 p2 pos kpos : Pos}
theorem ee_sortD (hF : HasFn X.prog X.w X.K X.mg X.base f k sp) (hr : Room (k + 2) X.A) (hm : X.mg "sorted" = none) (hc : X.calm = true) (he : EE X W e fe) (hg : Gl X "sorted" := by rfl) (hgf : Gl X f := by rfl) (hdb : (f == ("__debug__" : Str)) = false := by decide)
    (hst0 : starEach [e] X.env = (false, eval e X.env) :: starEach [] X.env := by rfl) (hst : backTo pos (starEach [e] X.env) = (false, eval e X.env) :: backTo pos (starEach [] X.env) := by rfl) (hpl : (backTo pos (starEach [e] X.env)).any (·.1) = false := by rfl) :
    EE X W (.Call (.Name "sorted" p1) [e] [⟨some "key", .Name f p2, kpos⟩] pos) (dXsort sp fe) := by
  refine ⟨⟨fun pins s σ H Q I h => ?_⟩⟩
  obtain ⟨F, M, ρ, Qd, Ed, rs, rp, hf, cq, cx⟩ := h
  obtain ⟨fa, fd, ps, Fk, hmf, hkf, hb⟩ := hF
  refine wpAny_Call_Name_kw (ld_blt (u := .builtin "sorted") I hg hm (by decide +kernel) ?_ (by decide) (by decide))
  refine PyProof.Rows.callWith_kw ?_ hst hpl (by rfl) (by rfl)
  rw [hst]
  refine Calls.spliced_cons (thn (he.go I rs rp hf cx) fun u s1 ⟨x, H1, F1, M1, d, I1, rx, n1, r1, p, kvs, ed, hM, hk, hfin⟩ => Calls.spliced_nil ?_)
  subst ed
  obtain rfl : x = .ref p := Rp.rf.mp r1
  cases (show u = Value.ref p from rx)
  refine thn ((pk_cons (nm := some "key") (kpos := kpos) (pe_glob (v := .ref fa) hgf hmf rfl hdb) pk_nil).run pos pins s1 σ H1 (fun zs H2 => zs = [V.ref fa] ∧ H2 = H1) I1 ⟨rfl, rfl⟩) fun ws' s2 ⟨zs, H2, I2, r2, ez, eh⟩ => ?_
  subst ez eh
  obtain ⟨wv, rfl, rw'⟩ := vals1 r2
  obtain rfl : wv = Value.ref fa := rw'
  obtain ⟨hF1, hz, xs, hH, dp⟩ := n1.ok.mem p _ hM
  obtain ⟨⟨hd, o, es, ep, hgd, hx, hdt, hent, hnd⟩, _, _⟩ := I2.hok p _ hH
  have raw : s2.heap.DictRaw p es ep := ⟨o, hgd, hx, hdt⟩
  have hl : kvs.length = xs.length := Paired.length dp
  have hr' : Room k X.A.in1.in1 := (show Room (k + 1 + 1) X.A from hr).in1.in1
  have rs1 := rs.mono n1.same
  show wpAny _ _ (PySem.call (.builtin "sorted") [.ref p] [(Str.ofString "key", .ref fa)]) _ _ s2
  refine sorted_keyD (xs := xs.map fun x => V.ref x.2.1) (its := xs.map fun x => Value.ref x.2.1) (fun i H' vs => ∃ (F' : Hp) (kz : List (List Int)), Nx X.K X.mg F1 H2 M1 F' H' M1 ∧ RpAll X.K F' (kz.map intsD) vs) I2 ?rv (by rw [List.length_map, ← hl]; exact hz) (room65 hr') ?src ⟨F1, [], Nx.refl n1.ok, .nil⟩ ?turn ?done
  case rv =>
    exact vals_maps _ _ xs fun x _ => rfl
  case src =>
    intro R hR
    refine kdu_collect (KdlSrc.rawDict hd) (I2.ok.hd hc) raw (by rw [ent_size hent, ← hl]; exact hz) fun h' tk acc keep hacc => ?_
    have e : acc.toList = xs.map fun x => Value.ref x.2.1 := by
      refine List.ext_getElem? fun j => ?_
      rw [List.getElem?_map, Array.getElem?_toList]
      cases hj : acc[j]? with
      | none =>
        have h1 : acc.size ≤ j := Array.getElem?_eq_none_iff.mp hj
        rw [hacc.1, ent_size hent] at h1
        rw [List.getElem?_eq_none h1]
        rfl
      | some v =>
        obtain ⟨hi, ev⟩ := hacc.2 j v hj
        have hj2 : j < xs.length := by rw [← ent_size hent]; exact hi
        obtain ⟨_, e3⟩ := ent_get hent (List.getElem?_eq_getElem hj2)
        rw [List.getElem?_eq_getElem hj2, ev, e3]
        rfl
    rw [e]
    exact hR h' tk keep
  case turn =>
    rintro i x u s' H' vs pins' I' hx' rx ⟨F', kz, n3, rk⟩
    rw [List.getElem?_map] at hx'
    obtain ⟨y, hy, ey⟩ := Option.map_eq_some_iff.mp hx'
    have hlt : i < kvs.length := by rw [hl]; exact (List.getElem?_eq_some_iff.mp hy).1
    obtain ⟨y2, e2, r1', r2', r3'⟩ := paired_get dp (List.getElem?_eq_getElem hlt)
    rw [hy] at e2
    cases e2
    obtain ⟨l, hsp⟩ := hk kvs[i].1 (List.mem_map.mpr ⟨_, List.getElem_mem hlt, rfl⟩)
    have e0 : Env0 X.prog X.w X.K X.mg X.base X.A.in1.in1 X.stack s' H' := ⟨by first | exact I'.env0.frames | (simpa using I'.env0.frames), I'.env0.mod, I'.env0.bs, I'.env0.bsz, I'.env0.funs, I'.env0.frf, I'.env0.hok, I'.env0.bare⟩
    have spec : LSp X.K X.mg sp [x] H' (fun v H'' => ∃ (F'' : Hp) (kz' : List (List Int)), Nx X.K X.mg F1 H2 M1 F'' H'' M1 ∧ RpAll X.K F'' (kz'.map intsD) (vs ++ [v])) (fun _ _ _ => False) := by
      refine ⟨F', M1, [.tuple (kvs[i].1.map od)], fun r M2 => r = intsD l ∧ M2 = M1, noX, .cons (by rw [← ey]; exact r2'.mono n3.same) .nil, n3.ok, hsp, fun F'' H'' M'' dk vk n4 rk4 q4 => ?_, fun _ _ _ _ _ _ _ _ zz => zz.elim⟩
      obtain ⟨rfl, rfl⟩ := q4
      refine ⟨F'', kz ++ [l], n3.trans n4, ?_⟩
      rw [List.map_append]
      exact (rk.mono n4.same).append (.cons rk4 .nil)
    have hlen : [u].length = ps.length := by
      have := Fk.len _ _ _ _ spec
      exact this
    have b := hb s' [u] I'.kIn (by rw [List.append_nil]; exact hlen)
    rw [List.append_nil] at b
    refine wpAny_call (codeAny_mono (Fk.run X.A.in1.in1 X.stack s' H' ⟨[u], []⟩ [u] [x] _ _ hr' e0 b (.cons rx .nil) spec) fun r s'' hq => ?_)
    cases r with
    | error e =>
      obtain ⟨_, _, _, _, _, _, _, _, _, _, _, _, zz⟩ := hq
      exact zz
    | ok fl =>
      cases fl with
      | ret u => exact I'.after hq
      | next => exact False.elim hq
      | brk => exact False.elim hq
      | cont => exact False.elim hq
  case done =>
    rintro H' vs ⟨F', kz, n3, rk⟩
    refine ⟨⟨F', M1, kz, n3.ok, rk⟩, fun ys pp py hp => ?_⟩
    obtain ⟨es', q1, q2⟩ := perm_rp (dcp_vals dp) py
    have e3 : (kvs.map fun q => PyData.tuple (q.1.map od)) = (kvs.map (·.1)).map fun h => .tuple (h.map od) := by rw [List.map_map]; rfl
    rw [e3] at q1
    obtain ⟨hs, q3, rfl⟩ := perm_mapL q1
    have n5 := Nx.new n3.ok hp (.lst ys)
    exact cq _ _ M1 _ _ (n1.trans (n3.trans n5)) (Rp.lst.mpr ⟨pp, _, rfl, SqL.of upd_same, (q2.mono n3.same).mono n5.same⟩) (hfin (dcp_nodup dp hnd) hs q3)
end
end Nb
set_option Elab.async false
set_option linter.all false
set_option maxRecDepth 100000
set_option maxHeartbeats 4000000
set_option autoImplicit false
namespace Nb
open PySem PySem.Spec PyProof.Rows L2
/-! ### how many nestings there are, some boxes' holders given -/
abbrev Pat := List (Option (Option Nat))
def opts (n : Nat) : List (Option Nat) := none :: (List.range n).map some
/-- no box in itself, found fast -/
def goes (h : Hld) : Nat → Option Nat → Bool
  | _, none => true
  | 0, some _ => false
  | f + 1, some i => goes h f ((h[i]?).join)
def acyF (h : Hld) : Bool := h.all fun o => goes h h.length o
def layP (n : Nat) : Pat → Hld → List Hld
  | [], h => if acyF h = true then [h] else []
  | some o :: ps, h => layP n ps (h ++ [o])
  | none :: ps, h => (opts n).flatMap fun o => layP n ps (h ++ [o])
def cntP (n : Nat) : Pat → Hld → Nat
  | [], h => if acyF h = true then 1 else 0
  | some o :: ps, h => cntP n ps (h ++ [o])
  | none :: ps, h => ((opts n).map fun o => cntP n ps (h ++ [o])).sum
def stP (ps : Pat) : Nat → Option Nat → Bool
  | 0, _ => true
  | _ + 1, none => true
  | f + 1, some i => match ps[i]? with
    | some (some o) => stP ps f o
    | some none => false
    | none => true
def freeP (ps : Pat) : Nat := (ps.filter fun o => o.isNone).length
def staysP (ps : Pat) : Nat := ((List.range ps.length).filter fun i => stP ps ps.length (some i)).length
def reachP (ps : Pat) : Nat := if freeP ps = 0 then 1 else (1 + staysP ps) * (ps.length + 1) ^ (freeP ps - 1)
def pats (n : Nat) : Nat → List Pat
  | 0 => [[]]
  | k + 1 => (pats n k).flatMap fun ps => (none :: (opts n).map some).map fun o => o :: ps
def chkN (n : Nat) : Bool := (pats n n).all fun ps => let c := cntP n ps []; c == 0 || c == reachP ps
theorem chk1 : chkN 1 = true := by decide +kernel
theorem chk2 : chkN 2 = true := by decide +kernel
theorem chk3 : chkN 3 = true := by decide +kernel
theorem chk4 : chkN 4 = true := by decide +kernel
end Nb
set_option Elab.async false
set_option linter.all false
set_option maxRecDepth 100000
set_option maxHeartbeats 4000000
set_option autoImplicit false
set_option pp.maxSteps 2000
namespace Nb
open PySem PySem.Spec PyProof.Rows L2
/-! ### the nestings that can be come to -/
def okN (y : List Bx) (h : Hld) : Prop := h.length = y.length ∧ Acy h ∧ mayB y h = true
theorem goes_ch {h : Hld} : ∀ (f : Nat) (o : Option Nat), (∀ j, o = some j → j < h.length) → Bnd h → goes h f o = true → ∃ l, Ch h o l
  | _, none, _, _, _ => ⟨[], .nil⟩
  | 0, some _, _, _, e => by cases e
  | f + 1, some i, hj, bd, e => by
    obtain ⟨o, ho⟩ := get_lt rfl (hj i rfl)
    have e : goes h f ((h[i]?).join) = true := e
    rw [ho] at e
    obtain ⟨l, c⟩ := goes_ch f o (fun j ej => bd i j (by rw [ho, ej])) bd e
    exact ⟨i :: l, .cons ho c⟩
theorem ch_goes {h : Hld} {o : Option Nat} {l : List Nat} (c : Ch h o l) : ∀ f, l.length ≤ f → goes h f o = true := by
  induction c with
  | nil => intro f _; cases f <;> rfl
  | @cons i o l e c ih =>
    intro f hf
    cases f with
    | zero => simp at hf
    | succ f =>
      show goes h f ((h[i]?).join) = true
      rw [e]
      exact ih f (by simpa using hf)
theorem acyF_iff {h : Hld} (bd : Bnd h) : acyF h = true ↔ Acy h := by
  constructor
  · intro e i hi
    obtain ⟨o, ho⟩ := get_lt rfl hi
    obtain ⟨l, c⟩ := goes_ch _ o (fun j ej => bd i j (by rw [ho, ej])) bd (List.all_eq_true.mp e o (List.mem_of_getElem? ho))
    exact ⟨i :: l, .cons ho c⟩
  · intro ac
    refine List.all_eq_true.mpr fun o hm => ?_
    obtain ⟨i, hi⟩ := List.mem_iff_getElem?.mp hm
    obtain ⟨l, c⟩ := ac.at hi
    exact ch_goes c _ c.len
inductive Fit (n : Nat) : Pat → Hld → Prop
  | nil : Fit n [] []
  | fix {o : Option Nat} {ps : Pat} {t : Hld} : Fit n ps t → Fit n (some o :: ps) (o :: t)
  | opn {o : Option Nat} {ps : Pat} {t : Hld} : o ∈ opts n → Fit n ps t → Fit n (none :: ps) (o :: t)
theorem mem_layP {n : Nat} : ∀ {ps : Pat} {pre h : Hld}, h ∈ layP n ps pre ↔ ∃ t, h = pre ++ t ∧ Fit n ps t ∧ acyF h = true
  | [], pre, h => by
    unfold layP
    constructor
    · intro hm
      by_cases z : acyF pre = true
      · rw [if_pos z] at hm
        have e := List.mem_singleton.mp hm
        exact ⟨[], by rw [e, List.append_nil], .nil, by rw [e]; exact z⟩
      · rw [if_neg z] at hm
        cases hm
    · rintro ⟨t, rfl, f, e⟩
      cases f
      rw [List.append_nil] at e ⊢
      rw [if_pos e]
      exact List.mem_singleton.mpr rfl
  | some o :: ps, pre, h => by
    show h ∈ layP n ps (pre ++ [o]) ↔ _
    rw [mem_layP]
    constructor
    · rintro ⟨t, rfl, f, e⟩
      exact ⟨o :: t, by simp, .fix f, e⟩
    · rintro ⟨t, rfl, f, e⟩
      cases f with
      | fix f => exact ⟨_, by simp, f, e⟩
  | none :: ps, pre, h => by
    show h ∈ (opts n).flatMap (fun o => layP n ps (pre ++ [o])) ↔ _
    rw [List.mem_flatMap]
    constructor
    · rintro ⟨o, ho, hm⟩
      obtain ⟨t, rfl, f, e⟩ := mem_layP.mp hm
      exact ⟨o :: t, by simp, .opn ho f, e⟩
    · rintro ⟨t, rfl, f, e⟩
      cases f with
      | opn ho f => exact ⟨_, ho, mem_layP.mpr ⟨_, by simp, f, e⟩⟩
theorem opts_nodup (n : Nat) : (opts n).Nodup := by
  unfold opts
  rw [List.nodup_cons]
  refine ⟨by simp, ?_⟩
  exact List.Pairwise.map _ (fun a b hab e => hab (Option.some.inj e)) List.nodup_range
theorem opts_mem {n : Nat} {o : Option Nat} : o ∈ opts n ↔ ∀ j, o = some j → j < n := by
  unfold opts
  cases o with
  | none => simp
  | some k => simp
theorem flat_nodup {α β : Type} {f : α → List β} : ∀ {l : List α}, l.Nodup → (∀ a ∈ l, (f a).Nodup) → (∀ a ∈ l, ∀ b ∈ l, a ≠ b → ∀ x, x ∈ f a → x ∉ f b) → (l.flatMap f).Nodup
  | [], _, _, _ => List.Pairwise.nil
  | a :: l, nd, h1, h2 => by
    rw [List.flatMap_cons, List.nodup_append]
    obtain ⟨ha, nd'⟩ := List.nodup_cons.mp nd
    refine ⟨h1 a (by simp), flat_nodup nd' (fun b hb => h1 b (by simp [hb])) fun b hb c hc => h2 b (by simp [hb]) c (by simp [hc]), fun x hx z hz e => ?_⟩
    subst e
    obtain ⟨b, hb, hm⟩ := List.mem_flatMap.mp hz
    exact h2 a (by simp) b (by simp [hb]) (fun e => ha (e ▸ hb)) x hx hm
theorem layP_nodup {n : Nat} : ∀ (ps : Pat) (pre : Hld), (layP n ps pre).Nodup
  | [], pre => by
    unfold layP
    split
    · exact List.pairwise_singleton _ _
    · exact List.Pairwise.nil
  | some o :: ps, pre => layP_nodup ps (pre ++ [o])
  | none :: ps, pre => by
    show ((opts n).flatMap fun o => layP n ps (pre ++ [o])).Nodup
    refine flat_nodup (opts_nodup n) (fun o _ => layP_nodup ps _) fun a _ b _ hab x h1 h2 => ?_
    obtain ⟨t, e1, _, _⟩ := mem_layP.mp h1
    obtain ⟨t', e2, _, _⟩ := mem_layP.mp h2
    rw [e1] at e2
    have : ((pre ++ [a]) ++ t)[pre.length]? = ((pre ++ [b]) ++ t')[pre.length]? := by rw [e2]
    simp at this
    exact hab this
theorem cnt_lay {n : Nat} : ∀ (ps : Pat) (pre : Hld), (layP n ps pre).length = cntP n ps pre
  | [], pre => by
    unfold layP cntP
    split <;> rfl
  | some o :: ps, pre => cnt_lay ps (pre ++ [o])
  | none :: ps, pre => by
    show ((opts n).flatMap fun o => layP n ps (pre ++ [o])).length = ((opts n).map fun o => cntP n ps (pre ++ [o])).sum
    rw [List.length_flatMap]
    congr 1
    exact List.map_congr_left fun o _ => cnt_lay ps _
def patOf (y : List Bx) : Pat := y.map fun b => if b.1.isSome = true then none else some b.2
theorem mem_pats {n : Nat} : ∀ {k : Nat} {ps : Pat}, ps.length = k → (∀ o ∈ ps, ∀ h, o = some h → h ∈ opts n) → ps ∈ pats n k
  | 0, [], _, _ => by simp [pats]
  | k + 1, o :: ps, hl, hm => by
    unfold pats
    rw [List.mem_flatMap]
    refine ⟨ps, mem_pats (by simpa using hl) fun o ho => hm o (by simp [ho]), ?_⟩
    rw [List.mem_map]
    refine ⟨o, ?_, rfl⟩
    cases o with
    | none => simp
    | some h => simp [hm (some h) (by simp) h rfl]
theorem st_of {y : List Bx} : ∀ (f : Nat) (o : Option Nat), (upOf (hold y) f o).all (fun j => !(price y j).isSome) = stP (patOf y) f o
  | 0, o => rfl
  | f + 1, none => rfl
  | f + 1, some i => by
    have ih := st_of (y := y) f
    show ((!(price y i).isSome) && (upOf (hold y) f ((hold y)[i]?).join).all fun j => !(price y j).isSome) = _
    unfold stP patOf
    rw [List.getElem?_map]
    cases hb : y[i]? with
    | none =>
      have e1 : (hold y)[i]? = none := by simp [hold, hb]
      have e2 : price y i = none := by simp [price, hb]
      rw [e1, e2]
      cases f <;> rfl
    | some b =>
      have e1 : (hold y)[i]? = some b.2 := hold_get hb
      have e2 : price y i = b.1 := by simp [price, hb]
      rw [e1, e2]
      dsimp only [Option.map]
      cases hp : b.1 with
      | none =>
        simp only [Option.isSome_none, Bool.not_false, Bool.true_and, Bool.false_eq_true, if_false]
        exact ih b.2
      | some v => simp
theorem free_of (y : List Bx) : freeP (patOf y) = freeN y := by
  unfold freeP freeN patOf
  rw [List.filter_map, List.length_map]
  congr 1
  refine List.filter_congr fun b _ => ?_
  show (if b.1.isSome = true then (none : Option (Option Nat)) else some b.2).isNone = b.1.isSome
  cases b.1 <;> rfl
theorem stays_of (y : List Bx) : staysP (patOf y) = staysN y := by
  unfold staysP staysN
  have hl : (patOf y).length = y.length := by simp [patOf]
  rw [hl]
  congr 1
  exact List.filter_congr fun i _ => (st_of (y := y) y.length (some i)).symm
theorem reach_of (y : List Bx) : ((reachP (patOf y) : Nat) : Int) = reachI y := by
  unfold reachP reachI
  rw [free_of, stays_of, show (patOf y).length = y.length by simp [patOf]]
  split
  · rfl
  · push_cast
    rfl
def layY (y : List Bx) : List Hld := layP y.length (patOf y) []
theorem fit_iff {n : Nat} : ∀ {y : List Bx} {h : Hld}, Fit n (patOf y) h ↔ h.length = y.length ∧ ∀ (i : Nat) (b : Bx) (o : Option Nat), y[i]? = some b → h[i]? = some o → (b.1 = none → o = b.2) ∧ (b.1.isSome = true → o ∈ opts n)
  | [], h => by
    constructor
    · intro f
      cases f
      exact ⟨rfl, fun i b o e => by simp at e⟩
    · rintro ⟨hl, _⟩
      cases h with
      | nil => exact .nil
      | cons _ _ => simp at hl
  | b :: y, h => by
    have hp : patOf (b :: y) = (if b.1.isSome = true then none else some b.2) :: patOf y := rfl
    rw [hp]
    constructor
    · intro f
      cases hb : b.1 with
      | none =>
        rw [hb] at f
        cases f with
        | fix f =>
          obtain ⟨hl, hi⟩ := fit_iff.mp f
          refine ⟨by simp [hl], fun i b' o e1 e2 => ?_⟩
          cases i with
          | zero =>
            simp at e1 e2
            subst e1 e2
            exact ⟨fun _ => rfl, fun z => by rw [hb] at z; cases z⟩
          | succ i => exact hi i b' o (by simpa using e1) (by simpa using e2)
      | some v =>
        rw [hb] at f
        cases f with
        | opn ho f =>
          obtain ⟨hl, hi⟩ := fit_iff.mp f
          refine ⟨by simp [hl], fun i b' o e1 e2 => ?_⟩
          cases i with
          | zero =>
            simp at e1 e2
            subst e1 e2
            exact ⟨fun z => (by rw [hb] at z; cases z), fun _ => ho⟩
          | succ i => exact hi i b' o (by simpa using e1) (by simpa using e2)
    · rintro ⟨hl, hi⟩
      cases h with
      | nil => simp at hl
      | cons o t =>
        have h0 := hi 0 b o rfl rfl
        have ft : Fit n (patOf y) t := fit_iff.mpr ⟨by simpa using hl, fun i b' o' e1 e2 => hi (i + 1) b' o' (by simpa using e1) (by simpa using e2)⟩
        cases hb : b.1 with
        | none =>
          rw [h0.1 hb]
          exact .fix ft
        | some v => exact .opn (h0.2 (by rw [hb]; rfl)) ft
theorem q_some {y : List Bx} {g : Hld} {b : Nat} : b ∈ someL y g ↔ b < y.length ∧ (hold y)[b]? ≠ g[b]? := by
  unfold someL
  rw [List.mem_filter]
  simp
theorem q_may {y : List Bx} {g : Hld} : mayB y g = true ↔ ∀ i, i < y.length → (hold y)[i]? ≠ g[i]? → (price y i).isSome = true := by
  unfold mayB
  rw [List.all_eq_true]
  exact ⟨fun h i hi hne => h i (q_some.mpr ⟨hi, hne⟩), fun h i hm => h i (q_some.mp hm).1 (q_some.mp hm).2⟩
theorem mem_lay {y : List Bx} (ok : Yok y) {h : Hld} : h ∈ layY y ↔ okN y h := by
  unfold layY
  rw [mem_layP]
  constructor
  · rintro ⟨t, rfl, f, e⟩
    obtain ⟨hl, hi⟩ := fit_iff.mp f
    have bd : Bnd h := fun i j hij => by
      obtain ⟨b, hb, _⟩ := get_y (y := y) (k := i) (by rw [← hl]; exact (List.getElem?_eq_some_iff.mp hij).1)
      obtain ⟨h1, h2⟩ := hi i b _ hb hij
      rw [hl]
      cases hp : b.1 with
      | none =>
        have := h1 hp
        have e := hold_get hb
        rw [← this] at e
        have := ok.ac.lt e
        rw [hold_len] at this
        exact this
      | some v => exact opts_mem.mp (h2 (by rw [hp]; rfl)) j rfl
    refine ⟨hl, (acyF_iff bd).mp e, q_may.mpr fun i hi' hne => ?_⟩
    obtain ⟨b, hb, hpr⟩ := get_y hi'
    obtain ⟨o, ho⟩ := get_lt hl hi'
    obtain ⟨h1, _⟩ := hi i b o hb ho
    rw [hpr]
    cases hp : b.1 with
    | none => exact absurd (by rw [ho, hold_get hb, h1 hp]) hne
    | some v => rfl
  · rintro ⟨hl, ac, hm⟩
    refine ⟨h, by simp, fit_iff.mpr ⟨hl, fun i b o hb ho => ?_⟩, (acyF_iff ac.bnd).mpr ac⟩
    refine ⟨fun hp => ?_, fun _ => opts_mem.mpr fun j e => ?_⟩
    · refine Classical.byContradiction fun hne => ?_
      have hi : i < y.length := (List.getElem?_eq_some_iff.mp hb).1
      have := q_may.mp hm i hi (by rw [hold_get hb, ho]; exact fun e => hne (Option.some.inj e).symm)
      rw [show price y i = b.1 by simp [price, hb], hp] at this
      cases this
    · rw [e] at ho
      have := ac.lt ho
      omega
theorem lay_reach {y : List Bx} (ok : Yok y) (h4 : y.length ≤ 4) : ((layY y).length : Int) = reachI y := by
  have hm : patOf y ∈ pats y.length y.length := by
    refine mem_pats (by simp [patOf]) fun o ho h e => ?_
    unfold patOf at ho
    obtain ⟨b, hb, e2⟩ := List.mem_map.mp ho
    subst e
    obtain ⟨i, hi⟩ := List.mem_iff_getElem?.mp hb
    split at e2
    · cases e2
    · cases e2
      refine opts_mem.mpr fun j ej => ?_
      have := hold_get hi
      rw [ej] at this
      have := ok.ac.lt this
      rw [hold_len] at this
      exact this
  have hc : chkN y.length = true := by
    have := ok.pos
    have : y.length = 1 ∨ y.length = 2 ∨ y.length = 3 ∨ y.length = 4 := by omega
    rcases this with e | e | e | e <;> rw [e]
    · exact chk1
    · exact chk2
    · exact chk3
    · exact chk4
  have h1 := List.all_eq_true.mp hc _ hm
  rw [← reach_of y]
  unfold layY
  rw [cnt_lay]
  have hpos : cntP y.length (patOf y) [] ≠ 0 := by
    rw [← cnt_lay]
    intro z
    have : hold y ∈ layP y.length (patOf y) [] := (mem_lay ok).mpr ⟨hold_len y, ok.ac, q_may.mpr fun i hi hne => absurd rfl hne⟩
    rw [List.length_eq_zero_iff.mp z] at this
    cases this
  dsimp only at h1
  rw [Bool.or_eq_true] at h1
  rcases h1 with z | z
  · exact absurd (by simpa using z) hpos
  · rw [show cntP y.length (patOf y) [] = reachP (patOf y) by simpa using z]
end Nb
set_option Elab.async false
set_option linter.all false
set_option maxRecDepth 100000
set_option maxHeartbeats 4000000
set_option autoImplicit false
set_option pp.maxSteps 2000
namespace Nb
open PySem PySem.Spec PyProof.Rows L2
/-! ### a way leads there -/
theorem Ch.mem_suf {h : Hld} {o : Option Nat} {l : List Nat} (c : Ch h o l) {a : Nat} (ha : a ∈ l) : ∃ o2 l2, h[a]? = some o2 ∧ Ch h o2 l2 ∧ l2.length < l.length := by
  obtain ⟨l', c', hl⟩ := c.suf ha
  cases c' with
  | @cons i o2 l2 e c2 => exact ⟨o2, l2, e, c2, by simp at hl; omega⟩
theorem dep_ch {g : Hld} {b : Nat} {o : Option Nat} {l : List Nat} (hg : g[b]? = some o) (c : Ch g o l) : dep g b = l.length := by
  unfold dep
  rw [hg]
  show (upOf g g.length o).length = _
  rw [c.up _ c.len]
theorem Ch.to {h h' : Hld} {o : Option Nat} {l : List Nat} (c : Ch h o l) (hn : ∀ j ∈ l, h'[j]? = h[j]?) : Ch h' o l := by
  induction c with
  | nil => exact .nil
  | @cons i o l e c ih => exact .cons (by rw [hn i (by simp)]; exact e) (ih fun j hj => hn j (by simp [hj]))
/-- the least deep box whose holder is another one can be moved straight -/
theorem move_ok {n : Nat} {h g : Hld} (hh : h.length = n) (hgl : g.length = n) (acg : Acy g) {b : Nat} (hb : b < n) (hmin : ∀ a, a < n → h[a]? ≠ g[a]? → dep g b ≤ dep g a) : b ∉ upOf h h.length ((g[b]?).join) ∧ ∃ l, Ch h ((g[b]?).join) l ∧ b ∉ l := by
  obtain ⟨o, ho⟩ := get_lt hgl hb
  obtain ⟨l, c⟩ := acg.at ho
  have hj : (g[b]?).join = o := by rw [ho]; rfl
  have hbl : b ∉ l := (List.nodup_cons.mp (Ch.cons ho c).nodup).1
  have c' : Ch h o l := c.to fun a ha => by
    refine Classical.byContradiction fun hne => ?_
    have hal := c.lt a ha
    obtain ⟨o2, l2, e2, c2, hlt⟩ := c.mem_suf ha
    have h1 := hmin a (by omega) hne
    rw [dep_ch ho c, dep_ch e2 c2] at h1
    omega
  rw [hj]
  exact ⟨by rw [c'.up _ c'.len]; exact hbl, l, c', hbl⟩
theorem way_legal {y : List Bx} {g : Hld} (acg : Acy g) (hgl : g.length = y.length) : ∀ (l : List Nat) (h : Hld), h.length = y.length → Acy h → l.Nodup → (∀ b, b ∈ l ↔ b < y.length ∧ h[b]? ≠ g[b]?) → l.Pairwise (fun a b => dep g a ≤ dep g b) → (∀ b ∈ l, (price y b).isSome = true) → Legal y h (msOf g l) ∧ runM h (msOf g l) = g
  | [], h, hh, _, _, hm, _, _ => by
    refine ⟨trivial, ?_⟩
    apply List.ext_getElem?
    intro i
    by_cases hi : i < y.length
    · refine Classical.byContradiction fun hne => ?_
      have := (hm i).mpr ⟨hi, hne⟩
      cases this
    · rw [List.getElem?_eq_none (by show h.length ≤ i; omega), List.getElem?_eq_none (by omega)]
  | b :: l, h, hh, ach, nd, hm, srt, hpr => by
    obtain ⟨hbl, nd'⟩ := List.nodup_cons.mp nd
    obtain ⟨hb, hne⟩ := (hm b).mp (by simp)
    obtain ⟨h1, h2⟩ := List.pairwise_cons.mp srt
    have hmin : ∀ a, a < y.length → h[a]? ≠ g[a]? → dep g b ≤ dep g a := fun a ha hna => by
      rcases List.mem_cons.mp ((hm a).mpr ⟨ha, hna⟩) with z | z
      · rw [z]; exact Nat.le_refl _
      · exact h1 a z
    obtain ⟨u1, lc, c, hbc⟩ := move_ok hh hgl acg hb hmin
    obtain ⟨o, ho⟩ := get_lt hgl hb
    have hj : (g[b]?).join = o := by rw [ho]; rfl
    rw [hj] at u1 c
    have ach' : Acy (h.set b o) := ach.set c hbc
    have hset : ∀ x, (h.set b o)[x]? ≠ g[x]? ↔ x ≠ b ∧ h[x]? ≠ g[x]? := fun x => by
      by_cases z : x = b
      · subst z
        rw [List.getElem?_set_self (by omega), ho]
        simp
      · have z2 : b ≠ x := fun e => z e.symm
        rw [List.getElem?_set_ne z2]
        simp [z]
    obtain ⟨k1, k2⟩ := way_legal acg hgl l (h.set b o) (by simpa using hh) ach' nd' (fun x => by
      rw [hset]
      constructor
      · intro hx
        obtain ⟨a1, a2⟩ := (hm x).mp (by simp [hx])
        exact ⟨a1, fun z => hbl (z ▸ hx), a2⟩
      · rintro ⟨a1, a2, a3⟩
        rcases List.mem_cons.mp ((hm x).mpr ⟨a1, a3⟩) with z | z
        · exact absurd z a2
        · exact z) h2 (fun x hx => hpr x (by simp [hx]))
    have e1 : msOf g (b :: l) = (b, o) :: msOf g l := by show (b, (g[b]?).join) :: _ = _; rw [hj]; rfl
    rw [e1]
    refine ⟨⟨⟨hb, hpr b (by simp), by rw [← ho]; exact hne, fun k e => ?_, u1⟩, k1⟩, k2⟩
    subst e
    have := acg.lt ho
    omega

/-! ### what a move changes -/
def wt (pl : Bool) (y : List Bx) (b : Nat) : Int := if pl = true then 1 else (price y b).getD 0
def Wt (pl : Bool) (y : List Bx) (h : Hld) : Int := ((someL y h).map (wt pl y)).sum
theorem Wt_cost (y : List Bx) (h : Hld) : Wt false y h = costI y h := rfl
theorem ones (l : List Nat) (f : Nat → Int) (hf : ∀ x, f x = 1) : (l.map f).sum = (l.length : Int) := by
  induction l with
  | nil => rfl
  | cons a l ih =>
    rw [List.map_cons, List.sum_cons, ih, hf, List.length_cons]
    omega
theorem Wt_many (y : List Bx) (h : Hld) : Wt true y h = ((someL y h).length : Int) := ones _ _ fun x => rfl
theorem wt_pos {y : List Bx} (ok : Yok y) (pl : Bool) {b : Nat} (hp : (price y b).isSome = true) : 0 < wt pl y b := by
  unfold wt
  split
  · decide
  · obtain ⟨v, hv⟩ := Option.isSome_iff_exists.mp hp
    rw [hv]
    unfold price at hv
    cases hb : y[b]? with
    | none => rw [hb] at hv; cases hv
    | some x =>
      rw [hb] at hv
      have := (ok.pr x (List.mem_of_getElem? hb) v hv).1
      show 0 < v
      omega
theorem filt_le {w : Nat → Int} {p q : Nat → Bool} {b : Nat} (hw : 0 ≤ w b) : ∀ {l : List Nat}, l.Nodup → (∀ x ∈ l, x ≠ b → p x = q x) → ((l.filter q).map w).sum ≤ ((l.filter p).map w).sum + w b
  | [], _, _ => by simpa using hw
  | a :: l, nd, he => by
    obtain ⟨ha, nd'⟩ := List.nodup_cons.mp nd
    rw [List.filter_cons, List.filter_cons]
    by_cases z : a = b
    · subst z
      have e : l.filter q = l.filter p := List.filter_congr fun x hx => (he x (by simp [hx]) fun e => ha (e ▸ hx)).symm
      rw [e]
      split <;> split <;> simp <;> omega
    · have ih := filt_le hw nd' fun x hx => he x (by simp [hx])
      rw [he a (by simp) z]
      split
      · simp only [List.map_cons, List.sum_cons]
        omega
      · exact ih
theorem leg_ok {y : List Bx} (ok : Yok y) {h : Hld} (k : okN y h) {b : Nat} {o : Option Nat} (lg : Leg1 y h b o) : okN y (h.set b o) := by
  obtain ⟨hl, ac, hm⟩ := k
  refine ⟨by rw [List.length_set]; exact hl, acy_move hl ac lg.ho lg.un, q_may.mpr fun i hi hne => ?_⟩
  by_cases z : i = b
  · rw [z]; exact lg.pr
  · rw [List.getElem?_set_ne (fun e => z e.symm)] at hne
    exact q_may.mp hm i hi hne
theorem leg_le {y : List Bx} (ok : Yok y) (pl : Bool) {h : Hld} {b : Nat} {o : Option Nat} (lg : Leg1 y h b o) : Wt pl y (h.set b o) ≤ Wt pl y h + wt pl y b := by
  unfold Wt someL
  refine filt_le (Int.le_of_lt (wt_pos ok pl lg.pr)) List.nodup_range fun x _ hx => ?_
  rw [List.getElem?_set_ne (fun e => hx e.symm)]
theorem legal_snoc {y : List Bx} : ∀ {a : List (Nat × Option Nat)} {h : Hld} {m : Nat × Option Nat}, Legal y h (a ++ [m]) → Legal y h a ∧ Leg1 y (runM h a) m.1 m.2
  | [], _, _, k => ⟨trivial, k.1⟩
  | x :: a, h, m, k => ⟨⟨k.1, (legal_snoc k.2).1⟩, (legal_snoc k.2).2⟩
theorem run_snoc : ∀ (a : List (Nat × Option Nat)) (h : Hld) (m : Nat × Option Nat), runM h (a ++ [m]) = (runM h a).set m.1 m.2
  | [], _, _ => rfl
  | x :: a, h, m => run_snoc a (h.set x.1 x.2) m
theorem q_legal_run {y : List Bx} : ∀ {ms : List (Nat × Option Nat)} {h : Hld}, h.length = y.length → Acy h → Legal y h ms → (runM h ms).length = y.length ∧ Acy (runM h ms)
  | [], h, hl, ac, _ => ⟨hl, ac⟩
  | m :: ms, h, hl, ac, k => q_legal_run (h := h.set m.1 m.2) (ms := ms) (by rw [List.length_set]; exact hl) (acy_move hl ac k.1.ho k.1.un) k.2
theorem run_get {g : Hld} {n : Nat} (hg : g.length = n) : ∀ (l : List Nat) (h : Hld), h.length = n → ∀ i, i < n → (runM h (msOf g l))[i]? = if i ∈ l then g[i]? else h[i]?
  | [], h, _, i, _ => by simp [msOf, runM]
  | b :: l, h, hl, i, hi => by
    show (runM (h.set b ((g[b]?).join)) (msOf g l))[i]? = _
    rw [run_get hg l _ (by rw [List.length_set]; exact hl) i hi]
    by_cases z : i ∈ l
    · rw [if_pos z, if_pos (by simp [z])]
    · rw [if_neg z]
      by_cases z2 : i = b
      · subst z2
        rw [if_pos (by simp), List.getElem?_set_self (by omega)]
        obtain ⟨o, ho⟩ := get_lt hg hi
        rw [ho]; rfl
      · rw [if_neg (by simp [z, z2]), List.getElem?_set_ne (fun e => z2 e.symm)]
theorem q_perm_sum {l m : List Int} (p : l.Perm m) : l.sum = m.sum := by
  induction p with
  | nil => rfl
  | cons x _ ih => rw [List.sum_cons, List.sum_cons, ih]
  | swap x y l => simp only [List.sum_cons]; omega
  | trans _ _ h1 h2 => exact h1.trans h2
theorem leg_pred {y : List Bx} (ok : Yok y) (pl : Bool) {h : Hld} (k : okN y h) (hne : h ≠ hold y) :
    ∃ h0 b o, okN y h0 ∧ Leg1 y h0 b o ∧ h = h0.set b o ∧ Wt pl y h0 + wt pl y b = Wt pl y h ∧ (someL y h0).length < (someL y h).length := by
  obtain ⟨hl, ac, hm⟩ := k
  let le : Nat → Nat → Bool := fun a b => decide (dep h a ≤ dep h b)
  have hp := List.mergeSort_perm (someL y h) le
  have nd0 : (someL y h).Nodup := List.nodup_range.filter _
  have nd : ((someL y h).mergeSort le).Nodup := hp.symm.nodup nd0
  have srt : ((someL y h).mergeSort le).Pairwise fun a b => dep h a ≤ dep h b := (List.pairwise_mergeSort (le := le) (fun a b c h1 h2 => by simp [le] at *; omega) (fun a b => by simp [le]; omega) (someL y h)).imp fun e => by simpa [le] using e
  generalize (someL y h).mergeSort le = l at hp nd srt
  have wl := way_legal ac hl l (hold y) (hold_len y) ok.ac nd (fun b => by rw [hp.mem_iff, q_some]) srt fun b hb => List.all_eq_true.mp hm b (hp.mem_iff.mp hb)
  rcases List.eq_nil_or_concat l with e | ⟨l', b, e⟩
  · subst e
    exact absurd wl.2.symm hne
  · rw [List.concat_eq_append] at e
    subst e
    have e1 : msOf h (l' ++ [b]) = msOf h l' ++ [(b, (h[b]?).join)] := by simp [msOf]
    rw [e1] at wl
    obtain ⟨w1, w2⟩ := wl
    obtain ⟨w3, w4⟩ := legal_snoc w1
    rw [run_snoc] at w2
    obtain ⟨r1, r2⟩ := q_legal_run (hold_len y) ok.ac w3
    have rg := run_get hl l' (hold y) (hold_len y)
    have hbl : b ∉ l' := by
      have := (List.nodup_append.mp nd).2.2
      exact fun z => this b z b (by simp) rfl
    have nd' : l'.Nodup := (List.nodup_append.mp nd).1
    have mem : ∀ i, i ∈ someL y (runM (hold y) (msOf h l')) ↔ i ∈ l' := fun i => by
      rw [q_some]
      constructor
      · rintro ⟨hi, hd⟩
        refine Classical.byContradiction fun z => hd ?_
        rw [rg i hi, if_neg z]
      · intro hi
        have h1 : i ∈ someL y h := hp.mem_iff.mp (by simp [hi])
        obtain ⟨h2, h3⟩ := q_some.mp h1
        exact ⟨h2, by rw [rg i h2, if_pos hi]; exact h3⟩
    have pm : (someL y (runM (hold y) (msOf h l'))).Perm l' := (List.perm_ext_iff_of_nodup (List.nodup_range.filter _) nd').mpr mem
    refine ⟨runM (hold y) (msOf h l'), b, (h[b]?).join, ⟨r1, r2, List.all_eq_true.mpr fun i hi => List.all_eq_true.mp hm i (hp.mem_iff.mp (by simp [(mem i).mp hi]))⟩, w4, w2.symm, ?_, ?_⟩
    · unfold Wt
      rw [q_perm_sum (pm.map _), ← q_perm_sum (hp.map _), List.map_append, List.sum_append]
      simp
    · rw [pm.length_eq, ← hp.length_eq]
      simp
/-! ### dicts -/
theorem lk_put (kvs : List (HK × Int)) (h : HK) (i : Int) (h' : HK) : lkD (putD kvs h i) h' = if h' = h then some i else lkD kvs h' := by
  unfold putD
  by_cases e : (lkD kvs h).isSome = true
  · rw [if_pos e]
    have key : ∀ l : List (HK × Int), lkD (l.map fun p => if p.1 = h then (p.1, i) else p) h' = if h' = h then (if (lkD l h).isSome = true then some i else none) else lkD l h' := by
      intro l
      induction l with
      | nil => unfold lkD; simp
      | cons p l ih =>
        unfold lkD at ih ⊢
        rw [List.map_cons, List.find?_cons, List.find?_cons, List.find?_cons]
        by_cases z : p.1 = h
        · simp only [z, if_true, decide_true, Option.map_some, Option.isSome_some]
          by_cases z2 : h = h'
          · simp [z2]
          · have z3 : ¬ h' = h := fun e => z2 e.symm
            simp only [z2, z3, decide_false, if_false] at ih ⊢
            rw [ih]
        · simp only [z, if_false, decide_false]
          by_cases z2 : p.1 = h'
          · have z3 : ¬ h' = h := fun e => z (z2.trans e)
            simp [z2, z3]
          · simp only [z2, decide_false]
            exact ih
    rw [key kvs, if_pos e]
  · rw [if_neg e]
    have en : lkD kvs h = none := by simpa using e
    unfold lkD at en ⊢
    rw [List.find?_append]
    by_cases z : h' = h
    · subst z
      rw [if_pos rfl]
      have : kvs.find? (fun p => decide (p.1 = h')) = none := by simpa using en
      rw [this]
      simp
    · rw [if_neg z]
      have z3 : ¬ h = h' := fun e => z e.symm
      cases hf : kvs.find? (fun p => decide (p.1 = h')) <;> simp [z3]
theorem lk_drop (kvs : List (HK × Int)) (h h' : HK) : lkD (dropD kvs h) h' = if h' = h then none else lkD kvs h' := by
  unfold lkD dropD
  rw [List.find?_filter]
  by_cases z : h' = h
  · subst z
    rw [if_pos rfl]
    have : kvs.find? (fun p => decide (decide (p.1 ≠ h') = true ∧ decide (p.1 = h') = true)) = none := List.find?_eq_none.mpr fun x _ => by simp
    rw [this]; rfl
  · rw [if_neg z]
    congr 2
    funext p
    by_cases z2 : p.1 = h'
    · simp [z2, z]
    · simp [z2]
theorem lk_mem {kvs : List (HK × Int)} {h : HK} {c : Int} (e : lkD kvs h = some c) : (h, c) ∈ kvs := by
  unfold lkD at e
  obtain ⟨p, hp, e2⟩ := Option.map_eq_some_iff.mp e
  have h1 := List.find?_some hp
  have h2 := List.mem_of_find?_eq_some hp
  obtain ⟨a, b⟩ := p
  have h1 : a = h := by simpa using h1
  have e2 : b = c := e2
  rw [← h1, ← e2]
  exact h2
theorem lk_key {kvs : List (HK × Int)} {h : HK} : (lkD kvs h).isSome = true ↔ h ∈ kvs.map (·.1) := by
  constructor
  · intro e
    obtain ⟨c, hc⟩ := Option.isSome_iff_exists.mp e
    exact List.mem_map.mpr ⟨_, lk_mem hc, rfl⟩
  · intro hm
    obtain ⟨p, hp, e⟩ := List.mem_map.mp hm
    unfold lkD
    rw [Option.isSome_map]
    rw [List.find?_isSome]
    exact ⟨p, hp, by simpa using e⟩
theorem nd_put {kvs : List (HK × Int)} (nd : (kvs.map (·.1)).Nodup) (h : HK) (i : Int) : ((putD kvs h i).map (·.1)).Nodup := by
  unfold putD
  by_cases e : (lkD kvs h).isSome = true
  · rw [if_pos e]
    have : (kvs.map fun p => if p.1 = h then (p.1, i) else p).map (·.1) = kvs.map (·.1) := by
      rw [List.map_map]
      exact List.map_congr_left fun p _ => by
        show (if p.1 = h then (p.1, i) else p).1 = p.1
        split <;> rfl
    rw [this]
    exact nd
  · rw [if_neg e, List.map_append, List.nodup_append]
    refine ⟨nd, List.pairwise_singleton _ _, fun a ha b hb z => ?_⟩
    have : b = h := by simpa using hb
    subst z this
    exact e (lk_key.mpr ha)
theorem nd_drop {kvs : List (HK × Int)} (nd : (kvs.map (·.1)).Nodup) (h : HK) : ((dropD kvs h).map (·.1)).Nodup := by
  unfold dropD
  exact List.Pairwise.sublist (List.filter_sublist.map _) nd
theorem put_new {kvs : List (HK × Int)} {h : HK} {i : Int} (e : lkD kvs h = none) : (putD kvs h i).length = kvs.length + 1 := by
  unfold putD
  rw [if_neg (by rw [e]; simp)]
  simp
theorem nd_sub : ∀ {l m : List HK}, l.Nodup → (∀ x ∈ l, x ∈ m) → l.length ≤ m.length
  | [], _, _, _ => Nat.zero_le _
  | a :: l, m, nd, hs => by
    obtain ⟨ha, nd'⟩ := List.nodup_cons.mp nd
    have h1 := nd_sub (l := l) (m := m.erase a) nd' fun x hx => (List.mem_erase_of_ne (fun e : x = a => ha (by rw [← e]; exact hx))).mpr (hs x (by simp [hx]))
    have h2 : a ∈ m := hs a (by simp)
    have h3 := List.length_erase_of_mem h2
    have h4 : 0 < m.length := List.length_pos_of_mem h2
    simp
    omega
end Nb
set_option Elab.async false
set_option linter.all false
set_option maxRecDepth 100000
set_option maxHeartbeats 4000000
set_option autoImplicit false
set_option pp.maxSteps 2000
namespace Nb
open PySem PySem.Spec PyProof.Rows L2
/-! ### the search by levels -/
structure SI (y : List Bx) (pl : Bool) (fd lv : List (HK × Int)) (P : HK → HK → Prop) : Prop where
  nf : (fd.map (·.1)).Nodup
  nl : (lv.map (·.1)).Nodup
  dj : ∀ h, (lkD fd h).isSome = true → lkD lv h = none
  fo : ∀ h c, lkD fd h = some c → okN y h ∧ c = Wt pl y h
  lo : ∀ h c, lkD lv h = some c → okN y h ∧ Wt pl y h ≤ c
  st : (lkD fd (hold y)).isSome = true ∨ ∃ c, lkD lv (hold y) = some c ∧ c ≤ 0
  fr : ∀ h, (lkD fd h).isSome = true → ∀ b o, Leg1 y h b o → ¬ P h (h.set b o) → (lkD fd (h.set b o)).isSome = true ∨ ∃ c, lkD lv (h.set b o) = some c ∧ c ≤ Wt pl y h + wt pl y b
abbrev noP : HK → HK → Prop := fun _ _ => False
section
variable {y : List Bx} {pl : Bool} {fd lv : List (HK × Int)}
theorem Wt_nn (ok : Yok y) {h : Hld} (k : okN y h) : 0 ≤ Wt pl y h := by
  unfold Wt
  have : ∀ l : List Nat, (∀ b ∈ l, (price y b).isSome = true) → 0 ≤ (l.map (wt pl y)).sum := by
    intro l hl
    induction l with
    | nil => simp
    | cons a l ih =>
      rw [List.map_cons, List.sum_cons]
      have h1 := wt_pos ok pl (hl a (by simp))
      have h2 := ih fun b hb => hl b (by simp [hb])
      omega
  exact this _ fun b hb => List.all_eq_true.mp k.2.2 b hb
theorem Wt_start (y : List Bx) (pl : Bool) : Wt pl y (hold y) = 0 := by
  unfold Wt
  have : someL y (hold y) = [] := by
    unfold someL
    exact List.filter_eq_nil_iff.mpr fun i _ => by simp
  rw [this]; rfl
theorem start_okN (ok : Yok y) : okN y (hold y) := ⟨hold_len y, ok.ac, q_may.mpr fun i _ hne => absurd rfl hne⟩
/-- what is not found yet is no nearer than some of the level -/
theorem SI.near (S : SI y pl fd lv noP) (ok : Yok y) : ∀ (n : Nat) (h : Hld), (someL y h).length ≤ n → okN y h → lkD fd h = none → ∃ h' c, lkD lv h' = some c ∧ c ≤ Wt pl y h
  | n, h, hn, k, hf => by
    by_cases e : h = hold y
    · subst e
      rcases S.st with z | ⟨c, h1, h2⟩
      · rw [hf] at z; cases z
      · exact ⟨_, c, h1, by rw [Wt_start]; exact h2⟩
    · obtain ⟨h0, b, o, k0, lg, e2, e3, e4⟩ := leg_pred ok pl k e
      have hw := wt_pos ok pl lg.pr
      cases n with
      | zero => omega
      | succ n =>
        cases hf0 : lkD fd h0 with
        | none =>
          obtain ⟨h', c, h1, h2⟩ := S.near ok n h0 (by omega) k0 hf0
          exact ⟨h', c, h1, by omega⟩
        | some c0 =>
          rcases S.fr h0 (by rw [hf0]; rfl) b o lg (fun z => z) with z | ⟨c, h1, h2⟩
          · rw [← e2, hf] at z; cases z
          · exact ⟨_, c, h1, by omega⟩
theorem SI.all (S : SI y pl fd [] noP) (ok : Yok y) {h : Hld} (k : okN y h) : lkD fd h = some (Wt pl y h) := by
  cases e : lkD fd h with
  | none =>
    obtain ⟨h', c, h1, _⟩ := S.near ok _ h (Nat.le_refl _) k e
    cases h1
  | some c => rw [(S.fo h c e).2]
theorem SI.pop (S : SI y pl fd lv noP) (ok : Yok y) {m : Int} (hm : ∀ h c, lkD lv h = some c → m ≤ c) {sm : List HK} (hs : ∀ h, h ∈ sm ↔ lkD lv h = some m) {fd1 lv1 : List (HK × Int)} (n1 : (fd1.map (·.1)).Nodup) (n2 : (lv1.map (·.1)).Nodup)
    (e1 : ∀ h, lkD fd1 h = if h ∈ sm then some m else lkD fd h) (e2 : ∀ h, lkD lv1 h = if h ∈ sm then none else lkD lv h) : SI y pl fd1 lv1 (fun h _ => h ∈ sm) where
  nf := n1
  nl := n2
  dj := fun h hf => by
    rw [e2]
    by_cases z : h ∈ sm
    · rw [if_pos z]
    · rw [if_neg z]
      rw [e1, if_neg z] at hf
      exact S.dj h hf
  fo := fun h c hc => by
    rw [e1] at hc
    by_cases z : h ∈ sm
    · rw [if_pos z] at hc
      cases hc
      have hl := (hs h).mp z
      obtain ⟨k, hw⟩ := S.lo h m hl
      refine ⟨k, ?_⟩
      have hf : lkD fd h = none := by
        cases e : lkD fd h with
        | none => rfl
        | some c =>
          have := S.dj h (by rw [e]; rfl)
          rw [hl] at this
          cases this
      obtain ⟨h', c', h1, h2⟩ := S.near ok _ h (Nat.le_refl _) k hf
      have := hm h' c' h1
      omega
    · rw [if_neg z] at hc
      exact S.fo h c hc
  lo := fun h c hc => by
    rw [e2] at hc
    by_cases z : h ∈ sm
    · rw [if_pos z] at hc; cases hc
    · rw [if_neg z] at hc
      exact S.lo h c hc
  st := by
    by_cases z : hold y ∈ sm
    · exact .inl (by rw [e1, if_pos z]; rfl)
    · rcases S.st with w | ⟨c, h1, h2⟩
      · exact .inl (by rw [e1, if_neg z]; exact w)
      · exact .inr ⟨c, by rw [e2, if_neg z]; exact h1, h2⟩
  fr := fun h hf b o lg hP => by
    rw [e1, if_neg hP] at hf
    by_cases z : h.set b o ∈ sm
    · exact .inl (by rw [e1, if_pos z]; rfl)
    · rcases S.fr h hf b o lg (fun z => z) with w | ⟨c, h1, h2⟩
      · exact .inl (by rw [e1, if_neg z]; exact w)
      · exact .inr ⟨c, by rw [e2, if_neg z]; exact h1, h2⟩
/-- a move to what is found -/
theorem SI.skip {P P' : HK → HK → Prop} (S : SI y pl fd lv P) {here : HK} {b : Nat} {o : Option Nat} (ht : (lkD fd (here.set b o)).isSome = true) (hP : ∀ h h', ¬ P' h h' → ¬ P h h' ∨ (h = here ∧ h' = here.set b o)) : SI y pl fd lv P' where
  nf := S.nf
  nl := S.nl
  dj := S.dj
  fo := S.fo
  lo := S.lo
  st := S.st
  fr := fun h hf b' o' lg' hn => by
    rcases hP _ _ hn with z | ⟨_, e⟩
    · exact S.fr h hf b' o' lg' z
    · exact .inl (by rw [e]; exact ht)
theorem SI.wk {P P' : HK → HK → Prop} (S : SI y pl fd lv P) (hP : ∀ h h', ¬ P' h h' → ¬ P h h') : SI y pl fd lv P' := ⟨S.nf, S.nl, S.dj, S.fo, S.lo, S.st, fun h hf b o lg hn => S.fr h hf b o lg (hP _ _ hn)⟩
/-- a move to what is not found -/
theorem SI.put (ok : Yok y) {P P' : HK → HK → Prop} (S : SI y pl fd lv P) {here : HK} {b : Nat} {o : Option Nat} (hh : (lkD fd here).isSome = true) (lg : Leg1 y here b o) (ht : lkD fd (here.set b o) = none) {v : Int} (hv1 : v ≤ Wt pl y here + wt pl y b) (hv2 : ∀ c, lkD lv (here.set b o) = some c → v ≤ c) (hv3 : v = Wt pl y here + wt pl y b ∨ lkD lv (here.set b o) = some v) (hP : ∀ h h', ¬ P' h h' → ¬ P h h' ∨ (h = here ∧ h' = here.set b o)) : SI y pl fd (putD lv (here.set b o) v) P' where
  nf := S.nf
  nl := nd_put S.nl _ _
  dj := fun h hf => by
    rw [lk_put]
    have : ¬ h = here.set b o := fun e => by rw [e, ht] at hf; cases hf
    rw [if_neg this]
    exact S.dj h hf
  fo := S.fo
  lo := fun h c hc => by
    rw [lk_put] at hc
    by_cases e : h = here.set b o
    · rw [if_pos e] at hc
      cases hc
      subst e
      obtain ⟨c, hc⟩ := Option.isSome_iff_exists.mp hh
      have k := (S.fo here c hc).1
      refine ⟨leg_ok ok k lg, ?_⟩
      rcases hv3 with z | z
      · rw [z]; exact leg_le ok pl lg
      · exact (S.lo _ _ z).2
    · rw [if_neg e] at hc
      exact S.lo h c hc
  st := by
    rcases S.st with w | ⟨c, h1, h2⟩
    · exact .inl w
    · refine .inr ?_
      rw [lk_put]
      by_cases e : hold y = here.set b o
      · rw [if_pos e]
        rw [e] at h1
        have := hv2 c h1
        exact ⟨v, rfl, by omega⟩
      · rw [if_neg e]
        exact ⟨c, h1, h2⟩
  fr := fun h hf b' o' lg' hn => by
    rcases hP _ _ hn with z | ⟨e1, e2⟩
    · rcases S.fr h hf b' o' lg' z with w | ⟨c, h1, h2⟩
      · exact .inl w
      · refine .inr ?_
        rw [lk_put]
        by_cases e : h.set b' o' = here.set b o
        · rw [if_pos e]
          rw [e] at h1
          have := hv2 c h1
          exact ⟨v, rfl, by omega⟩
        · rw [if_neg e]
          exact ⟨c, h1, h2⟩
    · refine .inr ?_
      rw [lk_put, e2, if_pos rfl]
      refine ⟨v, rfl, ?_⟩
      have hb : b' = b ∨ h.set b o = h := by
        by_cases z : b' = b
        · exact .inl z
        · refine .inr ?_
          subst e1
          have e3 := congrArg (fun l : HK => l[b']?) e2
          try dsimp only at e3
          have hl : b' < h.length := by
            obtain ⟨c, hc⟩ := Option.isSome_iff_exists.mp hf
            rw [(S.fo h c hc).1.1]
            exact lg'.lt
          rw [List.getElem?_set_self hl, List.getElem?_set_ne (fun e => z e.symm)] at e3
          exact absurd e3.symm lg'.ne
      rcases hb with z | z
      · rw [z, e1]; exact hv1
      · subst e1
        have hl : b < h.length := by
          obtain ⟨c, hc⟩ := Option.isSome_iff_exists.mp hf
          rw [(S.fo h c hc).1.1]
          exact lg.lt
        have e3 := congrArg (fun l : HK => l[b]?) z
        try dsimp only at e3
        rw [List.getElem?_set_self hl] at e3
        exact absurd e3.symm lg.ne
theorem SI.bound (S : SI y pl fd lv noP) (ok : Yok y) : fd.length ≤ (layY y).length := by
  have := nd_sub (m := layY y) S.nf fun h hm => (mem_lay ok).mpr (by
    obtain ⟨c, hc⟩ := Option.isSome_iff_exists.mp (lk_key.mpr hm)
    exact (S.fo h c hc).1)
  rwa [List.length_map] at this
theorem SI.boundL {P : HK → HK → Prop} (S : SI y pl fd lv P) (ok : Yok y) : lv.length ≤ (layY y).length ∧ fd.length ≤ (layY y).length := by
  have h1 := nd_sub (m := layY y) S.nl fun h hm => (mem_lay ok).mpr (by
    obtain ⟨c, hc⟩ := Option.isSome_iff_exists.mp (lk_key.mpr hm)
    exact (S.lo h c hc).1)
  have h2 := nd_sub (m := layY y) S.nf fun h hm => (mem_lay ok).mpr (by
    obtain ⟨c, hc⟩ := Option.isSome_iff_exists.mp (lk_key.mpr hm)
    exact (S.fo h c hc).1)
  rw [List.length_map] at h1 h2
  exact ⟨h1, h2⟩
theorem SI.zero (ok : Yok y) : SI y pl [] [(hold y, 0)] noP where
  nf := List.Pairwise.nil
  nl := List.pairwise_singleton _ _
  dj := fun h hf => by cases hf
  fo := fun h c hc => by cases hc
  lo := fun h c hc => by
    have := lk_mem hc
    cases List.mem_singleton.mp this
    exact ⟨start_okN ok, by rw [Wt_start]; exact Int.le_refl _⟩
  st := .inr ⟨0, by unfold lkD; simp, Int.le_refl _⟩
  fr := fun h hf => by cases hf
theorem SI.count (S : SI y pl fd [] noP) (ok : Yok y) (h4 : y.length ≤ 4) : (fd.length : Int) = reachI y := by
  rw [← lay_reach ok h4]
  have p : (fd.map (·.1)).Perm (layY y) := (List.perm_ext_iff_of_nodup S.nf (layP_nodup _ _)).mpr fun h => by
    refine Iff.trans ?_ (mem_lay ok).symm
    rw [← lk_key]
    constructor
    · intro hm
      obtain ⟨c, hc⟩ := Option.isSome_iff_exists.mp hm
      exact (S.fo h c hc).1
    · intro k
      rw [S.all ok k]; rfl
  have := p.length_eq
  rw [List.length_map] at this
  rw [this]
end
theorem lay_small {y : List Bx} (ok : Yok y) (h4 : y.length ≤ 4) : (layY y).length < 1000 := by
  have hb : ∀ (ps : Pat) (pre : Hld), (layP y.length ps pre).length ≤ 5 ^ ps.length := by
    intro ps
    induction ps with
    | nil =>
      intro pre
      unfold layP
      split <;> simp
    | cons o ps ih =>
      intro pre
      cases o with
      | some o =>
        have := ih (pre ++ [o])
        show (layP y.length ps (pre ++ [o])).length ≤ 5 ^ (ps.length + 1)
        rw [Nat.pow_succ]
        have : 0 < 5 ^ ps.length := Nat.pow_pos (by decide)
        omega
      | none =>
        show ((opts y.length).flatMap fun o => layP y.length ps (pre ++ [o])).length ≤ 5 ^ (ps.length + 1)
        rw [List.length_flatMap]
        have hs : ∀ (l : List (Option Nat)), (l.map fun o => (layP y.length ps (pre ++ [o])).length).sum ≤ l.length * 5 ^ ps.length := by
          intro l
          induction l with
          | nil => simp
          | cons a l ih2 =>
            rw [List.map_cons, List.sum_cons, List.length_cons, Nat.add_mul]
            have := ih (pre ++ [a])
            omega
        have h1 := hs (opts y.length)
        have h2 : (opts y.length).length ≤ 5 := by
          unfold opts
          simp
          exact h4
        have h3 : (opts y.length).length * 5 ^ ps.length ≤ 5 * 5 ^ ps.length := Nat.mul_le_mul_right _ h2
        rw [Nat.pow_succ]
        omega
  have h1 := hb (patOf y) []
  have h2 : (patOf y).length = y.length := by simp [patOf]
  rw [h2] at h1
  have h3 : 5 ^ y.length ≤ 5 ^ 4 := Nat.pow_le_pow_right (by decide) h4
  have : (layY y).length ≤ 5 ^ y.length := h1
  omega
end Nb
set_option Elab.async false
set_option linter.all false
set_option maxRecDepth 100000
set_option maxHeartbeats 4000000
set_option autoImplicit false
set_option pp.maxSteps 2000
namespace Nb
open PySem PySem.Spec PyProof.Rows L2
def nxD (q : HK × Int) : Dat := .tuple [hD q.1, .int q.2]
structure NxOk (y : List Bx) (h : Hld) (nx : List (HK × Int)) : Prop where
  snd : ∀ q ∈ nx, ∃ b o, Leg1 y h b o ∧ q.1 = h.set b o ∧ price y b = some q.2
  cmp : ∀ b o, Leg1 y h b o → ∃ v, price y b = some v ∧ (h.set b o, v) ∈ nx
  len : nx.length ≤ 156
def sp__law_nexts : DSp := fun ds M Q _ => ∃ (y : List Bx) (h : Hld), ds = [yd y, hD h] ∧ Yok y ∧ h.length = y.length ∧ Acy h ∧ ∀ nx, NxOk y h nx → Q (.list (nx.map nxD)) M
def keyL (h : Hld) : List Int := h.map fun o => match o with | none => -1 | some k => (k : Int)
def sp__law_key : DSp := fun ds M Q _ => ∃ (h : Hld), ds = [hD h] ∧ h.length ≤ 12 ∧ Q (intsD (keyL h)) M
def sp__law_costs : DSp := fun ds M Q _ => ∃ (y : List Bx) (pl : Bool), ds = [yd y, .bool pl] ∧ Yok y ∧ y.length ≤ 4 ∧ ∀ p fd, M p = none → SI y pl fd [] noP → Q (rf p) (mup M p (.dct fd))
def sp_law : DSp := fun ds M Q _ => ∃ ns : List Int, ds = [.list (ns.map PyData.int)] ∧ ns.length ≤ 63 ∧ M tabP = some (.tab tabQ) ∧ ∀ M', Q (.bool true) M'
def bd__law_nexts : DS := (dSeq (dAsg (dLstL dNil) (gN 2))
  (dSeq (dFor (iRng1D (dCons (dBlt gLen (dCons (dVar 0) dNil)) dNil)) (gN 3) (dFor (iSeqD (dOp gAdd (dLst (dCons (dC .none) dNil)) (dLstRng (dBlt gLen (dCons (dVar 0) dNil))))) (gN 4) (dSeq (dAsg (dOrV (dOp gIsN (dVar 4) (dC .none)) (dAndV (dOp gNe (dVar 4) (dVar 3)) (dOp gNotIn (dVar 3) (dCall sp__law_up (dCons (dVar 1) (dCons (dVar 4) dNil)))))) (gN 5))
  (dIfS (dAndT (dTru (dVar 5)) (dAndT (dB (dOp gNe (dVar 4) (dOp gIx (dVar 1) (dVar 3)))) (dB (dOp gNotN (dOp gIx (dOp gIx (dVar 0) (dVar 3)) (dC (.int 0))) (dC .none))))) (dDrop (dBM tyL gAppend (dVar 2) (dCons (dTup (dCons (dOp gAdd (dOp gAdd (dSl (dVar 1) oNone (oSome (dVar 3))) (dTup (dCons (dVar 4) dNil))) (dSl (dVar 1) (oSome (dOp gAdd (dVar 3) (dC (.int 1)))) oNone)) (dCons (dOp gIx (dOp gIx (dVar 0) (dVar 3)) (dC (.int 0))) dNil))) dNil))) dNext))))
  (dRet (dFrz (dVar 2)))))
def bd__law_key : DS := (dRet (dLc (iSeqD (dVar 0)) (gN 1) dYes (dIf (dB (dOp gIsN (dVar 1) (dC .none))) (dOp gSub (dC (.int 0)) (dC (.int 1))) (dVar 1)) [1]))
theorem pure__law_key : ∀ ds M Q E, sp__law_key ds M Q E → bd__law_key (endsOf (fun d M' => Q d (clip M M')) (fun x M' => E x (clip M M'))) (startD 2 ds) M := by
  rintro _ M Q E ⟨h, rfl, hl, hq⟩
  have e : (hD h) = PyData.tuple (h.map od) := rfl
  simp [bd__law_key, startD, e]
  refine lc_pure (fun d => match d with | .int k => some (.int k) | _ => some (.int (-1))) (by simp [sizeLine_eq]; omega) ?_ ?_
  · intro d hd acc K ha hk
    obtain ⟨o, ho, rfl⟩ := List.mem_map.mp hd
    cases o with
    | none =>
      simp [wipeD, od]
      exact ⟨ha, hk⟩
    | some k =>
      simp [wipeD, od]
      exact ⟨ha, hk⟩
  · rw [fm_map od _ (fun o => match o with | none => PyData.int (-1) | some k => .int (k : Int)) fun o => by cases o <;> rfl]
    rw [clip_self]
    have e2 : intsD (keyL h) = .list (h.map fun o => match o with | none => PyData.int (-1) | some k => .int (k : Int)) := by
      unfold intsD keyL
      rw [List.map_map]
      congr 1
      exact List.map_congr_left fun o _ => by cases o <;> rfl
    rw [← e2]
    exact hq
theorem opts_od (n : Nat) : PyData.none :: rngD 0 n = (opts n).map od := by
  rw [rngD_eq]
  unfold opts nD
  rw [List.map_cons, List.map_map]
  rfl
theorem pure__law_nexts : ∀ ds M Q E, sp__law_nexts ds M Q E → bd__law_nexts (endsOf (fun d M' => Q d (clip M M')) (fun x M' => E x (clip M M'))) (startD 6 ds) M := by
  rintro _ M Q E ⟨y, h, rfl, ok, hlen, ac, hq⟩
  have hy := ok.le
  simp only [bd__law_nexts]
  refine seq_mid (fun ρ' M' => ∃ a, M a = none ∧ ρ' = [some (yd y), some (hD h), some (rf a), none, none, none] ∧ M' = mup M a (.lst [])) ?_ ?_
  · intro R hR
    simp [startD, sizeLine_eq]
    exact fun a ha => hR _ _ ⟨a, ha, rfl, rfl⟩
  rintro _ _ ⟨a, ha, rfl, rfl⟩
  refine seq_mid (fun ρ' M' => ∃ nx v3 v4 v5, NxOk y h nx ∧ ρ' = [some (yd y), some (hD h), some (rf a), v3, v4, v5] ∧ M' = mup M a (.lst (nx.map nxD))) ?_ ?_
  rotate_left
  · rintro _ _ ⟨nx, v3, v4, v5, hn, rfl, rfl⟩
    simp [clip_del ha, clip_out ha]
    exact hq nx hn
  intro R hR
  simp
  refine ⟨by omega, for_rule (fun i ρ M' => ∃ (nx : List (HK × Int)) (v3 v4 v5 : Option Dat), ρ = [some (yd y), some (hD h), some (rf a), v3, v4, v5] ∧ M' = mup M a (.lst (nx.map nxD)) ∧ (∀ q ∈ nx, ∃ b o, Leg1 y h b o ∧ q.1 = h.set b o ∧ price y b = some q.2) ∧ (∀ b o, b < i → Leg1 y h b o → ∃ v, price y b = some v ∧ (h.set b o, v) ∈ nx) ∧ nx.length ≤ i * (y.length + 1)) ⟨[], _, _, _, rfl, rfl, by simp, by simp, by simp⟩ ?_ ?_⟩
  rotate_left
  · rintro ρ M' ⟨nx, v3, v4, v5, rfl, rfl, h1, h2, h3⟩
    rw [rngD_len] at h2 h3
    refine hR _ _ ⟨nx, v3, v4, v5, ⟨h1, fun b o lg => h2 b o lg.lt lg, ?_⟩, rfl, rfl⟩
    have : y.length * (y.length + 1) ≤ 12 * 13 := Nat.mul_le_mul (by omega) (by omega)
    omega
  rintro i d ρ M' hd ⟨nx, v3, v4, v5, rfl, rfl, h1, h2, h3⟩ K hK
  rw [rngD_get] at hd
  split at hd
  · rename_i hi
    cases hd
    obtain ⟨bx, hb, hpr⟩ := get_y hi
    obtain ⟨o0, ho0⟩ := get_lt hlen hi
    have e0 : PyData.none :: rngD 0 y.length = (opts y.length).map od := opts_od _
    have hz : i * (y.length + 1) ≤ 12 * 13 := Nat.mul_le_mul (by omega) (by omega)
    simp [RgOk, sizeLine_eq, e0, rngD_len]
    refine ⟨⟨by omega, by omega⟩, by omega, for_rule (fun j ρ M' => ∃ (nx : List (HK × Int)) (v4 v5 : Option Dat), ρ = [some (yd y), some (hD h), some (rf a), some (.int (i : Int)), v4, v5] ∧ M' = mup M a (.lst (nx.map nxD)) ∧ (∀ q ∈ nx, ∃ b o, Leg1 y h b o ∧ q.1 = h.set b o ∧ price y b = some q.2) ∧ (∀ b o, b < i ∨ (b = i ∧ o ∈ (opts y.length).take j) → Leg1 y h b o → ∃ v, price y b = some v ∧ (h.set b o, v) ∈ nx) ∧ nx.length ≤ i * (y.length + 1) + j) ⟨nx, _, _, rfl, rfl, h1, by
        intro b o hbo lg
        rcases hbo with z | ⟨_, z⟩
        · exact h2 b o z lg
        · simp at z, by omega⟩ ?_ ?_⟩
    rotate_left
    · rintro ρ M' ⟨nx, v4, v5, rfl, rfl, h1, h2, h3⟩
      have e1 : ((opts y.length).map od).length = y.length + 1 := by simp [opts]
      rw [e1] at h2 h3
      refine hK _ _ ⟨nx, _, v4, v5, rfl, rfl, h1, fun b o hbi lg => h2 b o ?_ lg, ?_⟩
      · by_cases z : b < i
        · exact .inl z
        · refine .inr ⟨by omega, ?_⟩
          rw [List.take_of_length_le (by simp [opts])]
          exact opts_mem.mpr lg.ho
      · rw [Nat.add_mul]; omega
    clear h1 h2 h3 hK nx
    rintro j d ρ M' hd ⟨nx, v4, v5, rfl, rfl, h1, h2, h3⟩ K hK
    rw [List.getElem?_map] at hd
    obtain ⟨o, ho, rfl⟩ := Option.map_eq_some_iff.mp hd
    have hj : j < y.length + 1 := by
      have := (List.getElem?_eq_some_iff.mp ho).1
      simpa [opts] using this
    have hom : ∀ k, o = some k → k < y.length := opts_mem.mp (List.mem_of_getElem? ho)
    have et : (opts y.length).take (j + 1) = (opts y.length).take j ++ [o] := take_snoc ho
    have skip : ∀ v5, ¬ Leg1 y h i o → K [some (yd y), some (hD h), some (rf a), some (.int (i : Int)), some (od o), v5] (mup M a (.lst (nx.map nxD))) := fun v5 hn => by
      refine hK _ _ ⟨nx, _, v5, rfl, rfl, h1, fun b o' hbo lg => ?_, by omega⟩
      rcases hbo with z | ⟨z, z2⟩
      · exact h2 b o' (.inl z) lg
      · rw [et, List.mem_append] at z2
        rcases z2 with z2 | z2
        · exact h2 b o' (.inr ⟨z, z2⟩) lg
        · have z3 := List.mem_singleton.mp z2
          subst z z3
          exact absurd lg hn
    have go : ∀ v5 v, Leg1 y h i o → price y i = some v → K [some (yd y), some (hD h), some (rf a), some (.int (i : Int)), some (od o), v5] (mup M a (.lst (nx.map nxD ++ [nxD (h.set i o, v)]))) := fun v5 v lg hv => by
      refine hK _ _ ⟨nx ++ [(h.set i o, v)], _, v5, rfl, by simp, fun q hm => ?_, fun b o' hbo lg => ?_, by simp; omega⟩
      · rcases List.mem_append.mp hm with z | z
        · exact h1 q z
        · have := List.mem_singleton.mp z
          subst this
          exact ⟨i, o, lg, rfl, hv⟩
      · rcases hbo with z | ⟨z, z2⟩
        · obtain ⟨v, a1, a2⟩ := h2 b o' (.inl z) lg
          exact ⟨v, a1, by simp [a2]⟩
        · rw [et, List.mem_append] at z2
          rcases z2 with z2 | z2
          · obtain ⟨v, a1, a2⟩ := h2 b o' (.inr ⟨z, z2⟩) lg
            exact ⟨v, a1, by simp [a2]⟩
          · have z3 := List.mem_singleton.mp z2
            subst z z3
            exact ⟨v, hv, by simp⟩
    clear hK
    rw [v_gN]
    refine seq_mid (fun ρ' M' => ρ' = [some (yd y), some (hD h), some (rf a), some (.int (i : Int)), some (od o), some (.bool (!decide (i ∈ upOf h h.length o)))] ∧ M' = mup M a (.lst (nx.map nxD))) ?_ ?_
    · intro R hR
      cases o with
      | none =>
        have e1 : upOf h h.length none = [] := by cases h.length <;> rfl
        simp [od]
        exact hR _ _ ⟨by simp [od, e1], rfl⟩
      | some t =>
        have ht := hom t rfl
        obtain ⟨o2, ho2⟩ := get_lt hlen ht
        have hup := up_mem ac ho2 i
        by_cases z : t = i
        · subst z
          simp [od]
          exact hR _ _ ⟨by simp [od, hup], rfl⟩
        · have z' : ¬ (t : Int) = i := by omega
          have z2 : ¬ i = t := fun e => z e.symm
          simp [od, z']
          refine ⟨hD h, h, t, o2, rfl, .inl rfl, by omega, ho2, ac.bnd, ?_⟩
          simp
          refine hR _ _ ⟨?_, rfl⟩
          have : decide (i ∈ upOf h h.length (some t)) = decide (i ∈ upOf h h.length o2) := by simp [hup, z2]
          rw [this]
          simp [od]
    rintro _ _ ⟨rfl, rfl⟩
    by_cases zu : i ∈ upOf h h.length o
    · simp [zu, truD]
      exact skip _ fun lg => lg.un zu
    · simp [zu, truD]
      by_cases zn : o = o0
      · subst zn
        simp [ho0]
        exact skip _ fun lg => lg.ne ho0
      · simp [ho0, zn, hb]
        cases hp : bx.1 with
        | none =>
          simp
          exact skip _ fun lg => by
            have := lg.pr
            rw [hpr, hp] at this
            cases this
        | some v =>
          have lg : Leg1 y h i o := ⟨hi, by rw [hpr, hp]; rfl, fun e => zn (by rw [ho0] at e; exact (Option.some.inj e).symm), hom, zu⟩
          simp [sizeLine_eq]
          have e5 : h.take i ++ o :: h.drop (i + 1) = h.set i o := by rw [← set_cut h i o (by omega)]; simp
          rw [e5]
          exact ⟨by omega, by omega, by omega, go _ v lg (by rw [hpr, hp])⟩
  · cases hd
end Nb
set_option Elab.async false
set_option linter.all false
set_option maxRecDepth 100000
set_option maxHeartbeats 4000000
set_option autoImplicit false
set_option pp.maxSteps 2000
namespace Nb
open PySem PySem.Spec PyProof.Rows L2
def bd__law_costs : DS := (dSeq (dPar 2 3 (dCons (dLst (dCons (dTup (dCons (dC (.int 0)) (dCons (dBlt gTupOf (dCons (dLc (iSeqD (dVar 0)) (gN 12) dYes (dOp gIx (dVar 12) (dC (.int 1))) [12]) dNil)) dNil))) dNil)) (dCons dDctNew dNil)))
  (dSeq (dAsg (dDct1 (dOp gIx (dOp gIx (dVar 2) (dC (.int 0))) (dC (.int 1))) (dC (.int 0))) (gN 4))
  (dSeq (dWhile (dB (dOp gNeX (dVar 4) dDctNew)) (dSeq (dAsg (dBlt gMin1 (dCons (dXvals 4 11) dNil)) (gN 5))
  (dSeq (dAsg (dXkeys 4 11 5) (gN 6))
  (dSeq (dFor (iSeqD (dVar 6)) (gN 7) (dSeq (dDrop (dXpop (dVar 4) (dVar 7)))
  (dAsg (dVar 5) (gSubDD (dVar 3) (dVar 7)))))
  (dFor (iSeqD (dVar 6)) (gN 7) (dFor (iSeqD (dCall sp__law_nexts (dCons (dVar 0) (dCons (dVar 7) dNil)))) (gTupD 2 (gConsD (gN 8) (gConsD (gN 9) gNilD))) (dIfS (dB (dOp gNotInX (dVar 8) (dVar 3))) (dSeq (dAsg (dOp gAdd (dVar 5) (dIf (dTru (dVar 1)) (dC (.int 1)) (dVar 9))) (gN 10))
  (dAsg (dBlt gMin2 (dCons (dDGet2 (dVar 4) (dVar 8) (dVar 10)) (dCons (dVar 10) dNil))) (gSubDD (dVar 4) (dVar 8)))) dNext)))))))
  (dRet (dVar 3)))))
section
variable (ρ : Rho) (M : Mem) (Q : DQ) (E : XQ) (R : Rho → Mem → Prop) (S : List Dat → Mem → Prop) (a b c : DE) (v : Dat)
theorem xx_new : dDctNew ρ M Q E = ∀ p, M p = none → Q (rf p) (mup M p (.dct [])) := rfl
theorem xx_one : dDct1 a b ρ M Q E = ∀ p, M p = none → a ρ (mup M p (.dct [])) (fun k M1 => b ρ M1 (fun v M2 => ∃ h n, k = .tuple (h.map od) ∧ v = .int n ∧ M2 p = some (.dct []) ∧ Q (rf p) (mup M2 p (.dct [(h, n)]))) E) E := rfl
theorem xx_get : dDGet2 a b c ρ M Q E = a ρ M (fun d M1 => ∃ p kvs, d = rf p ∧ M1 p = some (.dct kvs) ∧ b ρ M1 (fun k M2 => c ρ M2 (fun x M3 => ∃ kvs' h n, k = .tuple (h.map od) ∧ x = .int n ∧ M3 p = some (.dct kvs') ∧ Q (.int ((lkD kvs' h).getD n)) M3) E) E) E := rfl
theorem xx_sub : gSubDD a b v ρ M R = a ρ M (fun d M1 => b ρ M1 (fun x M2 => ∃ p kvs h n, d = rf p ∧ x = .tuple (h.map od) ∧ v = .int n ∧ M2 p = some (.dct kvs) ∧ kvs.length < sizeLine ∧ R ρ (mup M2 p (.dct (putD kvs h n)))) noX) noX := rfl
theorem xx_pop : dXpop a b ρ M Q E = a ρ M (fun d M1 => ∃ p, d = rf p ∧ (∃ kvs, M1 p = some (.dct kvs)) ∧ b ρ M1 (fun k M2 => ∃ kvs h n, k = .tuple (h.map od) ∧ M2 p = some (.dct kvs) ∧ lkD kvs h = some n ∧ Q (.int n) (mup M2 p (.dct (dropD kvs h)))) E) E := rfl
theorem xx_ne (x y : Dat) : gNeX x y M Q = ∃ p q kvs, x = rf p ∧ y = rf q ∧ M p = some (.dct kvs) ∧ M q = some (.dct []) ∧ Q (.bool (!(kvs.length == 0))) M := rfl
theorem xx_ni (x y : Dat) : gNotInX x y M Q = ∃ p kvs h, x = .tuple (h.map od) ∧ y = rf p ∧ M p = some (.dct kvs) ∧ Q (.bool (!(lkD kvs h).isSome)) M := rfl
end
/-- the two dicts beside what there was -/
structure Mk (M : Mem) (a c : Nat) (fd lv : List (HK × Int)) (M' : Mem) : Prop where
  ext : ∀ q mo, M q = some mo → M' q = some mo
  fd : M' a = some (.dct fd)
  lv : M' c = some (.dct lv)
section
variable {M M' : Mem} {a c : Nat} {fd lv : List (HK × Int)}
theorem Mk.new (k : Mk M a c fd lv M') {p : Nat} (hp : M' p = none) (mo : MO) : Mk M a c fd lv (mup M' p mo) where
  ext := fun q o e => by
    have := k.ext q o e
    rw [mup_ne (fun z => by rw [z, hp] at this; cases this)]
    exact this
  fd := by rw [mup_ne (fun z => by have := k.fd; rw [z, hp] at this; cases this)]; exact k.fd
  lv := by rw [mup_ne (fun z => by have := k.lv; rw [z, hp] at this; cases this)]; exact k.lv
theorem Mk.putF (k : Mk M a c fd lv M') (ha : M a = none) (hac : a ≠ c) (fd' : List (HK × Int)) : Mk M a c fd' lv (mup M' a (.dct fd')) where
  ext := fun q o e => by
    rw [mup_ne (fun z => by rw [z, ha] at e; cases e)]
    exact k.ext q o e
  fd := mup_same
  lv := by rw [mup_ne (Ne.symm hac)]; exact k.lv
theorem Mk.putL (k : Mk M a c fd lv M') (hc : M c = none) (hac : a ≠ c) (lv' : List (HK × Int)) : Mk M a c fd lv' (mup M' c (.dct lv')) where
  ext := fun q o e => by
    rw [mup_ne (fun z => by rw [z, hc] at e; cases e)]
    exact k.ext q o e
  fd := by rw [mup_ne hac]; exact k.fd
  lv := mup_same
theorem Mk.clip (k : Mk M a c fd lv M') : clipR M (rf a) M' = mup M a (.dct fd) := by
  rw [clipR_rf k.fd]
  congr 1
  funext q
  unfold Nb.clip
  cases h : M q with
  | none => simp
  | some o => simp [k.ext q o h]
end
theorem hD_map (h : Hld) : hD h = .tuple (h.map od) := rfl
/-- the dicts behind the first loop -/
structure PL (fd lv : List (HK × Int)) (m : Int) (sm : List HK) (fd1 lv1 : List (HK × Int)) : Prop where
  n1 : (fd1.map (·.1)).Nodup
  n2 : (lv1.map (·.1)).Nodup
  e1 : ∀ h, lkD fd1 h = if h ∈ sm then some m else lkD fd h
  e2 : ∀ h, lkD lv1 h = if h ∈ sm then none else lkD lv h
  len : fd1.length ≤ fd.length + sm.length
theorem PL.zero {fd lv : List (HK × Int)} {m : Int} (n1 : (fd.map (·.1)).Nodup) (n2 : (lv.map (·.1)).Nodup) : PL fd lv m [] fd lv := ⟨n1, n2, fun h => by simp, fun h => by simp, by simp⟩
theorem PL.step {fd lv fd1 lv1 : List (HK × Int)} {m : Int} {sm : List HK} (p : PL fd lv m sm fd1 lv1) (x : HK) : PL fd lv m (sm ++ [x]) (putD fd1 x m) (dropD lv1 x) where
  n1 := nd_put p.n1 x m
  n2 := nd_drop p.n2 x
  e1 := fun h => by
    rw [lk_put, p.e1]
    by_cases z : h = x
    · subst z; simp
    · simp [z]
  e2 := fun h => by
    rw [lk_drop, p.e2]
    by_cases z : h = x
    · subst z; simp
    · simp [z]
  len := by
    have := putD_len fd1 x m
    have := p.len
    rw [List.length_append, List.length_singleton]
    omega
abbrev rc (y : List Bx) (pl : Bool) (w : Dat) (a c : Nat) (v5 v6 v7 v8 v9 v10 v11 v12 : Option Dat) : Rho := [some (yd y), some (.bool pl), some w, some (rf a), some (rf c), v5, v6, v7, v8, v9, v10, v11, v12]
theorem costs_turn {y : List Bx} {pl : Bool} {w : Dat} {a c : Nat} {M M' : Mem} {v6 v7 v10 v11 v12 : Option Dat} {fd lv : List (HK × Int)} {m : Int} {h : HK} {h' : HK} {pr : Int} {b : Nat} {o : Option Nat} {P P' : HK → HK → Prop} {Q : DEnds} (ok : Yok y) (h4 : y.length ≤ 4) (ha : M a = none) (hc : M c = none) (hac : a ≠ c)
    (S : SI y pl fd lv P) (mk : Mk M a c fd lv M') (hf : lkD fd h = some m) (lg : Leg1 y h b o) (e1 : h' = h.set b o) (e2 : price y b = some pr) (hP : ∀ h1 h2, ¬ P' h1 h2 → ¬ P h1 h2 ∨ (h1 = h ∧ h2 = h'))
    (hR : ∀ lv' M2 v10, SI y pl fd lv' P' → Mk M a c fd lv' M2 → Q.nx (rc y pl w a c (some (.int m)) v6 v7 (some (hD h')) (some (.int pr)) v10 v11 v12) M2) :
    dIfS (dB (dOp gNotInX (dVar 8) (dVar 3))) (dSeq (dAsg (dOp gAdd (dVar 5) (dIf (dTru (dVar 1)) (dC (.int 1)) (dVar 9))) (gN 10))
      (dAsg (dBlt gMin2 (dCons (dDGet2 (dVar 4) (dVar 8) (dVar 10)) (dCons (dVar 10) dNil))) (gSubDD (dVar 4) (dVar 8)))) dNext Q (rc y pl w a c (some (.int m)) v6 v7 (some (hD h')) (some (.int pr)) v10 v11 v12) M' := by
  have hm : m = Wt pl y h := (S.fo h m hf).2
  have hw : wt pl y b = if pl = true then 1 else pr := by unfold wt; rw [e2]; rfl
  refine ⟨a, fd, h', rfl, rfl, mk.fd, ?_⟩
  cases ht : lkD fd h' with
  | some cc =>
    show Q.nx _ M'
    exact hR lv M' _ (S.skip (here := h) (b := b) (o := o) (by rw [← e1, ht]; rfl) (by rw [← e1]; exact hP)) mk
  | none =>
    have fin : ∀ more : Int, more = Wt pl y h + wt pl y b → ∀ k : Int, k = (if more < (lkD lv h').getD more then more else (lkD lv h').getD more) → Q.nx (rc y pl w a c (some (.int m)) v6 v7 (some (hD h')) (some (.int pr)) (some (.int more)) v11 v12) (mup M' c (.dct (putD lv h' k))) := fun more hmo k hk => by
      refine hR _ _ _ ?_ (mk.putL hc hac _)
      subst e1
      refine S.put ok (here := h) (by rw [hf]; rfl) lg ht ?_ ?_ ?_ hP
      · rw [← hmo, hk]; split <;> omega
      · intro cc hcc
        rw [hk, hcc]
        show (if more < cc then more else cc) ≤ cc
        split <;> omega
      · rw [← hmo, hk]
        cases hl : lkD lv (h.set b o) with
        | none => left; simp
        | some cc =>
          show (if more < cc then more else cc) = more ∨ some cc = some (if more < cc then more else cc)
          split
          · exact .inl rfl
          · exact .inr rfl
    have hsz : lv.length < sizeLine := by
      have := (S.boundL ok).1
      have := lay_small ok h4
      rw [sizeLine_eq]
      omega
    simp only [Option.isSome_none, Bool.not_false, if_true]
    cases pl with
    | true =>
      show Nb.dAsg _ _ _ _ _
      refine ⟨c, lv, rfl, mk.lv, lv, h', m + 1, rfl, rfl, mk.lv, ?_⟩
      simp only [rc, u4, u0, u3, List.set, List.getElem?_cons_succ, List.getElem?_cons_zero, u58]
      refine ⟨c, lv, h', _, rfl, rfl, rfl, mk.lv, hsz, ?_⟩
      exact fin (m + 1) (by rw [hm, hw]; rfl) _ rfl
    | false =>
      show Nb.dAsg _ _ _ _ _
      refine ⟨c, lv, rfl, mk.lv, lv, h', m + pr, rfl, rfl, mk.lv, ?_⟩
      simp only [rc, u4, u0, u3, List.set, List.getElem?_cons_succ, List.getElem?_cons_zero, u58]
      refine ⟨c, lv, h', _, rfl, rfl, rfl, mk.lv, hsz, ?_⟩
      exact fin (m + pr) (by rw [hm, hw]; rfl) _ rfl
theorem costs_loop2 {y : List Bx} {pl : Bool} {w : Dat} {a c : Nat} {M M' : Mem} {v7 v8 v9 v10 v11 v12 : Option Dat} {fd lv : List (HK × Int)} {m : Int} {sm : List HK} {Q : DEnds} (ok : Yok y) (h4 : y.length ≤ 4) (ha : M a = none) (hc : M c = none) (hac : a ≠ c)
    (S : SI y pl fd lv (fun h _ => h ∈ sm)) (mk : Mk M a c fd lv M') (hf : ∀ h ∈ sm, lkD fd h = some m)
    (hR : ∀ lv' M2 v7 v8 v9 v10, SI y pl fd lv' noP → Mk M a c fd lv' M2 → Q.nx (rc y pl w a c (some (.int m)) (some (.list (sm.map hD))) v7 v8 v9 v10 v11 v12) M2) :
    dFor (iSeqD (dVar 6)) (gN 7) (dFor (iSeqD (dCall sp__law_nexts (dCons (dVar 0) (dCons (dVar 7) dNil)))) (gTupD 2 (gConsD (gN 8) (gConsD (gN 9) gNilD))) (dIfS (dB (dOp gNotInX (dVar 8) (dVar 3))) (dSeq (dAsg (dOp gAdd (dVar 5) (dIf (dTru (dVar 1)) (dC (.int 1)) (dVar 9))) (gN 10))
      (dAsg (dBlt gMin2 (dCons (dDGet2 (dVar 4) (dVar 8) (dVar 10)) (dCons (dVar 10) dNil))) (gSubDD (dVar 4) (dVar 8)))) dNext)) Q (rc y pl w a c (some (.int m)) (some (.list (sm.map hD))) v7 v8 v9 v10 v11 v12) M' := by
  show dForL _ _ Q (sm.map hD) _ M'
  refine for_rule (fun i ρ M2 => ∃ lv' v7 v8 v9 v10, ρ = rc y pl w a c (some (.int m)) (some (.list (sm.map hD))) v7 v8 v9 v10 v11 v12 ∧ Mk M a c fd lv' M2 ∧ SI y pl fd lv' (fun h _ => h ∈ sm.drop i)) ⟨lv, v7, v8, v9, v10, rfl, mk, S⟩ ?_ ?_
  rotate_left
  · rintro ρ M2 ⟨lv', v7, v8, v9, v10, rfl, mk', S'⟩
    refine hR lv' M2 v7 v8 v9 v10 (S'.wk fun h h' _ => ?_) mk'
    rw [List.length_map, List.drop_length]
    exact fun z => nomatch z
  rintro i d ρ M2 hd ⟨lv', v7, v8, v9, v10, rfl, mk', S'⟩ K hK
  rw [List.getElem?_map] at hd
  obtain ⟨h, hh, rfl⟩ := Option.map_eq_some_iff.mp hd
  have hm := List.mem_of_getElem? hh
  have hfh := hf h hm
  have k := (S'.fo h m hfh).1
  show dFor _ _ _ _ (rc y pl w a c (some (.int m)) (some (.list (sm.map hD))) (some (hD h)) v8 v9 v10 v11 v12) M2
  refine ⟨y, h, rfl, ok, k.1, k.2.1, fun nx hn => ?_⟩
  show dForL _ _ _ (nx.map nxD) _ M2
  have hdr : sm.drop i = h :: sm.drop (i + 1) := by
    rw [List.drop_eq_getElem_cons (List.getElem?_eq_some_iff.mp hh).1, (List.getElem?_eq_some_iff.mp hh).2]
  refine for_rule (fun j ρ M3 => ∃ lv2 v8 v9 v10, ρ = rc y pl w a c (some (.int m)) (some (.list (sm.map hD))) (some (hD h)) v8 v9 v10 v11 v12 ∧ Mk M a c fd lv2 M3 ∧ SI y pl fd lv2 (fun h1 h2 => h1 ∈ sm.drop (i + 1) ∨ (h1 = h ∧ h2 ∈ (nx.drop j).map (·.1)))) ⟨lv', v8, v9, v10, rfl, mk', ⟨S'.nf, S'.nl, S'.dj, S'.fo, S'.lo, S'.st, fun h1 hf1 b o lg hP => ?_⟩⟩ ?_ ?_
  · refine S'.fr h1 hf1 b o lg fun z => hP ?_
    rw [hdr] at z
    rcases List.mem_cons.mp z with z | z
    · subst z
      obtain ⟨v, _, hv⟩ := hn.cmp b o lg
      exact .inr ⟨rfl, List.mem_map.mpr ⟨_, hv, rfl⟩⟩
    · exact .inl z
  rotate_left
  · rintro ρ M3 ⟨lv2, v8, v9, v10, rfl, mk2, S2⟩
    refine hK _ _ ⟨lv2, _, v8, v9, v10, rfl, mk2, S2.wk fun h1 h2 hP z => ?_⟩
    rw [List.length_map, List.drop_length] at z
    rcases z with z | ⟨_, z⟩
    · exact hP z
    · exact nomatch z
  rintro j d ρ M3 hd2 ⟨lv2, v8, v9, v10, rfl, mk2, S2⟩ K2 hK2
  rw [List.getElem?_map] at hd2
  obtain ⟨q, hq, rfl⟩ := Option.map_eq_some_iff.mp hd2
  obtain ⟨b, o, lg, e1, e2⟩ := hn.snd q (List.mem_of_getElem? hq)
  have hdr2 : nx.drop j = q :: nx.drop (j + 1) := by
    rw [List.drop_eq_getElem_cons (List.getElem?_eq_some_iff.mp hq).1, (List.getElem?_eq_some_iff.mp hq).2]
  refine ⟨rfl, ?_⟩
  refine costs_turn (v10 := v10) (P' := fun h1 h2 => h1 ∈ sm.drop (i + 1) ∨ (h1 = h ∧ h2 ∈ (nx.drop (j + 1)).map (·.1))) ok h4 ha hc hac S2 mk2 hfh lg e1 e2 (fun h1 h2 hP => ?_) fun lv3 M4 v10' S3 mk3 => hK2 _ _ ⟨lv3, _, _, v10', rfl, mk3, S3⟩
  by_cases z : h1 = h ∧ h2 = q.1
  · exact .inr z
  · refine .inl fun w => hP ?_
    rcases w with w | ⟨w1, w2⟩
    · exact .inl w
    · refine .inr ⟨w1, ?_⟩
      rw [hdr2, List.map_cons] at w2
      rcases List.mem_cons.mp w2 with w2 | w2
      · exact absurd ⟨w1, w2⟩ z
      · exact w2
theorem costs_loop1 {y : List Bx} {pl : Bool} {w : Dat} {a c : Nat} {M M' : Mem} {v7 v8 v9 v10 v11 v12 : Option Dat} {fd lv : List (HK × Int)} {m : Int} {sm : List HK} {Q : DEnds} (ha : M a = none) (hc : M c = none) (hac : a ≠ c)
    (n1 : (fd.map (·.1)).Nodup) (n2 : (lv.map (·.1)).Nodup) (nd : sm.Nodup) (mk : Mk M a c fd lv M') (hl : ∀ h ∈ sm, lkD lv h = some m) (hz : fd.length + sm.length < sizeLine)
    (hR : ∀ fd1 lv1 M2 v7, PL fd lv m sm fd1 lv1 → Mk M a c fd1 lv1 M2 → Q.nx (rc y pl w a c (some (.int m)) (some (.list (sm.map hD))) v7 v8 v9 v10 v11 v12) M2) :
    dFor (iSeqD (dVar 6)) (gN 7) (dSeq (dDrop (dXpop (dVar 4) (dVar 7))) (dAsg (dVar 5) (gSubDD (dVar 3) (dVar 7)))) Q (rc y pl w a c (some (.int m)) (some (.list (sm.map hD))) v7 v8 v9 v10 v11 v12) M' := by
  show dForL _ _ Q (sm.map hD) _ M'
  refine for_rule (fun i ρ M2 => ∃ fd1 lv1 v7, ρ = rc y pl w a c (some (.int m)) (some (.list (sm.map hD))) v7 v8 v9 v10 v11 v12 ∧ Mk M a c fd1 lv1 M2 ∧ PL fd lv m (sm.take i) fd1 lv1) ⟨fd, lv, v7, rfl, mk, PL.zero n1 n2⟩ ?_ ?_
  rotate_left
  · rintro ρ M2 ⟨fd1, lv1, v7, rfl, mk', p⟩
    rw [List.length_map, List.take_length] at p
    exact hR fd1 lv1 M2 v7 p mk'
  rintro i d ρ M2 hd ⟨fd1, lv1, v7, rfl, mk', p⟩ K hK
  rw [List.getElem?_map] at hd
  obtain ⟨h, hh, rfl⟩ := Option.map_eq_some_iff.mp hd
  have hm := List.mem_of_getElem? hh
  have et : sm.take (i + 1) = sm.take i ++ [h] := take_snoc hh
  have hnt : h ∉ sm.take i := fun z => by
    have h1 : sm.Nodup := nd
    rw [← List.take_append_drop (i + 1) sm, et] at h1
    have h2 := (List.nodup_append.mp (List.nodup_append.mp h1).1).2.2
    exact h2 h z h (by simp) rfl
  have h3 : lkD lv1 h = some m := by rw [p.e2, if_neg hnt]; exact hl h hm
  have hlen : fd1.length < sizeLine := by
    have := p.len
    have : (sm.take i).length ≤ sm.length := by rw [List.length_take]; omega
    omega
  refine ⟨c, rfl, ⟨lv1, mk'.lv⟩, ?_⟩
  refine ⟨lv1, h, m, rfl, mk'.lv, h3, ?_⟩
  have mk2 := mk'.putL hc hac (dropD lv1 h)
  refine ⟨a, fd1, h, m, rfl, rfl, rfl, mk2.fd, hlen, ?_⟩
  have mk3 := mk2.putF ha hac (putD fd1 h m)
  exact hK _ _ ⟨_, _, _, rfl, mk3, by rw [et]; exact p.step h⟩
theorem hds (l : List HK) : (l.map fun h => PyData.tuple (h.map od)) = l.map hD := rfl
theorem pure__law_costs : ∀ ds M Q E, sp__law_costs ds M Q E → bd__law_costs (endsOf (fun d M' => Q d (clipR M d M')) (fun x M' => E x (clip M M'))) (startD 13 ds) M := by
  rintro _ M Q E ⟨y, pl, rfl, ok, h4, hq⟩
  have hy := ok.le
  simp only [bd__law_costs]
  refine seq_mid (fun ρ' M' => ∃ a w, M a = none ∧ w = PyData.list [.tuple [.int 0, hD (hold y)]] ∧ ρ' = [some (yd y), some (.bool pl), some w, some (rf a), none, none, none, none, none, none, none, none, none] ∧ M' = mup M a (.dct [])) ?_ ?_
  · intro R hR
    simp [startD, xx_new]
    refine lc_pure (fun d => match d with | .tuple [a, b] => some b | _ => none) (by simp [sizeLine_eq]; omega) ?_ ?_
    · intro d hd acc K ha hk
      obtain ⟨b, hb, rfl⟩ := List.mem_map.mp hd
      simp [wipeD]
      exact ⟨ha, hk⟩
    · rw [fm_map bxD _ (fun b => od b.2) fun _ => rfl]
      have e : PyData.tuple (y.map (fun b => od b.2)) = hD (hold y) := by simp [hold, hD]
      simp [e, sizeLine_eq]
      exact fun a ha => hR _ _ ⟨a, _, ha, rfl, rfl, rfl⟩
  rintro _ _ ⟨a, w, ha, rfl, rfl, rfl⟩
  generalize hw : PyData.list [.tuple [.int 0, hD (hold y)]] = w
  refine seq_mid (fun ρ' M' => ∃ c v5 v6 v7 v8 v9 v10 v11 v12, M c = none ∧ a ≠ c ∧ ρ' = rc y pl w a c v5 v6 v7 v8 v9 v10 v11 v12 ∧ Mk M a c [] [(hold y, 0)] M') ?_ ?_
  · intro R hR
    subst hw
    simp [xx_one]
    intro c hc
    obtain ⟨hac, hc⟩ := mup_free hc
    refine hR _ _ ⟨c, _, _, _, _, _, _, _, _, hc, fun e => hac e.symm, rfl, fun q mo e => ?_, ?_, ?_⟩
    · rw [mup_ne (fun z => by rw [z, hc] at e; cases e), mup_ne (fun z => by rw [z, ha] at e; cases e)]
      exact e
    · rw [mup_ne (fun z => hac z.symm), mup_same]
    · exact mup_same
  rintro _ M1 ⟨c, v5, v6, v7, v8, v9, v10, v11, v12, hc, hac, rfl, mk⟩
  refine seq_mid (fun ρ' M' => ∃ fd v5 v6 v7 v8 v9 v10 v11 v12, SI y pl fd [] noP ∧ Mk M a c fd [] M' ∧ ρ' = rc y pl w a c v5 v6 v7 v8 v9 v10 v11 v12) ?_ ?_
  rotate_left
  · rintro _ M2 ⟨fd, v5, v6, v7, v8, v9, v10, v11, v12, S, mk, rfl⟩
    show Q (rf a) (clipR M (rf a) M2)
    rw [mk.clip]
    exact hq a fd ha S
  intro R hR
  refine while_rule (fun n ρ M' => ∃ fd lv v5 v6 v7 v8 v9 v10 v11 v12, n = (layY y).length - fd.length ∧ ρ = rc y pl w a c v5 v6 v7 v8 v9 v10 v11 v12 ∧ SI y pl fd lv noP ∧ Mk M a c fd lv M') _ ⟨[], [(hold y, 0)], v5, v6, v7, v8, v9, v10, v11, v12, rfl, rfl, SI.zero ok, mk⟩ ?_
  rintro n ρ M2 ⟨fd, lv, v5, v6, v7, v8, v9, v10, v11, v12, rfl, rfl, S, mk⟩ K hK
  intro p hp
  have mk2 := mk.new hp (.dct [])
  refine ⟨c, p, lv, rfl, rfl, mk2.lv, mup_same, ?_⟩
  generalize mup M2 p (.dct []) = M3 at mk2
  cases lv with
  | nil => exact hR _ _ ⟨fd, v5, v6, v7, v8, v9, v10, v11, v12, S, mk2, rfl⟩
  | cons x0 t0 =>
    obtain ⟨lv, hlv⟩ : ∃ lv, lv = x0 :: t0 := ⟨_, rfl⟩
    rw [← hlv] at S mk2 ⊢
    have hne : (!(lv.length == 0)) = true := by rw [hlv]; rfl
    have hpos : 0 < lv.length := by rw [hlv]; simp
    simp only [hne, if_true]
    refine ⟨c, lv, rfl, by simp, by decide, mk2.lv, fun nd => ?_⟩
    refine ⟨_, lv.map (·.2), rfl, ?_, by rw [List.length_map]; exact hpos, fun m hm hmin => ?_⟩
    · show some (lv.map fun q => PyData.int q.2) = _
      rw [List.map_map]; rfl
    refine ⟨c, lv, m, rfl, rfl, by simp, by decide, by decide, mk2.lv, fun _ => ?_⟩
    have e : ((lv.filter fun q => q.2 == m).map fun q => PyData.tuple (q.1.map od)) = (((lv.filter fun q => q.2 == m).map (·.1)).map hD) := by rw [List.map_map]; rfl
    rw [e]
    have hs : ∀ h, h ∈ (lv.filter fun q => q.2 == m).map (·.1) ↔ lkD lv h = some m := fun h => by
      constructor
      · intro hm'
        obtain ⟨q, hq, e⟩ := List.mem_map.mp hm'
        obtain ⟨h1, h2⟩ := List.mem_filter.mp hq
        subst e
        exact lkD_mem nd (by rw [show m = q.2 from (by simpa using h2 : q.2 = m).symm]; exact h1)
      · intro hl
        exact List.mem_map.mpr ⟨(h, m), List.mem_filter.mpr ⟨lk_mem hl, by simp⟩, rfl⟩
    have ndm : ((lv.filter fun q => q.2 == m).map (·.1)).Nodup := List.Pairwise.sublist (List.filter_sublist.map _) nd
    have hsl : ((lv.filter fun q => q.2 == m).map (·.1)).length ≤ lv.length := by rw [List.length_map]; exact List.length_filter_le _ _
    obtain ⟨h0, hh0⟩ : ∃ h0, h0 ∈ (lv.filter fun q => q.2 == m).map (·.1) := by
      obtain ⟨q, hq, e⟩ := List.mem_map.mp hm
      exact ⟨q.1, List.mem_map.mpr ⟨q, List.mem_filter.mpr ⟨hq, by simpa using e⟩, rfl⟩⟩
    generalize (lv.filter fun q => q.2 == m).map (·.1) = sm at hs ndm hsl hh0
    have hmin' : ∀ h cc, lkD lv h = some cc → m ≤ cc := fun h cc hl => hmin cc (List.mem_map.mpr ⟨(h, cc), lk_mem hl, rfl⟩)
    have hb := S.boundL ok
    have hsm := lay_small ok h4
    show dSeq _ _ _ (rc y pl w a c (some (.int m)) (some (.list (sm.map hD))) v7 v8 v9 v10 v11 v12) M3
    refine costs_loop1 (w := w) ha hc hac S.nf S.nl ndm mk2 (fun h hh => (hs h).mp hh) (by rw [sizeLine_eq]; omega) fun fd1 lv1 M4 v7 p mk4 => ?_
    refine costs_loop2 (w := w) ok h4 ha hc hac (S.pop ok hmin' hs p.n1 p.n2 p.e1 p.e2) mk4 (fun h hh => by rw [p.e1, if_pos hh]) fun lv' M5 v7 v8 v9 v10 S' mk5 => ?_
    have hlen : fd.length + 1 ≤ fd1.length := by
      have hn0 : h0 ∉ fd.map (·.1) := fun z => by
        have := S.dj h0 (lk_key.mpr z)
        rw [(hs h0).mp hh0] at this
        cases this
      have h1 : (h0 :: fd.map (·.1)).Nodup := List.nodup_cons.mpr ⟨hn0, S.nf⟩
      have h2 := nd_sub (m := fd1.map (·.1)) h1 fun x hx => by
        rw [← lk_key, p.e1]
        rcases List.mem_cons.mp hx with z | z
        · rw [z, if_pos hh0]; rfl
        · split
          · rfl
          · exact lk_key.mpr z
      rw [List.length_cons, List.length_map, List.length_map] at h2
      exact h2
    have hle := (S'.boundL ok).2
    exact hK _ _ _ (by omega) ⟨fd1, lv', _, _, _, _, _, _, _, _, rfl, rfl, S', mk5⟩
end Nb
set_option Elab.async false
set_option linter.all false
set_option maxRecDepth 100000
set_option maxHeartbeats 4000000
set_option autoImplicit false
set_option pp.maxSteps 2000
namespace Nb
open PySem PySem.Spec PyProof.Rows L2
def bd_law : DS := (dSeq (dAsg (dCall sp__law_start (dCons (dVar 0) dNil)) (gN 1))
  (dSeq (dFor (iRng1D (dCons (dC (.int 2)) dNil)) (gN 2) (dSeq (dAsg (dCall sp__law_yard (dCons (dVar 1) (dCons (dC (.int 4)) dNil))) (gN 3))
  (dSeq (dPar 4 5 (dCons (dCall sp__law_costs (dCons (dVar 3) (dCons (dC (.bool false)) dNil))) (dCons (dCall sp__law_costs (dCons (dVar 3) (dCons (dC (.bool true)) dNil))) dNil)))
  (dSeq (dIfS (dB (dOp gNe (dCall sp_reach (dCons (dVar 3) dNil)) (dBlt gLenX (dCons (dVar 4) dNil)))) (dRet (dC (.bool false))) dNext)
  (dSeq (dAsg (dXsort sp__law_key (dVar 4)) (gN 6))
  (dSeq (dAsg (dLc (iRng1D (dCons (dC (.int 8)) dNil)) (gN 10) dYes (dOp gIx (dVar 6) (dCall sp__law_drawn (dCons (dVar 1) (dCons (dBlt gLen (dCons (dVar 6) dNil)) dNil)))) [10]) (gN 7))
  (dFor (iSeqD (dOp gAdd (dVar 7) (dLc (iRng1D (dCons (dC (.int 6)) dNil)) (gN 10) dYes (dCall sp__law_goal (dCons (dVar 1) (dCons (dVar 3) dNil))) [10]))) (gN 8) (dSeq (dAsg (dCall sp_least (dCons (dVar 3) (dCons (dVar 8) dNil))) (gN 9))
  (dIfS (dOrT (dB (dOp gNe (dIf (dB (dOp gIsN (dVar 9) (dC .none))) (dC .none) (dOp gIx (dVar 9) (dC (.int 0)))) (dXget (dVar 4) (dVar 8)))) (dB (dOp gNe (dCall sp_fewest (dCons (dVar 3) (dCons (dVar 8) dNil))) (dXget (dVar 5) (dVar 8))))) (dRet (dC (.bool false))) dNext)))))))))
  (dRet (dC (.bool true)))))
def mem0 : Mem := fun a => if a = tabP then some (.tab tabQ) else none
theorem mem0_ok (cc : Nat) {a : Nat} {mo : MO} (e : mem0 a = some mo) : ∃ q, mo = .tab q ∧ a ∈ [(cc, tabP)].map (·.2) := by
  unfold mem0 at e
  split at e
  · rename_i h
    cases e
    exact ⟨_, rfl, by rw [h]; exact List.mem_cons_self ..⟩
  · cases e
theorem law_specT : ∀ (ns : List Int) (Q : DQ) (E : XQ), ns.length ≤ 63 → (∀ M', Q (.bool true) M') → sp_law [.list (ns.map PyData.int)] mem0 Q E := fun ns Q E h1 h2 => ⟨ns, rfl, h1, if_pos rfl, h2⟩
structure Ok04 (p a c : Nat) (f g : List (HK × Int)) (M : Mem) : Prop where
  st : ∃ st, M p = some (.lst st) ∧ StOk st
  tab : M tabP = some (.tab tabQ)
  fa : M a = some (.dct f)
  gc : M c = some (.dct g)
theorem Ok04.set {p a c : Nat} {f g : List (HK × Int)} {M : Mem} (k : Ok04 p a c f g M) {st' : List Dat} (hs : StOk st') : Ok04 p a c f g (mup M p (.lst st')) := by
  obtain ⟨st, hp, _⟩ := k.st
  refine ⟨⟨st', mup_same, hs⟩, ?_, ?_, ?_⟩
  · rw [mup_ne (fun z => by have := k.tab; rw [z, hp] at this; cases this)]; exact k.tab
  · rw [mup_ne (fun z => by have := k.fa; rw [z, hp] at this; cases this)]; exact k.fa
  · rw [mup_ne (fun z => by have := k.gc; rw [z, hp] at this; cases this)]; exact k.gc
theorem si_lk {y : List Bx} {pl : Bool} {fd : List (HK × Int)} (ok : Yok y) (S : SI y pl fd [] noP) {g : Hld} (hl : g.length = y.length) (ac : Acy g) : lkD fd g = if mayB y g = true then some (Wt pl y g) else none := by
  by_cases hm : mayB y g = true
  · rw [if_pos hm]
    exact S.all ok ⟨hl, ac, hm⟩
  · rw [if_neg hm]
    cases e : lkD fd g with
    | none => rfl
    | some c => exact absurd (S.fo g c e).1.2.2 hm
theorem goal_turn {ns : List Int} {p a c : Nat} {f1 f2 : List (HK × Int)} {y : List Bx} {g : Hld} {M : Mem} {v2 v6 v7 v9 v10 : Option Dat} {Q : DEnds} (ok : Yok y) (S1 : SI y false f1 [] noP) (S2 : SI y true f2 [] noP) (k : Ok04 p a c f1 f2 M) (hl : g.length = y.length) (ac : Acy g)
    (hR : ∀ v9, Q.nx [some (.list (ns.map PyData.int)), some (rf p), v2, some (yd y), some (rf a), some (rf c), v6, v7, some (hD g), v9, v10] M) :
    (dSeq (dAsg (dCall sp_least (dCons (dVar 3) (dCons (dVar 8) dNil))) (gN 9))
      (dIfS (dOrT (dB (dOp gNe (dIf (dB (dOp gIsN (dVar 9) (dC .none))) (dC .none) (dOp gIx (dVar 9) (dC (.int 0)))) (dXget (dVar 4) (dVar 8)))) (dB (dOp gNe (dCall sp_fewest (dCons (dVar 3) (dCons (dVar 8) dNil))) (dXget (dVar 5) (dVar 8))))) (dRet (dC (.bool false))) dNext)) Q
      [some (.list (ns.map PyData.int)), some (rf p), v2, some (yd y), some (rf a), some (rf c), v6, v7, some (hD g), v9, v10] M := by
  have e1 := si_lk ok S1 hl ac
  have e2 := si_lk ok S2 hl ac
  by_cases hm : mayB y g = true
  · rw [if_pos hm] at e1 e2
    refine Or.inl ⟨y, g, rfl, ok, hl, ac, k.tab, fun _ l _ => ?_, fun h => absurd hm (by rw [h]; exact Bool.false_ne_true)⟩
    refine ⟨a, rfl, ⟨f1, k.fa⟩, f1, g, rfl, k.fa, ?_⟩
    rw [e1]
    refine ⟨⟨rfl, rfl⟩, ?_⟩
    have t1 : PyData.eqv (vw (.int (costI y g)) M) (vw (op (some (Wt false y g))) M) = true := by
      show decide (costI y g = Wt false y g) = true
      exact decide_eq_true rfl
    simp only [t1, Bool.not_true, Bool.false_eq_true, if_false]
    refine Or.inl ⟨y, g, rfl, ok, hl, ac, fun _ => ?_, fun h => absurd hm (by rw [h]; exact Bool.false_ne_true)⟩
    refine ⟨c, rfl, ⟨f2, k.gc⟩, f2, g, rfl, k.gc, ?_⟩
    rw [e2, Wt_many]
    refine ⟨⟨rfl, rfl⟩, ?_⟩
    have t2 : PyData.eqv (vw (.int ((someL y g).length : Int)) M) (vw (op (some ((someL y g).length : Int))) M) = true := by
      show decide (((someL y g).length : Int) = ((someL y g).length : Int)) = true
      exact decide_eq_true rfl
    simp only [t2, Bool.not_true, Bool.false_eq_true, if_false]
    exact hR _
  · have hm' : mayB y g = false := by simpa using hm
    rw [if_neg hm] at e1 e2
    refine Or.inl ⟨y, g, rfl, ok, hl, ac, k.tab, fun h => absurd h hm, fun _ => ?_⟩
    refine ⟨a, rfl, ⟨f1, k.fa⟩, f1, g, rfl, k.fa, ?_⟩
    rw [e1]
    refine ⟨⟨rfl, rfl⟩, ?_⟩
    have t1 : PyData.eqv (vw PyData.none M) (vw (op none) M) = true := rfl
    simp only [t1, Bool.not_true, Bool.false_eq_true, if_false]
    refine Or.inl ⟨y, g, rfl, ok, hl, ac, fun h => absurd h hm, fun _ => ?_⟩
    refine ⟨c, rfl, ⟨f2, k.gc⟩, f2, g, rfl, k.gc, ?_⟩
    rw [e2]
    refine ⟨⟨rfl, rfl⟩, ?_⟩
    simp only [t1, Bool.not_true, Bool.false_eq_true, if_false]
    exact hR _
theorem ok_keys {y : List Bx} {pl : Bool} {fd : List (HK × Int)} (ok : Yok y) (S : SI y pl fd [] noP) : ∀ h ∈ fd.map (·.1), okN y h := fun h hm => by
  obtain ⟨c, hc⟩ := Option.isSome_iff_exists.mp (lk_key.mpr hm)
  exact (S.fo h c hc).1
theorem pure_law : ∀ ds M Q E, sp_law ds M Q E → bd_law (endsOf (fun d M' => Q d (clip M M')) (fun x M' => E x (clip M M'))) (startD 11 ds) M := by
  rintro _ M Q E ⟨ns, rfl, hn, ht, hq⟩
  simp only [bd_law]
  refine seq_mid (fun ρ' M' => ∃ p st, M' p = some (.lst st) ∧ StOk st ∧ M' tabP = some (.tab tabQ) ∧ ρ' = [some (.list (ns.map PyData.int)), some (rf p), none, none, none, none, none, none, none, none, none]) ?_ ?_
  · intro R hR
    refine ⟨ns, rfl, hn, fun p st hp hst => ?_⟩
    exact hR _ _ ⟨p, st, mup_same, hst, by rw [mup_ne (fun z => by rw [z, hp] at ht; cases ht)]; exact ht, rfl⟩
  rintro _ M1 ⟨p, st, hp, hst, ht1, rfl⟩
  refine seq_mid (fun ρ' M' => True) ?_ ?_
  rotate_left
  · rintro ρ' M' -
    exact hq _
  intro R hR
  refine ⟨by decide, ?_⟩
  refine for_rule (fun i ρ M' => ∃ st v2 v3 v4 v5 v6 v7 v8 v9 v10, M' p = some (.lst st) ∧ StOk st ∧ M' tabP = some (.tab tabQ) ∧ ρ = [some (.list (ns.map PyData.int)), some (rf p), v2, v3, v4, v5, v6, v7, v8, v9, v10]) ⟨st, _, _, _, _, _, _, _, _, _, hp, hst, ht1, rfl⟩ ?_ ?_
  rotate_left
  · rintro ρ M' _
    exact hR _ _ trivial
  clear hp hst ht1 st
  rintro i d ρ M2 _ ⟨st, v2, v3, v4, v5, v6, v7, v8, v9, v10, hp, hst, ht2, rfl⟩ K hK
  rw [u29]
  refine seq_mid (fun ρ' M' => ∃ y st, Yok y ∧ y.length ≤ 4 ∧ M' p = some (.lst st) ∧ StOk st ∧ M' tabP = some (.tab tabQ) ∧ ρ' = [some (.list (ns.map PyData.int)), some (rf p), some d, some (yd y), v4, v5, v6, v7, v8, v9, v10]) ?_ ?_
  · intro R hR
    refine ⟨p, st, 4, rfl, hp, hst, by omega, by omega, fun y st' ok h4 hs' => ?_⟩
    exact hR _ _ ⟨y, st', ok, h4, mup_same, hs', by rw [mup_ne (fun z => by rw [z, hp] at ht2; cases ht2)]; exact ht2, rfl⟩
  clear hp hst ht2 st
  rintro _ M3 ⟨y, st, ok, h4, hp, hst, ht3, rfl⟩
  refine seq_mid (fun ρ' M' => ∃ a c f1 f2, SI y false f1 [] noP ∧ SI y true f2 [] noP ∧ Ok04 p a c f1 f2 M' ∧ ρ' = [some (.list (ns.map PyData.int)), some (rf p), some d, some (yd y), some (rf a), some (rf c), v6, v7, v8, v9, v10]) ?_ ?_
  · intro R hR
    refine ⟨y, false, rfl, ok, h4, fun a f1 ha S1 => ?_⟩
    refine ⟨y, true, rfl, ok, h4, fun c f2 hc S2 => ?_⟩
    have hac : a ≠ c := fun z => by rw [z, mup_same] at hc; cases hc
    have pa : p ≠ a := fun z => by rw [z, ha] at hp; cases hp
    have ta : tabP ≠ a := fun z => by rw [z, ha] at ht3; cases ht3
    have hc3 : M3 c = none := by rw [mup_ne (Ne.symm hac)] at hc; exact hc
    have pc : p ≠ c := fun z => by rw [z, hc3] at hp; cases hp
    have tc : tabP ≠ c := fun z => by rw [z, hc3] at ht3; cases ht3
    exact hR _ _ ⟨a, c, f1, f2, S1, S2, ⟨⟨st, by rw [mup_ne pc, mup_ne pa]; exact hp, hst⟩, by rw [mup_ne tc, mup_ne ta]; exact ht3, by rw [mup_ne hac, mup_same], mup_same⟩, rfl⟩
  clear hp hst ht3 st
  rintro _ M4 ⟨a, c, f1, f2, S1, S2, k4, rfl⟩
  refine seq_mid (fun ρ' M' => M' = M4 ∧ ρ' = [some (.list (ns.map PyData.int)), some (rf p), some d, some (yd y), some (rf a), some (rf c), v6, v7, v8, v9, v10]) ?_ ?_
  · intro R hR
    refine ⟨y, rfl, ok, ?_⟩
    refine ⟨a, f1, rfl, k4.fa, ?_⟩
    refine ⟨⟨rfl, rfl⟩, ?_⟩
    have t1 : PyData.eqv (vw (.int (reachI y)) M4) (vw (.int (f1.length : Nat)) M4) = true := by
      show decide (reachI y = (f1.length : Nat)) = true
      exact decide_eq_true (S1.count ok h4).symm
    simp only [t1, Bool.not_true, Bool.false_eq_true, if_false]
    exact hR _ _ ⟨rfl, rfl⟩
  rintro _ M4 ⟨rfl, rfl⟩
  refine seq_mid (fun ρ' M' => ∃ hs : List HK, hs.Perm (f1.map (·.1)) ∧ M' = M4 ∧ ρ' = [some (.list (ns.map PyData.int)), some (rf p), some d, some (yd y), some (rf a), some (rf c), some (.list (hs.map hD)), v7, v8, v9, v10]) ?_ ?_
  · intro R hR
    refine ⟨a, f1, rfl, k4.fa, fun h hm => ⟨keyL h, h, rfl, ?_, rfl, rfl⟩, fun _ hs hpm => hR _ _ ⟨hs, hpm, rfl, rfl⟩⟩
    have := (ok_keys ok S1 h hm).1
    omega
  rintro _ M4 ⟨hs, hpm, rfl, rfl⟩
  have hks : ∀ h ∈ hs, okN y h := fun h hm => ok_keys ok S1 h (hpm.mem_iff.mp hm)
  have hsl : hs.length < 1000 := by
    have h1 := (S1.boundL ok).2
    have h2 := lay_small ok h4
    rw [hpm.length_eq, List.length_map]
    omega
  have hs0 : 0 < hs.length := by
    have : hold y ∈ hs := hpm.mem_iff.mpr (lk_key.mp (by rw [S1.all ok (start_okN ok)]; rfl))
    exact List.length_pos_of_mem this
  have hsD : gLen [.list (hs.map hD)] = fun (M : Mem) (Q : DQ) => Q (.int (hs.length : Nat)) M := by
    funext M Q
    rw [u54, List.length_map]
  refine seq_mid (fun ρ' M' => ∃ gs : List HK, (∀ g ∈ gs, g.length = y.length ∧ Acy g) ∧ gs.length ≤ 8 ∧ Ok04 p a c f1 f2 M' ∧ ∃ v10, ρ' = [some (.list (ns.map PyData.int)), some (rf p), some d, some (yd y), some (rf a), some (rf c), some (.list (hs.map hD)), some (.list (gs.map hD)), v8, v9, v10]) ?_ ?_
  · intro R hR
    refine ⟨by decide, ?_⟩
    refine lc_rule (fun i acc M' => ∃ gs : List HK, acc = gs.map hD ∧ gs.length = i ∧ (∀ g ∈ gs, g.length = y.length ∧ Acy g) ∧ Ok04 p a c f1 f2 M') [] ⟨[], rfl, rfl, by simp, k4⟩ ?_ ?_
    · rintro i d0 acc M5 hd ⟨gs, rfl, hgl, hg, k5⟩ K2 hK2
      have hi : i < 8 := by
        have := (List.getElem?_eq_some_iff.mp hd).1
        rw [rngD_len] at this
        exact this
      obtain ⟨st, hp, hst⟩ := k5.st
      rw [u29, u34, if_pos rfl]
      have hdr : sp__law_drawn [rf p, .int ((hs.map hD).length : Nat)] M5 (fun r M6 => gIx (.list (hs.map hD)) r M6 fun x M3 => (gs.map hD).length < sizeLine ∧ K2 (gs.map hD ++ [x]) M3) noX := by
        rw [show (hs.map hD).length = hs.length from List.length_map ..]
        refine ⟨p, st, hs.length, rfl, hp, hst, by omega, by omega, fun r st' hr hst' => ?_⟩
        obtain ⟨g, hg'⟩ := get_lt (l := hs) rfl (show r < hs.length by omega)
        rw [u52, atI_nat', List.getElem?_map, hg']
        refine ⟨by rw [List.length_map, sizeLine_eq]; omega, hK2 _ _ ⟨gs ++ [g], by simp, by simp [hgl], fun g' hm => ?_, k5.set hst'⟩⟩
        rcases List.mem_append.mp hm with z | z
        · exact hg g' z
        · rw [List.mem_singleton.mp z]
          exact ⟨(hks g (List.mem_of_getElem? hg')).1, (hks g (List.mem_of_getElem? hg')).2.1⟩
      exact hdr
    · rintro acc M5 ⟨gs, rfl, hgl, hg, k5⟩
      exact hR _ _ ⟨gs, hg, by rw [hgl, rngD_len]; decide, k5, _, rfl⟩
  clear k4
  rintro _ M4 ⟨gs, hgs, hg8, k4, w10, rfl⟩
  refine ⟨by decide, ?_⟩
  refine lc_rule (fun i acc M' => ∃ gs : List HK, acc = gs.map hD ∧ gs.length = i ∧ (∀ g ∈ gs, g.length = y.length ∧ Acy g) ∧ Ok04 p a c f1 f2 M') [] ⟨[], rfl, rfl, by simp, k4⟩ ?_ ?_
  · rintro i d0 acc M5 hd ⟨gs, rfl, hgl, hg, k5⟩ K2 hK2
    have hi : i < 6 := by
      have := (List.getElem?_eq_some_iff.mp hd).1
      rw [rngD_len] at this
      exact this
    obtain ⟨st, hp, hst⟩ := k5.st
    rw [u29, u34, if_pos rfl]
    have hdr : sp__law_goal [rf p, yd y] M5 (fun x M3 => (gs.map hD).length < sizeLine ∧ K2 (gs.map hD ++ [x]) M3) noX := by
      refine ⟨p, st, y, rfl, hp, hst, ok, fun g st' h1 h2 h3 => ?_⟩
      refine ⟨by rw [List.length_map, sizeLine_eq]; omega, hK2 _ _ ⟨gs ++ [g], by simp, by simp [hgl], fun g' hm => ?_, k5.set h3⟩⟩
      rcases List.mem_append.mp hm with z | z
      · exact hg g' z
      · rw [List.mem_singleton.mp z]
        exact ⟨h1, h2⟩
    exact hdr
  · rintro acc M5 ⟨gs2, rfl, hgl, hg2, k5⟩
    rw [rngD_len] at hgl
    have hgl : gs2.length = 6 := hgl
    refine ⟨by rw [List.length_map, List.length_map, sizeLine_eq]; omega, ?_⟩
    rw [← List.map_append]
    refine for_rule (fun i ρ M' => ∃ v8 v9, Ok04 p a c f1 f2 M' ∧ ρ = [some (.list (ns.map PyData.int)), some (rf p), some d, some (yd y), some (rf a), some (rf c), some (.list (hs.map hD)), some (.list (gs.map hD)), v8, v9, w10]) ⟨v8, v9, k5, rfl⟩ ?_ ?_
    · rintro i d1 ρ M6 hd1 ⟨v8, v9, k6, rfl⟩ K2 hK2
      rw [List.getElem?_map] at hd1
      obtain ⟨g, hg', rfl⟩ := Option.map_eq_some_iff.mp hd1
      have hm := List.mem_of_getElem? hg'
      have hgg : g.length = y.length ∧ Acy g := by
        rcases List.mem_append.mp hm with z | z
        · exact hgs g z
        · exact hg2 g z
      rw [u29]
      exact goal_turn (v9 := v9) (v10 := w10) ok S1 S2 k6 hgg.1 hgg.2 fun v9' => hK2 _ _ ⟨_, v9', k6, rfl⟩
    · rintro ρ M6 ⟨v8, v9, k6, rfl⟩
      obtain ⟨st, hp, hst⟩ := k6.st
      exact hK _ _ ⟨st, _, _, _, _, _, _, _, _, _, hp, hst, k6.tab, rfl⟩
end Nb
set_option Elab.async false
set_option linter.all false
set_option maxRecDepth 100000
set_option maxHeartbeats 1000000
set_option autoImplicit false
namespace Nb
open PySem PySem.Spec PyProof.Rows L2
def topS (i : Nat) : Stmt := PySem.Challenge.pw_nestboxes_k04_all_nestings_by_search.main.body.getD i (.Pass ⟨0, 0, 0, 0⟩)
theorem len_is_number : ∀ ds M Q E, sp_is_number ds M Q E → ds.length = 3 := by
  intro ds M Q E h
  unfold sp_is_number at h
  try unfold badYB at h
  try unfold badYG at h
  try unfold badYW at h
  repeat' (first | (cases h with | inl h => ?_ | inr h => ?_) | (obtain ⟨_, h⟩ := h))
  all_goals (subst_vars; rfl)
theorem len_is_price : ∀ ds M Q E, sp_is_price ds M Q E → ds.length = 1 := by
  intro ds M Q E h
  unfold sp_is_price at h
  try unfold badYB at h
  try unfold badYG at h
  try unfold badYW at h
  repeat' (first | (cases h with | inl h => ?_ | inr h => ?_) | (obtain ⟨_, h⟩ := h))
  all_goals (subst_vars; rfl)
theorem len_is_holder : ∀ ds M Q E, sp_is_holder ds M Q E → ds.length = 2 := by
  intro ds M Q E h
  unfold sp_is_holder at h
  try unfold badYB at h
  try unfold badYG at h
  try unfold badYW at h
  repeat' (first | (cases h with | inl h => ?_ | inr h => ?_) | (obtain ⟨_, h⟩ := h))
  all_goals (subst_vars; rfl)
theorem len_holders_of : ∀ ds M Q E, sp_holders_of ds M Q E → ds.length = 1 := by
  intro ds M Q E h
  unfold sp_holders_of at h
  try unfold badYB at h
  try unfold badYG at h
  try unfold badYW at h
  repeat' (first | (cases h with | inl h => ?_ | inr h => ?_) | (obtain ⟨_, h⟩ := h))
  all_goals (subst_vars; rfl)
theorem len_ring_from : ∀ ds M Q E, sp_ring_from ds M Q E → ds.length = 2 := by
  intro ds M Q E h
  unfold sp_ring_from at h
  try unfold badYB at h
  try unfold badYG at h
  try unfold badYW at h
  repeat' (first | (cases h with | inl h => ?_ | inr h => ?_) | (obtain ⟨_, h⟩ := h))
  all_goals (subst_vars; rfl)
theorem len_first_in_itself : ∀ ds M Q E, sp_first_in_itself ds M Q E → ds.length = 1 := by
  intro ds M Q E h
  unfold sp_first_in_itself at h
  try unfold badYB at h
  try unfold badYG at h
  try unfold badYW at h
  repeat' (first | (cases h with | inl h => ?_ | inr h => ?_) | (obtain ⟨_, h⟩ := h))
  all_goals (subst_vars; rfl)
theorem len_need_yard : ∀ ds M Q E, sp_need_yard ds M Q E → ds.length = 1 := by
  intro ds M Q E h
  unfold sp_need_yard at h
  try unfold badYB at h
  try unfold badYG at h
  try unfold badYW at h
  repeat' (first | (cases h with | inl h => ?_ | inr h => ?_) | (obtain ⟨_, h⟩ := h))
  all_goals (subst_vars; rfl)
theorem len_need_goal : ∀ ds M Q E, sp_need_goal ds M Q E → ds.length = 2 := by
  intro ds M Q E h
  unfold sp_need_goal at h
  try unfold badYB at h
  try unfold badYG at h
  try unfold badYW at h
  repeat' (first | (cases h with | inl h => ?_ | inr h => ?_) | (obtain ⟨_, h⟩ := h))
  all_goals (subst_vars; rfl)
theorem len_chain_of : ∀ ds M Q E, sp_chain_of ds M Q E → ds.length = 2 := by
  intro ds M Q E h
  unfold sp_chain_of at h
  try unfold badYB at h
  try unfold badYG at h
  try unfold badYW at h
  repeat' (first | (cases h with | inl h => ?_ | inr h => ?_) | (obtain ⟨_, h⟩ := h))
  all_goals (subst_vars; rfl)
theorem len_Task_init : ∀ ds M Q E, sp_Task_init ds M Q E → ds.length = 3 := by
  intro ds M Q E h
  unfold sp_Task_init at h
  try unfold badYB at h
  try unfold badYG at h
  try unfold badYW at h
  repeat' (first | (cases h with | inl h => ?_ | inr h => ?_) | (obtain ⟨_, h⟩ := h))
  all_goals (subst_vars; rfl)
theorem len_Task_may : ∀ ds M Q E, sp_Task_may ds M Q E → ds.length = 1 := by
  intro ds M Q E h
  unfold sp_Task_may at h
  try unfold badYB at h
  try unfold badYG at h
  try unfold badYW at h
  repeat' (first | (cases h with | inl h => ?_ | inr h => ?_) | (obtain ⟨_, h⟩ := h))
  all_goals (subst_vars; rfl)
theorem len_Task_cost : ∀ ds M Q E, sp_Task_cost ds M Q E → ds.length = 1 := by
  intro ds M Q E h
  unfold sp_Task_cost at h
  try unfold badYB at h
  try unfold badYG at h
  try unfold badYW at h
  repeat' (first | (cases h with | inl h => ?_ | inr h => ?_) | (obtain ⟨_, h⟩ := h))
  all_goals (subst_vars; rfl)
theorem len_Task_way : ∀ ds M Q E, sp_Task_way ds M Q E → ds.length = 1 := by
  intro ds M Q E h
  unfold sp_Task_way at h
  try unfold badYB at h
  try unfold badYG at h
  try unfold badYW at h
  repeat' (first | (cases h with | inl h => ?_ | inr h => ?_) | (obtain ⟨_, h⟩ := h))
  all_goals (subst_vars; rfl)
theorem len_task_of : ∀ ds M Q E, sp_task_of ds M Q E → ds.length = 2 := by
  intro ds M Q E h
  unfold sp_task_of at h
  try unfold badYB at h
  try unfold badYG at h
  try unfold badYW at h
  repeat' (first | (cases h with | inl h => ?_ | inr h => ?_) | (obtain ⟨_, h⟩ := h))
  all_goals (subst_vars; rfl)
theorem len_least : ∀ ds M Q E, sp_least ds M Q E → ds.length = 2 := by
  intro ds M Q E h
  unfold sp_least at h
  try unfold badYB at h
  try unfold badYG at h
  try unfold badYW at h
  repeat' (first | (cases h with | inl h => ?_ | inr h => ?_) | (obtain ⟨_, h⟩ := h))
  all_goals (subst_vars; rfl)
theorem len_fewest : ∀ ds M Q E, sp_fewest ds M Q E → ds.length = 2 := by
  intro ds M Q E h
  unfold sp_fewest at h
  try unfold badYB at h
  try unfold badYG at h
  try unfold badYW at h
  repeat' (first | (cases h with | inl h => ?_ | inr h => ?_) | (obtain ⟨_, h⟩ := h))
  all_goals (subst_vars; rfl)
theorem len_top_of : ∀ ds M Q E, sp_top_of ds M Q E → ds.length = 2 := by
  intro ds M Q E h
  unfold sp_top_of at h
  try unfold badYB at h
  try unfold badYG at h
  try unfold badYW at h
  repeat' (first | (cases h with | inl h => ?_ | inr h => ?_) | (obtain ⟨_, h⟩ := h))
  all_goals (subst_vars; rfl)
theorem len_reach : ∀ ds M Q E, sp_reach ds M Q E → ds.length = 1 := by
  intro ds M Q E h
  unfold sp_reach at h
  try unfold badYB at h
  try unfold badYG at h
  try unfold badYW at h
  repeat' (first | (cases h with | inl h => ?_ | inr h => ?_) | (obtain ⟨_, h⟩ := h))
  all_goals (subst_vars; rfl)
theorem len__law_start : ∀ ds M Q E, sp__law_start ds M Q E → ds.length = 1 := by
  intro ds M Q E h
  unfold sp__law_start at h
  try unfold badYB at h
  try unfold badYG at h
  try unfold badYW at h
  repeat' (first | (cases h with | inl h => ?_ | inr h => ?_) | (obtain ⟨_, h⟩ := h))
  all_goals (subst_vars; rfl)
theorem len__law_drawn : ∀ ds M Q E, sp__law_drawn ds M Q E → ds.length = 2 := by
  intro ds M Q E h
  unfold sp__law_drawn at h
  try unfold badYB at h
  try unfold badYG at h
  try unfold badYW at h
  repeat' (first | (cases h with | inl h => ?_ | inr h => ?_) | (obtain ⟨_, h⟩ := h))
  all_goals (subst_vars; rfl)
theorem len__law_turned : ∀ ds M Q E, sp__law_turned ds M Q E → ds.length = 2 := by
  intro ds M Q E h
  unfold sp__law_turned at h
  try unfold badYB at h
  try unfold badYG at h
  try unfold badYW at h
  repeat' (first | (cases h with | inl h => ?_ | inr h => ?_) | (obtain ⟨_, h⟩ := h))
  all_goals (subst_vars; rfl)
theorem len__law_nesting : ∀ ds M Q E, sp__law_nesting ds M Q E → ds.length = 2 := by
  intro ds M Q E h
  unfold sp__law_nesting at h
  try unfold badYB at h
  try unfold badYG at h
  try unfold badYW at h
  repeat' (first | (cases h with | inl h => ?_ | inr h => ?_) | (obtain ⟨_, h⟩ := h))
  all_goals (subst_vars; rfl)
theorem len__law_yard : ∀ ds M Q E, sp__law_yard ds M Q E → ds.length = 2 := by
  intro ds M Q E h
  unfold sp__law_yard at h
  try unfold badYB at h
  try unfold badYG at h
  try unfold badYW at h
  repeat' (first | (cases h with | inl h => ?_ | inr h => ?_) | (obtain ⟨_, h⟩ := h))
  all_goals (subst_vars; rfl)
theorem len__law_up : ∀ ds M Q E, sp__law_up ds M Q E → ds.length = 2 := by
  intro ds M Q E h
  unfold sp__law_up at h
  try unfold badYB at h
  try unfold badYG at h
  try unfold badYW at h
  repeat' (first | (cases h with | inl h => ?_ | inr h => ?_) | (obtain ⟨_, h⟩ := h))
  all_goals (subst_vars; rfl)
theorem len__law_goal : ∀ ds M Q E, sp__law_goal ds M Q E → ds.length = 2 := by
  intro ds M Q E h
  unfold sp__law_goal at h
  try unfold badYB at h
  try unfold badYG at h
  try unfold badYW at h
  repeat' (first | (cases h with | inl h => ?_ | inr h => ?_) | (obtain ⟨_, h⟩ := h))
  all_goals (subst_vars; rfl)
theorem len__law_nexts : ∀ ds M Q E, sp__law_nexts ds M Q E → ds.length = 2 := by
  intro ds M Q E h
  unfold sp__law_nexts at h
  try unfold badYB at h
  try unfold badYG at h
  try unfold badYW at h
  repeat' (first | (cases h with | inl h => ?_ | inr h => ?_) | (obtain ⟨_, h⟩ := h))
  all_goals (subst_vars; rfl)
theorem len__law_costs : ∀ ds M Q E, sp__law_costs ds M Q E → ds.length = 2 := by
  intro ds M Q E h
  unfold sp__law_costs at h
  try unfold badYB at h
  try unfold badYG at h
  try unfold badYW at h
  repeat' (first | (cases h with | inl h => ?_ | inr h => ?_) | (obtain ⟨_, h⟩ := h))
  all_goals (subst_vars; rfl)
theorem len__law_key : ∀ ds M Q E, sp__law_key ds M Q E → ds.length = 1 := by
  intro ds M Q E h
  unfold sp__law_key at h
  try unfold badYB at h
  try unfold badYG at h
  try unfold badYW at h
  repeat' (first | (cases h with | inl h => ?_ | inr h => ?_) | (obtain ⟨_, h⟩ := h))
  all_goals (subst_vars; rfl)
theorem len_law : ∀ ds M Q E, sp_law ds M Q E → ds.length = 1 := by
  intro ds M Q E h
  unfold sp_law at h
  try unfold badYB at h
  try unfold badYG at h
  try unfold badYW at h
  repeat' (first | (cases h with | inl h => ?_ | inr h => ?_) | (obtain ⟨_, h⟩ := h))
  all_goals (subst_vars; rfl)
section
variable {P : Program} {w : World} {K : PySem.W.Frag} {mg : Str → Option Value} {base : Heap}
abbrev st_is_number : Stmt := topS 8
theorem sc_is_number : FnScope ["thing", "low", "high"] ["thing", "low", "high"] (defScope st_is_number) := ⟨rfl, rfl, rfl, by decide +kernel, rfl, by decide +kernel, by decide +kernel⟩
theorem ok_is_number (B : Blt mg) (A : FunAt K mg "is_number" st_is_number ["thing", "low", "high"])  : HasFn P w K mg base "is_number" 1 sp_is_number :=
  A.has fun f fd F => dfn_gc bd_is_number F sc_is_number len_is_number (fun cdv A outer s0 H E hr => by
    have nd := sc_is_number.nd
    have tk := takes_of (X := cxOf (L2.CX P w) P w K mg base ["thing", "low", "high"] "is_number" (defScope st_is_number) f cdv A outer s0 H E) (E := E) rfl rfl rfl rfl
    have po := passes_of (X := cxOf (L2.CX P w) P w K mg base ["thing", "low", "high"] "is_number" (defScope st_is_number) f cdv A outer s0 H E) rfl
    exact (ss_one (es_ret (ee_and (ee_isi .int B.isinstance B.int (by decide +kernel) (ee_var 0)) (ee_and (ee_not (ee_isi .bool B.isinstance B.bool (by decide +kernel) (ee_var 0))) (ee_one (ee_chain og_le og_le (ee_var 1) (ee_var 0) (ee_var 2)))))))) pure_is_number
abbrev st_is_price : Stmt := topS 9
theorem sc_is_price : FnScope ["thing"] ["thing"] (defScope st_is_price) := ⟨rfl, rfl, rfl, by decide +kernel, rfl, by decide +kernel, by decide +kernel⟩
theorem ok_is_price (B : Blt mg) (A : FunAt K mg "is_price" st_is_price ["thing"]) (g_MOST_PRICE : ∃ t, mg "MOST_PRICE" = some (.int 99 t)) (h_is_number : HasFn P w K mg base "is_number" 1 sp_is_number) : HasFn P w K mg base "is_price" 2 sp_is_price :=
  A.has fun f fd F => dfn_gc bd_is_price F sc_is_price len_is_price (fun cdv A outer s0 H E hr => by
    have nd := sc_is_price.nd
    have tk := takes_of (X := cxOf (L2.CX P w) P w K mg base ["thing"] "is_price" (defScope st_is_price) f cdv A outer s0 H E) (E := E) rfl rfl rfl rfl
    have po := passes_of (X := cxOf (L2.CX P w) P w K mg base ["thing"] "is_price" (defScope st_is_price) f cdv A outer s0 H E) rfl
    exact (ss_one (es_ret (ee_or (ee_cmp og_isN (ee_var 0) ee_non) (ee_one (ee_callH h_is_number (hr.mono (by decide)) tk (ea_cons (ee_var 0) (ea_cons ee_int (ea_cons (ee_glob (v := .int 99) g_MOST_PRICE.choose_spec ⟨_, rfl⟩ (fun _ => Rp.int.mpr rfl)) ea_nil))))))))) pure_is_price
abbrev st_is_holder : Stmt := topS 10
theorem sc_is_holder : FnScope ["thing", "many"] ["thing", "many"] (defScope st_is_holder) := ⟨rfl, rfl, rfl, by decide +kernel, rfl, by decide +kernel, by decide +kernel⟩
theorem ok_is_holder (B : Blt mg) (A : FunAt K mg "is_holder" st_is_holder ["thing", "many"]) (h_is_number : HasFn P w K mg base "is_number" 1 sp_is_number) : HasFn P w K mg base "is_holder" 2 sp_is_holder :=
  A.has fun f fd F => dfn_gc bd_is_holder F sc_is_holder len_is_holder (fun cdv A outer s0 H E hr => by
    have nd := sc_is_holder.nd
    have tk := takes_of (X := cxOf (L2.CX P w) P w K mg base ["thing", "many"] "is_holder" (defScope st_is_holder) f cdv A outer s0 H E) (E := E) rfl rfl rfl rfl
    have po := passes_of (X := cxOf (L2.CX P w) P w K mg base ["thing", "many"] "is_holder" (defScope st_is_holder) f cdv A outer s0 H E) rfl
    exact (ss_one (es_ret (ee_or (ee_cmp og_isN (ee_var 0) ee_non) (ee_one (ee_callH h_is_number (hr.mono (by decide)) tk (ea_cons (ee_var 0) (ea_cons ee_int (ea_cons (ee_op og_sub (ee_var 1) ee_int) ea_nil))))))))) pure_is_holder
abbrev st_holders_of : Stmt := topS 11
theorem sc_holders_of : FnScope ["yard", "price", "holder"] ["yard"] (defScope st_holders_of) := ⟨rfl, rfl, rfl, by decide +kernel, rfl, by decide +kernel, by decide +kernel⟩
theorem ok_holders_of (B : Blt mg) (A : FunAt K mg "holders_of" st_holders_of ["yard"])  : HasFn P w K mg base "holders_of" 1 sp_holders_of :=
  A.has fun f fd F => dfn_gc bd_holders_of F sc_holders_of len_holders_of (fun cdv A outer s0 H E hr => by
    have nd := sc_holders_of.nd
    have tk := takes_of (X := cxOf (L2.CX P w) P w K mg base ["yard", "price", "holder"] "holders_of" (defScope st_holders_of) f cdv A outer s0 H E) (E := E) rfl rfl rfl rfl
    have po := passes_of (X := cxOf (L2.CX P w) P w K mg base ["yard", "price", "holder"] "holders_of" (defScope st_holders_of) f cdv A outer s0 H E) rfl
    exact (ss_one (es_ret (ee_callTy cg_tuple B.tuple (by decide +kernel) (ea_cons (ee_lc (own := [("price", 1), ("holder", 2)]) rfl nd (ei_seq (ee_var 0)) (blkOk_by (N := ["yard", "price", "holder"]) (sc := defScope st_holders_of) (by decide +kernel)) (fun _ _ _ _ _ => (evg_tup rfl (evgs_cons (evg_name nd) (evgs_cons (evg_name nd) evgs_nil)))) (fun _ _ _ _ _ => ets_nil) (fun _ _ _ _ _ => (ee_var 2))) ea_nil))))) pure_holders_of
abbrev st_ring_from : Stmt := topS 12
theorem sc_ring_from : FnScope ["holders", "box", "path", "here"] ["holders", "box"] (defScope st_ring_from) := ⟨rfl, rfl, rfl, by decide +kernel, rfl, by decide +kernel, by decide +kernel⟩
theorem ok_ring_from (B : Blt mg) (A : FunAt K mg "ring_from" st_ring_from ["holders", "box"])  : HasFn P w K mg base "ring_from" 1 sp_ring_from :=
  A.has fun f fd F => dfn_gc bd_ring_from F sc_ring_from len_ring_from (fun cdv A outer s0 H E hr => by
    have nd := sc_ring_from.nd
    have tk := takes_of (X := cxOf (L2.CX P w) P w K mg base ["holders", "box", "path", "here"] "ring_from" (defScope st_ring_from) f cdv A outer s0 H E) (E := E) rfl rfl rfl rfl
    have po := passes_of (X := cxOf (L2.CX P w) P w K mg base ["holders", "box", "path", "here"] "ring_from" (defScope st_ring_from) f cdv A outer s0 H E) rfl
    exact (ss_cons (es_par rfl nd (ea_cons (ee_lstL ea_nil) (ea_cons (ee_var 1) ea_nil)))
  (ss_cons (es_while po (et_w (ew_and (et_cmp og_notN (ee_var 3) ee_non) (ew_and1 (et_cmp og_notIn (ee_var 3) (ee_var 2))))) (ss_cons (es_expr (ee_bmL PySem.F.slot_list_append PySem.F.type_list_append mg_append (ee_var 2) (ea_cons (ee_var 3) ea_nil)))
  (ss_one (es_set nd (ee_ix (ee_var 0) (ee_var 3))))))
  (ss_one (es_ret (ee_if (et_cmp og_isN (ee_var 3) ee_non) (ee_lst ea_nil) (ee_slice (ee_var 2) (eo_some (ee_bmL PySem.F.slot_list_index PySem.F.type_list_index mg_index (ee_var 2) (ea_cons (ee_var 3) ea_nil))) eo_none))))))) pure_ring_from
abbrev st_first_in_itself : Stmt := topS 13
theorem sc_first_in_itself : FnScope ["holders", "box"] ["holders"] (defScope st_first_in_itself) := ⟨rfl, rfl, rfl, by decide +kernel, rfl, by decide +kernel, by decide +kernel⟩
theorem ok_first_in_itself (B : Blt mg) (A : FunAt K mg "first_in_itself" st_first_in_itself ["holders"]) (h_ring_from : HasFn P w K mg base "ring_from" 1 sp_ring_from) : HasFn P w K mg base "first_in_itself" 2 sp_first_in_itself :=
  A.has fun f fd F => dfn_gc bd_first_in_itself F sc_first_in_itself len_first_in_itself (fun cdv A outer s0 H E hr => by
    have nd := sc_first_in_itself.nd
    have tk := takes_of (X := cxOf (L2.CX P w) P w K mg base ["holders", "box"] "first_in_itself" (defScope st_first_in_itself) f cdv A outer s0 H E) (E := E) rfl rfl rfl rfl
    have po := passes_of (X := cxOf (L2.CX P w) P w K mg base ["holders", "box"] "first_in_itself" (defScope st_first_in_itself) f cdv A outer s0 H E) rfl
    exact (ss_cons (es_for po rfl (ei_range1 B.range (ea_cons (ee_callB cg_len B.len (by decide +kernel) (ea_cons (ee_var 0) ea_nil)) ea_nil)) (eg_name nd) (ss_one (es_if (et_cmp og_in (ee_var 1) (ee_callH h_ring_from (hr.mono (by decide)) tk (ea_cons (ee_var 0) (ea_cons (ee_var 1) ea_nil)))) (ss_one (es_ret (ee_var 1))) ss_nil)))
  (ss_one (es_ret ee_non)))) pure_first_in_itself
abbrev st_need_yard : Stmt := topS 14
theorem sc_need_yard : FnScope ["yard", "number", "box"] ["yard"] (defScope st_need_yard) := ⟨rfl, rfl, rfl, by decide +kernel, rfl, by decide +kernel, by decide +kernel⟩
theorem ok_need_yard (B : Blt mg) (A : FunAt K mg "need_yard" st_need_yard ["yard"]) (x_BadYard : HasX1 P w K mg base "BadYard" "number") (g_MOST_BOXES : ∃ t, mg "MOST_BOXES" = some (.int 12 t)) (h_is_holder : HasFn P w K mg base "is_holder" 2 sp_is_holder) (h_is_price : HasFn P w K mg base "is_price" 2 sp_is_price) (h_holders_of : HasFn P w K mg base "holders_of" 1 sp_holders_of) (h_first_in_itself : HasFn P w K mg base "first_in_itself" 2 sp_first_in_itself) : HasFn P w K mg base "need_yard" 3 sp_need_yard :=
  A.has fun f fd F => dfn_gc bd_need_yard F sc_need_yard len_need_yard (fun cdv A outer s0 H E hr => by
    have nd := sc_need_yard.nd
    have tk := takes_of (X := cxOf (L2.CX P w) P w K mg base ["yard", "number", "box"] "need_yard" (defScope st_need_yard) f cdv A outer s0 H E) (E := E) rfl rfl rfl rfl
    have po := passes_of (X := cxOf (L2.CX P w) P w K mg base ["yard", "number", "box"] "need_yard" (defScope st_need_yard) f cdv A outer s0 H E) rfl
    exact (ss_cons (es_if (et_w (ew_or (et_not (et_val (ee_isi .tuple B.isinstance B.tuple (by decide +kernel) (ee_var 0)))) (ew_or1 (et_cmp (og_eq hr.units) (ee_var 0) (ee_tup ea_nil))))) (ss_one (es_raise1 x_BadYard (hr.mono (by decide)) rfl tk ee_int)) ss_nil)
  (ss_cons (es_for po rfl (ei_enum B.enumerate (ea_cons (ee_var 0) ea_nil)) (eg_tup rfl (egs_cons (eg_name nd) (egs_cons (eg_name nd) egs_nil))) (ss_cons (es_if (et_w (ew_or (et_cmp (og_eq hr.units) (ee_var 1) (ee_glob (v := .int 12) g_MOST_BOXES.choose_spec ⟨_, rfl⟩ (fun _ => Rp.int.mpr rfl))) (ew_or (et_not (et_val (ee_isi .tuple B.isinstance B.tuple (by decide +kernel) (ee_var 2)))) (ew_or1 (et_cmp (og_ne hr.units) (ee_callB cg_len B.len (by decide +kernel) (ea_cons (ee_var 2) ea_nil)) ee_int))))) (ss_one (es_raise1 x_BadYard (hr.mono (by decide)) rfl tk (ee_var 1))) ss_nil)
  (ss_one (es_if (et_w (ew_or (et_not (et_val (ee_callH h_is_price (hr.mono (by decide)) tk (ea_cons (ee_ix (ee_var 2) ee_int) ea_nil)))) (ew_or1 (et_not (et_val (ee_callH h_is_holder (hr.mono (by decide)) tk (ea_cons (ee_ix (ee_var 2) ee_int) (ea_cons (ee_callB cg_len B.len (by decide +kernel) (ea_cons (ee_var 0) ea_nil)) ea_nil)))))))) (ss_one (es_raise1 x_BadYard (hr.mono (by decide)) rfl tk (ee_var 1))) ss_nil))))
  (ss_cons (es_set nd (ee_callH h_first_in_itself (hr.mono (by decide)) tk (ea_cons (ee_callH h_holders_of (hr.mono (by decide)) tk (ea_cons (ee_var 0) ea_nil)) ea_nil)))
  (ss_one (es_if (et_cmp og_notN (ee_var 1) ee_non) (ss_one (es_raise1 x_BadYard (hr.mono (by decide)) rfl tk (ee_var 1))) ss_nil)))))) pure_need_yard
abbrev st_need_goal : Stmt := topS 15
theorem sc_need_goal : FnScope ["yard", "goal", "number", "holder"] ["yard", "goal"] (defScope st_need_goal) := ⟨rfl, rfl, rfl, by decide +kernel, rfl, by decide +kernel, by decide +kernel⟩
theorem ok_need_goal (B : Blt mg) (A : FunAt K mg "need_goal" st_need_goal ["yard", "goal"]) (x_BadGoal : HasX1 P w K mg base "BadGoal" "number") (h_is_holder : HasFn P w K mg base "is_holder" 2 sp_is_holder) (h_first_in_itself : HasFn P w K mg base "first_in_itself" 2 sp_first_in_itself) : HasFn P w K mg base "need_goal" 3 sp_need_goal :=
  A.has fun f fd F => dfn_gc bd_need_goal F sc_need_goal len_need_goal (fun cdv A outer s0 H E hr => by
    have nd := sc_need_goal.nd
    have tk := takes_of (X := cxOf (L2.CX P w) P w K mg base ["yard", "goal", "number", "holder"] "need_goal" (defScope st_need_goal) f cdv A outer s0 H E) (E := E) rfl rfl rfl rfl
    have po := passes_of (X := cxOf (L2.CX P w) P w K mg base ["yard", "goal", "number", "holder"] "need_goal" (defScope st_need_goal) f cdv A outer s0 H E) rfl
    exact (ss_cons (es_if (et_not (et_val (ee_isi .tuple B.isinstance B.tuple (by decide +kernel) (ee_var 1)))) (ss_one (es_raise1 x_BadGoal (hr.mono (by decide)) rfl tk ee_int)) ss_nil)
  (ss_cons (es_for po rfl (ei_enum B.enumerate (ea_cons (ee_var 1) ea_nil)) (eg_tup rfl (egs_cons (eg_name nd) (egs_cons (eg_name nd) egs_nil))) (ss_one (es_if (et_w (ew_or (et_cmp (og_eq hr.units) (ee_var 2) (ee_callB cg_len B.len (by decide +kernel) (ea_cons (ee_var 0) ea_nil))) (ew_or1 (et_not (et_val (ee_callH h_is_holder (hr.mono (by decide)) tk (ea_cons (ee_var 3) (ea_cons (ee_callB cg_len B.len (by decide +kernel) (ea_cons (ee_var 0) ea_nil)) ea_nil)))))))) (ss_one (es_raise1 x_BadGoal (hr.mono (by decide)) rfl tk (ee_var 2))) ss_nil)))
  (ss_cons (es_if (et_cmp og_lt (ee_callB cg_len B.len (by decide +kernel) (ea_cons (ee_var 1) ea_nil)) (ee_callB cg_len B.len (by decide +kernel) (ea_cons (ee_var 0) ea_nil))) (ss_one (es_raise1 x_BadGoal (hr.mono (by decide)) rfl tk (ee_callB cg_len B.len (by decide +kernel) (ea_cons (ee_var 1) ea_nil)))) ss_nil)
  (ss_cons (es_set nd (ee_callH h_first_in_itself (hr.mono (by decide)) tk (ea_cons (ee_var 1) ea_nil)))
  (ss_one (es_if (et_cmp og_notN (ee_var 2) ee_non) (ss_one (es_raise1 x_BadGoal (hr.mono (by decide)) rfl tk (ee_var 2))) ss_nil))))))) pure_need_goal
abbrev st_chain_of : Stmt := topS 16
theorem sc_chain_of : FnScope ["holders", "box", "found", "here"] ["holders", "box"] (defScope st_chain_of) := ⟨rfl, rfl, rfl, by decide +kernel, rfl, by decide +kernel, by decide +kernel⟩
theorem ok_chain_of (B : Blt mg) (A : FunAt K mg "chain_of" st_chain_of ["holders", "box"])  : HasFn P w K mg base "chain_of" 1 sp_chain_of :=
  A.has fun f fd F => dfn_gc bd_chain_of F sc_chain_of len_chain_of (fun cdv A outer s0 H E hr => by
    have nd := sc_chain_of.nd
    have tk := takes_of (X := cxOf (L2.CX P w) P w K mg base ["holders", "box", "found", "here"] "chain_of" (defScope st_chain_of) f cdv A outer s0 H E) (E := E) rfl rfl rfl rfl
    have po := passes_of (X := cxOf (L2.CX P w) P w K mg base ["holders", "box", "found", "here"] "chain_of" (defScope st_chain_of) f cdv A outer s0 H E) rfl
    exact (ss_cons (es_par rfl nd (ea_cons (ee_lstL ea_nil) (ea_cons (ee_ix (ee_var 0) (ee_var 1)) ea_nil)))
  (ss_cons (es_while po (et_cmp og_notN (ee_var 3) ee_non) (ss_cons (es_expr (ee_bmL PySem.F.slot_list_append PySem.F.type_list_append mg_append (ee_var 2) (ea_cons (ee_var 3) ea_nil)))
  (ss_one (es_set nd (ee_ix (ee_var 0) (ee_var 3))))))
  (ss_one (es_ret (ee_frz (ee_var 2))))))) pure_chain_of
abbrev st_Task_init : Stmt := inClass (topS 18) 0
theorem sc_Task_init : FnScope ["self", "yard", "goal", "box"] ["self", "yard", "goal"] (defScope st_Task_init) := ⟨rfl, rfl, rfl, by decide +kernel, rfl, by decide +kernel, by decide +kernel⟩
theorem ok_Task_init (B : Blt mg) (A : MakeAt K mg "Task" L_Task "Task.__init__" st_Task_init ["self", "yard", "goal"]) (c_Task : HasCls K mg "Task" L_Task) (h_holders_of : HasFn P w K mg base "holders_of" 1 sp_holders_of) : HasMake P w K mg base "Task" L_Task 2 sp_Task_init :=
  A.has fun f fd F => dfn_gc bd_Task_init F sc_Task_init len_Task_init (fun cdv A outer s0 H E hr => by
    have nd := sc_Task_init.nd
    have tk := takes_of (X := cxOf (L2.CX P w) P w K mg base ["self", "yard", "goal", "box"] "Task.__init__" (defScope st_Task_init) f cdv A outer s0 H E) (E := E) rfl rfl rfl rfl
    have po := passes_of (X := cxOf (L2.CX P w) P w K mg base ["self", "yard", "goal", "box"] "Task.__init__" (defScope st_Task_init) f cdv A outer s0 H E) rfl
    exact (ss_cons (es_setFldH c_Task 0 (ee_var 0) (ee_var 1))
  (ss_cons (es_setFldH c_Task 1 (ee_var 0) (ee_var 2))
  (ss_cons (es_setFldH c_Task 2 (ee_var 0) (ee_callH h_holders_of (hr.mono (by decide)) tk (ea_cons (ee_var 1) ea_nil)))
  (ss_one (es_setFldH c_Task 3 (ee_var 0) (ee_lc (own := [("box", 3)]) rfl nd (ei_range1 B.range (ea_cons (ee_callB cg_len B.len (by decide +kernel) (ea_cons (ee_var 1) ea_nil)) ea_nil)) (blkOk_by (N := ["self", "yard", "goal", "box"]) (sc := defScope st_Task_init) (by decide +kernel)) (fun _ _ _ _ _ => (evg_name nd)) (fun _ _ _ _ _ => (ets_one (et_cmp (og_ne hr.units) (ee_ix (ee_fldH c_Task 2 (ee_var 0)) (ee_var 3)) (ee_ix (ee_var 2) (ee_var 3))))) (fun _ _ _ _ _ => (ee_var 3))))))))) pure_Task_init
abbrev st_Task_may : Stmt := inClass (topS 18) 1
theorem sc_Task_may : FnScope ["self", "box"] ["self"] (defScope st_Task_may) := ⟨rfl, rfl, rfl, by decide +kernel, rfl, by decide +kernel, by decide +kernel⟩
theorem ok_Task_may (B : Blt mg) (A : MethAt K mg "Task" L_Task "may" "Task.may" st_Task_may ["self"]) (c_Task : HasCls K mg "Task" L_Task) : HasMeth P w K mg base "Task" L_Task "may" 1 sp_Task_may :=
  A.has fun f fd F => dfn_gc bd_Task_may F sc_Task_may len_Task_may (fun cdv A outer s0 H E hr => by
    have nd := sc_Task_may.nd
    have tk := takes_of (X := cxOf (L2.CX P w) P w K mg base ["self", "box"] "Task.may" (defScope st_Task_may) f cdv A outer s0 H E) (E := E) rfl rfl rfl rfl
    have po := passes_of (X := cxOf (L2.CX P w) P w K mg base ["self", "box"] "Task.may" (defScope st_Task_may) f cdv A outer s0 H E) rfl
    exact (ss_one (es_ret (ee_not (ee_callB (cg_any rfl) B.any (by decide +kernel) (ea_cons (ee_lc (own := [("box", 1)]) rfl nd (ei_seq (ee_fldH c_Task 3 (ee_var 0))) (blkOk_by (N := ["self", "box"]) (sc := defScope st_Task_may) (by decide +kernel)) (fun _ _ _ _ _ => (evg_name nd)) (fun _ _ _ _ _ => ets_nil) (fun _ _ _ _ _ => (ee_cmp og_isN (ee_ix (ee_ix (ee_fldH c_Task 0 (ee_var 0)) (ee_var 1)) ee_int) ee_non))) ea_nil)))))) pure_Task_may
abbrev st_Task_cost : Stmt := inClass (topS 18) 2
theorem sc_Task_cost : FnScope ["self", "box"] ["self"] (defScope st_Task_cost) := ⟨rfl, rfl, rfl, by decide +kernel, rfl, by decide +kernel, by decide +kernel⟩
theorem ok_Task_cost (B : Blt mg) (A : MethAt K mg "Task" L_Task "cost" "Task.cost" st_Task_cost ["self"]) (c_Task : HasCls K mg "Task" L_Task) : HasMeth P w K mg base "Task" L_Task "cost" 1 sp_Task_cost :=
  A.has fun f fd F => dfn_gc bd_Task_cost F sc_Task_cost len_Task_cost (fun cdv A outer s0 H E hr => by
    have nd := sc_Task_cost.nd
    have tk := takes_of (X := cxOf (L2.CX P w) P w K mg base ["self", "box"] "Task.cost" (defScope st_Task_cost) f cdv A outer s0 H E) (E := E) rfl rfl rfl rfl
    have po := passes_of (X := cxOf (L2.CX P w) P w K mg base ["self", "box"] "Task.cost" (defScope st_Task_cost) f cdv A outer s0 H E) rfl
    exact (ss_one (es_ret (ee_callB (cg_sum rfl) B.sum (by decide +kernel) (ea_cons (ee_lc (own := [("box", 1)]) rfl nd (ei_seq (ee_fldH c_Task 3 (ee_var 0))) (blkOk_by (N := ["self", "box"]) (sc := defScope st_Task_cost) (by decide +kernel)) (fun _ _ _ _ _ => (evg_name nd)) (fun _ _ _ _ _ => ets_nil) (fun _ _ _ _ _ => (ee_ix (ee_ix (ee_fldH c_Task 0 (ee_var 0)) (ee_var 1)) ee_int))) ea_nil))))) pure_Task_cost
abbrev st_Task_way : Stmt := inClass (topS 18) 3
theorem sc_Task_way : FnScope ["self", "order", "box"] ["self"] (defScope st_Task_way) := ⟨rfl, rfl, rfl, by decide +kernel, rfl, by decide +kernel, by decide +kernel⟩
theorem ok_Task_way (B : Blt mg) (A : MethAtC K mg base "Task" L_Task "way" "Task.way" st_Task_way ["self"] tabP) (c_Task : HasCls K mg "Task" L_Task) (h_chain_of : HasFn P w K mg base "chain_of" 1 sp_chain_of) : HasMeth P w K mg base "Task" L_Task "way" 5 sp_Task_way :=
  A.has fun f fd cc F TB => dfnC_gc bd_Task_way F sc_Task_way len_Task_way (fun A outer s0 H E hr => by
    have nd := sc_Task_way.nd
    have tk := takes_of (X := cxOf (L2.CX P w) P w K mg base ["self", "order", "box"] "Task.way" (defScope st_Task_way) f (.ref cc) A outer s0 H E) (E := E) rfl rfl rfl rfl
    have po := passes_of (X := cxOf (L2.CX P w) P w K mg base ["self", "order", "box"] "Task.way" (defScope st_Task_way) f (.ref cc) A outer s0 H E) rfl
    exact (ss_cons (es_set nd (ee_sortKey (a := "box") (k := 1) ["box", "self"] ["self"] [0] TB rfl rfl (NdefX.nscope_by (by decide +kernel)) (by show NdefX.ndefB (defScope st_Task_way) _ _ = true; decide +kernel) (hr.mono (by decide)) B.sorted (ee_fldH c_Task 3 (ee_var 0)) (fun cl c' f' A' outer' s' H' hr => (ee_tup (ea_cons (ee_callB cg_len B.len (by decide +kernel) (ea_cons (ee_callH h_chain_of (hr.mono (by decide)) takes0 (ea_cons (ee_fldH c_Task 1 (ee_var 1)) (ea_cons (ee_var 0) ea_nil))) ea_nil)) (ea_cons (ee_var 0) ea_nil))))))
  (ss_one (es_ret (ee_lc (own := [("box", 2)]) rfl nd (ei_seq (ee_var 1)) (blkOk_by (N := ["self", "order", "box"]) (sc := defScope st_Task_way) (by decide +kernel)) (fun _ _ _ _ _ => (evg_name nd)) (fun _ _ _ _ _ => ets_nil) (fun _ _ _ _ _ => (ee_tup (ea_cons (ee_var 2) (ea_cons (ee_ix (ee_fldH c_Task 1 (ee_var 0)) (ee_var 2)) ea_nil))))))))) pure_Task_way
abbrev st_task_of : Stmt := topS 19
theorem sc_task_of : FnScope ["yard", "goal"] ["yard", "goal"] (defScope st_task_of) := ⟨rfl, rfl, rfl, by decide +kernel, rfl, by decide +kernel, by decide +kernel⟩
theorem ok_task_of (B : Blt mg) (A : FunAt K mg "task_of" st_task_of ["yard", "goal"]) (h_need_yard : HasFn P w K mg base "need_yard" 3 sp_need_yard) (h_need_goal : HasFn P w K mg base "need_goal" 3 sp_need_goal) (c_Task : HasCls K mg "Task" L_Task) (h_Task_init : HasMake P w K mg base "Task" L_Task 2 sp_Task_init) : HasFn P w K mg base "task_of" 4 sp_task_of :=
  A.has fun f fd F => dfn_of bd_task_of F sc_task_of len_task_of (fun cdv A outer s0 H E hr => by
    have nd := sc_task_of.nd
    have tk := takes_of (X := cxOf (L2.CX P w) P w K mg base ["yard", "goal"] "task_of" (defScope st_task_of) f cdv A outer s0 H E) (E := E) rfl rfl rfl rfl
    have po := passes_of (X := cxOf (L2.CX P w) P w K mg base ["yard", "goal"] "task_of" (defScope st_task_of) f cdv A outer s0 H E) rfl
    exact (ss_cons (es_expr (ee_callH h_need_yard (hr.mono (by decide)) tk (ea_cons (ee_var 0) ea_nil)))
  (ss_cons (es_expr (ee_callH h_need_goal (hr.mono (by decide)) tk (ea_cons (ee_var 0) (ea_cons (ee_var 1) ea_nil))))
  (ss_one (es_ret (ee_makeH h_Task_init (hr.mono (by decide)) tk (ea_cons (ee_var 0) (ea_cons (ee_var 1) ea_nil)))))))) pure_task_of
abbrev st_least : Stmt := topS 20
theorem sc_least : FnScope ["yard", "goal", "task"] ["yard", "goal"] (defScope st_least) := ⟨rfl, rfl, rfl, by decide +kernel, rfl, by decide +kernel, by decide +kernel⟩
theorem ok_least (B : Blt mg) (A : FunAt K mg "least" st_least ["yard", "goal"]) (h_task_of : HasFn P w K mg base "task_of" 4 sp_task_of) (h_Task_may : HasMeth P w K mg base "Task" L_Task "may" 1 sp_Task_may) (c_Task : HasCls K mg "Task" L_Task) (h_Task_cost : HasMeth P w K mg base "Task" L_Task "cost" 1 sp_Task_cost) (h_Task_way : HasMeth P w K mg base "Task" L_Task "way" 5 sp_Task_way) : HasFn P w K mg base "least" 6 sp_least :=
  A.has fun f fd F => dfn_gc bd_least F sc_least len_least (fun cdv A outer s0 H E hr => by
    have nd := sc_least.nd
    have tk := takes_of (X := cxOf (L2.CX P w) P w K mg base ["yard", "goal", "task"] "least" (defScope st_least) f cdv A outer s0 H E) (E := E) rfl rfl rfl rfl
    have po := passes_of (X := cxOf (L2.CX P w) P w K mg base ["yard", "goal", "task"] "least" (defScope st_least) f cdv A outer s0 H E) rfl
    exact (ss_cons (es_set nd (ee_callH h_task_of (hr.mono (by decide)) tk (ea_cons (ee_var 0) (ea_cons (ee_var 1) ea_nil))))
  (ss_one (es_ret (ee_if (et_val (ee_methH0 h_Task_may (hr.mono (by decide)) tk (ee_var 2))) (ee_tup (ea_cons (ee_methH0 h_Task_cost (hr.mono (by decide)) tk (ee_var 2)) (ea_cons (ee_methH0 h_Task_way (hr.mono (by decide)) tk (ee_var 2)) ea_nil))) ee_non))))) pure_least
abbrev st_fewest : Stmt := topS 21
theorem sc_fewest : FnScope ["yard", "goal", "task"] ["yard", "goal"] (defScope st_fewest) := ⟨rfl, rfl, rfl, by decide +kernel, rfl, by decide +kernel, by decide +kernel⟩
theorem ok_fewest (B : Blt mg) (A : FunAt K mg "fewest" st_fewest ["yard", "goal"]) (h_task_of : HasFn P w K mg base "task_of" 4 sp_task_of) (h_Task_may : HasMeth P w K mg base "Task" L_Task "may" 1 sp_Task_may) (c_Task : HasCls K mg "Task" L_Task) : HasFn P w K mg base "fewest" 5 sp_fewest :=
  A.has fun f fd F => dfn_gc bd_fewest F sc_fewest len_fewest (fun cdv A outer s0 H E hr => by
    have nd := sc_fewest.nd
    have tk := takes_of (X := cxOf (L2.CX P w) P w K mg base ["yard", "goal", "task"] "fewest" (defScope st_fewest) f cdv A outer s0 H E) (E := E) rfl rfl rfl rfl
    have po := passes_of (X := cxOf (L2.CX P w) P w K mg base ["yard", "goal", "task"] "fewest" (defScope st_fewest) f cdv A outer s0 H E) rfl
    exact (ss_cons (es_set nd (ee_callH h_task_of (hr.mono (by decide)) tk (ea_cons (ee_var 0) (ea_cons (ee_var 1) ea_nil))))
  (ss_one (es_ret (ee_if (et_val (ee_methH0 h_Task_may (hr.mono (by decide)) tk (ee_var 2))) (ee_callB cg_len B.len (by decide +kernel) (ea_cons (ee_fldH c_Task 3 (ee_var 2)) ea_nil)) ee_non))))) pure_fewest
abbrev st_top_of : Stmt := topS 22
theorem sc_top_of : FnScope ["yard", "box", "here"] ["yard", "box"] (defScope st_top_of) := ⟨rfl, rfl, rfl, by decide +kernel, rfl, by decide +kernel, by decide +kernel⟩
theorem ok_top_of (B : Blt mg) (A : FunAt K mg "top_of" st_top_of ["yard", "box"])  : HasFn P w K mg base "top_of" 1 sp_top_of :=
  A.has fun f fd F => dfn_gc bd_top_of F sc_top_of len_top_of (fun cdv A outer s0 H E hr => by
    have nd := sc_top_of.nd
    have tk := takes_of (X := cxOf (L2.CX P w) P w K mg base ["yard", "box", "here"] "top_of" (defScope st_top_of) f cdv A outer s0 H E) (E := E) rfl rfl rfl rfl
    have po := passes_of (X := cxOf (L2.CX P w) P w K mg base ["yard", "box", "here"] "top_of" (defScope st_top_of) f cdv A outer s0 H E) rfl
    exact (ss_cons (es_set nd (ee_var 1))
  (ss_cons (es_while po (et_w (ew_and (et_cmp og_notN (ee_var 2) ee_non) (ew_and1 (et_cmp og_isN (ee_ix (ee_ix (ee_var 0) (ee_var 2)) ee_int) ee_non)))) (ss_one (es_set nd (ee_ix (ee_ix (ee_var 0) (ee_var 2)) ee_int))))
  (ss_one (es_ret (ee_var 2)))))) pure_top_of
abbrev st_reach : Stmt := topS 23
theorem sc_reach : FnScope ["yard", "free", "found", "turn", "price", "holder", "box"] ["yard"] (defScope st_reach) := ⟨rfl, rfl, rfl, by decide +kernel, rfl, by decide +kernel, by decide +kernel⟩
theorem ok_reach (B : Blt mg) (A : FunAt K mg "reach" st_reach ["yard"]) (h_need_yard : HasFn P w K mg base "need_yard" 3 sp_need_yard) (h_top_of : HasFn P w K mg base "top_of" 1 sp_top_of) : HasFn P w K mg base "reach" 4 sp_reach :=
  A.has fun f fd F => dfn_gc bd_reach F sc_reach len_reach (fun cdv A outer s0 H E hr => by
    have nd := sc_reach.nd
    have tk := takes_of (X := cxOf (L2.CX P w) P w K mg base ["yard", "free", "found", "turn", "price", "holder", "box"] "reach" (defScope st_reach) f cdv A outer s0 H E) (E := E) rfl rfl rfl rfl
    have po := passes_of (X := cxOf (L2.CX P w) P w K mg base ["yard", "free", "found", "turn", "price", "holder", "box"] "reach" (defScope st_reach) f cdv A outer s0 H E) rfl
    exact (ss_cons (es_expr (ee_callH h_need_yard (hr.mono (by decide)) tk (ea_cons (ee_var 0) ea_nil)))
  (ss_cons (es_set nd (ee_callB cg_len B.len (by decide +kernel) (ea_cons (ee_lc (own := [("price", 4), ("holder", 5)]) rfl nd (ei_seq (ee_var 0)) (blkOk_by (N := ["yard", "free", "found", "turn", "price", "holder", "box"]) (sc := defScope st_reach) (by decide +kernel)) (fun _ _ _ _ _ => (evg_tup rfl (evgs_cons (evg_name nd) (evgs_cons (evg_name nd) evgs_nil)))) (fun _ _ _ _ _ => (ets_one (et_cmp og_notN (ee_var 4) ee_non))) (fun _ _ _ _ _ => (ee_var 4))) ea_nil)))
  (ss_cons (es_if (et_cmp (og_eq hr.units) (ee_var 1) ee_int) (ss_one (es_ret ee_int)) ss_nil)
  (ss_cons (es_set nd (ee_op og_add ee_int (ee_callB cg_len B.len (by decide +kernel) (ea_cons (ee_lc (own := [("box", 6)]) rfl nd (ei_range1 B.range (ea_cons (ee_callB cg_len B.len (by decide +kernel) (ea_cons (ee_var 0) ea_nil)) ea_nil)) (blkOk_by (N := ["yard", "free", "found", "turn", "price", "holder", "box"]) (sc := defScope st_reach) (by decide +kernel)) (fun _ _ _ _ _ => (evg_name nd)) (fun _ _ _ _ _ => (ets_one (et_cmp og_isN (ee_callH h_top_of (hr.mono (by decide)) takes0 (ea_cons (ee_var 0) (ea_cons (ee_var 6) ea_nil))) ee_non))) (fun _ _ _ _ _ => (ee_var 6))) ea_nil))))
  (ss_cons (es_for po rfl (ei_range1 B.range (ea_cons (ee_op og_sub (ee_var 1) ee_int) ea_nil)) (eg_name nd) (ss_one (es_aug nd (pip_of og_imul) (ee_op og_add (ee_callB cg_len B.len (by decide +kernel) (ea_cons (ee_var 0) ea_nil)) ee_int))))
  (ss_one (es_ret (ee_var 2))))))))) pure_reach
abbrev st__law_start : Stmt := topS 25
theorem sc__law_start : FnScope ["_law_script", "_law_mixed", "_law_cell"] ["_law_script"] (defScope st__law_start) := ⟨rfl, rfl, rfl, by decide +kernel, rfl, by decide +kernel, by decide +kernel⟩
theorem ok__law_start (B : Blt mg) (A : FunAt K mg "_law_start" st__law_start ["_law_script"])  : HasFn P w K mg base "_law_start" 1 sp__law_start :=
  A.has fun f fd F => dfn_of bd__law_start F sc__law_start len__law_start (fun cdv A outer s0 H E hr => by
    have nd := sc__law_start.nd
    have tk := takes_of (X := cxOf (L2.CX P w) P w K mg base ["_law_script", "_law_mixed", "_law_cell"] "_law_start" (defScope st__law_start) f cdv A outer s0 H E) (E := E) rfl rfl rfl rfl
    have po := passes_of (X := cxOf (L2.CX P w) P w K mg base ["_law_script", "_law_mixed", "_law_cell"] "_law_start" (defScope st__law_start) f cdv A outer s0 H E) rfl
    exact (ss_cons (es_set nd ee_int)
  (ss_cons (es_for po rfl (ei_seq (ee_var 0)) (eg_name nd) (ss_one (es_set nd (ee_op og_mod (ee_op og_add (ee_op og_add (ee_op og_mul (ee_var 1) ee_int) (ee_var 2)) ee_int) ee_int))))
  (ss_one (es_ret (ee_lstL (ea_cons (ee_var 0) (ea_cons ee_int (ea_cons (ee_var 1) (ea_cons ee_int ea_nil)))))))))) pure__law_start
abbrev st__law_drawn : Stmt := topS 26
theorem sc__law_drawn : FnScope ["_law_state", "_law_many", "_law_found", "_law_cell"] ["_law_state", "_law_many"] (defScope st__law_drawn) := ⟨rfl, rfl, rfl, by decide +kernel, rfl, by decide +kernel, by decide +kernel⟩
theorem ok__law_drawn (B : Blt mg) (A : FunAt K mg "_law_drawn" st__law_drawn ["_law_state", "_law_many"])  : HasFn P w K mg base "_law_drawn" 1 sp__law_drawn :=
  A.has fun f fd F => dfn_gc bd__law_drawn F sc__law_drawn len__law_drawn (fun cdv A outer s0 H E hr => by
    have nd := sc__law_drawn.nd
    have tk := takes_of (X := cxOf (L2.CX P w) P w K mg base ["_law_state", "_law_many", "_law_found", "_law_cell"] "_law_drawn" (defScope st__law_drawn) f cdv A outer s0 H E) (E := E) rfl rfl rfl rfl
    have po := passes_of (X := cxOf (L2.CX P w) P w K mg base ["_law_state", "_law_many", "_law_found", "_law_cell"] "_law_drawn" (defScope st__law_drawn) f cdv A outer s0 H E) rfl
    exact (ss_cons (es_if (et_cmp og_gt (ee_ix (ee_var 0) ee_int) ee_int) (ss_cons (es_set nd (ee_op og_mod (ee_ix (ee_var 0) ee_int) (ee_var 1)))
  (ss_cons (es_asg (ee_op og_fdiv (ee_ix (ee_var 0) ee_int) (ee_var 1)) (eg_sub (ee_var 0) ee_int))
  (ss_one (es_ret (ee_var 2))))) ss_nil)
  (ss_cons (es_asg (ee_op og_add (ee_ix (ee_var 0) ee_int) ee_int) (eg_sub (ee_var 0) ee_int))
  (ss_cons (es_if (et_cmp og_le (ee_ix (ee_var 0) ee_int) (ee_callB cg_len B.len (by decide +kernel) (ea_cons (ee_ix (ee_var 0) ee_int) ea_nil))) (ss_cons (es_set nd (ee_ix (ee_ix (ee_var 0) ee_int) (ee_op og_sub (ee_ix (ee_var 0) ee_int) ee_int)))
  (ss_cons (es_asg (ee_if (et_cmp og_ge (ee_var 3) (ee_op og_pow ee_int ee_int)) (ee_op og_fdiv (ee_var 3) (ee_var 1)) ee_int) (eg_sub (ee_var 0) ee_int))
  (ss_one (es_ret (ee_op og_mod (ee_var 3) (ee_var 1)))))) ss_nil)
  (ss_cons (es_asg (ee_op og_mod (ee_op og_add (ee_op og_mul (ee_ix (ee_var 0) ee_int) ee_int) ee_int) ee_int) (eg_sub (ee_var 0) ee_int))
  (ss_one (es_ret (ee_op og_mod (ee_op og_fdiv (ee_ix (ee_var 0) ee_int) ee_int) (ee_var 1))))))))) pure__law_drawn
abbrev st__law_turned : Stmt := topS 27
theorem sc__law_turned : FnScope ["_law_state", "_law_many", "_law_left", "_law_found"] ["_law_state", "_law_many"] (defScope st__law_turned) := ⟨rfl, rfl, rfl, by decide +kernel, rfl, by decide +kernel, by decide +kernel⟩
theorem ok__law_turned (B : Blt mg) (A : FunAt K mg "_law_turned" st__law_turned ["_law_state", "_law_many"]) (h__law_drawn : HasFn P w K mg base "_law_drawn" 1 sp__law_drawn) : HasFn P w K mg base "_law_turned" 2 sp__law_turned :=
  A.has fun f fd F => dfn_gc bd__law_turned F sc__law_turned len__law_turned (fun cdv A outer s0 H E hr => by
    have nd := sc__law_turned.nd
    have tk := takes_of (X := cxOf (L2.CX P w) P w K mg base ["_law_state", "_law_many", "_law_left", "_law_found"] "_law_turned" (defScope st__law_turned) f cdv A outer s0 H E) (E := E) rfl rfl rfl rfl
    have po := passes_of (X := cxOf (L2.CX P w) P w K mg base ["_law_state", "_law_many", "_law_left", "_law_found"] "_law_turned" (defScope st__law_turned) f cdv A outer s0 H E) rfl
    exact (ss_cons (es_par rfl nd (ea_cons (ee_lstRngL rfl B.list B.range (ee_var 1)) (ea_cons (ee_lstL ea_nil) ea_nil)))
  (ss_cons (es_while po (et_cmp (og_ne hr.units) (ee_var 2) (ee_lst ea_nil)) (ss_one (es_expr (ee_bmL PySem.F.slot_list_append PySem.F.type_list_append mg_append (ee_var 3) (ea_cons (ee_bmL PySem.F.slot_list_pop PySem.F.type_list_pop mg_popAt (ee_var 2) (ea_cons (ee_callH h__law_drawn (hr.mono (by decide)) tk (ea_cons (ee_var 0) (ea_cons (ee_callB cg_len B.len (by decide +kernel) (ea_cons (ee_var 2) ea_nil)) ea_nil))) ea_nil)) ea_nil)))))
  (ss_one (es_ret (ee_frz (ee_var 3))))))) pure__law_turned
abbrev st__law_nesting : Stmt := topS 28
theorem sc__law_nesting : FnScope ["_law_state", "_law_many", "_law_turned_here", "_law_deep", "_law_found", "_law_k", "_law_some"] ["_law_state", "_law_many"] (defScope st__law_nesting) := ⟨rfl, rfl, rfl, by decide +kernel, rfl, by decide +kernel, by decide +kernel⟩
theorem ok__law_nesting (B : Blt mg) (A : FunAt K mg "_law_nesting" st__law_nesting ["_law_state", "_law_many"]) (h__law_turned : HasFn P w K mg base "_law_turned" 2 sp__law_turned) (h__law_drawn : HasFn P w K mg base "_law_drawn" 1 sp__law_drawn) : HasFn P w K mg base "_law_nesting" 3 sp__law_nesting :=
  A.has fun f fd F => dfn_gc bd__law_nesting F sc__law_nesting len__law_nesting (fun cdv A outer s0 H E hr => by
    have nd := sc__law_nesting.nd
    have tk := takes_of (X := cxOf (L2.CX P w) P w K mg base ["_law_state", "_law_many", "_law_turned_here", "_law_deep", "_law_found", "_law_k", "_law_some"] "_law_nesting" (defScope st__law_nesting) f cdv A outer s0 H E) (E := E) rfl rfl rfl rfl
    have po := passes_of (X := cxOf (L2.CX P w) P w K mg base ["_law_state", "_law_many", "_law_turned_here", "_law_deep", "_law_found", "_law_k", "_law_some"] "_law_nesting" (defScope st__law_nesting) f cdv A outer s0 H E) rfl
    exact (ss_cons (es_par rfl nd (ea_cons (ee_callH h__law_turned (hr.mono (by decide)) tk (ea_cons (ee_var 0) (ea_cons (ee_var 1) ea_nil))) (ea_cons (ee_callH h__law_drawn (hr.mono (by decide)) tk (ea_cons (ee_var 0) (ea_cons ee_int ea_nil))) ea_nil)))
  (ss_cons (es_set nd (ee_op og_repL (ee_lstL (ea_cons ee_non ea_nil)) (ee_var 1)))
  (ss_cons (es_for po rfl (ei_range1 B.range (ea_cons (ee_var 1) ea_nil)) (eg_name nd) (ss_cons (es_set nd (ee_lst (ea_cons ee_non (ea_cons (ee_ix (ee_var 2) (ee_op og_sub (ee_var 5) ee_int)) (ea_cons (ee_ix (ee_var 2) (ee_callH h__law_drawn (hr.mono (by decide)) tk (ea_cons (ee_var 0) (ea_cons (ee_callB (cg_max2 rfl) B.max (by decide +kernel) (ea_cons ee_int (ea_cons (ee_var 5) ea_nil))) ea_nil)))) ea_nil)))))
  (ss_one (es_asg (ee_if (et_cmp og_gt (ee_var 5) ee_int) (ee_ix (ee_var 6) (ee_callB (cg_min2 rfl) B.min (by decide +kernel) (ea_cons (ee_var 3) (ea_cons (ee_callH h__law_drawn (hr.mono (by decide)) tk (ea_cons (ee_var 0) (ea_cons ee_int ea_nil))) ea_nil)))) ee_non) (eg_sub (ee_var 4) (ee_ix (ee_var 2) (ee_var 5)))))))
  (ss_one (es_ret (ee_callTy cg_tuple B.tuple (by decide +kernel) (ea_cons (ee_var 4) ea_nil)))))))) pure__law_nesting
abbrev st__law_yard : Stmt := topS 29
theorem sc__law_yard : FnScope ["_law_state", "_law_most", "_law_many", "_law_rare", "_law_dear", "_law_holders", "_law_prices", "_law_holder", "_law_k"] ["_law_state", "_law_most"] (defScope st__law_yard) := ⟨rfl, rfl, rfl, by decide +kernel, rfl, by decide +kernel, by decide +kernel⟩
theorem ok__law_yard (B : Blt mg) (A : FunAt K mg "_law_yard" st__law_yard ["_law_state", "_law_most"]) (h__law_drawn : HasFn P w K mg base "_law_drawn" 1 sp__law_drawn) (h__law_nesting : HasFn P w K mg base "_law_nesting" 3 sp__law_nesting) : HasFn P w K mg base "_law_yard" 4 sp__law_yard :=
  A.has fun f fd F => dfn_gc bd__law_yard F sc__law_yard len__law_yard (fun cdv A outer s0 H E hr => by
    have nd := sc__law_yard.nd
    have tk := takes_of (X := cxOf (L2.CX P w) P w K mg base ["_law_state", "_law_most", "_law_many", "_law_rare", "_law_dear", "_law_holders", "_law_prices", "_law_holder", "_law_k"] "_law_yard" (defScope st__law_yard) f cdv A outer s0 H E) (E := E) rfl rfl rfl rfl
    have po := passes_of (X := cxOf (L2.CX P w) P w K mg base ["_law_state", "_law_most", "_law_many", "_law_rare", "_law_dear", "_law_holders", "_law_prices", "_law_holder", "_law_k"] "_law_yard" (defScope st__law_yard) f cdv A outer s0 H E) rfl
    exact (ss_cons (es_set nd (ee_op og_add ee_int (ee_callH h__law_drawn (hr.mono (by decide)) tk (ea_cons (ee_var 0) (ea_cons (ee_var 1) ea_nil)))))
  (ss_cons (es_asg (ee_tup (ea_cons (ee_ix (ee_lst (ea_cons ee_int (ea_cons ee_int (ea_cons ee_int ea_nil)))) (ee_callH h__law_drawn (hr.mono (by decide)) tk (ea_cons (ee_var 0) (ea_cons ee_int ea_nil)))) (ea_cons (ee_ix (ee_lst (ea_cons ee_int (ea_cons ee_int ea_nil))) (ee_callH h__law_drawn (hr.mono (by decide)) tk (ea_cons (ee_var 0) (ea_cons ee_int ea_nil)))) ea_nil))) (eg_tup rfl (egs_cons (eg_name nd) (egs_cons (eg_name nd) egs_nil))))
  (ss_cons (es_set nd (ee_callH h__law_nesting (hr.mono (by decide)) tk (ea_cons (ee_var 0) (ea_cons (ee_var 2) ea_nil))))
  (ss_cons (es_set nd (ee_lc (own := [("_law_holder", 7)]) rfl nd (ei_seq (ee_var 5)) (blkOk_by (N := ["_law_state", "_law_most", "_law_many", "_law_rare", "_law_dear", "_law_holders", "_law_prices", "_law_holder", "_law_k"]) (sc := defScope st__law_yard) (by decide +kernel)) (fun _ _ _ _ _ => (evg_name nd)) (fun _ _ _ _ _ => ets_nil) (fun _ _ _ _ _ => (ee_if (et_cmp (og_eq hr.units) (ee_callH h__law_drawn (hr.mono (by decide)) takes0 (ea_cons (ee_var 0) (ea_cons (ee_var 3) ea_nil))) ee_int) ee_non (ee_op og_add ee_int (ee_callH h__law_drawn (hr.mono (by decide)) takes0 (ea_cons (ee_var 0) (ea_cons (ee_var 4) ea_nil))))))))
  (ss_one (es_ret (ee_callTy cg_tuple B.tuple (by decide +kernel) (ea_cons (ee_lc (own := [("_law_k", 8)]) rfl nd (ei_range1 B.range (ea_cons (ee_var 2) ea_nil)) (blkOk_by (N := ["_law_state", "_law_most", "_law_many", "_law_rare", "_law_dear", "_law_holders", "_law_prices", "_law_holder", "_law_k"]) (sc := defScope st__law_yard) (by decide +kernel)) (fun _ _ _ _ _ => (evg_name nd)) (fun _ _ _ _ _ => ets_nil) (fun _ _ _ _ _ => (ee_tup (ea_cons (ee_ix (ee_var 6) (ee_var 8)) (ea_cons (ee_ix (ee_var 5) (ee_var 8)) ea_nil))))) ea_nil))))))))) pure__law_yard
abbrev st__law_up : Stmt := topS 30
theorem sc__law_up : FnScope ["_law_holders", "_law_box", "_law_found", "_law_here"] ["_law_holders", "_law_box"] (defScope st__law_up) := ⟨rfl, rfl, rfl, by decide +kernel, rfl, by decide +kernel, by decide +kernel⟩
theorem ok__law_up (B : Blt mg) (A : FunAt K mg "_law_up" st__law_up ["_law_holders", "_law_box"])  : HasFn P w K mg base "_law_up" 1 sp__law_up :=
  A.has fun f fd F => dfn_gc bd__law_up F sc__law_up len__law_up (fun cdv A outer s0 H E hr => by
    have nd := sc__law_up.nd
    have tk := takes_of (X := cxOf (L2.CX P w) P w K mg base ["_law_holders", "_law_box", "_law_found", "_law_here"] "_law_up" (defScope st__law_up) f cdv A outer s0 H E) (E := E) rfl rfl rfl rfl
    have po := passes_of (X := cxOf (L2.CX P w) P w K mg base ["_law_holders", "_law_box", "_law_found", "_law_here"] "_law_up" (defScope st__law_up) f cdv A outer s0 H E) rfl
    exact (ss_cons (es_par rfl nd (ea_cons (ee_lstL ea_nil) (ea_cons (ee_ix (ee_var 0) (ee_var 1)) ea_nil)))
  (ss_cons (es_while po (et_w (ew_and (et_cmp og_notN (ee_var 3) ee_non) (ew_and1 (et_cmp og_lt (ee_callB cg_len B.len (by decide +kernel) (ea_cons (ee_var 2) ea_nil)) (ee_callB cg_len B.len (by decide +kernel) (ea_cons (ee_var 0) ea_nil)))))) (ss_cons (es_expr (ee_bmL PySem.F.slot_list_append PySem.F.type_list_append mg_append (ee_var 2) (ea_cons (ee_var 3) ea_nil)))
  (ss_one (es_set nd (ee_ix (ee_var 0) (ee_var 3))))))
  (ss_one (es_ret (ee_frz (ee_var 2))))))) pure__law_up
abbrev st__law_goal : Stmt := topS 31
theorem sc__law_goal : FnScope ["_law_state", "_law_yard_here", "_law_holders", "_law_way", "_law_turn", "_law_box", "_law_there", "_law_fits"] ["_law_state", "_law_yard_here"] (defScope st__law_goal) := ⟨rfl, rfl, rfl, by decide +kernel, rfl, by decide +kernel, by decide +kernel⟩
theorem ok__law_goal (B : Blt mg) (A : FunAt K mg "_law_goal" st__law_goal ["_law_state", "_law_yard_here"]) (h__law_drawn : HasFn P w K mg base "_law_drawn" 1 sp__law_drawn) (h__law_nesting : HasFn P w K mg base "_law_nesting" 3 sp__law_nesting) (h__law_up : HasFn P w K mg base "_law_up" 1 sp__law_up) : HasFn P w K mg base "_law_goal" 4 sp__law_goal :=
  A.has fun f fd F => dfn_gc bd__law_goal F sc__law_goal len__law_goal (fun cdv A outer s0 H E hr => by
    have nd := sc__law_goal.nd
    have tk := takes_of (X := cxOf (L2.CX P w) P w K mg base ["_law_state", "_law_yard_here", "_law_holders", "_law_way", "_law_turn", "_law_box", "_law_there", "_law_fits"] "_law_goal" (defScope st__law_goal) f cdv A outer s0 H E) (E := E) rfl rfl rfl rfl
    have po := passes_of (X := cxOf (L2.CX P w) P w K mg base ["_law_state", "_law_yard_here", "_law_holders", "_law_way", "_law_turn", "_law_box", "_law_there", "_law_fits"] "_law_goal" (defScope st__law_goal) f cdv A outer s0 H E) rfl
    exact (ss_cons (es_par rfl nd (ea_cons (ee_callTy cg_tuple B.tuple (by decide +kernel) (ea_cons (ee_lc (own := [("_law_box", 5)]) rfl nd (ei_seq (ee_var 1)) (blkOk_by (N := ["_law_state", "_law_yard_here", "_law_holders", "_law_way", "_law_turn", "_law_box", "_law_there", "_law_fits"]) (sc := defScope st__law_goal) (by decide +kernel)) (fun _ _ _ _ _ => (evg_name nd)) (fun _ _ _ _ _ => ets_nil) (fun _ _ _ _ _ => (ee_ix (ee_var 5) ee_int))) ea_nil)) (ea_cons (ee_callH h__law_drawn (hr.mono (by decide)) tk (ea_cons (ee_var 0) (ea_cons ee_int ea_nil))) ea_nil)))
  (ss_cons (es_if (et_cmp (og_eq hr.units) (ee_var 3) ee_int) (ss_one (es_ret (ee_callH h__law_nesting (hr.mono (by decide)) tk (ea_cons (ee_var 0) (ea_cons (ee_callB cg_len B.len (by decide +kernel) (ea_cons (ee_var 1) ea_nil)) ea_nil))))) ss_nil)
  (ss_cons (es_for po rfl (ei_range1 B.range (ea_cons (ee_callH h__law_drawn (hr.mono (by decide)) tk (ea_cons (ee_var 0) (ea_cons (ee_op og_add (ee_op og_mul ee_int (ee_callB cg_len B.len (by decide +kernel) (ea_cons (ee_var 1) ea_nil))) ee_int) ea_nil))) ea_nil)) (eg_name nd) (ss_cons (es_par rfl nd (ea_cons (ee_callH h__law_drawn (hr.mono (by decide)) tk (ea_cons (ee_var 0) (ea_cons (ee_callB cg_len B.len (by decide +kernel) (ea_cons (ee_var 1) ea_nil)) ea_nil))) (ea_cons (ee_callH h__law_drawn (hr.mono (by decide)) tk (ea_cons (ee_var 0) (ea_cons (ee_op og_add (ee_callB cg_len B.len (by decide +kernel) (ea_cons (ee_var 1) ea_nil)) ee_int) ea_nil))) ea_nil)))
  (ss_cons (es_set nd (ee_if (et_cmp (og_eq hr.units) (ee_var 6) (ee_callB cg_len B.len (by decide +kernel) (ea_cons (ee_var 1) ea_nil))) ee_non (ee_var 6)))
  (ss_cons (es_set nd (ee_or (ee_cmp og_isN (ee_var 6) ee_non) (ee_one (ee_and (ee_cmp (og_ne hr.units) (ee_var 6) (ee_var 5)) (ee_one (ee_cmp og_notIn (ee_var 5) (ee_callH h__law_up (hr.mono (by decide)) tk (ea_cons (ee_var 2) (ea_cons (ee_var 6) ea_nil)))))))))
  (ss_one (es_if (et_w (ew_and (et_tru (ee_var 7)) (ew_and1 (et_w (ew_or (et_cmp og_notN (ee_ix (ee_ix (ee_var 1) (ee_var 5)) ee_int) ee_non) (ew_or1 (et_w (ew_and (et_cmp (og_eq hr.units) (ee_var 3) ee_int) (ew_and1 (et_cmp (og_eq hr.units) (ee_var 4) ee_int)))))))))) (ss_one (es_set nd (ee_op og_add (ee_op og_add (ee_slice (ee_var 2) eo_none (eo_some (ee_var 5))) (ee_tup (ea_cons (ee_var 6) ea_nil))) (ee_slice (ee_var 2) (eo_some (ee_op og_add (ee_var 5) ee_int)) eo_none)))) ss_nil))))))
  (ss_one (es_ret (ee_var 2))))))) pure__law_goal
abbrev st__law_nexts : Stmt := topS 32
theorem sc__law_nexts : FnScope ["_law_yard_here", "_law_holders", "_law_found", "_law_box", "_law_there", "_law_fits"] ["_law_yard_here", "_law_holders"] (defScope st__law_nexts) := ⟨rfl, rfl, rfl, by decide +kernel, rfl, by decide +kernel, by decide +kernel⟩
theorem ok__law_nexts (B : Blt mg) (A : FunAt K mg "_law_nexts" st__law_nexts ["_law_yard_here", "_law_holders"]) (h__law_up : HasFn P w K mg base "_law_up" 1 sp__law_up) : HasFn P w K mg base "_law_nexts" 2 sp__law_nexts :=
  A.has fun f fd F => dfn_gc bd__law_nexts F sc__law_nexts len__law_nexts (fun cdv A outer s0 H E hr => by
    have nd := sc__law_nexts.nd
    have tk := takes_of (X := cxOf (L2.CX P w) P w K mg base ["_law_yard_here", "_law_holders", "_law_found", "_law_box", "_law_there", "_law_fits"] "_law_nexts" (defScope st__law_nexts) f cdv A outer s0 H E) (E := E) rfl rfl rfl rfl
    have po := passes_of (X := cxOf (L2.CX P w) P w K mg base ["_law_yard_here", "_law_holders", "_law_found", "_law_box", "_law_there", "_law_fits"] "_law_nexts" (defScope st__law_nexts) f cdv A outer s0 H E) rfl
    exact (ss_cons (es_set nd (ee_lstL ea_nil))
  (ss_cons (es_for po rfl (ei_range1 B.range (ea_cons (ee_callB cg_len B.len (by decide +kernel) (ea_cons (ee_var 0) ea_nil)) ea_nil)) (eg_name nd) (ss_one (es_for po rfl (ei_seq (ee_op og_add (ee_lst (ea_cons ee_non ea_nil)) (ee_lstRng rfl B.list B.range (ee_callB cg_len B.len (by decide +kernel) (ea_cons (ee_var 0) ea_nil))))) (eg_name nd) (ss_cons (es_set nd (ee_or (ee_cmp og_isN (ee_var 4) ee_non) (ee_one (ee_and (ee_cmp (og_ne hr.units) (ee_var 4) (ee_var 3)) (ee_one (ee_cmp og_notIn (ee_var 3) (ee_callH h__law_up (hr.mono (by decide)) tk (ea_cons (ee_var 1) (ea_cons (ee_var 4) ea_nil)))))))))
  (ss_one (es_if (et_w (ew_and (et_tru (ee_var 5)) (ew_and (et_cmp (og_ne hr.units) (ee_var 4) (ee_ix (ee_var 1) (ee_var 3))) (ew_and1 (et_cmp og_notN (ee_ix (ee_ix (ee_var 0) (ee_var 3)) ee_int) ee_non))))) (ss_one (es_expr (ee_bmL PySem.F.slot_list_append PySem.F.type_list_append mg_append (ee_var 2) (ea_cons (ee_tup (ea_cons (ee_op og_add (ee_op og_add (ee_slice (ee_var 1) eo_none (eo_some (ee_var 3))) (ee_tup (ea_cons (ee_var 4) ea_nil))) (ee_slice (ee_var 1) (eo_some (ee_op og_add (ee_var 3) ee_int)) eo_none)) (ea_cons (ee_ix (ee_ix (ee_var 0) (ee_var 3)) ee_int) ea_nil))) ea_nil)))) ss_nil))))))
  (ss_one (es_ret (ee_frz (ee_var 2))))))) pure__law_nexts
abbrev st__law_costs : Stmt := topS 33
theorem sc__law_costs : FnScope ["_law_yard_here", "_law_plain", "_law_waiting", "_law_found", "_law_level", "_law_cost", "_law_some", "_law_here", "_law_there", "_law_price", "_law_more", "_law_one", "_law_box"] ["_law_yard_here", "_law_plain"] (defScope st__law_costs) := ⟨rfl, rfl, rfl, by decide +kernel, rfl, by decide +kernel, by decide +kernel⟩
theorem ok__law_costs (B : Blt mg) (A : FunAt K mg "_law_costs" st__law_costs ["_law_yard_here", "_law_plain"]) (h__law_nexts : HasFn P w K mg base "_law_nexts" 2 sp__law_nexts) : HasFn P w K mg base "_law_costs" 3 sp__law_costs :=
  A.has fun f fd F => dfnR_gc bd__law_costs F sc__law_costs len__law_costs (fun cdv A outer s0 H E hr => by
    have nd := sc__law_costs.nd
    have tk := takes_of (X := cxOf (L2.CX P w) P w K mg base ["_law_yard_here", "_law_plain", "_law_waiting", "_law_found", "_law_level", "_law_cost", "_law_some", "_law_here", "_law_there", "_law_price", "_law_more", "_law_one", "_law_box"] "_law_costs" (defScope st__law_costs) f cdv A outer s0 H E) (E := E) rfl rfl rfl rfl
    have po := passes_of (X := cxOf (L2.CX P w) P w K mg base ["_law_yard_here", "_law_plain", "_law_waiting", "_law_found", "_law_level", "_law_cost", "_law_some", "_law_here", "_law_there", "_law_price", "_law_more", "_law_one", "_law_box"] "_law_costs" (defScope st__law_costs) f cdv A outer s0 H E) rfl
    exact (ss_cons (es_par rfl nd (ea_cons (ee_lst (ea_cons (ee_tup (ea_cons ee_int (ea_cons (ee_callTy cg_tuple B.tuple (by decide +kernel) (ea_cons (ee_lc (own := [("_law_box", 12)]) rfl nd (ei_seq (ee_var 0)) (blkOk_by (N := ["_law_yard_here", "_law_plain", "_law_waiting", "_law_found", "_law_level", "_law_cost", "_law_some", "_law_here", "_law_there", "_law_price", "_law_more", "_law_one", "_law_box"]) (sc := defScope st__law_costs) (by decide +kernel)) (fun _ _ _ _ _ => (evg_name nd)) (fun _ _ _ _ _ => ets_nil) (fun _ _ _ _ _ => (ee_ix (ee_var 12) ee_int))) ea_nil)) ea_nil))) ea_nil)) (ea_cons ee_dctNew ea_nil)))
  (ss_cons (es_set nd (ee_dct1 (room1 hr) (ee_ix (ee_ix (ee_var 2) ee_int) ee_int) ee_int))
  (ss_cons (es_while po (et_cmp (og_neX hr.units) (ee_var 4) ee_dctNew) (ss_cons (es_set nd (ee_callB (cg_min1 rfl) B.min (by decide +kernel) (ea_cons (ee_xvals rfl nd (room1 hr) (blkOk_by (N := ["_law_yard_here", "_law_plain", "_law_waiting", "_law_found", "_law_level", "_law_cost", "_law_some", "_law_here", "_law_there", "_law_price", "_law_more", "_law_one", "_law_box"]) (sc := defScope st__law_costs) (by decide +kernel))) ea_nil)))
  (ss_cons (es_setXkeys rfl nd (room1 hr) (blkOk_by (N := ["_law_yard_here", "_law_plain", "_law_waiting", "_law_found", "_law_level", "_law_cost", "_law_some", "_law_here", "_law_there", "_law_price", "_law_more", "_law_one", "_law_box"]) (sc := defScope st__law_costs) (by decide +kernel)) (sw_true rfl rfl rfl (by decide +kernel)))
  (ss_cons (es_for po rfl (ei_seq (ee_var 6)) (eg_name nd) (ss_cons (es_expr (ee_xpop (room1 hr) (ee_var 4) (ee_var 7)))
  (ss_one (es_asg (ee_var 5) (eg_subD (room1 hr) (ee_var 3) (ee_var 7))))))
  (ss_one (es_for po rfl (ei_seq (ee_var 6)) (eg_name nd) (ss_one (es_for po rfl (ei_seq (ee_callH h__law_nexts (hr.mono (by decide)) tk (ea_cons (ee_var 0) (ea_cons (ee_var 7) ea_nil)))) (eg_tup rfl (egs_cons (eg_name nd) (egs_cons (eg_name nd) egs_nil))) (ss_one (es_if (et_cmp (og_notInX hr.units) (ee_var 8) (ee_var 3)) (ss_cons (es_set nd (ee_op og_add (ee_var 5) (ee_if (et_tru (ee_var 1)) ee_int (ee_var 9))))
  (ss_one (es_asg (ee_callB (cg_min2 rfl) B.min (by decide +kernel) (ea_cons (ee_dget2 (room1 hr) (ee_var 4) (ee_var 8) (ee_var 10)) (ea_cons (ee_var 10) ea_nil))) (eg_subD (room1 hr) (ee_var 4) (ee_var 8))))) ss_nil))))))))))
  (ss_one (es_ret (ee_var 3))))))) pure__law_costs
abbrev st__law_key : Stmt := topS 34
theorem sc__law_key : FnScope ["_law_holders", "_law_holder"] ["_law_holders"] (defScope st__law_key) := ⟨rfl, rfl, rfl, by decide +kernel, rfl, by decide +kernel, by decide +kernel⟩
theorem ok__law_key (B : Blt mg) (A : FunAt K mg "_law_key" st__law_key ["_law_holders"])  : HasFn P w K mg base "_law_key" 1 sp__law_key :=
  A.has fun f fd F => dfn_gc bd__law_key F sc__law_key len__law_key (fun cdv A outer s0 H E hr => by
    have nd := sc__law_key.nd
    have tk := takes_of (X := cxOf (L2.CX P w) P w K mg base ["_law_holders", "_law_holder"] "_law_key" (defScope st__law_key) f cdv A outer s0 H E) (E := E) rfl rfl rfl rfl
    have po := passes_of (X := cxOf (L2.CX P w) P w K mg base ["_law_holders", "_law_holder"] "_law_key" (defScope st__law_key) f cdv A outer s0 H E) rfl
    exact (ss_one (es_ret (ee_lc (own := [("_law_holder", 1)]) rfl nd (ei_seq (ee_var 0)) (blkOk_by (N := ["_law_holders", "_law_holder"]) (sc := defScope st__law_key) (by decide +kernel)) (fun _ _ _ _ _ => (evg_name nd)) (fun _ _ _ _ _ => ets_nil) (fun _ _ _ _ _ => (ee_if (et_cmp og_isN (ee_var 1) ee_non) (ee_op og_sub ee_int ee_int) (ee_var 1))))))) pure__law_key
abbrev st_law : Stmt := topS 35
theorem sc_law : FnScope ["_law_script", "_law_state", "_law_turn", "_law_yard_here", "_law_costs_here", "_law_counts", "_law_every", "_law_goals", "_law_goal_here", "_law_told", "_law_k"] ["_law_script"] (defScope st_law) := ⟨rfl, rfl, rfl, by decide +kernel, rfl, by decide +kernel, by decide +kernel⟩
theorem ok_law (B : Blt mg) (h__law_start : HasFn P w K mg base "_law_start" 1 sp__law_start) (h__law_yard : HasFn P w K mg base "_law_yard" 4 sp__law_yard) (h__law_costs : HasFn P w K mg base "_law_costs" 3 sp__law_costs) (h_reach : HasFn P w K mg base "reach" 4 sp_reach) (h__law_key : HasFn P w K mg base "_law_key" 1 sp__law_key) (h__law_drawn : HasFn P w K mg base "_law_drawn" 1 sp__law_drawn) (h__law_goal : HasFn P w K mg base "_law_goal" 4 sp__law_goal) (h_least : HasFn P w K mg base "least" 6 sp_least) (h_fewest : HasFn P w K mg base "fewest" 5 sp_fewest) : ∀ (f : Addr) (fd : FuncData), Fun K "law" "law" st_law f fd → FnOk P w K mg base (L2.CX P w) 7 f fd ["_law_script"] (LSp K mg sp_law) :=
  fun f fd F => dfn_gc bd_law F sc_law len_law (fun cdv A outer s0 H E hr => by
    have nd := sc_law.nd
    have tk := takes_of (X := cxOf (L2.CX P w) P w K mg base ["_law_script", "_law_state", "_law_turn", "_law_yard_here", "_law_costs_here", "_law_counts", "_law_every", "_law_goals", "_law_goal_here", "_law_told", "_law_k"] "law" (defScope st_law) f cdv A outer s0 H E) (E := E) rfl rfl rfl rfl
    have po := passes_of (X := cxOf (L2.CX P w) P w K mg base ["_law_script", "_law_state", "_law_turn", "_law_yard_here", "_law_costs_here", "_law_counts", "_law_every", "_law_goals", "_law_goal_here", "_law_told", "_law_k"] "law" (defScope st_law) f cdv A outer s0 H E) rfl
    exact (ss_cons (es_set nd (ee_callH h__law_start (hr.mono (by decide)) tk (ea_cons (ee_var 0) ea_nil)))
  (ss_cons (es_for po rfl (ei_range1 B.range (ea_cons ee_int ea_nil)) (eg_name nd) (ss_cons (es_set nd (ee_callH h__law_yard (hr.mono (by decide)) tk (ea_cons (ee_var 1) (ea_cons ee_int ea_nil))))
  (ss_cons (es_par rfl nd (ea_cons (ee_callH h__law_costs (hr.mono (by decide)) tk (ea_cons (ee_var 3) (ea_cons ee_bl ea_nil))) (ea_cons (ee_callH h__law_costs (hr.mono (by decide)) tk (ea_cons (ee_var 3) (ea_cons ee_bl ea_nil))) ea_nil)))
  (ss_cons (es_if (et_cmp (og_ne hr.units) (ee_callH h_reach (hr.mono (by decide)) tk (ea_cons (ee_var 3) ea_nil)) (ee_callB cg_lenX B.len (by decide +kernel) (ea_cons (ee_var 4) ea_nil))) (ss_one (es_ret ee_bl)) ss_nil)
  (ss_cons (es_set nd (ee_sortD h__law_key (hr.mono (by decide)) B.sorted rfl (ee_var 4)))
  (ss_cons (es_setLc (own := [("_law_k", 10)]) rfl nd (ei_range1 B.range (ea_cons ee_int ea_nil)) (blkOk_by (N := ["_law_script", "_law_state", "_law_turn", "_law_yard_here", "_law_costs_here", "_law_counts", "_law_every", "_law_goals", "_law_goal_here", "_law_told", "_law_k"]) (sc := defScope st_law) (by decide +kernel)) (fun _ _ _ _ _ => (evg_name nd)) (fun _ _ _ _ _ => ets_nil) (fun _ _ _ _ _ => (ee_ix (ee_var 6) (ee_callH h__law_drawn (hr.mono (by decide)) takes0 (ea_cons (ee_var 1) (ea_cons (ee_callB cg_len B.len (by decide +kernel) (ea_cons (ee_var 6) ea_nil)) ea_nil))))) (sw_true rfl rfl rfl (by decide +kernel)))
  (ss_one (es_for po rfl (ei_seq (ee_op og_add (ee_var 7) (ee_lc (own := [("_law_k", 10)]) rfl nd (ei_range1 B.range (ea_cons ee_int ea_nil)) (blkOk_by (N := ["_law_script", "_law_state", "_law_turn", "_law_yard_here", "_law_costs_here", "_law_counts", "_law_every", "_law_goals", "_law_goal_here", "_law_told", "_law_k"]) (sc := defScope st_law) (by decide +kernel)) (fun _ _ _ _ _ => (evg_name nd)) (fun _ _ _ _ _ => ets_nil) (fun _ _ _ _ _ => (ee_callH h__law_goal (hr.mono (by decide)) takes0 (ea_cons (ee_var 1) (ea_cons (ee_var 3) ea_nil))))))) (eg_name nd) (ss_cons (es_set nd (ee_callH h_least (hr.mono (by decide)) tk (ea_cons (ee_var 3) (ea_cons (ee_var 8) ea_nil))))
  (ss_one (es_if (et_w (ew_or (et_cmp (og_ne hr.units) (ee_if (et_cmp og_isN (ee_var 9) ee_non) ee_non (ee_ix (ee_var 9) ee_int)) (ee_xget (room1 hr) (ee_var 4) (ee_var 8))) (ew_or1 (et_cmp (og_ne hr.units) (ee_callH h_fewest (hr.mono (by decide)) tk (ea_cons (ee_var 3) (ea_cons (ee_var 8) ea_nil))) (ee_xget (room1 hr) (ee_var 5) (ee_var 8)))))) (ss_one (es_ret ee_bl)) ss_nil)))))))))))
  (ss_one (es_ret ee_bl))))) pure_law
end
theorem bi__law_start : BindOk "_law_start" "_law_start" st__law_start ["_law_script"] := fun _ _ _ _ _ _ us hl => match us, hl with | [_], _ => rfl
theorem bi__law_drawn : BindOk "_law_drawn" "_law_drawn" st__law_drawn ["_law_state", "_law_many"] := fun _ _ _ _ _ _ us hl => match us, hl with | [_, _], _ => rfl
theorem bi__law_turned : BindOk "_law_turned" "_law_turned" st__law_turned ["_law_state", "_law_many"] := fun _ _ _ _ _ _ us hl => match us, hl with | [_, _], _ => rfl
theorem bi__law_nesting : BindOk "_law_nesting" "_law_nesting" st__law_nesting ["_law_state", "_law_many"] := fun _ _ _ _ _ _ us hl => match us, hl with | [_, _], _ => rfl
theorem bi__law_yard : BindOk "_law_yard" "_law_yard" st__law_yard ["_law_state", "_law_most"] := fun _ _ _ _ _ _ us hl => match us, hl with | [_, _], _ => rfl
theorem bi__law_up : BindOk "_law_up" "_law_up" st__law_up ["_law_holders", "_law_box"] := fun _ _ _ _ _ _ us hl => match us, hl with | [_, _], _ => rfl
theorem bi__law_nexts : BindOk "_law_nexts" "_law_nexts" st__law_nexts ["_law_yard_here", "_law_holders"] := fun _ _ _ _ _ _ us hl => match us, hl with | [_, _], _ => rfl
theorem bi__law_costs : BindOk "_law_costs" "_law_costs" st__law_costs ["_law_yard_here", "_law_plain"] := fun _ _ _ _ _ _ us hl => match us, hl with | [_, _], _ => rfl
theorem bi_is_number : BindOk "is_number" "is_number" st_is_number ["thing", "low", "high"] := fun _ _ _ _ _ _ us hl => match us, hl with | [_, _, _], _ => rfl
theorem bi_is_holder : BindOk "is_holder" "is_holder" st_is_holder ["thing", "many"] := fun _ _ _ _ _ _ us hl => match us, hl with | [_, _], _ => rfl
theorem bi_is_price : BindOk "is_price" "is_price" st_is_price ["thing"] := fun _ _ _ _ _ _ us hl => match us, hl with | [_], _ => rfl
theorem bi_holders_of : BindOk "holders_of" "holders_of" st_holders_of ["yard"] := fun _ _ _ _ _ _ us hl => match us, hl with | [_], _ => rfl
theorem bi_ring_from : BindOk "ring_from" "ring_from" st_ring_from ["holders", "box"] := fun _ _ _ _ _ _ us hl => match us, hl with | [_, _], _ => rfl
theorem bi_first_in_itself : BindOk "first_in_itself" "first_in_itself" st_first_in_itself ["holders"] := fun _ _ _ _ _ _ us hl => match us, hl with | [_], _ => rfl
theorem bi_need_yard : BindOk "need_yard" "need_yard" st_need_yard ["yard"] := fun _ _ _ _ _ _ us hl => match us, hl with | [_], _ => rfl
theorem bi_top_of : BindOk "top_of" "top_of" st_top_of ["yard", "box"] := fun _ _ _ _ _ _ us hl => match us, hl with | [_, _], _ => rfl
theorem bi_reach : BindOk "reach" "reach" st_reach ["yard"] := fun _ _ _ _ _ _ us hl => match us, hl with | [_], _ => rfl
theorem bi__law_key : BindOk "_law_key" "_law_key" st__law_key ["_law_holders"] := fun _ _ _ _ _ _ us hl => match us, hl with | [_], _ => rfl
theorem bi__law_goal : BindOk "_law_goal" "_law_goal" st__law_goal ["_law_state", "_law_yard_here"] := fun _ _ _ _ _ _ us hl => match us, hl with | [_, _], _ => rfl
theorem bi_need_goal : BindOk "need_goal" "need_goal" st_need_goal ["yard", "goal"] := fun _ _ _ _ _ _ us hl => match us, hl with | [_, _], _ => rfl
theorem bi_Task_init : BindOk "__init__" "Task.__init__" st_Task_init ["self", "yard", "goal"] := fun _ _ _ _ _ _ us hl => match us, hl with | [_, _, _], _ => rfl
theorem bi_task_of : BindOk "task_of" "task_of" st_task_of ["yard", "goal"] := fun _ _ _ _ _ _ us hl => match us, hl with | [_, _], _ => rfl
theorem bi_Task_may : BindOk "may" "Task.may" st_Task_may ["self"] := fun _ _ _ _ _ _ us hl => match us, hl with | [_], _ => rfl
theorem bi_Task_cost : BindOk "cost" "Task.cost" st_Task_cost ["self"] := fun _ _ _ _ _ _ us hl => match us, hl with | [_], _ => rfl
theorem bi_chain_of : BindOk "chain_of" "chain_of" st_chain_of ["holders", "box"] := fun _ _ _ _ _ _ us hl => match us, hl with | [_, _], _ => rfl
theorem bi_Task_way : BindOk "way" "Task.way" st_Task_way ["self"] := fun _ _ _ _ _ _ us hl => match us, hl with | [_], _ => rfl
theorem bi_least : BindOk "least" "least" st_least ["yard", "goal"] := fun _ _ _ _ _ _ us hl => match us, hl with | [_, _], _ => rfl
theorem bi_fewest : BindOk "fewest" "fewest" st_fewest ["yard", "goal"] := fun _ _ _ _ _ _ us hl => match us, hl with | [_, _], _ => rfl
theorem bi_law : BindOk "law" "law" st_law ["_law_script"] := fun _ _ _ _ _ _ us hl => match us, hl with | [_], _ => rfl
abbrev st_BadYard_init : Stmt := inClass (topS 3) 0
theorem sc_BadYard_init : FnScope ["self", "number"] ["self", "number"] (defScope st_BadYard_init) := ⟨rfl, rfl, rfl, by decide +kernel, rfl, by decide +kernel, by decide +kernel⟩
theorem kb_BadYard : KBindOk "BadYard.__init__" st_BadYard_init ["self", "number"] ["number"] := fun _ _ _ _ _ _ us ws h1 h2 => match us, h1, ws, h2 with | [_], _, [_], _ => rfl
theorem okx_BadYard {P : Program} {w : World} {K : PySem.W.Frag} {mg : Str → Option Value} {base : Heap} (bx : BoxAt K mg) (A : X1At K mg "BadYard" "number" "BadYard.__init__" st_BadYard_init) : HasX1 P w K mg base "BadYard" "number" := by
  obtain ⟨C0, gB, Bx⟩ := bx
  exact A.has fun fI fd Fn => init1_ok Fn sc_BadYard_init fun cdv A outer s0 H E => pss_cons (ps_expr (pe_boxinit (x := "BoxError") (C0 := C0) rfl gB Bx (pa_cons (pe_var (i := 0) rfl (by first | exact Or.inl rfl | exact Or.inr (Or.inl rfl) | exact Or.inr (Or.inr rfl))) (pa_cons pe_str pa_nil)))) (pss_one (ps_ost (pe_var (i := 0) rfl (by first | exact Or.inl rfl | exact Or.inr (Or.inl rfl) | exact Or.inr (Or.inr rfl))) (pe_var (i := 1) rfl (by first | exact Or.inl rfl | exact Or.inr (Or.inl rfl) | exact Or.inr (Or.inr rfl)))))
abbrev st_BadGoal_init : Stmt := inClass (topS 4) 0
theorem sc_BadGoal_init : FnScope ["self", "number"] ["self", "number"] (defScope st_BadGoal_init) := ⟨rfl, rfl, rfl, by decide +kernel, rfl, by decide +kernel, by decide +kernel⟩
theorem kb_BadGoal : KBindOk "BadGoal.__init__" st_BadGoal_init ["self", "number"] ["number"] := fun _ _ _ _ _ _ us ws h1 h2 => match us, h1, ws, h2 with | [_], _, [_], _ => rfl
theorem okx_BadGoal {P : Program} {w : World} {K : PySem.W.Frag} {mg : Str → Option Value} {base : Heap} (bx : BoxAt K mg) (A : X1At K mg "BadGoal" "number" "BadGoal.__init__" st_BadGoal_init) : HasX1 P w K mg base "BadGoal" "number" := by
  obtain ⟨C0, gB, Bx⟩ := bx
  exact A.has fun fI fd Fn => init1_ok Fn sc_BadGoal_init fun cdv A outer s0 H E => pss_cons (ps_expr (pe_boxinit (x := "BoxError") (C0 := C0) rfl gB Bx (pa_cons (pe_var (i := 0) rfl (by first | exact Or.inl rfl | exact Or.inr (Or.inl rfl) | exact Or.inr (Or.inr rfl))) (pa_cons pe_str pa_nil)))) (pss_one (ps_ost (pe_var (i := 0) rfl (by first | exact Or.inl rfl | exact Or.inr (Or.inl rfl) | exact Or.inr (Or.inr rfl))) (pe_var (i := 1) rfl (by first | exact Or.inl rfl | exact Or.inr (Or.inl rfl) | exact Or.inr (Or.inr rfl)))))
theorem top_law {P : Program} {w : World} {K : PySem.W.Frag} {mg : Str → Option Value} (base : Heap) (B : Blt mg) (c_Task : HasCls K mg "Task" L_Task) (g_MOST_BOXES : ∃ t, mg "MOST_BOXES" = some (.int 12 t)) (g_MOST_PRICE : ∃ t, mg "MOST_PRICE" = some (.int 99 t)) (A__law_start : FunAt K mg "_law_start" st__law_start ["_law_script"]) (A__law_drawn : FunAt K mg "_law_drawn" st__law_drawn ["_law_state", "_law_many"]) (A__law_turned : FunAt K mg "_law_turned" st__law_turned ["_law_state", "_law_many"]) (A__law_nesting : FunAt K mg "_law_nesting" st__law_nesting ["_law_state", "_law_many"]) (A__law_yard : FunAt K mg "_law_yard" st__law_yard ["_law_state", "_law_most"]) (A__law_up : FunAt K mg "_law_up" st__law_up ["_law_holders", "_law_box"]) (A__law_nexts : FunAt K mg "_law_nexts" st__law_nexts ["_law_yard_here", "_law_holders"]) (A__law_costs : FunAt K mg "_law_costs" st__law_costs ["_law_yard_here", "_law_plain"]) (A_is_number : FunAt K mg "is_number" st_is_number ["thing", "low", "high"]) (A_is_holder : FunAt K mg "is_holder" st_is_holder ["thing", "many"]) (A_is_price : FunAt K mg "is_price" st_is_price ["thing"]) (A_holders_of : FunAt K mg "holders_of" st_holders_of ["yard"]) (A_ring_from : FunAt K mg "ring_from" st_ring_from ["holders", "box"]) (A_first_in_itself : FunAt K mg "first_in_itself" st_first_in_itself ["holders"]) (A_need_yard : FunAt K mg "need_yard" st_need_yard ["yard"]) (A_top_of : FunAt K mg "top_of" st_top_of ["yard", "box"]) (A_reach : FunAt K mg "reach" st_reach ["yard"]) (A__law_key : FunAt K mg "_law_key" st__law_key ["_law_holders"]) (A__law_goal : FunAt K mg "_law_goal" st__law_goal ["_law_state", "_law_yard_here"]) (A_need_goal : FunAt K mg "need_goal" st_need_goal ["yard", "goal"]) (A_Task_init : MakeAt K mg "Task" L_Task "Task.__init__" st_Task_init ["self", "yard", "goal"]) (A_task_of : FunAt K mg "task_of" st_task_of ["yard", "goal"]) (A_Task_may : MethAt K mg "Task" L_Task "may" "Task.may" st_Task_may ["self"]) (A_Task_cost : MethAt K mg "Task" L_Task "cost" "Task.cost" st_Task_cost ["self"]) (A_chain_of : FunAt K mg "chain_of" st_chain_of ["holders", "box"]) (A_Task_way : MethAtC K mg base "Task" L_Task "way" "Task.way" st_Task_way ["self"] tabP) (A_least : FunAt K mg "least" st_least ["yard", "goal"]) (A_fewest : FunAt K mg "fewest" st_fewest ["yard", "goal"]) (bx : BoxAt K mg) (X_BadYard : X1At K mg "BadYard" "number" "BadYard.__init__" st_BadYard_init) (X_BadGoal : X1At K mg "BadGoal" "number" "BadGoal.__init__" st_BadGoal_init) : ∀ (f : Addr) (fd : FuncData), Fun K "law" "law" st_law f fd → FnOk P w K mg base (L2.CX P w) 7 f fd ["_law_script"] (LSp K mg sp_law) := by
  have x_BadYard := okx_BadYard (P := P) (w := w) (base := base) bx X_BadYard
  have x_BadGoal := okx_BadGoal (P := P) (w := w) (base := base) bx X_BadGoal
  have h__law_start := ok__law_start (P := P) (w := w) (base := base) B A__law_start 
  have h__law_drawn := ok__law_drawn (P := P) (w := w) (base := base) B A__law_drawn 
  have h__law_turned := ok__law_turned (P := P) (w := w) (base := base) B A__law_turned h__law_drawn
  have h__law_nesting := ok__law_nesting (P := P) (w := w) (base := base) B A__law_nesting h__law_turned h__law_drawn
  have h__law_yard := ok__law_yard (P := P) (w := w) (base := base) B A__law_yard h__law_drawn h__law_nesting
  have h__law_up := ok__law_up (P := P) (w := w) (base := base) B A__law_up 
  have h__law_nexts := ok__law_nexts (P := P) (w := w) (base := base) B A__law_nexts h__law_up
  have h__law_costs := ok__law_costs (P := P) (w := w) (base := base) B A__law_costs h__law_nexts
  have h_is_number := ok_is_number (P := P) (w := w) (base := base) B A_is_number 
  have h_is_holder := ok_is_holder (P := P) (w := w) (base := base) B A_is_holder h_is_number
  have h_is_price := ok_is_price (P := P) (w := w) (base := base) B A_is_price g_MOST_PRICE h_is_number
  have h_holders_of := ok_holders_of (P := P) (w := w) (base := base) B A_holders_of 
  have h_ring_from := ok_ring_from (P := P) (w := w) (base := base) B A_ring_from 
  have h_first_in_itself := ok_first_in_itself (P := P) (w := w) (base := base) B A_first_in_itself h_ring_from
  have h_need_yard := ok_need_yard (P := P) (w := w) (base := base) B A_need_yard x_BadYard g_MOST_BOXES h_is_holder h_is_price h_holders_of h_first_in_itself
  have h_top_of := ok_top_of (P := P) (w := w) (base := base) B A_top_of 
  have h_reach := ok_reach (P := P) (w := w) (base := base) B A_reach h_need_yard h_top_of
  have h__law_key := ok__law_key (P := P) (w := w) (base := base) B A__law_key 
  have h__law_goal := ok__law_goal (P := P) (w := w) (base := base) B A__law_goal h__law_drawn h__law_nesting h__law_up
  have h_need_goal := ok_need_goal (P := P) (w := w) (base := base) B A_need_goal x_BadGoal h_is_holder h_first_in_itself
  have h_Task_init := ok_Task_init (P := P) (w := w) (base := base) B A_Task_init c_Task h_holders_of
  have h_task_of := ok_task_of (P := P) (w := w) (base := base) B A_task_of h_need_yard h_need_goal c_Task h_Task_init
  have h_Task_may := ok_Task_may (P := P) (w := w) (base := base) B A_Task_may c_Task
  have h_Task_cost := ok_Task_cost (P := P) (w := w) (base := base) B A_Task_cost c_Task
  have h_chain_of := ok_chain_of (P := P) (w := w) (base := base) B A_chain_of 
  have h_Task_way := ok_Task_way (P := P) (w := w) (base := base) B A_Task_way c_Task h_chain_of
  have h_least := ok_least (P := P) (w := w) (base := base) B A_least h_task_of h_Task_may c_Task h_Task_cost h_Task_way
  have h_fewest := ok_fewest (P := P) (w := w) (base := base) B A_fewest h_task_of h_Task_may c_Task
  exact ok_law B h__law_start h__law_yard h__law_costs h_reach h__law_key h__law_drawn h__law_goal h_least h_fewest
theorem cl_Task {K : PySem.W.Frag} {mg : Str → Option Value} {C : Addr} {cc : Addr} (T : ClsT K mg "Task" L_Task C) (m_Task_init : MakeF K C "Task.__init__" st_Task_init ["self", "yard", "goal"]) (m_Task_may : MethF K C "may" "Task.may" st_Task_may ["self"]) (m_Task_cost : MethF K C "cost" "Task.cost" st_Task_cost ["self"]) (m_Task_way : MethFC K C "way" "Task.way" st_Task_way ["self"] cc) (hd : PySem.W.codeHdIn K cc tabP = true) : ∃ cc : Addr, HasCls K mg "Task" L_Task ∧ MakeAt K mg "Task" L_Task "Task.__init__" st_Task_init ["self", "yard", "goal"] ∧ MethAt K mg "Task" L_Task "may" "Task.may" st_Task_may ["self"] ∧ MethAt K mg "Task" L_Task "cost" "Task.cost" st_Task_cost ["self"] ∧ (∃ C, ClsT K mg "Task" L_Task C ∧ MethFC K C "way" "Task.way" st_Task_way ["self"] cc) ∧ PySem.W.codeHdIn K cc tabP = true := ⟨cc, T.has, T.make m_Task_init, T.meth m_Task_may, T.meth m_Task_cost, ⟨_, T, m_Task_way⟩, hd⟩
theorem no_Task {K : PySem.W.Frag} {C : Addr} (n0 : PySem.W.findIn K (.ref C) "boxes" = some none) (n1 : PySem.W.findIn K (.ref C) "wanted" = some none) (n2 : PySem.W.findIn K (.ref C) "holders" = some none) (n3 : PySem.W.findIn K (.ref C) "some" = some none) : ∀ f ∈ L_Task, NoAttr K C f := by
  intro f hf
  simp only [L_Task, List.mem_cons, List.not_mem_nil, or_false] at hf
  rcases hf with rfl | rfl | rfl | rfl
  all_goals assumption
end Nb
open PySem PySem.W PyProof.Rows
set_option pp.maxSteps 100
set_option maxHeartbeats 0 in
theorem PySem.Challenge.cw_nestboxes_k04_all_nestings_by_search_holds : PySem.Challenge.rw_nestboxes_k04_all_nestings_by_search.Holds := by
  w_on; o_law; k_head; (case hw => w_witness2)
  k_fill
  refine LamX.walk_ofTs (l := PySem.Challenge.rw_nestboxes_k04_all_nestings_by_search) (n := 63) (k := 7) (x := "_law_script") (CX := fun w => L2.CX PySem.Challenge.rw_nestboxes_k04_all_nestings_by_search.prog w) rfl (by decide) rfl ⟨rfl, by decide, by decide⟩ (fun w h Y => PySem.W.km_in_of Y) ?F (fun w H s e s' => Nb.cx_false w H s e s')
  case F =>
    intro w mg fa h Y KX G hmg
    have hT8 := PySem.W.km_tabs_of Y
    have B : Nb.Blt mg := ⟨Nb.no_name KX G (by k_is), Nb.no_name KX G (by k_is), Nb.no_name KX G (by k_is), Nb.no_name KX G (by k_is), Nb.no_name KX G (by k_is), Nb.no_name KX G (by k_is), Nb.no_name KX G (by k_is), Nb.no_name KX G (by k_is), Nb.no_name KX G (by k_is), Nb.no_name KX G (by k_is), Nb.no_name KX G (by k_is), Nb.no_name KX G (by k_is), Nb.no_name KX G (by k_is), Nb.no_name KX G (by k_is), Nb.no_name KX G (by k_is), Nb.no_name KX G (by k_is), Nb.no_name KX G (by k_is)⟩
    have g_MOST_BOXES : ∃ t, mg "MOST_BOXES" = some (Value.int 12 t) := by
      refine' Nb.con_int KX G ?a
      (case a => k_is)
    have g_MOST_PRICE : ∃ t, mg "MOST_PRICE" = some (Value.int 99 t) := by
      refine' Nb.con_int KX G ?a
      (case a => k_is)
    have A__law_start : Nb.FunAt (L2.KOf KX) mg "_law_start" Nb.st__law_start ["_law_script"] := by
      delta L2.KOf
      refine' Nb.funAt_mk KX G Nb.bi__law_start ?a ?l ?c ?k
      (case a => k_is); (case l => k_is); (case c => k_is); (case k => k_is)
    have A__law_drawn : Nb.FunAt (L2.KOf KX) mg "_law_drawn" Nb.st__law_drawn ["_law_state", "_law_many"] := by
      delta L2.KOf
      refine' Nb.funAt_mk KX G Nb.bi__law_drawn ?a ?l ?c ?k
      (case a => k_is); (case l => k_is); (case c => k_is); (case k => k_is)
    have A__law_turned : Nb.FunAt (L2.KOf KX) mg "_law_turned" Nb.st__law_turned ["_law_state", "_law_many"] := by
      delta L2.KOf
      refine' Nb.funAt_mk KX G Nb.bi__law_turned ?a ?l ?c ?k
      (case a => k_is); (case l => k_is); (case c => k_is); (case k => k_is)
    have A__law_nesting : Nb.FunAt (L2.KOf KX) mg "_law_nesting" Nb.st__law_nesting ["_law_state", "_law_many"] := by
      delta L2.KOf
      refine' Nb.funAt_mk KX G Nb.bi__law_nesting ?a ?l ?c ?k
      (case a => k_is); (case l => k_is); (case c => k_is); (case k => k_is)
    have A__law_yard : Nb.FunAt (L2.KOf KX) mg "_law_yard" Nb.st__law_yard ["_law_state", "_law_most"] := by
      delta L2.KOf
      refine' Nb.funAt_mk KX G Nb.bi__law_yard ?a ?l ?c ?k
      (case a => k_is); (case l => k_is); (case c => k_is); (case k => k_is)
    have A__law_up : Nb.FunAt (L2.KOf KX) mg "_law_up" Nb.st__law_up ["_law_holders", "_law_box"] := by
      delta L2.KOf
      refine' Nb.funAt_mk KX G Nb.bi__law_up ?a ?l ?c ?k
      (case a => k_is); (case l => k_is); (case c => k_is); (case k => k_is)
    have A__law_nexts : Nb.FunAt (L2.KOf KX) mg "_law_nexts" Nb.st__law_nexts ["_law_yard_here", "_law_holders"] := by
      delta L2.KOf
      refine' Nb.funAt_mk KX G Nb.bi__law_nexts ?a ?l ?c ?k
      (case a => k_is); (case l => k_is); (case c => k_is); (case k => k_is)
    have A__law_costs : Nb.FunAt (L2.KOf KX) mg "_law_costs" Nb.st__law_costs ["_law_yard_here", "_law_plain"] := by
      delta L2.KOf
      refine' Nb.funAt_mk KX G Nb.bi__law_costs ?a ?l ?c ?k
      (case a => k_is); (case l => k_is); (case c => k_is); (case k => k_is)
    have A_is_number : Nb.FunAt (L2.KOf KX) mg "is_number" Nb.st_is_number ["thing", "low", "high"] := by
      delta L2.KOf
      refine' Nb.funAt_mk KX G Nb.bi_is_number ?a ?l ?c ?k
      (case a => k_is); (case l => k_is); (case c => k_is); (case k => k_is)
    have A_is_holder : Nb.FunAt (L2.KOf KX) mg "is_holder" Nb.st_is_holder ["thing", "many"] := by
      delta L2.KOf
      refine' Nb.funAt_mk KX G Nb.bi_is_holder ?a ?l ?c ?k
      (case a => k_is); (case l => k_is); (case c => k_is); (case k => k_is)
    have A_is_price : Nb.FunAt (L2.KOf KX) mg "is_price" Nb.st_is_price ["thing"] := by
      delta L2.KOf
      refine' Nb.funAt_mk KX G Nb.bi_is_price ?a ?l ?c ?k
      (case a => k_is); (case l => k_is); (case c => k_is); (case k => k_is)
    have A_holders_of : Nb.FunAt (L2.KOf KX) mg "holders_of" Nb.st_holders_of ["yard"] := by
      delta L2.KOf
      refine' Nb.funAt_mk KX G Nb.bi_holders_of ?a ?l ?c ?k
      (case a => k_is); (case l => k_is); (case c => k_is); (case k => k_is)
    have A_ring_from : Nb.FunAt (L2.KOf KX) mg "ring_from" Nb.st_ring_from ["holders", "box"] := by
      delta L2.KOf
      refine' Nb.funAt_mk KX G Nb.bi_ring_from ?a ?l ?c ?k
      (case a => k_is); (case l => k_is); (case c => k_is); (case k => k_is)
    have A_first_in_itself : Nb.FunAt (L2.KOf KX) mg "first_in_itself" Nb.st_first_in_itself ["holders"] := by
      delta L2.KOf
      refine' Nb.funAt_mk KX G Nb.bi_first_in_itself ?a ?l ?c ?k
      (case a => k_is); (case l => k_is); (case c => k_is); (case k => k_is)
    have A_need_yard : Nb.FunAt (L2.KOf KX) mg "need_yard" Nb.st_need_yard ["yard"] := by
      delta L2.KOf
      refine' Nb.funAt_mk KX G Nb.bi_need_yard ?a ?l ?c ?k
      (case a => k_is); (case l => k_is); (case c => k_is); (case k => k_is)
    have A_top_of : Nb.FunAt (L2.KOf KX) mg "top_of" Nb.st_top_of ["yard", "box"] := by
      delta L2.KOf
      refine' Nb.funAt_mk KX G Nb.bi_top_of ?a ?l ?c ?k
      (case a => k_is); (case l => k_is); (case c => k_is); (case k => k_is)
    have A_reach : Nb.FunAt (L2.KOf KX) mg "reach" Nb.st_reach ["yard"] := by
      delta L2.KOf
      refine' Nb.funAt_mk KX G Nb.bi_reach ?a ?l ?c ?k
      (case a => k_is); (case l => k_is); (case c => k_is); (case k => k_is)
    have A__law_key : Nb.FunAt (L2.KOf KX) mg "_law_key" Nb.st__law_key ["_law_holders"] := by
      delta L2.KOf
      refine' Nb.funAt_mk KX G Nb.bi__law_key ?a ?l ?c ?k
      (case a => k_is); (case l => k_is); (case c => k_is); (case k => k_is)
    have A__law_goal : Nb.FunAt (L2.KOf KX) mg "_law_goal" Nb.st__law_goal ["_law_state", "_law_yard_here"] := by
      delta L2.KOf
      refine' Nb.funAt_mk KX G Nb.bi__law_goal ?a ?l ?c ?k
      (case a => k_is); (case l => k_is); (case c => k_is); (case k => k_is)
    have A_need_goal : Nb.FunAt (L2.KOf KX) mg "need_goal" Nb.st_need_goal ["yard", "goal"] := by
      delta L2.KOf
      refine' Nb.funAt_mk KX G Nb.bi_need_goal ?a ?l ?c ?k
      (case a => k_is); (case l => k_is); (case c => k_is); (case k => k_is)
    have A_task_of : Nb.FunAt (L2.KOf KX) mg "task_of" Nb.st_task_of ["yard", "goal"] := by
      delta L2.KOf
      refine' Nb.funAt_mk KX G Nb.bi_task_of ?a ?l ?c ?k
      (case a => k_is); (case l => k_is); (case c => k_is); (case k => k_is)
    have A_chain_of : Nb.FunAt (L2.KOf KX) mg "chain_of" Nb.st_chain_of ["holders", "box"] := by
      delta L2.KOf
      refine' Nb.funAt_mk KX G Nb.bi_chain_of ?a ?l ?c ?k
      (case a => k_is); (case l => k_is); (case c => k_is); (case k => k_is)
    have A_least : Nb.FunAt (L2.KOf KX) mg "least" Nb.st_least ["yard", "goal"] := by
      delta L2.KOf
      refine' Nb.funAt_mk KX G Nb.bi_least ?a ?l ?c ?k
      (case a => k_is); (case l => k_is); (case c => k_is); (case k => k_is)
    have A_fewest : Nb.FunAt (L2.KOf KX) mg "fewest" Nb.st_fewest ["yard", "goal"] := by
      delta L2.KOf
      refine' Nb.funAt_mk KX G Nb.bi_fewest ?a ?l ?c ?k
      (case a => k_is); (case l => k_is); (case c => k_is); (case k => k_is)
    have J_Task : ∃ cc : Addr, Nb.HasCls (L2.KOf KX) mg "Task" Nb.L_Task ∧ Nb.MakeAt (L2.KOf KX) mg "Task" Nb.L_Task "Task.__init__" Nb.st_Task_init ["self", "yard", "goal"] ∧ Nb.MethAt (L2.KOf KX) mg "Task" Nb.L_Task "may" "Task.may" Nb.st_Task_may ["self"] ∧ Nb.MethAt (L2.KOf KX) mg "Task" Nb.L_Task "cost" "Task.cost" Nb.st_Task_cost ["self"] ∧ (∃ C, Nb.ClsT (L2.KOf KX) mg "Task" Nb.L_Task C ∧ Nb.MethFC (L2.KOf KX) C "way" "Task.way" Nb.st_Task_way ["self"] cc) ∧ PySem.W.codeHdIn (L2.KOf KX) cc Nb.tabP = true := by
      delta L2.KOf
      refine' Nb.cl_Task (Nb.clsT_mk KX G ?aC (by decide +kernel) (by decide) (Nb.no_Task ?n0 ?n1 ?n2 ?n3) ?pg ?hd ?po ?sa) (Nb.makeF_mk Nb.bi_Task_init ?a0 ?i0 ?l0 ?c0 ?k0 ?mk ?kc) (Nb.methF_mk Nb.bi_Task_may ?a1 ?i1 ?l1 ?c1 ?k1) (Nb.methF_mk Nb.bi_Task_cost ?a2 ?i2 ?l2 ?c2 ?k2) (Nb.methFC_mk Nb.bi_Task_way ?a3 ?i3 ?l3 ?c3 ?k3) ?hcd
      (case aC => k_is); (case pg => k_is); (case hd => k_is); (case po => k_is); (case sa => k_is); (case n0 => k_is); (case n1 => k_is); (case n2 => k_is); (case n3 => k_is)
      (case a0 => k_is); (case i0 => k_is); (case l0 => k_is); (case c0 => k_is); (case k0 => k_is)
      (case a1 => k_is); (case i1 => k_is); (case l1 => k_is); (case c1 => k_is); (case k1 => k_is)
      (case a2 => k_is); (case i2 => k_is); (case l2 => k_is); (case c2 => k_is); (case k2 => k_is)
      (case a3 => k_is); (case i3 => k_is); (case l3 => k_is); (case c3 => k_is); (case k3 => k_is)
      (case mk => k_is); (case kc => k_is)
      (case hcd => kernel_rfl)
    obtain ⟨cc, c_Task, A_Task_init, A_Task_may, A_Task_cost, ⟨C_Task_way, T_Task_way, m_Task_way⟩, hcd⟩ := J_Task
    have bx : Nb.BoxAt (L2.KOf KX) mg := by
      delta L2.KOf
      refine' Nb.box_mk KX G ?a ?rd ?ga ?at_
      (case a => k_is); (case rd => kernel_rfl); (case ga => kernel_rfl); (case at_ => kernel_rfl)
    have X_BadYard : Nb.X1At (L2.KOf KX) mg "BadYard" "number" "BadYard.__init__" Nb.st_BadYard_init := by
      delta L2.KOf
      refine' Nb.x1_mk KX G Nb.kb_BadYard ?a ?o ?n0 ?i ?t ?l ?c ?k
      (case a => k_is); (case o => kernel_rfl); (case n0 => k_is); (case i => k_is); (case t => k_is); (case l => k_is); (case c => k_is); (case k => k_is)
    have X_BadGoal : Nb.X1At (L2.KOf KX) mg "BadGoal" "number" "BadGoal.__init__" Nb.st_BadGoal_init := by
      delta L2.KOf
      refine' Nb.x1_mk KX G Nb.kb_BadGoal ?a ?o ?n0 ?i ?t ?l ?c ?k
      (case a => k_is); (case o => kernel_rfl); (case n0 => k_is); (case i => k_is); (case t => k_is); (case l => k_is); (case c => k_is); (case k => k_is)
    refine' Nb.law_endT [(cc, Nb.tabP)] Nb.mem0 KX G (fun a mo e => Nb.mem0_ok cc e) Nb.law_specT hmg Nb.bi_law ?a ?l ?c ?k ?tabT ?tabN ?tabH (fun base TB => Nb.top_law base B c_Task g_MOST_BOXES g_MOST_PRICE A__law_start A__law_drawn A__law_turned A__law_nesting A__law_yard A__law_up A__law_nexts A__law_costs A_is_number A_is_holder A_is_price A_holders_of A_ring_from A_first_in_itself A_need_yard A_top_of A_reach A__law_key A__law_goal A_need_goal A_Task_init A_task_of A_Task_may A_Task_cost A_chain_of (T_Task_way.methC m_Task_way (TB _ (List.mem_singleton.mpr rfl))) A_least A_fewest bx X_BadYard X_BadGoal)
    (case a => k_is); (case l => k_is); (case c => k_is); (case k => k_is)
    (case tabT => (intro p hp; cases List.mem_singleton.mp hp; exact hT8 _ (by unfold Nb.tabP; first | exact List.mem_cons_self .. | decide)))
    (case tabN => (intro p hp; cases List.mem_singleton.mp hp; kernel_rfl))
    (case tabH => (intro p hp; cases List.mem_singleton.mp hp; exact PySem.W.codeHd_of_K KX hcd))
