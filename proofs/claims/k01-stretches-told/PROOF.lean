import PyProof.Rows.All
import Wide.All
import OpenK.AllK
import Wide.FinOn
import HandS.ForMost
import HandS.IsInst
import HandS.Deep
import HandS.Conv
import HandS.Style
import HandS.Wide
import KE.SortData
import KE.SortKeyHeap
import KE.LtData
import HandS.Text
import HandS.TupAny
import HandS.StrMore
import PyProof.Rows.IntBool
import PyProof.CallStr
import PyProof.FactsAll.bool_2
import HandS.DictTup
import HandS.Zip
import HandS.TupSets
import KE.KeyNested
import KE.KRevSl
import HandS.CallSlots
import HandS.Strs
import HandS.NoneIn
import HandS.Words
import HandS.Ends
import PyProof.Rows.StrCase
import PyProof.Rows.ReprOcc
import PyProof.FitsInt
import PySem.Challenge.RW_stencilrow_k01_stretches_wishes_stencils
set_option Elab.async false
set_option linter.all false
set_option maxRecDepth 100000
set_option maxHeartbeats 4000000
/-! plain data D, and how it lies in the abstract heap -/
namespace SR
open PySem PySem.Spec PyProof.Rows L2

/-- plain data; a reference stands for an object that may change -/
inductive D where
  | non | bl (b : Bool) | int (i : Int) | str (s : Str) | tup (l : List D) | lst (l : List D) | ref (a : Addr) | scr (ns : List Int)

mutual
def toPy : D → PyData
  | .non => .none
  | .bl b => .bool b
  | .int i => .int i
  | .str s => .str s
  | .tup l => .tuple (toPys l)
  | .lst l => .list (toPys l)
  | .ref _ => .dict []
  | .scr _ => .dict []
def toPys : List D → List PyData
  | [] => []
  | d :: r => toPy d :: toPys r
end
mutual
/-- no reference within, texts fine, at most n deep -/
def okD : Nat → D → Bool
  | _, .non => true
  | _, .bl _ => true
  | _, .int _ => true
  | _, .str s => PyData.strOk s
  | 0, .tup _ => false
  | 0, .lst _ => false
  | n + 1, .tup l => okDs n l
  | n + 1, .lst l => okDs n l
  | _, .ref _ => false
  | _, .scr _ => false
def okDs : Nat → List D → Bool
  | _, [] => true
  | n, d :: r => okD n d && okDs n r
end
mutual
/-- equality as Python has it -/
def eqD : D → D → Bool
  | .non, .non => true
  | .bl a, .bl b => a == b
  | .bl a, .int j => (if a then 1 else 0) == j
  | .int i, .bl b => i == (if b then 1 else 0)
  | .int i, .int j => i == j
  | .str x, .str y => x == y
  | .lst l, .lst m => eqDs l m
  | .tup l, .tup m => eqDs l m
  | _, _ => false
def eqDs : List D → List D → Bool
  | [], [] => true
  | x :: l, y :: m => eqD x y && eqDs l m
  | _, _ => false
end
mutual
theorem eqD_py : ∀ x y : D, PyData.eqv (toPy x) (toPy y) = eqD x y
  | .non, y => by cases y <;> simp [toPy, PyData.eqv, eqD]
  | .bl a, y => by cases y <;> simp [toPy, PyData.eqv, eqD]
  | .int a, y => by cases y <;> simp [toPy, PyData.eqv, eqD]
  | .str a, y => by cases y <;> simp [toPy, PyData.eqv, eqD]
  | .ref a, y => by cases y <;> simp [toPy, PyData.eqv, eqD]
  | .scr a, y => by cases y <;> simp [toPy, PyData.eqv, eqD]
  | .lst l, y => by cases y <;> simp [toPy, PyData.eqv, eqD, eqDs_py l]
  | .tup l, y => by cases y <;> simp [toPy, PyData.eqv, eqD, eqDs_py l]
theorem eqDs_py : ∀ l m : List D, PyData.eqvAll (toPys l) (toPys m) = eqDs l m
  | [], m => by cases m <;> simp [toPys, PyData.eqvAll, eqDs]
  | x :: l, m => by
    cases m with
    | nil => simp [toPys, PyData.eqvAll, eqDs]
    | cons y m => simp [toPys, PyData.eqvAll, eqDs, eqD_py x y, eqDs_py l m]
end
mutual
theorem okD_lay : ∀ (n : Nat) (d : D), okD n d = true → (toPy d).canLay0 = true ∧ (toPy d).depth ≤ n
  | n, .non, _ => by cases n <;> simp [toPy, PyData.canLay0, PyData.depth]
  | n, .bl _, _ => by cases n <;> simp [toPy, PyData.canLay0, PyData.depth]
  | n, .int _, _ => by cases n <;> simp [toPy, PyData.canLay0, PyData.depth]
  | n, .str s, h => by cases n <;> simpa [toPy, PyData.canLay0, PyData.depth, okD] using h
  | 0, .tup _, h => by simp [okD] at h
  | 0, .lst _, h => by simp [okD] at h
  | n, .ref _, h => by cases n <;> simp [okD] at h
  | n, .scr _, h => by cases n <;> simp [okD] at h
  | n + 1, .tup l, h => by
    have q := okDs_lay n l (by simpa [okD] using h)
    simp only [toPy, PyData.canLay0, PyData.depth]
    exact ⟨q.1, Nat.succ_le_succ q.2⟩
  | n + 1, .lst l, h => by
    have q := okDs_lay n l (by simpa [okD] using h)
    simp only [toPy, PyData.canLay0, PyData.depth]
    exact ⟨q.1, Nat.succ_le_succ q.2⟩
theorem okDs_lay : ∀ (n : Nat) (l : List D), okDs n l = true → PyData.canLayAll0 (toPys l) = true ∧ PyData.depthAll (toPys l) ≤ n
  | n, [], _ => by simp [toPys, PyData.canLayAll0, PyData.depthAll]
  | n, d :: r, h => by
    have h' : okD n d = true ∧ okDs n r = true := by simpa [okDs] using h
    have q1 := okD_lay n d h'.1
    have q2 := okDs_lay n r h'.2
    simp only [toPys, PyData.canLayAll0, PyData.depthAll]
    exact ⟨by rw [q1.1, q2.1]; rfl, Nat.max_le.mpr ⟨q1.2, q2.2⟩⟩
end
theorem okD_shaped {d : D} (h : okD 60 d = true) : SeqAt.shaped (toPy d) = true := by
  have q := okD_lay 60 d h
  unfold SeqAt.shaped
  rw [q.1, decide_eq_true (Nat.le_trans q.2 (by decide))]
  rfl
theorem toPys_map (l : List D) : toPys l = l.map toPy := by
  induction l with
  | nil => rfl
  | cons d r ih => simp [toPys, ih]

/-! ### how data lies in the heap -/
mutual
inductive Rep (K : PySem.W.Frag) (F : Hp) : V → D → Prop
  | non : Rep K F .non .non
  | bl (b : Bool) : Rep K F (.bl b) (.bl b)
  | int (i : Int) : Rep K F (.int i) (.int i)
  | str (x : Str) : Rep K F (.str x) (.str x)
  | ref (a : Addr) : Rep K F (.ref a) (.ref a)
  | tup {a : Addr} {xs : List V} {ds : List D} : F a = some (.tup xs) → Reps K F xs ds → Rep K F (.ref a) (.tup ds)
  | lst {a : Addr} {xs : List V} {ds : List D} : F a = some (.lst xs) → Reps K F xs ds → Rep K F (.ref a) (.lst ds)
  | scr {a : Addr} {ns : List Int} : SqL K F a (ns.map V.int) → Rep K F (.ref a) (.scr ns)
inductive Reps (K : PySem.W.Frag) (F : Hp) : List V → List D → Prop
  | nil : Reps K F [] []
  | cons {v : V} {vs : List V} {d : D} {ds : List D} : Rep K F v d → Reps K F vs ds → Reps K F (v :: vs) (d :: ds)
end
section
variable {K : PySem.W.Frag} {F F' H : Hp}
mutual
theorem Rep.mono (e : Same F F') : ∀ {v : V} {d : D}, Rep K F v d → Rep K F' v d
  | _, _, .non => .non
  | _, _, .bl b => .bl b
  | _, _, .int i => .int i
  | _, _, .str x => .str x
  | _, _, .ref a => .ref a
  | _, _, .tup h r => .tup (e _ _ h) (Reps.mono e r)
  | _, _, .lst h r => .lst (e _ _ h) (Reps.mono e r)
  | _, _, .scr h => .scr (L2.Same.seq e h)
theorem Reps.mono (e : Same F F') : ∀ {vs : List V} {ds : List D}, Reps K F vs ds → Reps K F' vs ds
  | _, _, .nil => .nil
  | _, _, .cons h r => .cons (Rep.mono e h) (Reps.mono e r)
end
theorem Reps.length : ∀ {vs : List V} {ds : List D}, Reps K F vs ds → vs.length = ds.length
  | _, _, .nil => rfl
  | _, _, .cons _ r => by simp [Reps.length r]
theorem Reps.get : ∀ {vs : List V} {ds : List D} {i : Nat} {d : D}, Reps K F vs ds → ds[i]? = some d → ∃ v, vs[i]? = some v ∧ Rep K F v d
  | _, _, _, _, .nil, e => by simp at e
  | _, _, 0, _, .cons h _, e => by simp at e; subst e; exact ⟨_, rfl, h⟩
  | _, _, i + 1, d, .cons _ r, e => by
    obtain ⟨v, q⟩ := Reps.get (i := i) (d := d) r (by simpa using e)
    exact ⟨v, by simpa using q.1, q.2⟩
theorem Reps.append : ∀ {vs ws : List V} {ds es : List D}, Reps K F vs ds → Reps K F ws es → Reps K F (vs ++ ws) (ds ++ es)
  | _, _, _, _, .nil, s => s
  | _, _, _, _, .cons h r, s => .cons h (Reps.append r s)
theorem Reps.take : ∀ {vs : List V} {ds : List D} (n : Nat), Reps K F vs ds → Reps K F (vs.take n) (ds.take n)
  | _, _, 0, _ => .nil
  | _, _, _ + 1, .nil => .nil
  | _, _, n + 1, .cons h r => .cons h (Reps.take n r)
theorem Reps.drop : ∀ {vs : List V} {ds : List D} (n : Nat), Reps K F vs ds → Reps K F (vs.drop n) (ds.drop n)
  | _, _, 0, r => r
  | _, _, _ + 1, .nil => .nil
  | _, _, n + 1, .cons _ r => Reps.drop n r
theorem Reps.reverse {vs : List V} {ds : List D} (h : Reps K F vs ds) : Reps K F vs.reverse ds.reverse := by
  induction ds generalizing vs with
  | nil => cases h; exact .nil
  | cons d r ih =>
    cases h with
    | cons h1 h2 =>
      rw [List.reverse_cons, List.reverse_cons]
      exact (ih h2).append (.cons h1 .nil)
theorem Reps.set {v : V} {d : D} (q : Rep K F v d) : ∀ {vs : List V} {ds : List D} (i : Nat), Reps K F vs ds → Reps K F (vs.set i v) (ds.set i d)
  | _, _, _, .nil => .nil
  | _, _, 0, .cons _ r => .cons q r
  | _, _, i + 1, .cons h r => .cons h (Reps.set q i r)
mutual
theorem Rep.dp (e : Same F H) : ∀ (d : D) (n : Nat) (v : V), okD n d = true → Rep K F v d → Dp K H v (toPy d)
  | .non, _, _, _, h => by cases h; exact .non
  | .bl b, _, _, _, h => by cases h; exact .bl b
  | .int i, _, _, _, h => by cases h; exact .int i
  | .str x, _, _, _, h => by cases h; exact .str x
  | .ref a, n, _, o, _ => by cases n <;> simp [okD] at o
  | .scr a, n, _, o, _ => by cases n <;> simp [okD] at o
  | .tup l, 0, _, o, _ => by simp [okD] at o
  | .lst l, 0, _, o, _ => by simp [okD] at o
  | .tup l, n + 1, _, o, h => by
    cases h with
    | tup h r => exact .tup (SqT.of (e _ _ h)) (Reps.dp e l n _ (by simpa [okD] using o) r)
  | .lst l, n + 1, _, o, h => by
    cases h with
    | lst h r => exact .lst (SqL.of (e _ _ h)) (Reps.dp e l n _ (by simpa [okD] using o) r)
theorem Reps.dp (e : Same F H) : ∀ (ds : List D) (n : Nat) (vs : List V), okDs n ds = true → Reps K F vs ds → DpAll K H vs (toPys ds)
  | [], _, _, _, h => by cases h; exact .nil
  | d :: r, n, _, o, h => by
    cases h with
    | cons h1 h2 =>
      have o' : okD n d = true ∧ okDs n r = true := by simpa [okDs] using o
      exact .cons (Rep.dp e d n _ o'.1 h1) (Reps.dp e r n _ o'.2 h2)
end
end

/-! ### objects that may change -/
inductive MO where
  | lst (l : List D)
  | dct (kvs : List (D × D)) | tct (kvs : List (D × D))
  | ins (C : String) (fs : List (Str × D))

abbrev Mu := Addr → Option MO
def Mu.set (μ : Mu) (a : Addr) (o : MO) : Mu := fun b => if b = a then some o else μ b
def Mu.del (μ : Mu) (a : Addr) : Mu := fun b => if b = a then none else μ b
theorem Mu.set_same {μ : Mu} {a : Addr} {o : MO} : μ.set a o a = some o := if_pos rfl
theorem Mu.set_ne {μ : Mu} {a b : Addr} {o : MO} (h : b ≠ a) : μ.set a o b = μ b := if_neg h
theorem Mu.set_set {μ : Mu} {a : Addr} {o u : MO} : (μ.set a o).set a u = μ.set a u := by
  funext b; unfold Mu.set; split <;> rfl
theorem Mu.del_set {μ : Mu} {a : Addr} {o : MO} (h : μ a = none) : (μ.set a o).del a = μ := by
  funext b
  unfold Mu.del Mu.set
  by_cases e : b = a
  · rw [if_pos e, e, h]
  · rw [if_neg e, if_neg e]
theorem Mu.set_comm {μ : Mu} {a b : Addr} {o u : MO} (h : a ≠ b) : (μ.set a o).set b u = (μ.set b u).set a o := by
  funext c
  unfold Mu.set
  by_cases e : c = b
  · subst e
    rw [if_pos rfl, if_neg (Ne.symm h), if_pos rfl]
  · rw [if_neg e, if_neg e]

/-- a key of a dict, flat or a tuple of flat ones -/
def keyOf : D → Option Key
  | .int i => some (.inl i)
  | .str s => some (.inr s)
  | _ => none
def keysOf : List D → Option (List Key)
  | [] => some []
  | d :: r => match keyOf d, keysOf r with
    | some k, some ks => some (k :: ks)
    | _, _ => none
/-- a dict's pairs beside plain data -/
inductive KvK (K : PySem.W.Frag) (F : Hp) : List (Key × V) → List (D × D) → Prop
  | nil : KvK K F [] []
  | cons {k : Key} {v : V} {d e : D} {r : List (Key × V)} {s : List (D × D)} : keyOf d = some k → Rep K F v e → KvK K F r s → KvK K F ((k, v) :: r) ((d, e) :: s)
inductive KvT (K : PySem.W.Frag) (F : Hp) : List (List Key × V) → List (D × D) → Prop
  | nil : KvT K F [] []
  | cons {ks : List Key} {v : V} {l : List D} {e : D} {r : List (List Key × V)} {s : List (D × D)} : keysOf l = some ks → Rep K F v e → KvT K F r s → KvT K F ((ks, v) :: r) ((.tup l, e) :: s)
inductive KvF (K : PySem.W.Frag) (F : Hp) : List (Str × V) → List (Str × D) → Prop
  | nil : KvF K F [] []
  | cons {x : Str} {v : V} {d : D} {r : List (Str × V)} {s : List (Str × D)} : Rep K F v d → KvF K F r s → KvF K F ((x, v) :: r) ((x, d) :: s)

/-- how an object that may change lies at a -/
def MOk (K : PySem.W.Frag) (cls : String → Option Addr) (F H : Hp) (a : Addr) : MO → Prop
  | .lst ds => ∃ vs, H a = some (.lst vs) ∧ Reps K F vs ds
  | .dct kvs => ∃ r, H a = some (.dK r) ∧ KvK K F r kvs
  | .tct kvs => ∃ r, H a = some (.dT r) ∧ KvT K F r kvs
  | .ins C fs => ∃ c dx vs, cls C = some c ∧ H a = some (.ins c dx vs) ∧ KvF K F vs fs

def Small : HO → Prop
  | .lst xs => xs.length ≤ sizeLine
  | .tup xs => xs.length ≤ sizeLine
  | _ => True
def SmallM : MO → Prop
  | .lst l => l.length ≤ sizeLine
  | _ => True
/-- lists that others keep -/
abbrev Rs := Addr → Option (List V)
/-- F: what never changes any more; μ: what may; R: what is not to be touched -/
structure Sto (K : PySem.W.Frag) (cls : String → Option Addr) (F : Hp) (R : Rs) (μ : Mu) (H : Hp) : Prop where
  ext : Same F H
  off : ∀ a mo, μ a = some mo → F a = none
  at_ : ∀ a mo, μ a = some mo → MOk K cls F H a mo
  frm : ∀ a l, R a = some l → H a = some (.lst l) ∧ F a = none ∧ μ a = none
  big : ∀ a o, F a = some o → Small o
  bigM : ∀ a mo, μ a = some mo → SmallM mo

section
variable {K : PySem.W.Frag} {cls : String → Option Addr} {F F' H H' : Hp} {R : Rs} {μ μ' : Mu} {p a : Addr}
theorem KvK.mono (e : Same F F') : ∀ {r : List (Key × V)} {s : List (D × D)}, KvK K F r s → KvK K F' r s
  | _, _, .nil => .nil
  | _, _, .cons h q t => .cons h (q.mono e) (KvK.mono e t)
theorem KvT.mono (e : Same F F') : ∀ {r : List (List Key × V)} {s : List (D × D)}, KvT K F r s → KvT K F' r s
  | _, _, .nil => .nil
  | _, _, .cons h q t => .cons h (q.mono e) (KvT.mono e t)
theorem KvF.mono (e : Same F F') : ∀ {r : List (Str × V)} {s : List (Str × D)}, KvF K F r s → KvF K F' r s
  | _, _, .nil => .nil
  | _, _, .cons q t => .cons (q.mono e) (KvF.mono e t)
theorem same_new {o : HO} (h : H p = none) : Same H (upd H p o) := fun b x e => by
  rw [upd_ne (ne_of_none e h)]
  exact e
/-- what is behind H' at a is what was at a behind H -/
theorem MOk.keep {mo : MO} (h : MOk K cls F H a mo) (e : Same F F') (q : ∀ o, H a = some o → H' a = some o) : MOk K cls F' H' a mo := by
  cases mo with
  | lst ds => obtain ⟨vs, h1, h2⟩ := h; exact ⟨vs, q _ h1, h2.mono e⟩
  | dct kvs => obtain ⟨r, h1, h2⟩ := h; exact ⟨r, q _ h1, h2.mono e⟩
  | tct kvs => obtain ⟨r, h1, h2⟩ := h; exact ⟨r, q _ h1, h2.mono e⟩
  | ins C fs => obtain ⟨c, dx, vs, h0, h1, h2⟩ := h; exact ⟨c, dx, vs, h0, q _ h1, h2.mono e⟩
theorem MOk.some {mo : MO} (h : MOk K cls F H a mo) : ∃ o, H a = some o := by
  cases mo with
  | lst ds => obtain ⟨vs, h1, h2⟩ := h; exact ⟨_, h1⟩
  | dct kvs => obtain ⟨r, h1, h2⟩ := h; exact ⟨_, h1⟩
  | tct kvs => obtain ⟨r, h1, h2⟩ := h; exact ⟨_, h1⟩
  | ins C fs => obtain ⟨c, dx, vs, h0, h1, h2⟩ := h; exact ⟨_, h1⟩
/-- the heap grows (nothing tracked changes) -/
theorem Sto.grow (S : Sto K cls F R μ H) (e : Same H H') : Sto K cls F R μ H' :=
  ⟨S.ext.trans e, S.off, fun a mo h => (S.at_ a mo h).keep (Same.refl _) fun o q => e a o q, fun a l h => let ⟨x, y, z⟩ := S.frm a l h; ⟨e _ _ x, y, z⟩, S.big, S.bigM⟩
theorem Sto.fresh (S : Sto K cls F R μ H) (h : H p = none) : F p = none ∧ μ p = none := by
  refine ⟨S.ext.free h, ?_⟩
  cases q : μ p with
  | none => rfl
  | some mo =>
    obtain ⟨o, e⟩ := (S.at_ p mo q).some
    rw [h] at e; cases e
/-- a new object that never changes -/
theorem Sto.newF {o : HO} (S : Sto K cls F R μ H) (h : H p = none) (hs : Small o) : Same F (upd F p o) ∧ Sto K cls (upd F p o) R μ (upd H p o) := by
  obtain ⟨f0, m0⟩ := S.fresh h
  have nm : ∀ b mo, μ b = some mo → b ≠ p := fun b mo e z => by rw [z, m0] at e; cases e
  refine ⟨same_new f0, { ext := fun b x e => ?_, off := fun b mo e => (upd_ne (nm b mo e)).trans (S.off b mo e), at_ := fun b mo e => (S.at_ b mo e).keep (same_new f0) fun o q => (upd_ne (nm b mo e)).trans q, frm := fun b l e => ?_, big := fun b x e => ?_, bigM := S.bigM }⟩
  · by_cases hb : b = p
    · subst hb; rw [upd_same] at e; cases e; exact upd_same
    · rw [upd_ne hb] at e; rw [upd_ne hb]; exact S.ext b x e
  · obtain ⟨x, y, z⟩ := S.frm b l e
    have nb : b ≠ p := fun q => by rw [q, h] at x; cases x
    exact ⟨(upd_ne nb).trans x, (upd_ne nb).trans y, z⟩
  · by_cases hb : b = p
    · subst hb; rw [upd_same] at e; cases e; exact hs
    · rw [upd_ne hb] at e; exact S.big b x e
/-- a new object that may change -/
theorem Sto.newM {o : HO} {mo : MO} (S : Sto K cls F R μ H) (h : H p = none) (m : MOk K cls F (upd H p o) p mo) (hs : SmallM mo) : Sto K cls F R (μ.set p mo) (upd H p o) := by
  obtain ⟨f0, m0⟩ := S.fresh h
  refine { ext := S.ext.trans (same_new h), off := fun b z e => ?_, at_ := fun b z e => ?_, frm := fun b l e => ?_, big := S.big, bigM := fun b z e => ?_ }
  · by_cases hb : b = p
    · rw [hb]; exact f0
    · rw [Mu.set_ne hb] at e; exact S.off b z e
  · by_cases hb : b = p
    · subst hb; rw [Mu.set_same] at e; cases e; exact m
    · rw [Mu.set_ne hb] at e
      exact (S.at_ b z e).keep (Same.refl _) fun o q => by rw [upd_ne hb]; exact q
  · obtain ⟨x, y, z⟩ := S.frm b l e
    have nb : b ≠ p := fun q => by rw [q, h] at x; cases x
    exact ⟨(upd_ne nb).trans x, y, (Mu.set_ne nb).trans z⟩
  · by_cases hb : b = p
    · subst hb; rw [Mu.set_same] at e; cases e; exact hs
    · rw [Mu.set_ne hb] at e; exact S.bigM b z e
/-- an object is written -/
theorem Sto.put {o : HO} {mo mo' : MO} (S : Sto K cls F R μ H) (h : μ a = some mo) (m : MOk K cls F (upd H a o) a mo') (hs : SmallM mo') : Sto K cls F R (μ.set a mo') (upd H a o) := by
  have f0 := S.off a mo h
  refine { ext := fun b x e => (upd_ne (ne_of_none e f0)).trans (S.ext b x e), off := fun b z e => ?_, at_ := fun b z e => ?_, frm := fun b l e => ?_, big := S.big, bigM := fun b z e => ?_ }
  · by_cases hb : b = a
    · rw [hb]; exact f0
    · rw [Mu.set_ne hb] at e; exact S.off b z e
  · by_cases hb : b = a
    · subst hb; rw [Mu.set_same] at e; cases e; exact m
    · rw [Mu.set_ne hb] at e
      exact (S.at_ b z e).keep (Same.refl _) fun o q => by rw [upd_ne hb]; exact q
  · obtain ⟨x, y, z⟩ := S.frm b l e
    have nb : b ≠ a := fun q => by rw [q, h] at z; cases z
    exact ⟨(upd_ne nb).trans x, y, (Mu.set_ne nb).trans z⟩
  · by_cases hb : b = a
    · subst hb; rw [Mu.set_same] at e; cases e; exact hs
    · rw [Mu.set_ne hb] at e; exact S.bigM b z e
/-- a list comes to rest -/
theorem Sto.rest {ds : List D} (S : Sto K cls F R μ H) (h : μ a = some (.lst ds)) : ∃ F', Same F F' ∧ Sto K cls F' R (μ.del a) H ∧ Rep K F' (.ref a) (.lst ds) := by
  obtain ⟨vs, h1, h2⟩ := S.at_ a _ h
  have f0 := S.off a _ h
  have e : Same F (upd F a (.lst vs)) := same_new f0
  have nm : ∀ b mo, (μ.del a) b = some mo → b ≠ a ∧ μ b = some mo := fun b mo q => by
    unfold Mu.del at q
    by_cases hb : b = a
    · rw [if_pos hb] at q; cases q
    · rw [if_neg hb] at q; exact ⟨hb, q⟩
  refine ⟨upd F a (.lst vs), e, { ext := fun b x q => ?_, off := fun b z q => (upd_ne (nm b z q).1).trans (S.off b z (nm b z q).2), at_ := fun b z q => (S.at_ b z (nm b z q).2).keep e fun o q => q, frm := fun b l q => ?_, big := fun b x q => ?_, bigM := fun b z q => S.bigM b z (nm b z q).2 }, .lst upd_same (h2.mono e)⟩
  · by_cases hb : b = a
    · subst hb; rw [upd_same] at q; cases q; exact h1
    · rw [upd_ne hb] at q; exact S.ext b x q
  · obtain ⟨x, y, z⟩ := S.frm b l q
    have nb : b ≠ a := fun q => by rw [q, h] at z; cases z
    exact ⟨x, (upd_ne nb).trans y, (if_neg nb).trans z⟩
  · by_cases hb : b = a
    · subst hb; rw [upd_same] at q; cases q
      show vs.length ≤ sizeLine
      rw [h2.length]
      exact S.bigM _ _ h
    · rw [upd_ne hb] at q; exact S.big b x q
/-- a new list that is kept for others -/
def Rs.set (R : Rs) (a : Addr) (l : List V) : Rs := fun b => if b = a then some l else R b
theorem Sto.keepNew (S : Sto K cls F R μ H) (h : H p = none) (l : List V) : Sto K cls F (R.set p l) μ (upd H p (.lst l)) := by
  obtain ⟨f0, m0⟩ := S.fresh h
  refine { ext := S.ext.trans (same_new h), off := S.off, at_ := fun b mo e => (S.at_ b mo e).keep (Same.refl _) fun o q => (upd_ne (ne_of_none q h)).trans q, frm := fun b l' e => ?_, big := S.big, bigM := S.bigM }
  unfold Rs.set at e
  by_cases hb : b = p
  · rw [if_pos hb] at e; cases e; rw [hb]; exact ⟨upd_same, f0, m0⟩
  · rw [if_neg hb] at e
    obtain ⟨x, y, z⟩ := S.frm b l' e
    exact ⟨(upd_ne hb).trans x, y, z⟩
theorem Sto.keepPut {l : List V} (S : Sto K cls F (R.set p l) μ H) (l' : List V) : Sto K cls F (R.set p l') μ (upd H p (.lst l')) := by
  obtain ⟨x0, f0, m0⟩ := S.frm p l (if_pos rfl)
  refine { ext := fun b x e => (upd_ne (ne_of_none e f0)).trans (S.ext b x e), off := S.off, at_ := fun b mo e => (S.at_ b mo e).keep (Same.refl _) fun o q => (upd_ne (fun z => by rw [z, m0] at e; cases e)).trans q, frm := fun b l2 e => ?_, big := S.big, bigM := S.bigM }
  unfold Rs.set at e
  by_cases hb : b = p
  · rw [if_pos hb] at e; cases e; rw [hb]; exact ⟨upd_same, f0, m0⟩
  · rw [if_neg hb] at e
    obtain ⟨x, y, z⟩ := S.frm b l2 (by unfold Rs.set; rw [if_neg hb]; exact e)
    exact ⟨(upd_ne hb).trans x, y, z⟩
/-- .. is given out: for good, or to be changed -/
theorem Sto.giveF {l : List V} (S : Sto K cls F (R.set p l) μ H) (h : R p = none) (hs : l.length ≤ sizeLine) : Same F (upd F p (.lst l)) ∧ Sto K cls (upd F p (.lst l)) R μ H := by
  obtain ⟨x0, f0, m0⟩ := S.frm p l (if_pos rfl)
  have nm : ∀ b mo, μ b = some mo → b ≠ p := fun b mo e z => by rw [z, m0] at e; cases e
  refine ⟨same_new f0, { ext := fun b x e => ?_, off := fun b mo e => (upd_ne (nm b mo e)).trans (S.off b mo e), at_ := fun b mo e => (S.at_ b mo e).keep (same_new f0) fun o q => q, frm := fun b l2 e => ?_, big := fun b x e => ?_, bigM := S.bigM }⟩
  · by_cases hb : b = p
    · subst hb; rw [upd_same] at e; cases e; exact x0
    · rw [upd_ne hb] at e; exact S.ext b x e
  · have nb : b ≠ p := fun z => by rw [z, h] at e; cases e
    obtain ⟨x, y, z⟩ := S.frm b l2 (by unfold Rs.set; rw [if_neg nb]; exact e)
    exact ⟨x, (upd_ne nb).trans y, z⟩
  · by_cases hb : b = p
    · subst hb; rw [upd_same] at e; cases e; exact hs
    · rw [upd_ne hb] at e; exact S.big b x e
theorem Sto.giveM {l : List V} {ds : List D} (S : Sto K cls F (R.set p l) μ H) (h : R p = none) (r : Reps K F l ds) (hs : ds.length ≤ sizeLine) : μ p = none ∧ Sto K cls F R (μ.set p (.lst ds)) H := by
  obtain ⟨x0, f0, m0⟩ := S.frm p l (if_pos rfl)
  refine ⟨m0, { ext := S.ext, off := fun b z e => ?_, at_ := fun b z e => ?_, frm := fun b l2 e => ?_, big := S.big, bigM := fun b z e => ?_ }⟩
  · by_cases hb : b = p
    · rw [hb]; exact f0
    · rw [Mu.set_ne hb] at e; exact S.off b z e
  · by_cases hb : b = p
    · subst hb; rw [Mu.set_same] at e; cases e; exact ⟨l, x0, r⟩
    · rw [Mu.set_ne hb] at e; exact S.at_ b z e
  · have nb : b ≠ p := fun z => by rw [z, h] at e; cases e
    obtain ⟨x, y, z⟩ := S.frm b l2 (by unfold Rs.set; rw [if_neg nb]; exact e)
    exact ⟨x, y, (Mu.set_ne nb).trans z⟩
  · by_cases hb : b = p
    · subst hb; rw [Mu.set_same] at e; cases e; exact hs
    · rw [Mu.set_ne hb] at e; exact S.bigM b z e
end
end SR

/-! a small language beside Python's own trees, and what its pieces are worth: weakest conditions over plain data -/
namespace SR
open PySem L2

inductive Op2 | add | sub | mul | fdiv | mod | pow
inductive Cm | lt | le | gt | ge | eq | ne | inn | nin | isN | isNN
/-- built-ins; m: the new list may be changed later on -/
inductive Bt | len | abs | min2 | max2 | maxl | all | any | sum | toList (m : Bool) | toTup | sorted (m : Bool) | str
/-- what a loop walks -/
inductive Wk | seq | rng1 | rng2 | enum | enumT | zip2

mutual
inductive E where
  | var (i : Nat)
  | non | bl (b : Bool) | int (i : Int) | str (s : Str)
  | gint (x : String)
  | tup (es : List E)
  | lst (m : Bool) (es : List E)
  | bin (op : Op2) (a b : E)
  | neg (a : E)
  | nt (a : E)
  | cmp (op : Cm) (a b : E)
  | chain (o p : Cm) (a b c : E)
  | and_ (a b : E)
  | or_ (a b : E)
  | ite (c a b : E)
  | call (f : String) (es : List E)
  | bt (b : Bt) (es : List E)
  | isin (a : E) (ty : String)
  | isin2 (a : E) (ty ty' : String)
  | ix (a i : E)
  | slc (m : Bool) (a : E) (lo hi : Option E)
  | rev (a : E)
  | lrng (m : Bool) (a b : E)
  | trng (a : E)
  | sset (m : Bool) (a : E)
  | dnew (t : Bool)
  | lc (m : Bool) (own : List Nat) (tg : Tg) (w : Wk) (src : List E) (cond : Option E) (elt : E)
  | lc2 (m : Bool) (own own2 : List Nat) (tg : Tg) (w : Wk) (src : List E) (tg2 : Tg) (w2 : Wk) (src2 : List E) (elt : E)
  | frz (a : E)
  | upper (a : E)
inductive Tg where
  | nm (i : Nat)
  | tup (ts : List Tg)
end

inductive S where
  | asg (t : Tg) (e : E)
  | par2 (i j : Nat) (a b : E)
  | par3 (i j l : Nat) (a b c : E)
  | swp (o i o' j : E) (a b : E)
  | aug (i : Nat) (op : Op2) (e : E)
  | setI (o i e : E)
  | app (o e : E)
  | ife (c : E) (a b : List S)
  | forE (tg : Tg) (w : Wk) (src : List E) (body : List S)
  | whl (c : E) (body : List S)
  | ret (e : E)
  | expr (e : E)
  | never
  | rest (i : Nat)

abbrev En := List (Option D)
structure Exn where
  name : String
  fld : Option (Str × Int)
abbrev KD := D → Mu → Prop
abbrev KX := Exn → Mu → Prop
structure Glb where
  fn : String → List D → Mu → KD → KX → Prop
  gi : String → Option Int

/-- what stands behind a reference to a list -/
def vwr (o : Option MO) (a : Addr) : D := match o with
  | some (.lst l) => .lst l
  | _ => .ref a
def vw (μ : Mu) : D → D
  | .ref a => vwr (μ a) a
  | d => d
def isNon : D → Bool
  | .non => true
  | _ => false
def newL (m : Bool) (l : List D) (μ : Mu) (k : KD) : Prop :=
  if m then ∀ a, μ a = none → k (.ref a) (μ.set a (.lst l)) else k (.lst l) μ
def unbl (d : D) (k : Bool → Prop) : Prop := match d with
  | .bl b => k b
  | _ => False
/-- the place of an index -/
def atD (l : List D) (i : Int) : Option D := atI l i
def cutD {α : Type} (l : List α) (lo hi : Option Int) : List α := (l.drop (HT.sIx l.length 0 lo)).take (HT.sIx l.length l.length hi - HT.sIx l.length 0 lo)
def leD (a b : D) : Bool := !PySem.W.dataLt (toPy b) (toPy a)
def ltD (a b : D) : Bool := PySem.W.dataLt (toPy a) (toPy b)
def sortable (l : List D) : Prop := PySem.W.AllAlike (l.map toPy) ∧ PySem.W.Sortable (l.map toPy) ∧ okDs 60 l = true
def okT : D → Bool
  | .ref _ => false
  | .scr _ => false
  | _ => true
def tyNm : D → String
  | .non => "NoneType"
  | .bl _ => "bool"
  | .int _ => "int"
  | .str _ => "str"
  | .tup _ => "tuple"
  | .lst _ => "list"
  | _ => ""
def isTy (ty : String) (d : D) : Bool := tyNm d == ty || (tyNm d == "bool" && ty == "int")
mutual
/-- what may stand in a set: numbers, tuples of such -/
def hashT : Nat → D → Bool
  | _, .int _ => true
  | n + 1, .tup l => hashTs n l
  | _, _ => false
def hashTs : Nat → List D → Bool
  | _, [] => true
  | n, d :: r => hashT n d && hashTs n r
end
def setOk (l : List D) : Prop := l.length < 64 ∧ ((∃ ns : List Int, l = ns.map D.int) ∨ ∀ d ∈ l, ∃ m, d = .tup m ∧ hashTs 7 m = true)
/-- each once -/
def onceD : List D → List D
  | [] => []
  | d :: r => d :: (onceD r).filter fun z => !eqD d z
def dget : List (D × D) → D → Option D
  | [], _ => none
  | (x, v) :: r, y => if eqD x y = true then some v else dget r y
def dput (kvs : List (D × D)) (y v : D) : List (D × D) :=
  if (kvs.any fun p => eqD p.1 y) = true then kvs.map (fun p => if eqD p.1 y = true then (p.1, v) else p) else kvs ++ [(y, v)]

def binW (op : Op2) (x y : D) (μ : Mu) (k : KD) : Prop := match op, x, y with
  | .add, .int i, .int j => k (.int (i + j)) μ
  | .add, .str a, .str b => a.length + b.length ≤ sizeLine ∧ k (.str (a ++ b)) μ
  | .add, .lst l, .lst m => l.length + m.length ≤ sizeLine ∧ k (.lst (l ++ m)) μ
  | .add, .tup l, .tup m => l.length + m.length ≤ sizeLine ∧ k (.tup (l ++ m)) μ
  | .sub, .int i, .int j => k (.int (i - j)) μ
  | .mul, .int i, .int j => CMul i j ∧ k (.int (i * j)) μ
  | .fdiv, .int i, .int j => CDiv i j ∧ k (.int (i / j)) μ
  | .mod, .int i, .int j => 0 < j ∧ k (.int (i % j)) μ
  | .pow, .int i, .int j => CPow i j ∧ k (.int (i ^ j.toNat)) μ
  | .add, .bl a, .int j => k (.int ((if a = true then (1 : Int) else 0) + j)) μ
  | .sub, .bl a, .int j => k (.int ((if a = true then (1 : Int) else 0) - j)) μ
  | _, _, _ => False
def cmpW (op : Cm) (x y : D) (μ : Mu) (k : KD) : Prop := match op with
  | .lt => match x, y with
    | .int i, .int j => k (.bl (decide (i < j))) μ
    | x, y => okD 60 x = true ∧ okD 60 y = true ∧ PySem.W.alike (toPy x) (toPy y) = true ∧ (∃ l m, x = .tup l ∧ y = .tup m) ∧ k (.bl (ltD x y)) μ
  | .le => match x, y with
    | .int i, .int j => k (.bl (decide (i ≤ j))) μ
    | _, _ => False
  | .gt => match x, y with
    | .int i, .int j => k (.bl (decide (j < i))) μ
    | _, _ => False
  | .ge => match x, y with
    | .int i, .int j => k (.bl (decide (j ≤ i))) μ
    | _, _ => False
  | .eq => okD 60 (vw μ x) = true ∧ okD 60 (vw μ y) = true ∧ k (.bl (eqD (vw μ x) (vw μ y))) μ
  | .ne => okD 60 (vw μ x) = true ∧ okD 60 (vw μ y) = true ∧ k (.bl (!eqD (vw μ x) (vw μ y))) μ
  | .inn => match vw μ y with
    | .lst l => okD 60 x = true ∧ okDs 59 l = true ∧ k (.bl (l.any fun z => eqD z x)) μ
    | .tup l => okD 60 x = true ∧ okDs 59 l = true ∧ k (.bl (l.any fun z => eqD z x)) μ
    | _ => False
  | .nin => match vw μ y with
    | .lst l => okD 60 x = true ∧ okDs 59 l = true ∧ k (.bl (!l.any fun z => eqD z x)) μ
    | .tup l => okD 60 x = true ∧ okDs 59 l = true ∧ k (.bl (!l.any fun z => eqD z x)) μ
    | _ => False
  | .isN => match y with
    | .non => k (.bl (isNon x)) μ
    | _ => False
  | .isNN => match y with
    | .non => k (.bl (!isNon x)) μ
    | _ => False
def btW (b : Bt) (ds : List D) (μ : Mu) (k : KD) : Prop := match b, ds with
  | .len, [d] => match vw μ d with
    | .lst l => k (.int l.length) μ
    | .tup l => k (.int l.length) μ
    | .scr ns => k (.int (List.length ns)) μ
    | .str s => s.length ≤ sizeLine ∧ k (.int s.length) μ
    | _ => False
  | .abs, [.int i] => k (.int (if i < 0 then -i else i)) μ
  | .min2, [.int i, .int j] => k (.int (if j < i then j else i)) μ
  | .max2, [.int i, .int j] => k (.int (if j > i then j else i)) μ
  | .maxl, [.lst l] => ∃ ns, l = List.map D.int ns ∧ 0 < ns.length ∧ ∀ m, m ∈ ns → (∀ y, y ∈ ns → y ≤ m) → k (.int m) μ
  | .all, [.lst l] => ∃ bs, l = List.map D.bl bs ∧ k (.bl (bs.all id)) μ
  | .any, [.lst l] => ∃ bs, l = List.map D.bl bs ∧ k (.bl (bs.any id)) μ
  | .sum, [.lst l] => ∃ ns, l = List.map D.int ns ∧ k (.int ns.sum) μ
  | .toList m, [d] => match vw μ d with
    | .lst l => newL m l μ k
    | .tup l => newL m l μ k
    | _ => False
  | .toTup, [d] => match vw μ d with
    | .lst l => k (.tup l) μ
    | .tup l => k (.tup l) μ
    | _ => False
  | .sorted m, [d] => match vw μ d with
    | .lst l => sortable l ∧ newL m (l.mergeSort leD) μ k
    | .tup l => sortable l ∧ newL m (l.mergeSort leD) μ k
    | .ref a => match μ a with
      | some (.tct kvs) => sortable (kvs.map (·.1)) ∧ newL m ((kvs.map (·.1)).mergeSort leD) μ k
      | _ => False
    | _ => False
  | .str, [.int i] => i.natAbs.log2 < 1920 ∧ k (.str (toString i)) μ
  | .str, [.bl b] => k (.str (if b = true then "True" else "False")) μ
  | _, _ => False
/-- what a walk gives -/
def walkW (w : Wk) (ds : List D) (μ : Mu) (k : List D → (Mu → Prop) → Prop) : Prop := match w, ds with
  | .seq, [.lst l] => k l fun _ => True
  | .seq, [.tup l] => k l fun _ => True
  | .seq, [.ref a] => match μ a with
    | some (.lst l) => k l fun μ' => μ' a = some (.lst l)
    | _ => False
  | .rng1, [.int n] => (-(2 ^ 62) ≤ n ∧ n < 2 ^ 62 ∧ n.toNat ≤ sizeLine) ∧ k ((List.range n.toNat).map fun (i : Nat) => D.int (i : Int)) fun _ => True
  | .rng2, [.int a, .int b] => (-(2 ^ 62) ≤ a ∧ a < 2 ^ 62 ∧ -(2 ^ 62) ≤ b ∧ b < 2 ^ 62 ∧ (b - a).toNat ≤ sizeLine) ∧ k ((List.range (b - a).toNat).map fun (i : Nat) => D.int (a + (i : Int))) fun _ => True
  | .enum, [.lst l] => k (l.zipIdx.map fun p => .tup [.int (p.2 : Int), p.1]) fun _ => True
  | .enumT, [.tup l] => k (l.zipIdx.map fun p => .tup [.int (p.2 : Int), p.1]) fun _ => True
  | .zip2, [.lst l, .lst m] => k ((l.zip m).map fun p => .tup [p.1, p.2]) fun _ => True
  | .zip2, [.tup l, .tup m] => k ((l.zip m).map fun p => .tup [p.1, p.2]) fun _ => True
  | _, _ => False
def ixW (x y : D) (μ : Mu) (k : KD) : Prop := match vw μ x, y with
  | .lst l, .int i => match atI l i with
    | some d => k d μ
    | none => False
  | .tup l, .int i => match atI l i with
    | some d => k d μ
    | none => False
  | .scr ns, .int i => match atI ns i with
    | some n => k (.int n) μ
    | none => False
  | .ref a, y => match μ a with
    | some (.dct kvs) => (∃ key, keyOf y = some key) ∧ match dget kvs y with
      | some d => k d μ
      | none => False
    | some (.tct kvs) => (∃ l ks, y = .tup l ∧ keysOf l = some ks) ∧ match dget kvs y with
      | some d => k d μ
      | none => False
    | _ => False
  | _, _ => False
def slcW (m : Bool) (x : D) (lo hi : Option Int) (μ : Mu) (k : KD) : Prop := match vw μ x with
  | .lst l => newL m (cutD l lo hi) μ k
  | .tup l => k (.tup (cutD l lo hi)) μ
  | .str s => s.length ≤ sizeLine ∧ k (.str (cutS s lo hi)) μ
  | _ => False

/-- from now on as it stands -/
def frzW (d : D) (μ : Mu) (k : KD) : Prop := match d with
  | .ref a => match μ a with
    | some (.lst l) => k (.lst l) (μ.del a)
    | _ => False
  | d => k d μ
def upW (d : D) (μ : Mu) (k : KD) : Prop := match d with
  | .str s => s.length ≤ 5592405 ∧ k (.str (Txt.upper s)) μ
  | _ => False
/-- o[i] = d -/
def setW (o i d : D) (μ : Mu) (k : Mu → Prop) : Prop := match o with
  | .ref a => match μ a, i with
    | some (.lst l), .int j => match ixN l.length j with
      | some n => k (μ.set a (.lst (l.set n d)))
      | none => False
    | some (.dct kvs), i => kvs.length < sizeLine ∧ (∃ key, keyOf i = some key) ∧ k (μ.set a (.dct (dput kvs i d)))
    | some (.tct kvs), i => kvs.length < sizeLine ∧ (∃ l ks, i = .tup l ∧ keysOf l = some ks) ∧ k (μ.set a (.tct (dput kvs i d)))
    | _, _ => False
  | _ => False

/-- a.append(d) -/
def appW (a : Addr) (d : D) (μ : Mu) (k : Mu → Prop) : Prop := match μ a with
  | some (.lst l) => l.length < sizeLine ∧ k (μ.set a (.lst (l ++ [d])))
  | _ => False

mutual
def asgW : Tg → D → En → (En → Prop) → Prop
  | .nm i, d, ρ, k => k (ρ.set i (some d))
  | .tup ts, d, ρ, k => match d with
    | .tup l => l.length = ts.length ∧ asgsW ts l ρ k
    | .lst l => l.length = ts.length ∧ asgsW ts l ρ k
    | _ => False
def asgsW : List Tg → List D → En → (En → Prop) → Prop
  | [], [], ρ, k => k ρ
  | t :: ts, d :: ds, ρ, k => asgW t d ρ fun ρ' => asgsW ts ds ρ' k
  | _, _, _, _ => False
end
def wipeD (ρ : En) : List Nat → En
  | [] => ρ
  | v :: vs => (wipeD ρ vs).set v none

/-- a comprehension's turns: pin what must stand, step gives what is put in front of the rest -/
def lcW (pin : Mu → Prop) (step : D → Mu → (Option D → Mu → Prop) → Prop) : List D → List D → Mu → (List D → Mu → Prop) → Prop
  | [], acc, μ, k => pin μ ∧ k acc μ
  | d :: r, acc, μ, k => pin μ ∧ step d μ fun o μ' => lcW pin step r (acc ++ o.toList) μ' k
/-- the same, the list's length asked -/
def lcWb (pin : Mu → Prop) (step : D → Mu → (D → Mu → Prop) → Prop) : List D → List D → Mu → (List D → Mu → Prop) → Prop
  | [], acc, μ, k => pin μ ∧ k acc μ
  | d :: r, acc, μ, k => pin μ ∧ step d μ fun e μ' => acc.length < sizeLine ∧ lcWb pin step r (acc ++ [e]) μ' k
/-- two clauses -/
def lcW2 (pin : Mu → Prop) (step : D → List D → Mu → (List D → Mu → Prop) → Prop) : List D → List D → Mu → (List D → Mu → Prop) → Prop
  | [], acc, μ, k => pin μ ∧ k acc μ
  | d :: r, acc, μ, k => pin μ ∧ step d acc μ fun acc' μ' => lcW2 pin step r acc' μ' k
def forW (pin : Mu → Prop) (step : D → En → Mu → (En → Mu → Prop) → Prop) : List D → En → Mu → (En → Mu → Prop) → Prop
  | [], ρ, μ, k => pin μ ∧ k ρ μ
  | d :: r, ρ, μ, k => pin μ ∧ step d ρ μ fun ρ' μ' => forW pin step r ρ' μ' k

mutual
def wpE (G : Glb) : E → En → Mu → KD → KX → Prop
  | .var i, ρ, μ, k, _ => match ρ[i]? with
    | some (some d) => k d μ
    | _ => False
  | .non, _, μ, k, _ => k .non μ
  | .bl b, _, μ, k, _ => k (.bl b) μ
  | .int i, _, μ, k, _ => k (.int i) μ
  | .str s, _, μ, k, _ => k (.str s) μ
  | .gint x, _, μ, k, _ => match G.gi x with
    | some i => k (.int i) μ
    | none => False
  | .tup es, ρ, μ, k, x => wpEs G es ρ μ (fun ds μ' => ds.length ≤ sizeLine ∧ k (.tup ds) μ') x
  | .lst m es, ρ, μ, k, x => wpEs G es ρ μ (fun ds μ' => ds.length ≤ sizeLine ∧ newL m ds μ' k) x
  | .bin op a b, ρ, μ, k, x => wpE G a ρ μ (fun d μ1 => wpE G b ρ μ1 (fun e μ2 => binW op d e μ2 k) x) x
  | .neg a, ρ, μ, k, x => wpE G a ρ μ (fun d μ1 => match d with
    | .int i => k (.int (-i)) μ1
    | .bl b => k (.int (-(if b = true then (1 : Int) else 0))) μ1
    | _ => False) x
  | .nt a, ρ, μ, k, x => wpE G a ρ μ (fun d μ1 => unbl d fun b => k (.bl (!b)) μ1) x
  | .cmp op a b, ρ, μ, k, x => wpE G a ρ μ (fun d μ1 => wpE G b ρ μ1 (fun e μ2 => cmpW op d e μ2 k) x) x
  | .chain o p a b c, ρ, μ, k, x => wpE G a ρ μ (fun d μ1 => wpE G b ρ μ1 (fun e μ2 => cmpW o d e μ2 fun r μ3 => unbl r fun t =>
      if t = true then wpE G c ρ μ3 (fun f μ4 => cmpW p e f μ4 k) x else k (.bl false) μ3) x) x
  | .and_ a b, ρ, μ, k, x => wpE G a ρ μ (fun d μ1 => unbl d fun t => if t = true then wpE G b ρ μ1 k x else k (.bl false) μ1) x
  | .or_ a b, ρ, μ, k, x => wpE G a ρ μ (fun d μ1 => unbl d fun t => if t = true then k (.bl true) μ1 else wpE G b ρ μ1 k x) x
  | .ite c a b, ρ, μ, k, x => wpE G c ρ μ (fun d μ1 => unbl d fun t => if t = true then wpE G a ρ μ1 k x else wpE G b ρ μ1 k x) x
  | .call f es, ρ, μ, k, x => wpEs G es ρ μ (fun ds μ' => G.fn f ds μ' k x) x
  | .bt b es, ρ, μ, k, x => wpEs G es ρ μ (fun ds μ' => btW b ds μ' k) x
  | .isin a ty, ρ, μ, k, x => wpE G a ρ μ (fun d μ1 => okT (vw μ1 d) = true ∧ k (.bl (isTy ty (vw μ1 d))) μ1) x
  | .isin2 a ty ty', ρ, μ, k, x => wpE G a ρ μ (fun d μ1 => okT (vw μ1 d) = true ∧ k (.bl (isTy ty (vw μ1 d) || isTy ty' (vw μ1 d))) μ1) x
  | .ix a i, ρ, μ, k, x => wpE G a ρ μ (fun d μ1 => wpE G i ρ μ1 (fun e μ2 => ixW d e μ2 k) x) x
  | .slc m a lo hi, ρ, μ, k, x => wpE G a ρ μ (fun d μ1 => wpO G lo ρ μ1 (fun l μ2 => wpO G hi ρ μ2 (fun h μ3 => slcW m d l h μ3 k) x) x) x
  | .rev a, ρ, μ, k, x => wpE G a ρ μ (fun d μ1 => match d with
    | .tup l => k (.tup l.reverse) μ1
    | _ => False) x
  | .lrng m a b, ρ, μ, k, x => wpE G a ρ μ (fun d μ1 => wpE G b ρ μ1 (fun e μ2 => match d, e with
    | .int i, .int j => RgOk i j ∧ newL m ((List.range (j - i).toNat).map fun (t : Nat) => D.int (i + (t : Int))) μ2 k
    | _, _ => False) x) x
  | .trng a, ρ, μ, k, x => wpE G a ρ μ (fun d μ1 => match d with
    | .int j => RgOk 0 j ∧ k (.tup ((List.range j.toNat).map fun (t : Nat) => D.int (t : Int))) μ1
    | _ => False) x
  | .sset m a, ρ, μ, k, x => wpE G a ρ μ (fun d μ1 => match d with
    | .tup l => sortable l ∧ setOk l ∧ ∀ r : List D, r.Nodup → (∀ d, d ∈ r ↔ d ∈ l) → newL m (r.mergeSort leD) μ1 k
    | _ => False) x
  | .dnew t, _, μ, k, _ => ∀ a, μ a = none → k (.ref a) (μ.set a (if t then .tct [] else .dct []))
  | .lc m own tg w src cond elt, ρ, μ, k, x => wpEs G src ρ μ (fun ds μ1 => walkW w ds μ1 fun items pin =>
      lcW pin (fun d μ2 k2 => asgW tg d (wipeD ρ own) fun ρ2 => wpC G cond ρ2 μ2 fun b μ3 =>
        if b = true then wpE G elt ρ2 μ3 (fun e μ4 => k2 (some e) μ4) (fun _ _ => False) else k2 none μ3)
        items [] μ1 fun l μ5 => newL m l μ5 k) x
  | .lc2 m own own2 tg w src tg2 w2 src2 elt, ρ, μ, k, x => wpEs G src ρ μ (fun ds μ1 => walkW w ds μ1 fun items pin =>
      lcW2 pin (fun d acc μ2 k2 => asgW tg d (wipeD ρ own) fun ρ2 => wpEs G src2 ρ2 μ2 (fun ds2 μ3 => walkW w2 ds2 μ3 fun items2 pin2 =>
        lcWb pin2 (fun d2 μ4 k4 => asgW tg2 d2 (wipeD ρ2 own2) fun ρ3 => wpE G elt ρ3 μ4 (fun e μ5 => k4 e μ5) fun _ _ => False) items2 acc μ3 k2) fun _ _ => False)
        items [] μ1 fun l μ5 => newL m l μ5 k) x
  | .frz a, ρ, μ, k, x => wpE G a ρ μ (fun d μ1 => frzW d μ1 k) x
  | .upper a, ρ, μ, k, x => wpE G a ρ μ (fun d μ1 => upW d μ1 k) x
def wpEs (G : Glb) : List E → En → Mu → (List D → Mu → Prop) → KX → Prop
  | [], _, μ, k, _ => k [] μ
  | e :: es, ρ, μ, k, x => wpE G e ρ μ (fun d μ1 => wpEs G es ρ μ1 (fun ds μ2 => k (d :: ds) μ2) x) x
def wpC (G : Glb) : Option E → En → Mu → (Bool → Mu → Prop) → Prop
  | none, _, μ, k => k true μ
  | some c, ρ, μ, k => wpE G c ρ μ (fun t μ1 => unbl t fun b => k b μ1) fun _ _ => False
def wpO (G : Glb) : Option E → En → Mu → (Option Int → Mu → Prop) → KX → Prop
  | none, _, μ, k, _ => k none μ
  | some e, ρ, μ, k, x => wpE G e ρ μ (fun d μ1 => match d with
    | .int i => k (some i) μ1
    | _ => False) x
end

structure SE where
  nx : En → Mu → Prop
  rt : KD
  x : Exn → En → Mu → Prop

mutual
def wpS (G : Glb) : S → En → Mu → SE → Prop
  | .asg t e, ρ, μ, D => wpE G e ρ μ (fun d μ1 => asgW t d ρ fun ρ' => D.nx ρ' μ1) fun ex => D.x ex ρ
  | .par2 i j a b, ρ, μ, D => wpE G a ρ μ (fun d μ1 => wpE G b ρ μ1 (fun e μ2 => D.nx ((ρ.set i (some d)).set j (some e)) μ2) fun ex => D.x ex ρ) fun ex => D.x ex ρ
  | .par3 i j l a b c, ρ, μ, D => wpE G a ρ μ (fun d μ1 => wpE G b ρ μ1 (fun e μ2 => wpE G c ρ μ2 (fun f μ3 => D.nx (((ρ.set i (some d)).set j (some e)).set l (some f)) μ3) fun ex => D.x ex ρ) fun ex => D.x ex ρ) fun ex => D.x ex ρ
  | .swp o i o' j a b, ρ, μ, D => wpE G a ρ μ (fun d μ1 => wpE G b ρ μ1 (fun e μ2 => wpE G o ρ μ2 (fun p μ3 => wpE G i ρ μ3 (fun q μ4 => setW p q d μ4 fun μ5 =>
      wpE G o' ρ μ5 (fun p' μ6 => wpE G j ρ μ6 (fun q' μ7 => setW p' q' e μ7 fun μ8 => D.nx ρ μ8) fun ex => D.x ex ρ) fun ex => D.x ex ρ) fun ex => D.x ex ρ) fun ex => D.x ex ρ) fun ex => D.x ex ρ) fun ex => D.x ex ρ
  | .aug i op e, ρ, μ, D => match ρ[i]? with
    | some (some d) => wpE G e ρ μ (fun f μ1 => match op, d, f with
      | .add, .int a, .int b => D.nx (ρ.set i (some (.int (a + b)))) μ1
      | .sub, .int a, .int b => D.nx (ρ.set i (some (.int (a - b)))) μ1
      | _, _, _ => False) fun ex => D.x ex ρ
    | _ => False
  | .setI o i e, ρ, μ, D => wpE G e ρ μ (fun d μ1 => wpE G o ρ μ1 (fun p μ2 => wpE G i ρ μ2 (fun q μ3 => setW p q d μ3 fun μ4 => D.nx ρ μ4) fun ex => D.x ex ρ) fun ex => D.x ex ρ) fun ex => D.x ex ρ
  | .app o e, ρ, μ, D => wpE G o ρ μ (fun p μ1 => match p with
      | .ref a => (∃ l1, μ1 a = some (.lst l1)) ∧ wpE G e ρ μ1 (fun d μ2 => appW a d μ2 fun μ3 => D.nx ρ μ3) fun ex => D.x ex ρ
      | _ => False) fun ex => D.x ex ρ
  | .ife c a b, ρ, μ, D => wpE G c ρ μ (fun t μ1 => unbl t fun k => if k = true then wpSs G a ρ μ1 D else wpSs G b ρ μ1 D) fun ex => D.x ex ρ
  | .forE tg w src body, ρ, μ, D => wpEs G src ρ μ (fun ds μ1 => walkW w ds μ1 fun items pin =>
      forW pin (fun d ρ1 μ2 k => asgW tg d ρ1 fun ρ2 => wpSs G body ρ2 μ2 { D with nx := k }) items ρ μ1 D.nx) fun ex => D.x ex ρ
  | .whl c body, ρ, μ, D => ∃ W : Nat → En → Mu → Prop, (∃ m, W m ρ μ) ∧ ∀ m ρ μ, W m ρ μ → wpE G c ρ μ (fun t μ1 => unbl t fun k =>
      if k = true then wpSs G body ρ μ1 { D with nx := fun ρ' μ' => ∃ m', m' < m ∧ W m' ρ' μ' } else D.nx ρ μ1) fun ex => D.x ex ρ
  | .ret e, ρ, μ, D => wpE G e ρ μ D.rt fun ex => D.x ex ρ
  | .expr e, ρ, μ, D => wpE G e ρ μ (fun _ μ1 => D.nx ρ μ1) fun ex => D.x ex ρ
  | .never, _, _, _ => False
  | .rest i, ρ, μ, D => match ρ[i]? with
    | some (some (.ref a)) => match μ a with
      | some (.lst l) => D.nx (ρ.set i (some (.lst l))) (μ.del a)
      | _ => False
    | _ => False
def wpSs (G : Glb) : List S → En → Mu → SE → Prop
  | [], ρ, μ, D => D.nx ρ μ
  | s :: r, ρ, μ, D => wpS G s ρ μ { D with nx := fun ρ' μ' => wpSs G r ρ' μ' D }
end

/-- a def: all its names by slot, the parameters first -/
structure Fn where
  N : List Str
  np : Nat
  body : List S
def wpF (G : Glb) (f : Fn) (ds : List D) (μ : Mu) (k : KD) (x : KX) : Prop :=
  ds.length = f.np ∧ wpSs G f.body (ds.map some ++ List.replicate (f.N.length - ds.length) none) μ { nx := fun _ μ' => k .non μ', rt := k, x := fun ex _ μ' => x ex μ' }
end SR

/-! the operations upon data, by the hand layer's rules -/
namespace SR
open PySem PySem.Spec PyProof.Rows L2

/-! ### wishes -/
def PostK (K : PySem.W.Frag) (cls : String → Option Addr) (R : Rs) (F : Hp) (k : KD) (Q : VK) : Prop :=
  ∀ d μ', k d μ' → ∀ v F' H', Same F F' → Sto K cls F' R μ' H' → Rep K F' v d → Q v H'
def XRep (cls : String → Option Addr) (F : Hp) (ex : Exn) (c : Value) (d : Option Addr) : Prop :=
  (∃ C, cls ex.name = some C ∧ c = .ref C) ∧ match ex.fld with
    | none => d = none
    | some (f, i) => ∃ a, d = some a ∧ F a = some (.xd [(f, .int i)])
def PostX (K : PySem.W.Frag) (cls : String → Option Addr) (R : Rs) (F : Hp) (x : KX) (E : XK) : Prop :=
  ∀ ex μ', x ex μ' → ∀ c d F' H', Same F F' → Sto K cls F' R μ' H' → XRep cls F' ex c d → E c d H'
section
variable {K : PySem.W.Frag} {cls : String → Option Addr} {F F' H H' : Hp} {R : Rs} {μ μ' : Mu} {k : KD} {x : KX} {Q : VK} {E : XK} {v u : V} {d e : D}
theorem PostK.mono (p : PostK K cls R F k Q) (e : Same F F') : PostK K cls R F' k Q := fun d μ' h v F'' H' e' s r => p d μ' h v F'' H' (e.trans e') s r
theorem PostX.mono (p : PostX K cls R F x E) (e : Same F F') : PostX K cls R F' x E := fun d μ' h c o F'' H' e' s r => p d μ' h c o F'' H' (e.trans e') s r
/-- a value that needs nothing of the heap -/
theorem PostK.now (p : PostK K cls R F k Q) (h : k d μ) (S : Sto K cls F R μ H) (r : Rep K F v d) : Q v H := p d μ h v F H (Same.refl F) S r

/-- a new list -/
theorem new_list {m : Bool} {ds : List D} {vs : List V} (S : Sto K cls F R μ H) (hz : ds.length ≤ sizeLine) (r : Reps K F vs ds) (w : newL m ds μ k) (p : PostK K cls R F k Q) :
    ∀ a, H a = none → Q (.ref a) (upd H a (.lst vs)) := fun a ha => by
  cases m with
  | true =>
    have w' : ∀ a, μ a = none → k (.ref a) (μ.set a (.lst ds)) := w
    exact p _ _ (w' a (S.fresh ha).2) _ F _ (Same.refl F) (S.newM ha ⟨vs, upd_same, r⟩ hz) (.ref a)
  | false =>
    have w' : k (.lst ds) μ := w
    obtain ⟨e, S'⟩ := S.newF (o := .lst vs) ha (by show vs.length ≤ sizeLine; rw [r.length]; exact hz)
    exact p _ _ w' _ _ _ e S' (.lst upd_same (r.mono e))
theorem new_tup {ds : List D} {vs : List V} (S : Sto K cls F R μ H) (hz : ds.length ≤ sizeLine) (r : Reps K F vs ds) (w : k (.tup ds) μ) (p : PostK K cls R F k Q) :
    ∀ a, H a = none → Q (.ref a) (upd H a (.tup vs)) := fun a ha => by
  obtain ⟨e, S'⟩ := S.newF (o := .tup vs) ha (by show vs.length ≤ sizeLine; rw [r.length]; exact hz)
  exact p _ _ w _ _ _ e S' (.tup upd_same (r.mono e))

theorem vwr_lst {o : Option MO} {a : Addr} {l : List D} (e : vwr o a = .lst l) : o = some (.lst l) := by
  cases o with
  | none => cases e
  | some m =>
    cases m with
    | lst l' => cases e; rfl
    | _ => cases e
theorem vwr_cases (o : Option MO) (a : Addr) : (∃ l, vwr o a = .lst l) ∨ vwr o a = .ref a := by
  cases o with
  | none => exact .inr rfl
  | some m =>
    cases m with
    | lst l' => exact .inl ⟨l', rfl⟩
    | _ => exact .inr rfl
theorem vw_ref {a : Addr} (e : vw μ d = .ref a) : d = .ref a := by
  cases d with
  | ref b =>
    have e : vwr (μ b) b = .ref a := e
    rcases vwr_cases (μ b) b with ⟨l, q⟩ | q
    · cases q.symm.trans e
    · exact q.symm.trans e
  | _ => exact e
theorem vw_flat {z : D} (e : vw μ d = z) (h1 : ∀ l, z ≠ .lst l) (h2 : ∀ a, z ≠ .ref a) : d = z := by
  cases d with
  | ref a =>
    rcases vwr_cases (μ a) a with ⟨l, q⟩ | q
    · exact absurd (e.symm.trans q) (h1 l)
    · exact absurd (e.symm.trans q) (h2 a)
  | _ => exact e
/-- what stands behind a reference, read -/
theorem vw_lst {l : List D} (S : Sto K cls F R μ H) (r : Rep K F v d) (e : vw μ d = .lst l) : ∃ a vs, v = .ref a ∧ H a = some (.lst vs) ∧ Reps K F vs l ∧ l.length ≤ sizeLine := by
  cases d with
  | ref a =>
    cases r
    obtain ⟨vs, h1, h2⟩ := S.at_ a _ (vwr_lst e)
    exact ⟨a, vs, rfl, h1, h2, S.bigM _ _ (vwr_lst e)⟩
  | lst l' =>
    cases e
    cases r with
    | lst h1 h2 => exact ⟨_, _, rfl, S.ext _ _ h1, h2, by rw [← h2.length]; exact S.big _ _ h1⟩
  | _ => cases e
theorem vw_tup {l : List D} (S : Sto K cls F R μ H) (r : Rep K F v d) (e : vw μ d = .tup l) : ∃ a vs, v = .ref a ∧ H a = some (.tup vs) ∧ Reps K F vs l ∧ d = .tup l ∧ F a = some (.tup vs) ∧ l.length ≤ sizeLine := by
  cases d with
  | ref a =>
    rcases vwr_cases (μ a) a with ⟨l', q⟩ | q
    · cases q.symm.trans e
    · cases q.symm.trans e
  | tup l' =>
    cases e
    cases r with
    | tup h1 h2 => exact ⟨_, _, rfl, S.ext _ _ h1, h2, rfl, h1, by rw [← h2.length]; exact S.big _ _ h1⟩
  | _ => cases e
theorem vw_dp (S : Sto K cls F R μ H) (r : Rep K F v d) (o : okD 60 (vw μ d) = true) : Dp K H v (toPy (vw μ d)) := by
  cases d with
  | ref a =>
    rcases vwr_cases (μ a) a with ⟨l', q⟩ | q
    · have q' : vw μ (.ref a) = .lst l' := q
      rw [q'] at o ⊢
      obtain ⟨a, vs, rfl, h1, h2, _⟩ := vw_lst S r q'
      exact .lst (SqL.of h1) (Reps.dp S.ext l' 59 vs (by simpa [okD] using o) h2)
    · have q' : vw μ (.ref a) = .ref a := q
      rw [q'] at o
      simp [okD] at o
  | _ => exact Rep.dp S.ext _ 60 v o r
end

def lR2 (K : PySem.W.Frag) (cls : String → Option Addr) (w : D → D → Mu → KD → Prop) : R2 := fun x y H Q =>
  ∃ F R μ d e k, Sto K cls F R μ H ∧ Rep K F x d ∧ Rep K F y e ∧ w d e μ k ∧ PostK K cls R F k Q
def lRC (K : PySem.W.Frag) (cls : String → Option Addr) (w : List D → Mu → KD → Prop) : List V → Hp → VK → Prop := fun vs H Q =>
  ∃ F R μ ds k, Sto K cls F R μ H ∧ Reps K F vs ds ∧ w ds μ k ∧ PostK K cls R F k Q
def lR1 (K : PySem.W.Frag) (cls : String → Option Addr) (w : D → Mu → KD → Prop) : V → Hp → VK → Prop := fun x H Q =>
  ∃ F R μ d k, Sto K cls F R μ H ∧ Rep K F x d ∧ w d μ k ∧ PostK K cls R F k Q

def opOf : Op2 → Operator
  | .add => .Add | .sub => .Sub | .mul => .Mult | .fdiv => .FloorDiv | .mod => .Mod | .pow => .Pow
def cmOf : Cm → CmpOp
  | .lt => .Lt | .le => .LtE | .gt => .Gt | .ge => .GtE | .eq => .Eq | .ne => .NotEq | .inn => .In | .nin => .NotIn | .isN => .Is | .isNN => .IsNot

section
variable {X : Cx} {cls : String → Option Addr}
theorem neg_bl (b : Bool) {prog : Program} {w : World} {A : Around} {E : Value → Shared → Prop} {s : Shared} {Q : Value → Shared → Prop} (h : Q (.int (-(if b = true then (1 : Int) else 0)) s.toks) { s with toks := s.toks + 1 }) :
    wpAny (model prog w) A (unaryOp .USub (.bool b)) Q E s :=
  unaryOp_gives (op := .USub) (PySem.typeIs_bool s b) rfl F.slot_bool_neg F.entry_int_neg (F.args_int_neg_1 _) (.of_eq (by cases b <;> rfl) : Gives (Builtin.«int.__neg__» ⟨[.bool b], []⟩) (.int (-(if b = true then (1 : Int) else 0)))) h
def rNeg : V → Hp → VK → Prop := fun x H Q => (∃ i, x = .int i ∧ Q (.int (-i)) H) ∨ ∃ b, x = .bl b ∧ Q (.int (-(if b = true then (1 : Int) else 0))) H
theorem un_negb : UnR X (unaryOp .USub) rNeg := by
  intro pins s σ H x v Q I rx h
  rcases h with ⟨i, rfl, q⟩ | ⟨b, rfl, q⟩
  · exact un_neg pins s σ H _ v Q I rx ⟨i, rfl, q⟩
  · cases rx
    exact neg_bl b ⟨.int _, H, I.tok _, ⟨_, rfl⟩, q⟩
theorem op_bin (op : Op2) : OpR X (binaryOp (opOf op)) (lR2 X.K cls (binW op)) := by
  intro pins s σ H x y v u Q I rx ry h
  obtain ⟨F, R, μ, d, e, k, S, r1, r2, w, p⟩ := h
  unfold binW at w
  split at w
  · cases r1; cases r2
    exact op_add pins s σ H _ _ v u Q I rx ry ⟨_, _, rfl, rfl, p.now w S (.int _)⟩
  · cases r1; cases r2
    exact op_add_str pins s σ H _ _ v u Q I rx ry ⟨_, _, rfl, rfl, w.1, p.now w.2 S (.str _)⟩
  · cases r1 with
    | lst h1 q1 =>
      cases r2 with
      | lst h2 q2 =>
        exact op_cat pins s σ H _ _ v u Q I rx ry ⟨_, _, _, _, rfl, rfl, S.ext _ _ h1, S.ext _ _ h2, by rw [q1.length, q2.length]; exact w.1, new_list (m := false) S (by rw [List.length_append]; exact w.1) (q1.append q2) w.2 p⟩
  · cases r1 with
    | tup h1 q1 =>
      cases r2 with
      | tup h2 q2 =>
        refine op_catA pins s σ H _ _ v u Q I rx ry ⟨_, _, _, _, rfl, rfl, SqT.of (S.ext _ _ h1), SqT.of (S.ext _ _ h2), by rw [q1.length, q2.length]; exact w.1, fun z => ?_, fun _ z => ?_, fun _ _ => new_tup S (by rw [List.length_append]; exact w.1) (q1.append q2) w.2 p⟩
        · subst z
          cases q1
          exact p.now w.2 S (.tup h2 q2)
        · subst z
          cases q2
          refine p.now w.2 S (.tup h1 ?_)
          rw [List.append_nil]
          exact q1
  · cases r1; cases r2
    exact op_sub pins s σ H _ _ v u Q I rx ry ⟨_, _, rfl, rfl, p.now w S (.int _)⟩
  · cases r1; cases r2
    exact op_mul pins s σ H _ _ v u Q I rx ry ⟨_, _, rfl, rfl, w.1, p.now w.2 S (.int _)⟩
  · cases r1; cases r2
    exact op_fdiv pins s σ H _ _ v u Q I rx ry ⟨_, _, rfl, rfl, w.1, p.now w.2 S (.int _)⟩
  · cases r1; cases r2
    exact op_mod pins s σ H _ _ v u Q I rx ry ⟨_, _, rfl, rfl, w.1, p.now w.2 S (.int _)⟩
  · cases r1; cases r2
    exact op_pow pins s σ H _ _ v u Q I rx ry ⟨_, _, rfl, rfl, w.1, p.now w.2 S (.int _)⟩
  · cases r1; cases r2; cases rx
    obtain ⟨t, rfl⟩ := ry
    exact PySem.IntBool.add_bool_int ⟨.int _, H, I.tok _, ⟨_, rfl⟩, p.now w S (.int _)⟩
  · cases r1; cases r2; cases rx
    obtain ⟨t, rfl⟩ := ry
    exact PySem.IntBool.sub_bool_int ⟨.int _, H, I.tok _, ⟨_, rfl⟩, p.now w S (.int _)⟩
  · exact w.elim

theorem isNon_dec {K : PySem.W.Frag} {F : Hp} {x : V} {d : D} (r : Rep K F x d) : decide (x = V.non) = isNon d := by
  cases r <;> simp [isNon]
theorem any_py (l : List D) (d : D) : ((toPys l).any fun z => PyData.eqv z (toPy d)) = l.any fun z => eqD z d := by
  induction l with
  | nil => rfl
  | cons x r ih => simp only [toPys, List.any_cons, ih, eqD_py]
theorem op_cmp (op : Cm) (hu : X.A.units + 80 < cLine) : OpR X (compareOp (cmOf op)) (lR2 X.K cls (cmpW op)) := by
  intro pins s σ H x y v u Q I rx ry h
  obtain ⟨F, R, μ, d, e, k, S, r1, r2, w, p⟩ := h
  unfold cmpW at w
  cases op with
  | lt =>
    simp only at w
    split at w
    · cases r1; cases r2
      exact op_lt pins s σ H _ _ v u Q I rx ry ⟨_, _, rfl, rfl, p.now w S (.bl _)⟩
    · obtain ⟨o1, o2, al, ⟨l, m, e1, e2⟩, w⟩ := w
      subst e1 e2
      obtain ⟨as, g1⟩ := Dp.reads I _ _ _ (Rep.dp S.ext _ 60 x o1 r1) rx
      obtain ⟨bs, g2⟩ := Dp.reads I _ _ _ (Rep.dp S.ext _ 60 y o2 r2) ry
      have hd := (okD_lay 60 _ o1).2
      exact PySem.W.rcLt_alike _ _ X.A s v u as bs g1 g2 al (by simp [toPy]) (by have := Nat.min_le_left (toPy (.tup l)).depth (toPy (.tup m)).depth; omega) _ _ _ _ ⟨.bl _, H, I, rfl, p.now w S (.bl _)⟩
  | le =>
    simp only at w
    split at w
    · cases r1; cases r2
      exact op_le pins s σ H _ _ v u Q I rx ry ⟨_, _, rfl, rfl, p.now w S (.bl _)⟩
    · exact w.elim
  | gt =>
    simp only at w
    split at w
    · cases r1; cases r2
      exact op_gt pins s σ H _ _ v u Q I rx ry ⟨_, _, rfl, rfl, p.now w S (.bl _)⟩
    · exact w.elim
  | ge =>
    simp only at w
    split at w
    · cases r1; cases r2
      exact op_ge pins s σ H _ _ v u Q I rx ry ⟨_, _, rfl, rfl, p.now w S (.bl _)⟩
    · exact w.elim
  | eq =>
    obtain ⟨o1, o2, w⟩ := w
    refine op_eqD (by omega) pins s σ H _ _ v u Q I rx ry ⟨_, _, vw_dp S r1 o1, vw_dp S r2 o2, okD_shaped o1, okD_shaped o2, ?_⟩
    rw [eqD_py]
    exact p.now w S (.bl _)
  | ne =>
    obtain ⟨o1, o2, w⟩ := w
    refine op_neD (by omega) pins s σ H _ _ v u Q I rx ry ⟨_, _, vw_dp S r1 o1, vw_dp S r2 o2, okD_shaped o1, okD_shaped o2, ?_⟩
    rw [eqD_py]
    exact p.now w S (.bl _)
  | inn =>
    simp only at w
    split at w
    · rename_i l e2
      obtain ⟨o1, o2, w⟩ := w
      obtain ⟨a, vs, rfl, h1, h2, _⟩ := vw_lst S r2 e2
      refine op_inD (by omega) pins s σ H _ _ v u Q I rx ry ⟨_, _, Rep.dp S.ext _ 60 x o1 r1, .lst (SqL.of h1) (Reps.dp S.ext l 59 vs o2 h2), okD_shaped o1, okD_shaped (d := .lst l) (by simpa [okD] using o2), ?_⟩
      rw [any_py]
      exact p.now w S (.bl _)
    · rename_i l e2
      obtain ⟨o1, o2, w⟩ := w
      obtain ⟨a, vs, rfl, h1, h2, rfl, _⟩ := vw_tup S r2 e2
      obtain ⟨as, g1⟩ := Dp.reads I _ _ _ (Rep.dp S.ext _ 60 x o1 r1) rx
      obtain ⟨bs, g2⟩ := Dp.reads I (.tuple (toPys l)) _ _ (.tup (SqT.of h1) (Reps.dp S.ext l 59 vs o2 h2)) ry
      refine SeqAt.in_tuple_reads g2 g1 (okDs_lay 59 l o2).1 (okD_lay 60 _ o1).1 (by have := (okD_lay 60 _ o1).2; omega) ⟨.bl _, H, I, rfl, ?_⟩
      rw [any_py]
      exact p.now w S (.bl _)
    · exact w.elim
  | nin =>
    simp only at w
    split at w
    · rename_i l e2
      obtain ⟨o1, o2, w⟩ := w
      obtain ⟨a, vs, rfl, h1, h2, _⟩ := vw_lst S r2 e2
      refine op_notInD (by omega) pins s σ H _ _ v u Q I rx ry ⟨_, _, Rep.dp S.ext _ 60 x o1 r1, .lst (SqL.of h1) (Reps.dp S.ext l 59 vs o2 h2), okD_shaped o1, okD_shaped (d := .lst l) (by simpa [okD] using o2), ?_⟩
      rw [any_py]
      exact p.now w S (.bl _)
    · rename_i l e2
      obtain ⟨o1, o2, w⟩ := w
      obtain ⟨a, vs, rfl, h1, h2, rfl, _⟩ := vw_tup S r2 e2
      obtain ⟨as, g1⟩ := Dp.reads I _ _ _ (Rep.dp S.ext _ 60 x o1 r1) rx
      obtain ⟨bs, g2⟩ := Dp.reads I (.tuple (toPys l)) _ _ (.tup (SqT.of h1) (Reps.dp S.ext l 59 vs o2 h2)) ry
      refine SeqAt.notIn_tuple_reads g2 g1 (okDs_lay 59 l o2).1 (okD_lay 60 _ o1).1 (by have := (okD_lay 60 _ o1).2; omega) ⟨.bl _, H, I, rfl, ?_⟩
      rw [any_py]
      exact p.now w S (.bl _)
    · exact w.elim
  | isN =>
    simp only at w
    split at w
    · cases r2
      refine op_isN pins s σ H _ _ v u Q I rx ry ⟨rfl, ?_⟩
      rw [isNon_dec r1]
      exact p.now w S (.bl _)
    · exact w.elim
  | isNN =>
    simp only at w
    split at w
    · cases r2
      refine op_notN pins s σ H _ _ v u Q I rx ry ⟨rfl, ?_⟩
      rw [isNon_dec r1]
      exact p.now w S (.bl _)
    · exact w.elim
end
end SR

/-! built-ins upon data -/
namespace SR
open PySem PySem.Spec PyProof.Rows L2

/-! ### sorted(x) of whatever can be collected -/
section
variable {prog : Program} {w : World} {A : Around} {E : Value → Shared → Prop} {s : Shared}
theorem collect_tuple {l : Addr} {vs : List Value} {Q : List Value → Shared → Prop} (hl : s.heap.IsTuple l vs.toArray)
    (h : ∀ h' : Heap, (∀ b o, s.heap.get? b = some o → h'.get? b = some o) → s.heap.objs.size ≤ h'.objs.size → Q vs { s with heap := h' }) (hsz : vs.length ≤ sizeLine) : wpAny (model prog w) A (collect (.ref l)) Q E s := by
  obtain ⟨o, ho, hc, n, hd⟩ := id hl
  unfold collect
  refine wpAny_bind (wpAny_runValue (codeAny_builtin PyProof.Rows.entry_proto_collect' ?_))
  show wpAny _ _ (newList [] >>= fun z => again (.builtin "list.__iadd__" ⟨[z, .ref l], []⟩)) _ _ s
  refine wpAny_bind (wpAny_newList (wpAny_pure ⟨Code.quiet_builtin _ (by decide +kernel), codeAny_builtin PyProof.Rows.entry_list_iadd' ?_⟩))
  show wpAny _ _ (Builtin.List.listExtendWith (.ref s.heap.objs.size) (.ref l) (.ref s.heap.objs.size)) _ _ { s with heap := s.heap.push (seqObj "list" #[] 0) }
  unfold Builtin.List.listExtendWith
  have ho' : (s.heap.push (seqObj "list" #[] 0)).get? l = some o := Heap.get?_push_of_some _ ho
  refine wpAny_bind (wpAny_typeOf (T := "tuple") ⟨o, ho', hc⟩ ?_)
  have ht : (Value.type "tuple" == Value.type "tuple") = true := by rfl
  rw [if_pos (by rw [ht]; simp)]
  refine wpAny_bind (listItems_at ho' hd ?_)
  refine wpAny_bind (listItems_at (xs := #[]) (n := 0) (Heap.get?_push_size _ rfl) rfl ?_)
  rw [if_neg (by simp)]
  refine wpAny_bind (listUpdate_at (xs := #[]) (n := 0) (Heap.get?_push_size _ rfl) rfl ?_ (Nat.zero_le _) (by show (#[] ++ vs.toArray).size ≤ sizeLine + 1; simp only [Array.size_append, List.size_toArray, List.length_nil]; omega))
  refine wpAny_pure ?_
  show wpAny (model prog w) A (load s.heap.objs.size >>= fun o => match o.data with
      | .seq xs _ => pure xs.toList
      | _ => unsupported "internal:collect") Q E { s with heap := (s.heap.push (seqObj "list" #[] 0)).update s.heap.objs.size (Obj.mapSeq (· ++ vs.toArray)) }
  refine wpAny_bind (wpAny_load (get?_update_seq (Heap.get?_push_size _ rfl) _) ?_)
  show wpAny _ _ (pure ((#[] : Array Value) ++ vs.toArray).toList) Q E _
  rw [show ((#[] : Array Value) ++ vs.toArray).toList = vs by simp]
  refine wpAny_pure (h _ (fun b o q => ?_) (Nat.le_of_lt (Heap.lt_size (get?_update_seq (Heap.get?_push_size _ rfl) _))))
  rw [Heap.get?_update_other _ _ (Ne.symm (Nat.ne_of_lt (Heap.lt_size q)))]
  exact Heap.get?_push_of_some _ q
theorem collect_src {T : String} {r d : Addr} {n : Nat} {P : Nat → Value → Prop} {OK : Heap → Prop} {Q : List Value → Shared → Prop} (K : PySem.W.KdlSrc prog w T r d n P OK) (hh : A.handled = none) (hok : OK s.heap) (hn : n ≤ sizeLine)
    (hQ : ∀ (h' : Heap) (tk : Nat) (acc : Array Value), (∀ b o, s.heap.get? b = some o → h'.get? b = some o) → s.heap.objs.size ≤ h'.objs.size → ItemsOf P acc n → Q acc.toList { s with heap := h', toks := tk }) : wpAny (model prog w) A (collect (.ref r)) Q E s := by
  unfold collect
  refine wpAny_bind (wpAny_runValue (codeAny_builtin F.entry_proto_collect ?_))
  rw [Around.under_plainId F.plain_proto_collect _]
  show wpAny _ A.in1 (newList [] >>= fun z => again (.builtin "list.__iadd__" ⟨[z, .ref r], []⟩)) _ _ s
  refine wpAny_bind (wpAny_newObj_type ?_)
  refine wpAny_pure ⟨plainId_quiet F.plain_list_iadd _, codeAny_builtin F.entry_list_iadd ?_⟩
  rw [Around.under_plainId F.plain_list_iadd _]
  show wpAny _ A.in1 (Builtin.List.listExtendWith (.ref s.heap.objs.size) (.ref r) (.ref s.heap.objs.size)) _ _ _
  have hS : (s.heap.push { cls := .type "list", data := .seq ([] : List Value).toArray }).get? s.heap.objs.size = some { cls := .type "list", data := .seq #[] 0 } := Heap.get?_push_size _ rfl
  have hlt := K.there _ hok
  refine wpAny_mono (PySem.W.kdl_extend (A := A) (R := fun rr s' => rr = .ok (.ret (.ref s.heap.objs.size)) ∧ ∃ (h' : Heap) (tk : Nat) (acc : Array Value) (c' : Nat), s' = { s with heap := h', toks := tk } ∧
      (∀ b o, s.heap.get? b = some o → h'.get? b = some o) ∧ h'.get? s.heap.objs.size = some { cls := .type "list", dict := none, data := .seq acc c', slots := #[] } ∧ ItemsOf P acc n)
    (s := { s with heap := s.heap.push { cls := .type "list", data := .seq ([] : List Value).toArray } }) K hh (K.keep _ _ hok fun b _ o e => Heap.get?_push_of_some _ e) s.heap.objs.size (Nat.ne_of_gt hlt.1) (Nat.ne_of_gt hlt.2) _ 0 hS
    (fun h' tk acc c' hk e hi => ⟨rfl, h', tk, acc, c', rfl, fun b o q => hk b o (Nat.ne_of_lt (Heap.lt_size q)) (Heap.get?_push_of_some _ q), e, hi⟩) hn) (fun fin s' h => ?_) (fun e s' h => ?_)
  · cases fin with
    | done f =>
      obtain ⟨e, h', tk, acc, c', rfl, hk, hS', hi⟩ := h
      cases e
      show wpAny _ A (load s.heap.objs.size >>= _) _ _ _
      exact wpAny_bind (wpAny_load hS' (wpAny_pure (hQ h' tk acc hk (Nat.le_of_lt (Heap.lt_size hS')) hi)))
    | again c' =>
      refine ⟨h.1, codeAny_mono h.2 fun rr s'' hr' => ?_⟩
      obtain ⟨rfl, h', tk, acc, c', rfl, hk, hS', hi⟩ := hr'
      show wpAny _ A (load s.heap.objs.size >>= _) _ _ _
      exact wpAny_bind (wpAny_load hS' (wpAny_pure (hQ h' tk acc hk (Nat.le_of_lt (Heap.lt_size hS')) hi)))
  · exact absurd h.1 (by simp)
end

/-! ### data that are sorted -/
theorem reps_each {K : PySem.W.Frag} {F : Hp} : ∀ {vs : List V} {us : List Value} {ds : List D}, Reps K F vs ds → Vals vs us → PySem.W.EachIs (fun u d => ∃ v, RelV v u ∧ Rep K F v d) us ds
  | _, _, _, .nil, .nil => .nil
  | _, _, _, .cons h r, .cons q t => .cons ⟨_, q, h⟩ (reps_each r t)
theorem each_reps {K : PySem.W.Frag} {F : Hp} : ∀ {us : List Value} {ds : List D}, PySem.W.EachIs (fun u d => ∃ v, RelV v u ∧ Rep K F v d) us ds → ∃ vs, Vals vs us ∧ Reps K F vs ds
  | _, _, .nil => ⟨[], .nil, .nil⟩
  | _, _, .cons ⟨v, q, h⟩ r => let ⟨vs, a, b⟩ := each_reps r; ⟨v :: vs, .cons q a, .cons h b⟩
section
variable {X : Cx} {cls : String → Option Addr} {pins : List (Addr × Obj)} {σ : L2.St} {H : Hp} {s : Shared} {F : Hp} {R : Rs} {μ : Mu}
theorem okDs_mem {n : Nat} : ∀ {l : List D}, okDs n l = true → ∀ d ∈ l, okD n d = true
  | [], _, _, h => nomatch h
  | x :: l, o, d, h => by
    have o' : okD n x = true ∧ okDs n l = true := by simpa [okDs] using o
    rcases List.mem_cons.mp h with e | h
    · rw [e]; exact o'.1
    · exact okDs_mem o'.2 d h
theorem reads_each (I : Inv X pins σ H s) (S : Sto X.K cls F R μ H) : ∀ {vs : List V} {us : List Value} {l : List D}, Reps X.K F vs l → Vals vs us → okDs 60 l = true → PySem.W.EachIs (fun u d => ∃ as, Reads s.heap u (toPy d) as) us l
  | _, _, _, .nil, .nil, _ => .nil
  | _, _, _, .cons (d := d) (ds := ds) h r, .cons q t, o => by
    have o' : okD 60 d = true ∧ okDs 60 ds = true := by simpa [okDs] using o
    exact .cons (Dp.reads I _ _ _ (Rep.dp S.ext d 60 _ o'.1 h) q) (reads_each I S r t o'.2)
theorem sorted_run {arg : Value} {l : List D} {vs : List V} {us : List Value} {m : Bool} {k : KD} {Q : VK} (hu : X.A.units + 80 < cLine) (I : Inv X pins σ H s) (S : Sto X.K cls F R μ H) (so : sortable l) (r : Reps X.K F vs l) (rv : Vals vs us) (hz : l.length ≤ sizeLine)
    (hcol : ∀ (Q' : List Value → Shared → Prop) (E' : Value → Shared → Prop), (∀ h' tk, (∀ b o, s.heap.get? b = some o → h'.get? b = some o) → s.heap.objs.size ≤ h'.objs.size → Q' us { s with heap := h', toks := tk }) → wpAny (model X.prog X.w) X.A.in1 (collect arg) Q' E' s)
    (w : newL m (l.mergeSort leD) μ k) (p : PostK X.K cls R F k Q) : wpAny (model X.prog X.w) X.A (call (.builtin "sorted") [arg]) (EP X pins σ Q) X.xe s := by
  obtain ⟨al, sb, ok⟩ := so
  have hlen : us.length = l.length := by rw [← rv.length]; exact r.length
  refine Calls.call_function_entry kind_sorted plain_sorted entry_sorted (args_sorted1 _) ?_
  unfold Builtin.«sorted»
  refine wpAny_bind (m := checkCount "sorted" 1 1 _) (wpAny_pure (wpAny_bind (hcol _ _ fun h' tk kp ksz => wpAny_bind (wpAny_newList ?_ (by omega)))))
  have atN : (h'.push (seqObj "list" us.toArray 0)).get? h'.objs.size = some (seqObj "list" us.toArray 0) := Heap.get?_push_size _ rfl
  have kp1 : ∀ b o, s.heap.get? b = some o → b ≠ h'.objs.size ∧ (h'.push (seqObj "list" us.toArray 0)).get? b = some o := fun b o e =>
    ⟨Nat.ne_of_lt (Heap.lt_size (kp b o e)), Heap.get?_push_of_some _ (kp b o e)⟩
  have er : PySem.W.EachIs (fun u d => ∃ as, Reads (PySem.W.sortingHeap (h'.push (seqObj "list" us.toArray 0)) h'.objs.size us) u (toPy d) as) us l :=
    (reads_each I S r rv ok).mono fun _ _ ⟨as, q⟩ => ⟨as, PyProof.Rows.Reads.keeps (fun b o e => PySem.W.sortingHeap_old (kp1 b o e).1 (kp1 b o e).2) q⟩
  have hub : ∀ d, d ∈ l.map toPy → X.A.in1.in1.units + d.depth < cLine := fun d hd => by
    obtain ⟨e, he, rfl⟩ := List.mem_map.mp hd
    have := (okD_lay 60 e (okDs_mem ok e he)).2
    show X.A.units + 1 + 1 + _ < _
    omega
  have SA := PySem.W.SortsAt.data (prog := X.prog) (w := X.w) (A := X.A.in1.in1) (s := { s with heap := PySem.W.sortingHeap (h'.push (seqObj "list" us.toArray 0)) h'.objs.size us, toks := tk }) (PySem.W.each_map (R := fun u d => ∃ as, Reads (PySem.W.sortingHeap (h'.push (seqObj "list" us.toArray 0)) h'.objs.size us) u d as) toPy er) al sb hub
  refine wpAny_bind (wpAny_holding (wpAny_call_entry slot_list_sort ⟨_, atN, rfl⟩ entry_list_sort (PySem.W.list_sort_vals (s := { s with heap := h'.push (seqObj "list" us.toArray 0), toks := tk }) atN SA (by omega) ⟨.none, rfl, wpAny_pure ⟨_, rfl, ?_⟩⟩) (args_list_sort _)))
  have ev := PySem.W.sortVals_data false (reps_each r rv) er al
  generalize PySem.W.sortVals _ false us us = out at ev
  obtain ⟨vo, rvo, ro⟩ := each_reps ev
  obtain ⟨ep, hat⟩ := PyProof.Rows.sortedHeap_at (out := out.toArray) atN
  have hn : H h'.objs.size = none := I.hok.fresh ksz
  have hvl : vo.length ≤ sizeLine := by rw [ro.length, List.length_mergeSort]; exact hz
  exact ⟨.ref h'.objs.size, _, I.laid (o := .lst vo) (t' := tk) (fun b o e => (PyProof.Rows.sortedHeap_old (kp1 b o e).1 (Heap.lt_size (kp1 b o e).2)).trans (kp1 b o e).2) ksz ⟨hvl, out, ep, rvo, hat⟩, rfl, new_list S (by rw [List.length_mergeSort]; exact hz) ro w p _ hn⟩

/-! ### lists of one kind -/
theorem reps_ints {K : PySem.W.Frag} {F : Hp} : ∀ {vs : List V} {ns : List Int}, Reps K F vs (ns.map D.int) → vs = ns.map V.int
  | _, [], h => by cases h; rfl
  | _, n :: ns, h => by
    cases h with
    | cons h r =>
      cases h
      rw [reps_ints r]
      rfl
theorem reps_bls {K : PySem.W.Frag} {F : Hp} : ∀ {vs : List V} {bs : List Bool}, Reps K F vs (bs.map D.bl) → vs = bs.map V.bl
  | _, [], h => by cases h; rfl
  | _, n :: ns, h => by
    cases h with
    | cons h r =>
      cases h
      rw [reps_bls r]
      rfl
theorem reps1 {K : PySem.W.Frag} {F : Hp} {vs : List V} {d : D} (h : Reps K F vs [d]) : ∃ v, vs = [v] ∧ Rep K F v d := by
  cases h with
  | cons h r => cases r; exact ⟨_, rfl, h⟩
theorem reps2 {K : PySem.W.Frag} {F : Hp} {vs : List V} {d e : D} (h : Reps K F vs [d, e]) : ∃ v u, vs = [v, u] ∧ Rep K F v d ∧ Rep K F u e := by
  cases h with
  | cons h r =>
    cases r with
    | cons h' r => cases r; exact ⟨_, _, rfl, h, h'⟩

def btId : Bt → Value
  | .len => .builtin "len" | .abs => .builtin "abs" | .min2 => .builtin "min" | .max2 => .builtin "max" | .maxl => .builtin "max" | .all => .builtin "all" | .any => .builtin "any"
  | .sum => .builtin "sum" | .toList _ => .type "list" | .toTup => .type "tuple" | .sorted _ => .builtin "sorted" | .str => .type "str"
theorem keyOf_rep {K : PySem.W.Frag} {F : Hp} {d : D} {k : Key} (h : keyOf d = some k) : Rep K F (kV k) d := by
  cases d <;> simp [keyOf] at h <;> subst h <;> constructor
theorem keysOf_reps {K : PySem.W.Frag} {F : Hp} : ∀ {l : List D} {ks : List Key}, keysOf l = some ks → Reps K F (ks.map kV) l
  | [], _, h => by simp [keysOf] at h; subst h; exact .nil
  | d :: r, ks, h => by
    unfold keysOf at h
    split at h
    · rename_i k q e1 e2
      cases h
      exact .cons (keyOf_rep e1) (keysOf_reps e2)
    · cases h
/-- a tuple that stands in the heap comes to rest -/
theorem take_tup {b : Addr} {xs : List V} {K : PySem.W.Frag} {F H : Hp} {R : Rs} {μ : Mu} (S : Sto K cls F R μ H) (h : H b = some (.tup xs)) (hz : xs.length ≤ sizeLine) : ∃ F', Same F F' ∧ Sto K cls F' R μ H ∧ F' b = some (.tup xs) := by
  have e : Same F (upd F b (.tup xs)) := fun c o q => by
    by_cases hc : c = b
    · subst hc
      rw [S.ext _ _ q] at h
      rw [upd_same, ← h]
    · rw [upd_ne hc]; exact q
  have mu : ∀ mo, μ b ≠ some mo := fun mo q => by
    have m := S.at_ b mo q
    cases mo with
    | lst ds => obtain ⟨vs, h1, _⟩ := m; rw [h] at h1; cases h1
    | dct kvs => obtain ⟨r, h1, _⟩ := m; rw [h] at h1; cases h1
    | tct kvs => obtain ⟨r, h1, _⟩ := m; rw [h] at h1; cases h1
    | ins C fs => obtain ⟨c, dx, vs, _, h1, _⟩ := m; rw [h] at h1; cases h1
  refine ⟨_, e, ⟨fun c o q => ?_, fun c mo q => ?_, fun c mo q => (S.at_ c mo q).keep e fun o q => q, fun c l q => ?_, fun c x q => ?_, S.bigM⟩, upd_same⟩
  rotate_right 2
  · obtain ⟨x, y, z⟩ := S.frm c l q
    have hc : c ≠ b := fun z => by rw [z, h] at x; cases x
    exact ⟨x, (upd_ne hc).trans y, z⟩
  · by_cases hc : c = b
    · subst hc; rw [upd_same] at q; cases q; exact hz
    · rw [upd_ne hc] at q; exact S.big c x q
  · by_cases hc : c = b
    · subst hc; rw [upd_same] at q; cases q; exact h
    · rw [upd_ne hc] at q; exact S.ext c o q
  · have hc : c ≠ b := fun z => by rw [z] at q; exact mu _ q
    rw [upd_ne hc]; exact S.off c mo q
theorem take_keys {K : PySem.W.Frag} {H : Hp} {R : Rs} {μ : Mu} : ∀ {kvs : List (List Key × V)} {ks : List (List Key × Addr × Value)} {F : Hp} {s' : List (D × D)}, Sto K cls F R μ H → (∀ b xs, H b = some (.tup xs) → xs.length ≤ sizeLine) →
    Paired (fun (p : List Key × V) (q : List Key × Addr × Value) => p.1 = q.1 ∧ H q.2.1 = some (.tup (p.1.map kV)) ∧ RelV p.2 q.2.2) kvs ks → KvT K F kvs s' → ∃ F', Same F F' ∧ Sto K cls F' R μ H ∧ Reps K F' (ks.map fun q => V.ref q.2.1) (s'.map (·.1))
  | _, _, F, _, S, _, .nil, .nil => ⟨F, Same.refl F, S, .nil⟩
  | _, _, F, _, S, hz, .cons h r, .cons hk hv t => by
    obtain ⟨F1, e1, S1, q1⟩ := take_tup S h.2.1 (hz _ _ h.2.1)
    obtain ⟨F2, e2, S2, q2⟩ := take_keys S1 hz r (t.mono e1)
    exact ⟨F2, e1.trans e2, S2, .cons (.tup (e2 _ _ q1) (keysOf_reps hk)) q2⟩
/-- the keys of a dict, collected -/
theorem keys_dT {kvs : List (List Key × V)} {s' : List (D × D)} {a : Addr} (hc : X.calm = true) (I : Inv X pins σ H s) (S : Sto X.K cls F R μ H) (hd : H a = some (.dT kvs)) (kt : KvT X.K F kvs s') :
    ∃ (F' : Hp) (us : List Value) (vs : List V), Same F F' ∧ Sto X.K cls F' R μ H ∧ Vals vs us ∧ Reps X.K F' vs (s'.map (·.1)) ∧ s'.length ≤ sizeLine ∧
      ∀ (Q' : List Value → Shared → Prop) (E' : Value → Shared → Prop), (∀ h' tk, (∀ b o, s.heap.get? b = some o → h'.get? b = some o) → s.heap.objs.size ≤ h'.objs.size → Q' us { s with heap := h', toks := tk }) → wpAny (model X.prog X.w) X.A.in1 (collect (.ref a)) Q' E' s := by
  obtain ⟨z, hs, ks, pr, o, es, ep, ho, hx, hdt, he, hn⟩ := (show ObjOk X.prog X.w H s.heap a (.dT kvs) from I.hok a _ hd)
  obtain ⟨F', e, S', rk⟩ := take_keys S (fun b xs q => (show ObjOk X.prog X.w H s.heap b (.tup xs) from I.hok b _ q).1) pr kt
  have l1 : es.size = ks.length := size_of_entries he
  have l2 : kvs.length = ks.length := Paired.length pr
  have l3 : ks.length = s'.length := by have := rk.length; rw [List.length_map, List.length_map] at this; exact this
  have hv : ∀ (l : List (List Key × Addr × Value)), Vals (l.map fun q => V.ref q.2.1) (l.map fun q => Value.ref q.2.1) := fun l => by
    induction l with
    | nil => exact .nil
    | cons x r ih => exact .cons rfl ih
  refine ⟨F', ks.map fun q => Value.ref q.2.1, _, e, S', hv ks, rk, by omega, fun Q' E' h => ?_⟩
  refine collect_src (kdl_raw hs hx hdt) (I.ok.hd hc) ho (by omega) fun h' tk acc kp ksz it => ?_
  have ea : acc.toList = ks.map fun q => Value.ref q.2.1 := by
    apply List.ext_getElem?
    intro j
    rw [List.getElem?_map]
    cases hj : acc.toList[j]? with
    | none =>
      have h1 := List.getElem?_eq_none_iff.mp hj
      have h2 : acc.toList.length = ks.length := by rw [Array.length_toList, it.1]; exact l1
      rw [List.getElem?_eq_none (by omega)]
      rfl
    | some v =>
      obtain ⟨en, hen, hv⟩ := it.2 j v (by rw [← Array.getElem?_toList]; exact hj)
      have qe := entry_at he j
      rw [hen] at qe
      cases hb : ks[j]? with
      | none => rw [hb] at qe; cases qe
      | some b =>
        rw [hb] at qe
        have e2 : en = entryOfKey (tupleKind (mixKind X.prog X.w)) b := Option.some.inj qe
        rw [hv, e2]
        rfl
  rw [ea]
  exact h h' tk kp ksz
end

section
variable {X : Cx} {cls : String → Option Addr}
theorem call_bt (b : Bt) (hc : X.calm = true) (hu : X.A.units + 80 < cLine) : CallR X (btId b) (lRC X.K cls (btW b)) := by
  intro pins s σ H xs us Q I r h
  obtain ⟨F, R, μ, ds, k, S, rs, w, p⟩ := h
  unfold btW at w
  split at w
  · -- len
    obtain ⟨v, rfl, r1⟩ := reps1 rs
    split at w
    · rename_i l e
      obtain ⟨a, vs, rfl, h1, h2, hz0⟩ := vw_lst S r1 e
      refine call_len pins s σ H _ us Q I r ⟨_, vs.length, rfl, .inl ⟨vs, SqL.of h1, rfl⟩, ?_⟩
      rw [h2.length]
      exact p.now w S (.int _)
    · rename_i l e
      obtain ⟨a, vs, rfl, h1, h2, rfl, _, hz0⟩ := vw_tup S r1 e
      refine call_len pins s σ H _ us Q I r ⟨_, vs.length, rfl, .inr ⟨vs, SqT.of h1, rfl⟩, ?_⟩
      rw [h2.length]
      exact p.now w S (.int _)
    · rename_i d ns e
      have e' := vw_flat e (fun a q => by cases q) (fun a q => by cases q)
      subst e'
      cases r1 with
      | scr h1 =>
        refine call_len pins s σ H _ us Q I r ⟨_, (ns.map V.int).length, rfl, .inl ⟨_, S.ext.seq h1, rfl⟩, ?_⟩
        rw [List.length_map]
        exact p.now w S (.int _)
    · rename_i d z e
      have e' := vw_flat e (fun a q => by cases q) (fun a q => by cases q)
      subst e'
      cases r1
      exact call_len pins s σ H _ us Q I r ⟨_, z.length, rfl, ⟨w.1, rfl⟩, p.now w.2 S (.int _)⟩
    · exact w.elim
  · -- abs
    obtain ⟨v, rfl, r1⟩ := reps1 rs
    cases r1
    exact call_abs pins s σ H _ us Q I r ⟨_, rfl, p.now w S (.int _)⟩
  · -- min
    obtain ⟨v, u, rfl, r1, r2⟩ := reps2 rs
    cases r1; cases r2
    exact call_min2 hc pins s σ H _ us Q I r ⟨_, _, rfl, p.now w S (.int _)⟩
  · -- max
    obtain ⟨v, u, rfl, r1, r2⟩ := reps2 rs
    cases r1; cases r2
    exact call_max2 hc pins s σ H _ us Q I r ⟨_, _, rfl, p.now w S (.int _)⟩
  · -- max of a list
    obtain ⟨v, rfl, r1⟩ := reps1 rs
    obtain ⟨ns, rfl, hn, w⟩ := w
    cases r1 with
    | lst h1 h2 =>
      cases reps_ints h2
      exact cr_max hc pins s σ H _ us Q I r ⟨_, ns, rfl, SqL.of (S.ext _ _ h1), hn, fun m hm hy => p.now (w m hm hy) S (.int _)⟩
  · -- all
    obtain ⟨v, rfl, r1⟩ := reps1 rs
    obtain ⟨bs, rfl, w⟩ := w
    cases r1 with
    | lst h1 h2 =>
      cases reps_bls h2
      exact cr_all hc pins s σ H _ us Q I r ⟨_, bs, rfl, SqL.of (S.ext _ _ h1), p.now w S (.bl _)⟩
  · -- any
    obtain ⟨v, rfl, r1⟩ := reps1 rs
    obtain ⟨bs, rfl, w⟩ := w
    cases r1 with
    | lst h1 h2 =>
      cases reps_bls h2
      exact cr_any hc pins s σ H _ us Q I r ⟨_, bs, rfl, SqL.of (S.ext _ _ h1), p.now w S (.bl _)⟩
  · -- sum
    obtain ⟨v, rfl, r1⟩ := reps1 rs
    obtain ⟨ns, rfl, w⟩ := w
    cases r1 with
    | lst h1 h2 =>
      cases reps_ints h2
      exact cr_sum hc pins s σ H _ us Q I r ⟨_, ns, rfl, SqL.of (S.ext _ _ h1), p.now w S (.int _)⟩
  · -- list
    obtain ⟨v, rfl, r1⟩ := reps1 rs
    split at w
    · rename_i l e
      obtain ⟨a, vs, rfl, h1, h2, hz0⟩ := vw_lst S r1 e
      exact call_list_of pins s σ H _ us Q I r ⟨a, vs, rfl, .inl (SqL.of h1), new_list S hz0 h2 w p⟩
    · rename_i l e
      obtain ⟨a, vs, rfl, h1, h2, rfl, _, hz0⟩ := vw_tup S r1 e
      exact call_list_of pins s σ H _ us Q I r ⟨a, vs, rfl, .inr (SqT.of h1), new_list S hz0 h2 w p⟩
    · exact w.elim
  · -- tuple
    obtain ⟨v, rfl, r1⟩ := reps1 rs
    split at w
    · rename_i l e
      obtain ⟨a, vs, rfl, h1, h2, hz0⟩ := vw_lst S r1 e
      exact call_tuple_of pins s σ H _ us Q I r ⟨a, vs, rfl, .inl ⟨SqL.of h1, new_tup S hz0 h2 w p⟩⟩
    · rename_i l e
      obtain ⟨a, vs, rfl, h1, h2, rfl, h3, hz0⟩ := vw_tup S r1 e
      exact call_tuple_of pins s σ H _ us Q I r ⟨a, vs, rfl, .inr ⟨SqT.of h1, p.now w S (.tup h3 h2)⟩⟩
    · exact w.elim
  · -- sorted
    obtain ⟨v, rfl, r1⟩ := reps1 rs
    split at w
    · rename_i l e
      obtain ⟨a, vs, rfl, h1, h2, hz0⟩ := vw_lst S r1 e
      rw [Vals.ref1 r]
      obtain ⟨its, rv, pl, hz⟩ := I.list (SqL.of (K := X.K) h1)
      refine sorted_run hu I S w.1 h2 rv (by rw [← h2.length]; exact hz) (fun Q' E' h => ?_) w.2 p
      refine PyProof.Rows.collect_list pl.isList (h _ s.toks (fun b o q => ?_) ?_) (by rw [← rv.length]; exact hz)
      · rw [Heap.get?_update_other _ _ (Ne.symm (Nat.ne_of_lt (Heap.lt_size q)))]
        exact Heap.get?_push_of_some _ q
      · rw [Heap.size_update, PyProof.Rows.size_push']
        exact Nat.le_succ _
    · rename_i l e
      obtain ⟨a, vs, rfl, h1, h2, rfl, _, hz0⟩ := vw_tup S r1 e
      rw [Vals.ref1 r]
      obtain ⟨its, rv, pl, hz⟩ := I.tuple (SqT.of (K := X.K) h1)
      exact sorted_run hu I S w.1 h2 rv (by rw [← h2.length]; exact hz) (fun Q' E' h => collect_tuple (show s.heap.IsTuple a its.toArray from pl) (fun h' => h h' s.toks) (by rw [← rv.length]; exact hz)) w.2 p
    · rename_i d a e
      have e' := vw_ref e
      subst e'
      split at w
      · rename_i kvs em
        obtain ⟨rr, h1, h2⟩ := S.at_ a _ em
        cases r1
        rw [Vals.ref1 r]
        obtain ⟨F', vs, us', ee, S', rv, rk, hz, hcol⟩ := keys_dT hc I S h1 h2
        exact sorted_run hu I S' w.1 rk rv (by rw [List.length_map]; exact hz) hcol w.2 (p.mono ee)
      · exact w.elim
    · exact w.elim
  · -- str
    obtain ⟨v, rfl, r1⟩ := reps1 rs
    cases r1
    exact call_str_int pins s σ H _ us Q I r ⟨_, rfl, w.1, p.now w.2 S (.str _)⟩
  · -- str of a truth
    obtain ⟨v, rfl, r1⟩ := reps1 rs
    cases r1
    obtain ⟨u, rfl, r2⟩ := vals1 r
    cases r2
    exact PySem.P.str_of_bool ⟨.str _, H, I.tok _, ⟨_, rfl⟩, p.now w S (.str _)⟩
  · exact w.elim
end
end SR

/-! items, slices, stores, appends -/
namespace SR
open PySem PySem.Spec PyProof.Rows L2

section
variable {K : PySem.W.Frag} {cls : String → Option Addr} {F F' H H' : Hp} {R : Rs} {μ μ' : Mu}
theorem at_rep {vs : List V} {l : List D} {i : Int} {d : D} (r : Reps K F vs l) (h : atI l i = some d) : ∃ v, atI vs i = some v ∧ Rep K F v d := by
  have e : ixN vs.length i = ixN l.length i := by rw [r.length]
  unfold atI at h ⊢
  rw [e]
  cases q : ixN l.length i with
  | none => rw [q] at h; cases h
  | some j =>
    rw [q] at h
    exact r.get h
theorem cut_rep {vs : List V} {l : List D} (lo hi : Option Int) (r : Reps K F vs l) : Reps K F (cutV vs lo hi) (cutD l lo hi) := by
  unfold cutV cutD
  rw [r.length]
  exact (r.drop _).take _
theorem cut_len (l : List D) (lo hi : Option Int) : (cutD l lo hi).length ≤ l.length := by
  unfold cutD
  rw [List.length_take, List.length_drop]
  omega
theorem cut_whole {l : List D} {lo hi : Option Int} (h : HT.sIx l.length 0 lo = 0 ∧ HT.sIx l.length l.length hi = l.length) : cutD l lo hi = l := by
  unfold cutD
  rw [h.1, h.2]
  simp
theorem eq_keyOf {d e : D} {a b : Key} (h1 : keyOf d = some a) (h2 : keyOf e = some b) : eqD d e = decide (a = b) := by
  cases d <;> simp [keyOf] at h1 <;> subst h1 <;> cases e <;> simp [keyOf] at h2 <;> subst h2 <;> simp [eqD, Bool.beq_eq_decide_eq]
theorem eq_keysOf : ∀ {l m : List D} {a b : List Key}, keysOf l = some a → keysOf m = some b → eqDs l m = decide (a = b)
  | [], [], a, b, h1, h2 => by simp [keysOf] at h1 h2; subst h1 h2; simp [eqDs]
  | [], y :: m, a, b, h1, h2 => by
    unfold keysOf at h2
    split at h2
    · simp [keysOf] at h1; cases h2; subst h1; simp [eqDs]
    · cases h2
  | x :: l, [], a, b, h1, h2 => by
    unfold keysOf at h1
    split at h1
    · simp [keysOf] at h2; cases h1; subst h2; simp [eqDs]
    · cases h1
  | x :: l, y :: m, a, b, h1, h2 => by
    unfold keysOf at h1 h2
    split at h1
    · split at h2
      · rename_i e1 e2 _ _ _ _ e3 e4
        cases h1; cases h2
        simp only [eqDs, eq_keyOf e1 e3, eq_keysOf e2 e4, List.cons.injEq]
        rw [Bool.eq_iff_iff]
        simp
      · cases h2
    · cases h1
theorem dget_K {y : D} {k : Key} (hk : keyOf y = some k) : ∀ {r : List (Key × V)} {s : List (D × D)}, KvK K F r s → (∀ d, dget s y = some d → ∃ v, valV r k = some v ∧ Rep K F v d) ∧ (dget s y = none → valV r k = none)
  | _, _, .nil => ⟨fun _ h => (nomatch h), fun _ => rfl⟩
  | _, _, .cons (k := k') (v := v) (d := d') h rp t => by
    have ih := dget_K hk t
    have e := eq_keyOf h hk
    unfold dget
    by_cases q : k' = k
    · rw [e, decide_eq_true q, if_pos rfl]
      refine ⟨fun d hd => ?_, fun hd => by cases hd⟩
      cases hd
      exact ⟨_, valV_pos (p := (k', v)) q, rp⟩
    · rw [e, decide_eq_false q, if_neg (by decide)]
      rw [valV_neg (p := (k', v)) q]
      exact ih
theorem dget_T {l : List D} {k : List Key} (hk : keysOf l = some k) : ∀ {r : List (List Key × V)} {s : List (D × D)}, KvT K F r s → (∀ d, dget s (.tup l) = some d → ∃ v, valV r k = some v ∧ Rep K F v d) ∧ (dget s (.tup l) = none → valV r k = none)
  | _, _, .nil => ⟨fun _ h => (nomatch h), fun _ => rfl⟩
  | _, _, .cons (ks := k') (v := v) h rp t => by
    have ih := dget_T hk t
    have e := (show eqD (.tup _) (.tup l) = decide (k' = k) by rw [eqD]; exact eq_keysOf h hk)
    unfold dget
    by_cases q : k' = k
    · rw [e, decide_eq_true q, if_pos rfl]
      refine ⟨fun d hd => ?_, fun hd => by cases hd⟩
      cases hd
      exact ⟨_, valV_pos (p := (k', v)) q, rp⟩
    · rw [e, decide_eq_false q, if_neg (by decide)]
      rw [valV_neg (p := (k', v)) q]
      exact ih
theorem any_K {y : D} {k : Key} (hk : keyOf y = some k) : ∀ {r : List (Key × V)} {s : List (D × D)}, KvK K F r s → (r.any fun kv => decide (kv.1 = k)) = s.any fun p => eqD p.1 y
  | _, _, .nil => rfl
  | _, _, .cons h _ t => by rw [List.any_cons, List.any_cons, any_K hk t, eq_keyOf h hk]
theorem any_T {l : List D} {k : List Key} (hk : keysOf l = some k) : ∀ {r : List (List Key × V)} {s : List (D × D)}, KvT K F r s → (r.any fun kv => decide (kv.1 = k)) = s.any fun p => eqD p.1 (.tup l)
  | _, _, .nil => rfl
  | _, _, .cons h _ t => by rw [List.any_cons, List.any_cons, any_T hk t, eqD, eq_keysOf h hk]
theorem KvK.append : ∀ {r r' : List (Key × V)} {s s' : List (D × D)}, KvK K F r s → KvK K F r' s' → KvK K F (r ++ r') (s ++ s')
  | _, _, _, _, .nil, q => q
  | _, _, _, _, .cons h p t, q => .cons h p (t.append q)
theorem KvT.append : ∀ {r r' : List (List Key × V)} {s s' : List (D × D)}, KvT K F r s → KvT K F r' s' → KvT K F (r ++ r') (s ++ s')
  | _, _, _, _, .nil, q => q
  | _, _, _, _, .cons h p t, q => .cons h p (t.append q)
theorem map_K {y e : D} {k : Key} {v : V} (hk : keyOf y = some k) (hv : Rep K F v e) : ∀ {r : List (Key × V)} {s : List (D × D)}, KvK K F r s →
    KvK K F (r.map fun kv => if kv.1 = k then (kv.1, v) else kv) (s.map fun p => if eqD p.1 y = true then (p.1, e) else p)
  | _, _, .nil => .nil
  | _, _, .cons (k := k') h p t => by
    rw [List.map_cons, List.map_cons]
    have q := eq_keyOf h hk
    by_cases z : k' = k
    · rw [if_pos z, q, decide_eq_true z, if_pos rfl]
      exact .cons h hv (map_K hk hv t)
    · rw [if_neg z, q, decide_eq_false z, if_neg (by decide)]
      exact .cons h p (map_K hk hv t)
theorem map_T {l : List D} {e : D} {k : List Key} {v : V} (hk : keysOf l = some k) (hv : Rep K F v e) : ∀ {r : List (List Key × V)} {s : List (D × D)}, KvT K F r s →
    KvT K F (r.map fun kv => if kv.1 = k then (kv.1, v) else kv) (s.map fun p => if eqD p.1 (.tup l) = true then (p.1, e) else p)
  | _, _, .nil => .nil
  | _, _, .cons (ks := k') h p t => by
    rw [List.map_cons, List.map_cons]
    have q := eq_keysOf h hk
    by_cases z : k' = k
    · rw [if_pos z, eqD, q, decide_eq_true z, if_pos rfl]
      exact .cons h hv (map_T hk hv t)
    · rw [if_neg z, eqD, q, decide_eq_false z, if_neg (by decide)]
      exact .cons h p (map_T hk hv t)
theorem put_K {y e : D} {k : Key} {v : V} {r : List (Key × V)} {s : List (D × D)} (hk : keyOf y = some k) (hv : Rep K F v e) (t : KvK K F r s) : KvK K F (putK r k v) (dput s y e) := by
  unfold putK dput
  rw [any_K hk t]
  split
  · exact map_K hk hv t
  · exact t.append (.cons hk hv .nil)
theorem put_T {l : List D} {e : D} {k : List Key} {v : V} {r : List (List Key × V)} {s : List (D × D)} (hk : keysOf l = some k) (hv : Rep K F v e) (t : KvT K F r s) : KvT K F (putK r k v) (dput s (.tup l) e) := by
  unfold putK dput
  rw [any_T hk t]
  split
  · exact map_T hk hv t
  · exact t.append (.cons hk hv .nil)
theorem KvK.length : ∀ {r : List (Key × V)} {s : List (D × D)}, KvK K F r s → r.length = s.length
  | _, _, .nil => rfl
  | _, _, .cons _ _ t => by simp [t.length]
theorem KvT.length : ∀ {r : List (List Key × V)} {s : List (D × D)}, KvT K F r s → r.length = s.length
  | _, _, .nil => rfl
  | _, _, .cons _ _ t => by simp [t.length]
/-- the tuple of a key -/
theorem key_tup {l : List D} {ks : List Key} {v : V} (S : Sto K cls F R μ H) (hk : keysOf l = some ks) (r : Rep K F v (.tup l)) : ∃ b, v = .ref b ∧ H b = some (.tup (ks.map kV)) := by
  have un : ∀ {l : List D} {ks : List Key} {vs : List V}, keysOf l = some ks → Reps K F vs l → vs = ks.map kV := by
    intro l
    induction l with
    | nil => intro ks vs h r; simp [keysOf] at h; subst h; cases r; rfl
    | cons d t ih =>
      intro ks vs h r
      unfold keysOf at h
      split at h
      · rename_i k q e1 e2
        cases h
        cases r with
        | cons r1 r2 =>
          rw [ih e2 r2]
          cases d <;> simp [keyOf] at e1 <;> subst e1 <;> cases r1 <;> rfl
      · cases h
  cases r with
  | tup h1 h2 =>
    rw [un hk h2] at h1
    exact ⟨_, rfl, S.ext _ _ h1⟩
theorem key_flat {y : D} {k : Key} {v : V} (hk : keyOf y = some k) (r : Rep K F v y) : v = kV k := by
  cases y <;> simp [keyOf] at hk <;> subst hk <;> cases r <;> rfl
end

section
variable {X : Cx} {cls : String → Option Addr}
theorem ix_data (hu : X.A.units + 80 < cLine) : IxR X (lR2 X.K cls ixW) := by
  intro value slice pins s σ H x y v u Q I rx ry h hs
  obtain ⟨F, R, μ, d, e, k, S, r1, r2, w, p⟩ := h
  unfold ixW at w
  split at w
  · rename_i l i e1
    obtain ⟨a, vs, rfl, h1, h2, hz0⟩ := vw_lst S r1 e1
    cases r2
    split at w
    · rename_i z hz
      obtain ⟨t, ht, rt⟩ := at_rep h2 hz
      exact ix_list value slice pins s σ H _ _ v u Q I rx ry ⟨a, vs, i, t, rfl, rfl, SqL.of h1, ht, p.now w S rt⟩ hs
    · exact w.elim
  · rename_i l i e1
    obtain ⟨a, vs, rfl, h1, h2, rfl, _, hz0⟩ := vw_tup S r1 e1
    cases r2
    split at w
    · rename_i z hz
      obtain ⟨t, ht, rt⟩ := at_rep h2 hz
      exact ix_tup value slice pins s σ H _ _ v u Q I rx ry ⟨a, vs, i, t, rfl, rfl, SqT.of h1, ht, p.now w S rt⟩ hs
    · exact w.elim
  · rename_i ns i e1
    have e' := vw_flat e1 (fun a q => by cases q) (fun a q => by cases q)
    subst e'
    cases r2
    split at w
    · rename_i z hz
      cases r1 with
      | scr h1 =>
        refine ix_list value slice pins s σ H _ _ v u Q I rx ry ⟨_, ns.map V.int, i, .int z, rfl, rfl, S.ext.seq h1, ?_, p.now w S (.int _)⟩ hs
        unfold atI at hz ⊢
        rw [List.length_map]
        cases q : ixN ns.length i with
        | none => rw [q] at hz; cases hz
        | some j =>
          rw [q] at hz
          show (ns.map V.int)[j]? = some (V.int z)
          rw [List.getElem?_map, show ns[j]? = some z from hz]
          rfl
    · exact w.elim
  · rename_i a e1
    have e' := vw_ref e1
    subst e'
    split at w
    · rename_i kvs em
      obtain ⟨rr, h1, h2⟩ := S.at_ a _ em
      obtain ⟨⟨key, hk⟩, w⟩ := w
      cases r1
      cases rx
      split at w
      · rename_i z hz
        obtain ⟨t, ht, rt⟩ := (dget_K hk h2).1 _ hz
        have g : DGet H a y (some t) := by rw [key_flat hk r2, ← ht]; exact DGet.k h1
        exact tail_any (dict_typeIs I g) PySem.F.slot_dict_getitem.lookup (d_getItem (by omega) I g ry fun w' s' I' rw' => ⟨t, H, I', rw', p.now w S rt⟩) hs
      · exact w.elim
    · rename_i kvs em
      obtain ⟨rr, h1, h2⟩ := S.at_ a _ em
      obtain ⟨⟨l, ks, rfl, hk⟩, w⟩ := w
      cases r1
      cases rx
      split at w
      · rename_i z hz
        obtain ⟨t, ht, rt⟩ := (dget_T hk h2).1 _ hz
        obtain ⟨b, rfl, hb⟩ := key_tup S hk r2
        have g : DGet H a (.ref b) (some t) := by rw [← ht]; exact DGet.t h1 hb
        exact tail_any (dict_typeIs I g) PySem.F.slot_dict_getitem.lookup (d_getItem (by omega) I g ry fun w' s' I' rw' => ⟨t, H, I', rw', p.now w S rt⟩) hs
      · exact w.elim
    · exact w.elim
  · exact w.elim

/-- slices -/
def rSlc (K : PySem.W.Frag) (cls : String → Option Addr) (m : Bool) : V → Option Int → Option Int → Hp → VK → Prop := fun x lo hi H Q =>
  ∃ F R μ d k, Sto K cls F R μ H ∧ Rep K F x d ∧ slcW m d lo hi μ k ∧ PostK K cls R F k Q
theorem slc_data (m : Bool) : SlR X (rSlc X.K cls m) := by
  intro pins s σ H x v vl vu lo hi sl Q I rx hs pl pu h
  obtain ⟨F, R, μ, d, k, S, r1, w, p⟩ := h
  unfold slcW at w
  split at w
  · rename_i l e1
    obtain ⟨a, vs, rfl, h1, h2, hz0⟩ := vw_lst S r1 e1
    exact sl_list pins s σ H _ v vl vu lo hi sl Q I rx hs pl pu ⟨a, vs, rfl, SqL.of h1, new_list S (Nat.le_trans (cut_len _ _ _) hz0) (cut_rep lo hi h2) w p⟩
  · rename_i l e1
    obtain ⟨a, vs, rfl, h1, h2, rfl, h3, hz0⟩ := vw_tup S r1 e1
    refine sl_tupA pins s σ H _ v vl vu lo hi sl Q I rx hs pl pu ⟨a, vs, rfl, SqT.of h1, fun q => ?_, fun _ => new_tup S (Nat.le_trans (cut_len _ _ _) hz0) (cut_rep lo hi h2) w p⟩
    rw [h2.length] at q
    rw [cut_whole q] at w
    exact p.now w S (.tup h3 h2)
  · rename_i z e1
    have e' := vw_flat e1 (fun a q => by cases q) (fun a q => by cases q)
    subst e'
    cases r1
    exact sl_str pins s σ H _ v vl vu lo hi sl Q I rx hs pl pu ⟨z, rfl, w.1, p.now w.2 S (.str _)⟩
  · exact w.elim

/-- o[i] = v -/
def rSetD (K : PySem.W.Frag) (cls : String → Option Addr) : TSet := fun o i v H Q =>
  ∃ F R μ d e f k, Sto K cls F R μ H ∧ Rep K F o d ∧ Rep K F i e ∧ Rep K F v f ∧ setW d e f μ k ∧ ∀ μ', k μ' → ∀ H', Sto K cls F R μ' H' → Q H'
theorem set_data (hu : X.A.units + 80 < cLine) : PSet X (rSetD X.K cls) := by
  intro pins s σ H o i v ov iv u Q I ro ri rv h
  obtain ⟨F, R, μ, d, e, f, k, S, r1, r2, r3, w, p⟩ := h
  unfold setW at w
  split at w
  · cases r1
    split at w
    · rename_i l j em
      obtain ⟨vs, h1, h2⟩ := S.at_ _ _ em
      cases r2
      split at w
      · rename_i n hn
        refine set_list pins s σ H _ _ v ov iv u Q I ro ri rv ⟨_, vs, j, n, rfl, rfl, h1, by rw [h2.length]; exact hn, ?_⟩
        exact p _ w _ (S.put em ⟨_, upd_same, h2.set r3 n⟩ (by show (l.set n f).length ≤ sizeLine; rw [List.length_set]; exact S.bigM _ _ em))
      · exact w.elim
    · rename_i kvs em
      obtain ⟨rr, h1, h2⟩ := S.at_ _ _ em
      obtain ⟨hl, ⟨key, hk⟩, w⟩ := w
      cases ro
      cases key_flat hk r2
      exact d_setItem (by omega) I (DPut.k h1 (by rw [h2.length]; exact hl)) ri rv fun s' I' => ⟨_, I', p _ w _ (S.put em ⟨_, upd_same, put_K hk r3 h2⟩ True.intro)⟩
    · rename_i kvs em
      obtain ⟨rr, h1, h2⟩ := S.at_ _ _ em
      obtain ⟨hl, ⟨l, ks, rfl, hk⟩, w⟩ := w
      cases ro
      obtain ⟨b, rfl, hb⟩ := key_tup S hk r2
      exact d_setItem (by omega) I (DPut.t h1 hb (by rw [h2.length]; exact hl)) ri rv fun s' I' => ⟨_, I', p _ w _ (S.put em ⟨_, upd_same, put_T hk r3 h2⟩ True.intro)⟩
    · exact w.elim
  · exact w.elim
end
end SR

/-! what loops and comprehensions walk; targets -/
namespace SR
open PySem PySem.Spec PyProof.Rows L2 RZ

/-- an iterator gives these items while pin stands -/
structure Walks (K : PySem.W.Frag) (cls : String → Option Addr) (J : It) (F0 : Hp) (items : List D) (pin : Mu → Prop) : Prop where
  len : items.length ≤ sizeLine
  go : ∀ i F R μ H, Same F0 F → Sto K cls F R μ H → pin μ → i < items.length → J.go i H
  yld : ∀ i F R μ H x H' d, Same F0 F → Sto K cls F R μ H → pin μ → items[i]? = some d → J.yld i H x H' → ∃ F', Same F F' ∧ Sto K cls F' R μ H' ∧ Rep K F' x d
  stop : ∀ F R μ H, Same F0 F → Sto K cls F R μ H → pin μ → J.stop items.length H
section
variable {K : PySem.W.Frag} {cls : String → Option Addr} {F0 F H : Hp} {R : Rs} {μ : Mu}
theorem sqL_inj {a : Addr} {xs ys : List V} (h : H a = some (.lst xs)) (e : ∀ zs, SqL K H a zs → zs[0]? = zs[0]?) : True := True.intro
theorem walks_lst {a : Addr} {vs : List V} {l : List D} (h : F0 a = some (.lst vs)) (r : Reps K F0 vs l) (hz : l.length ≤ sizeLine) : Walks K cls (Itl K a) F0 l fun _ => True where
  len := hz
  go := fun i F R μ H e S _ hi => by
    obtain ⟨v, q, _⟩ := r.get (List.getElem?_eq_getElem hi)
    exact ⟨vs, v, SqL.of (S.ext _ _ (e _ _ h)), q⟩
  yld := fun i F R μ H x H' d e S _ hd y => by
    obtain ⟨rfl, y⟩ := y
    obtain ⟨v, q, rv⟩ := r.get hd
    have z := y vs (SqL.of (S.ext _ _ (e _ _ h)))
    rw [q] at z
    cases z
    exact ⟨F, Same.refl F, S, rv.mono e⟩
  stop := fun F R μ H e S _ => ⟨vs, SqL.of (S.ext _ _ (e _ _ h)), by rw [r.length]; exact Nat.le_refl _⟩
theorem walks_tup {a : Addr} {vs : List V} {l : List D} (h : F0 a = some (.tup vs)) (r : Reps K F0 vs l) (hz : l.length ≤ sizeLine) : Walks K cls (Itt K a) F0 l fun _ => True where
  len := hz
  go := fun i F R μ H e S _ hi => by
    obtain ⟨v, q, _⟩ := r.get (List.getElem?_eq_getElem hi)
    exact ⟨vs, v, SqT.of (S.ext _ _ (e _ _ h)), q⟩
  yld := fun i F R μ H x H' d e S _ hd y => by
    obtain ⟨rfl, y⟩ := y
    obtain ⟨v, q, rv⟩ := r.get hd
    have z := y vs (SqT.of (S.ext _ _ (e _ _ h)))
    rw [q] at z
    cases z
    exact ⟨F, Same.refl F, S, rv.mono e⟩
  stop := fun F R μ H e S _ => ⟨vs, SqT.of (S.ext _ _ (e _ _ h)), by rw [r.length]; exact Nat.le_refl _⟩
/-- a list that may change, while it does not -/
theorem walks_mut {a : Addr} {l : List D} (hz : l.length ≤ sizeLine) : Walks K cls (Itl K a) F0 l fun μ => μ a = some (.lst l) where
  len := hz
  go := fun i F R μ H e S p hi => by
    obtain ⟨vs, h1, h2⟩ := S.at_ a _ p
    obtain ⟨v, q, _⟩ := h2.get (List.getElem?_eq_getElem hi)
    exact ⟨vs, v, SqL.of h1, q⟩
  yld := fun i F R μ H x H' d e S p hd y => by
    obtain ⟨rfl, y⟩ := y
    obtain ⟨vs, h1, h2⟩ := S.at_ a _ p
    obtain ⟨v, q, rv⟩ := h2.get hd
    have z := y vs (SqL.of h1)
    rw [q] at z
    cases z
    exact ⟨F, Same.refl F, S, rv⟩
  stop := fun F R μ H e S p => by
    obtain ⟨vs, h1, h2⟩ := S.at_ a _ p
    exact ⟨vs, SqL.of h1, by rw [h2.length]; exact Nat.le_refl _⟩
theorem walks_rng (lo : Int) (n : Nat) (hz : n ≤ sizeLine) : Walks K cls (Itr lo n) F0 ((List.range n).map fun (i : Nat) => D.int (lo + (i : Int))) fun _ => True where
  len := by simpa using hz
  go := fun i F R μ H e S _ hi => by
    show i < n
    simpa using hi
  yld := fun i F R μ H x H' d e S _ hd y => by
    obtain ⟨rfl, rfl⟩ := y
    rw [List.getElem?_map] at hd
    cases q : (List.range n)[i]? with
    | none => rw [q] at hd; cases hd
    | some j =>
      rw [q] at hd
      cases hd
      have : j = i := by
        have := List.getElem?_eq_some_iff.mp q
        obtain ⟨h1, h2⟩ := this
        rw [List.getElem_range] at h2
        exact h2.symm
      subst this
      exact ⟨F, Same.refl F, S, .int _⟩
  stop := fun F R μ H e S _ => by
    show n ≤ ((List.range n).map fun (i : Nat) => D.int (lo + (i : Int))).length
    simp
theorem walks_enum {a : Addr} {vs : List V} {l : List D} (h : F0 a = some (.lst vs)) (r : Reps K F0 vs l) (hz : l.length ≤ sizeLine) : Walks K cls (Ite K a) F0 (l.zipIdx.map fun p => .tup [.int (p.2 : Int), p.1]) fun _ => True where
  len := by simpa using hz
  go := fun i F R μ H e S _ hi => by
    have hi' : i < l.length := by simpa using hi
    obtain ⟨v, q, _⟩ := r.get (List.getElem?_eq_getElem hi')
    exact ⟨vs, v, SqL.of (S.ext _ _ (e _ _ h)), q⟩
  yld := fun i F R μ H x H' d e S _ hd y => by
    obtain ⟨T, z, ex, hT, rfl, y⟩ := y
    subst ex
    rw [List.getElem?_map, List.getElem?_zipIdx] at hd
    cases q : l[i]? with
    | none => rw [q] at hd; cases hd
    | some d' =>
      rw [q] at hd
      cases hd
      obtain ⟨v, qv, rv⟩ := r.get q
      have zz := y vs (SqL.of (S.ext _ _ (e _ _ h)))
      have ez : v = z := Option.some.inj (qv.symm.trans zz)
      subst ez
      obtain ⟨e', S'⟩ := S.newF (o := .tup [.int (i : Nat), v]) hT (by show 2 ≤ sizeLine; decide)
      refine ⟨_, e', S', .tup upd_same (.cons ?_ (.cons (rv.mono (e.trans e')) .nil))⟩
      rw [Nat.zero_add]
      exact .int _
  stop := fun F R μ H e S _ => ⟨vs, SqL.of (S.ext _ _ (e _ _ h)), by rw [r.length]; simp⟩
theorem walks_zip {a b : Addr} {vs us : List V} {l m : List D} (h : F0 a = some (.lst vs)) (r : Reps K F0 vs l) (h' : F0 b = some (.lst us)) (r' : Reps K F0 us m) (hz : l.length ≤ sizeLine) :
    Walks K cls (Itz K a b) F0 ((l.zip m).map fun p => .tup [p.1, p.2]) fun _ => True where
  len := by rw [List.length_map, List.length_zip]; omega
  go := fun i F R μ H e S _ hi => by
    have hi' : i < l.length ∧ i < m.length := by simp at hi; omega
    obtain ⟨v, q, _⟩ := r.get (List.getElem?_eq_getElem hi'.1)
    obtain ⟨v', q', _⟩ := r'.get (List.getElem?_eq_getElem hi'.2)
    exact ⟨vs, us, v, v', SqL.of (S.ext _ _ (e _ _ h)), SqL.of (S.ext _ _ (e _ _ h')), q, q'⟩
  yld := fun i F R μ H x H' d e S _ hd y => by
    obtain ⟨T, z, z', rfl, hT, rfl, y, y'⟩ := y
    rw [List.getElem?_map] at hd
    cases q : (l.zip m)[i]? with
    | none => rw [q] at hd; cases hd
    | some d' =>
      rw [q] at hd
      cases hd
      obtain ⟨q1, q2⟩ := List.getElem?_zip_eq_some.mp q
      obtain ⟨v, qv, rv⟩ := r.get q1
      obtain ⟨v', qv', rv'⟩ := r'.get q2
      have zz : v = z := Option.some.inj (qv.symm.trans (y vs (SqL.of (S.ext _ _ (e _ _ h)))))
      have zz' : v' = z' := Option.some.inj (qv'.symm.trans (y' us (SqL.of (S.ext _ _ (e _ _ h')))))
      subst zz zz'
      obtain ⟨e', S'⟩ := S.newF (o := .tup [v, v']) hT (by show 2 ≤ sizeLine; decide)
      exact ⟨_, e', S', .tup upd_same (.cons (rv.mono (e.trans e')) (.cons (rv'.mono (e.trans e')) .nil))⟩
  stop := fun F R μ H e S _ => ⟨vs, us, SqL.of (S.ext _ _ (e _ _ h)), SqL.of (S.ext _ _ (e _ _ h')), by rw [r.length, r'.length]; simp; omega⟩
theorem walks_zipT {a b : Addr} {vs us : List V} {l m : List D} (h : F0 a = some (.tup vs)) (r : Reps K F0 vs l) (h' : F0 b = some (.tup us)) (r' : Reps K F0 us m) (hz : l.length ≤ sizeLine) :
    Walks K cls (ItzT K a b) F0 ((l.zip m).map fun p => .tup [p.1, p.2]) fun _ => True where
  len := by rw [List.length_map, List.length_zip]; omega
  go := fun i F R μ H e S _ hi => by
    have hi' : i < l.length ∧ i < m.length := by simp at hi; omega
    obtain ⟨v, q, _⟩ := r.get (List.getElem?_eq_getElem hi'.1)
    obtain ⟨v', q', _⟩ := r'.get (List.getElem?_eq_getElem hi'.2)
    exact ⟨vs, us, v, v', SqT.of (S.ext _ _ (e _ _ h)), SqT.of (S.ext _ _ (e _ _ h')), q, q'⟩
  yld := fun i F R μ H x H' d e S _ hd y => by
    obtain ⟨T, z, z', rfl, hT, rfl, y, y'⟩ := y
    rw [List.getElem?_map] at hd
    cases q : (l.zip m)[i]? with
    | none => rw [q] at hd; cases hd
    | some d' =>
      rw [q] at hd
      cases hd
      obtain ⟨q1, q2⟩ := List.getElem?_zip_eq_some.mp q
      obtain ⟨v, qv, rv⟩ := r.get q1
      obtain ⟨v', qv', rv'⟩ := r'.get q2
      have zz : v = z := Option.some.inj (qv.symm.trans (y vs (SqT.of (S.ext _ _ (e _ _ h)))))
      have zz' : v' = z' := Option.some.inj (qv'.symm.trans (y' us (SqT.of (S.ext _ _ (e _ _ h')))))
      subst zz zz'
      obtain ⟨e', S'⟩ := S.newF (o := .tup [v, v']) hT (by show 2 ≤ sizeLine; decide)
      exact ⟨_, e', S', .tup upd_same (.cons (rv.mono (e.trans e')) (.cons (rv'.mono (e.trans e')) .nil))⟩
  stop := fun F R μ H e S _ => ⟨vs, us, SqT.of (S.ext _ _ (e _ _ h)), SqT.of (S.ext _ _ (e _ _ h')), by rw [r.length, r'.length]; simp; omega⟩
end

/-- a walk's reading behind the source's items -/
def rWk (K : PySem.W.Frag) (cls : String → Option Addr) (w : Wk) (vs : List V) (H : Hp) (T : It → Hp → Prop) : Prop :=
  ∃ F R μ ds k, Sto K cls F R μ H ∧ Reps K F vs ds ∧ walkW w ds μ k ∧ ∀ items pin, k items pin → ∀ F1 H1 J, Same F F1 → Sto K cls F1 R μ H1 → Walks K cls J F1 items pin → pin μ → T J H1
def iWk (K : PySem.W.Frag) (cls : String → Option Addr) (w : Wk) (ta : TA) : TI := fun σ H R => ta σ H fun vs H1 => rWk K cls w vs H1 R

section
variable {X : Cx} {cls : String → Option Addr} {tg : Expr}
/-- one list or tuple -/
theorem pi_seq {e : Expr} {te : TE} {ta : TA} (he : PE X e te) (hta : ∀ σ H Q, ta σ H Q → te σ H fun v H1 => Q [v] H1) : PI X tg e (iWk X.K cls .seq ta) := by
  refine ⟨fun pins s σ H R I h => ?_⟩
  refine thn (he.run pins s σ H _ I (hta σ H _ h)) fun v s1 ⟨x, H1, I1, r1, F, R', μ, ds, k, S, rs, w, q⟩ => ?_
  have fp : ∀ {o : Obj} b, b ∈ [s1.heap.objs.size] → FpOk X pins H1 b := fun {o} b hb => by
    have e1 : b = s1.heap.objs.size := by simpa using hb
    rw [e1]
    exact I1.fpOk (Nat.le_refl _) (I1.hok.fresh (Nat.le_refl _))
  have asL : ∀ {a : Addr} {vs : List V}, x = .ref a → H1 a = some (.lst vs) → R (Itl X.K a) H1 → wpAny (model X.prog X.w) X.A (pyIter v) (PIE X pins σ tg R) X.xe s1 := fun {a vs} ex ha hR => by
    subst ex
    cases r1
    obtain ⟨its, rv, p, hz⟩ := I1.list (SqL.of (K := X.K) ha)
    refine wpAny_pyIter_list p.isList ⟨s1.heap.objs.size, [s1.heap.objs.size], _, _, H1, rfl, I1.kept (t' := s1.toks) fun b o e => Heap.get?_push_of_some _ e, turn_list a _, ⟨_, Heap.get?_push_size _ rfl, rfl, rfl⟩, fun b hb => fp (o := default) b hb, hR⟩
  have asT : ∀ {a : Addr} {vs : List V}, x = .ref a → H1 a = some (.tup vs) → R (Itt X.K a) H1 → wpAny (model X.prog X.w) X.A (pyIter v) (PIE X pins σ tg R) X.xe s1 := fun {a vs} ex ha hR => by
    subst ex
    cases r1
    obtain ⟨its, rv, p, hz⟩ := I1.tuple (SqT.of (K := X.K) ha)
    refine wpAny_pyIter_tuple (show s1.heap.IsTuple a its.toArray from p) ⟨s1.heap.objs.size, [s1.heap.objs.size], _, _, H1, rfl, I1.kept (t' := s1.toks) fun b o e => Heap.get?_push_of_some _ e, turn_tuple a _, ⟨_, Heap.get?_push_size _ rfl, rfl, rfl⟩, fun b hb => fp (o := default) b hb, hR⟩
  unfold walkW at w
  cases ds with
  | nil => exact w.elim
  | cons d t =>
    cases t with
    | cons _ _ => cases d <;> exact w.elim
    | nil =>
      cases rs with
      | cons rd rn =>
        cases rn
        cases rd with
        | lst h1 h2 => exact asL rfl (S.ext _ _ h1) (q _ _ w F H1 _ (Same.refl F) S (walks_lst h1 h2 (by rw [← h2.length]; exact S.big _ _ h1)) True.intro)
        | tup h1 h2 => exact asT rfl (S.ext _ _ h1) (q _ _ w F H1 _ (Same.refl F) S (walks_tup h1 h2 (by rw [← h2.length]; exact S.big _ _ h1)) True.intro)
        | ref a =>
          simp only at w
          split at w
          · rename_i l em
            obtain ⟨vs, h1, h2⟩ := S.at_ a _ em
            exact asL rfl h1 (q _ _ w F H1 _ (Same.refl F) S (walks_mut (S.bigM _ _ em)) em)
          · exact w.elim
        | _ => exact w.elim
theorem PI.imp {e : Expr} {t t' : TI} (h : PI X tg e t) (f : ∀ σ H R, t' σ H R → t σ H R) : PI X tg e t' := ⟨fun pins s σ H R I q => h.run pins s σ H R I (f σ H R q)⟩
/-- an argument list's reading is monotone -/
def MonoA (ta : TA) : Prop := ∀ σ H (Q Q' : List V → Hp → Prop), (∀ vs H, Q vs H → Q' vs H) → ta σ H Q → ta σ H Q'
theorem pi_rng1 {a : Expr} {ta : TA} {p pos : Pos} (mo : MonoA ta) (hg : Gl X "range") (hm : X.mg "range" = none) (ha : PA X [a] ta) (hs : starEach [a] X.env = [(false, eval a X.env)]) : PI X tg (.Call (.Name "range" p) [a] [] pos) (iWk X.K cls .rng1 ta) := by
  refine PI.imp (pi_range1 hg hm ha hs) fun σ H R h => mo _ _ _ _ (fun vs H1 z => ?_) h
  obtain ⟨F, R', μ, ds, k, S, rs, w, q⟩ := z
  unfold walkW at w
  cases ds with
  | nil => exact w.elim
  | cons d t =>
    cases t with
    | cons _ _ => cases d <;> exact w.elim
    | nil =>
      cases rs with
      | cons rd rn =>
        cases rn
        cases rd with
        | int n =>
          refine ⟨n, rfl, w.1.1, w.1.2.1, q _ _ w.2 F H1 _ (Same.refl F) S ?_ True.intro⟩
          have e : (fun (i : Nat) => D.int (0 + (i : Int))) = fun (i : Nat) => D.int (i : Int) := by funext i; rw [Int.zero_add]
          have z := walks_rng (K := X.K) (cls := cls) (F0 := F) 0 n.toNat w.1.2.2
          rw [e] at z
          exact z
        | _ => exact w.elim
theorem walk_rng2 {ds : List D} {μ : Mu} {k : List D → (Mu → Prop) → Prop} (w : walkW .rng2 ds μ k) : ∃ a b, ds = [.int a, .int b] ∧ (-(2 ^ 62) ≤ a ∧ a < 2 ^ 62 ∧ -(2 ^ 62) ≤ b ∧ b < 2 ^ 62 ∧ (b - a).toNat ≤ sizeLine) ∧ k ((List.range (b - a).toNat).map fun (i : Nat) => D.int (a + (i : Int))) fun _ => True := by
  cases ds with
  | nil => exact w.elim
  | cons d t =>
    cases t with
    | nil => cases d <;> exact w.elim
    | cons e u =>
      cases u with
      | cons _ _ => cases d <;> cases e <;> exact w.elim
      | nil =>
        cases d with
        | int a =>
          cases e with
          | int b => exact ⟨a, b, rfl, w.1, w.2⟩
          | _ => exact w.elim
        | _ => cases e <;> exact w.elim
theorem walk_enum {ds : List D} {μ : Mu} {k : List D → (Mu → Prop) → Prop} (w : walkW .enum ds μ k) : ∃ l, ds = [.lst l] ∧ k (l.zipIdx.map fun p => .tup [.int (p.2 : Int), p.1]) fun _ => True := by
  cases ds with
  | nil => exact w.elim
  | cons d t =>
    cases t with
    | cons _ _ => cases d <;> exact w.elim
    | nil =>
      cases d with
      | lst l => exact ⟨l, rfl, w⟩
      | _ => exact w.elim
theorem walk_zip {ds : List D} {μ : Mu} {k : List D → (Mu → Prop) → Prop} (w : walkW .zip2 ds μ k) : ∃ l m, (ds = [.lst l, .lst m] ∨ ds = [.tup l, .tup m]) ∧ k ((l.zip m).map fun p => .tup [p.1, p.2]) fun _ => True := by
  cases ds with
  | nil => exact w.elim
  | cons d t =>
    cases t with
    | nil => cases d <;> exact w.elim
    | cons e u =>
      cases u with
      | cons _ _ => cases d <;> cases e <;> exact w.elim
      | nil =>
        cases d with
        | lst l =>
          cases e with
          | lst m => exact ⟨l, m, .inl rfl, w⟩
          | _ => exact w.elim
        | tup l =>
          cases e with
          | tup m => exact ⟨l, m, .inr rfl, w⟩
          | _ => exact w.elim
        | _ => cases e <;> exact w.elim
theorem pi_rng2 {a b : Expr} {ta : TA} {p pos : Pos} (mo : MonoA ta) (hg : Gl X "range") (hm : X.mg "range" = none) (ha : PA X [a, b] ta) (hs : starEach [a, b] X.env = [(false, eval a X.env), (false, eval b X.env)]) (hs2 : starEach [b] X.env = [(false, eval b X.env)]) :
    PI X tg (.Call (.Name "range" p) [a, b] [] pos) (iWk X.K cls .rng2 ta) := by
  refine PI.imp (pi_range2 hg hm ha hs hs2) fun σ H R h => mo _ _ _ _ (fun vs H1 z => ?_) h
  obtain ⟨F, R', μ, ds, k, S, rs, w, q⟩ := z
  obtain ⟨a, b, rfl, hb, w⟩ := walk_rng2 w
  obtain ⟨v, u, rfl, r1, r2⟩ := reps2 rs
  cases r1; cases r2
  exact ⟨_, _, rfl, ⟨hb.1, hb.2.1, hb.2.2.1, hb.2.2.2.1⟩, q _ _ w F H1 _ (Same.refl F) S (walks_rng _ _ hb.2.2.2.2) True.intro⟩
theorem pi_enumD {a : Expr} {ta : TA} {p pos tpos : Pos} {elts : List Expr} {kk : Nat} (mo : MonoA ta) (hg : Gl X "enumerate") (hm : X.mg "enumerate" = none) (ha : PA X [a] ta) (hs : starEach [a] X.env = [(false, eval a X.env)]) :
    PI X (.Tuple elts kk tpos) (.Call (.Name "enumerate" p) [a] [] pos) (iWk X.K cls .enum ta) := by
  refine PI.imp (pi_enum hg hm ha hs) fun σ H R h => mo _ _ _ _ (fun vs H1 z => ?_) h
  obtain ⟨F, R', μ, ds, k, S, rs, w, q⟩ := z
  obtain ⟨l, rfl, w⟩ := walk_enum w
  obtain ⟨v, rfl, r1⟩ := reps1 rs
  cases r1 with
  | lst h1 h2 => exact ⟨_, _, rfl, SqL.of (S.ext _ _ h1), q _ _ w F H1 _ (Same.refl F) S (walks_enum h1 h2 (by rw [← h2.length]; exact S.big _ _ h1)) True.intro⟩
theorem pi_zipD {a b : Expr} {ta : TA} {p pos tpos : Pos} {elts : List Expr} {kk : Nat} (mo : MonoA ta) (hg : Gl X "zip") (hm : X.mg "zip" = none) (ha : PA X [a, b] ta) (hs : starEach [a, b] X.env = (false, eval a X.env) :: starEach [b] X.env) (hpl : (backTo pos (starEach [b] X.env)).any (·.1) = false) :
    PI X (.Tuple elts kk tpos) (.Call (.Name "zip" p) [a, b] [] pos) (iWk X.K cls .zip2 ta) := by
  refine PI.imp (pi_zipA hg hm ha hs hpl) fun σ H R h => mo _ _ _ _ (fun vs H1 z => ?_) h
  obtain ⟨F, R', μ, ds, k, S, rs, w, q⟩ := z
  obtain ⟨l, m, e | e, w⟩ := walk_zip w
  · subst e
    obtain ⟨v, u, rfl, r1, r2⟩ := reps2 rs
    cases r1 with
    | lst h1 h2 =>
      cases r2 with
      | lst h3 h4 => exact ⟨_, _, _, _, rfl, .inl ⟨SqL.of (S.ext _ _ h1), SqL.of (S.ext _ _ h3), q _ _ w F H1 _ (Same.refl F) S (walks_zip h1 h2 h3 h4 (by rw [← h2.length]; exact S.big _ _ h1)) True.intro⟩⟩
  · subst e
    obtain ⟨v, u, rfl, r1, r2⟩ := reps2 rs
    cases r1 with
    | tup h1 h2 =>
      cases r2 with
      | tup h3 h4 => exact ⟨_, _, _, _, rfl, .inr ⟨SqT.of (S.ext _ _ h1), SqT.of (S.ext _ _ h3), q _ _ w F H1 _ (Same.refl F) S (walks_zipT h1 h2 h3 h4 (by rw [← h2.length]; exact S.big _ _ h1)) True.intro⟩⟩
end
end SR

/-! sets of tuples, nested as deep as one likes: set(xs), sorted of it -/
namespace SR
open PySem PySem.Spec PyProof.Rows L2

mutual
/-- a key without texts -/
def numK : NestedKey → Bool
  | .text _ => false
  | .tup ks => numKs ks
  | _ => true
def numKs : List NestedKey → Bool
  | [] => true
  | k :: ks => numK k && numKs ks
end
/-- the tuple at a is the key k -/
def KeyAt (h : Heap) (k : NestedKey) (a : Addr) : Prop := NestedIs h k (.ref a) ∧ k.depth ≤ 8 ∧ numK k = true
theorem KeyAt.tup {h : Heap} {k : NestedKey} {a : Addr} (x : KeyAt h k a) : ∃ o vs n, h.get? a = some o ∧ o.cls = .type "tuple" ∧ o.data = .seq vs n := by
  obtain ⟨x, _⟩ := x
  cases x with
  | tup h1 h2 h3 h4 => exact ⟨_, _, _, h1, h2, h3⟩
section
variable {P : Program} {w : World} {A : Around} {E : Value → Shared → Prop} {s : Shared}
/-- v, n levels down, is found to hang on its value alone -/
def ByVal (P : Program) (w : World) (n : Nat) (s : Shared) (v : Value) : Prop := ∀ (A : Around) (E : Value → Shared → Prop) (Q : Bool → Shared → Prop), Q true s → wpAny (model P w) A (hashByValue n v) Q E s
/-- .. to be of no class statement -/
def NoCls (P : Program) (w : World) (n : Nat) (s : Shared) (v : Value) : Prop := ∀ (A : Around) (E : Value → Shared → Prop) (Q : Bool → Shared → Prop), Q false s → wpAny (model P w) A (ofAClassStatement n v) Q E s
mutual
theorem byVal_key : ∀ (k : NestedKey) (v : Value) (n : Nat), NestedIs s.heap k v → k.depth ≤ n → numK k = true → ByVal P w n s v
  | .none, _, n, x, _, _ => by
    cases x
    intro A E Q q
    cases n <;> exact wpAny_pure q
  | .num i, _, n, x, _, _ => by
    intro A E Q q
    cases x <;> cases n <;> exact wpAny_pure q
  | .text y, _, _, _, _, h => nomatch h
  | .tup ks, _, n, x, hn, hk => by
    cases x with
    | @tup a o vs m _ g1 g2 g3 g4 =>
      simp only [NestedKey.depth] at hn
      obtain ⟨n, rfl⟩ : ∃ m, n = m + 1 := ⟨n - 1, by omega⟩
      have all := byVal_keys ks vs.toList n g4 (by omega) (by simpa [numK] using hk)
      intro A E Q q
      unfold hashByValue
      refine wpAny_bind (wpAny_specialOf ⟨o, g1, g2⟩ F.slot_tuple_hash.lookup (wpAny_bind (wpAny_seqItems g1 g3 (wpAny_bind ?_))))
      show wpAny _ _ (forIn vs _ _) _ _ s
      rw [← Array.forIn_toList]
      refine wpAny_forIn_list _ (fun rest r s' => s' = s ∧ r.1 = none ∧ ∀ u ∈ rest, ByVal P w n s u) _ (fun u rest r s' I => ?_) (fun r s' I => ?_) _ _ ⟨rfl, rfl, all⟩
      · obtain ⟨rfl, e2, e3⟩ := I
        refine wpAny_bind (e3 u List.mem_cons_self _ _ _ ?_)
        rw [if_neg (by decide)]
        exact wpAny_pure ⟨rfl, rfl, fun z hz => e3 z (List.mem_cons_of_mem _ hz)⟩
      · obtain ⟨r1, r2⟩ := r
        obtain ⟨rfl, e2, _⟩ := I
        cases e2
        exact wpAny_pure q
theorem byVal_keys : ∀ (ks : List NestedKey) (vs : List Value) (n : Nat), NestedAll s.heap ks vs → NestedKey.depthAll ks ≤ n → numKs ks = true → ∀ v ∈ vs, ByVal P w n s v
  | [], _, _, x, _, _, v, hv => by cases x; cases hv
  | k :: ks, _, n, x, hn, hk, v, hv => by
    cases x with
    | cons x1 x2 =>
      simp only [NestedKey.depthAll] at hn
      have hk' : numK k = true ∧ numKs ks = true := by simpa [numKs] using hk
      rcases List.mem_cons.mp hv with e | hv
      · rw [e]; exact byVal_key k _ n x1 (by omega) hk'.1
      · exact byVal_keys ks _ n x2 (by omega) hk'.2 v hv
end
mutual
theorem noCls_key : ∀ (k : NestedKey) (v : Value) (n : Nat), NestedIs s.heap k v → k.depth ≤ n → NoCls P w n s v
  | .none, _, n, x, _ => by
    cases x
    intro A E Q q
    cases n <;> exact wpAny_pure q
  | .num i, _, n, x, _ => by
    intro A E Q q
    cases x <;> cases n <;> exact wpAny_pure q
  | .text y, _, n, x, _ => by
    intro A E Q q
    cases x <;> cases n <;> exact wpAny_pure q
  | .tup ks, _, n, x, hn => by
    cases x with
    | @tup a o vs m _ g1 g2 g3 g4 =>
      simp only [NestedKey.depth] at hn
      obtain ⟨n, rfl⟩ : ∃ m, n = m + 1 := ⟨n - 1, by omega⟩
      have all := noCls_keys ks vs.toList n g4 (by omega)
      intro A E Q q
      unfold ofAClassStatement
      refine wpAny_bind (wpAny_typeOf ⟨o, g1, g2⟩ ?_)
      have et : (("tuple" : String) == "tuple") = true := by decide
      dsimp only
      simp only [et, if_true, Bool.not_true, Bool.false_eq_true, if_false]
      refine wpAny_bind (wpAny_pure ?_)
      try simp only [Bool.not_true, Bool.false_eq_true, if_false]
      show wpAny _ _ (seqItems? (.ref a) >>= _) _ _ s
      refine wpAny_bind (wpAny_seqItems g1 g3 (wpAny_bind ?_))
      show wpAny _ _ (forIn vs _ _) _ _ s
      rw [← Array.forIn_toList]
      refine wpAny_forIn_list _ (fun rest r s' => s' = s ∧ r.1 = none ∧ ∀ u ∈ rest, NoCls P w n s u) _ (fun u rest r s' I => ?_) (fun r s' I => ?_) _ _ ⟨rfl, rfl, all⟩
      · obtain ⟨rfl, e2, e3⟩ := I
        refine wpAny_bind (e3 u List.mem_cons_self _ _ _ ?_)
        rw [if_neg (by decide)]
        exact wpAny_pure ⟨rfl, rfl, fun z hz => e3 z (List.mem_cons_of_mem _ hz)⟩
      · obtain ⟨r1, r2⟩ := r
        obtain ⟨rfl, e2, _⟩ := I
        cases e2
        exact wpAny_pure q
theorem noCls_keys : ∀ (ks : List NestedKey) (vs : List Value) (n : Nat), NestedAll s.heap ks vs → NestedKey.depthAll ks ≤ n → ∀ v ∈ vs, NoCls P w n s v
  | [], _, _, x, _, v, hv => by cases x; cases hv
  | k :: ks, _, n, x, hn, v, hv => by
    cases x with
    | cons x1 x2 =>
      simp only [NestedKey.depthAll] at hn
      rcases List.mem_cons.mp hv with e | hv
      · rw [e]; exact noCls_key k _ n x1 (by omega)
      · exact noCls_keys ks _ n x2 (by omega) v hv
end
/-- a search among such keys shows nothing -/
theorem unseen_key {k : NestedKey} {b : Addr} (hk : KeyAt s.heap k b) {ys : List Value} (hy : ∀ y ∈ ys, ∃ k' c, y = Value.ref c ∧ KeyAt s.heap k' c) {Q : Bool → Shared → Prop} (h : Q false s) : wpAny (model P w) A (searchCouldBeSeen (.ref b) ys) Q E s := by
  unfold searchCouldBeSeen
  refine wpAny_bind (wpAny_forIn_list _ (fun rest r s' => s' = s ∧ r.1 = none ∧ ∀ y ∈ rest, ∃ k' c, y = Value.ref c ∧ KeyAt s.heap k' c) _ (fun u rest r s' I => ?_) (fun r s' I => ?_) _ _ ⟨rfl, rfl, hy⟩)
  · obtain ⟨rfl, e2, e3⟩ := I
    obtain ⟨k', c, rfl, hc⟩ := e3 u List.mem_cons_self
    have e4 : ∀ y ∈ rest, ∃ k' c, y = Value.ref c ∧ KeyAt s'.heap k' c := fun z hz => e3 z (List.mem_cons_of_mem _ hz)
    dsimp only
    by_cases very : (b == c || (carriedByValue (.ref b) && carriedByValue (.ref c))) = true
    · exact wp_if_pos very (wpAny_pure ⟨rfl, rfl, e4⟩)
    · refine wp_if_neg very (wpAny_bind (quiet_key k _ 8 s' hk.1 hk.2.1 _ _ _ ?_))
      rw [if_neg (by decide)]
      refine wpAny_bind (quiet_key k' _ 8 s' hc.1 hc.2.1 _ _ _ ?_)
      rw [if_neg (by decide)]
      refine wpAny_bind (noCls_key k _ 8 hk.1 hk.2.1 _ _ _ ?_)
      rw [if_neg (by decide)]
      refine wpAny_bind (noCls_key k' _ 8 hc.1 hc.2.1 _ _ _ ?_)
      rw [if_neg (by decide)]
      exact wpAny_pure ⟨rfl, rfl, e4⟩
  · obtain ⟨r1, r2⟩ := r
    obtain ⟨rfl, e2, _⟩ := I
    cases e2
    exact wpAny_pure h

/-! ### the set -/
abbrev Els := List (Addr × NestedKey)
def hk (w : World) (k : NestedKey) : Int := k.hash w
def elRows (w : World) (L : Els) : List (Int × Value) := L.map fun p => (hk w p.2, Value.ref p.1)
/-- what needs no tuple -/
structure SetN0 (w : World) (h : Heap) (a : Addr) (L : Els) (es : Array (Int × Value)) (ep : Nat) (t : SetTable) : Prop where
  ob : ∃ o, h.get? a = some o ∧ o.ExactSet ∧ o.data = .set es ep t
  rows : es.toList = elRows w L
  tab : TabOk t (L.map fun p => hk w p.2)
  nd : (L.map (·.2)).Nodup
  plain : t.plain = true
  led : w.params.followText "set-order" = true ∨ t.led = true
  room : L.length * 5 < t.mask * 3
  few : L.length < 64
structure SetN (w : World) (h : Heap) (a : Addr) (L : Els) (es : Array (Int × Value)) (ep : Nat) (t : SetTable) : Prop extends SetN0 w h a L es ep t where
  els : ∀ p ∈ L, KeyAt h p.2 p.1
variable {a : Addr} {L : Els} {es : Array (Int × Value)} {ep : Nat} {t : SetTable}
theorem elRows_len {L : Els} : (elRows w L).length = L.length := List.length_map ..
theorem SetN0.size {h : Heap} (R : SetN0 w h a L es ep t) : es.size = L.length := by rw [← Array.length_toList, R.rows, elRows_len]
theorem SetN0.placed {h : Heap} (R : SetN0 w h a L es ep t) : t.place.size = L.length := by rw [R.tab.sz, List.length_map]
theorem SetN0.fits {h : Heap} (R : SetN0 w h a L es ep t) : t.fits es.size = true := by
  have h1 := R.placed
  have h2 := R.room
  unfold SetTable.fits SetTable.fill
  rw [R.tab.dm, R.size, Bool.and_eq_true, beq_iff_eq, decide_eq_true_eq]
  exact ⟨h1, by show t.place.size + 0 ≤ t.mask; omega⟩
theorem SetN0.nth {h : Heap} (R : SetN0 w h a L es ep t) {i : Nat} {p : Addr × NestedKey} (e : L[i]? = some p) : es[i]? = some (hk w p.2, Value.ref p.1) := by
  have q : es.toList[i]? = some (hk w p.2, Value.ref p.1) := by
    rw [R.rows]
    unfold elRows
    rw [List.getElem?_map, e]
    rfl
  rwa [Array.getElem?_toList] at q
theorem SetN0.noWay {h : Heap} (R : SetN0 w h a L es ep t) : ¬ t.gaveWay = true := by
  unfold SetTable.gaveWay
  rw [mask_odd R.tab.mok]
  decide
/-- the i-th has its place on its own way -/
theorem SetN0.live {h : Heap} (R : SetN0 w h a L es ep t) {i : Nat} (hi : i < L.length) : ∃ j, t.place.toList[i]? = some j := by
  have e : i < t.place.toList.length := by rw [Array.length_toList, R.placed]; exact hi
  exact ⟨_, List.getElem?_eq_getElem e⟩
/-- the probe at the c-th step of a way -/
abbrev stepAt (m : Nat) (h : Int) (c : Nat) : SetTable.Probe := L2.nth m (runAt m (SetTable.bits h % (m + 1)) (SetTable.bits h)) c
theorem stepAt_add (m : Nat) (h : Int) (c q : Nat) : L2.nth m (stepAt m h c) q = stepAt m h (c + q) := (nth_add m c _ q).symm
theorem stepAt_clean (m : Nat) (h : Int) (c : Nat) : (stepAt m h c).dummy = none := by
  suffices q : ∀ (n : Nat) (p : SetTable.Probe), p.dummy = none → (L2.nth m p n).dummy = none from q c _ rfl
  intro n
  induction n with
  | zero => exact fun p e => e
  | succ n ih =>
    intro p e
    refine ih (adv m p) ?_
    unfold adv
    split
    · exact e
    · exact e
/-- the search, from a step of the way on: what is sought is not behind -/
theorem seek (R : SetN w s.heap a L es ep t) {x : Addr} {k : NestedKey} (hx : KeyAt s.heap k x) (hu : A.units + 8 < cLine) {K : Nat} (hKf : K < 10 * SetTable.turns t.mask) (hK : way t.mask (hk w k) K ∉ t.place.toList)
    (hKb : ∀ c, c < K → way t.mask (hk w k) c ∈ t.place.toList) {Q : SetFound → Shared → Prop} (yes : k ∈ L.map (·.2) → Q (.there none) s) (no : k ∉ L.map (·.2) → Q (.free (way t.mask (hk w k) K) false) s) :
    ∀ (f c : Nat) (stand : Option SetTable.Probe), stand.getD (t.probeStart (hk w k)) = stepAt t.mask (hk w k) c → c ≤ K → K < f + c →
      (∀ (i : Nat) p, L[i]? = some p → p.2 = k → ∃ d, c ≤ d ∧ d < K ∧ t.place.toList[i]? = some (way t.mask (hk w k) d)) → wpAny (model P w) A (setSearchFrom a (.ref x) (hk w k) true f stand) Q E s := by
  obtain ⟨o, ho, hex, hd⟩ := R.ob
  intro f
  induction f with
  | zero => exact fun c stand _ h1 h2 _ => by omega
  | succ f ih =>
    intro c stand hst hc hf ahead
    rw [setSearchFrom_succ]
    refine wpAny_bind (wpAny_setState_of ho hd R.fits ?_)
    dsimp only
    refine wp_if_neg R.noWay ?_
    try refine wpAny_bind (wpAny_pure ?_)
    have hash_of : ∀ (i : Nat) p, L[i]? = some p → (es[i]?.map (·.1)).getD 0 = hk w p.2 := fun i p e => by rw [R.nth e]; rfl
    have wj : ∀ q, (L2.nth t.mask (stepAt t.mask (hk w k) c) q).j = way t.mask (hk w k) (c + q) := fun q => congrArg SetTable.Probe.j (stepAt_add t.mask (hk w k) c q)
    have pr := go_spec t R.tab.ris R.tab.dm (fun i => (es[i]?.map (·.1)).getD 0) (hk w k) (10 * SetTable.turns t.mask) (K - c) _ (stepAt_clean t.mask (hk w k) c) (by omega)
      (fun q hq => by rw [wj]; exact hKb _ (by omega)) (by rw [wj, show c + (K - c) = K from by omega]; exact hK)
    rcases pr with ⟨q, i, hq, hi, hh, hno, go⟩ | ⟨hno, go⟩
    · have go2 : t.probe (fun i => (es[i]?.map (·.1)).getD 0) (hk w k) (stand.getD (t.probeStart (hk w k))) = some (.candidate (way t.mask (hk w k) (c + q)) i (stepAt t.mask (hk w k) (c + (q + 1)))) := by
        rw [hst, ← wj, ← stepAt_add]
        exact go
      rw [go2]
      dsimp only
      rw [wj] at hi
      have hil : i < L.length := by
        have h1 := (List.getElem?_eq_some_iff.mp hi).1
        rwa [Array.length_toList, R.placed] at h1
      obtain ⟨p, hp⟩ : ∃ p, L[i]? = some p := ⟨_, List.getElem?_eq_getElem hil⟩
      have hmem := List.mem_of_getElem? hp
      have after : wpAny (model P w) A (searchRest a (.ref x) (hk w k) true f es t (way t.mask (hk w k) (c + q)) i (stepAt t.mask (hk w k) (c + (q + 1)))) Q E s := by
        unfold searchRest
        rw [R.nth hp]
        dsimp only
        refine wpAny_bind (wpAny_holding ((nestedKind P w).eqBool (x := p.2) (y := k) hu ⟨(R.els p hmem).1, (R.els p hmem).2.1⟩ ⟨hx.1, hx.2.1⟩ ?_))
        refine wpAny_bind (wpAny_setState_of ho hd R.fits ?_)
        dsimp only
        by_cases same : p.2 = k
        · exact wp_if_pos (by simp [same]) (wpAny_pure (yes (List.mem_map.mpr ⟨p, hmem, same⟩)))
        · refine wp_if_neg (by simp [same]) ?_
          try refine wpAny_bind (wpAny_pure ?_)
          rw [sameMem]
          have sl : t.slot (way t.mask (hk w k) (c + q)) = .live i := slot_live R.tab.ris hi
          simp only [if_true, sl, R.nth hp]
          refine wpAny_bind (wpAny_isSame_ref_self (wpAny_bind (wpAny_pure ?_)))
          simp only [if_true]
          refine wp_if_neg (by simp [same]) (ih (c + (q + 1)) _ rfl (by omega) (by omega) fun i0 p0 e0 k0 => ?_)
          obtain ⟨d, d1, d2, d3⟩ := ahead i0 p0 e0 k0
          refine ⟨d, ?_, d2, d3⟩
          by_cases lt : d < c + q
          · refine absurd ((hash_of i0 p0 e0).trans (congrArg (hk w) k0)) (hno (d - c) i0 (by omega) ?_)
            rw [wj, show c + (d - c) = d from by omega]
            exact d3
          · by_cases eq : d = c + q
            · rw [eq] at d3
              have s0 := (slot_live R.tab.ris d3).symm.trans sl
              injection s0 with s0
              rw [s0, hp] at e0
              cases e0
              exact absurd k0 same
            · omega
      by_cases hl : t.led = true
      · refine wp_if_neg (by simp [hl]) ?_
        try refine wpAny_bind (wpAny_pure ?_)
        exact after
      · refine wp_if_pos (by simp [hl]) (wpAny_bind (unseen_key hx (fun y hy => ?_) ?_))
        · obtain ⟨e, he, rfl⟩ := List.mem_map.mp hy
          have he2 : e ∈ es.toList := by
            rw [Array.mem_toList_iff] at he ⊢
            exact (Array.mem_filter.mp he).1
          rw [R.rows] at he2
          obtain ⟨p2, hp2, rfl⟩ := List.mem_map.mp he2
          exact ⟨p2.2, p2.1, rfl, R.els p2 hp2⟩
        · refine wp_if_neg (by decide) ?_
          try refine wpAny_bind (wpAny_pure ?_)
          exact after
    · have go2 : t.probe (fun i => (es[i]?.map (·.1)).getD 0) (hk w k) (stand.getD (t.probeStart (hk w k))) = some (.empty (way t.mask (hk w k) K) none) := by
        have e2 : (L2.nth t.mask (stepAt t.mask (hk w k) c) (K - c)).j = way t.mask (hk w k) K := by rw [wj, show c + (K - c) = K from by omega]
        rw [hst, ← e2]
        exact go
      rw [go2]
      dsimp only
      refine wpAny_pure (no fun hm => ?_)
      obtain ⟨p0, h0, k0⟩ := List.mem_map.mp hm
      obtain ⟨i0, hi0, e0⟩ := List.getElem_of_mem h0
      have e0 : L[i0]? = some p0 := by rw [List.getElem?_eq_getElem hi0, e0]
      obtain ⟨d, d1, d2, d3⟩ := ahead i0 p0 e0 k0
      refine hno (d - c) i0 (by omega) ?_ ((hash_of i0 p0 e0).trans (congrArg (hk w) k0))
      rw [wj, show c + (d - c) = d from by omega]
      exact d3
theorem seek_all (R : SetN w s.heap a L es ep t) {x : Addr} {k : NestedKey} (hx : KeyAt s.heap k x) (hu : A.units + 8 < cLine) {Q : SetFound → Shared → Prop} (yes : k ∈ L.map (·.2) → Q (.there none) s)
    (no : ∀ K, k ∉ L.map (·.2) → way t.mask (hk w k) K ∉ t.place.toList → (∀ c, c < K → way t.mask (hk w k) c ∈ t.place.toList) → Q (.free (way t.mask (hk w k) K) false) s) : wpAny (model P w) A (setSearch a (.ref x) (hk w k) true) Q E s := by
  have rm := R.room
  obtain ⟨K, hKf, hK, hKb⟩ := R.tab.first (by rw [List.length_map]; omega) (hk w k)
  have few : 10 * SetTable.turns t.mask ≤ 1420 := by
    unfold SetTable.turns
    rcases R.tab.mok with e | e | e <;> omega
  unfold setSearch
  refine seek R hx hu hKf hK hKb yes (fun hn => no K hn hK hKb) 100000 0 none rfl (Nat.zero_le _) (by omega) fun i p hp k0 => ?_
  obtain ⟨j, hj⟩ := R.live (List.getElem?_eq_some_iff.mp hp).1
  obtain ⟨d, hd, e⟩ := R.tab.before hK (h := hk w k) (by rw [List.getElem?_map, hp, ← k0]; rfl) hj
  exact ⟨d, Nat.zero_le _, hd, by rw [hj, e]⟩

/-! ### adding -/
theorem KeyAt.keep {h h' : Heap} {k : NestedKey} {b : Addr} (x : KeyAt h k b) (q : ∀ c o vs n, h.get? c = some o → o.data = .seq vs n → h'.get? c = some o) : KeyAt h' k b := ⟨NestedIs.at q k _ x.1, x.2⟩
theorem KeyAt.but {h h' : Heap} {k : NestedKey} {a b : Addr} {o : Obj} (x : KeyAt h k b) (ho : h.get? a = some o) (hd : o.data = .set es ep t) (sb : Heap.SameBut a h h') : KeyAt h' k b := x.keep fun c u vs n e d => (sb.2 c fun z => by
  subst z
  rw [ho] at e
  cases e
  rw [hd] at d
  cases d).trans e
theorem elRows_cut (L : Els) (p : Nat) (x : Addr × NestedKey) : elRows w (L.take p ++ x :: L.drop p) = (elRows w L).take p ++ (hk w x.2, Value.ref x.1) :: (elRows w L).drop p := by
  unfold elRows
  rw [List.map_append, List.map_cons, List.map_take, List.map_drop]
/-- the entries in another order -/
theorem elRows_order (L : Els) (es : Array (Int × Value)) (order : List Nat) (hr : es.toList = elRows w L) (hp : order.Perm (List.range L.length)) :
    ∃ M : Els, order.filterMap (fun i => es[i]?) = elRows w M ∧ M.Perm L ∧ (M.map fun p => hk w p.2) = order.map fun i => (es.map (·.1)).getD i 0 := by
  have ent : ∀ i : Nat, es[i]? = L[i]?.map fun p => (hk w p.2, Value.ref p.1) := fun i => by
    rw [← Array.getElem?_toList, hr]
    unfold elRows
    rw [List.getElem?_map]
  refine ⟨order.filterMap fun i => L[i]?, ?_, ?_, ?_⟩
  · unfold elRows
    rw [List.map_filterMap]
    exact congrFun (congrArg List.filterMap (funext ent)) order
  · have all : (List.range L.length).filterMap (fun i => L[i]?) = L := by
      have q : ∀ n, n ≤ L.length → (List.range n).filterMap (fun i => L[i]?) = L.take n := by
        intro n
        induction n with
        | zero => exact fun _ => rfl
        | succ n ih =>
          intro hn
          rw [List.range_succ, List.filterMap_append, ih (Nat.le_of_lt hn), List.take_succ]
          congr 1
      rw [q _ (Nat.le_refl _), List.take_length]
    have q := hp.filterMap fun i => L[i]?
    rwa [all] at q
  · have lt : ∀ i ∈ order, i < L.length := fun i hi => List.mem_range.mp (hp.mem_iff.mp hi)
    clear hp
    induction order with
    | nil => rfl
    | cons i r ih =>
      have hi := lt i List.mem_cons_self
      have e : (es.map (·.1)).getD i 0 = hk w (L[i]).2 := by
        have e1 : (es.map (·.1))[i]? = some (hk w (L[i]).2) := by rw [Array.getElem?_map, ent, List.getElem?_eq_getElem hi]; rfl
        simp [Array.getD_eq_getD_getElem?, e1]
      rw [List.filterMap_cons_some (List.getElem?_eq_getElem hi), List.map_cons, List.map_cons, ih fun j hj => lt j (List.mem_cons_of_mem _ hj), e]
/-- the table laid anew -/
theorem lay_anew {o : Obj} (ho : s.heap.get? a = some o) (hex : o.ExactSet) (hd : o.data = .set es ep t) (hr : es.toList = elRows w L) (hsz : t.place.size = L.length) (hdm : t.dummies = #[]) (hfl : L.length ≤ t.mask) (nd : (L.map (·.2)).Nodup) (el : ∀ p ∈ L, KeyAt s.heap p.2 p.1)
    (pl : t.plain = true) (ld : w.params.followText "set-order" = true ∨ t.led = true) (few : L.length < 64) {wanted M : Nat} (hw : SetTable.sizeAbove wanted - 1 = M) (hM : MaskOk M) (h128 : SetTable.sizeAbove wanted ≤ 128) (hn : L.length * 5 < M * 3) {Q : Unit → Shared → Prop}
    (q : ∀ h' L' es' ep' t', Heap.SameBut a s.heap h' → SetN w h' a L' es' ep' t' → L'.Perm L → Q () { s with heap := h' }) : wpAny (model P w) A (setRelay a wanted) Q E s := by
  have hes : es.size = L.length := by rw [← Array.length_toList, hr, elRows_len]
  have fits : t.fits es.size = true := by
    unfold SetTable.fits SetTable.fill
    rw [hdm, hes, Bool.and_eq_true, beq_iff_eq, decide_eq_true_eq]
    exact ⟨hsz, by show t.place.size + 0 ≤ t.mask; omega⟩
  obtain ⟨t', order, e, hp, T, em, el', ep', ed⟩ := relaid_ok t (hs := es.map (·.1)) (wanted := wanted) hw hM (by rw [Array.size_map, hes]; omega)
  rw [Array.size_map, hes] at hp
  obtain ⟨M', m1, m2, m3⟩ := elRows_order L es order.toList hr hp
  rw [← m3] at T
  have m1' : (order.filterMap (es[·]?)).toList = elRows w M' := by rw [Array.toList_filterMap]; exact m1
  have hs2 : (order.filterMap (es[·]?)).size = L.length := by rw [← Array.length_toList, m1', elRows_len, m2.length_eq]
  rw [setRelay_eq]
  refine wpAny_bind (wpAny_setState_of ho hd fits ?_)
  dsimp only
  refine wp_if_neg (by rw [sizeLine_eq]; omega) ?_
  try refine wpAny_bind (wpAny_pure ?_)
  rw [e]
  dsimp only
  refine wpAny_bind (wp_if_neg (by rw [hs2, hes]; simp) ?_)
  try refine wpAny_bind (wpAny_pure ?_)
  refine wpAny_pure ?_
  dsimp only
  refine wpAny_storeSet_of ho hd ?_ (by rw [hs2, sizeLine_eq]; omega)
  have sb : Heap.SameBut a s.heap (s.heap.update a (Obj.putSet (order.filterMap (es[·]?)) t')) := Heap.SameBut.update ..
  refine q _ M' _ (ep + 1) t' sb ⟨⟨⟨_, store_at ho hd, ⟨hex.1, hex.2.1, hex.2.2⟩, rfl⟩, m1', T, (m2.map (·.2)).nodup_iff.mpr nd, by rw [ep']; exact pl, by rw [el']; exact ld, ?_, by rw [m2.length_eq]; exact few⟩, fun p hp => (el p (m2.mem_iff.mp hp)).but ho hd sb⟩ m2
  rw [m2.length_eq, em]
  exact hn
theorem add_key (R : SetN w s.heap a L es ep t) {x : Addr} {k : NestedKey} (hx : KeyAt s.heap k x) (hu : A.units + 8 < cLine) (hfew : L.length + 1 < 64) {Q : Bool → Shared → Prop}
    (q : ∀ b h' L' es' ep' t', Heap.SameBut a s.heap h' → SetN w h' a L' es' ep' t' → (k ∈ L.map (·.2) → L' = L) → (k ∉ L.map (·.2) → L'.Perm ((x, k) :: L)) → Q b { s with heap := h' }) : wpAny (model P w) A (setAddHashed a (.ref x) (hk w k)) Q E s := by
  obtain ⟨o, ho, hex, hd⟩ := R.ob
  have hsz := R.size
  have rm := R.room
  unfold setAddHashed
  refine wpAny_holding ?_
  rw [show (100000 : Nat) = 99999 + 1 from rfl, setAddHashedIn_succ]
  refine wpAny_bind (wpAny_setState_of ho hd R.fits ?_)
  dsimp only
  refine wp_if_neg (by simp [byScan, Value.scannable]) ?_
  try refine wpAny_bind (wpAny_pure ?_)
  refine wpAny_bind (seek_all R hx hu (fun hm => wpAny_pure (q false s.heap L es ep t (Heap.SameBut.refl a s.heap) R (fun _ => rfl) fun z => absurd hm z)) fun K hm hK hb => ?_)
  dsimp only
  refine wpAny_bind (wpAny_setState_of ho hd R.fits ?_)
  dsimp only
  obtain ⟨q1, q2, q3, q4, q5, q6, q7, q8, q9⟩ := R.tab.put hK hb
  have pl1 : (t.put (way t.mask (hk w k) K)).1.plain = true := by rw [q6]; exact R.plain
  generalize t.put (way t.mask (hk w k) K) = tp at q1 q3 q4 q5 q6 q7 q8 q9 pl1 ⊢
  obtain ⟨t1, p⟩ := tp
  dsimp only at q1 q3 q4 q5 q6 q7 q8 q9 pl1 ⊢
  subst q1
  first
    | (refine wpAny_bind ?_; refine wp_if_pos pl1 ?_; refine byVal_key k _ 8 hx.1 hx.2.1 hx.2.2 _ _ _ ?_)
    | refine wp_if_pos pl1 (wpAny_bind (byVal_key k _ 8 hx.1 hx.2.1 hx.2.2 _ _ _ ?_))
  simp only [if_true]
  have ins : (SetTable.insertAt es (SetTable.below t.place (way t.mask (hk w k) K)) (hk w k, Value.ref x)).toList = elRows w (L.take (SetTable.below t.place (way t.mask (hk w k) K)) ++ (x, k) :: L.drop (SetTable.below t.place (way t.mask (hk w k) K))) := by
    rw [SetTable.toList_insertAt, elRows_cut, R.rows]
  generalize SetTable.below t.place (way t.mask (hk w k) K) = p at q2 q3 ins ⊢
  have pm := put_perm L p (x, k)
  have hh : (L.take p ++ (x, k) :: L.drop p).map (fun p => hk w p.2) = (L.map fun p => hk w p.2).take p ++ hk w k :: (L.map fun p => hk w p.2).drop p := by
    rw [List.map_append, List.map_cons, List.map_take, List.map_drop]
  rw [← hh] at q3
  generalize SetTable.insertAt es p (hk w k, Value.ref x) = es1 at ins ⊢
  generalize L.take p ++ (x, k) :: L.drop p = L1 at pm q3 ins
  have len1 : L1.length = L.length + 1 := pm.length_eq
  have nd1 : (L1.map (·.2)).Nodup := (pm.map (·.2)).nodup_iff.mpr (List.nodup_cons.mpr ⟨hm, R.nd⟩)
  have hes : es1.size = L.length + 1 := by rw [← Array.length_toList, ins, elRows_len, len1]
  refine wpAny_bind (wpAny_storeSet_of ho hd ?_ (by rw [hes, sizeLine_eq]; omega))
  have sb : Heap.SameBut a s.heap (s.heap.update a (Obj.putSet es1 t1)) := Heap.SameBut.update ..
  have ho1 := store_at (es' := es1) (t' := t1) ho hd
  generalize s.heap.update a (Obj.putSet es1 t1) = h1 at sb ho1 ⊢
  have el1 : ∀ p ∈ L1, KeyAt h1 p.2 p.1 := fun p hp => by
    rcases List.mem_cons.mp (pm.mem_iff.mp hp) with e | hp
    · rw [e]; exact hx.but ho hd sb
    · exact (R.els p hp).but ho hd sb
  have ld1 : w.params.followText "set-order" = true ∨ t1.led = true := by rw [q5]; exact R.led
  have sz1 : t1.place.size = L1.length := by rw [q3.sz, List.length_map]
  have fill1 : t1.tooFull = decide ((L.length + 1) * 5 ≥ t1.mask * 3) := by
    unfold SetTable.tooFull
    rw [q9, List.length_map]
  by_cases hf : t1.tooFull = true
  · first
      | (refine wpAny_bind ?_; refine wp_if_pos (by simp [hf]) ?_)
      | (refine wp_if_pos (by simp [hf]) ?_; refine wpAny_bind ?_)
    have full := hf
    rw [fill1, decide_eq_true_eq, q4] at full
    rw [hsz]
    have two : (t.mask = 7 ∧ L.length = 4) ∨ (t.mask = 31 ∧ L.length = 18) := by
      rcases R.tab.mok with e | e | e <;> rw [e] at full rm
      · exact .inl ⟨e, by omega⟩
      · exact .inr ⟨e, by omega⟩
      · omega
    have go : ∀ M, SetTable.sizeAbove (SetTable.grown (L.length + 1)) - 1 = M → MaskOk M → SetTable.sizeAbove (SetTable.grown (L.length + 1)) ≤ 128 → (L.length + 1) * 5 < M * 3 →
        wpAny (model P w) A (setRelay a (SetTable.grown (L.length + 1))) (fun _ s' => wpAny (model P w) A (pure true) Q E s') E { s with heap := h1 } := fun M g1 g2 g3 g4 =>
      lay_anew (s := { s with heap := h1 }) (L := L1) ho1 ⟨hex.1, hex.2.1, hex.2.2⟩ rfl ins sz1 q3.dm (by rw [len1, q4]; rcases two with ⟨e, e2⟩ | ⟨e, e2⟩ <;> omega) nd1 el1 pl1 ld1 (by rw [len1]; exact hfew) g1 g2 g3 (by rw [len1]; exact g4)
        fun h2 L2 es2 ep2 t2 sb2 R2 pm2 => wpAny_pure (q true h2 L2 es2 ep2 t2 (sb.trans sb2) R2 (fun z => absurd z hm) fun _ => pm2.trans pm)
    rcases two with ⟨_, e2⟩ | ⟨_, e2⟩
    · exact go 31 (by rw [e2, size_20]) (.inr (.inl rfl)) (by rw [e2, size_20]; decide) (by omega)
    · exact go 127 (by rw [e2, size_76]) (.inr (.inr rfl)) (by rw [e2, size_76]; decide) (by omega)
  · first
      | refine wp_if_neg (by simp [hf]) ?_
      | (refine wpAny_bind ?_; refine wp_if_neg (by simp [hf]) ?_; refine wpAny_pure ?_)
    refine wpAny_pure (q true h1 L1 es1 (ep + 1) t1 sb ⟨⟨⟨_, ho1, ⟨hex.1, hex.2.1, hex.2.2⟩, rfl⟩, ins, q3, nd1, pl1, ld1, ?_, by rw [len1]; exact hfew⟩, el1⟩ (fun z => absurd z hm) fun _ => pm)
    rw [fill1, decide_eq_true_eq] at hf
    rw [len1]
    omega

/-! ### set(a tuple) -/
abbrev set0 (w : World) : Obj := { cls := .type "set", dict := none, data := .set #[] 0 (.fresh 0 0 (!w.params.followText "set-order")) }
abbrev it0 (l : Addr) : Obj := { cls := .type "tuple_iterator", data := .fields #[.ref l, .int 0 0] }
/-- what the set has got of the first i -/
structure Had (ks : Els) (i : Nat) (L : Els) : Prop where
  sub : ∀ p ∈ L, p ∈ ks.take i
  all : ∀ p ∈ ks.take i, p.2 ∈ L.map (·.2)
  len : L.length ≤ i
theorem fresh_set {h : Heap} {a : Addr} (e : h.get? a = some (set0 w)) : SetN w h a [] #[] 0 (.fresh 0 0 (!w.params.followText "set-order")) where
  ob := ⟨_, e, ⟨rfl, rfl, rfl⟩, rfl⟩
  rows := rfl
  tab := ⟨.nil, rfl, rfl, .inl rfl, fun x z => absurd z (List.not_mem_nil), fun i hh j z => by rw [List.map_nil] at z; cases z⟩
  nd := .nil
  plain := rfl
  led := by
    cases z : w.params.followText "set-order"
    · exact .inr rfl
    · exact .inl rfl
  room := by show 0 * 5 < 7 * 3; decide
  few := by show 0 < 64; decide
  els := fun _ z => nomatch z
theorem Had.next {ks L L' : Els} {i : Nat} {x : Addr × NestedKey} (g : Had ks i L) (h : ks[i]? = some x) (c1 : x.2 ∈ L.map (·.2) → L' = L) (c2 : x.2 ∉ L.map (·.2) → L'.Perm (x :: L)) : Had ks (i + 1) L' := by
  have tk : ks.take (i + 1) = ks.take i ++ [x] := by rw [List.take_succ, h]; rfl
  by_cases c : x.2 ∈ L.map (·.2)
  · rw [c1 c]
    refine ⟨fun p hp => by rw [tk]; exact List.mem_append_left _ (g.sub p hp), fun p hp => ?_, Nat.le_succ_of_le g.len⟩
    rw [tk] at hp
    rcases List.mem_append.mp hp with z | z
    · exact g.all p z
    · rw [List.mem_singleton.mp z]; exact c
  · have pm := c2 c
    refine ⟨fun p hp => ?_, fun p hp => ?_, by rw [pm.length_eq]; exact Nat.succ_le_succ g.len⟩
    · rw [tk]
      rcases List.mem_cons.mp (pm.mem_iff.mp hp) with e | z
      · exact List.mem_append_right _ (List.mem_singleton.mpr e)
      · exact List.mem_append_left _ (g.sub p z)
    · rw [(pm.map (·.2)).mem_iff]
      rw [tk] at hp
      rcases List.mem_append.mp hp with z | z
      · exact List.mem_cons_of_mem _ (g.all p z)
      · rw [List.mem_singleton.mp z]; exact List.mem_cons_self
/-- the loop that fills it -/
theorem fill_set {I l S : Addr} {items : Array Value} (hh : A.in1.handled = none) (hlI : l ≠ I) (hSI : S ≠ I) (hSl : S ≠ l) (ks : Els) (hit : items.toList = ks.map fun p => Value.ref p.1) (few : ks.length < 64) (h0 : Heap) (hk0 : ∀ p ∈ ks, KeyAt h0 p.2 p.1) (nS : h0.get? S = none) (nI : h0.get? I = none) (hu : A.units + 9 < cLine) {R : Result → Shared → Prop} :
    ∀ (m i : Nat) (s : Shared), ks.length - i = m → i ≤ ks.length → s.heap.IsTupleIter I l i → s.heap.IsTuple l items → (∀ b o, h0.get? b = some o → s.heap.get? b = some o) → (∃ L es ep t, SetN w s.heap S L es ep t ∧ Had ks i L) →
      (∀ (h' : Heap) (tk : Nat) L es ep t, SetN w h' S L es ep t → Had ks ks.length L → (∀ b o, h0.get? b = some o → h'.get? b = some o) → R (.ok (.ret .none)) { s with heap := h', toks := tk }) →
      codeAny (model P w) A (.builtin "set.update.loop" ⟨[.ref S, .ref I], []⟩) R s := by
  have isz : items.size = ks.length := by rw [← Array.length_toList, hit, List.length_map]
  have still : ∀ {h h' : Heap}, (∀ b o, b ≠ I → h.get? b = some o → h'.get? b = some o) → (∀ b o, h0.get? b = some o → h.get? b = some o) → ∀ b o, h0.get? b = some o → h'.get? b = some o := fun q r b o e => q b o (fun z => by rw [z, nI] at e; cases e) (r b o e)
  have move : ∀ {h h' : Heap} {L es ep t}, SetN w h S L es ep t → (∀ b o, b ≠ I → h.get? b = some o → h'.get? b = some o) → (∀ p ∈ L, KeyAt h' p.2 p.1) → SetN w h' S L es ep t := fun R q el => by
    obtain ⟨o, ho, r⟩ := R.ob
    exact ⟨⟨⟨o, q S o hSI ho, r⟩, R.rows, R.tab, R.nd, R.plain, R.led, R.room, R.few⟩, el⟩
  intro m
  induction m with
  | zero =>
    intro i s hm hi hI hl keep ⟨L, es, ep, t, hS, g⟩ fin
    have ei : i = ks.length := by omega
    subst ei
    refine codeAny_builtin F.entry_set_update_loop ?_
    rw [Around.under_plainId F.plain_set_update_loop _]
    show wpAny _ A.in1 (pyNext (.ref I) >>= _) _ _ s
    refine wpAny_bind (wpAny_pyNext_tuple_end hh hI hl (by rw [← isz]; exact Array.getElem?_eq_none (Nat.le_refl _)) fun h' ex => ?_)
    have q : ∀ b o, b ≠ I → s.heap.get? b = some o → h'.get? b = some o := fun b o hb e => ex b o hb e
    have keep' := still q keep
    exact wpAny_pure (fin h' s.toks L es ep t (move hS q fun p hp => (hk0 p (List.mem_of_mem_take (g.sub p hp))).keep fun c u _ _ e _ => keep' c u e) g keep')
  | succ m ih =>
    intro i s hm hi hI hl keep ⟨L, es, ep, t, hS, g⟩ fin
    have lt : i < ks.length := by omega
    obtain ⟨p, hp⟩ : ∃ p, ks[i]? = some p := ⟨_, List.getElem?_eq_getElem lt⟩
    have hv : items[i]? = some (Value.ref p.1) := by rw [← Array.getElem?_toList, hit, List.getElem?_map, hp]; rfl
    refine codeAny_builtin F.entry_set_update_loop ?_
    rw [Around.under_plainId F.plain_set_update_loop _]
    show wpAny _ A.in1 (pyNext (.ref I) >>= _) _ _ s
    refine wpAny_bind (wpAny_pyNext_tuple_item hI hl hv fun h' hI' sb => ?_)
    have q : ∀ b o, b ≠ I → s.heap.get? b = some o → h'.get? b = some o := fun b o hb e => sb.extBut b o hb e
    have keep' := still q keep
    have el : ∀ x ∈ ks, KeyAt h' x.2 x.1 := fun x hx => (hk0 x hx).keep fun c u _ _ e _ => keep' c u e
    have hS' := move hS q fun x hx => el x (List.mem_of_mem_take (g.sub x hx))
    show wpAny _ A.in1 (holding [Value.ref p.1] (setAdd S (.ref p.1)) >>= _) _ _ _
    refine wpAny_bind (wpAny_holding ?_)
    unfold setAdd
    have hx := el p (List.mem_of_getElem? hp)
    have hu1 : A.in1.units + 8 < cLine := by rw [Around.in1_units]; omega
    refine wpAny_holding (wpAny_bind (pyHash_key p.2 _ _ _ _ hx.1 (by have := hx.2.1; omega) ?_))
    refine add_key (s := { s with heap := h', toks := s.toks + p.2.draws }) hS' hx hu1 (by have := g.len; omega) fun b h2 L2 es2 ep2 t2 sb2 hS2 c1 c2 => ?_
    have keep2 : ∀ b o, h0.get? b = some o → h2.get? b = some o := fun b o e => (sb2.2 b fun z => by rw [z, nS] at e; cases e).trans (keep' b o e)
    refine wpAny_pure ⟨plainId_quiet F.plain_set_update_loop _, ih (i + 1) _ (by omega) lt (hI'.at fun o e => (sb2.2 I (Ne.symm hSI)).trans e) ((hl.at fun o e => q l o hlI e).at fun o e => (sb2.2 l (Ne.symm hSl)).trans e) keep2 ⟨L2, es2, ep2, t2, hS2, g.next hp c1 c2⟩ fun h3 tk L3 es3 ep3 t3 hS3 g3 keep3 => fin h3 tk L3 es3 ep3 t3 hS3 g3 keep3⟩

theorem set_call {l : Addr} {items : Array Value} (ks : Els) {Q : Value → Shared → Prop} (hh : A.handled = none) (tl : s.heap.IsTuple l items) (hit : items.toList = ks.map fun p => Value.ref p.1) (el : ∀ p ∈ ks, KeyAt s.heap p.2 p.1) (few : ks.length < 64) (hu : A.units + 12 < cLine)
    (q : ∀ (h' : Heap) (tk : Nat) L es ep t, SetN w h' s.heap.objs.size L es ep t → Had ks ks.length L → (∀ b o, s.heap.get? b = some o → h'.get? b = some o) → Q (.ref s.heap.objs.size) { s with heap := h', toks := tk }) : wpAny (model P w) A (call (.type "set") [.ref l]) Q E s := by
  obtain ⟨mc, mt, m1⟩ := F.called_set.mro
  have m2 := F.called_set.made
  have m3 := F.called_set.sub
  have m4 := F.called_set.notType
  have m5 := F.called_set.canCreate
  have m6 := F.typeCall_set_1 (.ref l)
  have m7 := F.called_set.init.lookup
  have m8 := F.called_set.init.bind (.ref s.heap.objs.size)
  refine wpAny_call (codeAny_of_tree (show wpAny _ _ (callAny (.type "set") _) _ _ _ from wpAny_pure ⟨Code.quiet_builtin _ (by decide +kernel), codeAny_builtin F.entry_type_call ?_⟩))
  rw [Around.under_plain (weight_type_call_type "set" [.ref l] []) rfl]
  repeat (any_goals (first | assumption | wp_step))
  refine codeAny_mono (L2.code_set_led1 (P := P) (.ref l) (E := E) (Q₁ := fun v s1 => v = .ref s.heap.objs.size ∧ s1 = { s with heap := s.heap.push (set0 w) }) ⟨rfl, rfl⟩) fun r s1 hr => ?_
  rcases r with e | fl
  · exact hr
  rcases fl with _ | _ | _ | v <;> first | exact hr.elim | skip
  obtain ⟨rfl, rfl⟩ := hr
  have at0 : (s.heap.push (set0 w)).get? s.heap.objs.size = some (set0 w) := Heap.get?_push_size _ rfl
  have ty0 : Shared.TypeIs { s with heap := s.heap.push (set0 w) } (.ref s.heap.objs.size) "set" := ⟨_, at0, rfl⟩
  repeat (any_goals (first | assumption | wp_step))
  refine codeAny_mono (codeAny_call_builtin (R := wants (fun v s2 => v = .none ∧ ∃ h' tk L es ep t, s2 = { s with heap := h', toks := tk } ∧ SetN w h' s.heap.objs.size L es ep t ∧ Had ks ks.length L ∧ (∀ b o, s.heap.get? b = some o → h'.get? b = some o)) E) F.called_set.init.plain F.entry_set_init (check_set_init_1 ty0 ?_)) fun r2 s2 hr2 => ?_
  · obtain ⟨⟨c1, c2, c3, c4⟩, e1, e2, n, e3⟩ := tl
    simp only at e2 e3
    subst e2 e3
    have e4 := Heap.get?_push_of_some (h := s.heap) (set0 w) e1
    have n1 := F.sub_tuple_set
    have n2 := F.sub_tuple_frozenset
    have n3 : (Value.type "tuple" == Value.type "dict") = false := by decide
    have tl1 : (s.heap.push (set0 w)).IsTuple l items := ⟨_, e4, rfl, n, rfl⟩
    unfold Builtin.«set.__init__» noKeywords Builtin.Frozenset.updateFrom
    generalize hPI : pyIter = PI
    wp_walk
    subst hPI
    refine wpAny_pyIter_tuple tl1 (wpAny_bind (wpAny_runValue ?_))
    have lt := Heap.lt_size e1
    have sz : (s.heap.push (set0 w)).objs.size = s.heap.objs.size + 1 := Heap.size_push ..
    have none_of : ∀ b, s.heap.objs.size ≤ b → s.heap.get? b = none := fun b hb => by
      cases z : s.heap.get? b with
      | none => rfl
      | some o => exact absurd (Heap.lt_size z) (Nat.not_lt.mpr hb)
    have up : ∀ b o, s.heap.get? b = some o → ((s.heap.push (set0 w)).push (it0 l)).get? b = some o := fun b o e => Heap.get?_push_of_some _ (Heap.get?_push_of_some _ e)
    refine fill_set (P := P) (I := (s.heap.push (set0 w)).objs.size) (l := l) (S := s.heap.objs.size) (items := items) (by simp [hh]) (by rw [sz]; exact Nat.ne_of_lt (Nat.lt_succ_of_lt lt)) (by rw [sz]; exact Nat.ne_of_lt (Nat.lt_succ_self _)) (Nat.ne_of_gt lt) ks hit few s.heap el (none_of _ (Nat.le_refl _)) (none_of _ (by rw [sz]; exact Nat.le_succ _)) (by simp only [Around.in1_units]; omega)
      ks.length 0 _ (by omega) (Nat.zero_le _) ⟨_, Heap.get?_push_size _ rfl, rfl, rfl⟩ (tl1.push _) up ⟨[], #[], 0, _, fresh_set (Heap.get?_push_of_some _ at0), ⟨fun _ z => absurd z List.not_mem_nil, fun _ z => absurd z (by rw [List.take_zero]; exact List.not_mem_nil), Nat.le_refl _⟩⟩ fun h' tk L es ep t hS g keep => ?_
    show wpAny _ _ _ _ _ _
    refine wpAny_pure ?_
    show wpAny _ _ (ret Value.none) _ _ _
    exact wpAny_pure ⟨rfl, h', tk, L, es, ep, t, rfl, hS, g, keep⟩
  · rcases r2 with e | fl2
    · exact hr2
    rcases fl2 with _ | _ | _ | v <;> first | exact hr2.elim | skip
    obtain ⟨rfl, h', tk, L, es, ep, t, rfl, hS, g, keep⟩ := hr2
    repeat (any_goals (first | assumption | wp_step))
    exact q h' tk L es ep t hS g keep

theorem perm_back {α β : Type} {f : α → β} : ∀ (vs : List β) (L : List α), vs.Perm (L.map f) → ∃ M : List α, M.Perm L ∧ vs = M.map f
  | [], L, h => by
    have e := h.length_eq
    rw [List.length_map] at e
    exact ⟨[], by rw [List.eq_nil_of_length_eq_zero e.symm], rfl⟩
  | v :: vs, L, h => by
    obtain ⟨x, hx, rfl⟩ := List.mem_map.mp (h.mem_iff.mp List.mem_cons_self)
    obtain ⟨L1, L2, rfl⟩ := List.append_of_mem hx
    have e : ((L1 ++ x :: L2).map f).Perm (f x :: (L1 ++ L2).map f) := by
      rw [List.map_append, List.map_cons, List.map_append]
      exact List.perm_middle
    obtain ⟨M, m1, m2⟩ := perm_back vs (L1 ++ L2) ((h.trans e).cons_inv)
    exact ⟨x :: M, (m1.cons x).trans List.perm_middle.symm, by rw [m2]; rfl⟩
/-- what the list made of the set holds -/
theorem set_list {Q : List Value → Shared → Prop} (R : SetN w s.heap a L es ep t) (hh : A.handled = none) (q : ∀ s1 (M : Els), (∀ b o, s.heap.get? b = some o → s1.heap.get? b = some o) → s.heap.objs.size ≤ s1.heap.objs.size → s1.gens = s.gens → s1.os = s.os → M.Perm L → Q (M.map fun p => Value.ref p.1) s1) :
    wpAny (model P w) A (collect (.ref a)) Q E s := by
  obtain ⟨o, ho, hex, hd⟩ := R.ob
  have hsz := R.size
  have few := R.few
  refine collect_set hh ⟨o, ho, hex.1, hd⟩ R.fits (by unfold scanBound; omega) R.tab.ris R.led fun s1 vs k1 hz g1 o1 pm => ?_
  have rows : es.toList.map (·.2) = L.map fun p => Value.ref p.1 := by
    rw [R.rows]
    unfold elRows
    rw [List.map_map]
    rfl
  rw [rows] at pm
  obtain ⟨M, m1, m2⟩ := perm_back vs L pm
  rw [m2]
  exact q s1 M k1 (by omega) g1 o1 m1
end
end SR

/-! t[::-1] of a tuple -/
namespace SR
open PySem PySem.Spec PyProof.Rows L2 HT
section
variable {P : Program} {w : World} {A : Around} {E : Value → Shared → Prop} {s : Shared}
theorem fm_some {α β : Type} {f : α → Option β} {g : α → β} : ∀ l : List α, (∀ a ∈ l, f a = some (g a)) → l.filterMap f = l.map g
  | [], _ => rfl
  | a :: r, h => by
    rw [List.filterMap_cons_some (h a List.mem_cons_self), fm_some r fun b hb => h b (List.mem_cons_of_mem _ hb)]
    rfl
theorem back_places (n : Nat) : Builtin.Slice.slicePlaces ((n : Int) - 1) (-1) (-1) = n := by
  unfold Builtin.Slice.slicePlaces
  rw [if_neg (by decide)]
  by_cases h : (n : Int) - 1 > -1
  · rw [if_pos h]
    have e : ((n : Int) - 1 - -1 - 1) / (- -1) = (n : Int) - 1 := by
      rw [show (- -1 : Int) = 1 from by decide, Int.ediv_one]
      omega
    rw [e]
    omega
  · rw [if_neg h]
    show (0 : Int).toNat = n
    have : n = 0 := by omega
    rw [this]
    rfl
theorem back_pick (l : List Value) : (List.range l.toArray.size).filterMap (fun (k : Nat) => l.toArray[(((l.toArray.size : Int) - 1) + (k : Int) * (-1)).toNat]?) = l.reverse := by
  rw [List.size_toArray]
  apply List.ext_getElem?
  intro i
  by_cases hi : i < l.length
  · have e : (List.range l.length).filterMap (fun (k : Nat) => l.toArray[(((l.length : Int) - 1) + (k : Int) * (-1)).toNat]?) = (List.range l.length).map fun k => l.getD (l.length - 1 - k) .none := by
      refine fm_some _ fun k hk => ?_
      have hk' := List.mem_range.mp hk
      have e1 : (((l.length : Int) - 1) + (k : Int) * (-1)).toNat = l.length - 1 - k := by omega
      rw [e1, List.getElem?_toArray, List.getElem?_eq_getElem (by omega)]
      show some _ = some _
      rw [List.getD_eq_getElem?_getD, List.getElem?_eq_getElem (by omega)]
      rfl
    rw [e, List.getElem?_map, List.getElem?_range hi, List.getElem?_reverse hi]
    show some (l.getD (l.length - 1 - i) .none) = _
    rw [List.getD_eq_getElem?_getD, List.getElem?_eq_getElem (by omega)]
    rfl
  · have h1 : l.reverse[i]? = none := List.getElem?_eq_none (by rw [List.length_reverse]; omega)
    rw [h1]
    refine List.getElem?_eq_none (Nat.le_trans (List.length_filterMap_le ..) ?_)
    rw [List.length_range]
    omega
theorem rev_item {t sl : Addr} {l : List Value} {v : Value} {Q : Value → Shared → Prop} (ht : IsTup s.heap t l.toArray) (hs : s.heap.IsSliceOf sl .none .none v) (pv : IsPart v (some (-1)))
    (q : Q (.ref s.heap.objs.size) { s with heap := s.heap.push { cls := .type "tuple", data := .seq l.reverse.toArray } }) (hz : l.length ≤ sizeLine) : wpAny (model P w) A (getItem (.ref t) (.ref sl)) Q E s := by
  have big : sizeOk (.seq l.reverse.toArray) := by show l.reverse.toArray.size ≤ sizeLine; rw [List.size_toArray, List.length_reverse]; exact hz
  obtain ⟨os, z1, z2, z3⟩ := id hs
  have tsl : s.TypeIs (.ref sl) "slice" := ⟨os, z1, z2⟩
  unfold getItem
  try with_reducible refine wpAny_holding ?_
  first | refine wpAny_bind (wpAny_pure ?_) | skip
  refine wpAny_bind (wpAny_sequenceKey ht.typeIs (by decide) (wpAny_bind (wpAny_callSpecial?_slot (name := Str.ofString "__getitem__") ht.typeIs PyProof.Rows.slot_tuple_getitem (wpAny_call_entry PyProof.Rows.slot_tuple_getitem ht.typeIs entry_tuple_getitem ?_ (args_tuple_getitem _ _)))))
  show wpAny _ _ (Builtin.Tuple.tupleItemsOf (.ref t) >>= _) _ _ s
  refine wpAny_bind (tupleItemsOf_ ht (wpAny_bind (wpAny_typeOf tsl ?_)))
  rw [if_pos (by decide)]
  have ap : ∀ {Q' : Int × Int × Nat → Shared → Prop} {E' : Value → Shared → Prop} {A' : Around}, Q' ((l.toArray.size : Int) - 1, -1, l.toArray.size) s → wpAny (model P w) A' (Builtin.Slice.sliceApplied (.ref sl) (pure (l.toArray.size : Int))) Q' E' s := fun {Q' E' A'} h => by
    unfold Builtin.Slice.sliceApplied Builtin.Slice.sliceFields
    refine wpAny_bind (wpAny_bind (wpAny_field z1 z3 (x := .none) rfl (wpAny_bind (wpAny_field z1 z3 (x := .none) rfl (wpAny_bind (wpAny_field z1 z3 (x := v) rfl (wpAny_pure ?_)))))))
    refine wpAny_bind (HT.slicePart_ pv ?_)
    show wpAny _ _ (if ((-1 : Int) == 0) = true then _ else _) _ _ s
    rw [if_neg (by decide)]
    refine wpAny_bind (HT.slicePart_ .none (wpAny_bind (HT.slicePart_ .none (wpAny_bind (wpAny_pure ?_)))))
    show wpAny _ _ (pure ((l.toArray.size : Int) - 1, (-1 : Int), Builtin.Slice.slicePlaces ((l.toArray.size : Int) - 1) (-1) (-1))) _ _ s
    rw [back_places]
    exact wpAny_pure h
  refine wpAny_bind (ap ?_)
  show wpAny _ _ (if ((((l.toArray.size : Int) - 1) == 0 && (-1 : Int) == 1 && l.toArray.size == l.toArray.size)) = true then _ else _) _ _ s
  rw [if_neg (by simp), back_pick]
  first
    | exact wpAny_bind (m := Builtin.Tuple.tupleExact _) (wpAny_newObj_type (wpAny_pure ⟨_, rfl, wpAny_pure q⟩) big)
    | exact wpAny_bind (m := Builtin.Tuple.tupleExact _) (wpAny_newObj_type (wpAny_bind (wpAny_pure (wpAny_pure ⟨_, rfl, wpAny_pure q⟩))) big)
    | exact wpAny_bind (wpAny_bind (m := Builtin.Tuple.tupleExact _) (wpAny_newObj_type (wpAny_pure (wpAny_pure ⟨_, rfl, wpAny_pure q⟩)) big))
    | exact wpAny_bind (wpAny_bind (m := Builtin.Tuple.tupleExact _) (wpAny_newObj_type (wpAny_pure ⟨_, rfl, wpAny_pure q⟩) big))
end
/-- t[::-1] -/
def tRevT (K : PySem.W.Frag) (te : TE) : TE := fun σ H Q => te σ H fun x H1 => ∃ a xs, x = .ref a ∧ SqT K H1 a xs ∧ ∀ p, H1 p = none → Q (.ref p) (upd H1 p (.tup xs.reverse))
theorem pe_rev {X : Cx} {e : Expr} {te : TE} {k : Nat} {p1 p2 p3 pos : Pos} (he : PE X e te) : PE X (.Subscript e (.Slice none none (some (.UnaryOp .USub (.Constant (.int 1) k p1) p2)) p3) pos) (tRevT X.K te) := by
  refine ⟨fun pins s σ H Q I h => Subscript_ (thn (he.run pins s σ H _ I h) fun v s1 ⟨x, H1, I1, r1, a, xs, ex, hx, q⟩ => ?_)⟩
  subst ex
  cases r1
  have part : PO X (some (.UnaryOp .USub (.Constant (.int 1) k p1) p2)) (tPart (tUn (rU fun i => .int (-i)) (tC (.int 1)))) := po_some (pe_un un_neg pe_int)
  refine wpAny_Slice (thn (po_none.run pins s1 σ H1 (fun o G => o = none ∧ G = H1) I1 ⟨rfl, rfl⟩) fun v1 s2 ⟨o1, H2, I2, pp1, c1, c2⟩ => ?_)
  subst c1 c2
  refine thn (po_none.run pins s2 σ H2 (fun o G => o = none ∧ G = H2) I2 ⟨rfl, rfl⟩) fun v2 s3 ⟨o2, H3, I3, pp2, c3, c4⟩ => ?_
  subst c3 c4
  refine thn (part.run pins s3 σ H3 (fun o G => o = some (-1) ∧ G = H3) I3 ⟨1, rfl, -1, rfl, rfl, rfl⟩) fun v3 s4 ⟨o3, H4, I4, pp3, c5, c6⟩ => ?_
  subst c5 c6
  have n1 : v1 = .none := by cases pp1; rfl
  have n2 : v2 = .none := by cases pp2; rfl
  subst n1 n2
  have I5 : Inv X pins σ H4 { s4 with heap := s4.heap.push { cls := .type "slice", data := .fields #[.none, .none, v3] } } := I4.kept (t' := s4.toks) fun b ob z => Heap.get?_push_of_some _ z
  obtain ⟨its, rv, ht, hz⟩ := I5.tuple hx
  show wpAny _ X.A (subscriptTail e (.Slice none none (some (.UnaryOp .USub (.Constant (.int 1) k p1) p2)) p3) (Value.ref a) (Value.ref s4.heap.objs.size)) _ X.xe _
  refine tail_any (ops := [.ref a, .ref s4.heap.objs.size]) ht.typeIs PyProof.Rows.slot_tuple_getitem.lookup ?_ (by with_unfolding_all rfl)
  refine rev_item ht (Heap.IsSliceOf.new _ .none .none v3) pp3 ⟨.ref _, _, I5.laid (t' := s4.toks) (o := .tup xs.reverse) (fun b ob z => Heap.get?_push_of_some _ z) (Nat.le_refl _) ?_, rfl, q _ (I5.hok.fresh (Nat.le_refl _))⟩ (by rw [← rv.length]; exact hz)
  exact ⟨by rw [List.length_reverse]; exact hz, _, rv.reverse, IsTup.new _ _⟩
end SR

/-! which of Python's trees an own tree stands for -/
namespace SR
open PySem PySem.Spec PyProof.Rows L2 RZ

/-- the names of a def by slot, its scope, whose cells are made here; the defs and numbers of the module that may be named -/
structure MP where
  N : List Str
  sc : Scope
  fn : Str → Bool
  fns : List String
  gis : List String
def MP.blk (P : MP) (scope : Scope) : MP := { P with sc := relS scope P.sc, fn := fun x => scope.names.lookup x == some .cell }
def MP.kind (P : MP) (x : Str) : Option NameKind := P.sc.names.lookup x
def visB (P : MP) (i : Nat) (x : Str) : Bool := decide (P.N[i]? = some x) && (match P.kind x with | some .local => true | some .cell => true | some .free => true | _ => false) && !(x == ("__debug__" : Str)) && !(x == ("__classdict__" : Str))
def locB (P : MP) (i : Nat) (x : Str) : Bool := decide (P.N[i]? = some x) && (match P.kind x with | some .local => true | some .cell => P.fn x | _ => false)
def glB (P : MP) (x : Str) (n : String) : Bool := decide (x = Str.ofString n) && (match P.kind x with | some .globalImplicit => true | _ => false) && !(x == ("__debug__" : Str))
def strip : Expr → Expr
  | .BoolOp _ [x] _ => x
  | e => e
def opB : Op2 → Operator → Bool
  | .add, .Add => true | .sub, .Sub => true | .mul, .Mult => true | .fdiv, .FloorDiv => true | .mod, .Mod => true | .pow, .Pow => true
  | _, _ => false
def cmB : Cm → CmpOp → Bool
  | .lt, .Lt => true | .le, .LtE => true | .gt, .Gt => true | .ge, .GtE => true | .eq, .Eq => true | .ne, .NotEq => true | .inn, .In => true | .nin, .NotIn => true | .isN, .Is => true | .isNN, .IsNot => true
  | _, _ => false
def btName : Bt → String
  | .len => "len" | .abs => "abs" | .min2 => "min" | .max2 => "max" | .maxl => "max" | .all => "all" | .any => "any" | .sum => "sum" | .toList _ => "list" | .toTup => "tuple" | .sorted _ => "sorted" | .str => "str"
def bltNames : List String := ["len", "abs", "min", "max", "all", "any", "sum", "list", "tuple", "sorted", "str", "isinstance", "range", "enumerate", "zip", "set", "int", "bool"]
def ownOf (P : MP) (own : List Nat) : List (Str × Nat) := own.filterMap fun i => (P.N[i]?).map fun x => (x, i)
def tyB (ty : String) : Bool := ty == "int" || ty == "bool" || ty == "str" || ty == "tuple" || ty == "list"

mutual
def mTg (P : MP) : Tg → Expr → Bool
  | .nm i, e => match e with
    | .Name x _ => locB P i x
    | _ => false
  | .tup ts, e => match e with
    | .Tuple es _ _ => mTgs P ts es
    | _ => false
def mTgs (P : MP) : List Tg → List Expr → Bool
  | [], es => match es with
    | [] => true
    | _ => false
  | t :: ts, es => match es with
    | e :: es => mTg P t e && mTgs P ts es
    | _ => false
end
def isTup : Expr → Bool
  | .Tuple _ _ _ => true
  | _ => false
mutual
def slots : Tg → List Nat
  | .nm i => [i]
  | .tup ts => slotss ts
def slotss : List Tg → List Nat
  | [] => []
  | t :: ts => slots t ++ slotss ts
end

/-- the sources of what is walked -/
def wkArgs (P : MP) : Wk → Expr → Option (List Expr)
  | .seq, e => some [e]
  | .rng1, e => match e with
    | .Call (.Name x _) [a] [] _ => if glB P x "range" = true then some [a] else none
    | _ => none
  | .rng2, e => match e with
    | .Call (.Name x _) [a, b] [] _ => if glB P x "range" = true then some [a, b] else none
    | _ => none
  | .enum, e => match e with
    | .Call (.Name x _) [a] [] _ => if glB P x "enumerate" = true then some [a] else none
    | _ => none
  | .enumT, _ => none
  | .zip2, e => match e with
    | .Call (.Name x _) [a, b] [] _ => if glB P x "zip" = true then some [a, b] else none
    | _ => none
def wkTg : Wk → Expr → Bool
  | .seq, _ => true
  | .rng1, _ => true
  | .rng2, _ => true
  | _, t => isTup t

/-- what may be a test -/
def tstOk : E → Bool
  | .var _ => true
  | .bl _ => true
  | .call _ _ => true
  | .bt _ _ => true
  | .isin _ _ => true
  | .isin2 _ _ _ => true
  | .ix _ _ => true
  | .cmp _ _ _ => true
  | .chain _ _ _ _ _ => true
  | .nt a => tstOk a
  | .and_ a b => tstOk a && tstOk b
  | .or_ a b => tstOk a && tstOk b
  | _ => false

mutual
def mE (P : MP) : E → Expr → Bool
  | .var i, e => match e with
    | .Name x _ => visB P i x
    | _ => false
  | .non, e => match e with
    | .Constant .none _ _ => true
    | _ => false
  | .bl b, e => match e with
    | .Constant (.bool c) _ _ => b == c
    | _ => false
  | .int i, e => match e with
    | .Constant (.int j) _ _ => decide (i = j)
    | _ => false
  | .str s, e => match e with
    | .Constant (.str t) _ _ => decide (s = t)
    | _ => false
  | .gint n, e => match e with
    | .Name x _ => glB P x n && P.gis.contains n
    | _ => false
  | .tup es, e => match e with
    | .Tuple l _ _ => mEs P es l
    | _ => false
  | .lst _ es, e => match e with
    | .List l _ => mEs P es l
    | _ => false
  | .bin op a b, e => match e with
    | .BinOp l o r _ => opB op o && mE P a l && mE P b r
    | _ => false
  | .neg a, e => match e with
    | .UnaryOp .USub l _ => mE P a l
    | _ => false
  | .nt a, e => match e with
    | .UnaryOp .Not l _ => mE P a l
    | _ => false
  | .cmp op a b, e => match e with
    | .Compare l [o] [r] _ => cmB op o && mE P a l && mE P b r
    | _ => false
  | .chain o p a b c, e => match e with
    | .Compare l [o', p'] [m, r] _ => cmB o o' && cmB p p' && mE P a l && mE P b m && mE P c r
    | _ => false
  | .and_ a b, e => match e with
    | .BoolOp .And (x :: y :: r) pos => mE P a x && mE P b (strip (.BoolOp .And (y :: r) pos))
    | _ => false
  | .or_ a b, e => match e with
    | .BoolOp .Or (x :: y :: r) pos => mE P a x && mE P b (strip (.BoolOp .Or (y :: r) pos))
    | _ => false
  | .ite c a b, e => match e with
    | .IfExp t x y _ => tstOk c && mE P c t && mE P a x && mE P b y
    | _ => false
  | .call f es, e => match e with
    | .Call (.Name x _) l [] _ => glB P x f && P.fns.contains f && mEs P es l
    | _ => false
  | .bt b es, e => match e with
    | .Call (.Name x _) (y :: l) [] _ => glB P x (btName b) && mEs P es (y :: l)
    | _ => false
  | .isin a ty, e => match e with
    | .Call (.Name x _) [y, .Name t _] [] _ => glB P x "isinstance" && mE P a y && glB P t ty && tyB ty
    | _ => false
  | .isin2 a ty ty', e => match e with
    | .Call (.Name x _) [y, .Tuple [.Name t _, .Name t' _] _ _] [] _ => glB P x "isinstance" && mE P a y && glB P t ty && tyB ty && glB P t' ty' && tyB ty'
    | _ => false
  | .ix a i, e => match e with
    | .Subscript x y _ => mE P a x && mE P i y
    | _ => false
  | .slc _ a lo hi, e => match e with
    | .Subscript x (.Slice l h none _) _ => mE P a x && mO P lo l && mO P hi h
    | _ => false
  | .rev a, e => match e with
    | .Subscript x (.Slice none none (some (.UnaryOp .USub (.Constant (.int j) _ _) _)) _) _ => mE P a x && decide (j = 1)
    | _ => false
  | .lrng _ a b, e => match e with
    | .Call (.Name x _) [.Call (.Name y _) [l, r] [] _] [] _ => glB P x "list" && glB P y "range" && mE P a l && mE P b r
    | _ => false
  | .trng a, e => match e with
    | .Call (.Name x _) [.Call (.Name y _) [l] [] _] [] _ => glB P x "tuple" && glB P y "range" && mE P a l
    | _ => false
  | .sset _ a, e => match e with
    | .Call (.Name x _) [.Call (.Name y _) [l] [] _] [] _ => glB P x "sorted" && glB P y "set" && mE P a l
    | _ => false
  | .dnew _, e => match e with
    | .Dict [] [] _ => true
    | _ => false
  | .lc _ own tg w src cond elt, e => match e with
    | .ListComp el [⟨t, it, ifs, 0⟩] scope _ => blkC P.N P.sc scope (ownOf P own) && (match wkArgs P w it with | some l => mEs P src l | none => false) && mTg (P.blk scope) tg t &&
        wkTg w t && (slots tg).all (fun i => own.contains i) && own.all (fun i => decide (i < P.N.length)) &&
        (match cond with
          | none => ifs.isEmpty
          | some c => match ifs with
            | [x] => tstOk c && mE (P.blk scope) c x
            | _ => false) && mE (P.blk scope) elt el
    | _ => false
  | .lc2 _ own own2 tg w src tg2 w2 src2 elt, e => match e with
    | .ListComp el [⟨t, it, [], 0⟩, ⟨t2, it2, [], 0⟩] scope _ => blkC P.N P.sc scope (ownOf P own) && (match wkArgs P w it with | some l => mEs P src l | none => false) && mTg (P.blk scope) tg t &&
        wkTg w t && (slots tg).all (fun i => own.contains i) && own.all (fun i => decide (i < P.N.length)) &&
        (match wkArgs (P.blk scope) w2 it2 with | some l => mEs (P.blk scope) src2 l | none => false) && mTg (P.blk scope) tg2 t2 &&
        wkTg w2 t2 && (slots tg2).all (fun i => own2.contains i) && own2.all (fun i => own.contains i) &&
        mE (P.blk scope) elt el
    | _ => false
  | .frz a, e => mE P a e
  | .upper a, e => match e with
    | .Call (.Attribute (.Name x q) name apos) [] [] cpos => mE P a (.Name x q) && decide (name = Str.ofString "upper") && (apos.endLine == cpos.line)
    | _ => false
def mEs (P : MP) : List E → List Expr → Bool
  | [], es => match es with
    | [] => true
    | _ => false
  | a :: as, es => match es with
    | e :: es => mE P a e && mEs P as es
    | _ => false
def mO (P : MP) : Option E → Option Expr → Bool
  | none, o => match o with
    | none => true
    | _ => false
  | some a, o => match o with
    | some e => mE P a e
    | _ => false
end
end SR

/-! what the small language tells is so -/
namespace SR
open PySem PySem.Spec PyProof.Rows L2 RZ

def RelEn (K : PySem.W.Frag) (F : Hp) (ρ : En) (σ : L2.St) : Prop := ρ.length = σ.length ∧ ∀ (i : Nat) (d : D), ρ[i]? = some (some d) → ∃ v, σ[i]? = some (some v) ∧ Rep K F v d
/-- what a def promises, by what its tree is worth -/
def lSp (K : PySem.W.Frag) (cls : String → Option Addr) (w : List D → Mu → KD → KX → Prop) : Sp := fun vs H Q E =>
  ∃ F R μ ds k x, Sto K cls F R μ H ∧ Reps K F vs ds ∧ w ds μ k x ∧ PostK K cls R F k Q ∧ PostX K cls R F x E
def FnAt (X : Cx) (cls : String → Option Addr) (G : Glb) (CXt : CXT) (f : String) : Prop :=
  ∃ (fa : Addr) (fd : FuncData) (ps : List Str) (lvl : Nat), X.mg (Str.ofString f) = some (.ref fa) ∧ PySem.W.keepIn X.K (.ref fa) = true ∧ Binds X.K fd ps [] ∧ Room lvl X.A ∧ FnOk X.prog X.w X.K X.mg X.base CXt lvl fa fd ps (lSp X.K cls (G.fn f))
/-- where one stands -/
structure SC (X : Cx) (P : MP) (cls : String → Option Addr) (G : Glb) (CXt : CXT) (W : WX) : Prop where
  hN : X.N = P.N
  nd : P.N.Nodup
  sc : X.env.scope = P.sc
  fn : X.fn = P.fn
  calm : X.calm = true
  hu : X.A.units + 80 < cLine
  fns : ∀ f, P.fns.contains f = true → FnAt X cls G CXt f
  pass : ∀ σ (E : XK), (∀ c d H, E c d H → W c d σ H) → PassesAt CXt X σ E
  nox : ∀ (outer : List Env) (H : Hp) (s : Shared) (E : XK) (e : Value) (s' : Shared), (∀ c d H', ¬ E c d H') → ¬ CXt outer H s E e s'
  blt : ∀ n ∈ bltNames, X.mg (Str.ofString n) = none
  gi : ∀ n, P.gis.contains n = true → ∃ i t, G.gi n = some i ∧ X.mg (Str.ofString n) = some (.int i t)

section
variable {K : PySem.W.Frag} {cls : String → Option Addr} {F F' H H' : Hp} {R : Rs} {μ μ' : Mu} {ρ : En} {σ : L2.St}
theorem RelEn.mono (h : RelEn K F ρ σ) (e : Same F F') : RelEn K F' ρ σ := ⟨h.1, fun i d q => let ⟨v, a, b⟩ := h.2 i d q; ⟨v, a, b.mono e⟩⟩
theorem RelEn.set (h : RelEn K F ρ σ) {v : V} {d : D} (r : Rep K F v d) (i : Nat) : RelEn K F (ρ.set i (some d)) (σ.set i (some v)) := by
  refine ⟨by rw [List.length_set, List.length_set]; exact h.1, fun j e q => ?_⟩
  by_cases z : i = j
  · subst z
    by_cases hl : i < ρ.length
    · rw [List.getElem?_set_self hl] at q
      cases q
      exact ⟨v, List.getElem?_set_self (by rw [← h.1]; exact hl), r⟩
    · rw [List.getElem?_eq_none (by rw [List.length_set]; omega)] at q
      cases q
  · rw [List.getElem?_set_ne z] at q ⊢
    exact h.2 j e q
theorem RelEn.wipe (h : RelEn K F ρ σ) : ∀ vs : List Nat, RelEn K F (wipeD ρ vs) (wipe σ vs)
  | [] => h
  | i :: vs => by
    have ih := RelEn.wipe h vs
    refine ⟨by show ((wipeD ρ vs).set i none).length = ((L2.wipe σ vs).set i none).length; rw [List.length_set, List.length_set]; exact ih.1, fun j e q => ?_⟩
    have q : ((wipeD ρ vs).set i none)[j]? = some (some e) := q
    show ∃ v, ((L2.wipe σ vs).set i none)[j]? = some (some v) ∧ _
    by_cases z : i = j
    · subst z
      by_cases hl : i < (wipeD ρ vs).length
      · rw [List.getElem?_set_self hl] at q; cases q
      · rw [List.getElem?_eq_none (by rw [List.length_set]; omega)] at q; cases q
    · rw [List.getElem?_set_ne z] at q ⊢
      exact ih.2 j e q
end

def tE (K : PySem.W.Frag) (cls : String → Option Addr) (G : Glb) (W : WX) (a : E) : TE := fun σ H Q =>
  ∃ F R μ ρ k x, RelEn K F ρ σ ∧ Sto K cls F R μ H ∧ wpE G a ρ μ k x ∧ PostK K cls R F k Q ∧ PostX K cls R F x (fun c d H' => W c d σ H')
def PostL (K : PySem.W.Frag) (cls : String → Option Addr) (R : Rs) (F : Hp) (k : List D → Mu → Prop) (Q : List V → Hp → Prop) : Prop :=
  ∀ ds μ', k ds μ' → ∀ vs F' H', Same F F' → Sto K cls F' R μ' H' → Reps K F' vs ds → Q vs H'
def tEs (K : PySem.W.Frag) (cls : String → Option Addr) (G : Glb) (W : WX) (as : List E) : TA := fun σ H Q =>
  ∃ F R μ ρ k x, RelEn K F ρ σ ∧ Sto K cls F R μ H ∧ wpEs G as ρ μ k x ∧ PostL K cls R F k Q ∧ PostX K cls R F x (fun c d H' => W c d σ H')
def tO (K : PySem.W.Frag) (cls : String → Option Addr) (G : Glb) (W : WX) (o : Option E) : TO := fun σ H Q =>
  ∃ F R μ ρ k x, RelEn K F ρ σ ∧ Sto K cls F R μ H ∧ wpO G o ρ μ k x ∧ (∀ i μ', k i μ' → ∀ F' H', Same F F' → Sto K cls F' R μ' H' → Q i H') ∧ PostX K cls R F x (fun c d H' => W c d σ H')
def tT (K : PySem.W.Frag) (cls : String → Option Addr) (G : Glb) (W : WX) (a : E) : TT := fun σ H Q =>
  ∃ (F : Hp) (R : Rs) (μ : Mu) (ρ : En) (kk : Bool → Mu → Prop) (x : KX), RelEn K F ρ σ ∧ Sto K cls F R μ H ∧ wpE G a ρ μ (fun d μ1 => unbl d fun t => kk t μ1) x ∧ (∀ t μ', kk t μ' → ∀ F' H', Same F F' → Sto K cls F' R μ' H' → Q t H') ∧ PostX K cls R F x (fun c d H' => W c d σ H')
theorem mono_tEs {K : PySem.W.Frag} {cls : String → Option Addr} {G : Glb} {W : WX} {as : List E} : MonoA (tEs K cls G W as) := by
  rintro σ H Q Q' hq ⟨F, R, μ, ρ, k, x, re, S, w, p, px⟩
  exact ⟨F, R, μ, ρ, k, x, re, S, w, fun ds μ' h vs F' H' e S' r => hq _ _ (p ds μ' h vs F' H' e S' r), px⟩

theorem PE.imp {X : Cx} {e : Expr} {t t' : TE} (h : PE X e t) (f : ∀ σ H Q, t' σ H Q → t σ H Q) : PE X e t' := ⟨fun pins s σ H Q I q => h.run pins s σ H Q I (f σ H Q q)⟩
theorem PT.imp {X : Cx} {e : Expr} {t t' : TT} (h : PT X e t) (f : ∀ σ H Q, t' σ H Q → t σ H Q) : PT X e t' := ⟨fun pins s σ H Q I q => h.run pins s σ H Q I (f σ H Q q)⟩
theorem PA.imp {X : Cx} {e : List Expr} {t t' : TA} (h : PA X e t) (f : ∀ σ H Q, t' σ H Q → t σ H Q) : PA X e t' := ⟨fun pos pins s σ H Q I q => h.run pos pins s σ H Q I (f σ H Q q)⟩

/-! ### the matcher's small facts -/
section
variable {X : Cx} {P : MP} {cls : String → Option Addr} {G : Glb} {CXt : CXT} {W : WX}
theorem vis_of (hX : SC X P cls G CXt W) {i : Nat} {x : Str} {pos : Pos} (h : visB P i x = true) : PE X (.Name x pos) (tVar i) := by
  unfold visB at h
  simp only [Bool.and_eq_true, decide_eq_true_eq, Bool.not_eq_true'] at h
  obtain ⟨⟨⟨h1, h2⟩, h3⟩, h4⟩ := h
  refine pe_var (by rw [hX.hN]; exact h1) ?_ h3 h4
  have e : X.env.scope.names.lookup x = P.kind x := by rw [hX.sc]; rfl
  unfold Vis
  rw [e]
  cases q : P.kind x with
  | none => rw [q] at h2; cases h2
  | some k => rw [q] at h2; cases k <;> first | exact .inl rfl | exact .inr (.inl rfl) | exact .inr (.inr rfl) | cases h2
theorem gl_of (hX : SC X P cls G CXt W) {x : Str} {n : String} (h : glB P x n = true) : x = Str.ofString n ∧ Gl X x ∧ (x == ("__debug__" : Str)) = false := by
  unfold glB at h
  simp only [Bool.and_eq_true, decide_eq_true_eq, Bool.not_eq_true'] at h
  obtain ⟨⟨h1, h2⟩, h3⟩ := h
  refine ⟨h1, ?_, h3⟩
  have e : X.env.scope.names.lookup x = P.kind x := by rw [hX.sc]; rfl
  show X.env.scope.names.lookup x = _
  rw [e]
  cases q : P.kind x with
  | none => rw [q] at h2; cases h2
  | some k => rw [q] at h2; cases k <;> first | rfl | cases h2
/-- neither a star, a set's display nor a slice -/
def headOk : Expr → Bool
  | .Starred _ _ => false
  | .Set _ _ _ => false
  | .Slice _ _ _ _ => false
  | _ => true
theorem star_ok {e : Expr} (h : headOk e = true) (es : List Expr) (env : Env) : starEach (e :: es) env = (false, eval e env) :: starEach es env := by
  cases e <;> first | rfl | cases h
theorem fold_ok {e : Expr} (h : headOk e = true) (env : Env) (x : Value) : foldedSetIterable e env x = pure x := by
  cases e <;> first | rfl | cases h
theorem mark_ok {e : Expr} (h : headOk e = true) (op : CmpOp) : behindInMarks op e = false := by
  cases e <;> first | rfl | cases h
theorem ix_ok {e : Expr} (h : headOk e = true) : PlainIx e := by
  intro o i
  cases e <;> first | rfl | cases h
theorem mE_head (P : MP) : ∀ (a : E) (e : Expr), mE P a e = true → headOk e = true
  | .frz a, e, h => mE_head P a e h
  | .upper _, e, h => by cases e <;> first | rfl | exact absurd (show false = true from h) Bool.false_ne_true
  | .var _, e, h => by cases e <;> first | rfl | exact absurd (show false = true from h) Bool.false_ne_true
  | .non, e, h => by cases e <;> first | rfl | exact absurd (show false = true from h) Bool.false_ne_true
  | .bl _, e, h => by cases e <;> first | rfl | exact absurd (show false = true from h) Bool.false_ne_true
  | .int _, e, h => by cases e <;> first | rfl | exact absurd (show false = true from h) Bool.false_ne_true
  | .str _, e, h => by cases e <;> first | rfl | exact absurd (show false = true from h) Bool.false_ne_true
  | .gint _, e, h => by cases e <;> first | rfl | exact absurd (show false = true from h) Bool.false_ne_true
  | .tup _, e, h => by cases e <;> first | rfl | exact absurd (show false = true from h) Bool.false_ne_true
  | .lst _ _, e, h => by cases e <;> first | rfl | exact absurd (show false = true from h) Bool.false_ne_true
  | .bin _ _ _, e, h => by cases e <;> first | rfl | exact absurd (show false = true from h) Bool.false_ne_true
  | .neg _, e, h => by cases e <;> first | rfl | exact absurd (show false = true from h) Bool.false_ne_true
  | .nt _, e, h => by cases e <;> first | rfl | exact absurd (show false = true from h) Bool.false_ne_true
  | .cmp _ _ _, e, h => by cases e <;> first | rfl | exact absurd (show false = true from h) Bool.false_ne_true
  | .chain _ _ _ _ _, e, h => by cases e <;> first | rfl | exact absurd (show false = true from h) Bool.false_ne_true
  | .and_ _ _, e, h => by cases e <;> first | rfl | exact absurd (show false = true from h) Bool.false_ne_true
  | .or_ _ _, e, h => by cases e <;> first | rfl | exact absurd (show false = true from h) Bool.false_ne_true
  | .ite _ _ _, e, h => by cases e <;> first | rfl | exact absurd (show false = true from h) Bool.false_ne_true
  | .call _ _, e, h => by cases e <;> first | rfl | exact absurd (show false = true from h) Bool.false_ne_true
  | .bt _ _, e, h => by cases e <;> first | rfl | exact absurd (show false = true from h) Bool.false_ne_true
  | .isin _ _, e, h => by cases e <;> first | rfl | exact absurd (show false = true from h) Bool.false_ne_true
  | .isin2 _ _ _, e, h => by cases e <;> first | rfl | exact absurd (show false = true from h) Bool.false_ne_true
  | .ix _ _, e, h => by cases e <;> first | rfl | exact absurd (show false = true from h) Bool.false_ne_true
  | .slc _ _ _ _, e, h => by cases e <;> first | rfl | exact absurd (show false = true from h) Bool.false_ne_true
  | .rev _, e, h => by cases e <;> first | rfl | exact absurd (show false = true from h) Bool.false_ne_true
  | .lrng _ _ _, e, h => by cases e <;> first | rfl | exact absurd (show false = true from h) Bool.false_ne_true
  | .trng _, e, h => by cases e <;> first | rfl | exact absurd (show false = true from h) Bool.false_ne_true
  | .sset _ _, e, h => by cases e <;> first | rfl | exact absurd (show false = true from h) Bool.false_ne_true
  | .dnew _, e, h => by cases e <;> first | rfl | exact absurd (show false = true from h) Bool.false_ne_true
  | .lc _ _ _ _ _ _ _, e, h => by cases e <;> first | rfl | exact absurd (show false = true from h) Bool.false_ne_true
  | .lc2 _ _ _ _ _ _ _ _ _ _, e, h => by cases e <;> first | rfl | exact absurd (show false = true from h) Bool.false_ne_true
end
end SR

/-! each construct -/
namespace SR
open PySem PySem.Spec PyProof.Rows L2 RZ
section
variable {X : Cx} {P : MP} {cls : String → Option Addr} {G : Glb} {CXt : CXT} {W : WX} {a b c : E} {ea eb ec : Expr} {pos : Pos} {K : PySem.W.Frag} {F H : Hp} {R : Rs} {μ : Mu} {ρ : En} {σ : L2.St} {k : KD} {x : KX} {Q : VK}

theorem two {w : D → D → Mu → KD → Prop} (re : RelEn K F ρ σ) (S : Sto K cls F R μ H) (h : wpE G a ρ μ (fun d μ1 => wpE G b ρ μ1 (fun e μ2 => w d e μ2 k) x) x) (p : PostK K cls R F k Q) (px : PostX K cls R F x fun c d H' => W c d σ H') :
    tOp (lR2 K cls w) (tE K cls G W a) (tE K cls G W b) σ H Q :=
  ⟨F, R, μ, ρ, _, x, re, S, h, fun d μ1 h1 v F1 H1 e1 S1 r1 => ⟨F1, R, μ1, ρ, _, x, re.mono e1, S1, h1, fun e μ2 h2 v2 F2 H2 e2 S2 r2 => ⟨F2, R, μ2, d, e, k, S2, r1.mono e2, r2, h2, p.mono (e1.trans e2)⟩, px.mono e1⟩, px⟩
theorem s_bin {op : Op2} {o : Operator} (ha : PE X ea (tE X.K cls G W a)) (hb : PE X eb (tE X.K cls G W b)) (ho : opB op o = true) : PE X (.BinOp ea o eb pos) (tE X.K cls G W (.bin op a b)) := by
  have e : o = opOf op := by cases op <;> cases o <;> first | rfl | cases ho
  subst e
  exact PE.imp (pe_op (op_bin op) ha hb) fun σ H Q ⟨F, R, μ, ρ, k, x, re, S, h, p, px⟩ => two re S h p px
theorem s_cmp {op : Cm} {o : CmpOp} (hu : X.A.units + 80 < cLine) (ha : PE X ea (tE X.K cls G W a)) (hb : PE X eb (tE X.K cls G W b)) (ho : cmB op o = true) (hm : behindInMarks o eb = false) : PE X (.Compare ea [o] [eb] pos) (tE X.K cls G W (.cmp op a b)) := by
  have e : o = cmOf op := by cases op <;> cases o <;> first | rfl | cases ho
  subst e
  exact PE.imp (pe_cmpR (op_cmp op hu) ha hb hm) fun σ H Q ⟨F, R, μ, ρ, k, x, re, S, h, p, px⟩ => two re S h p px
theorem s_ix (hu : X.A.units + 80 < cLine) (ha : PE X ea (tE X.K cls G W a)) (hb : PE X eb (tE X.K cls G W b)) (hp : PlainIx eb) : PE X (.Subscript ea eb pos) (tE X.K cls G W (.ix a b)) :=
  PE.imp (pe_ix (ix_data hu) ha hb hp) fun σ H Q ⟨F, R, μ, ρ, k, x, re, S, h, p, px⟩ => two re S h p px
theorem s_var {i : Nat} {n : Str} (hX : SC X P cls G CXt W) (h : visB P i n = true) : PE X (.Name n pos) (tE X.K cls G W (.var i)) := by
  refine PE.imp (vis_of hX h) fun σ H Q ⟨F, R, μ, ρ, k, x, re, S, w, p, px⟩ => ?_
  simp only [wpE] at w
  split at w
  · rename_i d e
    obtain ⟨v, q, r⟩ := re.2 i d e
    exact ⟨v, q, p.now w S r⟩
  · exact w.elim
theorem s_non {j : Nat} : PE X (.Constant .none j pos) (tE X.K cls G W .non) := PE.imp pe_non fun σ H Q ⟨F, R, μ, ρ, k, x, re, S, w, p, px⟩ => p.now w S .non
theorem s_bl {t : Bool} {j : Nat} : PE X (.Constant (.bool t) j pos) (tE X.K cls G W (.bl t)) := PE.imp pe_bl fun σ H Q ⟨F, R, μ, ρ, k, x, re, S, w, p, px⟩ => p.now w S (.bl _)
theorem s_int {t : Int} {j : Nat} : PE X (.Constant (.int t) j pos) (tE X.K cls G W (.int t)) := PE.imp pe_int fun σ H Q ⟨F, R, μ, ρ, k, x, re, S, w, p, px⟩ => p.now w S (.int _)
theorem s_str {t : Str} {j : Nat} : PE X (.Constant (.str t) j pos) (tE X.K cls G W (.str t)) := PE.imp pe_str fun σ H Q ⟨F, R, μ, ρ, k, x, re, S, w, p, px⟩ => p.now w S (.str _)
theorem s_gint {n : String} {y : Str} (hX : SC X P cls G CXt W) (h : glB P y n = true) (hn : P.gis.contains n = true) : PE X (.Name y pos) (tE X.K cls G W (.gint n)) := by
  obtain ⟨e, g, dbg⟩ := gl_of hX h
  obtain ⟨i, t, hi, hm⟩ := hX.gi n hn
  rw [← e] at hm
  refine PE.imp (pe_glob (v := .int i) g hm ⟨_, rfl⟩ dbg) fun σ H Q ⟨F, R, μ, ρ, k, x, re, S, w, p, px⟩ => ?_
  simp only [wpE, hi] at w
  exact p.now w S (.int _)
theorem s_tup {as : List E} {es : List Expr} {j : Nat} (ha : PA X es (tEs X.K cls G W as)) : PE X (.Tuple es j pos) (tE X.K cls G W (.tup as)) :=
  PE.imp (pe_tup ha) fun σ H Q ⟨F, R, μ, ρ, k, x, re, S, w, p, px⟩ => ⟨F, R, μ, ρ, _, x, re, S, w, fun ds μ' h vs F' H' e S' r => ⟨by rw [r.length]; exact h.1, new_tup S' h.1 r h.2 (p.mono e)⟩, px⟩
theorem s_lst {m : Bool} {as : List E} {es : List Expr} (ha : PA X es (tEs X.K cls G W as)) : PE X (.List es pos) (tE X.K cls G W (.lst m as)) :=
  PE.imp (pe_lst ha) fun σ H Q ⟨F, R, μ, ρ, k, x, re, S, w, p, px⟩ => ⟨F, R, μ, ρ, _, x, re, S, w, fun ds μ' h vs F' H' e S' r => ⟨by rw [r.length]; exact h.1, new_list S' h.1 r h.2 (p.mono e)⟩, px⟩
theorem s_neg (ha : PE X ea (tE X.K cls G W a)) : PE X (.UnaryOp .USub ea pos) (tE X.K cls G W (.neg a)) :=
  PE.imp (pe_un un_negb ha) fun σ H Q ⟨F, R, μ, ρ, k, x, re, S, w, p, px⟩ => ⟨F, R, μ, ρ, _, x, re, S, w, fun d μ' h v F' H' e S' r => by
    cases r with
    | int i => exact .inl ⟨i, rfl, (p.mono e).now h S' (.int _)⟩
    | bl b => exact .inr ⟨b, rfl, (p.mono e).now h S' (.int _)⟩
    | _ => exact h.elim, px⟩
theorem unbl_rep {d : D} {v : V} {kk : Bool → Prop} (h : unbl d kk) (r : Rep K F v d) : ∃ t, d = .bl t ∧ v = .bl t ∧ kk t := by
  cases r with
  | bl t => exact ⟨t, rfl, rfl, h⟩
  | _ => exact h.elim
theorem s_nt (ha : PE X ea (tE X.K cls G W a)) : PE X (.UnaryOp .Not ea pos) (tE X.K cls G W (.nt a)) :=
  PE.imp (pe_not ha) fun σ H Q ⟨F, R, μ, ρ, k, x, re, S, w, p, px⟩ => ⟨F, R, μ, ρ, _, x, re, S, w, fun d μ' h v F' H' e S' r => by
    obtain ⟨t, rfl, rfl, h⟩ := unbl_rep h r
    exact ⟨t, rfl, (p.mono e).now h S' (.bl _)⟩, px⟩
theorem s_and {xs : List Expr} {p2 : Pos} (ha : PE X ea (tE X.K cls G W a)) (hb : PE X (.BoolOp .And (eb :: xs) pos) (tE X.K cls G W b)) : PE X (.BoolOp .And (ea :: eb :: xs) pos) (tE X.K cls G W (.and_ a b)) :=
  PE.imp (pe_and ha hb) fun σ H Q ⟨F, R, μ, ρ, k, x, re, S, w, p, px⟩ => ⟨F, R, μ, ρ, _, x, re, S, w, fun d μ' h v F' H' e S' r => by
    obtain ⟨t, rfl, rfl, h⟩ := unbl_rep h r
    refine ⟨t, rfl, ?_⟩
    cases t with
    | true => exact ⟨F', R, μ', ρ, k, x, re.mono e, S', h, p.mono e, px.mono e⟩
    | false => exact (p.mono e).now h S' (.bl _), px⟩
theorem s_or {xs : List Expr} {p2 : Pos} (ha : PE X ea (tE X.K cls G W a)) (hb : PE X (.BoolOp .Or (eb :: xs) pos) (tE X.K cls G W b)) : PE X (.BoolOp .Or (ea :: eb :: xs) pos) (tE X.K cls G W (.or_ a b)) :=
  PE.imp (pe_or ha hb) fun σ H Q ⟨F, R, μ, ρ, k, x, re, S, w, p, px⟩ => ⟨F, R, μ, ρ, _, x, re, S, w, fun d μ' h v F' H' e S' r => by
    obtain ⟨t, rfl, rfl, h⟩ := unbl_rep h r
    refine ⟨t, rfl, ?_⟩
    cases t with
    | true => exact (p.mono e).now h S' (.bl _)
    | false => exact ⟨F', R, μ', ρ, k, x, re.mono e, S', h, p.mono e, px.mono e⟩, px⟩
theorem s_ite (hc : PT X ec (tT X.K cls G W c)) (ha : PE X ea (tE X.K cls G W a)) (hb : PE X eb (tE X.K cls G W b)) : PE X (.IfExp ec ea eb pos) (tE X.K cls G W (.ite c a b)) :=
  PE.imp (pe_ifExp hc ha hb) fun σ H Q ⟨F, R, μ, ρ, k, x, re, S, w, p, px⟩ => ⟨F, R, μ, ρ, fun t μ1 => if t = true then wpE G a ρ μ1 k x else wpE G b ρ μ1 k x, x, re, S, w, fun t μ' h F' H' e S' => by
    cases t with
    | true => exact ⟨F', R, μ', ρ, k, x, re.mono e, S', h, p.mono e, px.mono e⟩
    | false => exact ⟨F', R, μ', ρ, k, x, re.mono e, S', h, p.mono e, px.mono e⟩, px⟩
theorem s_chain {o p : Cm} {o' p' : CmpOp} (hu : X.A.units + 80 < cLine) (ha : PE X ea (tE X.K cls G W a)) (hb : PE X eb (tE X.K cls G W b)) (hc : PE X ec (tE X.K cls G W c)) (ho : cmB o o' = true) (hp : cmB p p' = true) (hm : lastMarks [o', p'] [eb, ec] = false) :
    PE X (.Compare ea [o', p'] [eb, ec] pos) (tE X.K cls G W (.chain o p a b c)) := by
  have e1 : o' = cmOf o := by cases o <;> cases o' <;> first | rfl | cases ho
  have e2 : p' = cmOf p := by cases p <;> cases p' <;> first | rfl | cases hp
  subst e1 e2
  refine PE.imp (pe_chain (op_cmp (cls := cls) o hu) (op_cmp (cls := cls) p hu) ha hb hc hm) fun σ H Q ⟨F, R, μ, ρ, k, x, re, S, w, p, px⟩ => ?_
  refine ⟨F, R, μ, ρ, _, x, re, S, w, fun d μ1 h1 v F1 H1 e1 S1 r1 => ⟨F1, R, μ1, ρ, _, x, re.mono e1, S1, h1, fun e μ2 h2 v2 F2 H2 e2 S2 r2 => ⟨F2, R, μ2, d, e, _, S2, r1.mono e2, r2, h2, fun g μ3 h3 v3 F3 H3 e3 S3 r3 => ?_⟩, px.mono e1⟩, px⟩
  obtain ⟨t, rfl, rfl, h3⟩ := unbl_rep h3 r3
  refine ⟨t, rfl, ?_⟩
  have p3 := p.mono ((e1.trans e2).trans e3)
  cases t with
  | true => exact ⟨F3, R, μ3, ρ, _, x, re.mono ((e1.trans e2).trans e3), S3, h3, fun f μ4 h4 v4 F4 H4 e4 S4 r4 => ⟨F4, R, μ4, e, f, k, S4, r2.mono (e3.trans e4), r4, h4, p3.mono e4⟩, px.mono ((e1.trans e2).trans e3)⟩
  | false => exact p3.now h3 S3 (.bl _)
theorem s_frz (ha : PE X ea (tE X.K cls G W a)) : PE X ea (tE X.K cls G W (.frz a)) :=
  PE.imp ha fun σ H Q ⟨F, R, μ, ρ, k, x, re, S, w, p, px⟩ => ⟨F, R, μ, ρ, _, x, re, S, w, fun d μ' h v F' H' e S' r => by
    cases r with
    | ref ad =>
      unfold frzW at h
      simp only at h
      split at h
      · rename_i l em
        obtain ⟨F2, e2, S2, r2⟩ := S'.rest em
        exact p _ _ h _ F2 H' (e.trans e2) S2 r2
      · exact h.elim
    | non => exact p _ _ h _ F' H' e S' .non
    | bl b => exact p _ _ h _ F' H' e S' (.bl b)
    | int i => exact p _ _ h _ F' H' e S' (.int i)
    | str z => exact p _ _ h _ F' H' e S' (.str z)
    | tup h1 h2 => exact p _ _ h _ F' H' e S' (.tup h1 h2)
    | lst h1 h2 => exact p _ _ h _ F' H' e S' (.lst h1 h2)
    | scr h1 => exact p _ _ h _ F' H' e S' (.scr h1), px⟩
theorem s_upper {y : Str} {q apos : Pos} (ha : PE X (.Name y q) (tE X.K cls G W a)) (hl : (apos.endLine == pos.line) = true) : PE X (.Call (.Attribute (.Name y q) (Str.ofString "upper") apos) [] [] pos) (tE X.K cls G W (.upper a)) :=
  PE.imp (pe_upper ha rfl hl) fun σ H Q ⟨F, R, μ, ρ, k, x, re, S, w, p, px⟩ => ⟨F, R, μ, ρ, _, x, re, S, w, fun d μ' h v F' H' e S' r => by
    cases r with
    | str z => exact ⟨⟨z, rfl⟩, z, rfl, rfl, h.1, p _ _ h.2 _ F' H' e S' (.str _)⟩
    | _ => exact h.elim, px⟩
theorem s_slc {m : Bool} {lo hi : Option E} {l h : Option Expr} {p2 : Pos} (ha : PE X ea (tE X.K cls G W a)) (hl : PO X l (tO X.K cls G W lo)) (hh : PO X h (tO X.K cls G W hi)) : PE X (.Subscript ea (.Slice l h none p2) pos) (tE X.K cls G W (.slc m a lo hi)) :=
  PE.imp (pe_slice (slc_data m) ha hl hh) fun σ H Q ⟨F, R, μ, ρ, k, x, re, S, w, p, px⟩ => ⟨F, R, μ, ρ, _, x, re, S, w, fun d μ1 h1 v F1 H1 e1 S1 r1 => ⟨F1, R, μ1, ρ, _, x, re.mono e1, S1, h1, fun i μ2 h2 F2 H2 e2 S2 => ⟨F2, R, μ2, ρ, _, x, re.mono (e1.trans e2), S2, h2, fun j μ3 h3 F3 H3 e3 S3 =>
    ⟨F3, R, μ3, d, k, S3, r1.mono (e2.trans e3), h3, p.mono ((e1.trans e2).trans e3)⟩, px.mono (e1.trans e2)⟩, px.mono e1⟩, px⟩
theorem s_po_none : PO X none (tO X.K cls G W none) := ⟨fun pins s σ H Q I ⟨F, R, μ, ρ, k, x, re, S, w, p, px⟩ => po_none.run pins s σ H Q I (p _ _ w F H (Same.refl F) S)⟩
theorem PO.imp {e : Option Expr} {t t' : TO} (h : PO X e t) (f : ∀ σ H Q, t' σ H Q → t σ H Q) : PO X e t' := ⟨fun pins s σ H Q I q => h.run pins s σ H Q I (f σ H Q q)⟩
theorem s_po_some (ha : PE X ea (tE X.K cls G W a)) : PO X (some ea) (tO X.K cls G W (some a)) :=
  PO.imp (po_some ha) fun σ H Q ⟨F, R, μ, ρ, k, x, re, S, w, p, px⟩ => ⟨F, R, μ, ρ, _, x, re, S, w, fun d μ1 h1 v F1 H1 e1 S1 r1 => by
    cases r1 with
    | int i => exact ⟨i, rfl, p _ _ h1 F1 H1 e1 S1⟩
    | _ => exact h1.elim, px⟩
theorem s_nil : PA X [] (tEs X.K cls G W []) := PA.imp pa_nil fun σ H Q ⟨F, R, μ, ρ, k, x, re, S, w, p, px⟩ => p _ _ w [] F H (Same.refl F) S .nil
theorem s_cons {as : List E} {es : List Expr} (ha : PE X ea (tE X.K cls G W a)) (hr : PA X es (tEs X.K cls G W as)) (hs : starEach (ea :: es) X.env = (false, eval ea X.env) :: starEach es X.env) : PA X (ea :: es) (tEs X.K cls G W (a :: as)) :=
  PA.imp (pa_cons ha hr hs) fun σ H Q ⟨F, R, μ, ρ, k, x, re, S, w, p, px⟩ => ⟨F, R, μ, ρ, _, x, re, S, w, fun d μ1 h1 v F1 H1 e1 S1 r1 => ⟨F1, R, μ1, ρ, _, x, re.mono e1, S1, h1, fun ds μ2 h2 vs F2 H2 e2 S2 r2 =>
    p _ _ h2 _ F2 H2 (e1.trans e2) S2 (.cons (r1.mono e2) r2), px.mono e1⟩, px⟩
end
end SR

/-! calls, comprehensions, tests -/
namespace SR
open PySem PySem.Spec PyProof.Rows L2 RZ
section
variable {X : Cx} {P : MP} {cls : String → Option Addr} {G : Glb} {CXt : CXT} {W : WX} {a b c : E} {ea eb ec : Expr} {p0 pos : Pos} {K : PySem.W.Frag} {F H : Hp} {R : Rs} {μ : Mu} {ρ : En} {σ : L2.St} {k : KD} {x : KX} {Q : VK}

theorem nostar {es : List Expr} {env : Env} (h : ∀ e ∈ es, headOk e = true) : (backTo pos (starEach es env)).any (·.1) = false := by
  induction es with
  | nil => rfl
  | cons e r ih =>
    rw [star_ok (h e List.mem_cons_self)]
    show (false || (backTo pos (starEach r env)).any (·.1)) = false
    rw [Bool.false_or]
    exact ih fun e he => h e (List.mem_cons_of_mem _ he)
theorem pe_call0SD {CX : CXT} {k : Nat} {f : Addr} {fd : FuncData} {ps : List Str} {sp : Sp} {E : L2.St → XK} {y : Str} (F : FnOk X.prog X.w X.K X.mg X.base CX k f fd ps sp) (hr : Room k X.A) (hg : Gl X y) (hm : X.mg y = some (.ref f)) (hk : PySem.W.keepIn X.K (.ref f) = true) (hb : Binds X.K fd ps []) (hx : ∀ σ, PassesAt CX X σ (E σ))
    (hdb : (y == ("__debug__" : Str)) = false) : PE X (.Call (.Name y p0) [] [] pos) (tCallSD sp [] E tNil) :=
  ⟨fun pins s σ H Q I h => wpAny_Call_Name_kw (ld_glob I hg hm (PySem.W.callWith_K0 I.kIn hk (run_fnSD (us := []) (vs := []) F hr hb .nil (hx σ) I .nil h)) hdb)⟩
theorem s_call0 {f : String} {y : Str} (hX : SC X P cls G CXt W) (hg : glB P y f = true) (hf : P.fns.contains f = true) : PE X (.Call (.Name y p0) [] [] pos) (tE X.K cls G W (.call f [])) := by
  obtain ⟨e, g, dbg⟩ := gl_of hX hg
  obtain ⟨fa, fd, ps, lvl, hm, hk, hb, hr, ok⟩ := hX.fns f hf
  rw [← e] at hm
  refine PE.imp (pe_call0SD (E := fun σ c d H' => W c d σ H') ok hr g hm hk hb (fun σ => hX.pass σ _ fun c d H h => h) dbg) fun σ H Q ⟨F, R, μ, ρ, k, x, re, S, w, p, px⟩ => ?_
  exact ⟨F, R, μ, [], k, x, S, .nil, w, p, px⟩
theorem s_call {f : String} {y : Str} {as : List E} {e' : Expr} {es : List Expr} (hX : SC X P cls G CXt W) (hg : glB P y f = true) (hf : P.fns.contains f = true) (ha : PA X (e' :: es) (tEs X.K cls G W as)) (hh : ∀ e ∈ e' :: es, headOk e = true) :
    PE X (.Call (.Name y p0) (e' :: es) [] pos) (tE X.K cls G W (.call f as)) := by
  obtain ⟨e, g, dbg⟩ := gl_of hX hg
  obtain ⟨fa, fd, ps, lvl, hm, hk, hb, hr, ok⟩ := hX.fns f hf
  rw [← e] at hm
  refine PE.imp (pe_callSD (E := fun σ c d H' => W c d σ H') ok hr g hm hk hb .nil (fun σ => hX.pass σ _ fun c d H h => h) ha dbg (star_ok (hh e' List.mem_cons_self) _ _) (nostar fun e he => hh e (List.mem_cons_of_mem _ he))) fun σ H Q ⟨F, R, μ, ρ, k, x, re, S, w, p, px⟩ => ?_
  exact ⟨F, R, μ, ρ, _, x, re, S, w, fun ds μ' h vs F' H' e S' r => ⟨F', R, μ', ds, k, x, S', by rw [List.append_nil]; exact r, h, p.mono e, px.mono e⟩, px⟩

theorem bt_boot (b : Bt) : bootBuiltins (Str.ofString (btName b)) = some (btId b) := by
  cases b <;> first | exact PySem.boot_len | exact PyProof.Rows.boot_max | exact PyProof.Rows.boot_min | exact PyProof.Rows.boot_sum | exact PyProof.Rows.boot_all | exact PyProof.Rows.boot_any | exact PyProof.Rows.boot_sorted | exact PyProof.Rows.boot_list | exact PyProof.Rows.boot_tuple | exact PyProof.Rows.boot_str | decide +kernel
theorem bt_in (b : Bt) : btName b ∈ bltNames := by cases b <;> simp only [btName] <;> decide
theorem bt_name (b : Bt) : Str.ofString (btName b) ≠ "__name__" := by cases b <;> simp only [btName] <;> decide +kernel
theorem s_bt {b : Bt} {y : Str} {as : List E} {e' : Expr} {es : List Expr} (hX : SC X P cls G CXt W) (hg : glB P y (btName b) = true) (ha : PA X (e' :: es) (tEs X.K cls G W as)) (hh : ∀ e ∈ e' :: es, headOk e = true) :
    PE X (.Call (.Name y p0) (e' :: es) [] pos) (tE X.K cls G W (.bt b as)) := by
  obtain ⟨e, g, dbg⟩ := gl_of hX hg
  subst e
  have hm := hX.blt _ (bt_in b)
  have hv := bt_boot b
  have hst := star_ok (hh e' List.mem_cons_self) es X.env
  have hpl : (backTo pos (starEach es X.env)).any (·.1) = false := nostar fun e he => hh e (List.mem_cons_of_mem _ he)
  have key : ∀ σ H Q, tE X.K cls G W (.bt b as) σ H Q → tCB (lRC X.K cls (btW b)) (tEs X.K cls G W as) σ H Q := fun σ H Q ⟨F, R, μ, ρ, k, x, re, S, w, p, px⟩ =>
    ⟨F, R, μ, ρ, _, x, re, S, w, fun ds μ' h vs F' H' e S' r => ⟨F', R, μ', ds, k, S', r, h, p.mono e⟩, px⟩
  have hc := call_bt (cls := cls) b hX.calm hX.hu
  cases b <;> first
    | exact PE.imp (pe_callB hc g hm hv ha (bt_name _) dbg hst hpl) key
    | exact PE.imp (pe_callTy hc g hm hv ha (bt_name _) dbg hst hpl) key
theorem s_dnew {t : Bool} : PE X (.Dict [] [] pos) (tE X.K cls G W (.dnew t)) := by
  cases t with
  | true =>
    refine PE.imp pe_dnewT fun σ H Q ⟨F, R, μ, ρ, k, x, re, S, w, p, px⟩ => ?_
    exact fun a ha => p _ _ (w a (S.fresh ha).2) _ F _ (Same.refl F) (S.newM ha ⟨[], upd_same, .nil⟩ True.intro) (.ref a)
  | false =>
    refine PE.imp pe_dnewK fun σ H Q ⟨F, R, μ, ρ, k, x, re, S, w, p, px⟩ => ?_
    exact fun a ha => p _ _ (w a (S.fresh ha).2) _ F _ (Same.refl F) (S.newM ha ⟨[], upd_same, .nil⟩ True.intro) (.ref a)
theorem s_lrng {m : Bool} {y z : Str} {p1 pos2 : Pos} (hX : SC X P cls G CXt W) (hg : glB P y "list" = true) (hg2 : glB P z "range" = true) (ha : PE X ea (tE X.K cls G W a)) (hb : PE X eb (tE X.K cls G W b)) (h1 : headOk ea = true) (h2 : headOk eb = true) :
    PE X (.Call (.Name y p0) [.Call (.Name z p1) [ea, eb] [] pos2] [] pos) (tE X.K cls G W (.lrng m a b)) := by
  obtain ⟨e, g, dbg⟩ := gl_of hX hg
  obtain ⟨e2, g2, dbg2⟩ := gl_of hX hg2
  subst e e2
  have hp : (backTo pos2 (starEach [eb] X.env)).any (·.1) = false := nostar fun e he => by cases List.mem_singleton.mp he; exact h2
  refine PE.imp (pe_listRg hX.calm g (hX.blt "list" (by decide)) (prg_2 g2 (hX.blt "range" (by decide)) ha hb (star_ok h1 _ _) (star_ok h2 _ _) hp)) fun σ H Q ⟨F, R, μ, ρ, k, x, re, S, w, p, px⟩ => ?_
  refine ⟨F, R, μ, ρ, _, x, re, S, w, fun d μ1 h1 v F1 H1 e1 S1 r1 => ⟨F1, R, μ1, ρ, _, x, re.mono e1, S1, h1, fun e μ2 h2 v2 F2 H2 e2 S2 r2 => ?_, px.mono e1⟩, px⟩
  cases r1 with
  | int i =>
    cases r2 with
    | int j =>
      refine ⟨i, j, rfl, rfl, h2.1, new_list S2 (by rw [List.length_map, List.length_range, sizeLine_eq]; exact h2.1.2.2.2.2) ?_ h2.2 (p.mono (e1.trans e2))⟩
      unfold rgV
      generalize List.range (j - i).toNat = l
      induction l with
      | nil => exact .nil
      | cons n r ih => exact .cons (.int _) ih
    | _ => exact h2.elim
  | _ => cases r2 <;> exact h2.elim

theorem s_trng {y z : Str} {p1 pos2 : Pos} (hX : SC X P cls G CXt W) (hg : glB P y "tuple" = true) (hg2 : glB P z "range" = true) (ha : PE X ea (tE X.K cls G W a)) (h1 : headOk ea = true) :
    PE X (.Call (.Name y p0) [.Call (.Name z p1) [ea] [] pos2] [] pos) (tE X.K cls G W (.trng a)) := by
  obtain ⟨e, g, dbg⟩ := gl_of hX hg
  obtain ⟨e2, g2, dbg2⟩ := gl_of hX hg2
  subst e e2
  refine PE.imp (pe_tupRg hX.calm g (hX.blt "tuple" (by decide)) (prg_1 g2 (hX.blt "range" (by decide)) ha (star_ok h1 _ _))) fun σ H Q ⟨F, R, μ, ρ, k, x, re, S, w, p, px⟩ => ?_
  refine ⟨F, R, μ, ρ, _, x, re, S, w, fun d μ1 h1 v F1 H1 e1 S1 r1 => ?_, px⟩
  cases r1 with
  | int j =>
    refine ⟨j, rfl, h1.1, new_tup S1 (ds := (List.range j.toNat).map fun (t : Nat) => D.int (t : Int)) (by rw [List.length_map, List.length_range, sizeLine_eq]; have := h1.1.2.2.2.2; omega) ?_ h1.2 (p.mono e1)⟩
    unfold rgV
    rw [Int.sub_zero]
    generalize List.range j.toNat = l
    induction l with
    | nil => exact .nil
    | cons n r ih =>
      rw [List.map_cons, List.map_cons, Int.zero_add]
      exact .cons (.int _) ih
  | _ => exact h1.elim

theorem five {ty : String} (ht : tyB ty = true) : ty = "int" ∨ ty = "bool" ∨ ty = "str" ∨ ty = "tuple" ∨ ty = "list" := by
  unfold tyB at ht
  simp only [Bool.or_eq_true, beq_iff_eq] at ht
  rcases ht with (((h | h) | h) | h) | h
  · exact .inl h
  · exact .inr (.inl h)
  · exact .inr (.inr (.inl h))
  · exact .inr (.inr (.inr (.inl h)))
  · exact .inr (.inr (.inr (.inr h)))
theorem kit_five (t : String) (h : t = "NoneType" ∨ t = "bool" ∨ t = "int" ∨ t = "str" ∨ t = "tuple" ∨ t = "list") {ty : String} (ht : tyB ty = true) : kitB t ty = some (t == ty || (t == "bool" && ty == "int")) := by
  rcases five ht with rfl | rfl | rfl | rfl | rfl <;> rcases h with rfl | rfl | rfl | rfl | rfl | rfl <;> decide +kernel
theorem ty_of {v : V} {d : D} (S : Sto K cls F R μ H) (r : Rep K F v d) (o : okT (vw μ d) = true) : TyX K H v (.type (tyNm (vw μ d))) ∧ ∀ ty, tyB ty = true → kitB (tyNm (vw μ d)) ty = some (isTy ty (vw μ d)) := by
  cases e : vw μ d with
  | lst l =>
    obtain ⟨a, vs, rfl, h1, _⟩ := vw_lst S r e
    exact ⟨.base (.lst h1), fun ty ht => kit_five "list" (by decide) ht⟩
  | tup l =>
    obtain ⟨a, vs, rfl, h1, _⟩ := vw_tup S r e
    exact ⟨.base (.tup h1), fun ty ht => kit_five "tuple" (by decide) ht⟩
  | ref a => rw [e] at o; cases o
  | scr a => rw [e] at o; cases o
  | non =>
    cases vw_flat e (fun a q => by cases q) (fun a q => by cases q)
    cases r
    exact ⟨.base .non, fun ty ht => kit_five "NoneType" (by decide) ht⟩
  | bl b =>
    cases vw_flat e (fun a q => by cases q) (fun a q => by cases q)
    cases r
    exact ⟨.base (.bl _), fun ty ht => kit_five "bool" (by decide) ht⟩
  | int i =>
    cases vw_flat e (fun a q => by cases q) (fun a q => by cases q)
    cases r
    exact ⟨.base (.int _), fun ty ht => kit_five "int" (by decide) ht⟩
  | str i =>
    cases vw_flat e (fun a q => by cases q) (fun a q => by cases q)
    cases r
    exact ⟨.base (.str _), fun ty ht => kit_five "str" (by decide) ht⟩
theorem ty_name {ty : String} {t : Str} {p1 : Pos} (hX : SC X P cls G CXt W) (hg : glB P t ty = true) (ht : tyB ty = true) : PE X (.Name t p1) (tC (.ty ty)) := by
  obtain ⟨e, g, dbg⟩ := gl_of hX hg
  subst e
  rcases five ht with rfl | rfl | rfl | rfl | rfl
  · exact pe_bltn g (hX.blt "int" (by decide)) PyProof.Rows.boot_int rfl (by decide +kernel) dbg
  · exact pe_bltn g (hX.blt "bool" (by decide)) PyProof.Rows.boot_bool rfl (by decide +kernel) dbg
  · exact pe_bltn g (hX.blt "str" (by decide)) PyProof.Rows.boot_str rfl (by decide +kernel) dbg
  · exact pe_bltn g (hX.blt "tuple" (by decide)) PyProof.Rows.boot_tuple rfl (by decide +kernel) dbg
  · exact pe_bltn g (hX.blt "list" (by decide)) PyProof.Rows.boot_list rfl (by decide +kernel) dbg
theorem s_isin {ty : String} {y t : Str} {p1 : Pos} (hX : SC X P cls G CXt W) (hg : glB P y "isinstance" = true) (hg2 : glB P t ty = true) (ht : tyB ty = true) (ha : PE X ea (tE X.K cls G W a)) (h1 : headOk ea = true) :
    PE X (.Call (.Name y p0) [ea, .Name t p1] [] pos) (tE X.K cls G W (.isin a ty)) := by
  obtain ⟨e, g, dbg⟩ := gl_of hX hg
  subst e
  refine PE.imp (pe_callB call_isi g (hX.blt "isinstance" (by decide)) (by decide +kernel) (pa_cons ha (pa_cons (ty_name hX hg2 ht) pa_nil) (star_ok h1 _ _)) (by decide +kernel) dbg (star_ok h1 _ _) rfl) fun σ H Q ⟨F, R, μ, ρ, k, x, re, S, w, p, px⟩ => ?_
  refine ⟨F, R, μ, ρ, _, x, re, S, w, fun d μ1 h1 v F1 H1 e1 S1 r1 => ?_, px⟩
  obtain ⟨h2, h3⟩ := ty_of S1 r1 h1.1
  exact ⟨v, .ty ty, _, _, _, rfl, .ty ty, h2, kit_ty (h3 ty ht), (p.mono e1).now h1.2 S1 (.bl _)⟩
theorem s_isin2 {ty ty' : String} {y t t' : Str} {p1 p2 p3 : Pos} {j : Nat} (hX : SC X P cls G CXt W) (hg : glB P y "isinstance" = true) (hg2 : glB P t ty = true) (ht : tyB ty = true) (hg3 : glB P t' ty' = true) (ht' : tyB ty' = true) (ha : PE X ea (tE X.K cls G W a)) (h1 : headOk ea = true) :
    PE X (.Call (.Name y p0) [ea, .Tuple [.Name t p1, .Name t' p2] j p3] [] pos) (tE X.K cls G W (.isin2 a ty ty')) := by
  obtain ⟨e, g, dbg⟩ := gl_of hX hg
  subst e
  refine PE.imp (pe_callB call_isiT g (hX.blt "isinstance" (by decide)) (by decide +kernel) (pa_cons ha (pa_cons (pe_tup (pa_cons (ty_name hX hg2 ht) (pa_cons (ty_name hX hg3 ht') pa_nil))) pa_nil) (star_ok h1 _ _)) (by decide +kernel) dbg (star_ok h1 _ _) rfl) fun σ H Q ⟨F, R, μ, ρ, k, x, re, S, w, p, px⟩ => ?_
  refine ⟨F, R, μ, ρ, _, x, re, S, w, fun d μ1 h1 v F1 H1 e1 S1 r1 => ?_, px⟩
  refine ⟨by show 2 ≤ sizeLine; decide, fun tp np => ?_⟩
  obtain ⟨e2, S2⟩ := S1.newF (o := .tup [.ty ty, .ty ty']) np (by show 2 ≤ sizeLine; decide)
  obtain ⟨h2, h3⟩ := ty_of S2 (r1.mono e2) h1.1
  have kk := kitAny_cons (K := X.K) (cs := [.type ty']) (r := isTy ty (vw μ1 d) || isTy ty' (vw μ1 d)) (kit_ty (h3 ty ht)) (fun z => by
    rw [z, Bool.false_or]
    exact kitAny_cons (kit_ty (h3 ty' ht')) (fun q => by rw [q]; exact kitAny_nil) fun q => q) fun z => by rw [z]; rfl
  exact ⟨v, tp, [.ty ty, .ty ty'], _, _, _, rfl, upd_same, .cons (.ty ty) (.cons (.ty ty') .nil), h2, kk, p _ _ h1.2 _ _ _ (e1.trans e2) S2 (.bl _)⟩
end
end SR

/-! sorted(set(t)) of data -/
namespace SR
open PySem PySem.Spec PyProof.Rows L2
mutual
def nkD : D → NestedKey
  | .int i => .num i
  | .tup l => .tup (nkDs l)
  | _ => .none
def nkDs : List D → List NestedKey
  | [] => []
  | d :: r => nkD d :: nkDs r
end
mutual
theorem nk_num : ∀ (n : Nat) (d : D), hashT n d = true → numK (nkD d) = true ∧ (nkD d).depth ≤ n
  | n, .int i, _ => ⟨rfl, Nat.zero_le _⟩
  | 0, .tup l, h => by cases h
  | n + 1, .tup l, h => by
    have q := nk_nums n l (by simpa [hashT] using h)
    refine ⟨by simp [nkD, numK, q.1], ?_⟩
    show NestedKey.depthAll (nkDs l) + 1 ≤ n + 1
    omega
  | n, .non, h => by cases n <;> cases h
  | n, .bl _, h => by cases n <;> cases h
  | n, .str _, h => by cases n <;> cases h
  | n, .lst _, h => by cases n <;> cases h
  | n, .ref _, h => by cases n <;> cases h
  | n, .scr _, h => by cases n <;> cases h
theorem nk_nums : ∀ (n : Nat) (l : List D), hashTs n l = true → numKs (nkDs l) = true ∧ NestedKey.depthAll (nkDs l) ≤ n
  | n, [], _ => ⟨rfl, Nat.zero_le _⟩
  | n, d :: r, h => by
    have h' : hashT n d = true ∧ hashTs n r = true := by simpa [hashTs] using h
    have a := nk_num n d h'.1
    have b := nk_nums n r h'.2
    refine ⟨by simp [nkDs, numKs, a.1, b.1], ?_⟩
    show max (nkD d).depth (NestedKey.depthAll (nkDs r)) ≤ n
    omega
end
mutual
theorem nk_inj : ∀ (n : Nat) (d e : D), hashT n d = true → hashT n e = true → nkD d = nkD e → d = e
  | n, .int i, .int j, _, _, h => by injection h with h; rw [h]
  | n, .int i, .tup l, _, _, h => by cases h
  | n, .tup l, .int j, _, _, h => by cases h
  | 0, .tup l, .tup m, h, _, _ => by cases h
  | n + 1, .tup l, .tup m, h1, h2, h => by
    injection h with h
    rw [nk_injs n l m (by simpa [hashT] using h1) (by simpa [hashT] using h2) h]
  | n, .non, _, h, _, _ => by cases n <;> cases h
  | n, .bl _, _, h, _, _ => by cases n <;> cases h
  | n, .str _, _, h, _, _ => by cases n <;> cases h
  | n, .lst _, _, h, _, _ => by cases n <;> cases h
  | n, .ref _, _, h, _, _ => by cases n <;> cases h
  | n, .scr _, _, h, _, _ => by cases n <;> cases h
  | n, .int _, .non, _, h, _ => by cases n <;> cases h
  | n, .int _, .bl _, _, h, _ => by cases n <;> cases h
  | n, .int _, .str _, _, h, _ => by cases n <;> cases h
  | n, .int _, .lst _, _, h, _ => by cases n <;> cases h
  | n, .int _, .ref _, _, h, _ => by cases n <;> cases h
  | n, .int _, .scr _, _, h, _ => by cases n <;> cases h
  | n, .tup _, .non, _, h, _ => by cases n <;> cases h
  | n, .tup _, .bl _, _, h, _ => by cases n <;> cases h
  | n, .tup _, .str _, _, h, _ => by cases n <;> cases h
  | n, .tup _, .lst _, _, h, _ => by cases n <;> cases h
  | n, .tup _, .ref _, _, h, _ => by cases n <;> cases h
  | n, .tup _, .scr _, _, h, _ => by cases n <;> cases h
theorem nk_injs : ∀ (n : Nat) (l m : List D), hashTs n l = true → hashTs n m = true → nkDs l = nkDs m → l = m
  | n, [], [], _, _, _ => rfl
  | n, [], _ :: _, _, _, h => by cases h
  | n, _ :: _, [], _, _, h => by cases h
  | n, d :: l, e :: m, h1, h2, h => by
    have h1' : hashT n d = true ∧ hashTs n l = true := by simpa [hashTs] using h1
    have h2' : hashT n e = true ∧ hashTs n m = true := by simpa [hashTs] using h2
    injection h with ha hb
    rw [nk_inj n d e h1'.1 h2'.1 ha, nk_injs n l m h1'.2 h2'.2 hb]
end
section
variable {X : Cx} {cls : String → Option Addr} {pins : List (Addr × Obj)} {σ : L2.St} {H : Hp} {s : Shared} {F : Hp} {R : Rs} {μ : Mu}
mutual
theorem nk_is (I : L2.Inv X pins σ H s) (S : Sto X.K cls F R μ H) : ∀ (n : Nat) (d : D), hashT n d = true → ∀ (v : V) (u : Value), Rep X.K F v d → RelV v u → NestedIs s.heap (nkD d) u
  | n, .int i, _, v, u, r, q => by
    cases r
    obtain ⟨t, rfl⟩ := q
    exact .int _ _
  | 0, .tup l, h, _, _, _, _ => by cases h
  | n + 1, .tup l, h, v, u, r, q => by
    cases r with
    | tup h1 h2 =>
      cases q
      obtain ⟨its, rv, ⟨o, e1, e2, m, e3⟩, _⟩ := I.tuple (SqT.of (S.ext _ _ h1))
      exact .tup e1 e2 e3 (nk_iss I S n l (by simpa [hashT] using h) _ _ h2 rv)
  | n, .non, h, _, _, _, _ => by cases n <;> cases h
  | n, .bl _, h, _, _, _, _ => by cases n <;> cases h
  | n, .str _, h, _, _, _, _ => by cases n <;> cases h
  | n, .lst _, h, _, _, _, _ => by cases n <;> cases h
  | n, .ref _, h, _, _, _, _ => by cases n <;> cases h
  | n, .scr _, h, _, _, _, _ => by cases n <;> cases h
theorem nk_iss (I : L2.Inv X pins σ H s) (S : Sto X.K cls F R μ H) : ∀ (n : Nat) (l : List D), hashTs n l = true → ∀ (vs : List V) (us : List Value), Reps X.K F vs l → Vals vs us → NestedAll s.heap (nkDs l) us
  | n, [], _, _, _, .nil, .nil => .nil
  | n, d :: l, h, _, _, .cons r rs, .cons q qs => by
    have h' : hashT n d = true ∧ hashTs n l = true := by simpa [hashTs] using h
    exact .cons (nk_is I S n d h'.1 _ _ r q) (nk_iss I S n l h'.2 _ _ rs qs)
end
/-- the set as a tracked thing -/
def SetO (w : World) (a : Addr) (L : Els) : HO := .ext fun h => ∃ es ep t, SetN0 w h a L es ep t
theorem setO_ok {P : Program} {w : World} {H : Hp} {h : Heap} {a : Addr} {L : Els} (R : ∃ es ep t, SetN0 w h a L es ep t) : ObjOk P w H h a (SetO w a L) := by
  obtain ⟨es, ep, t, R0⟩ := id R
  obtain ⟨o, ho, r⟩ := id R0.ob
  refine ⟨R, ⟨o, ho⟩, fun h1 h2 p q => ?_⟩
  obtain ⟨es', ep', t', R'⟩ := p
  obtain ⟨o', ho', r'⟩ := id R'.ob
  exact ⟨es', ep', t', ⟨⟨o', q o' ho', r'⟩, R'.rows, R'.tab, R'.nd, R'.plain, R'.led, R'.room, R'.few⟩⟩
/-- addresses and data of rows -/
theorem refs_of : ∀ (vs : List V) (l : List D), (∀ d ∈ l, ∃ m, d = .tup m) → Reps X.K F vs l → ∃ as : List (Addr × D), vs = as.map (fun p => V.ref p.1) ∧ as.map (·.2) = l ∧ ∀ p ∈ as, Rep X.K F (.ref p.1) p.2
  | _, [], _, .nil => ⟨[], rfl, rfl, fun _ z => nomatch z⟩
  | _, d :: l, h, .cons r rs => by
    obtain ⟨m, rfl⟩ := h d List.mem_cons_self
    obtain ⟨as, e1, e2, e3⟩ := refs_of _ l (fun e he => h e (List.mem_cons_of_mem _ he)) rs
    cases r with
    | @tup a xs _ h1 h2 =>
      refine ⟨(a, .tup m) :: as, by rw [e1]; rfl, by rw [← e2]; rfl, fun p hp => ?_⟩
      rcases List.mem_cons.mp hp with z | z
      · rw [z]; exact .tup h1 h2
      · exact e3 p z
/-- set(t) -/
def rSetD' (K : PySem.W.Frag) (cls : String → Option Addr) (w : World) : List V → Hp → VK → Prop := fun xs H Q => ∃ F R μ l, Sto K cls F R μ H ∧ Reps K F xs [.tup l] ∧ (∀ d ∈ l, ∃ m, d = .tup m ∧ hashTs 7 m = true) ∧ l.length < 64 ∧
  ∀ a (as : List (Addr × D)), H a = none → (∀ p ∈ as, Rep K F (.ref p.1) p.2 ∧ p.2 ∈ l) → (∀ d ∈ l, d ∈ as.map (·.2)) → (as.map (·.2)).Nodup → Q (.ref a) (upd H a (SetO w a (as.map fun p => (p.1, nkD p.2))))
theorem cr_set (hc : X.calm = true) (hu : X.A.units + 80 < cLine) : CallR X (.type "set") (rSetD' X.K cls X.w) := by
  intro pins s σ H xs us Q I rr h
  obtain ⟨F, R, μ, l, S, r, ht, hl, q⟩ := h
  cases r with
  | cons r r0 =>
    cases r0
    cases r with
    | tup h1 h2 =>
      rw [Vals.ref1 rr]
      obtain ⟨its, rv, ⟨o, e1, e2, n, e3⟩, hz⟩ := I.tuple (SqT.of (S.ext _ _ h1))
      obtain ⟨as, a1, a2, a3⟩ := refs_of _ l (fun d hd => let ⟨m, e, _⟩ := ht d hd; ⟨m, e⟩) h2
      have hit : its.toArray.toList = (as.map fun p => (p.1, nkD p.2)).map fun p => Value.ref p.1 := by
        rw [a1] at rv
        have z : ∀ (as : List (Addr × D)) (us : List Value), Vals (as.map fun p => V.ref p.1) us → us = (as.map fun p => (p.1, nkD p.2)).map fun p => Value.ref p.1 := by
          intro as
          induction as with
          | nil => intro us q; cases q; rfl
          | cons p r ih =>
            intro us q
            cases q with
            | cons q1 q2 =>
              cases q1
              rw [ih _ q2]
              rfl
        exact z as its rv
      have hash : ∀ p ∈ as, hashT 8 p.2 = true := fun p hp => by
        obtain ⟨m, e, hm⟩ := ht p.2 (by rw [← a2]; exact List.mem_map.mpr ⟨p, hp, rfl⟩)
        rw [e]
        simpa [hashT] using hm
      have kat : ∀ p ∈ as.map (fun p => (p.1, nkD p.2)), KeyAt s.heap p.2 p.1 := fun p hp => by
        obtain ⟨p', hp', rfl⟩ := List.mem_map.mp hp
        have n8 := nk_num 8 p'.2 (hash p' hp')
        exact ⟨nk_is I S 8 p'.2 (hash p' hp') _ _ (a3 p' hp') rfl, n8.2, n8.1⟩
      have la : as.length = l.length := by rw [← a2, List.length_map]
      refine set_call (P := X.prog) (w := X.w) (as.map fun p => (p.1, nkD p.2)) (I.ok.hd hc) ⟨o, e1, e2, n, e3⟩ hit kat (by rw [List.length_map, la]; exact hl) (by omega) fun h' tk L es ep t RN g keep => ?_
      have sub : ∀ p ∈ L, p ∈ as.map (fun p => (p.1, nkD p.2)) := fun p hp => List.mem_of_mem_take (g.sub p hp)
      obtain ⟨bs, b1, b2⟩ : ∃ bs : List (Addr × D), L = bs.map (fun p => (p.1, nkD p.2)) ∧ ∀ p ∈ bs, p ∈ as := by
        clear g RN
        induction L with
        | nil => exact ⟨[], rfl, fun _ z => nomatch z⟩
        | cons p r ih =>
          obtain ⟨bs, b1, b2⟩ := ih fun p hp => sub p (List.mem_cons_of_mem _ hp)
          obtain ⟨p', hp', rfl⟩ := List.mem_map.mp (sub p List.mem_cons_self)
          refine ⟨p' :: bs, by rw [b1]; rfl, fun x hx => ?_⟩
          rcases List.mem_cons.mp hx with z | z
          · rw [z]; exact hp'
          · exact b2 x z
      have hn : H s.heap.objs.size = none := I.hok.fresh (Nat.le_refl _)
      refine ⟨.ref s.heap.objs.size, _, I.laid (t' := tk) keep (Nat.le_refl _) (setO_ok ⟨es, ep, t, RN.toSetN0⟩), rfl, ?_⟩
      rw [b1]
      refine q _ bs hn (fun p hp => ⟨a3 p (b2 p hp), ?_⟩) (fun d hd => ?_) ?_
      · rw [← a2]; exact List.mem_map.mpr ⟨p, b2 p hp, rfl⟩
      · rw [← a2] at hd
        obtain ⟨p, hp, rfl⟩ := List.mem_map.mp hd
        have z := g.all (p.1, nkD p.2) (by rw [List.take_length]; exact List.mem_map.mpr ⟨p, hp, rfl⟩)
        rw [b1, List.map_map] at z
        obtain ⟨p', hp', e⟩ := List.mem_map.mp z
        rw [← nk_inj 8 p'.2 p.2 (hash p' (b2 p' hp')) (hash p hp) e]
        exact List.mem_map.mpr ⟨p', hp', rfl⟩
      · have nd := RN.nd
        rw [b1, List.map_map] at nd
        have nd2 : ((bs.map (·.2)).map nkD).Nodup := by rw [List.map_map]; exact nd
        exact List.Pairwise.of_map nkD (fun _ _ hne e => hne (congrArg nkD e)) nd2
/-- sorted(that set) -/
def rSortS (K : PySem.W.Frag) (cls : String → Option Addr) (w : World) (m : Bool) : List V → Hp → VK → Prop := fun xs H Q => ∃ (F : Hp) (R : Rs) (μ : Mu) (l : List D) (k : KD) (a : Addr) (as : List (Addr × D)), xs = [V.ref a] ∧ Sto K cls F R μ H ∧ H a = some (SetO w a (as.map fun p => (p.1, nkD p.2))) ∧ l.length < 64 ∧ sortable l ∧ (∀ d ∈ l, ∃ m, d = .tup m ∧ hashTs 7 m = true) ∧
  (∀ p ∈ as, Rep K F (.ref p.1) p.2 ∧ p.2 ∈ l) ∧ (∀ d ∈ l, d ∈ as.map (·.2)) ∧ (as.map (·.2)).Nodup ∧ (∀ r : List D, r.Nodup → (∀ d, d ∈ r ↔ d ∈ l) → newL m (r.mergeSort leD) μ k) ∧ PostK K cls R F k Q
theorem sub_sortable {l r : List D} (so : sortable l) (h : ∀ d ∈ r, d ∈ l) : sortable r := by
  obtain ⟨a, b, c⟩ := so
  refine ⟨fun x hx y hy => ?_, ?_, ?_⟩
  · obtain ⟨d, hd, rfl⟩ := List.mem_map.mp hx
    obtain ⟨e, he, rfl⟩ := List.mem_map.mp hy
    exact a _ (List.mem_map.mpr ⟨d, h d hd, rfl⟩) _ (List.mem_map.mpr ⟨e, h e he, rfl⟩)
  · rcases b with b | b
    · refine .inl fun x hx => ?_
      obtain ⟨d, hd, rfl⟩ := List.mem_map.mp hx
      exact b _ (List.mem_map.mpr ⟨d, h d hd, rfl⟩)
    · refine .inr fun x hx => ?_
      obtain ⟨d, hd, rfl⟩ := List.mem_map.mp hx
      exact b _ (List.mem_map.mpr ⟨d, h d hd, rfl⟩)
  · have q := okDs_mem c
    clear a b
    induction r with
    | nil => rfl
    | cons d r ih =>
      have e := ih fun e he => h e (List.mem_cons_of_mem _ he)
      have e1 := q d (h d List.mem_cons_self)
      simp [okDs, e, e1]
theorem vals_refs : ∀ as : List (Addr × D), Vals (as.map fun p => V.ref p.1) (as.map fun p => Value.ref p.1)
  | [] => .nil
  | _ :: as => .cons rfl (vals_refs as)
theorem reps_refs : ∀ as : List (Addr × D), (∀ p ∈ as, Rep X.K F (.ref p.1) p.2) → Reps X.K F (as.map fun p => V.ref p.1) (as.map (·.2))
  | [], _ => .nil
  | p :: as, h => .cons (h p List.mem_cons_self) (reps_refs as fun q hq => h q (List.mem_cons_of_mem _ hq))
theorem cr_sortS (hc : X.calm = true) (hu : X.A.units + 80 < cLine) (m : Bool) : CallR X (.builtin "sorted") (rSortS X.K cls X.w m) := by
  intro pins s σ H xs us Q I rr h
  obtain ⟨F, R, μ, l, k, a, as, rfl, S, ha, hl, so, ht, rep, all, nd, w, p⟩ := h
  rw [Vals.ref1 rr]
  obtain ⟨es, ep, t, R0⟩ := (I.hok a _ ha).1
  have hash : ∀ p ∈ as, hashT 8 p.2 = true := fun p hp => by
    obtain ⟨m, e, hm⟩ := ht p.2 (rep p hp).2
    rw [e]
    simpa [hashT] using hm
  have RN : SetN X.w s.heap a (as.map fun p => (p.1, nkD p.2)) es ep t := ⟨R0, fun p hp => by
    obtain ⟨p', hp', rfl⟩ := List.mem_map.mp hp
    have n8 := nk_num 8 p'.2 (hash p' hp')
    exact ⟨nk_is I S 8 p'.2 (hash p' hp') _ _ (rep p' hp').1 rfl, n8.2, n8.1⟩⟩
  refine Calls.call_function_entry kind_sorted plain_sorted entry_sorted (args_sorted1 _) ?_
  unfold Builtin.«sorted»
  refine wpAny_bind (m := checkCount "sorted" 1 1 _) (wpAny_pure (wpAny_bind (set_list (P := X.prog) RN (A := X.A.in1) (I.ok.hd hc) fun s1 M k1 sz1 g1 o1 pm => ?_)))
  obtain ⟨bs, m1, m2⟩ := perm_back M as pm
  subst m2
  have e1 : ((bs.map fun p => (p.1, nkD p.2)).map fun p => Value.ref p.1) = bs.map fun p => Value.ref p.1 := by rw [List.map_map]; rfl
  rw [e1]
  have repb : ∀ p ∈ bs, Rep X.K F (.ref p.1) p.2 ∧ p.2 ∈ l := fun p hp => rep p (m1.mem_iff.mp hp)
  have rbs := reps_refs (X := X) bs fun p hp => (repb p hp).1
  have soB : sortable (bs.map (·.2)) := sub_sortable so fun d hd => by
    obtain ⟨p, hp, rfl⟩ := List.mem_map.mp hd
    exact (repb p hp).2
  have lenB : bs.length < 64 := by
    have few := R0.few
    rw [List.length_map] at few
    rw [m1.length_eq]
    exact few
  have lenU : (bs.map fun p => Value.ref p.1).length < 64 := by rw [List.length_map]; exact lenB
  generalize hus : (bs.map fun p => Value.ref p.1) = us at lenU
  have rv : Vals (bs.map fun p => V.ref p.1) us := by rw [← hus]; exact vals_refs bs
  obtain ⟨al, sb, ok⟩ := id soB
  refine wpAny_bind (wpAny_newList ?_ (by rw [sizeLine_eq]; omega))
  have atN : (s1.heap.push (seqObj "list" us.toArray 0)).get? s1.heap.objs.size = some (seqObj "list" us.toArray 0) := Heap.get?_push_size _ rfl
  have kp1 : ∀ b o, s.heap.get? b = some o → b ≠ s1.heap.objs.size ∧ (s1.heap.push (seqObj "list" us.toArray 0)).get? b = some o := fun b o e => ⟨Nat.ne_of_lt (Heap.lt_size (k1 b o e)), Heap.get?_push_of_some _ (k1 b o e)⟩
  have er : PySem.W.EachIs (fun u d => ∃ as, Reads (PySem.W.sortingHeap (s1.heap.push (seqObj "list" us.toArray 0)) s1.heap.objs.size us) u (toPy d) as) us (bs.map (·.2)) :=
    (reads_each I S rbs rv ok).mono fun _ _ ⟨as, q⟩ => ⟨as, PyProof.Rows.Reads.keeps (fun b o e => PySem.W.sortingHeap_old (kp1 b o e).1 (kp1 b o e).2) q⟩
  have hub : ∀ d, d ∈ (bs.map (·.2)).map toPy → X.A.in1.in1.units + d.depth < cLine := fun d hd => by
    obtain ⟨e, he, rfl⟩ := List.mem_map.mp hd
    have := (okD_lay 60 e (okDs_mem ok e he)).2
    show X.A.units + 1 + 1 + _ < _
    omega
  have SA := PySem.W.SortsAt.data (prog := X.prog) (w := X.w) (A := X.A.in1.in1) (s := { s1 with heap := PySem.W.sortingHeap (s1.heap.push (seqObj "list" us.toArray 0)) s1.heap.objs.size us }) (PySem.W.each_map (R := fun u d => ∃ as, Reads (PySem.W.sortingHeap (s1.heap.push (seqObj "list" us.toArray 0)) s1.heap.objs.size us) u d as) toPy er) al sb hub
  refine wpAny_bind (wpAny_holding (wpAny_call_entry slot_list_sort ⟨_, atN, rfl⟩ entry_list_sort (PySem.W.list_sort_vals (s := { s1 with heap := s1.heap.push (seqObj "list" us.toArray 0) }) atN SA (by rw [sizeLine_eq]; omega) ⟨.none, rfl, wpAny_pure ⟨_, rfl, ?_⟩⟩) (args_list_sort _)))
  have ev := PySem.W.sortVals_data false (reps_each rbs rv) er al
  generalize PySem.W.sortVals _ false us us = out at ev
  obtain ⟨vo, rvo, ro⟩ := each_reps ev
  obtain ⟨ep', hat⟩ := PyProof.Rows.sortedHeap_at (out := out.toArray) atN
  have hn : H s1.heap.objs.size = none := I.hok.fresh sz1
  have hvl : vo.length ≤ sizeLine := by rw [ro.length, List.length_mergeSort, List.length_map, sizeLine_eq]; omega
  have kpF : ∀ b o, s.heap.get? b = some o → (PyProof.Rows.sortedHeap (s1.heap.push (seqObj "list" us.toArray 0)) s1.heap.objs.size us out.toArray).get? b = some o := fun b o e => (PyProof.Rows.sortedHeap_old (kp1 b o e).1 (Heap.lt_size (kp1 b o e).2)).trans (kp1 b o e).2
  have J : L2.Inv X pins σ (upd H s1.heap.objs.size (.lst vo)) { s with heap := PyProof.Rows.sortedHeap (s1.heap.push (seqObj "list" us.toArray 0)) s1.heap.objs.size us out.toArray, gens := s1.gens, drawn := s1.drawn, toks := s1.toks } :=
    I.call (ch := []) (Un.laid kpF sz1 hn) (I.hok.laid kpF sz1 ⟨hvl, out, ep', rvo, hat⟩) (by rw [g1]; exact I.bare) (fun _ z => nomatch z)
  refine ⟨.ref s1.heap.objs.size, _, ?_, rfl, new_list S (by rw [List.length_mergeSort, List.length_map, sizeLine_eq]; omega) ro (w (bs.map (·.2)) ?_ fun d => ?_) p _ hn⟩
  · obtain ⟨h1, g', d', t', o'⟩ := s1
    cases o1
    exact J
  · exact (m1.map (·.2)).nodup_iff.mpr nd
  · rw [(m1.map (·.2)).mem_iff]
    refine ⟨fun hd => ?_, all d⟩
    obtain ⟨p, hp, rfl⟩ := List.mem_map.mp hd
    exact (rep p hp).2
/-! ### numbers -/
def rSetI (K : PySem.W.Frag) (cls : String → Option Addr) (w : World) : List V → Hp → VK → Prop := fun xs H Q => ∃ (F : Hp) (R : Rs) (μ : Mu) (ns : List Int), Sto K cls F R μ H ∧ Reps K F xs [.tup (ns.map D.int)] ∧ ns.length < 64 ∧
  ∀ a n, H a = none → n ≤ ns.length → Q (.ref a) (upd H a (L2.SetO w a (fun j => decide (j ∈ ns)) n))
theorem vals_ints : ∀ (ns : List Int) (vs : List V) (us : List Value), Reps X.K F vs (ns.map D.int) → Vals vs us → IntsAre us ns
  | [], _, _, .nil, .nil => .nil
  | n :: ns, _, _, .cons r rs, .cons q qs => by
    cases r
    obtain ⟨t, rfl⟩ := q
    exact .cons n t (vals_ints ns _ _ rs qs)
theorem cr_setI (hc : X.calm = true) : CallR X (.type "set") (rSetI X.K cls X.w) := by
  intro pins s σ H xs us Q I rr h
  obtain ⟨F, R, μ, ns, S, r, hl, q⟩ := h
  cases r with
  | cons r r0 =>
    cases r0
    cases r with
    | tup h1 h2 =>
      rw [Vals.ref1 rr]
      obtain ⟨its, rv, ⟨o, e1, e2, n, e3⟩, hz⟩ := I.tuple (SqT.of (S.ext _ _ h1))
      refine call_set_tupI (P := X.prog) (w := X.w) ns (I.ok.hd hc) ⟨o, e1, e2, n, e3⟩ (by simpa using vals_ints ns _ _ h2 rv) (by unfold scanBound; omega) fun h' tk c RN hcn keep => ?_
      exact ⟨.ref s.heap.objs.size, _, I.laid (t' := tk) keep (Nat.le_refl _) (setO_new RN), rfl, q _ c (I.hok.fresh (Nat.le_refl _)) hcn⟩
/-! ### both -/
def rSet2 (K : PySem.W.Frag) (cls : String → Option Addr) (w : World) : List V → Hp → VK → Prop := fun xs H Q => rSetD' K cls w xs H Q ∨ rSetI K cls w xs H Q
def rSort2 (K : PySem.W.Frag) (cls : String → Option Addr) (w : World) (m : Bool) : List V → Hp → VK → Prop := fun xs H Q => rSortS K cls w m xs H Q ∨ rSortedSet w xs H Q
theorem cr_set2 (hc : X.calm = true) (hu : X.A.units + 80 < cLine) : CallR X (.type "set") (rSet2 X.K cls X.w) := fun pins s σ H xs us Q I rr h => h.elim (fun h => cr_set hc hu pins s σ H xs us Q I rr h) fun h => cr_setI hc pins s σ H xs us Q I rr h
theorem cr_sort2 (hc : X.calm = true) (hu : X.A.units + 80 < cLine) (m : Bool) : CallR X (.builtin "sorted") (rSort2 X.K cls X.w m) := fun pins s σ H xs us Q I rr h => h.elim (fun h => cr_sortS hc hu m pins s σ H xs us Q I rr h) fun h => cr_sortedSet hc pins s σ H xs us Q I rr h
theorem leD_int (a b : Int) : leD (.int a) (.int b) = decide (a ≤ b) := by
  show (!PySem.W.dataLt (.int b) (.int a)) = _
  rw [PySem.W.dataLt_int, ← decide_not, decide_eq_decide]
  omega
theorem sort_ris (ns : List Int) (h : ns.Pairwise (· < ·)) : (ns.map D.int).mergeSort leD = ns.map D.int := by
  refine List.mergeSort_of_pairwise (List.pairwise_map.mpr (h.imp fun {a b} q => ?_))
  rw [leD_int, decide_eq_true_eq]
  omega
variable {P : MP} {G : Glb} {CXt : CXT} {W : WX} {a : E} {ea : Expr} {p0 p1 p2 pos pos2 : Pos}
theorem s_sset {m : Bool} {y z : Str} (hX : SC X P cls G CXt W) (hg : glB P y "sorted" = true) (hg2 : glB P z "set" = true) (ha : PE X ea (tE X.K cls G W a)) (h1 : headOk ea = true) : PE X (.Call (.Name y p0) [.Call (.Name z p1) [ea] [] pos2] [] pos) (tE X.K cls G W (.sset m a)) := by
  obtain ⟨e, g, dbg⟩ := gl_of hX hg
  obtain ⟨e2, g2, dbg2⟩ := gl_of hX hg2
  subst e e2
  refine PE.imp (pe_callB (cr_sort2 (cls := cls) hX.calm hX.hu m) g (hX.blt "sorted" (by decide)) boot_sorted (pa_cons (pe_callTy (cr_set2 (cls := cls) hX.calm hX.hu) g2 (hX.blt "set" (by decide)) (by decide +kernel) (pa_cons ha pa_nil (star_ok h1 _ _)) (by decide +kernel) dbg2 (star_ok h1 _ _) rfl) pa_nil) (by decide +kernel) dbg) fun σ H Q ⟨F, R, μ, ρ, k, x, re, S, w, p, px⟩ => ?_
  refine ⟨F, R, μ, ρ, _, x, re, S, w, fun d μ1 h2 v F1 H1 e1 S1 r1 => ?_, px⟩
  have p1 := p.mono e1
  cases d with
  | tup l =>
    obtain ⟨so, ⟨len, kind⟩, w⟩ := h2
    rcases kind with ⟨ns, rfl⟩ | kind
    · refine .inr ⟨F1, R, μ1, ns, S1, .cons r1 .nil, by simpa using len, fun b n hb hn => .inr ⟨b, _, n, rfl, upd_same, by rw [List.length_map] at len; omega, fun ms q h3 h4 h5 hq => ?_⟩⟩
      obtain ⟨e2, S2⟩ := S1.newF (o := L2.SetO X.w b (fun j => decide (j ∈ ns)) n) hb True.intro
      have w2 := w (ms.map D.int) (List.pairwise_map.mpr (h3.imp fun {a b} q e => by injection e with e; omega)) fun d => by
        simp only [List.mem_map]
        constructor
        · rintro ⟨i, hi, rfl⟩
          exact ⟨i, by have := (h4 i).mp hi; simpa using this, rfl⟩
        · rintro ⟨i, hi, rfl⟩
          exact ⟨i, (h4 i).mpr (by simpa using hi), rfl⟩
      rw [sort_ris ms h3] at w2
      refine new_list (m := m) S2 ?_ ?_ w2 (p1.mono e2) q hq
      · rw [List.length_map, h5]
        rw [List.length_map] at len
        rw [sizeLine_eq]
        omega
      · clear w2 h3 h4 h5
        induction ms with
        | nil => exact .nil
        | cons i r ih => exact .cons (.int _) ih
    · refine .inl ⟨F1, R, μ1, l, S1, .cons r1 .nil, kind, len, fun b as hb rep all nd => .inl ?_⟩
      obtain ⟨e2, S2⟩ := S1.newF (o := SetO X.w b (as.map fun p => (p.1, nkD p.2))) hb True.intro
      exact ⟨_, R, μ1, l, k, b, as, rfl, S2, upd_same, len, so, kind, fun p hp => ⟨(rep p hp).1.mono e2, (rep p hp).2⟩, all, nd, w, p1.mono e2⟩
  | _ => exact h2.elim
theorem s_rev (ha : PE X ea (tE X.K cls G W a)) {j : Nat} : PE X (.Subscript ea (.Slice none none (some (.UnaryOp .USub (.Constant (.int 1) j p0) p1)) p2) pos) (tE X.K cls G W (.rev a)) :=
  PE.imp (pe_rev ha) fun σ H Q ⟨F, R, μ, ρ, k, x, re, S, w, p, px⟩ => ⟨F, R, μ, ρ, _, x, re, S, w, fun d μ1 h2 v F1 H1 e1 S1 r1 => by
    cases r1 with
    | @tup b xs ds h3 h4 =>
      refine ⟨b, xs, rfl, SqT.of (S1.ext _ _ h3), new_tup S1 ?_ h4.reverse h2 (p.mono e1)⟩
      rw [List.length_reverse, ← h4.length]
      exact S1.big _ _ h3
    | _ => exact h2.elim, px⟩
end
end SR

/-! targets, comprehensions -/
namespace SR
open PySem PySem.Spec PyProof.Rows L2 RZ

/-! ### targets -/
def gD (K : PySem.W.Frag) (cls : String → Option Addr) (t : Tg) : TG := fun v σ H Q =>
  ∃ (F : Hp) (R : Rs) (μ : Mu) (ρ : En) (d : D) (k : En → Prop), RelEn K F ρ σ ∧ Sto K cls F R μ H ∧ Rep K F v d ∧ asgW t d ρ k ∧
    ∀ ρ', k ρ' → ∀ σ', RelEn K F ρ' σ' → σ'.length = σ.length → (∀ (j : Nat), j ∉ slots t → σ'[j]? = σ[j]?) → Q σ' H
def gDs (K : PySem.W.Frag) (cls : String → Option Addr) (ts : List Tg) : TGs := fun vs σ H Q =>
  ∃ (F : Hp) (R : Rs) (μ : Mu) (ρ : En) (ds : List D) (k : En → Prop), RelEn K F ρ σ ∧ Sto K cls F R μ H ∧ Reps K F vs ds ∧ asgsW ts ds ρ k ∧
    ∀ ρ', k ρ' → ∀ σ', RelEn K F ρ' σ' → σ'.length = σ.length → (∀ (j : Nat), j ∉ slotss ts → σ'[j]? = σ[j]?) → Q σ' H
theorem PG.imp {X : Cx} {e : Expr} {t t' : TG} (h : PG X e t) (f : ∀ v σ H Q, t' v σ H Q → t v σ H Q) : PG X e t' := ⟨fun pins s σ H v u Q I r q => h.run pins s σ H v u Q I r (f v σ H Q q)⟩
theorem PGs.imp {X : Cx} {e : List Expr} {t t' : TGs} (h : PGs X e t) (f : ∀ v σ H Q, t' v σ H Q → t v σ H Q) : PGs X e t' := ⟨fun pins s σ H v u Q I r q => h.run pins s σ H v u Q I r (f v σ H Q q)⟩
theorem mTg_plain (P : MP) : ∀ (t : Tg) (e : Expr), mTg P t e = true → ∀ es env, assignEach (e :: es) env = (false, assign e env) :: assignEach es env
  | .nm i, e, h, es, env => by cases e <;> first | rfl | exact absurd (show false = true from h) Bool.false_ne_true
  | .tup ts, e, h, es, env => by cases e <;> first | rfl | exact absurd (show false = true from h) Bool.false_ne_true
theorem mTgs_each (P : MP) : ∀ (ts : List Tg) (es : List Expr), mTgs P ts es = true → ∀ env, (assignEach es env).length = ts.length ∧ es.length = ts.length ∧ (assignEach es env).findIdx? (·.1) = none
  | [], es, h, env => by
    cases es with
    | nil => exact ⟨rfl, rfl, rfl⟩
    | cons _ _ => exact absurd (show false = true from h) Bool.false_ne_true
  | t :: ts, es, h, env => by
    cases es with
    | nil => exact absurd (show false = true from h) Bool.false_ne_true
    | cons e es =>
      have h' : (mTg P t e && mTgs P ts es) = true := h
      rw [Bool.and_eq_true] at h'
      obtain ⟨i1, i2, i3⟩ := mTgs_each P ts es h'.2 env
      rw [mTg_plain P t e h'.1]
      refine ⟨by rw [List.length_cons, i1]; rfl, by rw [List.length_cons, i2]; rfl, ?_⟩
      rw [List.findIdx?_cons, i3]
      rfl
section
variable {X : Cx} {P : MP} {cls : String → Option Addr} {G : Glb} {CXt : CXT} {W : WX}
mutual
theorem s_tg (hX : SC X P cls G CXt W) : ∀ (t : Tg) (e : Expr), mTg P t e = true → PG X e (gD X.K cls t)
  | .nm i, e, h => by
    cases e <;> first | exact absurd (show false = true from h) Bool.false_ne_true | skip
    rename_i y pos
    have h' : locB P i y = true := h
    unfold locB at h'
    simp only [Bool.and_eq_true, decide_eq_true_eq] at h'
    obtain ⟨h1, h2⟩ := h'
    have ek : X.env.scope.names.lookup y = P.kind y := by rw [hX.sc]; rfl
    have hl : L2.Loc X.env.scope y ∧ (X.fn y = true ∨ X.env.scope.names.lookup y = some .local) := by
      unfold L2.Loc
      rw [ek, hX.fn]
      cases q : P.kind y with
      | none => rw [q] at h2; cases h2
      | some kd =>
        rw [q] at h2
        cases kd <;> first | exact ⟨.inl rfl, .inr rfl⟩ | exact ⟨.inr rfl, .inl h2⟩ | cases h2
    refine PG.imp (pg_name (by rw [hX.hN]; exact hX.nd) (by rw [hX.hN]; exact h1) hl.1 hl.2) fun v σ H Q ⟨F, R, μ, ρ, d, k, re, S, r, w, q⟩ => ?_
    exact q _ w _ (re.set r i) (List.length_set ..) fun j hj => List.getElem?_set_ne fun z => hj (by rw [z]; exact List.mem_singleton.mpr rfl)
  | .tup ts, e, h => by
    cases e <;> first | exact absurd (show false = true from h) Bool.false_ne_true | skip
    rename_i es j pos
    obtain ⟨i1, i2, i3⟩ := mTgs_each P ts es h X.env
    have both : PG X (.Tuple es j pos) fun v σ H Q => gTup X.K ts.length (gDs X.K cls ts) v σ H Q ∨ gUnl X.K ts.length (gDs X.K cls ts) v σ H Q := ⟨fun pins s σ H v u Q I r q =>
      q.elim (fun q => (pg_tup hX.calm (s_tgs hX ts es h) i1 i3).run pins s σ H v u Q I r q) fun q => (pg_unl hX.calm (s_tgs hX ts es h) i1 i3).run pins s σ H v u Q I r q⟩
    refine PG.imp both fun v σ H Q ⟨F, R, μ, ρ, d, k, re, S, r, w, q⟩ => ?_
    cases r with
    | tup h1 h2 =>
      exact .inl ⟨_, _, rfl, SqT.of (S.ext _ _ h1), by rw [h2.length]; exact w.1, F, R, μ, ρ, _, k, re, S, h2, w.2, q⟩
    | lst h1 h2 =>
      exact .inr ⟨_, _, rfl, SqL.of (S.ext _ _ h1), by rw [h2.length]; exact w.1, F, R, μ, ρ, _, k, re, S, h2, w.2, q⟩
    | _ => exact w.elim
theorem s_tgs (hX : SC X P cls G CXt W) : ∀ (ts : List Tg) (es : List Expr), mTgs P ts es = true → PGs X es (gDs X.K cls ts)
  | [], es, h => by
    cases es with
    | nil =>
      refine PGs.imp pgs_nil fun vs σ H Q ⟨F, R, μ, ρ, ds, k, re, S, r, w, q⟩ => ?_
      cases r with
      | nil => exact ⟨rfl, q _ w _ re rfl fun _ _ => rfl⟩
      | cons _ _ => exact w.elim
    | cons _ _ => exact absurd (show false = true from h) Bool.false_ne_true
  | t :: ts, es, h => by
    cases es with
    | nil => exact absurd (show false = true from h) Bool.false_ne_true
    | cons e es =>
      have h' : (mTg P t e && mTgs P ts es) = true := h
      rw [Bool.and_eq_true] at h'
      refine PGs.imp (pgs_cons (s_tg hX t e h'.1) (s_tgs hX ts es h'.2) (by rw [mTg_plain P t e h'.1]; rfl)) fun vs σ H Q ⟨F, R, μ, ρ, ds, k, re, S, r, w, q⟩ => ?_
      cases r with
      | nil => exact w.elim
      | cons r1 r2 =>
        refine ⟨_, _, rfl, F, R, μ, ρ, _, _, re, S, r1, w, fun ρ' w' σ' re' hl hj => ?_⟩
        refine ⟨F, R, μ, ρ', _, k, re', S, r2, w', fun ρ2 w2 σ2 re2 hl2 hj2 => q ρ2 w2 σ2 re2 (hl2.trans hl) fun j hn => ?_⟩
        have hn' : j ∉ slots t ++ slotss ts := hn
        rw [List.mem_append] at hn'
        exact (hj2 j fun z => hn' (.inr z)).trans (hj j fun z => hn' (.inl z))
end
end
end SR

/-! comprehensions, tests -/
namespace SR
open PySem PySem.Spec PyProof.Rows L2 RZ

def W0 : WX := fun _ _ _ _ => False
def tC' (K : PySem.W.Frag) (cls : String → Option Addr) (G : Glb) (c : Option E) : TT := fun σ H Q =>
  ∃ (F : Hp) (R : Rs) (μ : Mu) (ρ : En) (kk : Bool → Mu → Prop), RelEn K F ρ σ ∧ Sto K cls F R μ H ∧ wpC G c ρ μ kk ∧ ∀ t μ', kk t μ' → ∀ F' H', Same F F' → Sto K cls F' R μ' H' → Q t H'
theorem wipe_same {σ τ : L2.St} (hl : τ.length = σ.length) : ∀ vs : List Nat, (∀ (j : Nat), j ∉ vs → τ[j]? = σ[j]?) → L2.wipe τ vs = L2.wipe σ vs := by
  have at_ : ∀ (vs : List Nat) (σ : L2.St) (j : Nat), (L2.wipe σ vs)[j]? = if j ∈ vs ∧ j < σ.length then some none else σ[j]? := by
    intro vs
    induction vs with
    | nil => intro σ j; simp [L2.wipe]
    | cons v vs ih =>
      intro σ j
      show ((L2.wipe σ vs).set v none)[j]? = _
      by_cases e : v = j
      · subst e
        by_cases h : v < σ.length
        · rw [List.getElem?_set_self (by rw [L2.wipe_length]; exact h), if_pos ⟨List.mem_cons_self, h⟩]
        · rw [List.getElem?_eq_none (by rw [List.length_set, L2.wipe_length]; omega), if_neg (fun z => h z.2), List.getElem?_eq_none (by omega)]
      · rw [List.getElem?_set_ne e, ih]
        by_cases q : j ∈ vs ∧ j < σ.length
        · rw [if_pos q, if_pos ⟨List.mem_cons_of_mem _ q.1, q.2⟩]
        · rw [if_neg q, if_neg fun z => q ⟨(List.mem_cons.mp z.1).elim (fun w => absurd w.symm e) id, z.2⟩]
  intro vs h
  apply List.ext_getElem?
  intro j
  rw [at_, at_, hl]
  by_cases q : j ∈ vs ∧ j < σ.length
  · rw [if_pos q, if_pos q]
  · rw [if_neg q, if_neg q]
    by_cases m : j ∈ vs
    · rw [List.getElem?_eq_none (by rw [hl]; exact Nat.le_of_not_lt fun z => q ⟨m, z⟩), List.getElem?_eq_none (Nat.le_of_not_lt fun z => q ⟨m, z⟩)]
    · exact h j m
theorem wipe_twice {σ : L2.St} (vs : List Nat) : L2.wipe (L2.wipe σ vs) vs = L2.wipe σ vs := by
  refine wipe_same (L2.wipe_length σ vs) vs fun j h => ?_
  exact L2.wipe_out h

section
variable {X : Cx} {P : MP} {cls : String → Option Addr} {G : Glb} {CXt : CXT} {W : WX}
/-- the loop of a comprehension -/
theorem lc_loop {K : PySem.W.Frag} {w : Wk} {tg : Tg} {own : List Nat} {cond : Option E} {elt : E} {src : List E} {m : Bool} {σ : L2.St} {H : Hp} {Q : VK} {own' : List Nat} (ho : own' = own) (hsl : ∀ i ∈ slots tg, i ∈ own)
    (h : tE K cls G W (.lc m own tg w src cond elt) σ H Q) : tLc (iWk K cls w (tEs K cls G W src)) (gD K cls tg) (tC' K cls G cond) (tE K cls G W0 elt) own' σ H Q := by
  subst ho
  obtain ⟨F, R, μ, ρ, k, x, re, S, wp, p, px⟩ := h
  refine ⟨F, R, μ, ρ, _, x, re, S, wp, fun ds μ1 h1 vs F1 H1 e1 S1 r1 => ?_, px⟩
  refine ⟨F1, R, μ1, ds, _, S1, r1, h1, fun items pin hk F2 H2 J e2 S2 wk hp Da hD => ?_⟩
  have rD : R Da = none := by
    cases q : R Da with
    | none => rfl
    | some l => have := (S2.frm Da l q).1; rw [hD] at this; cases this
  have e12 := e1.trans e2
  refine ⟨fun i mm Hh => ∃ (Fh : Hp) (μh : Mu) (acc : List D) (vacc : List V), mm = items.length - i ∧ i ≤ items.length ∧ Same F2 Fh ∧ Sto K cls Fh (R.set Da vacc) μh Hh ∧ Reps K Fh vacc acc ∧ acc.length ≤ i ∧
      lcW pin (fun d μ2 k2 => asgW tg d (wipeD ρ own') fun ρ2 => wpC G cond ρ2 μ2 fun b μ3 => if b = true then wpE G elt ρ2 μ3 (fun e μ4 => k2 (some e) μ4) (fun _ _ => False) else k2 none μ3) (items.drop i) acc μh fun l μ5 => newL m l μ5 k,
    ⟨items.length, F2, μ1, [], [], rfl, Nat.zero_le _, Same.refl _, S2.keepNew hD [], .nil, Nat.le_refl _, hk⟩, ?_⟩
  rintro i mm Hh ⟨Fh, μh, acc, vacc, rfl, hi, eh, Sh, rr, hlen, wl⟩
  by_cases hlt : i < items.length
  · have hd : items.drop i = items[i] :: items.drop (i + 1) := List.drop_eq_getElem_cons hlt
    rw [hd] at wl
    obtain ⟨hpin, wl⟩ := wl
    refine .inr ⟨wk.go i Fh _ μh Hh eh Sh hpin hlt, fun H' => ∃ (F' : Hp) (μ' : Mu) (acc' : List D) (vacc' : List V), Same F2 F' ∧ Sto K cls F' (R.set Da vacc') μ' H' ∧ Reps K F' vacc' acc' ∧ acc'.length ≤ i + 1 ∧
      lcW pin (fun d μ2 k2 => asgW tg d (wipeD ρ own') fun ρ2 => wpC G cond ρ2 μ2 fun b μ3 => if b = true then wpE G elt ρ2 μ3 (fun e μ4 => k2 (some e) μ4) (fun _ _ => False) else k2 none μ3) (items.drop (i + 1)) acc' μ' fun l μ5 => newL m l μ5 k,
      fun H' ⟨F', μ', acc', vacc', a1, a2, a3, a4, a5⟩ => ⟨items.length - (i + 1), by omega, F', μ', acc', vacc', rfl, hlt, a1, a2, a3, a4, a5⟩, fun x' H' hy => ?_⟩
    obtain ⟨Fy, ey, Sy, ry⟩ := wk.yld i Fh _ μh Hh x' H' _ eh Sh hpin (List.getElem?_eq_getElem hlt) hy
    have reY := re.mono ((e12.trans eh).trans ey)
    refine ⟨Fy, _, μh, wipeD ρ own', _, _, reY.wipe own', Sy, ry, wl, fun ρ2 hc σ2 re2 hl2 hj2 => ⟨?_, ?_⟩⟩
    · rw [wipe_same (σ := L2.wipe σ own') (τ := σ2) hl2 own' fun j hj => hj2 j fun z => hj (hsl j z), wipe_twice]
    refine ⟨Fy, _, μh, ρ2, _, re2, Sy, hc, fun t μ3 ht F3 H3 e3 S3 => ?_⟩
    cases t with
    | false =>
      refine ⟨F3, μ3, acc, vacc, (eh.trans ey).trans e3, S3, rr.mono (ey.trans e3), Nat.le_succ_of_le hlen, ?_⟩
      have ht' := (show lcW pin _ (items.drop (i + 1)) (acc ++ (none : Option D).toList) μ3 _ from ht)
      rw [show acc ++ (none : Option D).toList = acc from List.append_nil acc] at ht'
      exact ht'
    | true =>
      refine ⟨F3, _, μ3, ρ2, _, _, re2.mono e3, S3, ht, fun e μ4 h4 v4 F4 H4 e4 S4 r4 => ?_, fun _ _ z => z.elim⟩
      refine ⟨vacc, (S4.frm Da vacc (if_pos rfl)).1, ?_, F4, μ4, acc ++ [e], vacc ++ [v4], ((eh.trans ey).trans e3).trans e4, S4.keepPut _, (rr.mono ((ey.trans e3).trans e4)).append (.cons r4 .nil), ?_, h4⟩
      · rw [rr.length]; exact Nat.lt_of_le_of_lt hlen (Nat.lt_of_lt_of_le hlt wk.len)
      · rw [List.length_append, List.length_singleton]; omega
  · have ei : i = items.length := by omega
    subst ei
    rw [List.drop_length] at wl
    obtain ⟨hpin, wl⟩ := wl
    refine .inl ⟨wk.stop Fh _ μh Hh eh Sh hpin, ?_⟩
    have hz : acc.length ≤ sizeLine := Nat.le_trans hlen wk.len
    have pf := p.mono (e12.trans eh)
    cases m with
    | true =>
      have wl' : ∀ a, μh a = none → k (.ref a) (μh.set a (.lst acc)) := wl
      obtain ⟨mD, S'⟩ := Sh.giveM rD rr hz
      exact pf _ _ (wl' Da mD) _ Fh Hh (Same.refl _) S' (.ref Da)
    | false =>
      have wl' : k (.lst acc) μh := wl
      obtain ⟨e', S'⟩ := Sh.giveF rD (by rw [rr.length]; exact hz)
      exact pf _ _ wl' _ _ Hh e' S' (.lst upd_same (rr.mono e'))
/-- two clauses -/
theorem lc2_loop {K : PySem.W.Frag} {w w2 : Wk} {tg tg2 : Tg} {own own2 : List Nat} {elt : E} {src src2 : List E} {m : Bool} {σ : L2.St} {H : Hp} {Q : VK} {own' : List Nat} (ho : own' = own) (hsl : ∀ i ∈ slots tg, i ∈ own) (hsl2 : ∀ i ∈ slots tg2, i ∈ own2)
    (h : tE K cls G W (.lc2 m own own2 tg w src tg2 w2 src2 elt) σ H Q) :
    tLc2 (iWk K cls w (tEs K cls G W src)) (gD K cls tg) tYes (iWk K cls w2 (tEs K cls G W0 src2)) (gD K cls tg2) tYes (tE K cls G W0 elt) own' own2 σ H Q := by
  subst ho
  obtain ⟨F, R, μ, ρ, k, x, re, S, wp, p, px⟩ := h
  refine ⟨F, R, μ, ρ, _, x, re, S, wp, fun ds μ1 h1 vs F1 H1 e1 S1 r1 => ?_, px⟩
  refine ⟨F1, R, μ1, ds, _, S1, r1, h1, fun items pin hk F2 H2 J e2 S2 wk hp Da hD => ?_⟩
  have rD : R Da = none := by
    cases q : R Da with
    | none => rfl
    | some l => have := (S2.frm Da l q).1; rw [hD] at this; cases this
  have e12 := e1.trans e2
  generalize hst : (fun (d : D) (acc : List D) (μ2 : Mu) (k2 : List D → Mu → Prop) => asgW tg d (wipeD ρ own') fun ρ2 => wpEs G src2 ρ2 μ2 (fun ds2 μ3 => walkW w2 ds2 μ3 fun items2 pin2 =>
        lcWb pin2 (fun d2 μ4 k4 => asgW tg2 d2 (wipeD ρ2 own2) fun ρ3 => wpE G elt ρ3 μ4 (fun e μ5 => k4 e μ5) fun _ _ => False) items2 acc μ3 k2) fun _ _ => False) = step at hk
  refine ⟨fun i mm Hh => ∃ (Fh : Hp) (μh : Mu) (acc : List D) (vacc : List V), mm = items.length - i ∧ i ≤ items.length ∧ Same F2 Fh ∧ Sto K cls Fh (R.set Da vacc) μh Hh ∧ Reps K Fh vacc acc ∧ acc.length ≤ sizeLine ∧
      lcW2 pin step (items.drop i) acc μh fun l μ5 => newL m l μ5 k,
    ⟨items.length, F2, μ1, [], [], rfl, Nat.zero_le _, Same.refl _, S2.keepNew hD [], .nil, Nat.zero_le _, hk⟩, ?_⟩
  rintro i mm Hh ⟨Fh, μh, acc, vacc, rfl, hi, eh, Sh, rr, hlen, wl⟩
  by_cases hlt : i < items.length
  · have hd : items.drop i = items[i] :: items.drop (i + 1) := List.drop_eq_getElem_cons hlt
    rw [hd] at wl
    obtain ⟨hpin, wl⟩ := wl
    refine .inr ⟨wk.go i Fh _ μh Hh eh Sh hpin hlt, fun H' => ∃ (F' : Hp) (μ' : Mu) (acc' : List D) (vacc' : List V), Same F2 F' ∧ Sto K cls F' (R.set Da vacc') μ' H' ∧ Reps K F' vacc' acc' ∧ acc'.length ≤ sizeLine ∧
      lcW2 pin step (items.drop (i + 1)) acc' μ' fun l μ5 => newL m l μ5 k,
      fun H' ⟨F', μ', acc', vacc', a1, a2, a3, a4, a5⟩ => ⟨items.length - (i + 1), by omega, F', μ', acc', vacc', rfl, hlt, a1, a2, a3, a4, a5⟩, fun x' H' hy => ?_⟩
    obtain ⟨Fy, ey, Sy, ry⟩ := wk.yld i Fh _ μh Hh x' H' _ eh Sh hpin (List.getElem?_eq_getElem hlt) hy
    have reY := re.mono ((e12.trans eh).trans ey)
    rw [← hst] at wl
    refine ⟨Fy, _, μh, wipeD ρ own', _, _, reY.wipe own', Sy, ry, wl, fun ρ2 hc σ2 re2 hl2 hj2 => ⟨?_, ?_⟩⟩
    · rw [wipe_same (σ := L2.wipe σ own') (τ := σ2) hl2 own' fun j hj => hj2 j fun z => hj (hsl j z), wipe_twice]
    show (iWk K cls w2 (tEs K cls G W0 src2)) σ2 H' _
    refine ⟨Fy, _, μh, ρ2, _, _, re2, Sy, hc, fun ds2 μ3 h3 vs2 F3 H3 e3 S3 r3 => ?_, fun _ _ z => z.elim⟩
    refine ⟨F3, _, μ3, ds2, _, S3, r3, h3, fun items2 pin2 hk2 F4 H4 J2 e4 S4 wk2 hp2 => ?_⟩
    have e24 : Same F2 F4 := ((eh.trans ey).trans e3).trans e4
    have re4 := re2.mono (e3.trans e4)
    refine ⟨fun j mm2 Hj => ∃ (Fj : Hp) (μj : Mu) (accj : List D) (vaccj : List V), mm2 = items2.length - j ∧ j ≤ items2.length ∧ Same F4 Fj ∧ Sto K cls Fj (R.set Da vaccj) μj Hj ∧ Reps K Fj vaccj accj ∧ accj.length ≤ sizeLine ∧
        lcWb pin2 (fun d2 μ4 k4 => asgW tg2 d2 (wipeD ρ2 own2) fun ρ3 => wpE G elt ρ3 μ4 (fun e μ5 => k4 e μ5) fun _ _ => False) (items2.drop j) accj μj fun acc' μ' => lcW2 pin step (items.drop (i + 1)) acc' μ' fun l μ5 => newL m l μ5 k,
      ⟨items2.length, F4, μ3, acc, vacc, rfl, Nat.zero_le _, Same.refl _, S4, rr.mono ((ey.trans e3).trans e4), hlen, by rw [← hst]; exact hk2⟩, ?_⟩
    rintro j mm2 Hj ⟨Fj, μj, accj, vaccj, rfl, hj, ej, Sj, rj, hlj, wj⟩
    by_cases hlt2 : j < items2.length
    · have hd2 : items2.drop j = items2[j] :: items2.drop (j + 1) := List.drop_eq_getElem_cons hlt2
      rw [hd2] at wj
      obtain ⟨hpin2, wj⟩ := wj
      refine .inr ⟨wk2.go j Fj _ μj Hj ej Sj hpin2 hlt2, fun H' => ∃ (F' : Hp) (μ' : Mu) (acc' : List D) (vacc' : List V), Same F4 F' ∧ Sto K cls F' (R.set Da vacc') μ' H' ∧ Reps K F' vacc' acc' ∧ acc'.length ≤ sizeLine ∧
        lcWb pin2 (fun d2 μ4 k4 => asgW tg2 d2 (wipeD ρ2 own2) fun ρ3 => wpE G elt ρ3 μ4 (fun e μ5 => k4 e μ5) fun _ _ => False) (items2.drop (j + 1)) acc' μ' fun acc' μ' => lcW2 pin step (items.drop (i + 1)) acc' μ' fun l μ5 => newL m l μ5 k,
        fun H' ⟨F', μ', acc', vacc', a1, a2, a3, a4, a5⟩ => ⟨items2.length - (j + 1), by omega, F', μ', acc', vacc', rfl, hlt2, a1, a2, a3, a4, a5⟩, fun x2 H5 hy2 => ?_⟩
      obtain ⟨Fz, ez, Sz, rz⟩ := wk2.yld j Fj _ μj Hj x2 H5 _ ej Sj hpin2 (List.getElem?_eq_getElem hlt2) hy2
      refine ⟨Fz, _, μj, wipeD ρ2 own2, _, _, (re4.mono (ej.trans ez)).wipe own2, Sz, rz, wj, fun ρ3 hc3 σ3 re3 hl3 hj3 => ⟨?_, ?_⟩⟩
      · rw [wipe_same (σ := L2.wipe σ2 own2) (τ := σ3) hl3 own2 fun j hj => hj3 j fun z => hj (hsl2 j z), wipe_twice]
      show (tE K cls G W0 elt) σ3 H5 _
      refine ⟨Fz, _, μj, ρ3, _, _, re3, Sz, hc3, fun e μ6 h6 v6 F6 H6 e6 S6 r6 => ?_, fun _ _ z => z.elim⟩
      have rj6 := rj.mono (ez.trans e6)
      refine ⟨vaccj, (S6.frm Da vaccj (if_pos rfl)).1, by rw [rj.length]; exact h6.1, F6, μ6, accj ++ [e], vaccj ++ [v6], (ej.trans ez).trans e6, S6.keepPut _, rj6.append (.cons r6 .nil), ?_, h6.2⟩
      rw [List.length_append, List.length_singleton]
      exact h6.1
    · have ei : j = items2.length := by omega
      subst ei
      rw [List.drop_length] at wj
      obtain ⟨hpin2, wj⟩ := wj
      exact .inl ⟨wk2.stop Fj _ μj Hj ej Sj hpin2, Fj, μj, accj, vaccj, e24.trans ej, Sj, rj, hlj, wj⟩
  · have ei : i = items.length := by omega
    subst ei
    rw [List.drop_length] at wl
    obtain ⟨hpin, wl⟩ := wl
    refine .inl ⟨wk.stop Fh _ μh Hh eh Sh hpin, ?_⟩
    have pf := p.mono (e12.trans eh)
    cases m with
    | true =>
      have wl' : ∀ a, μh a = none → k (.ref a) (μh.set a (.lst acc)) := wl
      obtain ⟨mD, S'⟩ := Sh.giveM rD rr hlen
      exact pf _ _ (wl' Da mD) _ Fh Hh (Same.refl _) S' (.ref Da)
    | false =>
      have wl' : k (.lst acc) μh := wl
      obtain ⟨e', S'⟩ := Sh.giveF rD (by rw [rr.length]; exact hlen)
      exact pf _ _ wl' _ _ Hh e' S' (.lst upd_same (rr.mono e'))

/-! ### tests -/
theorem s_test {e : Expr} {a : E} (he : PE X e (tE X.K cls G W a)) (ht : ∀ whole, isTrue e X.env whole = (do let v ← whole; standAt e.pos; holding [v] (truthy v))) : PT X e (tT X.K cls G W a) :=
  PT.imp (pt_val he ht) fun σ H Q ⟨F, R, μ, ρ, kk, x, re, S, w, p, px⟩ => ⟨F, R, μ, ρ, _, x, re, S, w, fun d μ1 h1 v F1 H1 e1 S1 r1 => by
    obtain ⟨t, rfl, rfl, h⟩ := unbl_rep h1 r1
    exact ⟨t, rfl, p _ _ h F1 H1 e1 S1⟩, px⟩
variable {a b c : E} {ea eb ec : Expr} {pos : Pos}
theorem t_cmp {op : Cm} {o : CmpOp} (hu : X.A.units + 80 < cLine) (ha : PE X ea (tE X.K cls G W a)) (hb : PE X eb (tE X.K cls G W b)) (ho : cmB op o = true) (hm : behindInMarks o eb = false) : PT X (.Compare ea [o] [eb] pos) (tT X.K cls G W (.cmp op a b)) := by
  have e : o = cmOf op := by cases op <;> cases o <;> first | rfl | cases ho
  subst e
  refine PT.imp (pt_cmpR (op_cmp (cls := cls) op hu) ha hb hm) fun σ H Q ⟨F, R, μ, ρ, kk, x, re, S, w, p, px⟩ => ?_
  refine two re S w (fun d μ1 h1 v F1 H1 e1 S1 r1 => ?_) px
  obtain ⟨t, rfl, rfl, h⟩ := unbl_rep h1 r1
  exact ⟨t, rfl, p _ _ h F1 H1 e1 S1⟩
theorem t_chain {o p : Cm} {o' p' : CmpOp} (hu : X.A.units + 80 < cLine) (ha : PE X ea (tE X.K cls G W a)) (hb : PE X eb (tE X.K cls G W b)) (hc : PE X ec (tE X.K cls G W c)) (ho : cmB o o' = true) (hp : cmB p p' = true) (hm : lastMarks [o', p'] [eb, ec] = false) :
    PT X (.Compare ea [o', p'] [eb, ec] pos) (tT X.K cls G W (.chain o p a b c)) := by
  have e1 : o' = cmOf o := by cases o <;> cases o' <;> first | rfl | cases ho
  have e2 : p' = cmOf p := by cases p <;> cases p' <;> first | rfl | cases hp
  subst e1 e2
  refine PT.imp (pt_chain (op_cmp (cls := cls) o hu) (op_cmp (cls := cls) p hu) ha hb hc hm) fun σ H Q ⟨F, R, μ, ρ, kk, x, re, S, w, p, px⟩ => ?_
  refine ⟨F, R, μ, ρ, _, x, re, S, w, fun d μ1 h1 v F1 H1 e1 S1 r1 => ⟨F1, R, μ1, ρ, _, x, re.mono e1, S1, h1, fun e μ2 h2 v2 F2 H2 e2 S2 r2 => ⟨F2, R, μ2, d, e, _, S2, r1.mono e2, r2, h2, fun g μ3 h3 v3 F3 H3 e3 S3 r3 => ?_⟩, px.mono e1⟩, px⟩
  obtain ⟨t, rfl, rfl, h3⟩ := unbl_rep h3 r3
  refine ⟨t, rfl, ?_⟩
  have e13 := (e1.trans e2).trans e3
  cases t with
  | true => exact ⟨F3, R, μ3, ρ, _, x, re.mono e13, S3, h3, fun f μ4 h4 v4 F4 H4 e4 S4 r4 => ⟨F4, R, μ4, e, f, _, S4, r2.mono (e3.trans e4), r4, h4, fun g μ5 h5 v5 F5 H5 e5 S5 r5 => by
      obtain ⟨t, rfl, rfl, h⟩ := unbl_rep h5 r5
      exact ⟨t, rfl, p _ _ h F5 H5 ((e13.trans e4).trans e5) S5⟩⟩, px.mono e13⟩
  | false => exact ⟨false, rfl, p _ _ h3 F3 H3 e13 S3⟩
theorem t_not (ha : PT X ea (tT X.K cls G W a)) : PT X (.UnaryOp .Not ea pos) (tT X.K cls G W (.nt a)) :=
  PT.imp (pt_not ha) fun σ H Q ⟨F, R, μ, ρ, kk, x, re, S, w, p, px⟩ => ⟨F, R, μ, ρ, fun t μ1 => kk (!t) μ1, x, re, S, w, fun t μ' h => p _ _ h, px⟩
theorem t_and {xs : List Expr} (ha : PT X ea (tT X.K cls G W a)) (hb : PW X (.BoolOp .And (eb :: xs) pos) (tT X.K cls G W b)) : PW X (.BoolOp .And (ea :: eb :: xs) pos) (tT X.K cls G W (.and_ a b)) :=
  ⟨fun wh pins s σ H Q I ⟨F, R, μ, ρ, kk, x, re, S, w, p, px⟩ => (pw_and ha hb).run wh pins s σ H Q I ⟨F, R, μ, ρ, fun t μ1 => if t = true then wpE G b ρ μ1 (fun d μ1 => unbl d fun t => kk t μ1) x else kk false μ1, x, re, S, w, fun t μ' h F' H' e S' => by
    cases t with
    | true => exact ⟨F', R, μ', ρ, kk, x, re.mono e, S', h, fun t μ2 h2 F2 H2 e2 => p t μ2 h2 F2 H2 (e.trans e2), px.mono e⟩
    | false => exact p _ _ h F' H' e S', px⟩⟩
theorem t_or {xs : List Expr} (ha : PT X ea (tT X.K cls G W a)) (hb : PW X (.BoolOp .Or (eb :: xs) pos) (tT X.K cls G W b)) : PW X (.BoolOp .Or (ea :: eb :: xs) pos) (tT X.K cls G W (.or_ a b)) :=
  ⟨fun wh pins s σ H Q I ⟨F, R, μ, ρ, kk, x, re, S, w, p, px⟩ => (pw_or ha hb).run wh pins s σ H Q I ⟨F, R, μ, ρ, fun t μ1 => if t = true then kk true μ1 else wpE G b ρ μ1 (fun d μ1 => unbl d fun t => kk t μ1) x, x, re, S, w, fun t μ' h F' H' e S' => by
    cases t with
    | true => exact p _ _ h F' H' e S'
    | false => exact ⟨F', R, μ', ρ, kk, x, re.mono e, S', h, fun t μ2 h2 F2 H2 e2 => p t μ2 h2 F2 H2 (e.trans e2), px.mono e⟩, px⟩⟩
end
end SR

/-! every expression that is matched is worth what its tree is -/
namespace SR
open PySem PySem.Spec PyProof.Rows L2 RZ
section
variable {X : Cx} {P : MP} {cls : String → Option Addr} {G : Glb} {CXt : CXT} {W : WX}
theorem SC.blk (hX : SC X P cls G CXt W) (s : Shared) (H : Hp) (scope : Scope) (C : Addr) (cl : List (Str × Addr)) (fp : List Addr) : SC (X.blk s H scope (compEnvC scope cl C X.env) fp) (P.blk scope) cls G CXt W0 where
  hN := hX.hN
  nd := hX.nd
  sc := by
    show relabel scope X.env = relS scope P.sc
    rw [← hX.sc]
    rfl
  fn := rfl
  calm := hX.calm
  hu := hX.hu
  fns := hX.fns
  pass := fun σ E h pins H' s' e s'' I c => hX.nox _ _ _ _ _ _ (fun c d H q => h c d H q) c
  nox := hX.nox
  blt := hX.blt
  gi := hX.gi
theorem mEs_heads (P : MP) : ∀ (as : List E) (es : List Expr), mEs P as es = true → ∀ e ∈ es, headOk e = true
  | [], es, h, e, he => by
    cases es with
    | nil => cases he
    | cons _ _ => exact absurd (show false = true from h) Bool.false_ne_true
  | a :: as, es, h, e, he => by
    cases es with
    | nil => cases he
    | cons e' es =>
      have h' : (mE P a e' && mEs P as es) = true := h
      rw [Bool.and_eq_true] at h'
      rcases List.mem_cons.mp he with z | z
      · rw [z]; exact mE_head P a e' h'.1
      · exact mEs_heads P as es h'.2 e z
theorem wk1 {n : String} {it : Expr} {l : List Expr} (h : (match it with
    | .Call (.Name x _) [a] [] _ => if glB P x n = true then some [a] else none
    | _ => none) = some l) : ∃ y p0 a pos, it = .Call (.Name y p0) [a] [] pos ∧ glB P y n = true ∧ l = [a] := by
  split at h
  · rename_i y p0 a pos
    by_cases q : glB P y n = true
    · rw [if_pos q] at h
      exact ⟨y, p0, a, pos, rfl, q, (Option.some.inj h).symm⟩
    · rw [if_neg q] at h; cases h
  · cases h
theorem wk2 {n : String} {it : Expr} {l : List Expr} (h : (match it with
    | .Call (.Name x _) [a, b] [] _ => if glB P x n = true then some [a, b] else none
    | _ => none) = some l) : ∃ y p0 a b pos, it = .Call (.Name y p0) [a, b] [] pos ∧ glB P y n = true ∧ l = [a, b] := by
  split at h
  · rename_i y p0 a b pos
    by_cases q : glB P y n = true
    · rw [if_pos q] at h
      exact ⟨y, p0, a, b, pos, rfl, q, (Option.some.inj h).symm⟩
    · rw [if_neg q] at h; cases h
  · cases h
/-- what is walked -/
theorem s_wk (hX : SC X P cls G CXt W) {w : Wk} {src : List E} {it tg : Expr} {l : List Expr} (hw : wkArgs P w it = some l) (ha : PA X l (tEs X.K cls G W src)) (hs : w = .seq → ∃ a, src = [a] ∧ PE X it (tE X.K cls G W a)) (hh : ∀ e ∈ l, headOk e = true) (ht : wkTg w tg = true) : PI X tg it (iWk X.K cls w (tEs X.K cls G W src)) := by
  cases w with
  | seq =>
    obtain ⟨a, rfl, he⟩ := hs rfl
    exact pi_seq he fun σ H Q ⟨F, R, μ, ρ, k, x, re, S, wp, p, px⟩ => ⟨F, R, μ, ρ, _, x, re, S, wp, fun d μ1 h1 v F1 H1 e1 S1 r1 => p _ _ h1 _ F1 H1 e1 S1 (.cons r1 .nil), px⟩
  | rng1 =>
    obtain ⟨y, p0, a, pos, rfl, hg, rfl⟩ := wk1 hw
    obtain ⟨e, g, _⟩ := gl_of hX hg
    subst e
    exact pi_rng1 mono_tEs g (hX.blt "range" (by decide)) ha (star_ok (hh a (by simp)) _ _)
  | rng2 =>
    obtain ⟨y, p0, a, b, pos, rfl, hg, rfl⟩ := wk2 hw
    obtain ⟨e, g, _⟩ := gl_of hX hg
    subst e
    have h2 : starEach [b] X.env = [(false, eval b X.env)] := star_ok (hh b (by simp)) _ _
    exact pi_rng2 mono_tEs g (hX.blt "range" (by decide)) ha (by rw [star_ok (hh a (by simp)), h2]) h2
  | enum =>
    obtain ⟨y, p0, a, pos, rfl, hg, rfl⟩ := wk1 hw
    obtain ⟨e, g, _⟩ := gl_of hX hg
    subst e
    cases tg <;> first | exact absurd (show false = true from ht) Bool.false_ne_true | skip
    exact pi_enumD mono_tEs g (hX.blt "enumerate" (by decide)) ha (star_ok (hh a (by simp)) _ _)
  | enumT => cases hw
  | zip2 =>
    obtain ⟨y, p0, a, b, pos, rfl, hg, rfl⟩ := wk2 hw
    obtain ⟨e, g, _⟩ := gl_of hX hg
    subst e
    cases tg <;> first | exact absurd (show false = true from ht) Bool.false_ne_true | skip
    exact pi_zipD mono_tEs g (hX.blt "zip" (by decide)) ha (star_ok (hh a (by simp)) _ _) (nostar fun e he => hh e (List.mem_cons_of_mem _ he))
theorem wk_head {w : Wk} {it : Expr} {l : List Expr} (hw : wkArgs P w it = some l) (hh : ∀ e ∈ l, headOk e = true) : headOk it = true := by
  cases w with
  | seq =>
    have q : l = [it] := (Option.some.inj hw).symm
    exact hh it (by rw [q]; simp)
  | rng1 => obtain ⟨y, p0, a, pos, rfl, _⟩ := wk1 hw; rfl
  | rng2 => obtain ⟨y, p0, a, b, pos, rfl, _⟩ := wk2 hw; rfl
  | enum => obtain ⟨y, p0, a, pos, rfl, _⟩ := wk1 hw; rfl
  | enumT => cases hw
  | zip2 => obtain ⟨y, p0, a, b, pos, rfl, _⟩ := wk2 hw; rfl
theorem own_snd {own : List Nat} (h : own.all (fun i => decide (i < P.N.length)) = true) : (ownOf P own).map (·.2) = own := by
  induction own with
  | nil => rfl
  | cons i r ih =>
    rw [List.all_cons, Bool.and_eq_true] at h
    have hi : i < P.N.length := of_decide_eq_true h.1
    unfold ownOf
    rw [List.filterMap_cons, List.getElem?_eq_getElem hi]
    show i :: _ = _
    rw [show (List.filterMap (fun i => Option.map (fun x => (x, i)) P.N[i]?) r) = ownOf P r from rfl, ih h.2]
end
end SR

/-! every expression that is matched is worth what its tree is -/
namespace SR
open PySem PySem.Spec PyProof.Rows L2 RZ
section
variable {cls : String → Option Addr} {G : Glb} {CXt : CXT}
def HE (cls : String → Option Addr) (G : Glb) (CXt : CXT) (a : E) : Prop := ∀ (X : Cx) (P : MP) (W : WX), SC X P cls G CXt W → ∀ e : Expr, mE P a e = true → PE X e (tE X.K cls G W a)
def HEs (cls : String → Option Addr) (G : Glb) (CXt : CXT) (as : List E) : Prop := ∀ (X : Cx) (P : MP) (W : WX), SC X P cls G CXt W → ∀ es : List Expr, mEs P as es = true → PA X es (tEs X.K cls G W as)
def HO (cls : String → Option Addr) (G : Glb) (CXt : CXT) (o : Option E) : Prop := ∀ (X : Cx) (P : MP) (W : WX), SC X P cls G CXt W → ∀ e : Option Expr, mO P o e = true → PO X e (tO X.K cls G W o)
def HT (cls : String → Option Addr) (G : Glb) (CXt : CXT) (a : E) : Prop := tstOk a = true → ∀ (X : Cx) (P : MP) (W : WX), SC X P cls G CXt W → ∀ e : Expr, mE P a e = true → PT X e (tT X.K cls G W a)
/-- behind another member of one and, one or -/
def HW (cls : String → Option Addr) (G : Glb) (CXt : CXT) (a : E) : Prop := tstOk a = true → ∀ (X : Cx) (P : MP) (W : WX), SC X P cls G CXt W → ∀ (op : BoolOp) (x y : Expr) (r : List Expr) (pos : Pos), mE P a (.BoolOp op (x :: y :: r) pos) = true → PW X (.BoolOp op (x :: y :: r) pos) (tT X.K cls G W a)
theorem no_way {p : Prop} (h : false = true) : p := absurd h Bool.false_ne_true
theorem he_var {i : Nat}  : HE cls G CXt (.var i) := by
  intro X P W hX e h
  cases e <;> first | exact no_way h | skip
  exact s_var hX h
theorem he_non   : HE cls G CXt (.non ) := by
  intro X P W hX e h
  cases e <;> first | exact no_way h | skip
  rename_i c _ _
  cases c <;> first | exact no_way h | exact s_non
theorem he_bl {b : Bool}  : HE cls G CXt (.bl b) := by
  intro X P W hX e h
  cases e <;> first | exact no_way h | skip
  rename_i c _ _
  cases c <;> first | exact no_way h | skip
  cases (beq_iff_eq.mp (show (b == _) = true from h))
  exact s_bl
theorem he_int {i : Int}  : HE cls G CXt (.int i) := by
  intro X P W hX e h
  cases e <;> first | exact no_way h | skip
  rename_i c _ _
  cases c <;> first | exact no_way h | skip
  cases (of_decide_eq_true h)
  exact s_int
theorem he_str {s : Str}  : HE cls G CXt (.str s) := by
  intro X P W hX e h
  cases e <;> first | exact no_way h | skip
  rename_i c _ _
  cases c <;> first | exact no_way h | skip
  cases (of_decide_eq_true h)
  exact s_str
theorem he_gint {n : String}  : HE cls G CXt (.gint n) := by
  intro X P W hX e h
  cases e <;> first | exact no_way h | skip
  rename_i y pos
  have h' : (glB P y n && P.gis.contains n) = true := h
  rw [Bool.and_eq_true] at h'
  exact s_gint hX h'.1 h'.2
theorem he_tup {as : List E} (ihs_as : HEs cls G CXt as) : HE cls G CXt (.tup as) := by
  intro X P W hX e h
  cases e <;> first | exact no_way h | skip
  exact s_tup (ihs_as X P W hX _ h)
theorem he_lst {m : Bool} {as : List E} (ihs_as : HEs cls G CXt as) : HE cls G CXt (.lst m as) := by
  intro X P W hX e h
  cases e <;> first | exact no_way h | skip
  exact s_lst (ihs_as X P W hX _ h)
theorem he_bin {op : Op2} {a : E} {b : E} (ih_a : HE cls G CXt a) (ih_b : HE cls G CXt b) : HE cls G CXt (.bin op a b) := by
  intro X P W hX e h
  cases e <;> first | exact no_way h | skip
  rename_i l o r pos
  have h' : (opB op o && mE P a l && mE P b r) = true := h
  simp only [Bool.and_eq_true] at h'
  exact s_bin (ih_a X P W hX _ h'.1.2) (ih_b X P W hX _ h'.2) h'.1.1
theorem he_neg {a : E} (ih_a : HE cls G CXt a) : HE cls G CXt (.neg a) := by
  intro X P W hX e h
  cases e <;> first | exact no_way h | skip
  rename_i o l pos
  cases o <;> first | exact no_way h | skip
  exact s_neg (ih_a X P W hX _ h)
theorem he_nt {a : E} (ih_a : HE cls G CXt a) : HE cls G CXt (.nt a) := by
  intro X P W hX e h
  cases e <;> first | exact no_way h | skip
  rename_i o l pos
  cases o <;> first | exact no_way h | skip
  exact s_nt (ih_a X P W hX _ h)
theorem he_cmp {op : Cm} {a : E} {b : E} (ih_a : HE cls G CXt a) (ih_b : HE cls G CXt b) : HE cls G CXt (.cmp op a b) := by
  intro X P W hX e h
  cases e <;> first | exact no_way h | skip
  rename_i l os rs pos
  rcases os with _ | ⟨o, _ | ⟨_, _⟩⟩ <;> rcases rs with _ | ⟨r, _ | ⟨_, _⟩⟩ <;> first | exact no_way h | skip
  have h' : (cmB op o && mE P a l && mE P b r) = true := h
  simp only [Bool.and_eq_true] at h'
  exact s_cmp hX.hu (ih_a X P W hX _ h'.1.2) (ih_b X P W hX _ h'.2) h'.1.1 (mark_ok (mE_head P b r h'.2) _)
theorem he_chain {o p : Cm} {a b c : E} (ih_a : HE cls G CXt a) (ih_b : HE cls G CXt b) (ih_c : HE cls G CXt c) : HE cls G CXt (.chain o p a b c) := by
  intro X P W hX e h
  cases e <;> first | exact no_way h | skip
  rename_i l os rs pos
  rcases os with _ | ⟨o1, _ | ⟨o2, _ | ⟨_, _⟩⟩⟩ <;> rcases rs with _ | ⟨r1, _ | ⟨r2, _ | ⟨_, _⟩⟩⟩ <;> first | exact no_way h | skip
  have h' : (cmB o o1 && cmB p o2 && mE P a l && mE P b r1 && mE P c r2) = true := h
  simp only [Bool.and_eq_true] at h'
  exact s_chain hX.hu (ih_a X P W hX _ h'.1.1.2) (ih_b X P W hX _ h'.1.2) (ih_c X P W hX _ h'.2) h'.1.1.1.1 h'.1.1.1.2 (mark_ok (mE_head P c r2 h'.2) _)
theorem he_and {a : E} {b : E} (ih_a : HE cls G CXt a) (ih_b : HE cls G CXt b) : HE cls G CXt (.and_ a b) := by
  intro X P W hX e h
  cases e <;> first | exact no_way h | skip
  rename_i o xs pos
  cases o <;> first | exact no_way h | skip
  rcases xs with _ | ⟨x, _ | ⟨y, r⟩⟩ <;> first | exact no_way h | skip
  have h' : (mE P a x && mE P b (strip (.BoolOp .And (y :: r) pos))) = true := h
  rw [Bool.and_eq_true] at h'
  refine s_and (p2 := pos) (ih_a X P W hX _ h'.1) ?_
  cases r with
  | nil => exact pe_one (ih_b X P W hX _ h'.2)
  | cons z r => exact ih_b X P W hX _ h'.2
theorem he_or {a : E} {b : E} (ih_a : HE cls G CXt a) (ih_b : HE cls G CXt b) : HE cls G CXt (.or_ a b) := by
  intro X P W hX e h
  cases e <;> first | exact no_way h | skip
  rename_i o xs pos
  cases o <;> first | exact no_way h | skip
  rcases xs with _ | ⟨x, _ | ⟨y, r⟩⟩ <;> first | exact no_way h | skip
  have h' : (mE P a x && mE P b (strip (.BoolOp .Or (y :: r) pos))) = true := h
  rw [Bool.and_eq_true] at h'
  refine s_or (p2 := pos) (ih_a X P W hX _ h'.1) ?_
  cases r with
  | nil => exact pe_one (ih_b X P W hX _ h'.2)
  | cons z r => exact ih_b X P W hX _ h'.2
theorem he_ite {c : E} {a : E} {b : E} (ih_a : HE cls G CXt a) (ih_b : HE cls G CXt b) (it_c : HT cls G CXt c) : HE cls G CXt (.ite c a b) := by
  intro X P W hX e h
  cases e <;> first | exact no_way h | skip
  rename_i t x y pos
  have h' : (tstOk c && mE P c t && mE P a x && mE P b y) = true := h
  simp only [Bool.and_eq_true] at h'
  exact s_ite (it_c h'.1.1.1 X P W hX _ h'.1.1.2) (ih_a X P W hX _ h'.1.2) (ih_b X P W hX _ h'.2)
theorem he_call {f : String} {es : List E} (ihs_es : HEs cls G CXt es) : HE cls G CXt (.call f es) := by
  intro X P W hX e h
  cases e <;> first | exact no_way h | skip
  rename_i fn l kw pos
  cases fn <;> first | exact no_way h | skip
  rename_i y p0
  cases kw <;> first | exact no_way h | skip
  have h' : (glB P y f && P.fns.contains f && mEs P es l) = true := h
  simp only [Bool.and_eq_true] at h'
  cases l with
  | nil =>
    cases es with
    | nil => exact s_call0 hX h'.1.1 h'.1.2
    | cons _ _ => exact absurd (show false = true from h'.2) Bool.false_ne_true
  | cons e' l => exact s_call hX h'.1.1 h'.1.2 (ihs_es X P W hX _ h'.2) (mEs_heads P es _ h'.2)
theorem he_bt {b : Bt} {es : List E} (ihs_es : HEs cls G CXt es) : HE cls G CXt (.bt b es) := by
  intro X P W hX e h
  cases e <;> first | exact no_way h | skip
  rename_i fn l kw pos
  cases fn <;> first | exact no_way h | skip
  rename_i y p0
  cases kw <;> cases l <;> first | exact no_way h | skip
  have h' := h
  rw [mE] at h'
  simp only [Bool.and_eq_true] at h'
  exact s_bt hX h'.1 (ihs_es X P W hX _ h'.2) (mEs_heads P es _ h'.2)
theorem he_isin {a : E} {ty : String} (ih_a : HE cls G CXt a) : HE cls G CXt (.isin a ty) := by
  intro X P W hX e h
  unfold mE at h
  split at h
  · simp only [Bool.and_eq_true] at h
    exact s_isin hX h.1.1.1 h.1.2 h.2 (ih_a X P W hX _ h.1.1.2) (mE_head P a _ h.1.1.2)
  · cases h
theorem he_isin2 {a : E} {ty : String} {ty' : String} (ih_a : HE cls G CXt a) : HE cls G CXt (.isin2 a ty ty') := by
  intro X P W hX e h
  unfold mE at h
  split at h
  · simp only [Bool.and_eq_true] at h
    exact s_isin2 hX h.1.1.1.1.1 h.1.1.1.2 h.1.1.2 h.1.2 h.2 (ih_a X P W hX _ h.1.1.1.1.2) (mE_head P a _ h.1.1.1.1.2)
  · cases h
theorem he_ix {a : E} {i : E} (ih_a : HE cls G CXt a) (ih_i : HE cls G CXt i) : HE cls G CXt (.ix a i) := by
  intro X P W hX e h
  cases e <;> first | exact no_way h | skip
  rename_i x y pos
  have h' : (mE P a x && mE P i y) = true := h
  rw [Bool.and_eq_true] at h'
  exact s_ix hX.hu (ih_a X P W hX _ h'.1) (ih_i X P W hX _ h'.2) (ix_ok (mE_head P i y h'.2))
theorem he_slc {m : Bool} {a : E} {lo : Option E} {hi : Option E} (ih_a : HE cls G CXt a) (iho_lo : HO cls G CXt lo) (iho_hi : HO cls G CXt hi) : HE cls G CXt (.slc m a lo hi) := by
  intro X P W hX e h
  unfold mE at h
  split at h
  · simp only [Bool.and_eq_true] at h
    exact s_slc (ih_a X P W hX _ h.1.1) (iho_lo X P W hX _ h.1.2) (iho_hi X P W hX _ h.2)
  · cases h
theorem he_lrng {m : Bool} {a : E} {b : E} (ih_a : HE cls G CXt a) (ih_b : HE cls G CXt b) : HE cls G CXt (.lrng m a b) := by
  intro X P W hX e h
  unfold mE at h
  split at h
  · simp only [Bool.and_eq_true] at h
    exact s_lrng hX h.1.1.1 h.1.1.2 (ih_a X P W hX _ h.1.2) (ih_b X P W hX _ h.2) (mE_head P a _ h.1.2) (mE_head P b _ h.2)
  · cases h
theorem he_trng {a : E} (ih_a : HE cls G CXt a) : HE cls G CXt (.trng a) := by
  intro X P W hX e h
  unfold mE at h
  split at h
  · simp only [Bool.and_eq_true] at h
    exact s_trng hX h.1.1 h.1.2 (ih_a X P W hX _ h.2) (mE_head P a _ h.2)
  · cases h
theorem he_dnew {t : Bool}  : HE cls G CXt (.dnew t) := by
  intro X P W hX e h
  unfold mE at h
  split at h
  · exact s_dnew
  · cases h
theorem he_lc {m : Bool} {own : List Nat} {tg : Tg} {w : Wk} {src : List E} {cond : Option E} {elt : E} (ih_elt : HE cls G CXt elt) (ihs_src : HEs cls G CXt src) (ih1 : ∀ a, src = [a] → HE cls G CXt a) (it_c : ∀ c, cond = some c → HT cls G CXt c) : HE cls G CXt (.lc m own tg w src cond elt) := by
  intro X P W hX e h
  unfold mE at h
  split at h
  · rename_i el t it ifs scope pos
    simp only [Bool.and_eq_true] at h
    obtain ⟨⟨⟨⟨⟨⟨⟨h1, h2⟩, h3⟩, h4⟩, h5⟩, h6⟩, h7⟩, h8⟩ := h
    split at h2
    · rename_i l hl
      have hh := mEs_heads P src l h2
      have hi : PI X t it (iWk X.K cls w (tEs X.K cls G W src)) := s_wk hX hl (ihs_src X P W hX l h2) (fun e => by
        subst e
        cases hl
        cases src with
        | nil => exact absurd (show false = true from h2) Bool.false_ne_true
        | cons a r =>
          cases r with
          | nil =>
            have h2' : (mE P a it && mEs P [] []) = true := h2
            rw [Bool.and_eq_true] at h2'
            exact ⟨a, rfl, ih1 a rfl X P W hX _ h2'.1⟩
          | cons b r =>
            have h2' : (mE P a it && mEs P (b :: r) []) = true := h2
            rw [Bool.and_eq_true] at h2'
            exact absurd (show false = true from h2'.2) Bool.false_ne_true) hh h4
      have hb := fun (s : Shared) (H : Hp) (C : Addr) (cl : List (Str × Addr)) (fp : List Addr) => hX.blk s H scope C cl fp
      refine PE.imp (pe_lc hX.calm (by rw [hX.hN]; exact hX.nd) hi (by rw [hX.hN, hX.sc]; exact blkOk_by h1) (fun s H C cl fp => s_tg (hb s H C cl fp) tg t h3) (tt := tC' X.K cls G cond) (fun s H C cl fp => ?_) (fun s H C cl fp => ih_elt _ _ _ (hb s H C cl fp) el h8) (fun x => fold_ok (wk_head hl hh) _ _))
        fun σ H Q q => lc_loop (own_snd h6) (fun i hi => by have := List.all_eq_true.mp h5 i hi; simpa using this) q
      cases cond with
      | none =>
        cases ifs with
        | nil => exact ⟨fun pins s σ H Q I ⟨F, R, μ, ρ, kk, re, S, w, p⟩ => pts_nil.run pins s σ H Q I (p _ _ w F H (Same.refl F) S)⟩
        | cons _ _ => cases h7
      | some c =>
        rcases ifs with _ | ⟨x, _ | ⟨_, _⟩⟩ <;> first | exact no_way h7 | skip
        have h' : (tstOk c && mE (P.blk scope) c x) = true := h7
        rw [Bool.and_eq_true] at h'
        have q := it_c c rfl h'.1 _ _ _ (hb s H C cl fp) x h'.2
        exact ⟨fun pins s σ H Q I ⟨F, R, μ, ρ, kk, re, S, w, p⟩ => (pts_one q).run pins s σ H Q I ⟨F, R, μ, ρ, kk, _, re, S, w, p, fun _ _ z => z.elim⟩⟩
    · cases h2
  · cases h
theorem he_frz {a : E} (ih_a : HE cls G CXt a) : HE cls G CXt (.frz a) := by
  intro X P W hX e h
  exact s_frz (ih_a X P W hX e h)
end
end SR

/-! every expression that is matched is worth what its tree is: all of them -/
namespace SR
open PySem PySem.Spec PyProof.Rows L2 RZ
section
variable {cls : String → Option Addr} {G : Glb} {CXt : CXT}
theorem s_src {X : Cx} {P : MP} {W : WX} (hX : SC X P cls G CXt W) {src : List E} {it : Expr} {w : Wk} {l : List Expr} (hl : wkArgs P w it = some l) (ihs : HEs cls G CXt src) (ih1 : ∀ a, src = [a] → HE cls G CXt a) (h2 : mEs P src l = true) {t : Expr} (h4 : wkTg w t = true) :
    PI X t it (iWk X.K cls w (tEs X.K cls G W src)) :=
  s_wk hX hl (ihs X P W hX l h2) (fun e => by
    subst e
    cases hl
    cases src with
    | nil => exact absurd (show false = true from h2) Bool.false_ne_true
    | cons a r =>
      cases r with
      | nil =>
        have h2' : (mE P a it && mEs P [] []) = true := h2
        rw [Bool.and_eq_true] at h2'
        exact ⟨a, rfl, ih1 a rfl X P W hX _ h2'.1⟩
      | cons b r =>
        have h2' : (mE P a it && mEs P (b :: r) []) = true := h2
        rw [Bool.and_eq_true] at h2'
        exact absurd (show false = true from h2'.2) Bool.false_ne_true) (mEs_heads P src l h2) h4
theorem s_yes {X : Cx} : PTs X [] tYes := ⟨fun pins s σ H Q I p => pts_nil.run pins s σ H Q I p⟩
theorem he_lc2 {m : Bool} {own own2 : List Nat} {tg : Tg} {w : Wk} {src : List E} {tg2 : Tg} {w2 : Wk} {src2 : List E} {elt : E} (ih_elt : HE cls G CXt elt) (ihs_src : HEs cls G CXt src) (ih1 : ∀ a, src = [a] → HE cls G CXt a)
    (ihs_src2 : HEs cls G CXt src2) (ih2 : ∀ a, src2 = [a] → HE cls G CXt a) : HE cls G CXt (.lc2 m own own2 tg w src tg2 w2 src2 elt) := by
  intro X P W hX e h
  unfold mE at h
  split at h
  · rename_i el t it t2 it2 scope pos
    simp only [Bool.and_eq_true] at h
    obtain ⟨⟨⟨⟨⟨⟨⟨⟨⟨⟨⟨h1, h2⟩, h3⟩, h4⟩, h5⟩, h6⟩, h7⟩, h8⟩, h9⟩, h10⟩, h11⟩, h12⟩ := h
    split at h2
    · rename_i l hl
      split at h7
      · rename_i l2 hl2
        have hb := fun (s : Shared) (H : Hp) (C : Addr) (cl : List (Str × Addr)) (fp : List Addr) => hX.blk s H scope C cl fp
        have ho : (ownOf P own).map (·.2) = own := own_snd h6
        refine PE.imp (pe_lc2 (vs1 := own2) hX.calm (by rw [hX.hN]; exact hX.nd) (s_src hX hl ihs_src ih1 h2 h4) (by rw [hX.hN, hX.sc]; exact blkOk_by h1) (fun i hi => by rw [ho]; have := List.all_eq_true.mp h11 i hi; simpa using this)
          (fun s H C cl fp => s_tg (hb s H C cl fp) tg t h3) (fun s H C cl fp => s_yes) (fun s H C cl fp => s_src (hb s H C cl fp) hl2 ihs_src2 ih2 h7 h9)
          (fun s H C cl fp => s_tg (hb s H C cl fp) tg2 t2 h8) (fun s H C cl fp => s_yes) (fun s H C cl fp => ih_elt _ _ _ (hb s H C cl fp) el h12) (fun x => fold_ok (wk_head hl (mEs_heads P src l h2)) _ _) (fun env x => fold_ok (wk_head hl2 (mEs_heads (P.blk scope) src2 l2 h7)) _ _))
          fun σ H Q q => lc2_loop ho (fun i hi => by have := List.all_eq_true.mp h5 i hi; simpa using this) (fun i hi => by have := List.all_eq_true.mp h10 i hi; simpa using this) q
      · cases h7
    · cases h2
  · cases h
theorem hes_nil : HEs cls G CXt [] := by
  intro X P W hX es h
  cases es with
  | nil => exact s_nil
  | cons _ _ => exact absurd (show false = true from h) Bool.false_ne_true
theorem hes_cons {a : E} {as : List E} (ha : HE cls G CXt a) (hs : HEs cls G CXt as) : HEs cls G CXt (a :: as) := by
  intro X P W hX es h
  cases es with
  | nil => exact absurd (show false = true from h) Bool.false_ne_true
  | cons e es =>
    have h' : (mE P a e && mEs P as es) = true := h
    rw [Bool.and_eq_true] at h'
    exact s_cons (ha X P W hX e h'.1) (hs X P W hX es h'.2) (star_ok (mE_head P a e h'.1) _ _)
theorem ho_none : HO cls G CXt none := by
  intro X P W hX e h
  cases e with
  | none => exact s_po_none
  | some _ => exact absurd (show false = true from h) Bool.false_ne_true
theorem ho_some {a : E} (ha : HE cls G CXt a) : HO cls G CXt (some a) := by
  intro X P W hX e h
  cases e with
  | none => exact absurd (show false = true from h) Bool.false_ne_true
  | some e => exact s_po_some (ha X P W hX e h)

theorem he_upper {a : E} (ih : HE cls G CXt a) : HE cls G CXt (.upper a) := by
  intro X P W hX e h
  unfold mE at h
  split at h
  · simp only [Bool.and_eq_true, decide_eq_true_eq] at h
    obtain ⟨⟨h1, rfl⟩, h3⟩ := h
    exact s_upper (ih X P W hX _ h1) h3
  · cases h
/-! ### tests -/
theorem ht_no {a : E} (h : tstOk a = false) : HT cls G CXt a := fun q => absurd q (by rw [h]; exact Bool.false_ne_true)
theorem hw_no {a : E} (h : ∀ (P : MP) (op : BoolOp) (x y : Expr) (r : List Expr) (pos : Pos), mE P a (.BoolOp op (x :: y :: r) pos) = false) : HW cls G CXt a := fun _ X P W hX op x y r pos q => absurd q (by rw [h]; exact Bool.false_ne_true)
theorem ht_var {i : Nat} : HT cls G CXt (.var i) := by
  intro _ X P W hX e h
  cases e <;> first | exact no_way h | skip
  exact s_test (he_var X P W hX _ h) (by intro _; rfl)
theorem ht_bl {b : Bool} : HT cls G CXt (.bl b) := by
  intro _ X P W hX e h
  cases e <;> first | exact no_way h | skip
  exact s_test (he_bl X P W hX _ h) (by intro _; rfl)
theorem ht_call {f : String} {es : List E} (ih : HE cls G CXt (.call f es)) : HT cls G CXt (.call f es) := by
  intro _ X P W hX e h
  cases e <;> first | exact no_way h | skip
  exact s_test (ih X P W hX _ h) (by intro _; rfl)
theorem ht_bt {f : Bt} {es : List E} (ih : HE cls G CXt (.bt f es)) : HT cls G CXt (.bt f es) := by
  intro _ X P W hX e h
  cases e <;> first | exact no_way h | skip
  exact s_test (ih X P W hX _ h) (by intro _; rfl)
theorem ht_isin {a : E} {t : String} (ih : HE cls G CXt (.isin a t)) : HT cls G CXt (.isin a t) := by
  intro _ X P W hX e h
  cases e <;> first | exact no_way h | skip
  exact s_test (ih X P W hX _ h) (by intro _; rfl)
theorem ht_isin2 {a : E} {t t' : String} (ih : HE cls G CXt (.isin2 a t t')) : HT cls G CXt (.isin2 a t t') := by
  intro _ X P W hX e h
  cases e <;> first | exact no_way h | skip
  exact s_test (ih X P W hX _ h) (by intro _; rfl)
theorem ht_ix {a i : E} (ih : HE cls G CXt (.ix a i)) : HT cls G CXt (.ix a i) := by
  intro _ X P W hX e h
  cases e <;> first | exact no_way h | skip
  exact s_test (ih X P W hX _ h) (by intro _; rfl)
theorem ht_cmp {op : Cm} {a b : E} (ih_a : HE cls G CXt a) (ih_b : HE cls G CXt b) : HT cls G CXt (.cmp op a b) := by
  intro _ X P W hX e h
  cases e <;> first | exact no_way h | skip
  rename_i l os rs pos
  rcases os with _ | ⟨o, _ | ⟨_, _⟩⟩ <;> rcases rs with _ | ⟨r, _ | ⟨_, _⟩⟩ <;> first | exact no_way h | skip
  have h' : (cmB op o && mE P a l && mE P b r) = true := h
  simp only [Bool.and_eq_true] at h'
  exact t_cmp hX.hu (ih_a X P W hX _ h'.1.2) (ih_b X P W hX _ h'.2) h'.1.1 (mark_ok (mE_head P b r h'.2) _)
theorem ht_chain {o p : Cm} {a b c : E} (ih_a : HE cls G CXt a) (ih_b : HE cls G CXt b) (ih_c : HE cls G CXt c) : HT cls G CXt (.chain o p a b c) := by
  intro _ X P W hX e h
  cases e <;> first | exact no_way h | skip
  rename_i l os rs pos
  rcases os with _ | ⟨o1, _ | ⟨o2, _ | ⟨_, _⟩⟩⟩ <;> rcases rs with _ | ⟨r1, _ | ⟨r2, _ | ⟨_, _⟩⟩⟩ <;> first | exact no_way h | skip
  have h' : (cmB o o1 && cmB p o2 && mE P a l && mE P b r1 && mE P c r2) = true := h
  simp only [Bool.and_eq_true] at h'
  exact t_chain hX.hu (ih_a X P W hX _ h'.1.1.2) (ih_b X P W hX _ h'.1.2) (ih_c X P W hX _ h'.2) h'.1.1.1.1 h'.1.1.1.2 (mark_ok (mE_head P c r2 h'.2) _)
theorem ht_nt {a : E} (it : HT cls G CXt a) : HT cls G CXt (.nt a) := by
  intro q X P W hX e h
  cases e <;> first | exact no_way h | skip
  rename_i o l pos
  cases o <;> first | exact no_way h | skip
  exact t_not (it q X P W hX _ h)
theorem hw_and {a b : E} (it_a : HT cls G CXt a) (it_b : HT cls G CXt b) (iw_b : HW cls G CXt b) : HW cls G CXt (.and_ a b) := by
  intro q X P W hX op x y r pos h
  have q : (tstOk a && tstOk b) = true := q
  rw [Bool.and_eq_true] at q
  cases op with
  | Or => exact no_way h
  | And =>
    have h' : (mE P a x && mE P b (strip (.BoolOp .And (y :: r) pos))) = true := h
    rw [Bool.and_eq_true] at h'
    refine t_and (it_a q.1 X P W hX _ h'.1) ?_
    cases r with
    | nil => exact pw_and1 (it_b q.2 X P W hX _ h'.2)
    | cons z r => exact iw_b q.2 X P W hX _ _ _ _ _ h'.2
theorem hw_or {a b : E} (it_a : HT cls G CXt a) (it_b : HT cls G CXt b) (iw_b : HW cls G CXt b) : HW cls G CXt (.or_ a b) := by
  intro q X P W hX op x y r pos h
  have q : (tstOk a && tstOk b) = true := q
  rw [Bool.and_eq_true] at q
  cases op with
  | And => exact no_way h
  | Or =>
    have h' : (mE P a x && mE P b (strip (.BoolOp .Or (y :: r) pos))) = true := h
    rw [Bool.and_eq_true] at h'
    refine t_or (it_a q.1 X P W hX _ h'.1) ?_
    cases r with
    | nil => exact pw_or1 (it_b q.2 X P W hX _ h'.2)
    | cons z r => exact iw_b q.2 X P W hX _ _ _ _ _ h'.2
theorem ht_and {a b : E} (h : HW cls G CXt (.and_ a b)) : HT cls G CXt (.and_ a b) := by
  intro q X P W hX e h'
  cases e <;> first | exact no_way h' | skip
  rename_i o xs pos
  cases o <;> first | exact no_way h' | skip
  rcases xs with _ | ⟨x, _ | ⟨y, r⟩⟩ <;> first | exact no_way h' | skip
  exact (h q X P W hX _ _ _ _ _ h').pt
theorem ht_or {a b : E} (h : HW cls G CXt (.or_ a b)) : HT cls G CXt (.or_ a b) := by
  intro q X P W hX e h'
  cases e <;> first | exact no_way h' | skip
  rename_i o xs pos
  cases o <;> first | exact no_way h' | skip
  rcases xs with _ | ⟨x, _ | ⟨y, r⟩⟩ <;> first | exact no_way h' | skip
  exact (h q X P W hX _ _ _ _ _ h').pt
theorem he_rev {a : E} (ih : HE cls G CXt a) : HE cls G CXt (.rev a) := by
  intro X P W hX e h
  unfold mE at h
  split at h
  · rw [Bool.and_eq_true, decide_eq_true_eq] at h
    obtain ⟨h1, rfl⟩ := h
    exact s_rev (ih X P W hX _ h1)
  · cases h
theorem he_sset {m : Bool} {a : E} (ih : HE cls G CXt a) : HE cls G CXt (.sset m a) := by
  intro X P W hX e h
  unfold mE at h
  split at h
  · simp only [Bool.and_eq_true] at h
    exact s_sset hX h.1.1 h.1.2 (ih X P W hX _ h.2) (mE_head P a _ h.2)
  · cases h

structure HA (cls : String → Option Addr) (G : Glb) (CXt : CXT) (a : E) : Prop where
  e : HE cls G CXt a
  t : HT cls G CXt a
  w : HW cls G CXt a
structure HL (cls : String → Option Addr) (G : Glb) (CXt : CXT) (as : List E) : Prop where
  e : HEs cls G CXt as
  o : ∀ a, as = [a] → HE cls G CXt a
structure HP (cls : String → Option Addr) (G : Glb) (CXt : CXT) (o : Option E) : Prop where
  e : HO cls G CXt o
  t : ∀ c, o = some c → HT cls G CXt c
theorem hl_nil : HL cls G CXt [] := ⟨hes_nil, fun a h => nomatch h⟩
theorem hl_cons {a : E} {as : List E} (h : HA cls G CXt a) (r : HL cls G CXt as) : HL cls G CXt (a :: as) := ⟨hes_cons h.e r.e, fun b e => by cases e; exact h.e⟩
theorem hp_none : HP cls G CXt none := ⟨ho_none, fun a h => nomatch h⟩
theorem hp_some {a : E} (h : HA cls G CXt a) : HP cls G CXt (some a) := ⟨ho_some h.e, fun b e => by cases e; exact h.t⟩
theorem ha_plain {a : E} (h : HE cls G CXt a) (ht : tstOk a = false) : HA cls G CXt a := ⟨h, ht_no ht, fun q => absurd q (by rw [ht]; exact Bool.false_ne_true)⟩
theorem ha_tst {a : E} (h : HE cls G CXt a) (ht : HT cls G CXt a) (hw : ∀ (P : MP) (op : BoolOp) (x y : Expr) (r : List Expr) (pos : Pos), mE P a (.BoolOp op (x :: y :: r) pos) = false) : HA cls G CXt a := ⟨h, ht, hw_no hw⟩
theorem ha_and {a b : E} (h1 : HA cls G CXt a) (h2 : HA cls G CXt b) : HA cls G CXt (.and_ a b) := ⟨he_and h1.e h2.e, ht_and (hw_and h1.t h2.t h2.w), hw_and h1.t h2.t h2.w⟩
theorem ha_or {a b : E} (h1 : HA cls G CXt a) (h2 : HA cls G CXt b) : HA cls G CXt (.or_ a b) := ⟨he_or h1.e h2.e, ht_or (hw_or h1.t h2.t h2.w), hw_or h1.t h2.t h2.w⟩

theorem sound : ∀ a : E, HA cls G CXt a := fun a =>
  E.rec (motive_1 := fun a => HA cls G CXt a) (motive_2 := fun _ => True) (motive_3 := fun as => HL cls G CXt as) (motive_4 := fun o => HP cls G CXt o) (motive_5 := fun _ => True)
    (var := fun i => ha_tst he_var ht_var (by intros; rfl))
    (non := ha_plain he_non rfl) (bl := fun b => ha_tst he_bl ht_bl (by intros; rfl)) (int := fun i => ha_plain he_int rfl) (str := fun s => ha_plain he_str rfl)
    (gint := fun n => ha_plain he_gint rfl)
    (tup := fun es h => ha_plain (he_tup h.e) rfl)
    (lst := fun m es h => ha_plain (he_lst h.e) rfl)
    (bin := fun op a b h1 h2 => ha_plain (he_bin h1.e h2.e) rfl)
    (neg := fun a h => ha_plain (he_neg h.e) rfl)
    (nt := fun a h => ⟨he_nt h.e, ht_nt h.t, hw_no (by intros; rfl)⟩)
    (cmp := fun op a b h1 h2 => ha_tst (he_cmp h1.e h2.e) (ht_cmp h1.e h2.e) (by intros; rfl))
    (chain := fun o p a b c h1 h2 h3 => ha_tst (he_chain h1.e h2.e h3.e) (ht_chain h1.e h2.e h3.e) (by intros; rfl))
    (and_ := fun a b h1 h2 => ha_and h1 h2)
    (or_ := fun a b h1 h2 => ha_or h1 h2)
    (ite := fun c a b h1 h2 h3 => ha_plain (he_ite h2.e h3.e h1.t) rfl)
    (call := fun f es h => ha_tst (he_call h.e) (ht_call (he_call h.e)) (by intros; rfl))
    (bt := fun b es h => ha_tst (he_bt h.e) (ht_bt (he_bt h.e)) (by intros; rfl))
    (isin := fun a t h => ha_tst (he_isin h.e) (ht_isin (he_isin h.e)) (by intros; rfl))
    (isin2 := fun a t t' h => ha_tst (he_isin2 h.e) (ht_isin2 (he_isin2 h.e)) (by intros; rfl))
    (ix := fun a i h1 h2 => ha_tst (he_ix h1.e h2.e) (ht_ix (he_ix h1.e h2.e)) (by intros; rfl))
    (slc := fun m a lo hi h1 h2 h3 => ha_plain (he_slc h1.e h2.e h3.e) rfl)
    (rev := fun a h => ha_plain (he_rev h.e) rfl)
    (lrng := fun m a b h1 h2 => ha_plain (he_lrng h1.e h2.e) rfl)
    (trng := fun a h => ha_plain (he_trng h.e) rfl)
    (sset := fun m a h => ha_plain (he_sset h.e) rfl)
    (dnew := fun t => ha_plain he_dnew rfl)
    (lc := fun m own tg w src cond elt _ h1 h2 h3 => ha_plain (he_lc h3.e h1.e h1.o h2.t) rfl)
    (lc2 := fun m own own2 tg w src tg2 w2 src2 elt _ h1 _ h2 h3 => ha_plain (he_lc2 h3.e h1.e h1.o h2.e h2.o) rfl)
    (frz := fun a h => ha_plain (he_frz h.e) rfl)
    (upper := fun a h => ha_plain (he_upper h.e) rfl)
    (fun _ => trivial) (fun _ _ => trivial) hl_nil (fun a as h r => hl_cons h r) hp_none (fun a h => hp_some h) trivial (fun _ _ _ _ => trivial) a
theorem sounds : ∀ as : List E, HL cls G CXt as
  | [] => hl_nil
  | a :: as => hl_cons (sound a) (sounds as)
end
end SR

/-! statements: which are meant, and that they do what their trees say -/
namespace SR
open PySem PySem.Spec PyProof.Rows L2 RZ

def plainV : Expr → Bool
  | .ListComp _ _ _ _ => false
  | .SetComp _ _ _ _ => false
  | .DictComp _ _ _ _ _ => false
  | _ => true
def isLc : Expr → Bool
  | .ListComp _ _ _ _ => true
  | _ => false
def isLcE : E → Bool
  | .lc _ _ _ _ _ _ _ => true
  | .lc2 _ _ _ _ _ _ _ _ _ _ => true
  | _ => false
def augOk : Op2 → Bool
  | .add => true
  | .sub => true
  | _ => false
def S.ghost : S → Bool
  | .rest _ => true
  | _ => false
def lclB (P : MP) (i : Nat) (x : Str) : Bool := decide (P.N[i]? = some x) && (match P.kind x with | some .local => true | _ => false)
def parB (es : List Expr) : Bool := !es.all (foldedForSure 8) && !es.all (constantsAlone 8) && es.all headOk
mutual
def mS (P : MP) : S → Stmt → Bool
  | .asg t e, s => match s with
    | .Assign [tg] v _ => mTg P t tg && mE P e v && ((plainV v && !(isTup tg && isTup v)) || (isLc v && isLcE e))
    | _ => false
  | .par2 i j a b, s => match s with
    | .Assign [.Tuple [.Name x px, .Name y py] _ _] (.Tuple [v, w] _ _) _ => lclB P i x && lclB P j y && !(i == j) && !(y == x) && px.line == py.line && parB [v, w] && mE P a v && mE P b w
    | _ => false
  | .par3 i j l a b c, s => match s with
    | .Assign [.Tuple [.Name x px, .Name y py, .Name z pz] _ _] (.Tuple [u, v, w] _ _) _ => lclB P i x && lclB P j y && lclB P l z && !(i == j) && !(i == l) && !(j == l) && !(y == x) && !(z == x) && !(z == y) &&
        px.line == py.line && px.line == pz.line && parB [u, v, w] && mE P a u && mE P b v && mE P c w
    | _ => false
  | .swp o i o' j a b, s => match s with
    | .Assign [.Tuple [.Subscript x1 x2 _, .Subscript y1 y2 _] _ _] (.Tuple [v, w] _ _) _ => mE P o x1 && mE P i x2 && mE P o' y1 && mE P j y2 && mE P a v && mE P b w
    | _ => false
  | .aug i op e, s => match s with
    | .AugAssign (.Name x _) o v _ => locB P i x && opB op o && mE P e v && augOk op
    | _ => false
  | .setI o i e, s => match s with
    | .Assign [.Subscript x y _] v _ => mE P o x && mE P i y && mE P e v && plainV v
    | _ => false
  | .app o e, s => match s with
    | .Expr (.Call (.Attribute x name apos) [v] [] cpos) _ => mE P o x && mE P e v && decide (name = Str.ofString "append") && (apos.endLine == cpos.line) && (match x with | .Name _ _ => true | .Attribute _ _ _ => true | .Subscript _ _ _ => true | _ => false)
    | _ => false
  | .ife c a b, s => match s with
    | .If t p q _ => tstOk c && mE P c t && mSs P a p && mSs P b q
    | _ => false
  | .forE tg w src body, s => match s with
    | .For t it bs [] _ => mTg P tg t && wkTg w t && (match wkArgs P w it with | some l => mEs P src l | none => false) && mSs P body bs
    | _ => false
  | .whl c body, s => match s with
    | .While t bs [] _ => tstOk c && mE P c t && mSs P body bs
    | _ => false
  | .ret e, s => match s with
    | .Return (some v) _ => mE P e v
    | _ => false
  | .expr e, s => match s with
    | .Expr v _ => mE P e v && plainV v
    | _ => false
  | .never, _ => true
  | .rest _, _ => false
def mSs (P : MP) : List S → List Stmt → Bool
  | [], ss => match ss with
    | [] => true
    | _ => false
  | s :: r, ss => if s.ghost = true then mSs P r ss else match ss with
    | st :: ss => mS P s st && mSs P r ss
    | [] => false
end

/-! ### what statements promise -/
def PostN (K : PySem.W.Frag) (cls : String → Option Addr) (R : Rs) (F : Hp) (n : En → Mu → Prop) (Q : L2.St → Hp → Prop) : Prop :=
  ∀ ρ' μ', n ρ' μ' → ∀ σ' F' H', Same F F' → RelEn K F' ρ' σ' → Sto K cls F' R μ' H' → Q σ' H'
def PostXS (K : PySem.W.Frag) (cls : String → Option Addr) (R : Rs) (F : Hp) (x : Exn → En → Mu → Prop) (W : WX) : Prop :=
  ∀ ex ρ' μ', x ex ρ' μ' → ∀ c d σ' F' H', Same F F' → RelEn K F' ρ' σ' → Sto K cls F' R μ' H' → XRep cls F' ex c d → W c d σ' H'
structure PostS (K : PySem.W.Frag) (cls : String → Option Addr) (R : Rs) (F : Hp) (D : SE) (DD : Ends) (W : WX) : Prop where
  nx : PostN K cls R F D.nx DD.nx
  rt : PostK K cls R F D.rt DD.rt
  x : PostXS K cls R F D.x W
def tS (K : PySem.W.Frag) (cls : String → Option Addr) (G : Glb) (W : WX) (s : S) : TS := fun DD σ H =>
  ∃ F R μ ρ D, RelEn K F ρ σ ∧ Sto K cls F R μ H ∧ wpS G s ρ μ D ∧ PostS K cls R F D DD W
def tSs (K : PySem.W.Frag) (cls : String → Option Addr) (G : Glb) (W : WX) (ss : List S) : TS := fun DD σ H =>
  ∃ F R μ ρ D, RelEn K F ρ σ ∧ Sto K cls F R μ H ∧ wpSs G ss ρ μ D ∧ PostS K cls R F D DD W
section
variable {K : PySem.W.Frag} {cls : String → Option Addr} {F F' H : Hp} {R : Rs} {μ : Mu} {ρ : En} {σ : L2.St} {W : WX} {D : SE} {DD : Ends} {G : Glb}
theorem PostN.mono {n : En → Mu → Prop} {Q : L2.St → Hp → Prop} (p : PostN K cls R F n Q) (e : Same F F') : PostN K cls R F' n Q := fun ρ' μ' h σ' F'' H' e' => p ρ' μ' h σ' F'' H' (e.trans e')
theorem PostXS.mono {x : Exn → En → Mu → Prop} (p : PostXS K cls R F x W) (e : Same F F') : PostXS K cls R F' x W := fun ex ρ' μ' h c d σ' F'' H' e' => p ex ρ' μ' h c d σ' F'' H' (e.trans e')
theorem PostS.mono (p : PostS K cls R F D DD W) (e : Same F F') : PostS K cls R F' D DD W := ⟨p.nx.mono e, p.rt.mono e, p.x.mono e⟩
theorem PostXS.at (p : PostXS K cls R F D.x W) (re : RelEn K F ρ σ) : PostX K cls R F (fun ex => D.x ex ρ) (fun c d H' => W c d σ H') := fun ex μ' h c d F' H' e S q => p ex ρ μ' h c d σ F' H' e (re.mono e) S q
/-- a statement that weighs one tree -/
theorem run1 {a : E} {k : KD} {Q : VK} (re : RelEn K F ρ σ) (S : Sto K cls F R μ H) (w : wpE G a ρ μ k fun ex => D.x ex ρ) (px : PostXS K cls R F D.x W) (p : PostK K cls R F k Q) : tE K cls G W a σ H Q := ⟨F, R, μ, ρ, k, _, re, S, w, p, px.at re⟩
theorem runT {a : E} {kk : Bool → Mu → Prop} {Q : Bool → Hp → Prop} (re : RelEn K F ρ σ) (S : Sto K cls F R μ H) (w : wpE G a ρ μ (fun d μ1 => unbl d fun t => kk t μ1) fun ex => D.x ex ρ) (px : PostXS K cls R F D.x W)
    (p : ∀ t μ', kk t μ' → ∀ F' H', Same F F' → Sto K cls F' R μ' H' → Q t H') : tT K cls G W a σ H Q := ⟨F, R, μ, ρ, kk, _, re, S, w, p, px.at re⟩
end
theorem PS.imp {X : Cx} {s : Stmt} {t t' : TS} (h : PS X s t) (f : ∀ D σ H, t' D σ H → t D σ H) : PS X s t' := ⟨fun pins s σ H D I q => h.run pins s σ H D I (f D σ H q)⟩
theorem PSs.imp {X : Cx} {s : List Stmt} {t t' : TS} (h : PSs X s t) (f : ∀ D σ H, t' D σ H → t D σ H) : PSs X s t' := ⟨fun pins s σ H D I q => h.run pins s σ H D I (f D σ H q)⟩

structure SS (X : Cx) (P : MP) (cls : String → Option Addr) (G : Glb) (CXt : CXT) (W : WX) : Prop extends SC X P cls G CXt W where
  own : PassesOwn (model X.prog X.w) X.A X.env X.xe
  fk : P.sc.kind = .function
section
variable {X : Cx} {P : MP} {cls : String → Option Addr} {G : Glb} {CXt : CXT} {W : WX} {pos : Pos}
theorem SS.bk (h : SS X P cls G CXt W) : X.env.blockKind = .function := by
  have e : X.env.scope.kind = .function := by rw [h.sc]; exact h.fk
  unfold Env.blockKind
  rw [e]
  rfl
theorem SS.lcl (h : SS X P cls G CXt W) {i : Nat} {x : Str} (q : lclB P i x = true) : X.N[i]? = some x ∧ X.env.scope.names.lookup x = some .local ∧ X.env.kindOf x = some .local := by
  unfold lclB at q
  simp only [Bool.and_eq_true, decide_eq_true_eq] at q
  have e : X.env.scope.names.lookup x = P.kind x := by rw [h.sc]; rfl
  have k : P.kind x = some .local := by
    cases z : P.kind x with
    | none => rw [z] at q; exact absurd q.2 Bool.false_ne_true
    | some kd => rw [z] at q; cases kd <;> first | rfl | exact absurd q.2 Bool.false_ne_true
  exact ⟨by rw [h.hN]; exact q.1, e.trans k, e.trans k⟩
theorem SS.nd' (h : SS X P cls G CXt W) : X.N.Nodup := by rw [h.hN]; exact h.nd

theorem plain_swaps {v : Expr} (h : plainV v = true) (t : Option Expr) (l : Nat) (env : Env) : swapsWith v t l env = pure false := by
  cases v <;> first | rfl | exact absurd (show false = true from h) Bool.false_ne_true
theorem noTup_stores {tg v : Expr} (h : (isTup tg && isTup v) = false) (ht : ∀ ts pos, tg ≠ .List ts pos) (env : Env) : swappedStores [tg] v env = pure none := by
  unfold swappedStores
  cases tg <;> first | rfl | exact absurd rfl (ht _ _) | skip
  cases v <;> first | rfl | exact absurd (show true = false from h) (by decide)
theorem mTg_noList {t : Tg} {tg : Expr} (h : mTg P t tg = true) : ∀ ts pos, tg ≠ .List ts pos := by
  intro ts pos e
  subst e
  cases t <;> exact absurd (show false = true from h) Bool.false_ne_true
theorem lc_noTup {v : Expr} (h : isLc v = true) : isTup v = false := by cases v <;> first | rfl | exact absurd (show false = true from h) Bool.false_ne_true

theorem asg_run {e : E} {t : Tg} {DD : Ends} {σ : L2.St} {H : Hp} (h : tS X.K cls G W (.asg t e) DD σ H) : tAsg (tE X.K cls G W e) (gD X.K cls t) DD σ H := by
  obtain ⟨F, R, μ, ρ, D, re, S, w, p⟩ := h
  simp only [wpS] at w
  refine run1 re S w p.x fun d μ' h v F' H' e S' r => ⟨F', R, μ', ρ, d, _, re.mono e, S', r, h, fun ρ' q σ' re' _ _ => p.nx _ _ q _ _ _ e re' S'⟩
/-- the general assignment -/
theorem st_asg (hX : SS X P cls G CXt W) {t : Tg} {e : E} {tg v : Expr} (ht : mTg P t tg = true) (he : mE P e v = true) (hs : swapsWithSole [tg] v pos.line X.env = pure false) (hw : swappedStores [tg] v X.env = pure none) : PS X (.Assign [tg] v pos) (tS X.K cls G W (.asg t e)) :=
  PS.imp (ps_asg ((sound e).e X P W hX.toSC v he) (s_tg hX.toSC t tg ht) hs hw (by rw [mTg_plain P t tg ht]; rfl)) fun DD σ H h => asg_run h
/-- what a matched comprehension is made of -/
theorem lc_pack (hX : SC X P cls G CXt W) {m : Bool} {own : List Nat} {tg : Tg} {w : Wk} {src : List E} {cond : Option E} {elt : E} {e : Expr} (h : mE P (.lc m own tg w src cond elt) e = true) :
    ∃ el t it ifs scope pos own', e = .ListComp el [⟨t, it, ifs, 0⟩] scope pos ∧ own'.map (·.2) = own ∧ (∀ i ∈ slots tg, i ∈ own) ∧ PI X t it (iWk X.K cls w (tEs X.K cls G W src)) ∧ BlkOk X.N X.env.scope scope own' ∧
      (∀ (s : Shared) (H : Hp) (C : Addr) (cl : List (Str × Addr)) (fp : List Addr), PG (X.blk s H scope (compEnvC scope cl C X.env) fp) t (gD X.K cls tg)) ∧
      (∀ (s : Shared) (H : Hp) (C : Addr) (cl : List (Str × Addr)) (fp : List Addr), PTs (X.blk s H scope (compEnvC scope cl C X.env) fp) ifs (tC' X.K cls G cond)) ∧
      (∀ (s : Shared) (H : Hp) (C : Addr) (cl : List (Str × Addr)) (fp : List Addr), PE (X.blk s H scope (compEnvC scope cl C X.env) fp) el (tE X.K cls G W0 elt)) ∧ (∀ x, foldedSetIterable it X.env x = pure x) := by
  unfold mE at h
  split at h
  · rename_i el t it ifs scope pos
    simp only [Bool.and_eq_true] at h
    obtain ⟨⟨⟨⟨⟨⟨⟨h1, h2⟩, h3⟩, h4⟩, h5⟩, h6⟩, h7⟩, h8⟩ := h
    split at h2
    · rename_i l hl
      have hh := mEs_heads P src l h2
      have hb := fun (s : Shared) (H : Hp) (C : Addr) (cl : List (Str × Addr)) (fp : List Addr) => hX.blk s H scope C cl fp
      refine ⟨el, t, it, ifs, scope, pos, ownOf P own, rfl, own_snd h6, fun i hi => by have := List.all_eq_true.mp h5 i hi; simpa using this, s_src hX hl (sounds src).e (sounds src).o h2 h4, by rw [hX.hN, hX.sc]; exact blkOk_by h1,
        fun s H C cl fp => s_tg (hb s H C cl fp) tg t h3, fun s H C cl fp => ?_, fun s H C cl fp => (sound elt).e _ _ _ (hb s H C cl fp) el h8, fun x => fold_ok (wk_head hl hh) _ _⟩
      cases cond with
      | none =>
        cases ifs with
        | nil => exact ⟨fun pins s σ H Q I ⟨F, R, μ, ρ, kk, re, S, w, p⟩ => pts_nil.run pins s σ H Q I (p _ _ w F H (Same.refl F) S)⟩
        | cons _ _ => cases h7
      | some c =>
        rcases ifs with _ | ⟨x, _ | ⟨_, _⟩⟩ <;> first | exact no_way h7 | skip
        have h' : (tstOk c && mE (P.blk scope) c x) = true := h7
        rw [Bool.and_eq_true] at h'
        have q := (sound c).t h'.1 _ _ _ (hb s H C cl fp) x h'.2
        exact ⟨fun pins s σ H Q I ⟨F, R, μ, ρ, kk, re, S, w, p⟩ => (pts_one q).run pins s σ H Q I ⟨F, R, μ, ρ, kk, _, re, S, w, p, fun _ _ z => z.elim⟩⟩
    · cases h2
  · cases h
theorem lc2_pack (hX : SC X P cls G CXt W) {m : Bool} {own own2 : List Nat} {tg : Tg} {w : Wk} {src : List E} {tg2 : Tg} {w2 : Wk} {src2 : List E} {elt : E} {e : Expr} (h : mE P (.lc2 m own own2 tg w src tg2 w2 src2 elt) e = true) :
    ∃ el t it t2 it2 scope pos own', e = .ListComp el [⟨t, it, [], 0⟩, ⟨t2, it2, [], 0⟩] scope pos ∧ own'.map (·.2) = own ∧ (∀ i ∈ slots tg, i ∈ own) ∧ (∀ i ∈ slots tg2, i ∈ own2) ∧ (∀ i ∈ own2, i ∈ own'.map (·.2)) ∧ PI X t it (iWk X.K cls w (tEs X.K cls G W src)) ∧ BlkOk X.N X.env.scope scope own' ∧
      (∀ (s : Shared) (H : Hp) (C : Addr) (cl : List (Str × Addr)) (fp : List Addr), PG (X.blk s H scope (compEnvC scope cl C X.env) fp) t (gD X.K cls tg)) ∧
      (∀ (s : Shared) (H : Hp) (C : Addr) (cl : List (Str × Addr)) (fp : List Addr), PI (X.blk s H scope (compEnvC scope cl C X.env) fp) t2 it2 (iWk X.K cls w2 (tEs X.K cls G W0 src2))) ∧
      (∀ (s : Shared) (H : Hp) (C : Addr) (cl : List (Str × Addr)) (fp : List Addr), PG (X.blk s H scope (compEnvC scope cl C X.env) fp) t2 (gD X.K cls tg2)) ∧
      (∀ (s : Shared) (H : Hp) (C : Addr) (cl : List (Str × Addr)) (fp : List Addr), PE (X.blk s H scope (compEnvC scope cl C X.env) fp) el (tE X.K cls G W0 elt)) ∧ (∀ x, foldedSetIterable it X.env x = pure x) ∧ (∀ env x, foldedSetIterable it2 env x = pure x) := by
  unfold mE at h
  split at h
  · rename_i el t it t2 it2 scope pos
    simp only [Bool.and_eq_true] at h
    obtain ⟨⟨⟨⟨⟨⟨⟨⟨⟨⟨⟨h1, h2⟩, h3⟩, h4⟩, h5⟩, h6⟩, h7⟩, h8⟩, h9⟩, h10⟩, h11⟩, h12⟩ := h
    split at h2
    · rename_i l hl
      split at h7
      · rename_i l2 hl2
        have hb := fun (s : Shared) (H : Hp) (C : Addr) (cl : List (Str × Addr)) (fp : List Addr) => hX.blk s H scope C cl fp
        have ho : (ownOf P own).map (·.2) = own := own_snd h6
        exact ⟨el, t, it, t2, it2, scope, pos, ownOf P own, rfl, ho, fun i hi => by have := List.all_eq_true.mp h5 i hi; simpa using this, fun i hi => by have := List.all_eq_true.mp h10 i hi; simpa using this, fun i hi => by rw [ho]; have := List.all_eq_true.mp h11 i hi; simpa using this,
          s_src hX hl (sounds src).e (sounds src).o h2 h4, by rw [hX.hN, hX.sc]; exact blkOk_by h1, fun s H C cl fp => s_tg (hb s H C cl fp) tg t h3, fun s H C cl fp => s_src (hb s H C cl fp) hl2 (sounds src2).e (sounds src2).o h7 h9,
          fun s H C cl fp => s_tg (hb s H C cl fp) tg2 t2 h8, fun s H C cl fp => (sound elt).e _ _ _ (hb s H C cl fp) el h12, fun x => fold_ok (wk_head hl (mEs_heads P src l h2)) _ _, fun env x => fold_ok (wk_head hl2 (mEs_heads (P.blk scope) src2 l2 h7)) _ _⟩
      · cases h7
    · cases h2
  · cases h
theorem asg_runN {e : E} {i : Nat} {DD : Ends} {σ : L2.St} {H : Hp} (h : tS X.K cls G W (.asg (.nm i) e) DD σ H) : tE X.K cls G W e σ H fun v H1 => gName i v σ H1 DD.nx := by
  obtain ⟨F, R, μ, ρ, D, re, S, w, p⟩ := h
  simp only [wpS] at w
  refine run1 re S w p.x fun d μ' h v F' H' e S' r => p.nx _ _ h _ _ _ e ((re.mono e).set r i) S'
/-- a comprehension under a name of its own line: the name is stored first, the comprehension's names go after -/
theorem st_setLc (hX : SS X P cls G CXt W) {i : Nat} {e : E} {y : Str} {py : Pos} {v : Expr} (ht : mTg P (.nm i) (.Name y py) = true) (he : mE P e v = true) (hl : isLcE e = true) (hs : swapsWith v (some (.Name y py)) pos.line X.env = pure true) (hyl : X.env.scope.names.lookup y = some .local) : PS X (.Assign [.Name y py] v pos) (tS X.K cls G W (.asg (.nm i) e)) := by
  have hy : X.N[i]? = some y := by
    have h' : locB P i y = true := ht
    unfold locB at h'
    simp only [Bool.and_eq_true, decide_eq_true_eq] at h'
    rw [hX.hN]; exact h'.1
  cases e with
  | lc m own tg w src cond elt =>
    obtain ⟨el, t, it, ifs, scope, pos', own', rfl, ho, hsl, hi, ok, hg, htt, hee, hf⟩ := lc_pack hX.toSC he
    exact PS.imp (ps_setLc hX.calm hX.nd' hy hyl hs hi ok hg htt hee hf) fun DD σ H h => lc_loop ho hsl (asg_runN h)
  | lc2 m own own2 tg w src tg2 w2 src2 elt =>
    obtain ⟨el, t, it, t2, it2, scope, pos', own', rfl, ho, hsl, hsl2, hv, hi, ok, hg, hi2, hg2, hee, hf, hf2⟩ := lc2_pack hX.toSC he
    exact PS.imp (ps_setLc2 (vs1 := own2) hX.calm hX.nd' hy hyl hs hi ok hv hg (fun s H C cl fp => s_yes) hi2 hg2 (fun s H C cl fp => s_yes) hee hf hf2) fun DD σ H h => lc2_loop ho hsl hsl2 (asg_runN h)
  | _ => exact absurd (show false = true from hl) Bool.false_ne_true
/-- the assignment of a comprehension -/
theorem st_lc (hX : SS X P cls G CXt W) {t : Tg} {e : E} {tg v : Expr} (ht : mTg P t tg = true) (he : mE P e v = true) (hl : isLc v = true) (hl' : isLcE e = true) : PS X (.Assign [tg] v pos) (tS X.K cls G W (.asg t e)) := by
  have hw : swappedStores [tg] v X.env = pure none := noTup_stores (by rw [lc_noTup hl, Bool.and_false]) (mTg_noList ht) _
  by_cases hn : ∃ y py, tg = .Name y py
  · obtain ⟨y, py, rfl⟩ := hn
    cases t with
    | tup ts => exact absurd (show false = true from ht) Bool.false_ne_true
    | nm i =>
      cases v <;> first | exact absurd (show false = true from hl) Bool.false_ne_true | skip
      rename_i el gens scope pos'
      have es : swapsWith (.ListComp el gens scope pos') (some (.Name y py)) pos.line X.env = pure (X.env.blockKind == .function && X.env.kindOf y == some .local && py.line == pos'.line && !(scope.names.any fun (n, k) => n == y && (k == .local || k == .cell))) := rfl
      by_cases hb : (X.env.blockKind == .function && X.env.kindOf y == some .local && py.line == pos'.line && !(scope.names.any fun (n, k) => n == y && (k == .local || k == .cell))) = true
      · rw [hb] at es
        refine st_setLc hX ht he hl' es ?_
        simp only [Bool.and_eq_true] at hb
        exact beq_iff_eq.mp hb.1.1.2
      · rw [Bool.not_eq_true] at hb
        rw [hb] at es
        exact st_asg hX ht he es hw
  · refine st_asg hX ht he ?_ hw
    show swapsWith v (some tg) pos.line X.env = pure false
    cases v <;> first | exact absurd (show false = true from hl) Bool.false_ne_true | skip
    cases tg <;> first | rfl | exact absurd ⟨_, _, rfl⟩ hn
end
end SR

/-! each statement -/
namespace SR
open PySem PySem.Spec PyProof.Rows L2 RZ
section
variable {X : Cx} {P : MP} {cls : String → Option Addr} {G : Glb} {CXt : CXT} {W : WX} {pos : Pos}

theorem lclB_loc {i : Nat} {x : Str} (hX : SC X P cls G CXt W) (h : locB P i x = true) : X.N[i]? = some x ∧ L2.Loc X.env.scope x ∧ (X.fn x = true ∨ X.env.scope.names.lookup x = some .local) := by
  unfold locB at h
  simp only [Bool.and_eq_true, decide_eq_true_eq] at h
  obtain ⟨h1, h2⟩ := h
  have ek : X.env.scope.names.lookup x = P.kind x := by rw [hX.sc]; rfl
  refine ⟨by rw [hX.hN]; exact h1, ?_⟩
  unfold L2.Loc
  rw [ek, hX.fn]
  cases q : P.kind x with
  | none => rw [q] at h2; cases h2
  | some kd =>
    rw [q] at h2
    cases kd <;> first | exact ⟨.inl rfl, .inr rfl⟩ | exact ⟨.inr rfl, .inl h2⟩ | cases h2

theorem plain_sole {v t : Expr} {l : Nat} {env : Env} (h : plainV v = true) : swapsWithSole [t] v l env = pure false := plain_swaps h (some t) l env
theorem noStar_of {es : List Expr} (h : es.all headOk = true) : (es.any fun | .Starred .. => true | _ => false) = false := by
  induction es with
  | nil => rfl
  | cons e r ih =>
    rw [List.all_cons, Bool.and_eq_true] at h
    rw [List.any_cons, ih h.2, Bool.or_false]
    cases e <;> first | rfl | exact absurd (show false = true from h.1) Bool.false_ne_true

def nmsOf (env : Env) (ts : List Expr) : List Str := ts.filterMap fun
  | .Name id pos => if env.kindOf id == some NameKind.local && pos.line == ((ts.head?.map (·.pos.line)).getD 0) then some id else none
  | _ => none
theorem stores_of {X : Cx} {ts vs : List Expr} {kt kv : Nat} {pt pv : Pos} {ns : List Str} (bk : X.env.blockKind = .function) (hl : ((!(ts.length == 2 || ts.length == 3)) || vs.length != ts.length) = false) (h : parB vs = true) (hn : nmsOf X.env ts = ns) (hl2 : (ns.length != ts.length) = false) (hd : (ns.eraseDups.length != ns.length) = false) :
    swappedStores [.Tuple ts kt pt] (.Tuple vs kv pv) X.env = pure (some ns) := by
  unfold parB at h
  simp only [Bool.and_eq_true, Bool.not_eq_true'] at h
  obtain ⟨⟨h1, h2⟩, h3⟩ := h
  have hs := noStar_of h3
  unfold swappedStores
  simp only [bk]
  show (if ((!(ts.length == 2 || ts.length == 3)) || vs.length != ts.length || (ScopeKind.function != ScopeKind.function)) = true then pure none else _) = _
  rw [hl, if_neg (by decide)]
  show (if (List.any vs fun | .Starred .. => true | _ => false) = true then pure none else _) = _
  rw [hs]
  rw [if_neg Bool.false_ne_true]
  show (if ((nmsOf X.env ts).length != ts.length || (nmsOf X.env ts).eraseDups.length != (nmsOf X.env ts).length) = true then pure none else
      if vs.all (foldedForSure 8) = true then pure none else if vs.all (constantsAlone 8) = true then (do unsupported "assign.tuple-of-constant-expressions:order-of-the-stores"; pure (some (nmsOf X.env ts))) else pure (some (nmsOf X.env ts))) = _
  rw [hn, h1, h2, hl2, hd]
  rfl
theorem stores_none {X : Cx} {ts vs : List Expr} {kt kv : Nat} {pt pv : Pos} (hn : nmsOf X.env ts = []) (hl : ts.length = 2) : swappedStores [.Tuple ts kt pt] (.Tuple vs kv pv) X.env = pure none := by
  unfold swappedStores
  show (if ((!(ts.length == 2 || ts.length == 3)) || vs.length != ts.length || (X.env.blockKind != ScopeKind.function)) = true then pure none else if (List.any vs fun | .Starred .. => true | _ => false) = true then pure none else
    if ((nmsOf X.env ts).length != ts.length || (nmsOf X.env ts).eraseDups.length != (nmsOf X.env ts).length) = true then pure none else _) = _
  rw [hn, hl]
  split
  · rfl
  split
  · rfl
  rfl
theorem parB_stores2 (hX : SS X P cls G CXt W) {x y : Str} {px py pt pv : Pos} {kt kv : Nat} {v w : Expr} (h : parB [v, w] = true) (hx : X.env.kindOf x = some .local) (hy : X.env.kindOf y = some .local) (hxy : (y == x) = false) (hl : (px.line == py.line) = true) :
    swappedStores [.Tuple [.Name x px, .Name y py] kt pt] (.Tuple [v, w] kv pv) X.env = pure (some [x, y]) := by
  have e2 : (py.line == px.line) = true := by rw [beq_iff_eq] at hl ⊢; exact hl.symm
  have fm : nmsOf X.env [Expr.Name x px, Expr.Name y py] = [x, y] := by
    show List.filterMap (fun | Expr.Name id pos => if X.env.kindOf id == some NameKind.local && pos.line == px.line then some id else none | _ => none) [Expr.Name x px, Expr.Name y py] = _
    simp [List.filterMap, hx, hy, e2]
  exact stores_of hX.bk rfl h fm rfl (by simp [List.eraseDups_cons, hxy])
theorem parB_stores3 (hX : SS X P cls G CXt W) {x y z : Str} {px py pz pt pv : Pos} {kt kv : Nat} {u v w : Expr} (h : parB [u, v, w] = true) (hx : X.env.kindOf x = some .local) (hy : X.env.kindOf y = some .local) (hz : X.env.kindOf z = some .local)
    (hxy : (y == x) = false) (hxz : (z == x) = false) (hyz : (z == y) = false) (hl : (px.line == py.line) = true) (hl2 : (px.line == pz.line) = true) :
    swappedStores [.Tuple [.Name x px, .Name y py, .Name z pz] kt pt] (.Tuple [u, v, w] kv pv) X.env = pure (some [x, y, z]) := by
  have e2 : (py.line == px.line) = true := by rw [beq_iff_eq] at hl ⊢; exact hl.symm
  have e3 : (pz.line == px.line) = true := by rw [beq_iff_eq] at hl2 ⊢; exact hl2.symm
  have fm : nmsOf X.env [Expr.Name x px, Expr.Name y py, Expr.Name z pz] = [x, y, z] := by
    show List.filterMap (fun | Expr.Name id pos => if X.env.kindOf id == some NameKind.local && pos.line == px.line then some id else none | _ => none) [Expr.Name x px, Expr.Name y py, Expr.Name z pz] = _
    simp [List.filterMap, hx, hy, hz, e2, e3]
  exact stores_of hX.bk rfl h fm rfl (by simp [List.eraseDups_cons, hxy, hxz, hyz])

theorem tA_two {a b : E} {Q : List V → Hp → Prop} {F H : Hp} {R : Rs} {μ : Mu} {ρ : En} {σ : L2.St} {k : D → D → Mu → Prop} {x : KX} (re : RelEn X.K F ρ σ) (S : Sto X.K cls F R μ H)
    (w : wpE G a ρ μ (fun d μ1 => wpE G b ρ μ1 (fun e μ2 => k d e μ2) x) x) (px : PostX X.K cls R F x (fun c d H' => W c d σ H'))
    (p : ∀ d e μ', k d e μ' → ∀ v u F' H', Same F F' → Sto X.K cls F' R μ' H' → Rep X.K F' v d → Rep X.K F' u e → Q [v, u] H') : tEs X.K cls G W [a, b] σ H Q := by
  refine ⟨F, R, μ, ρ, fun ds μ' => match ds with | [d, e] => k d e μ' | _ => False, x, re, S, w, ?_, px⟩
  intro ds μ' h vs F' H' e S' r
  split at h
  · cases r with
    | cons r1 r2 =>
      cases r2 with
      | cons r2 r3 =>
        cases r3
        exact p _ _ _ h _ _ _ _ e S' r1 r2
  · exact h.elim
theorem tA_three {a b c : E} {Q : List V → Hp → Prop} {F H : Hp} {R : Rs} {μ : Mu} {ρ : En} {σ : L2.St} {k : D → D → D → Mu → Prop} {x : KX} (re : RelEn X.K F ρ σ) (S : Sto X.K cls F R μ H)
    (w : wpE G a ρ μ (fun d μ1 => wpE G b ρ μ1 (fun e μ2 => wpE G c ρ μ2 (fun f μ3 => k d e f μ3) x) x) x) (px : PostX X.K cls R F x (fun c d H' => W c d σ H'))
    (p : ∀ d e f μ', k d e f μ' → ∀ v u w F' H', Same F F' → Sto X.K cls F' R μ' H' → Rep X.K F' v d → Rep X.K F' u e → Rep X.K F' w f → Q [v, u, w] H') : tEs X.K cls G W [a, b, c] σ H Q := by
  refine ⟨F, R, μ, ρ, fun ds μ' => match ds with | [d, e, f] => k d e f μ' | _ => False, x, re, S, w, ?_, px⟩
  intro ds μ' h vs F' H' e S' r
  split at h
  · cases r with
    | cons r1 r2 =>
      cases r2 with
      | cons r2 r3 =>
        cases r3 with
        | cons r3 r4 =>
          cases r4
          exact p _ _ _ _ h _ _ _ _ _ e S' r1 r2 r3
  · exact h.elim

/-! ### assignments in parallel -/
theorem st_par2 (hX : SS X P cls G CXt W) {i j : Nat} {a b : E} {st : Stmt} (h : mS P (.par2 i j a b) st = true) : PS X st (tS X.K cls G W (.par2 i j a b)) := by
  unfold mS at h
  split at h
  · rename_i x px y py _ _ v w _ _ _
    simp only [Bool.and_eq_true, Bool.not_eq_true'] at h
    obtain ⟨⟨⟨⟨⟨⟨⟨h1, h2⟩, h3⟩, h4⟩, h5⟩, h6⟩, h7⟩, h8⟩ := h
    obtain ⟨n1, l1, k1⟩ := hX.lcl h1
    obtain ⟨n2, l2, k2⟩ := hX.lcl h2
    have hne : i ≠ j := fun e => by rw [e, beq_self_eq_true] at h3; cases h3
    refine PS.imp (ps_par hX.calm hX.nd' n1 n2 hne l1 l2 ((sounds [a, b]).e X P W hX.toSC [v, w] (by
      show (mE P a v && (mE P b w && true)) = true
      rw [h7, h8]; rfl)) (parB_stores2 hX h6 k1 k2 h4 h5)) fun DD σ H ⟨F, R, μ, ρ, D, re, S, q, p⟩ => ?_
    simp only [wpS] at q
    refine tA_two re S q (p.x.at re) fun d e μ' h v u F' H' e S' r1 r2 => ⟨v, u, rfl, p.nx _ _ h _ _ _ e (((re.mono e).set r1 i).set r2 j) S'⟩
  · cases h
theorem st_par3 (hX : SS X P cls G CXt W) {i j l : Nat} {a b c : E} {st : Stmt} (h : mS P (.par3 i j l a b c) st = true) : PS X st (tS X.K cls G W (.par3 i j l a b c)) := by
  unfold mS at h
  split at h
  · rename_i x px y py z pz _ _ u v w _ _ _
    simp only [Bool.and_eq_true, Bool.not_eq_true'] at h
    obtain ⟨⟨⟨⟨⟨⟨⟨⟨⟨⟨⟨⟨⟨⟨h1, h2⟩, h3⟩, h4⟩, h5⟩, h6⟩, h7⟩, h8⟩, h9⟩, h10⟩, h11⟩, h12⟩, h13⟩, h14⟩, h15⟩ := h
    obtain ⟨n1, l1, k1⟩ := hX.lcl h1
    obtain ⟨n2, l2, k2⟩ := hX.lcl h2
    obtain ⟨n3, l3, k3⟩ := hX.lcl h3
    have hij : i ≠ j := fun e => by rw [e, beq_self_eq_true] at h4; cases h4
    have hil : i ≠ l := fun e => by rw [e, beq_self_eq_true] at h5; cases h5
    have hjl : j ≠ l := fun e => by rw [e, beq_self_eq_true] at h6; cases h6
    refine PS.imp (ps_par3 hX.calm hX.nd' n1 n2 n3 hij hil hjl l1 l2 l3 ((sounds [a, b, c]).e X P W hX.toSC [u, v, w] (by
      show (mE P a u && (mE P b v && (mE P c w && true))) = true
      rw [h13, h14, h15]; rfl)) (parB_stores3 hX h12 k1 k2 k3 h7 h8 h9 h10 h11)) fun DD σ H ⟨F, R, μ, ρ, D, re, S, q, p⟩ => ?_
    simp only [wpS] at q
    refine tA_three re S q (p.x.at re) fun d e f μ' h v u w F' H' e S' r1 r2 r3 => ⟨v, u, w, rfl, p.nx _ _ h _ _ _ e ((((re.mono e).set r1 i).set r2 j).set r3 l) S'⟩
  · cases h

/-! ### o[i] = e -/
theorem sub_assign {o i : Expr} (hi : headOk i = true) : ∀ v, assign (.Subscript o i pos) X.env v = (do
      let ov ← holding [v] (eval o X.env)
      let iv ← holding [v, ov] (eval i X.env)
      standAt pos
      holding [v, ov, iv] (setItem ov iv v)
      release [v, ov, iv] []) := by
  intro v
  cases i <;> first | rfl | exact absurd (show false = true from hi) Bool.false_ne_true
theorem pg_ix (hX : SC X P cls G CXt W) {o i : E} {x y : Expr} (ho : mE P o x = true) (hi : mE P i y = true) : PG X (.Subscript x y pos) (gSub (tE X.K cls G W o) (tE X.K cls G W i) (rSetD X.K cls)) :=
  pg_sub ((sound o).e X P W hX x ho) ((sound i).e X P W hX y hi) (set_data hX.hu) (sub_assign (mE_head P i y hi))
/-- o[i] = d, read -/
theorem gIx_run {o i : E} {v : V} {d : D} {F H : Hp} {R : Rs} {μ : Mu} {ρ : En} {σ : L2.St} {D : SE} {Q : L2.St → Hp → Prop} {n : Mu → Prop} (re : RelEn X.K F ρ σ) (S : Sto X.K cls F R μ H) (r : Rep X.K F v d) (px : PostXS X.K cls R F D.x W)
    (w : wpE G o ρ μ (fun p μ2 => wpE G i ρ μ2 (fun q μ3 => setW p q d μ3 n) fun ex => D.x ex ρ) fun ex => D.x ex ρ) (hn : ∀ μ', n μ' → ∀ F' H', Same F F' → Sto X.K cls F' R μ' H' → Q σ H') :
    gSub (tE X.K cls G W o) (tE X.K cls G W i) (rSetD X.K cls) v σ H Q := by
  show tE X.K cls G W o σ H _
  refine run1 re S w px fun p μ1 h1 v1 F1 H1 e1 S1 r1 => ?_
  show tE X.K cls G W i σ H1 _
  refine run1 (re.mono e1) S1 h1 (px.mono e1) fun q μ2 h2 v2 F2 H2 e2 S2 r2 => ?_
  exact ⟨F2, R, μ2, p, q, d, _, S2, r1.mono e2, r2, r.mono (e1.trans e2), h2, fun μ' h3 H' S3 => hn μ' h3 F2 H' (e1.trans e2) S3⟩
theorem st_setI (hX : SS X P cls G CXt W) {o i e : E} {st : Stmt} (h : mS P (.setI o i e) st = true) : PS X st (tS X.K cls G W (.setI o i e)) := by
  unfold mS at h
  split at h
  · rename_i x y _ v _
    simp only [Bool.and_eq_true] at h
    obtain ⟨⟨⟨h1, h2⟩, h3⟩, h4⟩ := h
    refine PS.imp (ps_asg ((sound e).e X P W hX.toSC v h3) (pg_ix hX.toSC h1 h2) (plain_sole h4) rfl) fun DD σ H ⟨F, R, μ, ρ, D, re, S, w, p⟩ => ?_
    simp only [wpS] at w
    refine run1 re S w p.x fun d μ1 h1 v F1 H1 e1 S1 r1 => ?_
    exact gIx_run (re.mono e1) S1 r1 (p.x.mono e1) h1 fun μ' h2 F' H' e S' => p.nx _ _ h2 _ _ _ (e1.trans e) (re.mono (e1.trans e)) S'
  · cases h
theorem st_swp (hX : SS X P cls G CXt W) {o i o' j a b : E} {st : Stmt} (h : mS P (.swp o i o' j a b) st = true) : PS X st (tS X.K cls G W (.swp o i o' j a b)) := by
  unfold mS at h
  split at h
  · rename_i x1 x2 _ y1 y2 _ _ _ v w _ _ _
    simp only [Bool.and_eq_true] at h
    obtain ⟨⟨⟨⟨⟨h1, h2⟩, h3⟩, h4⟩, h5⟩, h6⟩ := h
    refine PS.imp (ps_asg (pe_tup ((sounds [a, b]).e X P W hX.toSC [v, w] (by
      show (mE P a v && (mE P b w && true)) = true
      rw [h5, h6]; rfl))) (pg_tup hX.calm (pgs_cons (pg_ix hX.toSC h1 h2) (pgs_cons (pg_ix hX.toSC h3 h4) pgs_nil))) rfl (stores_none rfl rfl)) fun DD σ H ⟨F, R, μ, ρ, D, re, S, q, p⟩ => ?_
    simp only [wpS] at q
    refine tA_two re S q (p.x.at re) fun d e μ1 h v u F1 H1 e1 S1 r1 r2 => ⟨by show 2 ≤ sizeLine; decide, fun a' ha => ?_⟩
    obtain ⟨e2, S2⟩ := S1.newF (o := .tup [v, u]) ha (by show 2 ≤ sizeLine; decide)
    refine ⟨a', [v, u], rfl, SqT.of upd_same, rfl, v, [u], rfl, ?_⟩
    have e12 := e1.trans e2
    refine gIx_run (re.mono e12) S2 (r1.mono e2) (p.x.mono e12) h fun μ3 h3 F3 H3 e3 S3 => ⟨u, [], rfl, ?_⟩
    refine gIx_run (re.mono (e12.trans e3)) S3 (r2.mono (e2.trans e3)) (p.x.mono (e12.trans e3)) h3 fun μ4 h4 F4 H4 e4 S4 => ⟨rfl, ?_⟩
    exact p.nx _ _ h4 _ _ _ ((e12.trans e3).trans e4) (re.mono ((e12.trans e3).trans e4)) S4
  · cases h
theorem st_aug (hX : SS X P cls G CXt W) {i : Nat} {op : Op2} {e : E} {st : Stmt} (h : mS P (.aug i op e) st = true) : PS X st (tS X.K cls G W (.aug i op e)) := by
  unfold mS at h
  split at h
  · rename_i x _ o v _
    simp only [Bool.and_eq_true] at h
    obtain ⟨⟨⟨h1, h2⟩, h3⟩, h4⟩ := h
    obtain ⟨n1, l1, k1⟩ := lclB_loc hX.toSC h1
    have he := (sound e).e X P W hX.toSC v h3
    cases op <;> cases o <;> first | exact absurd (show false = true from h2) Bool.false_ne_true | skip
    · refine PS.imp (ps_aug hX.nd' n1 l1 he ip_add k1) fun DD σ H ⟨F, R, μ, ρ, D, re, S, w, p⟩ => ?_
      simp only [wpS] at w
      split at w
      · rename_i d hd
        obtain ⟨vv, q, r⟩ := re.2 i d hd
        refine ⟨vv, q, run1 re S w p.x fun f μ1 h1 v1 F1 H1 e1 S1 r1 => ?_⟩
        cases r <;> first | exact h1.elim | skip
        cases r1 <;> first | exact h1.elim | skip
        exact ⟨_, _, rfl, rfl, p.nx _ _ h1 _ _ _ e1 ((re.mono e1).set (.int _) i) S1⟩
      · exact w.elim
    · refine PS.imp (ps_aug hX.nd' n1 l1 he ip_sub k1) fun DD σ H ⟨F, R, μ, ρ, D, re, S, w, p⟩ => ?_
      simp only [wpS] at w
      split at w
      · rename_i d hd
        obtain ⟨vv, q, r⟩ := re.2 i d hd
        refine ⟨vv, q, run1 re S w p.x fun f μ1 h1 v1 F1 H1 e1 S1 r1 => ?_⟩
        cases r <;> first | exact h1.elim | skip
        cases r1 <;> first | exact h1.elim | skip
        exact ⟨_, _, rfl, rfl, p.nx _ _ h1 _ _ _ e1 ((re.mono e1).set (.int _) i) S1⟩
      · exact w.elim
    all_goals exact absurd (show false = true from h4) Bool.false_ne_true
  · cases h

/-! ### xs.append(e) -/
theorem st_app (hX : SS X P cls G CXt W) {o e : E} {st : Stmt} (h : mS P (.app o e) st = true) : PS X st (tS X.K cls G W (.app o e)) := by
  unfold mS at h
  split at h
  · rename_i x name apos v cpos _
    simp only [Bool.and_eq_true, decide_eq_true_eq] at h
    obtain ⟨⟨⟨⟨h1, h2⟩, rfl⟩, h4⟩, h5⟩ := h
    have hv := mE_head P e v h2
    have hst : starEach [v] X.env = [(false, eval v X.env)] := star_ok hv [] X.env
    have hb : attributeBase x (Str.ofString "append") X.env (eval x X.env) = eval x X.env := by
      cases x <;> first | rfl | exact absurd (show false = true from h5) Bool.false_ne_true
    refine PS.imp (ps_expr (pe_bm PySem.F.plainAttrs_list PySem.F.slot_list_append PySem.F.type_list_append mt_append ((sound o).e X P W hX.toSC x h1) ((sounds [e]).e X P W hX.toSC [v] (by
      show (mE P e v && true) = true
      rw [h2]; rfl)) hb (by rw [hst]; rfl) h4 hst rfl) rfl) fun DD σ H ⟨F, R, μ, ρ, D, re, S, w, p⟩ => ?_
    simp only [wpS] at w
    show tE X.K cls G W o σ H _
    refine run1 re S w p.x fun d μ1 h1 u F1 H1 e1 S1 r1 => ?_
    cases r1 <;> first | exact h1.elim | skip
    rename_i a
    obtain ⟨⟨l1, m1⟩, h1⟩ := h1
    obtain ⟨vs, q1, q2⟩ := S1.at_ _ _ m1
    refine ⟨.inl ⟨rfl, vs, SqL.of q1⟩, F1, R, μ1, ρ, fun ds μ' => match ds with | [d] => appW a d μ' fun μ3 => D.nx ρ μ3 | _ => False, _, re.mono e1, S1, h1, ?_, (p.x.mono e1).at (re.mono e1)⟩
    intro ds μ2 h us F2 H2 e2 S2 r
    split at h
    · cases r with
      | cons r1 r2 =>
        cases r2
        unfold appW at h
        split at h
        · rename_i l em
          obtain ⟨ws, h3, h4⟩ := S2.at_ _ _ em
          refine ⟨_, ws, _, rfl, rfl, h3, by rw [h4.length]; exact h.1, ?_⟩
          refine p.nx _ _ h.2 _ _ _ (e1.trans e2) (re.mono (e1.trans e2)) (S2.put em ⟨_, upd_same, h4.append (.cons r1 .nil)⟩ ?_)
          show (l ++ [_]).length ≤ sizeLine
          rw [List.length_append, List.length_singleton]
          exact h.1
        · exact h.elim
    · exact h.elim
  · cases h

/-! ### the rest -/
theorem st_ret (hX : SS X P cls G CXt W) {e : E} {st : Stmt} (h : mS P (.ret e) st = true) : PS X st (tS X.K cls G W (.ret e)) := by
  unfold mS at h
  split at h
  · exact PS.imp (ps_ret ((sound e).e X P W hX.toSC _ h)) fun DD σ H ⟨F, R, μ, ρ, D, re, S, w, p⟩ => by
      simp only [wpS] at w
      exact run1 re S w p.x p.rt
  · cases h
theorem st_expr (hX : SS X P cls G CXt W) {e : E} {st : Stmt} (h : mS P (.expr e) st = true) : PS X st (tS X.K cls G W (.expr e)) := by
  unfold mS at h
  split at h
  · rw [Bool.and_eq_true] at h
    exact PS.imp (ps_expr ((sound e).e X P W hX.toSC _ h.1) (plain_swaps h.2 _ _ _)) fun DD σ H ⟨F, R, μ, ρ, D, re, S, w, p⟩ => by
      simp only [wpS] at w
      exact run1 re S w p.x fun d μ1 h1 u F1 H1 e1 S1 r1 => p.nx _ _ h1 _ _ _ e1 (re.mono e1) S1
  · cases h
theorem st_never {st : Stmt} : PS X st (tS X.K cls G W .never) := PS.imp ps_never fun DD σ H ⟨F, R, μ, ρ, D, re, S, w, p⟩ => w
theorem st_ife (hX : SS X P cls G CXt W) {c : E} {a b : List SR.S} {st : Stmt} (ia : ∀ ss, mSs P a ss = true → PSs X ss (tSs X.K cls G W a)) (ib : ∀ ss, mSs P b ss = true → PSs X ss (tSs X.K cls G W b)) (h : mS P (.ife c a b) st = true) : PS X st (tS X.K cls G W (.ife c a b)) := by
  unfold mS at h
  split at h
  · simp only [Bool.and_eq_true] at h
    obtain ⟨⟨⟨h1, h2⟩, h3⟩, h4⟩ := h
    refine PS.imp (ps_if ((sound c).t h1 X P W hX.toSC _ h2) (ia _ h3) (ib _ h4)) fun DD σ H ⟨F, R, μ, ρ, D, re, S, w, p⟩ => ?_
    simp only [wpS] at w
    show tT X.K cls G W c σ H _
    refine runT (kk := fun k μ1 => if k = true then wpSs G a ρ μ1 D else wpSs G b ρ μ1 D) re S w p.x fun t μ' h F' H' e S' => ?_
    cases t with
    | true => exact ⟨F', R, μ', ρ, D, re.mono e, S', h, p.mono e⟩
    | false => exact ⟨F', R, μ', ρ, D, re.mono e, S', h, p.mono e⟩
  · cases h
theorem st_whl (hX : SS X P cls G CXt W) {c : E} {body : List SR.S} {st : Stmt} (ib : ∀ ss, mSs P body ss = true → PSs X ss (tSs X.K cls G W body)) (h : mS P (.whl c body) st = true) : PS X st (tS X.K cls G W (.whl c body)) := by
  unfold mS at h
  split at h
  · simp only [Bool.and_eq_true] at h
    obtain ⟨⟨h1, h2⟩, h3⟩ := h
    refine PS.imp (ps_while hX.own ((sound c).t h1 X P W hX.toSC _ h2) (ib _ h3)) fun DD σ H ⟨F, R, μ, ρ, D, re, S, w, p⟩ => ?_
    simp only [wpS] at w
    obtain ⟨I, ⟨m0, i0⟩, turn⟩ := w
    refine ⟨fun m σ' H' => ∃ F' μ' ρ', Same F F' ∧ RelEn X.K F' ρ' σ' ∧ Sto X.K cls F' R μ' H' ∧ I m ρ' μ', ⟨m0, F, μ, ρ, Same.refl F, re, S, i0⟩, ?_⟩
    rintro m σ' H' ⟨F', μ', ρ', e', re', S', i'⟩
    have p' := p.mono e'
    refine runT (D := D) (kk := fun k μ1 => if k = true then wpSs G body ρ' μ1 { D with nx := fun ρ2 μ2 => ∃ m', m' < m ∧ I m' ρ2 μ2 } else D.nx ρ' μ1) re' S' (turn m ρ' μ' i') p'.x fun t μ1 h F1 H1 e1 S1 => ?_
    cases t with
    | false => exact p'.nx _ _ h _ _ _ e1 (re'.mono e1) S1
    | true =>
      rw [if_pos rfl]
      refine ⟨fun σ2 H2 => ∃ m', m' < m ∧ ∃ F2 μ2 ρ2, Same F F2 ∧ RelEn X.K F2 ρ2 σ2 ∧ Sto X.K cls F2 R μ2 H2 ∧ I m' ρ2 μ2, fun σ2 H2 q => q, ?_⟩
      refine ⟨F1, R, μ1, ρ', _, re'.mono e1, S1, h, ⟨fun ρ2 μ2 ⟨m', hm, i2⟩ σ2 F2 H2 e2 re2 S2 => ⟨m', hm, F2, μ2, ρ2, (e'.trans e1).trans e2, re2, S2, i2⟩, (p'.mono e1).rt, (p'.mono e1).x⟩⟩
  · cases h
theorem st_for (hX : SS X P cls G CXt W) {tg : Tg} {w : Wk} {src : List E} {body : List SR.S} {st : Stmt} (ib : ∀ ss, mSs P body ss = true → PSs X ss (tSs X.K cls G W body)) (h : mS P (.forE tg w src body) st = true) : PS X st (tS X.K cls G W (.forE tg w src body)) := by
  unfold mS at h
  split at h
  · simp only [Bool.and_eq_true] at h
    obtain ⟨⟨⟨h1, h2⟩, h3⟩, h4⟩ := h
    split at h3
    · rename_i t it bs _ _ l hl
      refine PS.imp (ps_for hX.own hX.calm (s_src hX.toSC hl (sounds src).e (sounds src).o h3 h2) (s_tg hX.toSC tg t h1) (ib _ h4) (fun x => fold_ok (wk_head hl (mEs_heads P src l h3)) _ _)) fun DD σ H ⟨F, R, μ, ρ, D, re, S, wp, p⟩ => ?_
      simp only [wpS] at wp
      refine ⟨F, R, μ, ρ, _, _, re, S, wp, fun ds μ1 h1 vs F1 H1 e1 S1 r1 => ?_, p.x.at re⟩
      refine ⟨F1, R, μ1, ds, _, S1, r1, h1, fun items pin hk F2 H2 J e2 S2 wk hp => ?_⟩
      have e12 := e1.trans e2
      refine ⟨fun i mm σh Hh => ∃ (Fh : Hp) (μh : Mu) (ρh : En), mm = items.length - i ∧ i ≤ items.length ∧ Same F2 Fh ∧ RelEn X.K Fh ρh σh ∧ Sto X.K cls Fh R μh Hh ∧
        forW pin (fun d ρ1 μ2 k => asgW tg d ρ1 fun ρ2 => wpSs G body ρ2 μ2 { D with nx := k }) (items.drop i) ρh μh D.nx, ⟨items.length, F2, μ1, ρ, rfl, Nat.zero_le _, Same.refl _, re.mono e12, S2, hk⟩, ?_⟩
      rintro i mm σh Hh ⟨Fh, μh, ρh, rfl, hi, eh, reh, Sh, wl⟩
      by_cases hlt : i < items.length
      · have hd : items.drop i = items[i] :: items.drop (i + 1) := List.drop_eq_getElem_cons hlt
        rw [hd] at wl
        obtain ⟨hpin, wl⟩ := wl
        refine .inr ⟨wk.go i Fh _ μh Hh eh Sh hpin hlt, fun σ' H' => ∃ (F' : Hp) (μ' : Mu) (ρ' : En), Same F2 F' ∧ RelEn X.K F' ρ' σ' ∧ Sto X.K cls F' R μ' H' ∧
          forW pin (fun d ρ1 μ2 k => asgW tg d ρ1 fun ρ2 => wpSs G body ρ2 μ2 { D with nx := k }) (items.drop (i + 1)) ρ' μ' D.nx,
          fun σ' H' ⟨F', μ', ρ', a1, a2, a3, a4⟩ => ⟨items.length - (i + 1), by omega, F', μ', ρ', rfl, hlt, a1, a2, a3, a4⟩, fun x' H' hy => ?_⟩
        obtain ⟨Fy, ey, Sy, ry⟩ := wk.yld i Fh _ μh Hh x' H' _ eh Sh hpin (List.getElem?_eq_getElem hlt) hy
        refine ⟨Fy, R, μh, ρh, _, _, reh.mono ey, Sy, ry, wl, fun ρ2 hc σ2 re2 hl2 hj2 => ?_⟩
        have e2y := eh.trans ey
        have py := (p.mono e12).mono e2y
        exact ⟨Fy, R, μh, ρ2, _, re2, Sy, hc, ⟨fun ρ3 μ3 h3 σ3 F3 H3 e3 re3 S3 => ⟨F3, μ3, ρ3, e2y.trans e3, re3, S3, h3⟩, py.rt, py.x⟩⟩
      · have ei : i = items.length := by omega
        subst ei
        rw [List.drop_length] at wl
        obtain ⟨hpin, wl⟩ := wl
        exact .inl ⟨wk.stop Fh _ μh Hh eh Sh hpin, (p.mono e12).nx _ _ wl _ _ _ eh reh Sh⟩
    · cases h3
  · cases h

/-! ### all of them -/
theorem sts_nil : PSs X [] (tSs X.K cls G W []) := PSs.imp pss_nil fun DD σ H ⟨F, R, μ, ρ, D, re, S, w, p⟩ => p.nx _ _ w _ _ _ (Same.refl F) re S
theorem sts_cons {s : SR.S} {r : List SR.S} {st : Stmt} {ss : List Stmt} (h1 : PS X st (tS X.K cls G W s)) (h2 : PSs X ss (tSs X.K cls G W r)) : PSs X (st :: ss) (tSs X.K cls G W (s :: r)) :=
  PSs.imp (pss_cons h1 h2) fun DD σ H ⟨F, R, μ, ρ, D, re, S, w, p⟩ => by
    simp only [wpSs] at w
    exact ⟨F, R, μ, ρ, _, re, S, w, ⟨fun ρ' μ' h σ' F' H' e re' S' => ⟨F', R, μ', ρ', D, re', S', h, p.mono e⟩, p.rt, p.x⟩⟩
theorem sts_rest {i : Nat} {r : List SR.S} {ss : List Stmt} (h2 : PSs X ss (tSs X.K cls G W r)) : PSs X ss (tSs X.K cls G W (.rest i :: r)) :=
  PSs.imp h2 fun DD σ H ⟨F, R, μ, ρ, D, re, S, w, p⟩ => by
    simp only [wpSs, wpS] at w
    split at w
    · rename_i a ea
      split at w
      · rename_i l em
        obtain ⟨v, q, rv⟩ := re.2 i _ ea
        cases rv
        obtain ⟨F2, e2, S2, r2⟩ := S.rest em
        have re2 := (re.mono e2).set r2 i
        have es : σ.set i (some (V.ref a)) = σ := by
          obtain ⟨hl, he⟩ := List.getElem?_eq_some_iff.mp q
          rw [← he]
          exact List.set_getElem_self hl
        rw [es] at re2
        exact ⟨F2, R, _, _, D, re2, S2, w, p.mono e2⟩
      · exact w.elim
    · exact w.elim
mutual
theorem soundS (hX : SS X P cls G CXt W) : ∀ (s : SR.S) (st : Stmt), mS P s st = true → PS X st (tS X.K cls G W s)
  | .asg t e, st, h => by
    unfold mS at h
    split at h
    · rename_i tg v _
      simp only [Bool.and_eq_true, Bool.or_eq_true, Bool.not_eq_true'] at h
      obtain ⟨⟨h1, h2⟩, h3⟩ := h
      rcases h3 with ⟨h3, h4⟩ | ⟨h3, h4⟩
      · exact st_asg hX h1 h2 (plain_sole h3) (noTup_stores h4 (mTg_noList h1) _)
      · exact st_lc hX h1 h2 h3 h4
    · cases h
  | .par2 _ _ _ _, st, h => st_par2 hX h
  | .par3 _ _ _ _ _ _, st, h => st_par3 hX h
  | .swp _ _ _ _ _ _, st, h => st_swp hX h
  | .aug _ _ _, st, h => st_aug hX h
  | .setI _ _ _, st, h => st_setI hX h
  | .app _ _, st, h => st_app hX h
  | .ife c a b, st, h => st_ife hX (fun ss q => soundSs hX a ss q) (fun ss q => soundSs hX b ss q) h
  | .forE tg w src body, st, h => st_for hX (fun ss q => soundSs hX body ss q) h
  | .whl c body, st, h => st_whl hX (fun ss q => soundSs hX body ss q) h
  | .ret _, st, h => st_ret hX h
  | .expr _, st, h => st_expr hX h
  | .never, st, h => st_never
  | .rest _, st, h => absurd (show false = true from h) Bool.false_ne_true
theorem soundSs (hX : SS X P cls G CXt W) : ∀ (l : List SR.S) (ss : List Stmt), mSs P l ss = true → PSs X ss (tSs X.K cls G W l)
  | [], ss, h => by
    cases ss with
    | nil => exact sts_nil
    | cons _ _ => exact absurd (show false = true from h) Bool.false_ne_true
  | s :: r, ss, h => by
    unfold mSs at h
    by_cases hg : s.ghost = true
    · rw [if_pos hg] at h
      have ih := soundSs hX r ss h
      cases s <;> first | exact sts_rest ih | exact absurd (show false = true from hg) Bool.false_ne_true
    · rw [if_neg hg] at h
      cases ss with
      | nil => exact absurd (show false = true from h) Bool.false_ne_true
      | cons st ss =>
        have h' : (mS P s st && mSs P r ss) = true := h
        rw [Bool.and_eq_true] at h'
        exact sts_cons (soundS hX s st h'.1) (soundSs hX r ss h'.2)
end
end
end SR

/-! all defs of a text at once, by levels -/
namespace SR
open PySem PySem.Spec PyProof.Rows L2 RZ

/-- a def: its name, the text's statement, its tree -/
structure Def where
  name : String
  st : Stmt
  fn : Fn
def Def.ps (d : Def) : List Str := d.fn.N.take d.fn.np
/-- the checks -/
def Def.ok (names gis : List String) (d : Def) : Bool :=
  mSs ⟨d.fn.N, defScope d.st, fun _ => true, names, gis⟩ d.fn.body (defBody d.st) &&
  decide ((defScope d.st).kind = .function) && !(defScope d.st).isCoroutine && !(defScope d.st).isGenerator && decide (d.fn.N.Nodup) && decide (d.fn.np ≤ d.fn.N.length) &&
  d.ps.all (fun x => decide ((defScope d.st).names.lookup x = some .local) || decide ((defScope d.st).names.lookup x = some .cell)) && (defScope d.st).names.all (fun y => decide (y.2 ≠ .free))
def look (T : List Def) (f : String) : Option Def := T.find? fun d => d.name == f
def GL (T : List Def) (gi : String → Option Int) : Nat → Glb
  | 0 => ⟨fun _ _ _ _ _ => False, gi⟩
  | n + 1 => ⟨fun f ds μ k x => match look T f with
    | some d => wpF (GL T gi n) d.fn ds μ k x
    | none => False, gi⟩
theorem GL_gi {T : List Def} {gi : String → Option Int} : ∀ n, (GL T gi n).gi = gi
  | 0 => rfl
  | _ + 1 => rfl
/-- the text's defs stand -/
structure Here (K : PySem.W.Frag) (mg : Str → Option Value) (T : List Def) (gi : String → Option Int) (gis : List String) : Prop where
  fn : ∀ f d, look T f = some d → ∃ fa fd, mg (Str.ofString f) = some (.ref fa) ∧ Fun K (Str.ofString f) (Str.ofString f) d.st fa fd ∧ Binds K fd d.ps []
  blt : ∀ n ∈ bltNames, mg (Str.ofString n) = none
  gi : ∀ n, gis.contains n = true → ∃ i t, gi n = some i ∧ mg (Str.ofString n) = some (.int i t)
theorem ok_scope {names gis : List String} {d : Def} (h : d.ok names gis = true) : FnScope d.fn.N d.ps (defScope d.st) := by
  unfold Def.ok at h
  simp only [Bool.and_eq_true, decide_eq_true_eq, Bool.not_eq_true', List.all_eq_true, Bool.or_eq_true] at h
  obtain ⟨⟨⟨⟨⟨⟨⟨h1, h2⟩, h3⟩, h4⟩, h5⟩, h6⟩, h7⟩, h8⟩ := h
  refine ⟨h2, h3, h4, h5, ?_, h7, h8⟩
  show d.fn.N.take (d.fn.N.take d.fn.np).length = d.fn.N.take d.fn.np
  rw [List.length_take, Nat.min_eq_left h6]
theorem ok_len {names gis : List String} {d : Def} (h : d.ok names gis = true) : d.ps.length = d.fn.np := by
  unfold Def.ok at h
  simp only [Bool.and_eq_true, decide_eq_true_eq] at h
  show (d.fn.N.take d.fn.np).length = _
  rw [List.length_take, Nat.min_eq_left h.1.1.2]
theorem ok_le {names gis : List String} {d : Def} (h : d.ok names gis = true) : d.fn.np ≤ d.fn.N.length := by
  unfold Def.ok at h
  simp only [Bool.and_eq_true, decide_eq_true_eq] at h
  exact h.1.1.2
theorem start_rel {K : PySem.W.Frag} {F : Hp} {vs : List V} {ds : List D} {N : List Str} (r : Reps K F vs ds) (h : ds.length ≤ N.length) : RelEn K F (ds.map some ++ List.replicate (N.length - ds.length) none) (L2.start N vs) := by
  have hl := r.length
  refine ⟨by unfold L2.start; simp [hl], fun i d q => ?_⟩
  unfold L2.start
  by_cases hi : i < ds.length
  · rw [List.getElem?_append_left (by simpa using hi), List.getElem?_map] at q
    cases e : ds[i]? with
    | none => rw [e] at q; cases q
    | some d' =>
      rw [e] at q
      cases q
      obtain ⟨v, hv, rv⟩ := r.get e
      refine ⟨v, ?_, rv⟩
      rw [List.getElem?_append_left (by simp; omega), List.getElem?_map, hv]
      rfl
  · rw [List.getElem?_append_right (by simp; omega)] at q
    rw [List.getElem?_replicate] at q
    split at q <;> cases q
section
variable {P : Program} {w : World} {K : PySem.W.Frag} {mg : Str → Option Value} {base : Heap}
theorem fn_ok {T : List Def} {gi : String → Option Int} {gis : List String} {cls : String → Option Addr} (hr : Here K mg T gi gis) (hc : ∀ f d, look T f = some d → d.ok (T.map (·.name)) gis = true) :
    ∀ (n : Nat) (f : String) (d : Def), look T f = some d → ∀ (fa : Addr) (fd : FuncData), Fun K (Str.ofString f) (Str.ofString f) d.st fa fd → FnOk P w K mg base L2.CX0 n fa fd d.ps (lSp K cls ((GL T gi n).fn f))
  | 0, f, d, _, fa, fd, _ => ⟨fun vs H Q E ⟨_, _, _, _, _, _, _, _, w, _⟩ => w.elim, fun A outer s H args us vs Q E _ _ _ _ ⟨_, _, _, _, _, _, _, _, w, _⟩ => w.elim⟩
  | n + 1, f, d, hl, fa, fd, F => by
    have ck := hc f d hl
    have ck' := ck
    unfold Def.ok at ck'
    simp only [Bool.and_eq_true, decide_eq_true_eq] at ck'
    have eG : ∀ ds μ k x, (GL T gi (n + 1)).fn f ds μ k x = wpF (GL T gi n) d.fn ds μ k x := fun ds μ k x => by
      show (match look T f with | some d => wpF (GL T gi n) d.fn ds μ k x | none => False) = _
      rw [hl]
    refine F.ok (ok_scope ck) (fun vs H Q E ⟨F', R, μ, ds, k, x, S, r, w, _⟩ => ?_) (fun cdv A outer s H vs Q E hrm ⟨F', R, μ, ds, k, x, S, r, w, p, px⟩ => ?_)
    · rw [eG] at w
      rw [r.length, w.1, ok_len ck]
    · rw [eG] at w
      have hX : SS (cxOf L2.CX0 P _ K mg base d.fn.N (Str.ofString f) (defScope d.st) fa cdv A outer s H E).nox ⟨d.fn.N, defScope d.st, fun _ => true, T.map (·.name), gis⟩ cls (GL T gi n) L2.CX0 (fun c d _ H' => E c d H') := {
        hN := rfl
        nd := ck'.1.1.1.2
        sc := rfl
        fn := rfl
        calm := rfl
        hu := by have := hrm.un; show (A.deeper _).units + 80 < cLine; omega
        fns := fun g hg => by
          have hg' : (T.map (·.name)).contains g = true := hg
          cases e : look T g with
          | none =>
            exfalso
            rw [List.contains_iff_mem, List.mem_map] at hg'
            obtain ⟨d', hd', rfl⟩ := hg'
            have := List.find?_eq_none.mp e d' hd'
            simp at this
          | some d' =>
            obtain ⟨ga, gd, h1, h2, h3⟩ := hr.fn g d' e
            exact ⟨ga, gd, d'.ps, n, h1, h2.kp, h3, hrm, fn_ok hr hc n g d' e ga gd h2⟩
        pass := fun σ E' _ pins H' s' e s'' _ c => c.elim
        nox := fun outer' H' s' E' e s'' _ c => c.elim
        blt := hr.blt
        gi := fun m hm => by
          obtain ⟨i, t, h1, h2⟩ := hr.gi m hm
          exact ⟨i, t, by rw [GL_gi]; exact h1, h2⟩
        own := PassesOwn.never
        fk := ck'.1.1.1.1.1.1.2 }
      refine ⟨_, soundSs hX d.fn.body (defBody d.st) ck'.1.1.1.1.1.1.1, F', R, μ, _, _, start_rel r (by rw [w.1]; exact ok_le ck), S, w.2, ⟨fun ρ' μ' h σ' F2 H2 e re S2 => ?_, p, fun ex ρ' μ' h c d' σ' F2 H2 e re S2 q => ?_⟩⟩
      · exact p _ _ h _ F2 H2 e S2 .non
      · exact px ex μ' h c d' F2 H2 e S2 q
end
end SR

/-! from a text's defs to the law -/
namespace SR
open PySem PySem.Spec PyProof.Rows L2 RZ

theorem fa_nil {α : Type} {P : α → Prop} : ∀ a ∈ ([] : List α), P a := fun _ h => nomatch h
theorem fa_cons {α : Type} {P : α → Prop} {a : α} {r : List α} (h : P a) (t : ∀ b ∈ r, P b) : ∀ b ∈ a :: r, P b := fun b hb => (List.mem_cons.mp hb).elim (fun e => e ▸ h) fun q => t b q
/-- one def of the text as the head finds it -/
def Stands (K : PySem.W.Frag) (d : Def) : Prop := ∃ (f : Addr) (oc : Value) (od an : Option Addr) (kV dc pm cd ct : Value) (sl : Array (Option Value)),
  PySem.W.nsIn K mainGlobals (Str.ofString d.name) = some (some (.ref f)) ∧
  K.lookup f = some ⟨oc, od, .func (PySem.W.fnOf (Str.ofString d.name) (Str.ofString d.name) (defArgs d.st) (defBody d.st) (defScope d.st) .none kV dc pm an cd ct), sl⟩ ∧
  PySem.W.codeIn K cd (Str.ofString d.name) = true ∧ PySem.W.keepIn K (.ref f) = true
/-- how it is called -/
def Bound (d : Def) : Prop := ∀ (kV doc pm : Value) (an : Option Addr) (cdv ct : Value) (us : List Value), us.length = d.ps.length →
  bindArgs (PySem.W.fnOf (Str.ofString d.name) (Str.ofString d.name) (defArgs d.st) (defBody d.st) (defScope d.st) .none kV doc pm an cdv ct) ⟨us, []⟩ = pure (d.ps.zip us)
theorem look_mem {T : List Def} {f : String} {d : Def} (h : look T f = some d) : d ∈ T ∧ d.name = f := by
  have h1 := List.mem_of_find?_eq_some h
  have h2 := List.find?_some h
  exact ⟨h1, by simpa using h2⟩
theorem here_of {K : PySem.W.Frag} {h : Heap} {mg : Str → Option Value} {T : List Def} {gi : String → Option Int} {gis : List String} (X : K.In h) (G : h.Ns mainGlobals mg) (st : ∀ d ∈ T, Stands K d) (bd : ∀ d ∈ T, Bound d)
    (bl : ∀ n ∈ bltNames, PySem.W.nsIn K mainGlobals (Str.ofString n) = some none) (gs : ∀ n ∈ gis, ∃ i t, gi n = some i ∧ PySem.W.nsIn K mainGlobals (Str.ofString n) = some (some (.int i t))) : Here K mg T gi gis where
  fn := fun f d hl => by
    obtain ⟨hm, rfl⟩ := look_mem hl
    obtain ⟨fa, oc, od, an, kV, dc, pm, cd, ct, sl, a, l, c, k⟩ := st d hm
    have F := fun_mk (st := d.st) l c k
    exact ⟨fa, _, PySem.W.mg_of X G a, F, F.binds (bd d hm)⟩
  blt := fun n hn => PySem.W.mg_none_of X G (bl n hn)
  gi := fun n hn => by
    obtain ⟨i, t, h1, h2⟩ := gs n (List.contains_iff_mem.mp hn)
    exact ⟨i, t, h1, PySem.W.mg_of X G h2⟩
theorem sto_only {K : PySem.W.Frag} {cls : String → Option Addr} {H : Hp} (h : Only H) : Sto K cls H (fun _ => none) (fun _ => none) H where
  ext := Same.refl H
  off := fun a mo e => nomatch e
  at_ := fun a mo e => nomatch e
  frm := fun a l e => nomatch e
  big := fun a o e => by
    rcases h a with q | ⟨o', xs, q⟩
    · rw [q] at e; cases e
    · rw [q] at e; cases e; exact True.intro
  bigM := fun a mo e => nomatch e
theorem law_of {l : PySem.W.OpenLaw} {q : Program} {loose : List Str} {XP : (Str → Option Value) → Heap → Prop} {YP : World → Heap → Prop} {d : DefRec} {K : Params → PySem.W.Frag} {T : List Def} {gi : String → Option Int} {gis : List String} {n : Nat} {dl : Def}
    (hn : l.most = some 63) (hdf : d.params.defaults = []) (hnm : d.name = Str.ofString "law") (hr : Room n callerA) (hc : (T.all fun d => d.ok (T.map (·.name)) gis) = true) (bd : ∀ d ∈ T, Bound d) (hl : look T "law" = some dl) (hps : dl.ps = [Str.ofString "script"])
    (hY : ∀ (w : World) (h : Heap), YP w h → (K w.params).In h)
    (st : ∀ (w : World), ∀ d ∈ T, Stands (K w.params) d) (bl : ∀ (w : World), ∀ n ∈ bltNames, PySem.W.nsIn (K w.params) mainGlobals (Str.ofString n) = some none)
    (gs : ∀ (w : World), ∀ n ∈ gis, ∃ i t, gi n = some i ∧ PySem.W.nsIn (K w.params) mainGlobals (Str.ofString n) = some (some (.int i t)))
    (hp : ∀ ns : List Int, ns.length ≤ 63 → (GL T gi n).fn "law" [.scr ns] (fun _ => none) (fun d _ => d = .bl true) fun _ _ => False) :
    PySem.W.WalkO q loose XP YP l.row.toRowW d [] (fun f vs => PySem.call f vs) := by
  refine L2.walk_of (n := 63) (k := n) (x := Str.ofString "script") (CX := fun _ => L2.CX0) (sp := fun w => lSp (K w.params) (fun _ => none) ((GL T gi n).fn "law")) hn (by decide) hdf hr hY (fun w mg fa h KX G hmg => ?_) (fun w H a ns hlen hO hS => ?_) (fun _ _ _ _ _ z => z)
  · have ck : ∀ f d, look T f = some d → d.ok (T.map (·.name)) gis = true := fun f d hf => List.all_eq_true.mp hc d (look_mem hf).1
    have hs : ∀ (h : Heap), (K w.params).In h → h.Ns mainGlobals mg → Here (K w.params) mg T gi gis := fun h KX G => here_of KX G (st w) bd (bl w) (gs w)
    obtain ⟨hm, hnl⟩ := look_mem hl
    obtain ⟨fa', oc, od, an, kV, dc, pm, cd, ct, sl, a, lk, c, k⟩ := st w dl hm
    have F := fun_mk (st := dl.st) lk c k
    have e1 := PySem.W.mg_of KX G a
    rw [hnl, ← hnm, hmg] at e1
    cases e1
    refine ⟨PySem.W.fnOf (Str.ofString dl.name) (Str.ofString dl.name) (defArgs dl.st) (defBody dl.st) (defScope dl.st) .none kV dc pm an cd ct, fun s u => ?_, fun base Kb Gb => ?_⟩
    · have b := bd dl hm kV dc pm an cd ct [u] (by rw [hps]; rfl)
      rw [hps] at b
      exact .of_eq b
    · have q := fn_ok (P := l.prog) (w := w) (base := base) (cls := fun _ => none) (hs base Kb Gb) ck n "law" dl hl fa _ (by rw [hnl] at F; exact F)
      rw [hps] at q
      rw [hnl]
      exact q
  · refine ⟨H, fun _ => none, fun _ => none, [.scr ns], _, _, sto_only hO, .cons (.scr hS) .nil, hp ns hlen, fun d μ' h v F' H' e S r => ?_, fun ex μ' h => h.elim⟩
    subst h
    cases r
    rfl
end SR

/-! plain reasoning over weakest conditions -/
namespace SR
open PySem L2

/-- a stretch -/
def stD (p : Int × Int) : D := .tup [.int p.1, .int p.2]
def stsD (l : List (Int × Int)) : D := .tup (l.map stD)
def iD (i : Int) : D := .int i

theorem newL_f {l : List D} {μ : Mu} {k : KD} (h : k (.lst l) μ) : newL false l μ k := h
theorem newL_t {l : List D} {μ : Mu} {k : KD} (h : ∀ a, μ a = none → k (.ref a) (μ.set a (.lst l))) : newL true l μ k := h

/-- a comprehension without changes: each item gives what f says -/
theorem lcW_map {pin : Mu → Prop} {step : D → Mu → (Option D → Mu → Prop) → Prop} {μ : Mu} {k : List D → Mu → Prop} (f : D → Option D) (hp : pin μ) :
    ∀ (items acc : List D), (∀ d ∈ items, ∀ k2 : Option D → Mu → Prop, k2 (f d) μ → step d μ k2) → k (acc ++ items.filterMap f) μ → lcW pin step items acc μ k
  | [], acc, _, h => by
    have h' : k acc μ := by simpa using h
    exact ⟨hp, h'⟩
  | d :: r, acc, hs, h => by
    refine ⟨hp, hs d List.mem_cons_self _ ?_⟩
    refine lcW_map f hp r _ (fun e he => hs e (List.mem_cons_of_mem _ he)) ?_
    rw [List.append_assoc]
    have e : (f d).toList ++ r.filterMap f = (d :: r).filterMap f := by
      rw [List.filterMap_cons]
      cases f d <;> rfl
    rw [e]
    exact h
theorem lcWb_map {pin : Mu → Prop} {step : D → Mu → (D → Mu → Prop) → Prop} {μ : Mu} {k : List D → Mu → Prop} (f : D → D) (hp : pin μ) :
    ∀ (items acc : List D), acc.length + items.length ≤ sizeLine → (∀ d ∈ items, ∀ k2 : D → Mu → Prop, k2 (f d) μ → step d μ k2) → k (acc ++ items.map f) μ → lcWb pin step items acc μ k
  | [], acc, _, _, h => by
    have h' : k acc μ := by simpa using h
    exact ⟨hp, h'⟩
  | d :: r, acc, hl, hs, h => by
    rw [List.length_cons] at hl
    refine ⟨hp, hs d List.mem_cons_self _ ⟨by omega, ?_⟩⟩
    refine lcWb_map f hp r _ (by simp; omega) (fun e he => hs e (List.mem_cons_of_mem _ he)) ?_
    rw [List.append_assoc]
    exact h
theorem lcW2_each {α : Type} {pin : Mu → Prop} {step : D → List D → Mu → (List D → Mu → Prop) → Prop} {μ : Mu} {k : List D → Mu → Prop} (emb : α → D) (f : α → List D) (c : Nat) (hp : pin μ) (l : List α) (hl : l.length * c ≤ sizeLine) (hf : ∀ a ∈ l, (f a).length ≤ c)
    (hs : ∀ a ∈ l, ∀ acc : List D, acc.length + c ≤ sizeLine → ∀ k2 : List D → Mu → Prop, k2 (acc ++ f a) μ → step (emb a) acc μ k2) (h : k (l.flatMap f) μ) : lcW2 pin step (l.map emb) [] μ k := by
  suffices q : ∀ (l : List α) (acc : List D), acc.length + l.length * c ≤ sizeLine → (∀ a ∈ l, (f a).length ≤ c) → (∀ a ∈ l, ∀ acc : List D, acc.length + c ≤ sizeLine → ∀ k2 : List D → Mu → Prop, k2 (acc ++ f a) μ → step (emb a) acc μ k2) → k (acc ++ l.flatMap f) μ → lcW2 pin step (l.map emb) acc μ k from q l [] (by simpa using hl) hf hs h
  intro l
  induction l with
  | nil => exact fun acc _ _ _ h => ⟨hp, by simpa using h⟩
  | cons a r ih =>
    intro acc hl hf hs h
    rw [List.length_cons, Nat.succ_mul] at hl
    refine ⟨hp, hs a List.mem_cons_self acc (by omega) _ (ih _ ?_ (fun e he => hf e (List.mem_cons_of_mem _ he)) (fun e he => hs e (List.mem_cons_of_mem _ he)) ?_)⟩
    · have := hf a List.mem_cons_self
      rw [List.length_append]
      omega
    · rw [List.append_assoc, show f a ++ r.flatMap f = (a :: r).flatMap f by rw [List.flatMap_cons]]
      exact h
theorem lcWb_each {α : Type} {pin : Mu → Prop} {step : D → Mu → (D → Mu → Prop) → Prop} {μ : Mu} {k : List D → Mu → Prop} (emb g : α → D) (hp : pin μ) (l : List α) (acc : List D) (hl : acc.length + l.length ≤ sizeLine)
    (hs : ∀ a ∈ l, ∀ k2 : D → Mu → Prop, k2 (g a) μ → step (emb a) μ k2) (h : k (acc ++ l.map g) μ) : lcWb pin step (l.map emb) acc μ k := by
  induction l generalizing acc with
  | nil => exact ⟨hp, by simpa using h⟩
  | cons a r ih =>
    rw [List.length_cons] at hl
    refine ⟨hp, hs a List.mem_cons_self _ ⟨by omega, ih _ (by rw [List.length_append, List.length_singleton]; omega) (fun e he => hs e (List.mem_cons_of_mem _ he)) ?_⟩⟩
    rw [List.append_assoc]
    exact h
/-- .. of typed items -/
theorem lcW_filt {α : Type} {pin : Mu → Prop} {step : D → Mu → (Option D → Mu → Prop) → Prop} {μ : Mu} {k : List D → Mu → Prop} (emb : α → D) (p : α → Bool) (g : α → D) (hp : pin μ) (l : List α)
    (hs : ∀ a ∈ l, ∀ k2 : Option D → Mu → Prop, (if p a = true then k2 (some (g a)) μ else k2 none μ) → step (emb a) μ k2) (h : k ((l.filter p).map g) μ) : lcW pin step (l.map emb) [] μ k := by
  suffices q : ∀ (l : List α) (acc : List D), (∀ a ∈ l, ∀ k2 : Option D → Mu → Prop, (if p a = true then k2 (some (g a)) μ else k2 none μ) → step (emb a) μ k2) → k (acc ++ (l.filter p).map g) μ → lcW pin step (l.map emb) acc μ k from q l [] hs h
  intro l
  induction l with
  | nil => exact fun acc _ h => ⟨hp, by simpa using h⟩
  | cons a r ih =>
    intro acc hs h
    refine ⟨hp, hs a List.mem_cons_self _ ?_⟩
    by_cases e : p a = true
    · rw [if_pos e]
      refine ih _ (fun e he => hs e (List.mem_cons_of_mem _ he)) ?_
      rw [List.append_assoc]
      rw [List.filter_cons_of_pos e] at h
      exact h
    · rw [if_neg e]
      refine ih _ (fun e he => hs e (List.mem_cons_of_mem _ he)) ?_
      rw [List.filter_cons_of_neg e] at h
      simpa using h
theorem lcW_each {α : Type} {pin : Mu → Prop} {step : D → Mu → (Option D → Mu → Prop) → Prop} {μ : Mu} {k : List D → Mu → Prop} (emb : α → D) (g : α → D) (hp : pin μ) (l : List α)
    (hs : ∀ a ∈ l, ∀ k2 : Option D → Mu → Prop, k2 (some (g a)) μ → step (emb a) μ k2) (h : k (l.map g) μ) : lcW pin step (l.map emb) [] μ k := by
  refine lcW_filt emb (fun _ => true) g hp l (fun a ha k2 q => hs a ha k2 (by simpa using q)) ?_
  have e : l.filter (fun _ => true) = l := List.filter_eq_self.mpr fun _ _ => rfl
  rw [e]
  exact h
/-- a loop, by an invariant over how many items are done -/
theorem forW_inv {pin : Mu → Prop} {step : D → En → Mu → (En → Mu → Prop) → Prop} {k : En → Mu → Prop} (items : List D) (I : Nat → En → Mu → Prop) (hpin : ∀ i ρ μ, I i ρ μ → pin μ)
    (hs : ∀ i d ρ μ, items[i]? = some d → I i ρ μ → ∀ k2 : En → Mu → Prop, (∀ ρ' μ', I (i + 1) ρ' μ' → k2 ρ' μ') → step d ρ μ k2) (he : ∀ ρ μ, I items.length ρ μ → k ρ μ) :
    ∀ {ρ : En} {μ : Mu}, I 0 ρ μ → forW pin step items ρ μ k := by
  suffices h : ∀ (r : List D) (i : Nat), items.drop i = r → ∀ ρ μ, I i ρ μ → i ≤ items.length → forW pin step r ρ μ k from fun {ρ μ} h0 => h items 0 rfl ρ μ h0 (Nat.zero_le _)
  intro r
  induction r with
  | nil =>
    intro i hd ρ μ h hi
    have e : i = items.length := by
      have := congrArg List.length hd
      simp at this
      omega
    subst e
    exact ⟨hpin _ _ _ h, he _ _ h⟩
  | cons d r ih =>
    intro i hd ρ μ h hi
    have hlt : i < items.length := by
      have := congrArg List.length hd
      simp at this
      omega
    have e1 : items[i]? = some d := by
      rw [List.drop_eq_getElem_cons hlt] at hd
      rw [List.getElem?_eq_getElem hlt]
      exact congrArg some (List.cons.inj hd).1
    have e2 : items.drop (i + 1) = r := by
      rw [List.drop_eq_getElem_cons hlt] at hd
      exact (List.cons.inj hd).2
    exact ⟨hpin _ _ _ h, hs i d ρ μ e1 h _ fun ρ' μ' h' => ih (i + 1) e2 ρ' μ' h' hlt⟩

/-! ### places of lists -/
theorem at0 {α : Type} {a : α} {r : List α} : atI (a :: r) 0 = some a := by
  have h : (0 : Int) < (((a :: r).length : Nat) : Int) := by rw [List.length_cons]; omega
  unfold atI ixN
  rw [if_pos (Int.le_refl 0), if_pos h]
  rfl
theorem at1 {α : Type} {a b : α} {r : List α} : atI (a :: b :: r) 1 = some b := by
  have h : (1 : Int) < (((a :: b :: r).length : Nat) : Int) := by rw [List.length_cons, List.length_cons]; omega
  unfold atI ixN
  rw [if_pos (by decide), if_pos h]
  rfl
theorem atN {α : Type} {l : List α} {i : Nat} (h : i < l.length) : atI l (i : Int) = some l[i] := by
  unfold atI ixN
  rw [if_pos (by omega), if_pos (by omega)]
  show l[(i : Int).toNat]? = _
  rw [Int.toNat_natCast, List.getElem?_eq_getElem h]
theorem ixN0 {n : Nat} (h : 0 < n) : ixN n 0 = some 0 := by
  unfold ixN
  rw [if_pos (Int.le_refl 0), if_pos (by omega)]
  rfl
theorem ixN1 {n : Nat} (h : 1 < n) : ixN n 1 = some 1 := by
  unfold ixN
  rw [if_pos (by decide), if_pos (by omega)]
  rfl

/-! ### evaluation, one rule a shape -/
section
variable {μ : Mu} {k : KD} {kk : List D → (Mu → Prop) → Prop} {G : Glb} {x : KX}
theorem wk_L {l : List D} : walkW .seq [.lst l] μ kk = kk l fun _ => True := rfl
theorem wk_T {l : List D} : walkW .seq [.tup l] μ kk = kk l fun _ => True := rfl
theorem wk_R {a : Addr} {l : List D} (h : μ a = some (.lst l)) : walkW .seq [.ref a] μ kk = kk l fun μ' => μ' a = some (.lst l) := by
  simp only [walkW, h]
theorem wk_1 {n : Int} : walkW .rng1 [.int n] μ kk = ((-(2 ^ 62) ≤ n ∧ n < 2 ^ 62 ∧ n.toNat ≤ sizeLine) ∧ kk ((List.range n.toNat).map fun (i : Nat) => D.int (i : Int)) fun _ => True) := rfl
theorem wk_2 {a b : Int} : walkW .rng2 [.int a, .int b] μ kk = ((-(2 ^ 62) ≤ a ∧ a < 2 ^ 62 ∧ -(2 ^ 62) ≤ b ∧ b < 2 ^ 62 ∧ (b - a).toNat ≤ sizeLine) ∧ kk ((List.range (b - a).toNat).map fun (i : Nat) => D.int (a + (i : Int))) fun _ => True) := rfl
theorem wk_E {l : List D} : walkW .enum [.lst l] μ kk = kk (l.zipIdx.map fun p => .tup [.int (p.2 : Int), p.1]) fun _ => True := rfl
theorem wk_ET {l : List D} : walkW .enumT [.tup l] μ kk = kk (l.zipIdx.map fun p => .tup [.int (p.2 : Int), p.1]) fun _ => True := rfl
theorem wk_Z {l m : List D} : walkW .zip2 [.lst l, .lst m] μ kk = kk ((l.zip m).map fun p => .tup [p.1, p.2]) fun _ => True := rfl
theorem wk_ZT {l m : List D} : walkW .zip2 [.tup l, .tup m] μ kk = kk ((l.zip m).map fun p => .tup [p.1, p.2]) fun _ => True := rfl
theorem b_add {i j : Int} : binW .add (.int i) (.int j) μ k = k (.int (i + j)) μ := rfl
theorem b_sub {i j : Int} : binW .sub (.int i) (.int j) μ k = k (.int (i - j)) μ := rfl
theorem b_mul {i j : Int} : binW .mul (.int i) (.int j) μ k = (CMul i j ∧ k (.int (i * j)) μ) := rfl
theorem b_fdiv {i j : Int} : binW .fdiv (.int i) (.int j) μ k = (CDiv i j ∧ k (.int (i / j)) μ) := rfl
theorem b_mod {i j : Int} : binW .mod (.int i) (.int j) μ k = (0 < j ∧ k (.int (i % j)) μ) := rfl
theorem b_pow {i j : Int} : binW .pow (.int i) (.int j) μ k = (CPow i j ∧ k (.int (i ^ j.toNat)) μ) := rfl
theorem b_addT {l m : List D} : binW .add (.tup l) (.tup m) μ k = (l.length + m.length ≤ sizeLine ∧ k (.tup (l ++ m)) μ) := rfl
theorem b_addL {l m : List D} : binW .add (.lst l) (.lst m) μ k = (l.length + m.length ≤ sizeLine ∧ k (.lst (l ++ m)) μ) := rfl
theorem b_addS {l m : Str} : binW .add (.str l) (.str m) μ k = (l.length + m.length ≤ sizeLine ∧ k (.str (l ++ m)) μ) := rfl
theorem b_addB {b : Bool} {j : Int} : binW .add (.bl b) (.int j) μ k = k (.int ((if b = true then (1 : Int) else 0) + j)) μ := rfl
theorem b_subB {b : Bool} {j : Int} : binW .sub (.bl b) (.int j) μ k = k (.int ((if b = true then (1 : Int) else 0) - j)) μ := rfl
theorem t_str {i : Int} : btW .str [.int i] μ k = (i.natAbs.log2 < 1920 ∧ k (.str (toString i)) μ) := rfl
theorem t_strB {b : Bool} : btW .str [.bl b] μ k = k (.str (if b = true then "True" else "False")) μ := rfl
theorem t_lenX {s : Str} : btW .len [.str s] μ k = (s.length ≤ sizeLine ∧ k (.int (s.length : Int)) μ) := rfl
theorem c_ltT {l m : List D} : cmpW .lt (.tup l) (.tup m) μ k = (okD 60 (.tup l) = true ∧ okD 60 (.tup m) = true ∧ PySem.W.alike (toPy (.tup l)) (toPy (.tup m)) = true ∧ (∃ l' m', D.tup l = .tup l' ∧ D.tup m = .tup m') ∧ k (.bl (ltD (.tup l) (.tup m))) μ) := rfl
theorem c_lt {i j : Int} : cmpW .lt (.int i) (.int j) μ k = k (.bl (decide (i < j))) μ := rfl
theorem c_le {i j : Int} : cmpW .le (.int i) (.int j) μ k = k (.bl (decide (i ≤ j))) μ := rfl
theorem c_gt {i j : Int} : cmpW .gt (.int i) (.int j) μ k = k (.bl (decide (j < i))) μ := rfl
theorem c_ge {i j : Int} : cmpW .ge (.int i) (.int j) μ k = k (.bl (decide (j ≤ i))) μ := rfl
theorem c_eq {a b : D} : cmpW .eq a b μ k = (okD 60 (vw μ a) = true ∧ okD 60 (vw μ b) = true ∧ k (.bl (eqD (vw μ a) (vw μ b))) μ) := rfl
theorem c_ne {a b : D} : cmpW .ne a b μ k = (okD 60 (vw μ a) = true ∧ okD 60 (vw μ b) = true ∧ k (.bl (!eqD (vw μ a) (vw μ b))) μ) := rfl
theorem c_isN {a : D} : cmpW .isN a .non μ k = k (.bl (isNon a)) μ := rfl
theorem c_isNN {a : D} : cmpW .isNN a .non μ k = k (.bl (!isNon a)) μ := rfl
theorem c_inL {a : D} {l : List D} : cmpW .inn a (.lst l) μ k = (okD 60 a = true ∧ okDs 59 l = true ∧ k (.bl (l.any fun z => eqD z a)) μ) := rfl
theorem c_inT {a : D} {l : List D} : cmpW .inn a (.tup l) μ k = (okD 60 a = true ∧ okDs 59 l = true ∧ k (.bl (l.any fun z => eqD z a)) μ) := rfl
theorem c_ninL {a : D} {l : List D} : cmpW .nin a (.lst l) μ k = (okD 60 a = true ∧ okDs 59 l = true ∧ k (.bl (!l.any fun z => eqD z a)) μ) := rfl
theorem c_ninT {a : D} {l : List D} : cmpW .nin a (.tup l) μ k = (okD 60 a = true ∧ okDs 59 l = true ∧ k (.bl (!l.any fun z => eqD z a)) μ) := rfl
theorem c_in {a b : D} {l : List D} (h : vw μ b = .lst l) : cmpW .inn a b μ k = (okD 60 a = true ∧ okDs 59 l = true ∧ k (.bl (l.any fun z => eqD z a)) μ) := by
  simp only [cmpW, h]
theorem c_nin {a b : D} {l : List D} (h : vw μ b = .lst l) : cmpW .nin a b μ k = (okD 60 a = true ∧ okDs 59 l = true ∧ k (.bl (!l.any fun z => eqD z a)) μ) := by
  simp only [cmpW, h]
theorem t_lenL {l : List D} : btW .len [.lst l] μ k = k (.int (l.length : Int)) μ := rfl
theorem t_lenT {l : List D} : btW .len [.tup l] μ k = k (.int (l.length : Int)) μ := rfl
theorem t_lenS {ns : List Int} : btW .len [.scr ns] μ k = k (.int (ns.length : Int)) μ := rfl
theorem t_abs {i : Int} : btW .abs [.int i] μ k = k (.int (if i < 0 then -i else i)) μ := rfl
theorem t_min2 {i j : Int} : btW .min2 [.int i, .int j] μ k = k (.int (if j < i then j else i)) μ := rfl
theorem t_max2 {i j : Int} : btW .max2 [.int i, .int j] μ k = k (.int (if j > i then j else i)) μ := rfl
theorem t_any {l : List D} : btW .any [.lst l] μ k = ∃ bs, l = List.map D.bl bs ∧ k (.bl (bs.any id)) μ := rfl
theorem t_all {l : List D} : btW .all [.lst l] μ k = ∃ bs, l = List.map D.bl bs ∧ k (.bl (bs.all id)) μ := rfl
theorem t_toTL {l : List D} : btW .toTup [.lst l] μ k = k (.tup l) μ := rfl
theorem t_toTT {l : List D} : btW .toTup [.tup l] μ k = k (.tup l) μ := rfl
theorem t_toLT {m : Bool} {l : List D} : btW (.toList m) [.tup l] μ k = newL m l μ k := rfl
theorem t_toLL {m : Bool} {l : List D} : btW (.toList m) [.lst l] μ k = newL m l μ k := rfl
theorem t_sortL {m : Bool} {l : List D} : btW (.sorted m) [.lst l] μ k = (sortable l ∧ newL m (l.mergeSort leD) μ k) := rfl
theorem t_sortT {m : Bool} {l : List D} : btW (.sorted m) [.tup l] μ k = (sortable l ∧ newL m (l.mergeSort leD) μ k) := rfl
theorem t_sortK {m : Bool} {f : Addr} {kvs : List (D × D)} (h : μ f = some (.tct kvs)) : btW (.sorted m) [.ref f] μ k = (sortable (kvs.map (·.1)) ∧ newL m ((kvs.map (·.1)).mergeSort leD) μ k) := by
  simp only [btW, vw, vwr, h]
theorem i_T {l : List D} {i : Int} {d : D} (h : atI l i = some d) : ixW (.tup l) (.int i) μ k = k d μ := by
  show (match atI l i with | some d => k d μ | none => False) = _
  rw [h]
theorem i_L {l : List D} {i : Int} {d : D} (h : atI l i = some d) : ixW (.lst l) (.int i) μ k = k d μ := by
  show (match atI l i with | some d => k d μ | none => False) = _
  rw [h]
theorem i_T0 {a : D} {l : List D} : ixW (.tup (a :: l)) (.int 0) μ k = k a μ := i_T at0
theorem i_T1 {a b : D} {l : List D} : ixW (.tup (a :: b :: l)) (.int 1) μ k = k b μ := i_T at1
theorem i_L0 {a : D} {l : List D} : ixW (.lst (a :: l)) (.int 0) μ k = k a μ := i_L at0
theorem i_L1 {a b : D} {l : List D} : ixW (.lst (a :: b :: l)) (.int 1) μ k = k b μ := i_L at1
theorem i_R {a : Addr} {l : List D} {i : Int} {d : D} (hm : μ a = some (.lst l)) (h : atI l i = some d) : ixW (.ref a) (.int i) μ k = k d μ := by
  simp only [ixW, vw, vwr, hm, h]
theorem i_S {ns : List Int} {i n : Int} (h : atI ns i = some n) : ixW (.scr ns) (.int i) μ k = k (.int n) μ := by
  show (match atI ns i with | some n => k (.int n) μ | none => False) = _
  rw [h]
theorem sl_L {m : Bool} {l : List D} {lo hi : Option Int} : slcW m (.lst l) lo hi μ k = newL m (cutD l lo hi) μ k := rfl
theorem sl_T {m : Bool} {l : List D} {lo hi : Option Int} : slcW m (.tup l) lo hi μ k = k (.tup (cutD l lo hi)) μ := rfl
theorem sl_S {m : Bool} {s : Str} {lo hi : Option Int} : slcW m (.str s) lo hi μ k = (s.length ≤ sizeLine ∧ k (.str (cutS s lo hi)) μ) := rfl
theorem sl_R {m : Bool} {a : Addr} {l : List D} {lo hi : Option Int} (h : μ a = some (.lst l)) : slcW m (.ref a) lo hi μ k = newL m (cutD l lo hi) μ k := by
  simp only [slcW, vw, vwr, h]
theorem fz_R {a : Addr} {l : List D} (h : μ a = some (.lst l)) : frzW (.ref a) μ k = k (.lst l) (μ.del a) := by
  simp only [frzW, h]
theorem fz_L {l : List D} : frzW (.lst l) μ k = k (.lst l) μ := rfl
theorem up_S {s : Str} : upW (.str s) μ k = (s.length ≤ 5592405 ∧ k (.str (Txt.upper s)) μ) := rfl
theorem vw_T {l : List D} : vw μ (.tup l) = .tup l := rfl
theorem vw_L {l : List D} : vw μ (.lst l) = .lst l := rfl
theorem vw_I {i : Int} : vw μ (.int i) = .int i := rfl
theorem vw_N : vw μ .non = .non := rfl
theorem vw_B {b : Bool} : vw μ (.bl b) = .bl b := rfl
theorem vw_S {s : Str} : vw μ (.str s) = .str s := rfl
theorem vw_R {a : Addr} {l : List D} (h : μ a = some (.lst l)) : vw μ (.ref a) = .lst l := by
  show vwr (μ a) a = _
  rw [h]
  rfl
theorem u_b {b : Bool} {f : Bool → Prop} : unbl (.bl b) f = f b := rfl
theorem nw_f {l : List D} : newL false l μ k = k (.lst l) μ := rfl
theorem nw_t {l : List D} : newL true l μ k = ∀ a, μ a = none → k (.ref a) (μ.set a (.lst l)) := rfl
theorem vr_some {ρ : En} {i : Nat} {d : D} (h : ρ[i]? = some (some d)) : wpE G (.var i) ρ μ k x = k d μ := by
  simp only [wpE]
  rw [h]
theorem ss {s : S} {r : List S} {ρ : En} {D : SE} (h : wpS G s ρ μ { D with nx := fun ρ' μ' => wpSs G r ρ' μ' D }) : wpSs G (s :: r) ρ μ D := by
  rw [wpSs]
  exact h
theorem ss0 {ρ : En} {D : SE} (h : D.nx ρ μ) : wpSs G [] ρ μ D := by
  rw [wpSs]
  exact h
theorem a_nm {i : Nat} {d : D} {ρ : En} {f : En → Prop} : asgW (.nm i) d ρ f = f (ρ.set i (some d)) := by simp only [asgW]
end
end SR

/-! trees that many laws share -/
namespace SR
open PySem L2

def d_lies_in : Fn where
  N := ["one", "other"].map Str.ofString
  np := 2
  body := [
    .ret (.and_ (.cmp .le (.ix (.var 1) (.int 0)) (.ix (.var 0) (.int 0))) (.cmp .le (.ix (.var 0) (.int 1)) (.ix (.var 1) (.int 1))))]
def d_has : Fn where
  N := ["stretch", "place"].map Str.ofString
  np := 2
  body := [
    .ret (.chain .le .le (.ix (.var 0) (.int 0)) (.var 1) (.ix (.var 0) (.int 1)))]
def d_within : Fn where
  N := ["stencils", "stretch", "one"].map Str.ofString
  np := 2
  body := [
    .ret (.lc false [2] (.nm 2) .seq [(.var 0)] (some (.call "lies_in" [(.var 2), (.var 1)])) (.var 2))]
def d_places_of : Fn where
  N := ["stretch"].map Str.ofString
  np := 1
  body := [
    .ret (.lrng false (.ix (.var 0) (.int 0)) (.bin .add (.ix (.var 0) (.int 1)) (.int 1)))]
def d_bare : Fn where
  N := ["stencils", "stretch", "some", "place", "one"].map Str.ofString
  np := 2
  body := [
    .asg (.nm 2) (.call "within" [(.var 0), (.var 1)]),
    .ret (.lc false [3] (.nm 3) .seq [(.call "places_of" [(.var 1)])] (some (.nt (.bt .any [(.lc false [4] (.nm 4) .seq [(.var 2)] none (.call "has" [(.var 4), (.var 3)]))]))) (.var 3))]
def d_all_stretches : Fn where
  N := ["places", "first", "last"].map Str.ofString
  np := 1
  body := [
    .ret (.lc2 false [1, 2] [2] (.nm 1) .rng1 [(.var 0)] (.nm 2) .rng2 [(.var 1), (.var 0)] (.tup [(.var 1), (.var 2)]))]
def d_all_painted : Fn where
  N := ["places", "stencils", "stretch"].map Str.ofString
  np := 2
  body := [
    .ret (.lc true [2] (.nm 2) .seq [(.call "all_stretches" [(.var 0)])] (some (.cmp .eq (.call "bare" [(.var 1), (.var 2)]) (.lst false []))) (.var 2))]
def dl_bag : Fn where
  N := ["script", "k", "cell"].map Str.ofString
  np := 2
  body := [
    .asg (.nm 2) (.int 0),
    .ife (.cmp .lt (.var 1) (.bt .len [(.var 0)])) [
      .asg (.nm 2) (.bt .abs [(.ix (.var 0) (.var 1))])] [],
    .ife (.cmp .lt (.var 2) (.bin .pow (.int 10) (.int 18))) [
      .ret (.lst true [(.int 0), (.bin .add (.int 1) (.bin .mod (.bin .add (.bin .mul (.var 2) (.int 7919)) (.bin .mul (.int 104729) (.var 1))) (.int 2147483646)))])] [],
    .ret (.lst true [(.var 2), (.bin .add (.int 1) (.bin .mod (.bin .add (.var 2) (.var 1)) (.int 2147483646)))])]
def dl_take : Fn where
  N := ["bag", "many", "found"].map Str.ofString
  np := 2
  body := [
    .ife (.cmp .gt (.ix (.var 0) (.int 0)) (.int 0)) [
      .asg (.nm 2) (.bin .mod (.ix (.var 0) (.int 0)) (.var 1)),
      .setI (.var 0) (.int 0) (.bin .fdiv (.ix (.var 0) (.int 0)) (.var 1)),
      .ret (.var 2)] [],
    .setI (.var 0) (.int 1) (.bin .mod (.bin .mul (.ix (.var 0) (.int 1)) (.int 48271)) (.int 2147483647)),
    .ret (.bin .mod (.bin .fdiv (.bin .mod (.bin .mul (.ix (.var 0) (.int 1)) (.ix (.var 0) (.int 1))) (.int 2147483629)) (.int 64)) (.var 1))]
def dl_stretch : Fn where
  N := ["bag", "places", "first"].map Str.ofString
  np := 2
  body := [
    .asg (.nm 2) (.call "_law_take" [(.var 0), (.var 1)]),
    .ret (.tup [(.var 2), (.bin .add (.var 2) (.call "_law_take" [(.var 0), (.bt .min2 [(.bin .sub (.var 1) (.var 2)), (.ix (.lst false [(.int 3), (.var 1)]) (.call "_law_take" [(.var 0), (.int 2)]))])]))])]
def dl_some : Fn where
  N := ["bag", "places", "most", "found", "turn"].map Str.ofString
  np := 3
  body := [
    .asg (.nm 3) (.dnew true),
    .forE (.nm 4) .rng1 [(.call "_law_take" [(.var 0), (.bin .add (.var 2) (.int 1))])] [
      .setI (.var 3) (.call "_law_stretch" [(.var 0), (.var 1)]) (.bl true)],
    .ret (.bt .toTup [(.bt (.sorted false) [(.var 3)])])]
def dl_in : Fn where
  N := ["one", "other"].map Str.ofString
  np := 2
  body := [
    .ret (.and_ (.cmp .le (.ix (.var 1) (.int 0)) (.ix (.var 0) (.int 0))) (.cmp .le (.ix (.var 0) (.int 1)) (.ix (.var 1) (.int 1))))]
def dl_bare : Fn where
  N := ["stencils", "stretch", "found", "place", "one"].map Str.ofString
  np := 2
  body := [
    .asg (.nm 2) (.lst true []),
    .forE (.nm 3) .rng2 [(.ix (.var 1) (.int 0)), (.bin .add (.ix (.var 1) (.int 1)) (.int 1))] [
      .ife (.cmp .eq (.lc false [4] (.nm 4) .seq [(.var 0)] (some (.and_ (.call "_law_in" [(.var 4), (.var 1)]) (.chain .le .le (.ix (.var 4) (.int 0)) (.var 3) (.ix (.var 4) (.int 1))))) (.var 4)) (.lst false [])) [
        .app (.var 2) (.var 3)] []],
    .ret (.frz (.var 2))]
end SR

/-! walls -/
namespace SR
open PySem L2
variable {G : Glb} {μ : Mu} {k : KD} {x : KX}

def inB (one other : Int × Int) : Bool := decide (other.1 ≤ one.1) && decide (one.2 ≤ other.2)
def hasB (s : Int × Int) (p : Int) : Bool := decide (s.1 ≤ p) && decide (p ≤ s.2)
def plc (s : Int × Int) : List Int := (List.range (s.2 + 1 - s.1).toNat).map fun (i : Nat) => s.1 + (i : Int)
def withinL (l : List (Int × Int)) (s : Int × Int) : List (Int × Int) := l.filter fun o => inB o s
def bareL (l : List (Int × Int)) (s : Int × Int) : List Int := (plc s).filter fun p => !(withinL l s).any fun o => hasB o p
def allS (n : Int) : List (Int × Int) := (List.range n.toNat).flatMap fun (i : Nat) => (List.range (n - (i : Int)).toNat).map fun (j : Nat) => ((i : Int), (i : Int) + (j : Int))
def okS (s : Int × Int) : Prop := -1000 ≤ s.1 ∧ s.1 ≤ 1000 ∧ -1000 ≤ s.2 ∧ s.2 ≤ 1000

def SpIn (f : String) (G : Glb) : Prop := ∀ (s t : Int × Int) (μ : Mu) (k : KD) (x : KX), k (.bl (inB s t)) μ → G.fn f [stD s, stD t] μ k x
def SpHas (G : Glb) : Prop := ∀ (s : Int × Int) (p : Int) (μ : Mu) (k : KD) (x : KX), k (.bl (hasB s p)) μ → G.fn "has" [stD s, .int p] μ k x
def SpWithin (G : Glb) : Prop := ∀ (l : List (Int × Int)) (s : Int × Int) (μ : Mu) (k : KD) (x : KX), k (.lst ((withinL l s).map stD)) μ → G.fn "within" [stsD l, stD s] μ k x
def SpPlaces (G : Glb) : Prop := ∀ (s : Int × Int) (μ : Mu) (k : KD) (x : KX), okS s → k (.lst ((plc s).map D.int)) μ → G.fn "places_of" [stD s] μ k x
def SpBare (f : String) (G : Glb) : Prop := ∀ (l : List (Int × Int)) (s : Int × Int) (μ : Mu) (k : KD) (x : KX), okS s → k (.lst ((bareL l s).map D.int)) μ → G.fn f [stsD l, stD s] μ k x
def SpAll (G : Glb) : Prop := ∀ (n : Int) (μ : Mu) (k : KD) (x : KX), 0 ≤ n → n ≤ 100 → k (.lst ((allS n).map stD)) μ → G.fn "all_stretches" [.int n] μ k x
def SpPainted (G : Glb) : Prop := ∀ (n : Int) (l : List (Int × Int)) (μ : Mu) (k : KD) (x : KX), 0 ≤ n → n ≤ 100 →
  (∀ a, μ a = none → k (.ref a) (μ.set a (.lst (((allS n).filter fun s => (bareL l s).isEmpty).map stD)))) → G.fn "all_painted" [.int n, stsD l] μ k x

/-! ### equality of data of one kind -/
theorem ok_ints {l : List Int} {n : Nat} : okD (n + 1) (.lst (l.map D.int)) = true := by
  show okDs n _ = true
  induction l with
  | nil => cases n <;> rfl
  | cons a r ih =>
    rw [List.map_cons]
    have e : okDs n (D.int a :: r.map D.int) = (okD n (.int a) && okDs n (r.map D.int)) := by cases n <;> rfl
    rw [e, ih, Bool.and_true]
    cases n <;> rfl
theorem ok_st {s : Int × Int} {n : Nat} : okD (n + 1) (stD s) = true := by cases n <;> rfl
theorem ok_sts {l : List (Int × Int)} {n : Nat} : okDs (n + 1) (l.map stD) = true := by
  induction l with
  | nil => rfl
  | cons a r ih =>
    have e : okDs (n + 1) (stD a :: r.map stD) = (okD (n + 1) (stD a) && okDs (n + 1) (r.map stD)) := rfl
    rw [List.map_cons, e, ih, ok_st]
    rfl
theorem eq_nil {l : List D} : eqD (.lst l) (.lst []) = l.isEmpty := by
  cases l <;> rfl
theorem eq_emb {α : Type} [DecidableEq α] {emb : α → D} (he : ∀ a b, eqD (emb a) (emb b) = decide (a = b)) : ∀ l m : List α, eqDs (l.map emb) (m.map emb) = decide (l = m)
  | [], [] => rfl
  | [], _ :: _ => by simp [eqDs]
  | _ :: _, [] => by simp [eqDs]
  | a :: l, b :: m => by
    rw [List.map_cons, List.map_cons]
    show (eqD (emb a) (emb b) && eqDs (l.map emb) (m.map emb)) = _
    rw [he, eq_emb he l m]
    simp
theorem eq_int (a b : Int) : eqD (.int a) (.int b) = decide (a = b) := by
  show (a == b) = _
  rfl
theorem eq_st (a b : Int × Int) : eqD (stD a) (stD b) = decide (a = b) := by
  show ((a.1 == b.1) && ((a.2 == b.2) && true)) = _
  rw [Bool.and_true]
  obtain ⟨a1, a2⟩ := a
  obtain ⟨b1, b2⟩ := b
  simp [Prod.mk.injEq]
  by_cases h1 : a1 = b1 <;> by_cases h2 : a2 = b2 <;> simp [h1, h2]
theorem p_has {s : Int × Int} {p : Int} (h : k (.bl (hasB s p)) μ) : wpF G d_has [stD s, .int p] μ k x := by
  simp only [d_has, stD, wpF, wpSs, wpS, wpE, wpEs, wpC, wpO, a_nm, asgW, asgsW, wipeD, wk_L, wk_T, wk_1, wk_2, wk_E, wk_Z, wk_ZT, b_add, b_sub, b_fdiv, b_mod, b_mul, b_pow, b_addT, b_addL, b_addS, b_addB, b_subB, t_str, t_strB, c_lt, c_le, c_gt, c_ge, c_eq, c_ne, c_isN, c_isNN, c_inL, c_inT, c_ninL, c_ninT, sl_L, sl_T, sl_S, i_T0, i_T1, i_L0, i_L1, vw_T, vw_L, vw_I, vw_N, vw_B, vw_S, u_b, t_lenL, t_lenT, t_lenS, t_abs, up_S, t_min2, t_max2, t_any, t_all, t_toTL, t_toTT, t_toLT, t_toLL, t_sortL, t_sortT, nw_f, List.length_cons, List.length_nil, List.map_cons, List.map_nil, List.cons_append, List.nil_append, List.replicate, List.set_cons_succ, List.set_cons_zero, List.getElem?_cons_zero, List.getElem?_cons_succ]
  refine ⟨trivial, ?_⟩
  unfold hasB at h
  by_cases e : s.1 ≤ p
  · rw [decide_eq_true e, Bool.true_and] at h
    rw [decide_eq_true e, if_pos rfl]
    exact h
  · rw [decide_eq_false e, Bool.false_and] at h
    rw [decide_eq_false e, if_neg Bool.false_ne_true]
    exact h
theorem p_in {f : Fn} (hf : f = d_lies_in ∨ f = dl_in) {s t : Int × Int} (h : k (.bl (inB s t)) μ) : wpF G f [stD s, stD t] μ k x := by
  have key : wpF G d_lies_in [stD s, stD t] μ k x := by
    simp only [d_lies_in, stD, wpF, wpSs, wpS, wpE, wpEs, wpC, wpO, a_nm, asgW, asgsW, wipeD, wk_L, wk_T, wk_1, wk_2, wk_E, wk_Z, wk_ZT, b_add, b_sub, b_fdiv, b_mod, b_mul, b_pow, b_addT, b_addL, b_addS, b_addB, b_subB, t_str, t_strB, c_lt, c_le, c_gt, c_ge, c_eq, c_ne, c_isN, c_isNN, c_inL, c_inT, c_ninL, c_ninT, sl_L, sl_T, sl_S, i_T0, i_T1, i_L0, i_L1, vw_T, vw_L, vw_I, vw_N, vw_B, vw_S, u_b, t_lenL, t_lenT, t_lenS, t_abs, up_S, t_min2, t_max2, t_any, t_all, t_toTL, t_toTT, t_toLT, t_toLL, t_sortL, t_sortT, nw_f, List.length_cons, List.length_nil, List.map_cons, List.map_nil, List.cons_append, List.nil_append, List.replicate, List.set_cons_succ, List.set_cons_zero, List.getElem?_cons_zero, List.getElem?_cons_succ]
    refine ⟨trivial, ?_⟩
    unfold inB at h
    by_cases e : t.1 ≤ s.1
    · rw [decide_eq_true e, Bool.true_and] at h
      rw [decide_eq_true e, if_pos rfl]
      exact h
    · rw [decide_eq_false e, Bool.false_and] at h
      rw [decide_eq_false e, if_neg Bool.false_ne_true]
      exact h
  rcases hf with rfl | rfl
  · exact key
  · exact key
theorem p_within (h1 : SpIn "lies_in" G) {l : List (Int × Int)} {s : Int × Int} (h : k (.lst ((withinL l s).map stD)) μ) : wpF G d_within [stsD l, stD s] μ k x := by
  simp only [d_within, stsD, wpF, wpSs, wpS, wpE, wpEs, wpC, wpO, a_nm, asgW, asgsW, wipeD, wk_L, wk_T, wk_1, wk_2, wk_E, wk_Z, wk_ZT, b_add, b_sub, b_fdiv, b_mod, b_mul, b_pow, b_addT, b_addL, b_addS, b_addB, b_subB, t_str, t_strB, c_lt, c_le, c_gt, c_ge, c_eq, c_ne, c_isN, c_isNN, c_inL, c_inT, c_ninL, c_ninT, sl_L, sl_T, sl_S, i_T0, i_T1, i_L0, i_L1, vw_T, vw_L, vw_I, vw_N, vw_B, vw_S, u_b, t_lenL, t_lenT, t_lenS, t_abs, up_S, t_min2, t_max2, t_any, t_all, t_toTL, t_toTT, t_toLT, t_toLL, t_sortL, t_sortT, nw_f, List.length_cons, List.length_nil, List.map_cons, List.map_nil, List.cons_append, List.nil_append, List.replicate, List.set_cons_succ, List.set_cons_zero, List.getElem?_cons_zero, List.getElem?_cons_succ]
  refine ⟨trivial, lcW_filt stD (fun o => inB o s) stD trivial l (fun o ho k2 q => ?_) h⟩
  exact h1 o s _ _ _ q
theorem p_places {s : Int × Int} (hs : okS s) (h : k (.lst ((plc s).map D.int)) μ) : wpF G d_places_of [stD s] μ k x := by
  simp only [d_places_of, stD, wpF, wpSs, wpS, wpE, wpEs, wpC, wpO, a_nm, asgW, asgsW, wipeD, wk_L, wk_T, wk_1, wk_2, wk_E, wk_Z, wk_ZT, b_add, b_sub, b_fdiv, b_mod, b_mul, b_pow, b_addT, b_addL, b_addS, b_addB, b_subB, t_str, t_strB, c_lt, c_le, c_gt, c_ge, c_eq, c_ne, c_isN, c_isNN, c_inL, c_inT, c_ninL, c_ninT, sl_L, sl_T, sl_S, i_T0, i_T1, i_L0, i_L1, vw_T, vw_L, vw_I, vw_N, vw_B, vw_S, u_b, t_lenL, t_lenT, t_lenS, t_abs, up_S, t_min2, t_max2, t_any, t_all, t_toTL, t_toTT, t_toLT, t_toLL, t_sortL, t_sortT, nw_f, List.length_cons, List.length_nil, List.map_cons, List.map_nil, List.cons_append, List.nil_append, List.replicate, List.set_cons_succ, List.set_cons_zero, List.getElem?_cons_zero, List.getElem?_cons_succ]
  unfold okS at hs
  refine ⟨trivial, ⟨by omega, by omega, by omega, by omega, by omega⟩, ?_⟩
  unfold plc at h
  rw [List.map_map] at h
  exact h
theorem p_bare (h1 : SpWithin G) (h2 : SpPlaces G) (h3 : SpHas G) {l : List (Int × Int)} {s : Int × Int} (hs : okS s) (h : k (.lst ((bareL l s).map D.int)) μ) : wpF G d_bare [stsD l, stD s] μ k x := by
  simp only [d_bare, wpF, wpSs, wpS, wpE, wpEs, wpC, wpO, a_nm, asgW, asgsW, wipeD, wk_L, wk_T, wk_1, wk_2, wk_E, wk_Z, wk_ZT, b_add, b_sub, b_fdiv, b_mod, b_mul, b_pow, b_addT, b_addL, b_addS, b_addB, b_subB, t_str, t_strB, c_lt, c_le, c_gt, c_ge, c_eq, c_ne, c_isN, c_isNN, c_inL, c_inT, c_ninL, c_ninT, sl_L, sl_T, sl_S, i_T0, i_T1, i_L0, i_L1, vw_T, vw_L, vw_I, vw_N, vw_B, vw_S, u_b, t_lenL, t_lenT, t_lenS, t_abs, up_S, t_min2, t_max2, t_any, t_all, t_toTL, t_toTT, t_toLT, t_toLL, t_sortL, t_sortT, nw_f, List.length_cons, List.length_nil, List.map_cons, List.map_nil, List.cons_append, List.nil_append, List.replicate, List.set_cons_succ, List.set_cons_zero, List.getElem?_cons_zero, List.getElem?_cons_succ]
  refine ⟨trivial, h1 l s _ _ _ ?_⟩
  refine h2 s _ _ _ hs ?_
  simp only [wpF, wpSs, wpS, wpE, wpEs, wpC, wpO, a_nm, asgW, asgsW, wipeD, wk_L, wk_T, wk_1, wk_2, wk_E, wk_Z, wk_ZT, b_add, b_sub, b_fdiv, b_mod, b_mul, b_pow, b_addT, b_addL, b_addS, b_addB, b_subB, t_str, t_strB, c_lt, c_le, c_gt, c_ge, c_eq, c_ne, c_isN, c_isNN, c_inL, c_inT, c_ninL, c_ninT, sl_L, sl_T, sl_S, i_T0, i_T1, i_L0, i_L1, vw_T, vw_L, vw_I, vw_N, vw_B, vw_S, u_b, t_lenL, t_lenT, t_lenS, t_abs, up_S, t_min2, t_max2, t_any, t_all, t_toTL, t_toTT, t_toLT, t_toLL, t_sortL, t_sortT, nw_f, List.length_cons, List.length_nil, List.map_cons, List.map_nil, List.cons_append, List.nil_append, List.replicate, List.set_cons_succ, List.set_cons_zero, List.getElem?_cons_zero, List.getElem?_cons_succ]
  refine lcW_filt D.int (fun p => !(withinL l s).any fun o => hasB o p) D.int trivial (plc s) (fun p hp k2 q => ?_) h
  refine lcW_each stD (fun o => .bl (hasB o p)) trivial (withinL l s) (fun o ho k3 q3 => ?_) ?_
  · exact h3 o p _ _ _ q3
  · refine ⟨(withinL l s).map fun o => hasB o p, by rw [List.map_map]; rfl, ?_⟩
    simp only [List.any_map]
    exact q
theorem p_all {n : Int} (h0 : 0 ≤ n) (h1 : n ≤ 100) (h : k (.lst ((allS n).map stD)) μ) : wpF G d_all_stretches [.int n] μ k x := by
  simp only [d_all_stretches, wpF, wpSs, wpS, wpE, wpEs, wpC, wpO, a_nm, asgW, asgsW, wipeD, wk_L, wk_T, wk_1, wk_2, wk_E, wk_Z, wk_ZT, b_add, b_sub, b_fdiv, b_mod, b_mul, b_pow, b_addT, b_addL, b_addS, b_addB, b_subB, t_str, t_strB, c_lt, c_le, c_gt, c_ge, c_eq, c_ne, c_isN, c_isNN, c_inL, c_inT, c_ninL, c_ninT, sl_L, sl_T, sl_S, i_T0, i_T1, i_L0, i_L1, vw_T, vw_L, vw_I, vw_N, vw_B, vw_S, u_b, t_lenL, t_lenT, t_lenS, t_abs, up_S, t_min2, t_max2, t_any, t_all, t_toTL, t_toTT, t_toLT, t_toLL, t_sortL, t_sortT, nw_f, List.length_cons, List.length_nil, List.map_cons, List.map_nil, List.cons_append, List.nil_append, List.replicate, List.set_cons_succ, List.set_cons_zero, List.getElem?_cons_zero, List.getElem?_cons_succ]
  refine ⟨trivial, ⟨by omega, by omega, by unfold sizeLine; omega⟩, ?_⟩
  refine lcW2_each (fun (i : Nat) => D.int (i : Int)) (fun (i : Nat) => (List.range (n - (i : Int)).toNat).map fun (j : Nat) => stD ((i : Int), (i : Int) + (j : Int))) 100 trivial (List.range n.toNat) (by rw [List.length_range]; unfold sizeLine; omega) (fun a ha => by rw [List.length_map, List.length_range]; omega) (fun i hi acc hacc k2 q => ?_) ?_
  · have hi' := List.mem_range.mp hi
    refine ⟨⟨by omega, by omega, by omega, by omega, by unfold sizeLine; omega⟩, ?_⟩
    refine lcWb_each (fun (j : Nat) => D.int ((i : Int) + (j : Int))) (fun (j : Nat) => stD ((i : Int), (i : Int) + (j : Int))) trivial (List.range (n - (i : Int)).toNat) acc (by rw [List.length_range]; omega) (fun j hj k3 q3 => ?_) q
    exact ⟨by decide, q3⟩
  · unfold allS at h
    rw [List.map_flatMap] at h
    have e : (fun (a : Nat) => List.map stD (List.map (fun (j : Nat) => ((a : Int), (a : Int) + (j : Int))) (List.range (n - (a : Int)).toNat))) = fun (i : Nat) => (List.range (n - (i : Int)).toNat).map fun (j : Nat) => stD ((i : Int), (i : Int) + (j : Int)) := by
      funext a
      rw [List.map_map]
      rfl
    rw [e] at h
    exact h
theorem mem_all {n : Int} {s : Int × Int} : s ∈ allS n ↔ 0 ≤ s.1 ∧ s.1 ≤ s.2 ∧ s.2 < n := by
  unfold allS
  rw [List.mem_flatMap]
  constructor
  · rintro ⟨i, hi, hs⟩
    obtain ⟨j, hj, rfl⟩ := List.mem_map.mp hs
    have a := List.mem_range.mp hi
    have b := List.mem_range.mp hj
    simp only
    omega
  · rintro ⟨a, b, c⟩
    refine ⟨s.1.toNat, List.mem_range.mpr (by omega), List.mem_map.mpr ⟨(s.2 - s.1).toNat, List.mem_range.mpr (by omega), ?_⟩⟩
    have e1 : ((s.1.toNat : Nat) : Int) = s.1 := by omega
    have e2 : (((s.2 - s.1).toNat : Nat) : Int) = s.2 - s.1 := by omega
    rw [e1, e2]
    ext <;> simp <;> omega
theorem all_ok {n : Int} (h1 : n ≤ 100) {s : Int × Int} (h : s ∈ allS n) : okS s := by
  have := mem_all.mp h
  unfold okS
  omega
theorem p_painted (h1 : SpAll G) (h2 : SpBare "bare" G) {n : Int} {l : List (Int × Int)} (h0 : 0 ≤ n) (hn : n ≤ 100)
    (h : ∀ a, μ a = none → k (.ref a) (μ.set a (.lst (((allS n).filter fun s => (bareL l s).isEmpty).map stD)))) : wpF G d_all_painted [.int n, stsD l] μ k x := by
  simp only [d_all_painted, wpF, wpSs, wpS, wpE, wpEs, wpC, wpO, a_nm, asgW, asgsW, wipeD, wk_L, wk_T, wk_1, wk_2, wk_E, wk_Z, wk_ZT, b_add, b_sub, b_fdiv, b_mod, b_mul, b_pow, b_addT, b_addL, b_addS, b_addB, b_subB, t_str, t_strB, c_lt, c_le, c_gt, c_ge, c_eq, c_ne, c_isN, c_isNN, c_inL, c_inT, c_ninL, c_ninT, sl_L, sl_T, sl_S, i_T0, i_T1, i_L0, i_L1, vw_T, vw_L, vw_I, vw_N, vw_B, vw_S, u_b, t_lenL, t_lenT, t_lenS, t_abs, up_S, t_min2, t_max2, t_any, t_all, t_toTL, t_toTT, t_toLT, t_toLL, t_sortL, t_sortT, nw_f, List.length_cons, List.length_nil, List.map_cons, List.map_nil, List.cons_append, List.nil_append, List.replicate, List.set_cons_succ, List.set_cons_zero, List.getElem?_cons_zero, List.getElem?_cons_succ]
  refine ⟨trivial, h1 n _ _ _ h0 hn ?_⟩
  simp only [wpF, wpSs, wpS, wpE, wpEs, wpC, wpO, a_nm, asgW, asgsW, wipeD, wk_L, wk_T, wk_1, wk_2, wk_E, wk_Z, wk_ZT, b_add, b_sub, b_fdiv, b_mod, b_mul, b_pow, b_addT, b_addL, b_addS, b_addB, b_subB, t_str, t_strB, c_lt, c_le, c_gt, c_ge, c_eq, c_ne, c_isN, c_isNN, c_inL, c_inT, c_ninL, c_ninT, sl_L, sl_T, sl_S, i_T0, i_T1, i_L0, i_L1, vw_T, vw_L, vw_I, vw_N, vw_B, vw_S, u_b, t_lenL, t_lenT, t_lenS, t_abs, up_S, t_min2, t_max2, t_any, t_all, t_toTL, t_toTT, t_toLT, t_toLL, t_sortL, t_sortT, nw_f, List.length_cons, List.length_nil, List.map_cons, List.map_nil, List.cons_append, List.nil_append, List.replicate, List.set_cons_succ, List.set_cons_zero, List.getElem?_cons_zero, List.getElem?_cons_succ]
  refine lcW_filt stD (fun s => (bareL l s).isEmpty) stD trivial (allS n) (fun s hs k2 q => ?_) (newL_t h)
  refine h2 l s _ _ _ (all_ok hn hs) ?_
  simp only [wpF, wpSs, wpS, wpE, wpEs, wpC, wpO, a_nm, asgW, asgsW, wipeD, wk_L, wk_T, wk_1, wk_2, wk_E, wk_Z, wk_ZT, b_add, b_sub, b_fdiv, b_mod, b_mul, b_pow, b_addT, b_addL, b_addS, b_addB, b_subB, t_str, t_strB, c_lt, c_le, c_gt, c_ge, c_eq, c_ne, c_isN, c_isNN, c_inL, c_inT, c_ninL, c_ninT, sl_L, sl_T, sl_S, i_T0, i_T1, i_L0, i_L1, vw_T, vw_L, vw_I, vw_N, vw_B, vw_S, u_b, t_lenL, t_lenT, t_lenS, t_abs, up_S, t_min2, t_max2, t_any, t_all, t_toTL, t_toTT, t_toLT, t_toLL, t_sortL, t_sortT, nw_f, List.length_cons, List.length_nil, List.map_cons, List.map_nil, List.cons_append, List.nil_append, List.replicate, List.set_cons_succ, List.set_cons_zero, List.getElem?_cons_zero, List.getElem?_cons_succ]
  refine ⟨by decide, ok_ints, rfl, ?_⟩
  simp only [eq_nil, List.isEmpty_map]
  exact q
end SR

/-! the bag, what laws draw from it -/
namespace SR
open PySem L2
variable {G : Glb} {μ : Mu} {k : KD} {x : KX}

def BagOk (μ : Mu) (a : Addr) : Prop := ∃ p q : Int, μ a = some (.lst [.int p, .int q]) ∧ 0 ≤ p ∧ 0 ≤ q ∧ q < 2147483648
/-- the store as it was, but for the bag -/
def BagBut (μ : Mu) (a : Addr) (μ' : Mu) : Prop := BagOk μ' a ∧ ∀ b o, b ≠ a → μ b = some o → μ' b = some o
theorem BagBut.trans {μ μ1 μ2 : Mu} {a : Addr} (h : BagBut μ a μ1) (h2 : BagBut μ1 a μ2) : BagBut μ a μ2 := ⟨h2.1, fun b o hb e => h2.2 b o hb (h.2 b o hb e)⟩
theorem set_same {μ : Mu} {a : Addr} {o : MO} : μ.set a o a = some o := by simp [Mu.set]
theorem set_ne {μ : Mu} {a b : Addr} {o : MO} (h : b ≠ a) : μ.set a o b = μ b := by simp [Mu.set, h]
theorem bagBut_set {μ : Mu} {a : Addr} {p q : Int} (hp : 0 ≤ p) (h0 : 0 ≤ q) (h1 : q < 2147483648) : BagBut μ a (μ.set a (.lst [.int p, .int q])) := ⟨⟨p, q, set_same, hp, h0, h1⟩, fun b o hb e => (set_ne hb).trans e⟩

def SpBag (G : Glb) : Prop := ∀ (ns : List Int) (i : Nat) (μ : Mu) (k : KD) (x : KX), ns.length ≤ 63 → i ≤ 63 → (∀ a μ', μ a = none → BagBut μ a μ' → k (.ref a) μ') → G.fn "_law_bag" [.scr ns, .int (i : Int)] μ k x
def SpTake (G : Glb) : Prop := ∀ (a : Addr) (n : Int) (μ : Mu) (k : KD) (x : KX), BagOk μ a → 0 < n → n < 1000000 → (∀ r μ', 0 ≤ r → r < n → BagBut μ a μ' → k (.int r) μ') → G.fn "_law_take" [.ref a, .int n] μ k x
def SpStretch (G : Glb) : Prop := ∀ (a : Addr) (n : Int) (μ : Mu) (k : KD) (x : KX), BagOk μ a → 0 < n → n < 100 → (∀ s μ', s ∈ allS n → BagBut μ a μ' → k (stD s) μ') → G.fn "_law_stretch" [.ref a, .int n] μ k x

theorem p_bag {ns : List Int} {i : Nat} (hn : ns.length ≤ 63) (hi : i ≤ 63) (h : ∀ a μ', μ a = none → BagBut μ a μ' → k (.ref a) μ') : wpF G dl_bag [.scr ns, .int (i : Int)] μ k x := by
  have fin : ∀ c : Int, 0 ≤ c → ∀ D : SE, D.rt = k → wpSs G (dl_bag.body.drop 2) [some (.scr ns), some (.int (i : Int)), some (.int c)] μ D := by
    rintro c hc D rfl
    simp only [dl_bag, List.drop, wpF, wpSs, wpS, wpE, wpEs, wpC, wpO, a_nm, asgW, asgsW, wipeD, wk_L, wk_T, wk_1, wk_2, wk_E, wk_Z, wk_ZT, b_add, b_sub, b_fdiv, b_mod, b_mul, b_pow, b_addT, b_addL, b_addS, b_addB, b_subB, t_str, t_strB, c_lt, c_le, c_gt, c_ge, c_eq, c_ne, c_isN, c_isNN, c_inL, c_inT, c_ninL, c_ninT, sl_L, sl_T, sl_S, i_T0, i_T1, i_L0, i_L1, vw_T, vw_L, vw_I, vw_N, vw_B, vw_S, u_b, t_lenL, t_lenT, t_lenS, t_abs, up_S, t_min2, t_max2, t_any, t_all, t_toTL, t_toTT, t_toLT, t_toLL, t_sortL, t_sortT, nw_f, List.length_cons, List.length_nil, List.map_cons, List.map_nil, List.cons_append, List.nil_append, List.replicate, List.set_cons_succ, List.set_cons_zero, List.getElem?_cons_zero, List.getElem?_cons_succ, nw_t]
    refine ⟨⟨by decide, by decide, by decide⟩, ?_⟩
    by_cases e : c < 10 ^ (18 : Int).toNat
    · rw [decide_eq_true e, if_pos rfl]
      have e' : c < 1000000000000000000 := e
      refine ⟨.inr ⟨by decide, by decide⟩, .inl ⟨by decide, by decide⟩, by decide, by decide, fun a ha => h a _ ha (bagBut_set (Int.le_refl 0) ?_ ?_)⟩
      · have := Int.emod_nonneg (c * 7919 + 104729 * (i : Int)) (show (2147483646 : Int) ≠ 0 by decide)
        omega
      · have := Int.emod_lt_of_pos (c * 7919 + 104729 * (i : Int)) (show (0 : Int) < 2147483646 by decide)
        omega
    · rw [decide_eq_false e, if_neg Bool.false_ne_true]
      refine ⟨by decide, by decide, fun a ha => h a _ ha (bagBut_set hc ?_ ?_)⟩
      · have := Int.emod_nonneg (c + (i : Int)) (show (2147483646 : Int) ≠ 0 by decide)
        omega
      · have := Int.emod_lt_of_pos (c + (i : Int)) (show (0 : Int) < 2147483646 by decide)
        omega
  simp only [wpF, dl_bag, wpF, wpS, wpE, wpEs, wpC, wpO, a_nm, asgW, asgsW, wipeD, wk_L, wk_T, wk_1, wk_2, wk_E, wk_Z, wk_ZT, b_add, b_sub, b_fdiv, b_mod, b_mul, b_pow, b_addT, b_addL, b_addS, b_addB, b_subB, t_str, t_strB, c_lt, c_le, c_gt, c_ge, c_eq, c_ne, c_isN, c_isNN, c_inL, c_inT, c_ninL, c_ninT, sl_L, sl_T, sl_S, i_T0, i_T1, i_L0, i_L1, vw_T, vw_L, vw_I, vw_N, vw_B, vw_S, u_b, t_lenL, t_lenT, t_lenS, t_abs, up_S, t_min2, t_max2, t_any, t_all, t_toTL, t_toTT, t_toLT, t_toLL, t_sortL, t_sortT, nw_f, List.length_cons, List.length_nil, List.map_cons, List.map_nil, List.cons_append, List.nil_append, List.replicate, List.set_cons_succ, List.set_cons_zero, List.getElem?_cons_zero, List.getElem?_cons_succ]
  refine ⟨trivial, ?_⟩
  refine ss ?_
  simp only [wpF, wpS, wpE, wpEs, wpC, wpO, a_nm, asgW, asgsW, wipeD, wk_L, wk_T, wk_1, wk_2, wk_E, wk_Z, wk_ZT, b_add, b_sub, b_fdiv, b_mod, b_mul, b_pow, b_addT, b_addL, b_addS, b_addB, b_subB, t_str, t_strB, c_lt, c_le, c_gt, c_ge, c_eq, c_ne, c_isN, c_isNN, c_inL, c_inT, c_ninL, c_ninT, sl_L, sl_T, sl_S, i_T0, i_T1, i_L0, i_L1, vw_T, vw_L, vw_I, vw_N, vw_B, vw_S, u_b, t_lenL, t_lenT, t_lenS, t_abs, up_S, t_min2, t_max2, t_any, t_all, t_toTL, t_toTT, t_toLT, t_toLL, t_sortL, t_sortT, nw_f, List.length_cons, List.length_nil, List.map_cons, List.map_nil, List.cons_append, List.nil_append, List.replicate, List.set_cons_succ, List.set_cons_zero, List.getElem?_cons_zero, List.getElem?_cons_succ]
  refine ss ?_
  simp only [wpF, wpS, wpE, wpEs, wpC, wpO, a_nm, asgW, asgsW, wipeD, wk_L, wk_T, wk_1, wk_2, wk_E, wk_Z, wk_ZT, b_add, b_sub, b_fdiv, b_mod, b_mul, b_pow, b_addT, b_addL, b_addS, b_addB, b_subB, t_str, t_strB, c_lt, c_le, c_gt, c_ge, c_eq, c_ne, c_isN, c_isNN, c_inL, c_inT, c_ninL, c_ninT, sl_L, sl_T, sl_S, i_T0, i_T1, i_L0, i_L1, vw_T, vw_L, vw_I, vw_N, vw_B, vw_S, u_b, t_lenL, t_lenT, t_lenS, t_abs, up_S, t_min2, t_max2, t_any, t_all, t_toTL, t_toTT, t_toLT, t_toLL, t_sortL, t_sortT, nw_f, List.length_cons, List.length_nil, List.map_cons, List.map_nil, List.cons_append, List.nil_append, List.replicate, List.set_cons_succ, List.set_cons_zero, List.getElem?_cons_zero, List.getElem?_cons_succ]
  by_cases e : (i : Int) < (ns.length : Int)
  · rw [decide_eq_true e, if_pos rfl]
    have hi' : i < ns.length := by omega
    refine ss ?_
    simp only [wpF, wpS, wpE, wpEs, wpC, wpO, a_nm, asgW, asgsW, wipeD, wk_L, wk_T, wk_1, wk_2, wk_E, wk_Z, wk_ZT, b_add, b_sub, b_fdiv, b_mod, b_mul, b_pow, b_addT, b_addL, b_addS, b_addB, b_subB, t_str, t_strB, c_lt, c_le, c_gt, c_ge, c_eq, c_ne, c_isN, c_isNN, c_inL, c_inT, c_ninL, c_ninT, sl_L, sl_T, sl_S, i_T0, i_T1, i_L0, i_L1, vw_T, vw_L, vw_I, vw_N, vw_B, vw_S, u_b, t_lenL, t_lenT, t_lenS, t_abs, up_S, t_min2, t_max2, t_any, t_all, t_toTL, t_toTT, t_toLT, t_toLL, t_sortL, t_sortT, nw_f, List.length_cons, List.length_nil, List.map_cons, List.map_nil, List.cons_append, List.nil_append, List.replicate, List.set_cons_succ, List.set_cons_zero, List.getElem?_cons_zero, List.getElem?_cons_succ]
    rw [i_S (atN hi')]
    simp only [wpF, wpS, wpE, wpEs, wpC, wpO, a_nm, asgW, asgsW, wipeD, wk_L, wk_T, wk_1, wk_2, wk_E, wk_Z, wk_ZT, b_add, b_sub, b_fdiv, b_mod, b_mul, b_pow, b_addT, b_addL, b_addS, b_addB, b_subB, t_str, t_strB, c_lt, c_le, c_gt, c_ge, c_eq, c_ne, c_isN, c_isNN, c_inL, c_inT, c_ninL, c_ninT, sl_L, sl_T, sl_S, i_T0, i_T1, i_L0, i_L1, vw_T, vw_L, vw_I, vw_N, vw_B, vw_S, u_b, t_lenL, t_lenT, t_lenS, t_abs, up_S, t_min2, t_max2, t_any, t_all, t_toTL, t_toTT, t_toLT, t_toLL, t_sortL, t_sortT, nw_f, List.length_cons, List.length_nil, List.map_cons, List.map_nil, List.cons_append, List.nil_append, List.replicate, List.set_cons_succ, List.set_cons_zero, List.getElem?_cons_zero, List.getElem?_cons_succ]
    refine ss0 ?_
    exact fin _ (by split <;> omega) _ rfl
  · rw [decide_eq_false e, if_neg Bool.false_ne_true]
    refine ss0 ?_
    exact fin 0 (Int.le_refl 0) _ rfl
theorem p_take {a : Addr} {n : Int} (hb : BagOk μ a) (h0 : 0 < n) (h1 : n < 1000000) (h : ∀ r μ', 0 ≤ r → r < n → BagBut μ a μ' → k (.int r) μ') : wpF G dl_take [.ref a, .int n] μ k x := by
  obtain ⟨p, q, hm, hp, hq, hq'⟩ := hb
  simp only [dl_take, wpF, wpSs, wpS, wpE, wpEs, wpC, wpO, a_nm, asgW, asgsW, wipeD, wk_L, wk_T, wk_1, wk_2, wk_E, wk_Z, wk_ZT, b_add, b_sub, b_fdiv, b_mod, b_mul, b_pow, b_addT, b_addL, b_addS, b_addB, b_subB, t_str, t_strB, c_lt, c_le, c_gt, c_ge, c_eq, c_ne, c_isN, c_isNN, c_inL, c_inT, c_ninL, c_ninT, sl_L, sl_T, sl_S, i_T0, i_T1, i_L0, i_L1, vw_T, vw_L, vw_I, vw_N, vw_B, vw_S, u_b, t_lenL, t_lenT, t_lenS, t_abs, up_S, t_min2, t_max2, t_any, t_all, t_toTL, t_toTT, t_toLT, t_toLL, t_sortL, t_sortT, nw_f, List.length_cons, List.length_nil, List.map_cons, List.map_nil, List.cons_append, List.nil_append, List.replicate, List.set_cons_succ, List.set_cons_zero, List.getElem?_cons_zero, List.getElem?_cons_succ]
  refine ⟨trivial, ?_⟩
  rw [i_R hm at0]
  simp only [wpF, wpSs, wpS, wpE, wpEs, wpC, wpO, a_nm, asgW, asgsW, wipeD, wk_L, wk_T, wk_1, wk_2, wk_E, wk_Z, wk_ZT, b_add, b_sub, b_fdiv, b_mod, b_mul, b_pow, b_addT, b_addL, b_addS, b_addB, b_subB, t_str, t_strB, c_lt, c_le, c_gt, c_ge, c_eq, c_ne, c_isN, c_isNN, c_inL, c_inT, c_ninL, c_ninT, sl_L, sl_T, sl_S, i_T0, i_T1, i_L0, i_L1, vw_T, vw_L, vw_I, vw_N, vw_B, vw_S, u_b, t_lenL, t_lenT, t_lenS, t_abs, up_S, t_min2, t_max2, t_any, t_all, t_toTL, t_toTT, t_toLT, t_toLL, t_sortL, t_sortT, nw_f, List.length_cons, List.length_nil, List.map_cons, List.map_nil, List.cons_append, List.nil_append, List.replicate, List.set_cons_succ, List.set_cons_zero, List.getElem?_cons_zero, List.getElem?_cons_succ]
  by_cases e : 0 < p
  · rw [decide_eq_true e, if_pos rfl, i_R hm at0]
    simp only [wpF, wpSs, wpS, wpE, wpEs, wpC, wpO, a_nm, asgW, asgsW, wipeD, wk_L, wk_T, wk_1, wk_2, wk_E, wk_Z, wk_ZT, b_add, b_sub, b_fdiv, b_mod, b_mul, b_pow, b_addT, b_addL, b_addS, b_addB, b_subB, t_str, t_strB, c_lt, c_le, c_gt, c_ge, c_eq, c_ne, c_isN, c_isNN, c_inL, c_inT, c_ninL, c_ninT, sl_L, sl_T, sl_S, i_T0, i_T1, i_L0, i_L1, vw_T, vw_L, vw_I, vw_N, vw_B, vw_S, u_b, t_lenL, t_lenT, t_lenS, t_abs, up_S, t_min2, t_max2, t_any, t_all, t_toTL, t_toTT, t_toLT, t_toLL, t_sortL, t_sortT, nw_f, List.length_cons, List.length_nil, List.map_cons, List.map_nil, List.cons_append, List.nil_append, List.replicate, List.set_cons_succ, List.set_cons_zero, List.getElem?_cons_zero, List.getElem?_cons_succ]
    refine ⟨h0, ?_⟩
    rw [i_R hm at0]
    simp only [wpF, wpSs, wpS, wpE, wpEs, wpC, wpO, a_nm, asgW, asgsW, wipeD, wk_L, wk_T, wk_1, wk_2, wk_E, wk_Z, wk_ZT, b_add, b_sub, b_fdiv, b_mod, b_mul, b_pow, b_addT, b_addL, b_addS, b_addB, b_subB, t_str, t_strB, c_lt, c_le, c_gt, c_ge, c_eq, c_ne, c_isN, c_isNN, c_inL, c_inT, c_ninL, c_ninT, sl_L, sl_T, sl_S, i_T0, i_T1, i_L0, i_L1, vw_T, vw_L, vw_I, vw_N, vw_B, vw_S, u_b, t_lenL, t_lenT, t_lenS, t_abs, up_S, t_min2, t_max2, t_any, t_all, t_toTL, t_toTT, t_toLT, t_toLL, t_sortL, t_sortT, nw_f, List.length_cons, List.length_nil, List.map_cons, List.map_nil, List.cons_append, List.nil_append, List.replicate, List.set_cons_succ, List.set_cons_zero, List.getElem?_cons_zero, List.getElem?_cons_succ]
    refine ⟨⟨h0, by omega⟩, ?_⟩
    simp only [setW, hm, List.length_cons, List.length_nil, ixN0 (show 0 < 0 + 1 + 1 by decide), List.set_cons_zero]
    exact h _ _ (Int.emod_nonneg _ (by omega)) (Int.emod_lt_of_pos _ h0) (bagBut_set (Int.ediv_nonneg hp (by omega)) hq hq')
  · rw [decide_eq_false e, if_neg Bool.false_ne_true, i_R hm at1]
    have r0 := Int.emod_nonneg (q * 48271) (show (2147483647 : Int) ≠ 0 by decide)
    have r1 := Int.emod_lt_of_pos (q * 48271) (show (0 : Int) < 2147483647 by decide)
    simp only [wpF, wpSs, wpS, wpE, wpEs, wpC, wpO, a_nm, asgW, asgsW, wipeD, wk_L, wk_T, wk_1, wk_2, wk_E, wk_Z, wk_ZT, b_add, b_sub, b_fdiv, b_mod, b_mul, b_pow, b_addT, b_addL, b_addS, b_addB, b_subB, t_str, t_strB, c_lt, c_le, c_gt, c_ge, c_eq, c_ne, c_isN, c_isNN, c_inL, c_inT, c_ninL, c_ninT, sl_L, sl_T, sl_S, i_T0, i_T1, i_L0, i_L1, vw_T, vw_L, vw_I, vw_N, vw_B, vw_S, u_b, t_lenL, t_lenT, t_lenS, t_abs, up_S, t_min2, t_max2, t_any, t_all, t_toTL, t_toTT, t_toLT, t_toLL, t_sortL, t_sortT, nw_f, List.length_cons, List.length_nil, List.map_cons, List.map_nil, List.cons_append, List.nil_append, List.replicate, List.set_cons_succ, List.set_cons_zero, List.getElem?_cons_zero, List.getElem?_cons_succ]
    generalize q * 48271 % 2147483647 = z at r0 r1
    refine ⟨.inr ⟨by decide, by decide⟩, by decide, ?_⟩
    simp only [setW, hm, List.length_cons, List.length_nil, ixN1 (show 1 < 0 + 1 + 1 by decide), List.set_cons_succ, List.set_cons_zero]
    rw [i_R set_same at1, i_R set_same at1]
    simp only [wpF, wpSs, wpS, wpE, wpEs, wpC, wpO, a_nm, asgW, asgsW, wipeD, wk_L, wk_T, wk_1, wk_2, wk_E, wk_Z, wk_ZT, b_add, b_sub, b_fdiv, b_mod, b_mul, b_pow, b_addT, b_addL, b_addS, b_addB, b_subB, t_str, t_strB, c_lt, c_le, c_gt, c_ge, c_eq, c_ne, c_isN, c_isNN, c_inL, c_inT, c_ninL, c_ninT, sl_L, sl_T, sl_S, i_T0, i_T1, i_L0, i_L1, vw_T, vw_L, vw_I, vw_N, vw_B, vw_S, u_b, t_lenL, t_lenT, t_lenS, t_abs, up_S, t_min2, t_max2, t_any, t_all, t_toTL, t_toTT, t_toLT, t_toLL, t_sortL, t_sortT, nw_f, List.length_cons, List.length_nil, List.map_cons, List.map_nil, List.cons_append, List.nil_append, List.replicate, List.set_cons_succ, List.set_cons_zero, List.getElem?_cons_zero, List.getElem?_cons_succ]
    refine ⟨.inl ⟨by omega, by omega⟩, by decide, ⟨by decide, by decide⟩, h0, ?_⟩
    exact h _ _ (Int.emod_nonneg _ (by omega)) (Int.emod_lt_of_pos _ h0) (bagBut_set hp r0 (by omega))
theorem p_stretch (h1 : SpTake G) {a : Addr} {n : Int} (hb : BagOk μ a) (h0 : 0 < n) (hn : n < 100) (h : ∀ s μ', s ∈ allS n → BagBut μ a μ' → k (stD s) μ') : wpF G dl_stretch [.ref a, .int n] μ k x := by
  simp only [dl_stretch, wpF, wpSs, wpS, wpE, wpEs, wpC, wpO, a_nm, asgW, asgsW, wipeD, wk_L, wk_T, wk_1, wk_2, wk_E, wk_Z, wk_ZT, b_add, b_sub, b_fdiv, b_mod, b_mul, b_pow, b_addT, b_addL, b_addS, b_addB, b_subB, t_str, t_strB, c_lt, c_le, c_gt, c_ge, c_eq, c_ne, c_isN, c_isNN, c_inL, c_inT, c_ninL, c_ninT, sl_L, sl_T, sl_S, i_T0, i_T1, i_L0, i_L1, vw_T, vw_L, vw_I, vw_N, vw_B, vw_S, u_b, t_lenL, t_lenT, t_lenS, t_abs, up_S, t_min2, t_max2, t_any, t_all, t_toTL, t_toTT, t_toLT, t_toLL, t_sortL, t_sortT, nw_f, List.length_cons, List.length_nil, List.map_cons, List.map_nil, List.cons_append, List.nil_append, List.replicate, List.set_cons_succ, List.set_cons_zero, List.getElem?_cons_zero, List.getElem?_cons_succ]
  refine ⟨trivial, h1 a n _ _ _ hb h0 (by omega) fun r μ1 hr0 hr1 b1 => ?_⟩
  refine ⟨by decide, h1 a 2 _ _ _ b1.1 (by decide) (by decide) fun c μ2 hc0 hc1 b2 => ?_⟩
  have b12 := b1.trans b2
  have fin : ∀ w : Int, 0 < w → ∀ K : KD, (∀ t μ3, 0 ≤ t → t < n - r → BagBut μ a μ3 → K (.int t) μ3) → G.fn "_law_take" [.ref a, .int (if w < n - r then w else n - r)] μ2 K x := fun w hw0 K hK =>
    h1 a _ _ _ _ b12.1 (by split <;> omega) (by split <;> omega) fun t μ3 t0 t1 b3 => hK t μ3 t0 (by split at t1 <;> omega) (b12.trans b3)
  have fin2 : ∀ K : KD, (∀ t μ3, 0 ≤ t → t < n - r → BagBut μ a μ3 → K (.int t) μ3) → ∀ c : Int, 0 ≤ c → c < 2 → ixW (.lst [.int 3, .int n]) (.int c) μ2 fun d μ4 => btW .min2 [.int (n - r), d] μ4 fun d μ' => G.fn "_law_take" [.ref a, d] μ' K x := fun K hK c c0 c1 => by
    have hc : c = 0 ∨ c = 1 := by omega
    rcases hc with rfl | rfl
    · rw [i_L0, t_min2]
      exact fin 3 (by decide) K hK
    · rw [i_L1, t_min2]
      exact fin n h0 K hK
  refine fin2 _ (fun t μ3 t0 t1 b3 => ?_) c hc0 hc1
  simp only [wpF, wpSs, wpS, wpE, wpEs, wpC, wpO, a_nm, asgW, asgsW, wipeD, wk_L, wk_T, wk_1, wk_2, wk_E, wk_Z, wk_ZT, b_add, b_sub, b_fdiv, b_mod, b_mul, b_pow, b_addT, b_addL, b_addS, b_addB, b_subB, t_str, t_strB, c_lt, c_le, c_gt, c_ge, c_eq, c_ne, c_isN, c_isNN, c_inL, c_inT, c_ninL, c_ninT, sl_L, sl_T, sl_S, i_T0, i_T1, i_L0, i_L1, vw_T, vw_L, vw_I, vw_N, vw_B, vw_S, u_b, t_lenL, t_lenT, t_lenS, t_abs, up_S, t_min2, t_max2, t_any, t_all, t_toTL, t_toTT, t_toLT, t_toLL, t_sortL, t_sortT, nw_f, List.length_cons, List.length_nil, List.map_cons, List.map_nil, List.cons_append, List.nil_append, List.replicate, List.set_cons_succ, List.set_cons_zero, List.getElem?_cons_zero, List.getElem?_cons_succ]
  refine ⟨by decide, ?_⟩
  exact h (r, r + t) μ3 (mem_all.mpr ⟨hr0, by simp only; omega, by simp only; omega⟩) b3

/-! ### rows of stretches -/
def ltS (s t : Int × Int) : Prop := s.1 < t.1 ∨ (s.1 = t.1 ∧ s.2 < t.2)
instance (s t : Int × Int) : Decidable (ltS s t) := by unfold ltS; infer_instance
def leS (s t : Int × Int) : Bool := !decide (ltS t s)
theorem ltD_st (a b : Int × Int) : ltD (stD a) (stD b) = decide (ltS a b) := PySem.W.dataLt_ii a.1 a.2 b.1 b.2
theorem leD_st (a b : Int × Int) : leD (stD a) (stD b) = leS a b := by
  show (!PySem.W.dataLt _ _) = _
  exact congrArg (!·) (PySem.W.dataLt_ii b.1 b.2 a.1 a.2)
theorem sts_sortable (l : List (Int × Int)) : sortable (l.map stD) := by
  refine ⟨?_, ?_, ok_sts⟩
  · rw [List.map_map]
    exact PySem.W.AllAlike.of fun a b => rfl
  · rw [List.map_map]
    exact PySem.W.Sortable.tuples fun b => ⟨_, _, rfl⟩
theorem sts_sort (l : List (Int × Int)) : (l.map stD).mergeSort leD = (l.mergeSort leS).map stD := (PySem.W.sort_maps stD fun a _ b _ => (leD_st a b).symm).symm
/-- in their order, each once -/
def Row (n : Int) (l : List (Int × Int)) : Prop := (∀ s ∈ l, s ∈ allS n) ∧ l.Pairwise ltS
theorem leS_iff {s t : Int × Int} : leS s t = true ↔ ¬ ltS t s := by
  unfold leS
  rw [Bool.not_eq_true', decide_eq_false_iff_not]
theorem leS_trans (a b c : Int × Int) (h1 : leS a b = true) (h2 : leS b c = true) : leS a c = true := by
  rw [leS_iff] at *
  unfold ltS at *
  omega
theorem leS_total (a b : Int × Int) : (leS a b || leS b a) = true := by
  rw [Bool.or_eq_true, leS_iff, leS_iff]
  unfold ltS
  omega
theorem lt_of_leS {a b : Int × Int} (h : leS a b = true) (hne : a ≠ b) : ltS a b := by
  rw [leS_iff] at h
  unfold ltS at *
  by_cases h1 : a.1 = b.1
  · by_cases h2 : a.2 = b.2
    · exact absurd (Prod.ext h1 h2) hne
    · omega
  · omega
theorem row_sorted {n : Int} {l : List (Int × Int)} (h : ∀ s ∈ l, s ∈ allS n) (nd : l.Nodup) : Row n (l.mergeSort leS) := by
  refine ⟨fun s hs => h s (List.mem_mergeSort.mp hs), ?_⟩
  have hp := List.pairwise_mergeSort (le := leS) leS_trans leS_total l
  have hn : (l.mergeSort leS).Nodup := (List.mergeSort_perm l leS).nodup_iff.mpr nd
  exact (hp.and hn).imp fun ⟨a, b⟩ => lt_of_leS a b
/-- a key more -/
theorem dput_keys {kvs : List (D × D)} {l : List (Int × Int)} (s : Int × Int) (v : D) (h : kvs.map (·.1) = l.map stD) : (dput kvs (stD s) v).map (·.1) = (if s ∈ l then l else l ++ [s]).map stD := by
  have ha : (kvs.any fun p => eqD p.1 (stD s)) = decide (s ∈ l) := by
    have e : (kvs.any fun p => eqD p.1 (stD s)) = (kvs.map (·.1)).any fun z => eqD z (stD s) := by rw [List.any_map]; rfl
    rw [e, h, List.any_map]
    rw [Bool.eq_iff_iff, List.any_eq_true, decide_eq_true_eq]
    constructor
    · rintro ⟨a, ha, q⟩
      have q' : eqD (stD a) (stD s) = true := q
      rw [eq_st, decide_eq_true_eq] at q'
      rw [← q']; exact ha
    · exact fun q => ⟨s, q, by show eqD (stD s) (stD s) = true; rw [eq_st, decide_eq_true_eq]⟩
  unfold dput
  rw [ha]
  by_cases q : s ∈ l
  · rw [decide_eq_true q, if_pos rfl, if_pos q, ← h, List.map_map]
    refine List.map_congr_left fun p hp => ?_
    show (if eqD p.1 (stD s) = true then (p.1, v) else p).1 = p.1
    split <;> rfl
  · rw [decide_eq_false q, if_neg Bool.false_ne_true, if_neg q, List.map_append, h, List.map_append]
    rfl
theorem dput_len (kvs : List (D × D)) (y v : D) : (dput kvs y v).length ≤ kvs.length + 1 := by
  unfold dput
  split
  · rw [List.length_map]; omega
  · rw [List.length_append, List.length_singleton]; exact Nat.le_refl _
theorem key_st (s : Int × Int) : ∃ l ks, stD s = .tup l ∧ keysOf l = some ks := ⟨_, _, rfl, rfl⟩
theorem set_key {f : Addr} {kvs : List (D × D)} {s : Int × Int} {v : D} {kk : Mu → Prop} (hm : μ f = some (.tct kvs)) (hl : kvs.length < sizeLine) (h : kk (μ.set f (.tct (dput kvs (stD s) v)))) : setW (.ref f) (stD s) v μ kk := by
  show (match μ f, stD s with | some (.lst l), .int j => _ | some (.dct kvs), i => _ | some (.tct kvs), i => _ | _, _ => _)
  rw [hm]
  exact ⟨hl, key_st s, h⟩
def SpSome (G : Glb) : Prop := ∀ (a : Addr) (n m : Int) (μ : Mu) (k : KD) (x : KX), BagOk μ a → 0 < n → n < 100 → 0 ≤ m → m ≤ 1000 → (∀ l μ', Row n l → l.length ≤ m.toNat → BagBut μ a μ' → k (stsD l) μ') → G.fn "_law_some" [.ref a, .int n, .int m] μ k x
theorem p_some (h1 : SpTake G) (h2 : SpStretch G) {a : Addr} {n m : Int} (hb : BagOk μ a) (h0 : 0 < n) (hn : n < 100) (hm : 0 ≤ m) (hm' : m ≤ 1000) (h : ∀ l μ', Row n l → l.length ≤ m.toNat → BagBut μ a μ' → k (stsD l) μ') : wpF G dl_some [.ref a, .int n, .int m] μ k x := by
  simp only [dl_some, wpF, wpSs, wpS, wpE, wpEs, wpC, wpO, a_nm, asgW, asgsW, wipeD, wk_L, wk_T, wk_1, wk_2, wk_E, wk_Z, wk_ZT, b_add, b_sub, b_fdiv, b_mod, b_mul, b_pow, b_addT, b_addL, b_addS, b_addB, b_subB, t_str, t_strB, c_lt, c_le, c_gt, c_ge, c_eq, c_ne, c_isN, c_isNN, c_inL, c_inT, c_ninL, c_ninT, sl_L, sl_T, sl_S, i_T0, i_T1, i_L0, i_L1, vw_T, vw_L, vw_I, vw_N, vw_B, vw_S, u_b, t_lenL, t_lenT, t_lenS, t_abs, up_S, t_min2, t_max2, t_any, t_all, t_toTL, t_toTT, t_toLT, t_toLL, t_sortL, t_sortT, nw_f, List.length_cons, List.length_nil, List.map_cons, List.map_nil, List.cons_append, List.nil_append, List.replicate, List.set_cons_succ, List.set_cons_zero, List.getElem?_cons_zero, List.getElem?_cons_succ]
  refine ⟨trivial, fun f hf => ?_⟩
  obtain ⟨p0, q0, hb0, hb1⟩ := id hb
  have hfa : f ≠ a := fun e => by rw [e, hb0] at hf; cases hf
  have hbk : BagOk (μ.set f (.tct [])) a := ⟨p0, q0, (set_ne (Ne.symm hfa)).trans hb0, hb1⟩
  refine h1 a _ _ _ _ hbk (by omega) (by omega) fun r μ1 r0 r1 b1 => ?_
  refine ⟨⟨by omega, by omega, by unfold sizeLine; omega⟩, ?_⟩
  refine forW_inv _ (fun i ρ μ' => ρ.length = 5 ∧ ρ[0]? = some (some (.ref a)) ∧ ρ[1]? = some (some (.int n)) ∧ ρ[3]? = some (some (.ref f)) ∧ BagBut μ a μ' ∧ ∃ (kvs : List (D × D)) (l : List (Int × Int)), μ' f = some (.tct kvs) ∧ kvs.length ≤ i ∧ i ≤ r.toNat ∧ kvs.map (·.1) = l.map stD ∧ l.Nodup ∧ ∀ s ∈ l, s ∈ allS n)
    (fun _ _ _ _ => trivial) (fun i d ρ μ' hi I k2 hk2 => ?_) (fun ρ μ' I => ?_) ?_
  · obtain ⟨hl, e0, e1, e3, bb, kvs, l, hf', hk, hi', hkeys, nd, hin⟩ := I
    have g0 : ∀ v : Option D, (ρ.set 4 v)[0]? = some (some (.ref a)) := fun v => by rw [List.getElem?_set_ne (by decide)]; exact e0
    have g1 : ∀ v : Option D, (ρ.set 4 v)[1]? = some (some (.int n)) := fun v => by rw [List.getElem?_set_ne (by decide)]; exact e1
    have g3 : ∀ v : Option D, (ρ.set 4 v)[3]? = some (some (.ref f)) := fun v => by rw [List.getElem?_set_ne (by decide)]; exact e3
    simp only [g0, g1, g3]
    refine h2 a n _ _ _ bb.1 h0 hn fun s μ2 hs b2 => ?_
    have hf2 : μ2 f = some (.tct kvs) := b2.2 f _ hfa hf'
    have hlt : i < r.toNat := by
      have := (List.getElem?_eq_some_iff.mp hi).1
      rwa [List.length_map, List.length_range] at this
    refine set_key hf2 (by unfold sizeLine; omega) ?_
    refine (hk2 _ _ ⟨by rw [List.length_set]; exact hl, g0 _, g1 _, g3 _, ?_, _, if s ∈ l then l else l ++ [s], set_same, Nat.le_trans (dput_len _ _ _) (by omega), hlt, dput_keys s _ hkeys, ?_, ?_⟩)
    · have b12 := bb.trans b2
      obtain ⟨p, q, hm1, hm2⟩ := b12.1
      exact ⟨⟨p, q, (set_ne (Ne.symm hfa)).trans hm1, hm2⟩, fun b o hba hbo => by
        have hbf : b ≠ f := fun e => by rw [e, hf] at hbo; cases hbo
        rw [set_ne hbf]
        exact b12.2 b o hba hbo⟩
    · split
      · exact nd
      · rename_i hs'
        exact List.nodup_append.mpr ⟨nd, by simp, fun x hx y hy e => by
          rw [List.mem_singleton] at hy
          rw [e, hy] at hx
          exact hs' hx⟩
    · intro s' hs'
      split at hs'
      · exact hin s' hs'
      · rcases List.mem_append.mp hs' with q | q
        · exact hin s' q
        · rw [List.mem_singleton] at q
          rw [q]; exact hs
  · obtain ⟨hl, e0, e1, e3, bb, kvs, l, hf', hk, hi', hkeys, nd, hin⟩ := I
    simp only [e3, wpF, wpSs, wpS, wpE, wpEs, wpC, wpO, a_nm, asgW, asgsW, wipeD, wk_L, wk_T, wk_1, wk_2, wk_E, wk_Z, wk_ZT, b_add, b_sub, b_fdiv, b_mod, b_mul, b_pow, b_addT, b_addL, b_addS, b_addB, b_subB, t_str, t_strB, c_lt, c_le, c_gt, c_ge, c_eq, c_ne, c_isN, c_isNN, c_inL, c_inT, c_ninL, c_ninT, sl_L, sl_T, sl_S, i_T0, i_T1, i_L0, i_L1, vw_T, vw_L, vw_I, vw_N, vw_B, vw_S, u_b, t_lenL, t_lenT, t_lenS, t_abs, up_S, t_min2, t_max2, t_any, t_all, t_toTL, t_toTT, t_toLT, t_toLL, t_sortL, t_sortT, nw_f, List.length_cons, List.length_nil, List.map_cons, List.map_nil, List.cons_append, List.nil_append, List.replicate, List.set_cons_succ, List.set_cons_zero, List.getElem?_cons_zero, List.getElem?_cons_succ]
    rw [t_sortK hf', hkeys, sts_sort]
    refine ⟨sts_sortable l, ?_⟩
    simp only [wpF, wpSs, wpS, wpE, wpEs, wpC, wpO, a_nm, asgW, asgsW, wipeD, wk_L, wk_T, wk_1, wk_2, wk_E, wk_Z, wk_ZT, b_add, b_sub, b_fdiv, b_mod, b_mul, b_pow, b_addT, b_addL, b_addS, b_addB, b_subB, t_str, t_strB, c_lt, c_le, c_gt, c_ge, c_eq, c_ne, c_isN, c_isNN, c_inL, c_inT, c_ninL, c_ninT, sl_L, sl_T, sl_S, i_T0, i_T1, i_L0, i_L1, vw_T, vw_L, vw_I, vw_N, vw_B, vw_S, u_b, t_lenL, t_lenT, t_lenS, t_abs, up_S, t_min2, t_max2, t_any, t_all, t_toTL, t_toTT, t_toLT, t_toLL, t_sortL, t_sortT, nw_f, List.length_cons, List.length_nil, List.map_cons, List.map_nil, List.cons_append, List.nil_append, List.replicate, List.set_cons_succ, List.set_cons_zero, List.getElem?_cons_zero, List.getElem?_cons_succ]
    have hle : l.length = kvs.length := by
      have := congrArg List.length hkeys
      rw [List.length_map, List.length_map] at this
      exact this.symm
    rw [List.length_map, List.length_range] at hk
    exact h _ _ (row_sorted hin nd) (by rw [List.length_mergeSort]; omega) bb
  · refine ⟨rfl, rfl, rfl, rfl, ?_, [], [], ?_, Nat.le_refl _, Nat.zero_le _, rfl, .nil, fun _ h => nomatch h⟩
    · exact ⟨b1.1, fun b o hba hbo => b1.2 b o hba (by
        have hbf : b ≠ f := fun e => by rw [e, hf] at hbo; cases hbo
        rw [set_ne hbf]
        exact hbo)⟩
    · exact b1.2 f _ hfa set_same
theorem take_filt {α : Type} {l : List α} {p : α → Bool} {i : Nat} {a : α} (h : l[i]? = some a) : (l.take (i + 1)).filter p = (l.take i).filter p ++ if p a = true then [a] else [] := by
  rw [List.take_succ, h, List.filter_append]
  congr 1
  by_cases q : p a = true
  · rw [if_pos q]; simp [q]
  · rw [if_neg q]; simp [q]
theorem map_get {α : Type} {emb : α → D} {l : List α} {i : Nat} {d : D} (h : (l.map emb)[i]? = some d) : ∃ a, l[i]? = some a ∧ d = emb a := by
  rw [List.getElem?_map] at h
  cases e : l[i]? with
  | none => rw [e] at h; cases h
  | some a => rw [e] at h; exact ⟨a, rfl, (Option.some.inj h).symm⟩
theorem bareL_law (l : List (Int × Int)) (s : Int × Int) (p : Int) : (l.filter fun o => inB o s && hasB o p).isEmpty = !(withinL l s).any fun o => hasB o p := by
  unfold withinL
  induction l with
  | nil => rfl
  | cons a r ih =>
    by_cases h1 : inB a s = true
    · by_cases h2 : hasB a p = true
      · simp [h1, h2]
      · simp [h1, h2, ih]
    · simp [h1, ih]
theorem p_lbare (h1 : SpIn "_law_in" G) {l : List (Int × Int)} {s : Int × Int} (hs : okS s) (h : k (.lst ((bareL l s).map D.int)) μ) : wpF G dl_bare [stsD l, stD s] μ k x := by
  simp only [dl_bare, stD, wpF, wpS, wpE, wpEs, wpC, wpO, a_nm, asgW, asgsW, wipeD, wk_L, wk_T, wk_1, wk_2, wk_E, wk_Z, wk_ZT, b_add, b_sub, b_fdiv, b_mod, b_mul, b_pow, b_addT, b_addL, b_addS, b_addB, b_subB, t_str, t_strB, c_lt, c_le, c_gt, c_ge, c_eq, c_ne, c_isN, c_isNN, c_inL, c_inT, c_ninL, c_ninT, sl_L, sl_T, sl_S, i_T0, i_T1, i_L0, i_L1, vw_T, vw_L, vw_I, vw_N, vw_B, vw_S, u_b, t_lenL, t_lenT, t_lenS, t_abs, up_S, t_min2, t_max2, t_any, t_all, t_toTL, t_toTT, t_toLT, t_toLL, t_sortL, t_sortT, nw_f, List.length_cons, List.length_nil, List.map_cons, List.map_nil, List.cons_append, List.nil_append, List.replicate, List.set_cons_succ, List.set_cons_zero, List.getElem?_cons_zero, List.getElem?_cons_succ, List.map_map]
  refine ⟨trivial, ss ?_⟩
  simp only [wpF, wpS, wpE, wpEs, wpC, wpO, a_nm, asgW, asgsW, wipeD, wk_L, wk_T, wk_1, wk_2, wk_E, wk_Z, wk_ZT, b_add, b_sub, b_fdiv, b_mod, b_mul, b_pow, b_addT, b_addL, b_addS, b_addB, b_subB, t_str, t_strB, c_lt, c_le, c_gt, c_ge, c_eq, c_ne, c_isN, c_isNN, c_inL, c_inT, c_ninL, c_ninT, sl_L, sl_T, sl_S, i_T0, i_T1, i_L0, i_L1, vw_T, vw_L, vw_I, vw_N, vw_B, vw_S, u_b, t_lenL, t_lenT, t_lenS, t_abs, up_S, t_min2, t_max2, t_any, t_all, t_toTL, t_toTT, t_toLT, t_toLL, t_sortL, t_sortT, nw_f, List.length_cons, List.length_nil, List.map_cons, List.map_nil, List.cons_append, List.nil_append, List.replicate, List.set_cons_succ, List.set_cons_zero, List.getElem?_cons_zero, List.getElem?_cons_succ, nw_t]
  refine ⟨by decide, fun f hf => ss ?_⟩
  unfold okS at hs
  simp only [wpF, wpS, wpE, wpEs, wpC, wpO, a_nm, asgW, asgsW, wipeD, wk_L, wk_T, wk_1, wk_2, wk_E, wk_Z, wk_ZT, b_add, b_sub, b_fdiv, b_mod, b_mul, b_pow, b_addT, b_addL, b_addS, b_addB, b_subB, t_str, t_strB, c_lt, c_le, c_gt, c_ge, c_eq, c_ne, c_isN, c_isNN, c_inL, c_inT, c_ninL, c_ninT, sl_L, sl_T, sl_S, i_T0, i_T1, i_L0, i_L1, vw_T, vw_L, vw_I, vw_N, vw_B, vw_S, u_b, t_lenL, t_lenT, t_lenS, t_abs, up_S, t_min2, t_max2, t_any, t_all, t_toTL, t_toTT, t_toLT, t_toLL, t_sortL, t_sortT, nw_f, List.length_cons, List.length_nil, List.map_cons, List.map_nil, List.cons_append, List.nil_append, List.replicate, List.set_cons_succ, List.set_cons_zero, List.getElem?_cons_zero, List.getElem?_cons_succ]
  refine ⟨⟨by omega, by omega, by omega, by omega, by unfold sizeLine; omega⟩, ?_⟩
  have ei : ((List.range (s.2 + 1 - s.1).toNat).map fun (i : Nat) => D.int (s.1 + (i : Int))) = (plc s).map D.int := by
    unfold plc
    rw [List.map_map]
    rfl
  rw [ei]
  refine forW_inv _ (fun i ρ μ' => ∃ v w, ρ = [some (stsD l), some (stD s), some (.ref f), v, w] ∧ μ' = μ.set f (.lst ((((plc s).take i).filter fun p => !(withinL l s).any fun o => hasB o p).map D.int)))
    (fun _ _ _ _ => trivial) (fun i d ρ μ' hi I k2 hk2 => ?_) (fun ρ μ' I => ?_) ⟨none, none, rfl, rfl⟩
  · obtain ⟨v, w, rfl, rfl⟩ := I
    obtain ⟨p, hp, rfl⟩ := map_get hi
    refine ss ?_
    simp only [wpF, wpS, wpE, wpEs, wpC, wpO, a_nm, asgW, asgsW, wipeD, wk_L, wk_T, wk_1, wk_2, wk_E, wk_Z, wk_ZT, b_add, b_sub, b_fdiv, b_mod, b_mul, b_pow, b_addT, b_addL, b_addS, b_addB, b_subB, t_str, t_strB, c_lt, c_le, c_gt, c_ge, c_eq, c_ne, c_isN, c_isNN, c_inL, c_inT, c_ninL, c_ninT, sl_L, sl_T, sl_S, i_T0, i_T1, i_L0, i_L1, vw_T, vw_L, vw_I, vw_N, vw_B, vw_S, u_b, t_lenL, t_lenT, t_lenS, t_abs, up_S, t_min2, t_max2, t_any, t_all, t_toTL, t_toTT, t_toLT, t_toLL, t_sortL, t_sortT, nw_f, List.length_cons, List.length_nil, List.map_cons, List.map_nil, List.cons_append, List.nil_append, List.replicate, List.set_cons_succ, List.set_cons_zero, List.getElem?_cons_zero, List.getElem?_cons_succ, stsD]
    refine lcW_filt stD (fun o => inB o s && hasB o p) stD trivial l (fun o ho k3 q => ?_) ?_
    · refine h1 o s _ _ _ ?_
      simp only [stD, wpF, wpSs, wpS, wpE, wpEs, wpC, wpO, a_nm, asgW, asgsW, wipeD, wk_L, wk_T, wk_1, wk_2, wk_E, wk_Z, wk_ZT, b_add, b_sub, b_fdiv, b_mod, b_mul, b_pow, b_addT, b_addL, b_addS, b_addB, b_subB, t_str, t_strB, c_lt, c_le, c_gt, c_ge, c_eq, c_ne, c_isN, c_isNN, c_inL, c_inT, c_ninL, c_ninT, sl_L, sl_T, sl_S, i_T0, i_T1, i_L0, i_L1, vw_T, vw_L, vw_I, vw_N, vw_B, vw_S, u_b, t_lenL, t_lenT, t_lenS, t_abs, up_S, t_min2, t_max2, t_any, t_all, t_toTL, t_toTT, t_toLT, t_toLL, t_sortL, t_sortT, nw_f, List.length_cons, List.length_nil, List.map_cons, List.map_nil, List.cons_append, List.nil_append, List.replicate, List.set_cons_succ, List.set_cons_zero, List.getElem?_cons_zero, List.getElem?_cons_succ, Bool.false_eq_true, if_false]
      unfold hasB at q
      by_cases c1 : inB o s = true
      · rw [c1, if_pos rfl]
        rw [c1, Bool.true_and] at q
        by_cases c2 : o.1 ≤ p
        · rw [decide_eq_true c2, if_pos rfl]
          rw [decide_eq_true c2, Bool.true_and] at q
          exact q
        · rw [decide_eq_false c2, if_neg Bool.false_ne_true]
          rw [decide_eq_false c2, Bool.false_and, if_neg Bool.false_ne_true] at q
          exact q
      · rw [if_neg c1]
        rw [Bool.not_eq_true] at c1
        rw [c1, Bool.false_and, if_neg Bool.false_ne_true] at q
        exact q
    · refine ⟨by decide, ok_sts, rfl, ?_⟩
      have hlen : (((plc s).take i).filter fun p => !(withinL l s).any fun o => hasB o p).length < sizeLine := by
        refine Nat.lt_of_le_of_lt (List.length_filter_le ..) (Nat.lt_of_le_of_lt (List.length_take_le ..) ?_)
        have := (List.getElem?_eq_some_iff.mp hp).1
        unfold plc at this
        rw [List.length_map, List.length_range] at this
        unfold sizeLine
        omega
      simp only [eq_nil, List.isEmpty_map, bareL_law]
      have tf := take_filt (p := fun p => !(withinL l s).any fun o => hasB o p) hp
      by_cases c : (!(withinL l s).any fun o => hasB o p) = true
      · rw [if_pos c]
        rw [if_pos c] at tf
        refine ss ?_
        simp only [wpF, wpS, wpE, wpEs, wpC, wpO, a_nm, asgW, asgsW, wipeD, wk_L, wk_T, wk_1, wk_2, wk_E, wk_Z, wk_ZT, b_add, b_sub, b_fdiv, b_mod, b_mul, b_pow, b_addT, b_addL, b_addS, b_addB, b_subB, t_str, t_strB, c_lt, c_le, c_gt, c_ge, c_eq, c_ne, c_isN, c_isNN, c_inL, c_inT, c_ninL, c_ninT, sl_L, sl_T, sl_S, i_T0, i_T1, i_L0, i_L1, vw_T, vw_L, vw_I, vw_N, vw_B, vw_S, u_b, t_lenL, t_lenT, t_lenS, t_abs, up_S, t_min2, t_max2, t_any, t_all, t_toTL, t_toTT, t_toLT, t_toLL, t_sortL, t_sortT, nw_f, List.length_cons, List.length_nil, List.map_cons, List.map_nil, List.cons_append, List.nil_append, List.replicate, List.set_cons_succ, List.set_cons_zero, List.getElem?_cons_zero, List.getElem?_cons_succ, appW, set_same, List.length_map]
        refine ⟨⟨_, rfl⟩, hlen, ?_⟩
        refine ss0 (G := G) ?_
        refine ss0 (G := G) ?_
        refine hk2 _ _ ⟨_, _, rfl, ?_⟩
        rw [Mu.set_set, tf, List.map_append]
        rfl
      · rw [if_neg c]
        rw [if_neg c, List.append_nil] at tf
        refine ss0 (G := G) ?_
        refine ss0 (G := G) ?_
        exact hk2 _ _ ⟨_, _, rfl, by rw [tf]⟩
  · obtain ⟨v, w, rfl, rfl⟩ := I
    refine ss ?_
    simp only [wpF, wpS, wpE, wpEs, wpC, wpO, a_nm, asgW, asgsW, wipeD, wk_L, wk_T, wk_1, wk_2, wk_E, wk_Z, wk_ZT, b_add, b_sub, b_fdiv, b_mod, b_mul, b_pow, b_addT, b_addL, b_addS, b_addB, b_subB, t_str, t_strB, c_lt, c_le, c_gt, c_ge, c_eq, c_ne, c_isN, c_isNN, c_inL, c_inT, c_ninL, c_ninT, sl_L, sl_T, sl_S, i_T0, i_T1, i_L0, i_L1, vw_T, vw_L, vw_I, vw_N, vw_B, vw_S, u_b, t_lenL, t_lenT, t_lenS, t_abs, up_S, t_min2, t_max2, t_any, t_all, t_toTL, t_toTT, t_toLT, t_toLL, t_sortL, t_sortT, nw_f, List.length_cons, List.length_nil, List.map_cons, List.map_nil, List.cons_append, List.nil_append, List.replicate, List.set_cons_succ, List.set_cons_zero, List.getElem?_cons_zero, List.getElem?_cons_succ]
    rw [List.length_map, List.take_length]
    rw [fz_R set_same, Mu.del_set hf]
    exact h
def paintedL (n : Int) (l : List (Int × Int)) : List (Int × Int) := (allS n).filter fun s => (bareL l s).isEmpty
def rowS (n : Int) (i : Nat) : List (Int × Int) := (List.range (n - (i : Int)).toNat).map fun (j : Nat) => ((i : Int), (i : Int) + (j : Int))
theorem allS_eq (n : Int) : allS n = (List.range n.toNat).flatMap (rowS n) := rfl
theorem flat_len {α β : Type} {f : α → List β} {c : Nat} : ∀ l : List α, (∀ a ∈ l, (f a).length ≤ c) → (l.flatMap f).length ≤ l.length * c
  | [], _ => Nat.zero_le _
  | a :: r, h => by
    rw [List.flatMap_cons, List.length_append, List.length_cons, Nat.succ_mul]
    have h1 := h a List.mem_cons_self
    have h2 := flat_len r fun b hb => h b (List.mem_cons_of_mem _ hb)
    omega
end SR

/-! coats -/
namespace SR
open PySem L2
variable {G : Glb} {μ : Mu} {k : KD} {x : KX}

def d_lots : Fn where
  N := ["some", "many", "found", "at", "one", "lot"].map Str.ofString
  np := 2
  body := [
    .ife (.cmp .eq (.var 1) (.int 0)) [
      .ret (.lst false [(.tup [])])] [],
    .asg (.nm 2) (.lst false []),
    .forE (.tup [(.nm 3), (.nm 4)]) .enum [(.var 0)] [
      .asg (.nm 2) (.bin .add (.var 2) (.lc false [5] (.nm 5) .seq [(.call "lots" [(.slc false (.var 0) (some (.bin .add (.var 3) (.int 1))) none), (.bin .sub (.var 1) (.int 1))])] none (.bin .add (.tup [(.var 4)]) (.var 5))))],
    .ret (.var 2)]

def d_coats_paper : Fn where
  N := ["stencils", "stretch", "some", "found", "place", "one"].map Str.ofString
  np := 2
  body := [
    .ife (.cmp .ne (.call "bare" [(.var 0), (.var 1)]) (.lst false [])) [
      .ret .non] [],
    .asg (.nm 2) (.call "within" [(.var 0), (.var 1)]),
    .asg (.nm 3) (.tup []),
    .asg (.nm 4) (.ix (.var 1) (.int 0)),
    .whl (.cmp .le (.var 4) (.ix (.var 1) (.int 1))) [
      .asg (.nm 3) (.bin .add (.var 3) (.tup [(.var 4)])),
      .asg (.nm 4) (.bin .add (.bt .maxl [(.lc false [5] (.nm 5) .seq [(.var 2)] (some (.call "has" [(.var 5), (.var 4)])) (.ix (.var 5) (.int 1)))]) (.int 1))],
    .ret (.var 3)]

def d_coats : Fn where
  N := ["stencils", "stretch", "told", "good", "lot"].map Str.ofString
  np := 2
  body := [
    .asg (.nm 2) (.call "coats_paper" [(.var 0), (.var 1)]),
    .ife (.cmp .isN (.var 2) .non) [
      .ret .non] [],
    .asg (.nm 3) (.lc false [4] (.nm 4) .seq [(.call "lots" [(.call "within" [(.var 0), (.var 1)]), (.bt .len [(.var 2)])])] (some (.cmp .eq (.call "bare" [(.var 4), (.var 1)]) (.lst false []))) (.var 4)),
    .ret (.ix (.var 3) (.int 0))]

def dl_every : Fn where
  N := ["places", "found", "first", "last"].map Str.ofString
  np := 1
  body := [
    .asg (.nm 1) (.lst false []),
    .forE (.nm 2) .rng1 [(.var 0)] [
      .asg (.nm 1) (.bin .add (.var 1) (.lc false [3] (.nm 3) .rng2 [(.var 2), (.var 0)] none (.tup [(.var 2), (.var 3)])))],
    .ret (.var 1)]

def dl_paper_so : Fn where
  N := ["stencils", "stretch", "told", "coats_so", "first", "last", "place"].map Str.ofString
  np := 4
  body := [
    .ife (.or_ (.cmp .isN (.var 2) .non) (.cmp .ne (.bt .len [(.var 2)]) (.bt .len [(.var 3)]))) [
      .ret (.bl false)] [],
    .forE (.tup [(.nm 4), (.nm 5)]) .seq [(.var 0)] [
      .ife (.and_ (.call "_law_in" [(.tup [(.var 4), (.var 5)]), (.var 1)]) (.cmp .gt (.bt .len [(.lc false [6] (.nm 6) .seq [(.var 2)] (some (.chain .le .le (.var 4) (.var 6) (.var 5))) (.var 6))]) (.int 1))) [
        .ret (.bl false)] []],
    .ret (.cmp .eq (.lc false [6] (.nm 6) .seq [(.var 2)] (some (.nt (.chain .le .le (.ix (.var 1) (.int 0)) (.var 6) (.ix (.var 1) (.int 1))))) (.var 6)) (.lst false []))]

def dl_lots : Fn where
  N := ["some", "many", "found", "at", "one", "lot"].map Str.ofString
  np := 2
  body := [
    .ife (.cmp .eq (.var 1) (.int 0)) [
      .ret (.lst false [(.tup [])])] [],
    .asg (.nm 2) (.lst false []),
    .forE (.tup [(.nm 3), (.nm 4)]) .enum [(.var 0)] [
      .asg (.nm 2) (.bin .add (.var 2) (.lc false [5] (.nm 5) .seq [(.call "_law_lots" [(.slc false (.var 0) (some (.bin .add (.var 3) (.int 1))) none), (.bin .sub (.var 1) (.int 1))])] none (.bin .add (.tup [(.var 4)]) (.var 5))))],
    .ret (.var 2)]

/-- all lots of so many, in their order -/
def lotsL {α : Type} : List α → Nat → List (List α)
  | _, 0 => [[]]
  | [], _ + 1 => []
  | a :: r, n + 1 => (lotsL r n).map (a :: ·) ++ lotsL r (n + 1)
theorem lots_zero {α : Type} (l : List α) : lotsL l 0 = [[]] := by cases l <;> rfl
theorem lots_sub {α : Type} : ∀ (l : List α) (n : Nat) (t : List α), t ∈ lotsL l n ↔ t.Sublist l ∧ t.length = n
  | l, 0, t => by
    rw [lots_zero, List.mem_singleton]
    constructor
    · rintro rfl; exact ⟨List.nil_sublist _, rfl⟩
    · rintro ⟨_, h⟩; exact List.eq_nil_of_length_eq_zero h
  | [], n + 1, t => by
    constructor
    · intro h; cases h
    · rintro ⟨h, e⟩
      rw [List.sublist_nil] at h
      rw [h] at e
      cases e
  | a :: r, n + 1, t => by
    show t ∈ (lotsL r n).map (a :: ·) ++ lotsL r (n + 1) ↔ _
    rw [List.mem_append, List.mem_map, lots_sub r (n + 1) t]
    constructor
    · rintro (⟨u, hu, rfl⟩ | ⟨h1, h2⟩)
      · obtain ⟨h1, h2⟩ := (lots_sub r n u).mp hu
        exact ⟨h1.cons_cons a, by rw [List.length_cons, h2]⟩
      · exact ⟨h1.cons a, h2⟩
    · rintro ⟨h1, h2⟩
      cases h1 with
      | cons _ h => exact .inr ⟨h, h2⟩
      | cons_cons _ h =>
        rw [List.length_cons] at h2
        exact .inl ⟨_, (lots_sub r n _).mpr ⟨h, by omega⟩, rfl⟩
theorem lots_flat {α : Type} (d : α) : ∀ (l : List α) (n : Nat), lotsL l (n + 1) = (List.range l.length).flatMap fun j => (lotsL (l.drop (j + 1)) n).map (l.getD j d :: ·)
  | [], n => rfl
  | a :: r, n => by
    show (lotsL r n).map (a :: ·) ++ lotsL r (n + 1) = _
    rw [List.length_cons, List.range_succ_eq_map, List.flatMap_cons, List.flatMap_map, lots_flat d r n]
    rfl
theorem cut_from {α : Type} {l : List α} {i : Nat} (h : i ≤ l.length) : cutD l (some (i : Int)) none = l.drop i := by
  unfold cutD
  have e : HT.sIx l.length 0 (some (i : Int)) = i := by rw [HT.sIx_nat, Nat.min_eq_left h]
  have e2 : HT.sIx l.length l.length none = l.length := rfl
  rw [e, e2]
  exact List.take_of_length_le (by rw [List.length_drop]; omega)
def SpLots (f : String) (m : Nat) (G : Glb) : Prop := ∀ (l : List D) (μ : Mu) (k : KD) (x : KX), m ≤ 1000 → l.length ≤ 1000 → (lotsL l m).length ≤ sizeLine → k (.lst ((lotsL l m).map D.tup)) μ → G.fn f [.lst l, .int (m : Int)] μ k x
theorem lots_tail {α : Type} (d : α) {l : List α} {n i : Nat} (hi : i < l.length) : ((List.range (i + 1)).flatMap fun j => (lotsL (l.drop (j + 1)) n).map (l.getD j d :: ·)).length ≤ (lotsL l (n + 1)).length ∧ (lotsL (l.drop (i + 1)) n).length ≤ (lotsL l (n + 1)).length := by
  have e : (lotsL l (n + 1)).length = ((List.range (i + 1)).flatMap fun j => (lotsL (l.drop (j + 1)) n).map (l.getD j d :: ·)).length + (((List.range (l.length - (i + 1))).map (i + 1 + ·)).flatMap fun j => (lotsL (l.drop (j + 1)) n).map (l.getD j d :: ·)).length := by
    rw [lots_flat d, ← List.length_append, ← List.flatMap_append]
    have r : List.range l.length = List.range (i + 1) ++ (List.range (l.length - (i + 1))).map (i + 1 + ·) := by
      rw [← List.range_add]
      congr 1
      omega
    rw [r]
  refine ⟨by omega, ?_⟩
  have e2 : ((List.range (i + 1)).flatMap fun j => (lotsL (l.drop (j + 1)) n).map (l.getD j d :: ·)).length = ((List.range i).flatMap fun j => (lotsL (l.drop (j + 1)) n).map (l.getD j d :: ·)).length + (lotsL (l.drop (i + 1)) n).length := by
    rw [List.range_succ, List.flatMap_append, List.length_append, List.flatMap_singleton, List.length_map]
  omega
theorem p_lots0 {f : Fn} (hf : f = d_lots ∨ f = dl_lots) {l : List D} (h : k (.lst [.tup []]) μ) : wpF G f [.lst l, .int 0] μ k x := by
  rcases hf with rfl | rfl
  all_goals
    simp only [d_lots, dl_lots, wpF, wpS, wpE, wpEs, wpC, wpO, a_nm, asgW, asgsW, wipeD, wk_L, wk_T, wk_1, wk_2, wk_E, wk_Z, wk_ZT, b_add, b_sub, b_fdiv, b_mod, b_mul, b_pow, b_addT, b_addL, b_addS, b_addB, b_subB, t_str, t_strB, c_lt, c_le, c_gt, c_ge, c_eq, c_ne, c_isN, c_isNN, c_inL, c_inT, c_ninL, c_ninT, sl_L, sl_T, sl_S, i_T0, i_T1, i_L0, i_L1, vw_T, vw_L, vw_I, vw_N, vw_B, vw_S, u_b, t_lenL, t_lenT, t_lenS, t_abs, up_S, t_min2, t_max2, t_any, t_all, t_toTL, t_toTT, t_toLT, t_toLL, t_sortL, t_sortT, nw_f, List.length_cons, List.length_nil, List.map_cons, List.map_nil, List.cons_append, List.nil_append, List.replicate, List.set_cons_succ, List.set_cons_zero, List.getElem?_cons_zero, List.getElem?_cons_succ]
    refine ⟨trivial, ss ?_⟩
    simp only [wpF, wpS, wpE, wpEs, wpC, wpO, a_nm, asgW, asgsW, wipeD, wk_L, wk_T, wk_1, wk_2, wk_E, wk_Z, wk_ZT, b_add, b_sub, b_fdiv, b_mod, b_mul, b_pow, b_addT, b_addL, b_addS, b_addB, b_subB, t_str, t_strB, c_lt, c_le, c_gt, c_ge, c_eq, c_ne, c_isN, c_isNN, c_inL, c_inT, c_ninL, c_ninT, sl_L, sl_T, sl_S, i_T0, i_T1, i_L0, i_L1, vw_T, vw_L, vw_I, vw_N, vw_B, vw_S, u_b, t_lenL, t_lenT, t_lenS, t_abs, up_S, t_min2, t_max2, t_any, t_all, t_toTL, t_toTT, t_toLT, t_toLL, t_sortL, t_sortT, nw_f, List.length_cons, List.length_nil, List.map_cons, List.map_nil, List.cons_append, List.nil_append, List.replicate, List.set_cons_succ, List.set_cons_zero, List.getElem?_cons_zero, List.getElem?_cons_succ]
    refine ⟨rfl, rfl, ?_⟩
    rw [if_pos (by rfl)]
    refine ss ?_
    simp only [wpF, wpS, wpE, wpEs, wpC, wpO, a_nm, asgW, asgsW, wipeD, wk_L, wk_T, wk_1, wk_2, wk_E, wk_Z, wk_ZT, b_add, b_sub, b_fdiv, b_mod, b_mul, b_pow, b_addT, b_addL, b_addS, b_addB, b_subB, t_str, t_strB, c_lt, c_le, c_gt, c_ge, c_eq, c_ne, c_isN, c_isNN, c_inL, c_inT, c_ninL, c_ninT, sl_L, sl_T, sl_S, i_T0, i_T1, i_L0, i_L1, vw_T, vw_L, vw_I, vw_N, vw_B, vw_S, u_b, t_lenL, t_lenT, t_lenS, t_abs, up_S, t_min2, t_max2, t_any, t_all, t_toTL, t_toTT, t_toLT, t_toLL, t_sortL, t_sortT, nw_f, List.length_cons, List.length_nil, List.map_cons, List.map_nil, List.cons_append, List.nil_append, List.replicate, List.set_cons_succ, List.set_cons_zero, List.getElem?_cons_zero, List.getElem?_cons_succ]
    exact ⟨by decide, by decide, h⟩
theorem p_lotsS {f : Fn} {nm : String} (hf : (f = d_lots ∧ nm = "lots") ∨ (f = dl_lots ∧ nm = "_law_lots")) {m : Nat} (h1 : SpLots nm m G) {l : List D} (hm : m + 1 ≤ 1000) (hl : l.length ≤ 1000) (hz : (lotsL l (m + 1)).length ≤ sizeLine) (h : k (.lst ((lotsL l (m + 1)).map D.tup)) μ) : wpF G f [.lst l, .int ((m + 1 : Nat) : Int)] μ k x := by
  have ne : eqD (.int ((m + 1 : Nat) : Int)) (.int 0) = false := by
    rw [eq_int, decide_eq_false_iff_not]
    omega
  rcases hf with ⟨rfl, rfl⟩ | ⟨rfl, rfl⟩
  all_goals
    simp only [d_lots, dl_lots, wpF, wpS, wpE, wpEs, wpC, wpO, a_nm, asgW, asgsW, wipeD, wk_L, wk_T, wk_1, wk_2, wk_E, wk_Z, wk_ZT, b_add, b_sub, b_fdiv, b_mod, b_mul, b_pow, b_addT, b_addL, b_addS, b_addB, b_subB, t_str, t_strB, c_lt, c_le, c_gt, c_ge, c_eq, c_ne, c_isN, c_isNN, c_inL, c_inT, c_ninL, c_ninT, sl_L, sl_T, sl_S, i_T0, i_T1, i_L0, i_L1, vw_T, vw_L, vw_I, vw_N, vw_B, vw_S, u_b, t_lenL, t_lenT, t_lenS, t_abs, up_S, t_min2, t_max2, t_any, t_all, t_toTL, t_toTT, t_toLT, t_toLL, t_sortL, t_sortT, nw_f, List.length_cons, List.length_nil, List.map_cons, List.map_nil, List.cons_append, List.nil_append, List.replicate, List.set_cons_succ, List.set_cons_zero, List.getElem?_cons_zero, List.getElem?_cons_succ]
    refine ⟨trivial, ss ?_⟩
    simp only [wpF, wpS, wpE, wpEs, wpC, wpO, a_nm, asgW, asgsW, wipeD, wk_L, wk_T, wk_1, wk_2, wk_E, wk_Z, wk_ZT, b_add, b_sub, b_fdiv, b_mod, b_mul, b_pow, b_addT, b_addL, b_addS, b_addB, b_subB, t_str, t_strB, c_lt, c_le, c_gt, c_ge, c_eq, c_ne, c_isN, c_isNN, c_inL, c_inT, c_ninL, c_ninT, sl_L, sl_T, sl_S, i_T0, i_T1, i_L0, i_L1, vw_T, vw_L, vw_I, vw_N, vw_B, vw_S, u_b, t_lenL, t_lenT, t_lenS, t_abs, up_S, t_min2, t_max2, t_any, t_all, t_toTL, t_toTT, t_toLT, t_toLL, t_sortL, t_sortT, nw_f, List.length_cons, List.length_nil, List.map_cons, List.map_nil, List.cons_append, List.nil_append, List.replicate, List.set_cons_succ, List.set_cons_zero, List.getElem?_cons_zero, List.getElem?_cons_succ]
    refine ⟨rfl, rfl, ?_⟩
    simp only [ne, Bool.false_eq_true, if_false]
    refine ss0 (G := G) ?_
    refine ss ?_
    simp only [wpF, wpS, wpE, wpEs, wpC, wpO, a_nm, asgW, asgsW, wipeD, wk_L, wk_T, wk_1, wk_2, wk_E, wk_Z, wk_ZT, b_add, b_sub, b_fdiv, b_mod, b_mul, b_pow, b_addT, b_addL, b_addS, b_addB, b_subB, t_str, t_strB, c_lt, c_le, c_gt, c_ge, c_eq, c_ne, c_isN, c_isNN, c_inL, c_inT, c_ninL, c_ninT, sl_L, sl_T, sl_S, i_T0, i_T1, i_L0, i_L1, vw_T, vw_L, vw_I, vw_N, vw_B, vw_S, u_b, t_lenL, t_lenT, t_lenS, t_abs, up_S, t_min2, t_max2, t_any, t_all, t_toTL, t_toTT, t_toLT, t_toLL, t_sortL, t_sortT, nw_f, List.length_cons, List.length_nil, List.map_cons, List.map_nil, List.cons_append, List.nil_append, List.replicate, List.set_cons_succ, List.set_cons_zero, List.getElem?_cons_zero, List.getElem?_cons_succ]
    refine ⟨by decide, ss ?_⟩
    simp only [wpF, wpS, wpE, wpEs, wpC, wpO, a_nm, asgW, asgsW, wipeD, wk_L, wk_T, wk_1, wk_2, wk_E, wk_Z, wk_ZT, b_add, b_sub, b_fdiv, b_mod, b_mul, b_pow, b_addT, b_addL, b_addS, b_addB, b_subB, t_str, t_strB, c_lt, c_le, c_gt, c_ge, c_eq, c_ne, c_isN, c_isNN, c_inL, c_inT, c_ninL, c_ninT, sl_L, sl_T, sl_S, i_T0, i_T1, i_L0, i_L1, vw_T, vw_L, vw_I, vw_N, vw_B, vw_S, u_b, t_lenL, t_lenT, t_lenS, t_abs, up_S, t_min2, t_max2, t_any, t_all, t_toTL, t_toTT, t_toLT, t_toLL, t_sortL, t_sortT, nw_f, List.length_cons, List.length_nil, List.map_cons, List.map_nil, List.cons_append, List.nil_append, List.replicate, List.set_cons_succ, List.set_cons_zero, List.getElem?_cons_zero, List.getElem?_cons_succ]
    refine forW_inv _ (fun i ρ μ' => ∃ v3 v4 v5, ρ = [some (.lst l), some (.int ((m + 1 : Nat) : Int)), some (.lst (((List.range i).flatMap fun j => (lotsL (l.drop (j + 1)) m).map (l.getD j .non :: ·)).map D.tup)), v3, v4, v5] ∧ μ' = μ)
      (fun _ _ _ _ => trivial) (fun i d ρ μ' hi I k2 hk2 => ?_) (fun ρ μ' I => ?_) ⟨_, _, _, rfl, rfl⟩
    · obtain ⟨v3, v4, v5, rfl, rfl⟩ := I
      obtain ⟨⟨a, j⟩, haj, rfl⟩ := map_get hi
      rw [List.getElem?_zipIdx] at haj
      obtain ⟨a', ha', e⟩ : ∃ a', l[i]? = some a' ∧ (a', i) = (a, j) := by
        cases z : l[i]? with
        | none => rw [z] at haj; cases haj
        | some a' => rw [z] at haj; exact ⟨a', rfl, by simpa using haj⟩
      cases e
      have hil : i < l.length := (List.getElem?_eq_some_iff.mp ha').1
      have tl := lots_tail D.non (n := m) hil
      have em : (((m + 1 : Nat) : Int) - 1) = (m : Int) := by omega
      simp only [wpF, wpSs, wpS, wpE, wpEs, wpC, wpO, a_nm, asgW, asgsW, wipeD, wk_L, wk_T, wk_1, wk_2, wk_E, wk_Z, wk_ZT, b_add, b_sub, b_fdiv, b_mod, b_mul, b_pow, b_addT, b_addL, b_addS, b_addB, b_subB, t_str, t_strB, c_lt, c_le, c_gt, c_ge, c_eq, c_ne, c_isN, c_isNN, c_inL, c_inT, c_ninL, c_ninT, sl_L, sl_T, sl_S, i_T0, i_T1, i_L0, i_L1, vw_T, vw_L, vw_I, vw_N, vw_B, vw_S, u_b, t_lenL, t_lenT, t_lenS, t_abs, up_S, t_min2, t_max2, t_any, t_all, t_toTL, t_toTT, t_toLT, t_toLL, t_sortL, t_sortT, nw_f, List.length_cons, List.length_nil, List.map_cons, List.map_nil, List.cons_append, List.nil_append, List.replicate, List.set_cons_succ, List.set_cons_zero, List.getElem?_cons_zero, List.getElem?_cons_succ]
      refine ⟨trivial, ?_⟩
      have ec : cutD l (some ((i : Int) + 1)) none = l.drop (i + 1) := cut_from (i := i + 1) hil
      rw [ec, em]
      refine h1 (l.drop (i + 1)) _ _ _ (by omega) (by rw [List.length_drop]; omega) (by omega) ?_
      simp only [wpF, wpSs, wpS, wpE, wpEs, wpC, wpO, a_nm, asgW, asgsW, wipeD, wk_L, wk_T, wk_1, wk_2, wk_E, wk_Z, wk_ZT, b_add, b_sub, b_fdiv, b_mod, b_mul, b_pow, b_addT, b_addL, b_addS, b_addB, b_subB, t_str, t_strB, c_lt, c_le, c_gt, c_ge, c_eq, c_ne, c_isN, c_isNN, c_inL, c_inT, c_ninL, c_ninT, sl_L, sl_T, sl_S, i_T0, i_T1, i_L0, i_L1, vw_T, vw_L, vw_I, vw_N, vw_B, vw_S, u_b, t_lenL, t_lenT, t_lenS, t_abs, up_S, t_min2, t_max2, t_any, t_all, t_toTL, t_toTT, t_toLT, t_toLL, t_sortL, t_sortT, nw_f, List.length_cons, List.length_nil, List.map_cons, List.map_nil, List.cons_append, List.nil_append, List.replicate, List.set_cons_succ, List.set_cons_zero, List.getElem?_cons_zero, List.getElem?_cons_succ]
      refine lcW_each D.tup (fun t => .tup (a :: t)) trivial _ (fun t htt k3 q3 => ?_) ?_
      · simp only [if_true]
        have lt := ((lots_sub _ _ _).mp htt).2
        refine ⟨by decide, by rw [lt]; unfold sizeLine; show 1 + m ≤ _; omega, q3⟩
      · have ga : l.getD i .non = a := by rw [List.getD_eq_getElem?_getD, ha']; rfl
        have step : ((List.range (i + 1)).flatMap fun j => (lotsL (l.drop (j + 1)) m).map (l.getD j .non :: ·)) = ((List.range i).flatMap fun j => (lotsL (l.drop (j + 1)) m).map (l.getD j .non :: ·)) ++ (lotsL (l.drop (i + 1)) m).map (a :: ·) := by
          rw [List.range_succ, List.flatMap_append, List.flatMap_singleton, ga]
        have tl1 := tl.1
        rw [step, List.length_append, List.length_map] at tl1
        refine ⟨?_, hk2 _ _ ⟨some (.int (i : Int)), some a, v5, ?_, rfl⟩⟩
        · rw [List.length_map, List.length_map]
          omega
        · rw [step, List.map_append, List.map_map]
          rfl
    · obtain ⟨v3, v4, v5, rfl, rfl⟩ := I
      refine ss ?_
      simp only [wpF, wpS, wpE, wpEs, wpC, wpO, a_nm, asgW, asgsW, wipeD, wk_L, wk_T, wk_1, wk_2, wk_E, wk_Z, wk_ZT, b_add, b_sub, b_fdiv, b_mod, b_mul, b_pow, b_addT, b_addL, b_addS, b_addB, b_subB, t_str, t_strB, c_lt, c_le, c_gt, c_ge, c_eq, c_ne, c_isN, c_isNN, c_inL, c_inT, c_ninL, c_ninT, sl_L, sl_T, sl_S, i_T0, i_T1, i_L0, i_L1, vw_T, vw_L, vw_I, vw_N, vw_B, vw_S, u_b, t_lenL, t_lenT, t_lenS, t_abs, up_S, t_min2, t_max2, t_any, t_all, t_toTL, t_toTT, t_toLT, t_toLL, t_sortL, t_sortT, nw_f, List.length_cons, List.length_nil, List.map_cons, List.map_nil, List.cons_append, List.nil_append, List.replicate, List.set_cons_succ, List.set_cons_zero, List.getElem?_cons_zero, List.getElem?_cons_succ]
      have e : (List.map (fun (p : D × Nat) => D.tup [.int (p.2 : Int), p.1]) l.zipIdx).length = l.length := by rw [List.length_map, List.length_zipIdx]
      rw [e, ← lots_flat]
      exact h
end SR

/-! coats: the numbers behind -/
namespace SR
open PySem L2

abbrev St2 := Int × Int
theorem nodup_len {α : Type} [DecidableEq α] : ∀ (l D : List α), l.Nodup → (∀ x ∈ l, x ∈ D) → l.length ≤ D.length
  | [], _, _, _ => Nat.zero_le _
  | a :: r, D, nd, h => by
    obtain ⟨n1, n2⟩ := List.nodup_cons.mp nd
    have ha := h a List.mem_cons_self
    have ih := nodup_len r (D.erase a) n2 fun x hx => (List.mem_erase_of_ne fun e => n1 (by rw [← e]; exact hx)).mpr (h x (List.mem_cons_of_mem _ hx))
    rw [List.length_erase_of_mem ha] at ih
    have : 0 < D.length := List.length_pos_of_mem ha
    rw [List.length_cons]
    omega
theorem mem_plc {s : St2} {p : Int} : p ∈ plc s ↔ s.1 ≤ p ∧ p ≤ s.2 := by
  unfold plc
  rw [List.mem_map]
  constructor
  · rintro ⟨i, hi, rfl⟩
    have := List.mem_range.mp hi
    omega
  · rintro ⟨a, b⟩
    exact ⟨(p - s.1).toNat, List.mem_range.mpr (by omega), by omega⟩
theorem has_iff {s : St2} {p : Int} : hasB s p = true ↔ s.1 ≤ p ∧ p ≤ s.2 := by
  unfold hasB
  rw [Bool.and_eq_true, decide_eq_true_eq, decide_eq_true_eq]
theorem in_iff {s t : St2} : inB s t = true ↔ t.1 ≤ s.1 ∧ s.2 ≤ t.2 := by
  unfold inB
  rw [Bool.and_eq_true, decide_eq_true_eq, decide_eq_true_eq]
/-- the stencils paint the stretch -/
def Cov (l : List St2) (s : St2) : Prop := ∀ p, s.1 ≤ p → p ≤ s.2 → ∃ o ∈ l, inB o s = true ∧ hasB o p = true
theorem cov_iff {l : List St2} {s : St2} : (bareL l s).isEmpty = true ↔ Cov l s := by
  unfold bareL
  rw [List.isEmpty_iff, List.filter_eq_nil_iff]
  constructor
  · intro h p h1 h2
    have q := h p (mem_plc.mpr ⟨h1, h2⟩)
    rw [Bool.not_eq_true, Bool.not_eq_false', List.any_eq_true] at q
    obtain ⟨o, ho, hp⟩ := q
    unfold withinL at ho
    rw [List.mem_filter] at ho
    exact ⟨o, ho.1, ho.2, hp⟩
  · intro h p hp
    obtain ⟨h1, h2⟩ := mem_plc.mp hp
    obtain ⟨o, ho, hi, hh⟩ := h p h1 h2
    rw [Bool.not_eq_true, Bool.not_eq_false', List.any_eq_true]
    exact ⟨o, List.mem_filter.mpr ⟨ho, hi⟩, hh⟩
instance (l : List St2) (s : St2) : Decidable (Cov l s) := decidable_of_iff _ cov_iff
theorem cov_mono {l m : List St2} {s : St2} (h : Cov l s) (q : ∀ o ∈ l, o ∈ m) : Cov m s := fun p h1 h2 => let ⟨o, ho, r⟩ := h p h1 h2; ⟨o, q o ho, r⟩
theorem cov_within {l : List St2} {s : St2} (h : Cov l s) : Cov (withinL l s) s := fun p h1 h2 => let ⟨o, ho, hi, hh⟩ := h p h1 h2; ⟨o, List.mem_filter.mpr ⟨ho, hi⟩, hi, hh⟩
theorem within_sub {l : List St2} {s o : St2} (h : o ∈ withinL l s) : o ∈ l ∧ inB o s = true := List.mem_filter.mp h
/-- places of which no two stand in one stencil that lies in the stretch -/
structure Paper (l : List St2) (s : St2) (ps : List Int) : Prop where
  ris : ps.Pairwise (· < ·)
  ins : ∀ p ∈ ps, s.1 ≤ p ∧ p ≤ s.2
  apart : ∀ o ∈ withinL l s, ∀ p ∈ ps, ∀ q ∈ ps, hasB o p = true → hasB o q = true → p = q
theorem paper_le {l C : List St2} {s : St2} {ps : List Int} (P : Paper l s ps) (hC : ∀ o ∈ C, o ∈ l) (c : Cov C s) : ps.length ≤ C.length := by
  have f : ∀ p : {p // p ∈ ps}, ∃ o, o ∈ C ∧ inB o s = true ∧ hasB o p.1 = true := fun p => let ⟨o, h⟩ := c p.1 (P.ins p.1 p.2).1 (P.ins p.1 p.2).2; ⟨o, h⟩
  have g := fun p => Classical.choose_spec (f p)
  have e : ps.length = (ps.attach.map fun p => Classical.choose (f p)).length := by rw [List.length_map, List.length_attach]
  rw [e]
  refine nodup_len _ _ ?_ fun o ho => ?_
  · refine List.pairwise_map.mpr ?_
    have nd : ps.attach.Pairwise (fun a b => a.1 ≠ b.1) := by
      have q : ps.Pairwise (· ≠ ·) := P.ris.imp fun h => by omega
      have q2 : (ps.attach.map Subtype.val).Pairwise (· ≠ ·) := by rw [List.attach_map_subtype_val]; exact q
      exact List.pairwise_map.mp q2
    refine nd.imp fun {a b} hne he => hne ?_
    have ga := g a
    have gb := g b
    rw [← he] at gb
    exact P.apart _ (List.mem_filter.mpr ⟨hC _ ga.1, ga.2.1⟩) a.1 a.2 b.1 b.2 ga.2.2 gb.2.2
  · obtain ⟨p, hp, rfl⟩ := List.mem_map.mp ho
    exact (g p).1
/-- coats: of as few as can be the first -/
def coatsL (l : List St2) (s : St2) : Option (List St2) := ((List.range ((withinL l s).length + 1)).flatMap fun m => lotsL (withinL l s) m).find? fun c => (bareL c s).isEmpty
/-- a cover with as many as the paper has places, one each -/
structure Meet (l : List St2) (s : St2) (ps : List Int) (C : List St2) : Prop where
  pap : Paper l s ps
  len : C.length = ps.length
  sub : ∀ o ∈ C, o ∈ withinL l s
  cov : Cov C s
theorem meet_lot {l C : List St2} {s : St2} {ps : List Int} (M : Meet l s ps C) (nd : l.Nodup) : ∃ c ∈ lotsL (withinL l s) ps.length, Cov c s := by
  have sub : ((withinL l s).filter fun o => decide (o ∈ C)).Sublist (withinL l s) := List.filter_sublist
  have cv : Cov ((withinL l s).filter fun o => decide (o ∈ C)) s := cov_mono M.cov fun o ho => List.mem_filter.mpr ⟨M.sub o ho, decide_eq_true ho⟩
  refine ⟨_, (lots_sub _ _ _).mpr ⟨sub, ?_⟩, cv⟩
  have h1 := paper_le M.pap (fun o ho => (within_sub (List.mem_filter.mp ho).1).1) cv
  have h2 : ((withinL l s).filter fun o => decide (o ∈ C)).length ≤ C.length := nodup_len _ _ ((nd.sublist List.filter_sublist).sublist sub) fun o ho => of_decide_eq_true (List.mem_filter.mp ho).2
  rw [M.len] at h2
  omega
theorem find_flat {α β : Type} {f : α → List β} {p : β → Bool} : ∀ (l : List α), (∀ a ∈ l, ∀ b ∈ f a, p b = false) → (l.flatMap f).find? p = none
  | l, h => List.find?_eq_none.mpr fun b hb => by
    obtain ⟨a, ha, hb⟩ := List.mem_flatMap.mp hb
    rw [h a ha b hb]
    exact Bool.false_ne_true
theorem coats_at {l C : List St2} {s : St2} {ps : List Int} (M : Meet l s ps C) (nd : l.Nodup) : coatsL l s = (lotsL (withinL l s) ps.length).find? fun c => (bareL c s).isEmpty := by
  obtain ⟨c, hc, cv⟩ := meet_lot M nd
  have sc := (lots_sub _ _ _).mp hc
  have hg : ps.length ≤ (withinL l s).length := by rw [← sc.2]; exact sc.1.length_le
  have r : List.range ((withinL l s).length + 1) = List.range ps.length ++ ps.length :: (List.range ((withinL l s).length - ps.length)).map (ps.length + 1 + ·) := by
    have e : (withinL l s).length + 1 = ps.length + (1 + ((withinL l s).length - ps.length)) := by omega
    rw [e, List.range_add, List.range_add]
    simp [List.range_succ, Function.comp_def, Nat.add_assoc]
  unfold coatsL
  rw [r, List.flatMap_append, List.find?_append, find_flat, Option.none_or, List.flatMap_cons, List.find?_append]
  · cases e : (lotsL (withinL l s) ps.length).find? fun c => (bareL c s).isEmpty with
    | some d => rfl
    | none => exact absurd (cov_iff.mpr cv) (List.find?_eq_none.mp e c hc)
  · intro m hm d hd
    have hm := List.mem_range.mp hm
    have sd := (lots_sub _ _ _).mp hd
    rw [← Bool.not_eq_true]
    intro q
    have := paper_le M.pap (fun o ho => (within_sub (sd.1.subset ho)).1) (cov_iff.mp q)
    omega
theorem coats_some {l C : List St2} {s : St2} {ps : List Int} (M : Meet l s ps C) (nd : l.Nodup) : ∃ c, coatsL l s = some c ∧ c.Sublist (withinL l s) ∧ c.length = ps.length ∧ Cov c s := by
  obtain ⟨c, hc, cv⟩ := meet_lot M nd
  rw [coats_at M nd]
  cases e : (lotsL (withinL l s) ps.length).find? fun c => (bareL c s).isEmpty with
  | none => exact absurd (cov_iff.mpr cv) (List.find?_eq_none.mp e c hc)
  | some d =>
    have sd := (lots_sub _ _ _).mp (List.mem_of_find?_eq_some e)
    exact ⟨d, rfl, sd.1, sd.2, cov_iff.mp (List.find?_some (p := fun c => (bareL c s).isEmpty) e)⟩
theorem coats_none {l : List St2} {s : St2} (h : ¬ Cov l s) : coatsL l s = none := by
  refine find_flat _ fun m _ d hd => ?_
  have sd := (lots_sub _ _ _).mp hd
  rw [← Bool.not_eq_true]
  intro q
  exact h (cov_mono (cov_iff.mp q) fun o ho => (within_sub (sd.1.subset ho)).1)
end SR

/-! coats, run -/
namespace SR
open PySem L2
variable {G : Glb} {μ : Mu} {k : KD} {x : KX}

def SpPaper (G : Glb) : Prop := ∀ (l : List St2) (s : St2) (μ : Mu) (k : KD) (x : KX), okS s → s.1 ≤ s.2 → (¬ Cov l s → k .non μ) → (∀ ps C, Cov l s → Meet l s ps C → k (.tup (ps.map D.int)) μ) → G.fn "coats_paper" [stsD l, stD s] μ k x
def dOpt (o : Option (List St2)) : D := match o with
  | none => .non
  | some c => stsD c
def SpCoats (f : String) (G : Glb) : Prop := ∀ (l : List St2) (s : St2) (μ : Mu) (k : KD) (x : KX), okS s → s.1 ≤ s.2 → l.Nodup → l.length ≤ 14 → k (dOpt (coatsL l s)) μ → G.fn f [stsD l, stD s] μ k x

/-- where the greedy walk stands -/
structure Way (l : List St2) (s : St2) (ps : List Int) (C : List St2) (q : Int) : Prop where
  lo : s.1 ≤ q
  hi : q ≤ s.2 + 1
  ris : ps.Pairwise (· < ·)
  ins : ∀ p ∈ ps, s.1 ≤ p ∧ p < q
  apart : ∀ o ∈ withinL l s, ∀ p ∈ ps, ∀ r ∈ ps, hasB o p = true → hasB o r = true → p = r
  past : ∀ o ∈ withinL l s, ∀ p ∈ ps, hasB o p = true → o.2 < q
  len : C.length = ps.length
  sub : ∀ o ∈ C, o ∈ withinL l s
  cov : ∀ p, s.1 ≤ p → p < q → ∃ o ∈ C, hasB o p = true
  short : (ps.length : Int) ≤ q - s.1
theorem Way.start {l : List St2} {s : St2} (h : s.1 ≤ s.2 + 1) : Way l s [] [] s.1 where
  lo := Int.le_refl _
  hi := h
  ris := .nil
  ins := fun _ h => nomatch h
  apart := fun _ _ _ h => nomatch h
  past := fun _ _ _ h => nomatch h
  len := rfl
  sub := fun _ h => nomatch h
  cov := fun p h1 h2 => by omega
  short := by simp
theorem Way.step {l : List St2} {s : St2} {ps : List Int} {C : List St2} {q m : Int} (W : Way l s ps C q) {o : St2} (ho : o ∈ withinL l s) (hq : hasB o q = true) (em : o.2 = m) (mx : ∀ o' ∈ withinL l s, hasB o' q = true → o'.2 ≤ m) : Way l s (ps ++ [q]) (C ++ [o]) (m + 1) := by
  have hq' := has_iff.mp hq
  have hin := in_iff.mp (within_sub ho).2
  have W1 := W.lo
  have W2 := W.hi
  refine ⟨by omega, by omega, ?_, ?_, ?_, ?_, ?_, ?_, ?_, ?_⟩
  · refine List.pairwise_append.mpr ⟨W.ris, List.pairwise_singleton _ _, fun a ha b hb => ?_⟩
    rw [List.mem_singleton] at hb
    have := W.ins a ha
    omega
  · intro p hp
    rcases List.mem_append.mp hp with h | h
    · have := W.ins p h
      omega
    · rw [List.mem_singleton] at h
      omega
  · intro o' ho' p hp r hr h1 h2
    rcases List.mem_append.mp hp with a | a <;> rcases List.mem_append.mp hr with b | b
    · exact W.apart o' ho' p a r b h1 h2
    · rw [List.mem_singleton] at b
      have := W.past o' ho' p a h1
      have := has_iff.mp h2
      omega
    · rw [List.mem_singleton] at a
      have := W.past o' ho' r b h2
      have := has_iff.mp h1
      omega
    · rw [List.mem_singleton] at a b
      omega
  · intro o' ho' p hp h1
    rcases List.mem_append.mp hp with a | a
    · have := W.past o' ho' p a h1
      omega
    · rw [List.mem_singleton] at a
      rw [a] at h1
      have := mx o' ho' h1
      omega
  · rw [List.length_append, List.length_append, W.len]
    rfl
  · intro o' h
    rcases List.mem_append.mp h with a | a
    · exact W.sub o' a
    · rw [List.mem_singleton] at a
      rw [a]; exact ho
  · intro p h1 h2
    by_cases c : p < q
    · obtain ⟨o', a, b⟩ := W.cov p h1 c
      exact ⟨o', List.mem_append_left _ a, b⟩
    · exact ⟨o, List.mem_append_right _ (List.mem_singleton.mpr rfl), has_iff.mpr ⟨by omega, by omega⟩⟩
  · rw [List.length_append, List.length_singleton]
    have := W.short
    omega
theorem Way.done {l : List St2} {s : St2} {ps : List Int} {C : List St2} {q : Int} (W : Way l s ps C q) (h : ¬ q ≤ s.2) : Meet l s ps C where
  pap := ⟨W.ris, fun p hp => by have := W.ins p hp; have := W.hi; omega, W.apart⟩
  len := W.len
  sub := W.sub
  cov := fun p h1 h2 => by
    obtain ⟨o, a, b⟩ := W.cov p h1 (by omega)
    exact ⟨o, a, (within_sub (W.sub o a)).2, b⟩
theorem p_paper (h1 : SpBare "bare" G) (h2 : SpWithin G) (h3 : SpHas G) {l : List St2} {s : St2} (hs : okS s) (hs1 : s.1 ≤ s.2) (no : ¬ Cov l s → k .non μ) (yes : ∀ ps C, Cov l s → Meet l s ps C → k (.tup (ps.map D.int)) μ) : wpF G d_coats_paper [stsD l, stD s] μ k x := by
  simp only [d_coats_paper, wpF, wpS, wpE, wpEs, wpC, wpO, a_nm, asgW, asgsW, wipeD, wk_L, wk_T, wk_1, wk_2, wk_E, wk_Z, wk_ZT, b_add, b_sub, b_fdiv, b_mod, b_mul, b_pow, b_addT, b_addL, b_addS, b_addB, b_subB, t_str, t_strB, c_lt, c_le, c_gt, c_ge, c_eq, c_ne, c_isN, c_isNN, c_inL, c_inT, c_ninL, c_ninT, sl_L, sl_T, sl_S, i_T0, i_T1, i_L0, i_L1, vw_T, vw_L, vw_I, vw_N, vw_B, vw_S, u_b, t_lenL, t_lenT, t_lenS, t_abs, up_S, t_min2, t_max2, t_any, t_all, t_toTL, t_toTT, t_toLT, t_toLL, t_sortL, t_sortT, nw_f, List.length_cons, List.length_nil, List.map_cons, List.map_nil, List.cons_append, List.nil_append, List.replicate, List.set_cons_succ, List.set_cons_zero, List.getElem?_cons_zero, List.getElem?_cons_succ]
  refine ⟨trivial, ss ?_⟩
  simp only [wpF, wpS, wpE, wpEs, wpC, wpO, a_nm, asgW, asgsW, wipeD, wk_L, wk_T, wk_1, wk_2, wk_E, wk_Z, wk_ZT, b_add, b_sub, b_fdiv, b_mod, b_mul, b_pow, b_addT, b_addL, b_addS, b_addB, b_subB, t_str, t_strB, c_lt, c_le, c_gt, c_ge, c_eq, c_ne, c_isN, c_isNN, c_inL, c_inT, c_ninL, c_ninT, sl_L, sl_T, sl_S, i_T0, i_T1, i_L0, i_L1, vw_T, vw_L, vw_I, vw_N, vw_B, vw_S, u_b, t_lenL, t_lenT, t_lenS, t_abs, up_S, t_min2, t_max2, t_any, t_all, t_toTL, t_toTT, t_toLT, t_toLL, t_sortL, t_sortT, nw_f, List.length_cons, List.length_nil, List.map_cons, List.map_nil, List.cons_append, List.nil_append, List.replicate, List.set_cons_succ, List.set_cons_zero, List.getElem?_cons_zero, List.getElem?_cons_succ]
  refine h1 l s _ _ _ hs ?_
  refine ⟨by decide, ok_ints, rfl, ?_⟩
  by_cases c : Cov l s
  · have e : eqD (.lst ((bareL l s).map D.int)) (.lst []) = true := by rw [eq_nil, List.isEmpty_map]; exact cov_iff.mpr c
    simp only [e, wpF, wpS, wpE, wpEs, wpC, wpO, a_nm, asgW, asgsW, wipeD, wk_L, wk_T, wk_1, wk_2, wk_E, wk_Z, wk_ZT, b_add, b_sub, b_fdiv, b_mod, b_mul, b_pow, b_addT, b_addL, b_addS, b_addB, b_subB, t_str, t_strB, c_lt, c_le, c_gt, c_ge, c_eq, c_ne, c_isN, c_isNN, c_inL, c_inT, c_ninL, c_ninT, sl_L, sl_T, sl_S, i_T0, i_T1, i_L0, i_L1, vw_T, vw_L, vw_I, vw_N, vw_B, vw_S, u_b, t_lenL, t_lenT, t_lenS, t_abs, up_S, t_min2, t_max2, t_any, t_all, t_toTL, t_toTT, t_toLT, t_toLL, t_sortL, t_sortT, nw_f, List.length_cons, List.length_nil, List.map_cons, List.map_nil, List.cons_append, List.nil_append, List.replicate, List.set_cons_succ, List.set_cons_zero, List.getElem?_cons_zero, List.getElem?_cons_succ, Bool.not_true, Bool.false_eq_true, if_false]
    refine ss0 (G := G) ?_
    refine ss ?_
    simp only [wpF, wpS, wpE, wpEs, wpC, wpO, a_nm, asgW, asgsW, wipeD, wk_L, wk_T, wk_1, wk_2, wk_E, wk_Z, wk_ZT, b_add, b_sub, b_fdiv, b_mod, b_mul, b_pow, b_addT, b_addL, b_addS, b_addB, b_subB, t_str, t_strB, c_lt, c_le, c_gt, c_ge, c_eq, c_ne, c_isN, c_isNN, c_inL, c_inT, c_ninL, c_ninT, sl_L, sl_T, sl_S, i_T0, i_T1, i_L0, i_L1, vw_T, vw_L, vw_I, vw_N, vw_B, vw_S, u_b, t_lenL, t_lenT, t_lenS, t_abs, up_S, t_min2, t_max2, t_any, t_all, t_toTL, t_toTT, t_toLT, t_toLL, t_sortL, t_sortT, nw_f, List.length_cons, List.length_nil, List.map_cons, List.map_nil, List.cons_append, List.nil_append, List.replicate, List.set_cons_succ, List.set_cons_zero, List.getElem?_cons_zero, List.getElem?_cons_succ]
    refine h2 l s _ _ _ ?_
    refine ss ?_
    simp only [wpF, wpS, wpE, wpEs, wpC, wpO, a_nm, asgW, asgsW, wipeD, wk_L, wk_T, wk_1, wk_2, wk_E, wk_Z, wk_ZT, b_add, b_sub, b_fdiv, b_mod, b_mul, b_pow, b_addT, b_addL, b_addS, b_addB, b_subB, t_str, t_strB, c_lt, c_le, c_gt, c_ge, c_eq, c_ne, c_isN, c_isNN, c_inL, c_inT, c_ninL, c_ninT, sl_L, sl_T, sl_S, i_T0, i_T1, i_L0, i_L1, vw_T, vw_L, vw_I, vw_N, vw_B, vw_S, u_b, t_lenL, t_lenT, t_lenS, t_abs, up_S, t_min2, t_max2, t_any, t_all, t_toTL, t_toTT, t_toLT, t_toLL, t_sortL, t_sortT, nw_f, List.length_cons, List.length_nil, List.map_cons, List.map_nil, List.cons_append, List.nil_append, List.replicate, List.set_cons_succ, List.set_cons_zero, List.getElem?_cons_zero, List.getElem?_cons_succ]
    refine ⟨by decide, ss ?_⟩
    simp only [stD, wpF, wpS, wpE, wpEs, wpC, wpO, a_nm, asgW, asgsW, wipeD, wk_L, wk_T, wk_1, wk_2, wk_E, wk_Z, wk_ZT, b_add, b_sub, b_fdiv, b_mod, b_mul, b_pow, b_addT, b_addL, b_addS, b_addB, b_subB, t_str, t_strB, c_lt, c_le, c_gt, c_ge, c_eq, c_ne, c_isN, c_isNN, c_inL, c_inT, c_ninL, c_ninT, sl_L, sl_T, sl_S, i_T0, i_T1, i_L0, i_L1, vw_T, vw_L, vw_I, vw_N, vw_B, vw_S, u_b, t_lenL, t_lenT, t_lenS, t_abs, up_S, t_min2, t_max2, t_any, t_all, t_toTL, t_toTT, t_toLT, t_toLL, t_sortL, t_sortT, nw_f, List.length_cons, List.length_nil, List.map_cons, List.map_nil, List.cons_append, List.nil_append, List.replicate, List.set_cons_succ, List.set_cons_zero, List.getElem?_cons_zero, List.getElem?_cons_succ]
    refine ss ?_
    simp only [wpS]
    unfold okS at hs
    refine ⟨fun mm ρ μ' => ∃ ps C q v5, ρ = [some (stsD l), some (.tup [.int s.1, .int s.2]), some (.lst ((withinL l s).map stD)), some (.tup (List.map D.int ps)), some (.int q), v5] ∧ μ' = μ ∧ Way l s ps C q ∧ mm = (s.2 + 1 - q).toNat, ⟨_, [], [], s.1, none, rfl, rfl, Way.start (by omega), rfl⟩, ?_⟩
    rintro mm ρ μ' ⟨ps, C, q, v5, rfl, rfl, W, rfl⟩
    have W1 := W.lo
    have W2 := W.hi
    have W3 := W.short
    simp only [wpF, wpS, wpE, wpEs, wpC, wpO, a_nm, asgW, asgsW, wipeD, wk_L, wk_T, wk_1, wk_2, wk_E, wk_Z, wk_ZT, b_add, b_sub, b_fdiv, b_mod, b_mul, b_pow, b_addT, b_addL, b_addS, b_addB, b_subB, t_str, t_strB, c_lt, c_le, c_gt, c_ge, c_eq, c_ne, c_isN, c_isNN, c_inL, c_inT, c_ninL, c_ninT, sl_L, sl_T, sl_S, i_T0, i_T1, i_L0, i_L1, vw_T, vw_L, vw_I, vw_N, vw_B, vw_S, u_b, t_lenL, t_lenT, t_lenS, t_abs, up_S, t_min2, t_max2, t_any, t_all, t_toTL, t_toTT, t_toLT, t_toLL, t_sortL, t_sortT, nw_f, List.length_cons, List.length_nil, List.map_cons, List.map_nil, List.cons_append, List.nil_append, List.replicate, List.set_cons_succ, List.set_cons_zero, List.getElem?_cons_zero, List.getElem?_cons_succ]
    by_cases lt : q ≤ s.2
    · rw [decide_eq_true lt, if_pos rfl]
      refine ss ?_
      simp only [wpF, wpS, wpE, wpEs, wpC, wpO, a_nm, asgW, asgsW, wipeD, wk_L, wk_T, wk_1, wk_2, wk_E, wk_Z, wk_ZT, b_add, b_sub, b_fdiv, b_mod, b_mul, b_pow, b_addT, b_addL, b_addS, b_addB, b_subB, t_str, t_strB, c_lt, c_le, c_gt, c_ge, c_eq, c_ne, c_isN, c_isNN, c_inL, c_inT, c_ninL, c_ninT, sl_L, sl_T, sl_S, i_T0, i_T1, i_L0, i_L1, vw_T, vw_L, vw_I, vw_N, vw_B, vw_S, u_b, t_lenL, t_lenT, t_lenS, t_abs, up_S, t_min2, t_max2, t_any, t_all, t_toTL, t_toTT, t_toLT, t_toLL, t_sortL, t_sortT, nw_f, List.length_cons, List.length_nil, List.map_cons, List.map_nil, List.cons_append, List.nil_append, List.replicate, List.set_cons_succ, List.set_cons_zero, List.getElem?_cons_zero, List.getElem?_cons_succ]
      refine ⟨by decide, by rw [List.length_map]; unfold sizeLine; omega, ss ?_⟩
      simp only [wpF, wpS, wpE, wpEs, wpC, wpO, a_nm, asgW, asgsW, wipeD, wk_L, wk_T, wk_1, wk_2, wk_E, wk_Z, wk_ZT, b_add, b_sub, b_fdiv, b_mod, b_mul, b_pow, b_addT, b_addL, b_addS, b_addB, b_subB, t_str, t_strB, c_lt, c_le, c_gt, c_ge, c_eq, c_ne, c_isN, c_isNN, c_inL, c_inT, c_ninL, c_ninT, sl_L, sl_T, sl_S, i_T0, i_T1, i_L0, i_L1, vw_T, vw_L, vw_I, vw_N, vw_B, vw_S, u_b, t_lenL, t_lenT, t_lenS, t_abs, up_S, t_min2, t_max2, t_any, t_all, t_toTL, t_toTT, t_toLT, t_toLL, t_sortL, t_sortT, nw_f, List.length_cons, List.length_nil, List.map_cons, List.map_nil, List.cons_append, List.nil_append, List.replicate, List.set_cons_succ, List.set_cons_zero, List.getElem?_cons_zero, List.getElem?_cons_succ]
      refine lcW_filt stD (fun o => hasB o q) (fun o => .int o.2) trivial _ (fun o ho k3 q3 => ?_) ?_
      · exact h3 o q _ _ _ (by simpa only [stD, wpF, wpSs, wpS, wpE, wpEs, wpC, wpO, a_nm, asgW, asgsW, wipeD, wk_L, wk_T, wk_1, wk_2, wk_E, wk_Z, wk_ZT, b_add, b_sub, b_fdiv, b_mod, b_mul, b_pow, b_addT, b_addL, b_addS, b_addB, b_subB, t_str, t_strB, c_lt, c_le, c_gt, c_ge, c_eq, c_ne, c_isN, c_isNN, c_inL, c_inT, c_ninL, c_ninT, sl_L, sl_T, sl_S, i_T0, i_T1, i_L0, i_L1, vw_T, vw_L, vw_I, vw_N, vw_B, vw_S, u_b, t_lenL, t_lenT, t_lenS, t_abs, up_S, t_min2, t_max2, t_any, t_all, t_toTL, t_toTT, t_toLT, t_toLL, t_sortL, t_sortT, nw_f, List.length_cons, List.length_nil, List.map_cons, List.map_nil, List.cons_append, List.nil_append, List.replicate, List.set_cons_succ, List.set_cons_zero, List.getElem?_cons_zero, List.getElem?_cons_succ] using q3)
      · simp only [btW]
        obtain ⟨o, ho, hi, hh⟩ := c q W1 lt
        have hw : o ∈ (withinL l s).filter fun o => hasB o q := List.mem_filter.mpr ⟨List.mem_filter.mpr ⟨ho, hi⟩, hh⟩
        refine ⟨((withinL l s).filter fun o => hasB o q).map (·.2), by rw [List.map_map]; rfl, by rw [List.length_map]; exact List.length_pos_of_mem hw, fun m hm mx => ?_⟩
        obtain ⟨o', ho', em⟩ := List.mem_map.mp hm
        have hf := List.mem_filter.mp ho'
        have W' := W.step (m := m) hf.1 hf.2 em fun o2 h2 h3 => mx _ (List.mem_map.mpr ⟨o2, List.mem_filter.mpr ⟨h2, h3⟩, rfl⟩)
        have hq := has_iff.mp hf.2
        simp only [wpF, wpS, wpE, wpEs, wpC, wpO, a_nm, asgW, asgsW, wipeD, wk_L, wk_T, wk_1, wk_2, wk_E, wk_Z, wk_ZT, b_add, b_sub, b_fdiv, b_mod, b_mul, b_pow, b_addT, b_addL, b_addS, b_addB, b_subB, t_str, t_strB, c_lt, c_le, c_gt, c_ge, c_eq, c_ne, c_isN, c_isNN, c_inL, c_inT, c_ninL, c_ninT, sl_L, sl_T, sl_S, i_T0, i_T1, i_L0, i_L1, vw_T, vw_L, vw_I, vw_N, vw_B, vw_S, u_b, t_lenL, t_lenT, t_lenS, t_abs, up_S, t_min2, t_max2, t_any, t_all, t_toTL, t_toTT, t_toLT, t_toLL, t_sortL, t_sortT, nw_f, List.length_cons, List.length_nil, List.map_cons, List.map_nil, List.cons_append, List.nil_append, List.replicate, List.set_cons_succ, List.set_cons_zero, List.getElem?_cons_zero, List.getElem?_cons_succ]
        refine ss0 (G := G) ?_
        refine ⟨_, ?_, ps ++ [q], C ++ [o'], m + 1, v5, ?_, rfl, W', rfl⟩
        · omega
        · rw [List.map_append]
          rfl
    · rw [decide_eq_false lt, if_neg Bool.false_ne_true]
      refine ss ?_
      simp only [wpF, wpS, wpE, wpEs, wpC, wpO, a_nm, asgW, asgsW, wipeD, wk_L, wk_T, wk_1, wk_2, wk_E, wk_Z, wk_ZT, b_add, b_sub, b_fdiv, b_mod, b_mul, b_pow, b_addT, b_addL, b_addS, b_addB, b_subB, t_str, t_strB, c_lt, c_le, c_gt, c_ge, c_eq, c_ne, c_isN, c_isNN, c_inL, c_inT, c_ninL, c_ninT, sl_L, sl_T, sl_S, i_T0, i_T1, i_L0, i_L1, vw_T, vw_L, vw_I, vw_N, vw_B, vw_S, u_b, t_lenL, t_lenT, t_lenS, t_abs, up_S, t_min2, t_max2, t_any, t_all, t_toTL, t_toTT, t_toLT, t_toLL, t_sortL, t_sortT, nw_f, List.length_cons, List.length_nil, List.map_cons, List.map_nil, List.cons_append, List.nil_append, List.replicate, List.set_cons_succ, List.set_cons_zero, List.getElem?_cons_zero, List.getElem?_cons_succ]
      exact yes ps C c (W.done lt)
  · have e : eqD (.lst ((bareL l s).map D.int)) (.lst []) = false := by rw [eq_nil, List.isEmpty_map, ← Bool.not_eq_true]; exact fun q => c (cov_iff.mp q)
    simp only [e, wpF, wpS, wpE, wpEs, wpC, wpO, a_nm, asgW, asgsW, wipeD, wk_L, wk_T, wk_1, wk_2, wk_E, wk_Z, wk_ZT, b_add, b_sub, b_fdiv, b_mod, b_mul, b_pow, b_addT, b_addL, b_addS, b_addB, b_subB, t_str, t_strB, c_lt, c_le, c_gt, c_ge, c_eq, c_ne, c_isN, c_isNN, c_inL, c_inT, c_ninL, c_ninT, sl_L, sl_T, sl_S, i_T0, i_T1, i_L0, i_L1, vw_T, vw_L, vw_I, vw_N, vw_B, vw_S, u_b, t_lenL, t_lenT, t_lenS, t_abs, up_S, t_min2, t_max2, t_any, t_all, t_toTL, t_toTT, t_toLT, t_toLL, t_sortL, t_sortT, nw_f, List.length_cons, List.length_nil, List.map_cons, List.map_nil, List.cons_append, List.nil_append, List.replicate, List.set_cons_succ, List.set_cons_zero, List.getElem?_cons_zero, List.getElem?_cons_succ, Bool.not_false, if_true]
    refine ss ?_
    simp only [wpF, wpS, wpE, wpEs, wpC, wpO, a_nm, asgW, asgsW, wipeD, wk_L, wk_T, wk_1, wk_2, wk_E, wk_Z, wk_ZT, b_add, b_sub, b_fdiv, b_mod, b_mul, b_pow, b_addT, b_addL, b_addS, b_addB, b_subB, t_str, t_strB, c_lt, c_le, c_gt, c_ge, c_eq, c_ne, c_isN, c_isNN, c_inL, c_inT, c_ninL, c_ninT, sl_L, sl_T, sl_S, i_T0, i_T1, i_L0, i_L1, vw_T, vw_L, vw_I, vw_N, vw_B, vw_S, u_b, t_lenL, t_lenT, t_lenS, t_abs, up_S, t_min2, t_max2, t_any, t_all, t_toTL, t_toTT, t_toLT, t_toLL, t_sortL, t_sortT, nw_f, List.length_cons, List.length_nil, List.map_cons, List.map_nil, List.cons_append, List.nil_append, List.replicate, List.set_cons_succ, List.set_cons_zero, List.getElem?_cons_zero, List.getElem?_cons_succ]
    exact no c
theorem within_len {l : List St2} {s : St2} : (withinL l s).length ≤ l.length := List.length_filter_le ..
theorem lots_len {α : Type} : ∀ (l : List α) (n : Nat), (lotsL l n).length ≤ 2 ^ l.length
  | l, 0 => by rw [lots_zero]; exact Nat.one_le_two_pow
  | [], n + 1 => Nat.zero_le _
  | a :: r, n + 1 => by
    show ((lotsL r n).map (a :: ·) ++ lotsL r (n + 1)).length ≤ _
    rw [List.length_append, List.length_map, List.length_cons, Nat.pow_succ]
    have h1 := lots_len r n
    have h2 := lots_len r (n + 1)
    omega
theorem lots_map {α β : Type} (f : α → β) : ∀ (l : List α) (n : Nat), lotsL (l.map f) n = (lotsL l n).map (·.map f)
  | l, 0 => by rw [lots_zero, lots_zero]; rfl
  | [], n + 1 => rfl
  | a :: r, n + 1 => by
    show (lotsL (r.map f) n).map (f a :: ·) ++ lotsL (r.map f) (n + 1) = ((lotsL r n).map (a :: ·) ++ lotsL r (n + 1)).map (·.map f)
    rw [lots_map f r n, lots_map f r (n + 1), List.map_append, List.map_map, List.map_map]
    rfl
theorem p_coats (h1 : SpPaper G) (h2 : SpWithin G) (h3 : ∀ m, m ≤ 14 → SpLots "lots" m G) (h4 : SpBare "bare" G) {l : List St2} {s : St2} (hs : okS s) (hs1 : s.1 ≤ s.2) (nd : l.Nodup) (hl : l.length ≤ 14) (h : k (dOpt (coatsL l s)) μ) : wpF G d_coats [stsD l, stD s] μ k x := by
  simp only [d_coats, wpF, wpS, wpE, wpEs, wpC, wpO, a_nm, asgW, asgsW, wipeD, wk_L, wk_T, wk_1, wk_2, wk_E, wk_Z, wk_ZT, b_add, b_sub, b_fdiv, b_mod, b_mul, b_pow, b_addT, b_addL, b_addS, b_addB, b_subB, t_str, t_strB, c_lt, c_le, c_gt, c_ge, c_eq, c_ne, c_isN, c_isNN, c_inL, c_inT, c_ninL, c_ninT, sl_L, sl_T, sl_S, i_T0, i_T1, i_L0, i_L1, vw_T, vw_L, vw_I, vw_N, vw_B, vw_S, u_b, t_lenL, t_lenT, t_lenS, t_abs, up_S, t_min2, t_max2, t_any, t_all, t_toTL, t_toTT, t_toLT, t_toLL, t_sortL, t_sortT, nw_f, List.length_cons, List.length_nil, List.map_cons, List.map_nil, List.cons_append, List.nil_append, List.replicate, List.set_cons_succ, List.set_cons_zero, List.getElem?_cons_zero, List.getElem?_cons_succ]
  refine ⟨trivial, ss ?_⟩
  simp only [wpF, wpS, wpE, wpEs, wpC, wpO, a_nm, asgW, asgsW, wipeD, wk_L, wk_T, wk_1, wk_2, wk_E, wk_Z, wk_ZT, b_add, b_sub, b_fdiv, b_mod, b_mul, b_pow, b_addT, b_addL, b_addS, b_addB, b_subB, t_str, t_strB, c_lt, c_le, c_gt, c_ge, c_eq, c_ne, c_isN, c_isNN, c_inL, c_inT, c_ninL, c_ninT, sl_L, sl_T, sl_S, i_T0, i_T1, i_L0, i_L1, vw_T, vw_L, vw_I, vw_N, vw_B, vw_S, u_b, t_lenL, t_lenT, t_lenS, t_abs, up_S, t_min2, t_max2, t_any, t_all, t_toTL, t_toTT, t_toLT, t_toLL, t_sortL, t_sortT, nw_f, List.length_cons, List.length_nil, List.map_cons, List.map_nil, List.cons_append, List.nil_append, List.replicate, List.set_cons_succ, List.set_cons_zero, List.getElem?_cons_zero, List.getElem?_cons_succ]
  refine h1 l s _ _ _ hs hs1 (fun no => ?_) (fun ps C c M => ?_)
  · refine ss ?_
    simp only [wpF, wpS, wpE, wpEs, wpC, wpO, a_nm, asgW, asgsW, wipeD, wk_L, wk_T, wk_1, wk_2, wk_E, wk_Z, wk_ZT, b_add, b_sub, b_fdiv, b_mod, b_mul, b_pow, b_addT, b_addL, b_addS, b_addB, b_subB, t_str, t_strB, c_lt, c_le, c_gt, c_ge, c_eq, c_ne, c_isN, c_isNN, c_inL, c_inT, c_ninL, c_ninT, sl_L, sl_T, sl_S, i_T0, i_T1, i_L0, i_L1, vw_T, vw_L, vw_I, vw_N, vw_B, vw_S, u_b, t_lenL, t_lenT, t_lenS, t_abs, up_S, t_min2, t_max2, t_any, t_all, t_toTL, t_toTT, t_toLT, t_toLL, t_sortL, t_sortT, nw_f, List.length_cons, List.length_nil, List.map_cons, List.map_nil, List.cons_append, List.nil_append, List.replicate, List.set_cons_succ, List.set_cons_zero, List.getElem?_cons_zero, List.getElem?_cons_succ]
    rw [if_pos (by rfl)]
    refine ss ?_
    simp only [wpF, wpS, wpE, wpEs, wpC, wpO, a_nm, asgW, asgsW, wipeD, wk_L, wk_T, wk_1, wk_2, wk_E, wk_Z, wk_ZT, b_add, b_sub, b_fdiv, b_mod, b_mul, b_pow, b_addT, b_addL, b_addS, b_addB, b_subB, t_str, t_strB, c_lt, c_le, c_gt, c_ge, c_eq, c_ne, c_isN, c_isNN, c_inL, c_inT, c_ninL, c_ninT, sl_L, sl_T, sl_S, i_T0, i_T1, i_L0, i_L1, vw_T, vw_L, vw_I, vw_N, vw_B, vw_S, u_b, t_lenL, t_lenT, t_lenS, t_abs, up_S, t_min2, t_max2, t_any, t_all, t_toTL, t_toTT, t_toLT, t_toLL, t_sortL, t_sortT, nw_f, List.length_cons, List.length_nil, List.map_cons, List.map_nil, List.cons_append, List.nil_append, List.replicate, List.set_cons_succ, List.set_cons_zero, List.getElem?_cons_zero, List.getElem?_cons_succ]
    rw [coats_none no] at h
    exact h
  · refine ss ?_
    simp only [wpF, wpS, wpE, wpEs, wpC, wpO, a_nm, asgW, asgsW, wipeD, wk_L, wk_T, wk_1, wk_2, wk_E, wk_Z, wk_ZT, b_add, b_sub, b_fdiv, b_mod, b_mul, b_pow, b_addT, b_addL, b_addS, b_addB, b_subB, t_str, t_strB, c_lt, c_le, c_gt, c_ge, c_eq, c_ne, c_isN, c_isNN, c_inL, c_inT, c_ninL, c_ninT, sl_L, sl_T, sl_S, i_T0, i_T1, i_L0, i_L1, vw_T, vw_L, vw_I, vw_N, vw_B, vw_S, u_b, t_lenL, t_lenT, t_lenS, t_abs, up_S, t_min2, t_max2, t_any, t_all, t_toTL, t_toTT, t_toLT, t_toLL, t_sortL, t_sortT, nw_f, List.length_cons, List.length_nil, List.map_cons, List.map_nil, List.cons_append, List.nil_append, List.replicate, List.set_cons_succ, List.set_cons_zero, List.getElem?_cons_zero, List.getElem?_cons_succ]
    rw [if_neg (by exact Bool.false_ne_true)]
    refine ss0 (G := G) ?_
    refine ss ?_
    simp only [wpF, wpS, wpE, wpEs, wpC, wpO, a_nm, asgW, asgsW, wipeD, wk_L, wk_T, wk_1, wk_2, wk_E, wk_Z, wk_ZT, b_add, b_sub, b_fdiv, b_mod, b_mul, b_pow, b_addT, b_addL, b_addS, b_addB, b_subB, t_str, t_strB, c_lt, c_le, c_gt, c_ge, c_eq, c_ne, c_isN, c_isNN, c_inL, c_inT, c_ninL, c_ninT, sl_L, sl_T, sl_S, i_T0, i_T1, i_L0, i_L1, vw_T, vw_L, vw_I, vw_N, vw_B, vw_S, u_b, t_lenL, t_lenT, t_lenS, t_abs, up_S, t_min2, t_max2, t_any, t_all, t_toTL, t_toTT, t_toLT, t_toLL, t_sortL, t_sortT, nw_f, List.length_cons, List.length_nil, List.map_cons, List.map_nil, List.cons_append, List.nil_append, List.replicate, List.set_cons_succ, List.set_cons_zero, List.getElem?_cons_zero, List.getElem?_cons_succ]
    refine h2 l s _ _ _ ?_
    have lw := within_len (l := l) (s := s)
    obtain ⟨d, hd, hsub, hlen, hcov⟩ := coats_some M nd
    have lp : ps.length ≤ 14 := by
      have := hsub.length_le
      omega
    have e0 : (List.map D.int ps).length = ps.length := List.length_map ..
    rw [e0]
    refine h3 ps.length lp _ _ _ _ (by omega) (by rw [List.length_map]; omega) ?_ ?_
    · refine Nat.le_trans (lots_len _ _) ?_
      rw [List.length_map]
      refine Nat.le_trans (Nat.pow_le_pow_right (by decide) (show (withinL l s).length ≤ 14 by omega)) ?_
      unfold sizeLine
      decide
    · rw [lots_map, List.map_map]
      refine lcW_filt (fun c => stsD c) (fun c => (bareL c s).isEmpty) (fun c => stsD c) trivial _ (fun c hc k3 q3 => ?_) ?_
      · refine h4 c s _ _ _ hs ?_
        refine ⟨by decide, ok_ints, rfl, ?_⟩
        simp only [vw_L, eq_nil, List.isEmpty_map]
        exact q3
      · refine ss ?_
        simp only [wpF, wpS, wpE, wpEs, wpC, wpO, a_nm, asgW, asgsW, wipeD, wk_L, wk_T, wk_1, wk_2, wk_E, wk_Z, wk_ZT, b_add, b_sub, b_fdiv, b_mod, b_mul, b_pow, b_addT, b_addL, b_addS, b_addB, b_subB, t_str, t_strB, c_lt, c_le, c_gt, c_ge, c_eq, c_ne, c_isN, c_isNN, c_inL, c_inT, c_ninL, c_ninT, sl_L, sl_T, sl_S, i_T0, i_T1, i_L0, i_L1, vw_T, vw_L, vw_I, vw_N, vw_B, vw_S, u_b, t_lenL, t_lenT, t_lenS, t_abs, up_S, t_min2, t_max2, t_any, t_all, t_toTL, t_toTT, t_toLT, t_toLL, t_sortL, t_sortT, nw_f, List.length_cons, List.length_nil, List.map_cons, List.map_nil, List.cons_append, List.nil_append, List.replicate, List.set_cons_succ, List.set_cons_zero, List.getElem?_cons_zero, List.getElem?_cons_succ]
        rw [coats_at M nd] at hd h
        cases e : (lotsL (withinL l s) ps.length).filter fun c => (bareL c s).isEmpty with
        | nil => 
          have hm : d ∈ (lotsL (withinL l s) ps.length).filter fun c => (bareL c s).isEmpty := List.mem_filter.mpr ⟨List.mem_of_find?_eq_some hd, List.find?_some (p := fun c => (bareL c s).isEmpty) hd⟩
          rw [e] at hm
          cases hm
        | cons c r =>
          have e2 : (lotsL (withinL l s) ps.length).find? (fun c => (bareL c s).isEmpty) = some c := by
            rw [← List.head?_filter, e]
            rfl
          rw [e2] at h
          simp only [wpF, wpS, wpE, wpEs, wpC, wpO, a_nm, asgW, asgsW, wipeD, wk_L, wk_T, wk_1, wk_2, wk_E, wk_Z, wk_ZT, b_add, b_sub, b_fdiv, b_mod, b_mul, b_pow, b_addT, b_addL, b_addS, b_addB, b_subB, t_str, t_strB, c_lt, c_le, c_gt, c_ge, c_eq, c_ne, c_isN, c_isNN, c_inL, c_inT, c_ninL, c_ninT, sl_L, sl_T, sl_S, i_T0, i_T1, i_L0, i_L1, vw_T, vw_L, vw_I, vw_N, vw_B, vw_S, u_b, t_lenL, t_lenT, t_lenS, t_abs, up_S, t_min2, t_max2, t_any, t_all, t_toTL, t_toTT, t_toLT, t_toLL, t_sortL, t_sortT, nw_f, List.length_cons, List.length_nil, List.map_cons, List.map_nil, List.cons_append, List.nil_append, List.replicate, List.set_cons_succ, List.set_cons_zero, List.getElem?_cons_zero, List.getElem?_cons_succ]
          exact h
end SR

/-! what law k08 asks beside -/
namespace SR
open PySem L2
variable {G : Glb} {μ : Mu} {k : KD} {x : KX}

def SpEvery (G : Glb) : Prop := ∀ (n : Int) (μ : Mu) (k : KD) (x : KX), 0 ≤ n → n ≤ 100 → k (.lst ((allS n).map stD)) μ → G.fn "_law_every" [.int n] μ k x
theorem row_len {n : Int} {i : Nat} (h : n ≤ 100) : (rowS n i).length ≤ 100 := by
  unfold rowS
  rw [List.length_map, List.length_range]
  omega
theorem p_every {n : Int} (h0 : 0 ≤ n) (h1 : n ≤ 100) (h : k (.lst ((allS n).map stD)) μ) : wpF G dl_every [.int n] μ k x := by
  simp only [dl_every, wpF, wpS, wpE, wpEs, wpC, wpO, a_nm, asgW, asgsW, wipeD, wk_L, wk_T, wk_1, wk_2, wk_E, wk_Z, wk_ZT, b_add, b_sub, b_fdiv, b_mod, b_mul, b_pow, b_addT, b_addL, b_addS, b_addB, b_subB, t_str, t_strB, c_lt, c_le, c_gt, c_ge, c_eq, c_ne, c_isN, c_isNN, c_inL, c_inT, c_ninL, c_ninT, sl_L, sl_T, sl_S, i_T0, i_T1, i_L0, i_L1, vw_T, vw_L, vw_I, vw_N, vw_B, vw_S, u_b, t_lenL, t_lenT, t_lenS, t_abs, up_S, t_min2, t_max2, t_any, t_all, t_toTL, t_toTT, t_toLT, t_toLL, t_sortL, t_sortT, nw_f, List.length_cons, List.length_nil, List.map_cons, List.map_nil, List.cons_append, List.nil_append, List.replicate, List.set_cons_succ, List.set_cons_zero, List.getElem?_cons_zero, List.getElem?_cons_succ]
  refine ⟨trivial, ss ?_⟩
  simp only [wpF, wpS, wpE, wpEs, wpC, wpO, a_nm, asgW, asgsW, wipeD, wk_L, wk_T, wk_1, wk_2, wk_E, wk_Z, wk_ZT, b_add, b_sub, b_fdiv, b_mod, b_mul, b_pow, b_addT, b_addL, b_addS, b_addB, b_subB, t_str, t_strB, c_lt, c_le, c_gt, c_ge, c_eq, c_ne, c_isN, c_isNN, c_inL, c_inT, c_ninL, c_ninT, sl_L, sl_T, sl_S, i_T0, i_T1, i_L0, i_L1, vw_T, vw_L, vw_I, vw_N, vw_B, vw_S, u_b, t_lenL, t_lenT, t_lenS, t_abs, up_S, t_min2, t_max2, t_any, t_all, t_toTL, t_toTT, t_toLT, t_toLL, t_sortL, t_sortT, nw_f, List.length_cons, List.length_nil, List.map_cons, List.map_nil, List.cons_append, List.nil_append, List.replicate, List.set_cons_succ, List.set_cons_zero, List.getElem?_cons_zero, List.getElem?_cons_succ]
  refine ⟨by decide, ss ?_⟩
  simp only [wpF, wpS, wpE, wpEs, wpC, wpO, a_nm, asgW, asgsW, wipeD, wk_L, wk_T, wk_1, wk_2, wk_E, wk_Z, wk_ZT, b_add, b_sub, b_fdiv, b_mod, b_mul, b_pow, b_addT, b_addL, b_addS, b_addB, b_subB, t_str, t_strB, c_lt, c_le, c_gt, c_ge, c_eq, c_ne, c_isN, c_isNN, c_inL, c_inT, c_ninL, c_ninT, sl_L, sl_T, sl_S, i_T0, i_T1, i_L0, i_L1, vw_T, vw_L, vw_I, vw_N, vw_B, vw_S, u_b, t_lenL, t_lenT, t_lenS, t_abs, up_S, t_min2, t_max2, t_any, t_all, t_toTL, t_toTT, t_toLT, t_toLL, t_sortL, t_sortT, nw_f, List.length_cons, List.length_nil, List.map_cons, List.map_nil, List.cons_append, List.nil_append, List.replicate, List.set_cons_succ, List.set_cons_zero, List.getElem?_cons_zero, List.getElem?_cons_succ]
  refine ⟨⟨by omega, by omega, by unfold sizeLine; omega⟩, ?_⟩
  refine forW_inv _ (fun i ρ μ' => ∃ v2 v3, ρ = [some (.int n), some (.lst (((List.range i).flatMap (rowS n)).map stD)), v2, v3] ∧ μ' = μ) (fun _ _ _ _ => trivial) (fun i d ρ μ' hi I k2 hk2 => ?_) (fun ρ μ' I => ?_) ⟨_, _, rfl, rfl⟩
  · obtain ⟨v2, v3, rfl, rfl⟩ := I
    obtain ⟨fi, hfi, rfl⟩ := map_get hi
    obtain ⟨hlt, hfe⟩ := List.getElem?_eq_some_iff.mp hfi
    rw [List.getElem_range] at hfe
    rw [List.length_range] at hlt
    subst hfe
    refine ss ?_
    simp only [wpF, wpS, wpE, wpEs, wpC, wpO, a_nm, asgW, asgsW, wipeD, wk_L, wk_T, wk_1, wk_2, wk_E, wk_Z, wk_ZT, b_add, b_sub, b_fdiv, b_mod, b_mul, b_pow, b_addT, b_addL, b_addS, b_addB, b_subB, t_str, t_strB, c_lt, c_le, c_gt, c_ge, c_eq, c_ne, c_isN, c_isNN, c_inL, c_inT, c_ninL, c_ninT, sl_L, sl_T, sl_S, i_T0, i_T1, i_L0, i_L1, vw_T, vw_L, vw_I, vw_N, vw_B, vw_S, u_b, t_lenL, t_lenT, t_lenS, t_abs, up_S, t_min2, t_max2, t_any, t_all, t_toTL, t_toTT, t_toLT, t_toLL, t_sortL, t_sortT, nw_f, List.length_cons, List.length_nil, List.map_cons, List.map_nil, List.cons_append, List.nil_append, List.replicate, List.set_cons_succ, List.set_cons_zero, List.getElem?_cons_zero, List.getElem?_cons_succ]
    refine ⟨⟨by omega, by omega, by omega, by omega, by unfold sizeLine; omega⟩, ?_⟩
    refine lcW_each (fun (j : Nat) => D.int ((i : Int) + (j : Int))) (fun (j : Nat) => stD ((i : Int), (i : Int) + (j : Int))) trivial (List.range (n - (i : Int)).toNat) (fun j hj k3 q3 => ?_) ?_
    · simp only [if_true]
      exact ⟨by decide, q3⟩
    · have q1 := flat_len (f := rowS n) (c := 100) (List.range i) fun a _ => row_len h1
      rw [List.length_range] at q1
      refine ⟨?_, ?_⟩
      · rw [List.length_map, List.length_map, List.length_range]
        unfold sizeLine
        omega
      · refine ss0 (G := G) ?_
        refine hk2 _ _ ⟨some (.int (i : Int)), v3, ?_, rfl⟩
        rw [List.range_succ, List.flatMap_append, List.flatMap_singleton, List.map_append]
        unfold rowS
        rw [List.map_map (l := List.range (n - (i : Int)).toNat)]
        rfl
  · obtain ⟨v2, v3, rfl, rfl⟩ := I
    refine ss ?_
    simp only [wpF, wpS, wpE, wpEs, wpC, wpO, a_nm, asgW, asgsW, wipeD, wk_L, wk_T, wk_1, wk_2, wk_E, wk_Z, wk_ZT, b_add, b_sub, b_fdiv, b_mod, b_mul, b_pow, b_addT, b_addL, b_addS, b_addB, b_subB, t_str, t_strB, c_lt, c_le, c_gt, c_ge, c_eq, c_ne, c_isN, c_isNN, c_inL, c_inT, c_ninL, c_ninT, sl_L, sl_T, sl_S, i_T0, i_T1, i_L0, i_L1, vw_T, vw_L, vw_I, vw_N, vw_B, vw_S, u_b, t_lenL, t_lenT, t_lenS, t_abs, up_S, t_min2, t_max2, t_any, t_all, t_toTL, t_toTT, t_toLT, t_toLL, t_sortL, t_sortT, nw_f, List.length_cons, List.length_nil, List.map_cons, List.map_nil, List.cons_append, List.nil_append, List.replicate, List.set_cons_succ, List.set_cons_zero, List.getElem?_cons_zero, List.getElem?_cons_succ]
    rw [List.length_map, List.length_range, ← allS_eq]
    exact h
/-- the paper is one, and shows as many -/
def SpPaperSo (G : Glb) : Prop := ∀ (l : List St2) (s : St2) (ps : List Int) (c : List St2) (μ : Mu) (k : KD) (x : KX), Paper l s ps → c.length = ps.length → k (.bl true) μ → G.fn "_law_paper_so" [stsD l, stD s, .tup (ps.map D.int), stsD c] μ k x
theorem paper_one {l : List St2} {s o : St2} {ps : List Int} (P : Paper l s ps) (h : o ∈ withinL l s) : (ps.filter fun p => hasB o p).length ≤ 1 := by
  have nd : (ps.filter fun p => hasB o p).Nodup := (P.ris.imp fun {a b} h => (by omega : a ≠ b)).sublist List.filter_sublist
  have all : ∀ a ∈ ps.filter fun p => hasB o p, ∀ b ∈ ps.filter fun p => hasB o p, a = b := fun a ha b hb =>
    P.apart o h a (List.mem_filter.mp ha).1 b (List.mem_filter.mp hb).1 (List.mem_filter.mp ha).2 (List.mem_filter.mp hb).2
  cases e : ps.filter fun p => hasB o p with
  | nil => exact Nat.zero_le _
  | cons a r =>
    rw [e] at nd all
    cases r with
    | nil => exact Nat.le_refl _
    | cons b r =>
      have := all a List.mem_cons_self b (List.mem_cons_of_mem _ List.mem_cons_self)
      rw [this] at nd
      exact absurd (List.mem_cons_self) (List.nodup_cons.mp nd).1
theorem p_paper_so (h1 : SpIn "_law_in" G) {l : List St2} {s : St2} {ps : List Int} {c : List St2} (P : Paper l s ps) (hl : c.length = ps.length) (h : k (.bl true) μ) : wpF G dl_paper_so [stsD l, stD s, .tup (ps.map D.int), stsD c] μ k x := by
  simp only [dl_paper_so, wpF, wpS, wpE, wpEs, wpC, wpO, a_nm, asgW, asgsW, wipeD, wk_L, wk_T, wk_1, wk_2, wk_E, wk_Z, wk_ZT, b_add, b_sub, b_fdiv, b_mod, b_mul, b_pow, b_addT, b_addL, b_addS, b_addB, b_subB, t_str, t_strB, c_lt, c_le, c_gt, c_ge, c_eq, c_ne, c_isN, c_isNN, c_inL, c_inT, c_ninL, c_ninT, sl_L, sl_T, sl_S, i_T0, i_T1, i_L0, i_L1, vw_T, vw_L, vw_I, vw_N, vw_B, vw_S, u_b, t_lenL, t_lenT, t_lenS, t_abs, up_S, t_min2, t_max2, t_any, t_all, t_toTL, t_toTT, t_toLT, t_toLL, t_sortL, t_sortT, nw_f, List.length_cons, List.length_nil, List.map_cons, List.map_nil, List.cons_append, List.nil_append, List.replicate, List.set_cons_succ, List.set_cons_zero, List.getElem?_cons_zero, List.getElem?_cons_succ]
  refine ⟨trivial, ss ?_⟩
  simp only [stsD, wpF, wpS, wpE, wpEs, wpC, wpO, a_nm, asgW, asgsW, wipeD, wk_L, wk_T, wk_1, wk_2, wk_E, wk_Z, wk_ZT, b_add, b_sub, b_fdiv, b_mod, b_mul, b_pow, b_addT, b_addL, b_addS, b_addB, b_subB, t_str, t_strB, c_lt, c_le, c_gt, c_ge, c_eq, c_ne, c_isN, c_isNN, c_inL, c_inT, c_ninL, c_ninT, sl_L, sl_T, sl_S, i_T0, i_T1, i_L0, i_L1, vw_T, vw_L, vw_I, vw_N, vw_B, vw_S, u_b, t_lenL, t_lenT, t_lenS, t_abs, up_S, t_min2, t_max2, t_any, t_all, t_toTL, t_toTT, t_toLT, t_toLL, t_sortL, t_sortT, nw_f, List.length_cons, List.length_nil, List.map_cons, List.map_nil, List.cons_append, List.nil_append, List.replicate, List.set_cons_succ, List.set_cons_zero, List.getElem?_cons_zero, List.getElem?_cons_succ, isNon, Bool.false_eq_true, if_false]
  refine ⟨rfl, rfl, ?_⟩
  have e : eqD (.int ((ps.map D.int).length : Int)) (.int ((c.map stD).length : Int)) = true := by
    rw [eq_int, List.length_map, List.length_map, hl, decide_eq_true rfl]
  simp only [e, Bool.not_true, Bool.false_eq_true, if_false]
  refine ss0 (G := G) ?_
  refine ss ?_
  simp only [wpF, wpS, wpE, wpEs, wpC, wpO, a_nm, asgW, asgsW, wipeD, wk_L, wk_T, wk_1, wk_2, wk_E, wk_Z, wk_ZT, b_add, b_sub, b_fdiv, b_mod, b_mul, b_pow, b_addT, b_addL, b_addS, b_addB, b_subB, t_str, t_strB, c_lt, c_le, c_gt, c_ge, c_eq, c_ne, c_isN, c_isNN, c_inL, c_inT, c_ninL, c_ninT, sl_L, sl_T, sl_S, i_T0, i_T1, i_L0, i_L1, vw_T, vw_L, vw_I, vw_N, vw_B, vw_S, u_b, t_lenL, t_lenT, t_lenS, t_abs, up_S, t_min2, t_max2, t_any, t_all, t_toTL, t_toTT, t_toLT, t_toLL, t_sortL, t_sortT, nw_f, List.length_cons, List.length_nil, List.map_cons, List.map_nil, List.cons_append, List.nil_append, List.replicate, List.set_cons_succ, List.set_cons_zero, List.getElem?_cons_zero, List.getElem?_cons_succ]
  refine forW_inv _ (fun i ρ μ' => ∃ v4 v5 v6, ρ = [some (.tup (l.map stD)), some (stD s), some (.tup (ps.map D.int)), some (.tup (c.map stD)), v4, v5, v6] ∧ μ' = μ) (fun _ _ _ _ => trivial) (fun i d ρ μ' hi I k2 hk2 => ?_) (fun ρ μ' I => ?_) ⟨_, _, _, rfl, rfl⟩
  · obtain ⟨v4, v5, v6, rfl, rfl⟩ := I
    obtain ⟨o, ho, rfl⟩ := map_get hi
    simp only [stD, wpF, wpS, wpE, wpEs, wpC, wpO, a_nm, asgW, asgsW, wipeD, wk_L, wk_T, wk_1, wk_2, wk_E, wk_Z, wk_ZT, b_add, b_sub, b_fdiv, b_mod, b_mul, b_pow, b_addT, b_addL, b_addS, b_addB, b_subB, t_str, t_strB, c_lt, c_le, c_gt, c_ge, c_eq, c_ne, c_isN, c_isNN, c_inL, c_inT, c_ninL, c_ninT, sl_L, sl_T, sl_S, i_T0, i_T1, i_L0, i_L1, vw_T, vw_L, vw_I, vw_N, vw_B, vw_S, u_b, t_lenL, t_lenT, t_lenS, t_abs, up_S, t_min2, t_max2, t_any, t_all, t_toTL, t_toTT, t_toLT, t_toLL, t_sortL, t_sortT, nw_f, List.length_cons, List.length_nil, List.map_cons, List.map_nil, List.cons_append, List.nil_append, List.replicate, List.set_cons_succ, List.set_cons_zero, List.getElem?_cons_zero, List.getElem?_cons_succ]
    refine ⟨trivial, ss ?_⟩
    simp only [wpF, wpS, wpE, wpEs, wpC, wpO, a_nm, asgW, asgsW, wipeD, wk_L, wk_T, wk_1, wk_2, wk_E, wk_Z, wk_ZT, b_add, b_sub, b_fdiv, b_mod, b_mul, b_pow, b_addT, b_addL, b_addS, b_addB, b_subB, t_str, t_strB, c_lt, c_le, c_gt, c_ge, c_eq, c_ne, c_isN, c_isNN, c_inL, c_inT, c_ninL, c_ninT, sl_L, sl_T, sl_S, i_T0, i_T1, i_L0, i_L1, vw_T, vw_L, vw_I, vw_N, vw_B, vw_S, u_b, t_lenL, t_lenT, t_lenS, t_abs, up_S, t_min2, t_max2, t_any, t_all, t_toTL, t_toTT, t_toLT, t_toLL, t_sortL, t_sortT, nw_f, List.length_cons, List.length_nil, List.map_cons, List.map_nil, List.cons_append, List.nil_append, List.replicate, List.set_cons_succ, List.set_cons_zero, List.getElem?_cons_zero, List.getElem?_cons_succ]
    refine ⟨by decide, ?_⟩
    refine h1 o s _ _ _ ?_
    have fin : k2 [some (.tup (l.map stD)), some (stD s), some (.tup (ps.map D.int)), some (.tup (c.map stD)), some (.int o.1), some (.int o.2), v6] μ' := hk2 _ _ ⟨_, _, _, rfl, rfl⟩
    by_cases ci : inB o s = true
    · rw [ci]
      simp only [wpF, wpS, wpE, wpEs, wpC, wpO, a_nm, asgW, asgsW, wipeD, wk_L, wk_T, wk_1, wk_2, wk_E, wk_Z, wk_ZT, b_add, b_sub, b_fdiv, b_mod, b_mul, b_pow, b_addT, b_addL, b_addS, b_addB, b_subB, t_str, t_strB, c_lt, c_le, c_gt, c_ge, c_eq, c_ne, c_isN, c_isNN, c_inL, c_inT, c_ninL, c_ninT, sl_L, sl_T, sl_S, i_T0, i_T1, i_L0, i_L1, vw_T, vw_L, vw_I, vw_N, vw_B, vw_S, u_b, t_lenL, t_lenT, t_lenS, t_abs, up_S, t_min2, t_max2, t_any, t_all, t_toTL, t_toTT, t_toLT, t_toLL, t_sortL, t_sortT, nw_f, List.length_cons, List.length_nil, List.map_cons, List.map_nil, List.cons_append, List.nil_append, List.replicate, List.set_cons_succ, List.set_cons_zero, List.getElem?_cons_zero, List.getElem?_cons_succ, if_true]
      refine lcW_filt D.int (fun p => hasB o p) D.int trivial ps (fun p hp k3 q3 => ?_) ?_
      · simp only [wpF, wpS, wpE, wpEs, wpC, wpO, a_nm, asgW, asgsW, wipeD, wk_L, wk_T, wk_1, wk_2, wk_E, wk_Z, wk_ZT, b_add, b_sub, b_fdiv, b_mod, b_mul, b_pow, b_addT, b_addL, b_addS, b_addB, b_subB, t_str, t_strB, c_lt, c_le, c_gt, c_ge, c_eq, c_ne, c_isN, c_isNN, c_inL, c_inT, c_ninL, c_ninT, sl_L, sl_T, sl_S, i_T0, i_T1, i_L0, i_L1, vw_T, vw_L, vw_I, vw_N, vw_B, vw_S, u_b, t_lenL, t_lenT, t_lenS, t_abs, up_S, t_min2, t_max2, t_any, t_all, t_toTL, t_toTT, t_toLT, t_toLL, t_sortL, t_sortT, nw_f, List.length_cons, List.length_nil, List.map_cons, List.map_nil, List.cons_append, List.nil_append, List.replicate, List.set_cons_succ, List.set_cons_zero, List.getElem?_cons_zero, List.getElem?_cons_succ]
        unfold hasB at q3
        by_cases c1 : o.1 ≤ p
        · rw [decide_eq_true c1, if_pos rfl]
          rw [decide_eq_true c1, Bool.true_and] at q3
          exact q3
        · rw [decide_eq_false c1, if_neg Bool.false_ne_true]
          rw [decide_eq_false c1, Bool.false_and, if_neg Bool.false_ne_true] at q3
          simp only [Bool.false_eq_true, if_false]
          exact q3
      · have one := paper_one P (List.mem_filter.mpr ⟨List.mem_of_getElem? ho, ci⟩)
        have ng : ¬ (1 : Int) < (((ps.filter fun p => hasB o p).map D.int).length : Int) := by rw [List.length_map]; omega
        rw [decide_eq_false ng, if_neg Bool.false_ne_true]
        refine ss0 (G := G) ?_
        refine ss0 (G := G) ?_
        exact fin
    · rw [Bool.not_eq_true] at ci
      rw [ci]
      simp only [wpF, wpS, wpE, wpEs, wpC, wpO, a_nm, asgW, asgsW, wipeD, wk_L, wk_T, wk_1, wk_2, wk_E, wk_Z, wk_ZT, b_add, b_sub, b_fdiv, b_mod, b_mul, b_pow, b_addT, b_addL, b_addS, b_addB, b_subB, t_str, t_strB, c_lt, c_le, c_gt, c_ge, c_eq, c_ne, c_isN, c_isNN, c_inL, c_inT, c_ninL, c_ninT, sl_L, sl_T, sl_S, i_T0, i_T1, i_L0, i_L1, vw_T, vw_L, vw_I, vw_N, vw_B, vw_S, u_b, t_lenL, t_lenT, t_lenS, t_abs, up_S, t_min2, t_max2, t_any, t_all, t_toTL, t_toTT, t_toLT, t_toLL, t_sortL, t_sortT, nw_f, List.length_cons, List.length_nil, List.map_cons, List.map_nil, List.cons_append, List.nil_append, List.replicate, List.set_cons_succ, List.set_cons_zero, List.getElem?_cons_zero, List.getElem?_cons_succ, Bool.false_eq_true, if_false]
      refine ss0 (G := G) ?_
      refine ss0 (G := G) ?_
      exact fin
  · obtain ⟨v4, v5, v6, rfl, rfl⟩ := I
    refine ss ?_
    simp only [stD, wpF, wpS, wpE, wpEs, wpC, wpO, a_nm, asgW, asgsW, wipeD, wk_L, wk_T, wk_1, wk_2, wk_E, wk_Z, wk_ZT, b_add, b_sub, b_fdiv, b_mod, b_mul, b_pow, b_addT, b_addL, b_addS, b_addB, b_subB, t_str, t_strB, c_lt, c_le, c_gt, c_ge, c_eq, c_ne, c_isN, c_isNN, c_inL, c_inT, c_ninL, c_ninT, sl_L, sl_T, sl_S, i_T0, i_T1, i_L0, i_L1, vw_T, vw_L, vw_I, vw_N, vw_B, vw_S, u_b, t_lenL, t_lenT, t_lenS, t_abs, up_S, t_min2, t_max2, t_any, t_all, t_toTL, t_toTT, t_toLT, t_toLL, t_sortL, t_sortT, nw_f, List.length_cons, List.length_nil, List.map_cons, List.map_nil, List.cons_append, List.nil_append, List.replicate, List.set_cons_succ, List.set_cons_zero, List.getElem?_cons_zero, List.getElem?_cons_succ]
    refine lcW_filt D.int (fun p => !hasB s p) D.int trivial ps (fun p hp k3 q3 => ?_) ?_
    · simp only [wpF, wpS, wpE, wpEs, wpC, wpO, a_nm, asgW, asgsW, wipeD, wk_L, wk_T, wk_1, wk_2, wk_E, wk_Z, wk_ZT, b_add, b_sub, b_fdiv, b_mod, b_mul, b_pow, b_addT, b_addL, b_addS, b_addB, b_subB, t_str, t_strB, c_lt, c_le, c_gt, c_ge, c_eq, c_ne, c_isN, c_isNN, c_inL, c_inT, c_ninL, c_ninT, sl_L, sl_T, sl_S, i_T0, i_T1, i_L0, i_L1, vw_T, vw_L, vw_I, vw_N, vw_B, vw_S, u_b, t_lenL, t_lenT, t_lenS, t_abs, up_S, t_min2, t_max2, t_any, t_all, t_toTL, t_toTT, t_toLT, t_toLL, t_sortL, t_sortT, nw_f, List.length_cons, List.length_nil, List.map_cons, List.map_nil, List.cons_append, List.nil_append, List.replicate, List.set_cons_succ, List.set_cons_zero, List.getElem?_cons_zero, List.getElem?_cons_succ]
      unfold hasB at q3
      by_cases c1 : s.1 ≤ p
      · rw [decide_eq_true c1, if_pos rfl]
        rw [decide_eq_true c1, Bool.true_and] at q3
        exact q3
      · rw [decide_eq_false c1, if_neg Bool.false_ne_true]
        rw [decide_eq_false c1, Bool.false_and] at q3
        exact q3
    · have none : ps.filter (fun p => !hasB s p) = [] := List.filter_eq_nil_iff.mpr fun p hp => by
        rw [Bool.not_eq_true, Bool.not_eq_false', has_iff]
        exact P.ins p hp
      rw [none]
      exact ⟨by decide, rfl, rfl, h⟩
end SR

/-! things of any kind: the odd ones and what is spoilt -/
namespace SR
open PySem L2
variable {G : Glb} {μ : Mu} {k : KD} {x : KX}

mutual
/-- data of bounded sizes; a step of spoiling leaves it bounded by n + 1 -/
def pl (n : Nat) : Nat → D → Bool
  | _, .non => true
  | _, .bl _ => true
  | _, .int i => decide (i.natAbs ≤ 10 ^ 30 + 1000 * n)
  | _, .str s => (s.cps.toList.all fun c => decide (c < 128)) && decide (s.length ≤ 100 * 3 ^ n)
  | e + 1, .tup l => decide (l.length ≤ 57 + n) && pls n e l
  | e + 1, .lst l => decide (l.length ≤ 57 + n) && pls n e l
  | 0, .tup _ => false
  | 0, .lst _ => false
  | _, .ref _ => false
  | _, .scr _ => false
def pls (n : Nat) : Nat → List D → Bool
  | _, [] => true
  | e, d :: r => pl n e d && pls n e r
end
theorem pls_iff {n e : Nat} : ∀ {l : List D}, pls n e l = true ↔ ∀ d ∈ l, pl n e d = true
  | [] => by simp [pls]
  | d :: r => by
    have h : pls n e (d :: r) = (pl n e d && pls n e r) := by cases e <;> rfl
    rw [h, Bool.and_eq_true, pls_iff (l := r)]
    simp
theorem pl_int {n e : Nat} {i : Int} : pl n e (.int i) = decide (i.natAbs ≤ 10 ^ 30 + 1000 * n) := by cases e <;> rfl
theorem pl_str {n e : Nat} {s : Str} : pl n e (.str s) = ((s.cps.toList.all fun c => decide (c < 128)) && decide (s.length ≤ 100 * 3 ^ n)) := by cases e <;> rfl
theorem pl_tup {n e : Nat} {l : List D} : pl n (e + 1) (.tup l) = (decide (l.length ≤ 57 + n) && pls n e l) := rfl
theorem pl_lst {n e : Nat} {l : List D} : pl n (e + 1) (.lst l) = (decide (l.length ≤ 57 + n) && pls n e l) := rfl
theorem pl_tup' {n e : Nat} {l : List D} (h1 : l.length ≤ 57 + n) (h2 : ∀ d ∈ l, pl n e d = true) : pl n (e + 1) (.tup l) = true := by
  rw [pl_tup, decide_eq_true h1, pls_iff.mpr h2]
  rfl
theorem pl_lst' {n e : Nat} {l : List D} (h1 : l.length ≤ 57 + n) (h2 : ∀ d ∈ l, pl n e d = true) : pl n (e + 1) (.lst l) = true := by
  rw [pl_lst, decide_eq_true h1, pls_iff.mpr h2]
  rfl
mutual
theorem pl_mono {n m : Nat} (hn : n ≤ m) : ∀ (d : D) {e f : Nat}, e ≤ f → pl n e d = true → pl m f d = true
  | .non, e, f, _, _ => by cases f <;> rfl
  | .bl _, e, f, _, _ => by cases f <;> rfl
  | .int i, e, f, _, h => by
    rw [pl_int, decide_eq_true_eq] at *
    omega
  | .str s, e, f, _, h => by
    rw [pl_str, Bool.and_eq_true, decide_eq_true_eq] at *
    exact ⟨h.1, Nat.le_trans h.2 (Nat.mul_le_mul_left _ (Nat.pow_le_pow_right (by decide) hn))⟩
  | .tup l, 0, f, _, h => by cases h
  | .lst l, 0, f, _, h => by cases h
  | .tup l, e + 1, 0, he, h => absurd he (by omega)
  | .lst l, e + 1, 0, he, h => absurd he (by omega)
  | .tup l, e + 1, f + 1, he, h => by
    rw [pl_tup, Bool.and_eq_true, decide_eq_true_eq] at *
    exact ⟨by omega, pls_mono hn l (by omega) h.2⟩
  | .lst l, e + 1, f + 1, he, h => by
    rw [pl_lst, Bool.and_eq_true, decide_eq_true_eq] at *
    exact ⟨by omega, pls_mono hn l (by omega) h.2⟩
  | .ref _, e, f, _, h => by cases e <;> cases h
  | .scr _, e, f, _, h => by cases e <;> cases h
theorem pls_mono {n m : Nat} (hn : n ≤ m) : ∀ (l : List D) {e f : Nat}, e ≤ f → pls n e l = true → pls m f l = true
  | [], e, f, _, _ => by cases f <;> rfl
  | d :: r, e, f, he, h => by
    have h1 : pls n e (d :: r) = (pl n e d && pls n e r) := by cases e <;> rfl
    have h2 : pls m f (d :: r) = (pl m f d && pls m f r) := by cases f <;> rfl
    rw [h1, Bool.and_eq_true] at h
    rw [h2, Bool.and_eq_true]
    exact ⟨pl_mono hn d he h.1, pls_mono hn r he h.2⟩
end
mutual
theorem pl_ok {n : Nat} : ∀ (d : D) {e f : Nat}, e ≤ f → pl n e d = true → okD f d = true
  | .non, e, f, _, _ => by cases f <;> rfl
  | .bl _, e, f, _, _ => by cases f <;> rfl
  | .int i, e, f, _, h => by cases f <;> rfl
  | .str s, e, f, _, h => by
    rw [pl_str, Bool.and_eq_true] at h
    have q : PyData.strOk s = true := by
      show s.cps.all _ = true
      rw [Array.all_eq_true]
      intro i hi
      have h1 := List.all_eq_true.mp h.1 s.cps[i] (by simp)
      rw [decide_eq_true_eq] at h1 ⊢
      omega
    cases f <;> exact q
  | .tup l, 0, f, _, h => by cases h
  | .lst l, 0, f, _, h => by cases h
  | .tup l, e + 1, 0, he, h => absurd he (by omega)
  | .lst l, e + 1, 0, he, h => absurd he (by omega)
  | .tup l, e + 1, f + 1, he, h => by
    rw [pl_tup, Bool.and_eq_true] at h
    exact pls_ok l (by omega) h.2
  | .lst l, e + 1, f + 1, he, h => by
    rw [pl_lst, Bool.and_eq_true] at h
    exact pls_ok l (by omega) h.2
  | .ref _, e, f, _, h => by cases e <;> cases h
  | .scr _, e, f, _, h => by cases e <;> cases h
theorem pls_ok {n : Nat} : ∀ (l : List D) {e f : Nat}, e ≤ f → pls n e l = true → okDs f l = true
  | [], e, f, _, _ => by cases f <;> rfl
  | d :: r, e, f, he, h => by
    have h1 : pls n e (d :: r) = (pl n e d && pls n e r) := by cases e <;> rfl
    have h2 : okDs f (d :: r) = (okD f d && okDs f r) := by cases f <;> rfl
    rw [h1, Bool.and_eq_true] at h
    rw [h2, pl_ok d he h.1, pls_ok r he h.2]
    rfl
end
def SpOdd (G : Glb) : Prop := ∀ (a : Addr) (μ : Mu) (k : KD) (x : KX), BagOk μ a → (∀ d μ', pl 0 3 d = true → BagBut μ a μ' → k d μ') → G.fn "_law_odd" [.ref a] μ k x
def SpSpoilt (e : Nat) (G : Glb) : Prop := ∀ (a : Addr) (d : D) (n : Nat) (μ : Mu) (k : KD) (x : KX), BagOk μ a → n ≤ 6 → pl n e d = true → (∀ d' μ', pl (n + 1) (e + 3) d' = true → BagBut μ a μ' → k d' μ') → G.fn "_law_spoilt" [.ref a, d] μ k x
def dl_spoilt : Fn where
  N := ["bag", "thing", "kind_so", "rows", "at", "other"].map Str.ofString
  np := 2
  body := [
    .asg (.nm 2) (.call "_law_take" [(.var 0), (.int 9)]),
    .ife (.and_ (.isin2 (.var 1) "tuple" "list") (.and_ (.cmp .gt (.bt .len [(.var 1)]) (.int 0)) (.cmp .gt (.var 2) (.int 0)))) [
      .asg (.nm 3) (.bt (.toList true) [(.var 1)]),
      .asg (.nm 4) (.call "_law_take" [(.var 0), (.bt .len [(.var 3)])]),
      .ife (.cmp .eq (.var 2) (.int 1)) [
        .asg (.nm 3) (.bin .add (.slc false (.var 3) none (some (.var 4))) (.slc false (.var 3) (some (.bin .add (.var 4) (.int 1))) none))] [
        .ife (.cmp .eq (.var 2) (.int 2)) [
          .asg (.nm 3) (.bin .add (.slc false (.var 3) none (some (.bin .add (.var 4) (.int 1)))) (.slc false (.var 3) (some (.var 4)) none))] [
          .ife (.cmp .eq (.var 2) (.int 3)) [
            .asg (.nm 5) (.call "_law_take" [(.var 0), (.bt .len [(.var 3)])]),
            .swp (.var 3) (.var 4) (.var 3) (.var 5) (.ix (.var 3) (.var 5)) (.ix (.var 3) (.var 4))] [
            .ife (.cmp .eq (.var 2) (.int 4)) [
              .ret (.ite (.isin (.var 1) "tuple") (.frz (.var 3)) (.bt .toTup [(.var 3)]))] [
              .setI (.var 3) (.var 4) (.call "_law_spoilt" [(.var 0), (.ix (.var 3) (.var 4))])]]]],
      .ret (.ite (.isin (.var 1) "tuple") (.bt .toTup [(.var 3)]) (.frz (.var 3)))] [],
    .ife (.and_ (.isin (.var 1) "str") (.cmp .gt (.var 2) (.int 1))) [
      .ret (.ix (.lst false [(.bin .add (.var 1) (.str "a")), (.slc false (.var 1) none (some (.neg (.int 1)))), (.bin .add (.var 1) (.str " ")), (.upper (.var 1)), (.bin .add (.var 1) (.var 1)), (.bin .add (.str "z") (.var 1)), (.str "")]) (.bin .sub (.var 2) (.int 2)))] [],
    .ife (.and_ (.isin (.var 1) "int") (.cmp .gt (.var 2) (.int 1))) [
      .ret (.ix (.lst false [(.bin .add (.var 1) (.int 1)), (.bin .sub (.var 1) (.int 1)), (.neg (.var 1)), (.bin .add (.var 1) (.int 1000)), (.bt .str [(.var 1)]), (.bin .add (.var 1) (.int 50)), (.tup [(.var 1)])]) (.bin .sub (.var 2) (.int 2)))] [],
    .ret (.call "_law_odd" [(.var 0)])]

def dl_odd : Fn where
  N := ["bag", "some"].map Str.ofString
  np := 1
  body := [
    .asg (.nm 1) (.lst false [.non, (.bl true), (.bl false), (.int 0), (.int 1), (.neg (.int 1)), (.int 5), (.bin .pow (.int 10) (.int 30)), (.str ""), (.str "a"), (.tup []), (.lst false []), (.tup [(.int 1), (.int 2)]), (.tup [(.int 2), (.int 1)]), (.tup [(.int 0), (.int 0)]), (.tup [.non]), (.tup [(.tup [(.int 0), (.int 0)])])]),
    .asg (.nm 1) (.bin .add (.var 1) (.lst false [(.tup [(.tup [(.int 0), (.int 1)]), (.tup [(.int 0), (.int 1)])]), (.tup [(.int 0), (.tup [(.int 0), (.int 1)])]), (.tup [(.tup [(.int 0), (.tup [(.int 0), (.int 1)])])]), (.lst false [(.tup [(.int 0), (.int 1)])]), (.tup [(.bl false), (.bl true)]), (.tup [(.tup [(.bl false), (.bl true)])])])),
    .ret (.ix (.var 1) (.call "_law_take" [(.var 0), (.bt .len [(.var 1)])]))]


theorem p_odd (h1 : SpTake G) {a : Addr} (hb : BagOk μ a) (h : ∀ d μ', pl 0 3 d = true → BagBut μ a μ' → k d μ') : wpF G dl_odd [.ref a] μ k x := by
  simp only [dl_odd, wpF, wpSs, wpS, wpE, wpEs, wpC, wpO, a_nm, asgW, asgsW, wipeD, wk_L, wk_T, wk_1, wk_2, wk_E, wk_Z, wk_ZT, b_add, b_sub, b_fdiv, b_mod, b_mul, b_pow, b_addT, b_addL, b_addS, b_addB, b_subB, t_str, t_strB, c_lt, c_le, c_gt, c_ge, c_eq, c_ne, c_isN, c_isNN, c_inL, c_inT, c_ninL, c_ninT, sl_L, sl_T, sl_S, i_T0, i_T1, i_L0, i_L1, vw_T, vw_L, vw_I, vw_N, vw_B, vw_S, u_b, t_lenL, t_lenT, t_lenS, t_abs, up_S, t_min2, t_max2, t_any, t_all, t_toTL, t_toTT, t_toLT, t_toLL, t_sortL, t_sortT, nw_f, List.length_cons, List.length_nil, List.map_cons, List.map_nil, List.cons_append, List.nil_append, List.replicate, List.set_cons_succ, List.set_cons_zero, List.getElem?_cons_zero, List.getElem?_cons_succ]
  refine ⟨trivial, ⟨by decide, by decide, by decide⟩, ?_⟩
  repeat' refine And.intro (by decide) ?_
  refine h1 a _ _ _ _ hb (by decide) (by decide) fun r μ' r0 r1 b => ?_
  generalize hL : ([_, _, _, _, _, _, _, _, _, _, _, _, _, _, _, _, _, _, _, _, _, _, _] : List D) = L
  have hlen : L.length = 23 := by rw [← hL]; rfl
  have hall : (L.all fun d => pl 0 3 d) = true := by rw [← hL]; decide +kernel
  have r1' : r < 23 := r1
  have hr : r.toNat < L.length := by omega
  have er : (r.toNat : Int) = r := by omega
  have q := i_L (μ := μ') (k := k) (atN hr)
  rw [er] at q
  rw [q]
  exact h _ _ (List.all_eq_true.mp hall _ (List.getElem_mem hr)) b

/-! ### spoiling -/
theorem cut_to {α : Type} {l : List α} {i : Nat} (h : i ≤ l.length) : cutD l none (some (i : Int)) = l.take i := by
  unfold cutD
  rw [HT.sIx_none, HT.sIx_nat, Nat.min_eq_left h, List.drop_zero, Nat.sub_zero]
theorem t_lenR {a : Addr} {l : List D} (h : μ a = some (.lst l)) : btW .len [.ref a] μ k = k (.int (l.length : Int)) μ := by
  simp only [btW, vw, vwr, h]
theorem t_toTR {a : Addr} {l : List D} (h : μ a = some (.lst l)) : btW .toTup [.ref a] μ k = k (.tup l) μ := by
  simp only [btW, vw, vwr, h]
theorem set_at {f : Addr} {l : List D} {i : Nat} {v : D} {kk : Mu → Prop} (hm : μ f = some (.lst l)) (hl : i < l.length) (h : kk (μ.set f (.lst (l.set i v)))) : setW (.ref f) (.int (i : Int)) v μ kk := by
  have e : ixN l.length (i : Int) = some i := by
    unfold ixN
    rw [if_pos (by omega), if_pos (by omega), Int.toNat_natCast]
  simp only [setW, hm, e]
  exact h
theorem bag_new {a r : Addr} {o : MO} {μ' : Mu} (h : BagBut μ a μ') (hr : μ r = none) (hne : r ≠ a) : BagBut μ a (μ'.set r o) := by
  obtain ⟨⟨p, q, hb, h0⟩, hk⟩ := h
  exact ⟨⟨p, q, (set_ne (Ne.symm hne)).trans hb, h0⟩, fun b o' hba hbo => by
    have hbr : b ≠ r := fun e => by rw [e, hr] at hbo; cases hbo
    rw [set_ne hbr]
    exact hk b o' hba hbo⟩
theorem bag_del {a r : Addr} {μ' : Mu} (h : BagBut μ a μ') (hr : μ r = none) (hne : r ≠ a) : BagBut μ a (μ'.del r) := by
  obtain ⟨⟨p, q, hb, h0⟩, hk⟩ := h
  have dl : ∀ b, b ≠ r → μ'.del r b = μ' b := fun b hb => if_neg hb
  exact ⟨⟨p, q, (dl a (Ne.symm hne)).trans hb, h0⟩, fun b o' hba hbo => by
    have hbr : b ≠ r := fun e => by rw [e, hr] at hbo; cases hbo
    rw [dl b hbr]
    exact hk b o' hba hbo⟩
theorem bag_refl {a : Addr} (h : BagOk μ a) : BagBut μ a μ := ⟨h, fun _ _ _ e => e⟩
theorem new_ne {a r : Addr} (h : BagOk μ a) (hr : μ r = none) : r ≠ a := fun e => by
  obtain ⟨p, q, hb, _⟩ := h
  rw [e, hb] at hr
  cases hr
/-- tuple or list, as d was -/
def asD (d : D) (r : List D) : D := if isTy "tuple" d = true then .tup r else .lst r
def asX (d : D) (r : List D) : D := if isTy "tuple" d = true then .lst r else .tup r
theorem pl_as {n e : Nat} {d : D} {r : List D} (h1 : r.length ≤ 57 + n) (h2 : ∀ d ∈ r, pl n e d = true) : pl n (e + 1) (asD d r) = true ∧ pl n (e + 1) (asX d r) = true := by
  unfold asD asX
  split
  · exact ⟨pl_tup' h1 h2, pl_lst' h1 h2⟩
  · exact ⟨pl_lst' h1 h2, pl_tup' h1 h2⟩
/-- the last row of the first case, with rows a reference or at rest -/
theorem sp_rest {a : Addr} {d : D} {c : D} {o1 o2 : Option D} {l : List D} {K : SE} (hd : okT d = true) (hv : vw μ d = d) (hR : K.rt = k) (h : k (asD d l) μ) :
    wpSs G [.ret (.ite (.isin (.var 1) "tuple") (.bt .toTup [(.var 3)]) (.frz (.var 3)))] [some (.ref a), some d, some c, some (.lst l), o1, o2] μ K := by
  refine ss ?_
  simp only [wpF, wpS, wpE, wpEs, wpC, wpO, a_nm, asgW, asgsW, wipeD, wk_L, wk_T, wk_1, wk_2, wk_E, wk_Z, wk_ZT, b_add, b_sub, b_fdiv, b_mod, b_mul, b_pow, b_addT, b_addL, b_addS, b_addB, b_subB, t_str, t_strB, c_lt, c_le, c_gt, c_ge, c_eq, c_ne, c_isN, c_isNN, c_inL, c_inT, c_ninL, c_ninT, sl_L, sl_T, sl_S, i_T0, i_T1, i_L0, i_L1, vw_T, vw_L, vw_I, vw_N, vw_B, vw_S, u_b, t_lenL, t_lenT, t_lenS, t_abs, up_S, t_min2, t_max2, t_any, t_all, t_toTL, t_toTT, t_toLT, t_toLL, t_sortL, t_sortT, nw_f, List.length_cons, List.length_nil, List.map_cons, List.map_nil, List.cons_append, List.nil_append, List.replicate, List.set_cons_succ, List.set_cons_zero, List.getElem?_cons_zero, List.getElem?_cons_succ, hv]
  refine ⟨hd, ?_⟩
  rw [hR]
  unfold asD at h
  by_cases e : isTy "tuple" d = true
  · rw [if_pos e] at h
    rw [if_pos e]
    exact h
  · rw [if_neg e] at h
    rw [if_neg e, fz_L]
    exact h
theorem sp_restR {a r : Addr} {d : D} {c : D} {o1 o2 : Option D} {l : List D} {K : SE} (hd : okT d = true) (hv : vw μ d = d) (hR : K.rt = k) (hr : μ r = some (.lst l)) (h1 : k (asD d l) μ) (h2 : k (asD d l) (μ.del r)) :
    wpSs G [.ret (.ite (.isin (.var 1) "tuple") (.bt .toTup [(.var 3)]) (.frz (.var 3)))] [some (.ref a), some d, some c, some (.ref r), o1, o2] μ K := by
  refine ss ?_
  simp only [wpF, wpS, wpE, wpEs, wpC, wpO, a_nm, asgW, asgsW, wipeD, wk_L, wk_T, wk_1, wk_2, wk_E, wk_Z, wk_ZT, b_add, b_sub, b_fdiv, b_mod, b_mul, b_pow, b_addT, b_addL, b_addS, b_addB, b_subB, t_str, t_strB, c_lt, c_le, c_gt, c_ge, c_eq, c_ne, c_isN, c_isNN, c_inL, c_inT, c_ninL, c_ninT, sl_L, sl_T, sl_S, i_T0, i_T1, i_L0, i_L1, vw_T, vw_L, vw_I, vw_N, vw_B, vw_S, u_b, t_lenL, t_lenT, t_lenS, t_abs, up_S, t_min2, t_max2, t_any, t_all, t_toTL, t_toTT, t_toLT, t_toLL, t_sortL, t_sortT, nw_f, List.length_cons, List.length_nil, List.map_cons, List.map_nil, List.cons_append, List.nil_append, List.replicate, List.set_cons_succ, List.set_cons_zero, List.getElem?_cons_zero, List.getElem?_cons_succ, hv]
  refine ⟨hd, ?_⟩
  rw [hR]
  unfold asD at h1 h2
  by_cases e : isTy "tuple" d = true
  · rw [if_pos e] at h1
    rw [if_pos e, t_toTR hr]
    exact h1
  · rw [if_neg e] at h2
    rw [if_neg e, fz_R hr]
    exact h2
def seqB (d : D) (l : List D) : Prop := d = .tup l ∨ d = .lst l
theorem sp_fst {P : Prop} (b : Bool) (h : if b = true then P else P) : P := by cases b <;> exact h
end SR

/-! things spoilt -/
namespace SR
open PySem L2
variable {G : Glb} {μ : Mu} {k : KD} {x : KX}

def spSeq : List S := [
      .asg (.nm 3) (.bt (.toList true) [(.var 1)]),
      .asg (.nm 4) (.call "_law_take" [(.var 0), (.bt .len [(.var 3)])]),
      .ife (.cmp .eq (.var 2) (.int 1)) [
        .asg (.nm 3) (.bin .add (.slc false (.var 3) none (some (.var 4))) (.slc false (.var 3) (some (.bin .add (.var 4) (.int 1))) none))] [
        .ife (.cmp .eq (.var 2) (.int 2)) [
          .asg (.nm 3) (.bin .add (.slc false (.var 3) none (some (.bin .add (.var 4) (.int 1)))) (.slc false (.var 3) (some (.var 4)) none))] [
          .ife (.cmp .eq (.var 2) (.int 3)) [
            .asg (.nm 5) (.call "_law_take" [(.var 0), (.bt .len [(.var 3)])]),
            .swp (.var 3) (.var 4) (.var 3) (.var 5) (.ix (.var 3) (.var 5)) (.ix (.var 3) (.var 4))] [
            .ife (.cmp .eq (.var 2) (.int 4)) [
              .ret (.ite (.isin (.var 1) "tuple") (.frz (.var 3)) (.bt .toTup [(.var 3)]))] [
              .setI (.var 3) (.var 4) (.call "_law_spoilt" [(.var 0), (.ix (.var 3) (.var 4))])]]]],
      .ret (.ite (.isin (.var 1) "tuple") (.bt .toTup [(.var 3)]) (.frz (.var 3)))]

theorem t_len_of {d : D} {l : List D} (h : seqB d l) : btW .len [d] μ k = k (.int (l.length : Int)) μ := by
  rcases h with rfl | rfl <;> rfl
theorem t_toL_of {m : Bool} {d : D} {l : List D} (h : seqB d l) : btW (.toList m) [d] μ k = newL m l μ k := by
  rcases h with rfl | rfl <;> rfl
theorem seq_pl {n e : Nat} {d : D} {l : List D} (h : seqB d l) (hd : pl n e d = true) : ∃ f, e = f + 1 ∧ l.length ≤ 57 + n ∧ ∀ d ∈ l, pl n f d = true := by
  cases e with
  | zero => rcases h with rfl | rfl <;> cases hd
  | succ f =>
    refine ⟨f, rfl, ?_⟩
    rcases h with rfl | rfl
    · rw [pl_tup, Bool.and_eq_true, decide_eq_true_eq] at hd
      exact ⟨hd.1, pls_iff.mp hd.2⟩
    · rw [pl_lst, Bool.and_eq_true, decide_eq_true_eq] at hd
      exact ⟨hd.1, pls_iff.mp hd.2⟩
theorem seq_vw {d : D} {l : List D} (h : seqB d l) : vw μ d = d ∧ okT d = true := by
  rcases h with rfl | rfl <;> exact ⟨rfl, rfl⟩
theorem sp_seq (h1 : SpTake G) {e : Nat} (h3 : ∀ f, e = f + 1 → SpSpoilt f G) {a : Addr} {d : D} {l : List D} {n : Nat} {c : Int} (hs : seqB d l) (hb : BagOk μ a) (hn : n ≤ 6) (hd : pl n e d = true) (hl : 0 < l.length) {K : SE} (hK : K.rt = k) (hX : K.x = fun ex _ μ' => x ex μ')
    (h : ∀ d' μ', pl (n + 1) (e + 3) d' = true → BagBut μ a μ' → k d' μ') : wpSs G spSeq [some (.ref a), some d, some (.int c), none, none, none] μ K := by
  obtain ⟨f, rfl, hlen, hel⟩ := seq_pl hs hd
  have res : ∀ l' μ', l'.length ≤ 57 + (n + 1) → (∀ d ∈ l', pl (n + 1) (f + 3) d = true) → BagBut μ a μ' → k (asD d l') μ' ∧ k (asX d l') μ' := fun l' μ' q1 q2 b =>
    ⟨h _ _ (pl_as q1 q2).1 b, h _ _ (pl_as q1 q2).2 b⟩
  have hup : ∀ d ∈ l, pl (n + 1) (f + 3) d = true := fun d hd => pl_mono (by omega) d (by omega) (hel d hd)
  obtain ⟨hv, ht⟩ := seq_vw (μ := μ) hs
  unfold spSeq
  refine ss ?_
  simp only [wpF, wpS, wpE, wpEs, wpC, wpO, a_nm, asgW, asgsW, wipeD, wk_L, wk_T, wk_1, wk_2, wk_E, wk_Z, wk_ZT, b_add, b_sub, b_fdiv, b_mod, b_mul, b_pow, b_addT, b_addL, b_addS, b_addB, b_subB, t_str, t_strB, c_lt, c_le, c_gt, c_ge, c_eq, c_ne, c_isN, c_isNN, c_inL, c_inT, c_ninL, c_ninT, sl_L, sl_T, sl_S, i_T0, i_T1, i_L0, i_L1, vw_T, vw_L, vw_I, vw_N, vw_B, vw_S, u_b, t_lenL, t_lenT, t_lenS, t_abs, up_S, t_min2, t_max2, t_any, t_all, t_toTL, t_toTT, t_toLT, t_toLL, t_sortL, t_sortT, nw_f, List.length_cons, List.length_nil, List.map_cons, List.map_nil, List.cons_append, List.nil_append, List.replicate, List.set_cons_succ, List.set_cons_zero, List.getElem?_cons_zero, List.getElem?_cons_succ]
  rw [t_toL_of hs, nw_t]
  intro r hr
  have hne := new_ne hb hr
  have b1 := bag_new (o := .lst l) (bag_refl hb) hr hne
  refine ss ?_
  simp only [wpF, wpS, wpE, wpEs, wpC, wpO, a_nm, asgW, asgsW, wipeD, wk_L, wk_T, wk_1, wk_2, wk_E, wk_Z, wk_ZT, b_add, b_sub, b_fdiv, b_mod, b_mul, b_pow, b_addT, b_addL, b_addS, b_addB, b_subB, t_str, t_strB, c_lt, c_le, c_gt, c_ge, c_eq, c_ne, c_isN, c_isNN, c_inL, c_inT, c_ninL, c_ninT, sl_L, sl_T, sl_S, i_T0, i_T1, i_L0, i_L1, vw_T, vw_L, vw_I, vw_N, vw_B, vw_S, u_b, t_lenL, t_lenT, t_lenS, t_abs, up_S, t_min2, t_max2, t_any, t_all, t_toTL, t_toTT, t_toLT, t_toLL, t_sortL, t_sortT, nw_f, List.length_cons, List.length_nil, List.map_cons, List.map_nil, List.cons_append, List.nil_append, List.replicate, List.set_cons_succ, List.set_cons_zero, List.getElem?_cons_zero, List.getElem?_cons_succ]
  rw [t_lenR set_same]
  refine h1 a _ _ _ _ b1.1 (by omega) (by omega) fun i μ2 i0 i1 b2 => ?_
  obtain ⟨i, rfl⟩ := Int.eq_ofNat_of_zero_le i0
  have hi : i < l.length := by omega
  have b2' := b1.trans b2
  have r2 : μ2 r = some (.lst l) := b2.2 r _ hne set_same
  have hv2 := (seq_vw (μ := μ2) hs).1
  refine ss ?_
  simp only [wpF, wpS, wpE, wpEs, wpC, wpO, a_nm, asgW, asgsW, wipeD, wk_L, wk_T, wk_1, wk_2, wk_E, wk_Z, wk_ZT, b_add, b_sub, b_fdiv, b_mod, b_mul, b_pow, b_addT, b_addL, b_addS, b_addB, b_subB, t_str, t_strB, c_lt, c_le, c_gt, c_ge, c_eq, c_ne, c_isN, c_isNN, c_inL, c_inT, c_ninL, c_ninT, sl_L, sl_T, sl_S, i_T0, i_T1, i_L0, i_L1, vw_T, vw_L, vw_I, vw_N, vw_B, vw_S, u_b, t_lenL, t_lenT, t_lenS, t_abs, up_S, t_min2, t_max2, t_any, t_all, t_toTL, t_toTT, t_toLT, t_toLL, t_sortL, t_sortT, nw_f, List.length_cons, List.length_nil, List.map_cons, List.map_nil, List.cons_append, List.nil_append, List.replicate, List.set_cons_succ, List.set_cons_zero, List.getElem?_cons_zero, List.getElem?_cons_succ]
  refine ⟨rfl, rfl, ?_⟩
  simp only [eq_int, decide_eq_true_eq]
  by_cases c1 : c = 1
  · rw [if_pos c1]
    refine ss ?_
    simp only [wpF, wpS, wpE, wpEs, wpC, wpO, a_nm, asgW, asgsW, wipeD, wk_L, wk_T, wk_1, wk_2, wk_E, wk_Z, wk_ZT, b_add, b_sub, b_fdiv, b_mod, b_mul, b_pow, b_addT, b_addL, b_addS, b_addB, b_subB, t_str, t_strB, c_lt, c_le, c_gt, c_ge, c_eq, c_ne, c_isN, c_isNN, c_inL, c_inT, c_ninL, c_ninT, sl_L, sl_T, sl_S, i_T0, i_T1, i_L0, i_L1, vw_T, vw_L, vw_I, vw_N, vw_B, vw_S, u_b, t_lenL, t_lenT, t_lenS, t_abs, up_S, t_min2, t_max2, t_any, t_all, t_toTL, t_toTT, t_toLT, t_toLL, t_sortL, t_sortT, nw_f, List.length_cons, List.length_nil, List.map_cons, List.map_nil, List.cons_append, List.nil_append, List.replicate, List.set_cons_succ, List.set_cons_zero, List.getElem?_cons_zero, List.getElem?_cons_succ]
    rw [sl_R r2, nw_f]
    rw [sl_R r2, nw_f]
    have e1 : cutD l none (some (i : Int)) = l.take i := cut_to (by omega)
    have e2 : cutD l (some ((i : Int) + 1)) none = l.drop (i + 1) := cut_from (i := i + 1) (by omega)
    simp only [wpF, wpS, wpE, wpEs, wpC, wpO, a_nm, asgW, asgsW, wipeD, wk_L, wk_T, wk_1, wk_2, wk_E, wk_Z, wk_ZT, b_add, b_sub, b_fdiv, b_mod, b_mul, b_pow, b_addT, b_addL, b_addS, b_addB, b_subB, t_str, t_strB, c_lt, c_le, c_gt, c_ge, c_eq, c_ne, c_isN, c_isNN, c_inL, c_inT, c_ninL, c_ninT, sl_L, sl_T, sl_S, i_T0, i_T1, i_L0, i_L1, vw_T, vw_L, vw_I, vw_N, vw_B, vw_S, u_b, t_lenL, t_lenT, t_lenS, t_abs, up_S, t_min2, t_max2, t_any, t_all, t_toTL, t_toTT, t_toLT, t_toLL, t_sortL, t_sortT, nw_f, List.length_cons, List.length_nil, List.map_cons, List.map_nil, List.cons_append, List.nil_append, List.replicate, List.set_cons_succ, List.set_cons_zero, List.getElem?_cons_zero, List.getElem?_cons_succ, e1, e2]
    have hll : (l.take i ++ l.drop (i + 1)).length ≤ 57 + (n + 1) := by
      rw [List.length_append, List.length_take, List.length_drop]
      omega
    have hll2 : (l.take i).length + (l.drop (i + 1)).length ≤ sizeLine := by
      rw [List.length_take, List.length_drop]
      unfold sizeLine
      omega
    refine ⟨hll2, ?_⟩
    refine ss0 (G := G) ?_
    exact sp_rest ht hv2 hK (res _ _ hll (fun d hd => hup d ((List.mem_append.mp hd).elim List.mem_of_mem_take List.mem_of_mem_drop)) b2').1
  rw [if_neg c1]
  refine ss ?_
  simp only [wpF, wpS, wpE, wpEs, wpC, wpO, a_nm, asgW, asgsW, wipeD, wk_L, wk_T, wk_1, wk_2, wk_E, wk_Z, wk_ZT, b_add, b_sub, b_fdiv, b_mod, b_mul, b_pow, b_addT, b_addL, b_addS, b_addB, b_subB, t_str, t_strB, c_lt, c_le, c_gt, c_ge, c_eq, c_ne, c_isN, c_isNN, c_inL, c_inT, c_ninL, c_ninT, sl_L, sl_T, sl_S, i_T0, i_T1, i_L0, i_L1, vw_T, vw_L, vw_I, vw_N, vw_B, vw_S, u_b, t_lenL, t_lenT, t_lenS, t_abs, up_S, t_min2, t_max2, t_any, t_all, t_toTL, t_toTT, t_toLT, t_toLL, t_sortL, t_sortT, nw_f, List.length_cons, List.length_nil, List.map_cons, List.map_nil, List.cons_append, List.nil_append, List.replicate, List.set_cons_succ, List.set_cons_zero, List.getElem?_cons_zero, List.getElem?_cons_succ]
  refine ⟨rfl, rfl, ?_⟩
  simp only [eq_int, decide_eq_true_eq]
  by_cases c2 : c = 2
  · rw [if_pos c2]
    refine ss ?_
    simp only [wpF, wpS, wpE, wpEs, wpC, wpO, a_nm, asgW, asgsW, wipeD, wk_L, wk_T, wk_1, wk_2, wk_E, wk_Z, wk_ZT, b_add, b_sub, b_fdiv, b_mod, b_mul, b_pow, b_addT, b_addL, b_addS, b_addB, b_subB, t_str, t_strB, c_lt, c_le, c_gt, c_ge, c_eq, c_ne, c_isN, c_isNN, c_inL, c_inT, c_ninL, c_ninT, sl_L, sl_T, sl_S, i_T0, i_T1, i_L0, i_L1, vw_T, vw_L, vw_I, vw_N, vw_B, vw_S, u_b, t_lenL, t_lenT, t_lenS, t_abs, up_S, t_min2, t_max2, t_any, t_all, t_toTL, t_toTT, t_toLT, t_toLL, t_sortL, t_sortT, nw_f, List.length_cons, List.length_nil, List.map_cons, List.map_nil, List.cons_append, List.nil_append, List.replicate, List.set_cons_succ, List.set_cons_zero, List.getElem?_cons_zero, List.getElem?_cons_succ]
    rw [sl_R r2, nw_f]
    rw [sl_R r2, nw_f]
    have e1 : cutD l none (some ((i : Int) + 1)) = l.take (i + 1) := cut_to (i := i + 1) (by omega)
    have e2 : cutD l (some (i : Int)) none = l.drop i := cut_from (by omega)
    simp only [wpF, wpS, wpE, wpEs, wpC, wpO, a_nm, asgW, asgsW, wipeD, wk_L, wk_T, wk_1, wk_2, wk_E, wk_Z, wk_ZT, b_add, b_sub, b_fdiv, b_mod, b_mul, b_pow, b_addT, b_addL, b_addS, b_addB, b_subB, t_str, t_strB, c_lt, c_le, c_gt, c_ge, c_eq, c_ne, c_isN, c_isNN, c_inL, c_inT, c_ninL, c_ninT, sl_L, sl_T, sl_S, i_T0, i_T1, i_L0, i_L1, vw_T, vw_L, vw_I, vw_N, vw_B, vw_S, u_b, t_lenL, t_lenT, t_lenS, t_abs, up_S, t_min2, t_max2, t_any, t_all, t_toTL, t_toTT, t_toLT, t_toLL, t_sortL, t_sortT, nw_f, List.length_cons, List.length_nil, List.map_cons, List.map_nil, List.cons_append, List.nil_append, List.replicate, List.set_cons_succ, List.set_cons_zero, List.getElem?_cons_zero, List.getElem?_cons_succ, e1, e2]
    have hll : (l.take (i + 1) ++ l.drop i).length ≤ 57 + (n + 1) := by
      rw [List.length_append, List.length_take, List.length_drop]
      omega
    have hll2 : (l.take (i + 1)).length + (l.drop i).length ≤ sizeLine := by
      rw [List.length_take, List.length_drop]
      unfold sizeLine
      omega
    refine ⟨hll2, ?_⟩
    refine ss0 (G := G) ?_
    refine ss0 (G := G) ?_
    exact sp_rest ht hv2 hK (res _ _ hll (fun d hd => hup d ((List.mem_append.mp hd).elim List.mem_of_mem_take List.mem_of_mem_drop)) b2').1
  rw [if_neg c2]
  refine ss ?_
  simp only [wpF, wpS, wpE, wpEs, wpC, wpO, a_nm, asgW, asgsW, wipeD, wk_L, wk_T, wk_1, wk_2, wk_E, wk_Z, wk_ZT, b_add, b_sub, b_fdiv, b_mod, b_mul, b_pow, b_addT, b_addL, b_addS, b_addB, b_subB, t_str, t_strB, c_lt, c_le, c_gt, c_ge, c_eq, c_ne, c_isN, c_isNN, c_inL, c_inT, c_ninL, c_ninT, sl_L, sl_T, sl_S, i_T0, i_T1, i_L0, i_L1, vw_T, vw_L, vw_I, vw_N, vw_B, vw_S, u_b, t_lenL, t_lenT, t_lenS, t_abs, up_S, t_min2, t_max2, t_any, t_all, t_toTL, t_toTT, t_toLT, t_toLL, t_sortL, t_sortT, nw_f, List.length_cons, List.length_nil, List.map_cons, List.map_nil, List.cons_append, List.nil_append, List.replicate, List.set_cons_succ, List.set_cons_zero, List.getElem?_cons_zero, List.getElem?_cons_succ]
  refine ⟨rfl, rfl, ?_⟩
  simp only [eq_int, decide_eq_true_eq]
  by_cases c3 : c = 3
  · rw [if_pos c3]
    refine ss ?_
    simp only [wpF, wpS, wpE, wpEs, wpC, wpO, a_nm, asgW, asgsW, wipeD, wk_L, wk_T, wk_1, wk_2, wk_E, wk_Z, wk_ZT, b_add, b_sub, b_fdiv, b_mod, b_mul, b_pow, b_addT, b_addL, b_addS, b_addB, b_subB, t_str, t_strB, c_lt, c_le, c_gt, c_ge, c_eq, c_ne, c_isN, c_isNN, c_inL, c_inT, c_ninL, c_ninT, sl_L, sl_T, sl_S, i_T0, i_T1, i_L0, i_L1, vw_T, vw_L, vw_I, vw_N, vw_B, vw_S, u_b, t_lenL, t_lenT, t_lenS, t_abs, up_S, t_min2, t_max2, t_any, t_all, t_toTL, t_toTT, t_toLT, t_toLL, t_sortL, t_sortT, nw_f, List.length_cons, List.length_nil, List.map_cons, List.map_nil, List.cons_append, List.nil_append, List.replicate, List.set_cons_succ, List.set_cons_zero, List.getElem?_cons_zero, List.getElem?_cons_succ]
    rw [t_lenR r2]
    refine h1 a _ _ _ _ b2.1 (by omega) (by omega) fun j μ3 j0 j1 b3 => ?_
    obtain ⟨j, rfl⟩ := Int.eq_ofNat_of_zero_le j0
    have hj : j < l.length := by omega
    have b3' := b2'.trans b3
    have r3 : μ3 r = some (.lst l) := b3.2 r _ hne r2
    refine ss ?_
    simp only [wpF, wpS, wpE, wpEs, wpC, wpO, a_nm, asgW, asgsW, wipeD, wk_L, wk_T, wk_1, wk_2, wk_E, wk_Z, wk_ZT, b_add, b_sub, b_fdiv, b_mod, b_mul, b_pow, b_addT, b_addL, b_addS, b_addB, b_subB, t_str, t_strB, c_lt, c_le, c_gt, c_ge, c_eq, c_ne, c_isN, c_isNN, c_inL, c_inT, c_ninL, c_ninT, sl_L, sl_T, sl_S, i_T0, i_T1, i_L0, i_L1, vw_T, vw_L, vw_I, vw_N, vw_B, vw_S, u_b, t_lenL, t_lenT, t_lenS, t_abs, up_S, t_min2, t_max2, t_any, t_all, t_toTL, t_toTT, t_toLT, t_toLL, t_sortL, t_sortT, nw_f, List.length_cons, List.length_nil, List.map_cons, List.map_nil, List.cons_append, List.nil_append, List.replicate, List.set_cons_succ, List.set_cons_zero, List.getElem?_cons_zero, List.getElem?_cons_succ]
    rw [i_R r3 (atN hj), i_R r3 (atN hi)]
    refine set_at r3 hi ?_
    refine set_at set_same (by rw [List.length_set]; exact hj) ?_
    refine ss0 (G := G) ?_
    refine ss0 (G := G) ?_
    refine ss0 (G := G) ?_
    have q1 : ((l.set i l[j]).set j l[i]).length ≤ 57 + (n + 1) := by
      rw [List.length_set, List.length_set]
      omega
    have q2 : ∀ d ∈ (l.set i l[j]).set j l[i], pl (n + 1) (f + 3) d = true := fun d hd => by
      rcases List.mem_or_eq_of_mem_set hd with q | q
      · rcases List.mem_or_eq_of_mem_set q with q | q
        · exact hup d q
        · rw [q]; exact hup _ (List.getElem_mem hj)
      · rw [q]; exact hup _ (List.getElem_mem hi)
    have b5 := bag_new (o := .lst ((l.set i l[j]).set j l[i])) (bag_new (o := .lst (l.set i l[j])) b3' hr hne) hr hne
    exact sp_restR ht (seq_vw hs).1 hK set_same (res _ _ q1 q2 b5).1 (res _ _ q1 q2 (bag_del b5 hr hne)).1
  rw [if_neg c3]
  refine ss ?_
  simp only [wpF, wpS, wpE, wpEs, wpC, wpO, a_nm, asgW, asgsW, wipeD, wk_L, wk_T, wk_1, wk_2, wk_E, wk_Z, wk_ZT, b_add, b_sub, b_fdiv, b_mod, b_mul, b_pow, b_addT, b_addL, b_addS, b_addB, b_subB, t_str, t_strB, c_lt, c_le, c_gt, c_ge, c_eq, c_ne, c_isN, c_isNN, c_inL, c_inT, c_ninL, c_ninT, sl_L, sl_T, sl_S, i_T0, i_T1, i_L0, i_L1, vw_T, vw_L, vw_I, vw_N, vw_B, vw_S, u_b, t_lenL, t_lenT, t_lenS, t_abs, up_S, t_min2, t_max2, t_any, t_all, t_toTL, t_toTT, t_toLT, t_toLL, t_sortL, t_sortT, nw_f, List.length_cons, List.length_nil, List.map_cons, List.map_nil, List.cons_append, List.nil_append, List.replicate, List.set_cons_succ, List.set_cons_zero, List.getElem?_cons_zero, List.getElem?_cons_succ]
  refine ⟨rfl, rfl, ?_⟩
  simp only [eq_int, decide_eq_true_eq]
  by_cases c4 : c = 4
  · rw [if_pos c4]
    refine ss ?_
    simp only [wpF, wpS, wpE, wpEs, wpC, wpO, a_nm, asgW, asgsW, wipeD, wk_L, wk_T, wk_1, wk_2, wk_E, wk_Z, wk_ZT, b_add, b_sub, b_fdiv, b_mod, b_mul, b_pow, b_addT, b_addL, b_addS, b_addB, b_subB, t_str, t_strB, c_lt, c_le, c_gt, c_ge, c_eq, c_ne, c_isN, c_isNN, c_inL, c_inT, c_ninL, c_ninT, sl_L, sl_T, sl_S, i_T0, i_T1, i_L0, i_L1, vw_T, vw_L, vw_I, vw_N, vw_B, vw_S, u_b, t_lenL, t_lenT, t_lenS, t_abs, up_S, t_min2, t_max2, t_any, t_all, t_toTL, t_toTT, t_toLT, t_toLL, t_sortL, t_sortT, nw_f, List.length_cons, List.length_nil, List.map_cons, List.map_nil, List.cons_append, List.nil_append, List.replicate, List.set_cons_succ, List.set_cons_zero, List.getElem?_cons_zero, List.getElem?_cons_succ, hv2]
    refine ⟨ht, ?_⟩
    rw [hK]
    have q := res l _ (by omega) hup b2'
    have q' := res l _ (by omega) hup (bag_del b2' hr hne)
    unfold asX at q q'
    by_cases et : isTy "tuple" d = true
    · rw [if_pos et] at q'
      rw [if_pos et, fz_R r2]
      exact q'.2
    · rw [if_neg et] at q
      rw [if_neg et, t_toTR r2]
      exact q.2
  rw [if_neg c4]
  refine ss ?_
  simp only [wpF, wpS, wpE, wpEs, wpC, wpO, a_nm, asgW, asgsW, wipeD, wk_L, wk_T, wk_1, wk_2, wk_E, wk_Z, wk_ZT, b_add, b_sub, b_fdiv, b_mod, b_mul, b_pow, b_addT, b_addL, b_addS, b_addB, b_subB, t_str, t_strB, c_lt, c_le, c_gt, c_ge, c_eq, c_ne, c_isN, c_isNN, c_inL, c_inT, c_ninL, c_ninT, sl_L, sl_T, sl_S, i_T0, i_T1, i_L0, i_L1, vw_T, vw_L, vw_I, vw_N, vw_B, vw_S, u_b, t_lenL, t_lenT, t_lenS, t_abs, up_S, t_min2, t_max2, t_any, t_all, t_toTL, t_toTT, t_toLT, t_toLL, t_sortL, t_sortT, nw_f, List.length_cons, List.length_nil, List.map_cons, List.map_nil, List.cons_append, List.nil_append, List.replicate, List.set_cons_succ, List.set_cons_zero, List.getElem?_cons_zero, List.getElem?_cons_succ]
  rw [i_R r2 (atN hi)]
  refine h3 f rfl a _ n _ _ _ b2.1 hn (hel _ (List.getElem_mem hi)) fun d' μ3 p3 b3 => ?_
  have b3' := b2'.trans b3
  have r3 : μ3 r = some (.lst l) := b3.2 r _ hne r2
  refine set_at r3 hi ?_
  refine ss0 (G := G) ?_
  refine ss0 (G := G) ?_
  refine ss0 (G := G) ?_
  refine ss0 (G := G) ?_
  refine ss0 (G := G) ?_
  have q1 : (l.set i d').length ≤ 57 + (n + 1) := by
    rw [List.length_set]
    omega
  have q2 : ∀ d ∈ l.set i d', pl (n + 1) (f + 3) d = true := fun d hd => by
    rcases List.mem_or_eq_of_mem_set hd with q | q
    · exact hup d q
    · rw [q]; exact p3
  have b5 := bag_new (o := .lst (l.set i d')) b3' hr hne
  exact sp_restR ht (seq_vw hs).1 hK set_same (res _ _ q1 q2 b5).1 (res _ _ q1 q2 (bag_del b5 hr hne)).1

theorem pow_le {n : Nat} (hn : n ≤ 6) : 3 ^ n ≤ 729 := Nat.le_trans (Nat.pow_le_pow_right (by decide) hn) (by decide)
theorem str_ok {s t : Str} {n e f : Nat} (hs : pl n e (.str s) = true) (ht : (∀ c ∈ s.cps.toList, c < 128) → ∀ c ∈ t.cps.toList, c < 128) (hl : t.length ≤ 2 * s.length + 1) : pl (n + 1) f (.str t) = true := by
  rw [pl_str, Bool.and_eq_true, decide_eq_true_eq] at *
  refine ⟨List.all_eq_true.mpr fun c hc => decide_eq_true (ht (fun c hc => of_decide_eq_true (List.all_eq_true.mp hs.1 c hc)) c hc), ?_⟩
  have h1 : 0 < 3 ^ n := Nat.pow_pos (by decide)
  rw [Nat.pow_succ]
  have := hs.2
  generalize 3 ^ n = z at *
  omega
theorem app_len (s t : Str) : (s ++ t).length = s.length + t.length := by
  show (s.cps ++ t.cps).size = _
  rw [Array.size_append]
  rfl
theorem app_cps (s t : Str) : (s ++ t).cps.toList = s.cps.toList ++ t.cps.toList := by
  show (s.cps ++ t.cps).toList = _
  rw [Array.toList_append]
theorem cutS_len (s : Str) (lo hi : Option Int) : (cutS s lo hi).length ≤ s.length := by
  show ((s.cps.toList.drop _).take _).toArray.size ≤ s.cps.size
  rw [List.size_toArray, List.length_take, List.length_drop, Array.length_toList]
  omega
theorem cutS_cps (s : Str) (lo hi : Option Int) : ∀ c ∈ (cutS s lo hi).cps.toList, c ∈ s.cps.toList := fun c hc => by
  have hc : c ∈ ((s.cps.toList.drop (HT.sIx s.length 0 lo)).take (HT.sIx s.length s.length hi - HT.sIx s.length 0 lo)).toArray.toList := hc
  rw [List.toList_toArray] at hc
  exact List.mem_of_mem_drop (List.mem_of_mem_take hc)
theorem up1_lt : ∀ c, c < 128 → PyProof.Rows.up1 c < 128 := by decide
theorem up_ok {s : Str} (h : ∀ c ∈ s.cps.toList, c < 128) : (Txt.upper s).length = s.length ∧ ∀ c ∈ (Txt.upper s).cps.toList, c < 128 := by
  rw [PyProof.Rows.upper_ascii h]
  refine ⟨Array.size_map .., fun c hc => ?_⟩
  have hc : c ∈ (s.cps.map PyProof.Rows.up1).toList := hc
  rw [Array.toList_map, List.mem_map] at hc
  obtain ⟨d, hd, rfl⟩ := hc
  exact up1_lt d (h d hd)
theorem txt_int {n e f : Nat} (hn : n ≤ 6) {i : Int} (h : pl n e (.int i) = true) : i.natAbs.log2 < 1920 ∧ pl (n + 1) f (.str (toString i)) = true := by
  rw [pl_int, decide_eq_true_eq] at h
  have h10 : i.natAbs < 10 ^ 31 := by omega
  have hlen : (Str.ofString (toString i)).length ≤ 32 := by
    rw [PyProof.Rows.ofString_len]
    exact int_text_length_le10 (by decide) h10
  refine ⟨?_, ?_⟩
  · by_cases h0 : i.natAbs = 0
    · rw [h0]; decide
    · refine (Nat.log2_lt h0).mpr (Nat.lt_trans h10 ?_)
      decide +kernel
  · rw [pl_str, Bool.and_eq_true, decide_eq_true_eq]
    refine ⟨List.all_eq_true.mpr fun c hc => decide_eq_true ?_, Nat.le_trans hlen ?_⟩
    · rcases Nat.lt_or_ge c 128 with q | q
      · exact q
      · exact absurd hc (PyProof.Rows.int_text_free' c ⟨by omega, .inr (by omega)⟩ i)
    · have h1 : 0 < 3 ^ (n + 1) := Nat.pow_pos (by decide)
      generalize 3 ^ (n + 1) = z at *
      omega
theorem txt_bl {n f : Nat} (b : Bool) : pl n f (.str (if b = true then "True" else "False")) = true := by
  rw [pl_str, Bool.and_eq_true, decide_eq_true_eq]
  have h1 : 0 < 3 ^ n := Nat.pow_pos (by decide)
  have h2 : (if b = true then (Str.ofString "True") else Str.ofString "False").length ≤ 5 := by cases b <;> decide +kernel
  refine ⟨by cases b <;> decide +kernel, Nat.le_trans h2 ?_⟩
  generalize 3 ^ n = z at *
  omega
/-- one of a row of seven, by a number from 2 to 8 -/
theorem pick7 {L : List D} {c : Int} {P : D → Bool} (hL : L.length = 7) (h0 : 1 < c) (h9 : c < 9) (hP : ∀ d ∈ L, P d = true) (h : ∀ d, P d = true → k d μ) : ixW (.lst L) (.int (c - 2)) μ k := by
  have hr : (c - 2).toNat < L.length := by omega
  have er : ((c - 2).toNat : Int) = c - 2 := by omega
  have q := i_L (μ := μ) (k := k) (atN hr)
  rw [er] at q
  rw [q]
  exact h _ (hP _ (List.getElem_mem hr))
theorem p_spoilt (h1 : SpTake G) (h2 : SpOdd G) {e : Nat} (h3 : ∀ f, e = f + 1 → SpSpoilt f G) {a : Addr} {d : D} {n : Nat} (hb : BagOk μ a) (hn : n ≤ 6) (hd : pl n e d = true)
    (h : ∀ d' μ', pl (n + 1) (e + 3) d' = true → BagBut μ a μ' → k d' μ') : wpF G dl_spoilt [.ref a, d] μ k x := by
  simp only [dl_spoilt, wpF, wpS, wpE, wpEs, wpC, wpO, a_nm, asgW, asgsW, wipeD, wk_L, wk_T, wk_1, wk_2, wk_E, wk_Z, wk_ZT, b_add, b_sub, b_fdiv, b_mod, b_mul, b_pow, b_addT, b_addL, b_addS, b_addB, b_subB, t_str, t_strB, c_lt, c_le, c_gt, c_ge, c_eq, c_ne, c_isN, c_isNN, c_inL, c_inT, c_ninL, c_ninT, sl_L, sl_T, sl_S, i_T0, i_T1, i_L0, i_L1, vw_T, vw_L, vw_I, vw_N, vw_B, vw_S, u_b, t_lenL, t_lenT, t_lenS, t_abs, up_S, t_min2, t_max2, t_any, t_all, t_toTL, t_toTT, t_toLT, t_toLL, t_sortL, t_sortT, nw_f, List.length_cons, List.length_nil, List.map_cons, List.map_nil, List.cons_append, List.nil_append, List.replicate, List.set_cons_succ, List.set_cons_zero, List.getElem?_cons_zero, List.getElem?_cons_succ]
  refine ⟨trivial, ss ?_⟩
  simp only [wpF, wpS, wpE, wpEs, wpC, wpO, a_nm, asgW, asgsW, wipeD, wk_L, wk_T, wk_1, wk_2, wk_E, wk_Z, wk_ZT, b_add, b_sub, b_fdiv, b_mod, b_mul, b_pow, b_addT, b_addL, b_addS, b_addB, b_subB, t_str, t_strB, c_lt, c_le, c_gt, c_ge, c_eq, c_ne, c_isN, c_isNN, c_inL, c_inT, c_ninL, c_ninT, sl_L, sl_T, sl_S, i_T0, i_T1, i_L0, i_L1, vw_T, vw_L, vw_I, vw_N, vw_B, vw_S, u_b, t_lenL, t_lenT, t_lenS, t_abs, up_S, t_min2, t_max2, t_any, t_all, t_toTL, t_toTT, t_toLT, t_toLL, t_sortL, t_sortT, nw_f, List.length_cons, List.length_nil, List.map_cons, List.map_nil, List.cons_append, List.nil_append, List.replicate, List.set_cons_succ, List.set_cons_zero, List.getElem?_cons_zero, List.getElem?_cons_succ]
  refine h1 a 9 _ _ _ hb (by decide) (by decide) fun c μ1 c0 c9 b1 => ?_
  generalize hKK : ({ nx := fun x μ' => k D.non μ', rt := k, x := fun ex x_1 μ' => x ex μ' } : SE) = KK
  have hK : KK.rt = k := by rw [← hKK]
  have hX : KK.x = fun ex _ μ' => x ex μ' := by rw [← hKK]
  have odd : wpSs G [.ret (.call "_law_odd" [(.var 0)])] [some (.ref a), some d, some (.int c), none, none, none] μ1 KK := by
    refine ss ?_
    simp only [wpF, wpS, wpE, wpEs, wpC, wpO, a_nm, asgW, asgsW, wipeD, wk_L, wk_T, wk_1, wk_2, wk_E, wk_Z, wk_ZT, b_add, b_sub, b_fdiv, b_mod, b_mul, b_pow, b_addT, b_addL, b_addS, b_addB, b_subB, t_str, t_strB, c_lt, c_le, c_gt, c_ge, c_eq, c_ne, c_isN, c_isNN, c_inL, c_inT, c_ninL, c_ninT, sl_L, sl_T, sl_S, i_T0, i_T1, i_L0, i_L1, vw_T, vw_L, vw_I, vw_N, vw_B, vw_S, u_b, t_lenL, t_lenT, t_lenS, t_abs, up_S, t_min2, t_max2, t_any, t_all, t_toTL, t_toTT, t_toLT, t_toLL, t_sortL, t_sortT, nw_f, List.length_cons, List.length_nil, List.map_cons, List.map_nil, List.cons_append, List.nil_append, List.replicate, List.set_cons_succ, List.set_cons_zero, List.getElem?_cons_zero, List.getElem?_cons_succ]
    rw [hK]
    exact h2 a _ _ _ b1.1 fun d' μ' p b => h d' μ' (pl_mono (by omega) d' (by omega) p) (b1.trans b)
  have fin : ∀ d', pl (n + 1) (e + 3) d' = true → k d' μ1 := fun d' p => h d' μ1 p b1
  have tl : okT d = true → vw μ1 d = d → (isTy "str" d = false ∨ ¬ 1 < c) → (isTy "int" d = false ∨ ¬ 1 < c) → wpSs G (dl_spoilt.body.drop 2) [some (.ref a), some d, some (.int c), none, none, none] μ1 KK := by
    intro t1 t2 t3 t4
    simp only [dl_spoilt, List.drop]
    refine ss ?_
    simp only [wpF, wpS, wpE, wpEs, wpC, wpO, a_nm, asgW, asgsW, wipeD, wk_L, wk_T, wk_1, wk_2, wk_E, wk_Z, wk_ZT, b_add, b_sub, b_fdiv, b_mod, b_mul, b_pow, b_addT, b_addL, b_addS, b_addB, b_subB, t_str, t_strB, c_lt, c_le, c_gt, c_ge, c_eq, c_ne, c_isN, c_isNN, c_inL, c_inT, c_ninL, c_ninT, sl_L, sl_T, sl_S, i_T0, i_T1, i_L0, i_L1, vw_T, vw_L, vw_I, vw_N, vw_B, vw_S, u_b, t_lenL, t_lenT, t_lenS, t_abs, up_S, t_min2, t_max2, t_any, t_all, t_toTL, t_toTT, t_toLT, t_toLL, t_sortL, t_sortT, nw_f, List.length_cons, List.length_nil, List.map_cons, List.map_nil, List.cons_append, List.nil_append, List.replicate, List.set_cons_succ, List.set_cons_zero, List.getElem?_cons_zero, List.getElem?_cons_succ, t2]
    refine ⟨t1, ?_⟩
    have g1 : ∀ A B : Prop, B → (if isTy "str" d = true then (if decide (1 < c) = true then A else B) else B) := fun A B hB => by
      rcases t3 with q | q
      · rw [if_neg (by rw [q]; exact Bool.false_ne_true)]; exact hB
      · split
        · rw [if_neg (by rw [decide_eq_false q]; exact Bool.false_ne_true)]; exact hB
        · exact hB
    have g2 : ∀ A B : Prop, B → (if isTy "int" d = true then (if decide (1 < c) = true then A else B) else B) := fun A B hB => by
      rcases t4 with q | q
      · rw [if_neg (by rw [q]; exact Bool.false_ne_true)]; exact hB
      · split
        · rw [if_neg (by rw [decide_eq_false q]; exact Bool.false_ne_true)]; exact hB
        · exact hB
    simp only [Bool.false_eq_true, if_false]
    refine g1 _ _ ?_
    refine ss0 (G := G) ?_
    refine ss ?_
    simp only [wpF, wpS, wpE, wpEs, wpC, wpO, a_nm, asgW, asgsW, wipeD, wk_L, wk_T, wk_1, wk_2, wk_E, wk_Z, wk_ZT, b_add, b_sub, b_fdiv, b_mod, b_mul, b_pow, b_addT, b_addL, b_addS, b_addB, b_subB, t_str, t_strB, c_lt, c_le, c_gt, c_ge, c_eq, c_ne, c_isN, c_isNN, c_inL, c_inT, c_ninL, c_ninT, sl_L, sl_T, sl_S, i_T0, i_T1, i_L0, i_L1, vw_T, vw_L, vw_I, vw_N, vw_B, vw_S, u_b, t_lenL, t_lenT, t_lenS, t_abs, up_S, t_min2, t_max2, t_any, t_all, t_toTL, t_toTT, t_toLT, t_toLL, t_sortL, t_sortT, nw_f, List.length_cons, List.length_nil, List.map_cons, List.map_nil, List.cons_append, List.nil_append, List.replicate, List.set_cons_succ, List.set_cons_zero, List.getElem?_cons_zero, List.getElem?_cons_succ, t2]
    refine ⟨t1, ?_⟩
    simp only [Bool.false_eq_true, if_false]
    refine g2 _ _ ?_
    refine ss0 (G := G) ?_
    exact odd
  have hseq : ∀ l, seqB d l → wpSs G (dl_spoilt.body.drop 1) [some (.ref a), some d, some (.int c), none, none, none] μ1 KK := by
    intro l hs
    obtain ⟨hv, ht⟩ := seq_vw (μ := μ1) hs
    have hty : isTy "str" d = false ∧ isTy "int" d = false ∧ (isTy "tuple" d || isTy "list" d) = true := by rcases hs with rfl | rfl <;> exact ⟨rfl, rfl, rfl⟩
    have tl' := tl ht hv (.inl hty.1) (.inl hty.2.1)
    simp only [dl_spoilt, List.drop] at tl' ⊢
    refine ss ?_
    simp only [wpF, wpS, wpE, wpEs, wpC, wpO, a_nm, asgW, asgsW, wipeD, wk_L, wk_T, wk_1, wk_2, wk_E, wk_Z, wk_ZT, b_add, b_sub, b_fdiv, b_mod, b_mul, b_pow, b_addT, b_addL, b_addS, b_addB, b_subB, t_str, t_strB, c_lt, c_le, c_gt, c_ge, c_eq, c_ne, c_isN, c_isNN, c_inL, c_inT, c_ninL, c_ninT, sl_L, sl_T, sl_S, i_T0, i_T1, i_L0, i_L1, vw_T, vw_L, vw_I, vw_N, vw_B, vw_S, u_b, t_lenL, t_lenT, t_lenS, t_abs, up_S, t_min2, t_max2, t_any, t_all, t_toTL, t_toTT, t_toLT, t_toLL, t_sortL, t_sortT, nw_f, List.length_cons, List.length_nil, List.map_cons, List.map_nil, List.cons_append, List.nil_append, List.replicate, List.set_cons_succ, List.set_cons_zero, List.getElem?_cons_zero, List.getElem?_cons_succ, hv, hty.2.2, if_true]
    refine ⟨ht, ?_⟩
    rw [t_len_of hs]
    simp only [wpF, wpS, wpE, wpEs, wpC, wpO, a_nm, asgW, asgsW, wipeD, wk_L, wk_T, wk_1, wk_2, wk_E, wk_Z, wk_ZT, b_add, b_sub, b_fdiv, b_mod, b_mul, b_pow, b_addT, b_addL, b_addS, b_addB, b_subB, t_str, t_strB, c_lt, c_le, c_gt, c_ge, c_eq, c_ne, c_isN, c_isNN, c_inL, c_inT, c_ninL, c_ninT, sl_L, sl_T, sl_S, i_T0, i_T1, i_L0, i_L1, vw_T, vw_L, vw_I, vw_N, vw_B, vw_S, u_b, t_lenL, t_lenT, t_lenS, t_abs, up_S, t_min2, t_max2, t_any, t_all, t_toTL, t_toTT, t_toLT, t_toLL, t_sortL, t_sortT, nw_f, List.length_cons, List.length_nil, List.map_cons, List.map_nil, List.cons_append, List.nil_append, List.replicate, List.set_cons_succ, List.set_cons_zero, List.getElem?_cons_zero, List.getElem?_cons_succ, decide_eq_true_eq]
    by_cases g1 : (0 : Int) < (l.length : Int)
    · simp only [g1, if_true, decide_true]
      by_cases g2 : 0 < c
      · simp only [g2, if_true, decide_true]
        exact sp_seq h1 h3 hs b1.1 hn hd (by omega) hK hX fun d' μ' p b => h d' μ' p (b1.trans b)
      · simp only [g2, if_false, decide_false, Bool.false_eq_true]
        refine ss0 (G := G) ?_
        exact tl'
    · simp only [g1, if_false, decide_false, Bool.false_eq_true]
      refine ss0 (G := G) ?_
      exact tl'
  have hone : okT d = true → vw μ1 d = d → (isTy "tuple" d || isTy "list" d) = false → wpSs G (dl_spoilt.body.drop 2) [some (.ref a), some d, some (.int c), none, none, none] μ1 KK → wpSs G (dl_spoilt.body.drop 1) [some (.ref a), some d, some (.int c), none, none, none] μ1 KK := by
    intro t1 t2 t3 q
    simp only [dl_spoilt, List.drop] at q ⊢
    refine ss ?_
    simp only [wpF, wpS, wpE, wpEs, wpC, wpO, a_nm, asgW, asgsW, wipeD, wk_L, wk_T, wk_1, wk_2, wk_E, wk_Z, wk_ZT, b_add, b_sub, b_fdiv, b_mod, b_mul, b_pow, b_addT, b_addL, b_addS, b_addB, b_subB, t_str, t_strB, c_lt, c_le, c_gt, c_ge, c_eq, c_ne, c_isN, c_isNN, c_inL, c_inT, c_ninL, c_ninT, sl_L, sl_T, sl_S, i_T0, i_T1, i_L0, i_L1, vw_T, vw_L, vw_I, vw_N, vw_B, vw_S, u_b, t_lenL, t_lenT, t_lenS, t_abs, up_S, t_min2, t_max2, t_any, t_all, t_toTL, t_toTT, t_toLT, t_toLL, t_sortL, t_sortT, nw_f, List.length_cons, List.length_nil, List.map_cons, List.map_nil, List.cons_append, List.nil_append, List.replicate, List.set_cons_succ, List.set_cons_zero, List.getElem?_cons_zero, List.getElem?_cons_succ, t2, t3, Bool.false_eq_true, if_false]
    refine ⟨t1, ?_⟩
    refine ss0 (G := G) ?_
    exact q
  have hint : ∀ i : Int, (∃ P : Prop, P) → isTy "str" d = false → isTy "int" d = true → vw μ1 d = d → okT d = true → (1 < c → wpSs G
        [S.ret (.ix (.lst false [(.bin .add (.var 1) (.int 1)), (.bin .sub (.var 1) (.int 1)), (.neg (.var 1)), (.bin .add (.var 1) (.int 1000)), (.bt .str [(.var 1)]), (.bin .add (.var 1) (.int 50)), (.tup [(.var 1)])]) (.bin .sub (.var 2) (.int 2)))]
        [some (.ref a), some d, some (.int c), none, none, none] μ1 { KK with nx := fun ρ' μ' => wpSs G [.ret (.call "_law_odd" [(.var 0)])] ρ' μ' KK }) →
      wpSs G (dl_spoilt.body.drop 2) [some (.ref a), some d, some (.int c), none, none, none] μ1 KK := by
    intro _ _ t3 t4 t2 t1 q
    by_cases g : 1 < c
    · simp only [dl_spoilt, List.drop]
      refine ss ?_
      simp only [wpF, wpS, wpE, wpEs, wpC, wpO, a_nm, asgW, asgsW, wipeD, wk_L, wk_T, wk_1, wk_2, wk_E, wk_Z, wk_ZT, b_add, b_sub, b_fdiv, b_mod, b_mul, b_pow, b_addT, b_addL, b_addS, b_addB, b_subB, t_str, t_strB, c_lt, c_le, c_gt, c_ge, c_eq, c_ne, c_isN, c_isNN, c_inL, c_inT, c_ninL, c_ninT, sl_L, sl_T, sl_S, i_T0, i_T1, i_L0, i_L1, vw_T, vw_L, vw_I, vw_N, vw_B, vw_S, u_b, t_lenL, t_lenT, t_lenS, t_abs, up_S, t_min2, t_max2, t_any, t_all, t_toTL, t_toTT, t_toLT, t_toLL, t_sortL, t_sortT, nw_f, List.length_cons, List.length_nil, List.map_cons, List.map_nil, List.cons_append, List.nil_append, List.replicate, List.set_cons_succ, List.set_cons_zero, List.getElem?_cons_zero, List.getElem?_cons_succ, t2, t3, Bool.false_eq_true, if_false]
      refine ⟨t1, ?_⟩
      refine ss0 (G := G) ?_
      refine ss ?_
      simp only [wpF, wpS, wpE, wpEs, wpC, wpO, a_nm, asgW, asgsW, wipeD, wk_L, wk_T, wk_1, wk_2, wk_E, wk_Z, wk_ZT, b_add, b_sub, b_fdiv, b_mod, b_mul, b_pow, b_addT, b_addL, b_addS, b_addB, b_subB, t_str, t_strB, c_lt, c_le, c_gt, c_ge, c_eq, c_ne, c_isN, c_isNN, c_inL, c_inT, c_ninL, c_ninT, sl_L, sl_T, sl_S, i_T0, i_T1, i_L0, i_L1, vw_T, vw_L, vw_I, vw_N, vw_B, vw_S, u_b, t_lenL, t_lenT, t_lenS, t_abs, up_S, t_min2, t_max2, t_any, t_all, t_toTL, t_toTT, t_toLT, t_toLL, t_sortL, t_sortT, nw_f, List.length_cons, List.length_nil, List.map_cons, List.map_nil, List.cons_append, List.nil_append, List.replicate, List.set_cons_succ, List.set_cons_zero, List.getElem?_cons_zero, List.getElem?_cons_succ, t2, t4, if_true, g, decide_true]
      exact ⟨t1, q g⟩
    · exact tl t1 t2 (.inr g) (.inr g)
  show wpSs G (dl_spoilt.body.drop 1) _ μ1 KK
  cases d with
  | non => exact hone rfl rfl rfl (tl rfl rfl (.inl rfl) (.inl rfl))
  | tup l => exact hseq l (.inl rfl)
  | lst l => exact hseq l (.inr rfl)
  | ref b => cases e <;> cases hd
  | scr b => cases e <;> cases hd
  | str s =>
    refine hone rfl rfl rfl ?_
    by_cases g : 1 < c
    · simp only [dl_spoilt, List.drop]
      refine ss ?_
      simp only [wpF, wpS, wpE, wpEs, wpC, wpO, a_nm, asgW, asgsW, wipeD, wk_L, wk_T, wk_1, wk_2, wk_E, wk_Z, wk_ZT, b_add, b_sub, b_fdiv, b_mod, b_mul, b_pow, b_addT, b_addL, b_addS, b_addB, b_subB, t_str, t_strB, c_lt, c_le, c_gt, c_ge, c_eq, c_ne, c_isN, c_isNN, c_inL, c_inT, c_ninL, c_ninT, sl_L, sl_T, sl_S, i_T0, i_T1, i_L0, i_L1, vw_T, vw_L, vw_I, vw_N, vw_B, vw_S, u_b, t_lenL, t_lenT, t_lenS, t_abs, up_S, t_min2, t_max2, t_any, t_all, t_toTL, t_toTT, t_toLT, t_toLL, t_sortL, t_sortT, nw_f, List.length_cons, List.length_nil, List.map_cons, List.map_nil, List.cons_append, List.nil_append, List.replicate, List.set_cons_succ, List.set_cons_zero, List.getElem?_cons_zero, List.getElem?_cons_succ, g, if_true, decide_true]
      refine ⟨rfl, ?_⟩
      rw [if_pos (show isTy "str" (.str s) = true from rfl)]
      refine ss ?_
      simp only [wpF, wpS, wpE, wpEs, wpC, wpO, a_nm, asgW, asgsW, wipeD, wk_L, wk_T, wk_1, wk_2, wk_E, wk_Z, wk_ZT, b_add, b_sub, b_fdiv, b_mod, b_mul, b_pow, b_addT, b_addL, b_addS, b_addB, b_subB, t_str, t_strB, c_lt, c_le, c_gt, c_ge, c_eq, c_ne, c_isN, c_isNN, c_inL, c_inT, c_ninL, c_ninT, sl_L, sl_T, sl_S, i_T0, i_T1, i_L0, i_L1, vw_T, vw_L, vw_I, vw_N, vw_B, vw_S, u_b, t_lenL, t_lenT, t_lenS, t_abs, up_S, t_min2, t_max2, t_any, t_all, t_toTL, t_toTT, t_toLT, t_toLL, t_sortL, t_sortT, nw_f, List.length_cons, List.length_nil, List.map_cons, List.map_nil, List.cons_append, List.nil_append, List.replicate, List.set_cons_succ, List.set_cons_zero, List.getElem?_cons_zero, List.getElem?_cons_succ]
      have hs : (∀ c ∈ s.cps.toList, c < 128) ∧ s.length ≤ 72900 := by
        have := hd
        rw [pl_str, Bool.and_eq_true, decide_eq_true_eq] at this
        refine ⟨fun c hc => of_decide_eq_true (List.all_eq_true.mp this.1 c hc), Nat.le_trans this.2 ?_⟩
        have := pow_le hn
        omega
      have z : sizeLine = 16777216 := rfl
      have la : (Str.ofString "a").length = 1 := by decide +kernel
      have lb : (Str.ofString " ").length = 1 := by decide +kernel
      have lz : (Str.ofString "z").length = 1 := by decide +kernel
      have le : (Str.ofString "").length = 0 := by decide +kernel
      have ca : ∀ c ∈ (Str.ofString "a").cps.toList, c < 128 := by decide +kernel
      have cb : ∀ c ∈ (Str.ofString " ").cps.toList, c < 128 := by decide +kernel
      have cz : ∀ c ∈ (Str.ofString "z").cps.toList, c < 128 := by decide +kernel
      have ce : ∀ c ∈ (Str.ofString "").cps.toList, c < 128 := by decide +kernel
      refine ⟨by omega, by omega, by omega, by omega, by omega, by omega, by rw [z]; decide, ?_⟩
      rw [hK]
      refine pick7 (P := pl (n + 1) (e + 3)) rfl g c9 ?_ fin
      intro d' hd'
      have ap : ∀ u v : Str, (∀ c ∈ u.cps.toList, c < 128) → (∀ c ∈ v.cps.toList, c < 128) → ∀ c ∈ (u ++ v).cps.toList, c < 128 := fun u v hu hv c hc => by
        rw [app_cps] at hc
        exact (List.mem_append.mp hc).elim (hu c) (hv c)
      simp only [List.mem_cons, List.not_mem_nil, or_false] at hd'
      rcases hd' with rfl | rfl | rfl | rfl | rfl | rfl | rfl
      · exact str_ok hd (fun hc => ap _ _ hc ca) (by rw [app_len, la]; omega)
      · exact str_ok hd (fun hc c q => hc c (cutS_cps _ _ _ c q)) (by have := cutS_len s none (some (-1)); omega)
      · exact str_ok hd (fun hc => ap _ _ hc cb) (by rw [app_len, lb]; omega)
      · exact str_ok hd (fun hc => (up_ok hc).2) (by rw [(up_ok hs.1).1]; omega)
      · exact str_ok hd (fun hc => ap _ _ hc hc) (by rw [app_len]; omega)
      · exact str_ok hd (fun hc => ap _ _ cz hc) (by rw [app_len, lz]; omega)
      · exact str_ok hd (fun _ => ce) (by rw [le]; omega)
    · exact tl rfl rfl (.inr g) (.inr g)
  | int i =>
    refine hone rfl rfl rfl (hint i ⟨True, trivial⟩ rfl rfl rfl rfl fun g => ?_)
    refine ss ?_
    simp only [wpF, wpS, wpE, wpEs, wpC, wpO, a_nm, asgW, asgsW, wipeD, wk_L, wk_T, wk_1, wk_2, wk_E, wk_Z, wk_ZT, b_add, b_sub, b_fdiv, b_mod, b_mul, b_pow, b_addT, b_addL, b_addS, b_addB, b_subB, t_str, t_strB, c_lt, c_le, c_gt, c_ge, c_eq, c_ne, c_isN, c_isNN, c_inL, c_inT, c_ninL, c_ninT, sl_L, sl_T, sl_S, i_T0, i_T1, i_L0, i_L1, vw_T, vw_L, vw_I, vw_N, vw_B, vw_S, u_b, t_lenL, t_lenT, t_lenS, t_abs, up_S, t_min2, t_max2, t_any, t_all, t_toTL, t_toTT, t_toLT, t_toLL, t_sortL, t_sortT, nw_f, List.length_cons, List.length_nil, List.map_cons, List.map_nil, List.cons_append, List.nil_append, List.replicate, List.set_cons_succ, List.set_cons_zero, List.getElem?_cons_zero, List.getElem?_cons_succ]
    refine ⟨(txt_int (f := 0) hn hd).1, by decide, by decide, ?_⟩
    rw [hK]
    refine pick7 (P := pl (n + 1) (e + 3)) rfl g c9 ?_ fin
    have hd' := hd
    rw [pl_int, decide_eq_true_eq] at hd'
    intro d' hm
    simp only [List.mem_cons, List.not_mem_nil, or_false] at hm
    have ii : ∀ j : Int, j.natAbs ≤ i.natAbs + 1000 → pl (n + 1) (e + 3) (.int j) = true := fun j hj => by
      rw [pl_int, decide_eq_true_eq]
      omega
    rcases hm with rfl | rfl | rfl | rfl | rfl | rfl | rfl
    · exact ii _ (by omega)
    · exact ii _ (by omega)
    · exact ii _ (by omega)
    · exact ii _ (by omega)
    · exact (txt_int hn hd).2
    · exact ii _ (by omega)
    · refine pl_tup' (by show 1 ≤ _; omega) fun d hd => ?_
      rw [List.mem_singleton] at hd
      rw [hd, pl_int, decide_eq_true_eq]
      omega
  | bl b =>
    refine hone rfl rfl rfl (hint 0 ⟨True, trivial⟩ rfl rfl rfl rfl fun g => ?_)
    refine ss ?_
    simp only [wpF, wpS, wpE, wpEs, wpC, wpO, a_nm, asgW, asgsW, wipeD, wk_L, wk_T, wk_1, wk_2, wk_E, wk_Z, wk_ZT, b_add, b_sub, b_fdiv, b_mod, b_mul, b_pow, b_addT, b_addL, b_addS, b_addB, b_subB, t_str, t_strB, c_lt, c_le, c_gt, c_ge, c_eq, c_ne, c_isN, c_isNN, c_inL, c_inT, c_ninL, c_ninT, sl_L, sl_T, sl_S, i_T0, i_T1, i_L0, i_L1, vw_T, vw_L, vw_I, vw_N, vw_B, vw_S, u_b, t_lenL, t_lenT, t_lenS, t_abs, up_S, t_min2, t_max2, t_any, t_all, t_toTL, t_toTT, t_toLT, t_toLL, t_sortL, t_sortT, nw_f, List.length_cons, List.length_nil, List.map_cons, List.map_nil, List.cons_append, List.nil_append, List.replicate, List.set_cons_succ, List.set_cons_zero, List.getElem?_cons_zero, List.getElem?_cons_succ]
    refine ⟨by decide, by decide, ?_⟩
    rw [hK]
    refine pick7 (P := pl (n + 1) (e + 3)) rfl g c9 ?_ fin
    intro d' hm
    simp only [List.mem_cons, List.not_mem_nil, or_false] at hm
    have ii : ∀ j : Int, j.natAbs ≤ 2000 → pl (n + 1) (e + 3) (.int j) = true := fun j hj => by
      rw [pl_int, decide_eq_true_eq]
      omega
    have hbb : (if b = true then (1 : Int) else 0) = 1 ∨ (if b = true then (1 : Int) else 0) = 0 := by cases b <;> simp
    rcases hm with rfl | rfl | rfl | rfl | rfl | rfl | rfl
    · exact ii _ (by omega)
    · exact ii _ (by omega)
    · exact ii _ (by omega)
    · exact ii _ (by omega)
    · exact txt_bl b
    · exact ii _ (by omega)
    · refine pl_tup' (by show 1 ≤ _; omega) fun d hd => ?_
      rw [List.mem_singleton] at hd
      rw [hd]
      rfl
end SR

/-! rows in their order, of any kind that has one -/
namespace SR
open PySem L2
variable {G : Glb} {μ : Mu} {k : KD} {x : KX}

structure Lin {α : Type} [DecidableEq α] (emb : α → D) (lt : α → α → Prop) [DecidableRel lt] : Prop where
  ltD : ∀ a b, SR.ltD (emb a) (emb b) = decide (lt a b)
  eqD : ∀ a b, SR.eqD (emb a) (emb b) = decide (a = b)
  irr : ∀ a, ¬ lt a a
  tr : ∀ a b c, lt a b → lt b c → lt a c
  tri : ∀ a b, lt a b ∨ a = b ∨ lt b a
  srt : ∀ l : List α, sortable (l.map emb)
  set : ∀ l : List α, l.length < 64 → setOk (l.map emb)
  ok : ∀ l : List α, okDs 59 (l.map emb) = true
  cmp : ∀ (a b : α) (μ : Mu) (K : KD), K (.bl (decide (lt a b))) μ → cmpW .lt (emb a) (emb b) μ K
section
variable {α : Type} [DecidableEq α] {emb : α → D} {lt : α → α → Prop} [DecidableRel lt]
theorem same_rows (irr : ∀ a, ¬ lt a a) (tr : ∀ a b c, lt a b → lt b c → lt a c) : ∀ l m : List α, l.Pairwise lt → m.Pairwise lt → (∀ x, x ∈ l ↔ x ∈ m) → l = m
  | [], [], _, _, _ => rfl
  | [], b :: m, _, _, h => absurd ((h b).mpr List.mem_cons_self) List.not_mem_nil
  | a :: l, [], _, _, h => absurd ((h a).mp List.mem_cons_self) List.not_mem_nil
  | a :: l, b :: m, hl, hm, h => by
    obtain ⟨l1, l2⟩ := List.pairwise_cons.mp hl
    obtain ⟨m1, m2⟩ := List.pairwise_cons.mp hm
    have e : a = b := by
      rcases List.mem_cons.mp ((h a).mp List.mem_cons_self) with q | q
      · exact q
      · rcases List.mem_cons.mp ((h b).mpr List.mem_cons_self) with r | r
        · exact r.symm
        · exact absurd (tr _ _ _ (l1 b r) (m1 a q)) (irr a)
    subst e
    congr 1
    refine same_rows irr tr l m l2 m2 fun y => ⟨fun hy => ?_, fun hy => ?_⟩
    · rcases List.mem_cons.mp ((h y).mp (List.mem_cons_of_mem _ hy)) with q | q
      · exact absurd (l1 y hy) (by rw [q]; exact irr a)
      · exact q
    · rcases List.mem_cons.mp ((h y).mpr (List.mem_cons_of_mem _ hy)) with q | q
      · exact absurd (m1 y hy) (by rw [q]; exact irr a)
      · exact q
theorem un_emb : ∀ {r : List D} {l : List α}, (∀ d ∈ r, d ∈ l.map emb) → ∃ r' : List α, r = r'.map emb
  | [], _, _ => ⟨[], rfl⟩
  | d :: r, l, h => by
    obtain ⟨a, _, e⟩ := List.mem_map.mp (h d List.mem_cons_self)
    obtain ⟨r', e'⟩ := un_emb (r := r) (l := l) fun d hd => h d (List.mem_cons_of_mem _ hd)
    exact ⟨a :: r', by rw [e', ← e]; rfl⟩
variable (L : Lin emb lt)
include L
theorem Lin.inj {a b : α} (h : emb a = emb b) : a = b := by
  have q := L.eqD a b
  have r := L.eqD a a
  rw [← h, r] at q
  simpa using q
theorem Lin.leD (a b : α) : SR.leD (emb a) (emb b) = !decide (lt b a) := by
  show (!SR.ltD (emb b) (emb a)) = _
  rw [L.ltD]
/-- sorted(set(l)) is the row of what stands in l -/
theorem Lin.sorted {l : List α} {r : List D} (nd : r.Nodup) (h : ∀ d, d ∈ r ↔ d ∈ l.map emb) : ∃ t : List α, r.mergeSort SR.leD = t.map emb ∧ t.Pairwise lt ∧ ∀ a, a ∈ t ↔ a ∈ l := by
  obtain ⟨r', rfl⟩ := un_emb (emb := emb) (l := l) fun d hd => (h d).mp hd
  have e : (r'.map emb).mergeSort SR.leD = (r'.mergeSort fun a b => !decide (lt b a)).map emb := (PySem.W.sort_maps emb fun a _ b _ => (L.leD a b).symm).symm
  refine ⟨_, e, ?_, fun a => ?_⟩
  · have nd' : r'.Nodup := (List.pairwise_map.mp nd).imp fun {a b} q z => q (by rw [z])
    have hp := List.pairwise_mergeSort (le := fun a b => !decide (lt b a)) (fun a b c h1 h2 => by
      simp only [Bool.not_eq_true', decide_eq_false_iff_not] at *
      intro h3
      rcases L.tri a b with q | q | q
      · exact h2 (L.tr _ _ _ h3 q)
      · exact h2 (by rw [← q]; exact h3)
      · exact h1 q) (fun a b => by
      rw [Bool.or_eq_true]
      simp only [Bool.not_eq_true', decide_eq_false_iff_not]
      rcases L.tri a b with q | q | q
      · exact .inl fun z => L.irr _ (L.tr _ _ _ q z)
      · exact .inl (by rw [q]; exact L.irr b)
      · exact .inr fun z => L.irr _ (L.tr _ _ _ q z)) r'
    have hn := (List.mergeSort_perm r' (fun a b => !decide (lt b a))).nodup_iff.mpr nd'
    refine (hp.and hn).imp fun {a b} ⟨q1, q2⟩ => ?_
    simp only [Bool.not_eq_true', decide_eq_false_iff_not] at q1
    rcases L.tri a b with q | q | q
    · exact q
    · exact absurd q q2
    · exact absurd q q1
  · rw [List.mem_mergeSort]
    have q := h (emb a)
    rw [List.mem_map, List.mem_map] at q
    constructor
    · intro ha
      obtain ⟨b, hb, e⟩ := q.mp ⟨a, ha, rfl⟩
      rw [← L.inj e]; exact hb
    · intro ha
      obtain ⟨b, hb, e⟩ := q.mpr ⟨a, ha, rfl⟩
      rw [← L.inj e]; exact hb
theorem Lin.sset_eq {l : List α} {r : List D} (nd : r.Nodup) (h : ∀ d, d ∈ r ↔ d ∈ l.map emb) : SR.eqDs (l.map emb) (r.mergeSort SR.leD) = decide (l.Pairwise lt) := by
  obtain ⟨t, e, p, m⟩ := L.sorted nd h
  rw [e, eq_emb L.eqD]
  rw [Bool.eq_iff_iff, decide_eq_true_eq, decide_eq_true_eq]
  constructor
  · rintro rfl; exact p
  · exact fun q => same_rows L.irr L.tr l t q p fun a => (m a).symm
theorem Lin.sset_ok {l : List α} {r : List D} (nd : r.Nodup) (h : ∀ d, d ∈ r ↔ d ∈ l.map emb) : okDs 59 (r.mergeSort SR.leD) = true := by
  obtain ⟨t, e, p, m⟩ := L.sorted nd h
  rw [e]
  exact L.ok t
theorem Lin.zip_all : ∀ l : List α, ((l.zip (l.drop 1)).all fun p => decide (lt p.1 p.2)) = decide (l.Pairwise lt)
  | [] => by simp
  | [a] => by simp
  | a :: b :: r => by
    have ih := Lin.zip_all (b :: r)
    show (decide (lt a b) && (((b :: r).zip ((b :: r).drop 1)).all fun p => decide (lt p.1 p.2))) = _
    rw [ih, Bool.eq_iff_iff, Bool.and_eq_true, decide_eq_true_eq, decide_eq_true_eq, decide_eq_true_eq]
    constructor
    · rintro ⟨h1, h2⟩
      refine List.pairwise_cons.mpr ⟨fun y hy => ?_, h2⟩
      rcases List.mem_cons.mp hy with q | q
      · rw [q]; exact h1
      · exact L.tr _ _ _ h1 ((List.pairwise_cons.mp h2).1 y q)
    · intro h
      obtain ⟨h1, h2⟩ := List.pairwise_cons.mp h
      exact ⟨h1 b List.mem_cons_self, h2⟩
omit L
def SpRis (emb : α → D) (lt : α → α → Prop) [DecidableRel lt] (G : Glb) : Prop := ∀ (l : List α) (μ : Mu) (k : KD) (x : KX), k (.bl (decide (l.Pairwise lt))) μ → G.fn "are_rising" [.tup (l.map emb)] μ k x
end
def d_is_within : Fn where
  N := ["thing", "least", "most"].map Str.ofString
  np := 3
  body := [
    .ret (.and_ (.isin (.var 0) "int") (.and_ (.nt (.isin (.var 0) "bool")) (.chain .le .le (.var 1) (.var 0) (.var 2))))]

def d_are_rising : Fn where
  N := ["some", "one", "other"].map Str.ofString
  np := 1
  body := [
    .ret (.bt .all [(.lc false [1, 2] (.tup [(.nm 1), (.nm 2)]) .zip2 [(.var 0), (.slc false (.var 0) (some (.int 1)) none)] none (.cmp .lt (.var 1) (.var 2)))])]

def d_coats_shown : Fn where
  N := ["stencils", "stretch", "thing", "one", "place"].map Str.ofString
  np := 3
  body := [
    .ife (.or_ (.nt (.isin (.var 2) "tuple")) (.nt (.bt .all [(.lc false [3] (.nm 3) .seq [(.var 2)] none (.call "is_within" [(.var 3), (.ix (.var 1) (.int 0)), (.ix (.var 1) (.int 1))]))]))) [
      .ret .non] [],
    .ife (.nt (.call "are_rising" [(.var 2)])) [
      .ret .non] [],
    .forE (.nm 3) .seq [(.call "within" [(.var 0), (.var 1)])] [
      .ife (.cmp .gt (.bt .len [(.lc false [4] (.nm 4) .seq [(.var 2)] (some (.call "has" [(.var 3), (.var 4)])) (.var 4))]) (.int 1)) [
        .ret .non] []],
    .ret (.bt .len [(.var 2)])]

def dl_within : Fn where
  N := ["thing", "least", "most"].map Str.ofString
  np := 3
  body := [
    .ret (.and_ (.isin (.var 0) "int") (.and_ (.nt (.isin (.var 0) "bool")) (.chain .le .le (.var 1) (.var 0) (.var 2))))]

def dl_coats : Fn where
  N := ["stencils", "stretch", "some", "many", "lot", "one"].map Str.ofString
  np := 2
  body := [
    .asg (.nm 2) (.lc false [5] (.nm 5) .seq [(.var 0)] (some (.call "_law_in" [(.var 5), (.var 1)])) (.var 5)),
    .ife (.cmp .ne (.call "_law_bare" [(.var 2), (.var 1)]) (.lst false [])) [
      .ret .non] [],
    .forE (.nm 3) .rng1 [(.bin .add (.bt .len [(.var 2)]) (.int 1))] [
      .forE (.nm 4) .seq [(.call "_law_lots" [(.var 2), (.var 3)])] [
        .ife (.cmp .eq (.call "_law_bare" [(.var 4), (.var 1)]) (.lst false [])) [
          .ret (.var 4)] []]],
    .ret .non]

def dl_shown : Fn where
  N := ["stencils", "stretch", "thing", "first", "last", "one"].map Str.ofString
  np := 3
  body := [
    .ife (.nt (.isin (.var 2) "tuple")) [
      .ret .non] [],
    .ife (.cmp .ne (.lc false [5] (.nm 5) .seq [(.var 2)] (some (.nt (.call "_law_within" [(.var 5), (.ix (.var 1) (.int 0)), (.ix (.var 1) (.int 1))]))) (.var 5)) (.lst false [])) [
      .ret .non] [],
    .ife (.cmp .ne (.bt (.toList false) [(.var 2)]) (.sset false (.var 2))) [
      .ret .non] [],
    .forE (.tup [(.nm 3), (.nm 4)]) .seq [(.var 0)] [
      .ife (.and_ (.call "_law_in" [(.tup [(.var 3), (.var 4)]), (.var 1)]) (.cmp .gt (.bt .len [(.lc false [5] (.nm 5) .seq [(.var 2)] (some (.chain .le .le (.var 3) (.var 5) (.var 4))) (.var 5))]) (.int 1))) [
        .ret .non] []],
    .ret (.bt .len [(.var 2)])]

theorem cut_1 {α : Type} (l : List α) : cutD l (some 1) none = l.drop 1 := by
  cases l with
  | nil => simp [cutD]
  | cons a r => exact cut_from (i := 1) (by rw [List.length_cons]; omega)
theorem p_rising {α : Type} [DecidableEq α] {emb : α → D} {lt : α → α → Prop} [DecidableRel lt] (L : Lin emb lt) {l : List α} (h : k (.bl (decide (l.Pairwise lt))) μ) : wpF G d_are_rising [.tup (l.map emb)] μ k x := by
  simp only [d_are_rising, wpF, wpSs, wpS, wpE, wpEs, wpC, wpO, a_nm, asgW, asgsW, wipeD, wk_L, wk_T, wk_1, wk_2, wk_E, wk_Z, wk_ZT, b_add, b_sub, b_fdiv, b_mod, b_mul, b_pow, b_addT, b_addL, b_addS, b_addB, b_subB, t_str, t_strB, c_lt, c_le, c_gt, c_ge, c_eq, c_ne, c_isN, c_isNN, c_inL, c_inT, c_ninL, c_ninT, sl_L, sl_T, sl_S, i_T0, i_T1, i_L0, i_L1, vw_T, vw_L, vw_I, vw_N, vw_B, vw_S, u_b, t_lenL, t_lenT, t_lenS, t_abs, up_S, t_min2, t_max2, t_any, t_all, t_toTL, t_toTT, t_toLT, t_toLL, t_sortL, t_sortT, nw_f, List.length_cons, List.length_nil, List.map_cons, List.map_nil, List.cons_append, List.nil_append, List.replicate, List.set_cons_succ, List.set_cons_zero, List.getElem?_cons_zero, List.getElem?_cons_succ]
  refine ⟨trivial, ?_⟩
  rw [cut_1, ← List.map_drop]
  have e : (((l.map emb).zip ((l.drop 1).map emb)).map fun p => D.tup [p.1, p.2]) = (l.zip (l.drop 1)).map fun p => D.tup [emb p.1, emb p.2] := by
    rw [List.zip_map, List.map_map]
    rfl
  rw [e]
  refine lcW_each (fun p : α × α => D.tup [emb p.1, emb p.2]) (fun p => .bl (decide (lt p.1 p.2))) trivial _ (fun p hp k2 q => ?_) ?_
  · simp only [wpF, wpSs, wpS, wpE, wpEs, wpC, wpO, a_nm, asgW, asgsW, wipeD, wk_L, wk_T, wk_1, wk_2, wk_E, wk_Z, wk_ZT, b_add, b_sub, b_fdiv, b_mod, b_mul, b_pow, b_addT, b_addL, b_addS, b_addB, b_subB, t_str, t_strB, c_lt, c_le, c_gt, c_ge, c_eq, c_ne, c_isN, c_isNN, c_inL, c_inT, c_ninL, c_ninT, sl_L, sl_T, sl_S, i_T0, i_T1, i_L0, i_L1, vw_T, vw_L, vw_I, vw_N, vw_B, vw_S, u_b, t_lenL, t_lenT, t_lenS, t_abs, up_S, t_min2, t_max2, t_any, t_all, t_toTL, t_toTT, t_toLT, t_toLL, t_sortL, t_sortT, nw_f, List.length_cons, List.length_nil, List.map_cons, List.map_nil, List.cons_append, List.nil_append, List.replicate, List.set_cons_succ, List.set_cons_zero, List.getElem?_cons_zero, List.getElem?_cons_succ, if_true]
    exact ⟨trivial, L.cmp _ _ _ _ q⟩
  · refine ⟨(l.zip (l.drop 1)).map fun p => decide (lt p.1 p.2), by rw [List.map_map]; rfl, ?_⟩
    rw [List.all_map]
    have := L.zip_all l
    simp only [Function.comp_def, id]
    rw [this]
    exact h
instance : DecidableRel (fun a b : Int => a < b) := fun a b => inferInstance
theorem int_ok (l : List Int) (n : Nat) : okDs n (l.map D.int) = true := ok_ints (n := n)
theorem intLin : Lin D.int (fun a b : Int => a < b) where
  ltD a b := by
    show PySem.W.dataLt (.int a) (.int b) = _
    exact PySem.W.dataLt_int a b
  eqD := eq_int
  irr a := by omega
  tr a b c := by omega
  tri a b := by omega
  srt l := by
    refine ⟨?_, ?_, int_ok l 60⟩
    · rw [List.map_map]
      exact PySem.W.AllAlike.of fun a b => rfl
    · rw [List.map_map]
      exact PySem.W.Sortable.others (enc := fun i : Int => PyData.int i) fun b => ⟨by simp, fun xs => by simp⟩
  set l h := ⟨by rw [List.length_map]; exact h, .inl ⟨l, rfl⟩⟩
  ok l := int_ok l 59
  cmp a b μ K h := h
theorem stLin : Lin stD ltS where
  ltD := ltD_st
  eqD := eq_st
  irr a := by unfold ltS; omega
  tr a b c := by unfold ltS; omega
  tri a b := by
    by_cases h1 : a.1 = b.1
    · by_cases h2 : a.2 = b.2
      · exact .inr (.inl (Prod.ext h1 h2))
      · unfold ltS; omega
    · unfold ltS; omega
  srt := sts_sortable
  set l h := ⟨by rw [List.length_map]; exact h, .inr fun d hd => by
    obtain ⟨s, _, rfl⟩ := List.mem_map.mp hd
    exact ⟨_, rfl, rfl⟩⟩
  ok l := ok_sts
  cmp a b μ K h := by
    unfold stD
    rw [c_ltT]
    refine ⟨rfl, rfl, rfl, ⟨_, _, rfl, rfl⟩, ?_⟩
    have e := ltD_st a b
    unfold stD at e
    rw [e]
    exact h

/-! ### papers of places, judged -/
def isW (d : D) (lo hi : Int) : Bool := match d with
  | .int i => decide (lo ≤ i) && decide (i ≤ hi)
  | _ => false
theorem vw_of {d : D} (h : okT d = true) : vw μ d = d := by
  cases d with
  | ref a => cases h
  | _ => rfl
theorem pl_okT {n e : Nat} {d : D} (h : pl n e d = true) : okT d = true := by
  cases d with
  | ref a => cases e <;> cases h
  | scr a => cases e <;> cases h
  | _ => rfl
def SpIsW (f : String) (G : Glb) : Prop := ∀ (d : D) (lo hi : Int) (μ : Mu) (k : KD) (x : KX), okT d = true → k (.bl (isW d lo hi)) μ → G.fn f [d, .int lo, .int hi] μ k x
theorem p_isw {f : Fn} (hf : f = d_is_within ∨ f = dl_within) {d : D} {lo hi : Int} (hd : okT d = true) (h : k (.bl (isW d lo hi)) μ) : wpF G f [d, .int lo, .int hi] μ k x := by
  have key : wpF G d_is_within [d, .int lo, .int hi] μ k x := by
    have hv : vw μ d = d := vw_of hd
    simp only [d_is_within, wpF, wpSs, wpS, wpE, wpEs, wpC, wpO, a_nm, asgW, asgsW, wipeD, wk_L, wk_T, wk_1, wk_2, wk_E, wk_Z, wk_ZT, b_add, b_sub, b_fdiv, b_mod, b_mul, b_pow, b_addT, b_addL, b_addS, b_addB, b_subB, t_str, t_strB, c_lt, c_le, c_gt, c_ge, c_eq, c_ne, c_isN, c_isNN, c_inL, c_inT, c_ninL, c_ninT, sl_L, sl_T, sl_S, i_T0, i_T1, i_L0, i_L1, vw_T, vw_L, vw_I, vw_N, vw_B, vw_S, u_b, t_lenL, t_lenT, t_lenS, t_abs, up_S, t_min2, t_max2, t_any, t_all, t_toTL, t_toTT, t_toLT, t_toLL, t_sortL, t_sortT, nw_f, List.length_cons, List.length_nil, List.map_cons, List.map_nil, List.cons_append, List.nil_append, List.replicate, List.set_cons_succ, List.set_cons_zero, List.getElem?_cons_zero, List.getElem?_cons_succ, hv]
    refine ⟨trivial, hd, ?_⟩
    cases d with
    | int i =>
      have e1 : isTy "int" (.int i) = true := rfl
      have e2 : isTy "bool" (.int i) = false := rfl
      simp only [wpF, wpSs, wpS, wpE, wpEs, wpC, wpO, a_nm, asgW, asgsW, wipeD, wk_L, wk_T, wk_1, wk_2, wk_E, wk_Z, wk_ZT, b_add, b_sub, b_fdiv, b_mod, b_mul, b_pow, b_addT, b_addL, b_addS, b_addB, b_subB, t_str, t_strB, c_lt, c_le, c_gt, c_ge, c_eq, c_ne, c_isN, c_isNN, c_inL, c_inT, c_ninL, c_ninT, sl_L, sl_T, sl_S, i_T0, i_T1, i_L0, i_L1, vw_T, vw_L, vw_I, vw_N, vw_B, vw_S, u_b, t_lenL, t_lenT, t_lenS, t_abs, up_S, t_min2, t_max2, t_any, t_all, t_toTL, t_toTT, t_toLT, t_toLL, t_sortL, t_sortT, nw_f, List.length_cons, List.length_nil, List.map_cons, List.map_nil, List.cons_append, List.nil_append, List.replicate, List.set_cons_succ, List.set_cons_zero, List.getElem?_cons_zero, List.getElem?_cons_succ, e1, e2, if_true, Bool.not_false]
      refine ⟨rfl, ?_⟩
      have h : k (.bl (decide (lo ≤ i) && decide (i ≤ hi))) μ := h
      by_cases c : lo ≤ i
      · rw [decide_eq_true c, Bool.true_and] at h
        rw [decide_eq_true c, if_pos rfl]
        exact h
      · rw [decide_eq_false c, Bool.false_and] at h
        rw [decide_eq_false c, if_neg Bool.false_ne_true]
        exact h
    | bl b =>
      have e1 : isTy "int" (.bl b) = true := rfl
      have e2 : isTy "bool" (.bl b) = true := rfl
      simp only [wpF, wpSs, wpS, wpE, wpEs, wpC, wpO, a_nm, asgW, asgsW, wipeD, wk_L, wk_T, wk_1, wk_2, wk_E, wk_Z, wk_ZT, b_add, b_sub, b_fdiv, b_mod, b_mul, b_pow, b_addT, b_addL, b_addS, b_addB, b_subB, t_str, t_strB, c_lt, c_le, c_gt, c_ge, c_eq, c_ne, c_isN, c_isNN, c_inL, c_inT, c_ninL, c_ninT, sl_L, sl_T, sl_S, i_T0, i_T1, i_L0, i_L1, vw_T, vw_L, vw_I, vw_N, vw_B, vw_S, u_b, t_lenL, t_lenT, t_lenS, t_abs, up_S, t_min2, t_max2, t_any, t_all, t_toTL, t_toTT, t_toLT, t_toLL, t_sortL, t_sortT, nw_f, List.length_cons, List.length_nil, List.map_cons, List.map_nil, List.cons_append, List.nil_append, List.replicate, List.set_cons_succ, List.set_cons_zero, List.getElem?_cons_zero, List.getElem?_cons_succ, e1, e2, if_true, Bool.not_true, Bool.false_eq_true, if_false]
      exact ⟨rfl, h⟩
    | non => exact h
    | str s => exact h
    | tup l => exact h
    | lst l => exact h
    | ref a => cases hd
    | scr a => cases hd
  rcases hf with rfl | rfl
  · exact key
  · exact key
end SR

/-! coats by all lots; papers of places judged -/
namespace SR
open PySem L2
variable {G : Glb} {μ : Mu} {k : KD} {x : KX}

theorem it_t {c : Prop} {i : Decidable c} {A B : Prop} (h : c) (a : A) : @ite Prop c i A B := by rw [if_pos h]; exact a
theorem it_f {c : Prop} {i : Decidable c} {A B : Prop} (h : ¬ c) (b : B) : @ite Prop c i A B := by rw [if_neg h]; exact b
theorem lcW_eachD {pin : Mu → Prop} {step : D → Mu → (Option D → Mu → Prop) → Prop} {μ : Mu} {k : List D → Mu → Prop} (g : D → D) (hp : pin μ) (l : List D)
    (hs : ∀ a ∈ l, ∀ k2 : Option D → Mu → Prop, k2 (some (g a)) μ → step a μ k2) (h : k (l.map g) μ) : lcW pin step l [] μ k := by
  have q := lcW_each (pin := pin) (step := step) (μ := μ) (k := k) (id : D → D) g hp l hs h
  rw [List.map_id] at q
  exact q
theorem lcW_filtD {pin : Mu → Prop} {step : D → Mu → (Option D → Mu → Prop) → Prop} {μ : Mu} {k : List D → Mu → Prop} (p : D → Bool) (g : D → D) (hp : pin μ) (l : List D)
    (hs : ∀ a ∈ l, ∀ k2 : Option D → Mu → Prop, (if p a = true then k2 (some (g a)) μ else k2 none μ) → step a μ k2) (h : k ((l.filter p).map g) μ) : lcW pin step l [] μ k := by
  have q := lcW_filt (pin := pin) (step := step) (μ := μ) (k := k) (id : D → D) p g hp l hs h
  rw [List.map_id] at q
  exact q
def intOf : D → Option Int
  | .int i => some i
  | _ => none
def intsOf (ds : List D) : List Int := ds.filterMap intOf
theorem ints_all {lo hi : Int} : ∀ {ds : List D}, (ds.all fun d => isW d lo hi) = true → ds = (intsOf ds).map D.int ∧ ∀ p ∈ intsOf ds, lo ≤ p ∧ p ≤ hi
  | [], _ => ⟨rfl, fun _ h => nomatch h⟩
  | d :: r, h => by
    rw [List.all_cons, Bool.and_eq_true] at h
    obtain ⟨h1, h2⟩ := ints_all h.2
    cases d with
    | int i =>
      have q : (decide (lo ≤ i) && decide (i ≤ hi)) = true := h.1
      rw [Bool.and_eq_true, decide_eq_true_eq, decide_eq_true_eq] at q
      refine ⟨?_, fun p hp => ?_⟩
      · show _ = D.int i :: (intsOf r).map D.int
        rw [← h1]
      · rcases List.mem_cons.mp (show p ∈ i :: intsOf r from hp) with e | e
        · rw [e]; exact q
        · exact h2 p e
    | _ => exact absurd h.1 (by simp [isW])
/-- what a thing shows: so many coats are wanted -/
def shownL (l : List St2) (s : St2) (d : D) : Option Nat := match d with
  | .tup ds => if (ds.all fun d => isW d s.1 s.2) = true ∧ (intsOf ds).Pairwise (· < ·) ∧ ∀ o ∈ withinL l s, ((intsOf ds).filter fun p => hasB o p).length ≤ 1 then some ds.length else none
  | _ => none
def nOpt (o : Option Nat) : D := match o with
  | none => .non
  | some n => .int (n : Int)
def SpShown (f : String) (G : Glb) : Prop := ∀ (l : List St2) (s : St2) (d : D) (μ : Mu) (k : KD) (x : KX), okD 60 d = true → (∀ ds, d = .tup ds → ds.length < 64) → k (nOpt (shownL l s d)) μ → G.fn f [stsD l, stD s, d] μ k x
theorem ok_okT {n : Nat} {d : D} (h : okD n d = true) : okT d = true := by
  cases d with
  | ref a => cases n <;> cases h
  | scr a => cases n <;> cases h
  | _ => rfl
theorem isTup_of {d : D} (h : isTy "tuple" d = true) : ∃ ds, d = .tup ds := by
  cases d with
  | tup ds => exact ⟨ds, rfl⟩
  | _ => exact absurd (show false = true from h) Bool.false_ne_true
theorem okDs_in {n : Nat} : ∀ {l : List D}, okDs n l = true → ∀ d ∈ l, okD n d = true
  | [], _, _, h => nomatch h
  | x :: l, o, d, h => by
    have o' : okD n x = true ∧ okDs n l = true := by simpa [okDs] using o
    rcases List.mem_cons.mp h with e | h
    · rw [e]; exact o'.1
    · exact okDs_in o'.2 d h
theorem p_shown (hw : SpIsW "is_within" G) (hr : SpRis D.int (fun a b : Int => a < b) G) (hi : SpWithin G) (hh : SpHas G) {l : List St2} {s : St2} {d : D} (ho : okD 60 d = true) (h : k (nOpt (shownL l s d)) μ) : wpF G d_coats_shown [stsD l, stD s, d] μ k x := by
  have ht := ok_okT ho
  have hv : vw μ d = d := vw_of ht
  simp only [d_coats_shown, wpF, wpS, wpE, wpEs, wpC, wpO, a_nm, asgW, asgsW, wipeD, wk_L, wk_T, wk_1, wk_2, wk_E, wk_Z, wk_ZT, b_add, b_sub, b_fdiv, b_mod, b_mul, b_pow, b_addT, b_addL, b_addS, b_addB, b_subB, t_str, t_strB, c_lt, c_le, c_gt, c_ge, c_eq, c_ne, c_isN, c_isNN, c_inL, c_inT, c_ninL, c_ninT, sl_L, sl_T, sl_S, i_T0, i_T1, i_L0, i_L1, vw_T, vw_L, vw_I, vw_N, vw_B, vw_S, u_b, t_lenL, t_lenT, t_lenS, t_abs, up_S, t_min2, t_max2, t_any, t_all, t_toTL, t_toTT, t_toLT, t_toLL, t_sortL, t_sortT, nw_f, List.length_cons, List.length_nil, List.map_cons, List.map_nil, List.cons_append, List.nil_append, List.replicate, List.set_cons_succ, List.set_cons_zero, List.getElem?_cons_zero, List.getElem?_cons_succ]
  refine ⟨trivial, ss ?_⟩
  simp only [wpF, wpS, wpE, wpEs, wpC, wpO, a_nm, asgW, asgsW, wipeD, wk_L, wk_T, wk_1, wk_2, wk_E, wk_Z, wk_ZT, b_add, b_sub, b_fdiv, b_mod, b_mul, b_pow, b_addT, b_addL, b_addS, b_addB, b_subB, t_str, t_strB, c_lt, c_le, c_gt, c_ge, c_eq, c_ne, c_isN, c_isNN, c_inL, c_inT, c_ninL, c_ninT, sl_L, sl_T, sl_S, i_T0, i_T1, i_L0, i_L1, vw_T, vw_L, vw_I, vw_N, vw_B, vw_S, u_b, t_lenL, t_lenT, t_lenS, t_abs, up_S, t_min2, t_max2, t_any, t_all, t_toTL, t_toTT, t_toLT, t_toLL, t_sortL, t_sortT, nw_f, List.length_cons, List.length_nil, List.map_cons, List.map_nil, List.cons_append, List.nil_append, List.replicate, List.set_cons_succ, List.set_cons_zero, List.getElem?_cons_zero, List.getElem?_cons_succ, hv]
  refine ⟨ht, ?_⟩
  by_cases e : isTy "tuple" d = true
  · obtain ⟨ds, rfl⟩ := isTup_of e
    simp only [e, Bool.not_true, Bool.false_eq_true, if_false, wpF, wpS, wpE, wpEs, wpC, wpO, a_nm, asgW, asgsW, wipeD, wk_L, wk_T, wk_1, wk_2, wk_E, wk_Z, wk_ZT, b_add, b_sub, b_fdiv, b_mod, b_mul, b_pow, b_addT, b_addL, b_addS, b_addB, b_subB, t_str, t_strB, c_lt, c_le, c_gt, c_ge, c_eq, c_ne, c_isN, c_isNN, c_inL, c_inT, c_ninL, c_ninT, sl_L, sl_T, sl_S, i_T0, i_T1, i_L0, i_L1, vw_T, vw_L, vw_I, vw_N, vw_B, vw_S, u_b, t_lenL, t_lenT, t_lenS, t_abs, up_S, t_min2, t_max2, t_any, t_all, t_toTL, t_toTT, t_toLT, t_toLL, t_sortL, t_sortT, nw_f, List.length_cons, List.length_nil, List.map_cons, List.map_nil, List.cons_append, List.nil_append, List.replicate, List.set_cons_succ, List.set_cons_zero, List.getElem?_cons_zero, List.getElem?_cons_succ]
    refine lcW_eachD (fun a => .bl (isW a s.1 s.2)) trivial ds (fun a ha k2 q => ?_) ?_
    · simp only [if_true, stD, wpF, wpSs, wpS, wpE, wpEs, wpC, wpO, a_nm, asgW, asgsW, wipeD, wk_L, wk_T, wk_1, wk_2, wk_E, wk_Z, wk_ZT, b_add, b_sub, b_fdiv, b_mod, b_mul, b_pow, b_addT, b_addL, b_addS, b_addB, b_subB, t_str, t_strB, c_lt, c_le, c_gt, c_ge, c_eq, c_ne, c_isN, c_isNN, c_inL, c_inT, c_ninL, c_ninT, sl_L, sl_T, sl_S, i_T0, i_T1, i_L0, i_L1, vw_T, vw_L, vw_I, vw_N, vw_B, vw_S, u_b, t_lenL, t_lenT, t_lenS, t_abs, up_S, t_min2, t_max2, t_any, t_all, t_toTL, t_toTT, t_toLT, t_toLL, t_sortL, t_sortT, nw_f, List.length_cons, List.length_nil, List.map_cons, List.map_nil, List.cons_append, List.nil_append, List.replicate, List.set_cons_succ, List.set_cons_zero, List.getElem?_cons_zero, List.getElem?_cons_succ]
      exact hw a _ _ _ _ _ (ok_okT (okDs_in (n := 59) ho a ha)) q
    refine ⟨ds.map fun a => isW a s.1 s.2, by rw [List.map_map]; rfl, ?_⟩
    rw [List.all_map]
    have e1 : ds.all (id ∘ fun a => isW a s.1 s.2) = ds.all fun d => isW d s.1 s.2 := rfl
    rw [e1]
    by_cases c1 : (ds.all fun d => isW d s.1 s.2) = true
    · rw [c1]
      simp only [Bool.not_true, Bool.false_eq_true, if_false]
      obtain ⟨es, ins⟩ := ints_all c1
      refine ss0 (G := G) ?_
      refine ss ?_
      simp only [wpF, wpS, wpE, wpEs, wpC, wpO, a_nm, asgW, asgsW, wipeD, wk_L, wk_T, wk_1, wk_2, wk_E, wk_Z, wk_ZT, b_add, b_sub, b_fdiv, b_mod, b_mul, b_pow, b_addT, b_addL, b_addS, b_addB, b_subB, t_str, t_strB, c_lt, c_le, c_gt, c_ge, c_eq, c_ne, c_isN, c_isNN, c_inL, c_inT, c_ninL, c_ninT, sl_L, sl_T, sl_S, i_T0, i_T1, i_L0, i_L1, vw_T, vw_L, vw_I, vw_N, vw_B, vw_S, u_b, t_lenL, t_lenT, t_lenS, t_abs, up_S, t_min2, t_max2, t_any, t_all, t_toTL, t_toTT, t_toLT, t_toLL, t_sortL, t_sortT, nw_f, List.length_cons, List.length_nil, List.map_cons, List.map_nil, List.cons_append, List.nil_append, List.replicate, List.set_cons_succ, List.set_cons_zero, List.getElem?_cons_zero, List.getElem?_cons_succ]
      have eT : D.tup ds = .tup ((intsOf ds).map D.int) := congrArg D.tup es
      rw [eT]
      refine hr _ _ _ _ ?_
      simp only [wpF, wpS, wpE, wpEs, wpC, wpO, a_nm, asgW, asgsW, wipeD, wk_L, wk_T, wk_1, wk_2, wk_E, wk_Z, wk_ZT, b_add, b_sub, b_fdiv, b_mod, b_mul, b_pow, b_addT, b_addL, b_addS, b_addB, b_subB, t_str, t_strB, c_lt, c_le, c_gt, c_ge, c_eq, c_ne, c_isN, c_isNN, c_inL, c_inT, c_ninL, c_ninT, sl_L, sl_T, sl_S, i_T0, i_T1, i_L0, i_L1, vw_T, vw_L, vw_I, vw_N, vw_B, vw_S, u_b, t_lenL, t_lenT, t_lenS, t_abs, up_S, t_min2, t_max2, t_any, t_all, t_toTL, t_toTT, t_toLT, t_toLL, t_sortL, t_sortT, nw_f, List.length_cons, List.length_nil, List.map_cons, List.map_nil, List.cons_append, List.nil_append, List.replicate, List.set_cons_succ, List.set_cons_zero, List.getElem?_cons_zero, List.getElem?_cons_succ]
      by_cases c2 : (intsOf ds).Pairwise (· < ·)
      · rw [decide_eq_true c2]
        simp only [Bool.not_true, Bool.false_eq_true, if_false]
        refine ss0 (G := G) ?_
        refine ss ?_
        simp only [wpF, wpS, wpE, wpEs, wpC, wpO, a_nm, asgW, asgsW, wipeD, wk_L, wk_T, wk_1, wk_2, wk_E, wk_Z, wk_ZT, b_add, b_sub, b_fdiv, b_mod, b_mul, b_pow, b_addT, b_addL, b_addS, b_addB, b_subB, t_str, t_strB, c_lt, c_le, c_gt, c_ge, c_eq, c_ne, c_isN, c_isNN, c_inL, c_inT, c_ninL, c_ninT, sl_L, sl_T, sl_S, i_T0, i_T1, i_L0, i_L1, vw_T, vw_L, vw_I, vw_N, vw_B, vw_S, u_b, t_lenL, t_lenT, t_lenS, t_abs, up_S, t_min2, t_max2, t_any, t_all, t_toTL, t_toTT, t_toLT, t_toLL, t_sortL, t_sortT, nw_f, List.length_cons, List.length_nil, List.map_cons, List.map_nil, List.cons_append, List.nil_append, List.replicate, List.set_cons_succ, List.set_cons_zero, List.getElem?_cons_zero, List.getElem?_cons_succ]
        refine hi l s _ _ _ ?_
        simp only [wpF, wpS, wpE, wpEs, wpC, wpO, a_nm, asgW, asgsW, wipeD, wk_L, wk_T, wk_1, wk_2, wk_E, wk_Z, wk_ZT, b_add, b_sub, b_fdiv, b_mod, b_mul, b_pow, b_addT, b_addL, b_addS, b_addB, b_subB, t_str, t_strB, c_lt, c_le, c_gt, c_ge, c_eq, c_ne, c_isN, c_isNN, c_inL, c_inT, c_ninL, c_ninT, sl_L, sl_T, sl_S, i_T0, i_T1, i_L0, i_L1, vw_T, vw_L, vw_I, vw_N, vw_B, vw_S, u_b, t_lenL, t_lenT, t_lenS, t_abs, up_S, t_min2, t_max2, t_any, t_all, t_toTL, t_toTT, t_toLT, t_toLL, t_sortL, t_sortT, nw_f, List.length_cons, List.length_nil, List.map_cons, List.map_nil, List.cons_append, List.nil_append, List.replicate, List.set_cons_succ, List.set_cons_zero, List.getElem?_cons_zero, List.getElem?_cons_succ]
        refine forW_inv _ (fun i ρ μ' => ∃ v3 v4, ρ = [some (stsD l), some (stD s), some (.tup ((intsOf ds).map D.int)), v3, v4] ∧ μ' = μ ∧ ∀ o ∈ (withinL l s).take i, ((intsOf ds).filter fun p => hasB o p).length ≤ 1)
          (fun _ _ _ _ => trivial) (fun i d ρ μ' hi I k2 hk2 => ?_) (fun ρ μ' I => ?_) ⟨none, none, rfl, rfl, fun _ h => nomatch h⟩
        · obtain ⟨v3, v4, rfl, rfl, hall⟩ := I
          obtain ⟨o, ho, rfl⟩ := map_get hi
          refine ss ?_
          simp only [wpF, wpS, wpE, wpEs, wpC, wpO, a_nm, asgW, asgsW, wipeD, wk_L, wk_T, wk_1, wk_2, wk_E, wk_Z, wk_ZT, b_add, b_sub, b_fdiv, b_mod, b_mul, b_pow, b_addT, b_addL, b_addS, b_addB, b_subB, t_str, t_strB, c_lt, c_le, c_gt, c_ge, c_eq, c_ne, c_isN, c_isNN, c_inL, c_inT, c_ninL, c_ninT, sl_L, sl_T, sl_S, i_T0, i_T1, i_L0, i_L1, vw_T, vw_L, vw_I, vw_N, vw_B, vw_S, u_b, t_lenL, t_lenT, t_lenS, t_abs, up_S, t_min2, t_max2, t_any, t_all, t_toTL, t_toTT, t_toLT, t_toLL, t_sortL, t_sortT, nw_f, List.length_cons, List.length_nil, List.map_cons, List.map_nil, List.cons_append, List.nil_append, List.replicate, List.set_cons_succ, List.set_cons_zero, List.getElem?_cons_zero, List.getElem?_cons_succ]
          refine lcW_filt D.int (fun p => hasB o p) D.int trivial (intsOf ds) (fun p hp k3 q3 => ?_) ?_
          · refine hh o p _ _ _ ?_
            simp only [wpF, wpSs, wpS, wpE, wpEs, wpC, wpO, a_nm, asgW, asgsW, wipeD, wk_L, wk_T, wk_1, wk_2, wk_E, wk_Z, wk_ZT, b_add, b_sub, b_fdiv, b_mod, b_mul, b_pow, b_addT, b_addL, b_addS, b_addB, b_subB, t_str, t_strB, c_lt, c_le, c_gt, c_ge, c_eq, c_ne, c_isN, c_isNN, c_inL, c_inT, c_ninL, c_ninT, sl_L, sl_T, sl_S, i_T0, i_T1, i_L0, i_L1, vw_T, vw_L, vw_I, vw_N, vw_B, vw_S, u_b, t_lenL, t_lenT, t_lenS, t_abs, up_S, t_min2, t_max2, t_any, t_all, t_toTL, t_toTT, t_toLT, t_toLL, t_sortL, t_sortT, nw_f, List.length_cons, List.length_nil, List.map_cons, List.map_nil, List.cons_append, List.nil_append, List.replicate, List.set_cons_succ, List.set_cons_zero, List.getElem?_cons_zero, List.getElem?_cons_succ]
            exact q3
          · simp only [wpF, wpS, wpE, wpEs, wpC, wpO, a_nm, asgW, asgsW, wipeD, wk_L, wk_T, wk_1, wk_2, wk_E, wk_Z, wk_ZT, b_add, b_sub, b_fdiv, b_mod, b_mul, b_pow, b_addT, b_addL, b_addS, b_addB, b_subB, t_str, t_strB, c_lt, c_le, c_gt, c_ge, c_eq, c_ne, c_isN, c_isNN, c_inL, c_inT, c_ninL, c_ninT, sl_L, sl_T, sl_S, i_T0, i_T1, i_L0, i_L1, vw_T, vw_L, vw_I, vw_N, vw_B, vw_S, u_b, t_lenL, t_lenT, t_lenS, t_abs, up_S, t_min2, t_max2, t_any, t_all, t_toTL, t_toTT, t_toLT, t_toLL, t_sortL, t_sortT, nw_f, List.length_cons, List.length_nil, List.map_cons, List.map_nil, List.cons_append, List.nil_append, List.replicate, List.set_cons_succ, List.set_cons_zero, List.getElem?_cons_zero, List.getElem?_cons_succ, List.length_map, decide_eq_true_eq]
            by_cases c3 : (1 : Int) < ((((intsOf ds).filter fun p => hasB o p).length : Nat) : Int)
            · rw [if_pos c3]
              refine ss ?_
              simp only [wpF, wpS, wpE, wpEs, wpC, wpO, a_nm, asgW, asgsW, wipeD, wk_L, wk_T, wk_1, wk_2, wk_E, wk_Z, wk_ZT, b_add, b_sub, b_fdiv, b_mod, b_mul, b_pow, b_addT, b_addL, b_addS, b_addB, b_subB, t_str, t_strB, c_lt, c_le, c_gt, c_ge, c_eq, c_ne, c_isN, c_isNN, c_inL, c_inT, c_ninL, c_ninT, sl_L, sl_T, sl_S, i_T0, i_T1, i_L0, i_L1, vw_T, vw_L, vw_I, vw_N, vw_B, vw_S, u_b, t_lenL, t_lenT, t_lenS, t_abs, up_S, t_min2, t_max2, t_any, t_all, t_toTL, t_toTT, t_toLT, t_toLL, t_sortL, t_sortT, nw_f, List.length_cons, List.length_nil, List.map_cons, List.map_nil, List.cons_append, List.nil_append, List.replicate, List.set_cons_succ, List.set_cons_zero, List.getElem?_cons_zero, List.getElem?_cons_succ]
              have en : shownL l s (.tup ds) = none := if_neg fun z => by
                have := z.2.2 o (List.mem_of_getElem? ho)
                omega
              rw [en] at h
              exact h
            · rw [if_neg c3]
              refine ss0 (G := G) ?_
              refine ss0 (G := G) ?_
              refine hk2 _ _ ⟨_, _, rfl, rfl, fun o' ho' => ?_⟩
              rw [List.take_succ, List.mem_append] at ho'
              rcases ho' with q | q
              · exact hall o' q
              · rw [ho] at q
                have : o' = o := by simpa using q
                rw [this]
                omega
        · obtain ⟨v3, v4, rfl, rfl, hall⟩ := I
          rw [List.length_map, List.take_length] at hall
          refine ss ?_
          simp only [wpF, wpS, wpE, wpEs, wpC, wpO, a_nm, asgW, asgsW, wipeD, wk_L, wk_T, wk_1, wk_2, wk_E, wk_Z, wk_ZT, b_add, b_sub, b_fdiv, b_mod, b_mul, b_pow, b_addT, b_addL, b_addS, b_addB, b_subB, t_str, t_strB, c_lt, c_le, c_gt, c_ge, c_eq, c_ne, c_isN, c_isNN, c_inL, c_inT, c_ninL, c_ninT, sl_L, sl_T, sl_S, i_T0, i_T1, i_L0, i_L1, vw_T, vw_L, vw_I, vw_N, vw_B, vw_S, u_b, t_lenL, t_lenT, t_lenS, t_abs, up_S, t_min2, t_max2, t_any, t_all, t_toTL, t_toTT, t_toLT, t_toLL, t_sortL, t_sortT, nw_f, List.length_cons, List.length_nil, List.map_cons, List.map_nil, List.cons_append, List.nil_append, List.replicate, List.set_cons_succ, List.set_cons_zero, List.getElem?_cons_zero, List.getElem?_cons_succ]
          have en : shownL l s (.tup ds) = some ds.length := if_pos ⟨c1, c2, hall⟩
          rw [en] at h
          rw [← es]
          exact h
      · rw [decide_eq_false c2]
        simp only [Bool.not_false, if_true]
        refine ss ?_
        simp only [wpF, wpS, wpE, wpEs, wpC, wpO, a_nm, asgW, asgsW, wipeD, wk_L, wk_T, wk_1, wk_2, wk_E, wk_Z, wk_ZT, b_add, b_sub, b_fdiv, b_mod, b_mul, b_pow, b_addT, b_addL, b_addS, b_addB, b_subB, t_str, t_strB, c_lt, c_le, c_gt, c_ge, c_eq, c_ne, c_isN, c_isNN, c_inL, c_inT, c_ninL, c_ninT, sl_L, sl_T, sl_S, i_T0, i_T1, i_L0, i_L1, vw_T, vw_L, vw_I, vw_N, vw_B, vw_S, u_b, t_lenL, t_lenT, t_lenS, t_abs, up_S, t_min2, t_max2, t_any, t_all, t_toTL, t_toTT, t_toLT, t_toLL, t_sortL, t_sortT, nw_f, List.length_cons, List.length_nil, List.map_cons, List.map_nil, List.cons_append, List.nil_append, List.replicate, List.set_cons_succ, List.set_cons_zero, List.getElem?_cons_zero, List.getElem?_cons_succ]
        have en : shownL l s (.tup ds) = none := if_neg fun z => c2 z.2.1
        rw [en] at h
        exact h
    · rw [Bool.not_eq_true] at c1
      rw [c1]
      simp only [Bool.not_false, if_true]
      refine ss ?_
      simp only [wpF, wpS, wpE, wpEs, wpC, wpO, a_nm, asgW, asgsW, wipeD, wk_L, wk_T, wk_1, wk_2, wk_E, wk_Z, wk_ZT, b_add, b_sub, b_fdiv, b_mod, b_mul, b_pow, b_addT, b_addL, b_addS, b_addB, b_subB, t_str, t_strB, c_lt, c_le, c_gt, c_ge, c_eq, c_ne, c_isN, c_isNN, c_inL, c_inT, c_ninL, c_ninT, sl_L, sl_T, sl_S, i_T0, i_T1, i_L0, i_L1, vw_T, vw_L, vw_I, vw_N, vw_B, vw_S, u_b, t_lenL, t_lenT, t_lenS, t_abs, up_S, t_min2, t_max2, t_any, t_all, t_toTL, t_toTT, t_toLT, t_toLL, t_sortL, t_sortT, nw_f, List.length_cons, List.length_nil, List.map_cons, List.map_nil, List.cons_append, List.nil_append, List.replicate, List.set_cons_succ, List.set_cons_zero, List.getElem?_cons_zero, List.getElem?_cons_succ]
      have en : shownL l s (.tup ds) = none := if_neg fun z => by rw [c1] at z; exact Bool.false_ne_true z.1
      rw [en] at h
      exact h
  · rw [Bool.not_eq_true] at e
    rw [e]
    simp only [Bool.not_false, if_true]
    refine ss ?_
    simp only [wpF, wpS, wpE, wpEs, wpC, wpO, a_nm, asgW, asgsW, wipeD, wk_L, wk_T, wk_1, wk_2, wk_E, wk_Z, wk_ZT, b_add, b_sub, b_fdiv, b_mod, b_mul, b_pow, b_addT, b_addL, b_addS, b_addB, b_subB, t_str, t_strB, c_lt, c_le, c_gt, c_ge, c_eq, c_ne, c_isN, c_isNN, c_inL, c_inT, c_ninL, c_ninT, sl_L, sl_T, sl_S, i_T0, i_T1, i_L0, i_L1, vw_T, vw_L, vw_I, vw_N, vw_B, vw_S, u_b, t_lenL, t_lenT, t_lenS, t_abs, up_S, t_min2, t_max2, t_any, t_all, t_toTL, t_toTT, t_toLT, t_toLL, t_sortL, t_sortT, nw_f, List.length_cons, List.length_nil, List.map_cons, List.map_nil, List.cons_append, List.nil_append, List.replicate, List.set_cons_succ, List.set_cons_zero, List.getElem?_cons_zero, List.getElem?_cons_succ]
    have en : shownL l s d = none := by
      cases d with
      | tup ds => cases e
      | _ => rfl
    rw [en] at h
    exact h
theorem bare_within (l : List St2) (s : St2) : bareL (withinL l s) s = bareL l s := by
  have e : withinL (withinL l s) s = withinL l s := by
    unfold withinL
    rw [List.filter_filter]
    congr 1
    funext o
    rw [Bool.and_self]
  unfold bareL
  rw [e]
theorem p_lshown (hw : SpIsW "_law_within" G) (hi : SpIn "_law_in" G) {l : List St2} {s : St2} {d : D} (ho : okD 60 d = true) (hz : ∀ ds, d = .tup ds → ds.length < 64) (h : k (nOpt (shownL l s d)) μ) : wpF G dl_shown [stsD l, stD s, d] μ k x := by
  have ht := ok_okT ho
  have hv : vw μ d = d := vw_of ht
  simp only [dl_shown, wpF, wpS, wpE, wpEs, wpC, wpO, a_nm, asgW, asgsW, wipeD, wk_L, wk_T, wk_1, wk_2, wk_E, wk_Z, wk_ZT, b_add, b_sub, b_fdiv, b_mod, b_mul, b_pow, b_addT, b_addL, b_addS, b_addB, b_subB, t_str, t_strB, c_lt, c_le, c_gt, c_ge, c_eq, c_ne, c_isN, c_isNN, c_inL, c_inT, c_ninL, c_ninT, sl_L, sl_T, sl_S, i_T0, i_T1, i_L0, i_L1, vw_T, vw_L, vw_I, vw_N, vw_B, vw_S, u_b, t_lenL, t_lenT, t_lenS, t_abs, up_S, t_min2, t_max2, t_any, t_all, t_toTL, t_toTT, t_toLT, t_toLL, t_sortL, t_sortT, nw_f, List.length_cons, List.length_nil, List.map_cons, List.map_nil, List.cons_append, List.nil_append, List.replicate, List.set_cons_succ, List.set_cons_zero, List.getElem?_cons_zero, List.getElem?_cons_succ]
  refine ⟨trivial, ss ?_⟩
  simp only [wpF, wpS, wpE, wpEs, wpC, wpO, a_nm, asgW, asgsW, wipeD, wk_L, wk_T, wk_1, wk_2, wk_E, wk_Z, wk_ZT, b_add, b_sub, b_fdiv, b_mod, b_mul, b_pow, b_addT, b_addL, b_addS, b_addB, b_subB, t_str, t_strB, c_lt, c_le, c_gt, c_ge, c_eq, c_ne, c_isN, c_isNN, c_inL, c_inT, c_ninL, c_ninT, sl_L, sl_T, sl_S, i_T0, i_T1, i_L0, i_L1, vw_T, vw_L, vw_I, vw_N, vw_B, vw_S, u_b, t_lenL, t_lenT, t_lenS, t_abs, up_S, t_min2, t_max2, t_any, t_all, t_toTL, t_toTT, t_toLT, t_toLL, t_sortL, t_sortT, nw_f, List.length_cons, List.length_nil, List.map_cons, List.map_nil, List.cons_append, List.nil_append, List.replicate, List.set_cons_succ, List.set_cons_zero, List.getElem?_cons_zero, List.getElem?_cons_succ, hv]
  refine ⟨ht, ?_⟩
  by_cases e : isTy "tuple" d = true
  · obtain ⟨ds, rfl⟩ := isTup_of e
    simp only [e, Bool.not_true, Bool.false_eq_true, if_false, wpF, wpS, wpE, wpEs, wpC, wpO, a_nm, asgW, asgsW, wipeD, wk_L, wk_T, wk_1, wk_2, wk_E, wk_Z, wk_ZT, b_add, b_sub, b_fdiv, b_mod, b_mul, b_pow, b_addT, b_addL, b_addS, b_addB, b_subB, t_str, t_strB, c_lt, c_le, c_gt, c_ge, c_eq, c_ne, c_isN, c_isNN, c_inL, c_inT, c_ninL, c_ninT, sl_L, sl_T, sl_S, i_T0, i_T1, i_L0, i_L1, vw_T, vw_L, vw_I, vw_N, vw_B, vw_S, u_b, t_lenL, t_lenT, t_lenS, t_abs, up_S, t_min2, t_max2, t_any, t_all, t_toTL, t_toTT, t_toLT, t_toLL, t_sortL, t_sortT, nw_f, List.length_cons, List.length_nil, List.map_cons, List.map_nil, List.cons_append, List.nil_append, List.replicate, List.set_cons_succ, List.set_cons_zero, List.getElem?_cons_zero, List.getElem?_cons_succ]
    refine ss0 (G := G) ?_
    refine ss ?_
    simp only [wpF, wpS, wpE, wpEs, wpC, wpO, a_nm, asgW, asgsW, wipeD, wk_L, wk_T, wk_1, wk_2, wk_E, wk_Z, wk_ZT, b_add, b_sub, b_fdiv, b_mod, b_mul, b_pow, b_addT, b_addL, b_addS, b_addB, b_subB, t_str, t_strB, c_lt, c_le, c_gt, c_ge, c_eq, c_ne, c_isN, c_isNN, c_inL, c_inT, c_ninL, c_ninT, sl_L, sl_T, sl_S, i_T0, i_T1, i_L0, i_L1, vw_T, vw_L, vw_I, vw_N, vw_B, vw_S, u_b, t_lenL, t_lenT, t_lenS, t_abs, up_S, t_min2, t_max2, t_any, t_all, t_toTL, t_toTT, t_toLT, t_toLL, t_sortL, t_sortT, nw_f, List.length_cons, List.length_nil, List.map_cons, List.map_nil, List.cons_append, List.nil_append, List.replicate, List.set_cons_succ, List.set_cons_zero, List.getElem?_cons_zero, List.getElem?_cons_succ]
    refine lcW_filtD (fun a => !isW a s.1 s.2) id trivial ds (fun a ha k2 q => ?_) ?_
    · simp only [stD, wpF, wpSs, wpS, wpE, wpEs, wpC, wpO, a_nm, asgW, asgsW, wipeD, wk_L, wk_T, wk_1, wk_2, wk_E, wk_Z, wk_ZT, b_add, b_sub, b_fdiv, b_mod, b_mul, b_pow, b_addT, b_addL, b_addS, b_addB, b_subB, t_str, t_strB, c_lt, c_le, c_gt, c_ge, c_eq, c_ne, c_isN, c_isNN, c_inL, c_inT, c_ninL, c_ninT, sl_L, sl_T, sl_S, i_T0, i_T1, i_L0, i_L1, vw_T, vw_L, vw_I, vw_N, vw_B, vw_S, u_b, t_lenL, t_lenT, t_lenS, t_abs, up_S, t_min2, t_max2, t_any, t_all, t_toTL, t_toTT, t_toLT, t_toLL, t_sortL, t_sortT, nw_f, List.length_cons, List.length_nil, List.map_cons, List.map_nil, List.cons_append, List.nil_append, List.replicate, List.set_cons_succ, List.set_cons_zero, List.getElem?_cons_zero, List.getElem?_cons_succ]
      refine hw a _ _ _ _ _ (ok_okT (okDs_in (n := 59) ho a ha)) ?_
      simp only [wpF, wpSs, wpS, wpE, wpEs, wpC, wpO, a_nm, asgW, asgsW, wipeD, wk_L, wk_T, wk_1, wk_2, wk_E, wk_Z, wk_ZT, b_add, b_sub, b_fdiv, b_mod, b_mul, b_pow, b_addT, b_addL, b_addS, b_addB, b_subB, t_str, t_strB, c_lt, c_le, c_gt, c_ge, c_eq, c_ne, c_isN, c_isNN, c_inL, c_inT, c_ninL, c_ninT, sl_L, sl_T, sl_S, i_T0, i_T1, i_L0, i_L1, vw_T, vw_L, vw_I, vw_N, vw_B, vw_S, u_b, t_lenL, t_lenT, t_lenS, t_abs, up_S, t_min2, t_max2, t_any, t_all, t_toTL, t_toTT, t_toLT, t_toLL, t_sortL, t_sortT, nw_f, List.length_cons, List.length_nil, List.map_cons, List.map_nil, List.cons_append, List.nil_append, List.replicate, List.set_cons_succ, List.set_cons_zero, List.getElem?_cons_zero, List.getElem?_cons_succ]
      exact q
    rw [List.map_id]
    simp only [wpF, wpS, wpE, wpEs, wpC, wpO, a_nm, asgW, asgsW, wipeD, wk_L, wk_T, wk_1, wk_2, wk_E, wk_Z, wk_ZT, b_add, b_sub, b_fdiv, b_mod, b_mul, b_pow, b_addT, b_addL, b_addS, b_addB, b_subB, t_str, t_strB, c_lt, c_le, c_gt, c_ge, c_eq, c_ne, c_isN, c_isNN, c_inL, c_inT, c_ninL, c_ninT, sl_L, sl_T, sl_S, i_T0, i_T1, i_L0, i_L1, vw_T, vw_L, vw_I, vw_N, vw_B, vw_S, u_b, t_lenL, t_lenT, t_lenS, t_abs, up_S, t_min2, t_max2, t_any, t_all, t_toTL, t_toTT, t_toLT, t_toLL, t_sortL, t_sortT, nw_f, List.length_cons, List.length_nil, List.map_cons, List.map_nil, List.cons_append, List.nil_append, List.replicate, List.set_cons_succ, List.set_cons_zero, List.getElem?_cons_zero, List.getElem?_cons_succ, eq_nil]
    have okf : okD 60 (.lst (ds.filter fun a => !isW a s.1 s.2)) = true := by
      show okDs 59 _ = true
      have q : ∀ d ∈ ds.filter fun a => !isW a s.1 s.2, okD 59 d = true := fun d hd => okDs_in (n := 59) ho d (List.mem_filter.mp hd).1
      generalize (ds.filter fun a => !isW a s.1 s.2) = z at q
      induction z with
      | nil => rfl
      | cons a r ih =>
        have e : okDs 59 (a :: r) = (okD 59 a && okDs 59 r) := rfl
        rw [e, q a List.mem_cons_self, ih fun d hd => q d (List.mem_cons_of_mem _ hd)]
        rfl
    refine ⟨by decide, okf, rfl, ?_⟩
    have ef : (ds.filter fun a => !isW a s.1 s.2).isEmpty = ds.all fun d => isW d s.1 s.2 := by
      rw [Bool.eq_iff_iff, List.isEmpty_iff, List.filter_eq_nil_iff, List.all_eq_true]
      simp
    rw [ef]
    by_cases c1 : (ds.all fun d => isW d s.1 s.2) = true
    · rw [c1]
      simp only [Bool.not_true, Bool.false_eq_true, if_false]
      obtain ⟨es, ins⟩ := ints_all c1
      have hz' := hz ds rfl
      have hlen : (intsOf ds).length < 64 := by
        have := congrArg List.length es
        rw [List.length_map] at this
        omega
      refine ss0 (G := G) ?_
      refine ss ?_
      have eT : D.tup ds = .tup ((intsOf ds).map D.int) := congrArg D.tup es
      rw [eT]
      simp only [wpF, wpS, wpE, wpEs, wpC, wpO, a_nm, asgW, asgsW, wipeD, wk_L, wk_T, wk_1, wk_2, wk_E, wk_Z, wk_ZT, b_add, b_sub, b_fdiv, b_mod, b_mul, b_pow, b_addT, b_addL, b_addS, b_addB, b_subB, t_str, t_strB, c_lt, c_le, c_gt, c_ge, c_eq, c_ne, c_isN, c_isNN, c_inL, c_inT, c_ninL, c_ninT, sl_L, sl_T, sl_S, i_T0, i_T1, i_L0, i_L1, vw_T, vw_L, vw_I, vw_N, vw_B, vw_S, u_b, t_lenL, t_lenT, t_lenS, t_abs, up_S, t_min2, t_max2, t_any, t_all, t_toTL, t_toTT, t_toLT, t_toLL, t_sortL, t_sortT, nw_f, List.length_cons, List.length_nil, List.map_cons, List.map_nil, List.cons_append, List.nil_append, List.replicate, List.set_cons_succ, List.set_cons_zero, List.getElem?_cons_zero, List.getElem?_cons_succ]
      refine ⟨intLin.srt _, intLin.set _ hlen, fun r nd mem => ?_⟩
      have ee : eqD (.lst ((intsOf ds).map D.int)) (.lst (r.mergeSort leD)) = decide ((intsOf ds).Pairwise (· < ·)) := intLin.sset_eq nd mem
      refine ⟨intLin.ok _, intLin.sset_ok nd mem, ?_⟩
      by_cases c2 : (intsOf ds).Pairwise (· < ·)
      · have hc : ¬ ((!eqD (.lst ((intsOf ds).map D.int)) (.lst (r.mergeSort leD))) = true) := by
          rw [ee, decide_eq_true c2]
          exact Bool.false_ne_true
        refine it_f hc ?_
        refine ss0 (G := G) ?_
        refine ss ?_
        simp only [wpF, wpS, wpE, wpEs, wpC, wpO, a_nm, asgW, asgsW, wipeD, wk_L, wk_T, wk_1, wk_2, wk_E, wk_Z, wk_ZT, b_add, b_sub, b_fdiv, b_mod, b_mul, b_pow, b_addT, b_addL, b_addS, b_addB, b_subB, t_str, t_strB, c_lt, c_le, c_gt, c_ge, c_eq, c_ne, c_isN, c_isNN, c_inL, c_inT, c_ninL, c_ninT, sl_L, sl_T, sl_S, i_T0, i_T1, i_L0, i_L1, vw_T, vw_L, vw_I, vw_N, vw_B, vw_S, u_b, t_lenL, t_lenT, t_lenS, t_abs, up_S, t_min2, t_max2, t_any, t_all, t_toTL, t_toTT, t_toLT, t_toLL, t_sortL, t_sortT, nw_f, List.length_cons, List.length_nil, List.map_cons, List.map_nil, List.cons_append, List.nil_append, List.replicate, List.set_cons_succ, List.set_cons_zero, List.getElem?_cons_zero, List.getElem?_cons_succ, stsD]
        refine forW_inv _ (fun i ρ μ' => ∃ v3 v4 v5, ρ = [some (.tup (l.map stD)), some (stD s), some (.tup ((intsOf ds).map D.int)), v3, v4, v5] ∧ μ' = μ ∧ ∀ o ∈ l.take i, inB o s = true → ((intsOf ds).filter fun p => hasB o p).length ≤ 1)
          (fun _ _ _ _ => trivial) (fun i d ρ μ' hj I k2 hk2 => ?_) (fun ρ μ' I => ?_) ⟨none, none, none, rfl, rfl, fun _ h => nomatch h⟩
        · obtain ⟨v3, v4, v5, rfl, rfl, hall⟩ := I
          obtain ⟨o, ho, rfl⟩ := map_get hj
          have next : (inB o s = true → ((intsOf ds).filter fun p => hasB o p).length ≤ 1) → ∀ o' ∈ l.take (i + 1), inB o' s = true → ((intsOf ds).filter fun p => hasB o' p).length ≤ 1 := fun z o' ho' => by
            rw [List.take_succ, List.mem_append] at ho'
            rcases ho' with q | q
            · exact hall o' q
            · rw [ho] at q
              have : o' = o := by simpa using q
              rw [this]
              exact z
          simp only [stD, wpF, wpS, wpE, wpEs, wpC, wpO, a_nm, asgW, asgsW, wipeD, wk_L, wk_T, wk_1, wk_2, wk_E, wk_Z, wk_ZT, b_add, b_sub, b_fdiv, b_mod, b_mul, b_pow, b_addT, b_addL, b_addS, b_addB, b_subB, t_str, t_strB, c_lt, c_le, c_gt, c_ge, c_eq, c_ne, c_isN, c_isNN, c_inL, c_inT, c_ninL, c_ninT, sl_L, sl_T, sl_S, i_T0, i_T1, i_L0, i_L1, vw_T, vw_L, vw_I, vw_N, vw_B, vw_S, u_b, t_lenL, t_lenT, t_lenS, t_abs, up_S, t_min2, t_max2, t_any, t_all, t_toTL, t_toTT, t_toLT, t_toLL, t_sortL, t_sortT, nw_f, List.length_cons, List.length_nil, List.map_cons, List.map_nil, List.cons_append, List.nil_append, List.replicate, List.set_cons_succ, List.set_cons_zero, List.getElem?_cons_zero, List.getElem?_cons_succ]
          refine ⟨trivial, ss ?_⟩
          simp only [wpF, wpS, wpE, wpEs, wpC, wpO, a_nm, asgW, asgsW, wipeD, wk_L, wk_T, wk_1, wk_2, wk_E, wk_Z, wk_ZT, b_add, b_sub, b_fdiv, b_mod, b_mul, b_pow, b_addT, b_addL, b_addS, b_addB, b_subB, t_str, t_strB, c_lt, c_le, c_gt, c_ge, c_eq, c_ne, c_isN, c_isNN, c_inL, c_inT, c_ninL, c_ninT, sl_L, sl_T, sl_S, i_T0, i_T1, i_L0, i_L1, vw_T, vw_L, vw_I, vw_N, vw_B, vw_S, u_b, t_lenL, t_lenT, t_lenS, t_abs, up_S, t_min2, t_max2, t_any, t_all, t_toTL, t_toTT, t_toLT, t_toLL, t_sortL, t_sortT, nw_f, List.length_cons, List.length_nil, List.map_cons, List.map_nil, List.cons_append, List.nil_append, List.replicate, List.set_cons_succ, List.set_cons_zero, List.getElem?_cons_zero, List.getElem?_cons_succ]
          refine ⟨by decide, ?_⟩
          refine hi o s _ _ _ ?_
          by_cases ci : inB o s = true
          · rw [ci]
            simp only [wpF, wpS, wpE, wpEs, wpC, wpO, a_nm, asgW, asgsW, wipeD, wk_L, wk_T, wk_1, wk_2, wk_E, wk_Z, wk_ZT, b_add, b_sub, b_fdiv, b_mod, b_mul, b_pow, b_addT, b_addL, b_addS, b_addB, b_subB, t_str, t_strB, c_lt, c_le, c_gt, c_ge, c_eq, c_ne, c_isN, c_isNN, c_inL, c_inT, c_ninL, c_ninT, sl_L, sl_T, sl_S, i_T0, i_T1, i_L0, i_L1, vw_T, vw_L, vw_I, vw_N, vw_B, vw_S, u_b, t_lenL, t_lenT, t_lenS, t_abs, up_S, t_min2, t_max2, t_any, t_all, t_toTL, t_toTT, t_toLT, t_toLL, t_sortL, t_sortT, nw_f, List.length_cons, List.length_nil, List.map_cons, List.map_nil, List.cons_append, List.nil_append, List.replicate, List.set_cons_succ, List.set_cons_zero, List.getElem?_cons_zero, List.getElem?_cons_succ, if_true]
            refine lcW_filt D.int (fun p => hasB o p) D.int trivial (intsOf ds) (fun p hp k3 q3 => ?_) ?_
            · simp only [wpF, wpS, wpE, wpEs, wpC, wpO, a_nm, asgW, asgsW, wipeD, wk_L, wk_T, wk_1, wk_2, wk_E, wk_Z, wk_ZT, b_add, b_sub, b_fdiv, b_mod, b_mul, b_pow, b_addT, b_addL, b_addS, b_addB, b_subB, t_str, t_strB, c_lt, c_le, c_gt, c_ge, c_eq, c_ne, c_isN, c_isNN, c_inL, c_inT, c_ninL, c_ninT, sl_L, sl_T, sl_S, i_T0, i_T1, i_L0, i_L1, vw_T, vw_L, vw_I, vw_N, vw_B, vw_S, u_b, t_lenL, t_lenT, t_lenS, t_abs, up_S, t_min2, t_max2, t_any, t_all, t_toTL, t_toTT, t_toLT, t_toLL, t_sortL, t_sortT, nw_f, List.length_cons, List.length_nil, List.map_cons, List.map_nil, List.cons_append, List.nil_append, List.replicate, List.set_cons_succ, List.set_cons_zero, List.getElem?_cons_zero, List.getElem?_cons_succ]
              unfold hasB at q3
              by_cases c1 : o.1 ≤ p
              · rw [decide_eq_true c1, if_pos rfl]
                rw [decide_eq_true c1, Bool.true_and] at q3
                exact q3
              · rw [decide_eq_false c1, if_neg Bool.false_ne_true]
                rw [decide_eq_false c1, Bool.false_and, if_neg Bool.false_ne_true] at q3
                simp only [Bool.false_eq_true, if_false]
                exact q3
            · simp only [wpF, wpS, wpE, wpEs, wpC, wpO, a_nm, asgW, asgsW, wipeD, wk_L, wk_T, wk_1, wk_2, wk_E, wk_Z, wk_ZT, b_add, b_sub, b_fdiv, b_mod, b_mul, b_pow, b_addT, b_addL, b_addS, b_addB, b_subB, t_str, t_strB, c_lt, c_le, c_gt, c_ge, c_eq, c_ne, c_isN, c_isNN, c_inL, c_inT, c_ninL, c_ninT, sl_L, sl_T, sl_S, i_T0, i_T1, i_L0, i_L1, vw_T, vw_L, vw_I, vw_N, vw_B, vw_S, u_b, t_lenL, t_lenT, t_lenS, t_abs, up_S, t_min2, t_max2, t_any, t_all, t_toTL, t_toTT, t_toLT, t_toLL, t_sortL, t_sortT, nw_f, List.length_cons, List.length_nil, List.map_cons, List.map_nil, List.cons_append, List.nil_append, List.replicate, List.set_cons_succ, List.set_cons_zero, List.getElem?_cons_zero, List.getElem?_cons_succ, List.length_map, decide_eq_true_eq]
              by_cases c3 : (1 : Int) < ((((intsOf ds).filter fun p => hasB o p).length : Nat) : Int)
              · rw [if_pos c3]
                refine ss ?_
                simp only [wpF, wpS, wpE, wpEs, wpC, wpO, a_nm, asgW, asgsW, wipeD, wk_L, wk_T, wk_1, wk_2, wk_E, wk_Z, wk_ZT, b_add, b_sub, b_fdiv, b_mod, b_mul, b_pow, b_addT, b_addL, b_addS, b_addB, b_subB, t_str, t_strB, c_lt, c_le, c_gt, c_ge, c_eq, c_ne, c_isN, c_isNN, c_inL, c_inT, c_ninL, c_ninT, sl_L, sl_T, sl_S, i_T0, i_T1, i_L0, i_L1, vw_T, vw_L, vw_I, vw_N, vw_B, vw_S, u_b, t_lenL, t_lenT, t_lenS, t_abs, up_S, t_min2, t_max2, t_any, t_all, t_toTL, t_toTT, t_toLT, t_toLL, t_sortL, t_sortT, nw_f, List.length_cons, List.length_nil, List.map_cons, List.map_nil, List.cons_append, List.nil_append, List.replicate, List.set_cons_succ, List.set_cons_zero, List.getElem?_cons_zero, List.getElem?_cons_succ]
                have en : shownL l s (.tup ds) = none := if_neg fun z => by
                  have := z.2.2 o (List.mem_filter.mpr ⟨List.mem_of_getElem? ho, ci⟩)
                  omega
                rw [en] at h
                exact h
              · rw [if_neg c3]
                refine ss0 (G := G) ?_
                refine ss0 (G := G) ?_
                exact hk2 _ _ ⟨_, _, _, rfl, rfl, next fun _ => by omega⟩
          · rw [Bool.not_eq_true] at ci
            rw [ci]
            simp only [wpF, wpS, wpE, wpEs, wpC, wpO, a_nm, asgW, asgsW, wipeD, wk_L, wk_T, wk_1, wk_2, wk_E, wk_Z, wk_ZT, b_add, b_sub, b_fdiv, b_mod, b_mul, b_pow, b_addT, b_addL, b_addS, b_addB, b_subB, t_str, t_strB, c_lt, c_le, c_gt, c_ge, c_eq, c_ne, c_isN, c_isNN, c_inL, c_inT, c_ninL, c_ninT, sl_L, sl_T, sl_S, i_T0, i_T1, i_L0, i_L1, vw_T, vw_L, vw_I, vw_N, vw_B, vw_S, u_b, t_lenL, t_lenT, t_lenS, t_abs, up_S, t_min2, t_max2, t_any, t_all, t_toTL, t_toTT, t_toLT, t_toLL, t_sortL, t_sortT, nw_f, List.length_cons, List.length_nil, List.map_cons, List.map_nil, List.cons_append, List.nil_append, List.replicate, List.set_cons_succ, List.set_cons_zero, List.getElem?_cons_zero, List.getElem?_cons_succ, Bool.false_eq_true, if_false]
            refine ss0 (G := G) ?_
            refine ss0 (G := G) ?_
            exact hk2 _ _ ⟨_, _, _, rfl, rfl, next fun z => absurd z (by rw [ci]; exact Bool.false_ne_true)⟩
        · obtain ⟨v3, v4, v5, rfl, rfl, hall⟩ := I
          rw [List.length_map, List.take_length] at hall
          refine ss ?_
          simp only [wpF, wpS, wpE, wpEs, wpC, wpO, a_nm, asgW, asgsW, wipeD, wk_L, wk_T, wk_1, wk_2, wk_E, wk_Z, wk_ZT, b_add, b_sub, b_fdiv, b_mod, b_mul, b_pow, b_addT, b_addL, b_addS, b_addB, b_subB, t_str, t_strB, c_lt, c_le, c_gt, c_ge, c_eq, c_ne, c_isN, c_isNN, c_inL, c_inT, c_ninL, c_ninT, sl_L, sl_T, sl_S, i_T0, i_T1, i_L0, i_L1, vw_T, vw_L, vw_I, vw_N, vw_B, vw_S, u_b, t_lenL, t_lenT, t_lenS, t_abs, up_S, t_min2, t_max2, t_any, t_all, t_toTL, t_toTT, t_toLT, t_toLL, t_sortL, t_sortT, nw_f, List.length_cons, List.length_nil, List.map_cons, List.map_nil, List.cons_append, List.nil_append, List.replicate, List.set_cons_succ, List.set_cons_zero, List.getElem?_cons_zero, List.getElem?_cons_succ]
          have en : shownL l s (.tup ds) = some ds.length := if_pos ⟨c1, c2, fun o ho => hall o (within_sub ho).1 (within_sub ho).2⟩
          rw [en] at h
          rw [← es]
          exact h
      · have hc : (!eqD (.lst ((intsOf ds).map D.int)) (.lst (r.mergeSort leD))) = true := by
          rw [ee, decide_eq_false c2]
          rfl
        refine it_t hc ?_
        refine ss ?_
        simp only [wpF, wpS, wpE, wpEs, wpC, wpO, a_nm, asgW, asgsW, wipeD, wk_L, wk_T, wk_1, wk_2, wk_E, wk_Z, wk_ZT, b_add, b_sub, b_fdiv, b_mod, b_mul, b_pow, b_addT, b_addL, b_addS, b_addB, b_subB, t_str, t_strB, c_lt, c_le, c_gt, c_ge, c_eq, c_ne, c_isN, c_isNN, c_inL, c_inT, c_ninL, c_ninT, sl_L, sl_T, sl_S, i_T0, i_T1, i_L0, i_L1, vw_T, vw_L, vw_I, vw_N, vw_B, vw_S, u_b, t_lenL, t_lenT, t_lenS, t_abs, up_S, t_min2, t_max2, t_any, t_all, t_toTL, t_toTT, t_toLT, t_toLL, t_sortL, t_sortT, nw_f, List.length_cons, List.length_nil, List.map_cons, List.map_nil, List.cons_append, List.nil_append, List.replicate, List.set_cons_succ, List.set_cons_zero, List.getElem?_cons_zero, List.getElem?_cons_succ]
        have en : shownL l s (.tup ds) = none := if_neg fun z => c2 z.2.1
        rw [en] at h
        exact h
    · rw [Bool.not_eq_true] at c1
      rw [c1]
      simp only [Bool.not_false, if_true]
      refine ss ?_
      simp only [wpF, wpS, wpE, wpEs, wpC, wpO, a_nm, asgW, asgsW, wipeD, wk_L, wk_T, wk_1, wk_2, wk_E, wk_Z, wk_ZT, b_add, b_sub, b_fdiv, b_mod, b_mul, b_pow, b_addT, b_addL, b_addS, b_addB, b_subB, t_str, t_strB, c_lt, c_le, c_gt, c_ge, c_eq, c_ne, c_isN, c_isNN, c_inL, c_inT, c_ninL, c_ninT, sl_L, sl_T, sl_S, i_T0, i_T1, i_L0, i_L1, vw_T, vw_L, vw_I, vw_N, vw_B, vw_S, u_b, t_lenL, t_lenT, t_lenS, t_abs, up_S, t_min2, t_max2, t_any, t_all, t_toTL, t_toTT, t_toLT, t_toLL, t_sortL, t_sortT, nw_f, List.length_cons, List.length_nil, List.map_cons, List.map_nil, List.cons_append, List.nil_append, List.replicate, List.set_cons_succ, List.set_cons_zero, List.getElem?_cons_zero, List.getElem?_cons_succ]
      have en : shownL l s (.tup ds) = none := if_neg fun z => by rw [c1] at z; exact Bool.false_ne_true z.1
      rw [en] at h
      exact h
  · rw [Bool.not_eq_true] at e
    rw [e]
    simp only [Bool.not_false, if_true]
    refine ss ?_
    simp only [wpF, wpS, wpE, wpEs, wpC, wpO, a_nm, asgW, asgsW, wipeD, wk_L, wk_T, wk_1, wk_2, wk_E, wk_Z, wk_ZT, b_add, b_sub, b_fdiv, b_mod, b_mul, b_pow, b_addT, b_addL, b_addS, b_addB, b_subB, t_str, t_strB, c_lt, c_le, c_gt, c_ge, c_eq, c_ne, c_isN, c_isNN, c_inL, c_inT, c_ninL, c_ninT, sl_L, sl_T, sl_S, i_T0, i_T1, i_L0, i_L1, vw_T, vw_L, vw_I, vw_N, vw_B, vw_S, u_b, t_lenL, t_lenT, t_lenS, t_abs, up_S, t_min2, t_max2, t_any, t_all, t_toTL, t_toTT, t_toLT, t_toLL, t_sortL, t_sortT, nw_f, List.length_cons, List.length_nil, List.map_cons, List.map_nil, List.cons_append, List.nil_append, List.replicate, List.set_cons_succ, List.set_cons_zero, List.getElem?_cons_zero, List.getElem?_cons_succ]
    have en : shownL l s d = none := by
      cases d with
      | tup ds => cases e
      | _ => rfl
    rw [en] at h
    exact h
/-! ### coats by all lots -/
theorem lots_fit {α : Type} {l : List α} {m : Nat} (h : l.length ≤ 14) : (lotsL l m).length ≤ sizeLine := by
  have q := lots_len l m
  have : 2 ^ l.length ≤ 2 ^ 14 := Nat.pow_le_pow_right (by decide) h
  unfold sizeLine
  omega
theorem flat_at {α : Type} {f : Nat → List α} {p : α → Bool} {n i j : Nat} {a : α} (hi : i < n) (hp : ∀ m, m < i → ∀ b ∈ f m, p b = false) (hj : ∀ b ∈ (f i).take j, p b = false) (ha : (f i)[j]? = some a) (h : p a = true) : ((List.range n).flatMap f).find? p = some a := by
  have e : List.range n = List.range i ++ i :: (List.range (n - i - 1)).map (i + 1 + ·) := by
    have e : n = i + (1 + (n - i - 1)) := by omega
    conv => lhs; rw [e, List.range_add, List.range_add]
    simp [List.range_succ, Function.comp_def, Nat.add_assoc]
  have hlt := (List.getElem?_eq_some_iff.mp ha).1
  have ea := (List.getElem?_eq_some_iff.mp ha).2
  have e2 : f i = (f i).take j ++ a :: (f i).drop (j + 1) := by
    rw [← ea, ← List.drop_eq_getElem_cons hlt, List.take_append_drop]
  have n1 : ((List.range i).flatMap f).find? p = none := List.find?_eq_none.mpr fun b hb => by
    obtain ⟨m, hm, hb⟩ := List.mem_flatMap.mp hb
    rw [hp m (List.mem_range.mp hm) b hb]
    exact Bool.false_ne_true
  have n2 : ((f i).take j).find? p = none := List.find?_eq_none.mpr fun b hb => by
    rw [hj b hb]
    exact Bool.false_ne_true
  rw [e, List.flatMap_append, List.find?_append, n1, Option.none_or, List.flatMap_cons, List.find?_append, e2, List.find?_append, n2, Option.none_or, List.find?_cons, h]
  rfl
def SpBareL (G : Glb) : Prop := ∀ (l : List St2) (s : St2) (μ : Mu) (k : KD) (x : KX), okS s → k (.lst ((bareL l s).map D.int)) μ → G.fn "_law_bare" [.lst (l.map stD), stD s] μ k x
theorem p_lbareL (h1 : SpIn "_law_in" G) {l : List (Int × Int)} {s : Int × Int} (hs : okS s) (h : k (.lst ((bareL l s).map D.int)) μ) : wpF G dl_bare [.lst (l.map stD), stD s] μ k x := by
  simp only [dl_bare, stD, wpF, wpS, wpE, wpEs, wpC, wpO, a_nm, asgW, asgsW, wipeD, wk_L, wk_T, wk_1, wk_2, wk_E, wk_Z, wk_ZT, b_add, b_sub, b_fdiv, b_mod, b_mul, b_pow, b_addT, b_addL, b_addS, b_addB, b_subB, t_str, t_strB, c_lt, c_le, c_gt, c_ge, c_eq, c_ne, c_isN, c_isNN, c_inL, c_inT, c_ninL, c_ninT, sl_L, sl_T, sl_S, i_T0, i_T1, i_L0, i_L1, vw_T, vw_L, vw_I, vw_N, vw_B, vw_S, u_b, t_lenL, t_lenT, t_lenS, t_abs, up_S, t_min2, t_max2, t_any, t_all, t_toTL, t_toTT, t_toLT, t_toLL, t_sortL, t_sortT, nw_f, List.length_cons, List.length_nil, List.map_cons, List.map_nil, List.cons_append, List.nil_append, List.replicate, List.set_cons_succ, List.set_cons_zero, List.getElem?_cons_zero, List.getElem?_cons_succ, List.map_map]
  refine ⟨trivial, ss ?_⟩
  simp only [wpF, wpS, wpE, wpEs, wpC, wpO, a_nm, asgW, asgsW, wipeD, wk_L, wk_T, wk_1, wk_2, wk_E, wk_Z, wk_ZT, b_add, b_sub, b_fdiv, b_mod, b_mul, b_pow, b_addT, b_addL, b_addS, b_addB, b_subB, t_str, t_strB, c_lt, c_le, c_gt, c_ge, c_eq, c_ne, c_isN, c_isNN, c_inL, c_inT, c_ninL, c_ninT, sl_L, sl_T, sl_S, i_T0, i_T1, i_L0, i_L1, vw_T, vw_L, vw_I, vw_N, vw_B, vw_S, u_b, t_lenL, t_lenT, t_lenS, t_abs, up_S, t_min2, t_max2, t_any, t_all, t_toTL, t_toTT, t_toLT, t_toLL, t_sortL, t_sortT, nw_f, List.length_cons, List.length_nil, List.map_cons, List.map_nil, List.cons_append, List.nil_append, List.replicate, List.set_cons_succ, List.set_cons_zero, List.getElem?_cons_zero, List.getElem?_cons_succ, nw_t]
  refine ⟨by decide, fun f hf => ss ?_⟩
  unfold okS at hs
  simp only [wpF, wpS, wpE, wpEs, wpC, wpO, a_nm, asgW, asgsW, wipeD, wk_L, wk_T, wk_1, wk_2, wk_E, wk_Z, wk_ZT, b_add, b_sub, b_fdiv, b_mod, b_mul, b_pow, b_addT, b_addL, b_addS, b_addB, b_subB, t_str, t_strB, c_lt, c_le, c_gt, c_ge, c_eq, c_ne, c_isN, c_isNN, c_inL, c_inT, c_ninL, c_ninT, sl_L, sl_T, sl_S, i_T0, i_T1, i_L0, i_L1, vw_T, vw_L, vw_I, vw_N, vw_B, vw_S, u_b, t_lenL, t_lenT, t_lenS, t_abs, up_S, t_min2, t_max2, t_any, t_all, t_toTL, t_toTT, t_toLT, t_toLL, t_sortL, t_sortT, nw_f, List.length_cons, List.length_nil, List.map_cons, List.map_nil, List.cons_append, List.nil_append, List.replicate, List.set_cons_succ, List.set_cons_zero, List.getElem?_cons_zero, List.getElem?_cons_succ]
  refine ⟨⟨by omega, by omega, by omega, by omega, by unfold sizeLine; omega⟩, ?_⟩
  have ei : ((List.range (s.2 + 1 - s.1).toNat).map fun (i : Nat) => D.int (s.1 + (i : Int))) = (plc s).map D.int := by
    unfold plc
    rw [List.map_map]
    rfl
  rw [ei]
  refine forW_inv _ (fun i ρ μ' => ∃ v w, ρ = [some (D.lst (l.map stD)), some (stD s), some (.ref f), v, w] ∧ μ' = μ.set f (.lst ((((plc s).take i).filter fun p => !(withinL l s).any fun o => hasB o p).map D.int)))
    (fun _ _ _ _ => trivial) (fun i d ρ μ' hi I k2 hk2 => ?_) (fun ρ μ' I => ?_) ⟨none, none, rfl, rfl⟩
  · obtain ⟨v, w, rfl, rfl⟩ := I
    obtain ⟨p, hp, rfl⟩ := map_get hi
    refine ss ?_
    simp only [wpF, wpS, wpE, wpEs, wpC, wpO, a_nm, asgW, asgsW, wipeD, wk_L, wk_T, wk_1, wk_2, wk_E, wk_Z, wk_ZT, b_add, b_sub, b_fdiv, b_mod, b_mul, b_pow, b_addT, b_addL, b_addS, b_addB, b_subB, t_str, t_strB, c_lt, c_le, c_gt, c_ge, c_eq, c_ne, c_isN, c_isNN, c_inL, c_inT, c_ninL, c_ninT, sl_L, sl_T, sl_S, i_T0, i_T1, i_L0, i_L1, vw_T, vw_L, vw_I, vw_N, vw_B, vw_S, u_b, t_lenL, t_lenT, t_lenS, t_abs, up_S, t_min2, t_max2, t_any, t_all, t_toTL, t_toTT, t_toLT, t_toLL, t_sortL, t_sortT, nw_f, List.length_cons, List.length_nil, List.map_cons, List.map_nil, List.cons_append, List.nil_append, List.replicate, List.set_cons_succ, List.set_cons_zero, List.getElem?_cons_zero, List.getElem?_cons_succ]
    refine lcW_filt stD (fun o => inB o s && hasB o p) stD trivial l (fun o ho k3 q => ?_) ?_
    · refine h1 o s _ _ _ ?_
      simp only [stD, wpF, wpSs, wpS, wpE, wpEs, wpC, wpO, a_nm, asgW, asgsW, wipeD, wk_L, wk_T, wk_1, wk_2, wk_E, wk_Z, wk_ZT, b_add, b_sub, b_fdiv, b_mod, b_mul, b_pow, b_addT, b_addL, b_addS, b_addB, b_subB, t_str, t_strB, c_lt, c_le, c_gt, c_ge, c_eq, c_ne, c_isN, c_isNN, c_inL, c_inT, c_ninL, c_ninT, sl_L, sl_T, sl_S, i_T0, i_T1, i_L0, i_L1, vw_T, vw_L, vw_I, vw_N, vw_B, vw_S, u_b, t_lenL, t_lenT, t_lenS, t_abs, up_S, t_min2, t_max2, t_any, t_all, t_toTL, t_toTT, t_toLT, t_toLL, t_sortL, t_sortT, nw_f, List.length_cons, List.length_nil, List.map_cons, List.map_nil, List.cons_append, List.nil_append, List.replicate, List.set_cons_succ, List.set_cons_zero, List.getElem?_cons_zero, List.getElem?_cons_succ, Bool.false_eq_true, if_false]
      unfold hasB at q
      by_cases c1 : inB o s = true
      · rw [c1, if_pos rfl]
        rw [c1, Bool.true_and] at q
        by_cases c2 : o.1 ≤ p
        · rw [decide_eq_true c2, if_pos rfl]
          rw [decide_eq_true c2, Bool.true_and] at q
          exact q
        · rw [decide_eq_false c2, if_neg Bool.false_ne_true]
          rw [decide_eq_false c2, Bool.false_and, if_neg Bool.false_ne_true] at q
          exact q
      · rw [if_neg c1]
        rw [Bool.not_eq_true] at c1
        rw [c1, Bool.false_and, if_neg Bool.false_ne_true] at q
        exact q
    · refine ⟨by decide, ok_sts, rfl, ?_⟩
      have hlen : (((plc s).take i).filter fun p => !(withinL l s).any fun o => hasB o p).length < sizeLine := by
        refine Nat.lt_of_le_of_lt (List.length_filter_le ..) (Nat.lt_of_le_of_lt (List.length_take_le ..) ?_)
        have := (List.getElem?_eq_some_iff.mp hp).1
        unfold plc at this
        rw [List.length_map, List.length_range] at this
        unfold sizeLine
        omega
      simp only [eq_nil, List.isEmpty_map, bareL_law]
      have tf := take_filt (p := fun p => !(withinL l s).any fun o => hasB o p) hp
      by_cases c : (!(withinL l s).any fun o => hasB o p) = true
      · rw [if_pos c]
        rw [if_pos c] at tf
        refine ss ?_
        simp only [wpF, wpS, wpE, wpEs, wpC, wpO, a_nm, asgW, asgsW, wipeD, wk_L, wk_T, wk_1, wk_2, wk_E, wk_Z, wk_ZT, b_add, b_sub, b_fdiv, b_mod, b_mul, b_pow, b_addT, b_addL, b_addS, b_addB, b_subB, t_str, t_strB, c_lt, c_le, c_gt, c_ge, c_eq, c_ne, c_isN, c_isNN, c_inL, c_inT, c_ninL, c_ninT, sl_L, sl_T, sl_S, i_T0, i_T1, i_L0, i_L1, vw_T, vw_L, vw_I, vw_N, vw_B, vw_S, u_b, t_lenL, t_lenT, t_lenS, t_abs, up_S, t_min2, t_max2, t_any, t_all, t_toTL, t_toTT, t_toLT, t_toLL, t_sortL, t_sortT, nw_f, List.length_cons, List.length_nil, List.map_cons, List.map_nil, List.cons_append, List.nil_append, List.replicate, List.set_cons_succ, List.set_cons_zero, List.getElem?_cons_zero, List.getElem?_cons_succ, appW, set_same, List.length_map]
        refine ⟨⟨_, rfl⟩, hlen, ?_⟩
        refine ss0 (G := G) ?_
        refine ss0 (G := G) ?_
        refine hk2 _ _ ⟨_, _, rfl, ?_⟩
        rw [Mu.set_set, tf, List.map_append]
        rfl
      · rw [if_neg c]
        rw [if_neg c, List.append_nil] at tf
        refine ss0 (G := G) ?_
        refine ss0 (G := G) ?_
        exact hk2 _ _ ⟨_, _, rfl, by rw [tf]⟩
  · obtain ⟨v, w, rfl, rfl⟩ := I
    refine ss ?_
    simp only [wpF, wpS, wpE, wpEs, wpC, wpO, a_nm, asgW, asgsW, wipeD, wk_L, wk_T, wk_1, wk_2, wk_E, wk_Z, wk_ZT, b_add, b_sub, b_fdiv, b_mod, b_mul, b_pow, b_addT, b_addL, b_addS, b_addB, b_subB, t_str, t_strB, c_lt, c_le, c_gt, c_ge, c_eq, c_ne, c_isN, c_isNN, c_inL, c_inT, c_ninL, c_ninT, sl_L, sl_T, sl_S, i_T0, i_T1, i_L0, i_L1, vw_T, vw_L, vw_I, vw_N, vw_B, vw_S, u_b, t_lenL, t_lenT, t_lenS, t_abs, up_S, t_min2, t_max2, t_any, t_all, t_toTL, t_toTT, t_toLT, t_toLL, t_sortL, t_sortT, nw_f, List.length_cons, List.length_nil, List.map_cons, List.map_nil, List.cons_append, List.nil_append, List.replicate, List.set_cons_succ, List.set_cons_zero, List.getElem?_cons_zero, List.getElem?_cons_succ]
    rw [List.length_map, List.take_length]
    rw [fz_R set_same, Mu.del_set hf]
    exact h
theorem p_lcoats (hi : SpIn "_law_in" G) (hb : SpBare "_law_bare" G) (hbl : SpBareL G) (hl : ∀ m, m ≤ 14 → SpLots "_law_lots" m G) {l : List St2} {s : St2} (hs : okS s) (hz : l.length ≤ 13) (h : k (dOpt (coatsL l s)) μ) : wpF G dl_coats [stsD l, stD s] μ k x := by
  simp only [dl_coats, wpF, wpS, wpE, wpEs, wpC, wpO, a_nm, asgW, asgsW, wipeD, wk_L, wk_T, wk_1, wk_2, wk_E, wk_Z, wk_ZT, b_add, b_sub, b_fdiv, b_mod, b_mul, b_pow, b_addT, b_addL, b_addS, b_addB, b_subB, t_str, t_strB, c_lt, c_le, c_gt, c_ge, c_eq, c_ne, c_isN, c_isNN, c_inL, c_inT, c_ninL, c_ninT, sl_L, sl_T, sl_S, i_T0, i_T1, i_L0, i_L1, vw_T, vw_L, vw_I, vw_N, vw_B, vw_S, u_b, t_lenL, t_lenT, t_lenS, t_abs, up_S, t_min2, t_max2, t_any, t_all, t_toTL, t_toTT, t_toLT, t_toLL, t_sortL, t_sortT, nw_f, List.length_cons, List.length_nil, List.map_cons, List.map_nil, List.cons_append, List.nil_append, List.replicate, List.set_cons_succ, List.set_cons_zero, List.getElem?_cons_zero, List.getElem?_cons_succ]
  refine ⟨trivial, ss ?_⟩
  simp only [wpF, wpS, wpE, wpEs, wpC, wpO, a_nm, asgW, asgsW, wipeD, wk_L, wk_T, wk_1, wk_2, wk_E, wk_Z, wk_ZT, b_add, b_sub, b_fdiv, b_mod, b_mul, b_pow, b_addT, b_addL, b_addS, b_addB, b_subB, t_str, t_strB, c_lt, c_le, c_gt, c_ge, c_eq, c_ne, c_isN, c_isNN, c_inL, c_inT, c_ninL, c_ninT, sl_L, sl_T, sl_S, i_T0, i_T1, i_L0, i_L1, vw_T, vw_L, vw_I, vw_N, vw_B, vw_S, u_b, t_lenL, t_lenT, t_lenS, t_abs, up_S, t_min2, t_max2, t_any, t_all, t_toTL, t_toTT, t_toLT, t_toLL, t_sortL, t_sortT, nw_f, List.length_cons, List.length_nil, List.map_cons, List.map_nil, List.cons_append, List.nil_append, List.replicate, List.set_cons_succ, List.set_cons_zero, List.getElem?_cons_zero, List.getElem?_cons_succ, stsD]
  refine lcW_filt stD (fun o => inB o s) stD trivial l (fun o ho k2 q => ?_) ?_
  · exact hi o s _ _ _ q
  have hw : (l.filter fun o => inB o s) = withinL l s := rfl
  rw [hw]
  have hlen : (withinL l s).length ≤ 13 := Nat.le_trans (List.length_filter_le ..) hz
  refine ss ?_
  simp only [wpF, wpS, wpE, wpEs, wpC, wpO, a_nm, asgW, asgsW, wipeD, wk_L, wk_T, wk_1, wk_2, wk_E, wk_Z, wk_ZT, b_add, b_sub, b_fdiv, b_mod, b_mul, b_pow, b_addT, b_addL, b_addS, b_addB, b_subB, t_str, t_strB, c_lt, c_le, c_gt, c_ge, c_eq, c_ne, c_isN, c_isNN, c_inL, c_inT, c_ninL, c_ninT, sl_L, sl_T, sl_S, i_T0, i_T1, i_L0, i_L1, vw_T, vw_L, vw_I, vw_N, vw_B, vw_S, u_b, t_lenL, t_lenT, t_lenS, t_abs, up_S, t_min2, t_max2, t_any, t_all, t_toTL, t_toTT, t_toLT, t_toLL, t_sortL, t_sortT, nw_f, List.length_cons, List.length_nil, List.map_cons, List.map_nil, List.cons_append, List.nil_append, List.replicate, List.set_cons_succ, List.set_cons_zero, List.getElem?_cons_zero, List.getElem?_cons_succ]
  refine hbl _ s _ _ _ hs ?_
  rw [bare_within]
  simp only [wpF, wpS, wpE, wpEs, wpC, wpO, a_nm, asgW, asgsW, wipeD, wk_L, wk_T, wk_1, wk_2, wk_E, wk_Z, wk_ZT, b_add, b_sub, b_fdiv, b_mod, b_mul, b_pow, b_addT, b_addL, b_addS, b_addB, b_subB, t_str, t_strB, c_lt, c_le, c_gt, c_ge, c_eq, c_ne, c_isN, c_isNN, c_inL, c_inT, c_ninL, c_ninT, sl_L, sl_T, sl_S, i_T0, i_T1, i_L0, i_L1, vw_T, vw_L, vw_I, vw_N, vw_B, vw_S, u_b, t_lenL, t_lenT, t_lenS, t_abs, up_S, t_min2, t_max2, t_any, t_all, t_toTL, t_toTT, t_toLT, t_toLL, t_sortL, t_sortT, nw_f, List.length_cons, List.length_nil, List.map_cons, List.map_nil, List.cons_append, List.nil_append, List.replicate, List.set_cons_succ, List.set_cons_zero, List.getElem?_cons_zero, List.getElem?_cons_succ]
  refine ⟨by decide, ok_ints, rfl, ?_⟩
  by_cases cv : (bareL l s).isEmpty = true
  · have hc : ¬ ((!eqD (.lst ((bareL l s).map D.int)) (.lst [])) = true) := by
      rw [eq_nil, List.isEmpty_map, cv]
      exact Bool.false_ne_true
    refine it_f hc ?_
    refine ss0 (G := G) ?_
    refine ss ?_
    simp only [wpF, wpS, wpE, wpEs, wpC, wpO, a_nm, asgW, asgsW, wipeD, wk_L, wk_T, wk_1, wk_2, wk_E, wk_Z, wk_ZT, b_add, b_sub, b_fdiv, b_mod, b_mul, b_pow, b_addT, b_addL, b_addS, b_addB, b_subB, t_str, t_strB, c_lt, c_le, c_gt, c_ge, c_eq, c_ne, c_isN, c_isNN, c_inL, c_inT, c_ninL, c_ninT, sl_L, sl_T, sl_S, i_T0, i_T1, i_L0, i_L1, vw_T, vw_L, vw_I, vw_N, vw_B, vw_S, u_b, t_lenL, t_lenT, t_lenS, t_abs, up_S, t_min2, t_max2, t_any, t_all, t_toTL, t_toTT, t_toLT, t_toLL, t_sortL, t_sortT, nw_f, List.length_cons, List.length_nil, List.map_cons, List.map_nil, List.cons_append, List.nil_append, List.replicate, List.set_cons_succ, List.set_cons_zero, List.getElem?_cons_zero, List.getElem?_cons_succ, List.length_map]
    refine ⟨⟨by omega, by omega, by unfold sizeLine; omega⟩, ?_⟩
    have e1 : ((((withinL l s).length : Nat) : Int) + 1).toNat = (withinL l s).length + 1 := by omega
    rw [e1]
    refine forW_inv _ (fun i ρ μ' => ∃ v3 v4 v5, ρ = [some (.tup (l.map stD)), some (stD s), some (.lst ((withinL l s).map stD)), v3, v4, v5] ∧ μ' = μ ∧ ∀ m, m < i → ∀ b ∈ lotsL (withinL l s) m, (bareL b s).isEmpty = false)
      (fun _ _ _ _ => trivial) (fun i d ρ μ' hj I k2 hk2 => ?_) (fun ρ μ' I => ?_) ⟨none, none, none, rfl, rfl, fun _ h => absurd h (Nat.not_lt_zero _)⟩
    · obtain ⟨v3, v4, v5, rfl, rfl, hall⟩ := I
      obtain ⟨i', hi', rfl⟩ := map_get hj
      obtain ⟨hlt, hie⟩ := List.getElem?_eq_some_iff.mp hi'
      rw [List.getElem_range] at hie
      rw [List.length_range] at hlt
      subst hie
      refine ss ?_
      simp only [wpF, wpS, wpE, wpEs, wpC, wpO, a_nm, asgW, asgsW, wipeD, wk_L, wk_T, wk_1, wk_2, wk_E, wk_Z, wk_ZT, b_add, b_sub, b_fdiv, b_mod, b_mul, b_pow, b_addT, b_addL, b_addS, b_addB, b_subB, t_str, t_strB, c_lt, c_le, c_gt, c_ge, c_eq, c_ne, c_isN, c_isNN, c_inL, c_inT, c_ninL, c_ninT, sl_L, sl_T, sl_S, i_T0, i_T1, i_L0, i_L1, vw_T, vw_L, vw_I, vw_N, vw_B, vw_S, u_b, t_lenL, t_lenT, t_lenS, t_abs, up_S, t_min2, t_max2, t_any, t_all, t_toTL, t_toTT, t_toLT, t_toLL, t_sortL, t_sortT, nw_f, List.length_cons, List.length_nil, List.map_cons, List.map_nil, List.cons_append, List.nil_append, List.replicate, List.set_cons_succ, List.set_cons_zero, List.getElem?_cons_zero, List.getElem?_cons_succ]
      refine hl i (by omega) _ _ _ _ (by omega) (by rw [List.length_map]; omega) (lots_fit (by rw [List.length_map]; omega)) ?_
      simp only [wpF, wpS, wpE, wpEs, wpC, wpO, a_nm, asgW, asgsW, wipeD, wk_L, wk_T, wk_1, wk_2, wk_E, wk_Z, wk_ZT, b_add, b_sub, b_fdiv, b_mod, b_mul, b_pow, b_addT, b_addL, b_addS, b_addB, b_subB, t_str, t_strB, c_lt, c_le, c_gt, c_ge, c_eq, c_ne, c_isN, c_isNN, c_inL, c_inT, c_ninL, c_ninT, sl_L, sl_T, sl_S, i_T0, i_T1, i_L0, i_L1, vw_T, vw_L, vw_I, vw_N, vw_B, vw_S, u_b, t_lenL, t_lenT, t_lenS, t_abs, up_S, t_min2, t_max2, t_any, t_all, t_toTL, t_toTT, t_toLT, t_toLL, t_sortL, t_sortT, nw_f, List.length_cons, List.length_nil, List.map_cons, List.map_nil, List.cons_append, List.nil_append, List.replicate, List.set_cons_succ, List.set_cons_zero, List.getElem?_cons_zero, List.getElem?_cons_succ]
      have em : (lotsL ((withinL l s).map stD) i).map D.tup = (lotsL (withinL l s) i).map stsD := by
        rw [lots_map, List.map_map]
        rfl
      rw [em]
      refine forW_inv _ (fun j ρ μ2 => ∃ v4 v5, ρ = [some (.tup (l.map stD)), some (stD s), some (.lst ((withinL l s).map stD)), some (.int (i : Int)), v4, v5] ∧ μ2 = μ' ∧ ∀ b ∈ (lotsL (withinL l s) i).take j, (bareL b s).isEmpty = false)
        (fun _ _ _ _ => trivial) (fun j d ρ μ' hj I k3 hk3 => ?_) (fun ρ μ' I => ?_) ⟨_, _, rfl, rfl, fun _ h => nomatch h⟩
      · obtain ⟨v4, v5, rfl, rfl, hbl2⟩ := I
        obtain ⟨c, hc, rfl⟩ := map_get hj
        refine ss ?_
        simp only [wpF, wpS, wpE, wpEs, wpC, wpO, a_nm, asgW, asgsW, wipeD, wk_L, wk_T, wk_1, wk_2, wk_E, wk_Z, wk_ZT, b_add, b_sub, b_fdiv, b_mod, b_mul, b_pow, b_addT, b_addL, b_addS, b_addB, b_subB, t_str, t_strB, c_lt, c_le, c_gt, c_ge, c_eq, c_ne, c_isN, c_isNN, c_inL, c_inT, c_ninL, c_ninT, sl_L, sl_T, sl_S, i_T0, i_T1, i_L0, i_L1, vw_T, vw_L, vw_I, vw_N, vw_B, vw_S, u_b, t_lenL, t_lenT, t_lenS, t_abs, up_S, t_min2, t_max2, t_any, t_all, t_toTL, t_toTT, t_toLT, t_toLL, t_sortL, t_sortT, nw_f, List.length_cons, List.length_nil, List.map_cons, List.map_nil, List.cons_append, List.nil_append, List.replicate, List.set_cons_succ, List.set_cons_zero, List.getElem?_cons_zero, List.getElem?_cons_succ]
        refine hb c s _ _ _ hs ?_
        simp only [wpF, wpS, wpE, wpEs, wpC, wpO, a_nm, asgW, asgsW, wipeD, wk_L, wk_T, wk_1, wk_2, wk_E, wk_Z, wk_ZT, b_add, b_sub, b_fdiv, b_mod, b_mul, b_pow, b_addT, b_addL, b_addS, b_addB, b_subB, t_str, t_strB, c_lt, c_le, c_gt, c_ge, c_eq, c_ne, c_isN, c_isNN, c_inL, c_inT, c_ninL, c_ninT, sl_L, sl_T, sl_S, i_T0, i_T1, i_L0, i_L1, vw_T, vw_L, vw_I, vw_N, vw_B, vw_S, u_b, t_lenL, t_lenT, t_lenS, t_abs, up_S, t_min2, t_max2, t_any, t_all, t_toTL, t_toTT, t_toLT, t_toLL, t_sortL, t_sortT, nw_f, List.length_cons, List.length_nil, List.map_cons, List.map_nil, List.cons_append, List.nil_append, List.replicate, List.set_cons_succ, List.set_cons_zero, List.getElem?_cons_zero, List.getElem?_cons_succ]
        refine ⟨by decide, ok_ints, rfl, ?_⟩
        by_cases cc : (bareL c s).isEmpty = true
        · have hq : eqD (.lst ((bareL c s).map D.int)) (.lst []) = true := by
            rw [eq_nil, List.isEmpty_map]
            exact cc
          refine it_t hq ?_
          refine ss ?_
          simp only [wpF, wpS, wpE, wpEs, wpC, wpO, a_nm, asgW, asgsW, wipeD, wk_L, wk_T, wk_1, wk_2, wk_E, wk_Z, wk_ZT, b_add, b_sub, b_fdiv, b_mod, b_mul, b_pow, b_addT, b_addL, b_addS, b_addB, b_subB, t_str, t_strB, c_lt, c_le, c_gt, c_ge, c_eq, c_ne, c_isN, c_isNN, c_inL, c_inT, c_ninL, c_ninT, sl_L, sl_T, sl_S, i_T0, i_T1, i_L0, i_L1, vw_T, vw_L, vw_I, vw_N, vw_B, vw_S, u_b, t_lenL, t_lenT, t_lenS, t_abs, up_S, t_min2, t_max2, t_any, t_all, t_toTL, t_toTT, t_toLT, t_toLL, t_sortL, t_sortT, nw_f, List.length_cons, List.length_nil, List.map_cons, List.map_nil, List.cons_append, List.nil_append, List.replicate, List.set_cons_succ, List.set_cons_zero, List.getElem?_cons_zero, List.getElem?_cons_succ]
          have en : coatsL l s = some c := flat_at (i := i) (j := j) hlt hall hbl2 hc cc
          rw [en] at h
          exact h
        · have hq : ¬ (eqD (.lst ((bareL c s).map D.int)) (.lst []) = true) := by
            rw [eq_nil, List.isEmpty_map]
            exact cc
          refine it_f hq ?_
          refine ss0 (G := G) ?_
          refine ss0 (G := G) ?_
          refine hk3 _ _ ⟨_, _, rfl, rfl, fun b hb' => ?_⟩
          rw [List.take_succ, List.mem_append] at hb'
          rcases hb' with q | q
          · exact hbl2 b q
          · rw [hc] at q
            have : b = c := by simpa using q
            rw [this]
            exact Bool.eq_false_iff.mpr cc
      · obtain ⟨v4, v5, rfl, rfl, hbl2⟩ := I
        rw [List.length_map, List.take_length] at hbl2
        refine ss0 (G := G) ?_
        refine hk2 _ _ ⟨_, _, _, rfl, rfl, fun m hm b hb' => ?_⟩
        rcases Nat.lt_or_ge m i with q | q
        · exact hall m q b hb'
        · have : m = i := by omega
          subst this
          exact hbl2 b hb'
    · obtain ⟨v3, v4, v5, rfl, rfl, hall⟩ := I
      rw [List.length_map, List.length_range] at hall
      refine ss ?_
      simp only [wpF, wpS, wpE, wpEs, wpC, wpO, a_nm, asgW, asgsW, wipeD, wk_L, wk_T, wk_1, wk_2, wk_E, wk_Z, wk_ZT, b_add, b_sub, b_fdiv, b_mod, b_mul, b_pow, b_addT, b_addL, b_addS, b_addB, b_subB, t_str, t_strB, c_lt, c_le, c_gt, c_ge, c_eq, c_ne, c_isN, c_isNN, c_inL, c_inT, c_ninL, c_ninT, sl_L, sl_T, sl_S, i_T0, i_T1, i_L0, i_L1, vw_T, vw_L, vw_I, vw_N, vw_B, vw_S, u_b, t_lenL, t_lenT, t_lenS, t_abs, up_S, t_min2, t_max2, t_any, t_all, t_toTL, t_toTT, t_toLT, t_toLL, t_sortL, t_sortT, nw_f, List.length_cons, List.length_nil, List.map_cons, List.map_nil, List.cons_append, List.nil_append, List.replicate, List.set_cons_succ, List.set_cons_zero, List.getElem?_cons_zero, List.getElem?_cons_succ]
      have en : coatsL l s = none := find_flat _ fun m hm b hb' => hall m (List.mem_range.mp hm) b hb'
      rw [en] at h
      exact h
  · have hc : (!eqD (.lst ((bareL l s).map D.int)) (.lst [])) = true := by
      rw [eq_nil, List.isEmpty_map, Bool.eq_false_iff.mpr cv]
      rfl
    refine it_t hc ?_
    refine ss ?_
    simp only [wpF, wpS, wpE, wpEs, wpC, wpO, a_nm, asgW, asgsW, wipeD, wk_L, wk_T, wk_1, wk_2, wk_E, wk_Z, wk_ZT, b_add, b_sub, b_fdiv, b_mod, b_mul, b_pow, b_addT, b_addL, b_addS, b_addB, b_subB, t_str, t_strB, c_lt, c_le, c_gt, c_ge, c_eq, c_ne, c_isN, c_isNN, c_inL, c_inT, c_ninL, c_ninT, sl_L, sl_T, sl_S, i_T0, i_T1, i_L0, i_L1, vw_T, vw_L, vw_I, vw_N, vw_B, vw_S, u_b, t_lenL, t_lenT, t_lenS, t_abs, up_S, t_min2, t_max2, t_any, t_all, t_toTL, t_toTT, t_toLT, t_toLL, t_sortL, t_sortT, nw_f, List.length_cons, List.length_nil, List.map_cons, List.map_nil, List.cons_append, List.nil_append, List.replicate, List.set_cons_succ, List.set_cons_zero, List.getElem?_cons_zero, List.getElem?_cons_succ]
    have en : coatsL l s = none := coats_none fun z => cv (cov_iff.mpr z)
    rw [en] at h
    exact h
end SR

/-! k03: coats by all lots -/
namespace SR
open PySem L2
variable {G : Glb} {μ : Mu} {k : KD} {x : KX}

def k03_law : Fn where
  N := ["script", "k", "bag", "places", "stencils", "turn", "stretch", "due", "told", "things", "thing", "step", "found"].map Str.ofString
  np := 1
  body := [
    .forE (.nm 1) .rng1 [(.bin .add (.int 1) (.bt .min2 [(.bt .len [(.var 0)]), (.int 8)]))] [
      .asg (.nm 2) (.call "_law_bag" [(.var 0), (.var 1)]),
      .asg (.nm 3) (.bin .add (.int 1) (.call "_law_take" [(.var 2), (.int 10)])),
      .asg (.nm 4) (.call "_law_some" [(.var 2), (.var 3), (.int 10)]),
      .forE (.nm 5) .rng1 [(.int 4)] [
        .asg (.nm 6) (.ite (.cmp .gt (.var 5) (.int 0)) (.call "_law_stretch" [(.var 2), (.var 3)]) (.tup [(.int 0), (.bin .sub (.var 3) (.int 1))])),
        .asg (.nm 7) (.call "_law_coats" [(.var 4), (.var 6)]),
        .ife (.cmp .ne (.call "coats" [(.var 4), (.var 6)]) (.var 7)) [
          .ret (.bl false)] [],
        .asg (.nm 8) (.call "coats_paper" [(.var 4), (.var 6)]),
        .ife (.cmp .ne (.cmp .isN (.var 8) .non) (.cmp .isN (.var 7) .non)) [
          .ret (.bl false)] [],
        .ife (.cmp .isNN (.var 8) .non) [
          .ife (.or_ (.cmp .ne (.call "coats_shown" [(.var 4), (.var 6), (.var 8)]) (.bt .len [(.var 7)])) (.cmp .ne (.call "_law_shown" [(.var 4), (.var 6), (.var 8)]) (.bt .len [(.var 7)]))) [
            .ret (.bl false)] []] [],
        .asg (.nm 9) (.lst false [(.var 8), (.tup []), (.tup [(.ix (.var 6) (.int 0))]), (.tup [(.ix (.var 6) (.int 0)), (.ix (.var 6) (.int 1))]), (.trng (.var 3)), (.call "_law_odd" [(.var 2)])]),
        .forE (.nm 10) .seq [(.var 9)] [
          .forE (.nm 11) .rng1 [(.int 3)] [
            .asg (.nm 12) (.call "coats_shown" [(.var 4), (.var 6), (.var 10)]),
            .ife (.or_ (.isin (.var 12) "bool") (.cmp .ne (.var 12) (.call "_law_shown" [(.var 4), (.var 6), (.var 10)]))) [
              .ret (.bl false)] [],
            .asg (.nm 10) (.call "_law_spoilt" [(.var 2), (.var 10)])]]]],
    .ret (.bl true)]

theorem row_once {n : Int} {l : List St2} (h : Row n l) : l.Nodup := h.2.imp fun {a b} (q : ltS a b) (e : a = b) => stLin.irr b (by rw [e] at q; exact q)
theorem dOpt_ok {o : Option (List St2)} : okD 60 (dOpt o) = true := by
  cases o with
  | none => rfl
  | some c => exact ok_sts (n := 58)
theorem eq_sts_self {c : List St2} : eqDs (c.map stD) (c.map stD) = true := by rw [eq_emb eq_st, decide_eq_true rfl]
theorem dOpt_self {o : Option (List St2)} : eqD (dOpt o) (dOpt o) = true := by
  cases o with
  | none => rfl
  | some c => exact eq_sts_self
theorem nOpt_ok {o : Option Nat} : okD 60 (nOpt o) = true := by cases o <;> rfl
theorem nOpt_self {o : Option Nat} : eqD (nOpt o) (nOpt o) = true := by
  cases o with
  | none => rfl
  | some n =>
    show eqD (.int _) (.int _) = true
    rw [eq_int, decide_eq_true rfl]
theorem nOpt_vw {o : Option Nat} : vw μ (nOpt o) = nOpt o := by cases o <;> rfl
theorem nOpt_bool {o : Option Nat} : isTy "bool" (nOpt o) = false := by cases o <;> rfl
theorem nOpt_okT {o : Option Nat} : okT (nOpt o) = true := by cases o <;> rfl
theorem dOpt_vw {o : Option (List St2)} : vw μ (dOpt o) = dOpt o := by cases o <;> rfl
theorem ints_of_map (ps : List Int) : intsOf (ps.map D.int) = ps := by
  induction ps with
  | nil => rfl
  | cons p r ih =>
    show p :: intsOf (r.map D.int) = _
    rw [ih]
theorem shown_paper {l : List St2} {s : St2} {ps : List Int} (P : Paper l s ps) : shownL l s (.tup (ps.map D.int)) = some ps.length := by
  have h : shownL l s (.tup (ps.map D.int)) = some (ps.map D.int).length := if_pos ⟨List.all_eq_true.mpr fun d hd => by
    obtain ⟨p, hp, rfl⟩ := List.mem_map.mp hd
    have := P.ins p hp
    show (decide (s.1 ≤ p) && decide (p ≤ s.2)) = true
    rw [decide_eq_true this.1, decide_eq_true this.2]
    rfl, by rw [ints_of_map]; exact P.ris, fun o ho => by rw [ints_of_map]; exact paper_one P ho⟩
  rw [h, List.length_map]
theorem paper_len {l : List St2} {s : St2} {ps : List Int} (P : Paper l s ps) : ps.length ≤ (s.2 + 1 - s.1).toNat := by
  have q := nodup_len ps (plc s) (P.ris.imp fun {a b} h => by omega) fun p hp => mem_plc.mpr (P.ins p hp)
  unfold plc at q
  rw [List.length_map, List.length_range] at q
  exact q
theorem pl_ints {n e : Nat} {ps : List Int} (h1 : ps.length ≤ 57) (h2 : ∀ p ∈ ps, p.natAbs ≤ 1000) : pl n (e + 1) (.tup (ps.map D.int)) = true :=
  pl_tup' (by rw [List.length_map]; omega) fun d hd => by
    obtain ⟨p, hp, rfl⟩ := List.mem_map.mp hd
    have := h2 p hp
    rw [pl_int, decide_eq_true_eq]
    omega
theorem p_k03 (hb : SpBag G) (ht : SpTake G) (hso : SpSome G) (hst : SpStretch G) (hlc : ∀ (l : List St2) (s : St2) (μ : Mu) (k : KD) (x : KX), okS s → l.length ≤ 13 → k (dOpt (coatsL l s)) μ → G.fn "_law_coats" [stsD l, stD s] μ k x) (hc : SpCoats "coats" G) (hp : SpPaper G) (hsh : SpShown "coats_shown" G) (hls : SpShown "_law_shown" G) (hod : SpOdd G) (hsp : ∀ e, e ≤ 12 → SpSpoilt e G) {ns : List Int} (hn : ns.length ≤ 63) : wpF G k03_law [.scr ns] (fun _ => none) (fun d _ => d = .bl true) fun _ _ => False := by
  simp only [wpF, k03_law, wpF, wpE, wpEs, wpC, wpO, a_nm, asgW, asgsW, wipeD, wk_L, wk_T, wk_1, wk_2, wk_E, wk_Z, wk_ZT, b_add, b_sub, b_fdiv, b_mod, b_mul, b_pow, b_addT, b_addL, b_addS, b_addB, b_subB, t_str, t_strB, c_lt, c_le, c_gt, c_ge, c_eq, c_ne, c_isN, c_isNN, c_inL, c_inT, c_ninL, c_ninT, sl_L, sl_T, sl_S, i_T0, i_T1, i_L0, i_L1, vw_T, vw_L, vw_I, vw_N, vw_B, vw_S, u_b, t_lenL, t_lenT, t_lenS, t_abs, up_S, t_min2, t_max2, t_any, t_all, t_toTL, t_toTT, t_toLT, t_toLL, t_sortL, t_sortT, nw_f, List.length_cons, List.length_nil, List.map_cons, List.map_nil, List.cons_append, List.nil_append, List.replicate, List.set_cons_succ, List.set_cons_zero, List.getElem?_cons_zero, List.getElem?_cons_succ]
  refine ⟨trivial, ss ?_⟩
  simp only [wpF, wpS, wpE, wpEs, wpC, wpO, a_nm, asgW, asgsW, wipeD, wk_L, wk_T, wk_1, wk_2, wk_E, wk_Z, wk_ZT, b_add, b_sub, b_fdiv, b_mod, b_mul, b_pow, b_addT, b_addL, b_addS, b_addB, b_subB, t_str, t_strB, c_lt, c_le, c_gt, c_ge, c_eq, c_ne, c_isN, c_isNN, c_inL, c_inT, c_ninL, c_ninT, sl_L, sl_T, sl_S, i_T0, i_T1, i_L0, i_L1, vw_T, vw_L, vw_I, vw_N, vw_B, vw_S, u_b, t_lenL, t_lenT, t_lenS, t_abs, up_S, t_min2, t_max2, t_any, t_all, t_toTL, t_toTT, t_toLT, t_toLL, t_sortL, t_sortT, nw_f, List.length_cons, List.length_nil, List.map_cons, List.map_nil, List.cons_append, List.nil_append, List.replicate, List.set_cons_succ, List.set_cons_zero, List.getElem?_cons_zero, List.getElem?_cons_succ]
  refine ⟨⟨by split <;> omega, by split <;> omega, by unfold sizeLine; split <;> omega⟩, ?_⟩
  refine forW_inv _ (fun i ρ μ' => ∃ v1 v2 v3 v4 v5 v6 v7 v8 v9 v10 v11 v12, ρ = [some (.scr ns), v1, v2, v3, v4, v5, v6, v7, v8, v9, v10, v11, v12]) (fun _ _ _ _ => trivial) (fun i d ρ μ' hi I k2 hk2 => ?_) (fun ρ μ' I => ?_) ⟨_, _, _, _, _, _, _, _, _, _, _, _, rfl⟩
  · obtain ⟨v1, v2, v3, v4, v5, v6, v7, v8, v9, v10, v11, v12, rfl⟩ := I
    obtain ⟨kk, hkk, rfl⟩ := map_get hi
    have hki : kk ≤ 63 := by
      obtain ⟨h1, h2⟩ := List.getElem?_eq_some_iff.mp hkk
      rw [List.getElem_range] at h2
      rw [List.length_range] at h1
      split at h1 <;> omega
    refine ss ?_
    simp only [wpF, wpS, wpE, wpEs, wpC, wpO, a_nm, asgW, asgsW, wipeD, wk_L, wk_T, wk_1, wk_2, wk_E, wk_Z, wk_ZT, b_add, b_sub, b_fdiv, b_mod, b_mul, b_pow, b_addT, b_addL, b_addS, b_addB, b_subB, t_str, t_strB, c_lt, c_le, c_gt, c_ge, c_eq, c_ne, c_isN, c_isNN, c_inL, c_inT, c_ninL, c_ninT, sl_L, sl_T, sl_S, i_T0, i_T1, i_L0, i_L1, vw_T, vw_L, vw_I, vw_N, vw_B, vw_S, u_b, t_lenL, t_lenT, t_lenS, t_abs, up_S, t_min2, t_max2, t_any, t_all, t_toTL, t_toTT, t_toLT, t_toLL, t_sortL, t_sortT, nw_f, List.length_cons, List.length_nil, List.map_cons, List.map_nil, List.cons_append, List.nil_append, List.replicate, List.set_cons_succ, List.set_cons_zero, List.getElem?_cons_zero, List.getElem?_cons_succ]
    refine hb ns kk _ _ _ hn hki fun a μ0 _ b0 => ss ?_
    simp only [wpF, wpS, wpE, wpEs, wpC, wpO, a_nm, asgW, asgsW, wipeD, wk_L, wk_T, wk_1, wk_2, wk_E, wk_Z, wk_ZT, b_add, b_sub, b_fdiv, b_mod, b_mul, b_pow, b_addT, b_addL, b_addS, b_addB, b_subB, t_str, t_strB, c_lt, c_le, c_gt, c_ge, c_eq, c_ne, c_isN, c_isNN, c_inL, c_inT, c_ninL, c_ninT, sl_L, sl_T, sl_S, i_T0, i_T1, i_L0, i_L1, vw_T, vw_L, vw_I, vw_N, vw_B, vw_S, u_b, t_lenL, t_lenT, t_lenS, t_abs, up_S, t_min2, t_max2, t_any, t_all, t_toTL, t_toTT, t_toLT, t_toLL, t_sortL, t_sortT, nw_f, List.length_cons, List.length_nil, List.map_cons, List.map_nil, List.cons_append, List.nil_append, List.replicate, List.set_cons_succ, List.set_cons_zero, List.getElem?_cons_zero, List.getElem?_cons_succ]
    refine ht a 10 _ _ _ b0.1 (by decide) (by decide) fun r μ1 r0 r1 b1 => ?_
    simp only [wpF, wpS, wpE, wpEs, wpC, wpO, a_nm, asgW, asgsW, wipeD, wk_L, wk_T, wk_1, wk_2, wk_E, wk_Z, wk_ZT, b_add, b_sub, b_fdiv, b_mod, b_mul, b_pow, b_addT, b_addL, b_addS, b_addB, b_subB, t_str, t_strB, c_lt, c_le, c_gt, c_ge, c_eq, c_ne, c_isN, c_isNN, c_inL, c_inT, c_ninL, c_ninT, sl_L, sl_T, sl_S, i_T0, i_T1, i_L0, i_L1, vw_T, vw_L, vw_I, vw_N, vw_B, vw_S, u_b, t_lenL, t_lenT, t_lenS, t_abs, up_S, t_min2, t_max2, t_any, t_all, t_toTL, t_toTT, t_toLT, t_toLL, t_sortL, t_sortT, nw_f, List.length_cons, List.length_nil, List.map_cons, List.map_nil, List.cons_append, List.nil_append, List.replicate, List.set_cons_succ, List.set_cons_zero, List.getElem?_cons_zero, List.getElem?_cons_succ]
    refine ss ?_
    simp only [wpF, wpS, wpE, wpEs, wpC, wpO, a_nm, asgW, asgsW, wipeD, wk_L, wk_T, wk_1, wk_2, wk_E, wk_Z, wk_ZT, b_add, b_sub, b_fdiv, b_mod, b_mul, b_pow, b_addT, b_addL, b_addS, b_addB, b_subB, t_str, t_strB, c_lt, c_le, c_gt, c_ge, c_eq, c_ne, c_isN, c_isNN, c_inL, c_inT, c_ninL, c_ninT, sl_L, sl_T, sl_S, i_T0, i_T1, i_L0, i_L1, vw_T, vw_L, vw_I, vw_N, vw_B, vw_S, u_b, t_lenL, t_lenT, t_lenS, t_abs, up_S, t_min2, t_max2, t_any, t_all, t_toTL, t_toTT, t_toLT, t_toLL, t_sortL, t_sortT, nw_f, List.length_cons, List.length_nil, List.map_cons, List.map_nil, List.cons_append, List.nil_append, List.replicate, List.set_cons_succ, List.set_cons_zero, List.getElem?_cons_zero, List.getElem?_cons_succ]
    refine hso a (1 + r) 10 _ _ _ b1.1 (by omega) (by omega) (by decide) (by decide) fun sts μ2 hrow hlen b2 => ?_
    generalize hP : 1 + r = P
    rw [hP] at hrow
    have hP0 : 0 < P := by omega
    have hP1 : P ≤ 10 := by omega
    have nd := row_once hrow
    have hlen' : sts.length ≤ 10 := hlen
    clear hP r0 r1
    refine ss ?_
    simp only [wpF, wpS, wpE, wpEs, wpC, wpO, a_nm, asgW, asgsW, wipeD, wk_L, wk_T, wk_1, wk_2, wk_E, wk_Z, wk_ZT, b_add, b_sub, b_fdiv, b_mod, b_mul, b_pow, b_addT, b_addL, b_addS, b_addB, b_subB, t_str, t_strB, c_lt, c_le, c_gt, c_ge, c_eq, c_ne, c_isN, c_isNN, c_inL, c_inT, c_ninL, c_ninT, sl_L, sl_T, sl_S, i_T0, i_T1, i_L0, i_L1, vw_T, vw_L, vw_I, vw_N, vw_B, vw_S, u_b, t_lenL, t_lenT, t_lenS, t_abs, up_S, t_min2, t_max2, t_any, t_all, t_toTL, t_toTT, t_toLT, t_toLL, t_sortL, t_sortT, nw_f, List.length_cons, List.length_nil, List.map_cons, List.map_nil, List.cons_append, List.nil_append, List.replicate, List.set_cons_succ, List.set_cons_zero, List.getElem?_cons_zero, List.getElem?_cons_succ]
    refine ⟨⟨by omega, by omega, by unfold sizeLine; omega⟩, ?_⟩
    refine forW_inv _ (fun i ρ μ' => ∃ v5 v6 v7 v8 v9 v10 v11 v12, ρ = [some (.scr ns), some (.int (kk : Int)), some (.ref a), some (.int P), some (stsD sts), v5, v6, v7, v8, v9, v10, v11, v12] ∧ BagOk μ' a)
      (fun _ _ _ _ => trivial) (fun i d ρ μ3 hi I k3 hk3 => ?_) (fun ρ μ3 I => ?_) ⟨_, _, _, _, _, _, _, _, rfl, b2.1⟩
    · obtain ⟨v5, v6, v7, v8, v9, v10, v11, v12, rfl, b3⟩ := I
      obtain ⟨ti, hti, rfl⟩ := map_get hi
      refine ss ?_
      simp only [wpF, wpS, wpE, wpEs, wpC, wpO, a_nm, asgW, asgsW, wipeD, wk_L, wk_T, wk_1, wk_2, wk_E, wk_Z, wk_ZT, b_add, b_sub, b_fdiv, b_mod, b_mul, b_pow, b_addT, b_addL, b_addS, b_addB, b_subB, t_str, t_strB, c_lt, c_le, c_gt, c_ge, c_eq, c_ne, c_isN, c_isNN, c_inL, c_inT, c_ninL, c_ninT, sl_L, sl_T, sl_S, i_T0, i_T1, i_L0, i_L1, vw_T, vw_L, vw_I, vw_N, vw_B, vw_S, u_b, t_lenL, t_lenT, t_lenS, t_abs, up_S, t_min2, t_max2, t_any, t_all, t_toTL, t_toTT, t_toLT, t_toLL, t_sortL, t_sortT, nw_f, List.length_cons, List.length_nil, List.map_cons, List.map_nil, List.cons_append, List.nil_append, List.replicate, List.set_cons_succ, List.set_cons_zero, List.getElem?_cons_zero, List.getElem?_cons_succ]
      suffices body : ∀ (s : St2) (μ4 : Mu), s ∈ allS P → BagOk μ4 a → wpSs G _ [some (.scr ns), some (.int (kk : Int)), some (.ref a), some (.int P), some (stsD sts), some (.int (ti : Int)), some (stD s), v7, v8, v9, v10, v11, v12] μ4 _ by
        by_cases c0 : (0 : Int) < (ti : Int)
        · refine it_t (decide_eq_true c0) ?_
          exact hst a P _ _ _ b3 hP0 (by omega) fun s μ4 hs b4 => body s μ4 hs b4.1
        · refine it_f (by rw [decide_eq_false c0]; exact Bool.false_ne_true) ?_
          refine ⟨by decide, ?_⟩
          exact body (0, P - 1) μ3 (mem_all.mpr ⟨by simp, by simp only; omega, by simp only; omega⟩) b3
      intro s μ4 hs b4
      have hok : okS s := all_ok (by omega) hs
      have hs' := mem_all.mp hs
      refine ss ?_
      simp only [wpF, wpS, wpE, wpEs, wpC, wpO, a_nm, asgW, asgsW, wipeD, wk_L, wk_T, wk_1, wk_2, wk_E, wk_Z, wk_ZT, b_add, b_sub, b_fdiv, b_mod, b_mul, b_pow, b_addT, b_addL, b_addS, b_addB, b_subB, t_str, t_strB, c_lt, c_le, c_gt, c_ge, c_eq, c_ne, c_isN, c_isNN, c_inL, c_inT, c_ninL, c_ninT, sl_L, sl_T, sl_S, i_T0, i_T1, i_L0, i_L1, vw_T, vw_L, vw_I, vw_N, vw_B, vw_S, u_b, t_lenL, t_lenT, t_lenS, t_abs, up_S, t_min2, t_max2, t_any, t_all, t_toTL, t_toTT, t_toLT, t_toLL, t_sortL, t_sortT, nw_f, List.length_cons, List.length_nil, List.map_cons, List.map_nil, List.cons_append, List.nil_append, List.replicate, List.set_cons_succ, List.set_cons_zero, List.getElem?_cons_zero, List.getElem?_cons_succ]
      refine hlc sts s _ _ _ hok (by omega) ?_
      refine ss ?_
      simp only [wpF, wpS, wpE, wpEs, wpC, wpO, a_nm, asgW, asgsW, wipeD, wk_L, wk_T, wk_1, wk_2, wk_E, wk_Z, wk_ZT, b_add, b_sub, b_fdiv, b_mod, b_mul, b_pow, b_addT, b_addL, b_addS, b_addB, b_subB, t_str, t_strB, c_lt, c_le, c_gt, c_ge, c_eq, c_ne, c_isN, c_isNN, c_inL, c_inT, c_ninL, c_ninT, sl_L, sl_T, sl_S, i_T0, i_T1, i_L0, i_L1, vw_T, vw_L, vw_I, vw_N, vw_B, vw_S, u_b, t_lenL, t_lenT, t_lenS, t_abs, up_S, t_min2, t_max2, t_any, t_all, t_toTL, t_toTT, t_toLT, t_toLL, t_sortL, t_sortT, nw_f, List.length_cons, List.length_nil, List.map_cons, List.map_nil, List.cons_append, List.nil_append, List.replicate, List.set_cons_succ, List.set_cons_zero, List.getElem?_cons_zero, List.getElem?_cons_succ]
      refine hc sts s _ _ _ hok hs'.2.1 nd (by omega) ?_
      simp only [wpF, wpS, wpE, wpEs, wpC, wpO, a_nm, asgW, asgsW, wipeD, wk_L, wk_T, wk_1, wk_2, wk_E, wk_Z, wk_ZT, b_add, b_sub, b_fdiv, b_mod, b_mul, b_pow, b_addT, b_addL, b_addS, b_addB, b_subB, t_str, t_strB, c_lt, c_le, c_gt, c_ge, c_eq, c_ne, c_isN, c_isNN, c_inL, c_inT, c_ninL, c_ninT, sl_L, sl_T, sl_S, i_T0, i_T1, i_L0, i_L1, vw_T, vw_L, vw_I, vw_N, vw_B, vw_S, u_b, t_lenL, t_lenT, t_lenS, t_abs, up_S, t_min2, t_max2, t_any, t_all, t_toTL, t_toTT, t_toLT, t_toLL, t_sortL, t_sortT, nw_f, List.length_cons, List.length_nil, List.map_cons, List.map_nil, List.cons_append, List.nil_append, List.replicate, List.set_cons_succ, List.set_cons_zero, List.getElem?_cons_zero, List.getElem?_cons_succ, dOpt_vw]
      refine ⟨dOpt_ok, dOpt_ok, ?_⟩
      refine it_f (by rw [dOpt_self]; exact Bool.false_ne_true) ?_
      refine ss0 (G := G) ?_
      have rest : ∀ (told : D), pl 0 3 told = true → ∀ v9 v10 v11 v12, wpSs G (match k03_law.body with
          | [.forE _ _ _ [_, _, _, .forE _ _ _ bd], _] => bd.drop 6
          | _ => []) [some (.scr ns), some (.int (kk : Int)), some (.ref a), some (.int P), some (stsD sts), some (.int (ti : Int)), some (stD s), some (dOpt (coatsL sts s)), some told, v9, v10, v11, v12] μ4
          { nx := k3, rt := fun d _ => d = .bl true, x := fun ex x_1 μ' => False } := by
        intro told hto v9 v10 v11 v12
        simp only [k03_law, List.drop]
        refine ss ?_
        simp only [stD, wpF, wpS, wpE, wpEs, wpC, wpO, a_nm, asgW, asgsW, wipeD, wk_L, wk_T, wk_1, wk_2, wk_E, wk_Z, wk_ZT, b_add, b_sub, b_fdiv, b_mod, b_mul, b_pow, b_addT, b_addL, b_addS, b_addB, b_subB, t_str, t_strB, c_lt, c_le, c_gt, c_ge, c_eq, c_ne, c_isN, c_isNN, c_inL, c_inT, c_ninL, c_ninT, sl_L, sl_T, sl_S, i_T0, i_T1, i_L0, i_L1, vw_T, vw_L, vw_I, vw_N, vw_B, vw_S, u_b, t_lenL, t_lenT, t_lenS, t_abs, up_S, t_min2, t_max2, t_any, t_all, t_toTL, t_toTT, t_toLT, t_toLL, t_sortL, t_sortT, nw_f, List.length_cons, List.length_nil, List.map_cons, List.map_nil, List.cons_append, List.nil_append, List.replicate, List.set_cons_succ, List.set_cons_zero, List.getElem?_cons_zero, List.getElem?_cons_succ]
        refine ⟨by decide, by decide, by decide, ⟨by omega, by omega, by omega, by omega, by omega⟩, ?_⟩
        refine hod a _ _ _ b4 fun od μ5 hod' b5 => ?_
        refine ⟨by decide, ss ?_⟩
        simp only [wpF, wpS, wpE, wpEs, wpC, wpO, a_nm, asgW, asgsW, wipeD, wk_L, wk_T, wk_1, wk_2, wk_E, wk_Z, wk_ZT, b_add, b_sub, b_fdiv, b_mod, b_mul, b_pow, b_addT, b_addL, b_addS, b_addB, b_subB, t_str, t_strB, c_lt, c_le, c_gt, c_ge, c_eq, c_ne, c_isN, c_isNN, c_inL, c_inT, c_ninL, c_ninT, sl_L, sl_T, sl_S, i_T0, i_T1, i_L0, i_L1, vw_T, vw_L, vw_I, vw_N, vw_B, vw_S, u_b, t_lenL, t_lenT, t_lenS, t_abs, up_S, t_min2, t_max2, t_any, t_all, t_toTL, t_toTT, t_toLT, t_toLL, t_sortL, t_sortT, nw_f, List.length_cons, List.length_nil, List.map_cons, List.map_nil, List.cons_append, List.nil_append, List.replicate, List.set_cons_succ, List.set_cons_zero, List.getElem?_cons_zero, List.getElem?_cons_succ]
        generalize hL : ([told, .tup [], .tup [.int s.1], .tup [.int s.1, .int s.2], .tup ((List.range P.toNat).map fun (t : Nat) => D.int (t : Int)), od] : List D) = L
        have hall : ∀ d ∈ L, pl 0 3 d = true := by
          intro d hd
          rw [← hL] at hd
          simp only [List.mem_cons, List.not_mem_nil, or_false] at hd
          rcases hd with rfl | rfl | rfl | rfl | rfl | rfl
          · exact hto
          · rfl
          · exact pl_ints (ps := [s.1]) (by simp) (by simp; omega)
          · exact pl_ints (ps := [s.1, s.2]) (by simp) (by simp; omega)
          · have e : ((List.range P.toNat).map fun (t : Nat) => D.int (t : Int)) = ((List.range P.toNat).map fun (t : Nat) => (t : Int)).map D.int := by
              rw [List.map_map]
              rfl
            rw [e]
            refine pl_ints (by rw [List.length_map, List.length_range]; omega) fun p hp => ?_
            obtain ⟨t, ht, rfl⟩ := List.mem_map.mp hp
            have := List.mem_range.mp ht
            omega
          · exact hod'
        refine forW_inv _ (fun i ρ μ' => ∃ v10 v11 v12, ρ = [some (.scr ns), some (.int (kk : Int)), some (.ref a), some (.int P), some (stsD sts), some (.int (ti : Int)), some (stD s), some (dOpt (coatsL sts s)), some told, some (.lst L), v10, v11, v12] ∧ BagOk μ' a)
          (fun _ _ _ _ => trivial) (fun i d ρ μ6 hj I k4 hk4 => ?_) (fun ρ μ6 I => ?_) ⟨_, _, _, rfl, b5.1⟩
        · obtain ⟨w10, w11, w12, rfl, b6⟩ := I
          have hd0 := hall d (List.mem_of_getElem? hj)
          refine ss ?_
          simp only [wpF, wpS, wpE, wpEs, wpC, wpO, a_nm, asgW, asgsW, wipeD, wk_L, wk_T, wk_1, wk_2, wk_E, wk_Z, wk_ZT, b_add, b_sub, b_fdiv, b_mod, b_mul, b_pow, b_addT, b_addL, b_addS, b_addB, b_subB, t_str, t_strB, c_lt, c_le, c_gt, c_ge, c_eq, c_ne, c_isN, c_isNN, c_inL, c_inT, c_ninL, c_ninT, sl_L, sl_T, sl_S, i_T0, i_T1, i_L0, i_L1, vw_T, vw_L, vw_I, vw_N, vw_B, vw_S, u_b, t_lenL, t_lenT, t_lenS, t_abs, up_S, t_min2, t_max2, t_any, t_all, t_toTL, t_toTT, t_toLT, t_toLL, t_sortL, t_sortT, nw_f, List.length_cons, List.length_nil, List.map_cons, List.map_nil, List.cons_append, List.nil_append, List.replicate, List.set_cons_succ, List.set_cons_zero, List.getElem?_cons_zero, List.getElem?_cons_succ]
          refine ⟨⟨by decide, by decide, by decide⟩, ?_⟩
          refine forW_inv _ (fun j ρ μ' => ∃ d v11 v12, ρ = [some (.scr ns), some (.int (kk : Int)), some (.ref a), some (.int P), some (stsD sts), some (.int (ti : Int)), some (stD s), some (dOpt (coatsL sts s)), some told, some (.lst L), some d, v11, v12] ∧ BagOk μ' a ∧ pl j (3 + 3 * j) d = true)
            (fun _ _ _ _ => trivial) (fun j d' ρ μ7 hj2 I k5 hk5 => ?_) (fun ρ μ7 I => ?_) ⟨_, _, _, rfl, b6, hd0⟩
          · obtain ⟨dd, x11, x12, rfl, b7, hdd⟩ := I
            have hj3 : j < 3 := by
              have := (List.getElem?_eq_some_iff.mp hj2).1
              rw [List.length_map, List.length_range] at this
              exact this
            have hk60 : okD 60 dd = true := pl_ok dd (by omega) hdd
            have h64 : ∀ ds, dd = .tup ds → ds.length < 64 := fun ds e => by
              subst e
              rw [show 3 + 3 * j = (2 + 3 * j) + 1 by omega, pl_tup, Bool.and_eq_true, decide_eq_true_eq] at hdd
              have := hdd.1
              omega
            refine ss ?_
            simp only [wpF, wpS, wpE, wpEs, wpC, wpO, a_nm, asgW, asgsW, wipeD, wk_L, wk_T, wk_1, wk_2, wk_E, wk_Z, wk_ZT, b_add, b_sub, b_fdiv, b_mod, b_mul, b_pow, b_addT, b_addL, b_addS, b_addB, b_subB, t_str, t_strB, c_lt, c_le, c_gt, c_ge, c_eq, c_ne, c_isN, c_isNN, c_inL, c_inT, c_ninL, c_ninT, sl_L, sl_T, sl_S, i_T0, i_T1, i_L0, i_L1, vw_T, vw_L, vw_I, vw_N, vw_B, vw_S, u_b, t_lenL, t_lenT, t_lenS, t_abs, up_S, t_min2, t_max2, t_any, t_all, t_toTL, t_toTT, t_toLT, t_toLL, t_sortL, t_sortT, nw_f, List.length_cons, List.length_nil, List.map_cons, List.map_nil, List.cons_append, List.nil_append, List.replicate, List.set_cons_succ, List.set_cons_zero, List.getElem?_cons_zero, List.getElem?_cons_succ]
            refine hsh sts s dd _ _ _ hk60 h64 ?_
            refine ss ?_
            simp only [wpF, wpS, wpE, wpEs, wpC, wpO, a_nm, asgW, asgsW, wipeD, wk_L, wk_T, wk_1, wk_2, wk_E, wk_Z, wk_ZT, b_add, b_sub, b_fdiv, b_mod, b_mul, b_pow, b_addT, b_addL, b_addS, b_addB, b_subB, t_str, t_strB, c_lt, c_le, c_gt, c_ge, c_eq, c_ne, c_isN, c_isNN, c_inL, c_inT, c_ninL, c_ninT, sl_L, sl_T, sl_S, i_T0, i_T1, i_L0, i_L1, vw_T, vw_L, vw_I, vw_N, vw_B, vw_S, u_b, t_lenL, t_lenT, t_lenS, t_abs, up_S, t_min2, t_max2, t_any, t_all, t_toTL, t_toTT, t_toLT, t_toLL, t_sortL, t_sortT, nw_f, List.length_cons, List.length_nil, List.map_cons, List.map_nil, List.cons_append, List.nil_append, List.replicate, List.set_cons_succ, List.set_cons_zero, List.getElem?_cons_zero, List.getElem?_cons_succ, nOpt_vw, nOpt_bool, Bool.false_eq_true, if_false]
            refine ⟨nOpt_okT, ?_⟩
            refine hls sts s dd _ _ _ hk60 h64 ?_
            simp only [nOpt_vw]
            refine ⟨nOpt_ok, nOpt_ok, ?_⟩
            refine it_f (by rw [nOpt_self]; exact Bool.false_ne_true) ?_
            refine ss0 (G := G) ?_
            refine ss ?_
            simp only [wpF, wpS, wpE, wpEs, wpC, wpO, a_nm, asgW, asgsW, wipeD, wk_L, wk_T, wk_1, wk_2, wk_E, wk_Z, wk_ZT, b_add, b_sub, b_fdiv, b_mod, b_mul, b_pow, b_addT, b_addL, b_addS, b_addB, b_subB, t_str, t_strB, c_lt, c_le, c_gt, c_ge, c_eq, c_ne, c_isN, c_isNN, c_inL, c_inT, c_ninL, c_ninT, sl_L, sl_T, sl_S, i_T0, i_T1, i_L0, i_L1, vw_T, vw_L, vw_I, vw_N, vw_B, vw_S, u_b, t_lenL, t_lenT, t_lenS, t_abs, up_S, t_min2, t_max2, t_any, t_all, t_toTL, t_toTT, t_toLT, t_toLL, t_sortL, t_sortT, nw_f, List.length_cons, List.length_nil, List.map_cons, List.map_nil, List.cons_append, List.nil_append, List.replicate, List.set_cons_succ, List.set_cons_zero, List.getElem?_cons_zero, List.getElem?_cons_succ]
            refine hsp (3 + 3 * j) (by omega) a dd j _ _ _ b7 (by omega) hdd fun d2 μ8 p8 b8 => ?_
            refine ss0 (G := G) ?_
            exact hk5 _ _ ⟨_, _, _, rfl, b8.1, by rw [show 3 + 3 * (j + 1) = 3 + 3 * j + 3 by omega]; exact p8⟩
          · obtain ⟨dd, x11, x12, rfl, b7, hdd⟩ := I
            refine ss0 (G := G) ?_
            exact hk4 _ _ ⟨_, _, _, rfl, b7⟩
        · obtain ⟨w10, w11, w12, rfl, b6⟩ := I
          refine ss0 (G := G) ?_
          exact hk3 _ _ ⟨_, _, _, _, _, _, _, _, rfl, b6⟩
      refine ss ?_
      simp only [wpF, wpS, wpE, wpEs, wpC, wpO, a_nm, asgW, asgsW, wipeD, wk_L, wk_T, wk_1, wk_2, wk_E, wk_Z, wk_ZT, b_add, b_sub, b_fdiv, b_mod, b_mul, b_pow, b_addT, b_addL, b_addS, b_addB, b_subB, t_str, t_strB, c_lt, c_le, c_gt, c_ge, c_eq, c_ne, c_isN, c_isNN, c_inL, c_inT, c_ninL, c_ninT, sl_L, sl_T, sl_S, i_T0, i_T1, i_L0, i_L1, vw_T, vw_L, vw_I, vw_N, vw_B, vw_S, u_b, t_lenL, t_lenT, t_lenS, t_abs, up_S, t_min2, t_max2, t_any, t_all, t_toTL, t_toTT, t_toLT, t_toLL, t_sortL, t_sortT, nw_f, List.length_cons, List.length_nil, List.map_cons, List.map_nil, List.cons_append, List.nil_append, List.replicate, List.set_cons_succ, List.set_cons_zero, List.getElem?_cons_zero, List.getElem?_cons_succ]
      refine hp sts s _ _ _ hok hs'.2.1 (fun nc => ?_) (fun ps C cv M => ?_)
      · have en : coatsL sts s = none := coats_none nc
        have ee : dOpt (coatsL sts s) = .non := by rw [en]; rfl
        refine ss ?_
        simp only [wpF, wpS, wpE, wpEs, wpC, wpO, a_nm, asgW, asgsW, wipeD, wk_L, wk_T, wk_1, wk_2, wk_E, wk_Z, wk_ZT, b_add, b_sub, b_fdiv, b_mod, b_mul, b_pow, b_addT, b_addL, b_addS, b_addB, b_subB, t_str, t_strB, c_lt, c_le, c_gt, c_ge, c_eq, c_ne, c_isN, c_isNN, c_inL, c_inT, c_ninL, c_ninT, sl_L, sl_T, sl_S, i_T0, i_T1, i_L0, i_L1, vw_T, vw_L, vw_I, vw_N, vw_B, vw_S, u_b, t_lenL, t_lenT, t_lenS, t_abs, up_S, t_min2, t_max2, t_any, t_all, t_toTL, t_toTT, t_toLT, t_toLL, t_sortL, t_sortT, nw_f, List.length_cons, List.length_nil, List.map_cons, List.map_nil, List.cons_append, List.nil_append, List.replicate, List.set_cons_succ, List.set_cons_zero, List.getElem?_cons_zero, List.getElem?_cons_succ, ee, isNon]
        refine ⟨rfl, rfl, ?_⟩
        refine it_f (by decide) ?_
        refine ss0 (G := G) ?_
        refine ss ?_
        simp only [wpF, wpS, wpE, wpEs, wpC, wpO, a_nm, asgW, asgsW, wipeD, wk_L, wk_T, wk_1, wk_2, wk_E, wk_Z, wk_ZT, b_add, b_sub, b_fdiv, b_mod, b_mul, b_pow, b_addT, b_addL, b_addS, b_addB, b_subB, t_str, t_strB, c_lt, c_le, c_gt, c_ge, c_eq, c_ne, c_isN, c_isNN, c_inL, c_inT, c_ninL, c_ninT, sl_L, sl_T, sl_S, i_T0, i_T1, i_L0, i_L1, vw_T, vw_L, vw_I, vw_N, vw_B, vw_S, u_b, t_lenL, t_lenT, t_lenS, t_abs, up_S, t_min2, t_max2, t_any, t_all, t_toTL, t_toTT, t_toLT, t_toLL, t_sortL, t_sortT, nw_f, List.length_cons, List.length_nil, List.map_cons, List.map_nil, List.cons_append, List.nil_append, List.replicate, List.set_cons_succ, List.set_cons_zero, List.getElem?_cons_zero, List.getElem?_cons_succ, isNon, Bool.not_true, Bool.false_eq_true, if_false]
        refine ss0 (G := G) ?_
        rw [ee] at rest
        exact rest .non rfl _ _ _ _
      · obtain ⟨c, en, hsub, hcl, hcv⟩ := coats_some M nd
        have ee : dOpt (coatsL sts s) = stsD c := by rw [en]; rfl
        have hpl := paper_len M.pap
        have tok : pl 0 3 (.tup (ps.map D.int)) = true := pl_ints (by omega) fun p hp => by
          have := M.pap.ins p hp
          omega
        have sh := shown_paper M.pap
        have ok1 : okD 60 (.tup (ps.map D.int)) = true := pl_ok _ (by omega) tok
        have l64 : ∀ ds, D.tup (ps.map D.int) = .tup ds → ds.length < 64 := fun ds e => by
          cases e
          rw [List.length_map]
          omega
        refine ss ?_
        simp only [wpF, wpS, wpE, wpEs, wpC, wpO, a_nm, asgW, asgsW, wipeD, wk_L, wk_T, wk_1, wk_2, wk_E, wk_Z, wk_ZT, b_add, b_sub, b_fdiv, b_mod, b_mul, b_pow, b_addT, b_addL, b_addS, b_addB, b_subB, t_str, t_strB, c_lt, c_le, c_gt, c_ge, c_eq, c_ne, c_isN, c_isNN, c_inL, c_inT, c_ninL, c_ninT, sl_L, sl_T, sl_S, i_T0, i_T1, i_L0, i_L1, vw_T, vw_L, vw_I, vw_N, vw_B, vw_S, u_b, t_lenL, t_lenT, t_lenS, t_abs, up_S, t_min2, t_max2, t_any, t_all, t_toTL, t_toTT, t_toLT, t_toLL, t_sortL, t_sortT, nw_f, List.length_cons, List.length_nil, List.map_cons, List.map_nil, List.cons_append, List.nil_append, List.replicate, List.set_cons_succ, List.set_cons_zero, List.getElem?_cons_zero, List.getElem?_cons_succ, ee, stsD, isNon]
        refine ⟨rfl, rfl, ?_⟩
        refine it_f (by decide) ?_
        refine ss0 (G := G) ?_
        refine ss ?_
        simp only [wpF, wpS, wpE, wpEs, wpC, wpO, a_nm, asgW, asgsW, wipeD, wk_L, wk_T, wk_1, wk_2, wk_E, wk_Z, wk_ZT, b_add, b_sub, b_fdiv, b_mod, b_mul, b_pow, b_addT, b_addL, b_addS, b_addB, b_subB, t_str, t_strB, c_lt, c_le, c_gt, c_ge, c_eq, c_ne, c_isN, c_isNN, c_inL, c_inT, c_ninL, c_ninT, sl_L, sl_T, sl_S, i_T0, i_T1, i_L0, i_L1, vw_T, vw_L, vw_I, vw_N, vw_B, vw_S, u_b, t_lenL, t_lenT, t_lenS, t_abs, up_S, t_min2, t_max2, t_any, t_all, t_toTL, t_toTT, t_toLT, t_toLL, t_sortL, t_sortT, nw_f, List.length_cons, List.length_nil, List.map_cons, List.map_nil, List.cons_append, List.nil_append, List.replicate, List.set_cons_succ, List.set_cons_zero, List.getElem?_cons_zero, List.getElem?_cons_succ, isNon, Bool.not_false, if_true]
        refine ss ?_
        simp only [wpF, wpS, wpE, wpEs, wpC, wpO, a_nm, asgW, asgsW, wipeD, wk_L, wk_T, wk_1, wk_2, wk_E, wk_Z, wk_ZT, b_add, b_sub, b_fdiv, b_mod, b_mul, b_pow, b_addT, b_addL, b_addS, b_addB, b_subB, t_str, t_strB, c_lt, c_le, c_gt, c_ge, c_eq, c_ne, c_isN, c_isNN, c_inL, c_inT, c_ninL, c_ninT, sl_L, sl_T, sl_S, i_T0, i_T1, i_L0, i_L1, vw_T, vw_L, vw_I, vw_N, vw_B, vw_S, u_b, t_lenL, t_lenT, t_lenS, t_abs, up_S, t_min2, t_max2, t_any, t_all, t_toTL, t_toTT, t_toLT, t_toLL, t_sortL, t_sortT, nw_f, List.length_cons, List.length_nil, List.map_cons, List.map_nil, List.cons_append, List.nil_append, List.replicate, List.set_cons_succ, List.set_cons_zero, List.getElem?_cons_zero, List.getElem?_cons_succ]
        refine hsh sts s _ _ _ _ ok1 l64 ?_
        rw [sh]
        simp only [nOpt_vw]
        have eq1 : eqD (nOpt (some ps.length)) (.int ((c.map stD).length : Int)) = true := by
          show eqD (.int _) (.int _) = true
          rw [eq_int, List.length_map, hcl, decide_eq_true rfl]
        refine ⟨nOpt_ok, rfl, ?_⟩
        refine it_f (by rw [eq1]; exact Bool.false_ne_true) ?_
        refine hls sts s _ _ _ _ ok1 l64 ?_
        rw [sh]
        simp only [nOpt_vw]
        refine ⟨nOpt_ok, rfl, ?_⟩
        refine it_f (by rw [eq1]; exact Bool.false_ne_true) ?_
        refine ss0 (G := G) ?_
        refine ss0 (G := G) ?_
        rw [ee] at rest
        exact rest _ tok _ _ _ _
    · obtain ⟨v5, v6, v7, v8, v9, v10, v11, v12, rfl, b3⟩ := I
      refine ss0 (G := G) ?_
      exact hk2 _ _ ⟨_, _, _, _, _, _, _, _, _, _, _, _, rfl⟩
  · obtain ⟨v1, v2, v3, v4, v5, v6, v7, v8, v9, v10, v11, v12, rfl⟩ := I
    refine ss ?_
    simp only [wpF, wpS, wpE, wpEs, wpC, wpO, a_nm, asgW, asgsW, wipeD, wk_L, wk_T, wk_1, wk_2, wk_E, wk_Z, wk_ZT, b_add, b_sub, b_fdiv, b_mod, b_mul, b_pow, b_addT, b_addL, b_addS, b_addB, b_subB, t_str, t_strB, c_lt, c_le, c_gt, c_ge, c_eq, c_ne, c_isN, c_isNN, c_inL, c_inT, c_ninL, c_ninT, sl_L, sl_T, sl_S, i_T0, i_T1, i_L0, i_L1, vw_T, vw_L, vw_I, vw_N, vw_B, vw_S, u_b, t_lenL, t_lenT, t_lenS, t_abs, up_S, t_min2, t_max2, t_any, t_all, t_toTL, t_toTT, t_toLT, t_toLL, t_sortL, t_sortT, nw_f, List.length_cons, List.length_nil, List.map_cons, List.map_nil, List.cons_append, List.nil_append, List.replicate, List.set_cons_succ, List.set_cons_zero, List.getElem?_cons_zero, List.getElem?_cons_succ]
end SR

/-! stretches, wishes, stencils told -/
namespace SR
open PySem L2
variable {G : Glb} {μ : Mu} {k : KD} {x : KX}

def d_is_stretch : Fn where
  N := ["places", "thing"].map Str.ofString
  np := 2
  body := [
    .ife (.or_ (.nt (.isin (.var 1) "tuple")) (.or_ (.cmp .ne (.bt .len [(.var 1)]) (.int 2)) (.nt (.call "is_within" [(.ix (.var 1) (.int 0)), (.int 0), (.bin .sub (.var 0) (.int 1))])))) [
      .ret (.bl false)] [],
    .ret (.call "is_within" [(.ix (.var 1) (.int 1)), (.ix (.var 1) (.int 0)), (.bin .sub (.var 0) (.int 1))])]

def d_are_stretches : Fn where
  N := ["places", "thing", "most", "one"].map Str.ofString
  np := 3
  body := [
    .ife (.or_ (.nt (.isin (.var 1) "tuple")) (.cmp .gt (.bt .len [(.var 1)]) (.var 2))) [
      .ret (.bl false)] [],
    .ret (.and_ (.bt .all [(.lc false [3] (.nm 3) .seq [(.var 1)] none (.call "is_stretch" [(.var 0), (.var 3)]))]) (.call "are_rising" [(.var 1)]))]

def d_are_wishes : Fn where
  N := ["places", "thing"].map Str.ofString
  np := 2
  body := [
    .ret (.call "are_stretches" [(.var 0), (.var 1), (.gint "MOST_WISHES")])]

def d_are_stencils : Fn where
  N := ["places", "thing"].map Str.ofString
  np := 2
  body := [
    .ret (.call "are_stretches" [(.var 0), (.var 1), (.gint "MOST_STENCILS")])]

def dl_are_some : Fn where
  N := ["places", "thing", "most", "one"].map Str.ofString
  np := 3
  body := [
    .ife (.or_ (.nt (.isin (.var 1) "tuple")) (.cmp .gt (.bt .len [(.var 1)]) (.var 2))) [
      .ret (.bl false)] [],
    .ife (.cmp .ne (.lc false [3] (.nm 3) .seq [(.var 1)] (some (.nt (.call "_law_is_stretch" [(.var 0), (.var 3)]))) (.var 3)) (.lst false [])) [
      .ret (.bl false)] [],
    .ret (.cmp .eq (.bt (.toList false) [(.var 1)]) (.sset false (.var 1)))]

def dl_is_stretch : Fn where
  N := ["places", "thing"].map Str.ofString
  np := 2
  body := [
    .ife (.or_ (.nt (.isin (.var 1) "tuple")) (.cmp .ne (.bt .len [(.var 1)]) (.int 2))) [
      .ret (.bl false)] [],
    .ret (.and_ (.call "_law_within" [(.ix (.var 1) (.int 0)), (.int 0), (.bin .sub (.var 0) (.int 1))]) (.call "_law_within" [(.ix (.var 1) (.int 1)), (.ix (.var 1) (.int 0)), (.bin .sub (.var 0) (.int 1))]))]

def isSt (n : Int) (d : D) : Bool := match d with
  | .tup [.int a, b] => isW (.int a) 0 (n - 1) && isW b a (n - 1)
  | _ => false
def SpIsSt (f : String) (G : Glb) : Prop := ∀ (n : Int) (d : D) (μ : Mu) (k : KD) (x : KX), okD 60 d = true → k (.bl (isSt n d)) μ → G.fn f [.int n, d] μ k x
theorem isW_not {d : D} {lo hi : Int} (h : ∀ i, d ≠ .int i) : isW d lo hi = false := by
  cases d with
  | int i => exact absurd rfl (h i)
  | _ => rfl
theorem isW_int {d : D} {lo hi : Int} (h : isW d lo hi = true) : ∃ i, d = .int i ∧ lo ≤ i ∧ i ≤ hi := by
  cases d with
  | int i =>
    have q : (decide (lo ≤ i) && decide (i ≤ hi)) = true := h
    rw [Bool.and_eq_true, decide_eq_true_eq, decide_eq_true_eq] at q
    exact ⟨i, rfl, q⟩
  | _ => exact absurd h (by simp [isW])
theorem isSt_pair {n : Int} {a b : D} : isSt n (.tup [a, b]) = true ↔ ∃ s : St2, a = .int s.1 ∧ b = .int s.2 ∧ s ∈ allS n := by
  constructor
  · intro h
    cases a with
    | int i =>
      have q : (isW (.int i) 0 (n - 1) && isW b i (n - 1)) = true := h
      rw [Bool.and_eq_true] at q
      obtain ⟨i', e, h1, h2⟩ := isW_int q.1
      cases e
      obtain ⟨j, rfl, h3, h4⟩ := isW_int q.2
      exact ⟨(i, j), rfl, rfl, mem_all.mpr ⟨h1, h3, by simp only; omega⟩⟩
    | _ => exact absurd h (by simp [isSt])
  · rintro ⟨s, rfl, rfl, hs⟩
    obtain ⟨h1, h2, h3⟩ := mem_all.mp hs
    show ((decide (0 ≤ s.1) && decide (s.1 ≤ n - 1)) && (decide (s.1 ≤ s.2) && decide (s.2 ≤ n - 1))) = true
    rw [decide_eq_true h1, decide_eq_true h2, decide_eq_true (by omega : s.1 ≤ n - 1), decide_eq_true (by omega : s.2 ≤ n - 1)]
    rfl
theorem isSt_st {n : Int} {s : St2} : isSt n (stD s) = decide (s ∈ allS n) := by
  rw [Bool.eq_iff_iff, decide_eq_true_eq]
  refine isSt_pair.trans ⟨?_, fun h => ⟨s, rfl, rfl, h⟩⟩
  rintro ⟨t, e1, e2, h⟩
  have q1 : s.1 = t.1 := D.int.inj e1
  have q2 : s.2 = t.2 := D.int.inj e2
  rw [Prod.ext q1 q2]
  exact h
theorem isSt_is {n : Int} {d : D} (h : isSt n d = true) : ∃ s : St2, d = stD s ∧ s ∈ allS n := by
  cases d with
  | tup l =>
    match l, h with
    | [], h => exact absurd h (by simp [isSt])
    | [a], h => exact absurd h (by cases a <;> simp [isSt])
    | [a, b], h =>
      obtain ⟨s, rfl, rfl, hs⟩ := isSt_pair.mp h
      exact ⟨s, rfl, hs⟩
    | a :: b :: c :: r, h => exact absurd h (by cases a <;> simp [isSt])
  | _ => exact absurd h (by simp [isSt])
theorem len2 {l : List D} (h : l.length = 2) : ∃ a b, l = [a, b] := by
  match l, h with
  | [a, b], _ => exact ⟨a, b, rfl⟩
theorem isSt_len {n : Int} {l : List D} (h : l.length ≠ 2) : isSt n (.tup l) = false := by
  cases q : isSt n (.tup l) with
  | false => rfl
  | true =>
    obtain ⟨s, e, _⟩ := isSt_is q
    cases e
    exact absurd rfl h
theorem isSt_no {n : Int} {d : D} (h : isTy "tuple" d = false) : isSt n d = false := by
  cases d with
  | tup l => cases h
  | _ => rfl
theorem isSt_fst {n : Int} {a b : D} (h : isW a 0 (n - 1) = false) : isSt n (.tup [a, b]) = false := by
  cases a with
  | int i =>
    show (isW (.int i) 0 (n - 1) && isW b i (n - 1)) = false
    rw [h]
    rfl
  | _ => rfl
theorem isSt_snd {n i : Int} {b : D} (h : isW (.int i) 0 (n - 1) = true) : isSt n (.tup [.int i, b]) = isW b i (n - 1) := by
  show (isW (.int i) 0 (n - 1) && isW b i (n - 1)) = _
  rw [h]
  rfl
theorem eq_len2 {l : List D} : eqD (.int (l.length : Int)) (.int 2) = decide (l.length = 2) := by
  rw [eq_int]
  by_cases h : l.length = 2
  · rw [decide_eq_true h, decide_eq_true (by omega)]
  · rw [decide_eq_false h, decide_eq_false (by omega)]
mutual
theorem okD_mono : ∀ (d : D) {n m : Nat}, n ≤ m → okD n d = true → okD m d = true
  | .non, n, m, _, _ => by cases m <;> rfl
  | .bl _, n, m, _, _ => by cases m <;> rfl
  | .int _, n, m, _, _ => by cases m <;> rfl
  | .str s, n, m, _, h => by cases n <;> cases m <;> exact h
  | .tup l, 0, m, _, h => by cases h
  | .lst l, 0, m, _, h => by cases h
  | .tup l, n + 1, 0, hn, h => absurd hn (by omega)
  | .lst l, n + 1, 0, hn, h => absurd hn (by omega)
  | .tup l, n + 1, m + 1, hn, h => okDs_mono l (by omega) h
  | .lst l, n + 1, m + 1, hn, h => okDs_mono l (by omega) h
  | .ref _, n, m, _, h => by cases n <;> cases h
  | .scr _, n, m, _, h => by cases n <;> cases h
theorem okDs_mono : ∀ (l : List D) {n m : Nat}, n ≤ m → okDs n l = true → okDs m l = true
  | [], n, m, _, _ => by cases m <;> rfl
  | d :: r, n, m, hn, h => by
    have h1 : okDs n (d :: r) = (okD n d && okDs n r) := by cases n <;> rfl
    have h2 : okDs m (d :: r) = (okD m d && okDs m r) := by cases m <;> rfl
    rw [h1, Bool.and_eq_true] at h
    rw [h2, okD_mono d hn h.1, okDs_mono r hn h.2]
    rfl
end
theorem okD_up {d : D} (h : okD 59 d = true) : okD 60 d = true := okD_mono d (by decide) h
theorem okDs_of {n : Nat} : ∀ {l : List D}, (∀ d ∈ l, okD n d = true) → okDs n l = true
  | [], _ => by cases n <;> rfl
  | d :: r, h => by
    have e : okDs n (d :: r) = (okD n d && okDs n r) := by cases n <;> rfl
    rw [e, h d List.mem_cons_self, okDs_of fun d hd => h d (List.mem_cons_of_mem _ hd)]
    rfl
theorem p_isst (hw : SpIsW "is_within" G) {n : Int} {d : D} (ho : okD 60 d = true) (h : k (.bl (isSt n d)) μ) : wpF G d_is_stretch [.int n, d] μ k x := by
  have ht := ok_okT ho
  have hv : vw μ d = d := vw_of ht
  simp only [d_is_stretch, wpF, wpS, wpE, wpEs, wpC, wpO, a_nm, asgW, asgsW, wipeD, wk_L, wk_T, wk_1, wk_2, wk_E, wk_Z, wk_ZT, b_add, b_sub, b_fdiv, b_mod, b_mul, b_pow, b_addT, b_addL, b_addS, b_addB, b_subB, t_str, t_strB, c_lt, c_le, c_gt, c_ge, c_eq, c_ne, c_isN, c_isNN, c_inL, c_inT, c_ninL, c_ninT, sl_L, sl_T, sl_S, i_T0, i_T1, i_L0, i_L1, vw_T, vw_L, vw_I, vw_N, vw_B, vw_S, u_b, t_lenL, t_lenT, t_lenS, t_abs, up_S, t_min2, t_max2, t_any, t_all, t_toTL, t_toTT, t_toLT, t_toLL, t_sortL, t_sortT, nw_f, List.length_cons, List.length_nil, List.map_cons, List.map_nil, List.cons_append, List.nil_append, List.replicate, List.set_cons_succ, List.set_cons_zero, List.getElem?_cons_zero, List.getElem?_cons_succ]
  refine ⟨trivial, ss ?_⟩
  simp only [wpF, wpS, wpE, wpEs, wpC, wpO, a_nm, asgW, asgsW, wipeD, wk_L, wk_T, wk_1, wk_2, wk_E, wk_Z, wk_ZT, b_add, b_sub, b_fdiv, b_mod, b_mul, b_pow, b_addT, b_addL, b_addS, b_addB, b_subB, t_str, t_strB, c_lt, c_le, c_gt, c_ge, c_eq, c_ne, c_isN, c_isNN, c_inL, c_inT, c_ninL, c_ninT, sl_L, sl_T, sl_S, i_T0, i_T1, i_L0, i_L1, vw_T, vw_L, vw_I, vw_N, vw_B, vw_S, u_b, t_lenL, t_lenT, t_lenS, t_abs, up_S, t_min2, t_max2, t_any, t_all, t_toTL, t_toTT, t_toLT, t_toLL, t_sortL, t_sortT, nw_f, List.length_cons, List.length_nil, List.map_cons, List.map_nil, List.cons_append, List.nil_append, List.replicate, List.set_cons_succ, List.set_cons_zero, List.getElem?_cons_zero, List.getElem?_cons_succ, hv]
  refine ⟨ht, ?_⟩
  by_cases e : isTy "tuple" d = true
  · obtain ⟨l, rfl⟩ := isTup_of e
    simp only [e, Bool.not_true, Bool.false_eq_true, if_false, wpF, wpS, wpE, wpEs, wpC, wpO, a_nm, asgW, asgsW, wipeD, wk_L, wk_T, wk_1, wk_2, wk_E, wk_Z, wk_ZT, b_add, b_sub, b_fdiv, b_mod, b_mul, b_pow, b_addT, b_addL, b_addS, b_addB, b_subB, t_str, t_strB, c_lt, c_le, c_gt, c_ge, c_eq, c_ne, c_isN, c_isNN, c_inL, c_inT, c_ninL, c_ninT, sl_L, sl_T, sl_S, i_T0, i_T1, i_L0, i_L1, vw_T, vw_L, vw_I, vw_N, vw_B, vw_S, u_b, t_lenL, t_lenT, t_lenS, t_abs, up_S, t_min2, t_max2, t_any, t_all, t_toTL, t_toTT, t_toLT, t_toLL, t_sortL, t_sortT, nw_f, List.length_cons, List.length_nil, List.map_cons, List.map_nil, List.cons_append, List.nil_append, List.replicate, List.set_cons_succ, List.set_cons_zero, List.getElem?_cons_zero, List.getElem?_cons_succ, eq_len2]
    refine ⟨rfl, rfl, ?_⟩
    by_cases hl : l.length = 2
    · obtain ⟨a, b, rfl⟩ := len2 hl
      refine it_f (by rw [decide_eq_true hl]; exact Bool.false_ne_true) ?_
      simp only [wpF, wpS, wpE, wpEs, wpC, wpO, a_nm, asgW, asgsW, wipeD, wk_L, wk_T, wk_1, wk_2, wk_E, wk_Z, wk_ZT, b_add, b_sub, b_fdiv, b_mod, b_mul, b_pow, b_addT, b_addL, b_addS, b_addB, b_subB, t_str, t_strB, c_lt, c_le, c_gt, c_ge, c_eq, c_ne, c_isN, c_isNN, c_inL, c_inT, c_ninL, c_ninT, sl_L, sl_T, sl_S, i_T0, i_T1, i_L0, i_L1, vw_T, vw_L, vw_I, vw_N, vw_B, vw_S, u_b, t_lenL, t_lenT, t_lenS, t_abs, up_S, t_min2, t_max2, t_any, t_all, t_toTL, t_toTT, t_toLT, t_toLL, t_sortL, t_sortT, nw_f, List.length_cons, List.length_nil, List.map_cons, List.map_nil, List.cons_append, List.nil_append, List.replicate, List.set_cons_succ, List.set_cons_zero, List.getElem?_cons_zero, List.getElem?_cons_succ]
      have oa : okT a = true := ok_okT (okDs_in (n := 59) ho a List.mem_cons_self)
      have ob : okT b = true := ok_okT (okDs_in (n := 59) ho b (List.mem_cons_of_mem _ List.mem_cons_self))
      refine hw a 0 (n - 1) _ _ _ oa ?_
      simp only [wpF, wpS, wpE, wpEs, wpC, wpO, a_nm, asgW, asgsW, wipeD, wk_L, wk_T, wk_1, wk_2, wk_E, wk_Z, wk_ZT, b_add, b_sub, b_fdiv, b_mod, b_mul, b_pow, b_addT, b_addL, b_addS, b_addB, b_subB, t_str, t_strB, c_lt, c_le, c_gt, c_ge, c_eq, c_ne, c_isN, c_isNN, c_inL, c_inT, c_ninL, c_ninT, sl_L, sl_T, sl_S, i_T0, i_T1, i_L0, i_L1, vw_T, vw_L, vw_I, vw_N, vw_B, vw_S, u_b, t_lenL, t_lenT, t_lenS, t_abs, up_S, t_min2, t_max2, t_any, t_all, t_toTL, t_toTT, t_toLT, t_toLL, t_sortL, t_sortT, nw_f, List.length_cons, List.length_nil, List.map_cons, List.map_nil, List.cons_append, List.nil_append, List.replicate, List.set_cons_succ, List.set_cons_zero, List.getElem?_cons_zero, List.getElem?_cons_succ]
      by_cases c : isW a 0 (n - 1) = true
      · obtain ⟨i, rfl, _⟩ := isW_int c
        rw [isSt_snd c] at h
        refine it_f (by rw [c]; exact Bool.false_ne_true) ?_
        refine ss0 (G := G) ?_
        refine ss ?_
        simp only [wpF, wpS, wpE, wpEs, wpC, wpO, a_nm, asgW, asgsW, wipeD, wk_L, wk_T, wk_1, wk_2, wk_E, wk_Z, wk_ZT, b_add, b_sub, b_fdiv, b_mod, b_mul, b_pow, b_addT, b_addL, b_addS, b_addB, b_subB, t_str, t_strB, c_lt, c_le, c_gt, c_ge, c_eq, c_ne, c_isN, c_isNN, c_inL, c_inT, c_ninL, c_ninT, sl_L, sl_T, sl_S, i_T0, i_T1, i_L0, i_L1, vw_T, vw_L, vw_I, vw_N, vw_B, vw_S, u_b, t_lenL, t_lenT, t_lenS, t_abs, up_S, t_min2, t_max2, t_any, t_all, t_toTL, t_toTT, t_toLT, t_toLL, t_sortL, t_sortT, nw_f, List.length_cons, List.length_nil, List.map_cons, List.map_nil, List.cons_append, List.nil_append, List.replicate, List.set_cons_succ, List.set_cons_zero, List.getElem?_cons_zero, List.getElem?_cons_succ]
        exact hw b i (n - 1) _ _ _ ob h
      · rw [Bool.not_eq_true] at c
        rw [isSt_fst c] at h
        refine it_t (by rw [c]; rfl) ?_
        refine ss ?_
        simp only [wpF, wpS, wpE, wpEs, wpC, wpO, a_nm, asgW, asgsW, wipeD, wk_L, wk_T, wk_1, wk_2, wk_E, wk_Z, wk_ZT, b_add, b_sub, b_fdiv, b_mod, b_mul, b_pow, b_addT, b_addL, b_addS, b_addB, b_subB, t_str, t_strB, c_lt, c_le, c_gt, c_ge, c_eq, c_ne, c_isN, c_isNN, c_inL, c_inT, c_ninL, c_ninT, sl_L, sl_T, sl_S, i_T0, i_T1, i_L0, i_L1, vw_T, vw_L, vw_I, vw_N, vw_B, vw_S, u_b, t_lenL, t_lenT, t_lenS, t_abs, up_S, t_min2, t_max2, t_any, t_all, t_toTL, t_toTT, t_toLT, t_toLL, t_sortL, t_sortT, nw_f, List.length_cons, List.length_nil, List.map_cons, List.map_nil, List.cons_append, List.nil_append, List.replicate, List.set_cons_succ, List.set_cons_zero, List.getElem?_cons_zero, List.getElem?_cons_succ]
        exact h
    · rw [isSt_len hl] at h
      refine it_t (by rw [decide_eq_false hl]; rfl) ?_
      refine it_t trivial ?_
      refine ss ?_
      simp only [wpF, wpS, wpE, wpEs, wpC, wpO, a_nm, asgW, asgsW, wipeD, wk_L, wk_T, wk_1, wk_2, wk_E, wk_Z, wk_ZT, b_add, b_sub, b_fdiv, b_mod, b_mul, b_pow, b_addT, b_addL, b_addS, b_addB, b_subB, t_str, t_strB, c_lt, c_le, c_gt, c_ge, c_eq, c_ne, c_isN, c_isNN, c_inL, c_inT, c_ninL, c_ninT, sl_L, sl_T, sl_S, i_T0, i_T1, i_L0, i_L1, vw_T, vw_L, vw_I, vw_N, vw_B, vw_S, u_b, t_lenL, t_lenT, t_lenS, t_abs, up_S, t_min2, t_max2, t_any, t_all, t_toTL, t_toTT, t_toLT, t_toLL, t_sortL, t_sortT, nw_f, List.length_cons, List.length_nil, List.map_cons, List.map_nil, List.cons_append, List.nil_append, List.replicate, List.set_cons_succ, List.set_cons_zero, List.getElem?_cons_zero, List.getElem?_cons_succ]
      exact h
  · rw [Bool.not_eq_true] at e
    rw [isSt_no e] at h
    rw [e]
    simp only [Bool.not_false, if_true]
    refine ss ?_
    simp only [wpF, wpS, wpE, wpEs, wpC, wpO, a_nm, asgW, asgsW, wipeD, wk_L, wk_T, wk_1, wk_2, wk_E, wk_Z, wk_ZT, b_add, b_sub, b_fdiv, b_mod, b_mul, b_pow, b_addT, b_addL, b_addS, b_addB, b_subB, t_str, t_strB, c_lt, c_le, c_gt, c_ge, c_eq, c_ne, c_isN, c_isNN, c_inL, c_inT, c_ninL, c_ninT, sl_L, sl_T, sl_S, i_T0, i_T1, i_L0, i_L1, vw_T, vw_L, vw_I, vw_N, vw_B, vw_S, u_b, t_lenL, t_lenT, t_lenS, t_abs, up_S, t_min2, t_max2, t_any, t_all, t_toTL, t_toTT, t_toLT, t_toLL, t_sortL, t_sortT, nw_f, List.length_cons, List.length_nil, List.map_cons, List.map_nil, List.cons_append, List.nil_append, List.replicate, List.set_cons_succ, List.set_cons_zero, List.getElem?_cons_zero, List.getElem?_cons_succ]
    exact h
theorem p_lisst (hw : SpIsW "_law_within" G) {n : Int} {d : D} (ho : okD 60 d = true) (h : k (.bl (isSt n d)) μ) : wpF G dl_is_stretch [.int n, d] μ k x := by
  have ht := ok_okT ho
  have hv : vw μ d = d := vw_of ht
  simp only [dl_is_stretch, wpF, wpS, wpE, wpEs, wpC, wpO, a_nm, asgW, asgsW, wipeD, wk_L, wk_T, wk_1, wk_2, wk_E, wk_Z, wk_ZT, b_add, b_sub, b_fdiv, b_mod, b_mul, b_pow, b_addT, b_addL, b_addS, b_addB, b_subB, t_str, t_strB, c_lt, c_le, c_gt, c_ge, c_eq, c_ne, c_isN, c_isNN, c_inL, c_inT, c_ninL, c_ninT, sl_L, sl_T, sl_S, i_T0, i_T1, i_L0, i_L1, vw_T, vw_L, vw_I, vw_N, vw_B, vw_S, u_b, t_lenL, t_lenT, t_lenS, t_abs, up_S, t_min2, t_max2, t_any, t_all, t_toTL, t_toTT, t_toLT, t_toLL, t_sortL, t_sortT, nw_f, List.length_cons, List.length_nil, List.map_cons, List.map_nil, List.cons_append, List.nil_append, List.replicate, List.set_cons_succ, List.set_cons_zero, List.getElem?_cons_zero, List.getElem?_cons_succ]
  refine ⟨trivial, ss ?_⟩
  simp only [wpF, wpS, wpE, wpEs, wpC, wpO, a_nm, asgW, asgsW, wipeD, wk_L, wk_T, wk_1, wk_2, wk_E, wk_Z, wk_ZT, b_add, b_sub, b_fdiv, b_mod, b_mul, b_pow, b_addT, b_addL, b_addS, b_addB, b_subB, t_str, t_strB, c_lt, c_le, c_gt, c_ge, c_eq, c_ne, c_isN, c_isNN, c_inL, c_inT, c_ninL, c_ninT, sl_L, sl_T, sl_S, i_T0, i_T1, i_L0, i_L1, vw_T, vw_L, vw_I, vw_N, vw_B, vw_S, u_b, t_lenL, t_lenT, t_lenS, t_abs, up_S, t_min2, t_max2, t_any, t_all, t_toTL, t_toTT, t_toLT, t_toLL, t_sortL, t_sortT, nw_f, List.length_cons, List.length_nil, List.map_cons, List.map_nil, List.cons_append, List.nil_append, List.replicate, List.set_cons_succ, List.set_cons_zero, List.getElem?_cons_zero, List.getElem?_cons_succ, hv]
  refine ⟨ht, ?_⟩
  by_cases e : isTy "tuple" d = true
  · obtain ⟨l, rfl⟩ := isTup_of e
    simp only [e, Bool.not_true, Bool.false_eq_true, if_false, wpF, wpS, wpE, wpEs, wpC, wpO, a_nm, asgW, asgsW, wipeD, wk_L, wk_T, wk_1, wk_2, wk_E, wk_Z, wk_ZT, b_add, b_sub, b_fdiv, b_mod, b_mul, b_pow, b_addT, b_addL, b_addS, b_addB, b_subB, t_str, t_strB, c_lt, c_le, c_gt, c_ge, c_eq, c_ne, c_isN, c_isNN, c_inL, c_inT, c_ninL, c_ninT, sl_L, sl_T, sl_S, i_T0, i_T1, i_L0, i_L1, vw_T, vw_L, vw_I, vw_N, vw_B, vw_S, u_b, t_lenL, t_lenT, t_lenS, t_abs, up_S, t_min2, t_max2, t_any, t_all, t_toTL, t_toTT, t_toLT, t_toLL, t_sortL, t_sortT, nw_f, List.length_cons, List.length_nil, List.map_cons, List.map_nil, List.cons_append, List.nil_append, List.replicate, List.set_cons_succ, List.set_cons_zero, List.getElem?_cons_zero, List.getElem?_cons_succ, eq_len2]
    refine ⟨rfl, rfl, ?_⟩
    by_cases hl : l.length = 2
    · obtain ⟨a, b, rfl⟩ := len2 hl
      refine it_f (by rw [decide_eq_true hl]; exact Bool.false_ne_true) ?_
      refine ss0 (G := G) ?_
      refine ss ?_
      simp only [wpF, wpS, wpE, wpEs, wpC, wpO, a_nm, asgW, asgsW, wipeD, wk_L, wk_T, wk_1, wk_2, wk_E, wk_Z, wk_ZT, b_add, b_sub, b_fdiv, b_mod, b_mul, b_pow, b_addT, b_addL, b_addS, b_addB, b_subB, t_str, t_strB, c_lt, c_le, c_gt, c_ge, c_eq, c_ne, c_isN, c_isNN, c_inL, c_inT, c_ninL, c_ninT, sl_L, sl_T, sl_S, i_T0, i_T1, i_L0, i_L1, vw_T, vw_L, vw_I, vw_N, vw_B, vw_S, u_b, t_lenL, t_lenT, t_lenS, t_abs, up_S, t_min2, t_max2, t_any, t_all, t_toTL, t_toTT, t_toLT, t_toLL, t_sortL, t_sortT, nw_f, List.length_cons, List.length_nil, List.map_cons, List.map_nil, List.cons_append, List.nil_append, List.replicate, List.set_cons_succ, List.set_cons_zero, List.getElem?_cons_zero, List.getElem?_cons_succ]
      have oa : okT a = true := ok_okT (okDs_in (n := 59) ho a List.mem_cons_self)
      have ob : okT b = true := ok_okT (okDs_in (n := 59) ho b (List.mem_cons_of_mem _ List.mem_cons_self))
      refine hw a 0 (n - 1) _ _ _ oa ?_
      simp only [wpF, wpS, wpE, wpEs, wpC, wpO, a_nm, asgW, asgsW, wipeD, wk_L, wk_T, wk_1, wk_2, wk_E, wk_Z, wk_ZT, b_add, b_sub, b_fdiv, b_mod, b_mul, b_pow, b_addT, b_addL, b_addS, b_addB, b_subB, t_str, t_strB, c_lt, c_le, c_gt, c_ge, c_eq, c_ne, c_isN, c_isNN, c_inL, c_inT, c_ninL, c_ninT, sl_L, sl_T, sl_S, i_T0, i_T1, i_L0, i_L1, vw_T, vw_L, vw_I, vw_N, vw_B, vw_S, u_b, t_lenL, t_lenT, t_lenS, t_abs, up_S, t_min2, t_max2, t_any, t_all, t_toTL, t_toTT, t_toLT, t_toLL, t_sortL, t_sortT, nw_f, List.length_cons, List.length_nil, List.map_cons, List.map_nil, List.cons_append, List.nil_append, List.replicate, List.set_cons_succ, List.set_cons_zero, List.getElem?_cons_zero, List.getElem?_cons_succ]
      by_cases c : isW a 0 (n - 1) = true
      · obtain ⟨i, rfl, _⟩ := isW_int c
        rw [isSt_snd c] at h
        refine it_t c ?_
        exact hw b i (n - 1) _ _ _ ob h
      · rw [Bool.not_eq_true] at c
        rw [isSt_fst c] at h
        refine it_f (by rw [c]; exact Bool.false_ne_true) ?_
        exact h
    · rw [isSt_len hl] at h
      refine it_t (by rw [decide_eq_false hl]; rfl) ?_
      refine ss ?_
      simp only [wpF, wpS, wpE, wpEs, wpC, wpO, a_nm, asgW, asgsW, wipeD, wk_L, wk_T, wk_1, wk_2, wk_E, wk_Z, wk_ZT, b_add, b_sub, b_fdiv, b_mod, b_mul, b_pow, b_addT, b_addL, b_addS, b_addB, b_subB, t_str, t_strB, c_lt, c_le, c_gt, c_ge, c_eq, c_ne, c_isN, c_isNN, c_inL, c_inT, c_ninL, c_ninT, sl_L, sl_T, sl_S, i_T0, i_T1, i_L0, i_L1, vw_T, vw_L, vw_I, vw_N, vw_B, vw_S, u_b, t_lenL, t_lenT, t_lenS, t_abs, up_S, t_min2, t_max2, t_any, t_all, t_toTL, t_toTT, t_toLT, t_toLL, t_sortL, t_sortT, nw_f, List.length_cons, List.length_nil, List.map_cons, List.map_nil, List.cons_append, List.nil_append, List.replicate, List.set_cons_succ, List.set_cons_zero, List.getElem?_cons_zero, List.getElem?_cons_succ]
      exact h
  · rw [Bool.not_eq_true] at e
    rw [isSt_no e] at h
    rw [e]
    simp only [Bool.not_false, if_true]
    refine ss ?_
    simp only [wpF, wpS, wpE, wpEs, wpC, wpO, a_nm, asgW, asgsW, wipeD, wk_L, wk_T, wk_1, wk_2, wk_E, wk_Z, wk_ZT, b_add, b_sub, b_fdiv, b_mod, b_mul, b_pow, b_addT, b_addL, b_addS, b_addB, b_subB, t_str, t_strB, c_lt, c_le, c_gt, c_ge, c_eq, c_ne, c_isN, c_isNN, c_inL, c_inT, c_ninL, c_ninT, sl_L, sl_T, sl_S, i_T0, i_T1, i_L0, i_L1, vw_T, vw_L, vw_I, vw_N, vw_B, vw_S, u_b, t_lenL, t_lenT, t_lenS, t_abs, up_S, t_min2, t_max2, t_any, t_all, t_toTL, t_toTT, t_toLT, t_toLL, t_sortL, t_sortT, nw_f, List.length_cons, List.length_nil, List.map_cons, List.map_nil, List.cons_append, List.nil_append, List.replicate, List.set_cons_succ, List.set_cons_zero, List.getElem?_cons_zero, List.getElem?_cons_succ]
    exact h

/-! ### rows of them -/
def stOf : D → Option St2
  | .tup [.int a, .int b] => some (a, b)
  | _ => none
def stsOf (ds : List D) : List St2 := ds.filterMap stOf
theorem sts_all {n : Int} : ∀ {ds : List D}, (ds.all fun d => isSt n d) = true → ds = (stsOf ds).map stD ∧ ∀ s ∈ stsOf ds, s ∈ allS n
  | [], _ => ⟨rfl, fun _ h => nomatch h⟩
  | d :: r, h => by
    rw [List.all_cons, Bool.and_eq_true] at h
    obtain ⟨h1, h2⟩ := sts_all h.2
    obtain ⟨s, rfl, hs⟩ := isSt_is h.1
    refine ⟨?_, fun t ht => ?_⟩
    · show _ = stD s :: (stsOf r).map stD
      rw [← h1]
    · rcases List.mem_cons.mp (show t ∈ s :: stsOf r from ht) with e | e
      · rw [e]; exact hs
      · exact h2 t e
def areSt (n : Int) (most : Int) (d : D) : Bool := match d with
  | .tup ds => decide ((ds.length : Int) ≤ most) && ((ds.all fun d => isSt n d) && decide ((stsOf ds).Pairwise ltS))
  | _ => false
def SpAreSt (f : String) (G : Glb) : Prop := ∀ (n most : Int) (d : D) (μ : Mu) (k : KD) (x : KX), okD 60 d = true → most < 64 → k (.bl (areSt n most d)) μ → G.fn f [.int n, d, .int most] μ k x
theorem areSt_no {n most : Int} {d : D} (h : isTy "tuple" d = false) : areSt n most d = false := by
  cases d with
  | tup l => cases h
  | _ => rfl
theorem p_arest (hs : SpIsSt "is_stretch" G) (hr : SpRis stD ltS G) {n most : Int} {d : D} (ho : okD 60 d = true) (h : k (.bl (areSt n most d)) μ) : wpF G d_are_stretches [.int n, d, .int most] μ k x := by
  have ht := ok_okT ho
  have hv : vw μ d = d := vw_of ht
  simp only [d_are_stretches, wpF, wpS, wpE, wpEs, wpC, wpO, a_nm, asgW, asgsW, wipeD, wk_L, wk_T, wk_1, wk_2, wk_E, wk_Z, wk_ZT, b_add, b_sub, b_fdiv, b_mod, b_mul, b_pow, b_addT, b_addL, b_addS, b_addB, b_subB, t_str, t_strB, c_lt, c_le, c_gt, c_ge, c_eq, c_ne, c_isN, c_isNN, c_inL, c_inT, c_ninL, c_ninT, sl_L, sl_T, sl_S, i_T0, i_T1, i_L0, i_L1, vw_T, vw_L, vw_I, vw_N, vw_B, vw_S, u_b, t_lenL, t_lenT, t_lenS, t_abs, up_S, t_min2, t_max2, t_any, t_all, t_toTL, t_toTT, t_toLT, t_toLL, t_sortL, t_sortT, nw_f, List.length_cons, List.length_nil, List.map_cons, List.map_nil, List.cons_append, List.nil_append, List.replicate, List.set_cons_succ, List.set_cons_zero, List.getElem?_cons_zero, List.getElem?_cons_succ]
  refine ⟨trivial, ss ?_⟩
  simp only [wpF, wpS, wpE, wpEs, wpC, wpO, a_nm, asgW, asgsW, wipeD, wk_L, wk_T, wk_1, wk_2, wk_E, wk_Z, wk_ZT, b_add, b_sub, b_fdiv, b_mod, b_mul, b_pow, b_addT, b_addL, b_addS, b_addB, b_subB, t_str, t_strB, c_lt, c_le, c_gt, c_ge, c_eq, c_ne, c_isN, c_isNN, c_inL, c_inT, c_ninL, c_ninT, sl_L, sl_T, sl_S, i_T0, i_T1, i_L0, i_L1, vw_T, vw_L, vw_I, vw_N, vw_B, vw_S, u_b, t_lenL, t_lenT, t_lenS, t_abs, up_S, t_min2, t_max2, t_any, t_all, t_toTL, t_toTT, t_toLT, t_toLL, t_sortL, t_sortT, nw_f, List.length_cons, List.length_nil, List.map_cons, List.map_nil, List.cons_append, List.nil_append, List.replicate, List.set_cons_succ, List.set_cons_zero, List.getElem?_cons_zero, List.getElem?_cons_succ, hv]
  refine ⟨ht, ?_⟩
  by_cases e : isTy "tuple" d = true
  · obtain ⟨ds, rfl⟩ := isTup_of e
    simp only [e, Bool.not_true, Bool.false_eq_true, if_false, wpF, wpS, wpE, wpEs, wpC, wpO, a_nm, asgW, asgsW, wipeD, wk_L, wk_T, wk_1, wk_2, wk_E, wk_Z, wk_ZT, b_add, b_sub, b_fdiv, b_mod, b_mul, b_pow, b_addT, b_addL, b_addS, b_addB, b_subB, t_str, t_strB, c_lt, c_le, c_gt, c_ge, c_eq, c_ne, c_isN, c_isNN, c_inL, c_inT, c_ninL, c_ninT, sl_L, sl_T, sl_S, i_T0, i_T1, i_L0, i_L1, vw_T, vw_L, vw_I, vw_N, vw_B, vw_S, u_b, t_lenL, t_lenT, t_lenS, t_abs, up_S, t_min2, t_max2, t_any, t_all, t_toTL, t_toTT, t_toLT, t_toLL, t_sortL, t_sortT, nw_f, List.length_cons, List.length_nil, List.map_cons, List.map_nil, List.cons_append, List.nil_append, List.replicate, List.set_cons_succ, List.set_cons_zero, List.getElem?_cons_zero, List.getElem?_cons_succ]
    have hh : k (.bl (decide ((ds.length : Int) ≤ most) && ((ds.all fun d => isSt n d) && decide ((stsOf ds).Pairwise ltS)))) μ := h
    by_cases hl : (ds.length : Int) ≤ most
    · rw [decide_eq_true hl, Bool.true_and] at hh
      refine it_f (by rw [decide_eq_false (by omega)]; exact Bool.false_ne_true) ?_
      refine ss0 (G := G) ?_
      refine ss ?_
      simp only [wpF, wpS, wpE, wpEs, wpC, wpO, a_nm, asgW, asgsW, wipeD, wk_L, wk_T, wk_1, wk_2, wk_E, wk_Z, wk_ZT, b_add, b_sub, b_fdiv, b_mod, b_mul, b_pow, b_addT, b_addL, b_addS, b_addB, b_subB, t_str, t_strB, c_lt, c_le, c_gt, c_ge, c_eq, c_ne, c_isN, c_isNN, c_inL, c_inT, c_ninL, c_ninT, sl_L, sl_T, sl_S, i_T0, i_T1, i_L0, i_L1, vw_T, vw_L, vw_I, vw_N, vw_B, vw_S, u_b, t_lenL, t_lenT, t_lenS, t_abs, up_S, t_min2, t_max2, t_any, t_all, t_toTL, t_toTT, t_toLT, t_toLL, t_sortL, t_sortT, nw_f, List.length_cons, List.length_nil, List.map_cons, List.map_nil, List.cons_append, List.nil_append, List.replicate, List.set_cons_succ, List.set_cons_zero, List.getElem?_cons_zero, List.getElem?_cons_succ]
      refine lcW_eachD (fun a => .bl (isSt n a)) trivial ds (fun a ha k2 q => ?_) ?_
      · simp only [if_true]
        exact hs n a _ _ _ (okD_up (okDs_in (n := 59) ho a ha)) q
      refine ⟨ds.map fun a => isSt n a, by rw [List.map_map]; rfl, ?_⟩
      rw [List.all_map]
      have e1 : ds.all (id ∘ fun a => isSt n a) = ds.all fun d => isSt n d := rfl
      rw [e1]
      by_cases c : (ds.all fun d => isSt n d) = true
      · rw [c, Bool.true_and] at hh
        refine it_t c ?_
        have es := (sts_all c).1
        have eT : D.tup ds = .tup ((stsOf ds).map stD) := congrArg D.tup es
        rw [eT]
        exact hr _ _ _ _ hh
      · rw [Bool.not_eq_true] at c
        rw [c, Bool.false_and] at hh
        refine it_f (by rw [c]; exact Bool.false_ne_true) ?_
        exact hh
    · rw [decide_eq_false hl, Bool.false_and] at hh
      refine it_t (decide_eq_true (by omega)) ?_
      refine ss ?_
      simp only [wpF, wpS, wpE, wpEs, wpC, wpO, a_nm, asgW, asgsW, wipeD, wk_L, wk_T, wk_1, wk_2, wk_E, wk_Z, wk_ZT, b_add, b_sub, b_fdiv, b_mod, b_mul, b_pow, b_addT, b_addL, b_addS, b_addB, b_subB, t_str, t_strB, c_lt, c_le, c_gt, c_ge, c_eq, c_ne, c_isN, c_isNN, c_inL, c_inT, c_ninL, c_ninT, sl_L, sl_T, sl_S, i_T0, i_T1, i_L0, i_L1, vw_T, vw_L, vw_I, vw_N, vw_B, vw_S, u_b, t_lenL, t_lenT, t_lenS, t_abs, up_S, t_min2, t_max2, t_any, t_all, t_toTL, t_toTT, t_toLT, t_toLL, t_sortL, t_sortT, nw_f, List.length_cons, List.length_nil, List.map_cons, List.map_nil, List.cons_append, List.nil_append, List.replicate, List.set_cons_succ, List.set_cons_zero, List.getElem?_cons_zero, List.getElem?_cons_succ]
      exact hh
  · rw [Bool.not_eq_true] at e
    rw [areSt_no e] at h
    rw [e]
    simp only [Bool.not_false, if_true]
    refine ss ?_
    simp only [wpF, wpS, wpE, wpEs, wpC, wpO, a_nm, asgW, asgsW, wipeD, wk_L, wk_T, wk_1, wk_2, wk_E, wk_Z, wk_ZT, b_add, b_sub, b_fdiv, b_mod, b_mul, b_pow, b_addT, b_addL, b_addS, b_addB, b_subB, t_str, t_strB, c_lt, c_le, c_gt, c_ge, c_eq, c_ne, c_isN, c_isNN, c_inL, c_inT, c_ninL, c_ninT, sl_L, sl_T, sl_S, i_T0, i_T1, i_L0, i_L1, vw_T, vw_L, vw_I, vw_N, vw_B, vw_S, u_b, t_lenL, t_lenT, t_lenS, t_abs, up_S, t_min2, t_max2, t_any, t_all, t_toTL, t_toTT, t_toLT, t_toLL, t_sortL, t_sortT, nw_f, List.length_cons, List.length_nil, List.map_cons, List.map_nil, List.cons_append, List.nil_append, List.replicate, List.set_cons_succ, List.set_cons_zero, List.getElem?_cons_zero, List.getElem?_cons_succ]
    exact h
theorem p_laresome (hs : SpIsSt "_law_is_stretch" G) {n most : Int} {d : D} (ho : okD 60 d = true) (hm : most < 64) (h : k (.bl (areSt n most d)) μ) : wpF G dl_are_some [.int n, d, .int most] μ k x := by
  have ht := ok_okT ho
  have hv : vw μ d = d := vw_of ht
  simp only [dl_are_some, wpF, wpS, wpE, wpEs, wpC, wpO, a_nm, asgW, asgsW, wipeD, wk_L, wk_T, wk_1, wk_2, wk_E, wk_Z, wk_ZT, b_add, b_sub, b_fdiv, b_mod, b_mul, b_pow, b_addT, b_addL, b_addS, b_addB, b_subB, t_str, t_strB, c_lt, c_le, c_gt, c_ge, c_eq, c_ne, c_isN, c_isNN, c_inL, c_inT, c_ninL, c_ninT, sl_L, sl_T, sl_S, i_T0, i_T1, i_L0, i_L1, vw_T, vw_L, vw_I, vw_N, vw_B, vw_S, u_b, t_lenL, t_lenT, t_lenS, t_abs, up_S, t_min2, t_max2, t_any, t_all, t_toTL, t_toTT, t_toLT, t_toLL, t_sortL, t_sortT, nw_f, List.length_cons, List.length_nil, List.map_cons, List.map_nil, List.cons_append, List.nil_append, List.replicate, List.set_cons_succ, List.set_cons_zero, List.getElem?_cons_zero, List.getElem?_cons_succ]
  refine ⟨trivial, ss ?_⟩
  simp only [wpF, wpS, wpE, wpEs, wpC, wpO, a_nm, asgW, asgsW, wipeD, wk_L, wk_T, wk_1, wk_2, wk_E, wk_Z, wk_ZT, b_add, b_sub, b_fdiv, b_mod, b_mul, b_pow, b_addT, b_addL, b_addS, b_addB, b_subB, t_str, t_strB, c_lt, c_le, c_gt, c_ge, c_eq, c_ne, c_isN, c_isNN, c_inL, c_inT, c_ninL, c_ninT, sl_L, sl_T, sl_S, i_T0, i_T1, i_L0, i_L1, vw_T, vw_L, vw_I, vw_N, vw_B, vw_S, u_b, t_lenL, t_lenT, t_lenS, t_abs, up_S, t_min2, t_max2, t_any, t_all, t_toTL, t_toTT, t_toLT, t_toLL, t_sortL, t_sortT, nw_f, List.length_cons, List.length_nil, List.map_cons, List.map_nil, List.cons_append, List.nil_append, List.replicate, List.set_cons_succ, List.set_cons_zero, List.getElem?_cons_zero, List.getElem?_cons_succ, hv]
  refine ⟨ht, ?_⟩
  by_cases e : isTy "tuple" d = true
  · obtain ⟨ds, rfl⟩ := isTup_of e
    simp only [e, Bool.not_true, Bool.false_eq_true, if_false, wpF, wpS, wpE, wpEs, wpC, wpO, a_nm, asgW, asgsW, wipeD, wk_L, wk_T, wk_1, wk_2, wk_E, wk_Z, wk_ZT, b_add, b_sub, b_fdiv, b_mod, b_mul, b_pow, b_addT, b_addL, b_addS, b_addB, b_subB, t_str, t_strB, c_lt, c_le, c_gt, c_ge, c_eq, c_ne, c_isN, c_isNN, c_inL, c_inT, c_ninL, c_ninT, sl_L, sl_T, sl_S, i_T0, i_T1, i_L0, i_L1, vw_T, vw_L, vw_I, vw_N, vw_B, vw_S, u_b, t_lenL, t_lenT, t_lenS, t_abs, up_S, t_min2, t_max2, t_any, t_all, t_toTL, t_toTT, t_toLT, t_toLL, t_sortL, t_sortT, nw_f, List.length_cons, List.length_nil, List.map_cons, List.map_nil, List.cons_append, List.nil_append, List.replicate, List.set_cons_succ, List.set_cons_zero, List.getElem?_cons_zero, List.getElem?_cons_succ]
    have hh : k (.bl (decide ((ds.length : Int) ≤ most) && ((ds.all fun d => isSt n d) && decide ((stsOf ds).Pairwise ltS)))) μ := h
    by_cases hl : (ds.length : Int) ≤ most
    · rw [decide_eq_true hl, Bool.true_and] at hh
      refine it_f (by rw [decide_eq_false (by omega)]; exact Bool.false_ne_true) ?_
      refine ss0 (G := G) ?_
      refine ss ?_
      simp only [wpF, wpS, wpE, wpEs, wpC, wpO, a_nm, asgW, asgsW, wipeD, wk_L, wk_T, wk_1, wk_2, wk_E, wk_Z, wk_ZT, b_add, b_sub, b_fdiv, b_mod, b_mul, b_pow, b_addT, b_addL, b_addS, b_addB, b_subB, t_str, t_strB, c_lt, c_le, c_gt, c_ge, c_eq, c_ne, c_isN, c_isNN, c_inL, c_inT, c_ninL, c_ninT, sl_L, sl_T, sl_S, i_T0, i_T1, i_L0, i_L1, vw_T, vw_L, vw_I, vw_N, vw_B, vw_S, u_b, t_lenL, t_lenT, t_lenS, t_abs, up_S, t_min2, t_max2, t_any, t_all, t_toTL, t_toTT, t_toLT, t_toLL, t_sortL, t_sortT, nw_f, List.length_cons, List.length_nil, List.map_cons, List.map_nil, List.cons_append, List.nil_append, List.replicate, List.set_cons_succ, List.set_cons_zero, List.getElem?_cons_zero, List.getElem?_cons_succ]
      refine lcW_filtD (fun a => !isSt n a) id trivial ds (fun a ha k2 q => ?_) ?_
      · refine hs n a _ _ _ (okD_up (okDs_in (n := 59) ho a ha)) ?_
        simp only [wpF, wpSs, wpS, wpE, wpEs, wpC, wpO, a_nm, asgW, asgsW, wipeD, wk_L, wk_T, wk_1, wk_2, wk_E, wk_Z, wk_ZT, b_add, b_sub, b_fdiv, b_mod, b_mul, b_pow, b_addT, b_addL, b_addS, b_addB, b_subB, t_str, t_strB, c_lt, c_le, c_gt, c_ge, c_eq, c_ne, c_isN, c_isNN, c_inL, c_inT, c_ninL, c_ninT, sl_L, sl_T, sl_S, i_T0, i_T1, i_L0, i_L1, vw_T, vw_L, vw_I, vw_N, vw_B, vw_S, u_b, t_lenL, t_lenT, t_lenS, t_abs, up_S, t_min2, t_max2, t_any, t_all, t_toTL, t_toTT, t_toLT, t_toLL, t_sortL, t_sortT, nw_f, List.length_cons, List.length_nil, List.map_cons, List.map_nil, List.cons_append, List.nil_append, List.replicate, List.set_cons_succ, List.set_cons_zero, List.getElem?_cons_zero, List.getElem?_cons_succ]
        exact q
      rw [List.map_id]
      simp only [wpF, wpS, wpE, wpEs, wpC, wpO, a_nm, asgW, asgsW, wipeD, wk_L, wk_T, wk_1, wk_2, wk_E, wk_Z, wk_ZT, b_add, b_sub, b_fdiv, b_mod, b_mul, b_pow, b_addT, b_addL, b_addS, b_addB, b_subB, t_str, t_strB, c_lt, c_le, c_gt, c_ge, c_eq, c_ne, c_isN, c_isNN, c_inL, c_inT, c_ninL, c_ninT, sl_L, sl_T, sl_S, i_T0, i_T1, i_L0, i_L1, vw_T, vw_L, vw_I, vw_N, vw_B, vw_S, u_b, t_lenL, t_lenT, t_lenS, t_abs, up_S, t_min2, t_max2, t_any, t_all, t_toTL, t_toTT, t_toLT, t_toLL, t_sortL, t_sortT, nw_f, List.length_cons, List.length_nil, List.map_cons, List.map_nil, List.cons_append, List.nil_append, List.replicate, List.set_cons_succ, List.set_cons_zero, List.getElem?_cons_zero, List.getElem?_cons_succ, eq_nil]
      have okf : okD 60 (.lst (ds.filter fun a => !isSt n a)) = true := okDs_of fun d hd => okDs_in (n := 59) ho d (List.mem_filter.mp hd).1
      refine ⟨by decide, okf, rfl, ?_⟩
      have ef : (ds.filter fun a => !isSt n a).isEmpty = ds.all fun d => isSt n d := by
        rw [Bool.eq_iff_iff, List.isEmpty_iff, List.filter_eq_nil_iff, List.all_eq_true]
        simp
      by_cases c : (ds.all fun d => isSt n d) = true
      · rw [c, Bool.true_and] at hh
        refine it_f (by rw [ef, c]; exact Bool.false_ne_true) ?_
        have es := (sts_all c).1
        have hlen : (stsOf ds).length < 64 := by
          have := congrArg List.length es
          rw [List.length_map] at this
          omega
        refine ss0 (G := G) ?_
        refine ss ?_
        have eT : D.tup ds = .tup ((stsOf ds).map stD) := congrArg D.tup es
        rw [eT]
        simp only [wpF, wpS, wpE, wpEs, wpC, wpO, a_nm, asgW, asgsW, wipeD, wk_L, wk_T, wk_1, wk_2, wk_E, wk_Z, wk_ZT, b_add, b_sub, b_fdiv, b_mod, b_mul, b_pow, b_addT, b_addL, b_addS, b_addB, b_subB, t_str, t_strB, c_lt, c_le, c_gt, c_ge, c_eq, c_ne, c_isN, c_isNN, c_inL, c_inT, c_ninL, c_ninT, sl_L, sl_T, sl_S, i_T0, i_T1, i_L0, i_L1, vw_T, vw_L, vw_I, vw_N, vw_B, vw_S, u_b, t_lenL, t_lenT, t_lenS, t_abs, up_S, t_min2, t_max2, t_any, t_all, t_toTL, t_toTT, t_toLT, t_toLL, t_sortL, t_sortT, nw_f, List.length_cons, List.length_nil, List.map_cons, List.map_nil, List.cons_append, List.nil_append, List.replicate, List.set_cons_succ, List.set_cons_zero, List.getElem?_cons_zero, List.getElem?_cons_succ]
        refine ⟨stLin.srt _, stLin.set _ hlen, fun r nd mem => ?_⟩
        have ee : eqD (.lst ((stsOf ds).map stD)) (.lst (r.mergeSort leD)) = decide ((stsOf ds).Pairwise ltS) := stLin.sset_eq nd mem
        refine ⟨stLin.ok _, stLin.sset_ok nd mem, ?_⟩
        rw [ee]
        exact hh
      · rw [Bool.not_eq_true] at c
        rw [c, Bool.false_and] at hh
        refine it_t (by rw [ef, c]; rfl) ?_
        refine ss ?_
        simp only [wpF, wpS, wpE, wpEs, wpC, wpO, a_nm, asgW, asgsW, wipeD, wk_L, wk_T, wk_1, wk_2, wk_E, wk_Z, wk_ZT, b_add, b_sub, b_fdiv, b_mod, b_mul, b_pow, b_addT, b_addL, b_addS, b_addB, b_subB, t_str, t_strB, c_lt, c_le, c_gt, c_ge, c_eq, c_ne, c_isN, c_isNN, c_inL, c_inT, c_ninL, c_ninT, sl_L, sl_T, sl_S, i_T0, i_T1, i_L0, i_L1, vw_T, vw_L, vw_I, vw_N, vw_B, vw_S, u_b, t_lenL, t_lenT, t_lenS, t_abs, up_S, t_min2, t_max2, t_any, t_all, t_toTL, t_toTT, t_toLT, t_toLL, t_sortL, t_sortT, nw_f, List.length_cons, List.length_nil, List.map_cons, List.map_nil, List.cons_append, List.nil_append, List.replicate, List.set_cons_succ, List.set_cons_zero, List.getElem?_cons_zero, List.getElem?_cons_succ]
        exact hh
    · rw [decide_eq_false hl, Bool.false_and] at hh
      refine it_t (decide_eq_true (by omega)) ?_
      refine ss ?_
      simp only [wpF, wpS, wpE, wpEs, wpC, wpO, a_nm, asgW, asgsW, wipeD, wk_L, wk_T, wk_1, wk_2, wk_E, wk_Z, wk_ZT, b_add, b_sub, b_fdiv, b_mod, b_mul, b_pow, b_addT, b_addL, b_addS, b_addB, b_subB, t_str, t_strB, c_lt, c_le, c_gt, c_ge, c_eq, c_ne, c_isN, c_isNN, c_inL, c_inT, c_ninL, c_ninT, sl_L, sl_T, sl_S, i_T0, i_T1, i_L0, i_L1, vw_T, vw_L, vw_I, vw_N, vw_B, vw_S, u_b, t_lenL, t_lenT, t_lenS, t_abs, up_S, t_min2, t_max2, t_any, t_all, t_toTL, t_toTT, t_toLT, t_toLL, t_sortL, t_sortT, nw_f, List.length_cons, List.length_nil, List.map_cons, List.map_nil, List.cons_append, List.nil_append, List.replicate, List.set_cons_succ, List.set_cons_zero, List.getElem?_cons_zero, List.getElem?_cons_succ]
      exact hh
  · rw [Bool.not_eq_true] at e
    rw [areSt_no e] at h
    rw [e]
    simp only [Bool.not_false, if_true]
    refine ss ?_
    simp only [wpF, wpS, wpE, wpEs, wpC, wpO, a_nm, asgW, asgsW, wipeD, wk_L, wk_T, wk_1, wk_2, wk_E, wk_Z, wk_ZT, b_add, b_sub, b_fdiv, b_mod, b_mul, b_pow, b_addT, b_addL, b_addS, b_addB, b_subB, t_str, t_strB, c_lt, c_le, c_gt, c_ge, c_eq, c_ne, c_isN, c_isNN, c_inL, c_inT, c_ninL, c_ninT, sl_L, sl_T, sl_S, i_T0, i_T1, i_L0, i_L1, vw_T, vw_L, vw_I, vw_N, vw_B, vw_S, u_b, t_lenL, t_lenT, t_lenS, t_abs, up_S, t_min2, t_max2, t_any, t_all, t_toTL, t_toTT, t_toLT, t_toLL, t_sortL, t_sortT, nw_f, List.length_cons, List.length_nil, List.map_cons, List.map_nil, List.cons_append, List.nil_append, List.replicate, List.set_cons_succ, List.set_cons_zero, List.getElem?_cons_zero, List.getElem?_cons_succ]
    exact h
def SpAre (f : String) (m : Int) (G : Glb) : Prop := ∀ (n : Int) (d : D) (μ : Mu) (k : KD) (x : KX), okD 60 d = true → k (.bl (areSt n m d)) μ → G.fn f [.int n, d] μ k x
theorem p_wishes (hg : G.gi "MOST_WISHES" = some 7) (ha : SpAreSt "are_stretches" G) {n : Int} {d : D} (ho : okD 60 d = true) (h : k (.bl (areSt n 7 d)) μ) : wpF G d_are_wishes [.int n, d] μ k x := by
  simp only [d_are_wishes, wpF, wpSs, wpS, wpE, wpEs, wpC, wpO, a_nm, asgW, asgsW, wipeD, wk_L, wk_T, wk_1, wk_2, wk_E, wk_Z, wk_ZT, b_add, b_sub, b_fdiv, b_mod, b_mul, b_pow, b_addT, b_addL, b_addS, b_addB, b_subB, t_str, t_strB, c_lt, c_le, c_gt, c_ge, c_eq, c_ne, c_isN, c_isNN, c_inL, c_inT, c_ninL, c_ninT, sl_L, sl_T, sl_S, i_T0, i_T1, i_L0, i_L1, vw_T, vw_L, vw_I, vw_N, vw_B, vw_S, u_b, t_lenL, t_lenT, t_lenS, t_abs, up_S, t_min2, t_max2, t_any, t_all, t_toTL, t_toTT, t_toLT, t_toLL, t_sortL, t_sortT, nw_f, List.length_cons, List.length_nil, List.map_cons, List.map_nil, List.cons_append, List.nil_append, List.replicate, List.set_cons_succ, List.set_cons_zero, List.getElem?_cons_zero, List.getElem?_cons_succ, hg]
  exact ⟨trivial, ha n 7 d _ _ _ ho (by decide) h⟩
theorem p_stencils (hg : G.gi "MOST_STENCILS" = some 12) (ha : SpAreSt "are_stretches" G) {n : Int} {d : D} (ho : okD 60 d = true) (h : k (.bl (areSt n 12 d)) μ) : wpF G d_are_stencils [.int n, d] μ k x := by
  simp only [d_are_stencils, wpF, wpSs, wpS, wpE, wpEs, wpC, wpO, a_nm, asgW, asgsW, wipeD, wk_L, wk_T, wk_1, wk_2, wk_E, wk_Z, wk_ZT, b_add, b_sub, b_fdiv, b_mod, b_mul, b_pow, b_addT, b_addL, b_addS, b_addB, b_subB, t_str, t_strB, c_lt, c_le, c_gt, c_ge, c_eq, c_ne, c_isN, c_isNN, c_inL, c_inT, c_ninL, c_ninT, sl_L, sl_T, sl_S, i_T0, i_T1, i_L0, i_L1, vw_T, vw_L, vw_I, vw_N, vw_B, vw_S, u_b, t_lenL, t_lenT, t_lenS, t_abs, up_S, t_min2, t_max2, t_any, t_all, t_toTL, t_toTT, t_toLT, t_toLL, t_sortL, t_sortT, nw_f, List.length_cons, List.length_nil, List.map_cons, List.map_nil, List.cons_append, List.nil_append, List.replicate, List.set_cons_succ, List.set_cons_zero, List.getElem?_cons_zero, List.getElem?_cons_succ, hg]
  exact ⟨trivial, ha n 12 d _ _ _ ho (by decide) h⟩
end SR

/-! k01: stretches, wishes, stencils told -/
namespace SR
open PySem L2
variable {G : Glb} {μ : Mu} {k : KD} {x : KX}

def k01_law : Fn where
  N := ["script", "k", "bag", "places", "wide", "some", "thing", "turn", "one", "two", "three", "told", "said", "place"].map Str.ofString
  np := 1
  body := [
    .forE (.nm 1) .rng1 [(.bin .add (.int 1) (.bt .min2 [(.bt .len [(.var 0)]), (.int 30)]))] [
      .asg (.nm 2) (.call "_law_bag" [(.var 0), (.var 1)]),
      .asg (.nm 3) (.bin .add (.int 1) (.call "_law_take" [(.var 2), (.int 10)])),
      .par3 8 9 10 (.call "_law_stretch" [(.var 2), (.var 3)]) (.call "_law_some" [(.var 2), (.var 3), (.int 7)]) (.call "_law_some" [(.var 2), (.var 3), (.int 12)]),
      .asg (.nm 4) (.bt .toTup [(.bt (.sorted false) [(.bin .add (.lc false [13] (.nm 13) .rng1 [(.int 10)] none (.tup [(.int 0), (.var 13)])) (.lc false [13] (.nm 13) .rng2 [(.int 1), (.int 4)] none (.tup [(.int 1), (.var 13)])))])]),
      .asg (.nm 5) (.lst false [(.var 4), (.slc false (.var 4) none (some (.int 12))), (.slc false (.var 4) none (some (.int 8))), (.slc false (.var 4) none (some (.int 7))), (.rev (.var 9)), (.tup [(.int 0), (.var 3)]), (.tup [(.bin .sub (.var 3) (.int 1)), (.bin .sub (.var 3) (.int 1))])]),
      .forE (.nm 6) .seq [(.bin .add (.var 5) (.lst false [(.call "_law_odd" [(.var 2)])]))] [
        .asg (.nm 11) (.lst false [(.call "is_stretch" [(.var 3), (.var 6)]), (.call "are_wishes" [(.var 3), (.var 6)]), (.call "are_stencils" [(.var 3), (.var 6)])]),
        .ife (.or_ (.cmp .ne (.ix (.var 11) (.int 0)) (.call "_law_is_stretch" [(.var 3), (.var 6)])) (.cmp .ne (.ix (.var 11) (.int 1)) (.call "_law_are_some" [(.var 3), (.var 6), (.int 7)]))) [
          .ret (.bl false)] [],
        .ife (.cmp .ne (.ix (.var 11) (.int 2)) (.call "_law_are_some" [(.var 3), (.var 6), (.int 12)])) [
          .ret (.bl false)] []],
      .forE (.nm 7) .rng1 [(.int 6)] [
        .asg (.nm 11) (.lst false [(.call "is_stretch" [(.var 3), (.var 8)]), (.call "are_wishes" [(.var 3), (.var 9)]), (.call "are_stencils" [(.var 3), (.var 10)])]),
        .ife (.cmp .ne (.lc false [12] (.nm 12) .seq [(.var 11)] (some (.nt (.isin (.var 12) "bool"))) (.var 12)) (.lst false [])) [
          .ret (.bl false)] [],
        .ife (.or_ (.cmp .ne (.ix (.var 11) (.int 0)) (.call "_law_is_stretch" [(.var 3), (.var 8)])) (.cmp .ne (.ix (.var 11) (.int 1)) (.call "_law_are_some" [(.var 3), (.var 9), (.int 7)]))) [
          .ret (.bl false)] [],
        .ife (.cmp .ne (.ix (.var 11) (.int 2)) (.call "_law_are_some" [(.var 3), (.var 10), (.int 12)])) [
          .ret (.bl false)] [],
        .asg (.tup [(.nm 8), (.nm 9), (.nm 10)]) (.lc false [6] (.nm 6) .seq [(.lst false [(.var 8), (.var 9), (.var 10)])] none (.call "_law_spoilt" [(.var 2), (.var 6)]))]],
    .ret (.bl true)]

theorem pl_st {n e : Nat} {P : Int} {s : St2} (hP : P ≤ 100) (hs : s ∈ allS P) : pl n (e + 1) (stD s) = true := by
  have := mem_all.mp hs
  refine pl_tup' (by show 2 ≤ _; omega) fun d hd => ?_
  simp only [List.mem_cons, List.not_mem_nil, or_false] at hd
  rcases hd with rfl | rfl <;> rw [pl_int, decide_eq_true_eq] <;> omega
theorem pl_sts {n e : Nat} {P : Int} {l : List St2} (hP : P ≤ 100) (hl : l.length ≤ 57) (hs : ∀ s ∈ l, s ∈ allS P) : pl n (e + 2) (.tup (l.map stD)) = true :=
  pl_tup' (by rw [List.length_map]; omega) fun d hd => by
    obtain ⟨s, h, rfl⟩ := List.mem_map.mp hd
    exact pl_st hP (hs s h)
theorem vw_pl {n e : Nat} {d : D} (h : pl n e d = true) : vw μ d = d := vw_of (pl_okT h)
theorem eq_bl_self (b : Bool) : eqD (.bl b) (.bl b) = true := by cases b <;> rfl
theorem cut_sub {l : List D} {lo hi : Option Int} : (∀ d ∈ cutD l lo hi, d ∈ l) ∧ (cutD l lo hi).length ≤ l.length := by
  unfold cutD
  refine ⟨fun d hd => List.mem_of_mem_drop (List.mem_of_mem_take hd), ?_⟩
  rw [List.length_take, List.length_drop]
  omega
theorem pl_sub {n e : Nat} {l l' : List D} (h : pl n (e + 1) (.tup l) = true) (h1 : ∀ d ∈ l', d ∈ l) (h2 : l'.length ≤ l.length) : pl n (e + 1) (.tup l') = true := by
  rw [pl_tup, Bool.and_eq_true, decide_eq_true_eq] at h
  exact pl_tup' (by omega) fun d hd => pls_iff.mp h.2 d (h1 d hd)
theorem at2 {α : Type} {a b c : α} {r : List α} : atI (a :: b :: c :: r) 2 = some c := atN (l := a :: b :: c :: r) (i := 2) (by simp)
theorem i_L2 {a b c : D} {l : List D} : ixW (.lst (a :: b :: c :: l)) (.int 2) μ k = k c μ := i_L at2
def wideW : List St2 := ((List.range 10).map fun (i : Nat) => ((0 : Int), (i : Int))) ++ (List.range 3).map fun (i : Nat) => ((1 : Int), 1 + (i : Int))
theorem wide_in : ∀ s ∈ wideW, s ∈ allS 100 := fun s hs => by
  unfold wideW at hs
  refine mem_all.mpr ?_
  rcases List.mem_append.mp hs with h | h
  · obtain ⟨i, hi, rfl⟩ := List.mem_map.mp h
    have := List.mem_range.mp hi
    simp only
    omega
  · obtain ⟨i, hi, rfl⟩ := List.mem_map.mp h
    have := List.mem_range.mp hi
    simp only
    omega
theorem p_k01 (hb : SpBag G) (ht : SpTake G) (hso : SpSome G) (hst : SpStretch G) (h1 : SpIsSt "is_stretch" G) (h2 : SpAre "are_wishes" 7 G) (h3 : SpAre "are_stencils" 12 G) (h4 : SpIsSt "_law_is_stretch" G) (h5 : SpAreSt "_law_are_some" G) (hod : SpOdd G) (hsp : ∀ e, e ≤ 20 → SpSpoilt e G) {ns : List Int} (hn : ns.length ≤ 63) : wpF G k01_law [.scr ns] (fun _ => none) (fun d _ => d = .bl true) fun _ _ => False := by
  simp only [wpF, k01_law, wpF, wpE, wpEs, wpC, wpO, a_nm, asgW, asgsW, wipeD, wk_L, wk_T, wk_1, wk_2, wk_E, wk_Z, wk_ZT, b_add, b_sub, b_fdiv, b_mod, b_mul, b_pow, b_addT, b_addL, b_addS, b_addB, b_subB, t_str, t_strB, c_lt, c_le, c_gt, c_ge, c_eq, c_ne, c_isN, c_isNN, c_inL, c_inT, c_ninL, c_ninT, sl_L, sl_T, sl_S, i_T0, i_T1, i_L0, i_L1, vw_T, vw_L, vw_I, vw_N, vw_B, vw_S, u_b, t_lenL, t_lenT, t_lenS, t_abs, up_S, t_min2, t_max2, t_any, t_all, t_toTL, t_toTT, t_toLT, t_toLL, t_sortL, t_sortT, nw_f, List.length_cons, List.length_nil, List.map_cons, List.map_nil, List.cons_append, List.nil_append, List.replicate, List.set_cons_succ, List.set_cons_zero, List.getElem?_cons_zero, List.getElem?_cons_succ]
  refine ⟨trivial, ss ?_⟩
  simp only [wpF, wpS, wpE, wpEs, wpC, wpO, a_nm, asgW, asgsW, wipeD, wk_L, wk_T, wk_1, wk_2, wk_E, wk_Z, wk_ZT, b_add, b_sub, b_fdiv, b_mod, b_mul, b_pow, b_addT, b_addL, b_addS, b_addB, b_subB, t_str, t_strB, c_lt, c_le, c_gt, c_ge, c_eq, c_ne, c_isN, c_isNN, c_inL, c_inT, c_ninL, c_ninT, sl_L, sl_T, sl_S, i_T0, i_T1, i_L0, i_L1, vw_T, vw_L, vw_I, vw_N, vw_B, vw_S, u_b, t_lenL, t_lenT, t_lenS, t_abs, up_S, t_min2, t_max2, t_any, t_all, t_toTL, t_toTT, t_toLT, t_toLL, t_sortL, t_sortT, nw_f, List.length_cons, List.length_nil, List.map_cons, List.map_nil, List.cons_append, List.nil_append, List.replicate, List.set_cons_succ, List.set_cons_zero, List.getElem?_cons_zero, List.getElem?_cons_succ]
  refine ⟨⟨by split <;> omega, by split <;> omega, by unfold sizeLine; split <;> omega⟩, ?_⟩
  refine forW_inv _ (fun i ρ μ' => ∃ v1 v2 v3 v4 v5 v6 v7 v8 v9 v10 v11 v12 v13, ρ = [some (.scr ns), v1, v2, v3, v4, v5, v6, v7, v8, v9, v10, v11, v12, v13]) (fun _ _ _ _ => trivial) (fun i d ρ μ' hi I k2 hk2 => ?_) (fun ρ μ' I => ?_) ⟨_, _, _, _, _, _, _, _, _, _, _, _, _, rfl⟩
  · obtain ⟨v1, v2, v3, v4, v5, v6, v7, v8, v9, v10, v11, v12, v13, rfl⟩ := I
    obtain ⟨kk, hkk, rfl⟩ := map_get hi
    have hki : kk ≤ 63 := by
      obtain ⟨h1, h2⟩ := List.getElem?_eq_some_iff.mp hkk
      rw [List.getElem_range] at h2
      rw [List.length_range] at h1
      split at h1 <;> omega
    refine ss ?_
    simp only [wpF, wpS, wpE, wpEs, wpC, wpO, a_nm, asgW, asgsW, wipeD, wk_L, wk_T, wk_1, wk_2, wk_E, wk_Z, wk_ZT, b_add, b_sub, b_fdiv, b_mod, b_mul, b_pow, b_addT, b_addL, b_addS, b_addB, b_subB, t_str, t_strB, c_lt, c_le, c_gt, c_ge, c_eq, c_ne, c_isN, c_isNN, c_inL, c_inT, c_ninL, c_ninT, sl_L, sl_T, sl_S, i_T0, i_T1, i_L0, i_L1, vw_T, vw_L, vw_I, vw_N, vw_B, vw_S, u_b, t_lenL, t_lenT, t_lenS, t_abs, up_S, t_min2, t_max2, t_any, t_all, t_toTL, t_toTT, t_toLT, t_toLL, t_sortL, t_sortT, nw_f, List.length_cons, List.length_nil, List.map_cons, List.map_nil, List.cons_append, List.nil_append, List.replicate, List.set_cons_succ, List.set_cons_zero, List.getElem?_cons_zero, List.getElem?_cons_succ]
    refine hb ns kk _ _ _ hn hki fun a μ0 _ b0 => ss ?_
    simp only [wpF, wpS, wpE, wpEs, wpC, wpO, a_nm, asgW, asgsW, wipeD, wk_L, wk_T, wk_1, wk_2, wk_E, wk_Z, wk_ZT, b_add, b_sub, b_fdiv, b_mod, b_mul, b_pow, b_addT, b_addL, b_addS, b_addB, b_subB, t_str, t_strB, c_lt, c_le, c_gt, c_ge, c_eq, c_ne, c_isN, c_isNN, c_inL, c_inT, c_ninL, c_ninT, sl_L, sl_T, sl_S, i_T0, i_T1, i_L0, i_L1, vw_T, vw_L, vw_I, vw_N, vw_B, vw_S, u_b, t_lenL, t_lenT, t_lenS, t_abs, up_S, t_min2, t_max2, t_any, t_all, t_toTL, t_toTT, t_toLT, t_toLL, t_sortL, t_sortT, nw_f, List.length_cons, List.length_nil, List.map_cons, List.map_nil, List.cons_append, List.nil_append, List.replicate, List.set_cons_succ, List.set_cons_zero, List.getElem?_cons_zero, List.getElem?_cons_succ]
    refine ht a 10 _ _ _ b0.1 (by decide) (by decide) fun r μ1 r0 r1 b1 => ?_
    simp only [wpF, wpS, wpE, wpEs, wpC, wpO, a_nm, asgW, asgsW, wipeD, wk_L, wk_T, wk_1, wk_2, wk_E, wk_Z, wk_ZT, b_add, b_sub, b_fdiv, b_mod, b_mul, b_pow, b_addT, b_addL, b_addS, b_addB, b_subB, t_str, t_strB, c_lt, c_le, c_gt, c_ge, c_eq, c_ne, c_isN, c_isNN, c_inL, c_inT, c_ninL, c_ninT, sl_L, sl_T, sl_S, i_T0, i_T1, i_L0, i_L1, vw_T, vw_L, vw_I, vw_N, vw_B, vw_S, u_b, t_lenL, t_lenT, t_lenS, t_abs, up_S, t_min2, t_max2, t_any, t_all, t_toTL, t_toTT, t_toLT, t_toLL, t_sortL, t_sortT, nw_f, List.length_cons, List.length_nil, List.map_cons, List.map_nil, List.cons_append, List.nil_append, List.replicate, List.set_cons_succ, List.set_cons_zero, List.getElem?_cons_zero, List.getElem?_cons_succ]
    have hP0 : 0 < 1 + r := by omega
    have hP1 : 1 + r ≤ 10 := by omega
    generalize 1 + r = P at hP0 hP1
    refine ss ?_
    simp only [wpF, wpS, wpE, wpEs, wpC, wpO, a_nm, asgW, asgsW, wipeD, wk_L, wk_T, wk_1, wk_2, wk_E, wk_Z, wk_ZT, b_add, b_sub, b_fdiv, b_mod, b_mul, b_pow, b_addT, b_addL, b_addS, b_addB, b_subB, t_str, t_strB, c_lt, c_le, c_gt, c_ge, c_eq, c_ne, c_isN, c_isNN, c_inL, c_inT, c_ninL, c_ninT, sl_L, sl_T, sl_S, i_T0, i_T1, i_L0, i_L1, vw_T, vw_L, vw_I, vw_N, vw_B, vw_S, u_b, t_lenL, t_lenT, t_lenS, t_abs, up_S, t_min2, t_max2, t_any, t_all, t_toTL, t_toTT, t_toLT, t_toLL, t_sortL, t_sortT, nw_f, List.length_cons, List.length_nil, List.map_cons, List.map_nil, List.cons_append, List.nil_append, List.replicate, List.set_cons_succ, List.set_cons_zero, List.getElem?_cons_zero, List.getElem?_cons_succ]
    refine hst a P _ _ _ b1.1 hP0 (by omega) fun s1 μ2 hs1 b2 => ?_
    refine hso a P 7 _ _ _ b2.1 hP0 (by omega) (by decide) (by decide) fun s2 μ3 hs2 hl2 b3 => ?_
    refine hso a P 12 _ _ _ b3.1 hP0 (by omega) (by decide) (by decide) fun s3 μ4 hs3 hl3 b4 => ?_
    have hl2' : s2.length ≤ 7 := hl2
    have hl3' : s3.length ≤ 12 := hl3
    refine ss ?_
    simp only [wpF, wpS, wpE, wpEs, wpC, wpO, a_nm, asgW, asgsW, wipeD, wk_L, wk_T, wk_1, wk_2, wk_E, wk_Z, wk_ZT, b_add, b_sub, b_fdiv, b_mod, b_mul, b_pow, b_addT, b_addL, b_addS, b_addB, b_subB, t_str, t_strB, c_lt, c_le, c_gt, c_ge, c_eq, c_ne, c_isN, c_isNN, c_inL, c_inT, c_ninL, c_ninT, sl_L, sl_T, sl_S, i_T0, i_T1, i_L0, i_L1, vw_T, vw_L, vw_I, vw_N, vw_B, vw_S, u_b, t_lenL, t_lenT, t_lenS, t_abs, up_S, t_min2, t_max2, t_any, t_all, t_toTL, t_toTT, t_toLT, t_toLL, t_sortL, t_sortT, nw_f, List.length_cons, List.length_nil, List.map_cons, List.map_nil, List.cons_append, List.nil_append, List.replicate, List.set_cons_succ, List.set_cons_zero, List.getElem?_cons_zero, List.getElem?_cons_succ]
    refine ⟨⟨by decide, by decide, by decide⟩, ?_⟩
    refine lcW_each (fun (i : Nat) => D.int (i : Int)) (fun (i : Nat) => stD (0, (i : Int))) trivial (List.range 10) (fun i hi k3 q => ?_) ?_
    · simp only [if_true]
      exact ⟨by decide, q⟩
    refine ⟨⟨by decide, by decide, by decide, by decide, by decide⟩, ?_⟩
    refine lcW_each (fun (i : Nat) => D.int (1 + (i : Int))) (fun (i : Nat) => stD (1, 1 + (i : Int))) trivial (List.range 3) (fun i hi k3 q => ?_) ?_
    · simp only [if_true]
      exact ⟨by decide, q⟩
    refine ⟨by decide, ?_⟩
    have eW : ((List.range 10).map fun (i : Nat) => stD (0, (i : Int))) ++ ((List.range 3).map fun (i : Nat) => stD (1, 1 + (i : Int))) = wideW.map stD := by
      unfold wideW
      rw [List.map_append, List.map_map, List.map_map]
      rfl
    rw [eW, sts_sort]
    refine ⟨sts_sortable _, ?_⟩
    have hwide : pl 0 3 (.tup ((wideW.mergeSort leS).map stD)) = true := pl_sts (e := 1) (P := 100) (by decide) (by rw [List.length_mergeSort]; decide) fun s hs => by
      exact wide_in s (List.mem_mergeSort.mp hs)
    have hone : pl 0 3 (stD s1) = true := pl_st (by omega) hs1
    have htwo : pl 0 3 (.tup (s2.map stD)) = true := pl_sts (e := 1) (by omega) (by omega) hs2.1
    have hthree : pl 0 3 (.tup (s3.map stD)) = true := pl_sts (e := 1) (by omega) (by omega) hs3.1
    generalize (wideW.mergeSort leS).map stD = W at hwide
    refine ss ?_
    simp only [wpF, wpS, wpE, wpEs, wpC, wpO, a_nm, asgW, asgsW, wipeD, wk_L, wk_T, wk_1, wk_2, wk_E, wk_Z, wk_ZT, b_add, b_sub, b_fdiv, b_mod, b_mul, b_pow, b_addT, b_addL, b_addS, b_addB, b_subB, t_str, t_strB, c_lt, c_le, c_gt, c_ge, c_eq, c_ne, c_isN, c_isNN, c_inL, c_inT, c_ninL, c_ninT, sl_L, sl_T, sl_S, i_T0, i_T1, i_L0, i_L1, vw_T, vw_L, vw_I, vw_N, vw_B, vw_S, u_b, t_lenL, t_lenT, t_lenS, t_abs, up_S, t_min2, t_max2, t_any, t_all, t_toTL, t_toTT, t_toLT, t_toLL, t_sortL, t_sortT, nw_f, List.length_cons, List.length_nil, List.map_cons, List.map_nil, List.cons_append, List.nil_append, List.replicate, List.set_cons_succ, List.set_cons_zero, List.getElem?_cons_zero, List.getElem?_cons_succ, stsD]
    refine ⟨by decide, by decide, by decide, ss ?_⟩
    simp only [wpF, wpS, wpE, wpEs, wpC, wpO, a_nm, asgW, asgsW, wipeD, wk_L, wk_T, wk_1, wk_2, wk_E, wk_Z, wk_ZT, b_add, b_sub, b_fdiv, b_mod, b_mul, b_pow, b_addT, b_addL, b_addS, b_addB, b_subB, t_str, t_strB, c_lt, c_le, c_gt, c_ge, c_eq, c_ne, c_isN, c_isNN, c_inL, c_inT, c_ninL, c_ninT, sl_L, sl_T, sl_S, i_T0, i_T1, i_L0, i_L1, vw_T, vw_L, vw_I, vw_N, vw_B, vw_S, u_b, t_lenL, t_lenT, t_lenS, t_abs, up_S, t_min2, t_max2, t_any, t_all, t_toTL, t_toTT, t_toLT, t_toLL, t_sortL, t_sortT, nw_f, List.length_cons, List.length_nil, List.map_cons, List.map_nil, List.cons_append, List.nil_append, List.replicate, List.set_cons_succ, List.set_cons_zero, List.getElem?_cons_zero, List.getElem?_cons_succ]
    refine hod a _ _ _ b4.1 fun od μ5 hod' b5 => ?_
    refine ⟨by decide, by decide, ?_⟩
    generalize hL : ([.tup W, .tup (cutD W none (some 12)), .tup (cutD W none (some 8)), .tup (cutD W none (some 7)), .tup (s2.map stD).reverse, .tup [.int 0, .int P], .tup [.int (P - 1), .int (P - 1)], od] : List D) = L
    have hall : ∀ d ∈ L, pl 0 3 d = true := by
      intro d hd
      rw [← hL] at hd
      simp only [List.mem_cons, List.not_mem_nil, or_false] at hd
      rcases hd with rfl | rfl | rfl | rfl | rfl | rfl | rfl | rfl
      · exact hwide
      · exact pl_sub hwide cut_sub.1 cut_sub.2
      · exact pl_sub hwide cut_sub.1 cut_sub.2
      · exact pl_sub hwide cut_sub.1 cut_sub.2
      · exact pl_sub htwo (fun d hd => List.mem_reverse.mp hd) (by rw [List.length_reverse]; exact Nat.le_refl _)
      · exact pl_ints (ps := [0, P]) (by simp) (by simp; omega)
      · exact pl_ints (ps := [P - 1, P - 1]) (by simp) (by simp; omega)
      · exact hod'
    generalize hL7 : ([.tup W, .tup (cutD W none (some 12)), .tup (cutD W none (some 8)), .tup (cutD W none (some 7)), .tup (s2.map stD).reverse, .tup [.int 0, .int P], .tup [.int (P - 1), .int (P - 1)]] : List D) = L7
    refine forW_inv _ (fun i ρ μ' => ∃ v6 v7 v11 v12 v13, ρ = [some (.scr ns), some (.int (kk : Int)), some (.ref a), some (.int P), some (.tup W), some (.lst L7), v6, v7, some (stD s1), some (.tup (s2.map stD)), some (.tup (s3.map stD)), v11, v12, v13] ∧ BagOk μ' a)
      (fun _ _ _ _ => trivial) (fun i d ρ μ6 hj I k4 hk4 => ?_) (fun ρ μ6 I => ?_) ⟨_, _, _, _, _, rfl, b5.1⟩
    · obtain ⟨v6, v7, v11, v12, v13, rfl, b6⟩ := I
      have hd := hall d (List.mem_of_getElem? hj)
      have ho : okD 60 d = true := pl_ok d (by omega) hd
      refine ss ?_
      simp only [wpF, wpS, wpE, wpEs, wpC, wpO, a_nm, asgW, asgsW, wipeD, wk_L, wk_T, wk_1, wk_2, wk_E, wk_Z, wk_ZT, b_add, b_sub, b_fdiv, b_mod, b_mul, b_pow, b_addT, b_addL, b_addS, b_addB, b_subB, t_str, t_strB, c_lt, c_le, c_gt, c_ge, c_eq, c_ne, c_isN, c_isNN, c_inL, c_inT, c_ninL, c_ninT, sl_L, sl_T, sl_S, i_T0, i_T1, i_L0, i_L1, vw_T, vw_L, vw_I, vw_N, vw_B, vw_S, u_b, t_lenL, t_lenT, t_lenS, t_abs, up_S, t_min2, t_max2, t_any, t_all, t_toTL, t_toTT, t_toLT, t_toLL, t_sortL, t_sortT, nw_f, List.length_cons, List.length_nil, List.map_cons, List.map_nil, List.cons_append, List.nil_append, List.replicate, List.set_cons_succ, List.set_cons_zero, List.getElem?_cons_zero, List.getElem?_cons_succ]
      refine h1 P d _ _ _ ho ?_
      refine h2 P d _ _ _ ho ?_
      refine h3 P d _ _ _ ho ?_
      refine ⟨by decide, ss ?_⟩
      simp only [wpF, wpS, wpE, wpEs, wpC, wpO, a_nm, asgW, asgsW, wipeD, wk_L, wk_T, wk_1, wk_2, wk_E, wk_Z, wk_ZT, b_add, b_sub, b_fdiv, b_mod, b_mul, b_pow, b_addT, b_addL, b_addS, b_addB, b_subB, t_str, t_strB, c_lt, c_le, c_gt, c_ge, c_eq, c_ne, c_isN, c_isNN, c_inL, c_inT, c_ninL, c_ninT, sl_L, sl_T, sl_S, i_T0, i_T1, i_L0, i_L1, vw_T, vw_L, vw_I, vw_N, vw_B, vw_S, u_b, t_lenL, t_lenT, t_lenS, t_abs, up_S, t_min2, t_max2, t_any, t_all, t_toTL, t_toTT, t_toLT, t_toLL, t_sortL, t_sortT, nw_f, List.length_cons, List.length_nil, List.map_cons, List.map_nil, List.cons_append, List.nil_append, List.replicate, List.set_cons_succ, List.set_cons_zero, List.getElem?_cons_zero, List.getElem?_cons_succ]
      refine h4 P d _ _ _ ho ?_
      simp only [wpF, wpS, wpE, wpEs, wpC, wpO, a_nm, asgW, asgsW, wipeD, wk_L, wk_T, wk_1, wk_2, wk_E, wk_Z, wk_ZT, b_add, b_sub, b_fdiv, b_mod, b_mul, b_pow, b_addT, b_addL, b_addS, b_addB, b_subB, t_str, t_strB, c_lt, c_le, c_gt, c_ge, c_eq, c_ne, c_isN, c_isNN, c_inL, c_inT, c_ninL, c_ninT, sl_L, sl_T, sl_S, i_T0, i_T1, i_L0, i_L1, vw_T, vw_L, vw_I, vw_N, vw_B, vw_S, u_b, t_lenL, t_lenT, t_lenS, t_abs, up_S, t_min2, t_max2, t_any, t_all, t_toTL, t_toTT, t_toLT, t_toLL, t_sortL, t_sortT, nw_f, List.length_cons, List.length_nil, List.map_cons, List.map_nil, List.cons_append, List.nil_append, List.replicate, List.set_cons_succ, List.set_cons_zero, List.getElem?_cons_zero, List.getElem?_cons_succ]
      refine ⟨rfl, rfl, ?_⟩
      refine it_f (by rw [eq_bl_self]; exact Bool.false_ne_true) ?_
      refine h5 P 7 d _ _ _ ho (by decide) ?_
      simp only [wpF, wpS, wpE, wpEs, wpC, wpO, a_nm, asgW, asgsW, wipeD, wk_L, wk_T, wk_1, wk_2, wk_E, wk_Z, wk_ZT, b_add, b_sub, b_fdiv, b_mod, b_mul, b_pow, b_addT, b_addL, b_addS, b_addB, b_subB, t_str, t_strB, c_lt, c_le, c_gt, c_ge, c_eq, c_ne, c_isN, c_isNN, c_inL, c_inT, c_ninL, c_ninT, sl_L, sl_T, sl_S, i_T0, i_T1, i_L0, i_L1, vw_T, vw_L, vw_I, vw_N, vw_B, vw_S, u_b, t_lenL, t_lenT, t_lenS, t_abs, up_S, t_min2, t_max2, t_any, t_all, t_toTL, t_toTT, t_toLT, t_toLL, t_sortL, t_sortT, nw_f, List.length_cons, List.length_nil, List.map_cons, List.map_nil, List.cons_append, List.nil_append, List.replicate, List.set_cons_succ, List.set_cons_zero, List.getElem?_cons_zero, List.getElem?_cons_succ]
      refine ⟨rfl, rfl, ?_⟩
      refine it_f (by rw [eq_bl_self]; exact Bool.false_ne_true) ?_
      refine ss0 (G := G) ?_
      refine ss ?_
      simp only [wpF, wpS, wpE, wpEs, wpC, wpO, a_nm, asgW, asgsW, wipeD, wk_L, wk_T, wk_1, wk_2, wk_E, wk_Z, wk_ZT, b_add, b_sub, b_fdiv, b_mod, b_mul, b_pow, b_addT, b_addL, b_addS, b_addB, b_subB, t_str, t_strB, c_lt, c_le, c_gt, c_ge, c_eq, c_ne, c_isN, c_isNN, c_inL, c_inT, c_ninL, c_ninT, sl_L, sl_T, sl_S, i_T0, i_T1, i_L0, i_L1, vw_T, vw_L, vw_I, vw_N, vw_B, vw_S, u_b, t_lenL, t_lenT, t_lenS, t_abs, up_S, t_min2, t_max2, t_any, t_all, t_toTL, t_toTT, t_toLT, t_toLL, t_sortL, t_sortT, nw_f, List.length_cons, List.length_nil, List.map_cons, List.map_nil, List.cons_append, List.nil_append, List.replicate, List.set_cons_succ, List.set_cons_zero, List.getElem?_cons_zero, List.getElem?_cons_succ, i_L2]
      refine h5 P 12 d _ _ _ ho (by decide) ?_
      simp only [wpF, wpS, wpE, wpEs, wpC, wpO, a_nm, asgW, asgsW, wipeD, wk_L, wk_T, wk_1, wk_2, wk_E, wk_Z, wk_ZT, b_add, b_sub, b_fdiv, b_mod, b_mul, b_pow, b_addT, b_addL, b_addS, b_addB, b_subB, t_str, t_strB, c_lt, c_le, c_gt, c_ge, c_eq, c_ne, c_isN, c_isNN, c_inL, c_inT, c_ninL, c_ninT, sl_L, sl_T, sl_S, i_T0, i_T1, i_L0, i_L1, vw_T, vw_L, vw_I, vw_N, vw_B, vw_S, u_b, t_lenL, t_lenT, t_lenS, t_abs, up_S, t_min2, t_max2, t_any, t_all, t_toTL, t_toTT, t_toLT, t_toLL, t_sortL, t_sortT, nw_f, List.length_cons, List.length_nil, List.map_cons, List.map_nil, List.cons_append, List.nil_append, List.replicate, List.set_cons_succ, List.set_cons_zero, List.getElem?_cons_zero, List.getElem?_cons_succ]
      refine ⟨rfl, rfl, ?_⟩
      refine it_f (by rw [eq_bl_self]; exact Bool.false_ne_true) ?_
      refine ss0 (G := G) ?_
      refine ss0 (G := G) ?_
      exact hk4 _ _ ⟨_, _, _, _, _, rfl, b6⟩
    · obtain ⟨v6, v7, v11, v12, v13, rfl, b6⟩ := I
      refine ss ?_
      simp only [wpF, wpS, wpE, wpEs, wpC, wpO, a_nm, asgW, asgsW, wipeD, wk_L, wk_T, wk_1, wk_2, wk_E, wk_Z, wk_ZT, b_add, b_sub, b_fdiv, b_mod, b_mul, b_pow, b_addT, b_addL, b_addS, b_addB, b_subB, t_str, t_strB, c_lt, c_le, c_gt, c_ge, c_eq, c_ne, c_isN, c_isNN, c_inL, c_inT, c_ninL, c_ninT, sl_L, sl_T, sl_S, i_T0, i_T1, i_L0, i_L1, vw_T, vw_L, vw_I, vw_N, vw_B, vw_S, u_b, t_lenL, t_lenT, t_lenS, t_abs, up_S, t_min2, t_max2, t_any, t_all, t_toTL, t_toTT, t_toLT, t_toLL, t_sortL, t_sortT, nw_f, List.length_cons, List.length_nil, List.map_cons, List.map_nil, List.cons_append, List.nil_append, List.replicate, List.set_cons_succ, List.set_cons_zero, List.getElem?_cons_zero, List.getElem?_cons_succ]
      refine ⟨⟨by decide, by decide, by decide⟩, ?_⟩
      refine forW_inv _ (fun i ρ μ' => ∃ v6 v7 d1 d2 d3 v11 v12 v13, ρ = [some (.scr ns), some (.int (kk : Int)), some (.ref a), some (.int P), some (.tup W), some (.lst L7), v6, v7, some d1, some d2, some d3, v11, v12, v13] ∧ BagOk μ' a ∧ pl i (3 + 3 * i) d1 = true ∧ pl i (3 + 3 * i) d2 = true ∧ pl i (3 + 3 * i) d3 = true)
        (fun _ _ _ _ => trivial) (fun i d ρ μ7 hj I k4 hk4 => ?_) (fun ρ μ7 I => ?_) ⟨v6, v7, _, _, _, v11, v12, v13, rfl, b6, hone, htwo, hthree⟩
      · obtain ⟨w6, w7, d1, d2, d3, w11, w12, w13, rfl, b7, p1, p2, p3⟩ := I
        have hi6 : i < 6 := by
          have := (List.getElem?_eq_some_iff.mp hj).1
          rw [List.length_map, List.length_range] at this
          exact this
        have o1 : okD 60 d1 = true := pl_ok d1 (by omega) p1
        have o2 : okD 60 d2 = true := pl_ok d2 (by omega) p2
        have o3 : okD 60 d3 = true := pl_ok d3 (by omega) p3
        have tb : ∀ b, isTy "bool" (.bl b) = true := fun _ => rfl
        refine ss ?_
        simp only [wpF, wpS, wpE, wpEs, wpC, wpO, a_nm, asgW, asgsW, wipeD, wk_L, wk_T, wk_1, wk_2, wk_E, wk_Z, wk_ZT, b_add, b_sub, b_fdiv, b_mod, b_mul, b_pow, b_addT, b_addL, b_addS, b_addB, b_subB, t_str, t_strB, c_lt, c_le, c_gt, c_ge, c_eq, c_ne, c_isN, c_isNN, c_inL, c_inT, c_ninL, c_ninT, sl_L, sl_T, sl_S, i_T0, i_T1, i_L0, i_L1, vw_T, vw_L, vw_I, vw_N, vw_B, vw_S, u_b, t_lenL, t_lenT, t_lenS, t_abs, up_S, t_min2, t_max2, t_any, t_all, t_toTL, t_toTT, t_toLT, t_toLL, t_sortL, t_sortT, nw_f, List.length_cons, List.length_nil, List.map_cons, List.map_nil, List.cons_append, List.nil_append, List.replicate, List.set_cons_succ, List.set_cons_zero, List.getElem?_cons_zero, List.getElem?_cons_succ]
        refine h1 P d1 _ _ _ o1 ?_
        refine h2 P d2 _ _ _ o2 ?_
        refine h3 P d3 _ _ _ o3 ?_
        refine ⟨by decide, ss ?_⟩
        simp only [wpF, wpS, wpE, wpEs, wpC, wpO, a_nm, asgW, asgsW, wipeD, wk_L, wk_T, wk_1, wk_2, wk_E, wk_Z, wk_ZT, b_add, b_sub, b_fdiv, b_mod, b_mul, b_pow, b_addT, b_addL, b_addS, b_addB, b_subB, t_str, t_strB, c_lt, c_le, c_gt, c_ge, c_eq, c_ne, c_isN, c_isNN, c_inL, c_inT, c_ninL, c_ninT, sl_L, sl_T, sl_S, i_T0, i_T1, i_L0, i_L1, vw_T, vw_L, vw_I, vw_N, vw_B, vw_S, u_b, t_lenL, t_lenT, t_lenS, t_abs, up_S, t_min2, t_max2, t_any, t_all, t_toTL, t_toTT, t_toLT, t_toLL, t_sortL, t_sortT, nw_f, List.length_cons, List.length_nil, List.map_cons, List.map_nil, List.cons_append, List.nil_append, List.replicate, List.set_cons_succ, List.set_cons_zero, List.getElem?_cons_zero, List.getElem?_cons_succ, lcW, tb, Bool.not_true, Bool.false_eq_true, if_false]
        refine ⟨trivial, rfl, trivial, rfl, trivial, rfl, trivial, by decide, rfl, rfl, ?_⟩
        refine it_f (by decide) ?_
        refine ss0 (G := G) ?_
        refine ss ?_
        simp only [wpF, wpS, wpE, wpEs, wpC, wpO, a_nm, asgW, asgsW, wipeD, wk_L, wk_T, wk_1, wk_2, wk_E, wk_Z, wk_ZT, b_add, b_sub, b_fdiv, b_mod, b_mul, b_pow, b_addT, b_addL, b_addS, b_addB, b_subB, t_str, t_strB, c_lt, c_le, c_gt, c_ge, c_eq, c_ne, c_isN, c_isNN, c_inL, c_inT, c_ninL, c_ninT, sl_L, sl_T, sl_S, i_T0, i_T1, i_L0, i_L1, vw_T, vw_L, vw_I, vw_N, vw_B, vw_S, u_b, t_lenL, t_lenT, t_lenS, t_abs, up_S, t_min2, t_max2, t_any, t_all, t_toTL, t_toTT, t_toLT, t_toLL, t_sortL, t_sortT, nw_f, List.length_cons, List.length_nil, List.map_cons, List.map_nil, List.cons_append, List.nil_append, List.replicate, List.set_cons_succ, List.set_cons_zero, List.getElem?_cons_zero, List.getElem?_cons_succ]
        refine h4 P d1 _ _ _ o1 ?_
        simp only [wpF, wpS, wpE, wpEs, wpC, wpO, a_nm, asgW, asgsW, wipeD, wk_L, wk_T, wk_1, wk_2, wk_E, wk_Z, wk_ZT, b_add, b_sub, b_fdiv, b_mod, b_mul, b_pow, b_addT, b_addL, b_addS, b_addB, b_subB, t_str, t_strB, c_lt, c_le, c_gt, c_ge, c_eq, c_ne, c_isN, c_isNN, c_inL, c_inT, c_ninL, c_ninT, sl_L, sl_T, sl_S, i_T0, i_T1, i_L0, i_L1, vw_T, vw_L, vw_I, vw_N, vw_B, vw_S, u_b, t_lenL, t_lenT, t_lenS, t_abs, up_S, t_min2, t_max2, t_any, t_all, t_toTL, t_toTT, t_toLT, t_toLL, t_sortL, t_sortT, nw_f, List.length_cons, List.length_nil, List.map_cons, List.map_nil, List.cons_append, List.nil_append, List.replicate, List.set_cons_succ, List.set_cons_zero, List.getElem?_cons_zero, List.getElem?_cons_succ]
        refine ⟨rfl, rfl, ?_⟩
        refine it_f (by rw [eq_bl_self]; exact Bool.false_ne_true) ?_
        refine h5 P 7 d2 _ _ _ o2 (by decide) ?_
        simp only [wpF, wpS, wpE, wpEs, wpC, wpO, a_nm, asgW, asgsW, wipeD, wk_L, wk_T, wk_1, wk_2, wk_E, wk_Z, wk_ZT, b_add, b_sub, b_fdiv, b_mod, b_mul, b_pow, b_addT, b_addL, b_addS, b_addB, b_subB, t_str, t_strB, c_lt, c_le, c_gt, c_ge, c_eq, c_ne, c_isN, c_isNN, c_inL, c_inT, c_ninL, c_ninT, sl_L, sl_T, sl_S, i_T0, i_T1, i_L0, i_L1, vw_T, vw_L, vw_I, vw_N, vw_B, vw_S, u_b, t_lenL, t_lenT, t_lenS, t_abs, up_S, t_min2, t_max2, t_any, t_all, t_toTL, t_toTT, t_toLT, t_toLL, t_sortL, t_sortT, nw_f, List.length_cons, List.length_nil, List.map_cons, List.map_nil, List.cons_append, List.nil_append, List.replicate, List.set_cons_succ, List.set_cons_zero, List.getElem?_cons_zero, List.getElem?_cons_succ]
        refine ⟨rfl, rfl, ?_⟩
        refine it_f (by rw [eq_bl_self]; exact Bool.false_ne_true) ?_
        refine ss0 (G := G) ?_
        refine ss ?_
        simp only [wpF, wpS, wpE, wpEs, wpC, wpO, a_nm, asgW, asgsW, wipeD, wk_L, wk_T, wk_1, wk_2, wk_E, wk_Z, wk_ZT, b_add, b_sub, b_fdiv, b_mod, b_mul, b_pow, b_addT, b_addL, b_addS, b_addB, b_subB, t_str, t_strB, c_lt, c_le, c_gt, c_ge, c_eq, c_ne, c_isN, c_isNN, c_inL, c_inT, c_ninL, c_ninT, sl_L, sl_T, sl_S, i_T0, i_T1, i_L0, i_L1, vw_T, vw_L, vw_I, vw_N, vw_B, vw_S, u_b, t_lenL, t_lenT, t_lenS, t_abs, up_S, t_min2, t_max2, t_any, t_all, t_toTL, t_toTT, t_toLT, t_toLL, t_sortL, t_sortT, nw_f, List.length_cons, List.length_nil, List.map_cons, List.map_nil, List.cons_append, List.nil_append, List.replicate, List.set_cons_succ, List.set_cons_zero, List.getElem?_cons_zero, List.getElem?_cons_succ, i_L2]
        refine h5 P 12 d3 _ _ _ o3 (by decide) ?_
        simp only [wpF, wpS, wpE, wpEs, wpC, wpO, a_nm, asgW, asgsW, wipeD, wk_L, wk_T, wk_1, wk_2, wk_E, wk_Z, wk_ZT, b_add, b_sub, b_fdiv, b_mod, b_mul, b_pow, b_addT, b_addL, b_addS, b_addB, b_subB, t_str, t_strB, c_lt, c_le, c_gt, c_ge, c_eq, c_ne, c_isN, c_isNN, c_inL, c_inT, c_ninL, c_ninT, sl_L, sl_T, sl_S, i_T0, i_T1, i_L0, i_L1, vw_T, vw_L, vw_I, vw_N, vw_B, vw_S, u_b, t_lenL, t_lenT, t_lenS, t_abs, up_S, t_min2, t_max2, t_any, t_all, t_toTL, t_toTT, t_toLT, t_toLL, t_sortL, t_sortT, nw_f, List.length_cons, List.length_nil, List.map_cons, List.map_nil, List.cons_append, List.nil_append, List.replicate, List.set_cons_succ, List.set_cons_zero, List.getElem?_cons_zero, List.getElem?_cons_succ]
        refine ⟨rfl, rfl, ?_⟩
        refine it_f (by rw [eq_bl_self]; exact Bool.false_ne_true) ?_
        refine ss0 (G := G) ?_
        refine ss ?_
        simp only [wpF, wpS, wpE, wpEs, wpC, wpO, a_nm, asgW, asgsW, wipeD, wk_L, wk_T, wk_1, wk_2, wk_E, wk_Z, wk_ZT, b_add, b_sub, b_fdiv, b_mod, b_mul, b_pow, b_addT, b_addL, b_addS, b_addB, b_subB, t_str, t_strB, c_lt, c_le, c_gt, c_ge, c_eq, c_ne, c_isN, c_isNN, c_inL, c_inT, c_ninL, c_ninT, sl_L, sl_T, sl_S, i_T0, i_T1, i_L0, i_L1, vw_T, vw_L, vw_I, vw_N, vw_B, vw_S, u_b, t_lenL, t_lenT, t_lenS, t_abs, up_S, t_min2, t_max2, t_any, t_all, t_toTL, t_toTT, t_toLT, t_toLL, t_sortL, t_sortT, nw_f, List.length_cons, List.length_nil, List.map_cons, List.map_nil, List.cons_append, List.nil_append, List.replicate, List.set_cons_succ, List.set_cons_zero, List.getElem?_cons_zero, List.getElem?_cons_succ, lcW, if_true]
        refine ⟨by decide, trivial, ?_⟩
        refine hsp (3 + 3 * i) (by omega) a d1 i _ _ _ b7 (by omega) p1 fun e1 μ8 q1 b8 => ?_
        refine ⟨trivial, ?_⟩
        refine hsp (3 + 3 * i) (by omega) a d2 i _ _ _ b8.1 (by omega) p2 fun e2 μ9 q2 b9 => ?_
        refine ⟨trivial, ?_⟩
        refine hsp (3 + 3 * i) (by omega) a d3 i _ _ _ b9.1 (by omega) p3 fun e3 μ10 q3 b10 => ?_
        have e33 : 3 + 3 * (i + 1) = 3 + 3 * i + 3 := by omega
        refine ⟨trivial, ?_⟩
        refine ⟨rfl, ?_⟩
        refine ss0 (G := G) ?_
        exact hk4 _ _ ⟨_, _, _, _, _, _, _, _, rfl, b10.1, by rw [e33]; exact q1, by rw [e33]; exact q2, by rw [e33]; exact q3⟩
      · obtain ⟨w6, w7, d1, d2, d3, w11, w12, w13, rfl, b7, p1, p2, p3⟩ := I
        refine ss0 (G := G) ?_
        exact hk2 _ _ ⟨_, _, _, _, _, _, _, _, _, _, _, _, _, rfl⟩
  · obtain ⟨v1, v2, v3, v4, v5, v6, v7, v8, v9, v10, v11, v12, v13, rfl⟩ := I
    refine ss ?_
    simp only [wpF, wpS, wpE, wpEs, wpC, wpO, a_nm, asgW, asgsW, wipeD, wk_L, wk_T, wk_1, wk_2, wk_E, wk_Z, wk_ZT, b_add, b_sub, b_fdiv, b_mod, b_mul, b_pow, b_addT, b_addL, b_addS, b_addB, b_subB, t_str, t_strB, c_lt, c_le, c_gt, c_ge, c_eq, c_ne, c_isN, c_isNN, c_inL, c_inT, c_ninL, c_ninT, sl_L, sl_T, sl_S, i_T0, i_T1, i_L0, i_L1, vw_T, vw_L, vw_I, vw_N, vw_B, vw_S, u_b, t_lenL, t_lenT, t_lenS, t_abs, up_S, t_min2, t_max2, t_any, t_all, t_toTL, t_toTT, t_toLT, t_toLL, t_sortL, t_sortT, nw_f, List.length_cons, List.length_nil, List.map_cons, List.map_nil, List.cons_append, List.nil_append, List.replicate, List.set_cons_succ, List.set_cons_zero, List.getElem?_cons_zero, List.getElem?_cons_succ]
end SR

namespace SR.K01
open PySem PySem.Spec PyProof.Rows L2 RZ SR
def top (i : Nat) : Stmt := PySem.Challenge.pw_stencilrow_k01_stretches_wishes_stencils.main.body.getD i (.Pass ⟨0, 0, 0, 0⟩)
abbrev s3 : Stmt := top 3
abbrev s4 : Stmt := top 4
abbrev s5 : Stmt := top 5
abbrev s6 : Stmt := top 6
abbrev s7 : Stmt := top 7
abbrev s8 : Stmt := top 8
abbrev s10 : Stmt := top 10
abbrev s11 : Stmt := top 11
abbrev s12 : Stmt := top 12
abbrev s13 : Stmt := top 13
abbrev s14 : Stmt := top 14
abbrev s15 : Stmt := top 15
abbrev s16 : Stmt := top 16
abbrev s17 : Stmt := top 17
abbrev s18 : Stmt := top 18
abbrev s19 : Stmt := top 19
def T : List Def := [⟨"is_within", s3, d_is_within⟩, ⟨"are_rising", s4, d_are_rising⟩, ⟨"is_stretch", s5, d_is_stretch⟩, ⟨"are_stretches", s6, d_are_stretches⟩, ⟨"are_wishes", s7, d_are_wishes⟩, ⟨"are_stencils", s8, d_are_stencils⟩, ⟨"_law_bag", s10, dl_bag⟩, ⟨"_law_take", s11, dl_take⟩, ⟨"_law_within", s12, dl_within⟩, ⟨"_law_spoilt", s13, dl_spoilt⟩, ⟨"_law_odd", s14, dl_odd⟩, ⟨"_law_stretch", s15, dl_stretch⟩, ⟨"_law_some", s16, dl_some⟩, ⟨"_law_are_some", s17, dl_are_some⟩, ⟨"_law_is_stretch", s18, dl_is_stretch⟩, ⟨"law", s19, k01_law⟩]
def gi : String → Option Int := fun n => if n = "MOST_WISHES" then some 7 else if n = "MOST_STENCILS" then some 12 else none
abbrev gs : List String := ["MOST_WISHES", "MOST_STENCILS"]
theorem okT : (T.all fun d => d.ok (T.map (·.name)) gs) = true := by decide +kernel
theorem gs_mk {K : PySem.W.Frag} {t0 t1 : Tok} (y0 : PySem.W.nsIn K mainGlobals "MOST_WISHES" = some (some (.int 7 t0))) (y1 : PySem.W.nsIn K mainGlobals "MOST_STENCILS" = some (some (.int 12 t1))) : ∀ n ∈ gs, ∃ i t, gi n = some i ∧ PySem.W.nsIn K mainGlobals (Str.ofString n) = some (some (.int i t)) := (fa_cons ⟨7, t0, rfl, y0⟩ (fa_cons ⟨12, t1, rfl, y1⟩ fa_nil))
theorem b3 : Bound ⟨"is_within", s3, d_is_within⟩ := fun kV doc pm an cdv ct us (hl : us.length = 3) => match us, hl with | [_, _, _], _ => rfl
theorem b4 : Bound ⟨"are_rising", s4, d_are_rising⟩ := fun kV doc pm an cdv ct us (hl : us.length = 1) => match us, hl with | [_], _ => rfl
theorem b5 : Bound ⟨"is_stretch", s5, d_is_stretch⟩ := fun kV doc pm an cdv ct us (hl : us.length = 2) => match us, hl with | [_, _], _ => rfl
theorem b6 : Bound ⟨"are_stretches", s6, d_are_stretches⟩ := fun kV doc pm an cdv ct us (hl : us.length = 3) => match us, hl with | [_, _, _], _ => rfl
theorem b7 : Bound ⟨"are_wishes", s7, d_are_wishes⟩ := fun kV doc pm an cdv ct us (hl : us.length = 2) => match us, hl with | [_, _], _ => rfl
theorem b8 : Bound ⟨"are_stencils", s8, d_are_stencils⟩ := fun kV doc pm an cdv ct us (hl : us.length = 2) => match us, hl with | [_, _], _ => rfl
theorem b10 : Bound ⟨"_law_bag", s10, dl_bag⟩ := fun kV doc pm an cdv ct us (hl : us.length = 2) => match us, hl with | [_, _], _ => rfl
theorem b11 : Bound ⟨"_law_take", s11, dl_take⟩ := fun kV doc pm an cdv ct us (hl : us.length = 2) => match us, hl with | [_, _], _ => rfl
theorem b12 : Bound ⟨"_law_within", s12, dl_within⟩ := fun kV doc pm an cdv ct us (hl : us.length = 3) => match us, hl with | [_, _, _], _ => rfl
theorem b13 : Bound ⟨"_law_spoilt", s13, dl_spoilt⟩ := fun kV doc pm an cdv ct us (hl : us.length = 2) => match us, hl with | [_, _], _ => rfl
theorem b14 : Bound ⟨"_law_odd", s14, dl_odd⟩ := fun kV doc pm an cdv ct us (hl : us.length = 1) => match us, hl with | [_], _ => rfl
theorem b15 : Bound ⟨"_law_stretch", s15, dl_stretch⟩ := fun kV doc pm an cdv ct us (hl : us.length = 2) => match us, hl with | [_, _], _ => rfl
theorem b16 : Bound ⟨"_law_some", s16, dl_some⟩ := fun kV doc pm an cdv ct us (hl : us.length = 3) => match us, hl with | [_, _, _], _ => rfl
theorem b17 : Bound ⟨"_law_are_some", s17, dl_are_some⟩ := fun kV doc pm an cdv ct us (hl : us.length = 3) => match us, hl with | [_, _, _], _ => rfl
theorem b18 : Bound ⟨"_law_is_stretch", s18, dl_is_stretch⟩ := fun kV doc pm an cdv ct us (hl : us.length = 2) => match us, hl with | [_, _], _ => rfl
theorem b19 : Bound ⟨"law", s19, k01_law⟩ := fun kV doc pm an cdv ct us (hl : us.length = 1) => match us, hl with | [_], _ => rfl
theorem bd : ∀ d ∈ T, Bound d := (fa_cons b3 (fa_cons b4 (fa_cons b5 (fa_cons b6 (fa_cons b7 (fa_cons b8 (fa_cons b10 (fa_cons b11 (fa_cons b12 (fa_cons b13 (fa_cons b14 (fa_cons b15 (fa_cons b16 (fa_cons b17 (fa_cons b18 (fa_cons b19 fa_nil))))))))))))))))
theorem st_mk {K : PySem.W.Frag} {f3 f4 f5 f6 f7 f8 f10 f11 f12 f13 f14 f15 f16 f17 f18 f19 : Addr} {od3 an3 od4 an4 od5 an5 od6 an6 od7 an7 od8 an8 od10 an10 od11 an11 od12 an12 od13 an13 od14 an14 od15 an15 od16 an16 od17 an17 od18 an18 od19 an19 : Option Addr} {sl3 sl4 sl5 sl6 sl7 sl8 sl10 sl11 sl12 sl13 sl14 sl15 sl16 sl17 sl18 sl19 : Array (Option Value)} {oc3 kV3 dc3 pm3 cd3 ct3 oc4 kV4 dc4 pm4 cd4 ct4 oc5 kV5 dc5 pm5 cd5 ct5 oc6 kV6 dc6 pm6 cd6 ct6 oc7 kV7 dc7 pm7 cd7 ct7 oc8 kV8 dc8 pm8 cd8 ct8 oc10 kV10 dc10 pm10 cd10 ct10 oc11 kV11 dc11 pm11 cd11 ct11 oc12 kV12 dc12 pm12 cd12 ct12 oc13 kV13 dc13 pm13 cd13 ct13 oc14 kV14 dc14 pm14 cd14 ct14 oc15 kV15 dc15 pm15 cd15 ct15 oc16 kV16 dc16 pm16 cd16 ct16 oc17 kV17 dc17 pm17 cd17 ct17 oc18 kV18 dc18 pm18 cd18 ct18 oc19 kV19 dc19 pm19 cd19 ct19 : Value}
    (a3 : PySem.W.nsIn K mainGlobals "is_within" = some (some (.ref f3)))
    (l3 : K.lookup f3 = some ⟨oc3, od3, .func (PySem.W.fnOf "is_within" "is_within" (defArgs s3) (defBody s3) (defScope s3) .none kV3 dc3 pm3 an3 cd3 ct3), sl3⟩)
    (c3 : PySem.W.codeIn K cd3 "is_within" = true) (k3 : PySem.W.keepIn K (.ref f3) = true)
    (a4 : PySem.W.nsIn K mainGlobals "are_rising" = some (some (.ref f4)))
    (l4 : K.lookup f4 = some ⟨oc4, od4, .func (PySem.W.fnOf "are_rising" "are_rising" (defArgs s4) (defBody s4) (defScope s4) .none kV4 dc4 pm4 an4 cd4 ct4), sl4⟩)
    (c4 : PySem.W.codeIn K cd4 "are_rising" = true) (k4 : PySem.W.keepIn K (.ref f4) = true)
    (a5 : PySem.W.nsIn K mainGlobals "is_stretch" = some (some (.ref f5)))
    (l5 : K.lookup f5 = some ⟨oc5, od5, .func (PySem.W.fnOf "is_stretch" "is_stretch" (defArgs s5) (defBody s5) (defScope s5) .none kV5 dc5 pm5 an5 cd5 ct5), sl5⟩)
    (c5 : PySem.W.codeIn K cd5 "is_stretch" = true) (k5 : PySem.W.keepIn K (.ref f5) = true)
    (a6 : PySem.W.nsIn K mainGlobals "are_stretches" = some (some (.ref f6)))
    (l6 : K.lookup f6 = some ⟨oc6, od6, .func (PySem.W.fnOf "are_stretches" "are_stretches" (defArgs s6) (defBody s6) (defScope s6) .none kV6 dc6 pm6 an6 cd6 ct6), sl6⟩)
    (c6 : PySem.W.codeIn K cd6 "are_stretches" = true) (k6 : PySem.W.keepIn K (.ref f6) = true)
    (a7 : PySem.W.nsIn K mainGlobals "are_wishes" = some (some (.ref f7)))
    (l7 : K.lookup f7 = some ⟨oc7, od7, .func (PySem.W.fnOf "are_wishes" "are_wishes" (defArgs s7) (defBody s7) (defScope s7) .none kV7 dc7 pm7 an7 cd7 ct7), sl7⟩)
    (c7 : PySem.W.codeIn K cd7 "are_wishes" = true) (k7 : PySem.W.keepIn K (.ref f7) = true)
    (a8 : PySem.W.nsIn K mainGlobals "are_stencils" = some (some (.ref f8)))
    (l8 : K.lookup f8 = some ⟨oc8, od8, .func (PySem.W.fnOf "are_stencils" "are_stencils" (defArgs s8) (defBody s8) (defScope s8) .none kV8 dc8 pm8 an8 cd8 ct8), sl8⟩)
    (c8 : PySem.W.codeIn K cd8 "are_stencils" = true) (k8 : PySem.W.keepIn K (.ref f8) = true)
    (a10 : PySem.W.nsIn K mainGlobals "_law_bag" = some (some (.ref f10)))
    (l10 : K.lookup f10 = some ⟨oc10, od10, .func (PySem.W.fnOf "_law_bag" "_law_bag" (defArgs s10) (defBody s10) (defScope s10) .none kV10 dc10 pm10 an10 cd10 ct10), sl10⟩)
    (c10 : PySem.W.codeIn K cd10 "_law_bag" = true) (k10 : PySem.W.keepIn K (.ref f10) = true)
    (a11 : PySem.W.nsIn K mainGlobals "_law_take" = some (some (.ref f11)))
    (l11 : K.lookup f11 = some ⟨oc11, od11, .func (PySem.W.fnOf "_law_take" "_law_take" (defArgs s11) (defBody s11) (defScope s11) .none kV11 dc11 pm11 an11 cd11 ct11), sl11⟩)
    (c11 : PySem.W.codeIn K cd11 "_law_take" = true) (k11 : PySem.W.keepIn K (.ref f11) = true)
    (a12 : PySem.W.nsIn K mainGlobals "_law_within" = some (some (.ref f12)))
    (l12 : K.lookup f12 = some ⟨oc12, od12, .func (PySem.W.fnOf "_law_within" "_law_within" (defArgs s12) (defBody s12) (defScope s12) .none kV12 dc12 pm12 an12 cd12 ct12), sl12⟩)
    (c12 : PySem.W.codeIn K cd12 "_law_within" = true) (k12 : PySem.W.keepIn K (.ref f12) = true)
    (a13 : PySem.W.nsIn K mainGlobals "_law_spoilt" = some (some (.ref f13)))
    (l13 : K.lookup f13 = some ⟨oc13, od13, .func (PySem.W.fnOf "_law_spoilt" "_law_spoilt" (defArgs s13) (defBody s13) (defScope s13) .none kV13 dc13 pm13 an13 cd13 ct13), sl13⟩)
    (c13 : PySem.W.codeIn K cd13 "_law_spoilt" = true) (k13 : PySem.W.keepIn K (.ref f13) = true)
    (a14 : PySem.W.nsIn K mainGlobals "_law_odd" = some (some (.ref f14)))
    (l14 : K.lookup f14 = some ⟨oc14, od14, .func (PySem.W.fnOf "_law_odd" "_law_odd" (defArgs s14) (defBody s14) (defScope s14) .none kV14 dc14 pm14 an14 cd14 ct14), sl14⟩)
    (c14 : PySem.W.codeIn K cd14 "_law_odd" = true) (k14 : PySem.W.keepIn K (.ref f14) = true)
    (a15 : PySem.W.nsIn K mainGlobals "_law_stretch" = some (some (.ref f15)))
    (l15 : K.lookup f15 = some ⟨oc15, od15, .func (PySem.W.fnOf "_law_stretch" "_law_stretch" (defArgs s15) (defBody s15) (defScope s15) .none kV15 dc15 pm15 an15 cd15 ct15), sl15⟩)
    (c15 : PySem.W.codeIn K cd15 "_law_stretch" = true) (k15 : PySem.W.keepIn K (.ref f15) = true)
    (a16 : PySem.W.nsIn K mainGlobals "_law_some" = some (some (.ref f16)))
    (l16 : K.lookup f16 = some ⟨oc16, od16, .func (PySem.W.fnOf "_law_some" "_law_some" (defArgs s16) (defBody s16) (defScope s16) .none kV16 dc16 pm16 an16 cd16 ct16), sl16⟩)
    (c16 : PySem.W.codeIn K cd16 "_law_some" = true) (k16 : PySem.W.keepIn K (.ref f16) = true)
    (a17 : PySem.W.nsIn K mainGlobals "_law_are_some" = some (some (.ref f17)))
    (l17 : K.lookup f17 = some ⟨oc17, od17, .func (PySem.W.fnOf "_law_are_some" "_law_are_some" (defArgs s17) (defBody s17) (defScope s17) .none kV17 dc17 pm17 an17 cd17 ct17), sl17⟩)
    (c17 : PySem.W.codeIn K cd17 "_law_are_some" = true) (k17 : PySem.W.keepIn K (.ref f17) = true)
    (a18 : PySem.W.nsIn K mainGlobals "_law_is_stretch" = some (some (.ref f18)))
    (l18 : K.lookup f18 = some ⟨oc18, od18, .func (PySem.W.fnOf "_law_is_stretch" "_law_is_stretch" (defArgs s18) (defBody s18) (defScope s18) .none kV18 dc18 pm18 an18 cd18 ct18), sl18⟩)
    (c18 : PySem.W.codeIn K cd18 "_law_is_stretch" = true) (k18 : PySem.W.keepIn K (.ref f18) = true)
    (a19 : PySem.W.nsIn K mainGlobals "law" = some (some (.ref f19)))
    (l19 : K.lookup f19 = some ⟨oc19, od19, .func (PySem.W.fnOf "law" "law" (defArgs s19) (defBody s19) (defScope s19) .none kV19 dc19 pm19 an19 cd19 ct19), sl19⟩)
    (c19 : PySem.W.codeIn K cd19 "law" = true) (k19 : PySem.W.keepIn K (.ref f19) = true) : ∀ d ∈ T, Stands K d := (fa_cons ⟨f3, oc3, od3, an3, kV3, dc3, pm3, cd3, ct3, sl3, a3, l3, c3, k3⟩ (fa_cons ⟨f4, oc4, od4, an4, kV4, dc4, pm4, cd4, ct4, sl4, a4, l4, c4, k4⟩ (fa_cons ⟨f5, oc5, od5, an5, kV5, dc5, pm5, cd5, ct5, sl5, a5, l5, c5, k5⟩ (fa_cons ⟨f6, oc6, od6, an6, kV6, dc6, pm6, cd6, ct6, sl6, a6, l6, c6, k6⟩ (fa_cons ⟨f7, oc7, od7, an7, kV7, dc7, pm7, cd7, ct7, sl7, a7, l7, c7, k7⟩ (fa_cons ⟨f8, oc8, od8, an8, kV8, dc8, pm8, cd8, ct8, sl8, a8, l8, c8, k8⟩ (fa_cons ⟨f10, oc10, od10, an10, kV10, dc10, pm10, cd10, ct10, sl10, a10, l10, c10, k10⟩ (fa_cons ⟨f11, oc11, od11, an11, kV11, dc11, pm11, cd11, ct11, sl11, a11, l11, c11, k11⟩ (fa_cons ⟨f12, oc12, od12, an12, kV12, dc12, pm12, cd12, ct12, sl12, a12, l12, c12, k12⟩ (fa_cons ⟨f13, oc13, od13, an13, kV13, dc13, pm13, cd13, ct13, sl13, a13, l13, c13, k13⟩ (fa_cons ⟨f14, oc14, od14, an14, kV14, dc14, pm14, cd14, ct14, sl14, a14, l14, c14, k14⟩ (fa_cons ⟨f15, oc15, od15, an15, kV15, dc15, pm15, cd15, ct15, sl15, a15, l15, c15, k15⟩ (fa_cons ⟨f16, oc16, od16, an16, kV16, dc16, pm16, cd16, ct16, sl16, a16, l16, c16, k16⟩ (fa_cons ⟨f17, oc17, od17, an17, kV17, dc17, pm17, cd17, ct17, sl17, a17, l17, c17, k17⟩ (fa_cons ⟨f18, oc18, od18, an18, kV18, dc18, pm18, cd18, ct18, sl18, a18, l18, c18, k18⟩ (fa_cons ⟨f19, oc19, od19, an19, kV19, dc19, pm19, cd19, ct19, sl19, a19, l19, c19, k19⟩ fa_nil))))))))))))))))
theorem bl_mk {K : PySem.W.Frag} (z0 : PySem.W.nsIn K mainGlobals "len" = some none) (z1 : PySem.W.nsIn K mainGlobals "abs" = some none) (z2 : PySem.W.nsIn K mainGlobals "min" = some none) (z3 : PySem.W.nsIn K mainGlobals "max" = some none) (z4 : PySem.W.nsIn K mainGlobals "all" = some none) (z5 : PySem.W.nsIn K mainGlobals "any" = some none) (z6 : PySem.W.nsIn K mainGlobals "sum" = some none) (z7 : PySem.W.nsIn K mainGlobals "list" = some none) (z8 : PySem.W.nsIn K mainGlobals "tuple" = some none) (z9 : PySem.W.nsIn K mainGlobals "sorted" = some none) (z10 : PySem.W.nsIn K mainGlobals "str" = some none) (z11 : PySem.W.nsIn K mainGlobals "isinstance" = some none) (z12 : PySem.W.nsIn K mainGlobals "range" = some none) (z13 : PySem.W.nsIn K mainGlobals "enumerate" = some none) (z14 : PySem.W.nsIn K mainGlobals "zip" = some none) (z15 : PySem.W.nsIn K mainGlobals "set" = some none) (z16 : PySem.W.nsIn K mainGlobals "int" = some none) (z17 : PySem.W.nsIn K mainGlobals "bool" = some none) : ∀ n ∈ bltNames, PySem.W.nsIn K mainGlobals (Str.ofString n) = some none := (fa_cons z0 (fa_cons z1 (fa_cons z2 (fa_cons z3 (fa_cons z4 (fa_cons z5 (fa_cons z6 (fa_cons z7 (fa_cons z8 (fa_cons z9 (fa_cons z10 (fa_cons z11 (fa_cons z12 (fa_cons z13 (fa_cons z14 (fa_cons z15 (fa_cons z16 (fa_cons z17 fa_nil))))))))))))))))))
abbrev Gn (n : Nat) : Glb := GL T gi n
theorem g_is_within {n : Nat} {ds : List D} {μ : Mu} {k : KD} {x : KX} (h : wpF (Gn n) d_is_within ds μ k x) : (Gn (n + 1)).fn "is_within" ds μ k x := h
theorem g_are_rising {n : Nat} {ds : List D} {μ : Mu} {k : KD} {x : KX} (h : wpF (Gn n) d_are_rising ds μ k x) : (Gn (n + 1)).fn "are_rising" ds μ k x := h
theorem g_is_stretch {n : Nat} {ds : List D} {μ : Mu} {k : KD} {x : KX} (h : wpF (Gn n) d_is_stretch ds μ k x) : (Gn (n + 1)).fn "is_stretch" ds μ k x := h
theorem g_are_stretches {n : Nat} {ds : List D} {μ : Mu} {k : KD} {x : KX} (h : wpF (Gn n) d_are_stretches ds μ k x) : (Gn (n + 1)).fn "are_stretches" ds μ k x := h
theorem g_are_wishes {n : Nat} {ds : List D} {μ : Mu} {k : KD} {x : KX} (h : wpF (Gn n) d_are_wishes ds μ k x) : (Gn (n + 1)).fn "are_wishes" ds μ k x := h
theorem g_are_stencils {n : Nat} {ds : List D} {μ : Mu} {k : KD} {x : KX} (h : wpF (Gn n) d_are_stencils ds μ k x) : (Gn (n + 1)).fn "are_stencils" ds μ k x := h
theorem g_law_bag {n : Nat} {ds : List D} {μ : Mu} {k : KD} {x : KX} (h : wpF (Gn n) dl_bag ds μ k x) : (Gn (n + 1)).fn "_law_bag" ds μ k x := h
theorem g_law_take {n : Nat} {ds : List D} {μ : Mu} {k : KD} {x : KX} (h : wpF (Gn n) dl_take ds μ k x) : (Gn (n + 1)).fn "_law_take" ds μ k x := h
theorem g_law_within {n : Nat} {ds : List D} {μ : Mu} {k : KD} {x : KX} (h : wpF (Gn n) dl_within ds μ k x) : (Gn (n + 1)).fn "_law_within" ds μ k x := h
theorem g_law_spoilt {n : Nat} {ds : List D} {μ : Mu} {k : KD} {x : KX} (h : wpF (Gn n) dl_spoilt ds μ k x) : (Gn (n + 1)).fn "_law_spoilt" ds μ k x := h
theorem g_law_odd {n : Nat} {ds : List D} {μ : Mu} {k : KD} {x : KX} (h : wpF (Gn n) dl_odd ds μ k x) : (Gn (n + 1)).fn "_law_odd" ds μ k x := h
theorem g_law_stretch {n : Nat} {ds : List D} {μ : Mu} {k : KD} {x : KX} (h : wpF (Gn n) dl_stretch ds μ k x) : (Gn (n + 1)).fn "_law_stretch" ds μ k x := h
theorem g_law_some {n : Nat} {ds : List D} {μ : Mu} {k : KD} {x : KX} (h : wpF (Gn n) dl_some ds μ k x) : (Gn (n + 1)).fn "_law_some" ds μ k x := h
theorem g_law_are_some {n : Nat} {ds : List D} {μ : Mu} {k : KD} {x : KX} (h : wpF (Gn n) dl_are_some ds μ k x) : (Gn (n + 1)).fn "_law_are_some" ds μ k x := h
theorem g_law_is_stretch {n : Nat} {ds : List D} {μ : Mu} {k : KD} {x : KX} (h : wpF (Gn n) dl_is_stretch ds μ k x) : (Gn (n + 1)).fn "_law_is_stretch" ds μ k x := h
theorem g_law {n : Nat} {ds : List D} {μ : Mu} {k : KD} {x : KX} (h : wpF (Gn n) k01_law ds μ k x) : (Gn (n + 1)).fn "law" ds μ k x := h

theorem tBag {n : Nat} : SpBag (Gn (n + 1)) := fun ns i μ k x h0 h1 h => g_law_bag (p_bag h0 h1 h)
theorem tTake {n : Nat} : SpTake (Gn (n + 1)) := fun a m μ k x h0 h1 h2 h => g_law_take (p_take h0 h1 h2 h)
theorem tStretch {n : Nat} : SpStretch (Gn (n + 2)) := fun a m μ k x h0 h1 h2 h => g_law_stretch (p_stretch tTake h0 h1 h2 h)
theorem tSome {n : Nat} : SpSome (Gn (n + 3)) := fun a m q μ k x h0 h1 h2 h3 h4 h => g_law_some (p_some tTake tStretch h0 h1 h2 h3 h4 h)
theorem tIsW {n : Nat} : SpIsW "is_within" (Gn (n + 1)) := fun d lo hi μ k x h0 h => g_is_within (p_isw (.inl rfl) h0 h)
theorem tLIsW {n : Nat} : SpIsW "_law_within" (Gn (n + 1)) := fun d lo hi μ k x h0 h => g_law_within (p_isw (.inr rfl) h0 h)
theorem tRis {n : Nat} : SpRis stD ltS (Gn (n + 1)) := fun l μ k x h => g_are_rising (p_rising stLin h)
theorem tIsSt {n : Nat} : SpIsSt "is_stretch" (Gn (n + 2)) := fun m d μ k x h0 h => g_is_stretch (p_isst tIsW h0 h)
theorem tLIsSt {n : Nat} : SpIsSt "_law_is_stretch" (Gn (n + 2)) := fun m d μ k x h0 h => g_law_is_stretch (p_lisst tLIsW h0 h)
theorem tAreSt {n : Nat} : SpAreSt "are_stretches" (Gn (n + 3)) := fun m q d μ k x h0 h1 h => g_are_stretches (p_arest tIsSt tRis h0 h)
theorem tWishes {n : Nat} : SpAre "are_wishes" 7 (Gn (n + 4)) := fun m d μ k x h0 h => g_are_wishes (p_wishes (by rw [GL_gi]; rfl) tAreSt h0 h)
theorem tStencils {n : Nat} : SpAre "are_stencils" 12 (Gn (n + 4)) := fun m d μ k x h0 h => g_are_stencils (p_stencils (by rw [GL_gi]; rfl) tAreSt h0 h)
theorem tLAre {n : Nat} : SpAreSt "_law_are_some" (Gn (n + 3)) := fun m q d μ k x h0 h1 h => g_law_are_some (p_laresome tLIsSt h0 h1 h)
theorem tOdd {n : Nat} : SpOdd (Gn (n + 2)) := fun a μ k x h0 h => g_law_odd (p_odd tTake h0 h)
theorem tSpoilt : ∀ (e n : Nat), SpSpoilt e (Gn (n + e + 3))
  | 0, n => fun a d m μ k x h0 h1 h2 h => g_law_spoilt (p_spoilt tTake tOdd (fun f hf => absurd hf (by omega)) h0 h1 h2 h)
  | e + 1, n => fun a d m μ k x h0 h1 h2 h => g_law_spoilt (p_spoilt tTake tOdd (fun f hf => by cases hf; exact tSpoilt e n) h0 h1 h2 h)
theorem tSpoilt25 {n e : Nat} (h : e ≤ 20) : SpSpoilt e (Gn (n + 25)) := by
  have q : n + 25 = (n + 22 - e) + e + 3 := by omega
  rw [q]
  exact tSpoilt e _
theorem fin : ∀ ns : List Int, ns.length ≤ 63 → (Gn 30).fn "law" [.scr ns] (fun _ => none) (fun d _ => d = .bl true) fun _ _ => False := fun ns hn =>
  g_law (p_k01 tBag tTake tSome tStretch tIsSt tWishes tStencils tLIsSt tLAre tOdd (fun e he => tSpoilt25 he) hn)

end SR.K01

open PySem PySem.W PyProof.Rows in
set_option maxRecDepth 100000 in
set_option maxHeartbeats 0 in
theorem PySem.Challenge.cw_stencilrow_k01_stretches_wishes_stencils_holds : PySem.Challenge.rw_stencilrow_k01_stretches_wishes_stencils.Holds := by
  w_on; o_law; k_head; (case hw => w_witness2)
  k_fill
  refine SR.law_of (l := PySem.Challenge.rw_stencilrow_k01_stretches_wishes_stencils) (T := SR.K01.T) (gi := SR.K01.gi) (gis := SR.K01.gs) (n := 30) rfl rfl rfl ⟨rfl, by decide, by decide⟩ SR.K01.okT SR.K01.bd (dl := ⟨"law", SR.K01.s19, SR.k01_law⟩) rfl rfl (fun w h Y => PySem.W.kIn_of Y) ?ST ?BL ?GS SR.K01.fin
  case ST =>
    intro w
    refine' SR.K01.st_mk ?a3 ?l3 ?c3 ?k3 ?a4 ?l4 ?c4 ?k4 ?a5 ?l5 ?c5 ?k5 ?a6 ?l6 ?c6 ?k6 ?a7 ?l7 ?c7 ?k7 ?a8 ?l8 ?c8 ?k8 ?a10 ?l10 ?c10 ?k10 ?a11 ?l11 ?c11 ?k11 ?a12 ?l12 ?c12 ?k12 ?a13 ?l13 ?c13 ?k13 ?a14 ?l14 ?c14 ?k14 ?a15 ?l15 ?c15 ?k15 ?a16 ?l16 ?c16 ?k16 ?a17 ?l17 ?c17 ?k17 ?a18 ?l18 ?c18 ?k18 ?a19 ?l19 ?c19 ?k19
    (case a3 => k_is)
    (case l3 => k_is)
    (case c3 => k_is)
    (case k3 => k_is)
    (case a4 => k_is)
    (case l4 => k_is)
    (case c4 => k_is)
    (case k4 => k_is)
    (case a5 => k_is)
    (case l5 => k_is)
    (case c5 => k_is)
    (case k5 => k_is)
    (case a6 => k_is)
    (case l6 => k_is)
    (case c6 => k_is)
    (case k6 => k_is)
    (case a7 => k_is)
    (case l7 => k_is)
    (case c7 => k_is)
    (case k7 => k_is)
    (case a8 => k_is)
    (case l8 => k_is)
    (case c8 => k_is)
    (case k8 => k_is)
    (case a10 => k_is)
    (case l10 => k_is)
    (case c10 => k_is)
    (case k10 => k_is)
    (case a11 => k_is)
    (case l11 => k_is)
    (case c11 => k_is)
    (case k11 => k_is)
    (case a12 => k_is)
    (case l12 => k_is)
    (case c12 => k_is)
    (case k12 => k_is)
    (case a13 => k_is)
    (case l13 => k_is)
    (case c13 => k_is)
    (case k13 => k_is)
    (case a14 => k_is)
    (case l14 => k_is)
    (case c14 => k_is)
    (case k14 => k_is)
    (case a15 => k_is)
    (case l15 => k_is)
    (case c15 => k_is)
    (case k15 => k_is)
    (case a16 => k_is)
    (case l16 => k_is)
    (case c16 => k_is)
    (case k16 => k_is)
    (case a17 => k_is)
    (case l17 => k_is)
    (case c17 => k_is)
    (case k17 => k_is)
    (case a18 => k_is)
    (case l18 => k_is)
    (case c18 => k_is)
    (case k18 => k_is)
    (case a19 => k_is)
    (case l19 => k_is)
    (case c19 => k_is)
    (case k19 => k_is)
  case BL =>
    intro w
    refine' SR.K01.bl_mk ?z0 ?z1 ?z2 ?z3 ?z4 ?z5 ?z6 ?z7 ?z8 ?z9 ?z10 ?z11 ?z12 ?z13 ?z14 ?z15 ?z16 ?z17
    (case z0 => k_is)
    (case z1 => k_is)
    (case z2 => k_is)
    (case z3 => k_is)
    (case z4 => k_is)
    (case z5 => k_is)
    (case z6 => k_is)
    (case z7 => k_is)
    (case z8 => k_is)
    (case z9 => k_is)
    (case z10 => k_is)
    (case z11 => k_is)
    (case z12 => k_is)
    (case z13 => k_is)
    (case z14 => k_is)
    (case z15 => k_is)
    (case z16 => k_is)
    (case z17 => k_is)
  case GS =>
    intro w
    refine' SR.K01.gs_mk ?y0 ?y1
    (case y0 => k_is)
    (case y1 => k_is)
