import PyProof.Rows.All
import PySem.Challenge.RW_unlikebins_k74_clashes_judged
import Wide.All
import OpenK.AllK
import Wide.FinOn
import HandS.ForMost
import HandS.Exc
import HandS.Wide
import HandS.Defaults
import HandS.HeadHook1
import HandS.HeadHook2
import HandS.Slots
import HandS.More
import HandS.TupAny
import HandS.Flow
import HandS.Style
import HandS.Text
import HandS.Deep
import HandS.TupLe
import HandS.Star
import HandS.SlotsOwn
import HandS.IsInst
import HandS.DictComp
import HandS.Walk
import HandS.Zip
import PyProof.Draws
import PyProof.EnumMake
import PyProof.TupleIter
import HandS.Records
import HandS.SortInts
import HandS.RaiseMore
import PyProof.ReprRoads
import HandS.Small
import HandS.TupSets
import HandS.Strs
import HandS.SetFor
import HandS.EndBits
import HandS.HeadEnd
import HandS.HeadHook3
import HandS.Head0
import HandS.Head1
import HandS.Head2
import HandS.Codes

section
set_option linter.all false
set_option autoImplicit false
/-! Keys met, each once. -/
namespace DV
def kadd {K : Type} [DecidableEq K] (m : List K) (k : K) : List K := if k ∈ m then m else k :: m
/-- the keys met, each once -/
def kmet {K : Type} [DecidableEq K] (ks : List K) : List K := ks.foldl kadd []
section
variable {K : Type} [DecidableEq K]
theorem kmet_snoc (ks : List K) (k : K) : kmet (ks ++ [k]) = kadd (kmet ks) k := by unfold kmet; rw [List.foldl_append]; rfl
theorem kadd_len (m : List K) (k : K) : (kadd m k).length ≤ m.length + 1 := by unfold kadd; split <;> simp
theorem kfold_len : ∀ (ks m : List K), (ks.foldl kadd m).length ≤ m.length + ks.length
  | [], m => by simp
  | k :: ks, m => by
    have h1 := kfold_len ks (kadd m k)
    have h2 := kadd_len m k
    simp only [List.foldl_cons, List.length_cons]
    omega
theorem kmet_len (ks : List K) : (kmet ks).length ≤ ks.length := by
  have h := kfold_len ks []
  rw [List.length_nil, Nat.zero_add] at h
  exact h
theorem mem_kadd {m : List K} {k x : K} : x ∈ kadd m k ↔ x = k ∨ x ∈ m := by
  unfold kadd
  split
  · rename_i h
    exact ⟨.inr, fun q => q.elim (fun e => e ▸ h) id⟩
  · exact List.mem_cons
theorem mem_kfold {x : K} : ∀ (ks m : List K), x ∈ ks.foldl kadd m ↔ x ∈ ks ∨ x ∈ m
  | [], m => by simp
  | k :: ks, m => by
    rw [List.foldl_cons, mem_kfold ks, mem_kadd, List.mem_cons]
    constructor
    · rintro (h | h | h)
      · exact .inl (.inr h)
      · exact .inl (.inl h)
      · exact .inr h
    · rintro ((h | h) | h)
      · exact .inr (.inl h)
      · exact .inl h
      · exact .inr (.inr h)
theorem mem_kmet {x : K} {ks : List K} : x ∈ kmet ks ↔ x ∈ ks := by
  unfold kmet
  rw [mem_kfold]; simp
theorem kadd_nodup {m : List K} {k : K} (h : m.Nodup) : (kadd m k).Nodup := by
  unfold kadd
  split
  · exact h
  · exact List.nodup_cons.mpr ⟨‹_›, h⟩
theorem kfold_nodup : ∀ (ks m : List K), m.Nodup → (ks.foldl kadd m).Nodup
  | [], m, h => h
  | k :: ks, m, h => kfold_nodup ks (kadd m k) (kadd_nodup h)
theorem kmet_nodup (ks : List K) : (kmet ks).Nodup := kfold_nodup ks [] List.nodup_nil
/-- as many as any list of the same without doubles -/
theorem nodup_same_len {l m : List K} (hl : l.Nodup) (hm : m.Nodup) (h : ∀ x, x ∈ l ↔ x ∈ m) : l.length = m.length :=
  ((List.perm_ext_iff_of_nodup hl hm).mpr h).length_eq
theorem kmet_full {ks : List K} : (kmet ks).length = ks.length ↔ ks.Nodup := by
  constructor
  · intro h
    have key : ∀ (ks m : List K), (ks.foldl kadd m).length = m.length + ks.length → ks.Nodup ∧ ∀ x ∈ ks, x ∉ m := by
      intro ks
      induction ks with
      | nil => intro m _; exact ⟨List.nodup_nil, fun x hx => by cases hx⟩
      | cons k ks ih =>
        intro m e
        rw [List.foldl_cons, List.length_cons] at e
        have h1 := kfold_len ks (kadd m k)
        have h2 := kadd_len m k
        have h3 : (kadd m k).length = m.length + 1 := by omega
        obtain ⟨i1, i2⟩ := ih (kadd m k) (by omega)
        have h4 : k ∉ m := fun z => by
          unfold kadd at h3
          rw [if_pos z] at h3; omega
        refine ⟨List.nodup_cons.mpr ⟨fun z => i2 k z (mem_kadd.mpr (.inl rfl)), i1⟩, fun x hx => ?_⟩
        rcases List.mem_cons.mp hx with rfl | hx
        · exact h4
        · exact fun z => i2 x hx (mem_kadd.mpr (.inr z))
    exact (key ks [] (by rw [List.length_nil, Nat.zero_add]; exact h)).1
  · intro h
    exact nodup_same_len (kmet_nodup ks) h fun x => mem_kmet
end
end DV
end

section
set_option Elab.async false
set_option linter.all false
set_option maxRecDepth 100000
/-! The values of the evaluator, its store, and how both lie in the abstract heap. -/
namespace DV
open PySem L2

inductive D where
  | non | bl (b : Bool) | int (i : Int) | str (x : Str)
  | tup (xs : List D) | lst (xs : List D) | dict (ks : List Key) (xs : List D) | kd (ks : List Str) (xs : List D)
  | obj (c : Str) (ns : List Str) (xs : List D)
  | fn (x : Str)
  | scr (xs : List D)
  | ref (n : Nat)
  deriving Inhabited

mutual
def D.clo : D → Bool
  | .ref _ => false
  | .tup xs => cloL xs
  | .lst xs => cloL xs
  | .scr xs => cloL xs
  | .dict _ xs => cloL xs
  | .kd _ xs => cloL xs
  | .obj _ _ xs => cloL xs
  | _ => true
def cloL : List D → Bool
  | [] => true
  | x :: xs => x.clo && cloL xs
end

/-- what stands in the store -/
inductive Ob where
  | dead
  | lst (xs : List D)
  | dict (ks : List Key) (xs : List D)
  | ins (c : Str) (ns : List Str) (xs : List D)
  deriving Inhabited
abbrev Sto := List Ob

/-- the classes with slots, their slots in order -/
abbrev Slo := List (Str × List Str)

/-- the fixed part: what is written, the module's names, the slotted classes -/
structure Fx where
  K : PySem.W.Frag
  mg : Str → Option Value
  slo : Slo
  w : World

abbrev Rho := List (Option Addr)

/-- a dict of the written part, its keys (texts) and values -/
def KDk (X : Fx) (a : Addr) (fs : List (Str × V)) : Prop := (∃ es n, KDict X.K X.w a es n) ∧ ∀ z : Str, ∃ o, PySem.W.nsIn X.K a z = some o ∧ RelO (fs.lookup z) o

mutual
inductive VR (X : Fx) (F : Hp) (r : Rho) : D → V → Prop
  | non : VR X F r .non .non
  | bl (b : Bool) : VR X F r (.bl b) (.bl b)
  | int (i : Int) : VR X F r (.int i) (.int i)
  | str (x : Str) : VR X F r (.str x) (.str x)
  | tup {xs a vs} (h : SqT X.K F a vs) (hs : VRs X F r xs vs) : VR X F r (.tup xs) (.ref a)
  | lst {xs a vs} (h : F a = some (.lst vs)) (hs : VRs X F r xs vs) : VR X F r (.lst xs) (.ref a)
  | scr {xs a vs} (h : SqL X.K F a vs) (hs : VRs X F r xs vs) : VR X F r (.scr xs) (.ref a)
  | dict {ks xs a} {kvs : List (Key × V)} (h : F a = some (.dK kvs)) (hk : kvs.map (·.1) = ks) (hs : VRs X F r xs (kvs.map (·.2))) : VR X F r (.dict ks xs) (.ref a)
  | kd {ks xs a} {fs : List (Str × V)} (h : KDk X a fs) (hk : fs.map (·.1) = ks) (hs : VRs X F r xs (fs.map (·.2))) : VR X F r (.kd ks xs) (.ref a)
  | obj {c ns xs a C dx} {fs : List (Str × V)} (h : F a = some (.ins C dx fs)) (hc : C = He.ga X.K c) (hl : X.slo.lookup c = none) (hn : fs.map (·.1) = ns) (hs : VRs X F r xs (fs.map (·.2))) : VR X F r (.obj c ns xs) (.ref a)
  | slo {c ns xs a C dx} {vs : List V} {sl : List Str} (h : SlX.Slt F a C dx (vs.map some)) (hc : C = He.ga X.K c) (hl : X.slo.lookup c = some sl) (hn : ns = sl.take vs.length) (hs : VRs X F r xs vs) : VR X F r (.obj c ns xs) (.ref a)
  | fn {x a} (h : X.mg x = some (.ref a)) (k : a = He.ga X.K x) : VR X F r (.fn x) (.ref a)
  | ref {n v} (hn : n < r.length) (h : ∀ a, r[n]? = some (some a) → v = .ref a) : VR X F r (.ref n) v
inductive VRs (X : Fx) (F : Hp) (r : Rho) : List D → List V → Prop
  | nil : VRs X F r [] []
  | cons {x v xs vs} (h : VR X F r x v) (hs : VRs X F r xs vs) : VRs X F r (x :: xs) (v :: vs)
end

structure RhoX (r r' : Rho) : Prop where
  len : r.length ≤ r'.length
  old : ∀ n : Nat, n < r.length → r'[n]? = r[n]? ∨ r'[n]? = some none
theorem RhoX.refl (r : Rho) : RhoX r r := ⟨Nat.le_refl _, fun _ _ => .inl rfl⟩
theorem RhoX.trans {r r1 r2 : Rho} (a : RhoX r r1) (b : RhoX r1 r2) : RhoX r r2 := ⟨Nat.le_trans a.len b.len, fun n h => by
  rcases b.old n (Nat.lt_of_lt_of_le h a.len) with e | e
  · rw [e]; exact a.old n h
  · exact .inr e⟩

theorem Same.seqT {K : PySem.W.Frag} {H H' : Hp} {a : Addr} {xs : List V} (e : L2.Same H H') (h : SqT K H a xs) : SqT K H' a xs := by
  rcases h with (h | ⟨o, h⟩) | h
  · exact .inl (.inl (e _ _ h))
  · exact .inl (.inr ⟨o, e _ _ h⟩)
  · exact .inr h

theorem slt_mono {H H' : Hp} {a C dx : Addr} {vs : List (Option V)} (e : L2.Same H H') (h : SlX.Slt H a C dx vs) : SlX.Slt H' a C dx vs := by
  rcases h with ⟨h1, h2⟩ | ⟨h1, h2⟩
  · exact .inl ⟨e _ _ h1, h2⟩
  · exact .inr ⟨e _ _ h1, e _ _ h2⟩
section
variable {X : Fx} {F F' : Hp} {r r' : Rho}
mutual
theorem VR.mono (hF : L2.Same F F') (hr : RhoX r r') : ∀ {d v}, VR X F r d v → VR X F' r' d v
  | _, _, .non => .non
  | _, _, .bl b => .bl b
  | _, _, .int i => .int i
  | _, _, .str x => .str x
  | _, _, .tup h hs => .tup (Same.seqT hF h) (VRs.mono hF hr hs)
  | _, _, .lst h hs => .lst (hF _ _ h) (VRs.mono hF hr hs)
  | _, _, .scr h hs => .scr (hF.seq h) (VRs.mono hF hr hs)
  | _, _, .dict h hk hs => .dict (hF _ _ h) hk (VRs.mono hF hr hs)
  | _, _, .kd h hk hs => .kd h hk (VRs.mono hF hr hs)
  | _, _, .obj h hc hl hn hs => .obj (hF _ _ h) hc hl hn (VRs.mono hF hr hs)
  | _, _, .slo h hc hl hn hs => .slo (slt_mono hF h) hc hl hn (VRs.mono hF hr hs)
  | _, _, .fn h k => .fn h k
  | _, _, .ref hn h => .ref (Nat.lt_of_lt_of_le hn hr.len) fun a e => by
    rcases hr.old _ hn with q | q
    · exact h a (q ▸ e)
    · rw [q] at e; cases e
theorem VRs.mono (hF : L2.Same F F') (hr : RhoX r r') : ∀ {ds vs}, VRs X F r ds vs → VRs X F' r' ds vs
  | _, _, .nil => .nil
  | _, _, .cons h hs => .cons (VR.mono hF hr h) (VRs.mono hF hr hs)
end
mutual
/-- closed values do not look at the store -/
theorem VR.clo : ∀ {d v}, VR X F r d v → d.clo = true → VR X F r' d v
  | _, _, .non, _ => .non
  | _, _, .bl b, _ => .bl b
  | _, _, .int i, _ => .int i
  | _, _, .str x, _ => .str x
  | _, _, .tup h hs, c => .tup h (VRs.clo hs (by simpa [D.clo] using c))
  | _, _, .lst h hs, c => .lst h (VRs.clo hs (by simpa [D.clo] using c))
  | _, _, .scr h hs, c => .scr h (VRs.clo hs (by simpa [D.clo] using c))
  | _, _, .dict h hk hs, c => .dict h hk (VRs.clo hs (by simpa [D.clo] using c))
  | _, _, .kd h hk hs, c => .kd h hk (VRs.clo hs (by simpa [D.clo] using c))
  | _, _, .obj h hc hl hn hs, c => .obj h hc hl hn (VRs.clo hs (by simpa [D.clo] using c))
  | _, _, .slo h hc hl hn hs, c => .slo h hc hl hn (VRs.clo hs (by simpa [D.clo] using c))
  | _, _, .fn h k, _ => .fn h k
  | _, _, .ref hn h, c => by simp [D.clo] at c
theorem VRs.clo : ∀ {ds vs}, VRs X F r ds vs → cloL ds = true → VRs X F r' ds vs
  | _, _, .nil, _ => .nil
  | _, _, .cons h hs, c => by
    have c' := Bool.and_eq_true_iff.mp (show (_ && _) = true from c)
    exact .cons (VR.clo h c'.1) (VRs.clo hs c'.2)
end
theorem VRs.length : ∀ {ds vs}, VRs X F r ds vs → ds.length = vs.length
  | _, _, .nil => rfl
  | _, _, .cons _ hs => congrArg Nat.succ hs.length
theorem VRs.get : ∀ {ds : List D} {vs : List V} {i : Nat} {d : D}, VRs X F r ds vs → ds[i]? = some d → ∃ v, vs[i]? = some v ∧ VR X F r d v
  | _, _, _, _, .nil, e => by simp at e
  | _, _, 0, _, .cons h _, e => by simp at e; subst e; exact ⟨_, rfl, h⟩
  | _, _, i + 1, _, .cons _ hs, e => by
    obtain ⟨v, h1, h2⟩ := VRs.get (i := i) hs (by simpa using e)
    exact ⟨v, by simpa using h1, h2⟩
theorem VRs.append : ∀ {ds ds' : List D} {vs vs' : List V}, VRs X F r ds vs → VRs X F r ds' vs' → VRs X F r (ds ++ ds') (vs ++ vs')
  | _, _, _, _, .nil, h => h
  | _, _, _, _, .cons h hs, q => .cons h (hs.append q)
theorem VRs.take : ∀ {ds : List D} {vs : List V} (n : Nat), VRs X F r ds vs → VRs X F r (ds.take n) (vs.take n)
  | _, _, 0, _ => .nil
  | _, _, _ + 1, .nil => .nil
  | _, _, n + 1, .cons h hs => .cons h (hs.take n)
theorem VRs.drop : ∀ {ds : List D} {vs : List V} (n : Nat), VRs X F r ds vs → VRs X F r (ds.drop n) (vs.drop n)
  | _, _, 0, h => h
  | _, _, _ + 1, .nil => .nil
  | _, _, n + 1, .cons _ hs => hs.drop n
theorem VRs.set {d : D} {v : V} (h : VR X F r d v) : ∀ {ds : List D} {vs : List V} (i : Nat), VRs X F r ds vs → VRs X F r (ds.set i d) (vs.set i v)
  | _, _, _, .nil => .nil
  | _, _, 0, .cons _ hs => .cons h hs
  | _, _, i + 1, .cons q hs => .cons q (VRs.set h i hs)
end

/-- what an object of the store is -/
def OR (X : Fx) (F : Hp) (r : Rho) (H : Hp) (a : Addr) : Ob → Prop
  | .dead => False
  | .lst xs => ∃ vs, H a = some (.lst vs) ∧ VRs X F r xs vs
  | .dict ks xs => ∃ kvs : List (Key × V), H a = some (.dK kvs) ∧ kvs.map (·.1) = ks ∧ VRs X F r xs (kvs.map (·.2))
  | .ins c ns xs => (X.slo.lookup c = none ∧ ∃ (C dx : Addr) (fs : List (Str × V)), H a = some (.ins C dx fs) ∧ C = He.ga X.K c ∧ fs.map (·.1) = ns ∧ VRs X F r xs (fs.map (·.2))) ∨
      (∃ (sl : List Str) (C dx : Addr) (vs : List V), X.slo.lookup c = some sl ∧ ns = sl.take vs.length ∧ SlX.Slt H a C dx (vs.map some) ∧ C = He.ga X.K c ∧ VRs X F r xs vs)

/-- the state: F what stands still, r where the store's objects lie -/
structure Rel (X : Fx) (F : Hp) (r : Rho) (S : Sto) (H : Hp) : Prop where
  sub : L2.Same F H
  len : r.length = S.length
  dis : ∀ (n : Nat) a, r[n]? = some (some a) → F a = none
  inj : ∀ (m n : Nat) a, r[m]? = some (some a) → r[n]? = some (some a) → m = n
  ob : ∀ (n : Nat) a, r[n]? = some (some a) → ∃ o, S[n]? = some o ∧ OR X F r H a o
  live : ∀ (n : Nat) o, S[n]? = some o → o ≠ .dead → ∃ a, r[n]? = some (some a)
  noo : ∀ b x, F b ≠ some (.own x)
end DV
end

section
set_option Elab.async false
set_option linter.all false
set_option maxRecDepth 100000
set_option autoImplicit false
/-! How a state goes on: what stands still grows, the store's objects are laid, changed, set still. -/
namespace DV
open PySem L2
structure Ext (F : Hp) (r : Rho) (H : Hp) (F' : Hp) (r' : Rho) (H' : Hp) : Prop where
  f : L2.Same F F'
  fn : ∀ a o, F' a = some o → F a = some o ∨ H a = none ∨ (∃ n : Nat, r[n]? = some (some a)) ∨ o = .xd []
  rx : RhoX r r'
  rn : ∀ (n : Nat) a, r'[n]? = some (some a) → r[n]? = some (some a) ∨ (H a = none ∧ r.length ≤ n)
  keep : ∀ a o, H a = some o → (∀ n : Nat, r[n]? ≠ some (some a)) → (∀ x, o ≠ .own x) → H' a = some o
  dom : ∀ a, H' a = none → H a = none
section
variable {X : Fx} {F F' F'' : Hp} {r r' r'' : Rho} {S S' : Sto} {H H' H'' : Hp} {a b : Addr} {o : HO} {n : Nat} {ob : Ob}

theorem Ext.refl (F : Hp) (r : Rho) (H : Hp) : Ext F r H F r H :=
  ⟨fun _ _ h => h, fun _ _ h => .inl h, .refl r, fun _ _ h => .inl h, fun _ _ h _ _ => h, fun _ h => h⟩
theorem Ext.trans (x : Ext F r H F' r' H') (y : Ext F' r' H' F'' r'' H'') : Ext F r H F'' r'' H'' := by
  have notin : ∀ a o, H a = some o → (∀ n : Nat, r[n]? ≠ some (some a)) → ∀ n : Nat, r'[n]? ≠ some (some a) := fun a o e hn n q => by
    rcases x.rn n a q with z | ⟨z, _⟩
    · exact hn n z
    · rw [z] at e; cases e
  refine ⟨fun a o h => y.f a o (x.f a o h), fun a o h => ?_, x.rx.trans y.rx, fun n a h => ?_, fun a o e hn ho => ?_, fun a h => x.dom a (y.dom a h)⟩
  · rcases y.fn a o h with q | q | ⟨n, q⟩ | q
    · exact x.fn a o q
    · exact .inr (.inl (x.dom a q))
    · rcases x.rn n a q with z | ⟨z, _⟩
      · exact .inr (.inr (.inl ⟨n, z⟩))
      · exact .inr (.inl z)
    · exact .inr (.inr (.inr q))
  · rcases y.rn n a h with q | ⟨q, l⟩
    · exact x.rn n a q
    · exact .inr ⟨x.dom a q, Nat.le_trans x.rx.len l⟩
  · exact y.keep a o (x.keep a o e hn ho) (notin a o e hn) ho
theorem Ext.mono (x : Ext F r H F' r' H') {d : D} {v : V} (h : VR X F r d v) : VR X F' r' d v := h.mono x.f x.rx
theorem Ext.monos (x : Ext F r H F' r' H') {d : List D} {v : List V} (h : VRs X F r d v) : VRs X F' r' d v := h.mono x.f x.rx

theorem slO_own {a C dx x : Addr} {vs : List (Option V)} : SlX.SlO a C dx vs ≠ HO.own x := fun h => by unfold SlX.SlO at h; cases h
/-- what a store's object holds is no dict of an instance -/
theorem OR.kind (h : OR X F r H a ob) : ∃ o, H a = some o ∧ o ≠ .xd [] ∧ ∀ x, o ≠ .own x := by
  cases ob with
  | dead => exact h.elim
  | lst xs => obtain ⟨vs, e, q⟩ := h; exact ⟨_, e, fun z => (nomatch z), fun _ z => (nomatch z)⟩
  | dict ks xs => obtain ⟨kvs, e, k, q⟩ := h; exact ⟨_, e, fun z => (nomatch z), fun _ z => (nomatch z)⟩
  | ins c ns xs =>
    rcases h with ⟨l, C, dx, fs, e, hc, k, q⟩ | ⟨sl, C, dx, vs, l, k, s, hc, q⟩
    · exact ⟨_, e, fun z => (nomatch z), fun _ z => (nomatch z)⟩
    · rcases s with ⟨s1, _⟩ | ⟨s1, s2⟩
      · exact ⟨_, s1, fun z => (nomatch z), fun _ z => (nomatch z)⟩
      · exact ⟨_, s1, SlX.slO_not, fun _ => slO_own⟩
/-- an object of the store, where nothing that it leans on has changed -/
theorem OR.mono (h : OR X F r H a ob) (hF : L2.Same F F') (hr : RhoX r r') (ha : H' a = H a)
    (hx : ∀ b, H b = some (.xd []) → H' b = some (.xd [])) : OR X F' r' H' a ob := by
  cases ob with
  | dead => exact h
  | lst xs => obtain ⟨vs, e, q⟩ := h; exact ⟨vs, ha.trans e, q.mono hF hr⟩
  | dict ks xs => obtain ⟨kvs, e, k, q⟩ := h; exact ⟨kvs, ha.trans e, k, q.mono hF hr⟩
  | ins c ns xs =>
    rcases h with ⟨l, C, dx, fs, e, hc, k, q⟩ | ⟨sl, C, dx, vs, l, k, s, hc, q⟩
    · exact .inl ⟨l, C, dx, fs, ha.trans e, hc, k, q.mono hF hr⟩
    · refine .inr ⟨sl, C, dx, vs, l, k, ?_, hc, q.mono hF hr⟩
      rcases s with ⟨s1, s2⟩ | ⟨s1, s2⟩
      · exact .inl ⟨ha.trans s1, s2⟩
      · exact .inr ⟨ha.trans s1, hx _ s2⟩
theorem Rel.notxd (R : Rel X F r S H) (e : H b = some (.xd [])) : ∀ n : Nat, r[n]? ≠ some (some b) := fun n h => by
  obtain ⟨o, _, q⟩ := R.ob n b h
  obtain ⟨o', e', k, _⟩ := q.kind
  rw [e] at e'; cases e'
  exact k rfl
theorem Rel.there (R : Rel X F r S H) (e : r[n]? = some (some a)) : ∃ o, H a = some o := by
  obtain ⟨o, _, q⟩ := R.ob n a e
  obtain ⟨o', e', _⟩ := q.kind
  exact ⟨o', e'⟩
theorem Rel.fresh (R : Rel X F r S H) (e : H a = none) : F a = none := by
  cases q : F a with
  | none => rfl
  | some o => rw [R.sub a o q] at e; cases e
theorem Rel.notin (R : Rel X F r S H) (e : H a = none) : ∀ n : Nat, r[n]? ≠ some (some a) := fun n h => by
  obtain ⟨o, q⟩ := R.there h
  rw [e] at q; cases q
theorem same_upd {G : Hp} {p : Addr} {o : HO} (e : G p = none) : L2.Same G (upd G p o) := fun b u h => by
  rw [upd_ne (ne_of_none h e)]; exact h

/-- a new object that stands still -/
theorem Rel.laidF (R : Rel X F r S H) (hp : H a = none) (o : HO) (ho : ∀ x, o ≠ .own x := by intro x z; cases z) : Rel X (upd F a o) r S (upd H a o) ∧ Ext F r H (upd F a o) r (upd H a o) := by
  have hF := same_upd (o := o) (R.fresh hp)
  have hH := same_upd (o := o) hp
  refine ⟨⟨fun b u e => ?_, R.len, fun n b e => ?_, R.inj, fun n b e => ?_, R.live, fun b x e => ?_⟩, ⟨hF, fun b u e => ?_, .refl r, fun _ _ h => .inl h, fun b u e _ _ => hH b u e, fun b e => ?_⟩⟩
  · by_cases hb : b = a
    · subst hb; rw [upd_same] at e ⊢; exact e
    · rw [upd_ne hb] at e ⊢; exact R.sub b u e
  · have hb : b ≠ a := fun z => R.notin hp n (z ▸ e)
    rw [upd_ne hb]; exact R.dis n b e
  · have hb : b ≠ a := fun z => R.notin hp n (z ▸ e)
    obtain ⟨ob, h1, h2⟩ := R.ob n b e
    exact ⟨ob, h1, h2.mono hF (.refl r) (upd_ne hb) fun c q => hH c _ q⟩
  · by_cases hb : b = a
    · subst hb; rw [upd_same] at e; exact ho x (Option.some.inj e)
    · rw [upd_ne hb] at e; exact R.noo b x e
  · by_cases hb : b = a
    · subst hb; exact .inr (.inl hp)
    · rw [upd_ne hb] at e; exact .inl e
  · by_cases hb : b = a
    · subst hb; exact hp
    · rw [upd_ne hb] at e; exact e
/-- what was laid untracked before: an object is known to be there -/
theorem getr_append {q : Option Addr} : (r ++ [q])[n]? = some (some a) → r[n]? = some (some a) ∨ (n = r.length ∧ q = some a) := fun e => by
  by_cases h : n < r.length
  · rw [List.getElem?_append_left h] at e; exact .inl e
  · rw [List.getElem?_append_right (by omega)] at e
    by_cases h2 : n - r.length = 0
    · rw [h2] at e; exact .inr ⟨by omega, by simpa using e⟩
    · rw [List.getElem?_eq_none (by simp; omega)] at e; cases e
theorem rhoX_push (r : Rho) (q : Option Addr) : RhoX r (r ++ [q]) := ⟨by simp, fun n h => .inl (List.getElem?_append_left h)⟩
/-- a new object of the store -/
theorem Rel.laidS (R : Rel X F r S H) (hp : H a = none) (o : HO) (ob : Ob) (hnd : ob ≠ .dead) (new : OR X F (r ++ [some a]) (upd H a o) a ob) :
    Rel X F (r ++ [some a]) (S ++ [ob]) (upd H a o) ∧ Ext F r H F (r ++ [some a]) (upd H a o) := by
  have hH := same_upd (o := o) hp
  have rx := rhoX_push r (some a)
  refine ⟨⟨fun b u e => hH b u (R.sub b u e), by simp [R.len], fun n b e => ?_, fun m n b e1 e2 => ?_, fun n b e => ?_, fun n u e hu => ?_, R.noo⟩, ⟨fun _ _ h => h, fun _ _ h => .inl h, rx, fun n b h => ?_, fun b u e _ _ => hH b u e, fun b e => ?_⟩⟩
  · rcases getr_append e with q | ⟨_, q⟩
    · exact R.dis n b q
    · cases q; exact R.fresh hp
  · rcases getr_append e1 with q1 | ⟨m1, q1⟩
    · rcases getr_append e2 with q2 | ⟨_, q2⟩
      · exact R.inj m n b q1 q2
      · cases q2; exact absurd q1 (R.notin hp m)
    · cases q1
      rcases getr_append e2 with q2 | ⟨n2, _⟩
      · exact absurd q2 (R.notin hp n)
      · omega
  · rcases getr_append e with q | ⟨n1, q⟩
    · obtain ⟨ob', h1, h2⟩ := R.ob n b q
      have hb : b ≠ a := fun z => R.notin hp n (z ▸ q)
      have hn : n < S.length := (List.getElem?_eq_some_iff.mp h1).1
      exact ⟨ob', by rw [List.getElem?_append_left hn]; exact h1, h2.mono (fun _ _ h => h) rx (upd_ne hb) fun c q => hH c _ q⟩
    · cases q
      exact ⟨ob, by rw [n1, R.len]; simp, new⟩
  · by_cases hn : n < S.length
    · rw [List.getElem?_append_left hn] at e
      obtain ⟨b, q⟩ := R.live n u e hu
      exact ⟨b, by rw [List.getElem?_append_left (by rw [R.len]; exact hn)]; exact q⟩
    · rw [List.getElem?_append_right (by omega)] at e
      have h0 : n - S.length = 0 := by
        by_cases h0 : n - S.length = 0
        · exact h0
        · rw [List.getElem?_eq_none (by simp; omega)] at e; cases e
      refine ⟨a, ?_⟩
      have hnr : n = r.length := by rw [R.len]; omega
      rw [hnr]; simp
  · rcases getr_append h with q | ⟨n1, q⟩
    · exact .inl q
    · cases q; exact .inr ⟨hp, by omega⟩
  · by_cases hb : b = a
    · subst hb; exact hp
    · rw [upd_ne hb] at e; exact e
/-- an object of the store is changed -/
theorem Rel.put (R : Rel X F r S H) (hn : r[n]? = some (some a)) (hS : S' = S.set n ob) (hnd : ob ≠ .dead) (hH : ∀ b, b ≠ a → H' b = H b) (new : OR X F r H' a ob) :
    Rel X F r S' H' ∧ Ext F r H F r H' := by
  have hx : ∀ c, H c = some (.xd []) → H' c = some (.xd []) := fun c q => by
    rw [hH c fun z => R.notxd q n (z ▸ hn)]; exact q
  have hlt : n < S.length := by
    obtain ⟨_, h1, _⟩ := R.ob n a hn
    exact (List.getElem?_eq_some_iff.mp h1).1
  subst hS
  refine ⟨⟨fun b u e => ?_, by simp [R.len], R.dis, R.inj, fun m b e => ?_, fun m u e hu => ?_, R.noo⟩, ⟨fun _ _ h => h, fun _ _ h => .inl h, .refl r, fun n b h => .inl h, fun b u e hb _ => ?_, fun b e => ?_⟩⟩
  · have hb : b ≠ a := fun z => by rw [z, R.dis n a hn] at e; cases e
    rw [hH b hb]; exact R.sub b u e
  · by_cases hb : b = a
    · subst hb
      obtain rfl : m = n := R.inj m n b e hn
      exact ⟨ob, by rw [List.getElem?_set_self hlt], new⟩
    · obtain ⟨ob', h1, h2⟩ := R.ob m b e
      have hm : n ≠ m := fun z => by subst z; rw [hn] at e; cases e; exact hb rfl
      exact ⟨ob', by rw [List.getElem?_set_ne hm]; exact h1, h2.mono (fun _ _ h => h) (.refl r) (hH b hb) hx⟩
  · by_cases hm : n = m
    · subst hm; exact ⟨a, hn⟩
    · rw [List.getElem?_set_ne hm] at e; exact R.live m u e hu
  · rw [hH b fun z => hb n (z ▸ hn)]; exact e
  · by_cases hb : b = a
    · subst hb
      obtain ⟨o, q, _⟩ := new.kind
      rw [q] at e; cases e
    · rw [hH b hb] at e; exact e
end
end DV
end

section
set_option Elab.async false
set_option linter.all false
set_option maxRecDepth 100000
set_option autoImplicit false
/-! Operations on values. -/
namespace DV
open PySem L2

inductive Res (A : Type) where
  | bad
  | ok (a : A) (S : Sto)
  | exc (c : Str) (ns : List Str) (xs : List D) (S : Sto)
  deriving Inhabited
def Res.bind {A B : Type} (m : Res A) (k : A → Sto → Res B) : Res B := match m with
  | .bad => .bad
  | .ok a S => k a S
  | .exc c ns xs S => .exc c ns xs S
/-- an answer that needs no store -/
def Res.opt {A : Type} (S : Sto) : Option A → Res A
  | none => .bad
  | some a => .ok a S

/-! ### looks at values -/
/-- the items of a list, a tuple -/
def items (S : Sto) : D → Option (List D)
  | .lst xs => some xs
  | .tup xs => some xs
  | .scr xs => some xs
  | .ref n => match S[n]? with
    | some (.lst xs) => some xs
    | _ => none
  | _ => none
def isTup : D → Bool
  | .tup _ => true
  | _ => false
def isLst (S : Sto) : D → Bool
  | .lst _ => true
  | .scr _ => true
  | .ref n => match S[n]? with
    | some (.lst _) => true
    | _ => false
  | _ => false
def keyD : Key → D
  | .inl i => .int i
  | .inr x => .str x
def toKey : D → Option Key
  | .int i => some (.inl i)
  | .str x => some (.inr x)
  | _ => none
/-- the pairs of a dict -/
def dictD (S : Sto) : D → Option (List Key × List D)
  | .dict ks xs => some (ks, xs)
  | .ref n => match S[n]? with
    | some (.dict ks xs) => some (ks, xs)
    | _ => none
  | _ => none
def dlook : List Key → List D → Key → Option D
  | k :: ks, x :: xs, j => if k = j then some x else dlook ks xs j
  | _, _, _ => none
def dsub : List Key → List D → Key → D → List D
  | k :: ks, x :: xs, j, y => (if k = j then y else x) :: dsub ks xs j y
  | _, _, _, _ => []
def dput (ks : List Key) (xs : List D) (j : Key) (y : D) : List Key × List D :=
  if ks.any (fun k => decide (k = j)) then (ks, dsub ks xs j y) else (ks ++ [j], xs ++ [y])
/-- the fields of an instance -/
def insD (S : Sto) : D → Option (Str × List Str × List D)
  | .obj c ns xs => some (c, ns, xs)
  | .ref n => match S[n]? with
    | some (.ins c ns xs) => some (c, ns, xs)
    | _ => none
  | _ => none
def flook : List Str → List D → Str → Option D
  | k :: ks, x :: xs, j => if k = j then some x else flook ks xs j
  | _, _, _ => none
def fput : List Str → List D → Str → D → List Str × List D
  | k :: ks, x :: xs, j, y => if k = j then (k :: ks, y :: xs) else let p := fput ks xs j y; (k :: p.1, x :: p.2)
  | _, _, j, y => ([j], [y])

/-! ### truth -/
def truth (S : Sto) : D → Option Bool
  | .non => some false
  | .bl b => some b
  | .int i => some (i != 0)
  | .str x => if x.length ≤ sizeLine then some (x.length != 0) else none
  | d => match items S d with
    | some xs => some (!xs.isEmpty)
    | none => none

/-! ### operators -/
def mulOk (i j : Int) : Bool := decide (i.natAbs.log2 + j.natAbs.log2 < 1000000)
def divOk (j : Int) : Bool := decide (j ≠ 0) && (decide (j.natAbs < 1073741824) || (decide (0 < j) && decide (j.natAbs.log2 < 9000)))
def binop (op : Operator) (x y : D) : Option D := match op, x, y with
  | .Add, .int i, .int j => some (.int (i + j))
  | .Add, .str a, .str b => if a.length + b.length ≤ sizeLine then some (.str (a ++ b)) else none
  | .Add, .tup a, .tup b => if a.length + b.length ≤ sizeLine then some (.tup (a ++ b)) else none
  | .Add, .lst a, .lst b => if a.length + b.length ≤ sizeLine then some (.lst (a ++ b)) else none
  | .Sub, .int i, .int j => some (.int (i - j))
  | .Mult, .int i, .int j => if mulOk i j then some (.int (i * j)) else none
  | .FloorDiv, .int i, .int j => if divOk j then some (.int (i.fdiv j)) else none
  | .Mod, .int i, .int j => if j = 0 then none else some (.int (i.fmod j))
  | .Pow, .int i, .int j => if 0 ≤ j ∧ j ≤ 1000000 ∧ i.natAbs < 2 ^ 64 then some (.int (i ^ j.toNat)) else none
  | _, _, _ => none

/-! ### equality of plain data -/
mutual
def toPy : D → Option PyData
  | .non => some .none
  | .bl b => some (.bool b)
  | .int i => some (.int i)
  | .str x => some (.str x)
  | .tup xs => (toPys xs).map .tuple
  | .lst xs => (toPys xs).map .list
  | _ => none
def toPys : List D → Option (List PyData)
  | [] => some []
  | x :: xs => match toPy x, toPys xs with
    | some d, some ds => some (d :: ds)
    | _, _ => none
end
def deq (x y : D) : Option Bool := match x, y with
  | .non, .non => some true
  | .bl a, .bl b => some (decide (a = b))
  | .int a, .int b => some (decide (a = b))
  | .str a, .str b => some (decide (a = b))
  | .int _, .str _ => some false
  | .str _, .int _ => some false
  | .non, .int _ => some false
  | .int _, .non => some false
  | .non, .str _ => some false
  | .str _, .non => some false
  | .non, .bl _ => some false
  | .bl _, .non => some false
  | .bl _, .str _ => some false
  | .str _, .bl _ => some false
  | x, y => match toPy x, toPy y with
    | some d, some e => if SeqAt.shaped d && SeqAt.shaped e then some (PyData.eqv d e) else none
    | _, _ => none
/-- the place that an index means -/
def ixd (xs : List D) (i : Int) : Option D := atI xs i
end DV
end

section
set_option Elab.async false
set_option linter.all false
set_option maxRecDepth 100000
set_option autoImplicit false
/-! Operations on values are those of the machine. -/
namespace DV
open PySem L2

abbrev fx (X : Cx) (slo : Slo) : Fx := ⟨X.K, X.mg, slo, X.w⟩

/-! ### the widest readings -/
def semE (X : Cx) (e : Expr) : TE := fun σ H Q => ∀ (pins : List (Addr × Obj)) (s : Shared), Inv X pins σ H s → wpAny (model X.prog X.w) X.A (eval e X.env) (EP X pins σ Q) X.xe s
def semT (X : Cx) (e : Expr) : TT := fun σ H Q => ∀ (pins : List (Addr × Obj)) (s : Shared), Inv X pins σ H s → wpAny (model X.prog X.w) X.A (isTrue e X.env (eval e X.env)) (TP X pins σ Q) X.xe s
def semW (X : Cx) (e : Expr) : TT := fun σ H Q => ∀ (whole : Sem Value) (pins : List (Addr × Obj)) (s : Shared), Inv X pins σ H s → wpAny (model X.prog X.w) X.A (isTrue e X.env whole) (TP X pins σ Q) X.xe s
def semA (X : Cx) (es : List Expr) : TA := fun σ H Q => ∀ (pos : Pos) (pins : List (Addr × Obj)) (s : Shared), Inv X pins σ H s → wpAny (model X.prog X.w) X.A (spliced (backTo pos (starEach es X.env))) (AP X pins σ Q) X.xe s
def semS (X : Cx) (st : Stmt) : TS := fun D σ H => ∀ (pins : List (Addr × Obj)) (s : Shared), Inv X pins σ H s → wpAny (model X.prog X.w) X.A (exec st X.env) (SP X pins D) X.xe s
def semSs (X : Cx) (st : List Stmt) : TS := fun D σ H => ∀ (pins : List (Addr × Obj)) (s : Shared), Inv X pins σ H s → wpAny (model X.prog X.w) X.A (execs st X.env) (SP X pins D) X.xe s
section
variable {X : Cx} {e : Expr} {es : List Expr} {st : Stmt} {sts : List Stmt} {σ : St} {H : Hp}
theorem pe_sem : PE X e (semE X e) := ⟨fun pins s _ _ _ I h => h pins s I⟩
theorem pt_sem : PT X e (semT X e) := ⟨fun pins s _ _ _ I h => h pins s I⟩
theorem pw_sem : PW X e (semW X e) := ⟨fun w pins s _ _ _ I h => h w pins s I⟩
theorem pa_sem : PA X es (semA X es) := ⟨fun pos pins s _ _ _ I h => h pos pins s I⟩
theorem ps_sem : PS X st (semS X st) := ⟨fun pins s _ _ _ I h => h pins s I⟩
theorem pss_sem : PSs X sts (semSs X sts) := ⟨fun pins s _ _ _ I h => h pins s I⟩
theorem semE_of {t : TE} (h : PE X e t) {Q : VK} (q : t σ H Q) : semE X e σ H Q := fun pins s I => h.run pins s σ H Q I q
theorem semT_of {t : TT} (h : PT X e t) {Q : Bool → Hp → Prop} (q : t σ H Q) : semT X e σ H Q := fun pins s I => h.run pins s σ H Q I q
theorem semW_of {t : TT} (h : PW X e t) {Q : Bool → Hp → Prop} (q : t σ H Q) : semW X e σ H Q := fun w pins s I => h.run w pins s σ H Q I q
theorem semA_of {t : TA} (h : PA X es t) {Q : List V → Hp → Prop} (q : t σ H Q) : semA X es σ H Q := fun pos pins s I => h.run pos pins s σ H Q I q
theorem semS_of {t : TS} (h : PS X st t) {D : Ends} (q : t D σ H) : semS X st D σ H := fun pins s I => h.run pins s σ H D I q
theorem semSs_of {t : TS} (h : PSs X sts t) {D : Ends} (q : t D σ H) : semSs X sts D σ H := fun pins s I => h.run pins s σ H D I q
theorem semE_mono {Q Q' : VK} (h : semE X e σ H Q) (k : ∀ v H', Q v H' → Q' v H') : semE X e σ H Q' := fun pins s I =>
  thn (h pins s I) fun _ _ ⟨v, H', I', r, q⟩ => ⟨v, H', I', r, k _ _ q⟩
theorem semT_mono {Q Q' : Bool → Hp → Prop} (h : semT X e σ H Q) (k : ∀ v H', Q v H' → Q' v H') : semT X e σ H Q' := fun pins s I =>
  thn (h pins s I) fun _ _ ⟨H', I', q⟩ => ⟨H', I', k _ _ q⟩
theorem semA_mono {Q Q' : List V → Hp → Prop} (h : semA X es σ H Q) (k : ∀ v H', Q v H' → Q' v H') : semA X es σ H Q' := fun pos pins s I =>
  thn (h pos pins s I) fun _ _ ⟨v, H', I', r, q⟩ => ⟨v, H', I', r, k _ _ q⟩
end

/-! ### the answers -/
section
variable (X : Fx) (F : Hp) (r : Rho) (H : Hp)
/-- wanted of a value and the store behind -/
def Post (d : D) (S' : Sto) (Q : VK) : Prop := ∀ F' r' H' v, Rel X F' r' S' H' → Ext F r H F' r' H' → VR X F' r' d v → Q v H'
/-- .. of values -/
def PostL (ds : List D) (S' : Sto) (Q : List V → Hp → Prop) : Prop := ∀ F' r' H' vs, Rel X F' r' S' H' → Ext F r H F' r' H' → VRs X F' r' ds vs → Q vs H'
def PostB (b : Bool) (S' : Sto) (Q : Bool → Hp → Prop) : Prop := ∀ F' r' H', Rel X F' r' S' H' → Ext F r H F' r' H' → Q b H'
end
section
variable {X : Fx} {F : Hp} {r : Rho} {H : Hp} {S S' : Sto} {d : D} {Q : VK}
theorem Post.now (p : Post X F r H d S Q) (R : Rel X F r S H) {v : V} (h : VR X F r d v) : Q v H := p F r H v R (.refl ..) h
theorem Post.step {F' : Hp} {r' : Rho} {H' : Hp} (p : Post X F r H d S Q) (x : Ext F r H F' r' H') : Post X F' r' H' d S Q := fun F2 r2 H2 v R2 x2 h => p F2 r2 H2 v R2 (x.trans x2) h
theorem PostL.step {F' : Hp} {r' : Rho} {H' : Hp} {ds : List D} {Q : List V → Hp → Prop} (p : PostL X F r H ds S Q) (x : Ext F r H F' r' H') : PostL X F' r' H' ds S Q := fun F2 r2 H2 v R2 x2 h => p F2 r2 H2 v R2 (x.trans x2) h
/-- a new tuple -/
theorem Post.tup {xs : List D} {vs : List V} (p : Post X F r H (.tup xs) S Q) (R : Rel X F r S H) (h : VRs X F r xs vs) : ∀ a, H a = none → Q (.ref a) (upd H a (.tup vs)) := fun a ha =>
  let ⟨R', x⟩ := R.laidF ha (.tup vs)
  p _ _ _ _ R' x (.tup (.of upd_same) (x.monos h))
theorem Post.lst {xs : List D} {vs : List V} (p : Post X F r H (.lst xs) S Q) (R : Rel X F r S H) (h : VRs X F r xs vs) : ∀ a, H a = none → Q (.ref a) (upd H a (.lst vs)) := fun a ha =>
  let ⟨R', x⟩ := R.laidF ha (.lst vs)
  p _ _ _ _ R' x (.lst upd_same (x.monos h))
end

/-! ### what may be read -/
section
variable {X : Fx} {F : Hp} {r : Rho} {H : Hp} {S : Sto} {d : D} {v : V} {xs : List D}
theorem VR.isTup (R : Rel X F r S H) (h : VR X F r (.tup xs) v) : ∃ a vs, v = .ref a ∧ SqT X.K H a vs ∧ VRs X F r xs vs := by
  cases h with
  | tup h hs => exact ⟨_, _, rfl, Same.seqT R.sub h, hs⟩
/-- a list of whatever standing -/
theorem VR.isLst (R : Rel X F r S H) (h : VR X F r d v) (hl : isLst S d = true) (hi : items S d = some xs) : ∃ a vs, v = .ref a ∧ SqL X.K H a vs ∧ VRs X F r xs vs := by
  cases d with
  | lst ys => cases hi; cases h with
    | lst h hs => exact ⟨_, _, rfl, .of (R.sub _ _ h), hs⟩
  | scr ys => cases hi; cases h with
    | scr h hs => exact ⟨_, _, rfl, R.sub.seq h, hs⟩
  | ref n =>
    have hi' : (match S[n]? with | some (Ob.lst xs) => some xs | _ => none) = some xs := hi
    cases e : S[n]? with
    | none => rw [e] at hi'; cases hi'
    | some o =>
      rw [e] at hi'
      cases o with
      | lst ys =>
        cases hi'
        obtain ⟨a, ha⟩ := R.live n _ e (by intro z; cases z)
        obtain ⟨o, h1, h2⟩ := R.ob n a ha
        rw [e] at h1; cases h1
        obtain ⟨vs, h3, h4⟩ := h2
        cases h with
        | ref hn hv => exact ⟨a, vs, hv a ha, .of h3, h4⟩
      | _ => cases hi'
  | _ => cases hl
theorem isLst_or {d : D} (h : items S d = some xs) : isLst S d = true ∨ d = .tup xs := by
  cases d with
  | lst ys => exact .inl rfl
  | scr ys => exact .inl rfl
  | tup ys => cases h; exact .inr rfl
  | ref n =>
    have hi' : (match S[n]? with | some (Ob.lst xs) => some xs | _ => none) = some xs := h
    refine .inl ?_
    show (match S[n]? with | some (Ob.lst _) => true | _ => false) = true
    cases e : S[n]? with
    | none => rw [e] at hi'; cases hi'
    | some o =>
      rw [e] at hi'
      cases o with
      | lst ys => rfl
      | _ => cases hi'
  | _ => cases h
/-- items of a list, a tuple -/
theorem VR.items (R : Rel X F r S H) (h : VR X F r d v) (hi : items S d = some xs) : ∃ a vs, v = .ref a ∧ (SqL X.K H a vs ∨ SqT X.K H a vs) ∧ VRs X F r xs vs := by
  rcases isLst_or hi with q | q
  · obtain ⟨a, vs, h1, h2, h3⟩ := h.isLst R q hi
    exact ⟨a, vs, h1, .inl h2, h3⟩
  · subst q
    obtain ⟨a, vs, h1, h2, h3⟩ := h.isTup R
    exact ⟨a, vs, h1, .inr h2, h3⟩
end

/-! ### truth -/
theorem truth_ok {X : Fx} {F : Hp} {r : Rho} {H : Hp} {S : Sto} {d : D} {v : V} {b : Bool} (R : Rel X F r S H) (h : VR X F r d v) (e : truth S d = some b) : TruV X.K v H b := by
  have gen : ∀ xs, items S d = some xs → b = !xs.isEmpty → TruV X.K v H b := fun xs hi hb => by
    obtain ⟨a, vs, rfl, h2, h3⟩ := h.items R hi
    have q : xs.isEmpty = vs.isEmpty := by cases h3 <;> rfl
    rcases h2 with h2 | h2
    · exact .inl ⟨vs, h2, by rw [hb, q]⟩
    · exact .inr (.inl ⟨vs, h2, by rw [hb, q]⟩)
  have gen2 : ∀ (d' : D), d = d' → (match items S d' with | some xs => some (!xs.isEmpty) | none => none) = some b → TruV X.K v H b := fun d' ed q => by
    subst ed
    cases hi : items S d with
    | none => rw [hi] at q; cases q
    | some xs => rw [hi] at q; exact gen xs hi (Option.some.inj q).symm
  cases d with
  | non => cases h; cases e; rfl
  | bl k => cases h; cases e; rfl
  | int i => cases h; cases e; rfl
  | str x =>
    cases h
    have e' : (if x.length ≤ sizeLine then some (x.length != 0) else none) = some b := e
    by_cases hl : x.length ≤ sizeLine
    · rw [if_pos hl] at e'
      cases e'
      refine ⟨hl, ?_⟩
      by_cases z : x.length = 0
      · show (x.length != 0) = ((x.length : Int) != 0)
        rw [z] <;> rfl
      · have z2 : (x.length : Int) ≠ 0 := by omega
        show (x.length != 0) = ((x.length : Int) != 0)
        rw [bne_iff_ne.mpr z, bne_iff_ne.mpr z2]
    · rw [if_neg hl] at e'; cases e'
  | tup xs => exact gen2 _ rfl e
  | lst xs => exact gen2 _ rfl e
  | scr xs => exact gen2 _ rfl e
  | ref n => exact gen2 _ rfl e
  | _ => cases e
end DV
end

section
set_option Elab.async false
set_option linter.all false
set_option maxRecDepth 100000
set_option autoImplicit false
/-! Operators by values. -/
namespace DV
open PySem L2
section
variable {X : Cx} {sl : Slo} {F : Hp} {r : Rho} {H : Hp} {S : Sto} {x y z : D} {v u : V} {Q : VK}

theorem binop_ok {op : Operator} (R : Rel (fx X sl) F r S H) (hx : VR (fx X sl) F r x v) (hy : VR (fx X sl) F r y u) (e : binop op x y = some z) (p : Post (fx X sl) F r H z S Q) :
    ∃ rr : R2, OpR X (binaryOp op) rr ∧ rr v u H Q := by
  unfold binop at e
  split at e
  · -- +
    cases e; cases hx; cases hy
    exact ⟨_, op_add, _, _, rfl, rfl, p.now R (.int _)⟩
  · rename_i a b
    split at e <;> cases e
    rename_i hl
    cases hx; cases hy
    exact ⟨_, op_add_str, _, _, rfl, rfl, hl, p.now R (.str _)⟩
  · rename_i a b
    split at e <;> cases e
    rename_i hl
    obtain ⟨p1, vs, rfl, h1, r1⟩ := hx.isTup R
    obtain ⟨p2, ws, rfl, h2, r2⟩ := hy.isTup R
    have l1 := r1.length
    have l2 := r2.length
    refine ⟨_, op_catA, _, _, _, _, rfl, rfl, h1, h2, by omega, fun z => ?_, fun _ z => ?_, fun _ _ => p.tup R (r1.append r2)⟩
    · subst z
      have : a = [] := List.eq_nil_of_length_eq_zero (by simpa using l1)
      subst this
      exact p.now R hy
    · subst z
      have : b = [] := List.eq_nil_of_length_eq_zero (by simpa using l2)
      subst this
      rw [List.append_nil] at p
      exact p.now R hx
  · rename_i a b
    split at e <;> cases e
    rename_i hl
    cases hx with
    | lst h1 r1 =>
      cases hy with
      | lst h2 r2 =>
        have l1 := r1.length
        have l2 := r2.length
        exact ⟨_, op_cat, _, _, _, _, rfl, rfl, R.sub _ _ h1, R.sub _ _ h2, by omega, p.lst R (r1.append r2)⟩
  · cases e; cases hx; cases hy
    exact ⟨_, op_sub, _, _, rfl, rfl, p.now R (.int _)⟩
  · split at e <;> cases e
    rename_i hl
    cases hx; cases hy
    exact ⟨_, op_mulW, _, _, rfl, rfl, (show _ < _ from of_decide_eq_true hl), p.now R (.int _)⟩
  · rename_i i j
    split at e <;> cases e
    rename_i hl
    cases hx; cases hy
    have hl' : (decide (j ≠ 0) && (decide (j.natAbs < 1073741824) || (decide (0 < j) && decide (j.natAbs.log2 < 9000)))) = true := hl
    simp only [Bool.and_eq_true, Bool.or_eq_true, decide_eq_true_eq] at hl'
    obtain ⟨h0, h | ⟨h1, h2⟩⟩ := hl'
    · exact ⟨_, op_fdivN, _, _, rfl, rfl, ⟨h0, h⟩, p.now R (.int _)⟩
    · refine ⟨_, op_fdivW, _, _, rfl, rfl, ⟨h1, h2⟩, ?_⟩
      show Q (V.int (i / j)) H
      rw [← Int.fdiv_eq_ediv_of_nonneg i (show 0 ≤ j by omega)]
      exact p.now R (.int _)
  · split at e <;> cases e
    rename_i hl
    cases hx; cases hy
    exact ⟨_, op_modN, _, _, rfl, rfl, hl, p.now R (.int _)⟩
  · split at e <;> cases e
    rename_i hl
    cases hx; cases hy
    exact ⟨_, op_pow, _, _, rfl, rfl, hl, p.now R (.int _)⟩
  · cases e

/-! ### equality -/
mutual
theorem toPy_ok (hF : L2.Same F H) : ∀ {x : D} {v : V} {d : PyData}, VR (fx X sl) F r x v → toPy x = some d → Dp X.K H v d
  | .non, _, _, .non, e => by cases e; exact .non
  | .bl b, _, _, .bl _, e => by cases e; exact .bl b
  | .int i, _, _, .int _, e => by cases e; exact .int i
  | .str z, _, _, .str _, e => by cases e; exact .str z
  | .tup xs, _, _, .tup h hs, e => by
    have e' : (toPys xs).map PyData.tuple = some _ := e
    cases q : toPys xs with
    | none => rw [q] at e'; cases e'
    | some ds => rw [q] at e'; cases e'; exact .tup (Same.seqT hF h) (toPys_ok hF hs q)
  | .lst xs, _, _, .lst h hs, e => by
    have e' : (toPys xs).map PyData.list = some _ := e
    cases q : toPys xs with
    | none => rw [q] at e'; cases e'
    | some ds => rw [q] at e'; cases e'; exact .lst (.of (hF _ _ h)) (toPys_ok hF hs q)
theorem toPys_ok (hF : L2.Same F H) : ∀ {xs : List D} {vs : List V} {ds : List PyData}, VRs (fx X sl) F r xs vs → toPys xs = some ds → DpAll X.K H vs ds
  | [], _, _, .nil, e => by cases e; exact .nil
  | x :: xs, _, _, .cons h hs, e => by
    have e' : (match toPy x, toPys xs with | some d, some ds => some (d :: ds) | _, _ => none) = some _ := e
    cases q1 : toPy x with
    | none => rw [q1] at e'; cases e'
    | some d =>
      cases q2 : toPys xs with
      | none => rw [q1, q2] at e'; cases e'
      | some ds => rw [q1, q2] at e'; cases e'; exact .cons (toPy_ok hF h q1) (toPys_ok hF hs q2)
end
theorem deq_ok {b : Bool} (hu : X.A.units + 64 < cLine) (R : Rel (fx X sl) F r S H) (hx : VR (fx X sl) F r x v) (hy : VR (fx X sl) F r y u) (e : deq x y = some b) :
    (∃ rr : R2, OpR X (compareOp .Eq) rr ∧ ∀ Q : VK, Q (.bl b) H → rr v u H Q) ∧ (∃ rr : R2, OpR X (compareOp .NotEq) rr ∧ ∀ Q : VK, Q (.bl (!b)) H → rr v u H Q) := by
  have flat : scal v u = true → b = decide (v = u) → (∃ rr : R2, OpR X (compareOp .Eq) rr ∧ ∀ Q : VK, Q (.bl b) H → rr v u H Q) ∧ (∃ rr : R2, OpR X (compareOp .NotEq) rr ∧ ∀ Q : VK, Q (.bl (!b)) H → rr v u H Q) := fun h1 h2 => by
    subst h2
    exact ⟨⟨_, op_eq, fun Q q => ⟨h1, q⟩⟩, ⟨_, op_ne, fun Q q => ⟨h1, q⟩⟩⟩
  have deep : (match toPy x, toPy y with | some d, some e => if SeqAt.shaped d && SeqAt.shaped e then some (PyData.eqv d e) else none | _, _ => none) = some b → (∃ rr : R2, OpR X (compareOp .Eq) rr ∧ ∀ Q : VK, Q (.bl b) H → rr v u H Q) ∧ (∃ rr : R2, OpR X (compareOp .NotEq) rr ∧ ∀ Q : VK, Q (.bl (!b)) H → rr v u H Q) := fun e' => by
    cases q1 : toPy x with
    | none => rw [q1] at e'; cases e'
    | some d1 =>
      cases q2 : toPy y with
      | none => rw [q1, q2] at e'; cases e'
      | some d2 =>
        rw [q1, q2] at e'
        cases hs : (SeqAt.shaped d1 && SeqAt.shaped d2) with
        | false => simp [hs] at e'
        | true =>
          have e2 : PyData.eqv d1 d2 = b := by simpa [hs] using e'
          obtain ⟨s1, s2⟩ := Bool.and_eq_true_iff.mp hs
          subst e2
          exact ⟨⟨_, op_eqD hu, fun Q q => ⟨d1, d2, toPy_ok R.sub hx q1, toPy_ok R.sub hy q2, s1, s2, q⟩⟩, ⟨_, op_neD hu, fun Q q => ⟨d1, d2, toPy_ok R.sub hx q1, toPy_ok R.sub hy q2, s1, s2, q⟩⟩⟩
  unfold deq at e
  split at e
  · cases e; cases hx; cases hy; exact flat rfl (by simp)
  · cases e; cases hx; cases hy; exact flat rfl (by simp)
  · cases e; cases hx; cases hy; exact flat rfl (by simp)
  · cases e; cases hx; cases hy; exact flat rfl (by simp)
  · cases e; cases hx; cases hy; exact flat rfl (by simp)
  · cases e; cases hx; cases hy; exact flat rfl (by simp)
  · cases e; cases hx; cases hy; exact flat rfl (by simp)
  · cases e; cases hx; cases hy; exact flat rfl (by simp)
  · cases e; cases hx; cases hy; exact flat rfl (by simp)
  · cases e; cases hx; cases hy; exact flat rfl (by simp)
  · cases e; cases hx; cases hy; exact flat rfl (by simp)
  · cases e; cases hx; cases hy; exact flat rfl (by simp)
  · cases e; cases hx; cases hy; exact flat rfl (by simp)
  · cases e; cases hx; cases hy; exact flat rfl (by simp)
  · exact deep e

/-! ### comparisons -/
def liveAt (S : Sto) (n : Nat) : Bool := match S[n]? with
  | some .dead => false
  | some _ => true
  | none => false
/-- x is None -/
def isNone (S : Sto) : D → Option Bool
  | .non => some true
  | .ref n => if liveAt S n then some false else none
  | _ => some false
def flatD : D → Bool
  | .non => true
  | .bl _ => true
  | .int _ => true
  | .str _ => true
  | _ => false
def eqF : D → D → Bool
  | .non, .non => true
  | .bl a, .bl b => a == b
  | .bl a, .int b => (if a then 1 else 0) == b
  | .int a, .bl b => a == (if b then 1 else 0)
  | .int a, .int b => a == b
  | .str a, .str b => a == b
  | _, _ => false
/-- x in a sequence: flat things; data in a list -/
def inS (S : Sto) (x y : D) : Option Bool := match items S y with
  | some ys => if flatD x && ys.all flatD then some (ys.any fun z => eqF z x) else
    if isLst S y then (match toPy x, toPys ys with
      | some d, some ds => if SeqAt.shaped d && SeqAt.shaped (.list ds) then some (ds.any fun z => PyData.eqv z d) else none
      | _, _ => none) else none
  | none => none
def strIn (w z : Str) : Bool := !(Builtin.Str.occurrences z w 0 z.length 1).isEmpty
def cmpV (op : CmpOp) (S : Sto) (x y : D) : Option Bool := match op with
  | .Eq => deq x y
  | .NotEq => (deq x y).map (!·)
  | .Lt => match x, y with
    | .int i, .int j => some (decide (i < j))
    | _, _ => none
  | .LtE => match x, y with
    | .int i, .int j => some (decide (i ≤ j))
    | _, _ => none
  | .Gt => match x, y with
    | .int i, .int j => some (decide (j < i))
    | _, _ => none
  | .GtE => match x, y with
    | .int i, .int j => some (decide (j ≤ i))
    | _, _ => none
  | .Is => match y with
    | .non => isNone S x
    | .bl b => match x with
      | .bl a => some (decide (a = b))
      | _ => none
    | _ => none
  | .IsNot => match y with
    | .non => (isNone S x).map (!·)
    | .bl b => match x with
      | .bl a => some (!decide (a = b))
      | _ => none
    | _ => none
  | .In => match y, x with
    | .str z, .str w => some (strIn w z)
    | y, x => inS S x y
  | .NotIn => match y, x with
    | .str z, .str w => some (!strIn w z)
    | y, x => (inS S x y).map (!·)

theorem live_get {X : Fx} {F : Hp} {r : Rho} {H : Hp} {S : Sto} {n : Nat} {v : V} (R : Rel X F r S H) (h : VR X F r (.ref n) v) (e : liveAt S n = true) : ∃ a, v = .ref a ∧ r[n]? = some (some a) := by
  unfold liveAt at e
  cases q : S[n]? with
  | none => rw [q] at e; cases e
  | some o =>
    have hne : o ≠ .dead := by
      intro z; subst z; rw [q] at e; cases e
    obtain ⟨a, ha⟩ := R.live n o q hne
    cases h with
    | ref hn hv => exact ⟨a, hv a ha, ha⟩
theorem isNone_ok {X : Fx} {F : Hp} {r : Rho} {H : Hp} {S : Sto} {d : D} {v : V} {b : Bool} (R : Rel X F r S H) (h : VR X F r d v) (e : isNone S d = some b) : b = decide (v = .non) := by
  unfold isNone at e
  split at e
  · cases e; cases h; simp
  · split at e
    · cases e
      rename_i hl
      obtain ⟨a, rfl, _⟩ := live_get R h hl
      simp
    · cases e
  · rename_i h1 h2
    cases e
    cases h <;> first | (exact absurd rfl h1) | (exact absurd rfl (h2 _)) | (simp; done)
theorem flat_ok {X : Fx} {F : Hp} {r : Rho} {d : D} {v : V} (h : VR X F r d v) (f : flatD d = true) : flatV v = true := by
  cases h <;> first | rfl | cases f
theorem eqF_ok {X : Fx} {F : Hp} {r : Rho} {x y : D} {v u : V} (hx : VR X F r x v) (hy : VR X F r y u) (fx : flatD x = true) (fy : flatD y = true) : eqF x y = eqV v u := by
  cases hx <;> first
    | (cases fx; done)
    | (cases hy <;> first | rfl | (cases fy; done))
theorem flats_ok {X : Fx} {F : Hp} {r : Rho} : ∀ {ds : List D} {vs : List V}, VRs X F r ds vs → ds.all flatD = true → vs.all flatV = true
  | _, _, .nil, _ => rfl
  | _, _, .cons h hs, f => by
    rw [List.all_cons, Bool.and_eq_true] at f
    rw [List.all_cons, Bool.and_eq_true]
    exact ⟨flat_ok h f.1, flats_ok hs f.2⟩
theorem any_ok {X : Fx} {F : Hp} {r : Rho} {x : D} {v : V} (hx : VR X F r x v) (fx : flatD x = true) : ∀ {ds : List D} {vs : List V}, VRs X F r ds vs → ds.all flatD = true → (ds.any fun z => eqF z x) = inV v vs
  | _, _, .nil, _ => rfl
  | _, _, .cons h hs, f => by
    rw [List.all_cons, Bool.and_eq_true] at f
    show (eqF _ x || _) = (eqV _ v || _)
    rw [eqF_ok h hx f.1 fx]
    congr 1
    exact any_ok hx fx hs f.2
theorem inS_ok {b : Bool} (hu : X.A.units + 65 < cLine) (R : Rel (fx X sl) F r S H) (hx : VR (fx X sl) F r x v) (hy : VR (fx X sl) F r y u) (e : inS S x y = some b) :
    (∃ rr : R2, OpR X (compareOp .In) rr ∧ ∀ Q : VK, Q (.bl b) H → rr v u H Q) ∧ (∃ rr : R2, OpR X (compareOp .NotIn) rr ∧ ∀ Q : VK, Q (.bl (!b)) H → rr v u H Q) := by
  unfold inS at e
  cases hi : items S y with
  | none => rw [hi] at e; cases e
  | some ys =>
    rw [hi] at e
    simp only at e
    split at e
    · rename_i hf
      rw [Bool.and_eq_true] at hf
      cases e
      obtain ⟨a, vs, rfl, h2, h3⟩ := hy.items R hi
      have k := any_ok hx hf.1 h3 hf.2
      refine ⟨⟨_, op_in_seq, fun Q q => ⟨a, vs, rfl, h2, flat_ok hx hf.1, flats_ok h3 hf.2, ?_⟩⟩, ⟨_, op_notIn_seq, fun Q q => ⟨a, vs, rfl, h2, flat_ok hx hf.1, flats_ok h3 hf.2, ?_⟩⟩⟩
      · rw [← k]; exact q
      · rw [← k]; exact q
    · split at e
      · rename_i hl
        obtain ⟨a, vs, rfl, h2, h3⟩ := hy.isLst R hl hi
        cases q1 : toPy x with
        | none => rw [q1] at e; cases e
        | some d =>
          cases q2 : toPys ys with
          | none => rw [q1, q2] at e; cases e
          | some ds =>
            rw [q1, q2] at e
            simp only at e
            split at e
            · rename_i hs
              rw [Bool.and_eq_true] at hs
              cases e
              have d1 := toPy_ok R.sub hx q1
              have d2 : Dp X.K H (.ref a) (.list ds) := .lst h2 (toPys_ok R.sub h3 q2)
              exact ⟨⟨_, op_inD hu, fun Q q => ⟨d, ds, d1, d2, hs.1, hs.2, q⟩⟩, ⟨_, op_notInD hu, fun Q q => ⟨d, ds, d1, d2, hs.1, hs.2, q⟩⟩⟩
            · cases e
      · cases e
theorem cmp_ok {op : CmpOp} {b : Bool} (hu : X.A.units + 65 < cLine) (R : Rel (fx X sl) F r S H) (hx : VR (fx X sl) F r x v) (hy : VR (fx X sl) F r y u) (e : cmpV op S x y = some b) :
    ∃ rr : R2, OpR X (compareOp op) rr ∧ ∀ Q : VK, Q (.bl b) H → rr v u H Q := by
  have hu' : X.A.units + 64 < cLine := by omega
  cases op with
  | Eq => exact (deq_ok hu' R hx hy e).1
  | NotEq =>
    have e' : (deq x y).map (!·) = some b := e
    cases q : deq x y with
    | none => rw [q] at e'; cases e'
    | some c => rw [q] at e'; cases e'; exact (deq_ok hu' R hx hy q).2
  | Lt =>
    unfold cmpV at e
    simp only at e
    split at e <;> cases e
    cases hx; cases hy
    exact ⟨_, op_lt, fun Q q => ⟨_, _, rfl, rfl, q⟩⟩
  | LtE =>
    unfold cmpV at e
    simp only at e
    split at e <;> cases e
    cases hx; cases hy
    exact ⟨_, op_le, fun Q q => ⟨_, _, rfl, rfl, q⟩⟩
  | Gt =>
    unfold cmpV at e
    simp only at e
    split at e <;> cases e
    cases hx; cases hy
    exact ⟨_, op_gt, fun Q q => ⟨_, _, rfl, rfl, q⟩⟩
  | GtE =>
    unfold cmpV at e
    simp only at e
    split at e <;> cases e
    cases hx; cases hy
    exact ⟨_, op_ge, fun Q q => ⟨_, _, rfl, rfl, q⟩⟩
  | Is =>
    unfold cmpV at e
    simp only at e
    split at e
    · cases hy
      have k := isNone_ok R hx e
      exact ⟨_, op_isN, fun Q q => ⟨rfl, by rw [← k]; exact q⟩⟩
    · split at e <;> cases e
      cases hx; cases hy
      exact ⟨_, op_is_bl, fun Q q => ⟨_, _, rfl, rfl, q⟩⟩
    · cases e
  | IsNot =>
    unfold cmpV at e
    simp only at e
    split at e
    · cases hy
      cases k0 : isNone S x with
      | none => rw [k0] at e; cases e
      | some c =>
        rw [k0] at e
        cases e
        have k := isNone_ok R hx k0
        exact ⟨_, op_notN, fun Q q => ⟨rfl, by rw [← k]; exact q⟩⟩
    · split at e <;> cases e
      cases hx; cases hy
      exact ⟨_, op_isnot_bl, fun Q q => ⟨_, _, rfl, rfl, q⟩⟩
    · cases e
  | In =>
    unfold cmpV at e
    simp only at e
    split at e
    · cases e; cases hx; cases hy
      exact ⟨_, op_in_str, fun Q q => ⟨_, _, rfl, rfl, q⟩⟩
    · exact (inS_ok hu R hx hy e).1
  | NotIn =>
    unfold cmpV at e
    simp only at e
    split at e
    · cases e; cases hx; cases hy
      exact ⟨_, op_notIn_str, fun Q q => ⟨_, _, rfl, rfl, q⟩⟩
    · cases k0 : inS S x y with
      | none => rw [k0] at e; cases e
      | some c => rw [k0] at e; cases e; exact (inS_ok hu R hx hy k0).2

/-! ### places and slices -/
def getV (S : Sto) (x y : D) : Option D := match y with
  | .int i => match x with
    | .str z => if z.length ≤ sizeLine then (atI z.cps.toList i).map fun c => .str ⟨#[c]⟩ else none
    | x => match items S x with
      | some xs => atI xs i
      | none => none
  | _ => none
theorem VRs.atI {X : Fx} {F : Hp} {r : Rho} {ds : List D} {vs : List V} {i : Int} {d : D} (h : VRs X F r ds vs) (e : L2.atI ds i = some d) : ∃ v, L2.atI vs i = some v ∧ VR X F r d v := by
  unfold L2.atI at e ⊢
  rw [← h.length]
  cases q : ixN ds.length i with
  | none => rw [q] at e; cases e
  | some j =>
    rw [q] at e
    exact h.get e
theorem getV_ok (R : Rel (fx X sl) F r S H) (hx : VR (fx X sl) F r x v) (hy : VR (fx X sl) F r y u) (e : getV S x y = some z) : ∃ rr : R2, IxR X rr ∧ ∀ Q : VK, (∀ w, VR (fx X sl) F r z w → Q w H) → rr v u H Q := by
  unfold getV at e
  split at e
  · cases hy
    split at e
    · split at e
      · rename_i hl
        cases hx
        rename_i i _ zz
        cases q : L2.atI zz.cps.toList i with
        | none => rw [q] at e; cases e
        | some c => rw [q] at e; cases e; exact ⟨_, ix_str, fun Q k => ⟨_, _, c, rfl, rfl, hl, q, k _ (.str _)⟩⟩
      · cases e
    · rename_i x' _
      cases hi : items S x with
      | none => rw [hi] at e; cases e
      | some xs =>
        rw [hi] at e
        obtain ⟨a, vs, rfl, h2, h3⟩ := hx.items R hi
        obtain ⟨w, h4, h5⟩ := h3.atI e
        rcases h2 with h2 | h2
        · exact ⟨_, ix_list, fun Q k => ⟨_, _, _, w, rfl, rfl, h2, h4, k _ h5⟩⟩
        · exact ⟨_, ix_tup, fun Q k => ⟨_, _, _, w, rfl, rfl, h2, h4, k _ h5⟩⟩
  · cases e
def cutD (xs : List D) (lo hi : Option Int) : List D := (xs.drop (HT.sIx xs.length 0 lo)).take (HT.sIx xs.length xs.length hi - HT.sIx xs.length 0 lo)
theorem VRs.cut {X : Fx} {F : Hp} {r : Rho} {ds : List D} {vs : List V} (h : VRs X F r ds vs) (lo hi : Option Int) : VRs X F r (cutD ds lo hi) (cutV vs lo hi) := by
  unfold cutD cutV
  rw [h.length]
  exact (h.drop _).take _
def sliceV (S : Sto) (x : D) (lo hi : Option Int) : Option D := match x with
  | .str z => if z.length ≤ sizeLine then some (.str (cutS z lo hi)) else none
  | .tup xs => some (.tup (cutD xs lo hi))
  | x => if isLst S x then (items S x).map fun xs => .lst (cutD xs lo hi) else none
theorem cutD_all (xs : List D) (lo hi : Option Int) (h : HT.sIx xs.length 0 lo = 0 ∧ HT.sIx xs.length xs.length hi = xs.length) : cutD xs lo hi = xs := by
  unfold cutD
  rw [h.1, h.2]
  simp
theorem sliceV_ok {lo hi : Option Int} (R : Rel (fx X sl) F r S H) (hx : VR (fx X sl) F r x v) (e : sliceV S x lo hi = some z) (p : Post (fx X sl) F r H z S Q) :
    ∃ rr : V → Option Int → Option Int → Hp → VK → Prop, SlR X rr ∧ rr v lo hi H Q := by
  unfold sliceV at e
  split at e
  · split at e <;> cases e
    rename_i hl
    cases hx
    exact ⟨_, sl_str, _, rfl, hl, p.now R (.str _)⟩
  · cases e
    obtain ⟨a, vs, rfl, h2, h3⟩ := hx.isTup R
    refine ⟨_, sl_tupA, a, vs, rfl, h2, fun z => ?_, fun _ => p.tup R (h3.cut lo hi)⟩
    rw [cutD_all _ lo hi (by rw [h3.length]; exact z)] at p
    exact p.now R hx
  · rename_i x' _ _
    split at e
    · rename_i hl
      cases hi' : items S x with
      | none => rw [hi'] at e; cases e
      | some xs =>
        rw [hi'] at e; cases e
        obtain ⟨a, vs, rfl, h2, h3⟩ := hx.isLst R hl hi'
        exact ⟨_, sl_list, a, vs, rfl, h2, p.lst R (h3.cut lo hi)⟩
    · cases e
end
end DV
end

section
set_option Elab.async false
set_option linter.all false
set_option maxRecDepth 100000
set_option autoImplicit false
/-! The evaluator. -/
namespace DV
open PySem L2

abbrev Slots := List (Option D)

/-! ### equality of values -/
mutual
def D.beq : D → D → Bool
  | .non, .non => true
  | .bl a, .bl b => decide (a = b)
  | .int a, .int b => decide (a = b)
  | .str a, .str b => decide (a = b)
  | .tup a, .tup b => beqL a b
  | .lst a, .lst b => beqL a b
  | .dict k a, .dict j b => decide (k = j) && beqL a b
  | .kd k a, .kd j b => decide (k = j) && beqL a b
  | .obj c n a, .obj e m b => decide (c = e) && (decide (n = m) && beqL a b)
  | .fn a, .fn b => decide (a = b)
  | .scr a, .scr b => beqL a b
  | .ref a, .ref b => decide (a = b)
  | _, _ => false
def beqL : List D → List D → Bool
  | [], [] => true
  | x :: xs, y :: ys => D.beq x y && beqL xs ys
  | _, _ => false
end

/-! ### what is set still behind a call -/
def fz : Nat → Sto → D → Option D
  | 0, _, _ => none
  | k + 1, S, d => if d.clo then some d else match d with
    | .ref n => match S[n]? with
      | some (.lst xs) => (fzL (fz k S) xs).map .lst
      | some (.dict ks xs) => (fzL (fz k S) xs).map (.dict ks)
      | some (.ins c ns xs) => (fzL (fz k S) xs).map (.obj c ns)
      | _ => none
    | .tup xs => (fzL (fz k S) xs).map .tup
    | .lst xs => (fzL (fz k S) xs).map .lst
    | _ => none
where
  fzL (f : D → Option D) : List D → Option (List D)
    | [] => some []
    | x :: xs => match f x, fzL f xs with
      | some y, some ys => some (y :: ys)
      | _, _ => none

/-! ### what is there of the program -/
inductive Kind where
  | fn
  | meth (c m : Str)
  | prop (c m : Str)
  | cm (c m : Str)
structure FnI where
  lev : Nat
  kind : Kind
  ps : List Str
  dfl : List D
  pur : Bool
  frz : Bool
  run : List D → Sto → Res D
  kws : List (List Str) := []
structure ClI where
  slots : Bool
  isi : Bool := false
  rec_ : Bool
  flds : List Str
structure Gen where
  lev : Nat
  glob : Str → Option D
  fns : Str → Option FnI
  cls : Str → Option ClI
  free : Str → Bool
structure Ctx where
  N : List Str
  sc : Scope
  G : Gen
  mutv : List Str
  top : Bool
  mret : Bool

def runP (f : FnI) (args : List D) (S : Sto) : Res D :=
  if f.pur && cloL args then match f.run args [] with
    | .ok d S' => match fz 8 S' d with
      | some d' => .ok d' S
      | none => .bad
    | .exc c ns xs _ => if cloL xs then .exc c ns xs S else .bad
    | .bad => .bad
  else match f.run args S with
    | .ok d S' => if f.frz then (match d with
      | .ref n => match S'[n]? with
        | some (.lst xs) => if cloL xs then .ok (.lst xs) (S'.set n .dead) else .ok d S'
        | some (.dict ks xs) => if cloL xs then .ok (.dict ks xs) (S'.set n .dead) else .ok d S'
        | _ => .ok d S'
      | d => .ok d S') else .ok d S'
    | r => r
/-- the arguments, the defaults behind them -/
def fill (f : FnI) (args : List D) : List D := args ++ f.dfl.drop (f.dfl.length - (f.ps.length - args.length))
def runF (f : FnI) (args : List D) (S : Sto) : Res D :=
  let as := fill f args
  if as.length = f.ps.length then runP f as S else .bad
def isFnK : Kind → Bool
  | .fn => true
  | _ => false
def isMeK (c m : Str) : Kind → Bool
  | .meth c' m' => decide (c' = c) && decide (m' = m)
  | _ => false
/-- a def of the module -/
def fnOk (G : Gen) (x : Str) : Option FnI := match G.fns x with
  | some f => if isFnK f.kind && decide (f.lev ≤ G.lev) then some f else none
  | none => none
/-- a method -/
def meOk (G : Gen) (c m : Str) : Option FnI := match G.fns (c ++ "." ++ m) with
  | some f => if isMeK c m f.kind && decide (f.lev ≤ G.lev) then some f else none
  | none => none
/-- a class, its __init__ -/
def mkOk (G : Gen) (c : Str) : Option (ClI × FnI) := match G.cls c, G.fns (c ++ ".__init__") with
  | some ci, some f => if isMeK c "__init__" f.kind && decide (f.lev + 1 ≤ G.lev) then some (ci, f) else none
  | _, _ => none
def callF (G : Gen) (x : Str) (args : List D) (S : Sto) : Res D := (fnOk G x).elim .bad fun f => runF f args S
/-- C(..) -/
def makeR (c : Str) (ci : ClI) (f : FnI) (args : List D) (S : Sto) : Res D :=
  if (fill f (.non :: args)).length = f.ps.length then
    if ci.rec_ && cloL args then match f.run (.ref 0 :: (fill f (.non :: args)).drop 1) [.ins c [] []] with
      | .ok .non S' => match fz 8 S' (.ref 0) with
        | some d' => .ok d' S
        | none => .bad
      | .exc e ns xs _ => if cloL xs then .exc e ns xs S else .bad
      | _ => .bad
    else match f.run (.ref S.length :: (fill f (.non :: args)).drop 1) (S ++ [.ins c [] []]) with
      | .ok .non S' => .ok (.ref S.length) S'
      | .exc e ns xs S' => .exc e ns xs S'
      | _ => .bad
  else .bad
def makeC (G : Gen) (c : Str) (args : List D) (S : Sto) : Res D := (mkOk G c).elim .bad fun p => makeR c p.1 p.2 args S

def ixOf (N : List Str) (x : Str) : Option Nat := go N 0
where
  go : List Str → Nat → Option Nat
    | [], _ => none
    | y :: ys, i => if y = x then some i else go ys (i + 1)
def visK : Option NameKind → Bool
  | some .local => true
  | some .cell => true
  | some .free => true
  | _ => false
def badName (x : Str) : Bool := decide (x = "__debug__") || decide (x = "__classdict__") || decide (x = "__name__")
/-- a name's value -/
def look (c : Ctx) (x : Str) (v : Slots) : Option D :=
  if badName x then none else
  if visK (c.sc.names.lookup x) then (match ixOf c.N x with
    | some i => (v[i]?).join
    | none => none)
  else if decide (c.sc.names.lookup x = some .globalImplicit) then (c.G.glob x) else none
def isGl (c : Ctx) (x : Str) : Bool := !badName x && decide (c.sc.names.lookup x = some .globalImplicit)
def isBl (c : Ctx) (x : Str) : Bool := isGl c x && c.G.free x

/-! ### built-in functions by values -/
def intsOf : List D → Option (List Int)
  | [] => some []
  | .int i :: xs => (intsOf xs).map (i :: ·)
  | _ => none
def strsOf : List D → Option (List Str)
  | [] => some []
  | .str i :: xs => (strsOf xs).map (i :: ·)
  | _ => none
def boolsOf : List D → Option (List Bool)
  | [] => some []
  | .bl i :: xs => (boolsOf xs).map (i :: ·)
  | _ => none
def strOk (i : Int) : Bool := decide (i.natAbs.log2 < 1920)
/-- ints in order -/
def insI (i : Int) : List Int → List Int
  | [] => [i]
  | j :: js => if i ≤ j then i :: j :: js else j :: insI i js
def sortI : List Int → List Int
  | [] => []
  | i :: is => insI i (sortI is)
def keyInts : List Key → Option (List Int)
  | [] => some []
  | .inl i :: ks => (keyInts ks).map (i :: ·)
  | _ => none
def sortedV (S : Sto) (d : D) : Option D := if isTup d then none else match items S d with
  | some xs => (intsOf xs).map fun is => .lst ((sortI is).map .int)
  | none => match dictD S d with
    | some (ks, _) => if ks.length < 64 then (keyInts ks).map fun is => .lst ((sortI is).map .int) else none
    | none => none
def isSeq : D → Bool
  | .tup _ => true
  | .lst _ => true
  | _ => false
def reprV (d : D) : Option D := match d with
  | .int i => if strOk i then some (.str (Str.ofString (toString i))) else none
  | d => if isSeq d then match toPy d with
    | some p => if p.showable && (!p.hasDict && (decide (p.shown.length ≤ sizeLine) && decide (p.depth ≤ 60))) then some (.str p.shown) else none
    | none => none
    else none
def bLen (S : Sto) : List D → Option D
  | [.str z] => if z.length ≤ sizeLine then some (.int z.length) else none
  | [d] => (items S d).map fun xs => .int (xs.length : Nat)
  | _ => none
def bAbs : List D → Option D
  | [.int i] => some (.int (if i < 0 then -i else i))
  | _ => none
def bMax : List D → Option D
  | [.int i, .int j] => some (.int (if j > i then j else i))
  | _ => none
def bMin : List D → Option D
  | [.int i, .int j] => some (.int (if j < i then j else i))
  | _ => none
def bInt : List D → Option D
  | [.int i] => some (.int i)
  | [.bl b] => some (.int (if b then 1 else 0))
  | [.str z] => if z.length ≤ 640 then (intText? z).map .int else none
  | _ => none
def bStr : List D → Option D
  | [.int i] => if strOk i then some (.str (Str.ofString (toString i))) else none
  | _ => none
def bTup (S : Sto) : List D → Option D
  | [d] => (items S d).map .tup
  | _ => none
def bLst (S : Sto) : List D → Option D
  | [d] => (items S d).map .lst
  | _ => none
def lstItems (S : Sto) (d : D) : Option (List D) := if isTup d then none else items S d
def bAll (S : Sto) : List D → Option D
  | [d] => match lstItems S d with
    | some xs => (boolsOf xs).map fun bs => .bl (bs.all id)
    | none => none
  | _ => none
def bAny (S : Sto) : List D → Option D
  | [d] => match lstItems S d with
    | some xs => (boolsOf xs).map fun bs => .bl (bs.any id)
    | none => none
  | _ => none
def bSum (S : Sto) : List D → Option D
  | [d] => match lstItems S d with
    | some xs => (intsOf xs).map fun bs => .int bs.sum
    | none => none
  | _ => none
def bSorted (S : Sto) : List D → Option D
  | [d] => sortedV S d
  | _ => none
def bRepr : List D → Option D
  | [d] => reprV d
  | _ => none
def bDivmod : List D → Option D
  | [.int i, .int j] => if 0 < j ∧ j < 1073741824 then some (.tup [.int (i / j), .int (i % j)]) else none
  | _ => none
/-- the keys in tuples -/
def keysOf : List D → Option (List Key)
  | [] => some []
  | x :: xs => match toKey x, keysOf xs with
    | some k, some ks => some (k :: ks)
    | _, _ => none
def tupKeys : List D → Option (List (List Key))
  | [] => some []
  | .tup ys :: xs => match keysOf ys, tupKeys xs with
    | some k, some ks => some (k :: ks)
    | _, _ => none
  | _ => none
/-- len(set(d)), sorted(set(d)) -/
def setF (x : Str) (S : Sto) (d : D) : Option D := if isLst S d then match items S d with
  | some xs => (match intsOf xs with
    | some is => if is.length < 64 then (if x = "len" then some (.int (kmet is).length) else if x = "sorted" then some (.lst ((sortI (kmet is)).map .int)) else none) else none
    | none => match tupKeys xs with
      | some ks => if x = "len" ∧ ks.length < 64 then some (.int (kmet ks).length) else none
      | none => none)
  | none => none else none
def isBn (x : Str) : Bool := decide (x = "len") || (decide (x = "abs") || (decide (x = "max") || (decide (x = "min") || (decide (x = "int") || (decide (x = "str") || (decide (x = "tuple") || (decide (x = "list") || (decide (x = "all") || (decide (x = "any") || (decide (x = "sum") || (decide (x = "sorted") || (decide (x = "repr") || decide (x = "divmod")))))))))))))
def callB (x : Str) (S : Sto) (args : List D) : Option D :=
  if x = "len" then bLen S args
  else if x = "abs" then bAbs args
  else if x = "max" then bMax args
  else if x = "min" then bMin args
  else if x = "int" then bInt args
  else if x = "str" then bStr args
  else if x = "tuple" then bTup S args
  else if x = "list" then bLst S args
  else if x = "all" then bAll S args
  else if x = "any" then bAny S args
  else if x = "sum" then bSum S args
  else if x = "sorted" then bSorted S args
  else if x = "repr" then bRepr args
  else if x = "divmod" then bDivmod args
  else none
/-- what an own def stands for -/
def spName (x : Str) : Option Str := if x = "len" then some "__len__" else if x = "str" then some "__str__" else none
def backOk (x : Str) (r : D) : Bool := match r with
  | .int n => decide (x = "len") && (decide (0 ≤ n) && decide (n.toNat < 9223372036854775808))
  | .str _ => decide (x = "str")
  | _ => false
def backR (b : Bool) (r : D) (S : Sto) : Res D := match b with
  | true => .ok r S
  | false => .bad
/-- a built-in, of an instance by its class's own def -/
def callBO (G : Gen) (x : Str) (S : Sto) (ds : List D) : Res D := match ds with
  | [d] => (match insD S d, spName x with
    | some (cl, _, _), some m => (meOk G cl m).elim .bad fun f => if f.lev + 2 ≤ G.lev then (runF f [d] S).bind fun r S2 => backR (backOk x r) r S2 else .bad
    | _, _ => Res.opt S (callB x S ds))
  | _ => Res.opt S (callB x S ds)
def callBX (G : Gen) (x : Str) (S : Sto) (ds : List D) : Res D := if (spName x).isSome then callBO G x S ds else Res.opt S (callB x S ds)
/-- d's built-in type -/
def tyOfD (S : Sto) : D → Option String
  | .non => some "NoneType"
  | .bl _ => some "bool"
  | .int _ => some "int"
  | .str _ => some "str"
  | .tup _ => some "tuple"
  | .lst _ => some "list"
  | .scr _ => some "list"
  | .dict _ _ => some "dict"
  | .ref n => match S[n]? with
    | some (.lst _) => some "list"
    | some (.dict _ _) => some "dict"
    | _ => none
  | _ => none
/-- isinstance(d, T) -/
def isInst (S : Sto) (T : Str) (d : D) : Option Bool := match tyOfD S d with
  | some t => if T = "int" then some (decide (t = "int") || decide (t = "bool")) else if T = "bool" then some (decide (t = "bool")) else if T = "str" then some (decide (t = "str"))
    else if T = "tuple" then some (decide (t = "tuple")) else if T = "list" then some (decide (t = "list")) else if T = "dict" then some (decide (t = "dict")) else none
  | none => none
/-- a built-in's method by values; the receiver does not change -/
def methB (m : Str) (S : Sto) (o : D) (args : List D) : Option D := match o with
  | .str z =>
    if m = "split" then (match args with
      | [.str y] => if (y.length == 0) = false ∧ z.length + 2 ≤ sizeLine then some (.lst ((Txt.split z y).map .str)) else none
      | _ => none)
    else if m = "join" then (match args with
      | [d] => match items S d with
        | some xs => (match strsOf xs with
          | some ys => if (ys.map (·.length)).sum + ys.length * z.length ≤ 16777216 then some (.str (Txt.join z ys)) else none
          | none => none)
        | none => none
      | _ => none)
    else none
  | _ => none
/-- a method that changes its receiver, a list of the store -/
def methL (m : Str) (xs args : List D) : Option (List D) :=
  if m = "append" then (match args with
    | [d] => if xs.length < sizeLine then some (xs ++ [d]) else none
    | _ => none)
  else if m = "insert" then (match args with
    | [.int i, d] => if xs.length < sizeLine ∧ 0 ≤ i ∧ i < 2 ^ 63 then some (xs.take i.toNat ++ [d] ++ xs.drop i.toNat) else none
    | _ => none)
  else none

/-! ### the turns -/
inductive SRes where
  | bad
  | nx (v : Slots) (S : Sto)
  | rt (d : D) (S : Sto)
  | bk (v : Slots) (S : Sto)
  | ct (v : Slots) (S : Sto)
  | exc (c : Str) (ns : List Str) (xs : List D) (v : Slots) (S : Sto)
def Res.st {A : Type} (v : Slots) (m : Res A) (k : A → Sto → SRes) : SRes := match m with
  | .bad => .bad
  | .ok a S => k a S
  | .exc c ns xs S => .exc c ns xs v S
structure Rec where
  E : Ctx → Expr → Slots → Sto → Res D
  T : Ctx → Expr → Slots → Sto → Res Bool
  S : Ctx → Stmt → Slots → Sto → SRes

/-- an argument list, from the left -/
def evA (R : Rec) (c : Ctx) : List Expr → Slots → Sto → Res (List D)
  | [], _, S => .ok [] S
  | e :: es, v, S => match e with
    | .Starred e' _ => (R.E c e' v S).bind fun d S1 => match items S1 d with
      | some xs => (evA R c es v S1).bind fun ds S2 => .ok (xs ++ ds) S2
      | none => .bad
    | e => (R.E c e v S).bind fun d S1 => (evA R c es v S1).bind fun ds S2 => .ok (d :: ds) S2
def noStar : List Expr → Bool
  | [] => true
  | .Starred _ _ :: _ => false
  | _ :: es => noStar es
/-- a block -/
def evB (R : Rec) (c : Ctx) : List Stmt → Slots → Sto → SRes
  | [], v, S => .nx v S
  | s :: ss, v, S => match R.S c s v S with
    | .nx v' S' => evB R c ss v' S'
    | r => r
/-- a part of a slice -/
def evP (R : Rec) (c : Ctx) : Option Expr → Slots → Sto → Res (Option Int)
  | none, _, S => .ok none S
  | some e, v, S => (R.E c e v S).bind fun d S1 => match d with
    | .int i => .ok (some i) S1
    | _ => .bad
/-- what is walked: the items, the place of the store's list that must stand still -/
structure Itr where
  xs : List D
  src : Option Nat
  snap : List D
def itS (S : Sto) (d : D) : Option Itr := match d with
  | .str z => some ⟨z.cps.toList.map fun k => .str ⟨#[k]⟩, none, []⟩
  | .ref n => (items S d).map fun xs => ⟨xs, some n, xs⟩
  | d => (items S d).map fun xs => ⟨xs, none, []⟩
def okSrc (S : Sto) (t : Itr) : Bool := match t.src with
  | none => true
  | some n => match S[n]? with
    | some (.lst xs) => beqL xs t.snap
    | _ => false
def smallI (i : Int) : Bool := decide (i.natAbs < 2 ^ 62)
def isTupE : Expr → Bool
  | .Tuple _ _ _ => true
  | _ => false
def evI (R : Rec) (c : Ctx) (tg e : Expr) (v : Slots) (S : Sto) : Res Itr := match e with
  | .Call (.Name x p) args [] q =>
    if x = "range" then (match args with
      | [a] => if isBl c x && noStar [a] then (evA R c [a] v S).bind fun ds S1 => match ds with
        | [.int i] => if smallI i then .ok ⟨(List.range i.toNat).map fun (k : Nat) => .int (0 + k), none, []⟩ S1 else .bad
        | _ => .bad else .bad
      | [a, b] => if isBl c x && noStar [a, b] then (evA R c [a, b] v S).bind fun ds S1 => match ds with
        | [.int i, .int j] => if smallI i && smallI j then .ok ⟨(List.range (j - i).toNat).map fun (k : Nat) => .int (i + k), none, []⟩ S1 else .bad
        | _ => .bad else .bad
      | _ => .bad)
    else if x = "enumerate" then (match args with
      | [a] => if isTupE tg && (isBl c x && noStar [a]) then (evA R c [a] v S).bind fun ds S1 => match ds with
        | [d] => if isLst S1 d || isTup d then Res.opt S1 ((itS S1 d).map fun t => ⟨t.xs.mapIdx fun k y => .tup [.int (k : Nat), y], t.src, t.snap⟩) else .bad
        | _ => .bad else .bad
      | _ => .bad)
    else if x = "zip" then (match args with
      | [a, b] => if isTupE tg && (isBl c x && noStar [a, b]) then (evA R c [a, b] v S).bind fun ds S1 => match ds with
        | [.tup xs, .tup ys] => .ok ⟨(xs.zip ys).map fun p => .tup [p.1, p.2], none, []⟩ S1
        | [.lst xs, .lst ys] => .ok ⟨(xs.zip ys).map fun p => .tup [p.1, p.2], none, []⟩ S1
        | _ => .bad else .bad
      | _ => .bad)
    else (R.E c (.Call (.Name x p) args [] q) v S).bind fun d S1 => Res.opt S1 (itS S1 d)
  | e => (R.E c e v S).bind fun d S1 => Res.opt S1 (itS S1 d)

/-- a loop over items -/
def loopF (body : D → Slots → Sto → SRes) (t : Itr) : List D → Slots → Sto → SRes
  | [], v, S => if okSrc S t then .nx v S else .bad
  | d :: ds, v, S => if okSrc S t then match body d v S with
    | .nx v' S' => loopF body t ds v' S'
    | .ct v' S' => loopF body t ds v' S'
    | .bk v' S' => .nx v' S'
    | r => r
  else .bad
/-- a list comprehension's turns: what is gathered so far; no slot is left changed -/
def loopC (body : D → Sto → Res (Option D)) (t : Itr) : List D → List D → Sto → Res (List D)
  | [], acc, S => if okSrc S t then .ok acc S else .bad
  | d :: ds, acc, S => if okSrc S t then match body d S with
    | .ok (some y) S' => if acc.length < sizeLine then loopC body t ds (acc ++ [y]) S' else .bad
    | .ok none S' => loopC body t ds acc S'
    | _ => .bad
  else .bad
/-- a while's turns -/
def loopW (test : Slots → Sto → Res Bool) (body : Slots → Sto → SRes) : Nat → Slots → Sto → SRes
  | 0, _, _ => .bad
  | n + 1, v, S => (test v S).st v fun b S1 => if b then match body v S1 with
    | .nx v' S' => loopW test body n v' S'
    | .ct v' S' => loopW test body n v' S'
    | .bk v' S' => .nx v' S'
    | r => r
    else .nx v S1

/-- the slots of a block's own names -/
def ownIx (N : List Str) (sc : Scope) : List (Str × Nat) := sc.names.filterMap fun y => match y.2 with
  | .local => (ixOf N y.1).map fun i => (y.1, i)
  | .cell => (ixOf N y.1).map fun i => (y.1, i)
  | _ => none
def wipeD (v : Slots) : List Nat → Slots
  | [] => v
  | i :: is => (wipeD v is).set i none
/-- the scope of a block within a def -/
def blkCtx (c : Ctx) (sc : Scope) : Ctx := { c with sc := relS sc c.sc, mutv := [], top := false, mret := false }
end DV
end

section
set_option Elab.async false
set_option linter.all false
set_option maxRecDepth 100000
set_option autoImplicit false
/-! The evaluator's step. -/
namespace DV
open PySem L2

/-- an expression whose attribute is read as it stands -/
def okBase : Expr → Bool
  | .Call (.Name _ _) [] [] _ => false
  | _ => true
def oneLine (apos pos : Pos) : Bool := apos.endLine == pos.line
def noMark (op : CmpOp) (b : Expr) : Bool := !behindInMarks op b
def isSlice : Expr → Bool
  | .Slice _ _ _ _ => true
  | _ => false
def isComp : Expr → Bool
  | .ListComp _ _ _ _ => true
  | .SetComp _ _ _ _ => true
  | .DictComp _ _ _ _ _ => true
  | _ => false
def isSetE : Expr → Bool
  | .Set _ _ _ => true
  | _ => false
def evBool (R : Rec) (c : Ctx) (op : BoolOp) : List Expr → Slots → Sto → Res D
  | [], _, _ => .bad
  | [a], v, S => R.E c a v S
  | a :: b :: rest, v, S => (R.E c a v S).bind fun x S1 => match truth S1 x with
    | some t => match op with
      | .And => if t then evBool R c op (b :: rest) v S1 else .ok x S1
      | .Or => if t then .ok x S1 else evBool R c op (b :: rest) v S1
    | none => .bad
/-- the tests of a chain, as tests -/
def evAll (R : Rec) (c : Ctx) (op : BoolOp) : List Expr → Slots → Sto → Res Bool
  | [], _, _ => .bad
  | [a], v, S => R.T c a v S
  | a :: b :: rest, v, S => (R.T c a v S).bind fun t S1 => match op with
      | .And => if t then evAll R c op (b :: rest) v S1 else .ok false S1
      | .Or => if t then .ok true S1 else evAll R c op (b :: rest) v S1
def cmpF (op : CmpOp) (S : Sto) (x y : D) : Option Bool := match cmpV op S x y with
  | some t => some t
  | none => match op with
    | .In => match dictD S y, toKey x with
      | some p, some k => some (dlook p.1 p.2 k).isSome
      | _, _ => none
    | .NotIn => match dictD S y, toKey x with
      | some p, some k => some (!(dlook p.1 p.2 k).isSome)
      | _, _ => none
    | _ => none
def getF (S : Sto) (x y : D) : Option D := match getV S x y with
  | some d => some d
  | none => match x, y with
    | .kd ks xs, .str z => flook ks xs z
    | x, y => match dictD S x, toKey y with
      | some p, some k => dlook p.1 p.2 k
      | _, _ => none
def evCmp (R : Rec) (c : Ctx) (a : Expr) (ops : List CmpOp) (bs : List Expr) (v : Slots) (S : Sto) : Res Bool := match ops, bs with
  | [op], [b] => if noMark op b then (R.E c a v S).bind fun x S1 => (R.E c b v S1).bind fun y S2 => Res.opt S2 (cmpF op S2 x y)
    else .bad
  | [op, op'], [b, b'] => if lastMarks [op, op'] [b, b'] = false then (R.E c a v S).bind fun x S1 => (R.E c b v S1).bind fun y S2 => match cmpF op S2 x y with
    | some true => (R.E c b' v S2).bind fun z S3 => Res.opt S3 (cmpF op' S3 y z)
    | some false => .ok false S2
    | none => .bad
    else .bad
  | _, _ => .bad
/-- o.f -/
def attrV (cls : Str → Option ClI) (S : Sto) (f : Str) (o : D) : Option (Sum D (Str × D)) := match insD S o with
  | some (c, ns, xs) => match cls c with
    | some ci => if ci.flds.contains f then (flook ns xs f).map .inl else none
    | none => none
  | none => none
/-- targets of names -/
inductive Tg where
  | one (i : Nat)
  | many (is : List Nat)
def locOk (c : Ctx) (x : Str) : Bool := decide (c.sc.names.lookup x = some .local) || (c.top && decide (c.sc.names.lookup x = some .cell))
def nameIx (c : Ctx) : Expr → Option Nat
  | .Name x _ => if locOk c x then ixOf c.N x else none
  | _ => none
def namesIx (c : Ctx) : List Expr → Option (List Nat)
  | [] => some []
  | e :: es => match nameIx c e, namesIx c es with
    | some i, some is => some (i :: is)
    | _, _ => none
def tgOf (c : Ctx) : Expr → Option Tg
  | .Name x p => (nameIx c (.Name x p)).map .one
  | .Tuple es _ _ => (namesIx c es).map .many
  | _ => none
def setAll : List Nat → List D → Slots → Option Slots
  | [], [], v => some v
  | i :: is, d :: ds, v => if i < v.length then setAll is ds (v.set i (some d)) else none
  | _, _, _ => none
def Tg.put : Tg → D → Slots → Option Slots
  | .one i, d, v => if i < v.length then some (v.set i (some d)) else none
  | .many is, d, v => match d with
    | .tup xs => setAll is xs v
    | _ => none
def Tg.ixs : Tg → List Nat
  | .one i => [i]
  | .many is => is
/-- a comprehension's turn: the target, the test -/
def evHd (R : Rec) (cb : Ctx) (tg : Tg) (ifs : List Expr) (w : Slots) (d : D) (S : Sto) : Res (Option Slots) := match tg.put d w with
  | some v1 => (match ifs with
      | [] => .ok (some v1) S
      | [t] => (match R.T cb t v1 S with
        | .ok true S2 => .ok (some v1) S2
        | .ok false S2 => .ok none S2
        | _ => .bad)
      | _ => .bad)
  | none => .bad
def turnC (R : Rec) (cb : Ctx) (elt : Expr) (tg : Tg) (ifs : List Expr) (w : Slots) (d : D) (S : Sto) : Res (Option D) :=
  match evHd R cb tg ifs w d S with
  | .ok (some v1) S2 => (match R.E cb elt v1 S2 with
    | .ok y S3 => .ok (some y) S3
    | _ => .bad)
  | .ok none S2 => .ok none S2
  | _ => .bad
/-- [elt for tg in iter ..], the items -/
def evLc (R : Rec) (c : Ctx) (elt tg iter : Expr) (ifs : List Expr) (sc : Scope) (v : Slots) (S : Sto) : Res (List D) :=
  let own := ownIx c.N sc
  if blkC c.N c.sc sc own && !isSetE iter then match tgOf (blkCtx c sc) tg with
    | some t => if t.ixs.all (fun i => (own.map (·.2)).contains i) then
        (evI R c tg iter v S).bind fun it S1 => loopC (turnC R (blkCtx c sc) elt t ifs (wipeD v (own.map (·.2)))) it it.xs [] S1
      else .bad
    | none => .bad
  else .bad
def constD : Const → Option D
  | .none => some .non
  | .bool b => some (.bl b)
  | .int i => some (.int i)
  | .str x => some (.str x)
  | _ => none
def alloc (S : Sto) (o : Ob) : Res D := .ok (.ref S.length) (S ++ [o])

/-- a dict comprehension's turn -/
def turnD (R : Rec) (cb : Ctx) (kx vx : Expr) (tg : Tg) (ifs : List Expr) (w : Slots) (d : D) (S : Sto) : Res (Option (Key × D)) :=
  match evHd R cb tg ifs w d S with
  | .ok (some v1) S2 => (match R.E cb kx v1 S2 with
    | .ok k S3 => (match R.E cb vx v1 S3 with
      | .ok y S4 => (match toKey k with
        | some k' => .ok (some (k', y)) S4
        | none => .bad)
      | _ => .bad)
    | _ => .bad)
  | .ok none S2 => .ok none S2
  | _ => .bad
def loopD (body : D → Sto → Res (Option (Key × D))) (t : Itr) : List D → List Key × List D → Sto → Res (List Key × List D)
  | [], acc, S => if okSrc S t then .ok acc S else .bad
  | d :: ds, acc, S => if okSrc S t then match body d S with
    | .ok (some (k, y)) S' => if acc.1.length < sizeLine then loopD body t ds (dput acc.1 acc.2 k y) S' else .bad
    | .ok none S' => loopD body t ds acc S'
    | _ => .bad
  else .bad
def evDc (R : Rec) (c : Ctx) (kx vx tg iter : Expr) (ifs : List Expr) (sc : Scope) (v : Slots) (S : Sto) : Res (List Key × List D) :=
  let own := ownIx c.N sc
  if blkC c.N c.sc sc own && !isSetE iter then match tgOf (blkCtx c sc) tg with
    | some t => if t.ixs.all (fun i => (own.map (·.2)).contains i) then
        (evI R c tg iter v S).bind fun it S1 => loopD (turnD R (blkCtx c sc) kx vx t ifs (wipeD v (own.map (·.2)))) it it.xs ([], []) S1
      else .bad
    | none => .bad
  else .bad
/-- a dict's display, its pairs -/
def evKv (R : Rec) (c : Ctx) : List (Option Expr) → List Expr → Slots → Sto → Res (List (Key × D))
  | [], [], _, S => .ok [] S
  | some k :: ks, e :: es, v, S => (R.E c k v S).bind fun kd S1 => (R.E c e v S1).bind fun d S2 => match toKey kd with
    | some k' => (evKv R c ks es v S2).bind fun r S3 => .ok ((k', d) :: r) S3
    | none => .bad
  | _, _, _, _ => .bad
def mergeD : List (Key × D) → List Key × List D → List Key × List D
  | [], p => p
  | (k, d) :: r, p => mergeD r (dput p.1 p.2 k d)
def kvOk : List (Option Expr) → List Expr → Bool
  | [], [] => true
  | some k :: ks, e :: es => kvOk ks es
  | _, _ => false
/-- something new that may change -/
def evNew (R : Rec) (c : Ctx) (e : Expr) (v : Slots) (S : Sto) : Option (Res Ob) := match e with
  | .List es _ => some ((evA R c es v S).bind fun xs S1 => if xs.length ≤ sizeLine then .ok (.lst xs) S1 else .bad)
  | .ListComp elt [⟨tg, iter, ifs, k⟩] sc _ => if k = 0 then some ((evLc R c elt tg iter ifs sc v S).bind fun xs S1 => .ok (.lst xs) S1) else none
  | .DictComp kx vx [⟨tg, iter, ifs, k⟩] sc _ => if k = 0 then some ((evDc R c kx vx tg iter ifs sc v S).bind fun p S1 => .ok (.dict p.1 p.2) S1) else none
  | .Dict [] [] _ => some (.ok (.dict [] []) S)
  | .Dict ks es _ => if kvOk ks es then some (if ks.length ≤ 15 then (evKv R c ks es v S).bind fun kvs S1 => if kvs.length ≤ 15 then let p := mergeD kvs ([], []); .ok (.dict p.1 p.2) S1 else .bad else .bad) else none
  | _ => none
/-- as a value -/
def obD : Ob → D
  | .lst xs => .lst xs
  | .dict ks xs => .dict ks xs
  | _ => .non
def isSuffix (c m : Str) : Str := c ++ "." ++ m
/-- reading methods of a dict -/
def methD (m : Str) (ks : List Key) (xs args : List D) : Option D :=
  if m = "get" then (match args with
    | [k] => (toKey k).map fun k' => (dlook ks xs k').getD .non
    | [k, d] => (toKey k).map fun k' => (dlook ks xs k').getD d
    | _ => none)
  else none
/-- .. of a written dict -/
def methK (m : Str) (ks : List Str) (xs args : List D) : Option D :=
  if m = "get" then (match args with
    | [.str z, d] => some ((flook ks xs z).getD d)
    | _ => none)
  else none
def strMeth (m : Str) : Bool := decide (m = "split") || decide (m = "join")
def lstMeth (m : Str) : Bool := decide (m = "append") || decide (m = "insert")
/-- a method called: the receiver's value stands -/
def callAt (R : Rec) (c : Ctx) (m : Str) (o : D) (args : List Expr) (v : Slots) (S : Sto) : Res D := match insD S o with
  | some (cl, ns, _) => if ns.contains m || (c.G.cls cl).isNone then .bad else (meOk c.G cl m).elim .bad fun f => (evA R c args v S).bind fun ds S2 => runF f (o :: ds) S2
  | none => match o with
    | .str z => if strMeth m then (evA R c args v S).bind fun ds S2 => Res.opt S2 (methB m S2 (.str z) ds) else .bad
    | .kd ks xs => if m = "get" then (evA R c args v S).bind fun ds S2 => Res.opt S2 (methK m ks xs ds) else .bad
    | .dict ks xs => if m = "get" then (evA R c args v S).bind fun ds S2 => Res.opt S2 (methD m ks xs ds) else .bad
    | .ref n => (match S[n]? with
      | some (.lst _) => if lstMeth m then (evA R c args v S).bind fun ds S2 => match S2[n]? with
        | some (.lst xs) => (match methL m xs ds with
          | some ys => .ok .non (S2.set n (.lst ys))
          | none => .bad)
        | _ => .bad
        else .bad
      | some (.dict _ _) => if m = "get" then (evA R c args v S).bind fun ds S2 => match S2[n]? with
        | some (.dict ks xs) => Res.opt S2 (methD m ks xs ds)
        | _ => .bad
        else .bad
      | _ => .bad)
    | _ => .bad
/-- isinstance(d, C), C of the program, without heirs -/
def isOwn (S : Sto) (C : Str) (d : D) : Option Bool := match d with
  | .non => some false
  | .bl _ => some false
  | .int _ => some false
  | .str _ => some false
  | .tup _ => some false
  | .lst _ => some false
  | d => match insD S d with
    | some (c, _, _) => if c = C then some true else none
    | none => none
def tyName (x : Str) : Bool := decide (x = "int") || decide (x = "bool") || decide (x = "str") || decide (x = "tuple") || decide (x = "list") || decide (x = "dict")
def evIsi (R : Rec) (c : Ctx) (e : Expr) (t : Str) (v : Slots) (S : Sto) : Res D :=
  if isBl c "isinstance" && noStar [e] then
    if isBl c t && tyName t then (R.E c e v S).bind fun d S1 => Res.opt S1 ((isInst S1 t d).map .bl) else
    if isGl c t && ((c.G.cls t).elim false fun ci => ci.isi) then (R.E c e v S).bind fun d S1 => Res.opt S1 ((isOwn S1 t d).map .bl) else .bad
  else .bad
/-- what set(..) is made of in len(set(..)), sorted(set(..)) -/
def setArg (x : Str) : List Expr → Option Expr
  | [.Call (.Name y _) [a] [] _] => if (x = "len" ∨ x = "sorted") ∧ y = "set" then some a else none
  | _ => none
/-- o.m(*xs), an instance without slots -/
def loneStar : List Expr → Bool
  | [.Starred _ _] => true
  | _ => false
def starOf : List Expr → Expr
  | [.Starred e _] => e
  | es => .Tuple es 0 ⟨0, 0, 0, 0⟩
def callStar (R : Rec) (c : Ctx) (m : Str) (o : D) (e : Expr) (v : Slots) (S : Sto) : Res D := match insD S o with
  | some (cl, ns, _) => (c.G.cls cl).elim .bad fun ci => if ns.contains m || ci.slots then .bad else (meOk c.G cl m).elim .bad fun f => (R.E c e v S).bind fun d S2 => match items S2 d with
    | some xs => runF f (o :: xs) S2
    | none => .bad
  | none => .bad
def evCall (R : Rec) (c : Ctx) (f : Expr) (args : List Expr) (pos : Pos) (v : Slots) (S : Sto) : Res D := match f with
  | .Name x _ =>
    if isGl c x then
      if x = "isinstance" then (match args with
        | [e, .Name t _] => evIsi R c e t v S
        | _ => .bad)
      else match setArg x args with
      | some a => if isBl c x && (isBl c "set" && noStar [a]) then (R.E c a v S).bind fun d S1 => Res.opt S1 (setF x S1 d) else .bad
      | none => if (c.G.fns x).isSome then (fnOk c.G x).elim .bad fun f => (evA R c args v S).bind fun ds S1 => runF f ds S1
      else if (c.G.cls x).isSome then (mkOk c.G x).elim .bad fun p => (evA R c args v S).bind fun ds S1 => makeR x p.1 p.2 ds S1
      else if c.G.free x then (if isBn x && (noStar args && !args.isEmpty) then (evA R c args v S).bind fun ds S1 => callBX c.G x S1 ds else .bad)
      else .bad
    else .bad
  | .Subscript o i p => if isSlice i || !noStar args then .bad else (R.E c (.Subscript o i p) v S).bind fun fd S1 => (match fd with
    | .fn x => (fnOk c.G x).elim .bad fun f => (evA R c args v S1).bind fun ds S2 => runF f ds S2
    | _ => .bad)
  | .Attribute o m apos => if loneStar args then (if okBase o then (R.E c o v S).bind fun od S1 => callStar R c m od (starOf args) v S1 else .bad) else if okBase o && (oneLine apos pos && (noStar args && decide (args.length < 30))) then (R.E c o v S).bind fun od S1 => callAt R c m od args v S1 else .bad
  | _ => .bad
def evK (R : Rec) (c : Ctx) : List Keyword → Slots → Sto → Res (List D)
  | [], _, S => .ok [] S
  | ⟨_, e, _⟩ :: ks, v, S => (R.E c e v S).bind fun d S1 => (evK R c ks v S1).bind fun ds S2 => .ok (d :: ds) S2
def kwOrder {A : Type} : List Str → List (Str × A) → Option (List A)
  | [], _ => some []
  | p :: ps, kv => match kv.lookup p, kwOrder ps kv with
    | some d, some ds => some (d :: ds)
    | _, _ => none
def kwNames (kws : List Keyword) : List Str := kws.filterMap (·.arg)
def stepE (R : Rec) (c : Ctx) (e : Expr) (v : Slots) (S : Sto) : Res D := match e with
  | .Constant k _ _ => Res.opt S (constD k)
  | .Name x _ => Res.opt S (look c x v)
  | .BinOp a op b _ => (R.E c a v S).bind fun x S1 => (R.E c b v S1).bind fun y S2 => Res.opt S2 (binop op x y)
  | .UnaryOp .USub a _ => (R.E c a v S).bind fun x S1 => match x with
    | .int i => .ok (.int (-i)) S1
    | _ => .bad
  | .UnaryOp .Not a _ => (R.E c a v S).bind fun x S1 => Res.opt S1 ((truth S1 x).map fun b => .bl (!b))
  | .BoolOp op es _ => evBool R c op es v S
  | .IfExp t a b _ => (R.T c t v S).bind fun k S1 => if k then R.E c a v S1 else R.E c b v S1
  | .Compare a ops bs _ => (evCmp R c a ops bs v S).bind fun b S1 => .ok (.bl b) S1
  | .Tuple es _ _ => (evA R c es v S).bind fun xs S1 => if xs.length ≤ sizeLine then .ok (.tup xs) S1 else .bad
  | .Attribute o f _ => if okBase o then (R.E c o v S).bind fun od S1 => match attrV c.G.cls S1 f od with
    | some (.inl d) => .ok d S1
    | _ => .bad
    else .bad
  | .Subscript o (.Slice lo hi none _) _ => (R.E c o v S).bind fun od S1 => (evP R c lo v S1).bind fun l S2 => (evP R c hi v S2).bind fun u S3 => Res.opt S3 (sliceV S3 od l u)
  | .Subscript o i _ => if isSlice i then .bad else (R.E c o v S).bind fun od S1 => (R.E c i v S1).bind fun id S2 => Res.opt S2 (getF S2 od id)
  | .Call f args [] pos => evCall R c f args pos v S
  | .Call (.Name x _) [] kws _ => if isGl c x && kws.all (fun k => k.arg.isSome) then (fnOk c.G x).elim .bad fun f => if f.kws.contains (kwNames kws) then (evK R c kws v S).bind fun ds S1 => (kwOrder f.ps ((kwNames kws).zip ds)).elim .bad fun as => if as.length = f.ps.length ∧ ds.length = (kwNames kws).length then runP f as S1 else .bad else .bad else .bad
  | e => match evNew R c e v S with
    | some r => r.bind fun o S1 => .ok (obD o) S1
    | none => .bad
def stepT (R : Rec) (c : Ctx) (e : Expr) (v : Slots) (S : Sto) : Res Bool := match e with
  | .UnaryOp .Not a _ => (R.T c a v S).bind fun b S1 => .ok (!b) S1
  | .BoolOp op es _ => evAll R c op es v S
  | .Compare a ops bs _ => evCmp R c a ops bs v S
  | .IfExp _ _ _ _ => .bad
  | e => (R.E c e v S).bind fun x S1 => Res.opt S1 (truth S1 x)
/-- a value that is stored: new things may change -/
def evMut (R : Rec) (c : Ctx) (e : Expr) (v : Slots) (S : Sto) : Res D := match e with
  | .IfExp t a b _ => (R.T c t v S).bind fun k S1 => if k then evMut1 R c a v S1 else evMut1 R c b v S1
  | e => evMut1 R c e v S
where
  evMut1 (R : Rec) (c : Ctx) (e : Expr) (v : Slots) (S : Sto) : Res D := match evNew R c e v S with
    | some r => r.bind fun o S1 => alloc S1 o
    | none => R.E c e v S
/-- values for names: those of names that may change are new things -/
def evAm (R : Rec) (c : Ctx) : List Expr → List Expr → Slots → Sto → Res (List D)
  | [], [], _, S => .ok [] S
  | t :: ts, e :: es, v, S => ((match t with
      | .Name x _ => if c.mutv.contains x then evMut R c e v S else R.E c e v S
      | _ => R.E c e v S)).bind fun d S1 => (evAm R c ts es v S1).bind fun ds S2 => .ok (d :: ds) S2
  | _, _, _, _ => .bad
/-- the stores of a, b = x, y as the text's compiler has them -/
def isStar : Expr → Bool
  | .Starred .. => true
  | _ => false
def swSt (sc : Scope) (ts vs : List Expr) : Option (Option (List Str)) :=
  if (!(ts.length == 2 || ts.length == 3) || vs.length != ts.length) = true then some none
  else if (vs.any isStar) = true then some none
  else
    let names := ts.filterMap fun
      | .Name id pos => if (sc.names.lookup id == some .local && pos.line == (ts.head?.map (·.pos.line)).getD 0) = true then some id else none
      | _ => none
    if (names.length != ts.length || names.eraseDups.length != names.length) = true then some none
    else if (vs.all (foldedForSure 8)) = true then some none
    else if (vs.all (constantsAlone 8)) = true then none
    else some (some names)
def isLocal (c : Ctx) (x : Str) : Bool := decide (c.sc.names.lookup x = some .local)
/-- name = [..]: is it stored within -/
def swB (c : Ctx) (scope : Scope) (x : Str) (p q : Pos) : Bool := (ScopeKind.function == ScopeKind.function && c.sc.names.lookup x == some .local && p.line == q.line) && !(scope.names.any fun (n, k) => n == x && (k == .local || k == .cell))
def evSet (R : Rec) (c : Ctx) (x : Str) (p : Pos) (e : Expr) (v : Slots) (S : Sto) : Res D := match e with
  | .ListComp elt gs sc q => (match evNew R c (.ListComp elt gs sc q) v S with
    | some r => if c.mutv.contains x then r.bind fun o S1 => alloc S1 o else r.bind fun o S1 => .ok (obD o) S1
    | none => .bad)
  | .DictComp kx vx gs sc q => if swB c sc x p q then .bad else (match evNew R c (.DictComp kx vx gs sc q) v S with
    | some r => if c.mutv.contains x then r.bind fun o S1 => alloc S1 o else r.bind fun o S1 => .ok (obD o) S1
    | none => .bad)
  | .SetComp _ _ _ _ => .bad
  | e => if c.mutv.contains x then evMut R c e v S else R.E c e v S
def putA (cls : Str → Option ClI) (o : D) (f : Str) (d : D) (S : Sto) : Option Sto := match o with
  | .ref n => match S[n]? with
    | some (.ins c ns xs) => match cls c with
      | some ci => if ci.flds.contains f && (decide (ns.length < 1000) && (!ci.slots || decide (ci.flds[ns.length]? = some f))) then let p := fput ns xs f d; some (S.set n (.ins c p.1 p.2)) else none
      | none => none
    | _ => none
  | _ => none
/-- o[i] = d -/
def putV (o i d : D) (S : Sto) : Option Sto := match o with
  | .ref n => match S[n]? with
    | some (.lst xs) => match i with
      | .int j => (ixN xs.length j).map fun k => S.set n (.lst (xs.set k d))
      | _ => none
    | some (.dict ks xs) => match toKey i with
      | some k => if ks.length < sizeLine then let p := dput ks xs k d; some (S.set n (.dict p.1 p.2)) else none
      | none => none
    | _ => none
  | _ => none
def stepS (N : Nat) (R : Rec) (c : Ctx) (s : Stmt) (v : Slots) (S : Sto) : SRes := match s with
  | .Pass _ => .nx v S
  | .Break _ => .bk v S
  | .Continue _ => .ct v S
  | .Return none _ => .rt .non S
  | .Return (some e) _ => (if c.mret then evMut R c e v S else R.E c e v S).st v fun d S1 => .rt d S1
  | .Expr e _ => if isComp e then .bad else (R.E c e v S).st v fun _ S1 => .nx v S1
  | .If t a b _ => (R.T c t v S).st v fun k S1 => if k then evB R c a v S1 else evB R c b v S1
  | .While t body [] _ => loopW (fun v S => R.T c t v S) (evB R c body) N v S
  | .For tg iter body [] _ => if isSetE iter then .bad else match tgOf c tg with
    | some t => (evI R c tg iter v S).st v fun it S1 => loopF (fun d v S => match t.put d v with
      | some v1 => evB R c body v1 S
      | none => .bad) it it.xs v S1
    | none => .bad
  | .Assign [.Name x p] e _ => (match nameIx c (.Name x p) with
    | some i => (evSet R c x p e v S).st v fun d S1 => if i < v.length then .nx (v.set i (some d)) S1 else .bad
    | none => .bad)
  | .Assign [.Tuple [.Subscript o i _, .Name y p] _ _] e _ => if isSlice i || isTupE e then .bad else (match nameIx c (.Name y p) with
    | some j => (R.E c e v S).st v fun d S1 => (match d with
      | .tup [d1, d2] => (R.E c o v S1).st v fun od S2 => (R.E c i v S2).st v fun id S3 => (match putV od id d1 S3 with
        | some S4 => if j < v.length then .nx (v.set j (some d2)) S4 else .bad
        | none => .bad)
      | _ => .bad)
    | none => .bad)
  | .Assign [.Tuple es k p] (.Tuple vs k2 p2) _ => if noStar vs && decide (es.length = vs.length) then (match swSt c.sc es vs with
    | some none => (match tgOf c (.Tuple es k p) with
      | some t => (evAm R c es vs v S).st v fun ds S1 => if ds.length ≤ sizeLine then (match setAll t.ixs ds v with
        | some v1 => .nx v1 S1
        | none => .bad) else .bad
      | none => .bad)
    | some (some names) => (match es, vs with
      | [.Name x px, .Name y py], [a, b] => if decide (names = [x, y]) && (decide (x ≠ y) && (isLocal c x && isLocal c y)) then (match ixOf c.N x, ixOf c.N y with
        | some i, some j => (evAm R c [.Name x px, .Name y py] [a, b] v S).st v fun ds S1 => (match setAll [i, j] ds v with
          | some v1 => .nx v1 S1
          | none => .bad)
        | _, _ => .bad) else .bad
      | [.Name x px, .Name y py, .Name z pz], [a, b, d] => if decide (names = [x, y, z]) && (decide (x ≠ y ∧ x ≠ z ∧ y ≠ z) && (isLocal c x && (isLocal c y && isLocal c z))) then (match ixOf c.N x, ixOf c.N y, ixOf c.N z with
        | some i, some j, some l => (evAm R c [.Name x px, .Name y py, .Name z pz] [a, b, d] v S).st v fun ds S1 => (match setAll [i, j, l] ds v with
          | some v1 => .nx v1 S1
          | none => .bad)
        | _, _, _ => .bad) else .bad
      | _, _ => .bad)
    | none => .bad) else .bad
  | .Assign [.Tuple es k p] e _ => (match tgOf c (.Tuple es k p) with
    | some t => (R.E c e v S).st v fun d S1 => (match t.put d v with
      | some v1 => .nx v1 S1
      | none => .bad)
    | none => .bad)
  | .Assign [.Attribute o f _] e _ => if okBase o then (evMut R c e v S).st v fun d S1 => (R.E c o v S1).st v fun od S2 => (match putA c.G.cls od f d S2 with
    | some S3 => .nx v S3
    | none => .bad) else .bad
  | .Assign [.Subscript o i _] e _ => if isSlice i then .bad else (R.E c e v S).st v fun d S1 => (R.E c o v S1).st v fun od S2 => (R.E c i v S2).st v fun id S3 => (match putV od id d S3 with
    | some S4 => .nx v S4
    | none => .bad)
  | .AugAssign (.Name x p) .Add e _ => (match nameIx c (.Name x p) with
    | some i => (match (v[i]?).join with
      | some (.int a) => (R.E c e v S).st v fun d S1 => (match d with
        | .int b => if i < v.length then .nx (v.set i (some (.int (a + b)))) S1 else .bad
        | _ => .bad)
      | _ => .bad)
    | none => .bad)
  | _ => .bad
def bad0 : Rec := ⟨fun _ _ _ _ => .bad, fun _ _ _ _ => .bad, fun _ _ _ _ => .bad⟩
/-- N: the whiles' turns; n: how deep -/
def ev (N : Nat) : Nat → Rec
  | 0 => bad0
  | n + 1 => ⟨stepE (ev N n), stepT (ev N n), stepS N (ev N n)⟩

/-! ### a program -/
structure DefS where
  name : Str
  st : Stmt
  kind : Kind
  N : List Str
  ps : List Str
  dfl : List D
  mutv : List Str
  mret : Bool
  pur : Bool
  frz : Bool
  kws : List (List Str) := []
def bodyRun (W n : Nat) (G : Gen) (d : DefS) (args : List D) (S : Sto) : Res D :=
  match evB (ev W n) ⟨d.N, defScope d.st, G, d.mutv, true, d.mret⟩ (defBody d.st) (args.map some ++ List.replicate (d.N.length - args.length) none) S with
  | .rt r S' => .ok r S'
  | .nx _ S' => .ok .non S'
  | .exc c ns xs _ S' => .exc c ns xs S'
  | _ => .bad
def fnOfD (W n : Nat) (G : Gen) (d : DefS) : FnI := ⟨G.lev + 1, d.kind, d.ps, d.dfl, d.pur, d.frz, bodyRun W n G d, d.kws⟩
def levUp : Kind → Nat
  | .meth _ m => if m = "__init__" then 2 else if m.cps.toList.take 2 = [95, 95] then 3 else 1
  | _ => 1
def addD (W n : Nat) (G : Gen) (d : DefS) : Gen := { G with lev := G.lev + levUp d.kind, fns := fun x => if x = d.name then some (fnOfD W n G d) else G.fns x }
def build (W n : Nat) (G : Gen) (ds : List DefS) : Gen := ds.foldl (addD W n) G
end DV
end

section
set_option Elab.async false
set_option linter.all false
set_option maxRecDepth 100000
set_option autoImplicit false
/-! What it means that the evaluator is right; names, argument lists. -/
namespace DV
open PySem L2

/-- wanted of an exception: what it holds -/
def PostX (Y : Fx) (F : Hp) (r : Rho) (H : Hp) (c : Str) (ns : List Str) (xs : List D) (S' : Sto) (E : XK) : Prop :=
  ∀ F' r' H', Rel Y F' r' S' H' → Ext F r H F' r' H' →
    (ns = [] → E (.ref (He.ga Y.K c)) none H') ∧
    (ns ≠ [] → ∀ (a : Addr) (fs : List (Str × V)), H' a = some (.xd fs) → fs.map (·.1) = ns → VRs Y F' r' xs (fs.map (·.2)) → E (.ref (He.ga Y.K c)) (some a) H')
abbrev Want (A : Type) := Hp → Rho → Hp → A → Sto → Prop
def PostR {A : Type} (Y : Fx) (F : Hp) (r : Rho) (H : Hp) (m : Res A) (P : Want A) (E : XK) : Prop := match m with
  | .bad => False
  | .ok d S' => P F r H d S'
  | .exc c ns xs S' => PostX Y F r H c ns xs S' E
/-- what is wanted stays wanted -/
def StepC {A : Type} (P : Want A) : Prop := ∀ F r H F' r' H' a S, Ext F r H F' r' H' → P F r H a S → P F' r' H' a S
def PD (Y : Fx) (Q : VK) : Want D := fun F r H d S => Post Y F r H d S Q
def PL (Y : Fx) (Q : List V → Hp → Prop) : Want (List D) := fun F r H d S => PostL Y F r H d S Q
def PB (Y : Fx) (Q : Bool → Hp → Prop) : Want Bool := fun F r H d S => PostB Y F r H d S Q
abbrev PostF (Y : Fx) (F : Hp) (r : Rho) (H : Hp) (m : Res D) (Q : VK) (E : XK) : Prop := PostR Y F r H m (PD Y Q) E
abbrev PostFL (Y : Fx) (F : Hp) (r : Rho) (H : Hp) (m : Res (List D)) (Q : List V → Hp → Prop) (E : XK) : Prop := PostR Y F r H m (PL Y Q) E
abbrev PostFB (Y : Fx) (F : Hp) (r : Rho) (H : Hp) (m : Res Bool) (Q : Bool → Hp → Prop) (E : XK) : Prop := PostR Y F r H m (PB Y Q) E
section
variable {Y : Fx} {F F' : Hp} {r r' : Rho} {H H' : Hp} {A B : Type} {P : Want A} {E : XK}
theorem pd_step {Q : VK} : StepC (PD Y Q) := fun _ _ _ _ _ _ _ _ x p F2 r2 H2 v R2 x2 h => p F2 r2 H2 v R2 (x.trans x2) h
theorem pl_step {Q : List V → Hp → Prop} : StepC (PL Y Q) := fun _ _ _ _ _ _ _ _ x p F2 r2 H2 v R2 x2 h => p F2 r2 H2 v R2 (x.trans x2) h
theorem pb_step {Q : Bool → Hp → Prop} : StepC (PB Y Q) := fun _ _ _ _ _ _ _ _ x p F2 r2 H2 R2 x2 => p F2 r2 H2 R2 (x.trans x2)
theorem PostX.step {c : Str} {ns : List Str} {xs : List D} {S : Sto} (p : PostX Y F r H c ns xs S E) (x : Ext F r H F' r' H') : PostX Y F' r' H' c ns xs S E := fun F2 r2 H2 R2 x2 => p F2 r2 H2 R2 (x.trans x2)
theorem PostR.step {m : Res A} (p : PostR Y F r H m P E) (hP : StepC P) (x : Ext F r H F' r' H') : PostR Y F' r' H' m P E := by
  cases m with
  | bad => exact p
  | ok a S => exact hP _ _ _ _ _ _ _ _ x p
  | exc c ns xs S => exact PostX.step p x
end

/-- a def's promise: it gives what the evaluator gives -/
def SpD (Y : Fx) (n : Nat) (run : List D → Sto → Res D) : Sp := fun vs H Q E => ∃ F r S ds, Rel Y F r S H ∧ VRs Y F r ds vs ∧ ds.length = n ∧ PostF Y F r H (run ds S) Q E

/-- the slots -/
structure SR (Y : Fx) (F : Hp) (r : Rho) (v : Slots) (s : St) : Prop where
  len : v.length = s.length
  at_ : ∀ (i : Nat) d, v[i]? = some (some d) → ∃ x, s[i]? = some (some x) ∧ VR Y F r d x
section
variable {Y : Fx} {F F' : Hp} {r r' : Rho} {H H' : Hp} {v : Slots} {s : St} {i : Nat} {d : D} {x : V}
theorem SR.step (h : SR Y F r v s) (e : Ext F r H F' r' H') : SR Y F' r' v s := ⟨h.len, fun i d q => let ⟨x, h1, h2⟩ := h.at_ i d q; ⟨x, h1, e.mono h2⟩⟩
theorem SR.set (h : SR Y F r v s) (hx : VR Y F r d x) (i : Nat) : SR Y F r (v.set i (some d)) (s.set i (some x)) := ⟨by simp [h.len], fun j e q => by
  by_cases hj : i = j
  · subst hj
    by_cases hl : i < v.length
    · rw [List.getElem?_set_self hl] at q
      cases q
      exact ⟨x, by rw [List.getElem?_set_self (by rw [← h.len]; exact hl)], hx⟩
    · rw [List.getElem?_eq_none (by simp; omega)] at q; cases q
  · rw [List.getElem?_set_ne hj] at q ⊢
    exact h.at_ j e q⟩
theorem SR.wipe (h : SR Y F r v s) : ∀ is : List Nat, SR Y F r (wipeD v is) (L2.wipe s is)
  | [] => h
  | i :: is => by
    have k := SR.wipe h is
    refine ⟨by show ((wipeD v is).set i none).length = ((L2.wipe s is).set i none).length; simp [k.len], fun j e q => ?_⟩
    have q' : ((wipeD v is).set i none)[j]? = some (some e) := q
    show ∃ x, ((L2.wipe s is).set i none)[j]? = some (some x) ∧ _
    by_cases hj : i = j
    · subst hj
      by_cases hl : i < (wipeD v is).length
      · rw [List.getElem?_set_self hl] at q'; cases q'
      · rw [List.getElem?_eq_none (by simp; omega)] at q'; cases q'
    · rw [List.getElem?_set_ne hj] at q' ⊢
      exact k.at_ j e q'
end

/-! ### what a call of its own leaves -/
open Classical in
/-- all that the store held is set still -/
noncomputable def clos (F : Hp) (r : Rho) (H : Hp) : Hp := fun b => if (∃ n : Nat, r[n]? = some (some b)) ∨ H b = some (.xd []) then H b else F b
section
variable {Y : Fx} {F F1 : Hp} {r r1 : Rho} {H H1 : Hp} {S S1 : Sto} {d d' : D} {v : V}
theorem clos_in {b : Addr} {n : Nat} (h : r[n]? = some (some b)) : clos F r H b = H b := by unfold clos; rw [if_pos (.inl ⟨n, h⟩)]
theorem clos_sub (R : Rel Y F r S H) : L2.Same F (clos F r H) := fun b o e => by
  unfold clos
  split
  · rename_i q
    rcases q with ⟨n, q⟩ | q
    · rw [R.dis n b q] at e; cases e
    · exact R.sub b o e
  · exact e
theorem clos_noo (R : Rel Y F r S H) : ∀ b x, clos F r H b ≠ some (.own x) := fun b x e => by
  unfold clos at e
  split at e
  · rename_i q
    rcases q with ⟨n, q⟩ | q
    · obtain ⟨ob, h1, h2⟩ := R.ob n b q
      obtain ⟨o, h3, _, h4⟩ := h2.kind
      rw [h3] at e; cases e; exact h4 x rfl
    · rw [q] at e; cases e
  · exact R.noo b x e
theorem clos_H (R : Rel Y F r S H) : L2.Same (clos F r H) H := fun b o e => by
  unfold clos at e
  split at e
  · exact e
  · exact R.sub b o e
mutual
theorem fz_ok (R : Rel Y F r S H) : ∀ (k : Nat) {d d' : D} {v : V}, VR Y F r d v → fz k S d = some d' → ∀ r', VR Y (clos F r H) r' d' v
  | 0, _, _, _, _, e, _ => by cases e
  | k + 1, d, d', v, h, e, r' => by
    cases hc : d.clo with
    | true =>
      unfold fz at e
      rw [if_pos hc] at e
      cases e
      exact (h.mono (clos_sub R) (.refl r)).clo hc
    | false =>
      unfold fz at e
      rw [if_neg (by rw [hc]; decide)] at e
      cases d with
      | ref n =>
        dsimp only at e
        cases q : S[n]? with
        | none => rw [q] at e; cases e
        | some o =>
          rw [q] at e
          have hne : o ≠ .dead := by intro z; subst z; cases e
          obtain ⟨a, ha⟩ := R.live n o q hne
          obtain ⟨o', h1, h2⟩ := R.ob n a ha
          rw [q] at h1; cases h1
          cases h with
          | ref hn hv =>
            have ev := hv a ha
            subst ev
            have sa := clos_in (F := F) (H := H) ha
            cases o with
            | dead => cases e
            | lst xs =>
              dsimp only at e
              cases q2 : fz.fzL (fz k S) xs with
              | none => rw [q2] at e; cases e
              | some ys =>
                rw [q2] at e; cases e
                obtain ⟨vs, h3, h4⟩ := h2
                exact .lst (sa.trans h3) (fzL_ok R k h4 q2 r')
            | dict ks xs =>
              dsimp only at e
              cases q2 : fz.fzL (fz k S) xs with
              | none => rw [q2] at e; cases e
              | some ys =>
                rw [q2] at e; cases e
                obtain ⟨kvs, h3, h5, h4⟩ := h2
                exact .dict (sa.trans h3) h5 (fzL_ok R k h4 q2 r')
            | ins c ns xs =>
              dsimp only at e
              cases q2 : fz.fzL (fz k S) xs with
              | none => rw [q2] at e; cases e
              | some ys =>
                rw [q2] at e; cases e
                rcases h2 with ⟨l, C, dx, fs, h3, hc, h5, h4⟩ | ⟨sl, C, dx, vs, l, hn2, s, hc, h4⟩
                · exact .obj (sa.trans h3) hc l h5 (fzL_ok R k h4 q2 r')
                · refine .slo (sl := sl) (dx := dx) ?_ hc l hn2 (fzL_ok R k h4 q2 r')
                  rcases s with ⟨s1, s2⟩ | ⟨s1, s2⟩
                  · exact .inl ⟨sa.trans s1, s2⟩
                  · refine .inr ⟨sa.trans s1, ?_⟩
                    unfold clos
                    rw [if_pos (.inr s2)]
                    exact s2
      | tup xs =>
        dsimp only at e
        cases q2 : fz.fzL (fz k S) xs with
        | none => rw [q2] at e; cases e
        | some ys =>
          rw [q2] at e; cases e
          cases h with
          | tup h hs => exact .tup (Same.seqT (clos_sub R) h) (fzL_ok R k hs q2 r')
      | lst xs =>
        dsimp only at e
        cases q2 : fz.fzL (fz k S) xs with
        | none => rw [q2] at e; cases e
        | some ys =>
          rw [q2] at e; cases e
          cases h with
          | lst h hs => exact .lst (clos_sub R _ _ h) (fzL_ok R k hs q2 r')
      | _ => cases e
termination_by k => (k, 0)
theorem fzL_ok (R : Rel Y F r S H) : ∀ (k : Nat) {ds ds' : List D} {vs : List V}, VRs Y F r ds vs → fz.fzL (fz k S) ds = some ds' → ∀ r', VRs Y (clos F r H) r' ds' vs
  | k, [], _, _, .nil, e, r' => by cases e; exact .nil
  | k, d :: ds, ds', _, .cons h hs, e, r' => by
    have e' : (match fz k S d, fz.fzL (fz k S) ds with | some y, some ys => some (y :: ys) | _, _ => none) = some ds' := e
    cases q1 : fz k S d with
    | none => rw [q1] at e'; cases e'
    | some y =>
      cases q2 : fz.fzL (fz k S) ds with
      | none => rw [q1, q2] at e'; cases e'
      | some ys =>
        rw [q1, q2] at e'
        cases e'
        exact .cons (fz_ok R k h q1 r') (fzL_ok R k hs q2 r')
termination_by k ds => (k, ds.length + 1)
end
/-- a state of its own within a greater one -/
theorem clos_back (R : Rel Y F r S H) (R1 : Rel Y F1 r1 S1 H1) (x : Ext F [] H F1 r1 H1) : Rel Y (clos F1 r1 H1) r S H1 ∧ Ext F r H (clos F1 r1 H1) r H1 := by
  have nil : ∀ (n : Nat) (a : Addr), ¬ ([] : Rho)[n]? = some (some a) := fun n a h => by simp at h
  have kp : ∀ a o, H a = some o → (∀ x, o ≠ .own x) → H1 a = some o := fun a o e ho => x.keep a o e (fun n => nil n a) ho
  have new : ∀ (n : Nat) a, r1[n]? = some (some a) → H a = none := fun n a h => by
    rcases x.rn n a h with q | ⟨q, _⟩
    · exact absurd q (nil n a)
    · exact q
  have FS : L2.Same F (clos F1 r1 H1) := fun b o e => clos_sub R1 b o (x.f b o e)
  have at_ : ∀ (n : Nat) a, r[n]? = some (some a) → ∃ o, H a = some o ∧ H1 a = some o ∧ o ≠ .xd [] := fun n a h => by
    obtain ⟨ob, _, q⟩ := R.ob n a h
    obtain ⟨o, e, k1, k2⟩ := q.kind
    exact ⟨o, e, kp a o e k2, k1⟩
  refine ⟨⟨fun b o e => clos_H R1 b o e, R.len, fun n a h => ?_, R.inj, fun n a h => ?_, R.live, fun b x e => clos_noo R1 b x e⟩, ⟨FS, fun b o e => ?_, .refl r, fun _ _ h => .inl h, fun a o e _ ho => kp a o e ho, x.dom⟩⟩
  · obtain ⟨o, e1, e2, k⟩ := at_ n a h
    unfold clos
    rw [if_neg]
    · cases q : F1 a with
      | none => rfl
      | some o' =>
        rcases x.fn a o' q with z | z | ⟨m, z⟩ | z
        · rw [R.dis n a h] at z; cases z
        · rw [z] at e1; cases e1
        · exact absurd z (nil m a)
        · have := R1.sub a o' q
          rw [e2, z] at this
          cases this
          exact absurd rfl k
    · rintro (⟨m, z⟩ | z)
      · rw [new m a z] at e1; cases e1
      · rw [e2] at z; cases z; exact k rfl
  · obtain ⟨ob, h1, h2⟩ := R.ob n a h
    obtain ⟨o, e1, e2, k⟩ := at_ n a h
    exact ⟨ob, h1, h2.mono FS (.refl r) (e2.trans e1.symm) fun b q => kp b _ q fun z => by intro w; cases w⟩
  · unfold clos at e
    split at e
    · rename_i q
      rcases q with ⟨n, q⟩ | q
      · exact .inr (.inl (new n b q))
      · rw [q] at e; cases e; exact .inr (.inr (.inr rfl))
    · rcases x.fn b o e with z | z | ⟨m, z⟩ | z
      · exact .inl z
      · exact .inr (.inl z)
      · exact absurd z (nil m b)
      · exact .inr (.inr (.inr z))
theorem Rel.nil (R : Rel Y F r S H) : Rel Y F [] [] H :=
  ⟨R.sub, rfl, fun n a h => by simp at h, fun m n a h => by simp at h, fun n a h => by simp at h, fun n o h => by simp at h, R.noo⟩
end

/-! ### what stands of the program -/
/-- a promise by positional values, nothing of which is being shown -/
def FnRG (P : Program) (w : World) (K : PySem.W.Frag) (mg : Str → Option Value) (base : Heap) (k : Nat) (f : Addr) (sp : Sp) : Prop :=
  ∀ (A : Around) (outer : List Env) (s : Shared) (H : Hp) (us : List Value) (vs : List V) (Q : VK) (E : XK), Room k A → A.guards = some [] → Env0 P w K mg base A outer s H → Vals vs us → sp vs H Q E →
    codeAny (model P w) A (.call (.ref f) ⟨us, []⟩) (CR (CX P w) outer P w H s Q E) s
/-- .. by keywords -/
def FnKw (P : Program) (w : World) (K : PySem.W.Frag) (mg : Str → Option Value) (base : Heap) (k : Nat) (f : Addr) (ks ps : List Str) (sp : Sp) : Prop :=
  ∀ (A : Around) (outer : List Env) (s : Shared) (H : Hp) (us : List Value) (vs ws : List V) (Q : VK) (E : XK), Room k A → A.guards = some [] → Env0 P w K mg base A outer s H → Vals vs us → vs.length = ks.length → kwOrder ps (ks.zip vs) = some ws → sp ws H Q E →
    codeAny (model P w) A (.call (.ref f) ⟨[], ks.zip us⟩) (CR (CX P w) outer P w H s Q E) s
/-- a def: whatever of its defaults fills up -/
structure FnG (X : Cx) (sl : Slo) (f : FnI) (a : Addr) : Prop where
  pos : ∀ j, j ≤ f.dfl.length → ∃ dvs, (∀ F r, VRs (fx X sl) F r (f.dfl.drop j) dvs) ∧
    FnRG X.prog X.w X.K X.mg X.base f.lev a (fun vs H Q E => SpD (fx X sl) f.ps.length f.run (vs ++ dvs) H Q E)
  kw : ∀ ks ∈ f.kws, FnKw X.prog X.w X.K X.mg X.base f.lev a ks f.ps (fun vs H Q E => SpD (fx X sl) f.ps.length f.run vs H Q E)
structure GenOk (X : Cx) (sl : Slo) (G : Gen) : Prop where
  glob : ∀ x d, G.glob x = some d → ∃ u v, X.mg x = some u ∧ RelV v u ∧ ∀ F r, VR (fx X sl) F r d v
  fn : ∀ x f, fnOk G x = some f → ∃ a, a = He.ga X.K x ∧ X.mg x = some (.ref a) ∧ PySem.W.keepIn X.K (.ref a) = true ∧ FnG X sl f a
  me : ∀ c m f, meOk G c m = some f → ∃ a, BMeth X.K (He.ga X.K c) m a ∧ FnG X sl f a
  make : ∀ c p, mkOk G c = some p → ∃ a, Mk X.K (He.ga X.K c) a ∧ FnG X sl p.2 a
  free : ∀ x, G.free x = true → X.mg x = none
  cls : ∀ c ci, G.cls c = some ci → X.mg c = some (.ref (He.ga X.K c)) ∧
    (ci.slots = false → sl.lookup c = none ∧ Cls X.K (He.ga X.K c) ∧ ∀ f ∈ ci.flds, NoAttr X.K (He.ga X.K c) f) ∧
    (ci.slots = true → sl.lookup c = some ci.flds ∧ ci.flds.Nodup ∧ SlX.SCls X.K (He.ga X.K c) ∧ ∀ (i : Nat) f, ci.flds[i]? = some f → ∃ p, SlX.Slot1 X.K (He.ga X.K c) f p i) ∧
    (ci.isi = true → ci.slots = true ∧ SlX.SIsi X.K (He.ga X.K c) ∧ ∀ T ∈ ["NoneType", "bool", "int", "str", "tuple", "list"], PySem.W.kitOne X.K (.type T) (.ref (He.ga X.K c)) = some false)
/-- where the evaluator stands -/
structure XD (X : Cx) (sl : Slo) (W : WX) (c : Ctx) : Prop where
  N : X.N = c.N
  nd : c.N.Nodup
  sc : X.env.scope = c.sc
  calm : X.calm = true
  tk : Takes X W
  gen : GenOk X sl c.G
  room : Room c.G.lev X.A
  gd : X.A.guards = some []
  top : c.top = true → ∀ x, X.env.scope.names.lookup x = some .cell → X.fn x = true
/-- .. in a def's body, not a block within -/
structure XS (X : Cx) (sl : Slo) (W : WX) (c : Ctx) : Prop extends XD X sl W c where
  own : PassesOwn (model X.prog X.w) X.A X.env X.xe

def GoodE (X : Cx) (sl : Slo) (W : WX) (e : Expr) (v : Slots) (S : Sto) (m : Res D) : Prop := ∀ F r σ H, Rel (fx X sl) F r S H → SR (fx X sl) F r v σ → ∀ Q : VK, PostF (fx X sl) F r H m Q (fun c d H' => W c d σ H') → semE X e σ H Q
def GoodT (X : Cx) (sl : Slo) (W : WX) (e : Expr) (v : Slots) (S : Sto) (m : Res Bool) : Prop := ∀ F r σ H, Rel (fx X sl) F r S H → SR (fx X sl) F r v σ → ∀ Q : Bool → Hp → Prop, PostFB (fx X sl) F r H m Q (fun c d H' => W c d σ H') → semT X e σ H Q
def GoodA (X : Cx) (sl : Slo) (W : WX) (es : List Expr) (v : Slots) (S : Sto) (m : Res (List D)) : Prop := ∀ F r σ H, Rel (fx X sl) F r S H → SR (fx X sl) F r v σ → ∀ Q : List V → Hp → Prop, PostFL (fx X sl) F r H m Q (fun c d H' => W c d σ H') → semA X es σ H Q
def PostS (Y : Fx) (W : WX) (F : Hp) (r : Rho) (H : Hp) (m : SRes) (D : Ends) : Prop := match m with
  | .bad => False
  | .nx v S' => ∀ F' r' H' σ', Rel Y F' r' S' H' → Ext F r H F' r' H' → SR Y F' r' v σ' → D.nx σ' H'
  | .rt d S' => Post Y F r H d S' D.rt
  | .bk v S' => ∀ F' r' H' σ', Rel Y F' r' S' H' → Ext F r H F' r' H' → SR Y F' r' v σ' → D.bk σ' H'
  | .ct v S' => ∀ F' r' H' σ', Rel Y F' r' S' H' → Ext F r H F' r' H' → SR Y F' r' v σ' → D.ct σ' H'
  | .exc c ns xs v S' => ∀ σ', PostX Y F r H c ns xs S' (fun k d H' => ∀ F' r', Ext F r H F' r' H' → SR Y F' r' v σ' → W k d σ' H')
def GoodS (X : Cx) (sl : Slo) (W : WX) (s : Stmt) (v : Slots) (S : Sto) (m : SRes) : Prop := ∀ F r σ H, Rel (fx X sl) F r S H → SR (fx X sl) F r v σ → ∀ D : Ends, PostS (fx X sl) W F r H m D → semS X s D σ H
def GoodB (X : Cx) (sl : Slo) (W : WX) (s : List Stmt) (v : Slots) (S : Sto) (m : SRes) : Prop := ∀ F r σ H, Rel (fx X sl) F r S H → SR (fx X sl) F r v σ → ∀ D : Ends, PostS (fx X sl) W F r H m D → semSs X s D σ H
/-- the evaluator's turns are right -/
structure Good (sl : Slo) (R : Rec) : Prop where
  E : ∀ X W c, XD X sl W c → ∀ e v S, GoodE X sl W e v S (R.E c e v S)
  T : ∀ X W c, XD X sl W c → ∀ e v S, GoodT X sl W e v S (R.T c e v S)
  S : ∀ X W c, XS X sl W c → ∀ s v S, GoodS X sl W s v S (R.S c s v S)
end DV
end

section
set_option Elab.async false
set_option linter.all false
set_option maxRecDepth 100000
set_option autoImplicit false
/-! The evaluator is right: expressions. -/
namespace DV
open PySem L2
section
variable {X : Cx} {sl : Slo} {W : WX} {c : Ctx} {e : Expr} {v : Slots} {S : Sto} {F : Hp} {r : Rho} {σ : St} {H : Hp} {A : Type} {P : Want A}
abbrev EW (W : WX) (σ : St) : XK := fun c d H' => W c d σ H'

/-- an expression, then what follows -/
theorem run1 {m : Res D} {k : D → Sto → Res A} {C : VK} (hP : StepC P) (g : GoodE X sl W e v S m) (R : Rel (fx X sl) F r S H) (s : SR (fx X sl) F r v σ) (p : PostR (fx X sl) F r H (m.bind k) P (EW W σ))
    (h : ∀ d S1 F1 r1 H1 x, Rel (fx X sl) F1 r1 S1 H1 → Ext F r H F1 r1 H1 → VR (fx X sl) F1 r1 d x → SR (fx X sl) F1 r1 v σ → PostR (fx X sl) F1 r1 H1 (k d S1) P (EW W σ) → C x H1) : semE X e σ H C := by
  refine g F r σ H R s C ?_
  cases m with
  | bad => exact p
  | ok d S1 => exact fun F1 r1 H1 x R1 x1 hx => h d S1 F1 r1 H1 x R1 x1 hx (s.step x1) (PostR.step (m := k d S1) p hP x1)
  | exc c ns xs S1 => exact p
theorem runT {m : Res Bool} {k : Bool → Sto → Res A} {C : Bool → Hp → Prop} (hP : StepC P) (g : GoodT X sl W e v S m) (R : Rel (fx X sl) F r S H) (s : SR (fx X sl) F r v σ) (p : PostR (fx X sl) F r H (m.bind k) P (EW W σ))
    (h : ∀ d S1 F1 r1 H1, Rel (fx X sl) F1 r1 S1 H1 → Ext F r H F1 r1 H1 → SR (fx X sl) F1 r1 v σ → PostR (fx X sl) F1 r1 H1 (k d S1) P (EW W σ) → C d H1) : semT X e σ H C := by
  refine g F r σ H R s C ?_
  cases m with
  | bad => exact p
  | ok d S1 => exact fun F1 r1 H1 R1 x1 => h d S1 F1 r1 H1 R1 x1 (s.step x1) (PostR.step (m := k d S1) p hP x1)
  | exc c ns xs S1 => exact p
theorem runA {es : List Expr} {m : Res (List D)} {k : List D → Sto → Res A} {C : List V → Hp → Prop} (hP : StepC P) (g : GoodA X sl W es v S m) (R : Rel (fx X sl) F r S H) (s : SR (fx X sl) F r v σ) (p : PostR (fx X sl) F r H (m.bind k) P (EW W σ))
    (h : ∀ d S1 F1 r1 H1 x, Rel (fx X sl) F1 r1 S1 H1 → Ext F r H F1 r1 H1 → VRs (fx X sl) F1 r1 d x → SR (fx X sl) F1 r1 v σ → PostR (fx X sl) F1 r1 H1 (k d S1) P (EW W σ) → C x H1) : semA X es σ H C := by
  refine g F r σ H R s C ?_
  cases m with
  | bad => exact p
  | ok d S1 => exact fun F1 r1 H1 x R1 x1 hx => h d S1 F1 r1 H1 x R1 x1 hx (s.step x1) (PostR.step (m := k d S1) p hP x1)
  | exc c ns xs S1 => exact p
/-- a value that stands -/
theorem PostR.val {d : D} {x : V} {Q : VK} {E : XK} (p : PostF (fx X sl) F r H (.ok d S) Q E) (R : Rel (fx X sl) F r S H) (h : VR (fx X sl) F r d x) : Q x H := p F r H x R (.refl ..) h

/-! ### argument lists -/
theorem starEach_star {e' : Expr} {es : List Expr} {p : Pos} {env : Env} : starEach (.Starred e' p :: es) env = (true, eval e' env) :: starEach es env := by rfl
theorem starEach_cons {es : List Expr} {env : Env} (h : ∀ e' p, e ≠ .Starred e' p) : starEach (e :: es) env = (false, eval e env) :: starEach es env := by
  cases e <;> first | rfl | exact absurd rfl (h _ _)
theorem good_A {R : Rec} (g : ∀ e v S, GoodE X sl W e v S (R.E c e v S)) : ∀ (es : List Expr) (v : Slots) (S : Sto), GoodA X sl W es v S (evA R c es v S)
  | [], v, S => fun F r σ H R' s Q p => semA_of pa_nil (p F r H [] R' (.refl ..) .nil)
  | e :: es, v, S => by
    have ih := good_A g es
    intro F r σ H R' s Q p
    unfold evA at p
    split at p
    · rename_i e' pp
      refine semA_of (StX.pa_star (pe_sem (e := e')) (pa_sem (es := es)) starEach_star) ?_
      refine run1 pl_step (g e' v S) R' s p fun d S1 F1 r1 H1 x R1 x1 hx s1 p1 => ?_
      cases hi : items S1 d with
      | none => rw [hi] at p1; exact p1.elim
      | some xs =>
        rw [hi] at p1
        dsimp only at p1
        obtain ⟨a, vs, rfl, h2, h3⟩ := hx.items R1 hi
        refine ⟨a, vs, rfl, h2.symm, runA pl_step (ih v S1) R1 s1 p1 fun ds S2 F2 r2 H2 ys R2 x2 hy s2 p2 => ?_⟩
        exact p2 F2 r2 H2 _ R2 (.refl ..) ((x2.monos h3).append hy)
    · rename_i hn
      refine semA_of (pa_cons (pe_sem (e := e)) (pa_sem (es := es)) (starEach_cons fun e' p' z => hn e' p' z)) ?_
      refine run1 pl_step (g e v S) R' s p fun d S1 F1 r1 H1 x R1 x1 hx s1 p1 => ?_
      refine runA pl_step (ih v S1) R1 s1 p1 fun ds S2 F2 r2 H2 ys R2 x2 hy s2 p2 => ?_
      exact p2 F2 r2 H2 _ R2 (.refl ..) (.cons (x2.mono hx) hy)
theorem noStar_starEach : ∀ {es : List Expr} {env : Env} {pos : Pos}, noStar es = true → (backTo pos (starEach es env)).any (·.1) = false
  | [], _, _, _ => rfl
  | e :: es, env, pos, h => by
    have hs : ∀ e' p, e ≠ .Starred e' p := fun e' p z => by subst z; cases h
    have h' : noStar es = true := by
      cases e <;> first | exact h | cases h
    rw [starEach_cons hs]
    show (false || (backTo pos (starEach es env)).any (·.1)) = false
    rw [noStar_starEach h']
    rfl

/-! ### names and constants -/
theorem ixOf_go {x : Str} : ∀ {N : List Str} {k i : Nat}, ixOf.go x N k = some i → k ≤ i ∧ N[i - k]? = some x
  | [], _, _, e => by cases e
  | y :: ys, k, i, e => by
    unfold ixOf.go at e
    split at e
    · rename_i h
      cases e
      subst h
      exact ⟨Nat.le_refl _, by simp⟩
    · obtain ⟨h1, h2⟩ := ixOf_go e
      refine ⟨by omega, ?_⟩
      have e2 : i - k = (i - (k + 1)) + 1 := by omega
      rw [e2]
      simpa using h2
theorem ixOf_get {x : Str} {N : List Str} {i : Nat} (h : ixOf N x = some i) : N[i]? = some x := by
  have := (ixOf_go h).2
  simpa using this
theorem visK_of {k : Option NameKind} {sc : Scope} {x : Str} (h : sc.names.lookup x = k) (hv : visK k = true) : Vis sc x := by
  unfold Vis
  rw [h]
  cases k with
  | none => cases hv
  | some k =>
    cases k <;> first | exact .inl rfl | exact .inr (.inl rfl) | exact .inr (.inr rfl) | cases hv
theorem badName_of {x : Str} (h : ¬ badName x = true) : (x == ("__debug__" : Str)) = false ∧ (x == ("__classdict__" : Str)) = false ∧ x ≠ "__name__" := by
  unfold badName at h
  simp only [Bool.or_eq_true, decide_eq_true_eq, not_or] at h
  exact ⟨beq_eq_false_iff_ne.mpr h.1.1, beq_eq_false_iff_ne.mpr h.1.2, h.2⟩
theorem good_name (xd : XD X sl W c) {x : Str} {p : Pos} : GoodE X sl W (.Name x p) v S (Res.opt S (look c x v)) := by
  intro F r σ H R s Q q
  unfold look at q
  split at q
  · exact q.elim
  · rename_i hb
    obtain ⟨b1, b2, b3⟩ := badName_of hb
    split at q
    · rename_i hv
      cases hi : ixOf c.N x with
      | none => rw [hi] at q; exact q.elim
      | some i =>
        rw [hi] at q
        cases hj : (v[i]?).join with
        | none => simp only [hj] at q; exact q.elim
        | some d =>
          simp only [hj] at q
          have hs : v[i]? = some (some d) := by
            cases z : v[i]? with
            | none => rw [z] at hj; cases hj
            | some o => rw [z] at hj; simp at hj; rw [hj]
          obtain ⟨y, h1, h2⟩ := s.at_ i d hs
          refine semE_of (pe_var (i := i) (by rw [xd.N]; exact ixOf_get hi) (visK_of (by rw [xd.sc]) hv) b1 b2) ⟨y, h1, PostR.val q R h2⟩
    · split at q
      · rename_i hg
        cases hj : c.G.glob x with
        | none => rw [hj] at q; exact q.elim
        | some d =>
          rw [hj] at q
          obtain ⟨u, y, h1, h2, h3⟩ := xd.gen.glob x d hj
          have gl : Gl X x := by show X.env.scope.names.lookup x = _; rw [xd.sc]; exact of_decide_eq_true hg
          exact semE_of (pe_glob gl h1 h2 b1) (PostR.val q R (h3 F r))
      · exact q.elim
theorem good_const {k : Const} {i : Nat} {p : Pos} : GoodE X sl W (.Constant k i p) v S (Res.opt S (constD k)) := by
  intro F r σ H R s Q q
  cases k <;> first | exact q.elim | skip
  · exact semE_of pe_non (PostR.val q R .non)
  · exact semE_of pe_bl (PostR.val q R (.bl _))
  · exact semE_of pe_int (PostR.val q R (.int _))
  · exact semE_of pe_str (PostR.val q R (.str _))
end
end DV
end

section
set_option Elab.async false
set_option linter.all false
set_option maxRecDepth 100000
set_option autoImplicit false
/-! The evaluator is right: operators, tests, displays. -/
namespace DV
open PySem L2
section
variable {X : Cx}
def opSem (X : Cx) (f : Value → Value → Sem Value) : R2 := fun x y H Q => ∀ (pins : List (Addr × Obj)) (s : Shared) (σ : St) (v u : Value), Inv X pins σ H s → RelV x v → RelV y u → wpAny (model X.prog X.w) X.A (f v u) (EP X pins σ Q) X.xe s
theorem opR_sem {f : Value → Value → Sem Value} : OpR X f (opSem X f) := fun pins s σ H x y v u Q I rx ry h => h pins s σ v u I rx ry
theorem opSem_of {f : Value → Value → Sem Value} {x y : V} {H : Hp} {Q : VK} (h : ∃ rr : R2, OpR X f rr ∧ rr x y H Q) : opSem X f x y H Q := fun pins s σ v u I rx ry => let ⟨_, k, q⟩ := h; k pins s σ H x y v u Q I rx ry q
def ixSem (X : Cx) : R2 := fun x y H Q => ∀ (value slice : Expr) (pins : List (Addr × Obj)) (s : Shared) (σ : St) (v u : Value), Inv X pins σ H s → RelV x v → RelV y u → subscripted slice false v u = operate [v, u] (getItem v u) → wpAny (model X.prog X.w) X.A (PyProof.Rows.subscriptTail value slice v u) (EP X pins σ Q) X.xe s
theorem ixR_sem : IxR X (ixSem X) := fun value slice pins s σ H x y v u Q I rx ry h hs => h value slice pins s σ v u I rx ry hs
theorem ixSem_of {x y : V} {H : Hp} {Q : VK} (h : ∃ rr : R2, IxR X rr ∧ rr x y H Q) : ixSem X x y H Q := fun value slice pins s σ v u I rx ry hs => let ⟨_, k, q⟩ := h; k value slice pins s σ H x y v u Q I rx ry q hs
end
section
variable {X : Cx} {sl : Slo} {W : WX} {c : Ctx} {e a b : Expr} {v : Slots} {S : Sto} {F : Hp} {r : Rho} {σ : St} {H : Hp} {R : Rec} {pos : Pos}

theorem good_binop {op : Operator} (g : ∀ e v S, GoodE X sl W e v S (R.E c e v S)) :
    GoodE X sl W (.BinOp a op b pos) v S ((R.E c a v S).bind fun x S1 => (R.E c b v S1).bind fun y S2 => Res.opt S2 (binop op x y)) := by
  intro F r σ H R' s Q p
  refine semE_of (pe_op opR_sem (pe_sem (e := a)) (pe_sem (e := b))) ?_
  refine run1 pd_step (g a v S) R' s p fun x S1 F1 r1 H1 x' R1 x1 hx s1 p1 => ?_
  refine run1 pd_step (g b v S1) R1 s1 p1 fun y S2 F2 r2 H2 y' R2 x2 hy s2 p2 => ?_
  cases e : binop op x y with
  | none => rw [e] at p2; exact p2.elim
  | some z => rw [e] at p2; exact opSem_of (binop_ok R2 (x2.mono hx) hy e p2)
theorem good_neg (g : ∀ e v S, GoodE X sl W e v S (R.E c e v S)) :
    GoodE X sl W (.UnaryOp .USub a pos) v S ((R.E c a v S).bind fun x S1 => match x with
    | .int i => .ok (.int (-i)) S1
    | _ => .bad) := by
  intro F r σ H R' s Q p
  refine semE_of (pe_un un_neg (pe_sem (e := a))) ?_
  refine run1 pd_step (g a v S) R' s p fun x S1 F1 r1 H1 x' R1 x1 hx s1 p1 => ?_
  cases hx <;> first | exact p1.elim | skip
  exact ⟨_, rfl, PostR.val p1 R1 (.int _)⟩
theorem good_not (g : ∀ e v S, GoodE X sl W e v S (R.E c e v S)) :
    GoodE X sl W (.UnaryOp .Not a pos) v S ((R.E c a v S).bind fun x S1 => Res.opt S1 ((truth S1 x).map fun b => .bl (!b))) := by
  intro F r σ H R' s Q p
  refine semE_of (pe_notT (pe_sem (e := a))) ?_
  refine run1 pd_step (g a v S) R' s p fun x S1 F1 r1 H1 x' R1 x1 hx s1 p1 => ?_
  cases e : truth S1 x with
  | none => rw [e] at p1; exact p1.elim
  | some k => rw [e] at p1; exact ⟨k, truth_ok R1 hx e, PostR.val p1 R1 (.bl _)⟩
theorem good_bool {op : BoolOp} (g : ∀ e v S, GoodE X sl W e v S (R.E c e v S)) : ∀ (es : List Expr) (v : Slots) (S : Sto), GoodE X sl W (.BoolOp op es pos) v S (evBool R c op es v S)
  | [], v, S => fun F r σ H R' s Q p => p.elim
  | [a], v, S => fun F r σ H R' s Q p => semE_of (pe_one (pe_sem (e := a))) (g a v S F r σ H R' s Q p)
  | a :: b :: rest, v, S => by
    intro F r σ H R' s Q p
    have ih := good_bool (op := op) g (b :: rest)
    cases op with
    | And =>
      refine semE_of (pe_andT (pe_sem (e := a)) (pe_sem (e := .BoolOp .And (b :: rest) pos))) ?_
      refine run1 pd_step (g a v S) R' s p fun x S1 F1 r1 H1 x' R1 x1 hx s1 p1 => ?_
      cases e : truth S1 x with
      | none => rw [e] at p1; exact p1.elim
      | some k =>
        rw [e] at p1
        refine ⟨k, truth_ok R1 hx e, ?_⟩
        cases k with
        | true => exact ih v S1 F1 r1 σ H1 R1 s1 Q p1
        | false => exact PostR.val p1 R1 hx
    | Or =>
      refine semE_of (pe_orT (pe_sem (e := a)) (pe_sem (e := .BoolOp .Or (b :: rest) pos))) ?_
      refine run1 pd_step (g a v S) R' s p fun x S1 F1 r1 H1 x' R1 x1 hx s1 p1 => ?_
      cases e : truth S1 x with
      | none => rw [e] at p1; exact p1.elim
      | some k =>
        rw [e] at p1
        refine ⟨k, truth_ok R1 hx e, ?_⟩
        cases k with
        | true => exact PostR.val p1 R1 hx
        | false => exact ih v S1 F1 r1 σ H1 R1 s1 Q p1
theorem good_ifExp {t : Expr} (g : ∀ e v S, GoodE X sl W e v S (R.E c e v S)) (gt : ∀ e v S, GoodT X sl W e v S (R.T c e v S)) :
    GoodE X sl W (.IfExp t a b pos) v S ((R.T c t v S).bind fun k S1 => if k then R.E c a v S1 else R.E c b v S1) := by
  intro F r σ H R' s Q p
  refine semE_of (pe_ifExp (pt_sem (e := t)) (pe_sem (e := a)) (pe_sem (e := b))) ?_
  refine runT pd_step (gt t v S) R' s p fun k S1 F1 r1 H1 R1 x1 s1 p1 => ?_
  cases k with
  | true => exact g a v S1 F1 r1 σ H1 R1 s1 Q p1
  | false => exact g b v S1 F1 r1 σ H1 R1 s1 Q p1
theorem good_tuple {es : List Expr} {k : Nat} (g : ∀ e v S, GoodE X sl W e v S (R.E c e v S)) :
    GoodE X sl W (.Tuple es k pos) v S ((evA R c es v S).bind fun xs S1 => if xs.length ≤ sizeLine then .ok (.tup xs) S1 else .bad) := by
  intro F r σ H R' s Q p
  refine semE_of (pe_tup (pa_sem (es := es))) ?_
  refine runA pd_step (good_A g es v S) R' s p fun xs S1 F1 r1 H1 vs R1 x1 hx s1 p1 => ?_
  split at p1
  · rename_i hl
    exact ⟨by rw [← hx.length]; exact hl, Post.tup p1 R1 hx⟩
  · exact p1.elim

/-! ### tests -/
theorem good_tnot (gt : ∀ e v S, GoodT X sl W e v S (R.T c e v S)) :
    GoodT X sl W (.UnaryOp .Not a pos) v S ((R.T c a v S).bind fun b S1 => .ok (!b) S1) := by
  intro F r σ H R' s Q p
  refine semT_of (pt_not (pt_sem (e := a))) ?_
  refine runT pb_step (gt a v S) R' s p fun k S1 F1 r1 H1 R1 x1 s1 p1 => p1 F1 r1 H1 R1 (.refl ..)
def GoodW (X : Cx) (sl : Slo) (W : WX) (e : Expr) (v : Slots) (S : Sto) (m : Res Bool) : Prop := ∀ F r σ H, Rel (fx X sl) F r S H → SR (fx X sl) F r v σ → ∀ Q : Bool → Hp → Prop, PostFB (fx X sl) F r H m Q (fun c d H' => W c d σ H') → semW X e σ H Q
theorem good_all {op : BoolOp} (gt : ∀ e v S, GoodT X sl W e v S (R.T c e v S)) : ∀ (es : List Expr) (v : Slots) (S : Sto), GoodW X sl W (.BoolOp op es pos) v S (evAll R c op es v S)
  | [], v, S => fun F r σ H R' s Q p => p.elim
  | [a], v, S => fun F r σ H R' s Q p => by
    cases op with
    | And => exact semW_of (pw_and1 (pt_sem (e := a))) (gt a v S F r σ H R' s Q p)
    | Or => exact semW_of (pw_or1 (pt_sem (e := a))) (gt a v S F r σ H R' s Q p)
  | a :: b :: rest, v, S => by
    intro F r σ H R' s Q p
    have ih := good_all (op := op) gt (b :: rest)
    cases op with
    | And =>
      refine semW_of (pw_and (pt_sem (e := a)) (pw_sem (e := .BoolOp .And (b :: rest) pos))) ?_
      refine runT pb_step (gt a v S) R' s p fun k S1 F1 r1 H1 R1 x1 s1 p1 => ?_
      cases k with
      | true => exact ih v S1 F1 r1 σ H1 R1 s1 Q p1
      | false => exact p1 F1 r1 H1 R1 (.refl ..)
    | Or =>
      refine semW_of (pw_or (pt_sem (e := a)) (pw_sem (e := .BoolOp .Or (b :: rest) pos))) ?_
      refine runT pb_step (gt a v S) R' s p fun k S1 F1 r1 H1 R1 x1 s1 p1 => ?_
      cases k with
      | true => exact p1 F1 r1 H1 R1 (.refl ..)
      | false => exact ih v S1 F1 r1 σ H1 R1 s1 Q p1
theorem good_tbool {op : BoolOp} (gt : ∀ e v S, GoodT X sl W e v S (R.T c e v S)) (es : List Expr) (v : Slots) (S : Sto) : GoodT X sl W (.BoolOp op es pos) v S (evAll R c op es v S) :=
  fun F r σ H R' s Q p pins s' I => good_all gt es v S F r σ H R' s Q p _ pins s' I
/-- any other expression as a test -/
theorem good_ttruth (he : ∀ whole, isTrue e X.env whole = (do let v ← whole; standAt e.pos; holding [v] (truthy v))) (g : GoodE X sl W e v S (R.E c e v S)) :
    GoodT X sl W e v S ((R.E c e v S).bind fun x S1 => Res.opt S1 (truth S1 x)) := by
  intro F r σ H R' s Q p
  refine semT_of (pt_truth (pe_sem (e := e)) he) ?_
  refine run1 pb_step g R' s p fun x S1 F1 r1 H1 x' R1 x1 hx s1 p1 => ?_
  cases q : truth S1 x with
  | none => rw [q] at p1; exact p1.elim
  | some k => rw [q] at p1; exact ⟨k, truth_ok R1 hx q, p1 F1 r1 H1 R1 (.refl ..)⟩

/-! ### comparisons -/
theorem hu65 (xd : XD X sl W c) : X.A.units + 65 < cLine := by
  have h : X.A.units + 64 < cLine := xd.room.units
  have := xd.room.un
  omega
theorem dlook_ok {Y : Fx} : ∀ {xs : List D} {kvs : List (Key × V)} {ks : List Key}, kvs.map (·.1) = ks → VRs Y F r xs (kvs.map (·.2)) → ∀ k, (∀ d, dlook ks xs k = some d → ∃ y, valV kvs k = some y ∧ VR Y F r d y) ∧ (dlook ks xs k = none → valV kvs k = none)
  | xs, [], _, rfl, h, k => by
    refine ⟨fun d e => ?_, fun _ => rfl⟩
    cases xs <;> cases e
  | xs, (k0, y0) :: kvs, _, rfl, h, k => by
    cases h with
    | @cons x _ xs _ h hs =>
      obtain ⟨i1, i2⟩ := dlook_ok (kvs := kvs) rfl hs k
      by_cases hk : k0 = k
      · refine ⟨fun d e => ?_, fun e => ?_⟩
        · have e' : (if k0 = k then some x else dlook (kvs.map (·.1)) xs k) = some d := e
          rw [if_pos hk] at e'
          cases e'
          exact ⟨y0, by unfold valV; simp [hk], h⟩
        · have e' : (if k0 = k then some x else dlook (kvs.map (·.1)) xs k) = none := e
          rw [if_pos hk] at e'; cases e'
      · have ev : valV ((k0, y0) :: kvs) k = valV kvs k := by unfold valV; simp [hk]
        have el : dlook (((k0, y0) :: kvs).map (·.1)) (x :: xs) k = dlook (kvs.map (·.1)) xs k := by
          show (if k0 = k then some x else dlook (kvs.map (·.1)) xs k) = _
          rw [if_neg hk]
        rw [el, ev]
        exact ⟨i1, i2⟩
theorem toKey_ok {Y : Fx} {d : D} {y : V} {k : Key} (h : VR Y F r d y) (e : toKey d = some k) : y = kV k := by
  cases d <;> cases e <;> cases h <;> rfl
theorem dictD_ok {Y : Fx} {d : D} {y : V} {ks : List Key} {xs : List D} (R : Rel Y F r S H) (h : VR Y F r d y) (e : dictD S d = some (ks, xs)) :
    ∃ a, y = .ref a ∧ ∃ kvs : List (Key × V), kvs.map (·.1) = ks ∧ VRs Y F r xs (kvs.map (·.2)) ∧ H a = some (.dK kvs) := by
  cases d with
  | dict ks' xs' =>
    cases e
    cases h with
    | dict h hk hs => exact ⟨_, rfl, _, hk, hs, R.sub _ _ h⟩
  | ref n =>
    have e' : (match S[n]? with | some (Ob.dict ks xs) => some (ks, xs) | _ => none) = some (ks, xs) := e
    cases q : S[n]? with
    | none => rw [q] at e'; cases e'
    | some o =>
      rw [q] at e'
      cases o with
      | dict ks' xs' =>
        cases e'
        obtain ⟨a, ha⟩ := R.live n _ q (by intro z; cases z)
        obtain ⟨o, h1, h2⟩ := R.ob n a ha
        rw [q] at h1; cases h1
        obtain ⟨kvs, h3, h4, h5⟩ := h2
        cases h with
        | ref hn hv => exact ⟨a, hv a ha, kvs, h4, h5, h3⟩
      | _ => cases e'
  | _ => cases e
end
end DV
end

section
set_option Elab.async false
set_option linter.all false
set_option maxRecDepth 100000
set_option autoImplicit false
/-! The evaluator is right: comparisons, items, slices, attributes. -/
namespace DV
open PySem PySem.Spec PyProof.Rows L2
section
variable {X : Cx}
theorem op_din (hu : X.A.units + 1 < cLine) : OpR X (compareOp .In) (fun y x H Q => ∃ a o, x = .ref a ∧ DGet H a y o ∧ Q (.bl o.isSome) H) := by
  intro pins s σ H y x u v Q I ry rx h
  obtain ⟨a, o, rfl, g, q⟩ := h
  obtain rfl : v = Value.ref a := rx
  exact d_in hu I g ry fun s3 I3 => ⟨.bl o.isSome, H, I3, rfl, q⟩
theorem op_dnotin (hu : X.A.units + 1 < cLine) : OpR X (compareOp .NotIn) (fun y x H Q => ∃ a o, x = .ref a ∧ DGet H a y o ∧ Q (.bl (!o.isSome)) H) := by
  intro pins s σ H y x u v Q I ry rx h
  obtain ⟨a, o, rfl, g, q⟩ := h
  obtain rfl : v = Value.ref a := rx
  exact d_notIn hu I g ry fun s3 I3 => ⟨.bl (!o.isSome), H, I3, rfl, q⟩
theorem ix_dict (hu : X.A.units + 1 < cLine) : IxR X (fun x y H Q => ∃ a v, x = .ref a ∧ DGet H a y (some v) ∧ Q v H) := by
  intro value slice pins s σ H x y v u Q I rx ry h hs
  obtain ⟨a, w, rfl, g, q⟩ := h
  obtain rfl : v = Value.ref a := rx
  exact tail_any (dict_typeIs I g) PySem.F.slot_dict_getitem.lookup (d_getItem hu I g ry fun w' s3 I3 rw' => ⟨w, H, I3, rw', q⟩) hs
theorem ix_kd {d : Addr} {es : Array DictEntry} {n : Nat} (D : KDict X.K X.w d es n) : IxR X (fun x y H Q => ∃ (z : Str) (u0 : Value) (v0 : V), x = .ref d ∧ y = .str z ∧ PySem.W.nsIn X.K d z = some (some u0) ∧ RelV v0 u0 ∧ Q v0 H) := by
  intro value slice pins s σ H x y v u Q I rx ry h hs
  have h' := h
  obtain ⟨z, u0, v0, rfl, rfl, e, rv, q⟩ := h
  have k := op_item_kd D pins s σ H _ _ v u Q I rx ry h'
  cases rx
  exact tail_any (kd_type D I) PySem.F.slot_dict_getitem.lookup k hs
theorem flook_ok {Y : Fx} {F : Hp} {r : Rho} : ∀ {xs : List D} {fs : List (Str × V)} {ks : List Str}, fs.map (·.1) = ks → VRs Y F r xs (fs.map (·.2)) → ∀ k d, flook ks xs k = some d → ∃ y, fs.lookup k = some y ∧ VR Y F r d y
  | xs, [], _, rfl, h, k, d, e => by
    cases xs <;> cases e
  | xs, (k0, y0) :: fs, _, rfl, h, k, d, e => by
    cases h with
    | @cons x _ xs _ h hs =>
      have e' : (if k0 = k then some x else flook (fs.map (·.1)) xs k) = some d := e
      by_cases hk : k0 = k
      · rw [if_pos hk] at e'; cases e'
        refine ⟨y0, ?_, h⟩
        subst hk
        simp [List.lookup]
      · rw [if_neg hk] at e'
        obtain ⟨y, h1, h2⟩ := flook_ok (fs := fs) rfl hs k d e'
        refine ⟨y, ?_, h2⟩
        have z : (k == k0) = false := beq_eq_false_iff_ne.mpr fun q => hk q.symm
        simp [List.lookup, z, h1]
theorem flook_none {Y : Fx} {F : Hp} {r : Rho} : ∀ {xs : List D} {fs : List (Str × V)} {ks : List Str}, fs.map (·.1) = ks → VRs Y F r xs (fs.map (·.2)) → ∀ k, flook ks xs k = none → fs.lookup k = none
  | xs, [], _, rfl, h, k, e => rfl
  | xs, (k0, y0) :: fs, _, rfl, h, k, e => by
    cases h with
    | @cons x _ xs _ h hs =>
      have e' : (if k0 = k then some x else flook (fs.map (·.1)) xs k) = none := e
      by_cases hk : k0 = k
      · rw [if_pos hk] at e'; cases e'
      · rw [if_neg hk] at e'
        have z : (k == k0) = false := beq_eq_false_iff_ne.mpr fun q => hk q.symm
        simp [List.lookup, z, flook_none (fs := fs) rfl hs k e']
end
section
variable {X : Cx} {sl : Slo} {W : WX} {c : Ctx} {e a b : Expr} {v : Slots} {S : Sto} {F : Hp} {r : Rho} {σ : L2.St} {H : Hp} {R : Rec} {pos : Pos} {x y z : D} {x' y' : V}
theorem dget_ok (R' : Rel (fx X sl) F r S H) (hx : VR (fx X sl) F r x x') (hy : VR (fx X sl) F r y y') {ks : List Key} {xs : List D} {k : Key} (e1 : dictD S y = some (ks, xs)) (e2 : toKey x = some k) :
    ∃ a o, y' = .ref a ∧ DGet H a x' o ∧ (∀ d, dlook ks xs k = some d → ∃ w, o = some w ∧ VR (fx X sl) F r d w) ∧ (dlook ks xs k = none → o = none) := by
  obtain ⟨a, rfl, kvs, h1, h2, h3⟩ := dictD_ok R' hy e1
  obtain ⟨q1, q2⟩ := dlook_ok h1 h2 k
  have ek := toKey_ok hx e2
  subst ek
  exact ⟨a, valV kvs k, rfl, DGet.k h3, fun d e => let ⟨w, e1, e2⟩ := q1 d e; ⟨w, e1, e2⟩, q2⟩
theorem cmpF_ok {op : CmpOp} {t : Bool} (hu : X.A.units + 65 < cLine) (R' : Rel (fx X sl) F r S H) (hx : VR (fx X sl) F r x x') (hy : VR (fx X sl) F r y y') (e : cmpF op S x y = some t) {Q : VK} (q : Q (.bl t) H) :
    opSem X (compareOp op) x' y' H Q := by
  unfold cmpF at e
  cases hc : cmpV op S x y with
  | some k =>
    rw [hc] at e
    cases e
    obtain ⟨rr, h1, h2⟩ := cmp_ok hu R' hx hy hc
    exact opSem_of ⟨rr, h1, h2 Q q⟩
  | none =>
    rw [hc] at e
    dsimp only at e
    have hu1 : X.A.units + 1 < cLine := by omega
    cases op <;> first | cases e; done | skip
    · dsimp only at e
      cases e1 : dictD S y with
      | none => rw [e1] at e; cases e
      | some p =>
        cases e2 : toKey x with
        | none => rw [e1, e2] at e; cases e
        | some k =>
          rw [e1, e2] at e
          cases e
          obtain ⟨a, o, rfl, g, q1, q2⟩ := dget_ok R' hx hy e1 e2
          refine opSem_of ⟨_, op_din hu1, a, o, rfl, g, ?_⟩
          cases hd : dlook p.1 p.2 k with
          | none => rw [q2 hd]; rw [hd] at q; exact q
          | some d => obtain ⟨w, rfl, _⟩ := q1 d hd; rw [hd] at q; exact q
    · dsimp only at e
      cases e1 : dictD S y with
      | none => rw [e1] at e; cases e
      | some p =>
        cases e2 : toKey x with
        | none => rw [e1, e2] at e; cases e
        | some k =>
          rw [e1, e2] at e
          cases e
          obtain ⟨a, o, rfl, g, q1, q2⟩ := dget_ok R' hx hy e1 e2
          refine opSem_of ⟨_, op_dnotin hu1, a, o, rfl, g, ?_⟩
          cases hd : dlook p.1 p.2 k with
          | none => rw [q2 hd]; rw [hd] at q; exact q
          | some d => obtain ⟨w, rfl, _⟩ := q1 d hd; rw [hd] at q; exact q
theorem getF_ok (hu : X.A.units + 1 < cLine) (R' : Rel (fx X sl) F r S H) (hx : VR (fx X sl) F r x x') (hy : VR (fx X sl) F r y y') (e : getF S x y = some z) {Q : VK} (q : ∀ w, VR (fx X sl) F r z w → Q w H) : ixSem X x' y' H Q := by
  unfold getF at e
  cases hc : getV S x y with
  | some k =>
    rw [hc] at e
    cases e
    obtain ⟨rr, h1, h2⟩ := getV_ok R' hx hy hc
    exact ixSem_of ⟨rr, h1, h2 Q q⟩
  | none =>
    rw [hc] at e
    dsimp only at e
    split at e
    · rename_i ks xs zz
      cases hy
      cases hx with
      | @kd _ _ a fs h hk hs =>
        obtain ⟨w, w1, w2⟩ := flook_ok hk hs zz z e
        obtain ⟨⟨es, n, KD⟩, hz⟩ := h
        obtain ⟨o, o1, o2⟩ := hz zz
        rw [w1] at o2
        cases o with
        | none => exact o2.elim
        | some u0 =>
          refine ixSem_of ⟨_, ix_kd (es := es) (n := n) KD, zz, u0, w, rfl, rfl, o1, o2, q w w2⟩
    · cases e1 : dictD S x with
      | none => rw [e1] at e; cases e
      | some p =>
        cases e2 : toKey y with
        | none => rw [e1, e2] at e; cases e
        | some k =>
          rw [e1, e2] at e
          obtain ⟨a, o, rfl, g, q1, q2⟩ := dget_ok R' hy hx e1 e2
          obtain ⟨w, rfl, hw⟩ := q1 z e
          exact ixSem_of ⟨_, ix_dict hu, a, w, rfl, g, q w hw⟩
theorem bind_bind {A B C : Type} {m : Res A} {k : A → Sto → Res B} {k' : B → Sto → Res C} : (m.bind k).bind k' = m.bind fun a S => (k a S).bind k' := by
  cases m <;> rfl
/-- both as a value and as a test -/
theorem good_cmp (xd : XD X sl W c) {ops : List CmpOp} {bs : List Expr} (g : ∀ e v S, GoodE X sl W e v S (R.E c e v S)) :
    GoodE X sl W (.Compare a ops bs pos) v S ((evCmp R c a ops bs v S).bind fun t S1 => .ok (.bl t) S1) ∧ GoodT X sl W (.Compare a ops bs pos) v S (evCmp R c a ops bs v S) := by
  have hu := hu65 xd
  unfold evCmp
  split
  · rename_i op b
    split
    · rename_i hm
      have hm' : behindInMarks op b = false := by
        unfold noMark at hm
        cases q : behindInMarks op b with
        | false => rfl
        | true => rw [q] at hm; cases hm
      constructor
      · intro F r σ H R' s Q p
        rw [bind_bind] at p
        refine semE_of (pe_cmpR opR_sem (pe_sem (e := a)) (pe_sem (e := b)) hm') ?_
        refine run1 pd_step (g a v S) R' s p fun x S1 F1 r1 H1 x' R1 x1 hx s1 p1 => ?_
        rw [bind_bind] at p1
        refine run1 pd_step (g b v S1) R1 s1 p1 fun y S2 F2 r2 H2 y' R2 x2 hy s2 p2 => ?_
        cases e : cmpF op S2 x y with
        | none => rw [e] at p2; exact p2.elim
        | some t => rw [e] at p2; exact cmpF_ok hu R2 (x2.mono hx) hy e (PostR.val p2 R2 (.bl _))
      · intro F r σ H R' s Q p
        refine semT_of (pt_cmpR opR_sem (pe_sem (e := a)) (pe_sem (e := b)) hm') ?_
        refine run1 pb_step (g a v S) R' s p fun x S1 F1 r1 H1 x' R1 x1 hx s1 p1 => ?_
        refine run1 pb_step (g b v S1) R1 s1 p1 fun y S2 F2 r2 H2 y' R2 x2 hy s2 p2 => ?_
        cases e : cmpF op S2 x y with
        | none => rw [e] at p2; exact p2.elim
        | some t => rw [e] at p2; exact cmpF_ok hu R2 (x2.mono hx) hy e ⟨t, rfl, p2 F2 r2 H2 R2 (.refl ..)⟩
    · exact ⟨fun F r σ H R' s Q p => p.elim, fun F r σ H R' s Q p => p.elim⟩
  · rename_i op op' b b'
    split
    · rename_i hm
      constructor
      · intro F r σ H R' s Q p
        rw [bind_bind] at p
        refine semE_of (pe_chain opR_sem opR_sem (pe_sem (e := a)) (pe_sem (e := b)) (pe_sem (e := b')) hm) ?_
        refine run1 pd_step (g a v S) R' s p fun x S1 F1 r1 H1 x' R1 x1 hx s1 p1 => ?_
        rw [bind_bind] at p1
        refine run1 pd_step (g b v S1) R1 s1 p1 fun y S2 F2 r2 H2 y' R2 x2 hy s2 p2 => ?_
        cases e : cmpF op S2 x y with
        | none => rw [e] at p2; exact p2.elim
        | some t =>
          rw [e] at p2
          refine cmpF_ok hu R2 (x2.mono hx) hy e ⟨t, rfl, ?_⟩
          cases t with
          | false => exact PostR.val p2 R2 (.bl _)
          | true =>
            dsimp only at p2
            rw [bind_bind] at p2
            refine run1 pd_step (g b' v S2) R2 s2 p2 fun w S3 F3 r3 H3 w' R3 x3 hw s3 p3 => ?_
            cases e' : cmpF op' S3 y w with
            | none => rw [e'] at p3; exact p3.elim
            | some t => rw [e'] at p3; exact cmpF_ok hu R3 (x3.mono hy) hw e' (PostR.val p3 R3 (.bl _))
      · intro F r σ H R' s Q p
        refine semT_of (pt_chain opR_sem opR_sem (pe_sem (e := a)) (pe_sem (e := b)) (pe_sem (e := b')) hm) ?_
        refine run1 pb_step (g a v S) R' s p fun x S1 F1 r1 H1 x' R1 x1 hx s1 p1 => ?_
        refine run1 pb_step (g b v S1) R1 s1 p1 fun y S2 F2 r2 H2 y' R2 x2 hy s2 p2 => ?_
        cases e : cmpF op S2 x y with
        | none => rw [e] at p2; exact p2.elim
        | some t =>
          rw [e] at p2
          refine cmpF_ok hu R2 (x2.mono hx) hy e ⟨t, rfl, ?_⟩
          cases t with
          | false => exact ⟨false, rfl, p2 F2 r2 H2 R2 (.refl ..)⟩
          | true =>
            refine run1 pb_step (g b' v S2) R2 s2 p2 fun w S3 F3 r3 H3 w' R3 x3 hw s3 p3 => ?_
            cases e' : cmpF op' S3 y w with
            | none => rw [e'] at p3; exact p3.elim
            | some t => rw [e'] at p3; exact cmpF_ok hu R3 (x3.mono hy) hw e' ⟨t, rfl, p3 F3 r3 H3 R3 (.refl ..)⟩
    · exact ⟨fun F r σ H R' s Q p => p.elim, fun F r σ H R' s Q p => p.elim⟩
  · exact ⟨fun F r σ H R' s Q p => p.elim, fun F r σ H R' s Q p => p.elim⟩
end
end DV
end

section
set_option Elab.async false
set_option linter.all false
set_option maxRecDepth 100000
set_option autoImplicit false
/-! The evaluator is right: items, slices, attributes, displays. -/
namespace DV
open PySem PySem.Spec PyProof.Rows L2
section
variable {X : Cx}
def slSem (X : Cx) : V → Option Int → Option Int → Hp → VK → Prop := fun x lo hi H Q => ∀ (pins : List (Addr × Obj)) (s : Shared) (σ : L2.St) (v vl vu : Value) (sl : Addr), Inv X pins σ H s → RelV x v → s.heap.IsSliceOf sl vl vu .none → IsPart vl lo → IsPart vu hi →
    ∃ T id, typeLookup (.type T) "__getitem__" = pure (some (.builtin id)) ∧ s.TypeIs v T ∧ wpAny (model X.prog X.w) X.A (getItem v (.ref sl)) (EP X pins σ Q) X.xe s
theorem slR_sem : SlR X (slSem X) := fun pins s σ H x v vl vu lo hi sl Q I rx hs pl pu h => h pins s σ v vl vu sl I rx hs pl pu
theorem slSem_of {x : V} {lo hi : Option Int} {H : Hp} {Q : VK} (h : ∃ rr : V → Option Int → Option Int → Hp → VK → Prop, SlR X rr ∧ rr x lo hi H Q) : slSem X x lo hi H Q := fun pins s σ v vl vu sl I rx hs pl pu => let ⟨_, k, q⟩ := h; k pins s σ H x v vl vu lo hi sl Q I rx hs pl pu q
def semO (X : Cx) (e : Option Expr) : TO := fun σ H Q => ∀ (pins : List (Addr × Obj)) (s : Shared), Inv X pins σ H s → wpAny (model X.prog X.w) X.A (evalPart e X.env) (fun u s' => ∃ o H', Inv X pins σ H' s' ∧ IsPart u o ∧ Q o H') X.xe s
theorem po_sem {e : Option Expr} : PO X e (semO X e) := ⟨fun pins s _ _ _ I h => h pins s I⟩
theorem semO_of {e : Option Expr} {t : TO} {σ : L2.St} {H : Hp} (h : PO X e t) {Q : Option Int → Hp → Prop} (q : t σ H Q) : semO X e σ H Q := fun pins s I => h.run pins s σ H Q I q
theorem plainIx_of {i : Expr} (h : isSlice i = false) : PlainIx i := fun o j => by
  cases i <;> first | rfl | cases h
end
section
variable {X : Cx} {sl : Slo} {W : WX} {c : Ctx} {e a b o i : Expr} {v : Slots} {S : Sto} {F : Hp} {r : Rho} {σ : L2.St} {H : Hp} {R : Rec} {pos p2 : Pos} {x y z : D} {x' y' : V}
theorem good_sub (xd : XD X sl W c) (g : ∀ e v S, GoodE X sl W e v S (R.E c e v S)) (hs : isSlice i = false) :
    GoodE X sl W (.Subscript o i pos) v S ((R.E c o v S).bind fun od S1 => (R.E c i v S1).bind fun id S2 => Res.opt S2 (getF S2 od id)) := by
  have hu := hu65 xd
  intro F r σ H R' s Q p
  refine semE_of (pe_ix ixR_sem (pe_sem (e := o)) (pe_sem (e := i)) (plainIx_of hs)) ?_
  refine run1 pd_step (g o v S) R' s p fun x S1 F1 r1 H1 x' R1 x1 hx s1 p1 => ?_
  refine run1 pd_step (g i v S1) R1 s1 p1 fun y S2 F2 r2 H2 y' R2 x2 hy s2 p2 => ?_
  cases e : getF S2 x y with
  | none => rw [e] at p2; exact p2.elim
  | some z =>
    rw [e] at p2
    exact getF_ok (by omega) R2 (x2.mono hx) hy e fun w hw => PostR.val p2 R2 hw
/-- a slice's part -/
theorem runO {A : Type} {P : Want A} {q : Option Expr} {k : Option Int → Sto → Res A} {C : Option Int → Hp → Prop} (hP : StepC P) (g : ∀ e v S, GoodE X sl W e v S (R.E c e v S)) (R' : Rel (fx X sl) F r S H) (s : SR (fx X sl) F r v σ) (p : PostR (fx X sl) F r H ((evP R c q v S).bind k) P (EW W σ))
    (h : ∀ d S1 F1 r1 H1, Rel (fx X sl) F1 r1 S1 H1 → Ext F r H F1 r1 H1 → SR (fx X sl) F1 r1 v σ → PostR (fx X sl) F1 r1 H1 (k d S1) P (EW W σ) → C d H1) : semO X q σ H C := by
  cases q with
  | none => exact semO_of po_none (h none S F r H R' (.refl ..) s p)
  | some e =>
    refine semO_of (po_some (pe_sem (e := e))) ?_
    unfold evP at p
    rw [bind_bind] at p
    refine run1 hP (g e v S) R' s p fun x S1 F1 r1 H1 x' R1 x1 hx s1 p1 => ?_
    cases hx <;> first | exact p1.elim | skip
    exact ⟨_, rfl, h _ S1 F1 r1 H1 R1 x1 s1 p1⟩
theorem good_slice (g : ∀ e v S, GoodE X sl W e v S (R.E c e v S)) {lo hi : Option Expr} :
    GoodE X sl W (.Subscript o (.Slice lo hi none p2) pos) v S ((R.E c o v S).bind fun od S1 => (evP R c lo v S1).bind fun l S2 => (evP R c hi v S2).bind fun u S3 => Res.opt S3 (sliceV S3 od l u)) := by
  intro F r σ H R' s Q p
  refine semE_of (pe_slice slR_sem (pe_sem (e := o)) (po_sem (e := lo)) (po_sem (e := hi))) ?_
  refine run1 pd_step (g o v S) R' s p fun x S1 F1 r1 H1 x' R1 x1 hx s1 p1 => ?_
  refine runO pd_step g R1 s1 p1 fun l S2 F2 r2 H2 R2 x2 s2 p2 => ?_
  refine runO pd_step g R2 s2 p2 fun u S3 F3 r3 H3 R3 x3 s3 p3 => ?_
  cases e : sliceV S3 x l u with
  | none => rw [e] at p3; exact p3.elim
  | some z =>
    rw [e] at p3
    exact slSem_of (sliceV_ok R3 ((x2.trans x3).mono hx) e p3)

/-! ### attributes -/
theorem insD_ok {Y : Fx} {d : D} {y : V} {c : Str} {ns : List Str} {xs : List D} (R : Rel Y F r S H) (h : VR Y F r d y) (e : insD S d = some (c, ns, xs)) : ∃ a, y = .ref a ∧ OR Y F r H a (.ins c ns xs) := by
  cases d with
  | obj c' ns' xs' =>
    cases e
    cases h with
    | obj h hc hl hn hs => exact ⟨_, rfl, .inl ⟨hl, _, _, _, R.sub _ _ h, hc, hn, hs⟩⟩
    | slo h hc hl hn hs => exact ⟨_, rfl, .inr ⟨_, _, _, _, hl, hn, slt_mono R.sub h, hc, hs⟩⟩
  | ref n =>
    have e' : (match S[n]? with | some (Ob.ins c ns xs) => some (c, ns, xs) | _ => none) = some (c, ns, xs) := e
    cases q : S[n]? with
    | none => rw [q] at e'; cases e'
    | some o =>
      rw [q] at e'
      cases o with
      | ins c' ns' xs' =>
        cases e'
        obtain ⟨a, ha⟩ := R.live n _ q (by intro z; cases z)
        obtain ⟨o, h1, h2⟩ := R.ob n a ha
        rw [q] at h1; cases h1
        cases h with
        | ref hn hv => exact ⟨a, hv a ha, h2⟩
      | _ => cases e'
  | _ => cases e
theorem flook_get : ∀ {ns : List Str} {xs : List D} {f : Str} {d : D}, flook ns xs f = some d → ∃ i : Nat, ns[i]? = some f ∧ xs[i]? = some d
  | [], xs, f, d, e => by cases xs <;> cases e
  | n :: ns, [], f, d, e => by cases e
  | n :: ns, x :: xs, f, d, e => by
    have e' : (if n = f then some x else flook ns xs f) = some d := e
    by_cases hk : n = f
    · rw [if_pos hk] at e'; cases e'; exact ⟨0, by simp [hk], rfl⟩
    · rw [if_neg hk] at e'
      obtain ⟨i, h1, h2⟩ := flook_get e'
      exact ⟨i + 1, by simpa using h1, by simpa using h2⟩
theorem notin_lookup {f : Str} : ∀ {fs : List (Str × V)} {ns : List Str}, fs.map (·.1) = ns → ns.contains f = false → fs.lookup f = none
  | [], _, _, _ => rfl
  | (k, y) :: fs, _, rfl, h => by
    have h' : (f == k || (fs.map (·.1)).contains f) = false := h
    rw [Bool.or_eq_false_iff] at h'
    simp [List.lookup, h'.1, notin_lookup (fs := fs) rfl h'.2]
theorem base_of (h : okBase o = true) {f : Str} {env : Env} : attributeBase o f env (eval o env) = eval o env := by
  cases o <;> first | rfl | skip
  rename_i fe as ks p
  cases fe <;> first | rfl | skip
  cases as <;> first | rfl | skip
  cases ks <;> first | rfl | skip
  cases h
/-- what stands of a field -/
theorem fld_ok {Y : Fx} {cl f : Str} {ns : List Str} {xs : List D} {d : D} {ci : ClI} {a : Addr} (gen : GenOk X sl c.G) (h : OR (fx X sl) F r H a (.ins cl ns xs)) (hc : c.G.cls cl = some ci) (hf : ci.flds.contains f = true) (e : flook ns xs f = some d) :
    (∃ C dx fs w, H a = some (.ins C dx fs) ∧ Cls X.K C ∧ NoAttr X.K C f ∧ fs.lookup f = some w ∧ VR (fx X sl) F r d w) ∨
    (∃ C dx p vs i w, SlX.Slt H a C dx vs ∧ SlX.SCls X.K C ∧ SlX.Slot1 X.K C f p i ∧ vs[i]? = some (some w) ∧ VR (fx X sl) F r d w) := by
  obtain ⟨k1, k3, k4, k5⟩ := gen.cls cl ci hc
  rcases h with ⟨l, C, dx, fs, h1, h2, h3, h4⟩ | ⟨sl', C, dx, vs, l, h3, h1, h2, h4⟩
  · cases hs : ci.slots with
    | true => obtain ⟨q, _⟩ := k4 hs; rw [q] at l; cases l
    | false =>
      obtain ⟨q1, q2, q3⟩ := k3 hs
      obtain ⟨w, w1, w2⟩ := flook_ok h3 h4 f d e
      subst h2
      exact .inl ⟨_, dx, fs, w, h1, q2, q3 f (by simpa using hf), w1, w2⟩
  · cases hs : ci.slots with
    | false => obtain ⟨q, _⟩ := k3 hs; have l' : sl.lookup cl = some sl' := l; rw [q] at l'; cases l'
    | true =>
      obtain ⟨q1, q2, q3, q4⟩ := k4 hs
      have l' : sl.lookup cl = some sl' := l
      rw [q1] at l'; cases l'
      obtain ⟨i, i1, i2⟩ := flook_get e
      obtain ⟨w, w1, w2⟩ := h4.get i2
      have i3 : ci.flds[i]? = some f := by
        rw [h3, List.getElem?_take] at i1
        split at i1
        · exact i1
        · cases i1
      obtain ⟨p, hp⟩ := q4 i f i3
      subst h2
      exact .inr ⟨_, dx, p, vs.map some, i, w, h1, q3, hp, by simp [w1], w2⟩
theorem good_attr (xd : XD X sl W c) (g : ∀ e v S, GoodE X sl W e v S (R.E c e v S)) {f : Str} (hb : okBase o = true) :
    GoodE X sl W (.Attribute o f pos) v S ((R.E c o v S).bind fun od S1 => match attrV c.G.cls S1 f od with
    | some (.inl d) => .ok d S1
    | _ => .bad) := by
  intro F r σ H R' s Q p pins s' I
  refine attr_of (base_of hb) ?_
  refine thn (run1 (C := fun x H1 => ∃ a, x = .ref a ∧ ((∃ C dx fs w, H1 a = some (.ins C dx fs) ∧ Cls X.K C ∧ NoAttr X.K C f ∧ fs.lookup f = some w ∧ Q w H1) ∨
    (∃ C dx p vs i w, SlX.Slt H1 a C dx vs ∧ SlX.SCls X.K C ∧ SlX.Slot1 X.K C f p i ∧ vs[i]? = some (some w) ∧ Q w H1))) pd_step (g o v S) R' s p (fun x S1 F1 r1 H1 x' R1 x1 hx s1 p1 => ?_) pins s' I) fun u s1 ⟨x, H1, I1, rx, a, ex, q⟩ => ?_
  · cases e : attrV c.G.cls S1 f x with
    | none => rw [e] at p1; exact p1.elim
    | some w =>
      cases w with
      | inr w => rw [e] at p1; exact p1.elim
      | inl d =>
        rw [e] at p1
        unfold attrV at e
        cases e1 : insD S1 x with
        | none => rw [e1] at e; cases e
        | some t =>
          obtain ⟨cl, ns, xs⟩ := t
          rw [e1] at e
          dsimp only at e
          cases e2 : c.G.cls cl with
          | none => rw [e2] at e; cases e
          | some ci =>
            rw [e2] at e
            dsimp only at e
            split at e
            · rename_i hf
              cases e3 : flook ns xs f with
              | none => rw [e3] at e; cases e
              | some d' =>
                rw [e3] at e; cases e
                obtain ⟨a, rfl, ho⟩ := insD_ok R1 hx e1
                refine ⟨a, rfl, ?_⟩
                rcases fld_ok (Y := fx X sl) xd.gen ho e2 hf e3 with ⟨C, dx, fs, w, h1, h2, h3, h4, h5⟩ | ⟨C, dx, p, vs, i, w, h1, h2, h3, h4, h5⟩
                · exact .inl ⟨C, dx, fs, w, h1, h2, h3, h4, PostR.val p1 R1 h5⟩
                · exact .inr ⟨C, dx, p, vs, i, w, h1, h2, h3, h4, PostR.val p1 R1 h5⟩
            · cases e
  · subst ex
    obtain rfl : u = Value.ref a := rx
    rcases q with ⟨C, dx, fs, w, ea, c', n, l, q⟩ | ⟨C, dx, p, vs, i, w, hs, c', t, l, q⟩
    · exact getattr_ok I1 ea c' n l fun u' s2 I2 ru => ⟨w, H1, I2, ru, q⟩
    · exact SlX.getslot_ok I1 hs c' t l fun u' s2 I2 ru => ⟨w, H1, I2, ru, q⟩
end
end DV
end

section
set_option Elab.async false
set_option linter.all false
set_option maxRecDepth 100000
set_option autoImplicit false
/-! New objects: displays. -/
namespace DV
open PySem PySem.Spec PyProof.Rows L2
section
variable {X : Fx} {F F' : Hp} {r r' : Rho} {S S' : Sto} {H H' : Hp} {a b : Addr} {o : HO} {n : Nat} {ob : Ob}
/-- an untracked object changes -/
theorem Rel.tmp (R : Rel X F r S H) (hF : F a = none) (hr : ∀ n : Nat, r[n]? ≠ some (some a)) (hx : H a ≠ some (.xd [])) (o : HO) : Rel X F r S (upd H a o) := by
  refine ⟨fun b u e => ?_, R.len, R.dis, R.inj, fun n b e => ?_, R.live, R.noo⟩
  · have hb : b ≠ a := fun z => by rw [z, hF] at e; cases e
    rw [upd_ne hb]; exact R.sub b u e
  · have hb : b ≠ a := fun z => hr n (z ▸ e)
    obtain ⟨ob, h1, h2⟩ := R.ob n b e
    refine ⟨ob, h1, h2.mono (fun _ _ h => h) (.refl r) (upd_ne hb) fun c q => ?_⟩
    have hc : c ≠ a := fun z => hx (z ▸ q)
    rw [upd_ne hc]; exact q
theorem Ext.tmp (x : Ext F r H F' r' H') (ha : H a = none) (o : HO) : Ext F r H F' r' (upd H' a o) :=
  ⟨x.f, x.fn, x.rx, x.rn, fun b u e hb hu => by
    have h : b ≠ a := fun z => by rw [z, ha] at e; cases e
    rw [upd_ne h]; exact x.keep b u e hb hu, fun b e => by
    by_cases h : b = a
    · subst h; exact ha
    · rw [upd_ne h] at e; exact x.dom b e⟩
/-- an untracked object is set still -/
theorem Rel.seal_ (R : Rel X F r S H) (hF : F a = none) (hr : ∀ n : Nat, r[n]? ≠ some (some a)) (h : H a = some o) (ho : ∀ x, o ≠ .own x) : Rel X (upd F a o) r S H := by
  have hF' := same_upd (o := o) hF
  refine ⟨fun b u e => ?_, R.len, fun n b e => ?_, R.inj, fun n b e => ?_, R.live, fun b x e => ?_⟩
  · by_cases hb : b = a
    · subst hb; rw [upd_same] at e; rw [h]; exact e
    · rw [upd_ne hb] at e; exact R.sub b u e
  · have hb : b ≠ a := fun z => hr n (z ▸ e)
    rw [upd_ne hb]; exact R.dis n b e
  · obtain ⟨ob, h1, h2⟩ := R.ob n b e
    exact ⟨ob, h1, h2.mono hF' (.refl r) rfl fun c q => q⟩
  · by_cases hb : b = a
    · subst hb; rw [upd_same] at e; exact ho x (Option.some.inj e)
    · rw [upd_ne hb] at e; exact R.noo b x e
theorem Ext.seal_ (x : Ext F r H F' r' H') (ha : H a = none) (hF : F' a = none) (o : HO) : Ext F r H (upd F' a o) r' H' :=
  ⟨fun b u e => same_upd hF b u (x.f b u e), fun b u e => by
    by_cases h : b = a
    · subst h; exact .inr (.inl ha)
    · rw [upd_ne h] at e; exact x.fn b u e, x.rx, x.rn, x.keep, x.dom⟩
/-- .. is taken into the store -/
theorem Rel.reg (R : Rel X F r S H) (hF : F a = none) (hr : ∀ n : Nat, r[n]? ≠ some (some a)) (hnd : ob ≠ .dead) (new : OR X F (r ++ [some a]) H a ob) : Rel X F (r ++ [some a]) (S ++ [ob]) H := by
  have rx := rhoX_push r (some a)
  refine ⟨R.sub, by simp [R.len], fun n b e => ?_, fun m n b e1 e2 => ?_, fun n b e => ?_, fun n u e hu => ?_, R.noo⟩
  · rcases getr_append e with q | ⟨_, q⟩
    · exact R.dis n b q
    · cases q; exact hF
  · rcases getr_append e1 with q1 | ⟨m1, q1⟩
    · rcases getr_append e2 with q2 | ⟨_, q2⟩
      · exact R.inj m n b q1 q2
      · cases q2; exact absurd q1 (hr m)
    · cases q1
      rcases getr_append e2 with q2 | ⟨n2, _⟩
      · exact absurd q2 (hr n)
      · omega
  · rcases getr_append e with q | ⟨n1, q⟩
    · obtain ⟨ob', h1, h2⟩ := R.ob n b q
      have hn : n < S.length := (List.getElem?_eq_some_iff.mp h1).1
      exact ⟨ob', by rw [List.getElem?_append_left hn]; exact h1, h2.mono (fun _ _ h => h) rx rfl fun c q => q⟩
    · cases q
      exact ⟨ob, by rw [n1, R.len]; simp, new⟩
  · by_cases hn : n < S.length
    · rw [List.getElem?_append_left hn] at e
      obtain ⟨b, q⟩ := R.live n u e hu
      exact ⟨b, by rw [List.getElem?_append_left (by rw [R.len]; exact hn)]; exact q⟩
    · rw [List.getElem?_append_right (by omega)] at e
      have h0 : n - S.length = 0 := by
        by_cases h0 : n - S.length = 0
        · exact h0
        · rw [List.getElem?_eq_none (by simp; omega)] at e; cases e
      refine ⟨a, ?_⟩
      have hnr : n = r.length := by rw [R.len]; omega
      rw [hnr]; simp
theorem Ext.reg (x : Ext F r H F' r' H') (ha : H a = none) : Ext F r H F' (r' ++ [some a]) H' :=
  ⟨x.f, x.fn, x.rx.trans (rhoX_push r' (some a)), fun n b h => by
    rcases getr_append h with q | ⟨n1, q⟩
    · exact x.rn n b q
    · cases q; exact .inr ⟨ha, by rw [n1]; exact x.rx.len⟩, x.keep, x.dom⟩

/-- what a new object holds -/
def ObH (Y : Fx) (F : Hp) (r : Rho) (ho : HO) : Ob → Prop
  | .lst xs => ∃ vs, ho = .lst vs ∧ VRs Y F r xs vs
  | .dict ks xs => ∃ kvs : List (Key × V), ho = .dK kvs ∧ kvs.map (·.1) = ks ∧ VRs Y F r xs (kvs.map (·.2))
  | _ => False
def PN (Y : Fx) (Q : VK) : Want Ob := fun F r H ob S => ∀ F' r' H' a ho, Rel Y F' r' S H' → Ext F r H F' r' H' → F' a = none → (∀ n : Nat, r'[n]? ≠ some (some a)) → H a = none → H' a = some ho → ObH Y F' r' ho ob → Q (.ref a) H'
theorem pn_step {Y : Fx} {Q : VK} : StepC (PN Y Q) := fun _ _ _ _ _ _ _ _ x p F2 r2 H2 a ho R2 x2 h1 h2 h3 h4 h5 => p F2 r2 H2 a ho R2 (x.trans x2) h1 h2 (x.dom a h3) h4 h5
theorem pn_val {Q : VK} {E : XK} {m : Res Ob} (p : PostR X F r H (m.bind fun o S1 => .ok (obD o) S1) (PD X Q) E) : PostR X F r H m (PN X Q) E := by
  cases m with
  | bad => exact p
  | exc c ns xs S => exact p
  | ok ob S =>
    intro F' r' H' a ho R x h1 h2 h3 h4 h5
    have R2 := R.seal_ h1 h2 h4 (by intro x z; subst z; cases ob with | dead => exact h5.elim | ins => exact h5.elim | lst => obtain ⟨_, e, _⟩ := h5; cases e | dict => obtain ⟨_, e, _⟩ := h5; cases e)
    have x2 := x.seal_ h3 h1 ho
    have p' : Post X F r H (obD ob) S Q := p
    refine p' _ _ _ _ R2 x2 ?_
    have hs := same_upd (o := ho) h1
    cases ob with
    | dead => exact h5.elim
    | ins c ns xs => exact h5.elim
    | lst xs => obtain ⟨vs, rfl, h⟩ := h5; exact .lst upd_same (h.mono hs (.refl _))
    | dict ks xs => obtain ⟨kvs, rfl, hk, h⟩ := h5; exact .dict upd_same hk (h.mono hs (.refl _))
theorem pn_mut {Q : VK} {E : XK} {m : Res Ob} (p : PostR X F r H (m.bind fun o S1 => alloc S1 o) (PD X Q) E) : PostR X F r H m (PN X Q) E := by
  cases m with
  | bad => exact p
  | exc c ns xs S => exact p
  | ok ob S =>
    intro F' r' H' a ho R x h1 h2 h3 h4 h5
    have p' : Post X F r H (.ref S.length) (S ++ [ob]) Q := p
    have rx := rhoX_push r' (some a)
    have hnd : ob ≠ .dead := by intro z; subst z; exact h5
    have new : OR X F' (r' ++ [some a]) H' a ob := by
      cases ob with
      | dead => exact h5.elim
      | ins c ns xs => exact h5.elim
      | lst xs => obtain ⟨vs, rfl, h⟩ := h5; exact ⟨vs, h4, h.mono (fun _ _ h => h) rx⟩
      | dict ks xs => obtain ⟨kvs, rfl, hk, h⟩ := h5; exact ⟨kvs, h4, hk, h.mono (fun _ _ h => h) rx⟩
    refine p' _ _ _ _ (R.reg h1 h2 hnd new) (x.reg h3) (.ref (by simp [R.len]) fun b e => ?_)
    rcases getr_append e with q | ⟨_, q⟩
    · have hl := (List.getElem?_eq_some_iff.mp q).1
      rw [R.len] at hl
      exact absurd hl (Nat.lt_irrefl _)
    · cases q; rfl
/-- an untracked object stays while others are at work -/
theorem Ext.apart (x : Ext F r H F' r' H') (R : Rel X F' r' S H') (h : H a = some o) (h1 : o ≠ .xd []) (h2 : ∀ x, o ≠ .own x) (hF : F a = none) (hr : ∀ n : Nat, r[n]? ≠ some (some a)) : H' a = some o ∧ F' a = none ∧ ∀ n : Nat, r'[n]? ≠ some (some a) := by
  have k := x.keep a o h hr h2
  refine ⟨k, ?_, fun n e => ?_⟩
  · cases q : F' a with
    | none => rfl
    | some o' =>
      rcases x.fn a o' q with z | z | ⟨n, z⟩ | z
      · rw [hF] at z; cases z
      · rw [h] at z; cases z
      · exact absurd z (hr n)
      · have := R.sub a o' q
        rw [k, z] at this
        exact absurd (Option.some.inj this) h1
  · rcases x.rn n a e with z | ⟨z, _⟩
    · exact hr n z
    · rw [h] at z; cases z
/-- a new object at a known place -/
def PNat (Y : Fx) (a : Addr) (Q : VK) : Want Ob := fun F r H ob S => ∀ F' r' H0 ho, Rel Y F' r' S (upd H0 a ho) → Ext F r H F' r' H0 → F' a = none → (∀ n : Nat, r'[n]? ≠ some (some a)) → ObH Y F' r' ho ob → Q (.ref a) (upd H0 a ho)
theorem pnat_step {Y : Fx} {Q : VK} : StepC (PNat Y a Q) := fun _ _ _ _ _ _ _ _ x p F2 r2 H2 ho R2 x2 h1 h2 h5 => p F2 r2 H2 ho R2 (x.trans x2) h1 h2 h5
theorem pnat_of {Q : VK} {E : XK} {m : Res Ob} (p : PostR X F r H m (PN X Q) E) (ha : H a = none) (o : HO) : PostR X F r (upd H a o) m (PNat X a Q) E := by
  have x0 : Ext F r H F r (upd H a o) := (Ext.refl F r H).tmp ha _
  cases m with
  | bad => exact p
  | exc c ns xs S => exact PostX.step p x0
  | ok ob S => exact fun F' r' H0 ho R x h1 h2 h5 => p F' r' _ a ho R ((x0.trans x).tmp ha ho) h1 h2 ha upd_same h5
end
section
variable {Y : Fx} {F : Hp} {r : Rho}
theorem dsub_ok {d : D} {w : V} (hw : VR Y F r d w) (k : Key) : ∀ {kvs : List (Key × V)} {xs : List D}, VRs Y F r xs (kvs.map (·.2)) → VRs Y F r (dsub (kvs.map (·.1)) xs k d) ((kvs.map (fun kv => if kv.1 = k then (kv.1, w) else kv)).map (·.2))
  | [], _, .nil => .nil
  | (k0, y0) :: kvs, _, h => by
    cases h with
    | @cons x _ xs _ h hs =>
      have ih := dsub_ok hw k (kvs := kvs) hs
      show VRs Y F r ((if k0 = k then d else x) :: dsub (kvs.map (·.1)) xs k d) ((if k0 = k then (k0, w) else (k0, y0)).2 :: _)
      by_cases hk : k0 = k
      · rw [if_pos hk, if_pos hk]; exact .cons hw ih
      · rw [if_neg hk, if_neg hk]; exact .cons h ih
theorem dput_ok {d : D} {w : V} (hw : VR Y F r d w) (k : Key) {kvs : List (Key × V)} {ks : List Key} {xs : List D} (hk : kvs.map (·.1) = ks) (h : VRs Y F r xs (kvs.map (·.2))) :
    (putK kvs k w).map (·.1) = (dput ks xs k d).1 ∧ VRs Y F r (dput ks xs k d).2 ((putK kvs k w).map (·.2)) := by
  subst hk
  unfold putK dput
  have e : (kvs.map (·.1)).any (fun j => decide (j = k)) = kvs.any (fun kv => decide (kv.1 = k)) := by rw [List.any_map]; rfl
  rw [e]
  by_cases q : (kvs.any fun kv => decide (kv.1 = k)) = true
  · rw [if_pos q, if_pos q]
    refine ⟨?_, dsub_ok hw k h⟩
    rw [List.map_map]
    apply List.map_congr_left
    intro kv _
    show (if kv.1 = k then (kv.1, w) else kv).1 = kv.1
    split <;> rfl
  · rw [if_neg q, if_neg q]
    refine ⟨by simp, ?_⟩
    rw [List.map_append]
    exact h.append (.cons hw .nil)
theorem mergeD_ok : ∀ {more : List (Key × D)} {moreV : List (Key × V)} {kvs : List (Key × V)} {p : List Key × List D}, moreV.map (·.1) = more.map (·.1) → VRs Y F r (more.map (·.2)) (moreV.map (·.2)) → kvs.map (·.1) = p.1 → VRs Y F r p.2 (kvs.map (·.2)) →
    (mergeK kvs moreV).map (·.1) = (mergeD more p).1 ∧ VRs Y F r (mergeD more p).2 ((mergeK kvs moreV).map (·.2))
  | [], [], kvs, p, _, _, hk, h => ⟨hk, h⟩
  | [], _ :: _, _, _, e, _, _, _ => by cases e
  | _ :: _, [], _, _, e, _, _, _ => by cases e
  | (k, d) :: more, (k', w) :: moreV, kvs, p, e, hs, hk, h => by
    cases hs with
    | cons hw hs =>
      have e1 : k' = k := (List.cons.inj e).1
      have e2 := (List.cons.inj e).2
      subst e1
      obtain ⟨q1, q2⟩ := dput_ok hw k' hk h
      exact mergeD_ok (more := more) (moreV := moreV) (kvs := putK kvs k' w) (p := dput p.1 p.2 k' d) e2 hs q1 q2
end
section
variable {X : Cx} {sl : Slo} {W : WX} {c : Ctx} {e a b o i : Expr} {v : Slots} {S : Sto} {F : Hp} {r : Rho} {σ : L2.St} {H : Hp} {R : Rec} {pos p2 : Pos} {x y z : D} {x' y' : V}
def GoodN (X : Cx) (sl : Slo) (W : WX) (e : Expr) (v : Slots) (S : Sto) (m : Res Ob) : Prop := ∀ F r σ H, Rel (fx X sl) F r S H → SR (fx X sl) F r v σ → ∀ Q : VK, PostR (fx X sl) F r H m (PN (fx X sl) Q) (fun c d H' => W c d σ H') → semE X e σ H Q
theorem GoodN.val {m : Res Ob} (g : GoodN X sl W e v S m) : GoodE X sl W e v S (m.bind fun o S1 => .ok (obD o) S1) := fun F r σ H R s Q p => g F r σ H R s Q (pn_val p)
theorem GoodN.mut {m : Res Ob} (g : GoodN X sl W e v S m) : GoodE X sl W e v S (m.bind fun o S1 => alloc S1 o) := fun F r σ H R s Q p => g F r σ H R s Q (pn_mut p)
theorem good_list {es : List Expr} (g : ∀ e v S, GoodE X sl W e v S (R.E c e v S)) :
    GoodN X sl W (.List es pos) v S ((evA R c es v S).bind fun xs S1 => if xs.length ≤ sizeLine then .ok (.lst xs) S1 else .bad) := by
  intro F r σ H R' s Q p
  refine semE_of (pe_lst (pa_sem (es := es))) ?_
  refine runA pn_step (good_A g es v S) R' s p fun xs S1 F1 r1 H1 vs R1 x1 hx s1 p1 => ?_
  split at p1
  · rename_i hl
    refine ⟨by rw [← hx.length]; exact hl, fun q hq => ?_⟩
    exact p1 F1 r1 _ q _ (R1.tmp (R1.fresh hq) (R1.notin hq) (by rw [hq]; exact fun z => by cases z) _) ((Ext.refl F1 r1 H1).tmp hq _) (R1.fresh hq) (R1.notin hq) hq upd_same ⟨vs, rfl, hx⟩
  · exact p1.elim
theorem good_dnew : GoodN X sl W (.Dict [] [] pos) v S (.ok (.dict [] []) S) := by
  intro F r σ H R' s Q p
  refine semE_of pe_dnewK fun q hq => ?_
  exact p F r _ q _ (R'.tmp (R'.fresh hq) (R'.notin hq) (by rw [hq]; exact fun z => by cases z) _) ((Ext.refl F r H).tmp hq _) (R'.fresh hq) (R'.notin hq) hq upd_same ⟨[], rfl, rfl, .nil⟩
def trsOf (X : Cx) : List (Option Expr) → List Expr → List (TE × TE)
  | some k :: ks, e :: es => (semE X k, semE X e) :: trsOf X ks es
  | _, _ => []
theorem pps_sem : ∀ {ks : List (Option Expr)} {es : List Expr}, kvOk ks es = true → PPs X pos ks es (trsOf X ks es)
  | [], [], _ => pps_nil
  | some k :: ks, e :: es, h => pps_cons pe_sem pe_sem (pps_sem (ks := ks) h)
  | [], _ :: _, h => by cases h
  | none :: _, _, h => by cases h
  | some _ :: _, [], h => by cases h
theorem kvOk_all : ∀ {ks : List (Option Expr)} {es : List Expr}, kvOk ks es = true → ks.all (·.isSome) = true ∧ ks.length = es.length
  | [], [], _ => ⟨rfl, rfl⟩
  | some k :: ks, e :: es, h => by
    obtain ⟨h1, h2⟩ := kvOk_all (ks := ks) (es := es) h
    exact ⟨by simpa using h1, by simp [h2]⟩
  | [], _ :: _, h => by cases h
  | none :: _, _, h => by cases h
  | some _ :: _, [], h => by cases h
theorem runKv {A : Type} {P : Want A} (hP : StepC P) (g : ∀ e v S, GoodE X sl W e v S (R.E c e v S)) : ∀ (ks : List (Option Expr)) (es : List Expr) (v : Slots) (S : Sto) {F : Hp} {r : Rho} {σ : L2.St} {H : Hp} {k : List (Key × D) → Sto → Res A} {C : List (V × V) → Hp → Prop}, kvOk ks es = true → Rel (fx X sl) F r S H → SR (fx X sl) F r v σ → PostR (fx X sl) F r H ((evKv R c ks es v S).bind k) P (EW W σ) →
    (∀ kvs S1 F1 r1 H1 (ps : List (Key × V)), Rel (fx X sl) F1 r1 S1 H1 → Ext F r H F1 r1 H1 → ps.map (·.1) = kvs.map (·.1) → VRs (fx X sl) F1 r1 (kvs.map (·.2)) (ps.map (·.2)) → SR (fx X sl) F1 r1 v σ → PostR (fx X sl) F1 r1 H1 (k kvs S1) P (EW W σ) → C (ps.map fun kv => (kV kv.1, kv.2)) H1) → tPairs (trsOf X ks es) σ H C
  | [], [], v, S, F, r, σ, H, k, C, _, R', s, p, h => h [] S F r H [] R' (.refl ..) rfl .nil s p
  | some kx :: ks, e :: es, v, S, F, r, σ, H, k, C, hk, R', s, p, h => by
    unfold evKv at p
    rw [bind_bind] at p
    show semE X kx σ H _
    refine run1 hP (g kx v S) R' s p fun kd S1 F1 r1 H1 x' R1 x1 hx s1 p1 => ?_
    rw [bind_bind] at p1
    refine run1 hP (g e v S1) R1 s1 p1 fun d S2 F2 r2 H2 y' R2 x2 hy s2 p2 => ?_
    cases e2 : toKey kd with
    | none => rw [e2] at p2; exact p2.elim
    | some k' =>
      rw [e2] at p2
      dsimp only at p2
      rw [bind_bind] at p2
      have ek := toKey_ok hx e2
      refine runKv hP g ks es v S2 (show kvOk ks es = true from hk) R2 s2 p2 fun kvs S3 F3 r3 H3 ps R3 x3 e3 hs s3 p3 => ?_
      rw [ek]
      exact h ((k', d) :: kvs) S3 F3 r3 H3 ((k', y') :: ps) R3 ((x1.trans x2).trans x3) (by simp [e3]) (.cons (x3.mono hy) hs) s3 p3
  | [], _ :: _, _, _, _, _, _, _, _, _, h, _, _, _, _ => by cases h
  | none :: _, _, _, _, _, _, _, _, _, _, h, _, _, _, _ => by cases h
  | some _ :: _, [], _, _, _, _, _, _, _, _, h, _, _, _, _ => by cases h
theorem good_disp {ks : List (Option Expr)} {es : List Expr} (g : ∀ e v S, GoodE X sl W e v S (R.E c e v S)) (h0 : ks ≠ []) (hk : kvOk ks es = true) :
    GoodN X sl W (.Dict ks es pos) v S (if ks.length ≤ 15 then (evKv R c ks es v S).bind fun kvs S1 => if kvs.length ≤ 15 then let p := mergeD kvs ([], []); .ok (.dict p.1 p.2) S1 else .bad else .bad) := by
  intro F r σ H R' s Q p
  obtain ⟨hall, hl⟩ := kvOk_all hk
  split at p
  · rename_i h15
    refine semE_of (pe_disp (pps_sem hk) hall hl h0 h15) fun q hq => ?_
    have hx0 : H q ≠ some (.xd []) := by rw [hq]; exact fun z => by cases z
    have R0 := R'.tmp (R'.fresh hq) (R'.notin hq) hx0 (.dK [])
    refine runKv (k := fun kvs S1 => if kvs.length ≤ 15 then let p := mergeD kvs ([], []); .ok (.dict p.1 p.2) S1 else .bad) (pnat_step (a := q) (Q := Q)) g ks es v S hk R0 s (pnat_of p hq _) fun kvs S1 F1 r1 H1 ps R1 x1 e1 hs s1 p1 => ?_
    obtain ⟨k1, k2, k3⟩ := x1.apart R1 upd_same (by intro z; cases z) (by intro _ z; cases z) (R'.fresh hq) (R'.notin hq)
    dsimp only at p1
    split at p1
    · rename_i hl
      have el : ps.length = kvs.length := by have := congrArg List.length e1; simpa using this
      obtain ⟨m1, m2⟩ := mergeD_ok (kvs := []) (p := ([], [])) e1 hs rfl .nil
      refine ⟨k1, ps, rfl, by omega, ?_⟩
      exact p1 F1 r1 H1 _ (R1.tmp k2 k3 (by rw [k1]; intro z; cases z) _) (.refl ..) k2 k3 ⟨_, rfl, m1, m2⟩
    · exact p1.elim
  · exact p.elim
end
end DV
end

section
set_option Elab.async false
set_option linter.all false
set_option maxRecDepth 100000
set_option autoImplicit false
set_option maxHeartbeats 1000000
/-! enumerate(tuple). -/
namespace DV
open PySem PySem.Spec PyProof.Rows L2
theorem Draws.tuple {prog : Program} {w : World} {A : Around} (hh : A.handled = none) (it l : Addr) (hne : l ≠ it) (items : Array Value) :
    Draws prog w A it [it, l] items.size (fun i v => items[i]? = some v) (fun i h => h.IsTupleIter it l i ∧ h.IsTuple l items) where
  live := fun _ _ st => let ⟨o, ho, _⟩ := st.1; ⟨o, ho⟩
  frame := fun _ _ _ st hk => ⟨st.1.at fun o e => hk it (by simp) o e, let ⟨o, ho, r⟩ := st.2; ⟨o, hk l (by simp) o ho, r⟩⟩
  item := fun i s Q E hi st hQ => by
    refine RZ.nextOf_tuple_item st.1 st.2 (x := items[i]) (by simp [hi]) fun h' hit' hs' => ?_
    exact hQ _ h' s.toks (by simp [hi]) ⟨hit', let ⟨o, ho, r⟩ := st.2; ⟨o, hs'.extBut _ _ hne ho, r⟩⟩ hs'
  done := fun s Q E st hE => RZ.nextOf_tuple_end hh st.1 st.2 (by simp) hE
open AutoSeq1 (wpAny_loadPart') in
theorem meets_enum_T (l : Addr) (xs : Array Value) :
    Meets (Builtin.«enumerate.__new__» ⟨[.type "enumerate", .ref l], []⟩) (fun _ R s => s.heap.IsTuple l xs ∧
      R (.ok (.ret (.ref (s.heap.push { cls := .type "tuple_iterator", data := .fields #[.ref l, .int 0 0] }).objs.size)))
        { s with heap := (s.heap.push { cls := .type "tuple_iterator", data := .fields #[.ref l, .int 0 0] }).push { cls := .type "enumerate", data := .fields #[.none, .bool false, .ref s.heap.objs.size, rawInt 0, .none, .none] } }) :=
  .of_wp fun prog w A R s h => by
    obtain ⟨hp, g, d, tk, os⟩ := s; obtain ⟨hl, h⟩ := h
    have hsub := sub_enumerate
    have hL : Heap.IsTuple (Shared.heap ⟨hp, g, d, tk, os⟩) l xs := hl
    obtain ⟨ol, hol, hc, n, hd⟩ := id hl
    wp_walk using wpAny_loadPart' hol
    refine wpAny_stack_any fun st => wpAny_pure ?_
    split
    · rename_i c _ _ _ _ _
      cases (c == Value.type "enumerate")
      · wp_walk using wpAny_loadPart' hol, wpAny_pyIter_tuple hL
        exact ⟨_, rfl, h⟩
      · wp_walk using wpAny_loadPart' hol, wpAny_pyIter_tuple hL
        exact ⟨_, rfl, h⟩
    · wp_walk using wpAny_loadPart' hol, wpAny_pyIter_tuple hL
      exact ⟨_, rfl, h⟩
theorem call_enum_T {prog : Program} {w : World} {A : Around} {E : Value → Shared → Prop} {s : Shared} {l : Addr} {items : Array Value} {Q : Value → Shared → Prop} (hL : s.heap.IsTuple l items)
    (h : ∀ h', IsEnum h' (s.heap.objs.size + 1) s.heap.objs.size 0 .none → h'.IsTupleIter s.heap.objs.size l 0 → h'.objs.size = s.heap.objs.size + 2 →
      (∀ b o, s.heap.get? b = some o → h'.get? b = some o) → Q (.ref (s.heap.objs.size + 1)) { s with heap := h' }) :
    wpAny (model prog w) A (call (.type "enumerate") [.ref l]) Q E s := by
  refine callType_new F.called_enumerate (by decide) (F.typeCall_enumerate_1 _) (F.newCall_enumerate_1 _) (fun obj => F.args_object_init_2 obj _) F.entry_enumerate_new
    (meets_enum_T l items) ⟨hL, ?_⟩
  have hz : (s.heap.push { cls := .type "tuple_iterator", data := .fields #[.ref l, .int 0 0] }).objs.size = s.heap.objs.size + 1 := Heap.size_push ..
  show _ ∧ _
  rw [hz]
  have he : IsEnum ((s.heap.push { cls := .type "tuple_iterator", data := .fields #[.ref l, .int 0 0] }).push
      { cls := .type "enumerate", data := .fields #[.none, .bool false, .ref s.heap.objs.size, rawInt 0, .none, .none] }) (s.heap.objs.size + 1) s.heap.objs.size 0 .none := by
    have := Heap.get?_push_size (s.heap.push { cls := .type "tuple_iterator", data := .fields #[.ref l, .int 0 0] })
      (o := { cls := .type "enumerate", data := .fields #[.none, .bool false, .ref s.heap.objs.size, rawInt 0, .none, .none] }) rfl
    rw [hz] at this; exact this
  refine ⟨⟨_, he, rfl⟩, h _ he ⟨_, Heap.get?_push_of_some _ (Heap.get?_push_size _ rfl), rfl, rfl⟩ (by rw [Heap.size_push, hz]) fun b o x => Heap.get?_push_of_some _ (Heap.get?_push_of_some _ x)⟩
/-- the tuple at a, each item in a new pair -/
def IteT (K : PySem.W.Frag) (a : Addr) : It :=
  ⟨fun i H => ∃ (xs : List V) (x : V), SqT K H a xs ∧ xs[i]? = some x, fun i H v H' => ∃ T x, v = .ref T ∧ H T = none ∧ H' = upd H T (.tup [.int (i : Nat), x]) ∧ ∀ xs, SqT K H a xs → xs[i]? = some x, fun i H => ∃ xs : List V, SqT K H a xs ∧ xs.length = i⟩
theorem turn_enumT {P : Program} {w : World} {K : PySem.W.Frag} {elts : List Expr} {kk : Nat} {tpos : Pos} (a e it : Addr) (hai : a ≠ it) (hea : e ≠ a) :
    Turn P w K (.Tuple elts kk tpos) (IteT K a) [e, it] e (fun i h => (∃ old, IsEnum h e it ((i : Nat) : Int) old) ∧ h.IsTupleIter it a i ∧ e ≠ it) where
  mem := by simp
  obj := fun i h st b hb => by
    obtain ⟨⟨old, he⟩, ⟨o, ho, hc, hd⟩, _⟩ := st
    have e' : b = e ∨ b = it := by simpa using hb
    rcases e' with z | z
    · rw [z]; exact ⟨_, he, fun v q => nomatch q⟩
    · rw [z]; exact ⟨o, ho, fun v q => by rw [hd] at q; cases q⟩
  keep := fun i h h' st k => let ⟨⟨old, he⟩, hi, hne⟩ := st; ⟨⟨old, k e (by simp) _ he⟩, hi.at fun o q => k it (by simp) o q, hne⟩
  item := by
    intro X hP hw hK hc i pins s σ H E I hf st hg
    subst hP hw hK
    obtain ⟨⟨old, he⟩, hit, hne⟩ := st
    obtain ⟨xs, x, hq, hx⟩ := hg
    obtain ⟨its, rv, p, hz⟩ := I.tuple hq
    have hel : e < s.heap.objs.size := Heap.lt_size he
    have hil : it < s.heap.objs.size := by obtain ⟨_, q, _⟩ := hit; exact Heap.lt_size q
    have hl := rv.length
    have hlt : i < xs.length := (List.getElem?_eq_some_iff.mp hx).1
    have D := Draws.tuple (prog := X.prog) (w := X.w) (A := X.A.in1) (I.ok.hd hc) it a hai its.toArray
    refine wpAny_pyNext_enum_itemD D he ⟨hit, p⟩ (by simp; omega) hne (by simp [hne, hea]) fun x' h' tk hPx ho hst hT hsz hk => ?_
    obtain ⟨u, hu, ru⟩ := rv.get hx
    have hux : x' = u := by
      have : its[i]? = some x' := by simpa using hPx
      rw [hu] at this; exact (Option.some.inj this).symm
    subst hux
    refine ⟨_, rfl, wpAny_letOwnedTupleGo_enum (s := { s with heap := h', toks := tk + 1 }) ho fun h'' he' sb => ?_⟩
    have hT2 : h''.get? s.heap.objs.size = some { cls := .type "tuple", data := .seq #[.int i tk, x'] } := (sb.2 _ (Nat.ne_of_gt hel)).trans hT
    have new : ObjOk X.prog X.w (upd H s.heap.objs.size (.tup [.int (i : Nat), x])) h'' s.heap.objs.size (.tup [.int (i : Nat), x]) :=
      ⟨by show 2 ≤ sizeLine; decide, [.int i tk, x'], .cons ⟨_, rfl⟩ (.cons ru .nil), ⟨_, hT2, rfl, _, rfl⟩⟩
    have I1 : Inv X pins σ (upd H s.heap.objs.size (.tup [.int (i : Nat), x])) { s with heap := h'', toks := tk + 1 } :=
      I.turnedNew (ch := [e, it]) (fun b ob hb q => (sb.2 b (fun z => hb (by simp [z]))).trans (hk b ob (fun z => hb (by simp [z])) (fun z => hb (by simp [z])) q)) hf (Nat.le_refl _) new
    refine ⟨.ref s.heap.objs.size, _, I1, rfl, ⟨_, x, rfl, I.hok.fresh (Nat.le_refl _), rfl, fun ys hy => by rw [I.tuple_inj hy hq]; exact hx⟩, ⟨⟨x', ?_⟩, hst.1.at fun o q => (sb.2 it (Ne.symm hne)).trans q, hne⟩, fun b hb => ?_⟩
    · have e1 : ((i + 1 : Nat) : Int) = (i : Int) + 1 := by omega
      rw [e1]; exact he'
    · have hb' : b < s.heap.objs.size := by
        have e' : b = e ∨ b = it := by simpa using hb
        rcases e' with z | z
        · rw [z]; exact hel
        · rw [z]; exact hil
      rw [upd_ne (Nat.ne_of_lt hb')]
      exact (hf b hb).1
  done := by
    intro X hP hw hK hc i pins s σ H E I hf st hg
    subst hP hw hK
    obtain ⟨⟨old, he⟩, hit, hne⟩ := st
    obtain ⟨xs, hq, hx⟩ := hg
    obtain ⟨its, rv, p, hz⟩ := I.tuple hq
    obtain ⟨f0, f1, f2, f3, f4, f5⟩ := hf it (by simp)
    have hl := rv.length
    have D := Draws.tuple (prog := X.prog) (w := X.w) (A := X.A.in1) (I.ok.hd hc) it a hai its.toArray
    have es : its.toArray.size = i := by simp; omega
    exact wpAny_pyNext_enum_endD D he (es ▸ ⟨hit, p⟩) fun h' eb => ⟨rfl, I.turned (t' := s.toks) (fun b o hb q => eb b o hb q) f0 f1 f3 f4 f5⟩
  self := fun A i s Q E st h => let ⟨⟨_, he⟩, _⟩ := st; wpAny_pyIter_enum he h
/-- enumerate(x), x a list or a tuple -/
def iEnumA (K : PySem.W.Frag) (ta : TA) : TI := fun σ H R => ta σ H fun vs H1 => ∃ a, vs = [.ref a] ∧ (((∃ xs, SqL K H1 a xs) ∧ R (Ite K a) H1) ∨ ((∃ xs, SqT K H1 a xs) ∧ R (IteT K a) H1))
theorem pi_enumA {X : Cx} {e : Expr} {ta : TA} {p pos tpos : Pos} {elts : List Expr} {kk : Nat} (hg : Gl X "enumerate") (hm : X.mg "enumerate" = none) (ha : PA X [e] ta) (hs : starEach [e] X.env = [(false, eval e X.env)]) :
    PI X (.Tuple elts kk tpos) (.Call (.Name "enumerate" p) [e] [] pos) (iEnumA X.K ta) := by
  refine ⟨fun pins s σ H R I h => ?_⟩
  refine Call_ (ld_blt I hg hm boot_enumerate (PyProof.Rows.callWith_type1 (thn (ha.run pos pins s σ H _ I h) fun us s1 ⟨vs, H1, I1, r1, q1⟩ => ?_) hs rfl))
  obtain ⟨a, ex, q1⟩ := q1
  subst ex
  cases r1 with
  | cons r rr =>
    cases rr
    cases r
    have fr : ∀ b ∈ [s1.heap.objs.size + 1, s1.heap.objs.size], FpOk X pins H1 b := fun b hb => by
      have e' : b = s1.heap.objs.size + 1 ∨ b = s1.heap.objs.size := by simpa using hb
      have hle : s1.heap.objs.size ≤ b := by
        rcases e' with z | z
        · rw [z]; exact Nat.le_add_right _ _
        · rw [z]; exact Nat.le_refl _
      exact I1.fpOk hle (I1.hok.fresh hle)
    rcases q1 with ⟨⟨xs, hq⟩, q⟩ | ⟨⟨xs, hq⟩, q⟩
    · obtain ⟨its, rv, p', hz⟩ := I1.list hq
      refine call_enumerate_list p'.isList fun h' he hit hsz hk => wpAny_pyIter_enum he ?_
      have I2 : Inv X pins σ H1 { s1 with heap := h' } := I1.kept (t' := s1.toks) hk
      exact ⟨s1.heap.objs.size + 1, [s1.heap.objs.size + 1, s1.heap.objs.size], _, _, H1, rfl, I2, turn_enum a (s1.heap.objs.size + 1) s1.heap.objs.size, ⟨⟨.none, he⟩, hit, Nat.succ_ne_self _⟩, fr, q⟩
    · obtain ⟨its, rv, p', hz⟩ := I1.tuple hq
      have hal : a < s1.heap.objs.size := by obtain ⟨_, q, _⟩ := id p'; exact Heap.lt_size q
      refine call_enum_T (show s1.heap.IsTuple a its.toArray from p') fun h' he hit hsz hk => wpAny_pyIter_enum he ?_
      have I2 : Inv X pins σ H1 { s1 with heap := h' } := I1.kept (t' := s1.toks) hk
      exact ⟨s1.heap.objs.size + 1, [s1.heap.objs.size + 1, s1.heap.objs.size], _, _, H1, rfl, I2, turn_enumT a (s1.heap.objs.size + 1) s1.heap.objs.size (Nat.ne_of_lt hal) (Nat.ne_of_gt (Nat.lt_succ_of_lt hal)), ⟨⟨.none, he⟩, hit, Nat.succ_ne_self _⟩, fr, q⟩
end DV
end

section
set_option Elab.async false
set_option linter.all false
set_option maxRecDepth 100000
set_option autoImplicit false
/-! What a loop walks. -/
namespace DV
open PySem PySem.Spec PyProof.Rows L2
mutual
theorem beq_eq : ∀ {x y : D}, D.beq x y = true → x = y
  | .non, y, h => by cases y <;> first | rfl | cases h
  | .bl a, y, h => by cases y <;> first | (exact congrArg D.bl (of_decide_eq_true h)) | cases h
  | .int a, y, h => by cases y <;> first | (exact congrArg D.int (of_decide_eq_true h)) | cases h
  | .str a, y, h => by cases y <;> first | (exact congrArg D.str (of_decide_eq_true h)) | cases h
  | .tup a, y, h => by cases y <;> first | (exact congrArg D.tup (beqL_eq h)) | cases h
  | .lst a, y, h => by cases y <;> first | (exact congrArg D.lst (beqL_eq h)) | cases h
  | .dict k a, y, h => by
    cases y with
    | dict j b =>
      obtain ⟨h1, h2⟩ := Bool.and_eq_true_iff.mp (show (_ && _) = true from h)
      rw [of_decide_eq_true h1, beqL_eq h2]
    | _ => cases h
  | .kd k a, y, h => by
    cases y with
    | kd j b =>
      obtain ⟨h1, h2⟩ := Bool.and_eq_true_iff.mp (show (_ && _) = true from h)
      rw [of_decide_eq_true h1, beqL_eq h2]
    | _ => cases h
  | .obj c n a, y, h => by
    cases y with
    | obj e m b =>
      obtain ⟨h1, h2⟩ := Bool.and_eq_true_iff.mp (show (_ && _) = true from h)
      obtain ⟨h3, h4⟩ := Bool.and_eq_true_iff.mp (show (_ && _) = true from h2)
      rw [of_decide_eq_true h1, of_decide_eq_true h3, beqL_eq h4]
    | _ => cases h
  | .fn a, y, h => by cases y <;> first | (exact congrArg D.fn (of_decide_eq_true h)) | cases h
  | .scr a, y, h => by cases y <;> first | (exact congrArg D.scr (beqL_eq h)) | cases h
  | .ref a, y, h => by cases y <;> first | (exact congrArg D.ref (of_decide_eq_true h)) | cases h
theorem beqL_eq : ∀ {xs ys : List D}, beqL xs ys = true → xs = ys
  | [], ys, h => by cases ys <;> first | rfl | cases h
  | x :: xs, ys, h => by
    cases ys with
    | nil => cases h
    | cons y ys =>
      obtain ⟨h1, h2⟩ := Bool.and_eq_true_iff.mp (show (_ && _) = true from h)
      rw [beq_eq h1, beqL_eq h2]
end
section
variable {X : Cx}
def semI (X : Cx) (tg e : Expr) : TI := fun σ H R => ∀ (pins : List (Addr × Obj)) (s : Shared), Inv X pins σ H s → wpAny (model X.prog X.w) X.A (eval e X.env) (fun v s1 => wpAny (model X.prog X.w) X.A (pyIter v) (PIE X pins σ tg R) X.xe s1) X.xe s
theorem pi_sem {tg e : Expr} : PI X tg e (semI X tg e) := ⟨fun pins s _ _ _ I h => h pins s I⟩
theorem semI_of {tg e : Expr} {wi : TI} {σ : L2.St} {H : Hp} {R : It → Hp → Prop} (h : PI X tg e wi) (q : wi σ H R) : semI X tg e σ H R := fun pins s I => h.run pins s σ H R I q
/-- a value walked: a list, a tuple, a text -/
def iAny (K : PySem.W.Frag) (te : TE) : TI := fun σ H R => te σ H fun x H1 => (∃ a, x = .ref a ∧ (∃ xs, SqL K H1 a xs) ∧ R (Itl K a) H1) ∨ (∃ a, x = .ref a ∧ (∃ xs, SqT K H1 a xs) ∧ R (Itt K a) H1) ∨ (∃ z, x = .str z ∧ R (Its z) H1)
theorem pi_any {tg l : Expr} {tl : TE} (hl : PE X l tl) : PI X tg l (iAny X.K tl) := by
  refine ⟨fun pins s σ H R I h => ?_⟩
  refine thn (hl.run pins s σ H _ I h) fun v s1 ⟨x, H1, I1, r1, q1⟩ => ?_
  rcases q1 with ⟨a, e, ⟨xs, hq⟩, q⟩ | ⟨a, e, ⟨xs, hq⟩, q⟩ | ⟨z, e, q⟩
  · subst e
    cases r1
    obtain ⟨its, rv, p, hz⟩ := I1.list hq
    refine wpAny_pyIter_list p.isList ?_
    refine ⟨s1.heap.objs.size, [s1.heap.objs.size], _, _, H1, rfl, I1.kept (t' := s1.toks) fun b o e => Heap.get?_push_of_some _ e, turn_list a _, ⟨_, Heap.get?_push_size _ rfl, rfl, rfl⟩, fun b hb => ?_, q⟩
    have e : b = s1.heap.objs.size := by simpa using hb
    subst e
    exact I1.fpOk (Nat.le_refl _) (I1.hok.fresh (Nat.le_refl _))
  · subst e
    cases r1
    obtain ⟨its, rv, p, hz⟩ := I1.tuple hq
    refine wpAny_pyIter_tuple (show s1.heap.IsTuple a its.toArray from p) ?_
    refine ⟨s1.heap.objs.size, [s1.heap.objs.size], _, _, H1, rfl, I1.kept (t' := s1.toks) fun b o e => Heap.get?_push_of_some _ e, turn_tuple a _, ⟨_, Heap.get?_push_size _ rfl, rfl, rfl⟩, fun b hb => ?_, q⟩
    have e : b = s1.heap.objs.size := by simpa using hb
    subst e
    exact I1.fpOk (Nat.le_refl _) (I1.hok.fresh (Nat.le_refl _))
  · subst e
    obtain ⟨t, rfl⟩ := r1
    cases ha : z.cps.all (· < 128)
    · exact wpAny_pyIter_wide ha (pi_one (tk := s1.toks) I1 _ (turn_str _ z t "str_iterator" (.inr rfl)) ⟨_, Heap.get?_push_size _ rfl, rfl, rfl⟩ q)
    · exact wpAny_pyIter_ascii ha (pi_one (tk := s1.toks) I1 _ (turn_str _ z t "str_ascii_iterator" (.inl rfl)) ⟨_, Heap.get?_push_size _ rfl, rfl, rfl⟩ q)
end
/-- J walks t -/
def ItW (Y : Fx) (F : Hp) (r : Rho) (H : Hp) (t : Itr) (J : It) : Prop := ∃ (G : Hp → Prop) (Yv : Nat → Hp → V → Hp → Prop), Walk J t.xs.length G Yv ∧
  (∀ F' r' S' H', Rel Y F' r' S' H' → Ext F r H F' r' H' → okSrc S' t = true → G H') ∧
  (∀ F' r' S' H' i x H'', Rel Y F' r' S' H' → Ext F r H F' r' H' → okSrc S' t = true → i < t.xs.length → Yv i H' x H'' → ∃ F'' d, t.xs[i]? = some d ∧ Rel Y F'' r' S' H'' ∧ Ext F' r' H' F'' r' H'' ∧ VR Y F'' r' d x)
def PIt (Y : Fx) (C : It → Hp → Prop) : Want Itr := fun F r H t S => ∀ F' r' H' J, Rel Y F' r' S H' → Ext F r H F' r' H' → ItW Y F' r' H' t J → C J H'
theorem pit_step {Y : Fx} {C : It → Hp → Prop} : StepC (PIt Y C) := fun _ _ _ _ _ _ _ _ x p F2 r2 H2 J R2 x2 h => p F2 r2 H2 J R2 (x.trans x2) h
section
variable {Y : Fx} {F : Hp} {r : Rho} {S : Sto} {H : Hp} {t : Itr} {a b : Addr} {xs ys : List D} {d : D} {v : V} {n : Nat}
/-- the list, the tuple behind t -/
def SrcL (Y : Fx) (F : Hp) (r : Rho) (H : Hp) (src : Option Nat) (snap xs : List D) (a : Addr) : Prop := ∀ F' r' S' H', Rel Y F' r' S' H' → Ext F r H F' r' H' → okSrc S' ⟨xs, src, snap⟩ = true → ∃ vs, SqL Y.K H' a vs ∧ VRs Y F' r' xs vs
def SrcT (Y : Fx) (F : Hp) (r : Rho) (H : Hp) (xs : List D) (a : Addr) : Prop := ∀ F' r' S' H', Rel Y F' r' S' H' → Ext F r H F' r' H' → ∃ vs, SqT Y.K H' a vs ∧ VRs Y F' r' xs vs
theorem okSrc_xs {S : Sto} {src : Option Nat} {snap xs ys : List D} : okSrc S ⟨xs, src, snap⟩ = okSrc S ⟨ys, src, snap⟩ := rfl
theorem src_ok (R : Rel Y F r S H) (h : VR Y F r d v) (e : itS S d = some t) : (∃ a, v = .ref a ∧ isLst S d = true ∧ SrcL Y F r H t.src t.snap t.xs a) ∨ (∃ a, v = .ref a ∧ d = .tup t.xs ∧ t.src = none ∧ SrcT Y F r H t.xs a) ∨ (∃ z, d = .str z ∧ v = .str z ∧ t = ⟨z.cps.toList.map fun k => .str ⟨#[k]⟩, none, []⟩) := by
  cases d with
  | str z => cases e; cases h; exact .inr (.inr ⟨z, rfl, rfl, rfl⟩)
  | lst xs =>
    cases e
    cases h with
    | lst h hs => exact .inl ⟨_, rfl, rfl, fun F' r' S' H' R' x _ => ⟨_, .of (R'.sub _ _ (x.f _ _ h)), x.monos hs⟩⟩
  | scr xs =>
    cases e
    cases h with
    | scr h hs => exact .inl ⟨_, rfl, rfl, fun F' r' S' H' R' x _ => ⟨_, R'.sub.seq (x.f.seq h), x.monos hs⟩⟩
  | tup xs =>
    cases e
    cases h with
    | tup h hs => exact .inr (.inl ⟨_, rfl, rfl, rfl, fun F' r' S' H' R' x => ⟨_, Same.seqT R'.sub (Same.seqT x.f h), x.monos hs⟩⟩)
  | ref n =>
    have e' : ((items S (.ref n)).map fun xs => (⟨xs, some n, xs⟩ : Itr)) = some t := e
    cases q : items S (.ref n) with
    | none => rw [q] at e'; cases e'
    | some xs =>
      rw [q] at e'
      cases e'
      have hl : isLst S (.ref n) = true := (isLst_or q).elim id fun z => by cases z
      have q' : (match S[n]? with | some (Ob.lst xs) => some xs | _ => none) = some xs := q
      cases q1 : S[n]? with
      | none => rw [q1] at q'; cases q'
      | some o =>
        have hne : o ≠ .dead := by intro z; subst z; rw [q1] at q'; cases q'
        obtain ⟨a, ha⟩ := R.live n o q1 hne
        cases h with
        | ref hn hv =>
          refine .inl ⟨a, hv a ha, hl, fun F' r' S' H' R' x ok => ?_⟩
          have ok' : (match S'[n]? with | some (Ob.lst ys) => beqL ys xs | _ => false) = true := ok
          cases q2 : S'[n]? with
          | none => rw [q2] at ok'; cases ok'
          | some o' =>
            rw [q2] at ok'
            cases o' with
            | lst ys =>
              have ey := beqL_eq ok'
              subst ey
              obtain ⟨a', ha'⟩ := R'.live n _ q2 (by intro z; cases z)
              have : a' = a := by
                rcases x.rx.old n hn with z | z
                · rw [ha', ha] at z; cases z; rfl
                · rw [ha'] at z; cases z
              subst this
              obtain ⟨o', h1, h2⟩ := R'.ob n a' ha'
              rw [q2] at h1; cases h1
              obtain ⟨vs, h3, h4⟩ := h2
              exact ⟨vs, .of h3, h4⟩
            | _ => cases ok'
  | _ => cases e
theorem itw_list (s : SrcL Y F r H t.src t.snap t.xs a) : ItW Y F r H t (Itl Y.K a) := by
  refine ⟨fun H' => ∃ vs, SqL Y.K H' a vs ∧ vs.length = t.xs.length, fun i H' x H'' => H'' = H' ∧ ∀ vs, SqL Y.K H' a vs → vs[i]? = some x, ⟨fun i H' hi ⟨vs, h, hl⟩ => ⟨vs, vs[i]'(by omega), h, by simp [hl, hi]⟩, fun H' ⟨vs, h, hl⟩ => ⟨vs, h, by omega⟩, fun i H' x H'' hi _ y => y⟩, fun F' r' S' H' R x ok => ?_, fun F' r' S' H' i x H'' R e ok hi y => ?_⟩
  · obtain ⟨vs, h1, h2⟩ := s F' r' S' H' R x ok
    exact ⟨vs, h1, h2.length.symm⟩
  · obtain ⟨vs, h1, h2⟩ := s F' r' S' H' R e ok
    obtain ⟨rfl, y⟩ := y
    have hx := y vs h1
    have hd : t.xs[i]? = some t.xs[i] := List.getElem?_eq_getElem hi
    obtain ⟨w, w1, w2⟩ := h2.get hd
    rw [hx] at w1; cases w1
    exact ⟨F', _, hd, R, .refl .., w2⟩
theorem itw_tup (s : SrcT Y F r H t.xs a) : ItW Y F r H t (Itt Y.K a) := by
  refine ⟨fun H' => ∃ vs, SqT Y.K H' a vs ∧ vs.length = t.xs.length, fun i H' x H'' => H'' = H' ∧ ∀ vs, SqT Y.K H' a vs → vs[i]? = some x, ⟨fun i H' hi ⟨vs, h, hl⟩ => ⟨vs, vs[i]'(by omega), h, by simp [hl, hi]⟩, fun H' ⟨vs, h, hl⟩ => ⟨vs, h, by omega⟩, fun i H' x H'' hi _ y => y⟩, fun F' r' S' H' R x ok => ?_, fun F' r' S' H' i x H'' R e ok hi y => ?_⟩
  · obtain ⟨vs, h1, h2⟩ := s F' r' S' H' R x
    exact ⟨vs, h1, h2.length.symm⟩
  · obtain ⟨vs, h1, h2⟩ := s F' r' S' H' R e
    obtain ⟨rfl, y⟩ := y
    have hx := y vs h1
    have hd : t.xs[i]? = some t.xs[i] := List.getElem?_eq_getElem hi
    obtain ⟨w, w1, w2⟩ := h2.get hd
    rw [hx] at w1; cases w1
    exact ⟨F', _, hd, R, .refl .., w2⟩
theorem itw_str {z : Str} : ItW Y F r H ⟨z.cps.toList.map fun k => .str ⟨#[k]⟩, none, []⟩ (Its z) := by
  have el : (z.cps.toList.map fun k => D.str ⟨#[k]⟩).length = z.cps.size := by simp
  refine ⟨_, _, (by rw [el]; exact walk_str), fun F' r' S' H' R x ok => trivial, fun F' r' S' H' i x H'' R e ok hi y => ?_⟩
  obtain ⟨rfl, c, hc, rfl⟩ := y
  exact ⟨F', .str ⟨#[c]⟩, by simp [hc], R, .refl .., .str _⟩
theorem itw_range {lo : Int} {n : Nat} : ItW Y F r H ⟨(List.range n).map fun (k : Nat) => .int (lo + k), none, []⟩ (L2.Itr lo n) := by
  have el : ((List.range n).map fun (k : Nat) => D.int (lo + k)).length = n := by simp
  refine ⟨_, _, (by rw [el]; exact walk_range), fun F' r' S' H' R x ok => trivial, fun F' r' S' H' i x H'' R e ok hi y => ?_⟩
  obtain ⟨rfl, rfl⟩ := y
  rw [el] at hi
  exact ⟨F', .int (lo + i), by simp [hi], R, .refl .., .int _⟩
/-- a new pair -/
theorem pair_new {F' : Hp} {r' : Rho} {S' : Sto} {H' : Hp} {T : Addr} {x y : V} {dx dy : D} (R : Rel Y F' r' S' H') (hT : H' T = none) (hx : VR Y F' r' dx x) (hy : VR Y F' r' dy y) :
    Rel Y (upd F' T (.tup [x, y])) r' S' (upd H' T (.tup [x, y])) ∧ Ext F' r' H' (upd F' T (.tup [x, y])) r' (upd H' T (.tup [x, y])) ∧ VR Y (upd F' T (.tup [x, y])) r' (.tup [dx, dy]) (.ref T) := by
  obtain ⟨R1, x1⟩ := R.laidF hT (.tup [x, y])
  exact ⟨R1, x1, .tup (.of upd_same) (.cons (x1.mono hx) (.cons (x1.mono hy) .nil))⟩
theorem itw_enumL (s : SrcL Y F r H t.src t.snap t.xs a) : ItW Y F r H ⟨t.xs.mapIdx fun k y => .tup [.int (k : Nat), y], t.src, t.snap⟩ (Ite Y.K a) := by
  have el : (t.xs.mapIdx fun k y => D.tup [.int (k : Nat), y]).length = t.xs.length := by simp
  refine ⟨fun H' => ∃ vs, SqL Y.K H' a vs ∧ vs.length = t.xs.length, fun i H' v H'' => ∃ T x, v = .ref T ∧ H' T = none ∧ H'' = upd H' T (.tup [.int (i : Nat), x]) ∧ ∀ vs, SqL Y.K H' a vs → vs[i]? = some x, ?_, fun F' r' S' H' R x ok => ?_, fun F' r' S' H' i x H'' R e ok hi y => ?_⟩
  · rw [el]
    exact ⟨fun i H' hi ⟨vs, h, hl⟩ => ⟨vs, vs[i]'(by omega), h, by simp [hl, hi]⟩, fun H' ⟨vs, h, hl⟩ => ⟨vs, h, by omega⟩, fun i H' x H'' hi _ y => y⟩
  · obtain ⟨vs, h1, h2⟩ := s F' r' S' H' R x ok
    exact ⟨vs, h1, h2.length.symm⟩
  · obtain ⟨vs, h1, h2⟩ := s F' r' S' H' R e ok
    obtain ⟨T, w, rfl, hT, rfl, y⟩ := y
    rw [el] at hi
    have hd : t.xs[i]? = some t.xs[i] := List.getElem?_eq_getElem hi
    obtain ⟨w', w1, w2⟩ := h2.get hd
    rw [y vs h1] at w1; cases w1
    obtain ⟨R1, x1, q⟩ := pair_new R hT (.int (i : Nat)) w2
    exact ⟨_, .tup [.int (i : Nat), t.xs[i]], by simp [hi], R1, x1, q⟩
theorem itw_enumT (s : SrcT Y F r H t.xs a) : ItW Y F r H ⟨t.xs.mapIdx fun k y => .tup [.int (k : Nat), y], t.src, t.snap⟩ (IteT Y.K a) := by
  have el : (t.xs.mapIdx fun k y => D.tup [.int (k : Nat), y]).length = t.xs.length := by simp
  refine ⟨fun H' => ∃ vs, SqT Y.K H' a vs ∧ vs.length = t.xs.length, fun i H' v H'' => ∃ T x, v = .ref T ∧ H' T = none ∧ H'' = upd H' T (.tup [.int (i : Nat), x]) ∧ ∀ vs, SqT Y.K H' a vs → vs[i]? = some x, ?_, fun F' r' S' H' R x ok => ?_, fun F' r' S' H' i x H'' R e ok hi y => ?_⟩
  · rw [el]
    exact ⟨fun i H' hi ⟨vs, h, hl⟩ => ⟨vs, vs[i]'(by omega), h, by simp [hl, hi]⟩, fun H' ⟨vs, h, hl⟩ => ⟨vs, h, hl⟩, fun i H' x H'' hi _ y => y⟩
  · obtain ⟨vs, h1, h2⟩ := s F' r' S' H' R x
    exact ⟨vs, h1, h2.length.symm⟩
  · obtain ⟨vs, h1, h2⟩ := s F' r' S' H' R e
    obtain ⟨T, w, rfl, hT, rfl, y⟩ := y
    rw [el] at hi
    have hd : t.xs[i]? = some t.xs[i] := List.getElem?_eq_getElem hi
    obtain ⟨w', w1, w2⟩ := h2.get hd
    rw [y vs h1] at w1; cases w1
    obtain ⟨R1, x1, q⟩ := pair_new R hT (.int (i : Nat)) w2
    exact ⟨_, .tup [.int (i : Nat), t.xs[i]], by simp [hi], R1, x1, q⟩
theorem itw_zipL (sx : SrcL Y F r H none [] xs a) (sy : SrcL Y F r H none [] ys b) : ItW Y F r H ⟨(xs.zip ys).map fun p => .tup [p.1, p.2], none, []⟩ (Itz Y.K a b) := by
  have el : ((xs.zip ys).map fun p => D.tup [p.1, p.2]).length = min xs.length ys.length := by simp
  refine ⟨fun H' => ∃ vs us, (SqL Y.K H' a vs ∧ vs.length = xs.length) ∧ (SqL Y.K H' b us ∧ us.length = ys.length), fun i H' v H'' => ∃ T x y, v = .ref T ∧ H' T = none ∧ H'' = upd H' T (.tup [x, y]) ∧ (∀ vs, SqL Y.K H' a vs → vs[i]? = some x) ∧ ∀ vs, SqL Y.K H' b vs → vs[i]? = some y, ?_, fun F' r' S' H' R x ok => ?_, fun F' r' S' H' i x H'' R e ok hi y => ?_⟩
  · rw [el]
    refine ⟨fun i H' hi ⟨vs, us, ⟨h, hl⟩, h', hl'⟩ => ?_, fun H' ⟨vs, us, ⟨h, hl⟩, h', hl'⟩ => ⟨vs, us, h, h', by omega⟩, fun i H' x H'' hi _ y => y⟩
    exact ⟨vs, us, vs[i]'(by omega), us[i]'(by omega), h, h', by simp, by simp⟩
  · obtain ⟨vs, h1, h2⟩ := sx F' r' S' H' R x rfl
    obtain ⟨us, h3, h4⟩ := sy F' r' S' H' R x rfl
    exact ⟨vs, us, ⟨h1, h2.length.symm⟩, h3, h4.length.symm⟩
  · obtain ⟨vs, h1, h2⟩ := sx F' r' S' H' R e rfl
    obtain ⟨us, h3, h4⟩ := sy F' r' S' H' R e rfl
    obtain ⟨T, w, u, rfl, hT, rfl, y1, y2⟩ := y
    rw [el] at hi
    have hi1 : i < xs.length := by omega
    have hi2 : i < ys.length := by omega
    obtain ⟨w', w1, w2⟩ := h2.get (List.getElem?_eq_getElem hi1)
    rw [y1 vs h1] at w1; cases w1
    obtain ⟨u', u1, u2⟩ := h4.get (List.getElem?_eq_getElem hi2)
    rw [y2 us h3] at u1; cases u1
    obtain ⟨R1, x1, q⟩ := pair_new R hT w2 u2
    exact ⟨_, .tup [xs[i], ys[i]], by simp [List.getElem?_zip_eq_some, hi1, hi2], R1, x1, q⟩
theorem itw_zipT (sx : SrcT Y F r H xs a) (sy : SrcT Y F r H ys b) : ItW Y F r H ⟨(xs.zip ys).map fun p => .tup [p.1, p.2], none, []⟩ (RZ.ItzT Y.K a b) := by
  have el : ((xs.zip ys).map fun p => D.tup [p.1, p.2]).length = min xs.length ys.length := by simp
  refine ⟨fun H' => ∃ vs us, (SqT Y.K H' a vs ∧ vs.length = xs.length) ∧ (SqT Y.K H' b us ∧ us.length = ys.length), fun i H' v H'' => ∃ T x y, v = .ref T ∧ H' T = none ∧ H'' = upd H' T (.tup [x, y]) ∧ (∀ vs, SqT Y.K H' a vs → vs[i]? = some x) ∧ ∀ vs, SqT Y.K H' b vs → vs[i]? = some y, ?_, fun F' r' S' H' R x ok => ?_, fun F' r' S' H' i x H'' R e ok hi y => ?_⟩
  · rw [el]
    refine ⟨fun i H' hi ⟨vs, us, ⟨h, hl⟩, h', hl'⟩ => ?_, fun H' ⟨vs, us, ⟨h, hl⟩, h', hl'⟩ => ⟨vs, us, h, h', by omega⟩, fun i H' x H'' hi _ y => y⟩
    exact ⟨vs, us, vs[i]'(by omega), us[i]'(by omega), h, h', by simp, by simp⟩
  · obtain ⟨vs, h1, h2⟩ := sx F' r' S' H' R x
    obtain ⟨us, h3, h4⟩ := sy F' r' S' H' R x
    exact ⟨vs, us, ⟨h1, h2.length.symm⟩, h3, h4.length.symm⟩
  · obtain ⟨vs, h1, h2⟩ := sx F' r' S' H' R e
    obtain ⟨us, h3, h4⟩ := sy F' r' S' H' R e
    obtain ⟨T, w, u, rfl, hT, rfl, y1, y2⟩ := y
    rw [el] at hi
    have hi1 : i < xs.length := by omega
    have hi2 : i < ys.length := by omega
    obtain ⟨w', w1, w2⟩ := h2.get (List.getElem?_eq_getElem hi1)
    rw [y1 vs h1] at w1; cases w1
    obtain ⟨u', u1, u2⟩ := h4.get (List.getElem?_eq_getElem hi2)
    rw [y2 us h3] at u1; cases u1
    obtain ⟨R1, x1, q⟩ := pair_new R hT w2 u2
    exact ⟨_, .tup [xs[i], ys[i]], by simp [List.getElem?_zip_eq_some, hi1, hi2], R1, x1, q⟩
end
section
variable {X : Cx} {sl : Slo} {W : WX} {c : Ctx} {e a b o i tg : Expr} {v : Slots} {S : Sto} {F : Hp} {r : Rho} {σ : L2.St} {H : Hp} {R : Rec} {pos p2 : Pos} {x y z : D} {x' y' : V}
/-- any value walked -/
theorem good_Ival (g : ∀ e v S, GoodE X sl W e v S (R.E c e v S)) (R' : Rel (fx X sl) F r S H) (s : SR (fx X sl) F r v σ) {C : It → Hp → Prop} (p : PostR (fx X sl) F r H ((R.E c e v S).bind fun d S1 => Res.opt S1 (itS S1 d)) (PIt (fx X sl) C) (EW W σ)) : semI X tg e σ H C := by
  refine semI_of (pi_any (pe_sem (e := e))) ?_
  refine run1 pit_step (g e v S) R' s p fun d S1 F1 r1 H1 x R1 x1 hx s1 p1 => ?_
  cases e : itS S1 d with
  | none => rw [e] at p1; exact p1.elim
  | some t =>
    rw [e] at p1
    rcases src_ok R1 hx e with ⟨a, rfl, hl, q⟩ | ⟨a, rfl, hl, _, q⟩ | ⟨z, rfl, rfl, rfl⟩
    · obtain ⟨vs, h1, h2⟩ : ∃ vs, SqL X.K H1 a vs ∧ VRs (fx X sl) F1 r1 t.xs vs := by
        have hi : items S1 d = some t.xs := by
          cases d <;> first | (cases e; rfl) | (cases hl; done) | skip
          rename_i n
          have e' : ((items S1 (.ref n)).map fun xs => (⟨xs, some n, xs⟩ : Itr)) = some t := e
          cases q : items S1 (.ref n) with
          | none => rw [q] at e'; cases e'
          | some xs => rw [q] at e'; cases e'; rfl
        obtain ⟨a', vs, e1, h2, h3⟩ := hx.isLst R1 hl hi
        cases e1
        exact ⟨vs, h2, h3⟩
      exact .inl ⟨a, rfl, ⟨vs, h1⟩, p1 F1 r1 H1 _ R1 (.refl ..) (itw_list q)⟩
    · obtain ⟨vs, h1, h2⟩ := q F1 r1 S1 H1 R1 (.refl ..)
      exact .inr (.inl ⟨a, rfl, ⟨vs, h1⟩, p1 F1 r1 H1 _ R1 (.refl ..) (itw_tup q)⟩)
    · exact .inr (.inr ⟨z, rfl, p1 F1 r1 H1 _ R1 (.refl ..) itw_str⟩)
end
end DV
end

section
set_option Elab.async false
set_option linter.all false
set_option maxRecDepth 100000
set_option autoImplicit false
/-! The evaluator is right: what is walked, targets, comprehensions. -/
namespace DV
open PySem PySem.Spec PyProof.Rows L2
theorem noStar_ne {e : Expr} {es : List Expr} (h : noStar (e :: es) = true) : (∀ e' p, e ≠ .Starred e' p) ∧ noStar es = true := by
  refine ⟨fun e' p z => (by subst z; cases h), ?_⟩
  cases e <;> first | exact h | cases h
theorem star1 {a : Expr} {env : Env} (h : noStar [a] = true) : starEach [a] env = [(false, eval a env)] := by
  rw [starEach_cons (noStar_ne h).1]; rfl
theorem star2 {a b : Expr} {env : Env} (h : noStar [a, b] = true) : starEach [a, b] env = (false, eval a env) :: starEach [b] env := starEach_cons (noStar_ne h).1
section
variable {X : Cx} {sl : Slo} {W : WX} {c : Ctx} {e a b o i tg : Expr} {v : Slots} {S : Sto} {F : Hp} {r : Rho} {σ : L2.St} {H : Hp} {R : Rec} {pos p2 : Pos} {x y z : D} {x' y' : V}
theorem isGl_of (xd : XD X sl W c) {x : Str} (h : isGl c x = true) : Gl X x ∧ (x == ("__debug__" : Str)) = false ∧ x ≠ "__name__" := by
  unfold isGl at h
  rw [Bool.and_eq_true, Bool.not_eq_true'] at h
  obtain ⟨b1, _, b3⟩ := badName_of (by rw [h.1]; decide)
  exact ⟨by show X.env.scope.names.lookup x = _; rw [xd.sc]; exact of_decide_eq_true h.2, b1, b3⟩
theorem isBl_of (xd : XD X sl W c) {x : Str} (h : isBl c x = true) : Gl X x ∧ X.mg x = none ∧ (x == ("__debug__" : Str)) = false ∧ x ≠ "__name__" := by
  unfold isBl at h
  rw [Bool.and_eq_true] at h
  obtain ⟨h1, h2, h3⟩ := isGl_of xd h.1
  exact ⟨h1, xd.gen.free x h.2, h2, h3⟩
theorem smallI_of {i : Int} (h : smallI i = true) : -(2 ^ 62) ≤ i ∧ i < 2 ^ 62 := by
  unfold smallI at h
  have := of_decide_eq_true h
  omega
def GoodI (X : Cx) (sl : Slo) (W : WX) (tg e : Expr) (v : Slots) (S : Sto) (m : Res Itr) : Prop := ∀ F r σ H, Rel (fx X sl) F r S H → SR (fx X sl) F r v σ → ∀ C, PostR (fx X sl) F r H m (PIt (fx X sl) C) (EW W σ) → semI X tg e σ H C
theorem isLst_items {Y : Fx} {d : D} {w : V} (R1 : Rel Y F r S H) (hx : VR Y F r d w) {t : DV.Itr} (hl : isLst S d = true) (e : itS S d = some t) : ∃ a vs, w = .ref a ∧ SqL Y.K H a vs ∧ VRs Y F r t.xs vs := by
  have hi : items S d = some t.xs := by
    cases d <;> first | (cases e; rfl) | (cases hl; done) | skip
    rename_i n
    have e' : ((items S (.ref n)).map fun xs => (⟨xs, some n, xs⟩ : DV.Itr)) = some t := e
    cases q : items S (.ref n) with
    | none => rw [q] at e'; cases e'
    | some xs => rw [q] at e'; cases e'; rfl
  exact hx.isLst R1 hl hi
theorem good_I (xd : XD X sl W c) (g : ∀ e v S, GoodE X sl W e v S (R.E c e v S)) : GoodI X sl W tg e v S (evI R c tg e v S) := by
  intro F r σ H R' s C p
  unfold evI at p
  split at p
  · rename_i x pp args q
    split at p
    · rename_i hx
      subst hx
      split at p
      · rename_i a
        split at p
        · rename_i hb
          rw [Bool.and_eq_true] at hb
          obtain ⟨h1, h2, h3, h4⟩ := isBl_of xd hb.1
          refine semI_of (pi_range1 h1 h2 (pa_sem (es := [a])) (star1 hb.2)) ?_
          refine runA pit_step (good_A g [a] v S) R' s p fun ds S1 F1 r1 H1 us R1 x1 hx s1 p1 => ?_
          split at p1
          · rename_i i
            split at p1
            · rename_i hi
              cases hx with
              | cons hx hs =>
                cases hs
                cases hx
                obtain ⟨i1, i2⟩ := smallI_of hi
                exact ⟨i, rfl, i1, i2, p1 F1 r1 H1 _ R1 (.refl ..) itw_range⟩
            · exact p1.elim
          · exact p1.elim
        · exact p.elim
      · rename_i a b
        split at p
        · rename_i hb
          rw [Bool.and_eq_true] at hb
          obtain ⟨h1, h2, h3, h4⟩ := isBl_of xd hb.1
          have hb2 : starEach [b] X.env = [(false, eval b X.env)] := star1 (noStar_ne hb.2).2
          refine semI_of (pi_range2 h1 h2 (pa_sem (es := [a, b])) ((star2 hb.2).trans (by rw [hb2])) hb2) ?_
          refine runA pit_step (good_A g [a, b] v S) R' s p fun ds S1 F1 r1 H1 us R1 x1 hx s1 p1 => ?_
          split at p1
          · rename_i i j
            split at p1
            · rename_i hi
              rw [Bool.and_eq_true] at hi
              cases hx with
              | cons hx hs =>
                cases hs with
                | cons hy hs =>
                  cases hs
                  cases hx
                  cases hy
                  obtain ⟨i1, i2⟩ := smallI_of hi.1
                  obtain ⟨i3, i4⟩ := smallI_of hi.2
                  exact ⟨i, j, rfl, ⟨i1, i2, i3, i4⟩, p1 F1 r1 H1 _ R1 (.refl ..) itw_range⟩
            · exact p1.elim
          · exact p1.elim
        · exact p.elim
      · exact p.elim
    · split at p
      · rename_i hx
        subst hx
        split at p
        · rename_i a
          split at p
          · rename_i hb
            rw [Bool.and_eq_true, Bool.and_eq_true] at hb
            obtain ⟨h1, h2, h3, h4⟩ := isBl_of xd hb.2.1
            cases tg <;> first | (cases hb.1; done) | skip
            refine semI_of (pi_enumA h1 h2 (pa_sem (es := [a])) (star1 hb.2.2)) ?_
            refine runA pit_step (good_A g [a] v S) R' s p fun ds S1 F1 r1 H1 us R1 x1 hx s1 p1 => ?_
            split at p1
            · rename_i d
              split at p1
              · rename_i hd
                cases e : itS S1 d with
                | none => rw [e] at p1; exact p1.elim
                | some t =>
                  rw [e] at p1
                  cases hx with
                  | cons hx hs =>
                    cases hs
                    rcases src_ok R1 hx e with ⟨a, rfl, hl, q⟩ | ⟨a, rfl, hl, _, q⟩ | ⟨z, rfl, rfl, rfl⟩
                    · obtain ⟨a', vs, e1, h2, h3⟩ := isLst_items R1 hx hl e
                      cases e1
                      exact ⟨a, rfl, .inl ⟨⟨vs, h2⟩, p1 F1 r1 H1 _ R1 (.refl ..) (itw_enumL q)⟩⟩
                    · obtain ⟨vs, h1, h2⟩ := q F1 r1 S1 H1 R1 (.refl ..)
                      exact ⟨a, rfl, .inr ⟨⟨vs, h1⟩, p1 F1 r1 H1 _ R1 (.refl ..) (itw_enumT q)⟩⟩
                    · cases hd
              · exact p1.elim
            · exact p1.elim
          · exact p.elim
        · exact p.elim
      · split at p
        · rename_i hx
          subst hx
          split at p
          · rename_i a b
            split at p
            · rename_i hb
              rw [Bool.and_eq_true, Bool.and_eq_true] at hb
              obtain ⟨h1, h2, h3, h4⟩ := isBl_of xd hb.2.1
              cases tg <;> first | (cases hb.1; done) | skip
              have hb2 : starEach [b] X.env = [(false, eval b X.env)] := star1 (noStar_ne hb.2.2).2
              refine semI_of (RZ.pi_zipA h1 h2 (pa_sem (es := [a, b])) (star2 hb.2.2) (noStar_starEach (noStar_ne hb.2.2).2)) ?_
              refine runA pit_step (good_A g [a, b] v S) R' s p fun ds S1 F1 r1 H1 us R1 x1 hx s1 p1 => ?_
              split at p1
              · rename_i xs ys
                cases hx with
                | cons hx hs =>
                  cases hs with
                  | cons hy hs =>
                    cases hs
                    obtain ⟨a1, vs, rfl, k1, k2⟩ := hx.isTup R1
                    obtain ⟨a2, us, rfl, k3, k4⟩ := hy.isTup R1
                    have sx : SrcT (fx X sl) F1 r1 H1 xs a1 := by
                      cases hx with
                      | tup h hs => exact fun F' r' S' H' R' x => ⟨_, Same.seqT R'.sub (Same.seqT x.f h), x.monos hs⟩
                    have sy : SrcT (fx X sl) F1 r1 H1 ys a2 := by
                      cases hy with
                      | tup h hs => exact fun F' r' S' H' R' x => ⟨_, Same.seqT R'.sub (Same.seqT x.f h), x.monos hs⟩
                    exact ⟨a1, a2, vs, us, rfl, .inr ⟨k1, k3, p1 F1 r1 H1 _ R1 (.refl ..) (itw_zipT sx sy)⟩⟩
              · rename_i xs ys
                cases hx with
                | cons hx hs =>
                  cases hs with
                  | cons hy hs =>
                    cases hs
                    obtain ⟨a1, vs, rfl, k1, k2⟩ := hx.isLst R1 rfl rfl
                    obtain ⟨a2, us, rfl, k3, k4⟩ := hy.isLst R1 rfl rfl
                    have sx : SrcL (fx X sl) F1 r1 H1 none [] xs a1 := by
                      cases hx with
                      | lst h hs => exact fun F' r' S' H' R' x _ => ⟨_, .of (R'.sub _ _ (x.f _ _ h)), x.monos hs⟩
                    have sy : SrcL (fx X sl) F1 r1 H1 none [] ys a2 := by
                      cases hy with
                      | lst h hs => exact fun F' r' S' H' R' x _ => ⟨_, .of (R'.sub _ _ (x.f _ _ h)), x.monos hs⟩
                    exact ⟨a1, a2, vs, us, rfl, .inl ⟨k1, k3, p1 F1 r1 H1 _ R1 (.refl ..) (itw_zipL sx sy)⟩⟩
              · exact p1.elim
            · exact p.elim
          · exact p.elim
        · exact good_Ival g R' s p
  · exact good_Ival g R' s p

/-! ### targets -/
def semG (X : Cx) (tg : Expr) : TG := fun v σ H Q => ∀ (pins : List (Addr × Obj)) (s : Shared) (u : Value), Inv X pins σ H s → RelV v u → wpAny (model X.prog X.w) X.A (assign tg X.env u) (fun _ s' => ∃ σ' H', Inv X pins σ' H' s' ∧ Q σ' H') X.xe s
theorem pg_sem : PG X tg (semG X tg) := ⟨fun pins s _ _ _ u _ I r h => h pins s u I r⟩
theorem semG_of {t : TG} {w : V} (h : PG X tg t) {Q : L2.St → Hp → Prop} (q : t w σ H Q) : semG X tg w σ H Q := fun pins s u I r => h.run pins s σ H w u Q I r q
def gNames : List Nat → TGs
  | [] => gNil
  | i :: is => gCons (gName i) (gNames is)
theorem locOk_of (xd : XD X sl W c) {x : Str} (h : locOk c x = true) : Loc X.env.scope x ∧ (X.fn x = true ∨ X.env.scope.names.lookup x = some .local) := by
  unfold locOk at h
  rw [Bool.or_eq_true, Bool.and_eq_true] at h
  rcases h with h | ⟨h1, h2⟩
  · have : X.env.scope.names.lookup x = some .local := by rw [xd.sc]; exact of_decide_eq_true h
    exact ⟨.inl this, .inr this⟩
  · have : X.env.scope.names.lookup x = some .cell := by rw [xd.sc]; exact of_decide_eq_true h2
    exact ⟨.inr this, .inl (xd.top h1 x this)⟩
theorem nameIx_of (xd : XD X sl W c) {e : Expr} {i : Nat} (h : nameIx c e = some i) : ∃ x p, e = .Name x p ∧ X.N[i]? = some x ∧ locOk c x = true ∧ PG X e (gName i) := by
  cases e <;> first | (cases h; done) | skip
  rename_i x p
  have h' : (if locOk c x then ixOf c.N x else none) = some i := h
  split at h'
  · rename_i hl
    obtain ⟨l1, l2⟩ := locOk_of xd hl
    have hn : X.N[i]? = some x := by rw [xd.N]; exact ixOf_get h'
    exact ⟨x, p, rfl, hn, hl, pg_name (by rw [xd.N]; exact xd.nd) hn l1 l2⟩
  · cases h'
theorem namesIx_of (xd : XD X sl W c) : ∀ {es : List Expr} {is : List Nat}, namesIx c es = some is → PGs X es (gNames is) ∧ (assignEach es X.env).length = is.length ∧ (assignEach es X.env).findIdx? (·.1) = none
  | [], is, h => by cases h; exact ⟨pgs_nil, rfl, rfl⟩
  | e :: es, is, h => by
    have h' : (match nameIx c e, namesIx c es with | some i, some is => some (i :: is) | _, _ => none) = some is := h
    cases h1 : nameIx c e with
    | none => rw [h1] at h'; cases h'
    | some i =>
      cases h2 : namesIx c es with
      | none => rw [h1, h2] at h'; cases h'
      | some is' =>
        rw [h1, h2] at h'
        cases h'
        obtain ⟨x, p, rfl, q1, q2, q3⟩ := nameIx_of xd h1
        obtain ⟨k1, k2, k3⟩ := namesIx_of xd h2
        have ea : assignEach (.Name x p :: es) X.env = (false, assign (.Name x p) X.env) :: assignEach es X.env := rfl
        refine ⟨pgs_cons q3 k1, ?_, ?_⟩
        · rw [ea]; simp [k2]
        · rw [ea, List.findIdx?_cons]; simp [k3]
/-- what the slots are behind a store -/
def setV : List Nat → List V → L2.St → L2.St
  | i :: is, x :: xs, σ => setV is xs (σ.set i (some x))
  | _, _, σ => σ
theorem gNames_ok : ∀ {is : List Nat} {xs : List V} {σ : L2.St} {Q : L2.St → Hp → Prop}, is.length = xs.length → Q (setV is xs σ) H → gNames is xs σ H Q
  | [], [], σ, Q, _, q => ⟨rfl, q⟩
  | i :: is, x :: xs, σ, Q, h, q => ⟨x, xs, rfl, gNames_ok (is := is) (xs := xs) (by simpa using h) q⟩
  | [], _ :: _, _, _, h, _ => by cases h
  | _ :: _, [], _, _, h, _ => by cases h
theorem setAll_ok {Y : Fx} : ∀ {is : List Nat} {ds : List D} {xs : List V} {v v1 : Slots} {σ : L2.St}, VRs Y F r ds xs → SR Y F r v σ → setAll is ds v = some v1 → is.length = xs.length ∧ SR Y F r v1 (setV is xs σ)
  | [], [], _, v, v1, σ, .nil, s, e => by cases e; exact ⟨rfl, s⟩
  | i :: is, d :: ds, _, v, v1, σ, .cons h hs, s, e => by
    have e' : (if i < v.length then setAll is ds (v.set i (some d)) else none) = some v1 := e
    split at e'
    · obtain ⟨q1, q2⟩ := setAll_ok hs (s.set h i) e'
      exact ⟨by simp [q1], q2⟩
    · cases e'
  | [], _ :: _, _, _, _, _, _, _, e => by cases e
  | _ :: _, [], _, _, _, _, _, _, e => by cases e
theorem wipe_set_in {σ : L2.St} {i : Nat} {o : Option V} : ∀ {vs : List Nat}, i ∈ vs → wipe (σ.set i o) vs = wipe σ vs
  | v :: vs, h => by
    show (wipe (σ.set i o) vs).set v none = (wipe σ vs).set v none
    by_cases hi : i ∈ vs
    · rw [wipe_set_in hi]
    · have hv : i = v := by
        rcases List.mem_cons.mp h with z | z
        · exact z
        · exact absurd z hi
      subst hv
      have e : wipe (σ.set i o) vs = (wipe σ vs).set i o := wipe_set_out hi
      rw [e, List.set_set]
where
  wipe_set_out {σ : L2.St} {i : Nat} {o : Option V} : ∀ {vs : List Nat}, i ∉ vs → wipe (σ.set i o) vs = (wipe σ vs).set i o
    | [], _ => rfl
    | v :: vs, h => by
      have h1 : i ≠ v := fun z => h (z ▸ List.mem_cons_self)
      have h2 : i ∉ vs := fun z => h (List.mem_cons_of_mem _ z)
      show (wipe (σ.set i o) vs).set v none = ((wipe σ vs).set v none).set i o
      rw [wipe_set_out h2, List.set_comm _ _ h1]
theorem wipe_set_all {vs : List Nat} : ∀ {is : List Nat} {xs : List V} {σ : L2.St}, (∀ i ∈ is, i ∈ vs) → wipe (setV is xs σ) vs = wipe σ vs
  | [], _, _, _ => rfl
  | i :: is, [], _, _ => rfl
  | i :: is, x :: xs, σ, h => by
    show wipe (setV is xs (σ.set i (some x))) vs = _
    rw [wipe_set_all fun j hj => h j (List.mem_cons_of_mem _ hj), wipe_set_in (h i List.mem_cons_self)]
theorem wipe_wipe {σ : L2.St} : ∀ {ws : List Nat} {vs : List Nat}, (∀ i ∈ ws, i ∈ vs) → wipe (wipe σ ws) vs = wipe σ vs
  | [], _, _ => rfl
  | w :: ws, vs, h => by
    show wipe ((wipe σ ws).set w none) vs = _
    rw [wipe_set_in (h w List.mem_cons_self), wipe_wipe fun i hi => h i (List.mem_cons_of_mem _ hi)]
/-- a target of names -/
theorem good_tg (xd : XD X sl W c) {t : Tg} {d : D} {w : V} {v v1 : Slots} (ht : tgOf c tg = some t) (e : t.put d v = some v1) (R' : Rel (fx X sl) F r S H) (hx : VR (fx X sl) F r d w) (s : SR (fx X sl) F r v σ) {Q : L2.St → Hp → Prop}
    (q : ∀ σ', SR (fx X sl) F r v1 σ' → (∀ vs, (∀ i ∈ t.ixs, i ∈ vs) → wipe σ' vs = wipe σ vs) → Q σ' H) : semG X tg w σ H Q := by
  cases tg with
  | Tuple es kk p =>
    have ht' : (namesIx c es).map Tg.many = some t := ht
    cases h1 : namesIx c es with
    | none => rw [h1] at ht'; cases ht'
    | some is =>
      rw [h1] at ht'
      cases ht'
      obtain ⟨k1, k2, k3⟩ := namesIx_of xd h1
      cases d with
      | tup xs =>
        obtain ⟨a, vs, rfl, g1, g2⟩ := hx.isTup R'
        obtain ⟨l1, l2⟩ := setAll_ok g2 s (show setAll is xs v = some v1 from e)
        exact semG_of (pg_tup xd.calm k1 k2 k3) ⟨a, vs, rfl, g1, l1.symm, gNames_ok l1 (q _ l2 fun ws hw => wipe_set_all hw)⟩
      | _ => cases e
  | Name x p =>
    have ht' : (nameIx c (.Name x p)).map Tg.one = some t := ht
    cases h1 : nameIx c (.Name x p) with
    | none => rw [h1] at ht'; cases ht'
    | some i =>
      rw [h1] at ht'
      cases ht'
      obtain ⟨x, p, _, q1, q2, q3⟩ := nameIx_of xd h1
      have e' : (if i < v.length then some (v.set i (some d)) else none) = some v1 := e
      split at e'
      · cases e'
        exact semG_of q3 (q _ (s.set hx i) fun ws hw => wipe_set_in (hw i (by simp [Tg.ixs])))
      · cases e'
  | _ => cases ht
end
end DV
end

section
set_option Elab.async false
set_option linter.all false
set_option maxRecDepth 100000
set_option autoImplicit false
/-! The evaluator is right: comprehensions. -/
namespace DV
open PySem PySem.Spec PyProof.Rows L2
section
variable {X : Cx} {sl : Slo} {W : WX} {c : Ctx} {e a b o i tg iter elt kx vx : Expr} {ifs : List Expr} {scope : Scope} {v : Slots} {S : Sto} {F : Hp} {r : Rho} {σ : L2.St} {H : Hp} {R : Rec} {pos p2 : Pos} {x y z : D} {x' y' : V}
theorem xd_blk (xd : XD X sl W c) (s : Shared) (H : Hp) (C : Addr) (cl : List (Str × Addr)) (fp : List Addr) : XD (X.blk s H scope (compEnvC scope cl C X.env) fp) sl (fun _ _ _ _ => False) (blkCtx c scope) where
  N := xd.N
  nd := xd.nd
  sc := by show relS scope X.env.scope = relS scope c.sc; rw [xd.sc]
  calm := xd.calm
  tk := fun u s' ⟨a, B, sI, pins, σ, H, cls, d, e, I, nb, up, sky, na, os, ag, w⟩ => w.elim
  gen := ⟨xd.gen.glob, fun x f e => let ⟨a, h1, h2, h3, h4⟩ := xd.gen.fn x f e; ⟨a, h1, h2, h3, h4.pos, h4.kw⟩, fun c m f e => let ⟨a, h1, h4⟩ := xd.gen.me c m f e; ⟨a, h1, h4.pos, h4.kw⟩, fun c p e => let ⟨a, h1, h4⟩ := xd.gen.make c p e; ⟨a, h1, h4.pos, h4.kw⟩, xd.gen.free, xd.gen.cls⟩
  room := xd.room
  gd := xd.gd
  top := fun h => by cases h
def gAll (X : Cx) (scope : Scope) (tg : Expr) : TG := fun v σ H' Q => ∀ s H C cl fp, semG (X.blk s H scope (compEnvC scope cl C X.env) fp) tg v σ H' Q
def semTs (X : Cx) (ifs : List Expr) : TT := fun σ H Q => ∀ (pins : List (Addr × Obj)) (s : Shared), Inv X pins σ H s →
    wpAny (model X.prog X.w) X.A (forIn ifs true fun c r => if r = true then do let ok ← isTrue c X.env (eval c X.env); pure (ForInStep.yield ok) else pure (ForInStep.yield r)) (TP X pins σ Q) X.xe s
theorem semTs_of {t : TT} (h : PTs X ifs t) {Q : Bool → Hp → Prop} (q : t σ H Q) : semTs X ifs σ H Q := fun pins s I => h.run pins s σ H Q I q
def tAll (X : Cx) (scope : Scope) (ifs : List Expr) : TT := fun σ H' Q => ∀ s H C cl fp, semTs (X.blk s H scope (compEnvC scope cl C X.env) fp) ifs σ H' Q
def eAll (X : Cx) (scope : Scope) (e : Expr) : TE := fun σ H' Q => ∀ s H C cl fp, semE (X.blk s H scope (compEnvC scope cl C X.env) fp) e σ H' Q
theorem all_g (s : Shared) (H : Hp) (C : Addr) (cl : List (Str × Addr)) (fp : List Addr) : PG (X.blk s H scope (compEnvC scope cl C X.env) fp) tg (gAll X scope tg) := ⟨fun pins s' σ H' v u Q I r h => h s H C cl fp pins s' u I r⟩
theorem all_t (s : Shared) (H : Hp) (C : Addr) (cl : List (Str × Addr)) (fp : List Addr) : PTs (X.blk s H scope (compEnvC scope cl C X.env) fp) ifs (tAll X scope ifs) := ⟨fun pins s' σ H' Q I h => h s H C cl fp pins s' I⟩
theorem all_e (s : Shared) (H : Hp) (C : Addr) (cl : List (Str × Addr)) (fp : List Addr) : PE (X.blk s H scope (compEnvC scope cl C X.env) fp) e (eAll X scope e) := ⟨fun pins s' σ H' Q I h => h s H C cl fp pins s' I⟩
/-- the target and the tests -/
theorem run_hd (xd : XD X sl W c) (hG : Good sl R) {t : Tg} {vs : List Nat} {d : D} {w : V} {ov : Option Slots} {S2 : Sto} {C : L2.St → Bool → Hp → Prop} (ht : tgOf (blkCtx c scope) tg = some t) (hin : ∀ i ∈ t.ixs, i ∈ vs)
    (e : evHd R (blkCtx c scope) t ifs (wipeD v vs) d S = .ok ov S2) (R' : Rel (fx X sl) F r S H) (hx : VR (fx X sl) F r d w) (s : SR (fx X sl) F r v σ)
    (h : ∀ σ2 F3 r3 H3, Rel (fx X sl) F3 r3 S2 H3 → Ext F r H F3 r3 H3 → match (motive := Option Slots → Prop) ov with | some v1 => SR (fx X sl) F3 r3 v1 σ2 → C σ2 true H3 | none => C σ2 false H3) :
    gAll X scope tg w (wipe σ vs) H fun σ2 H2 => wipe σ2 vs = wipe σ vs ∧ tAll X scope ifs σ2 H2 (C σ2) := by
  intro s0 H0 C0 cl fp
  have xdb := xd_blk (scope := scope) xd s0 H0 C0 cl fp
  unfold evHd at e
  cases e1 : t.put d (wipeD v vs) with
  | none => rw [e1] at e; cases e
  | some v1 =>
    rw [e1] at e
    dsimp only at e
    refine good_tg (tg := tg) xdb ht e1 R' hx (s.wipe vs) fun σ2 s2 hw => ⟨(hw vs hin).trans (wipe_wipe fun i hi => hi), fun s3 H3 C3 cl3 fp3 => ?_⟩
    have xdb3 := xd_blk (scope := scope) xd s3 H3 C3 cl3 fp3
    split at e
    · cases e
      exact semTs_of pts_nil (h σ2 F r H R' (.refl ..) s2)
    · rename_i tst
      refine semTs_of (pts_one (pt_sem (e := tst))) ?_
      have gt := hG.T _ _ _ xdb3 tst v1 S
      refine gt F r σ2 H R' s2 _ ?_
      split at e
      · rename_i S2' eT
        cases e
        rw [eT]
        exact fun F3 r3 H3 R3 x3 => h σ2 F3 r3 H3 R3 x3 (s2.step x3)
      · rename_i S2' eT
        cases e
        rw [eT]
        exact fun F3 r3 H3 R3 x3 => h σ2 F3 r3 H3 R3 x3
      · cases e
    · cases e
theorem loopC_src {body : D → Sto → Res (Option D)} {t : DV.Itr} : ∀ {ds acc : List D} {S : Sto}, loopC body t ds acc S ≠ .bad → okSrc S t = true
  | [], acc, S, h => by
    unfold loopC at h
    split at h
    · assumption
    · exact absurd rfl h
  | d :: ds, acc, S, h => by
    unfold loopC at h
    split at h
    · assumption
    · exact absurd rfl h
theorem loopC_noexc {body : D → Sto → Res (Option D)} {t : DV.Itr} {cl : Str} {ns : List Str} {xs : List D} {S' : Sto} : ∀ {ds acc : List D} {S : Sto}, loopC body t ds acc S ≠ .exc cl ns xs S'
  | [], acc, S, h => by
    unfold loopC at h
    split at h <;> cases h
  | d :: ds, acc, S, h => by
    unfold loopC at h
    split at h
    · split at h
      · split at h
        · exact loopC_noexc h
        · cases h
      · exact loopC_noexc h
      · cases h
    · cases h
theorem setE_of (h : isSetE iter = false) {env : Env} : ∀ x, foldedSetIterable iter env x = pure x := fun x => by
  cases iter <;> first | rfl | cases h
theorem drop_cons {A : Type} {xs : List A} {i : Nat} {x : A} (h : xs[i]? = some x) : xs.drop i = x :: xs.drop (i + 1) := by
  obtain ⟨hl, rfl⟩ := List.getElem?_eq_some_iff.mp h
  exact List.drop_eq_getElem_cons hl
theorem lc_reads {F : Hp} {r : Rho} {σ : L2.St} {H : Hp} (xd : XD X sl W c) (hG : Good sl R) (R' : Rel (fx X sl) F r S H) (s : SR (fx X sl) F r v σ) (Q : VK) (p : PostR (fx X sl) F r H ((evLc R c elt tg iter ifs scope v S).bind fun xs S1 => .ok (.lst xs) S1) (PN (fx X sl) Q) (EW W σ)) :
    ∃ own, BlkOk X.N X.env.scope scope own ∧ isSetE iter = false ∧ tLc (semI X tg iter) (gAll X scope tg) (tAll X scope ifs) (eAll X scope elt) (own.map (·.2)) σ H Q := by
  unfold evLc at p
  dsimp only at p
  split at p
  · rename_i hb
    rw [Bool.and_eq_true, Bool.not_eq_true'] at hb
    split at p
    · rename_i t ht
      split at p
      · rename_i hin
        have hin' : ∀ i ∈ t.ixs, i ∈ (ownIx c.N scope).map (·.2) := fun i hi => by
          have := List.all_eq_true.mp hin i hi
          simpa using this
        have ok : BlkOk X.N X.env.scope scope (ownIx c.N scope) := blkOk_by (by rw [xd.N, xd.sc]; exact hb.1)
        refine ⟨_, ok, hb.2, ?_⟩
        generalize hvs : (ownIx c.N scope).map (·.2) = vs at *
        rw [bind_bind] at p
        have gi := good_I (tg := tg) (e := iter) (v := v) (S := S) xd (hG.E X W c xd)
        refine gi F r σ H R' s _ ?_
        cases m : evI R c tg iter v S with
        | bad => rw [m] at p; exact p.elim
        | exc ec en ex eS => rw [m] at p; exact p
        | ok it S1 =>
          rw [m] at p
          intro F1 r1 H1 J R1 x1 w D hD
          have s1 := s.step x1
          have p1 : PostR (fx X sl) F1 r1 H1 ((loopC (turnC R (blkCtx c scope) elt t ifs (wipeD v vs)) it it.xs [] S1).bind fun xs S1 => .ok (.lst xs) S1) (PN (fx X sl) Q) (EW W σ) := PostR.step p pn_step x1
          generalize hbody : turnC R (blkCtx c scope) elt t ifs (wipeD v vs) = body at p1
          obtain ⟨G, Yv, wk, hGG, hY⟩ := w
          cases m2 : loopC body it it.xs [] S1 with
          | bad => rw [m2] at p1; exact p1.elim
          | exc ec en ex eS => exact absurd m2 loopC_noexc
          | ok xs Sf =>
            rw [m2] at p1
            have p1 : PN (fx X sl) Q F1 r1 H1 (.lst xs) Sf := p1
            have nxd : ∀ us : List V, HO.lst us ≠ .xd [] := fun us z => by cases z
            refine lc_it wk (fun i H' => ∃ F' r' S' acc us, Rel (fx X sl) F' r' S' H' ∧ Ext F1 r1 H1 F' r' H' ∧ F' D = none ∧ (∀ n : Nat, r'[n]? ≠ some (some D)) ∧ H' D = some (.lst us) ∧ VRs (fx X sl) F' r' acc us ∧ loopC body it (it.xs.drop i) acc S' = .ok xs Sf) ?_ ?_ ?_ ?_
            · exact ⟨F1, r1, S1, [], [], R1.tmp (R1.fresh hD) (R1.notin hD) (by rw [hD]; intro z; cases z) _, (Ext.refl F1 r1 H1).tmp hD _, R1.fresh hD, R1.notin hD, upd_same, .nil, by rw [List.drop_zero]; exact m2⟩
            · rintro i H' _ ⟨F', r', S', acc, us, R2, x2, k1, k2, k3, k4, k5⟩
              exact hGG F' r' S' H' R2 x2 (loopC_src (by rw [k5]; intro z; cases z))
            · rintro i xv H' H'' hi ⟨F', r', S', acc, us, R2, x2, k1, k2, k3, k4, k5⟩ hy
              have hok : okSrc S' it = true := loopC_src (by rw [k5]; intro z; cases z)
              obtain ⟨F3, d, hd, R3, x3, hx⟩ := hY F' r' S' H' i xv H'' R2 x2 hok hi hy
              obtain ⟨g3, g1, g2⟩ := x3.apart R3 k3 (nxd _) (fun _ z => by cases z) k1 k2
              rw [drop_cons hd] at k5
              unfold loopC at k5
              rw [if_pos hok] at k5
              have x13 := x2.trans x3
              have s3 := s1.step x13
              have next : ∀ {F4 r4 H4 S4 acc4 us4} , Rel (fx X sl) F4 r4 S4 H4 → Ext F1 r1 H1 F4 r4 H4 → F4 D = none → (∀ n : Nat, r4[n]? ≠ some (some D)) → H4 D = some (.lst us4) → VRs (fx X sl) F4 r4 acc4 us4 → loopC body it (it.xs.drop (i + 1)) acc4 S4 = .ok xs Sf → ∃ F' r' S' acc us, Rel (fx X sl) F' r' S' H4 ∧ Ext F1 r1 H1 F' r' H4 ∧ F' D = none ∧ (∀ n : Nat, r'[n]? ≠ some (some D)) ∧ H4 D = some (.lst us) ∧ VRs (fx X sl) F' r' acc us ∧ loopC body it (it.xs.drop (i + 1)) acc S' = .ok xs Sf :=
                fun a b c d e f g => ⟨_, _, _, _, _, a, b, c, d, e, f, g⟩
              have hb1 : body d S' = turnC R (blkCtx c scope) elt t ifs (wipeD v vs) d S' := by rw [← hbody]
              rw [hb1] at k5
              unfold turnC at k5
              cases e1 : evHd R (blkCtx c scope) t ifs (wipeD v vs) d S' with
              | bad => rw [e1] at k5; cases k5
              | exc _ _ _ _ => rw [e1] at k5; cases k5
              | ok ov S4 =>
                rw [e1] at k5
                refine run_hd (C := fun σ2 b H3 => if b = true then eAll X scope elt σ2 H3 fun y H4 => ∃ acc, H4 D = some (.lst acc) ∧ acc.length < sizeLine ∧ _ else _) xd hG ht hin' e1 R3 hx s3 fun σ2 F4 r4 H4 R4 x4 => ?_
                obtain ⟨f3, f1, f2⟩ := x4.apart R4 g3 (nxd _) (fun _ z => by cases z) g1 g2
                cases ov with
                | none =>
                  dsimp only at k5 ⊢
                  rw [if_neg (by decide)]
                  exact next R4 (x13.trans x4) f1 f2 f3 ((x3.trans x4).monos k4) k5
                | some v1 =>
                  dsimp only at k5 ⊢
                  intro s4
                  rw [if_pos rfl]
                  intro s0 H0 C0 cl fp
                  have xdb := xd_blk (scope := scope) xd s0 H0 C0 cl fp
                  have ge := hG.E _ _ _ xdb elt v1 S4
                  refine ge F4 r4 σ2 H4 R4 s4 _ ?_
                  cases e2 : R.E (blkCtx c scope) elt v1 S4 with
                  | bad => rw [e2] at k5; cases k5
                  | exc _ _ _ _ => rw [e2] at k5; cases k5
                  | ok y S5 =>
                    rw [e2] at k5
                    dsimp only at k5
                    split at k5
                    · rename_i hacc
                      intro F5 r5 H5 yv R5 x5 hy
                      obtain ⟨h3, h1, h2⟩ := x5.apart R5 f3 (nxd _) (fun _ z => by cases z) f1 f2
                      refine ⟨us, h3, by rw [← k4.length]; exact hacc, ?_⟩
                      refine next (R5.tmp h1 h2 (by rw [h3]; intro z; cases z) _) (((x13.trans x4).trans x5).tmp hD _) h1 h2 upd_same ((((x3.trans x4).trans x5).monos k4).append (.cons hy .nil)) k5
                    · cases k5
            · rintro H' ⟨F', r', S', acc, us, R2, x2, k1, k2, k3, k4, k5⟩
              rw [List.drop_length] at k5
              unfold loopC at k5
              split at k5
              · cases k5
                exact p1 F' r' H' D _ R2 x2 k1 k2 hD k3 ⟨us, rfl, k4⟩
              · cases k5
      · exact p.elim
    · exact p.elim
  · exact p.elim

theorem good_lc (xd : XD X sl W c) (hG : Good sl R) :
    GoodN X sl W (.ListComp elt [⟨tg, iter, ifs, 0⟩] scope pos) v S ((evLc R c elt tg iter ifs scope v S).bind fun xs S1 => .ok (.lst xs) S1) := by
  intro F r σ H R' s Q p
  obtain ⟨own, ok, hs, h⟩ := lc_reads xd hG R' s Q p
  exact semE_of (pe_lc xd.calm (by rw [xd.N]; exact xd.nd) (pi_sem (tg := tg) (e := iter)) ok all_g all_t all_e (setE_of hs)) h
/-- a dict comprehension over it: Pv by the turn and the heap -/
theorem dc_it {J : It} {n : Nat} {G : Hp → Prop} {Y : Nat → Hp → V → Hp → Prop} (w : Walk J n G Y) {g : TG} {tt : TT} {tk tv : TE} {vs : List Nat} {H1 : Hp} {D : Addr} {Qd : Hp → Prop} (Pv : Nat → Hp → Prop) (h0 : Pv 0 (upd H1 D (.dK []))) (hG : ∀ i H, i ≤ n → Pv i H → G H)
    (hs : ∀ i x H H', i < n → Pv i H → Y i H x H' → g x (wipe σ vs) H' fun σ2 H2 => wipe σ2 vs = wipe σ vs ∧ tt σ2 H2 fun b H3 =>
      if b = true then tk σ2 H3 fun y H4 => tv σ2 H4 fun z H5 => ∃ kvs k, y = kV k ∧ H5 D = some (.dK kvs) ∧ kvs.length < sizeLine ∧ Pv (i + 1) (upd H5 D (.dK (putK kvs k z))) else Pv (i + 1) H3) (hd : ∀ H, Pv n H → Qd H) :
    ∃ W : Nat → Nat → Hp → Prop, (∃ m, W 0 m (upd H1 D (.dK []))) ∧ ∀ i m H, W i m H →
      (J.stop i H ∧ Qd H) ∨ (J.go i H ∧ ∃ Nx : Hp → Prop, (∀ H', Nx H' → ∃ m', m' < m ∧ W (i + 1) m' H') ∧ ∀ x H', J.yld i H x H' → g x (wipe σ vs) H' fun σ2 H2 => wipe σ2 vs = wipe σ vs ∧ tt σ2 H2 fun b H3 =>
        if b = true then tk σ2 H3 fun y H4 => tv σ2 H4 fun z H5 => ∃ kvs k, y = kV k ∧ H5 D = some (.dK kvs) ∧ kvs.length < sizeLine ∧ Nx (upd H5 D (.dK (putK kvs k z))) else Nx H3) := by
  refine ⟨fun i m H => m = n - i ∧ i ≤ n ∧ Pv i H, ⟨n, by simp, Nat.zero_le _, h0⟩, ?_⟩
  rintro i m H ⟨rfl, hi, p⟩
  have q := hG i H hi p
  by_cases hlt : i < n
  · exact .inr ⟨w.goes i H hlt q, Pv (i + 1), fun H' p' => ⟨n - (i + 1), by omega, rfl, hlt, p'⟩, fun x H' y => hs i x H H' hlt p (w.yields i H x H' hlt q y)⟩
  · have e : i = n := by omega
    subst e
    exact .inl ⟨w.stops H q, hd H p⟩
theorem loopD_src {body : D → Sto → Res (Option (Key × D))} {t : DV.Itr} : ∀ {ds : List D} {acc : List Key × List D} {S : Sto}, loopD body t ds acc S ≠ .bad → okSrc S t = true
  | [], acc, S, h => by
    unfold loopD at h
    split at h
    · assumption
    · exact absurd rfl h
  | d :: ds, acc, S, h => by
    unfold loopD at h
    split at h
    · assumption
    · exact absurd rfl h
theorem loopD_noexc {body : D → Sto → Res (Option (Key × D))} {t : DV.Itr} {cl : Str} {ns : List Str} {xs : List D} {S' : Sto} : ∀ {ds : List D} {acc : List Key × List D} {S : Sto}, loopD body t ds acc S ≠ .exc cl ns xs S'
  | [], acc, S, h => by
    unfold loopD at h
    split at h <;> cases h
  | d :: ds, acc, S, h => by
    unfold loopD at h
    split at h
    · split at h
      · split at h
        · exact loopD_noexc h
        · cases h
      · exact loopD_noexc h
      · cases h
    · cases h
theorem good_dc (xd : XD X sl W c) (hG : Good sl R) :
    GoodN X sl W (.DictComp kx vx [⟨tg, iter, ifs, 0⟩] scope pos) v S ((evDc R c kx vx tg iter ifs scope v S).bind fun p S1 => .ok (.dict p.1 p.2) S1) := by
  intro F r σ H R' s Q p
  unfold evDc at p
  dsimp only at p
  split at p
  · rename_i hb
    rw [Bool.and_eq_true, Bool.not_eq_true'] at hb
    split at p
    · rename_i t ht
      split at p
      · rename_i hin
        have hin' : ∀ i ∈ t.ixs, i ∈ (ownIx c.N scope).map (·.2) := fun i hi => by
          have := List.all_eq_true.mp hin i hi
          simpa using this
        have ok : BlkOk X.N X.env.scope scope (ownIx c.N scope) := blkOk_by (by rw [xd.N, xd.sc]; exact hb.1)
        refine semE_of (pe_dc xd.calm (by rw [xd.N]; exact xd.nd) (pi_sem (tg := tg) (e := iter)) ok all_g all_t all_e all_e (setE_of hb.2)) ?_
        generalize hvs : (ownIx c.N scope).map (·.2) = vs at *
        rw [bind_bind] at p
        have gi := good_I (tg := tg) (e := iter) (v := v) (S := S) xd (hG.E X W c xd)
        refine gi F r σ H R' s _ ?_
        cases m : evI R c tg iter v S with
        | bad => rw [m] at p; exact p.elim
        | exc ec en ex eS => rw [m] at p; exact p
        | ok it S1 =>
          rw [m] at p
          intro F1 r1 H1 J R1 x1 w D hD
          have s1 := s.step x1
          have p1 : PostR (fx X sl) F1 r1 H1 ((loopD (turnD R (blkCtx c scope) kx vx t ifs (wipeD v vs)) it it.xs ([], []) S1).bind fun p S1 => .ok (.dict p.1 p.2) S1) (PN (fx X sl) Q) (EW W σ) := PostR.step p pn_step x1
          generalize hbody : turnD R (blkCtx c scope) kx vx t ifs (wipeD v vs) = body at p1
          obtain ⟨G, Yv, wk, hGG, hY⟩ := w
          cases m2 : loopD body it it.xs ([], []) S1 with
          | bad => rw [m2] at p1; exact p1.elim
          | exc ec en ex eS => exact absurd m2 loopD_noexc
          | ok xs Sf =>
            rw [m2] at p1
            have p1 : PN (fx X sl) Q F1 r1 H1 (.dict xs.1 xs.2) Sf := p1
            have nxd : ∀ us : List (Key × V), HO.dK us ≠ .xd [] := fun us z => by cases z
            refine dc_it wk (fun i H' => ∃ F' r' S' acc us, Rel (fx X sl) F' r' S' H' ∧ Ext F1 r1 H1 F' r' H' ∧ F' D = none ∧ (∀ n : Nat, r'[n]? ≠ some (some D)) ∧ H' D = some (.dK us) ∧ (us.map (·.1) = acc.1 ∧ VRs (fx X sl) F' r' acc.2 (us.map (·.2))) ∧ loopD body it (it.xs.drop i) acc S' = .ok xs Sf) ?_ ?_ ?_ ?_
            · exact ⟨F1, r1, S1, ([], []), [], R1.tmp (R1.fresh hD) (R1.notin hD) (by rw [hD]; intro z; cases z) _, (Ext.refl F1 r1 H1).tmp hD _, R1.fresh hD, R1.notin hD, upd_same, ⟨rfl, .nil⟩, by rw [List.drop_zero]; exact m2⟩
            · rintro i H' _ ⟨F', r', S', acc, us, R2, x2, k1, k2, k3, k4, k5⟩
              exact hGG F' r' S' H' R2 x2 (loopD_src (by rw [k5]; intro z; cases z))
            · rintro i xv H' H'' hi ⟨F', r', S', acc, us, R2, x2, k1, k2, k3, k4, k5⟩ hy
              have hok : okSrc S' it = true := loopD_src (by rw [k5]; intro z; cases z)
              obtain ⟨F3, d, hd, R3, x3, hx⟩ := hY F' r' S' H' i xv H'' R2 x2 hok hi hy
              obtain ⟨g3, g1, g2⟩ := x3.apart R3 k3 (nxd _) (fun _ z => by cases z) k1 k2
              rw [drop_cons hd] at k5
              unfold loopD at k5
              rw [if_pos hok] at k5
              have x13 := x2.trans x3
              have s3 := s1.step x13
              have next : ∀ {F4 r4 H4 S4 acc4 us4} , Rel (fx X sl) F4 r4 S4 H4 → Ext F1 r1 H1 F4 r4 H4 → F4 D = none → (∀ n : Nat, r4[n]? ≠ some (some D)) → H4 D = some (.dK us4) → (us4.map (·.1) = acc4.1 ∧ VRs (fx X sl) F4 r4 acc4.2 (us4.map (·.2))) → loopD body it (it.xs.drop (i + 1)) acc4 S4 = .ok xs Sf → ∃ F' r' S' acc us, Rel (fx X sl) F' r' S' H4 ∧ Ext F1 r1 H1 F' r' H4 ∧ F' D = none ∧ (∀ n : Nat, r'[n]? ≠ some (some D)) ∧ H4 D = some (.dK us) ∧ (us.map (·.1) = acc.1 ∧ VRs (fx X sl) F' r' acc.2 (us.map (·.2))) ∧ loopD body it (it.xs.drop (i + 1)) acc S' = .ok xs Sf :=
                fun a b c d e f g => ⟨_, _, _, _, _, a, b, c, d, e, f, g⟩
              have hb1 : body d S' = turnD R (blkCtx c scope) kx vx t ifs (wipeD v vs) d S' := by rw [← hbody]
              rw [hb1] at k5
              unfold turnD at k5
              cases e1 : evHd R (blkCtx c scope) t ifs (wipeD v vs) d S' with
              | bad => rw [e1] at k5; cases k5
              | exc _ _ _ _ => rw [e1] at k5; cases k5
              | ok ov S4 =>
                rw [e1] at k5
                refine run_hd (C := fun σ2 b H3 => if b = true then eAll X scope kx σ2 H3 fun y H4 => eAll X scope vx σ2 H4 fun z H5 => ∃ kvs k, y = kV k ∧ H5 D = some (.dK kvs) ∧ kvs.length < sizeLine ∧ _ else _) xd hG ht hin' e1 R3 hx s3 fun σ2 F4 r4 H4 R4 x4 => ?_
                obtain ⟨f3, f1, f2⟩ := x4.apart R4 g3 (nxd _) (fun _ z => by cases z) g1 g2
                cases ov with
                | none =>
                  dsimp only at k5 ⊢
                  rw [if_neg (by decide)]
                  exact next R4 (x13.trans x4) f1 f2 f3 ⟨k4.1, (x3.trans x4).monos k4.2⟩ k5
                | some v1 =>
                  dsimp only at k5 ⊢
                  intro s4
                  rw [if_pos rfl]
                  intro s0 H0 C0 cl fp
                  have xdb := xd_blk (scope := scope) xd s0 H0 C0 cl fp
                  have ge := hG.E _ _ _ xdb kx v1 S4
                  refine ge F4 r4 σ2 H4 R4 s4 _ ?_
                  cases e2 : R.E (blkCtx c scope) kx v1 S4 with
                  | bad => rw [e2] at k5; cases k5
                  | exc _ _ _ _ => rw [e2] at k5; cases k5
                  | ok kd S5 =>
                    rw [e2] at k5
                    dsimp only at k5
                    intro F5 r5 H5 kv R5 x5 hk s0 H0 C0 cl fp
                    have xdb := xd_blk (scope := scope) xd s0 H0 C0 cl fp
                    have ge := hG.E _ _ _ xdb vx v1 S5
                    obtain ⟨h3, h1, h2⟩ := x5.apart R5 f3 (nxd _) (fun _ z => by cases z) f1 f2
                    refine ge F5 r5 σ2 H5 R5 (s4.step x5) _ ?_
                    cases e3 : R.E (blkCtx c scope) vx v1 S5 with
                    | bad => rw [e3] at k5; cases k5
                    | exc _ _ _ _ => rw [e3] at k5; cases k5
                    | ok y S6 =>
                      rw [e3] at k5
                      dsimp only at k5
                      cases e4 : toKey kd with
                      | none => rw [e4] at k5; cases k5
                      | some k' =>
                        rw [e4] at k5
                        dsimp only at k5
                        split at k5
                        · rename_i hacc
                          intro F6 r6 H6 yv R6 x6 hy
                          obtain ⟨i3, i1, i2⟩ := x6.apart R6 h3 (nxd _) (fun _ z => by cases z) h1 h2
                          have el : us.length = acc.1.length := by have := congrArg List.length k4.1; simpa using this
                          have k4' := ((((x3.trans x4).trans x5).trans x6).monos k4.2)
                          obtain ⟨m1, m2⟩ := dput_ok hy k' k4.1 k4'
                          refine ⟨us, k', toKey_ok hk e4, i3, by rw [el]; exact hacc, ?_⟩
                          exact next (R6.tmp i1 i2 (by rw [i3]; intro z; cases z) _) ((((x13.trans x4).trans x5).trans x6).tmp hD _) i1 i2 upd_same ⟨m1, m2⟩ k5
                        · cases k5
            · rintro H' ⟨F', r', S', acc, us, R2, x2, k1, k2, k3, k4, k5⟩
              rw [List.drop_length] at k5
              unfold loopD at k5
              split at k5
              · cases k5
                exact p1 F' r' H' D _ R2 x2 k1 k2 hD k3 ⟨us, rfl, k4.1, k4.2⟩
              · cases k5
      · exact p.elim
    · exact p.elim
  · exact p.elim
end
end DV
end

section
set_option Elab.async false
set_option linter.all false
set_option maxRecDepth 100000
set_option autoImplicit false
/-! The evaluator is right: calls of defs. -/
namespace DV
open PySem PySem.Spec PyProof.Rows L2
section
variable {Y : Fx} {F F' : Hp} {r r' : Rho} {S S' : Sto} {H H' : Hp} {d : D} {v : V} {n : Nat} {xs : List D} {ks : List Key}
/-- an object of the store is set still for good -/
theorem Rel.freeze {o : Ob} {ho : HO} {a : Addr} (R : Rel Y F r S H) (hn : r[n]? = some (some a)) (e : H a = some ho) : Rel Y (upd F a ho) (r.set n none) (S.set n .dead) H := by
  have hF : F a = none := R.dis n a hn
  have hF' := same_upd (o := ho) hF
  have hl : n < r.length := (List.getElem?_eq_some_iff.mp hn).1
  have rx : RhoX r (r.set n none) := ⟨by simp, fun m hm => by
    by_cases h : n = m
    · subst h; exact .inr (by rw [List.getElem?_set_self hl])
    · exact .inl (by rw [List.getElem?_set_ne h])⟩
  have back : ∀ (m : Nat) b, (r.set n none)[m]? = some (some b) → m ≠ n ∧ r[m]? = some (some b) := fun m b h => by
    by_cases h' : n = m
    · subst h'; rw [List.getElem?_set_self hl] at h; cases h
    · rw [List.getElem?_set_ne h'] at h; exact ⟨fun z => h' z.symm, h⟩
  refine ⟨fun b u h => ?_, by simp [R.len], fun m b h => ?_, fun m1 m2 b h1 h2 => R.inj m1 m2 b (back m1 b h1).2 (back m2 b h2).2, fun m b h => ?_, fun m u h hu => ?_, fun b x h => ?_⟩
  · by_cases hb : b = a
    · subst hb; rw [upd_same] at h; cases h; exact e
    · rw [upd_ne hb] at h; exact R.sub b u h
  · obtain ⟨h1, h2⟩ := back m b h
    have hb : b ≠ a := fun z => h1 (R.inj m n a (z ▸ h2) hn)
    rw [upd_ne hb]; exact R.dis m b h2
  · obtain ⟨h1, h2⟩ := back m b h
    obtain ⟨ob, q1, q2⟩ := R.ob m b h2
    exact ⟨ob, by rw [List.getElem?_set_ne (Ne.symm h1)]; exact q1, q2.mono hF' rx rfl fun c q => q⟩
  · by_cases h' : n = m
    · subst h'
      rw [List.getElem?_set_self (by rw [← R.len]; exact hl)] at h
      cases h; exact absurd rfl hu
    · rw [List.getElem?_set_ne h'] at h
      obtain ⟨b, q⟩ := R.live m u h hu
      exact ⟨b, by rw [List.getElem?_set_ne h']; exact q⟩
  · by_cases hb : b = a
    · subst hb
      rw [upd_same] at h
      obtain ⟨ob, _, q⟩ := R.ob n b hn
      obtain ⟨o', h3, _, h4⟩ := q.kind
      rw [e] at h3; cases h3; cases h; exact h4 x rfl
    · rw [upd_ne hb] at h; exact R.noo b x h
theorem Ext.freeze {ho : HO} {a : Addr} (x : Ext F r H F' r' H') (R : Rel Y F' r' S' H') (hn : r'[n]? = some (some a)) : Ext F r H (upd F' a ho) (r'.set n none) H' := by
  have hF : F' a = none := R.dis n a hn
  have hl : n < r'.length := (List.getElem?_eq_some_iff.mp hn).1
  refine ⟨fun b u e => same_upd hF b u (x.f b u e), fun b u e => ?_, ⟨by rw [List.length_set]; exact x.rx.len, fun m hm => ?_⟩, fun m b h => ?_, x.keep, x.dom⟩
  · by_cases h : b = a
    · subst h
      rcases x.rn n b hn with q | ⟨q, _⟩
      · exact .inr (.inr (.inl ⟨n, q⟩))
      · exact .inr (.inl q)
    · rw [upd_ne h] at e; exact x.fn b u e
  · by_cases h : n = m
    · subst h; exact .inr (by rw [List.getElem?_set_self hl])
    · rw [List.getElem?_set_ne h]; exact x.rx.old m hm
  · by_cases h' : n = m
    · subst h'; rw [List.getElem?_set_self hl] at h; cases h
    · rw [List.getElem?_set_ne h'] at h; exact x.rn m b h
/-- a call's answer, back in the caller -/
theorem runP_ok {f : FnI} {as : List D} {vs : List V} {Q : VK} {E : XK} (R : Rel Y F r S H) (hs : VRs Y F r as vs) (p : PostF Y F r H (runP f as S) Q E) : SpD Y as.length f.run vs H Q E := by
  unfold runP at p
  split at p
  · rename_i hp
    rw [Bool.and_eq_true] at hp
    refine ⟨F, [], [], as, R.nil, hs.clo hp.2, rfl, ?_⟩
    split at p
    · rename_i d S' e
      rw [e]
      split at p
      · rename_i d' e2
        intro F1 r1 H1 v R1 x1 hx
        obtain ⟨R2, x2⟩ := clos_back R R1 x1
        exact p _ _ _ _ R2 x2 (fz_ok R1 8 hx e2 r)
      · exact p.elim
    · rename_i c ns xs S' e
      rw [e]
      split at p
      · rename_i hc
        intro F1 r1 H1 R1 x1
        obtain ⟨R2, x2⟩ := clos_back R R1 x1
        obtain ⟨k1, k2⟩ := p _ _ _ R2 x2
        exact ⟨k1, fun hn a fs e1 e2 h => k2 hn a fs e1 e2 ((h.mono (clos_sub R1) (.refl _)).clo hc)⟩
      · exact p.elim
    · exact p.elim
  · refine ⟨F, r, S, as, R, hs, rfl, ?_⟩
    cases e : f.run as S with
    | bad => rw [e] at p; exact p.elim
    | exc c ns xs S' => rw [e] at p; exact p
    | ok d S' =>
      rw [e] at p
      dsimp only at p
      split at p
      · cases d with
        | ref n =>
          dsimp only at p
          cases q : S'[n]? with
          | none => rw [q] at p; exact p
          | some o =>
            rw [q] at p
            cases o with
            | dead => exact p
            | ins c ns xs => exact p
            | lst xs =>
              dsimp only at p
              split at p
              · rename_i hc
                intro F1 r1 H1 v R1 x1 hx
                obtain ⟨a, ha⟩ := R1.live n _ q (by intro z; cases z)
                obtain ⟨o', h1, h2⟩ := R1.ob n a ha
                rw [q] at h1; cases h1
                obtain ⟨vs, h3, h4⟩ := h2
                cases hx with
                | ref hn hv =>
                  have ev := hv a ha
                  subst ev
                  have R2 := R1.freeze (o := .dead) ha h3
                  have x2 := x1.freeze (ho := .lst vs) R1 ha
                  refine p _ _ _ _ R2 x2 (.lst upd_same ((h4.mono (same_upd (R1.dis n a ha)) (.refl _)).clo hc))
              · exact p
            | dict ks xs =>
              dsimp only at p
              split at p
              · rename_i hc
                intro F1 r1 H1 v R1 x1 hx
                obtain ⟨a, ha⟩ := R1.live n _ q (by intro z; cases z)
                obtain ⟨o', h1, h2⟩ := R1.ob n a ha
                rw [q] at h1; cases h1
                obtain ⟨kvs, h3, h5, h4⟩ := h2
                cases hx with
                | ref hn hv =>
                  have ev := hv a ha
                  subst ev
                  have R2 := R1.freeze (o := .dead) ha h3
                  have x2 := x1.freeze (ho := .dK kvs) R1 ha
                  refine p _ _ _ _ R2 x2 (.dict upd_same h5 ((h4.mono (same_upd (R1.dis n a ha)) (.refl _)).clo hc))
              · exact p
        | _ => exact p
      · exact p
end
section
variable {X : Cx} {sl : Slo} {W : WX} {c : Ctx} {e a b o i tg iter elt kx vx : Expr} {ifs : List Expr} {scope : Scope} {v : Slots} {S : Sto} {F : Hp} {r : Rho} {σ : L2.St} {H : Hp} {R : Rec} {pos p2 : Pos} {x y z : D} {x' y' : V}
theorem guards_make {A : Around} {C : Addr} {us : List Value} (h : A.guards = some []) : (A.under (.builtin "type.__call__" ⟨.ref C :: us, []⟩)).guards = some [] := by
  obtain ⟨a, b, d, g, u⟩ := A
  cases h
  rfl
/-- a callee runs -/
def CallS (X : Cx) (σ : L2.St) (f : Value) (vs : List V) (H : Hp) (Q : VK) : Prop := ∀ (pins : List (Addr × Obj)) (s : Shared) (us : List Value), Inv X pins σ H s → Vals vs us → wpAny (model X.prog X.w) X.A (call f us) (EP X pins σ Q) X.xe s
theorem callS_fn {k : Nat} {g : Addr} {sp : Sp} {vs : List V} {Q : VK} (Fn : FnRG X.prog X.w X.K X.mg X.base k g sp) (hr : Room k X.A) (gd : X.A.guards = some []) (tk : Takes X W) (h : sp vs H Q (EW W σ)) : CallS X σ (.ref g) vs H Q := fun pins s us I rv => by
  refine wpAny_call (codeAny_mono (Fn X.A X.stack s H us vs Q _ hr gd I.env0 rv h) fun q s' hq => ?_)
  cases q with
  | error e => exact tk e s' (XE.of_call I (fun _ _ _ h => h) hq)
  | ok fl =>
    cases fl with
    | ret u => exact I.after hq
    | next => exact False.elim hq
    | brk => exact False.elim hq
    | cont => exact False.elim hq
theorem callS_make {k : Nat} {C f : Addr} {sp : Sp} {vs : List V} {Q : VK} (M : Mk X.K C f) (Fn : FnRG X.prog X.w X.K X.mg X.base k f sp) (hr : Room (k + 1) X.A) (gd : X.A.guards = some []) (tk : Takes X W)
    (h : ∀ x dx, H x = Option.none → H dx = Option.none → dx ≠ x → sp (V.ref x :: vs) (upd (upd H dx (.own x)) x (.ins C dx [])) (fun v H2 => v = .non ∧ Q (.ref x) H2) (EW W σ)) : CallS X σ (.ref C) vs H Q := fun pins s us I rv => by
  have hq := h (s.heap.objs.size + 1) s.heap.objs.size (I.hok.fresh (Nat.le_succ _)) (I.hok.fresh (Nat.le_refl _)) (Nat.ne_of_lt (Nat.lt_succ_self _))
  have I2 := Inv.made (C := C) I
  have r2 : Vals (V.ref (s.heap.objs.size + 1) :: vs) (Value.ref (s.heap.objs.size + 1) :: us) := .cons rfl rv
  refine wpAny_call (make_map (f := f) I.kIn M.makes M.init (beq_iff_eq.mp M.fn) (codeAny_mono (Fn _ X.stack _ _ (Value.ref (s.heap.objs.size + 1) :: us) _ _ _ (hr.make C us []) (guards_make gd) (I2.env0.make C us []) r2 hq) fun q s' hq' => ?_))
  cases q with
  | error e => exact tk e s' (XE.of_call I2 (fun _ _ _ h => h) hq')
  | ok fl =>
    cases fl with
    | ret u =>
      obtain ⟨v, H', I3, rv, ev, q3⟩ := I2.after hq'
      subst ev
      exact ⟨rv, ⟨V.ref (s.heap.objs.size + 1), H', I3, rfl, q3⟩⟩
    | next => exact False.elim hq'
    | brk => exact False.elim hq'
    | cont => exact False.elim hq'
theorem callS_R {f : Value} {rr : List V → Hp → VK → Prop} {vs : List V} {Q : VK} (h : CallR X f rr) (q : rr vs H Q) : CallS X σ f vs H Q := fun pins s us I rv => h pins s σ H vs us Q I rv q
theorem evalArgs2 {M : Model} {A : Around} {E : Value → Shared → Prop} {s : Shared} {f : Value} {x y : Bool × Sem Value} {rest : List (Bool × Sem Value)} {Q : Args → Shared → Prop}
    (h : wpAny M A (spliced (x :: y :: rest)) (fun vs s' => Q ⟨vs, []⟩ s') E s) : wpAny M A (evalArgs f true (x :: y :: rest) []) Q E s := by
  unfold evalArgs
  obtain ⟨bx, tx⟩ := x
  have e : (match (true, (bx, tx) :: y :: rest) with | (true, [(true, x)]) => (do pure ([], some (← x)) : Sem (List Value × Option Value)) | (_, _) => do pure (← spliced ((bx, tx) :: y :: rest), none)) = (do pure (← spliced ((bx, tx) :: y :: rest), none)) := by cases bx <;> rfl
  cases bx <;>
  · show wpAny M A (spliced _ >>= _) Q E s
    refine wpAny_bind (wpAny_mono h (fun vs s' h' => ?_) fun _ _ x => x)
    refine wpAny_holding ?_
    exact wpAny_bind (wpAny_pure (wpAny_bind (wpAny_pure (wpAny_pure h'))))
theorem starEach_ex (e : Expr) (es : List Expr) (env : Env) : ∃ p, starEach (e :: es) env = p :: starEach es env := by
  by_cases h : ∃ e' p, e = .Starred e' p
  · obtain ⟨e', p, rfl⟩ := h; exact ⟨_, starEach_star⟩
  · exact ⟨_, starEach_cons fun e' p z => h ⟨e', p, z⟩⟩
/-- f( .. ), f a def or a class of the module -/
theorem run_cw {A : Type} {P : Want A} {k : List D → Sto → Res A} {f : Value} {fv : List V} {first : List Value} {Q : VK} (hP : StepC P) (g : ∀ e v S, GoodE X sl W e v S (R.E c e v S)) (hk : PySem.W.keepIn X.K f = true) (rf : Vals fv first) (args : List Expr) (R' : Rel (fx X sl) F r S H) (s : SR (fx X sl) F r v σ)
    (p : PostR (fx X sl) F r H ((evA R c args v S).bind k) P (EW W σ))
    (h : ∀ ds S1 F1 r1 H1 vs, Rel (fx X sl) F1 r1 S1 H1 → Ext F r H F1 r1 H1 → VRs (fx X sl) F1 r1 ds vs → SR (fx X sl) F1 r1 v σ → PostR (fx X sl) F1 r1 H1 (k ds S1) P (EW W σ) → CallS X σ f (fv ++ vs) H1 Q)
    (pins : List (Addr × Obj)) (s0 : Shared) (I : Inv X pins σ H s0) : wpAny (model X.prog X.w) X.A (callWith pos f first (backTo pos (starEach args X.env)) []) (EP X pins σ Q) X.xe s0 := by
  have two : ∀ e1 e2 es, args = e1 :: e2 :: es → wpAny (model X.prog X.w) X.A (callWith pos f first (backTo pos (starEach args X.env)) []) (EP X pins σ Q) X.xe s0 := fun e1 e2 es ea => by
    subst ea
    have hA := runA (es := e1 :: e2 :: es) hP (good_A g (e1 :: e2 :: es) v S) R' s p h pos pins s0 I
    obtain ⟨p1, h1⟩ := starEach_ex e1 (e2 :: es) X.env
    obtain ⟨p2, h2⟩ := starEach_ex e2 es X.env
    rw [h1, h2] at hA ⊢
    generalize hl : backTo pos (p1 :: p2 :: starEach es X.env) = l at hA ⊢
    obtain ⟨q1, q2, rest, rfl⟩ : ∃ q1 q2 rest, l = q1 :: q2 :: rest := ⟨_, _, _, hl.symm⟩
    have hE : wpAny (model X.prog X.w) X.A (evalArgs f true (q1 :: q2 :: rest) []) (fun a s₁ => X.K.In s₁.heap ∧ wpAny (model X.prog X.w) X.A (call f (first ++ a.pos) a.kw) (EP X pins σ Q) X.xe s₁) X.xe s0 :=
      evalArgs2 (thn hA fun us s1 ⟨vs, H1, I1, rv, q⟩ => ⟨I1.kIn, q pins s1 _ I1 (rf.append rv)⟩)
    cases hany : (q1 :: q2 :: rest).any (·.1) with
    | true => exact PySem.W.ks_call hany (PySem.W.keeps_K hk) hE
    | false => exact PySem.W.callWith_of (by rw [hany]; rfl) (PySem.W.keeps_K hk) hE
  cases args with
  | nil =>
    refine PySem.W.callWith_K0 I.kIn hk ?_
    have q := h [] S F r H [] R' (.refl ..) .nil s p
    exact q pins s0 _ I (rf.append .nil)
  | cons e1 es =>
    cases es with
    | cons e2 es => exact two e1 e2 es rfl
    | nil =>
      by_cases hs : ∃ e' pp, e1 = .Starred e' pp
      · obtain ⟨e', pp, rfl⟩ := hs
        have p' : PostR (fx X sl) F r H ((R.E c e' v S).bind fun d S1 => (match items S1 d with
            | some xs => (evA R c [] v S1).bind fun ds S2 => .ok (xs ++ ds) S2
            | none => .bad).bind k) P (EW W σ) := by
          have := p
          unfold evA at this
          rw [bind_bind] at this
          exact this
        refine PySem.W.callWith_S I.ok.mod.kin hk (thn (run1 (C := fun x H1 => ∃ a xs, x = .ref a ∧ (SqT X.K H1 a xs ∨ SqL X.K H1 a xs) ∧ CallS X σ f (fv ++ xs) H1 Q) hP (g e' v S) R' s p' (fun d S1 F1 r1 H1 x R1 x1 hx s1 p1 => ?_) pins s0 I) fun u s1 ⟨y, H1, I1, ry, a, xs, ey, hx, q⟩ => ?_) starEach_star
        · cases hi : items S1 d with
          | none => rw [hi] at p1; exact p1.elim
          | some xs =>
            rw [hi] at p1
            obtain ⟨a, vs, rfl, h2, h3⟩ := hx.items R1 hi
            refine ⟨a, vs, rfl, h2.symm, ?_⟩
            have p1' : PostR (fx X sl) F1 r1 H1 (k (xs ++ []) S1) P (EW W σ) := p1
            rw [List.append_nil] at p1'
            exact h xs S1 F1 r1 H1 vs R1 x1 h3 s1 p1'
        · subst ey
          obtain rfl : u = Value.ref a := ry
          exact StX.star_any I1 hx fun us s2 I2 rv => ⟨I2.kIn, q pins s2 _ I2 (rf.append rv)⟩
      · have hn : ∀ e' pp, e1 ≠ .Starred e' pp := fun e' pp z => hs ⟨e', pp, z⟩
        have hA := runA (es := [e1]) hP (good_A g [e1] v S) R' s p h pos pins s0 I
        exact PySem.W.callWith_K I.ok.mod.kin hk (thn hA fun us s1 ⟨vs, H1, I1, rv, q⟩ => ⟨I1.kIn, q pins s1 _ I1 (rf.append rv)⟩) (starEach_cons hn) rfl
end
end DV
end

section
set_option Elab.async false
set_option linter.all false
set_option maxRecDepth 100000
set_option autoImplicit false
/-! The evaluator is right: built-in functions. -/
namespace DV
open PySem PySem.Spec PyProof.Rows L2
section
variable {X : Cx} {sl : Slo} {W : WX} {c : Ctx} {S : Sto} {F : Hp} {r : Rho} {σ : L2.St} {H : Hp} {d : D} {v : V}
theorem intsOf_ok {Y : Fx} : ∀ {xs : List D} {vs : List V} {is : List Int}, VRs Y F r xs vs → intsOf xs = some is → vs = is.map V.int ∧ xs = is.map D.int
  | [], _, _, .nil, e => by cases e; exact ⟨rfl, rfl⟩
  | x :: xs, _, is, .cons h hs, e => by
    cases x with
    | int i =>
      have e' : (intsOf xs).map (i :: ·) = some is := e
      cases q : intsOf xs with
      | none => rw [q] at e'; cases e'
      | some js =>
        rw [q] at e'; cases e'
        obtain ⟨h1, h2⟩ := intsOf_ok hs q
        cases h
        exact ⟨by rw [h1]; rfl, by rw [h2]; rfl⟩
    | _ => cases e
theorem boolsOf_ok {Y : Fx} : ∀ {xs : List D} {vs : List V} {is : List Bool}, VRs Y F r xs vs → boolsOf xs = some is → vs = is.map V.bl
  | [], _, _, .nil, e => by cases e; rfl
  | x :: xs, _, is, .cons h hs, e => by
    cases x with
    | bl i =>
      have e' : (boolsOf xs).map (i :: ·) = some is := e
      cases q : boolsOf xs with
      | none => rw [q] at e'; cases e'
      | some js =>
        rw [q] at e'; cases e'
        have h1 := boolsOf_ok hs q
        cases h
        rw [h1]; rfl
    | _ => cases e
theorem strsOf_ok {Y : Fx} : ∀ {xs : List D} {vs : List V} {is : List Str}, VRs Y F r xs vs → strsOf xs = some is → vs = is.map V.str
  | [], _, _, .nil, e => by cases e; rfl
  | x :: xs, _, is, .cons h hs, e => by
    cases x with
    | str i =>
      have e' : (strsOf xs).map (i :: ·) = some is := e
      cases q : strsOf xs with
      | none => rw [q] at e'; cases e'
      | some js =>
        rw [q] at e'; cases e'
        have h1 := strsOf_ok hs q
        cases h
        rw [h1]; rfl
    | _ => cases e
theorem ints_vr {Y : Fx} : ∀ (is : List Int), VRs Y F r (is.map D.int) (is.map V.int)
  | [] => .nil
  | i :: is => .cons (.int i) (ints_vr is)
theorem strs_vr {Y : Fx} : ∀ (is : List Str), VRs Y F r (is.map D.str) (is.map V.str)
  | [] => .nil
  | i :: is => .cons (.str i) (strs_vr is)
theorem insI_perm (i : Int) : ∀ js : List Int, (insI i js).Perm (i :: js)
  | [] => .refl _
  | j :: js => by
    unfold insI
    split
    · exact .refl _
    · exact ((insI_perm i js).cons j).trans (.swap i j js)
theorem sortI_perm : ∀ js : List Int, (sortI js).Perm js
  | [] => .refl _
  | j :: js => (insI_perm j (sortI js)).trans ((sortI_perm js).cons j)
theorem insI_sorted (i : Int) : ∀ {js : List Int}, js.Pairwise (· ≤ ·) → (insI i js).Pairwise (· ≤ ·)
  | [], _ => by simp [insI]
  | j :: js, h => by
    unfold insI
    have h' := List.pairwise_cons.mp h
    split
    · rename_i hij
      refine List.pairwise_cons.mpr ⟨fun k hk => ?_, h⟩
      rcases List.mem_cons.mp hk with rfl | hk
      · exact hij
      · exact Int.le_trans hij (h'.1 k hk)
    · rename_i hij
      refine List.pairwise_cons.mpr ⟨fun k hk => ?_, insI_sorted i h'.2⟩
      have hm := (insI_perm i js).mem_iff.mp hk
      rcases List.mem_cons.mp hm with rfl | hm
      · omega
      · exact h'.1 k hm
theorem sortI_sorted : ∀ js : List Int, (sortI js).Pairwise (· ≤ ·)
  | [] => .nil
  | j :: js => insI_sorted j (sortI_sorted js)
theorem sort_uniq {a b : List Int} (p : a.Perm b) (ha : a.Pairwise (· ≤ ·)) (hb : b.Pairwise (· ≤ ·)) : a = b :=
  p.eq_of_pairwise (le := (· ≤ ·)) (fun _ _ _ _ h1 h2 => Int.le_antisymm h1 h2) ha hb
theorem keyInts_ok : ∀ {ks : List Key} {is : List Int}, keyInts ks = some is → ks = is.map Sum.inl
  | [], _, e => by cases e; rfl
  | k :: ks, is, e => by
    cases k with
    | inl i =>
      have e' : (keyInts ks).map (i :: ·) = some is := e
      cases q : keyInts ks with
      | none => rw [q] at e'; cases e'
      | some js => rw [q] at e'; cases e'; rw [keyInts_ok q]; rfl
    | inr i => cases e
section
variable {ds : List D} {z : D} {vs : List V} {Q : VK}
theorem bLen_ok (R : Rel (fx X sl) F r S H) (hs : VRs (fx X sl) F r ds vs) (e : bLen S ds = some z) (p : Post (fx X sl) F r H z S Q) : CallS X σ (.builtin "len") vs H Q := by
  unfold bLen at e
  split at e
  · rename_i y
    split at e
    · rename_i hl
      cases e
      cases hs with
      | cons h hs => cases hs; cases h; exact callS_R call_len_str ⟨_, rfl, hl, p.now R (.int _)⟩
    · cases e
  · rename_i d _
    cases hi : items S d with
    | none => rw [hi] at e; cases e
    | some xs =>
      rw [hi] at e; cases e
      cases hs with
      | cons h hs =>
        cases hs
        obtain ⟨a, us, rfl, h2, h3⟩ := h.items R hi
        refine callS_R call_len_seq ⟨a, us, rfl, h2, ?_⟩
        rw [← h3.length]
        exact p.now R (.int _)
  · cases e
theorem bAbs_ok (R : Rel (fx X sl) F r S H) (hs : VRs (fx X sl) F r ds vs) (e : bAbs ds = some z) (p : Post (fx X sl) F r H z S Q) : CallS X σ (.builtin "abs") vs H Q := by
  unfold bAbs at e
  split at e <;> cases e
  cases hs with
  | cons h hs => cases hs; cases h; exact callS_R call_abs ⟨_, rfl, p.now R (.int _)⟩
theorem bMax_ok (cal : X.calm = true) (R : Rel (fx X sl) F r S H) (hs : VRs (fx X sl) F r ds vs) (e : bMax ds = some z) (p : Post (fx X sl) F r H z S Q) : CallS X σ (.builtin "max") vs H Q := by
  unfold bMax at e
  split at e <;> cases e
  cases hs with
  | cons h hs => cases hs with
    | cons h' hs => cases hs; cases h; cases h'; exact callS_R (call_max2 cal) ⟨_, _, rfl, p.now R (.int _)⟩
theorem bMin_ok (cal : X.calm = true) (R : Rel (fx X sl) F r S H) (hs : VRs (fx X sl) F r ds vs) (e : bMin ds = some z) (p : Post (fx X sl) F r H z S Q) : CallS X σ (.builtin "min") vs H Q := by
  unfold bMin at e
  split at e <;> cases e
  cases hs with
  | cons h hs => cases hs with
    | cons h' hs => cases hs; cases h; cases h'; exact callS_R (call_min2 cal) ⟨_, _, rfl, p.now R (.int _)⟩
theorem bInt_ok (R : Rel (fx X sl) F r S H) (hs : VRs (fx X sl) F r ds vs) (e : bInt ds = some z) (p : Post (fx X sl) F r H z S Q) : CallS X σ (.type "int") vs H Q := by
  unfold bInt at e
  split at e
  · cases e
    cases hs with
    | cons h hs => cases hs; cases h; exact callS_R call_int1 (.inl ⟨_, rfl, p.now R (.int _)⟩)
  · cases e
    cases hs with
    | cons h hs => cases hs; cases h; exact callS_R call_int1 (.inr ⟨_, rfl, p.now R (.int _)⟩)
  · rename_i y
    split at e
    · rename_i hl
      cases q : intText? y with
      | none => rw [q] at e; cases e
      | some n =>
        rw [q] at e; cases e
        cases hs with
        | cons h hs => cases hs; cases h; exact callS_R call_int_str ⟨y, n, rfl, q, hl, p.now R (.int _)⟩
    · cases e
  · cases e
theorem bStr_ok (R : Rel (fx X sl) F r S H) (hs : VRs (fx X sl) F r ds vs) (e : bStr ds = some z) (p : Post (fx X sl) F r H z S Q) : CallS X σ (.type "str") vs H Q := by
  unfold bStr at e
  split at e
  · split at e
    · rename_i hl
      cases e
      cases hs with
      | cons h hs => cases hs; cases h; exact callS_R call_str_int ⟨_, rfl, of_decide_eq_true hl, p.now R (.str _)⟩
    · cases e
  · cases e
theorem bTup_ok (R : Rel (fx X sl) F r S H) (hs : VRs (fx X sl) F r ds vs) (e : bTup S ds = some z) (p : Post (fx X sl) F r H z S Q) : CallS X σ (.type "tuple") vs H Q := by
  unfold bTup at e
  split at e
  · rename_i d
    cases hi : items S d with
    | none => rw [hi] at e; cases e
    | some xs =>
      rw [hi] at e; cases e
      cases hs with
      | cons h hs =>
        cases hs
        rcases isLst_or hi with hl | hl
        · obtain ⟨a, us, rfl, h4, h5⟩ := h.isLst R hl hi
          exact callS_R call_tuple_of ⟨a, us, rfl, .inl ⟨h4, p.tup R h5⟩⟩
        · subst hl
          obtain ⟨a, us, rfl, h4, h5⟩ := h.isTup R
          exact callS_R call_tuple_of ⟨a, us, rfl, .inr ⟨h4, p.now R h⟩⟩
  · cases e
theorem bLst_ok (R : Rel (fx X sl) F r S H) (hs : VRs (fx X sl) F r ds vs) (e : bLst S ds = some z) (p : Post (fx X sl) F r H z S Q) : CallS X σ (.type "list") vs H Q := by
  unfold bLst at e
  split at e
  · rename_i d
    cases hi : items S d with
    | none => rw [hi] at e; cases e
    | some xs =>
      rw [hi] at e; cases e
      cases hs with
      | cons h hs =>
        cases hs
        obtain ⟨a, us, rfl, h2, h3⟩ := h.items R hi
        exact callS_R call_list_of ⟨a, us, rfl, h2, p.lst R h3⟩
  · cases e
theorem lstItems_ok {w : V} {xs : List D} {d : D} (R : Rel (fx X sl) F r S H) (h : VR (fx X sl) F r d w) (e : lstItems S d = some xs) : ∃ a us, w = .ref a ∧ SqL X.K H a us ∧ VRs (fx X sl) F r xs us := by
  unfold lstItems at e
  split at e
  · cases e
  · rename_i ht
    refine h.isLst R ((isLst_or e).elim id fun z => ?_) e
    subst z; exact absurd rfl ht
theorem bAll_ok (cal : X.calm = true) (R : Rel (fx X sl) F r S H) (hs : VRs (fx X sl) F r ds vs) (e : bAll S ds = some z) (p : Post (fx X sl) F r H z S Q) : CallS X σ (.builtin "all") vs H Q := by
  unfold bAll at e
  split at e
  · rename_i d
    cases hi : lstItems S d with
    | none => rw [hi] at e; cases e
    | some xs =>
      rw [hi] at e
      dsimp only at e
      cases q : boolsOf xs with
      | none => rw [q] at e; cases e
      | some bs =>
        rw [q] at e; cases e
        cases hs with
        | cons h hs =>
          cases hs
          obtain ⟨a, us, rfl, h2, h3⟩ := lstItems_ok R h hi
          rw [boolsOf_ok h3 q] at h2
          exact callS_R (cr_all cal) ⟨a, bs, rfl, h2, p.now R (.bl _)⟩
  · cases e
theorem bAny_ok (cal : X.calm = true) (R : Rel (fx X sl) F r S H) (hs : VRs (fx X sl) F r ds vs) (e : bAny S ds = some z) (p : Post (fx X sl) F r H z S Q) : CallS X σ (.builtin "any") vs H Q := by
  unfold bAny at e
  split at e
  · rename_i d
    cases hi : lstItems S d with
    | none => rw [hi] at e; cases e
    | some xs =>
      rw [hi] at e
      dsimp only at e
      cases q : boolsOf xs with
      | none => rw [q] at e; cases e
      | some bs =>
        rw [q] at e; cases e
        cases hs with
        | cons h hs =>
          cases hs
          obtain ⟨a, us, rfl, h2, h3⟩ := lstItems_ok R h hi
          rw [boolsOf_ok h3 q] at h2
          exact callS_R (cr_any cal) ⟨a, bs, rfl, h2, p.now R (.bl _)⟩
  · cases e
theorem bSum_ok (cal : X.calm = true) (R : Rel (fx X sl) F r S H) (hs : VRs (fx X sl) F r ds vs) (e : bSum S ds = some z) (p : Post (fx X sl) F r H z S Q) : CallS X σ (.builtin "sum") vs H Q := by
  unfold bSum at e
  split at e
  · rename_i d
    cases hi : lstItems S d with
    | none => rw [hi] at e; cases e
    | some xs =>
      rw [hi] at e
      dsimp only at e
      cases q : intsOf xs with
      | none => rw [q] at e; cases e
      | some bs =>
        rw [q] at e; cases e
        cases hs with
        | cons h hs =>
          cases hs
          obtain ⟨a, us, rfl, h2, h3⟩ := lstItems_ok R h hi
          rw [(intsOf_ok h3 q).1] at h2
          exact callS_R (cr_sum cal) ⟨a, bs, rfl, h2, p.now R (.int _)⟩
  · cases e
theorem bSorted_ok (cal : X.calm = true) (R : Rel (fx X sl) F r S H) (hs : VRs (fx X sl) F r ds vs) (e : bSorted S ds = some z) (p : Post (fx X sl) F r H z S Q) : CallS X σ (.builtin "sorted") vs H Q := by
  unfold bSorted at e
  split at e
  · rename_i d
    unfold sortedV at e
    split at e
    · cases e
    · rename_i ht
      cases hs with
      | cons h hs =>
        cases hs
        split at e
        · rename_i xs hi
          cases q : intsOf xs with
          | none => rw [q] at e; cases e
          | some is =>
            rw [q] at e; cases e
            obtain ⟨a, us, rfl, h2, h3⟩ := h.isLst R ((isLst_or hi).elim id fun z => by subst z; exact absurd rfl ht) hi
            rw [(intsOf_ok h3 q).1] at h2
            refine callS_R cr_sortedI ⟨a, is, rfl, h2, fun ns' q1 hp hw hq1 => ?_⟩
            have en : ns' = sortI is := sort_uniq (hp.trans (sortI_perm is).symm) hw (sortI_sorted is)
            subst en
            exact p.lst R (ints_vr _) q1 hq1
        · split at e
          · rename_i ks xs hd
            split at e
            · rename_i h64
              cases q : keyInts ks with
              | none => rw [q] at e; cases e
              | some is =>
                rw [q] at e; cases e
                obtain ⟨a, rfl, kvs, k1, k2, k3⟩ := dictD_ok R h hd
                have ek := keyInts_ok q
                refine callS_R (call_sortedDI cal) ⟨a, kvs, is, rfl, .inl k3, by rw [k1, ek], by rw [ek] at h64; simpa using h64, fun ns' q1 hp hw hq1 => ?_⟩
                have en : ns' = sortI is := sort_uniq (hp.trans (sortI_perm is).symm) hw (sortI_sorted is)
                subst en
                exact p.lst R (ints_vr _) q1 hq1
            · cases e
          · cases e
  · cases e
theorem bDivmod_ok (R : Rel (fx X sl) F r S H) (hs : VRs (fx X sl) F r ds vs) (e : bDivmod ds = some z) (p : Post (fx X sl) F r H z S Q) : CallS X σ (.builtin "divmod") vs H Q := by
  unfold bDivmod at e
  split at e
  · split at e
    · rename_i hj
      cases e
      cases hs with
      | cons h hs => cases hs with
        | cons h' hs =>
          cases hs; cases h; cases h'
          exact callS_R call_divmod ⟨_, _, rfl, hj, p.tup R (.cons (.int _) (.cons (.int _) .nil))⟩
    · cases e
  · cases e
theorem call_repr_seq (hg : X.A.guards = some []) (hu : X.A.units + 65 < cLine) : CallR X (.builtin "repr") (fun xs H Q => ∃ (a : Addr) (d : PyData), xs = [.ref a] ∧ Dp X.K H (.ref a) d ∧ d.showable = true ∧ d.hasDict = false ∧ d.shown.length ≤ sizeLine ∧ d.depth ≤ 60 ∧ Q (.str d.shown) H) := by
  intro pins s σ H xs us Q I rs h
  obtain ⟨a, d, rfl, hD, h1, h2, h3, h4, q⟩ := h
  cases rs with
  | cons r1 rs =>
    cases rs
    obtain ⟨as, hr⟩ := hD.reads I d _ _ r1
    cases r1
    exact PySem.repr_of_reads' hr h1 (by rw [h2]; intro z; cases z) hg (by omega) (fun _ _ e => e) (fun h' u tk hk => ⟨.str d.shown, H, I.kept hk, ⟨_, rfl⟩, q⟩) h3
theorem seq_ref {Y : Fx} {d : D} {w : V} (h : VR Y F r d w) (hs : isSeq d = true) : ∃ a, w = V.ref a := by
  cases d <;> first | (cases hs; done) | skip
  · cases h; exact ⟨_, rfl⟩
  · cases h; exact ⟨_, rfl⟩
theorem bRepr_ok (hg : X.A.guards = some []) (hu : X.A.units + 65 < cLine) (R : Rel (fx X sl) F r S H) (hs : VRs (fx X sl) F r ds vs) (e : bRepr ds = some z) (p : Post (fx X sl) F r H z S Q) : CallS X σ (.builtin "repr") vs H Q := by
  unfold bRepr at e
  split at e
  · rename_i d
    unfold reprV at e
    cases hs with
    | cons h hs =>
      cases hs
      split at e
      · split at e
        · rename_i hl
          cases e
          cases h
          exact callS_R SkE.call_repr_int ⟨_, rfl, of_decide_eq_true hl, p.now R (.str _)⟩
        · cases e
      · rename_i d _
        split at e
        · rename_i hsq
          split at e
          · rename_i pd ht
            split at e
            · rename_i hc
              cases e
              rw [Bool.and_eq_true, Bool.and_eq_true, Bool.and_eq_true, Bool.not_eq_true'] at hc
              obtain ⟨c1, c2, c3, c4⟩ := hc
              have hD := toPy_ok R.sub h ht
              obtain ⟨a, rfl⟩ := seq_ref h hsq
              exact callS_R (call_repr_seq hg hu) ⟨a, pd, rfl, hD, c1, c2, of_decide_eq_true c3, of_decide_eq_true c4, p.now R (.str _)⟩
            · cases e
          · cases e
        · cases e
  · cases e
/-- what a built-in function is -/
def BtR (f : Value) : Prop := (∃ id, f = .builtin id) ∨ ∃ T, f = .type T
theorem callB_ok {x : Str} (cal : X.calm = true) (gd : X.A.guards = some []) (hu : X.A.units + 65 < cLine) (R : Rel (fx X sl) F r S H) (hs : VRs (fx X sl) F r ds vs) (e : callB x S ds = some z) :
    ∃ f, bootBuiltins x = some f ∧ BtR f ∧ ∀ (Q : VK) (σ : L2.St), Post (fx X sl) F r H z S Q → CallS X σ f vs H Q := by
  unfold callB at e
  by_cases hx : x = "len"
  · rw [if_pos hx] at e; subst hx; exact ⟨_, boot_len, .inl ⟨_, rfl⟩, fun Q σ p => bLen_ok R hs e p⟩
  rw [if_neg hx] at e; clear hx
  by_cases hx : x = "abs"
  · rw [if_pos hx] at e; subst hx; exact ⟨_, boot_abs, .inl ⟨_, rfl⟩, fun Q σ p => bAbs_ok R hs e p⟩
  rw [if_neg hx] at e; clear hx
  by_cases hx : x = "max"
  · rw [if_pos hx] at e; subst hx; exact ⟨_, boot_max, .inl ⟨_, rfl⟩, fun Q σ p => bMax_ok cal R hs e p⟩
  rw [if_neg hx] at e; clear hx
  by_cases hx : x = "min"
  · rw [if_pos hx] at e; subst hx; exact ⟨_, boot_min, .inl ⟨_, rfl⟩, fun Q σ p => bMin_ok cal R hs e p⟩
  rw [if_neg hx] at e; clear hx
  by_cases hx : x = "int"
  · rw [if_pos hx] at e; subst hx; exact ⟨_, PyProof.Rows.boot_int, .inr ⟨_, rfl⟩, fun Q σ p => bInt_ok R hs e p⟩
  rw [if_neg hx] at e; clear hx
  by_cases hx : x = "str"
  · rw [if_pos hx] at e; subst hx; exact ⟨_, PyProof.Rows.boot_str, .inr ⟨_, rfl⟩, fun Q σ p => bStr_ok R hs e p⟩
  rw [if_neg hx] at e; clear hx
  by_cases hx : x = "tuple"
  · rw [if_pos hx] at e; subst hx; exact ⟨_, PyProof.Rows.boot_tuple, .inr ⟨_, rfl⟩, fun Q σ p => bTup_ok R hs e p⟩
  rw [if_neg hx] at e; clear hx
  by_cases hx : x = "list"
  · rw [if_pos hx] at e; subst hx; exact ⟨_, PyProof.Rows.boot_list, .inr ⟨_, rfl⟩, fun Q σ p => bLst_ok R hs e p⟩
  rw [if_neg hx] at e; clear hx
  by_cases hx : x = "all"
  · rw [if_pos hx] at e; subst hx; exact ⟨_, boot_all, .inl ⟨_, rfl⟩, fun Q σ p => bAll_ok cal R hs e p⟩
  rw [if_neg hx] at e; clear hx
  by_cases hx : x = "any"
  · rw [if_pos hx] at e; subst hx; exact ⟨_, boot_any, .inl ⟨_, rfl⟩, fun Q σ p => bAny_ok cal R hs e p⟩
  rw [if_neg hx] at e; clear hx
  by_cases hx : x = "sum"
  · rw [if_pos hx] at e; subst hx; exact ⟨_, boot_sum, .inl ⟨_, rfl⟩, fun Q σ p => bSum_ok cal R hs e p⟩
  rw [if_neg hx] at e; clear hx
  by_cases hx : x = "sorted"
  · rw [if_pos hx] at e; subst hx; exact ⟨_, boot_sorted, .inl ⟨_, rfl⟩, fun Q σ p => bSorted_ok cal R hs e p⟩
  rw [if_neg hx] at e; clear hx
  by_cases hx : x = "repr"
  · rw [if_pos hx] at e; subst hx; exact ⟨_, boot_repr, .inl ⟨_, rfl⟩, fun Q σ p => bRepr_ok gd hu R hs e p⟩
  rw [if_neg hx] at e; clear hx
  by_cases hx : x = "divmod"
  · rw [if_pos hx] at e; subst hx; exact ⟨_, boot_divmod, .inl ⟨_, rfl⟩, fun Q σ p => bDivmod_ok R hs e p⟩
  rw [if_neg hx] at e
  cases e
end
/-! ### isinstance -/
theorem tyOfD_ok {t : String} {w : V} (R : Rel (fx X sl) F r S H) (h : VR (fx X sl) F r d w) (e : tyOfD S d = some t) : TyX X.K H w (.type t) := by
  have lst : ∀ {a : Addr} {us : List V}, SqL X.K H a us → TyX X.K H (.ref a) (.type "list") := fun q => by
    rcases q with (q | ⟨o, q⟩) | ⟨o, its, n, q1, q2, q3⟩
    · exact .base (.lst q)
    · exact .base (.frz q)
    · exact .kList q1 q2
  have tup : ∀ {a : Addr} {us : List V}, SqT X.K H a us → TyX X.K H (.ref a) (.type "tuple") := fun q => by
    rcases q with (q | ⟨o, q⟩) | ⟨o, its, n, q1, q2, q3⟩
    · exact .base (.tup q)
    · exact .fTuple q
    · exact .kTuple q1 q2
  cases d with
  | non => cases e; cases h; exact .base .non
  | bl b => cases e; cases h; exact .base (.bl b)
  | int i => cases e; cases h; exact .base (.int i)
  | str x => cases e; cases h; exact .base (.str x)
  | tup xs => cases e; obtain ⟨a, vs, rfl, h1, _⟩ := h.isTup R; exact tup h1
  | lst xs => cases e; obtain ⟨a, vs, rfl, h1, _⟩ := h.isLst R rfl rfl; exact lst h1
  | scr xs => cases e; obtain ⟨a, vs, rfl, h1, _⟩ := h.isLst R rfl rfl; exact lst h1
  | dict ks xs =>
    cases e
    obtain ⟨a, rfl, kvs, k1, k2, k3⟩ := dictD_ok R h rfl
    exact .base (.dK k3)
  | ref n =>
    have e' : (match S[n]? with | some (Ob.lst _) => some "list" | some (Ob.dict _ _) => some "dict" | _ => none) = some t := e
    cases q : S[n]? with
    | none => rw [q] at e'; cases e'
    | some o =>
      rw [q] at e'
      obtain ⟨a, ha⟩ := R.live n o q (by intro z; subst z; cases e')
      obtain ⟨o', h1, h2⟩ := R.ob n a ha
      rw [q] at h1; cases h1
      cases h with
      | ref hn hv =>
        have ev := hv a ha
        subst ev
        cases o with
        | lst xs => cases e'; obtain ⟨vs, h3, _⟩ := h2; exact .base (.lst h3)
        | dict ks xs => cases e'; obtain ⟨kvs, h3, _⟩ := h2; exact .base (.dK h3)
        | dead => cases e'
        | ins => cases e'
  | _ => cases e
theorem kit_base {T : String} (hT : T ∈ ["NoneType", "bool", "int", "str", "tuple", "list", "dict"]) : kitB T "int" = some (decide (T = "int") || decide (T = "bool")) ∧ kitB T "bool" = some (decide (T = "bool")) ∧ kitB T "str" = some (decide (T = "str")) ∧ kitB T "tuple" = some (decide (T = "tuple")) ∧ kitB T "list" = some (decide (T = "list")) ∧ kitB T "dict" = some (decide (T = "dict")) := by
  simp only [List.mem_cons, List.mem_nil_iff, or_false] at hT
  rcases hT with rfl | rfl | rfl | rfl | rfl | rfl | rfl <;> decide +kernel
theorem tyOfD_mem {t : String} (e : tyOfD S d = some t) : t ∈ ["NoneType", "bool", "int", "str", "tuple", "list", "dict"] := by
  cases d with
  | ref n =>
    have e' : (match S[n]? with | some (Ob.lst _) => some "list" | some (Ob.dict _ _) => some "dict" | _ => none) = some t := e
    split at e' <;> cases e' <;> simp
  | _ => cases e <;> simp
/-- isinstance(d, T): T's type object, the answer -/
theorem isInst_ok {T : Str} {w : V} {b : Bool} (R : Rel (fx X sl) F r S H) (h : VR (fx X sl) F r d w) (e : isInst S T d = some b) : ∃ T' : String, bootBuiltins T = some (.type T') ∧ rIsi X.K [w, .ty T'] H = rIsi X.K [w, .ty T'] H ∧ ∀ Q : VK, Q (.bl b) H → rIsi X.K [w, .ty T'] H Q := by
  unfold isInst at e
  cases q : tyOfD S d with
  | none => rw [q] at e; cases e
  | some t =>
    rw [q] at e
    dsimp only at e
    have ty := tyOfD_ok R h q
    obtain ⟨k1, k2, k3, k4, k5, k6⟩ := kit_base (tyOfD_mem q)
    by_cases hx : T = "int"
    · rw [if_pos hx] at e; subst hx; cases e; exact ⟨"int", PyProof.Rows.boot_int, rfl, fun Q p => ⟨_, _, _, _, _, rfl, .ty _, ty, kit_ty k1, p⟩⟩
    rw [if_neg hx] at e; clear hx
    by_cases hx : T = "bool"
    · rw [if_pos hx] at e; subst hx; cases e; exact ⟨"bool", PyProof.Rows.boot_bool, rfl, fun Q p => ⟨_, _, _, _, _, rfl, .ty _, ty, kit_ty k2, p⟩⟩
    rw [if_neg hx] at e; clear hx
    by_cases hx : T = "str"
    · rw [if_pos hx] at e; subst hx; cases e; exact ⟨"str", PyProof.Rows.boot_str, rfl, fun Q p => ⟨_, _, _, _, _, rfl, .ty _, ty, kit_ty k3, p⟩⟩
    rw [if_neg hx] at e; clear hx
    by_cases hx : T = "tuple"
    · rw [if_pos hx] at e; subst hx; cases e; exact ⟨"tuple", PyProof.Rows.boot_tuple, rfl, fun Q p => ⟨_, _, _, _, _, rfl, .ty _, ty, kit_ty k4, p⟩⟩
    rw [if_neg hx] at e; clear hx
    by_cases hx : T = "list"
    · rw [if_pos hx] at e; subst hx; cases e; exact ⟨"list", PyProof.Rows.boot_list, rfl, fun Q p => ⟨_, _, _, _, _, rfl, .ty _, ty, kit_ty k5, p⟩⟩
    rw [if_neg hx] at e; clear hx
    by_cases hx : T = "dict"
    · rw [if_pos hx] at e; subst hx; cases e; exact ⟨"dict", PyProof.Rows.boot_dict, rfl, fun Q p => ⟨_, _, _, _, _, rfl, .ty _, ty, kit_ty k6, p⟩⟩
    rw [if_neg hx] at e
    cases e
end
end DV
end

section
set_option Elab.async false
set_option linter.all false
set_option maxRecDepth 100000
set_option autoImplicit false
/-! The evaluator is right: calls. -/
namespace DV
open PySem PySem.Spec PyProof.Rows L2
section
variable {X : Cx} {sl : Slo} {W : WX} {c : Ctx} {e a b o i tg iter elt kx vx : Expr} {args : List Expr} {v : Slots} {S : Sto} {F : Hp} {r : Rho} {σ : L2.St} {H : Hp} {R : Rec} {pos p2 apos : Pos} {ds : List D} {vs : List V} {Q : VK}
/-- a def is called with these -/
theorem runF_ok {f : FnI} {g : Addr} (xd : XD X sl W c) (hl : f.lev ≤ c.G.lev) (fg : FnG X sl f g) (R' : Rel (fx X sl) F r S H) (hs : VRs (fx X sl) F r ds vs) (p : PostF (fx X sl) F r H (runF f ds S) Q (EW W σ)) : CallS X σ (.ref g) vs H Q := by
  unfold runF at p
  dsimp only at p
  split at p
  · rename_i hlen
    obtain ⟨dvs, hd, Fn⟩ := fg.pos (f.dfl.length - (f.ps.length - ds.length)) (Nat.sub_le _ _)
    refine callS_fn Fn (xd.room.mono hl) xd.gd xd.tk ?_
    have q := runP_ok (as := fill f ds) (vs := vs ++ dvs) R' (hs.append (hd F r)) p
    rw [hlen] at q
    exact q
  · exact p.elim
theorem fnOk_lev {G : Gen} {x : Str} {f : FnI} (e : fnOk G x = some f) : f.lev ≤ G.lev := by
  unfold fnOk at e
  cases q : G.fns x with
  | none => rw [q] at e; cases e
  | some f' =>
    rw [q] at e
    dsimp only at e
    split at e
    · rename_i hb
      cases e
      rw [Bool.and_eq_true] at hb
      exact of_decide_eq_true hb.2
    · cases e
theorem meOk_lev {G : Gen} {x m : Str} {f : FnI} (e : meOk G x m = some f) : f.lev ≤ G.lev := by
  unfold meOk at e
  cases q : G.fns (x ++ "." ++ m) with
  | none => rw [q] at e; cases e
  | some f' =>
    rw [q] at e
    dsimp only at e
    split at e
    · rename_i hb
      cases e
      rw [Bool.and_eq_true] at hb
      exact of_decide_eq_true hb.2
    · cases e
theorem mkOk_lev {G : Gen} {x : Str} {p : ClI × FnI} (e : mkOk G x = some p) : p.2.lev + 1 ≤ G.lev ∧ G.cls x = some p.1 := by
  unfold mkOk at e
  cases q1 : G.cls x with
  | none => rw [q1] at e; cases e
  | some ci =>
    cases q : G.fns (x ++ ".__init__") with
    | none => rw [q1, q] at e; cases e
    | some f' =>
      rw [q1, q] at e
      dsimp only at e
      split at e
      · rename_i hb
        cases e
        rw [Bool.and_eq_true] at hb
        exact ⟨of_decide_eq_true hb.2, rfl⟩
      · cases e
theorem callWith_nk {f : Value} {first : List Value} {env : Env} {l : List (Bool × Sem Value)} : callWith pos f first l (backToKw pos (keywordEach [] env)) = callWith pos f first l [] := rfl
theorem good_callF {x : Str} {pp : Pos} (xd : XD X sl W c) (g : ∀ e v S, GoodE X sl W e v S (R.E c e v S)) (hg : isGl c x = true) :
    GoodE X sl W (.Call (.Name x pp) args [] pos) v S ((fnOk c.G x).elim .bad fun f => (evA R c args v S).bind fun ds S1 => runF f ds S1) := by
  intro F r σ H R' s Q p pins s0 I
  obtain ⟨h1, h2, h3⟩ := isGl_of xd hg
  cases ef : fnOk c.G x with
  | none => rw [ef] at p; exact p.elim
  | some f =>
    rw [ef] at p
    obtain ⟨ga, e1, e2, e3, fg⟩ := xd.gen.fn x f ef
    refine wpAny_Call_Name_kw (ld_glob I h1 e2 ?_ h2)
    rw [callWith_nk]
    exact run_cw (fv := []) pd_step g e3 .nil args R' s p (fun ds S1 F1 r1 H1 vs R1 x1 hs s1 p1 => runF_ok xd (fnOk_lev ef) fg R1 hs p1) pins s0 I
theorem good_callSub {p3 : Pos} (xd : XD X sl W c) (g : ∀ e v S, GoodE X sl W e v S (R.E c e v S)) :
    GoodE X sl W (.Call (.Subscript o i p3) args [] pos) v S ((R.E c (.Subscript o i p3) v S).bind fun fd S1 => (match fd with
    | .fn x => (fnOk c.G x).elim .bad fun f => (evA R c args v S1).bind fun ds S2 => runF f ds S2
    | _ => .bad)) := by
  intro F r σ H R' s Q p pins s0 I
  refine Call_ (thn (run1 (C := fun x H1 => ∃ ga, x = .ref ga ∧ PySem.W.keepIn X.K (.ref ga) = true ∧ ∃ F1 r1 S1 f, Rel (fx X sl) F1 r1 S1 H1 ∧ SR (fx X sl) F1 r1 v σ ∧ f.lev ≤ c.G.lev ∧ FnG X sl f ga ∧ PostF (fx X sl) F1 r1 H1 ((evA R c args v S1).bind fun ds S2 => runF f ds S2) Q (EW W σ)) pd_step (g (.Subscript o i p3) v S) R' s p (fun fd S1 F1 r1 H1 x R1 x1 hx s1 p1 => ?_) pins s0 I) fun u s1 ⟨x, H1, I1, rx, ga, ex, hk, F1, r1, S1, f, R1, sr1, hl, fg, p1⟩ => ?_) rfl
  · split at p1
    · rename_i x
      cases hx with
      | fn hx hk =>
        rename_i a
        cases ef : fnOk c.G x with
        | none => rw [ef] at p1; exact p1.elim
        | some f =>
          rw [ef] at p1
          obtain ⟨ga, e1, e2, e3, fg⟩ := xd.gen.fn x f ef
          have ea : a = ga := by rw [hk, e1]
          subst ea
          exact ⟨_, rfl, e3, F1, r1, S1, f, R1, s1, fnOk_lev ef, fg, p1⟩
    · exact p1.elim
  · subst ex
    obtain rfl : u = Value.ref ga := rx
    exact run_cw (fv := []) pd_step g hk .nil args R1 sr1 p1 (fun ds S2 F2 r2 H2 vs R2 x2 hs s2 p2 => runF_ok xd hl fg R2 hs p2) pins s1 I1
/-- C(..) -/
theorem makeR_ok {x : Str} {ci : ClI} {f : FnI} {g : Addr} (xd : XD X sl W c) (hl : f.lev + 1 ≤ c.G.lev) (hc : c.G.cls x = some ci) (M : Mk X.K (He.ga X.K x) g) (fg : FnG X sl f g) (R' : Rel (fx X sl) F r S H) (hs : VRs (fx X sl) F r ds vs) (p : PostF (fx X sl) F r H (makeR x ci f ds S) Q (EW W σ)) : CallS X σ (.ref (He.ga X.K x)) vs H Q := by
  unfold makeR at p
  split at p
  · rename_i hlen
    obtain ⟨dvs, hd, Fn⟩ := fg.pos (f.dfl.length - (f.ps.length - (D.non :: ds).length)) (Nat.sub_le _ _)
    have efill : (fill f (D.non :: ds)).drop 1 = ds ++ f.dfl.drop (f.dfl.length - (f.ps.length - (D.non :: ds).length)) := rfl
    refine callS_make M Fn (xd.room.mono hl) xd.gd xd.tk fun q dx hq hdx hne => ?_
    have hF0 : F dx = none := R'.fresh hdx
    have R1 : Rel (fx X sl) F r S (upd H dx (.own q)) := R'.tmp hF0 (R'.notin hdx) (by rw [hdx]; intro z; cases z) _
    have x1 : Ext F r H F r (upd H dx (.own q)) := (Ext.refl F r H).tmp hdx _
    have hq1 : upd H dx (.own q) q = none := by rw [upd_ne (Ne.symm hne)]; exact hq
    have new : ∀ r' : Rho, OR (fx X sl) F r' (upd (upd H dx (.own q)) q (.ins (He.ga X.K x) dx [])) q (.ins x [] []) := fun r' => by
      obtain ⟨_, k3, k4, _⟩ := xd.gen.cls x ci hc
      cases hsl : ci.slots with
      | false =>
        obtain ⟨q1, _⟩ := k3 hsl
        exact .inl ⟨q1, _, dx, [], upd_same, rfl, rfl, .nil⟩
      | true =>
        obtain ⟨q1, _⟩ := k4 hsl
        exact .inr ⟨_, _, dx, [], q1, rfl, .inl ⟨upd_same, rfl⟩, rfl, .nil⟩
    split at p
    · rename_i hp
      rw [Bool.and_eq_true] at hp
      obtain ⟨R2, x2⟩ := (R1.nil).laidS hq1 (.ins (He.ga X.K x) dx []) (.ins x [] []) (by intro z; cases z) (new _)
      have x1n : Ext F [] H F [] (upd H dx (.own q)) := (Ext.refl F [] H).tmp hdx _
      refine ⟨F, [some q], [.ins x [] []], .ref 0 :: (ds ++ f.dfl.drop (f.dfl.length - (f.ps.length - (D.non :: ds).length))), R2, .cons (.ref (by simp) fun a e => by simp at e; rw [e]) ((hs.clo hp.2).append (hd _ _)), hlen, ?_⟩
      rw [efill] at p
      have x12 := x1n.trans x2
      split at p
      · rename_i S' e
        rw [e]
        split at p
        · rename_i d' e2
          intro F3 r3 H3 w R3 x3 hw
          cases hw
          refine ⟨rfl, ?_⟩
          obtain ⟨R4, x4⟩ := clos_back R' R3 (x12.trans x3)
          refine p _ _ _ _ R4 x4 (fz_ok R3 8 (v := .ref q) (.ref (Nat.lt_of_lt_of_le (by simp) x3.rx.len) fun a e => ?_) e2 r)
          rcases x3.rx.old 0 (by simp) with z | z
          · rw [z] at e; simp at e; rw [e]
          · rw [z] at e; cases e
        · exact p.elim
      · rename_i cc ns xs S' e
        rw [e]
        split at p
        · rename_i hcl
          intro F3 r3 H3 R3 x3
          obtain ⟨R4, x4⟩ := clos_back R' R3 (x12.trans x3)
          obtain ⟨k1, k2⟩ := p _ _ _ R4 x4
          exact ⟨k1, fun hn a fs e1 e2 h => k2 hn a fs e1 e2 ((h.mono (clos_sub R3) (.refl _)).clo hcl)⟩
        · exact p.elim
      · exact p.elim
    · obtain ⟨R2, x2⟩ := R1.laidS hq1 (.ins (He.ga X.K x) dx []) (.ins x [] []) (by intro z; cases z) (new _)
      have x12 := x1.trans x2
      refine ⟨F, r ++ [some q], S ++ [.ins x [] []], .ref S.length :: (ds ++ f.dfl.drop (f.dfl.length - (f.ps.length - (D.non :: ds).length))), R2, .cons (.ref (by simp [R'.len]) fun a e => ?_) ((x12.monos hs).append (hd _ _)), hlen, ?_⟩
      · rw [← R'.len] at e
        simp at e
        rw [e]
      rw [efill] at p
      split at p
      · rename_i S' e
        rw [e]
        intro F3 r3 H3 w R3 x3 hw
        cases hw
        refine ⟨rfl, p F3 r3 H3 _ R3 (x12.trans x3) (.ref (Nat.lt_of_lt_of_le (by simp [R'.len]) x3.rx.len) fun a e => ?_)⟩
        rcases x3.rx.old S.length (by simp [R'.len]) with z | z
        · rw [z, ← R'.len] at e; simp at e; rw [e]
        · rw [z] at e; cases e
      · rename_i cc ns xs S' e
        rw [e]
        exact fun F3 r3 H3 R3 x3 => p F3 r3 H3 R3 (x12.trans x3)
      · exact p.elim
  · exact p.elim
theorem good_make {x : Str} {pp : Pos} (xd : XD X sl W c) (g : ∀ e v S, GoodE X sl W e v S (R.E c e v S)) (hg : isGl c x = true) :
    GoodE X sl W (.Call (.Name x pp) args [] pos) v S ((mkOk c.G x).elim .bad fun p => (evA R c args v S).bind fun ds S1 => makeR x p.1 p.2 ds S1) := by
  intro F r σ H R' s Q p pins s0 I
  obtain ⟨h1, h2, h3⟩ := isGl_of xd hg
  cases ef : mkOk c.G x with
  | none => rw [ef] at p; exact p.elim
  | some f =>
    rw [ef] at p
    obtain ⟨hl, hc⟩ := mkOk_lev ef
    obtain ⟨ga, M, fg⟩ := xd.gen.make x f ef
    obtain ⟨k1, _⟩ := xd.gen.cls x f.1 hc
    refine wpAny_Call_Name_kw (ld_glob I h1 k1 ?_ h2)
    rw [callWith_nk]
    exact run_cw (fv := []) pd_step g M.kp .nil args R' s p (fun ds S1 F1 r1 H1 vs R1 x1 hs s1 p1 => makeR_ok xd hl hc M fg R1 hs p1) pins s0 I
/-- a built-in is called -/
theorem run_cwB {A : Type} {P : Want A} {k : List D → Sto → Res A} {f : Value} {fv : List V} {first : List Value} (hf : (∃ id, f = .builtin id) ∨ ∃ T, f = .type T) (hP : StepC P) (g : ∀ e v S, GoodE X sl W e v S (R.E c e v S)) (rf : Vals fv first) (args : List Expr) (hn : noStar args = true) (R' : Rel (fx X sl) F r S H) (s : SR (fx X sl) F r v σ)
    (p : PostR (fx X sl) F r H ((evA R c args v S).bind k) P (EW W σ))
    (h : ∀ ds S1 F1 r1 H1 vs, Rel (fx X sl) F1 r1 S1 H1 → Ext F r H F1 r1 H1 → VRs (fx X sl) F1 r1 ds vs → SR (fx X sl) F1 r1 v σ → PostR (fx X sl) F1 r1 H1 (k ds S1) P (EW W σ) → CallS X σ f (fv ++ vs) H1 Q)
    (pins : List (Addr × Obj)) (s0 : Shared) (I : Inv X pins σ H s0) : wpAny (model X.prog X.w) X.A (callWith pos f first (backTo pos (starEach args X.env)) []) (EP X pins σ Q) X.xe s0 := by
  have hE : wpAny (model X.prog X.w) X.A (evalArgs f true (backTo pos (starEach args X.env)) []) (fun a s₁ => wpAny (model X.prog X.w) X.A (call f (first ++ a.pos) a.kw) (EP X pins σ Q) X.xe s₁) X.xe s0 := by
    cases args with
    | nil =>
      refine PySem.evalArgs_none ?_
      exact (h [] S F r H [] R' (.refl ..) .nil s p) pins s0 _ I (rf.append .nil)
    | cons e1 es =>
      have hA := runA (es := e1 :: es) hP (good_A g (e1 :: es) v S) R' s p h pos pins s0 I
      rw [starEach_cons (noStar_ne hn).1] at hA ⊢
      exact Calls.evalArgs_plain (thn hA fun us s1 ⟨vs, H1, I1, rv, q⟩ => q pins s1 _ I1 (rf.append rv))
  rcases hf with ⟨id, rfl⟩ | ⟨T, rfl⟩
  · exact Calls.callWith_builtin (noStar_starEach hn) hE
  · exact PySem.callWith_type (noStar_starEach hn) hE
theorem isBn_ok {x : Str} (h : isBn x = true) : ∃ f, bootBuiltins x = some f ∧ BtR f := by
  unfold isBn at h
  simp only [Bool.or_eq_true, decide_eq_true_eq] at h
  rcases h with rfl | rfl | rfl | rfl | rfl | rfl | rfl | rfl | rfl | rfl | rfl | rfl | rfl | rfl
  · exact ⟨_, boot_len, .inl ⟨_, rfl⟩⟩
  · exact ⟨_, boot_abs, .inl ⟨_, rfl⟩⟩
  · exact ⟨_, boot_max, .inl ⟨_, rfl⟩⟩
  · exact ⟨_, boot_min, .inl ⟨_, rfl⟩⟩
  · exact ⟨_, PyProof.Rows.boot_int, .inr ⟨_, rfl⟩⟩
  · exact ⟨_, PyProof.Rows.boot_str, .inr ⟨_, rfl⟩⟩
  · exact ⟨_, PyProof.Rows.boot_tuple, .inr ⟨_, rfl⟩⟩
  · exact ⟨_, PyProof.Rows.boot_list, .inr ⟨_, rfl⟩⟩
  · exact ⟨_, boot_all, .inl ⟨_, rfl⟩⟩
  · exact ⟨_, boot_any, .inl ⟨_, rfl⟩⟩
  · exact ⟨_, boot_sum, .inl ⟨_, rfl⟩⟩
  · exact ⟨_, boot_sorted, .inl ⟨_, rfl⟩⟩
  · exact ⟨_, boot_repr, .inl ⟨_, rfl⟩⟩
  · exact ⟨_, boot_divmod, .inl ⟨_, rfl⟩⟩
theorem good_callB {x : Str} {pp : Pos} (xd : XD X sl W c) (g : ∀ e v S, GoodE X sl W e v S (R.E c e v S)) (hg : isBl c x = true) (hb : isBn x = true) (hn : noStar args = true) :
    GoodE X sl W (.Call (.Name x pp) args [] pos) v S ((evA R c args v S).bind fun ds S1 => Res.opt S1 (callB x S1 ds)) := by
  intro F r σ H R' s Q p pins s0 I
  obtain ⟨h1, h2, h3, h4⟩ := isBl_of xd hg
  obtain ⟨f, hf, bt⟩ := isBn_ok hb
  refine wpAny_Call_Name_kw (ld_blt I h1 h2 hf ?_ h4 h3)
  rw [callWith_nk]
  refine run_cwB bt (fv := []) pd_step g .nil args hn R' s p (fun ds S1 F1 r1 H1 vs R1 x1 hs s1 p1 => ?_) pins s0 I
  cases e : callB x S1 ds with
  | none => rw [e] at p1; exact p1.elim
  | some z =>
    rw [e] at p1
    obtain ⟨f', hf', _, k⟩ := callB_ok xd.calm xd.gd (hu65 xd) R1 hs e
    rw [hf] at hf'
    cases hf'
    exact k Q σ p1
end
end DV
end

section
set_option Elab.async false
set_option linter.all false
set_option maxRecDepth 100000
set_option autoImplicit false
/-! The evaluator is right: methods. -/
namespace DV
open PySem PySem.Spec PyProof.Rows L2
section
variable {X : Cx} {sl : Slo} {W : WX} {c : Ctx} {e a b o i tg iter elt kx vx : Expr} {args : List Expr} {v : Slots} {S : Sto} {F : Hp} {r : Rho} {σ : L2.St} {H : Hp} {R : Rec} {pos p2 apos : Pos} {ds : List D} {vs : List V} {Q : VK} {m : Str}
theorem call_form {env : Env} (hb : okBase o = true) (hl : oneLine apos pos = true) (hn : noStar args = true) (h30 : args.length < 30) :
    eval (.Call (.Attribute o m apos) args [] pos) env = (do
      let ov ← eval o env
      standAt apos.atName
      let (f, first) ← holding [ov] (getMethod ov m (do return (← importBound o env).getD true))
      callWith pos f first (backTo pos (starEach args env)) (backToKw pos (keywordEach [] env))) := by
  rw [arm_eval_Call, base_of hb]
  have hform : methodCallForm (args.length + ([] : List Keyword).length) (backTo pos (starEach args env)) (backToKw pos (keywordEach [] env)) = true := by
    have h1 := noStar_starEach (env := env) (pos := pos) hn
    have h2 : (backTo pos (starEach args env)).all (fun x => !x.1) = true := by
      rw [List.all_eq_true]
      intro x hx
      rw [List.any_eq_false] at h1
      simpa using h1 x hx
    unfold methodCallForm
    rw [h2]
    show (true && true && decide (args.length + 0 + 0 < 30)) = true
    simpa using h30
  have hpos : methodCallPos true o env apos pos = pure pos := by
    unfold methodCallPos
    have hl' : (apos.endLine == pos.line) = true := hl
    rw [hl']; rfl
  unfold methodCall
  simp only [hform, hpos, pure_bind]
  rfl
/-- the receiver's method is found -/
def Meths (X : Cx) (σ : L2.St) (m : Str) (x : V) (H : Hp) (k : Value → List V → Prop) : Prop := ∀ (pins : List (Addr × Obj)) (s : Shared) (u : Value) (pl : Sem Bool) (Q : Value × List Value → Shared → Prop), Inv X pins σ H s → RelV x u →
  (∀ f first fv, Vals fv first → k f fv → Q (f, first) s) → wpAny (model X.prog X.w) X.A (getMethod u m pl) Q X.xe s
theorem good_meth0 (hb : okBase o = true) (hl : oneLine apos pos = true) (hn : noStar args = true) (h30 : args.length < 30)
    (h : semE X o σ H fun x H1 => ∃ k : Value → List V → Prop, Meths X σ m x H1 k ∧ ∀ f first fv, Vals fv first → k f fv → ∀ (pins : List (Addr × Obj)) (s0 : Shared), Inv X pins σ H1 s0 → wpAny (model X.prog X.w) X.A (callWith pos f first (backTo pos (starEach args X.env)) []) (EP X pins σ Q) X.xe s0) :
    semE X (.Call (.Attribute o m apos) args [] pos) σ H Q := fun pins s I => by
  refine PySem.W.methodCall_KW (thn (h pins s I) fun u s1 ⟨x, H1, I1, rx, k, hm, q⟩ => ?_) (call_form hb hl hn h30)
  exact hm pins s1 u _ _ I1 rx fun f first fv rv hk => q f first fv rv hk pins s1 I1
/-- a method of the program's -/
theorem meths_ins {cl : Str} {ns : List Str} {xs : List D} {a ga : Addr} {ci : ClI} (xd : XD X sl W c) (ho : OR (fx X sl) F r H a (.ins cl ns xs)) (hc : c.G.cls cl = some ci) (hk : ns.contains m = false) (b : BMeth X.K (He.ga X.K cl) m ga) : Meths X σ m (.ref a) H fun f fv => f = .ref ga ∧ fv = [.ref a] := by
  intro pins s u pl Q I ru q
  obtain rfl : u = Value.ref a := ru
  obtain ⟨k1, k3, k4, k5⟩ := xd.gen.cls cl ci hc
  have fin : Q (.ref ga, [.ref a]) s := q _ _ [.ref a] (.cons rfl .nil) ⟨rfl, rfl⟩
  rcases ho with ⟨l, C, dx, fs, h1, h2, h3, h4⟩ | ⟨sl', C, dx, vs, l, h3, h1, h2, h4⟩
  · cases hs : ci.slots with
    | true => obtain ⟨q, _⟩ := k4 hs; rw [q] at l; cases l
    | false =>
      obtain ⟨q1, q2, q3⟩ := k3 hs
      subst h2
      exact getmeth_ok I h1 q2 b.mt (notin_lookup h3 hk) fin
  · cases hs : ci.slots with
    | false => obtain ⟨q, _⟩ := k3 hs; have l' : sl.lookup cl = some sl' := l; rw [q] at l'; cases l'
    | true =>
      obtain ⟨q1, q2, q3, q4⟩ := k4 hs
      subst h2
      exact SlX.getmethsl_ok I h1 q3 b.mt fin
theorem meths_blt {T id : String} {x : V} (pa : PlainAttrs T) (slot : Slot T m id) (hty : typeOf (.builtin id) = pure (.type "method_descriptor"))
    (hx : ∀ (pins : List (Addr × Obj)) (s : Shared) (u : Value), Inv X pins σ H s → RelV x u → s.TypeIs u T ∧ ∀ a, u = .ref a → ∃ ob, s.heap.get? a = some ob ∧ ob.dict = none) : Meths X σ m x H fun f fv => f = .builtin id ∧ fv = [x] := by
  intro pins s u pl Q I ru q
  obtain ⟨h1, h2⟩ := hx pins s u I ru
  exact getMethod_builtin h1 pa slot hty h2 (q _ _ [x] (.cons ru .nil) ⟨rfl, rfl⟩)
theorem callS_M {id : String} {rr : V → List V → Hp → VK → Prop} {x : V} (h : MtR X id rr) (q : rr x vs H Q) : CallS X σ (.builtin id) (x :: vs) H Q := fun pins s us I rv => by
  cases rv with
  | cons r1 rs => exact h pins s σ H x vs _ _ Q I r1 rs q
theorem ty_str {z : Str} : ∀ (pins : List (Addr × Obj)) (s : Shared) (u : Value), Inv X pins σ H s → RelV (.str z) u → s.TypeIs u "str" ∧ ∀ a, u = .ref a → ∃ ob, s.heap.get? a = some ob ∧ ob.dict = none := fun pins s u I ru => by
  obtain ⟨t, rfl⟩ := ru
  exact ⟨typeIs_str _ _ _, fun _ e => nomatch e⟩
theorem ty_lst {a : Addr} {us : List V} (h : H a = some (.lst us)) : ∀ (pins : List (Addr × Obj)) (s : Shared) (u : Value), Inv X pins σ H s → RelV (.ref a) u → s.TypeIs u "list" ∧ ∀ a, u = .ref a → ∃ ob, s.heap.get? a = some ob ∧ ob.dict = none := fun pins s u I ru => by
  obtain rfl : u = Value.ref a := ru
  obtain ⟨z, its, n, rr, hl, e⟩ := I.lstM h
  exact ⟨⟨_, e, rfl⟩, fun b q => by cases q; exact ⟨_, e, rfl⟩⟩
theorem ty_dict {a : Addr} {kvs : List (Key × V)} (h : H a = some (.dK kvs)) : ∀ (pins : List (Addr × Obj)) (s : Shared) (u : Value), Inv X pins σ H s → RelV (.ref a) u → s.TypeIs u "dict" ∧ ∀ a, u = .ref a → ∃ ob, s.heap.get? a = some ob ∧ ob.dict = none := fun pins s u I ru => by
  obtain rfl : u = Value.ref a := ru
  obtain ⟨t1, t2, _⟩ := isD_at I (.inl ⟨kvs, .inl h⟩)
  exact ⟨t1, t2⟩
theorem ty_kd {a : Addr} {es : Array DictEntry} {n : Nat} (D : KDict X.K X.w a es n) : ∀ (pins : List (Addr × Obj)) (s : Shared) (u : Value), Inv X pins σ H s → RelV (.ref a) u → s.TypeIs u "dict" ∧ ∀ a, u = .ref a → ∃ ob, s.heap.get? a = some ob ∧ ob.dict = none := fun pins s u I ru => by
  obtain rfl : u = Value.ref a := ru
  have e := I.kIn _ _ D.at_
  exact ⟨⟨_, e, rfl⟩, fun b q => by cases q; exact ⟨_, e, rfl⟩⟩
/-- a built-in's method, the receiver untouched -/
theorem methB_ok {z : Str} {d : D} (R' : Rel (fx X sl) F r S H) (hs : VRs (fx X sl) F r ds vs) (e : methB m S (.str z) ds = some d) (p : Post (fx X sl) F r H d S Q) : (m = "split" ∧ CallS X σ (.builtin "str.split") (.str z :: vs) H Q) ∨ (m = "join" ∧ CallS X σ (.builtin "str.join") (.str z :: vs) H Q) := by
  unfold methB at e
  dsimp only at e
  by_cases hm : m = "split"
  · rw [if_pos hm] at e
    refine .inl ⟨hm, ?_⟩
    split at e
    · rename_i y
      split at e
      · rename_i hc
        cases e
        cases hs with
        | cons h hs =>
          cases hs; cases h
          exact callS_M mt_split ⟨z, y, rfl, rfl, hc.1, hc.2, p.lst R' (strs_vr _)⟩
      · cases e
    · cases e
  · rw [if_neg hm] at e
    by_cases hj : m = "join"
    · rw [if_pos hj] at e
      refine .inr ⟨hj, ?_⟩
      split at e
      · rename_i d0
        cases hi : items S d0 with
        | none => rw [hi] at e; cases e
        | some xs =>
          rw [hi] at e
          dsimp only at e
          cases q : strsOf xs with
          | none => rw [q] at e; cases e
          | some ys =>
            rw [q] at e
            dsimp only at e
            split at e
            · rename_i hc
              cases e
              cases hs with
              | cons h hs =>
                cases hs
                obtain ⟨a, us, rfl, h2, h3⟩ := h.items R' hi
                rw [strsOf_ok h3 q] at h2
                exact callS_M mt_join ⟨z, a, ys, rfl, rfl, h2, hc, p.now R' (.str _)⟩
            · cases e
      · cases e
    · rw [if_neg hj] at e; cases e
theorem call_get (hu : X.A.units + 1 < cLine) {kvs : List (Key × V)} {ks : List Key} {xs : List D} {a : Addr} {d : D} (R' : Rel (fx X sl) F r S H) (h : H a = some (.dK kvs)) (hk : kvs.map (·.1) = ks) (hv : VRs (fx X sl) F r xs (kvs.map (·.2))) (hs : VRs (fx X sl) F r ds vs) (e : methD m ks xs ds = some d) (p : Post (fx X sl) F r H d S Q) : m = "get" ∧ CallS X σ (.builtin "dict.get") (.ref a :: vs) H Q := by
  unfold methD at e
  by_cases hm : m = "get"
  · rw [if_pos hm] at e
    refine ⟨hm, fun pins s us I rv => ?_⟩
    split at e
    · rename_i kd
      cases q : toKey kd with
      | none => rw [q] at e; cases e
      | some k =>
        rw [q] at e; cases e
        cases hs with
        | cons h1 hs =>
          cases hs
          have ek := toKey_ok h1 q
          subst ek
          obtain ⟨q1, q2⟩ := dlook_ok hk hv k
          cases rv with
          | cons r0 rv => cases rv with
            | cons r1 rv =>
              cases rv
              cases r0
              refine d_get1 hu I (.k h) r1 fun w' s3 I3 rw' => ⟨_, H, I3, rw', ?_⟩
              dsimp only at p
              cases hd : dlook ks xs k with
              | none => rw [hd] at p; rw [q2 hd]; exact p.now R' .non
              | some d => obtain ⟨y, y1, y2⟩ := q1 d hd; rw [hd] at p; rw [y1]; exact p.now R' y2
    · rename_i kd dd
      cases q : toKey kd with
      | none => rw [q] at e; cases e
      | some k =>
        rw [q] at e; cases e
        cases hs with
        | cons h1 hs => cases hs with
          | cons h2 hs =>
            cases hs
            have ek := toKey_ok h1 q
            subst ek
            obtain ⟨q1, q2⟩ := dlook_ok hk hv k
            cases rv with
            | cons r0 rv => cases rv with
              | cons r1 rv => cases rv with
                | cons r2 rv =>
                  cases rv
                  cases r0
                  refine d_get2 hu I (.k h) r1 r2 fun w' s3 I3 rw' => ⟨_, H, I3, rw', ?_⟩
                  dsimp only at p
                  cases hd : dlook ks xs k with
                  | none => rw [hd] at p; rw [q2 hd]; exact p.now R' h2
                  | some d => obtain ⟨y, y1, y2⟩ := q1 d hd; rw [hd] at p; rw [y1]; exact p.now R' y2
    · cases e
  · rw [if_neg hm] at e; cases e
theorem call_getK {ks : List Str} {xs : List D} {d : D} {w : V} (R' : Rel (fx X sl) F r S H) (hx : VR (fx X sl) F r (.kd ks xs) w) (hs : VRs (fx X sl) F r ds vs) (e : methK m ks xs ds = some d) (p : Post (fx X sl) F r H d S Q) : CallS X σ (.builtin "dict.get") (w :: vs) H Q := by
  unfold methK at e
  by_cases hm : m = "get"
  · rw [if_pos hm] at e
    split at e
    · rename_i z dd
      cases e
      cases hx with
      | @kd _ _ a fs h hk hv =>
        obtain ⟨⟨es, n, KD⟩, hz⟩ := h
        obtain ⟨ov, o1, o2⟩ := hz z
        intro pins s us I rv
        cases hs with
        | cons h1 hs => cases hs with
          | cons h2 hs =>
            cases hs
            cases h1
            cases rv with
            | cons r0 rv => cases rv with
              | cons r1 rv => cases rv with
                | cons r2 rv =>
                  cases rv
                  cases r0
                  obtain ⟨t, rfl⟩ := r1
                  have mo := PySem.W.mapOf_K (prog := X.prog) I.kIn KD.at_ KD.lit
                  refine call_meetsIn PySem.F.slot_dict_get mo.typeIs PySem.F.entry_dict_get (PySem.F.args_dict_get_3 _ _ _) (meets_dict_get_default (strKind X.prog X.w) a (strKind_is X.prog X.w z t) KD.low _) ⟨_, mo, ?_⟩
                  rw [PySem.W.find_K KD.at_ o1]
                  cases hd : flook ks xs z with
                  | none =>
                    rw [flook_none hk hv z hd] at o2
                    cases ov with
                    | some u => exact o2.elim
                    | none => rw [hd] at p; exact ⟨_, H, I.tok _, r2, p.now R' h2⟩
                  | some d =>
                    obtain ⟨y, y1, y2⟩ := flook_ok hk hv z d hd
                    rw [y1] at o2
                    cases ov with
                    | none => exact o2.elim
                    | some u => rw [hd] at p; exact ⟨_, H, I.tok _, o2, p.now R' y2⟩
    · cases e
  · rw [if_neg hm] at e; cases e
theorem mt_appendR : MtR X "list.append" rAppend := mt_append
/-- a method that changes its list -/
theorem methL_ok {n : Nat} {a : Addr} {xs ys : List D} {w : V} (R' : Rel (fx X sl) F r S H) (hS : S[n]? = some (.lst xs)) (hx : VR (fx X sl) F r (.ref n) w) (hs : VRs (fx X sl) F r ds vs) (e : methL m xs ds = some ys) (p : Post (fx X sl) F r H .non (S.set n (.lst ys)) Q) :
    (m = "append" ∧ CallS X σ (.builtin "list.append") (w :: vs) H Q) ∨ (m = "insert" ∧ CallS X σ (.builtin "list.insert") (w :: vs) H Q) := by
  obtain ⟨a, ha⟩ := R'.live n _ hS (by intro z; cases z)
  obtain ⟨o, h1, h2⟩ := R'.ob n a ha
  rw [hS] at h1; cases h1
  obtain ⟨us, h3, h4⟩ := h2
  have ew : w = .ref a := by
    cases hx with
    | ref hn hv => exact hv a ha
  subst ew
  have put : ∀ {us' : List V}, VRs (fx X sl) F r ys us' → Q .non (upd H a (.lst us')) := fun {us'} hv => by
    obtain ⟨R2, x2⟩ := R'.put (H' := upd H a (.lst us')) (ob := .lst ys) ha rfl (by intro z; cases z) (fun b hb => upd_ne hb) ⟨us', upd_same, hv⟩
    exact p _ _ _ _ R2 x2 .non
  unfold methL at e
  by_cases hm : m = "append"
  · rw [if_pos hm] at e
    refine .inl ⟨hm, ?_⟩
    split at e
    · split at e
      · rename_i hl
        cases e
        cases hs with
        | cons h hs =>
          cases hs
          exact callS_M mt_appendR ⟨a, us, _, rfl, rfl, h3, by rw [← h4.length]; exact hl, put (h4.append (.cons h .nil))⟩
      · cases e
    · cases e
  · rw [if_neg hm] at e
    by_cases hj : m = "insert"
    · rw [if_pos hj] at e
      refine .inr ⟨hj, ?_⟩
      split at e
      · split at e
        · rename_i hl
          cases e
          cases hs with
          | cons h hs => cases hs with
            | cons h' hs =>
              cases hs; cases h
              exact callS_M mt_insert ⟨a, us, _, _, rfl, rfl, h3, by rw [← h4.length]; exact hl.1, hl.2.1, hl.2.2, put (((h4.take _).append (.cons h' .nil)).append (h4.drop _))⟩
        · cases e
      · cases e
    · rw [if_neg hj] at e; cases e
theorem good_meth (xd : XD X sl W c) (g : ∀ e v S, GoodE X sl W e v S (R.E c e v S)) (hb : okBase o = true) (hl : oneLine apos pos = true) (hn : noStar args = true) (h30 : args.length < 30) :
    GoodE X sl W (.Call (.Attribute o m apos) args [] pos) v S ((R.E c o v S).bind fun od S1 => callAt R c m od args v S1) := by
  have hu := hu65 xd
  intro F r σ H R' s Q p
  refine good_meth0 hb hl hn h30 ?_
  refine run1 pd_step (g o v S) R' s p fun od S1 F1 r1 H1 x R1 x1 hx s1 p1 => ?_
  unfold callAt at p1
  cases hi : insD S1 od with
  | some t =>
    obtain ⟨cl, ns, xs⟩ := t
    rw [hi] at p1
    dsimp only at p1
    split at p1
    · exact p1.elim
    · rename_i hc
      rw [Bool.or_eq_true, not_or] at hc
      obtain ⟨c1, c2⟩ := hc
      cases hci : c.G.cls cl with
      | none => rw [hci] at c2; exact absurd rfl c2
      | some ci =>
        cases hf : meOk c.G cl m with
        | none => rw [hf] at p1; exact p1.elim
        | some f =>
          rw [hf] at p1
          obtain ⟨a, rfl, ho⟩ := insD_ok R1 hx hi
          obtain ⟨ga, bm, fg⟩ := xd.gen.me cl m f hf
          refine ⟨_, meths_ins xd ho hci (by simpa using c1) bm, ?_⟩
          rintro _ first _ rv ⟨rfl, rfl⟩ pins s0 I
          exact run_cw pd_step g bm.mt.kp rv args R1 s1 p1 (fun ds S2 F2 r2 H2 vs R2 x2 hs s2 p2 => runF_ok xd (meOk_lev hf) fg R2 (.cons (x2.mono hx) hs) p2) pins s0 I
  | none =>
    rw [hi] at p1
    dsimp only at p1
    split at p1
    · rename_i z
      split at p1
      · rename_i hm
        cases hx
        have fin : ∀ id : String, (∀ (S2 : Sto) (F2 : Hp) (r2 : Rho) (H2 : Hp) (ds : List D) (vs : List V) (d : D) (Q : VK), Rel (fx X sl) F2 r2 S2 H2 → VRs (fx X sl) F2 r2 ds vs → methB m S2 (.str z) ds = some d → Post (fx X sl) F2 r2 H2 d S2 Q → CallS X σ (.builtin id) (.str z :: vs) H2 Q) →
            ∀ f first fv, Vals fv first → (f = .builtin id ∧ fv = [V.str z]) → ∀ (pins : List (Addr × Obj)) (s0 : Shared), Inv X pins σ H1 s0 → wpAny (model X.prog X.w) X.A (callWith pos f first (backTo pos (starEach args X.env)) []) (EP X pins σ Q) X.xe s0 := by
          rintro id hk _ first _ rv ⟨rfl, rfl⟩ pins s0 I
          refine run_cwB (.inl ⟨_, rfl⟩) pd_step g rv args hn R1 s1 p1 (fun ds S2 F2 r2 H2 vs R2 x2 hs s2 p2 => ?_) pins s0 I
          cases e : methB m S2 (.str z) ds with
          | none => rw [e] at p2; exact p2.elim
          | some d => rw [e] at p2; exact hk S2 F2 r2 H2 ds vs d Q R2 hs e p2
        unfold strMeth at hm
        simp only [Bool.or_eq_true, decide_eq_true_eq] at hm
        rcases hm with hm | hm
        · subst hm
          refine ⟨_, meths_blt PySem.F.plainAttrs_str PySem.F.slot_str_split PySem.F.type_str_split ty_str, fin _ fun S2 F2 r2 H2 ds vs d Q R2 hs e p2 => ?_⟩
          rcases methB_ok (σ := σ) R2 hs e p2 with ⟨_, q⟩ | ⟨h, _⟩
          · exact q
          · exact absurd h (by decide)
        · subst hm
          refine ⟨_, meths_blt PySem.F.plainAttrs_str PySem.F.slot_str_join PySem.F.type_str_join ty_str, fin _ fun S2 F2 r2 H2 ds vs d Q R2 hs e p2 => ?_⟩
          rcases methB_ok (σ := σ) R2 hs e p2 with ⟨h, _⟩ | ⟨_, q⟩
          · exact absurd h (by decide)
          · exact q
      · exact p1.elim
    · rename_i ks xs
      split at p1
      · rename_i hm
        subst hm
        have hx' := hx
        cases hx with
        | @kd _ _ a fs h hk hv =>
          obtain ⟨⟨es, n, KD⟩, hz⟩ := h
          refine ⟨_, meths_blt PySem.F.plainAttrs_dict PySem.F.slot_dict_get PySem.F.type_dict_get (ty_kd KD), ?_⟩
          rintro _ first _ rv ⟨rfl, rfl⟩ pins s0 I
          refine run_cwB (.inl ⟨_, rfl⟩) pd_step g rv args hn R1 s1 p1 (fun ds S2 F2 r2 H2 vs R2 x2 hs s2 p2 => ?_) pins s0 I
          cases e : methK "get" ks xs ds with
          | none => rw [e] at p2; exact p2.elim
          | some d => rw [e] at p2; exact call_getK R2 (x2.mono hx') hs e p2
      · exact p1.elim
    · rename_i ks xs
      split at p1
      · rename_i hm
        subst hm
        have hx' := hx
        cases hx with
        | @dict _ _ a kvs h hk hv =>
          refine ⟨_, meths_blt PySem.F.plainAttrs_dict PySem.F.slot_dict_get PySem.F.type_dict_get (ty_dict (R1.sub _ _ h)), ?_⟩
          rintro _ first _ rv ⟨rfl, rfl⟩ pins s0 I
          refine run_cwB (.inl ⟨_, rfl⟩) pd_step g rv args hn R1 s1 p1 (fun ds S2 F2 r2 H2 vs R2 x2 hs s2 p2 => ?_) pins s0 I
          cases e : methD "get" ks xs ds with
          | none => rw [e] at p2; exact p2.elim
          | some d => rw [e] at p2; exact (call_get (by omega) R2 (R2.sub _ _ (x2.f _ _ h)) hk (x2.monos hv) hs e p2).2
      · exact p1.elim
    · rename_i n
      split at p1
      · rename_i xs0 hS
        split at p1
        · rename_i hm
          obtain ⟨a, ha⟩ := R1.live n _ hS (by intro z; cases z)
          obtain ⟨o', h1, h2⟩ := R1.ob n a ha
          rw [hS] at h1; cases h1
          obtain ⟨us, h3, h4⟩ := h2
          have hx' := hx
          have ew : x = .ref a := by
            cases hx with
            | ref hn hv => exact hv a ha
          subst ew
          have fin : ∀ id : String, (∀ (S2 : Sto) (F2 : Hp) (r2 : Rho) (H2 : Hp) (ds : List D) (vs : List V) (xs ys : List D) (Q : VK), Rel (fx X sl) F2 r2 S2 H2 → S2[n]? = some (.lst xs) → VR (fx X sl) F2 r2 (.ref n) (.ref a) → VRs (fx X sl) F2 r2 ds vs → methL m xs ds = some ys → Post (fx X sl) F2 r2 H2 .non (S2.set n (.lst ys)) Q → CallS X σ (.builtin id) (.ref a :: vs) H2 Q) →
              ∀ f first fv, Vals fv first → (f = .builtin id ∧ fv = [V.ref a]) → ∀ (pins : List (Addr × Obj)) (s0 : Shared), Inv X pins σ H1 s0 → wpAny (model X.prog X.w) X.A (callWith pos f first (backTo pos (starEach args X.env)) []) (EP X pins σ Q) X.xe s0 := by
            rintro id hk _ first _ rv ⟨rfl, rfl⟩ pins s0 I
            refine run_cwB (.inl ⟨_, rfl⟩) pd_step g rv args hn R1 s1 p1 (fun ds S2 F2 r2 H2 vs R2 x2 hs s2 p2 => ?_) pins s0 I
            split at p2
            · rename_i xs hS2
              cases e : methL m xs ds with
              | none => rw [e] at p2; exact p2.elim
              | some ys => rw [e] at p2; exact hk S2 F2 r2 H2 ds vs xs ys Q R2 hS2 (x2.mono hx') hs e p2
            · exact p2.elim
          unfold lstMeth at hm
          simp only [Bool.or_eq_true, decide_eq_true_eq] at hm
          rcases hm with hm | hm
          · subst hm
            refine ⟨_, meths_blt PySem.F.plainAttrs_list PySem.F.slot_list_append PySem.F.type_list_append (ty_lst h3), fin _ fun S2 F2 r2 H2 ds vs xs ys Q R2 hS2 hx2 hs e p2 => ?_⟩
            rcases methL_ok (a := a) (σ := σ) R2 hS2 hx2 hs e p2 with ⟨_, q⟩ | ⟨h, _⟩
            · exact q
            · exact absurd h (by decide)
          · subst hm
            refine ⟨_, meths_blt PySem.F.plainAttrs_list PySem.F.slot_list_insert PySem.F.type_list_insert (ty_lst h3), fin _ fun S2 F2 r2 H2 ds vs xs ys Q R2 hS2 hx2 hs e p2 => ?_⟩
            rcases methL_ok (a := a) (σ := σ) R2 hS2 hx2 hs e p2 with ⟨h, _⟩ | ⟨_, q⟩
            · exact absurd h (by decide)
            · exact q
        · exact p1.elim
      · rename_i ks0 xs0 hS
        split at p1
        · rename_i hm
          subst hm
          obtain ⟨a, ha⟩ := R1.live n _ hS (by intro z; cases z)
          obtain ⟨o', h1, h2⟩ := R1.ob n a ha
          rw [hS] at h1; cases h1
          obtain ⟨kvs, h3, h5, h4⟩ := h2
          have hx' := hx
          have ew : x = .ref a := by
            cases hx with
            | ref hn hv => exact hv a ha
          subst ew
          refine ⟨_, meths_blt PySem.F.plainAttrs_dict PySem.F.slot_dict_get PySem.F.type_dict_get (ty_dict h3), ?_⟩
          rintro _ first _ rv ⟨rfl, rfl⟩ pins s0 I
          refine run_cwB (.inl ⟨_, rfl⟩) pd_step g rv args hn R1 s1 p1 (fun ds S2 F2 r2 H2 vs R2 x2 hs s2 p2 => ?_) pins s0 I
          split at p2
          · rename_i ks xs hS2
            cases e : methD "get" ks xs ds with
            | none => rw [e] at p2; exact p2.elim
            | some d =>
              rw [e] at p2
              obtain ⟨a2, e2, kvs2, m1, m2, m3⟩ := dictD_ok R2 (x2.mono hx') (show dictD S2 (.ref n) = some (ks, xs) by show (match S2[n]? with | some (Ob.dict ks xs) => some (ks, xs) | _ => none) = _; rw [hS2])
              cases e2
              exact (call_get (by omega) R2 m3 m1 m2 hs e p2).2
          · exact p2.elim
        · exact p1.elim
      · exact p1.elim
    · exact p1.elim
end
end DV
end

section
set_option Elab.async false
set_option linter.all false
set_option maxRecDepth 100000
set_option autoImplicit false
/-! The evaluator is right: isinstance, keywords. -/
namespace DV
open PySem PySem.Spec PyProof.Rows L2
section
variable {X : Cx} {sl : Slo} {W : WX} {c : Ctx} {e a b o i tg iter elt kx vx : Expr} {args : List Expr} {v : Slots} {S : Sto} {F : Hp} {r : Rho} {σ : L2.St} {H : Hp} {R : Rec} {pos p2 apos : Pos} {ds : List D} {vs : List V} {Q : VK} {m : Str}
theorem tyName_ok {t : Str} (h : tyName t = true) : ∃ T, bootBuiltins t = some (.type T) := by
  unfold tyName at h
  simp only [Bool.or_eq_true, decide_eq_true_eq] at h
  rcases h with ((((rfl | rfl) | rfl) | rfl) | rfl) | rfl
  · exact ⟨_, PyProof.Rows.boot_int⟩
  · exact ⟨_, PyProof.Rows.boot_bool⟩
  · exact ⟨_, PyProof.Rows.boot_str⟩
  · exact ⟨_, PyProof.Rows.boot_tuple⟩
  · exact ⟨_, PyProof.Rows.boot_list⟩
  · exact ⟨_, PyProof.Rows.boot_dict⟩
theorem kitOne_self {K : PySem.W.Frag} {C : Addr} : PySem.W.kitOne K (.ref C) (.ref C) = some true := by
  unfold PySem.W.kitOne
  rw [if_pos (beq_self_eq_true _)]
theorem isOwn_ok {t : Str} {ci : ClI} {w : V} {d : D} {b : Bool} (xd : XD X sl W c) (hc : c.G.cls t = some ci) (hi : ci.isi = true) (R' : Rel (fx X sl) F r S H) (h : VR (fx X sl) F r d w) (e : isOwn S t d = some b) (q : Q (.bl b) H) :
    rIsi X.K [w, .ref (He.ga X.K t)] H Q ∨ SlX.rIsiSl X.K (.ref (He.ga X.K t)) [w, .ref (He.ga X.K t)] H Q := by
  obtain ⟨k1, k3, k4, k5⟩ := xd.gen.cls t ci hc
  obtain ⟨hs, hI, hT⟩ := k5 hi
  have blt : ∀ T, tyOfD S d = some T → T ∈ ["NoneType", "bool", "int", "str", "tuple", "list"] → b = false → rIsi X.K [w, .ref (He.ga X.K t)] H Q := fun T hty hm hb => by
    subst hb
    exact ⟨w, _, _, _, false, rfl, .own _, tyOfD_ok R' h hty, hT T hm, q⟩
  have own : ∀ d', d = d' → (match insD S d' with | some (c, _, _) => if c = t then some true else none | none => none) = some b → SlX.rIsiSl X.K (.ref (He.ga X.K t)) [w, .ref (He.ga X.K t)] H Q := fun d' ed e' => by
    subst ed
    cases hn : insD S d with
    | none => rw [hn] at e'; cases e'
    | some p =>
      obtain ⟨cl, ns, xs⟩ := p
      rw [hn] at e'
      dsimp only at e'
      split at e'
      · rename_i hct
        cases e'
        subst hct
        obtain ⟨a, rfl, ho⟩ := insD_ok R' h hn
        obtain ⟨q1, q2, q3, q4⟩ := k4 hs
        rcases ho with ⟨l, _⟩ | ⟨sl', C, dx, vs, l, h3, h1, h2, h4⟩
        · have l' : sl.lookup cl = none := l
          rw [q1] at l'; cases l'
        · subst h2
          exact ⟨a, _, dx, _, _, true, rfl, rfl, fun w hw => hw, h1, q3, hI, kitOne_self, q⟩
      · cases e'
  cases d with
  | non => cases e; exact .inl (blt _ rfl (by simp) rfl)
  | bl => cases e; exact .inl (blt _ rfl (by simp) rfl)
  | int => cases e; exact .inl (blt _ rfl (by simp) rfl)
  | str => cases e; exact .inl (blt _ rfl (by simp) rfl)
  | tup => cases e; exact .inl (blt _ rfl (by simp) rfl)
  | lst => cases e; exact .inl (blt _ rfl (by simp) rfl)
  | _ => exact .inr (own _ rfl e)
theorem good_isi {t : Str} {pp pt : Pos} (xd : XD X sl W c) (g : ∀ e v S, GoodE X sl W e v S (R.E c e v S)) :
    GoodE X sl W (.Call (.Name "isinstance" pp) [e, .Name t pt] [] pos) v S (evIsi R c e t v S) := by
  intro F r σ H R' s Q p
  unfold evIsi at p
  split at p
  · rename_i hb
    rw [Bool.and_eq_true] at hb
    obtain ⟨h1, h2, h3, h4⟩ := isBl_of xd hb.1
    have hne := (noStar_ne hb.2).1
    have e2 : starEach [.Name t pt] X.env = (false, eval (.Name t pt) X.env) :: starEach [] X.env := rfl
    split at p
    · rename_i hk
      rw [Bool.and_eq_true] at hk
      obtain ⟨t1, t2, t3, t4⟩ := isBl_of xd hk.1
      obtain ⟨T, hT⟩ := tyName_ok hk.2
      refine semE_of (pe_callB call_isi h1 h2 boot_isinstance (pa_cons (pe_sem (e := e)) (pa_cons (pe_bltn (v := .ty T) t1 t2 hT rfl t4 t3) pa_nil e2) (starEach_cons hne)) (by decide) (by decide) (starEach_cons hne) (by rw [e2]; rfl)) ?_
      refine run1 pd_step (g e v S) R' s p fun d S1 F1 r1 H1 x R1 x1 hx s1 p1 => ?_
      cases q : isInst S1 t d with
      | none => rw [q] at p1; exact p1.elim
      | some b =>
        rw [q] at p1
        obtain ⟨T', hT', _, k⟩ := isInst_ok R1 hx q
        rw [hT] at hT'
        cases hT'
        exact k Q (PostR.val p1 R1 (.bl _))
    · split at p
      · rename_i hk2
        rw [Bool.and_eq_true] at hk2
        obtain ⟨t1, t2, t3⟩ := isGl_of xd hk2.1
        cases hc : c.G.cls t with
        | none => rw [hc] at hk2; exact absurd hk2.2 (by decide)
        | some ci =>
          rw [hc] at hk2
          obtain ⟨k1, _⟩ := xd.gen.cls t ci hc
          refine semE_of (pe_callB (call_isi.or (SlX.call_isiSl (.ref (He.ga X.K t)))) h1 h2 boot_isinstance (pa_cons (pe_sem (e := e)) (pa_cons (pe_glob (v := .ref (He.ga X.K t)) t1 k1 rfl t2) pa_nil e2) (starEach_cons hne)) (by decide) (by decide) (starEach_cons hne) (by rw [e2]; rfl)) ?_
          refine run1 pd_step (g e v S) R' s p fun d S1 F1 r1 H1 x R1 x1 hx s1 p1 => ?_
          cases q : isOwn S1 t d with
          | none => rw [q] at p1; exact p1.elim
          | some b =>
            rw [q] at p1
            exact isOwn_ok xd hc hk2.2 R1 hx q (PostR.val p1 R1 (.bl _))
      · exact p.elim
  · exact p.elim

/-! ### calls by keywords -/
theorem kwOrder_ok {Y : Fx} {F : Hp} {r : Rho} : ∀ {ps ks : List Str} {ds as : List D} {vs : List V}, VRs Y F r ds vs → kwOrder ps (ks.zip ds) = some as → ∃ ws, kwOrder ps (ks.zip vs) = some ws ∧ VRs Y F r as ws
  | [], ks, ds, as, vs, hs, e => by cases e; exact ⟨[], rfl, .nil⟩
  | p :: ps, ks, ds, as, vs, hs, e => by
    have look : ∀ {ks : List Str} {ds : List D} {vs : List V} {d : D}, VRs Y F r ds vs → (ks.zip ds).lookup p = some d → ∃ w, (ks.zip vs).lookup p = some w ∧ VR Y F r d w := by
      intro ks
      induction ks with
      | nil => intro ds vs d hs e; cases e
      | cons k ks ih =>
        intro ds vs d hs e
        cases hs with
        | nil => cases e
        | @cons x w xs ws h hs =>
          have e' : (match p == k with | true => some x | false => (ks.zip xs).lookup p) = some d := e
          show ∃ u, (match p == k with | true => some w | false => (ks.zip ws).lookup p) = some u ∧ _
          cases q : p == k with
          | true => rw [q] at e'; cases e'; exact ⟨w, rfl, h⟩
          | false => rw [q] at e'; exact ih hs e'
    unfold kwOrder at e
    cases h1 : (ks.zip ds).lookup p with
    | none => rw [h1] at e; cases e
    | some d =>
      cases h2 : kwOrder ps (ks.zip ds) with
      | none => rw [h1, h2] at e; cases e
      | some as' =>
        rw [h1, h2] at e
        cases e
        obtain ⟨w, w1, w2⟩ := look hs h1
        obtain ⟨ws, u1, u2⟩ := kwOrder_ok hs h2
        refine ⟨w :: ws, ?_, .cons w2 u2⟩
        unfold kwOrder
        rw [w1, u1]
def semK (X : Cx) (kws : List Keyword) : TA := fun σ H Q => ∀ (pos : Pos) (pins : List (Addr × Obj)) (s : Shared), Inv X pins σ H s → wpAny (model X.prog X.w) X.A (evalAll ((backToKw pos (keywordEach kws X.env)).map (·.2))) (AP X pins σ Q) X.xe s
theorem pk_sem {kws : List Keyword} : PK X kws (semK X kws) := ⟨fun pos pins s _ _ _ I h => h pos pins s I⟩
theorem good_K (g : ∀ e v S, GoodE X sl W e v S (R.E c e v S)) : ∀ (kws : List Keyword) (v : Slots) (S : Sto) {F : Hp} {r : Rho} {σ : L2.St} {H : Hp}, Rel (fx X sl) F r S H → SR (fx X sl) F r v σ → ∀ Q : List V → Hp → Prop, PostFL (fx X sl) F r H (evK R c kws v S) Q (EW W σ) → semK X kws σ H Q
  | [], v, S, F, r, σ, H, R', s, Q, p => fun pos pins s0 I => pk_nil.run pos pins s0 σ H Q I (p F r H [] R' (.refl ..) .nil)
  | ⟨nm, e, kp⟩ :: kws, v, S, F, r, σ, H, R', s, Q, p => fun pos pins s0 I => by
    refine (pk_cons (pe_sem (e := e)) (pk_sem (kws := kws))).run pos pins s0 σ H Q I ?_
    unfold evK at p
    refine run1 pl_step (g e v S) R' s p fun d S1 F1 r1 H1 x R1 x1 hx s1 p1 => ?_
    have ih := good_K g kws v S1 R1 s1
    refine ih _ ?_
    cases m : evK R c kws v S1 with
    | bad => rw [m] at p1; exact p1.elim
    | exc a b cc dd => rw [m] at p1; exact p1
    | ok ds S2 =>
      rw [m] at p1
      exact fun F2 r2 H2 ys R2 x2 hy => p1 F2 r2 H2 _ R2 x2 (.cons (x2.mono hx) hy)
theorem kwNames_ok {env : Env} : ∀ {kws : List Keyword}, (backToKw pos (keywordEach kws env)).filterMap (·.1) = kwNames kws
  | [] => rfl
  | ⟨nm, e, kp⟩ :: kws => by
    have ih := kwNames_ok (env := env) (kws := kws)
    cases nm with
    | none => exact ih
    | some n => exact congrArg (n :: ·) ih
theorem kwAll_ok {env : Env} : ∀ {kws : List Keyword}, kws.all (fun k => k.arg.isSome) = true → (backToKw pos (keywordEach kws env)).all (·.1.isSome) = true ∧ (backToKw pos (keywordEach kws env)).any (·.1.isNone) = false
  | [], _ => ⟨rfl, rfl⟩
  | ⟨nm, e, kp⟩ :: kws, h => by
    have h' := Bool.and_eq_true_iff.mp (show (_ && _) = true from h)
    obtain ⟨i1, i2⟩ := kwAll_ok (env := env) (kws := kws) h'.2
    cases nm with
    | none => cases h'.1
    | some n => exact ⟨i1, i2⟩
theorem good_kw {x : Str} {pp : Pos} {kws : List Keyword} (xd : XD X sl W c) (g : ∀ e v S, GoodE X sl W e v S (R.E c e v S)) :
    GoodE X sl W (.Call (.Name x pp) [] kws pos) v S (if isGl c x && kws.all (fun k => k.arg.isSome) then (fnOk c.G x).elim .bad fun f => if f.kws.contains (kwNames kws) then (evK R c kws v S).bind fun ds S1 => (kwOrder f.ps ((kwNames kws).zip ds)).elim .bad fun as => if as.length = f.ps.length ∧ ds.length = (kwNames kws).length then runP f as S1 else .bad else .bad else .bad) := by
  intro F r σ H R' s Q p pins s0 I
  split at p
  · rename_i hb
    rw [Bool.and_eq_true] at hb
    obtain ⟨h1, h2, h3⟩ := isGl_of xd hb.1
    cases ef : fnOk c.G x with
    | none => rw [ef] at p; exact p.elim
    | some f =>
      rw [ef] at p
      have p : PostF (fx X sl) F r H (if f.kws.contains (kwNames kws) then (evK R c kws v S).bind fun ds S1 => (kwOrder f.ps ((kwNames kws).zip ds)).elim .bad fun as => if as.length = f.ps.length ∧ ds.length = (kwNames kws).length then runP f as S1 else .bad else .bad) Q (EW W σ) := p
      split at p
      · rename_i hkw
        obtain ⟨ga, e1, e2, e3, fg⟩ := xd.gen.fn x f ef
        have hkw' : kwNames kws ∈ f.kws := by simpa using hkw
        have FK := fg.kw _ hkw'
        refine wpAny_Call_Name_kw (ld_glob I h1 e2 ?_ h2)
        obtain ⟨a1, a2⟩ := kwAll_ok (env := X.env) (pos := pos) hb.2
        refine PySem.W.callWith_KW0 I.ok.mod.kin e3 a1 ?_ (by rw [a2]; rfl)
        have hK := good_K g kws v S R' s (fun vs H1 => ∀ (us : List Value) (s1 : Shared), Inv X pins σ H1 s1 → Vals vs us → wpAny (model X.prog X.w) X.A (call (.ref ga) [] ((kwNames kws).zip us)) (EP X pins σ Q) X.xe s1) (by
          cases m : evK R c kws v S with
          | bad => rw [m] at p; exact p.elim
          | exc a b cc dd => rw [m] at p; exact p
          | ok ds S1 =>
            rw [m] at p
            intro F1 r1 H1 vs R1 x1 hs us s1 I1 rv
            have p1 := PostR.step (m := (kwOrder f.ps ((kwNames kws).zip ds)).elim .bad fun as => if as.length = f.ps.length ∧ ds.length = (kwNames kws).length then runP f as S1 else .bad) p pd_step x1
            cases ko : kwOrder f.ps ((kwNames kws).zip ds) with
            | none => rw [ko] at p1; exact p1.elim
            | some as =>
              rw [ko] at p1
              have p1 : PostF (fx X sl) F1 r1 H1 (if as.length = f.ps.length ∧ ds.length = (kwNames kws).length then runP f as S1 else .bad) Q (EW W σ) := p1
              split at p1
              · rename_i hlen
                obtain ⟨ws, w1, w2⟩ := kwOrder_ok hs ko
                have sp := runP_ok R1 w2 p1
                rw [hlen.1] at sp
                refine wpAny_call (codeAny_mono (FK X.A X.stack s1 H1 us vs ws Q _ (xd.room.mono (fnOk_lev ef)) xd.gd I1.env0 rv (by rw [← hs.length]; exact hlen.2) w1 sp) fun q s' hq => ?_)
                cases q with
                | error e => exact xd.tk e s' (XE.of_call I1 (fun _ _ _ h => h) hq)
                | ok fl =>
                  cases fl with
                  | ret u => exact I1.after hq
                  | next => exact False.elim hq
                  | brk => exact False.elim hq
                  | cont => exact False.elim hq
              · exact p1.elim)
        refine thn (hK pos pins s0 I) fun us s1 ⟨vs, H1, I1, rv, q⟩ => ⟨I1.kIn, ?_⟩
        rw [kwNames_ok]
        exact q us s1 I1 rv
      · exact p.elim
  · exact p.elim
end
end DV
end

section
set_option Elab.async false
set_option linter.all false
set_option maxRecDepth 100000
set_option autoImplicit false
/-! The evaluator is right: statements. -/
namespace DV
open PySem PySem.Spec PyProof.Rows L2
section
variable {X : Cx} {sl : Slo} {W : WX} {c : Ctx} {e a b o i tg iter elt kx vx : Expr} {args : List Expr} {v v1 : Slots} {S S' : Sto} {F F' : Hp} {r r' : Rho} {σ : L2.St} {H H' : Hp} {R : Rec} {pos p2 apos : Pos} {ds : List D} {vs : List V} {Q : VK} {m : SRes} {Dn : Ends}
theorem PostS.step (p : PostS (fx X sl) W F r H m Dn) (x : Ext F r H F' r' H') : PostS (fx X sl) W F' r' H' m Dn := by
  cases m with
  | bad => exact p
  | nx v S => exact fun F2 r2 H2 σ' R2 x2 s2 => p F2 r2 H2 σ' R2 (x.trans x2) s2
  | rt d S => exact pd_step _ _ _ _ _ _ _ _ x p
  | bk v S => exact fun F2 r2 H2 σ' R2 x2 s2 => p F2 r2 H2 σ' R2 (x.trans x2) s2
  | ct v S => exact fun F2 r2 H2 σ' R2 x2 s2 => p F2 r2 H2 σ' R2 (x.trans x2) s2
  | exc c ns xs v S =>
    intro σ' F2 r2 H2 R2 x2
    obtain ⟨k1, k2⟩ := p σ' F2 r2 H2 R2 (x.trans x2)
    exact ⟨fun hn F3 r3 x3 s3 => k1 hn F3 r3 (x.trans x3) s3, fun hn a fs e1 e2 h F3 r3 x3 s3 => k2 hn a fs e1 e2 h F3 r3 (x.trans x3) s3⟩
theorem postS_exc {cl : Str} {ns : List Str} {xs : List D} (p : PostS (fx X sl) W F r H (.exc cl ns xs v S) Dn) (x : Ext F r H F' r' H') (s : SR (fx X sl) F' r' v σ) : PostX (fx X sl) F' r' H' cl ns xs S (EW W σ) := by
  intro F2 r2 H2 R2 x2
  obtain ⟨k1, k2⟩ := p σ F2 r2 H2 R2 (x.trans x2)
  exact ⟨fun hn => k1 hn F2 r2 (x.trans x2) (s.step x2), fun hn a fs e1 e2 h => k2 hn a fs e1 e2 h F2 r2 (x.trans x2) (s.step x2)⟩
theorem run1S {m : Res D} {k : D → Sto → SRes} {C : VK} (g : GoodE X sl W e v S m) (R : Rel (fx X sl) F r S H) (s : SR (fx X sl) F r v σ) (p : PostS (fx X sl) W F r H (m.st v k) Dn)
    (h : ∀ d S1 F1 r1 H1 x, Rel (fx X sl) F1 r1 S1 H1 → Ext F r H F1 r1 H1 → VR (fx X sl) F1 r1 d x → SR (fx X sl) F1 r1 v σ → PostS (fx X sl) W F1 r1 H1 (k d S1) Dn → C x H1) : semE X e σ H C := by
  refine g F r σ H R s C ?_
  cases m with
  | bad => exact p.elim
  | ok d S1 => exact fun F1 r1 H1 x R1 x1 hx => h d S1 F1 r1 H1 x R1 x1 hx (s.step x1) (PostS.step (m := k d S1) p x1)
  | exc c ns xs S1 => exact postS_exc p (.refl ..) s
theorem runTS {m : Res Bool} {k : Bool → Sto → SRes} {C : Bool → Hp → Prop} (g : GoodT X sl W e v S m) (R : Rel (fx X sl) F r S H) (s : SR (fx X sl) F r v σ) (p : PostS (fx X sl) W F r H (m.st v k) Dn)
    (h : ∀ d S1 F1 r1 H1, Rel (fx X sl) F1 r1 S1 H1 → Ext F r H F1 r1 H1 → SR (fx X sl) F1 r1 v σ → PostS (fx X sl) W F1 r1 H1 (k d S1) Dn → C d H1) : semT X e σ H C := by
  refine g F r σ H R s C ?_
  cases m with
  | bad => exact p.elim
  | ok d S1 => exact fun F1 r1 H1 R1 x1 => h d S1 F1 r1 H1 R1 x1 (s.step x1) (PostS.step (m := k d S1) p x1)
  | exc c ns xs S1 => exact postS_exc p (.refl ..) s
theorem runAS {es : List Expr} {m : Res (List D)} {k : List D → Sto → SRes} {C : List V → Hp → Prop} (g : GoodA X sl W es v S m) (R : Rel (fx X sl) F r S H) (s : SR (fx X sl) F r v σ) (p : PostS (fx X sl) W F r H (m.st v k) Dn)
    (h : ∀ d S1 F1 r1 H1 x, Rel (fx X sl) F1 r1 S1 H1 → Ext F r H F1 r1 H1 → VRs (fx X sl) F1 r1 d x → SR (fx X sl) F1 r1 v σ → PostS (fx X sl) W F1 r1 H1 (k d S1) Dn → C x H1) : semA X es σ H C := by
  refine g F r σ H R s C ?_
  cases m with
  | bad => exact p.elim
  | ok d S1 => exact fun F1 r1 H1 x R1 x1 hx => h d S1 F1 r1 H1 x R1 x1 hx (s.step x1) (PostS.step (m := k d S1) p x1)
  | exc c ns xs S1 => exact postS_exc p (.refl ..) s
theorem runIS {m : Res DV.Itr} {k : DV.Itr → Sto → SRes} {C : It → Hp → Prop} (g : GoodI X sl W tg e v S m) (R : Rel (fx X sl) F r S H) (s : SR (fx X sl) F r v σ) (p : PostS (fx X sl) W F r H (m.st v k) Dn)
    (h : ∀ t S1 F1 r1 H1 J, Rel (fx X sl) F1 r1 S1 H1 → Ext F r H F1 r1 H1 → ItW (fx X sl) F1 r1 H1 t J → SR (fx X sl) F1 r1 v σ → PostS (fx X sl) W F1 r1 H1 (k t S1) Dn → C J H1) : semI X tg e σ H C := by
  refine g F r σ H R s C ?_
  cases m with
  | bad => exact p.elim
  | ok t S1 => exact fun F1 r1 H1 J R1 x1 w => h t S1 F1 r1 H1 J R1 x1 w (s.step x1) (PostS.step (m := k t S1) p x1)
  | exc c ns xs S1 => exact postS_exc p (.refl ..) s

/-! ### blocks -/
theorem good_B (gs : ∀ s v S, GoodS X sl W s v S (R.S c s v S)) : ∀ (ss : List Stmt) (v : Slots) (S : Sto), GoodB X sl W ss v S (evB R c ss v S)
  | [], v, S => fun F r σ H R' s Dn p => semSs_of pss_nil (p F r H σ R' (.refl ..) s)
  | st :: ss, v, S => by
    intro F r σ H R' s Dn p
    have ih := good_B gs ss
    refine semSs_of (pss_cons (ps_sem (st := st)) (pss_sem (sts := ss))) ?_
    refine gs st v S F r σ H R' s _ ?_
    unfold evB at p
    cases m : R.S c st v S with
    | bad => rw [m] at p; exact p.elim
    | nx v' S' =>
      rw [m] at p
      exact fun F1 r1 H1 σ1 R1 x1 s1 => ih v' S' F1 r1 σ1 H1 R1 s1 Dn (PostS.step p x1)
    | rt d S' => rw [m] at p; exact p
    | bk v' S' => rw [m] at p; exact p
    | ct v' S' => rw [m] at p; exact p
    | exc a b cc dd ee => rw [m] at p; exact p
theorem good_pass : GoodS X sl W (.Pass pos) v S (.nx v S) := fun F r σ H R' s Dn p => semS_of ps_pass (p F r H σ R' (.refl ..) s)
theorem good_break : GoodS X sl W (.Break pos) v S (.bk v S) := fun F r σ H R' s Dn p => semS_of ps_break (p F r H σ R' (.refl ..) s)
theorem good_continue : GoodS X sl W (.Continue pos) v S (.ct v S) := fun F r σ H R' s Dn p => semS_of ps_continue (p F r H σ R' (.refl ..) s)
theorem good_ret0 : GoodS X sl W (.Return none pos) v S (.rt .non S) := fun F r σ H R' s Dn p => semS_of ps_retN (p F r H _ R' (.refl ..) .non)
theorem good_ret {m : Res D} (g : GoodE X sl W e v S m) : GoodS X sl W (.Return (some e) pos) v S (m.st v fun d S1 => .rt d S1) := by
  intro F r σ H R' s Dn p
  refine semS_of (ps_ret (pe_sem (e := e))) ?_
  exact run1S g R' s p fun d S1 F1 r1 H1 x R1 x1 hx s1 p1 => p1 F1 r1 H1 x R1 (.refl ..) hx
theorem sw_no (h : isComp e = false) {t : Option Expr} {l : Nat} {env : Env} : swapsWith e t l env = pure false := by
  cases e <;> first | rfl | cases h
theorem good_expr {m : Res D} (g : GoodE X sl W e v S m) (hc : isComp e = false) : GoodS X sl W (.Expr e pos) v S (m.st v fun _ S1 => .nx v S1) := by
  intro F r σ H R' s Dn p
  refine semS_of (ps_expr (pe_sem (e := e)) (sw_no hc)) ?_
  exact run1S g R' s p fun d S1 F1 r1 H1 x R1 x1 hx s1 p1 => p1 F1 r1 H1 σ R1 (.refl ..) s1
theorem good_if {ss tt : List Stmt} (gt : ∀ e v S, GoodT X sl W e v S (R.T c e v S)) (gs : ∀ s v S, GoodS X sl W s v S (R.S c s v S)) :
    GoodS X sl W (.If e ss tt pos) v S ((R.T c e v S).st v fun k S1 => if k then evB R c ss v S1 else evB R c tt v S1) := by
  intro F r σ H R' s Dn p
  refine semS_of (ps_if (pt_sem (e := e)) (pss_sem (sts := ss)) (pss_sem (sts := tt))) ?_
  refine runTS (gt e v S) R' s p fun k S1 F1 r1 H1 R1 x1 s1 p1 => ?_
  cases k with
  | true => exact good_B gs ss v S1 F1 r1 σ H1 R1 s1 Dn p1
  | false => exact good_B gs tt v S1 F1 r1 σ H1 R1 s1 Dn p1
theorem good_while {ss : List Stmt} {n : Nat} (xs : XS X sl W c) (gt : ∀ e v S, GoodT X sl W e v S (R.T c e v S)) (gs : ∀ s v S, GoodS X sl W s v S (R.S c s v S)) :
    GoodS X sl W (.While e ss [] pos) v S (loopW (fun v S => R.T c e v S) (evB R c ss) n v S) := by
  intro F r σ H R' s Dn p
  refine semS_of (ps_while xs.own (pt_sem (e := e)) (pss_sem (sts := ss))) ?_
  refine ⟨fun m σ' H' => ∃ F' r' S' v', Rel (fx X sl) F' r' S' H' ∧ SR (fx X sl) F' r' v' σ' ∧ PostS (fx X sl) W F' r' H' (loopW (fun v S => R.T c e v S) (evB R c ss) m v' S') Dn, ⟨n, F, r, S, v, R', s, p⟩, ?_⟩
  rintro m σ' H' ⟨F', r', S', v', R2, s2, p2⟩
  cases m with
  | zero => exact p2.elim
  | succ m =>
    unfold loopW at p2
    refine runTS (gt e v' S') R2 s2 p2 fun k S1 F1 r1 H1 R1 x1 s1 p1 => ?_
    cases k with
    | false => exact p1 F1 r1 H1 σ' R1 (.refl ..) s1
    | true =>
      rw [if_pos rfl]
      rw [if_pos rfl] at p1
      refine ⟨fun σ'' H'' => ∃ F' r' S' v', Rel (fx X sl) F' r' S' H'' ∧ SR (fx X sl) F' r' v' σ'' ∧ PostS (fx X sl) W F' r' H'' (loopW (fun v S => R.T c e v S) (evB R c ss) m v' S') Dn, fun σ'' H'' h => ⟨m, Nat.lt_succ_self m, h⟩, ?_⟩
      refine good_B gs ss v' S1 F1 r1 σ' H1 R1 s1 _ ?_
      cases q : evB R c ss v' S1 with
      | bad => rw [q] at p1; exact p1.elim
      | nx v2 S2 => rw [q] at p1; exact fun F3 r3 H3 σ3 R3 x3 s3 => ⟨F3, r3, S2, v2, R3, s3, PostS.step p1 x3⟩
      | ct v2 S2 => rw [q] at p1; exact fun F3 r3 H3 σ3 R3 x3 s3 => ⟨F3, r3, S2, v2, R3, s3, PostS.step p1 x3⟩
      | bk v2 S2 => rw [q] at p1; exact p1
      | rt d S2 => rw [q] at p1; exact p1
      | exc a b cc dd ee => rw [q] at p1; exact p1
theorem loopF_src {body : D → Slots → Sto → SRes} {t : DV.Itr} : ∀ {ds : List D} {v : Slots} {S : Sto}, loopF body t ds v S ≠ .bad → okSrc S t = true
  | [], v, S, h => by
    unfold loopF at h
    split at h
    · assumption
    · exact absurd rfl h
  | d :: ds, v, S, h => by
    unfold loopF at h
    split at h
    · assumption
    · exact absurd rfl h
theorem PostS.ne (p : PostS (fx X sl) W F r H m Dn) : m ≠ .bad := fun z => by subst z; exact p
theorem good_for {ss : List Stmt} {t : Tg} (xs : XS X sl W c) (hG : Good sl R) (ht : tgOf c tg = some t) (hs : isSetE iter = false) :
    GoodS X sl W (.For tg iter ss [] pos) v S ((evI R c tg iter v S).st v fun it S1 => loopF (fun d v S => match t.put d v with
      | some v1 => evB R c ss v1 S
      | none => .bad) it it.xs v S1) := by
  have xd := xs.toXD
  have gs := hG.S X W c xs
  intro F r σ H R' s Dn p
  refine semS_of (ps_for xs.own xd.calm (pi_sem (tg := tg) (e := iter)) (pg_sem (tg := tg)) (pss_sem (sts := ss)) (setE_of hs)) ?_
  refine runIS (good_I xd (hG.E X W c xd)) R' s p fun it S1 F1 r1 H1 J R1 x1 w s1 p1 => ?_
  generalize hbody : (fun (d : D) (v : Slots) (S : Sto) => match t.put d v with | some v1 => evB R c ss v1 S | none => .bad) = body at p1
  obtain ⟨G, Yv, wk, hGG, hY⟩ := w
  refine for_it wk (fun i σ' H' => ∃ F' r' S' v', Rel (fx X sl) F' r' S' H' ∧ Ext F1 r1 H1 F' r' H' ∧ SR (fx X sl) F' r' v' σ' ∧ PostS (fx X sl) W F' r' H' (loopF body it (it.xs.drop i) v' S') Dn) ⟨F1, r1, S1, v, R1, .refl .., s1, by rw [List.drop_zero]; exact p1⟩ ?_ ?_ ?_
  · rintro i σ' H' _ ⟨F', r', S', v', R2, x2, s2, p2⟩
    exact hGG F' r' S' H' R2 x2 (loopF_src p2.ne)
  · rintro i xv σ' H' H'' hi ⟨F', r', S', v', R2, x2, s2, p2⟩ hy
    have hok := loopF_src p2.ne
    obtain ⟨F3, d, hd, R3, x3, hx⟩ := hY F' r' S' H' i xv H'' R2 x2 hok hi hy
    rw [drop_cons hd] at p2
    unfold loopF at p2
    rw [if_pos hok] at p2
    have hb1 : body d v' S' = (match t.put d v' with | some v1 => evB R c ss v1 S' | none => .bad) := by rw [← hbody]
    have s3 := s2.step x3
    have p3 := PostS.step p2 x3
    cases e1 : t.put d v' with
    | none => rw [hb1, e1] at p3; exact p3.elim
    | some v1 =>
      rw [hb1, e1] at p3
      dsimp only at p3
      refine good_tg xd ht e1 R3 hx s3 fun σ2 sr2 _ => ?_
      refine good_B gs ss v1 S' F3 r' σ2 H'' R3 sr2 _ ?_
      cases q : evB R c ss v1 S' with
      | bad => rw [q] at p3; exact p3.elim
      | nx v2 S2 => rw [q] at p3; exact fun F4 r4 H4 σ4 R4 x4 s4 => ⟨F4, r4, S2, v2, R4, (x2.trans x3).trans x4, s4, PostS.step p3 x4⟩
      | ct v2 S2 => rw [q] at p3; exact fun F4 r4 H4 σ4 R4 x4 s4 => ⟨F4, r4, S2, v2, R4, (x2.trans x3).trans x4, s4, PostS.step p3 x4⟩
      | bk v2 S2 => rw [q] at p3; exact p3
      | rt d S2 => rw [q] at p3; exact p3
      | exc a b cc dd ee => rw [q] at p3; exact p3
  · rintro σ' H' ⟨F', r', S', v', R2, x2, s2, p2⟩
    rw [List.drop_length] at p2
    have hok := loopF_src p2.ne
    unfold loopF at p2
    rw [if_pos hok] at p2
    exact p2 F' r' H' σ' R2 (.refl ..) s2
end
end DV
end

section
set_option Elab.async false
set_option linter.all false
set_option maxRecDepth 100000
set_option autoImplicit false
/-! The evaluator is right: stores. -/
namespace DV
open PySem PySem.Spec PyProof.Rows L2
section
variable {X : Cx} {sl : Slo} {W : WX} {c : Ctx} {e a b o i tg iter elt kx vx : Expr} {args : List Expr} {v v1 : Slots} {S S' : Sto} {F F' : Hp} {r r' : Rho} {σ : L2.St} {H H' : Hp} {R : Rec} {pos p2 apos : Pos} {ds : List D} {vs : List V} {Q : VK} {m : SRes} {Dn : Ends}
/-! ### values that are stored -/
theorem good_new (xd : XD X sl W c) (hG : Good sl R) {e : Expr} {m : Res Ob} (h : evNew R c e v S = some m) : GoodN X sl W e v S m := by
  have g := hG.E X W c xd
  unfold evNew at h
  split at h
  · cases h; exact good_list g
  · split at h
    · rename_i hk; subst hk; cases h; exact good_lc xd hG
    · cases h
  · split at h
    · rename_i hk; subst hk; cases h; exact good_dc xd hG
    · cases h
  · cases h; exact good_dnew
  · rename_i ks es pos hne
    split at h
    · rename_i hk
      cases h
      refine good_disp g ?_ hk
      rintro rfl
      cases es with
      | nil => exact hne rfl rfl
      | cons => cases hk
    · cases h
  · cases h
theorem good_mut1 (xd : XD X sl W c) (hG : Good sl R) (e : Expr) (v : Slots) (S : Sto) : GoodE X sl W e v S (evMut.evMut1 R c e v S) := by
  unfold evMut.evMut1
  cases h : evNew R c e v S with
  | none => exact hG.E X W c xd e v S
  | some m => exact (good_new xd hG h).mut
theorem good_mut (xd : XD X sl W c) (hG : Good sl R) (e : Expr) (v : Slots) (S : Sto) : GoodE X sl W e v S (evMut R c e v S) := by
  unfold evMut
  split
  · rename_i t a b pos
    intro F r σ H R' s Q p
    refine semE_of (pe_ifExp (pt_sem (e := t)) (pe_sem (e := a)) (pe_sem (e := b))) ?_
    refine runT pd_step (hG.T X W c xd t v S) R' s p fun k S1 F1 r1 H1 R1 x1 s1 p1 => ?_
    cases k with
    | true => exact good_mut1 xd hG a v S1 F1 r1 σ H1 R1 s1 Q p1
    | false => exact good_mut1 xd hG b v S1 F1 r1 σ H1 R1 s1 Q p1
  · exact good_mut1 xd hG _ v S
theorem good_Am (xd : XD X sl W c) (hG : Good sl R) : ∀ (ts es : List Expr) (v : Slots) (S : Sto), noStar es = true → GoodA X sl W es v S (evAm R c ts es v S)
  | [], [], v, S, _ => fun F r σ H R' s Q p => semA_of pa_nil (p F r H [] R' (.refl ..) .nil)
  | t :: ts, e :: es, v, S, hn => by
    obtain ⟨hn1, hn2⟩ := noStar_ne hn
    have ih := good_Am xd hG ts es
    have he : GoodE X sl W e v S (match t with | .Name x _ => if c.mutv.contains x then evMut R c e v S else R.E c e v S | _ => R.E c e v S) := by
      split
      · split
        · exact good_mut xd hG e v S
        · exact hG.E X W c xd e v S
      · exact hG.E X W c xd e v S
    intro F r σ H R' s Q p
    unfold evAm at p
    refine semA_of (pa_cons (pe_sem (e := e)) (pa_sem (es := es)) (starEach_cons hn1)) ?_
    refine run1 pl_step he R' s p fun d S1 F1 r1 H1 x R1 x1 hx s1 p1 => ?_
    refine runA pl_step (ih v S1 hn2) R1 s1 p1 fun ds S2 F2 r2 H2 ys R2 x2 hy s2 p2 => ?_
    exact p2 F2 r2 H2 _ R2 (.refl ..) (.cons (x2.mono hx) hy)
  | [], _ :: _, v, S, _ => fun F r σ H R' s Q p => p.elim
  | _ :: _, [], v, S, _ => fun F r σ H R' s Q p => p.elim

/-! ### name = e -/
theorem blockK {env : Env} (h : env.scope.kind = .function) : env.blockKind = .function := by unfold Env.blockKind; rw [h]; rfl
theorem sw_lc {gs : List Comprehension} {sc : Scope} {q : Pos} {x : Str} {p : Pos} {l : Nat} {env : Env} (hk : env.scope.kind = .function) (hs : env.scope = c.sc) : swapsWith (.ListComp elt gs sc q) (some (.Name x p)) l env = pure (swB c sc x p q) := by
  unfold swapsWith swB
  have hb := blockK hk
  have kx : env.kindOf x = c.sc.names.lookup x := by unfold Env.kindOf; rw [hs]
  simp only [hb, kx]
  rfl
theorem sw_dc {gs : List Comprehension} {sc : Scope} {q : Pos} {x : Str} {p : Pos} {l : Nat} {env : Env} (hk : env.scope.kind = .function) (hs : env.scope = c.sc) : swapsWith (.DictComp kx vx gs sc q) (some (.Name x p)) l env = pure (swB c sc x p q) := by
  unfold swapsWith swB
  have hb := blockK hk
  have kx : env.kindOf x = c.sc.names.lookup x := by unfold Env.kindOf; rw [hs]
  simp only [hb, kx]
  rfl
theorem good_set {x : Str} {p : Pos} {n : Nat} (xd : XD X sl W c) (hG : Good sl R) (hn : nameIx c (.Name x p) = some n) :
    GoodS X sl W (.Assign [.Name x p] e pos) v S ((evSet R c x p e v S).st v fun d S1 => if n < v.length then .nx (v.set n (some d)) S1 else .bad) := by
  obtain ⟨x', p', ex, q1, q2, q3⟩ := nameIx_of xd hn
  cases ex
  obtain ⟨l1, l2⟩ := locOk_of xd q2
  have hN : X.N.Nodup := by rw [xd.N]; exact xd.nd
  have fin : ∀ {m : Res D}, GoodE X sl W e v S m → (∀ (l : Nat), X.env.scope.kind = .function → swapsWith e (some (.Name x p)) l X.env = pure false) → GoodS X sl W (.Assign [.Name x p] e pos) v S (m.st v fun d S1 => if n < v.length then .nx (v.set n (some d)) S1 else .bad) := by
    intro m g hs F r σ H R' s Dn pp pins s0 I
    refine semS_of (ps_set hN q1 l1 (pe_sem (e := e)) (hs _ I.ok.kind) l2) ?_ pins s0 I
    refine run1S g R' s pp fun d S1 F1 r1 H1 x R1 x1 hx s1 p1 => ?_
    split at p1
    · exact p1 F1 r1 H1 _ R1 (.refl ..) (s1.set hx n)
    · exact p1.elim
  unfold evSet
  split
  · rename_i elt gs sc q
    split
    · rename_i m hm
      by_cases hb : swB c sc x p q = true
      · -- stored within
        cases gs with
        | nil => exact absurd hm (by unfold evNew; exact fun z => by cases z)
        | cons gg gs =>
        cases gs with
        | cons => obtain ⟨_, _, _, _⟩ := gg; exact absurd hm (by unfold evNew; exact fun z => by cases z)
        | nil =>
          obtain ⟨tg, iter, ifs, k⟩ := gg
          have hm : (if k = 0 then some ((evLc R c elt tg iter ifs sc v S).bind fun xs S1 => Res.ok (Ob.lst xs) S1) else none) = some m := hm
          split at hm
          · rename_i hk
            subst hk
            cases hm
            intro F r σ H R' s Dn pp pins s0 I
            have hsw := sw_lc (c := c) (elt := elt) (gs := [⟨tg, iter, ifs, 0⟩]) (sc := sc) (q := q) (x := x) (p := p) (l := pos.line) I.ok.kind xd.sc
            rw [hb] at hsw
            have hyl : X.env.scope.names.lookup x = some .local := by
              unfold swB at hb
              simp only [Bool.and_eq_true, beq_iff_eq] at hb
              rw [xd.sc]; exact hb.1.1.2
            have key : ∀ p1 : PostR (fx X sl) F r H ((evLc R c elt tg iter ifs sc v S).bind fun xs S1 => .ok (.lst xs) S1) (PN (fx X sl) fun w H1 => Dn.nx (σ.set n (some w)) H1) (EW W σ), wpAny (model X.prog X.w) X.A (exec (.Assign [.Name x p] (.ListComp elt [⟨tg, iter, ifs, 0⟩] sc q) pos) X.env) (SP X pins Dn) X.xe s0 := fun p1 => by
              obtain ⟨own, ok, hse, h⟩ := lc_reads xd hG R' s _ p1
              exact semS_of (ps_setLc xd.calm hN q1 hyl hsw (pi_sem (tg := tg) (e := iter)) ok all_g all_t all_e (setE_of hse)) h pins s0 I
            refine key ?_
            have conv : ∀ {f : Ob → Sto → Res D}, (∀ {m : Res Ob} {Q : VK} {E : XK}, PostR (fx X sl) F r H (m.bind f) (PD (fx X sl) Q) E → PostR (fx X sl) F r H m (PN (fx X sl) Q) E) → PostS (fx X sl) W F r H ((((evLc R c elt tg iter ifs sc v S).bind fun xs S1 => .ok (.lst xs) S1).bind f).st v fun d S1 => if n < v.length then .nx (v.set n (some d)) S1 else .bad) Dn →
                PostR (fx X sl) F r H ((evLc R c elt tg iter ifs sc v S).bind fun xs S1 => .ok (.lst xs) S1) (PN (fx X sl) fun w H1 => Dn.nx (σ.set n (some w)) H1) (EW W σ) := fun {f} hf pp => by
              refine hf ?_
              generalize ((evLc R c elt tg iter ifs sc v S).bind fun xs S1 => Res.ok (Ob.lst xs) S1).bind f = mm at pp ⊢
              cases mm with
              | bad => exact pp
              | exc a b cc dd => exact postS_exc pp (.refl ..) s
              | ok d S1 =>
                intro F1 r1 H1 w R1 x1 hw
                have pp := PostS.step (m := if n < v.length then .nx (v.set n (some d)) S1 else .bad) pp x1
                split at pp
                · exact pp F1 r1 H1 _ R1 (.refl ..) ((s.step x1).set hw n)
                · exact pp.elim
            split at pp
            · exact conv (fun h => pn_mut h) pp
            · exact conv (fun h => pn_val h) pp
          · cases hm
      · have hb' : swB c sc x p q = false := by simpa using hb
        have hs : ∀ (l : Nat), X.env.scope.kind = .function → swapsWith (.ListComp elt gs sc q) (some (.Name x p)) l X.env = pure false := fun l hk => by rw [sw_lc hk xd.sc, hb']
        split
        · exact fin (good_new xd hG hm).mut hs
        · exact fin (good_new xd hG hm).val hs
    · exact fun F r σ H R' s Dn pp => pp.elim
  · rename_i kx vx gs sc q
    split
    · exact fun F r σ H R' s Dn pp => pp.elim
    · rename_i hb
      have hb' : swB c sc x p q = false := by simpa using hb
      have hs : ∀ (l : Nat), X.env.scope.kind = .function → swapsWith (.DictComp kx vx gs sc q) (some (.Name x p)) l X.env = pure false := fun l hk => by rw [sw_dc hk xd.sc, hb']
      split
      · rename_i m hm
        split
        · exact fin (good_new xd hG hm).mut hs
        · exact fin (good_new xd hG hm).val hs
      · exact fun F r σ H R' s Dn pp => pp.elim
  · exact fun F r σ H R' s Dn pp => pp.elim
  · rename_i h1 h2 h3
    have hs : ∀ (l : Nat), X.env.scope.kind = .function → swapsWith e (some (.Name x p)) l X.env = pure false := fun l _ => sw_no (by
      cases e <;> first | rfl | (exact (h1 _ _ _ _ rfl).elim) | (exact (h2 _ _ _ _ _ rfl).elim) | (exact (h3 _ _ _ _ rfl).elim))
    split
    · exact fin (good_mut xd hG e v S) hs
    · exact fin (hG.E X W c xd e v S) hs
end
end DV
end

section
set_option Elab.async false
set_option linter.all false
set_option maxRecDepth 100000
set_option autoImplicit false
/-! The evaluator is right: tuples of targets, items, attributes. -/
namespace DV
open PySem PySem.Spec PyProof.Rows L2
section
variable {X : Cx} {sl : Slo} {W : WX} {c : Ctx} {e a b o i tg iter elt kx vx : Expr} {args : List Expr} {v v1 : Slots} {S S' : Sto} {F F' : Hp} {r r' : Rho} {σ : L2.St} {H H' : Hp} {R : Rec} {pos p2 apos : Pos} {ds : List D} {vs : List V} {Q : VK} {m : SRes} {Dn : Ends}
theorem swSt_ok {ts es : List Expr} {k k2 : Nat} {p p2 : Pos} {env : Env} {sc : Scope} {o : Option (List Str)} (hk : env.scope.kind = .function) (hs : env.scope = sc) (h : swSt sc ts es = some o) : swappedStores [.Tuple ts k p] (.Tuple es k2 p2) env = pure o := by
  have hb := blockK hk
  subst hs
  unfold swappedStores
  unfold swSt at h
  simp only [hb]
  have e1 : (ScopeKind.function != ScopeKind.function) = false := rfl
  simp only [e1, Bool.or_false]
  have e2 : (es.any fun | .Starred .. => true | _ => false) = es.any isStar := by
    apply congrArg (fun f => List.any es f)
    funext x
    cases x <;> rfl
  split at h
  · rename_i c1
    cases h
    rw [if_pos c1]
  · rename_i c1
    rw [if_neg c1]
    show (if (es.any fun | .Starred .. => true | _ => false) = true then (pure none : Sem (Option (List Str))) else _) = _
    rw [e2]
    split at h
    · rename_i c2
      cases h
      rw [if_pos c2]
    · rename_i c2
      rw [if_neg c2]
      have key : ∀ names : List Str, (if (names.length != ts.length || names.eraseDups.length != names.length) = true then some none else if (es.all (foldedForSure 8)) = true then some none else if (es.all (constantsAlone 8)) = true then none else some (some names)) = some o →
          (if (names.length != ts.length || names.eraseDups.length != names.length) = true then (pure none : Sem (Option (List Str))) else if (es.all (foldedForSure 8)) = true then pure none else do
            if (es.all (constantsAlone 8)) = true then unsupported "assign.tuple-of-constant-expressions:order-of-the-stores"
            pure (some names)) = pure o := fun names h => by
        split at h
        · rename_i c3
          cases h
          rw [if_pos c3]
        · rename_i c3
          rw [if_neg c3]
          split at h
          · rename_i c4
            cases h
            rw [if_pos c4]
          · rename_i c4
            rw [if_neg c4]
            split at h
            · cases h
            · rename_i c5
              cases h
              rw [if_neg c5]
      exact key _ h
/-! ### tuples of targets -/
theorem sws_tup {es : List Expr} {k : Nat} {p : Pos} {l : Nat} {env : Env} : swapsWithSole [.Tuple es k p] e l env = pure false := by
  cases e <;> rfl
theorem sst_no {es : List Expr} {k : Nat} {p : Pos} {env : Env} (h : isTupE e = false) : swappedStores [.Tuple es k p] e env = pure none := by
  cases e <;> first | rfl | cases h
theorem good_tupA {es : List Expr} {k : Nat} {p : Pos} {t : Tg} (xd : XD X sl W c) (hG : Good sl R) (ht : tgOf c (.Tuple es k p) = some t) (he : isTupE e = false) :
    GoodS X sl W (.Assign [.Tuple es k p] e pos) v S ((R.E c e v S).st v fun d S1 => (match t.put d v with
      | some v1 => .nx v1 S1
      | none => .bad)) := by
  intro F r σ H R' s Dn pp
  refine semS_of (ps_asg (pe_sem (e := e)) (pg_sem (tg := .Tuple es k p)) sws_tup (sst_no he)) ?_
  refine run1S (hG.E X W c xd e v S) R' s pp fun d S1 F1 r1 H1 x R1 x1 hx s1 p1 => ?_
  cases e1 : t.put d v with
  | none => rw [e1] at p1; exact p1.elim
  | some v1 =>
    rw [e1] at p1
    exact good_tg xd ht e1 R1 hx s1 fun σ2 sr2 _ => p1 F1 r1 H1 σ2 R1 (.refl ..) sr2
theorem good_parA {es ws : List Expr} {k k2 : Nat} {p p2 : Pos} {t : Tg} (xd : XD X sl W c) (hG : Good sl R) (ht : tgOf c (.Tuple es k p) = some t) (hn : noStar ws = true) (hsw : swSt c.sc es ws = some none) :
    GoodS X sl W (.Assign [.Tuple es k p] (.Tuple ws k2 p2) pos) v S ((evAm R c es ws v S).st v fun ds S1 => if ds.length ≤ sizeLine then (match setAll t.ixs ds v with
        | some v1 => .nx v1 S1
        | none => .bad) else .bad) := by
  intro F r σ H R' s Dn pp pins s0 I
  refine semS_of (ps_asg (pe_tup (pa_sem (es := ws))) (pg_sem (tg := .Tuple es k p)) sws_tup (swSt_ok I.ok.kind xd.sc hsw)) ?_ pins s0 I
  refine runAS (good_Am xd hG es ws v S hn) R' s pp fun ds S1 F1 r1 H1 us R1 x1 hs s1 p1 => ?_
  split at p1
  · rename_i hl
    refine ⟨by rw [← hs.length]; exact hl, fun q hq => ?_⟩
    obtain ⟨R2, x2⟩ := R1.laidF hq (.tup us)
    cases e1 : setAll t.ixs ds v with
    | none => rw [e1] at p1; exact p1.elim
    | some v1 =>
      rw [e1] at p1
      have e2 : t.put (.tup ds) v = some v1 := by
        have ht' : (namesIx c es).map Tg.many = some t := ht
        cases h1 : namesIx c es with
        | none => rw [h1] at ht'; cases ht'
        | some is => rw [h1] at ht'; cases ht'; exact e1
      exact good_tg xd ht e2 R2 (.tup (.of upd_same) (x2.monos hs)) (s1.step x2) fun σ2 sr2 _ => p1 _ _ _ σ2 R2 x2 sr2
  · exact p1.elim
theorem isLocal_of (xd : XD X sl W c) {x : Str} (h : isLocal c x = true) : X.env.scope.names.lookup x = some .local := by
  rw [xd.sc]; exact of_decide_eq_true h
theorem ix_ne (xd : XD X sl W c) {x y : Str} {i j : Nat} (hx : ixOf c.N x = some i) (hy : ixOf c.N y = some j) (h : x ≠ y) : i ≠ j := fun z => by
  subst z
  have h1 := ixOf_get hx
  have h2 := ixOf_get hy
  rw [h1] at h2
  exact h (Option.some.inj h2)
theorem good_par2 {x y : Str} {px py p p2 : Pos} {k k2 : Nat} {i j : Nat} (xd : XD X sl W c) (hG : Good sl R) (hn : noStar [a, b] = true) (hsw : swSt c.sc [.Name x px, .Name y py] [a, b] = some (some [x, y])) (hxy : x ≠ y) (lx : isLocal c x = true) (ly : isLocal c y = true) (hi : ixOf c.N x = some i) (hj : ixOf c.N y = some j) :
    GoodS X sl W (.Assign [.Tuple [.Name x px, .Name y py] k p] (.Tuple [a, b] k2 p2) pos) v S ((evAm R c [.Name x px, .Name y py] [a, b] v S).st v fun ds S1 => (match setAll [i, j] ds v with
          | some v1 => .nx v1 S1
          | none => .bad)) := by
  intro F r σ H R' s Dn pp pins s0 I
  have hN : X.N.Nodup := by rw [xd.N]; exact xd.nd
  refine semS_of (ps_par xd.calm hN (by rw [xd.N]; exact ixOf_get hi) (by rw [xd.N]; exact ixOf_get hj) (ix_ne xd hi hj hxy) (isLocal_of xd lx) (isLocal_of xd ly) (pa_sem (es := [a, b])) (swSt_ok I.ok.kind xd.sc hsw) sws_tup) ?_ pins s0 I
  refine runAS (good_Am xd hG _ [a, b] v S hn) R' s pp fun ds S1 F1 r1 H1 us R1 x1 hs s1 p1 => ?_
  cases e1 : setAll [i, j] ds v with
  | none => rw [e1] at p1; exact p1.elim
  | some v1 =>
    rw [e1] at p1
    obtain ⟨l1, l2⟩ := setAll_ok hs s1 e1
    cases us with
    | nil => cases l1
    | cons u1 us => cases us with
      | nil => cases l1
      | cons u2 us => cases us with
        | cons => cases l1
        | nil => exact ⟨u1, u2, rfl, p1 F1 r1 H1 _ R1 (.refl ..) l2⟩
theorem good_par3 {x y z : Str} {px py pz p p2 : Pos} {d : Expr} {k k2 : Nat} {i j l : Nat} (xd : XD X sl W c) (hG : Good sl R) (hn : noStar [a, b, d] = true) (hsw : swSt c.sc [.Name x px, .Name y py, .Name z pz] [a, b, d] = some (some [x, y, z])) (h : x ≠ y ∧ x ≠ z ∧ y ≠ z) (lx : isLocal c x = true) (ly : isLocal c y = true) (lz : isLocal c z = true) (hi : ixOf c.N x = some i) (hj : ixOf c.N y = some j) (hl : ixOf c.N z = some l) :
    GoodS X sl W (.Assign [.Tuple [.Name x px, .Name y py, .Name z pz] k p] (.Tuple [a, b, d] k2 p2) pos) v S ((evAm R c [.Name x px, .Name y py, .Name z pz] [a, b, d] v S).st v fun ds S1 => (match setAll [i, j, l] ds v with
          | some v1 => .nx v1 S1
          | none => .bad)) := by
  intro F r σ H R' s Dn pp pins s0 I
  have hN : X.N.Nodup := by rw [xd.N]; exact xd.nd
  refine semS_of (ps_par3 xd.calm hN (by rw [xd.N]; exact ixOf_get hi) (by rw [xd.N]; exact ixOf_get hj) (by rw [xd.N]; exact ixOf_get hl) (ix_ne xd hi hj h.1) (ix_ne xd hi hl h.2.1) (ix_ne xd hj hl h.2.2) (isLocal_of xd lx) (isLocal_of xd ly) (isLocal_of xd lz) (pa_sem (es := [a, b, d])) (swSt_ok I.ok.kind xd.sc hsw) sws_tup) ?_ pins s0 I
  refine runAS (good_Am xd hG _ [a, b, d] v S hn) R' s pp fun ds S1 F1 r1 H1 us R1 x1 hs s1 p1 => ?_
  cases e1 : setAll [i, j, l] ds v with
  | none => rw [e1] at p1; exact p1.elim
  | some v1 =>
    rw [e1] at p1
    obtain ⟨l1, l2⟩ := setAll_ok hs s1 e1
    cases us with
    | nil => cases l1
    | cons u1 us => cases us with
      | nil => cases l1
      | cons u2 us => cases us with
        | nil => cases l1
        | cons u3 us => cases us with
          | cons => cases l1
          | nil => exact ⟨u1, u2, u3, rfl, p1 F1 r1 H1 _ R1 (.refl ..) l2⟩

/-! ### items -/
def setSem (X : Cx) : TSet := fun o i v H Q => ∀ (pins : List (Addr × Obj)) (s : Shared) (σ : L2.St) (ov iv u : Value), Inv X pins σ H s → RelV o ov → RelV i iv → RelV v u → wpAny (model X.prog X.w) X.A (setItem ov iv u) (fun _ s' => ∃ H', Inv X pins σ H' s' ∧ Q H') X.xe s
theorem pset_sem : PSet X (setSem X) := fun pins s σ H o i v ov iv u Q I ro ri rv h => h pins s σ ov iv u I ro ri rv
theorem setSem_of {t : TSet} {o i w : V} {Q : Hp → Prop} (h : PSet X t) (q : t o i w H Q) : setSem X o i w H Q := fun pins s σ ov iv u I ro ri rv => h pins s σ H o i w ov iv u Q I ro ri rv q
theorem VRs.set' {Y : Fx} {d : D} {w : V} (h : VR Y F r d w) {ds : List D} {vs : List V} (i : Nat) (hs : VRs Y F r ds vs) : VRs Y F r (ds.set i d) (vs.set i w) := VRs.set h i hs
theorem putV_ok {od id d : D} {o' i' w : V} {Qh : Hp → Prop} (hu : X.A.units + 1 < cLine) (R' : Rel (fx X sl) F r S H) (ho : VR (fx X sl) F r od o') (hi : VR (fx X sl) F r id i') (hd : VR (fx X sl) F r d w) (e : putV od id d S = some S')
    (q : ∀ H', Rel (fx X sl) F r S' H' → Ext F r H F r H' → Qh H') : setSem X o' i' w H Qh := by
  unfold putV at e
  split at e
  · rename_i n
    split at e
    · rename_i xs hS
      split at e
      · rename_i j
        cases hj : ixN xs.length j with
        | none => rw [hj] at e; cases e
        | some kx =>
          rw [hj] at e; cases e
          obtain ⟨ad, ha⟩ := R'.live n _ hS (by intro z; cases z)
          obtain ⟨ob, h1, h2⟩ := R'.ob n ad ha
          rw [hS] at h1; cases h1
          obtain ⟨us, h3, h4⟩ := h2
          cases ho with
          | ref hn hv =>
            have ev := hv ad ha
            subst ev
            cases hi
            obtain ⟨R2, x2⟩ := R'.put (H' := upd H ad (.lst (us.set kx w))) (ob := .lst (xs.set kx d)) ha rfl (by intro z; cases z) (fun b hb => upd_ne hb) ⟨_, upd_same, VRs.set hd kx h4⟩
            exact setSem_of set_list ⟨ad, us, j, kx, rfl, rfl, h3, by rw [← h4.length]; exact hj, q _ R2 x2⟩
      · cases e
    · rename_i ks xs hS
      split at e
      · rename_i kk hk
        split at e
        · rename_i hl
          cases e
          obtain ⟨ad, ha⟩ := R'.live n _ hS (by intro z; cases z)
          obtain ⟨ob, h1, h2⟩ := R'.ob n ad ha
          rw [hS] at h1; cases h1
          obtain ⟨kvs, h3, h5, h4⟩ := h2
          cases ho with
          | ref hn hv =>
            have ev := hv ad ha
            subst ev
            have ek := toKey_ok hi hk
            subst ek
            obtain ⟨m1, m2⟩ := dput_ok hd kk h5 h4
            have el : kvs.length = ks.length := by have := congrArg List.length h5; simpa using this
            obtain ⟨R2, x2⟩ := R'.put (H' := upd H ad (.dK (putK kvs kk w))) (ob := .dict (dput ks xs kk d).1 (dput ks xs kk d).2) ha rfl (by intro z; cases z) (fun b hb => upd_ne hb) ⟨_, upd_same, m1, m2⟩
            exact setSem_of (set_dict hu) ⟨ad, _, rfl, .k h3 (by omega), q _ R2 x2⟩
        · cases e
      · cases e
    · cases e
  · cases e
theorem asg_sub {po : Pos} {env : Env} (hs : isSlice i = false) : ∀ v, assign (.Subscript o i po) env v = (do
      let ov ← holding [v] (eval o env)
      let iv ← holding [v, ov] (eval i env)
      standAt po
      holding [v, ov, iv] (setItem ov iv v)
      release [v, ov, iv] []) := fun v => by
  cases i <;> first | rfl | cases hs
theorem good_put {po : Pos} (xd : XD X sl W c) (hG : Good sl R) (hs : isSlice i = false) :
    GoodS X sl W (.Assign [.Subscript o i po] e pos) v S ((R.E c e v S).st v fun d S1 => (R.E c o v S1).st v fun od S2 => (R.E c i v S2).st v fun id S3 => (match putV od id d S3 with
    | some S4 => .nx v S4
    | none => .bad)) := by
  have hu := hu65 xd
  have g := hG.E X W c xd
  intro F r σ H R' s Dn pp
  refine semS_of (ps_asg (pe_sem (e := e)) (pg_sub (pe_sem (e := o)) (pe_sem (e := i)) pset_sem (asg_sub hs)) (by cases e <;> rfl) (by cases e <;> rfl)) ?_
  refine run1S (g e v S) R' s pp fun d S1 F1 r1 H1 x R1 x1 hx s1 p1 => ?_
  refine run1S (g o v S1) R1 s1 p1 fun od S2 F2 r2 H2 o' R2 x2 ho s2 p2 => ?_
  refine run1S (g i v S2) R2 s2 p2 fun id S3 F3 r3 H3 i' R3 x3 hi s3 p3 => ?_
  cases e1 : putV od id d S3 with
  | none => rw [e1] at p3; exact p3.elim
  | some S4 =>
    rw [e1] at p3
    exact putV_ok (by omega) R3 (x3.mono ho) hi ((x2.trans x3).mono hx) e1 fun H4 R4 x4 => p3 _ _ H4 σ R4 x4 (s3.step x4)
theorem good_putN {y : Str} {po p p2 : Pos} {k j : Nat} (xd : XD X sl W c) (hG : Good sl R) (hs : isSlice i = false) (he : isTupE e = false) (hj : nameIx c (.Name y p) = some j) :
    GoodS X sl W (.Assign [.Tuple [.Subscript o i po, .Name y p] k p2] e pos) v S ((R.E c e v S).st v fun d S1 => (match d with
      | .tup [d1, d2] => (R.E c o v S1).st v fun od S2 => (R.E c i v S2).st v fun id S3 => (match putV od id d1 S3 with
        | some S4 => if j < v.length then .nx (v.set j (some d2)) S4 else .bad
        | none => .bad)
      | _ => .bad)) := by
  have hu := hu65 xd
  have g := hG.E X W c xd
  obtain ⟨y', p', ey, q1, q2, q3⟩ := nameIx_of xd hj
  cases ey
  intro F r σ H R' s Dn pp
  have pgs : PGs X [.Subscript o i po, .Name y p] (gCons (gSub (semE X o) (semE X i) (setSem X)) (gCons (gName j) gNil)) := pgs_cons (pg_sub (pe_sem (e := o)) (pe_sem (e := i)) pset_sem (asg_sub hs)) (pgs_cons q3 pgs_nil)
  refine semS_of (ps_asg (pe_sem (e := e)) (pg_tup xd.calm pgs rfl rfl) sws_tup (sst_no he)) ?_
  refine run1S (g e v S) R' s pp fun d S1 F1 r1 H1 x R1 x1 hx s1 p1 => ?_
  split at p1
  · rename_i d1 d2
    obtain ⟨ad, us, rfl, h2, h3⟩ := hx.isTup R1
    cases h3 with
    | @cons _ u1 _ us h3 h4 => cases h4 with
      | @cons _ u2 _ us h4 h5 =>
        cases h5
        refine ⟨ad, [u1, u2], rfl, h2, rfl, u1, [u2], rfl, ?_⟩
        refine run1S (g o v S1) R1 s1 p1 fun od S2 F2 r2 H2 o' R2 x2 ho s2 p2 => ?_
        refine run1S (g i v S2) R2 s2 p2 fun id S3 F3 r3 H3 i' R3 x3 hi s3 p3 => ?_
        cases e1 : putV od id d1 S3 with
        | none => rw [e1] at p3; exact p3.elim
        | some S4 =>
          rw [e1] at p3
          dsimp only at p3
          split at p3
          · have x23 := x2.trans x3
            refine putV_ok (by omega) R3 (x3.mono ho) hi (x23.mono h3) e1 fun H4 R4 x4 => ?_
            exact ⟨u2, [], rfl, rfl, p3 _ _ H4 _ R4 x4 ((s3.step x4).set ((x23.trans x4).mono h4) j)⟩
          · exact p3.elim
  · exact p1.elim
theorem good_aug {x : Str} {p : Pos} {n : Nat} (xd : XD X sl W c) (hG : Good sl R) (hn : nameIx c (.Name x p) = some n) :
    GoodS X sl W (.AugAssign (.Name x p) .Add e pos) v S (match (v[n]?).join with
      | some (.int a) => (R.E c e v S).st v fun d S1 => (match d with
        | .int b => if n < v.length then .nx (v.set n (some (.int (a + b)))) S1 else .bad
        | _ => .bad)
      | _ => .bad) := by
  obtain ⟨x', p', ex, q1, q2, q3⟩ := nameIx_of xd hn
  cases ex
  obtain ⟨l1, l2⟩ := locOk_of xd q2
  have hN : X.N.Nodup := by rw [xd.N]; exact xd.nd
  intro F r σ H R' s Dn pp
  refine semS_of (ps_aug hN q1 l1 (pe_sem (e := e)) ip_add l2) ?_
  cases hj : (v[n]?).join with
  | none => rw [hj] at pp; exact pp.elim
  | some d0 =>
    rw [hj] at pp
    have hs : v[n]? = some (some d0) := by
      cases z : v[n]? with
      | none => rw [z] at hj; cases hj
      | some o => rw [z] at hj; simp at hj; rw [hj]
    cases d0 with
    | int a0 =>
      obtain ⟨y, h1, h2⟩ := s.at_ n _ hs
      cases h2
      refine ⟨_, h1, ?_⟩
      refine run1S (hG.E X W c xd e v S) R' s pp fun d S1 F1 r1 H1 x R1 x1 hx s1 p1 => ?_
      cases hx <;> first | exact p1.elim | skip
      by_cases hl : n < v.length
      · dsimp only at p1
        rw [if_pos hl] at p1
        exact ⟨_, _, rfl, rfl, p1 F1 r1 H1 _ R1 (.refl ..) (s1.set (.int _) n)⟩
      · dsimp only at p1
        rw [if_neg hl] at p1
        exact p1.elim
    | _ => exact pp.elim
end
end DV
end

section
set_option Elab.async false
set_option linter.all false
set_option maxRecDepth 100000
set_option autoImplicit false
/-! The evaluator is right: attributes stored. -/
namespace DV
open PySem PySem.Spec PyProof.Rows L2
section
variable {Y : Fx} {F : Hp} {r : Rho} {S S' : Sto} {H : Hp} {a C dx : Addr} {n : Nat} {ob : Ob} {us : List (Option V)}
/-- an instance with slots is changed: its dict turns, too -/
theorem Rel.putSl (R : Rel Y F r S H) (hn : r[n]? = some (some a)) (hS : S' = S.set n ob) (hnd : ob ≠ .dead) (hd : H dx = some (.own a) ∨ H dx = some (.xd [])) (hne : dx ≠ a) (new : OR Y F r (SlX.slH H a C dx us) a ob) :
    Rel Y F r S' (SlX.slH H a C dx us) ∧ Ext F r H F r (SlX.slH H a C dx us) := by
  have hdx : SlX.slH H a C dx us dx = some (.xd []) := by unfold SlX.slH; rw [upd_ne hne, upd_same]
  have same : ∀ b, b ≠ a → b ≠ dx → SlX.slH H a C dx us b = H b := fun b h1 h2 => SlX.slH_ne h1 h2
  have hx : ∀ c, H c = some (.xd []) → SlX.slH H a C dx us c = some (.xd []) := fun c q => by
    by_cases h : c = dx
    · subst h; exact hdx
    · rw [same c (fun z => R.notxd q n (z ▸ hn)) h]; exact q
  have hlt : n < S.length := by
    obtain ⟨_, h1, _⟩ := R.ob n a hn
    exact (List.getElem?_eq_some_iff.mp h1).1
  subst hS
  refine ⟨⟨fun b u e => ?_, by simp [R.len], R.dis, R.inj, fun m b e => ?_, fun m u e hu => ?_, R.noo⟩, ⟨fun _ _ h => h, fun _ _ h => .inl h, .refl r, fun n b h => .inl h, fun b u e hb hu => ?_, fun b e => ?_⟩⟩
  · have hb : b ≠ a := fun z => by rw [z, R.dis n a hn] at e; cases e
    by_cases h : b = dx
    · subst h
      have e2 := R.sub b u e
      rcases hd with hd | hd
      · rw [hd] at e2; cases e2; exact absurd e (R.noo _ _)
      · rw [hd] at e2; cases e2; exact hdx
    · rw [same b hb h]; exact R.sub b u e
  · by_cases hb : b = a
    · subst hb
      obtain rfl : m = n := R.inj m n b e hn
      exact ⟨ob, by rw [List.getElem?_set_self hlt], new⟩
    · obtain ⟨ob', h1, h2⟩ := R.ob m b e
      have hm : n ≠ m := fun z => by subst z; rw [hn] at e; cases e; exact hb rfl
      have hbd : b ≠ dx := fun z => by
        obtain ⟨o, q1, q2, q3⟩ := h2.kind
        rw [z] at q1
        rcases hd with hd | hd
        · rw [hd] at q1; cases q1; exact q3 _ rfl
        · rw [hd] at q1; cases q1; exact q2 rfl
      exact ⟨ob', by rw [List.getElem?_set_ne hm]; exact h1, h2.mono (fun _ _ h => h) (.refl r) (same b hb hbd) hx⟩
  · by_cases hm : n = m
    · subst hm; exact ⟨a, hn⟩
    · rw [List.getElem?_set_ne hm] at e; exact R.live m u e hu
  · have hb' : b ≠ a := fun z => hb n (z ▸ hn)
    by_cases h : b = dx
    · subst h
      rcases hd with hd | hd
      · rw [hd] at e; cases e; exact absurd rfl (hu _)
      · rw [hd] at e; cases e; exact hdx
    · rw [same b hb' h]; exact e
  · by_cases hb : b = a
    · subst hb
      obtain ⟨o, q, _⟩ := new.kind
      rw [q] at e; cases e
    · by_cases h : b = dx
      · subst h; rw [hdx] at e; cases e
      · rw [same b hb h] at e; exact e
theorem fput_ok {d : D} {y : V} (hd : VR Y F r d y) (f : Str) : ∀ {fs : List (Str × V)} {ns : List Str} {xs : List D}, fs.map (·.1) = ns → VRs Y F r xs (fs.map (·.2)) → (putF f y fs).map (·.1) = (fput ns xs f d).1 ∧ VRs Y F r (fput ns xs f d).2 ((putF f y fs).map (·.2))
  | [], _, xs, rfl, h => by
    cases h
    exact ⟨rfl, .cons hd .nil⟩
  | (g, x) :: fs, _, xs, rfl, h => by
    cases h with
    | @cons w _ ws _ h hs =>
      obtain ⟨q1, q2⟩ := fput_ok hd f (fs := fs) rfl hs
      show (if g = f then (g, y) :: fs else (g, x) :: putF f y fs).map (·.1) = (if g = f then (g :: fs.map (·.1), d :: ws) else (g :: (fput (fs.map (·.1)) ws f d).1, w :: (fput (fs.map (·.1)) ws f d).2)).1 ∧ VRs Y F r (if g = f then (g :: fs.map (·.1), d :: ws) else (g :: (fput (fs.map (·.1)) ws f d).1, w :: (fput (fs.map (·.1)) ws f d).2)).2 ((if g = f then (g, y) :: fs else (g, x) :: putF f y fs).map (·.2))
      by_cases hg : g = f
      · rw [if_pos hg, if_pos hg]; exact ⟨rfl, .cons hd hs⟩
      · rw [if_neg hg, if_neg hg]; exact ⟨congrArg (g :: ·) q1, .cons h q2⟩
theorem fput_new {d : D} {f : Str} : ∀ {ns : List Str} {xs : List D}, ns.length = xs.length → f ∉ ns → fput ns xs f d = (ns ++ [f], xs ++ [d])
  | [], [], _, _ => rfl
  | n :: ns, x :: xs, h, hf => by
    have hn : ¬ n = f := fun z => hf (z ▸ List.mem_cons_self)
    have ih := fput_new (d := d) (ns := ns) (xs := xs) (by simpa using h) fun z => hf (List.mem_cons_of_mem _ z)
    show (if n = f then (n :: ns, d :: xs) else (n :: (fput ns xs f d).1, x :: (fput ns xs f d).2)) = _
    rw [if_neg hn, ih]
    rfl
  | [], _ :: _, h, _ => by cases h
  | _ :: _, [], h, _ => by cases h
theorem putS_new {y : V} {vs : List V} : SlX.putS vs.length y (vs.map some) = (vs ++ [y]).map some := by
  unfold SlX.putS
  have e : vs.length + 1 - (vs.map some).length = 1 := by simp
  rw [e]
  rw [List.map_append]
  simp [List.set_append]
end
section
variable {X : Cx} {sl : Slo} {W : WX} {c : Ctx} {e a b o i tg iter elt kx vx : Expr} {args : List Expr} {v v1 : Slots} {S S' : Sto} {F F' : Hp} {r r' : Rho} {σ : L2.St} {H H' : Hp} {R : Rec} {pos p2 apos : Pos} {ds : List D} {vs : List V} {Q : VK} {m : SRes} {Dn : Ends}
theorem putA_ok {od d : D} {x y : V} {f : Str} {Qh : Hp → Prop} (xd : XD X sl W c) (R' : Rel (fx X sl) F r S H) (ho : VR (fx X sl) F r od x) (hd : VR (fx X sl) F r d y) (e : putA c.G.cls od f d S = some S')
    (q : ∀ H', Rel (fx X sl) F r S' H' → Ext F r H F r H' → Qh H') : ∃ ad, x = .ref ad ∧ ((∃ C dx fs, H ad = some (.ins C dx fs) ∧ Cls X.K C ∧ NoAttr X.K C f ∧ fs.length < 1000 ∧ Qh (upd H ad (.ins C dx (putF f y fs)))) ∨
      (∃ C dx p us i, SlX.Slt H ad C dx us ∧ SlX.SCls X.K C ∧ SlX.Slot1 X.K C f p i ∧ ((H dx = some (.own ad) ∨ H dx = some (.xd [])) → Qh (SlX.slH H ad C dx (SlX.putS i y us))))) := by
  unfold putA at e
  split at e
  · rename_i n
    split at e
    · rename_i cl ns xs hS
      cases hc : c.G.cls cl with
      | none => rw [hc] at e; cases e
      | some ci =>
        rw [hc] at e
        dsimp only at e
        split at e
        · rename_i hb
          rw [Bool.and_eq_true, Bool.and_eq_true] at hb
          obtain ⟨b1, b2, b3⟩ := hb
          have b2 := of_decide_eq_true b2
          cases e
          obtain ⟨ad, ha⟩ := R'.live n _ hS (by intro z; cases z)
          obtain ⟨ob, h1, h2⟩ := R'.ob n ad ha
          rw [hS] at h1; cases h1
          have ex : x = .ref ad := by
            cases ho with
            | ref hn hv => exact hv ad ha
          refine ⟨ad, ex, ?_⟩
          obtain ⟨k1, k3, k4, k5⟩ := xd.gen.cls cl ci hc
          rcases h2 with ⟨l, C, dx, fs, g1, g2, g3, g4⟩ | ⟨sl', C, dx, us, l, g3, g1, g2, g4⟩
          · cases hs : ci.slots with
            | true => obtain ⟨q, _⟩ := k4 hs; rw [q] at l; cases l
            | false =>
              obtain ⟨q1, q2, q3⟩ := k3 hs
              obtain ⟨m1, m2⟩ := fput_ok hd f g3 g4
              subst g2
              have el : fs.length = ns.length := by have := congrArg List.length g3; simpa using this
              obtain ⟨R2, x2⟩ := R'.put (H' := upd H ad (.ins (He.ga X.K cl) dx (putF f y fs))) (ob := .ins cl (fput ns xs f d).1 (fput ns xs f d).2) ha rfl (by intro z; cases z) (fun b hb => upd_ne hb) (.inl ⟨l, _, dx, _, upd_same, rfl, m1, m2⟩)
              exact .inl ⟨_, dx, fs, g1, q2, q3 f (by simpa using b1), by omega, q _ R2 x2⟩
          · cases hs : ci.slots with
            | false => obtain ⟨q, _⟩ := k3 hs; have l' : sl.lookup cl = some sl' := l; rw [q] at l'; cases l'
            | true =>
              obtain ⟨q1, q2, q3, q4⟩ := k4 hs
              have l' : sl.lookup cl = some sl' := l
              rw [q1] at l'; cases l'
              rw [hs] at b3
              have b3 : ci.flds[ns.length]? = some f := of_decide_eq_true b3
              have hlt : ns.length < ci.flds.length := (List.getElem?_eq_some_iff.mp b3).1
              have eln : ns.length = us.length := by
                have := congrArg List.length g3
                rw [List.length_take] at this
                omega
              obtain ⟨p, hp⟩ := q4 ns.length f b3
              subst g2
              have hfn : f ∉ ns := fun hm => by
                rw [g3] at hm
                obtain ⟨j, hj, ej⟩ := List.getElem_of_mem hm
                rw [List.getElem_take] at ej
                rw [List.length_take] at hj
                have e2 : ci.flds[ns.length]'hlt = f := (List.getElem?_eq_some_iff.mp b3).2
                have := (List.pairwise_iff_getElem.mp q2) j ns.length (by omega) hlt (by omega)
                rw [ej, e2] at this
                exact this rfl
              refine .inr ⟨_, dx, p, _, ns.length, g1, q3, hp, fun hdx => ?_⟩
              have hne : dx ≠ ad := fun z => by
                subst z
                rcases g1 with ⟨g1, _⟩ | ⟨g1, _⟩
                · rcases hdx with h | h <;> (rw [g1] at h; cases h)
                · rcases hdx with h | h
                  · rw [g1] at h; exact slO_own (Option.some.inj h)
                  · rw [g1] at h; exact SlX.slO_not (Option.some.inj h)
              rw [eln, putS_new]
              have ef := fput_new (d := d) (f := f) (ns := ns) (xs := xs) (by rw [eln]; exact g4.length.symm) hfn
              have eS : S.set n (.ins cl (fput ns xs f d).1 (fput ns xs f d).2) = S.set n (.ins cl (ns ++ [f]) (xs ++ [d])) := by rw [ef]
              have newn : ns ++ [f] = ci.flds.take (us ++ [y]).length := by
                have e2 : ci.flds[ns.length]'hlt = f := (List.getElem?_eq_some_iff.mp b3).2
                rw [List.length_append, ← eln]
                show ns ++ [f] = ci.flds.take (ns.length + 1)
                rw [List.take_succ_eq_append_getElem hlt, e2]
                congr 1
                rw [g3, List.length_take, ← eln]
                congr 1
                omega
              obtain ⟨R2, x2⟩ := R'.putSl (C := He.ga X.K cl) (us := (us ++ [y]).map some) (ob := .ins cl (ns ++ [f]) (xs ++ [d])) ha rfl (by intro z; cases z) hdx hne (.inr ⟨ci.flds, _, dx, us ++ [y], l, newn, SlX.slH_slt hne, rfl, g4.append (.cons hd .nil)⟩)
              exact q _ (eS ▸ R2) x2
        · cases e
    · cases e
  · cases e
theorem good_putA {f : Str} {po : Pos} (xd : XD X sl W c) (hG : Good sl R) :
    GoodS X sl W (.Assign [.Attribute o f po] e pos) v S ((evMut R c e v S).st v fun d S1 => (R.E c o v S1).st v fun od S2 => (match putA c.G.cls od f d S2 with
    | some S3 => .nx v S3
    | none => .bad)) := by
  have g := hG.E X W c xd
  intro F r σ H R' s Dn pp pins s0 I
  refine plainObj_wpAny_Assign_Attribute (thn (run1S (C := fun y H1 => semE X o σ H1 fun x H2 => ∃ ad, x = .ref ad ∧ ((∃ C dx fs, H2 ad = some (.ins C dx fs) ∧ Cls X.K C ∧ NoAttr X.K C f ∧ fs.length < 1000 ∧ Dn.nx σ (upd H2 ad (.ins C dx (putF f y fs)))) ∨
      (∃ C dx p us i, SlX.Slt H2 ad C dx us ∧ SlX.SCls X.K C ∧ SlX.Slot1 X.K C f p i ∧ ((H2 dx = some (.own ad) ∨ H2 dx = some (.xd [])) → Dn.nx σ (SlX.slH H2 ad C dx (SlX.putS i y us)))))) (good_mut xd hG e v S) R' s pp (fun d S1 F1 r1 H1 y R1 x1 hy s1 p1 => ?_) pins s0 I) fun u s1 ⟨y, H1, I1, ry, q⟩ => thn (q pins s1 I1) fun ov s2 ⟨x, H2, I2, rx, ad, ex, q2⟩ => ?_) (by cases e <;> rfl)
  · refine run1S (g o v S1) R1 s1 p1 fun od S2 F2 r2 H2 x R2 x2 hx s2 p2 => ?_
    cases e1 : putA c.G.cls od f d S2 with
    | none => rw [e1] at p2; exact p2.elim
    | some S3 =>
      rw [e1] at p2
      exact putA_ok (Qh := Dn.nx σ) xd R2 hx (x2.mono hy) e1 fun H3 R3 x3 => p2 _ _ H3 σ R3 x3 (s2.step x3)
  · subst ex
    obtain rfl : ov = Value.ref ad := rx
    rcases q2 with ⟨C, dx, fs, ea, c', n, l, q2⟩ | ⟨C, dx, p, us, i, hsl, c', t, q2⟩
    · exact setattr_ok I2 ea c' n l ry fun s3 I3 => ⟨σ, _, I3, q2⟩
    · have hdx : H2 dx = some (.own ad) ∨ H2 dx = some (.xd []) := by
        rcases hsl with ⟨h1, _⟩ | ⟨_, h2⟩
        · obtain ⟨_, _, _, _, _, h5⟩ := ins_get I2.hok h1
          exact .inl h5
        · exact .inr h2
      exact SlX.setslot_ok I2 hsl c' t ry fun s3 I3 => ⟨σ, _, I3, q2 hdx⟩
end
end DV
end

section
set_option Elab.async false
set_option linter.all false
set_option maxRecDepth 100000
set_option autoImplicit false
/-! Sets whose members are objects with keys: searched, added to. -/
namespace DV
open PySem PySem.Spec PyProof.Rows L2

section
variable {P : Program} {w : World} {K : Type} [DecidableEq K]
/-- members that ask nothing of the program -/
structure Calm (HK : HeapKind P w K) : Prop where
  cls : ∀ {A : Around} {E : Value → Shared → Prop} {s : Shared} {k : K} {b : Addr} {Q : Bool → Shared → Prop}, HK.is s.heap k b → Q false s → wpAny (model P w) A (ofAClassStatement 8 (.ref b)) Q E s
  hbv : ∀ {A : Around} {E : Value → Shared → Prop} {s : Shared} {k : K} {b : Addr} {Q : Bool → Shared → Prop}, HK.is s.heap k b → (∀ c, Q c s) → wpAny (model P w) A (hashByValue 8 (.ref b)) Q E s
  stay : ∀ {h h' : Heap} {k : K} {a b : Addr} {o : Obj} {rows : Array (Int × Value)} {e : Nat} {t : SetTable}, HK.is h k b → h.get? a = some o → o.data = .set rows e t → Heap.SameBut a h h' → HK.is h' k b
  up : ∀ {h h' : Heap} {k : K} {b : Addr}, HK.is h k b → (∀ c o, h.get? c = some o → h'.get? c = some o) → HK.is h' k b
variable (HK : HeapKind P w K)
/-- a row of the set holds a member with this key -/
def RowOf (h : Heap) (y : Int × Value) (k : K) : Prop := y.1 = HK.hash k ∧ ∃ b, y.2 = .ref b ∧ HK.is h k b
def There (h : Heap) (l : List (Int × Value)) (k : K) : Prop := ∃ y ∈ l, RowOf HK h y k
/-- the set at a, its rows -/
structure KSet (h : Heap) (a : Addr) (l : List (Int × Value)) (ep : Nat) (t : SetTable) : Prop where
  ob : ∃ o, h.get? a = some o ∧ o.ExactSet ∧ o.data = .set l.toArray ep t
  each : ∀ y ∈ l, ∃ k, RowOf HK h y k
  apart : l.Pairwise fun y z => ∀ k, ¬ (RowOf HK h y k ∧ RowOf HK h z k)
  tab : TabOk t (l.map (·.1))
  led : w.params.followText "set-order" = true ∨ t.led = true
  room : l.length * 5 < t.mask * 3
  few : l.length < 64
variable {HK}
variable {A : Around} {E : Value → Shared → Prop} {s : Shared} {h h' : Heap} {a x : Addr} {l : List (Int × Value)} {ep : Nat} {t : SetTable} {k : K}
theorem RowOf.one {y : Int × Value} {k k' : K} (p : RowOf HK h y k) (q : RowOf HK h y k') : k = k' := by
  obtain ⟨_, b, e, i⟩ := p
  obtain ⟨_, b', e', i'⟩ := q
  rw [e] at e'
  cases e'
  exact HK.inj i i'
theorem KSet.fits (R : KSet HK h a l ep t) : t.fits l.toArray.size = true := by
  have n1 := R.tab.sz
  have n2 := R.room
  rw [List.length_map] at n1
  have n3 : t.fill = l.length := by
    unfold SetTable.fill
    rw [R.tab.dm, n1]; rfl
  unfold SetTable.fits
  rw [n3, n1]
  simp
  omega
theorem rows_get {i : Nat} {y : Int × Value} (e : l[i]? = some y) : l.toArray[i]? = some y := by simpa using e
theorem nth_dummy (m : Nat) : ∀ (n : Nat) (p : SetTable.Probe), p.dummy = none → (nth m p n).dummy = none
  | 0, p, e => e
  | n + 1, p, e => nth_dummy m n (adv m p) (by unfold adv; split <;> exact e)
/-- the search would show nothing -/
theorem unseen (C : Calm HK) (hx : HK.is s.heap k x) {ys : List Value} (hy : ∀ y ∈ ys, ∃ k' b, y = Value.ref b ∧ HK.is s.heap k' b) {Q : Bool → Shared → Prop} (q : Q false s) : wpAny (model P w) A (searchCouldBeSeen (.ref x) ys) Q E s := by
  unfold searchCouldBeSeen
  refine wpAny_bind (wpAny_forIn_list _ (fun rest r s' => r.1 = none ∧ s' = s ∧ ∀ y ∈ rest, ∃ k' b, y = Value.ref b ∧ HK.is s.heap k' b) _ (fun y rest r s' I => ?_) (fun r s' I => ?_) _ _ ⟨rfl, rfl, hy⟩)
  · obtain ⟨e, rfl, al⟩ := I
    obtain ⟨k', b, rfl, hb⟩ := al y List.mem_cons_self
    have tl : ∀ y ∈ rest, ∃ k' b, y = Value.ref b ∧ HK.is s'.heap k' b := fun y m => al y (List.mem_cons_of_mem _ m)
    dsimp only
    split
    · exact wpAny_pure ⟨rfl, rfl, tl⟩
    · refine wpAny_bind (HK.quiet hx ?_)
      simp only [Bool.not_true, Bool.false_eq_true, if_false]
      refine wpAny_bind (HK.quiet hb ?_)
      simp only [Bool.not_true, Bool.false_eq_true, if_false]
      refine wpAny_bind (C.cls hx ?_)
      simp only [Bool.false_eq_true, if_false]
      refine wpAny_bind (C.cls hb ?_)
      simp only [Bool.false_eq_true, if_false]
      exact wpAny_pure ⟨rfl, rfl, tl⟩
  · obtain ⟨e, rfl, _⟩ := I
    obtain ⟨r1, r2⟩ := r
    cases e
    exact wpAny_pure q
end
end DV
end

section
set_option Elab.async false
set_option linter.all false
set_option maxRecDepth 100000
set_option autoImplicit false
/-! The search in such a set. -/
namespace DV
open PySem PySem.Spec PyProof.Rows L2
section
variable {P : Program} {w : World} {K : Type} [DecidableEq K] {HK : HeapKind P w K} {A : Around} {E : Value → Shared → Prop} {s : Shared} {h h' : Heap} {a x : Addr} {l : List (Int × Value)} {ep : Nat} {t : SetTable} {k : K}
theorem odd_no (h : MaskOk t.mask) : t.gaveWay = false := by
  unfold SetTable.gaveWay
  rw [mask_odd h]; rfl
theorem same_yes (t : SetTable) : t.sameMemory t.moves t.mask = some true := by
  unfold SetTable.sameMemory; simp
abbrev walk0 (t : SetTable) (h : Int) : SetTable.Probe := runAt t.mask (SetTable.bits h % (t.mask + 1)) (SetTable.bits h)
theorem seek (C : Calm HK) (R : KSet HK s.heap a l ep t) (hx : HK.is s.heap k x) (hu : HK.room A) {N : Nat} (hN : way t.mask (HK.hash k) N ∉ t.place.toList) (hb : ∀ c, c < N → way t.mask (HK.hash k) c ∈ t.place.toList)
    (hf : N < 10 * SetTable.turns t.mask) {Q : SetFound → Shared → Prop} (q1 : There HK s.heap l k → Q (.there none) s) (q2 : ¬ There HK s.heap l k → Q (.free (way t.mask (HK.hash k) N) false) s) :
    ∀ (d c fuel : Nat) (stand : Option SetTable.Probe), c + d = N → d < fuel → stand.getD (t.probeStart (HK.hash k)) = nth t.mask (walk0 t (HK.hash k)) c →
      (∀ (i : Nat) y, l[i]? = some y → RowOf HK s.heap y k → ∃ c', c ≤ c' ∧ c' < N ∧ t.place.toList[i]? = some (way t.mask (HK.hash k) c')) →
      wpAny (model P w) A (setSearchFrom a (.ref x) (HK.hash k) true fuel stand) Q E s := by
  obtain ⟨o, ho, hex, hd⟩ := R.ob
  have ar : ∀ c q, (nth t.mask (nth t.mask (walk0 t (HK.hash k)) c) q) = nth t.mask (walk0 t (HK.hash k)) (c + q) := fun c q => (nth_add t.mask c _ q).symm
  intro d
  induction d using Nat.strongRecOn with
  | ind d ih =>
  intro c fuel stand hc hd2 hst hre
  cases fuel with
  | zero => exact absurd hd2 (Nat.not_lt_zero _)
  | succ fuel =>
  rw [setSearchFrom_succ]
  refine wpAny_bind (wpAny_setState_of ho hd R.fits ?_)
  dsimp only
  rw [if_neg (by rw [odd_no R.tab.mok]; decide)]
  have sp := go_spec t R.tab.ris R.tab.dm (fun i => (Option.map (fun y => y.1) l.toArray[i]?).getD 0) (HK.hash k) (10 * SetTable.turns t.mask) d _ (nth_dummy t.mask c (walk0 t (HK.hash k)) rfl) (by omega)
    (fun q hq => by rw [ar]; exact hb (c + q) (by omega)) (by rw [ar, hc]; exact hN)
  have hrow : ∀ (i : Nat) y, l[i]? = some y → (Option.map (fun y => y.1) l.toArray[i]?).getD 0 = y.1 := fun i y e => by rw [rows_get e]; rfl
  have pb : t.probe (fun i => (Option.map (fun y => y.1) l.toArray[i]?).getD 0) (HK.hash k) (stand.getD (t.probeStart (HK.hash k))) = SetTable.probe.go t (fun i => (Option.map (fun y => y.1) l.toArray[i]?).getD 0) (HK.hash k) (10 * SetTable.turns t.mask) (nth t.mask (walk0 t (HK.hash k)) c) := by
    rw [hst]; rfl
  rw [pb]
  rcases sp with ⟨q, i, hq, hi, hh, hno, e⟩ | ⟨hno, e⟩
  · rw [e]
    dsimp only
    simp only [ar] at hi hno ⊢
    have li : i < l.length := by
      have m1 := (List.getElem?_eq_some_iff.mp hi).1
      have m2 := R.tab.sz
      rw [Array.length_toList] at m1
      rw [List.length_map] at m2
      omega
    obtain ⟨y, hy⟩ : ∃ y, l[i]? = some y := ⟨_, List.getElem?_eq_getElem li⟩
    obtain ⟨ky, ry⟩ := R.each y (List.mem_of_getElem? hy)
    obtain ⟨hy1, by_, ey, iy⟩ := ry
    have rest : wpAny (model P w) A (searchRest a (.ref x) (HK.hash k) true fuel l.toArray t (way t.mask (HK.hash k) (c + q)) i (nth t.mask (walk0 t (HK.hash k)) (c + (q + 1)))) Q E s := by
      unfold searchRest
      rw [rows_get hy]
      dsimp only
      rw [ey]
      refine wpAny_bind (wpAny_holding (HK.eqBool hu iy hx ?_))
      refine wpAny_bind (wpAny_setState_of ho hd R.fits ?_)
      dsimp only
      by_cases hk : ky = k
      · rw [if_pos (by simp [hk])]
        exact wpAny_pure (q1 ⟨y, List.mem_of_getElem? hy, by rw [← hk]; exact ⟨hy1, by_, ey, iy⟩⟩)
      · rw [if_neg (by simp [hk]), same_yes]
        dsimp only
        have sl : t.slot (way t.mask (HK.hash k) (c + q)) = .live i := slot_live R.tab.ris hi
        rw [if_pos rfl, sl]
        dsimp only
        rw [rows_get hy]
        dsimp only
        rw [ey]
        refine wpAny_bind (wpAny_isSame_ref_self (wpAny_bind (wpAny_pure ?_)))
        rw [if_pos rfl]
        dsimp only
        rw [if_neg (by simp [hk])]
        refine ih (d - (q + 1)) (by omega) (c + (q + 1)) fuel _ (by omega) (by omega) rfl fun j z hz rz => ?_
        obtain ⟨c', g1, g2, g3⟩ := hre j z hz rz
        refine ⟨c', ?_, g2, g3⟩
        apply Nat.lt_of_not_le
        intro le
        rcases Nat.lt_or_eq_of_le (show c' ≤ c + q by omega) with lt | eq
        · refine hno (c' - c) j (by omega) (by rw [show c + (c' - c) = c' by omega]; exact g3) ?_
          rw [hrow j z hz]; exact rz.1
        · rw [eq] at g3
          have s0 := slot_live R.tab.ris g3
          rw [sl] at s0
          cases s0
          rw [hy] at hz
          cases hz
          exact hk (RowOf.one ⟨hy1, by_, ey, iy⟩ rz)
    by_cases hl : t.led = true
    · rw [if_neg (by simp [hl])]
      exact rest
    · rw [if_pos (by simp [hl])]
      refine wpAny_bind (unseen C hx (fun z hz => ?_) ?_)
      · obtain ⟨u, hu1, rfl⟩ := List.mem_map.mp hz
        have hu2 : u ∈ l := by
          have := (Array.mem_filter.mp (Array.mem_toList_iff.mp hu1)).1
          simpa using this
        obtain ⟨ku, _, b, e2, i2⟩ := R.each u hu2
        exact ⟨ku, b, e2, i2⟩
      · rw [if_neg (by decide)]
        exact rest
  · rw [e]
    dsimp only
    rw [ar, hc]
    refine wpAny_pure (q2 fun th => ?_)
    obtain ⟨y, hy, ry⟩ := th
    obtain ⟨i, li, ei⟩ := List.getElem_of_mem hy
    have gi : l[i]? = some y := by rw [List.getElem?_eq_getElem li, ei]
    obtain ⟨c', g1, g2, g3⟩ := hre i y gi ry
    refine hno (c' - c) i (by omega) (by rw [ar, show c + (c' - c) = c' by omega]; exact g3) ?_
    rw [hrow i y gi]; exact ry.1
end
end DV
end

section
set_option Elab.async false
set_option linter.all false
set_option maxRecDepth 100000
set_option autoImplicit false
/-! Adding to such a set. -/
namespace DV
open PySem PySem.Spec PyProof.Rows L2
theorem range_rows {A : Type} (l : List A) : (List.range l.length).filterMap (fun i => l[i]?) = l := by
  have e : (List.range l.length).map (fun i => l[i]?) = l.map some := by
    refine List.ext_getElem? fun i => ?_
    simp only [List.getElem?_map]
    by_cases h : i < l.length
    · rw [List.getElem?_range h, List.getElem?_eq_getElem h]; simp
    · rw [List.getElem?_eq_none (by simpa using h), List.getElem?_eq_none (by simpa using h)]; rfl
  have e2 : (List.range l.length).filterMap (fun i => l[i]?) = ((List.range l.length).map (fun i => l[i]?)).filterMap id := by
    rw [List.filterMap_map]; rfl
  rw [e2, e, List.filterMap_map]
  simp
theorem sorted_rows (l : List (Int × Value)) (ord : Array Nat) (hp : ord.toList.Perm (List.range l.length)) :
    ∃ l2 : List (Int × Value), (ord.filterMap (l.toArray[·]?)) = l2.toArray ∧ l2.Perm l ∧ l2.map (·.1) = ord.toList.map fun i => (l.toArray.map (·.1)).getD i 0 := by
  refine ⟨ord.toList.filterMap fun i => l[i]?, ?_, ?_, ?_⟩
  · apply Array.toList_inj.mp
    simp
  · have := hp.filterMap (fun i => l[i]?)
    rw [range_rows] at this
    exact this
  · have hm : ∀ i ∈ ord.toList, i < l.length := fun i hi => List.mem_range.mp (hp.mem_iff.mp hi)
    generalize ord.toList = is at hm
    clear hp
    induction is with
    | nil => rfl
    | cons i is ih =>
      have h1 := hm i List.mem_cons_self
      rw [List.filterMap_cons_some (List.getElem?_eq_getElem h1), List.map_cons, List.map_cons, ih fun j hj => hm j (List.mem_cons_of_mem _ hj)]
      congr 1
      simp [Array.getD, h1]
section
variable {P : Program} {w : World} {K : Type} [DecidableEq K] {HK : HeapKind P w K} {A : Around} {E : Value → Shared → Prop} {s : Shared} {h h' : Heap} {a x : Addr} {l : List (Int × Value)} {ep : Nat} {t : SetTable} {k : K}
/-- rows as another heap has them -/
theorem rows_move {l : List (Int × Value)} (e : ∀ y ∈ l, ∃ k, RowOf HK h y k) (p : l.Pairwise fun y z => ∀ k, ¬ (RowOf HK h y k ∧ RowOf HK h z k)) (up : ∀ y ∈ l, ∀ k, RowOf HK h y k → RowOf HK h' y k) :
    (∀ y ∈ l, ∃ k, RowOf HK h' y k) ∧ (l.Pairwise fun y z => ∀ k, ¬ (RowOf HK h' y k ∧ RowOf HK h' z k)) := by
  refine ⟨fun y hy => let ⟨k, r⟩ := e y hy; ⟨k, up y hy k r⟩, p.imp_of_mem fun {y z} hy hz q k c => ?_⟩
  obtain ⟨k1, r1⟩ := e y hy
  obtain ⟨k2, r2⟩ := e z hz
  have e1 := RowOf.one (up y hy k1 r1) c.1
  have e2 := RowOf.one (up z hz k2 r2) c.2
  subst e1
  subst e2
  exact q _ ⟨r1, r2⟩
theorem RowOf.mv {y : Int × Value} {k : K} (mv : ∀ (k : K) b, HK.is h k b → HK.is h' k b) (r : RowOf HK h y k) : RowOf HK h' y k := ⟨r.1, let ⟨b, e1, i⟩ := r.2; ⟨b, e1, mv k b i⟩⟩
theorem there_up {rows : List (Int × Value)} (each : ∀ y ∈ rows, ∃ k, RowOf HK h y k) (up : ∀ y ∈ rows, ∀ k, RowOf HK h y k → RowOf HK h' y k) (k : K) : There HK h' rows k ↔ There HK h rows k := by
  refine ⟨fun ⟨y, hy, r⟩ => ?_, fun ⟨y, hy, r⟩ => ⟨y, hy, up y hy k r⟩⟩
  obtain ⟨k', r'⟩ := each y hy
  obtain rfl := RowOf.one (up y hy k' r') r
  exact ⟨y, hy, r'⟩
theorem KSet.up (R : KSet HK h a l ep t) (ha : ∀ o, h.get? a = some o → h'.get? a = some o) (up : ∀ y ∈ l, ∀ k, RowOf HK h y k → RowOf HK h' y k) : KSet HK h' a l ep t := by
  obtain ⟨o, ho, r⟩ := R.ob
  obtain ⟨e1, e2⟩ := rows_move R.each R.apart up
  exact ⟨⟨o, ha o ho, r⟩, e1, e2, R.tab, R.led, R.room, R.few⟩
theorem anew (C : Calm HK) {o : Obj} (ho : s.heap.get? a = some o) (hex : o.ExactSet) (hd : o.data = .set l.toArray ep t) (hsz : t.place.size = l.length) (hdm : t.dummies = #[]) (hml : l.length ≤ t.mask) (h1 : ∀ y ∈ l, ∃ k, RowOf HK s.heap y k) (h2 : l.Pairwise fun y z => ∀ k, ¬ (RowOf HK s.heap y k ∧ RowOf HK s.heap z k))
    (hl : w.params.followText "set-order" = true ∨ t.led = true) (hf : l.length < 64) {n M : Nat} (e : SetTable.sizeAbove n - 1 = M) (hM : MaskOk M) (e2 : SetTable.sizeAbove n ≤ 128) (e3 : l.length * 5 < M * 3) {Q : Unit → Shared → Prop}
    (q : ∀ h' l' ep' t', Heap.SameBut a s.heap h' → KSet HK h' a l' ep' t' → l'.Perm l → Q () { s with heap := h' }) : wpAny (model P w) A (setRelay a n) Q E s := by
  have hfit : t.fits l.toArray.size = true := by
    have n3 : t.fill = l.length := by
      unfold SetTable.fill
      rw [hdm, hsz]; rfl
    unfold SetTable.fits
    rw [n3, hsz]
    simp
    omega
  obtain ⟨t', ord, er, op, T, em, el, epl, edm⟩ := relaid_ok t (hs := l.toArray.map (·.1)) (wanted := n) e hM (by simp; omega)
  simp only [Array.size_map, List.size_toArray] at op
  obtain ⟨l2, r1, r2, r3⟩ := sorted_rows l ord op
  rw [← r3] at T
  rw [setRelay_eq]
  refine wpAny_bind (wpAny_setState_of ho hd hfit ?_)
  dsimp only
  rw [if_neg (by rw [sizeLine_eq]; omega), er]
  dsimp only
  rw [r1]
  rw [if_neg (by simp [r2.length_eq])]
  refine wpAny_bind (wpAny_pure ?_)
  dsimp only
  have sm : Heap.SameBut a s.heap (s.heap.update a (Obj.putSet l2.toArray t')) := Heap.SameBut.update ..
  have at2 := store_at (es' := l2.toArray) (t' := t') ho hd
  obtain ⟨m1, m2⟩ := rows_move h1 h2 fun y _ k r => RowOf.mv (fun k b i => C.stay i ho hd sm) r
  refine wpAny_storeSet_of ho hd (q _ l2 (ep + 1) t' sm ⟨⟨_, at2, ⟨hex.1, hex.2.1, hex.2.2⟩, rfl⟩, fun y hy => m1 y (r2.mem_iff.mp hy), ?_, T, by rw [el]; exact hl, by rw [r2.length_eq, em]; exact e3, by rw [r2.length_eq]; exact hf⟩ r2) (by simp [r2.length_eq, sizeLine_eq]; omega)
  exact (r2.pairwise_iff fun {y z} c k d => c k ⟨d.2, d.1⟩).mpr m2
theorem stored (C : Calm HK) (R : KSet HK s.heap a l ep t) (hx : HK.is s.heap k x) (hf : l.length + 1 < 64) (nt : ¬ There HK s.heap l k) {l1 : List (Int × Value)} (pm : l1.Perm ((HK.hash k, Value.ref x) :: l)) {t1 : SetTable} (T1 : TabOk t1 (l1.map (·.1))) (g4 : t1.mask = t.mask) (g5 : t1.led = t.led) (g9 : t1.fill = l.length + 1) {Q : Bool → Shared → Prop}
    (q : ∀ b h' l' ep' t', Heap.SameBut a s.heap h' → KSet HK h' a l' ep' t' → ((There HK s.heap l k ∧ l' = l) ∨ (¬ There HK s.heap l k ∧ l'.Perm ((HK.hash k, .ref x) :: l))) → Q b { s with heap := h' }) :
    wpAny (model P w) A (do
      storeSet a l1.toArray t1
      if (!false && t1.tooFull) = true then do
        setRelay a (SetTable.grown (l.toArray.size + 1))
        pure true
      else pure true) Q E s := by
  obtain ⟨o, ho, hex, hd⟩ := R.ob
  have rm := R.room
  have len1 : l1.length = l.length + 1 := pm.length_eq
  have sm : Heap.SameBut a s.heap (s.heap.update a (Obj.putSet l1.toArray t1)) := Heap.SameBut.update ..
  have at1 := store_at (es' := l1.toArray) (t' := t1) ho hd
  have mv : ∀ (k : K) b, HK.is s.heap k b → HK.is (s.heap.update a (Obj.putSet l1.toArray t1)) k b := fun k b i => C.stay i ho hd sm
  refine wpAny_bind (wpAny_storeSet_of ho hd ?_ (by simp [len1, sizeLine_eq]; omega))
  generalize s.heap.update a (Obj.putSet l1.toArray t1) = h1 at sm at1 mv ⊢
  obtain ⟨m1, m2⟩ := rows_move R.each R.apart fun y _ k r => RowOf.mv mv r
  have rx : RowOf HK h1 (HK.hash k, Value.ref x) k := ⟨rfl, x, rfl, mv k x hx⟩
  have each1 : ∀ y ∈ l1, ∃ k, RowOf HK h1 y k := fun y hy => by
    rcases List.mem_cons.mp (pm.mem_iff.mp hy) with e | m
    · rw [e]; exact ⟨k, rx⟩
    · exact m1 y m
  have apart1 : l1.Pairwise fun y z => ∀ k, ¬ (RowOf HK h1 y k ∧ RowOf HK h1 z k) := by
    refine (pm.pairwise_iff fun {y z} c k d => c k ⟨d.2, d.1⟩).mpr (List.pairwise_cons.mpr ⟨fun y hy k' d => ?_, m2⟩)
    obtain ⟨ky, ry⟩ := R.each y hy
    have ry1 : RowOf HK h1 y ky := ⟨ry.1, let ⟨b, e1, i⟩ := ry.2; ⟨b, e1, mv ky b i⟩⟩
    have e1 := RowOf.one ry1 d.2
    have e2 := RowOf.one rx d.1
    subst e1
    subst e2
    exact nt ⟨y, hy, ry⟩
  have sz1 : t1.place.size = l1.length := by
    have := T1.sz
    rwa [List.length_map] at this
  by_cases hfl : t1.tooFull = true
  · rw [if_pos (by simp [hfl])]
    have ge : t1.mask * 3 ≤ (l.length + 1) * 5 := by
      unfold SetTable.tooFull at hfl
      rw [decide_eq_true_eq, g9] at hfl
      exact hfl
    rw [g4] at ge
    have two : (t.mask = 7 ∧ l.length = 4) ∨ (t.mask = 31 ∧ l.length = 18) := by
      rcases R.tab.mok with e | e | e
      · rw [e] at ge rm; exact .inl ⟨e, by omega⟩
      · rw [e] at ge rm; exact .inr ⟨e, by omega⟩
      · rw [e] at ge; omega
    refine wpAny_bind ?_
    have go : ∀ M, SetTable.sizeAbove (SetTable.grown (l.length + 1)) - 1 = M → MaskOk M → SetTable.sizeAbove (SetTable.grown (l.length + 1)) ≤ 128 → (l.length + 1) * 5 < M * 3 →
        wpAny (model P w) A (setRelay a (SetTable.grown (l.toArray.size + 1))) (fun _ s' => wpAny (model P w) A (pure true) Q E s') E { s with heap := h1 } := fun M e1 e2 e3 e4 => by
      have ml : l1.length ≤ t1.mask := by rw [g4, len1]; rcases two with ⟨z, z2⟩ | ⟨z, z2⟩ <;> omega
      refine anew (s := { s with heap := h1 }) C at1 ⟨hex.1, hex.2.1, hex.2.2⟩ rfl sz1 T1.dm ml each1 apart1 (by rw [g5]; exact R.led) (by omega) (by rw [List.size_toArray]; exact e1) e2 (by rw [List.size_toArray]; exact e3) (by rw [len1]; exact e4) fun h2 l2 ep2 t2 sm2 R2 pm2 => ?_
      exact wpAny_pure (q true h2 l2 ep2 t2 (sm.trans sm2) R2 (.inr ⟨nt, pm2.trans pm⟩))
    rcases two with ⟨_, z⟩ | ⟨_, z⟩
    · exact go 31 (by rw [z, size_20]) (.inr (.inl rfl)) (by rw [z, size_20]; decide) (by omega)
    · exact go 127 (by rw [z, size_76]) (.inr (.inr rfl)) (by rw [z, size_76]; decide) (by omega)
  · rw [if_neg (by simp [hfl])]
    have lt : (l.length + 1) * 5 < t1.mask * 3 := by
      unfold SetTable.tooFull at hfl
      rw [decide_eq_true_eq, g9] at hfl
      omega
    refine wpAny_pure (q true h1 l1 (ep + 1) t1 sm ⟨⟨_, at1, ⟨hex.1, hex.2.1, hex.2.2⟩, rfl⟩, each1, apart1, T1, by rw [g5]; exact R.led, by rw [len1]; exact lt, by omega⟩ (.inr ⟨nt, pm⟩))
theorem add1 (C : Calm HK) (R : KSet HK s.heap a l ep t) (hx : HK.is s.heap k x) (hu : HK.room A) (hf : l.length + 1 < 64) {Q : Bool → Shared → Prop}
    (q : ∀ b h' l' ep' t', Heap.SameBut a s.heap h' → KSet HK h' a l' ep' t' → ((There HK s.heap l k ∧ l' = l) ∨ (¬ There HK s.heap l k ∧ l'.Perm ((HK.hash k, .ref x) :: l))) → Q b { s with heap := h' }) :
    wpAny (model P w) A (setAddHashed a (.ref x) (HK.hash k)) Q E s := by
  obtain ⟨o, ho, hex, hd⟩ := R.ob
  have rm := R.room
  obtain ⟨N, hN1, hN2, hN3⟩ := R.tab.first (by rw [List.length_map]; omega) (HK.hash k)
  have hfuel : N < 100000 := by
    have : 10 * SetTable.turns t.mask ≤ 2000 := by
      unfold SetTable.turns
      rcases R.tab.mok with e | e | e <;> omega
    omega
  unfold setAddHashed
  refine wpAny_holding ?_
  rw [show (100000 : Nat) = 99999 + 1 from rfl, setAddHashedIn_succ]
  refine wpAny_bind (wpAny_setState_of ho hd R.fits ?_)
  dsimp only
  rw [if_neg (by simp [byScan, Value.scannable])]
  refine wpAny_bind ?_
  unfold setSearch
  refine seek C R hx hu hN2 hN3 hN1 (fun th => ?_) (fun nt => ?_) N 0 100000 none (by omega) (by omega) rfl fun i y hi r => ?_
  · dsimp only
    exact wpAny_pure (q false s.heap l ep t (Heap.SameBut.refl a s.heap) R (.inl ⟨th, rfl⟩))
  · dsimp only
    refine wpAny_bind (wpAny_setState_of ho hd R.fits ?_)
    dsimp only
    obtain ⟨g1, g2, g3, g4, g5, g6, g7, g8, g9⟩ := R.tab.put hN2 hN3
    generalize t.put (way t.mask (HK.hash k) N) = pt at g1 g3 g4 g5 g6 g7 g8 g9
    obtain ⟨t1, p⟩ := pt
    dsimp only at g1 g3 g4 g5 g6 g7 g8 g9 ⊢
    rw [← g1] at g2 g3
    clear g1
    rw [List.length_map] at g2
    have pm : (l.take p ++ (HK.hash k, Value.ref x) :: l.drop p).Perm ((HK.hash k, Value.ref x) :: l) := by
      refine List.perm_middle.trans ?_
      rw [List.take_append_drop]
    have T1 : TabOk t1 ((l.take p ++ (HK.hash k, Value.ref x) :: l.drop p).map (·.1)) := by
      rw [List.map_append, List.map_cons, List.map_take, List.map_drop]; exact g3
    have eins : SetTable.insertAt l.toArray p (HK.hash k, Value.ref x) = (l.take p ++ (HK.hash k, Value.ref x) :: l.drop p).toArray := by
      apply Array.toList_inj.mp
      rw [SetTable.toList_insertAt]
    simp only [eins]
    clear g3
    generalize l.take p ++ (HK.hash k, Value.ref x) :: l.drop p = l1 at pm T1
    rw [List.length_map] at g9
    by_cases hp : t1.plain = true
    · rw [if_pos hp]
      refine wpAny_bind (C.hbv hx fun c => ?_)
      cases c with
      | true => exact stored C R hx hf nt pm T1 g4 g5 g9 q
      | false => exact stored (t1 := { t1 with plain := false }) C R hx hf nt pm ⟨T1.ris, T1.dm, T1.sz, T1.mok, T1.bd, T1.reach⟩ g4 g5 g9 q
    · rw [if_neg hp]
      refine wpAny_bind (wpAny_pure ?_)
      exact stored C R hx hf nt pm T1 g4 g5 g9 q
  · have li : i < l.length := (List.getElem?_eq_some_iff.mp hi).1
    have lp : i < t.place.toList.length := by
      have m2 := R.tab.sz
      rw [List.length_map] at m2
      rw [Array.length_toList]
      omega
    have gj := List.getElem?_eq_getElem lp
    obtain ⟨c, c1, c2⟩ := R.tab.before hN2 (h := HK.hash k) (i := i) (by rw [List.getElem?_map, hi, ← r.1]; rfl) gj
    exact ⟨c, Nat.zero_le _, c1, by rw [gj, c2]⟩
end
end DV
end

section
set_option Elab.async false
set_option linter.all false
set_option maxRecDepth 100000
set_option autoImplicit false
/-! set(xs), xs a list of such members. -/
namespace DV
open PySem PySem.Spec PyProof.Rows L2
section
variable {P : Program} {w : World} {K : Type} [DecidableEq K] {HK : HeapKind P w K} {A : Around} {E : Value → Shared → Prop} {s : Shared} {a : Addr}
abbrev newSet (w : World) : Obj := { cls := .type "set", dict := none, data := .set #[] 0 (.fresh 0 0 (!w.params.followText "set-order")) }
theorem kset_new {h : Heap} (e : h.get? a = some (newSet w)) : KSet HK h a [] 0 (.fresh 0 0 (!w.params.followText "set-order")) :=
  ⟨⟨_, e, ⟨rfl, rfl, rfl⟩, rfl⟩, fun y hy => (by cases hy), .nil, ⟨.nil, rfl, rfl, .inl rfl, fun y hy => (by cases hy), fun i h j hi => (by simp at hi)⟩,
    (by show _ ∨ (!w.params.followText "set-order") = true; cases w.params.followText "set-order" <;> simp), (by show 0 * 5 < 7 * 3; decide), (by show 0 < 64; decide)⟩
/-- behind so many members -/
def Upto (HK : HeapKind P w K) (ps : List (Addr × K)) (i : Nat) (S : Addr) (h : Heap) : Prop := ∃ rows ep t, KSet HK h S rows ep t ∧ (∀ y ∈ rows, ∃ p ∈ ps, y = (HK.hash p.2, .ref p.1)) ∧ (∀ k, There HK h rows k ↔ k ∈ kmet ((ps.take i).map (·.2))) ∧ rows.length = (kmet ((ps.take i).map (·.2))).length
theorem Upto.up {ps : List (Addr × K)} {i : Nat} {h h' : Heap} (U : Upto HK ps i a h) (h0 : ∀ p ∈ ps, HK.is h p.2 p.1) (hk : ∀ p ∈ ps, HK.is h' p.2 p.1) (ha : ∀ o, h.get? a = some o → h'.get? a = some o) : Upto HK ps i a h' := by
  obtain ⟨rows, ep, t, R, u0, u1, u2⟩ := U
  have up : ∀ y ∈ rows, ∀ k, RowOf HK h y k → RowOf HK h' y k := fun y hy k r => by
    obtain ⟨p, hp, rfl⟩ := u0 y hy
    obtain rfl := RowOf.one r ⟨rfl, p.1, rfl, h0 p hp⟩
    exact ⟨rfl, p.1, rfl, hk p hp⟩
  exact ⟨rows, ep, t, R.up ha up, u0, fun k => (there_up R.each up k).trans (u1 k), u2⟩
theorem keys_snoc {ps : List (Addr × K)} {i : Nat} {p : Addr × K} (e : ps[i]? = some p) : (ps.take (i + 1)).map (·.2) = (ps.take i).map (·.2) ++ [p.2] := by
  rw [List.take_add_one, e]; simp
/-- one member more -/
theorem Upto.more (C : Calm HK) {ps : List (Addr × K)} {i : Nat} {p : Addr × K} (hu : HK.room A) (U : Upto HK ps i a s.heap) (e : ps[i]? = some p) (hx : HK.is s.heap p.2 p.1) (hf : ps.length < 64) {Q : Bool → Shared → Prop}
    (q : ∀ b h' tk, s.toks ≤ tk → Heap.SameBut a s.heap h' → Upto HK ps (i + 1) a h' → Q b { s with heap := h', toks := tk }) : wpAny (model P w) A (setAdd a (.ref p.1)) Q E s := by
  obtain ⟨rows, ep, t, R, u0, u1, u2⟩ := U
  have hl := kmet_len ((ps.take i).map (·.2))
  have hi : i < ps.length := (List.getElem?_eq_some_iff.mp e).1
  rw [List.length_map, List.length_take] at hl
  have ek := keys_snoc e
  unfold setAdd
  refine wpAny_holding (wpAny_bind (HK.pyHash hu hx ?_))
  refine add1 (s := { s with toks := s.toks + HK.draws p.2 }) C R hx hu (by omega) fun b h' rows' ep' t' sm R' c => q b h' _ (Nat.le_add_right _ _) sm ?_
  obtain ⟨o, ho, _, hd⟩ := R.ob
  have mv : ∀ (k : K) b, HK.is s.heap k b → HK.is h' k b := fun k b i => C.stay i ho hd sm
  have up : ∀ y ∈ rows, ∀ k, RowOf HK s.heap y k → RowOf HK h' y k := fun y _ k r => RowOf.mv mv r
  refine ⟨rows', ep', t', R', fun y hy => ?_, fun k' => ?_, ?_⟩
  · rcases c with ⟨th, rfl⟩ | ⟨nt, pm⟩
    · exact u0 y hy
    · rcases List.mem_cons.mp (pm.mem_iff.mp hy) with z | m
      · exact ⟨p, List.mem_of_getElem? e, z⟩
      · exact u0 y m
  · rw [ek, kmet_snoc]
    rcases c with ⟨th, rfl⟩ | ⟨nt, pm⟩
    · rw [there_up R.each up k', u1 k', kadd, if_pos ((u1 p.2).mp th)]
    · rw [kadd, if_neg fun z => nt ((u1 p.2).mpr z), List.mem_cons]
      constructor
      · rintro ⟨y, hy, r⟩
        rcases List.mem_cons.mp (pm.mem_iff.mp hy) with z | m
        · subst z; exact .inl (RowOf.one r ⟨rfl, p.1, rfl, mv p.2 p.1 hx⟩)
        · exact .inr ((u1 k').mp ((there_up R.each up k').mp ⟨y, m, r⟩))
      · rintro (rfl | m)
        · exact ⟨_, pm.mem_iff.mpr List.mem_cons_self, rfl, p.1, rfl, mv _ p.1 hx⟩
        · obtain ⟨y, hy, r⟩ := (there_up R.each up k').mpr ((u1 k').mpr m)
          exact ⟨y, pm.mem_iff.mpr (List.mem_cons_of_mem _ hy), r⟩
  · rw [ek, kmet_snoc]
    rcases c with ⟨th, rfl⟩ | ⟨nt, pm⟩
    · rw [kadd, if_pos ((u1 p.2).mp th)]; exact u2
    · rw [kadd, if_neg fun z => nt ((u1 p.2).mpr z), pm.length_eq, List.length_cons, List.length_cons, u2]
/-- the loop that takes the members in -/
theorem take_in (C : Calm HK) {I S : Addr} {fp wr : List Addr} {G : Array GenState → Array GenState → Prop} {n : Nat} {V0 : Nat → Value → Prop} {St : Nat → Shared → Prop} {R : Result → Shared → Prop} (W : WalksS P w A.in1 I fp wr G n V0 St)
    (hS : S ∉ fp) (ps : List (Addr × K)) (hn : n = ps.length) (hf : ps.length < 64) (hv : ∀ i v, V0 i v → ∃ p, ps[i]? = some p ∧ v = .ref p.1) {h0 : Heap} (hk : ∀ p ∈ ps, HK.is h0 p.2 p.1) (hSn : h0.get? S = none) (hwn : ∀ b ∈ wr, h0.get? b = none) (hu : HK.room A.in1) :
    ∀ (k i : Nat) (s : Shared), i + k = n → St i s → (∀ b o, h0.get? b = some o → s.heap.get? b = some o) → Upto HK ps i S s.heap →
      (∀ s', Moved (S :: wr) G s s' → Upto HK ps n S s'.heap → (∀ b o, h0.get? b = some o → s'.heap.get? b = some o) → R (.ok (.ret .none)) s') →
      codeAny (model P w) A (.builtin "set.update.loop" ⟨[.ref S, .ref I], []⟩) R s := by
  have hSw : S ∉ wr := fun z => hS (W.sub _ z)
  have wide : ∀ b ∈ wr, b ∈ S :: wr := fun b z => List.mem_cons_of_mem _ z
  have old : ∀ {s s' : Shared}, Moved wr G s s' → (∀ b o, h0.get? b = some o → s.heap.get? b = some o) → ∀ b o, h0.get? b = some o → s'.heap.get? b = some o := fun m g b o e =>
    m.heap b o (fun z => by rw [hwn b z] at e; cases e) (g b o e)
  have ks : ∀ {h : Heap}, (∀ b o, h0.get? b = some o → h.get? b = some o) → ∀ p ∈ ps, HK.is h p.2 p.1 := fun g p hp => C.up (hk p hp) g
  intro k
  induction k with
  | zero =>
    intro i s hi hst hg U hR
    obtain rfl : i = n := by omega
    refine codeAny_builtin F.entry_set_update_loop ?_
    rw [Around.under_plainId F.plain_set_update_loop _]
    refine wpAny_bind (m := pyNext (.ref I)) (W.done s _ _ hst fun s' m => ?_)
    exact wpAny_pure (hR s' (m.mono wide) (U.up (ks hg) (ks (old m hg)) fun o => m.heap S o hSw) (old m hg))
  | succ k ih =>
    intro i s hi hst hg U hR
    refine codeAny_builtin F.entry_set_update_loop ?_
    rw [Around.under_plainId F.plain_set_update_loop _]
    refine wpAny_bind (m := pyNext (.ref I)) (W.item i s _ _ (by omega) hst fun v s' hV hst' m => ?_)
    obtain ⟨p, hp, rfl⟩ := hv i v hV
    have g' := old m hg
    have U' := U.up (ks hg) (ks g') fun o => m.heap S o hSw
    refine wpAny_bind (m := holding [Value.ref p.1] (setAdd S (.ref p.1))) (wpAny_holding (U'.more C hu hp (ks g' p (List.mem_of_getElem? hp)) hf fun b h' tk le sm U2 => ?_))
    have g2 : ∀ b o, h0.get? b = some o → h'.get? b = some o := fun b o e => (sm.2 b fun z => by rw [z, hSn] at e; cases e).trans (g' b o e)
    refine wpAny_pure ⟨plainId_quiet F.plain_set_update_loop _, ih (i + 1) _ (by omega) (W.frame _ s' _ _ hst' le fun b hb o e => ?_) g2 U2 fun s'' m2 U3 g3 => hR s'' (Moved.trans W.gtrans ((m.mono wide).then_heap le fun b o hb e => ?_) m2) U3 g3⟩
    · exact (sm.2 b fun z => hS (z ▸ hb)).trans e
    · exact (sm.2 b fun z => hb (z ▸ List.mem_cons_self)).trans e
end
end DV
end

section
set_option Elab.async false
set_option linter.all false
set_option maxRecDepth 100000
set_option autoImplicit false
/-! The call set(xs). -/
namespace DV
open PySem PySem.Spec PyProof.Rows L2
section
variable {P : Program} {w : World} {A : Around} {E : Value → Shared → Prop} {s : Shared}
theorem beyond {h : Heap} {b : Addr} (le : h.objs.size ≤ b) : h.get? b = none := by
  cases q : h.get? b with
  | none => rfl
  | some o => exact absurd (Heap.lt_size q) (Nat.not_lt.mpr le)
abbrev itObj (a : Addr) : Obj := { cls := .type "list_iterator", data := .fields #[.ref a, .int 0 0] }
/-- ahead of the loop that takes the members in -/
abbrev ahead (w : World) (s : Shared) (a : Addr) : Shared := { s with heap := (s.heap.push (newSet w)).push (itObj a) }
/-- what is left of the state behind it -/
def SetBack (s : Shared) (Post : Heap → Prop) (s2 : Shared) : Prop := ∃ h' tk, s2 = { s with heap := h', toks := tk } ∧ Post h' ∧ ∀ b o, s.heap.get? b = some o → h'.get? b = some o
set_option maxHeartbeats 3200000 in
theorem call_set {a : Addr} {vs : Array Value} {Post : Heap → Prop} {Q : Value → Shared → Prop} (hh : A.handled = none) (hl : s.heap.IsList a vs)
    (loop : ∀ (B : Around) (R : Result → Shared → Prop), B.handled = none → B.units ≤ A.units + 3 → (∀ s', Moved [s.heap.objs.size, s.heap.objs.size + 1] (fun a b => b = a) (ahead w s a) s' → Post s'.heap → R (.ok (.ret .none)) s') → codeAny (model P w) B (.builtin "set.update.loop" ⟨[.ref s.heap.objs.size, .ref (s.heap.objs.size + 1)], []⟩) R (ahead w s a))
    (q : ∀ s2, SetBack s Post s2 → Q (.ref s.heap.objs.size) s2) : wpAny (model P w) A (call (.type "set") [.ref a]) Q E s := by
  obtain ⟨mc, mt, mro⟩ := F.called_set.mro
  have m1 := F.called_set.made
  have m2 := F.called_set.sub
  have m3 := F.called_set.notType
  have m4 := F.called_set.canCreate
  have m5 := F.typeCall_set_1 (.ref a)
  refine wpAny_call (codeAny_of_tree (wpAny_pure ⟨Code.quiet_builtin _ (by decide +kernel), codeAny_builtin F.entry_type_call ?_⟩))
  rw [Around.under_plain (weight_type_call_type "set" [.ref a] []) rfl]
  repeat (any_goals (first | assumption | wp_step))
  refine codeAny_mono (code_set_led1 (.ref a) (E := E) (Q₁ := fun v s1 => v = .ref s.heap.objs.size ∧ s1 = { s with heap := s.heap.push (newSet w) }) ⟨rfl, rfl⟩) fun r s1 hr => ?_
  cases r with
  | error e => exact hr
  | ok fl =>
    cases fl with
    | ret v =>
      obtain ⟨rfl, rfl⟩ := hr
      have at1 : (s.heap.push (newSet w)).get? s.heap.objs.size = some (newSet w) := Heap.get?_push_size _ rfl
      have ty1 : Shared.TypeIs { s with heap := s.heap.push (newSet w) } (.ref s.heap.objs.size) "set" := ⟨_, at1, rfl⟩
      have i1 := F.called_set.init.lookup
      have i2 := F.called_set.init.bind (.ref s.heap.objs.size)
      repeat (any_goals (first | assumption | wp_step))
      refine codeAny_mono (codeAny_call_builtin (R := wants (fun v s2 => v = .none ∧ SetBack s Post s2) E) F.called_set.init.plain F.entry_set_init (check_set_init_1 ty1 ?_)) fun r2 s2 hr2 => ?_
      · have l1 : (s.heap.push (newSet w)).IsList a vs := hl.push _
        have l1' := l1
        obtain ⟨ol, hol, hcl, nl, hdl⟩ := l1'
        obtain ⟨ocl, odi, oda, osl⟩ := ol
        dsimp only at hcl hdl
        subst hcl
        subst hdl
        have n1 := F.sub_list_set
        have n2 := F.sub_list_frozenset
        have n3 : (Value.type "list" == Value.type "dict") = false := by decide
        unfold Builtin.«set.__init__» noKeywords Builtin.Frozenset.updateFrom
        generalize hIt : pyIter = It
        wp_walk
        subst hIt
        refine wpAny_pyIter_list l1 (wpAny_bind (wpAny_runValue ?_))
        have zz : (s.heap.push (newSet w)).objs.size = s.heap.objs.size + 1 := Heap.size_push ..
        rw [zz]
        refine loop _ _ (by simp [hh]) (by show _ ≤ _; simp only [Around.in1]; omega) fun s' m p => ?_
        obtain ⟨h', gs, dr, tk, os⟩ := s'
        obtain rfl : gs = s.gens := m.gens
        obtain rfl : dr = s.drawn := m.drawn
        obtain rfl : os = s.os := m.os
        refine wpAny_pure (wpAny_pure ⟨rfl, h', tk, rfl, p, fun b o e => m.heap b o (fun z => ?_) (Heap.get?_push_of_some _ (Heap.get?_push_of_some _ e))⟩)
        have lt := Heap.lt_size e
        rcases List.mem_cons.mp z with z | z
        · exact Nat.ne_of_lt lt z
        · exact Nat.ne_of_lt (Nat.lt_succ_of_lt lt) (List.mem_singleton.mp z)
      · cases r2 with
        | error e => exact hr2
        | ok fl2 =>
          cases fl2 with
          | ret v =>
            obtain ⟨rfl, b⟩ := hr2
            have q' := q s2 b
            repeat (any_goals (first | assumption | wp_step))
          | _ => exact hr2.elim
    | _ => exact hr.elim
end
end DV
end

section
set_option Elab.async false
set_option linter.all false
set_option maxRecDepth 100000
set_option autoImplicit false
/-! Tuples of ints and texts as members. -/
namespace DV
open PySem PySem.Spec PyProof.Rows L2
section
variable {P : Program} {w : World} {A : Around} {E : Value → Shared → Prop} {s : Shared}
theorem key_cls (n : Nat) {k : Key} {v : Value} (h : keyIs k v = true) : ofAClassStatement n v = pure false := by
  rcases keyIs_shape h with ⟨i, t, _, rfl⟩ | ⟨z, t, _, rfl⟩ <;> cases n <;> rfl
theorem key_hbv (n : Nat) {k : Key} {v : Value} (h : keyIs k v = true) : ∃ c, hashByValue n v = pure c := by
  rcases keyIs_shape h with ⟨i, t, _, rfl⟩ | ⟨z, t, _, rfl⟩ <;> cases n <;> exact ⟨_, rfl⟩
theorem items_keys {ks : List Key} {vs : List Value} (h : ItemsAre (mixKind P w) ks vs) : ∀ v ∈ vs, ∃ k, keyIs k v = true := by
  induction h with
  | nil => intro v z; cases z
  | cons e _ ih =>
    intro v z
    rcases List.mem_cons.mp z with rfl | z
    · exact ⟨_, e⟩
    · exact ih v z
theorem mix_stay {h h' : Heap} {k : List Key} {a b : Addr} {o : Obj} {rows : Array (Int × Value)} {e : Nat} {t : SetTable} (i : IsTupleKey (mixKind P w) h k b) (ho : h.get? a = some o) (hd : o.data = .set rows e t) (sm : Heap.SameBut a h h') : IsTupleKey (mixKind P w) h' k b := by
  obtain ⟨u, its, n, hu, hc, hd2, hi⟩ := i
  refine ⟨u, its, n, (sm.2 b fun z => ?_).trans hu, hc, hd2, hi⟩
  subst z
  rw [ho] at hu
  cases hu
  rw [hd] at hd2
  cases hd2
theorem mix_cls {k : List Key} {b : Addr} {Q : Bool → Shared → Prop} (i : IsTupleKey (mixKind P w) s.heap k b) (q : Q false s) : wpAny (model P w) A (ofAClassStatement 8 (.ref b)) Q E s := by
  have ty := i.typeIs
  obtain ⟨u, its, n, hu, hc, hd, hi⟩ := i
  have al := items_keys hi
  unfold ofAClassStatement
  refine wpAny_bind (wpAny_typeOf ty ?_)
  dsimp only
  rw [show (("tuple" : String) == "tuple") = true from by decide]
  simp only [if_true, Bool.not_true, Bool.false_eq_true, if_false]
  refine wpAny_bind (m := seqItems? (.ref b)) (wpAny_seqItems hu hd ?_)
  dsimp only
  refine wpAny_bind ?_
  rw [← Array.forIn_toList]
  refine wpAny_forIn_list _ (fun rest r s' => r.1 = none ∧ s' = s ∧ ∀ v ∈ rest, ∃ k, keyIs k v = true) _ (fun v rest r s' J => ?_) (fun r s' J => ?_) _ _ ⟨rfl, rfl, al⟩
  · obtain ⟨_, rfl, g⟩ := J
    obtain ⟨k1, e1⟩ := g v List.mem_cons_self
    rw [key_cls _ e1]
    refine wpAny_bind (wpAny_pure ?_)
    rw [if_neg (by decide)]
    exact wpAny_pure ⟨rfl, rfl, fun v z => g v (List.mem_cons_of_mem _ z)⟩
  · obtain ⟨r1, r2⟩ := r
    obtain ⟨rfl, rfl, _⟩ := J
    exact wpAny_pure q
theorem mix_hbv {k : List Key} {b : Addr} {Q : Bool → Shared → Prop} (i : IsTupleKey (mixKind P w) s.heap k b) (q : ∀ c, Q c s) : wpAny (model P w) A (hashByValue 8 (.ref b)) Q E s := by
  have ty := i.typeIs
  obtain ⟨u, its, n, hu, hc, hd, hi⟩ := i
  have al := items_keys hi
  unfold hashByValue
  refine wpAny_bind (wpAny_specialOf ty F.slot_tuple_hash.lookup ?_)
  refine wpAny_bind (m := seqItems? (.ref b)) (wpAny_seqItems hu hd ?_)
  refine wpAny_bind ?_
  rw [← Array.forIn_toList]
  refine wpAny_forIn_list _ (fun rest r s' => r.1 = none ∧ s' = s ∧ ∀ v ∈ rest, ∃ k, keyIs k v = true) _ (fun v rest r s' J => ?_) (fun r s' J => ?_) _ _ ⟨rfl, rfl, al⟩
  · obtain ⟨_, rfl, g⟩ := J
    obtain ⟨k1, e1⟩ := g v List.mem_cons_self
    obtain ⟨c, e2⟩ := key_hbv 7 e1
    rw [e2]
    refine wpAny_bind (wpAny_pure ?_)
    cases c with
    | true => exact wpAny_pure ⟨rfl, rfl, fun v z => g v (List.mem_cons_of_mem _ z)⟩
    | false => exact wpAny_pure (wpAny_pure (q _))
  · obtain ⟨r1, r2⟩ := r
    obtain ⟨rfl, rfl, _⟩ := J
    exact wpAny_pure (q _)
theorem mix_calm : Calm (tupleKind (mixKind P w)) where
  cls := mix_cls
  hbv := mix_hbv
  stay := mix_stay
  up := fun i g => by
    obtain ⟨u, its, n, hu, r⟩ := i
    exact ⟨u, its, n, g _ u hu, r⟩
end
section
variable {P : Program} {w : World} {A : Around} {E : Value → Shared → Prop} {s : Shared} {a : Addr} {vs : Array Value}
theorem ahead_at {B : Around} (hb : B.handled = none) (hl : s.heap.IsList a vs) :
    ∃ St : Nat → Shared → Prop, WalksS P w B.in1 (s.heap.objs.size + 1) [s.heap.objs.size + 1, a] [s.heap.objs.size + 1] (fun a b => b = a) vs.size (fun i v => vs[i]? = some v) St ∧ St 0 (ahead w s a) ∧ s.heap.objs.size ∉ [s.heap.objs.size + 1, a] ∧
      (ahead w s a).heap.get? s.heap.objs.size = some (newSet w) ∧ ∀ b o, s.heap.get? b = some o → (ahead w s a).heap.get? b = some o := by
  have la : a < s.heap.objs.size := by
    obtain ⟨ol, hol, _⟩ := hl
    exact Heap.lt_size hol
  have zz : (s.heap.push (newSet w)).objs.size = s.heap.objs.size + 1 := Heap.size_push ..
  have up : ∀ b o, s.heap.get? b = some o → (ahead w s a).heap.get? b = some o := fun b o e => Heap.get?_push_of_some _ (Heap.get?_push_of_some _ e)
  refine ⟨_, (Walks.list (prog := P) (w := w) (A := B.in1) (by simp [hb]) (s.heap.objs.size + 1) a (Nat.ne_of_lt (Nat.lt_succ_of_lt la)) vs).toS, ⟨⟨itObj a, by rw [← zz]; exact Heap.get?_push_size _ rfl, rfl, rfl⟩, (hl.push _).push _⟩, ?_, Heap.get?_push_of_some _ (Heap.get?_push_size _ rfl), up⟩
  simp only [List.mem_cons, List.not_mem_nil, or_false, not_or]
  exact ⟨Nat.ne_of_lt (Nat.lt_succ_self _), Nat.ne_of_gt la⟩
theorem call_setK {K : Type} [DecidableEq K] {HK : HeapKind P w K} (C : Calm HK) (ps : List (Addr × K)) {Q : Value → Shared → Prop} (hh : A.handled = none) (hl : s.heap.IsList a vs) (hv : vs.toList = ps.map fun p => Value.ref p.1) (hk : ∀ p ∈ ps, HK.is s.heap p.2 p.1)
    (hf : ps.length < 64) (hu : ∀ B : Around, B.units ≤ A.units + 4 → HK.room B) (q : ∀ s2, SetBack s (Upto HK ps ps.length s.heap.objs.size) s2 → Q (.ref s.heap.objs.size) s2) : wpAny (model P w) A (call (.type "set") [.ref a]) Q E s := by
  have nn : vs.size = ps.length := by rw [← Array.length_toList, hv, List.length_map]
  refine call_set hh hl (fun B R hb ub k => ?_) q
  obtain ⟨St, W, st, ni, at1, up⟩ := ahead_at (P := P) (w := w) hb hl
  refine take_in C W ni ps nn hf (fun i v e => ?_) (h0 := s.heap) hk (beyond (Nat.le_refl _)) (fun b hb => beyond (by rw [List.mem_singleton.mp hb]; exact Nat.le_succ _)) (hu _ (by show B.units + 1 ≤ _; omega)) vs.size 0 _ (by omega) st up ?_ fun s' m U _ => k s' m (by rw [← nn]; exact U)
  · have e2 : vs.toList[i]? = some v := by rw [Array.getElem?_toList]; exact e
    rw [hv, List.getElem?_map] at e2
    cases e3 : ps[i]? with
    | none => rw [e3] at e2; cases e2
    | some p => rw [e3] at e2; exact ⟨p, rfl, (Option.some.inj e2).symm⟩
  · exact ⟨[], 0, _, kset_new at1, (fun y hy => by cases hy), (fun k => ⟨fun ⟨y, hy, _⟩ => (by cases hy), fun z => (by cases z)⟩), rfl⟩
theorem call_setI {ns : List Int} {Q : Value → Shared → Prop} (hh : A.handled = none) (hl : s.heap.IsList a vs) (hv : IntsAre vs.toList ns) (hf : ns.length + 1 < scanBound)
    (q : ∀ s2, SetBack s (fun h => ∃ c, c ≤ ns.length ∧ SetR w h s.heap.objs.size (fun j => decide (j ∈ ns)) c) s2 → Q (.ref s.heap.objs.size) s2) : wpAny (model P w) A (call (.type "set") [.ref a]) Q E s := by
  have nn : vs.size = ns.length := by rw [← Array.length_toList]; exact hv.length
  refine call_set hh hl (fun B R hb ub k => ?_) q
  obtain ⟨St, W, st, ni, at1, up⟩ := ahead_at (P := P) (w := w) hb hl
  refine set_update_ints W _ ni ns nn hf (fun i v e => ?_) vs.size 0 _ (by omega) (Nat.zero_le _) st ⟨0, Nat.le_refl _, setR_new_at at1⟩ fun s' c m le R => k s' m ⟨c, by omega, R⟩
  obtain ⟨t, e2⟩ := IntsAre.int_at hv i v (by rw [Array.getElem?_toList]; exact e)
  have hi : i < ns.length := by rw [← nn]; exact (Array.getElem?_eq_some_iff.mp e).1
  refine ⟨ns.getD i 0, t, ?_, e2⟩
  rw [List.getD_eq_getElem?_getD, List.getElem?_eq_getElem hi]; rfl
end
end DV
end

section
set_option Elab.async false
set_option linter.all false
set_option maxRecDepth 100000
set_option autoImplicit false
/-! The evaluator is right: len(set(..)), sorted(set(..)). -/
namespace DV
open PySem PySem.Spec PyProof.Rows L2
section
variable {X : Cx} {sl : Slo} {W : WX} {c : Ctx} {a : Expr} {v : Slots} {S : Sto} {F : Hp} {r : Rho} {σ : L2.St} {H : Hp} {R : Rec} {pos : Pos} {Q : VK}
theorem keysOf_ok {Y : Fx} : ∀ {xs : List D} {vs : List V} {ks : List Key}, VRs Y F r xs vs → keysOf xs = some ks → vs = ks.map kV
  | [], _, _, .nil, e => by cases e; rfl
  | x :: xs, _, ks, .cons h hs, e => by
    have e' : (match toKey x, keysOf xs with | some k, some ks => some (k :: ks) | _, _ => none) = some ks := e
    cases q1 : toKey x with
    | none => rw [q1] at e'; cases e'
    | some k =>
      cases q2 : keysOf xs with
      | none => rw [q1, q2] at e'; cases e'
      | some ks' =>
        rw [q1, q2] at e'
        cases e'
        rw [toKey_ok h q1, keysOf_ok hs q2]; rfl
theorem tupKeys_ok {Y : Fx} : ∀ {xs : List D} {vs : List V} {ks : List (List Key)}, VRs Y F r xs vs → tupKeys xs = some ks → ∃ ps : List (Addr × List Key), vs = ps.map (fun p => V.ref p.1) ∧ ps.map (·.2) = ks ∧ ∀ p ∈ ps, SqT Y.K F p.1 (p.2.map kV)
  | [], _, _, .nil, e => by cases e; exact ⟨[], rfl, rfl, fun p hp => by cases hp⟩
  | x :: xs, _, ks, .cons h hs, e => by
    cases x with
    | tup ys =>
      have e' : (match keysOf ys, tupKeys xs with | some k, some ks => some (k :: ks) | _, _ => none) = some ks := e
      cases q1 : keysOf ys with
      | none => rw [q1] at e'; cases e'
      | some k =>
        cases q2 : tupKeys xs with
        | none => rw [q1, q2] at e'; cases e'
        | some ks' =>
          rw [q1, q2] at e'
          cases e'
          obtain ⟨ps, e1, e2, e3⟩ := tupKeys_ok hs q2
          cases h with
          | @tup _ b us h hs2 =>
            have := keysOf_ok hs2 q1
            subst this
            refine ⟨(b, k) :: ps, by rw [e1]; rfl, by rw [List.map_cons, e2], fun p hp => ?_⟩
            rcases List.mem_cons.mp hp with z | z
            · rw [z]; exact h
            · exact e3 p z
    | _ => cases e
theorem items_mix {P : Program} {w : World} : ∀ {ks : List Key} {us : List Value}, Vals (ks.map kV) us → ItemsAre (mixKind P w) ks us
  | [], _, .nil => .nil
  | k :: ks, _, .cons h hs => .cons (kV_is h) (items_mix hs)
theorem refs_back : ∀ {ps : List (Addr × List Key)} {us : List Value}, Vals (ps.map fun p => V.ref p.1) us → us = ps.map fun p => Value.ref p.1
  | [], _, .nil => rfl
  | p :: ps, _, .cons h hs => by
    cases h
    rw [refs_back hs]; rfl
theorem tup_mix {pins : List (Addr × Obj)} {s : Shared} {b : Addr} {k : List Key} (I : Inv X pins σ H s) (h : SqT X.K H b (k.map kV)) : IsTupleKey (mixKind X.prog X.w) s.heap k b := by
  obtain ⟨its, rv, ⟨o, e, hc, n, hd⟩, _⟩ := I.tuple h
  exact ⟨o, its.toArray, n, e, hc, hd, by simpa using items_mix rv⟩
theorem strict_uniq {ns is : List Int} (h : ns.Pairwise (· < ·)) (hm : ∀ k, k ∈ ns ↔ k ∈ is) : ns = sortI (kmet is) := by
  have n1 : ns.Nodup := h.imp fun z e => by omega
  refine sort_uniq ((List.perm_ext_iff_of_nodup n1 ((sortI_perm _).nodup_iff.mpr (kmet_nodup is))).mpr fun k => ?_) (h.imp fun z => by omega) (sortI_sorted _)
  rw [hm, (sortI_perm _).mem_iff, mem_kmet]
/-- the set is made, and asked -/
def SetC (X : Cx) (σ : L2.St) (f : Value) (x : V) (H : Hp) (Q : VK) : Prop := ∀ (pins : List (Addr × Obj)) (s : Shared) (u : Value), Inv X pins σ H s → RelV x u →
  wpAny (model X.prog X.w) X.A (call (.type "set") [u]) (fun v s' => wpAny (model X.prog X.w) X.A (call f [v]) (EP X pins σ Q) X.xe s') X.xe s
theorem setF_ok {x : Str} {d z : D} {y : V} (cal : X.calm = true) (hu : X.A.units + 65 < cLine) (R' : Rel (fx X sl) F r S H) (hx : VR (fx X sl) F r d y) (e : setF x S d = some z) (p : Post (fx X sl) F r H z S Q) :
    (x = "len" ∧ SetC X σ (.builtin "len") y H Q) ∨ (x = "sorted" ∧ SetC X σ (.builtin "sorted") y H Q) := by
  unfold setF at e
  split at e
  · rename_i hl
    split at e
    · rename_i xs hi
      obtain ⟨b, vs, rfl, h2, h3⟩ := hx.isLst R' hl hi
      split at e
      · rename_i is hq
        obtain ⟨e1, e2⟩ := intsOf_ok h3 hq
        subst e1
        split at e
        · rename_i h64
          have made : ∀ (pins : List (Addr × Obj)) (s : Shared) (u : Value) (Z : Value → Shared → Prop), Inv X pins σ H s → RelV (V.ref b) u → (∀ s2, SetBack s (fun h => ∃ c, c ≤ is.length ∧ SetR X.w h s.heap.objs.size (fun j => decide (j ∈ is)) c) s2 → Z (.ref s.heap.objs.size) s2) → wpAny (model X.prog X.w) X.A (call (.type "set") [u]) Z X.xe s := by
            intro pins s u Z I ru k
            obtain rfl : u = Value.ref b := ru
            obtain ⟨its, rv, pl, hz⟩ := I.list h2
            exact call_setI (I.ok.hd cal) pl.isList (ns := is) (by simpa using rv.ints) (by unfold scanBound; omega) k
          split at e
          · rename_i hn
            cases e
            refine .inl ⟨hn, fun pins s u I ru => made pins s u _ I ru fun s2 k => ?_⟩
            obtain ⟨h', tk, rfl, ⟨n, hn2, o, es, ep, t, ho, hex, hd, _, nd, hs, hb, hf, hsz, _⟩, up⟩ := k
            have I2 : Inv X pins σ H { s with heap := h', toks := tk } := I.kept up
            have en : es.size = (kmet is).length := by
              have l1 := nodup_same_len nd (kmet_nodup is) fun j => by rw [mem_kmet, ← hs j]; simp
              rw [List.length_map, Array.length_toList] at l1
              exact l1
            refine call_len_set ho hex hd hf (by unfold scanBound at hb; omega) ⟨.int (kmet is).length, H, I2.tok _, ⟨_, by rw [en]⟩, p.now R' (.int _)⟩
          · split at e
            · rename_i hn
              cases e
              refine .inr ⟨hn, fun pins s u I ru => made pins s u _ I ru fun s2 k => ?_⟩
              obtain ⟨h', tk, rfl, ⟨n, hn2, R2⟩, up⟩ := k
              have hn : H s.heap.objs.size = none := I.hok.fresh (Nat.le_refl _)
              have I2 : Inv X pins σ (upd H s.heap.objs.size (SetO X.w s.heap.objs.size (fun j => decide (j ∈ is)) n)) { s with heap := h', toks := tk } := I.laid (t' := tk) up (Nat.le_refl _) (setO_new R2)
              refine cr_sortedSet cal pins _ σ _ [V.ref s.heap.objs.size] [Value.ref s.heap.objs.size] Q I2 (.cons rfl .nil) ⟨s.heap.objs.size, _, n, rfl, upd_same, by omega, fun ns q hw hm hl2 hq => ?_⟩
              obtain rfl := strict_uniq (is := is) hw fun k => (hm k).trans (by simp)
              have hF := R'.fresh hn
              have R3 := R'.tmp hF (R'.notin hn) (by rw [hn]; intro z; cases z) (SetO X.w s.heap.objs.size (fun j => decide (j ∈ is)) n)
              have x3 := (Ext.refl F r H).tmp hn (SetO X.w s.heap.objs.size (fun j => decide (j ∈ is)) n)
              obtain ⟨R4, x4⟩ := R3.laidF hq (.lst ((sortI (kmet is)).map V.int))
              exact p _ _ _ _ R4 (x3.trans x4) (.lst upd_same (ints_vr _))
            · cases e
        · cases e
      · split at e
        · rename_i ks hk
          split at e
          · rename_i hc
            cases e
            obtain ⟨ps, e1, e2, e3⟩ := tupKeys_ok h3 hk
            subst e1
            subst e2
            refine .inl ⟨hc.1, fun pins s u I ru => ?_⟩
            obtain rfl : u = Value.ref b := ru
            obtain ⟨its, rv, pl, hz⟩ := I.list h2
            have hp64 : ps.length < 64 := by have := hc.2; rwa [List.length_map] at this
            refine call_setK (P := X.prog) (w := X.w) mix_calm ps (I.ok.hd cal) pl.isList (by simpa using refs_back rv) (fun p hp => tup_mix I (Same.seqT R'.sub (e3 p hp))) hp64 (fun B hB => by show B.units < cLine; omega) fun s2 k => ?_
            obtain ⟨h', tk, rfl, ⟨rows, ep, t, KS, _, u1, u2⟩, up⟩ := k
            have fit := KS.fits
            have few := KS.few
            obtain ⟨o, ho, hex, hd⟩ := KS.ob
            have I2 : Inv X pins σ H { s with heap := h', toks := tk } := I.kept up
            have en : rows.toArray.size = (kmet (ps.map (·.2))).length := by
              rw [List.size_toArray, u2, List.take_of_length_le (Nat.le_refl _)]
            refine call_len_set ho hex hd fit (by rw [List.size_toArray]; omega) ⟨.int (kmet (ps.map (·.2))).length, H, I2.tok _, ⟨_, by rw [en]⟩, p.now R' (.int _)⟩
          · cases e
        · cases e
    · cases e
  · cases e
theorem good_setC {x : Str} {pp p2 q : Pos} (xd : XD X sl W c) (g : ∀ e v S, GoodE X sl W e v S (R.E c e v S)) (hx : x = "len" ∨ x = "sorted") (hg : isBl c x = true) (hs : isBl c "set" = true) (hn : noStar [a] = true) :
    GoodE X sl W (.Call (.Name x pp) [.Call (.Name "set" p2) [a] [] q] [] pos) v S ((R.E c a v S).bind fun d S1 => Res.opt S1 (setF x S1 d)) := by
  intro F r σ H R' s Q p pins s0 I
  obtain ⟨h1, h2, h3, h4⟩ := isBl_of xd hg
  obtain ⟨k1, k2, k3, k4⟩ := isBl_of xd hs
  have na : starEach [a] X.env = (false, eval a X.env) :: starEach [] X.env := starEach_cons (noStar_ne hn).1
  have go : ∀ id : String, bootBuiltins x = some (.builtin id) → (∀ {y : V} {H1 : Hp} {C : Prop}, (x = "len" ∧ SetC X σ (.builtin "len") y H1 Q) ∨ (x = "sorted" ∧ SetC X σ (.builtin "sorted") y H1 Q) → SetC X σ (.builtin id) y H1 Q) →
      wpAny (model X.prog X.w) X.A (eval (.Call (.Name x pp) [.Call (.Name "set" p2) [a] [] q] [] pos) X.env) (EP X pins σ Q) X.xe s0 := by
    intro id hf pick
    refine wpAny_Call_Name_kw (ld_blt I h1 h2 hf ?_ h4 h3)
    rw [callWith_nk]
    refine callWith_builtin1 (args_cons ?_ rfl) rfl rfl
    refine wpAny_Call_Name_kw (ld_blt I k1 k2 boot_set ?_ k4 k3)
    rw [callWith_nk]
    refine callWith_type1 (args_cons (thn (run1 (C := fun y H1 => SetC X σ (.builtin id) y H1 Q) pd_step (g a v S) R' s p (fun d S1 F1 r1 H1 y R1 x1 hy s1 p1 => ?_) pins s0 I) fun u s1 ⟨y, H1, I1, ry, k⟩ => args_nil ?_) na) na rfl
    · cases e : setF x S1 d with
      | none => rw [e] at p1; exact p1.elim
      | some z => rw [e] at p1; exact pick (C := True) (setF_ok xd.calm (hu65 xd) R1 hy e p1)
    · exact thn (k pins s1 u I1 ry) fun v2 s2 k2 => args_nil k2
  rcases hx with rfl | rfl
  · exact go _ boot_len fun h => by
      rcases h with ⟨_, h⟩ | ⟨h, _⟩
      · exact h
      · exact absurd h (by decide)
  · exact go _ boot_sorted fun h => by
      rcases h with ⟨h, _⟩ | ⟨_, h⟩
      · exact absurd h (by decide)
      · exact h
end
end DV
end

section
set_option Elab.async false
set_option linter.all false
set_option maxRecDepth 100000
set_option autoImplicit false
/-! len(x), str(x) by the class's own defs. -/
namespace DV
open PySem PySem.Spec PyProof.Rows
section
variable {prog : Program} {w : World} {A : Around} {E : Value → Shared → Prop} {s : Shared} {K : PySem.W.Frag} {x C f : Addr} {ox : Obj} {odd : Option Obj}
theorem len_own {Q : Value → Shared → Prop} (X : K.In s.heap) (I : PySem.W.InstAt s.heap x ox C odd) (hs : PySem.W.findIn K (.ref C) "__len__" = some (some (.ref f))) (hf : PySem.W.isFn K (.ref f) = true)
    (h : wpAny (model prog w) A.in1 (call (.ref f) [.ref x]) (fun r s1 => ∃ n u, r = Value.int n u ∧ 0 ≤ n ∧ n < 2 ^ 63 ∧ Q (.int n s1.toks) { s1 with toks := s1.toks + 1 }) E s) : wpAny (model prog w) A (call (.builtin "len") [.ref x]) Q E s := by
  refine Calls.call_function_entry kind_len plain_len entry_len (args_len1 _) ?_
  unfold Builtin.«len»
  refine wpAny_bind (m := oneArg "len" _) (wpAny_pure ?_)
  refine wpAny_bind (m := callSpecial? (.ref x) (Str.ofString "__len__")) (PySem.W.special_fn X I hs (beq_iff_eq.mp hf) (wpAny_mono h (fun r s1 hr => ?_) fun _ _ y => y))
  obtain ⟨n, u, rfl, h0, h1, q⟩ := hr
  dsimp only
  refine wpAny_bind (wpAny_holding (wpAny_pure ?_))
  refine wpAny_bind (wpAny_letGo ?_)
  rw [if_neg (by omega), if_neg (by omega)]
  exact wpAny_bind (wpAny_mkInt (wpAny_pure ⟨_, rfl, q⟩))
theorem strOf_own {Q : Value → Shared → Prop} (hu : A.units < cLine) (X : K.In s.heap) (I : PySem.W.InstAt s.heap x ox C odd) (hs : PySem.W.findIn K (.ref C) "__str__" = some (some (.ref f))) (hf : PySem.W.isFn K (.ref f) = true)
    (h : wpAny (model prog w) A (call (.ref f) [.ref x]) (fun r s1 => ∃ z u, r = Value.str z u ∧ Q r s1) E s) : wpAny (model prog w) A (Builtin.Str.strOf (.ref x)) Q E s := by
  unfold Builtin.Str.strOf
  rw [show Builtin.Str.isExactStr (.ref x) = false from rfl]
  simp only [Bool.false_eq_true, if_false]
  refine wpAny_bind (m := cRoomFor _ _) (wpAny_cRoomFor hu ?_)
  refine wpAny_bind (m := callSpecial? (.ref x) (Str.ofString "__str__")) (PySem.W.special_fn X I hs (beq_iff_eq.mp hf) (wpAny_mono h (fun r s1 hr => ?_) fun _ _ y => y))
  obtain ⟨z, u, rfl, q⟩ := hr
  dsimp only
  first
    | exact wpAny_pure q
    | exact wpAny_bind (wpAny_isInstance (T := "str") (b := true) rfl isSubtype_str_str (wpAny_pure q))
theorem str_own {Q : Value → Shared → Prop} (hu : A.units + 2 < cLine) (X : K.In s.heap) (I : PySem.W.InstAt s.heap x ox C odd) (hs : PySem.W.findIn K (.ref C) "__str__" = some (some (.ref f))) (hf : PySem.W.isFn K (.ref f) = true)
    (h : wpAny (model prog w) A.in1.in1 (call (.ref f) [.ref x]) (fun r s1 => ∃ z u, r = Value.str z u ∧ Q r s1) E s) : wpAny (model prog w) A (call (.type "str") [.ref x]) Q E s := by
  refine callType_codes (T := "str") (Bi := Builtin.«object.__init__») (Q₁ := fun r s1 => ∃ z u, r = Value.str z u ∧ Q r s1) F.called_str (F.typeCall_str_1 _) F.entry_object_init ?_ ?_
  · refine codeAny_of_tree ?_
    refine wpAny_bind (m := checkBuiltinCall "str.__new__" ⟨[.type "str", .ref x], []⟩) (wpAny_of_eq (F.newCall_str_1 _) (wpAny_pure ⟨plainId_quiet (by decide +kernel) _, codeAny_builtin F.entry_str_new ?_⟩))
    rw [Around.under_plainId (by decide +kernel) _, str_new_tree]
    refine wpAny_bind (wpAny_pure ?_)
    refine wpAny_bind (wpAny_of_eq isSubtype_str_str ?_)
    refine wpAny_bind (strOf_own (by show A.units + 2 < cLine; exact hu) X I hs hf (wpAny_mono h (fun r s1 hr => ?_) fun _ _ y => y))
    obtain ⟨z, u, rfl, q⟩ := hr
    exact ⟨z, u, rfl, wpAny_pure ⟨z, u, rfl, q⟩⟩
  · rintro obj s1 ⟨z, u, rfl, q⟩
    exact ⟨typeIs_str _ _ _, F.args_object_init_2 _ _, object_init_meets F.called_str.init.lookup F.called_str.made (by decide) prog w A.in1 _ s1 ⟨typeIs_str _ _ _, rfl, q⟩⟩
end
end DV
end

section
set_option Elab.async false
set_option linter.all false
set_option maxRecDepth 100000
set_option autoImplicit false
/-! The evaluator is right: len(x), str(x) by the class's own defs; o.m(*xs). -/
namespace DV
open PySem PySem.Spec PyProof.Rows L2
section
variable {X : Cx} {sl : Slo} {W : WX} {c : Ctx} {a o : Expr} {args : List Expr} {v : Slots} {S : Sto} {F : Hp} {r : Rho} {σ : L2.St} {H : Hp} {R : Rec} {pos apos : Pos} {Q : VK}
theorem insD_inst {d : D} {y : V} {cl : Str} {ns : List Str} {xs : List D} {pins : List (Addr × Obj)} {s : Shared} (R' : Rel (fx X sl) F r S H) (h : VR (fx X sl) F r d y) (e : insD S d = some (cl, ns, xs)) (I : Inv X pins σ H s) :
    ∃ b ob od, y = .ref b ∧ PySem.W.InstAt s.heap b ob (He.ga X.K cl) od := by
  obtain ⟨b, rfl, ho⟩ := insD_ok R' h e
  rcases ho with ⟨l, C, dx, fs, h1, h2, h3, h4⟩ | ⟨sl', C, dx, vs, l, h3, h1, h2, h4⟩
  · subst h2
    obtain ⟨mA, O, _⟩ := ins_get I.hok h1
    obtain ⟨od, J, _⟩ := O.look
    exact ⟨b, _, _, rfl, J⟩
  · subst h2
    obtain ⟨sl, od, _, J, _⟩ := SlX.slt_inst I h1
    exact ⟨b, _, _, rfl, J⟩
/-- the answer's kind -/
def BackV (x : Str) (y : V) : Prop := (x = "len" ∧ ∃ n : Int, y = .int n ∧ 0 ≤ n ∧ n < 2 ^ 63) ∨ (x = "str" ∧ ∃ z, y = .str z)
theorem back_post {x : Str} {m : Res D} {E : XK} (p : PostF (fx X sl) F r H (m.bind fun r S2 => backR (backOk x r) r S2) Q E) : PostF (fx X sl) F r H m (fun y H' => BackV x y ∧ Q y H') E := by
  cases m with
  | bad => exact p
  | exc c ns xs S1 => exact p
  | ok d S1 =>
    have p' : PostF (fx X sl) F r H (backR (backOk x d) d S1) Q E := p
    cases hb : backOk x d with
    | true =>
      rw [hb] at p'
      intro F1 r1 H1 y R1 x1 hy
      refine ⟨?_, p' F1 r1 H1 y R1 x1 hy⟩
      unfold backOk at hb
      split at hb
      · rename_i n
        rw [Bool.and_eq_true, Bool.and_eq_true, decide_eq_true_eq, decide_eq_true_eq, decide_eq_true_eq] at hb
        cases hy
        exact .inl ⟨hb.1, n, rfl, hb.2.1, by have := hb.2.2; omega⟩
      · cases hy
        exact .inr ⟨of_decide_eq_true hb, _, rfl⟩
      · cases hb
    | false => rw [hb] at p'; exact p'.elim
/-- a def runs below a built-in -/
theorem callS_below {A : Around} {k : Nat} {g b : Addr} {sp : Sp} {Z : VK} {pins : List (Addr × Obj)} {s : Shared} (Fn : FnRG X.prog X.w X.K X.mg X.base k g sp) (hr : Room k A) (gd : A.guards = some []) (e0 : Env0 X.prog X.w X.K X.mg X.base A X.stack s H) (tk : Takes X W) (I : Inv X pins σ H s) (h : sp [.ref b] H Z (EW W σ)) :
    wpAny (model X.prog X.w) A (call (.ref g) [.ref b]) (EP X pins σ Z) X.xe s := by
  refine wpAny_call (codeAny_mono (Fn A X.stack s H [.ref b] [.ref b] Z _ hr gd e0 (.cons rfl .nil) h) fun q s' hq => ?_)
  cases q with
  | error e => exact tk e s' (XE.of_call I (fun _ _ _ h => h) hq)
  | ok fl =>
    cases fl with
    | ret u => exact I.after hq
    | next => exact False.elim hq
    | brk => exact False.elim hq
    | cont => exact False.elim hq
theorem callBO_ok {x : Str} {ds : List D} {vs : List V} (xd : XD X sl W c) (R' : Rel (fx X sl) F r S H) (hs : VRs (fx X sl) F r ds vs) (p : PostF (fx X sl) F r H (callBO c.G x S ds) Q (EW W σ)) {f : Value} (hf : bootBuiltins x = some f) : CallS X σ f vs H Q := by
  have plain : PostF (fx X sl) F r H (Res.opt S (callB x S ds)) Q (EW W σ) → CallS X σ f vs H Q := fun p => by
    cases e : callB x S ds with
    | none => rw [e] at p; exact p.elim
    | some z =>
      rw [e] at p
      obtain ⟨f', hf', _, k⟩ := callB_ok xd.calm xd.gd (hu65 xd) R' hs e
      rw [hf] at hf'
      cases hf'
      exact k Q σ p
  unfold callBO at p
  split at p
  · rename_i d
    split at p
    · rename_i cl ns xs m hi hm
      cases hfm : meOk c.G cl m with
      | none => rw [hfm] at p; exact p.elim
      | some fi =>
        rw [hfm] at p
        dsimp only [Option.elim] at p
        split at p
        · rename_i hlev
          have p2 := back_post p
          unfold runF at p2
          dsimp only at p2
          split at p2
          · rename_i hlen
            obtain ⟨ga, bm, fg⟩ := xd.gen.me cl m fi hfm
            obtain ⟨dvs, hd, Fn⟩ := fg.pos (fi.dfl.length - (fi.ps.length - [d].length)) (Nat.sub_le _ _)
            have q := runP_ok (as := fill fi [d]) (vs := vs ++ dvs) R' (hs.append (hd F r)) p2
            rw [hlen] at q
            have hr1 : Room (fi.lev + 1) X.A.in1 := (xd.room.mono hlev).in1
            have hr2 : Room fi.lev X.A.in1.in1 := hr1.in1
            have un := xd.room.un
            have hm2 : (x = "len" ∧ m = "__len__") ∨ (x = "str" ∧ m = "__str__") := by
              unfold spName at hm
              split at hm
              · cases hm; exact .inl ⟨‹_›, rfl⟩
              · split at hm
                · cases hm; exact .inr ⟨‹_›, rfl⟩
                · cases hm
            intro pins s us I rv
            cases hs with
            | cons h0 hs =>
              cases hs
              obtain ⟨b, ob, od, rfl, J⟩ := insD_inst R' h0 hi I
              cases rv with
              | cons r0 rv =>
                cases rv
                cases r0
                rcases hm2 with ⟨rfl, rfl⟩ | ⟨rfl, rfl⟩
                · have : f = .builtin "len" := by
                    have h2 := boot_len; rw [hf] at h2; exact Option.some.inj h2
                  subst this
                  refine len_own I.kIn J bm.mt.at_ bm.mt.fn (thn (callS_below Fn (hr1.mono (Nat.le_succ _)) xd.gd I.env0.in1 xd.tk I q) fun u s1 ⟨y, H1, I1, ry, hy, q1⟩ => ?_)
                  rcases hy with ⟨_, n, rfl, h0, h1⟩ | ⟨h, _⟩
                  · obtain ⟨t, e⟩ := (show ∃ t, u = Value.int n t from ry)
                    cases e
                    exact ⟨n, t, rfl, h0, h1, .int n, H1, I1.tok _, ⟨_, rfl⟩, q1⟩
                  · exact absurd h (by decide)
                · have : f = .type "str" := by
                    have h2 := boot_str; rw [hf] at h2; exact Option.some.inj h2
                  subst this
                  refine str_own (by omega) I.kIn J bm.mt.at_ bm.mt.fn (thn (callS_below Fn hr2 xd.gd I.env0.in1.in1 xd.tk I q) fun u s1 ⟨y, H1, I1, ry, hy, q1⟩ => ?_)
                  rcases hy with ⟨h, _⟩ | ⟨_, z, rfl⟩
                  · exact absurd h (by decide)
                  · obtain ⟨t, e⟩ := (show ∃ t, u = Value.str z t from ry)
                    cases e
                    exact ⟨z, t, rfl, .str z, H1, I1, ⟨t, rfl⟩, q1⟩
          · exact p2.elim
        · exact p.elim
    · exact plain p
  · exact plain p
theorem callBX_ok {x : Str} {ds : List D} {vs : List V} (xd : XD X sl W c) (R' : Rel (fx X sl) F r S H) (hs : VRs (fx X sl) F r ds vs) (p : PostF (fx X sl) F r H (callBX c.G x S ds) Q (EW W σ)) {f : Value} (hf : bootBuiltins x = some f) : CallS X σ f vs H Q := by
  unfold callBX at p
  split at p
  · exact callBO_ok xd R' hs p hf
  · cases e : callB x S ds with
    | none => rw [e] at p; exact p.elim
    | some z =>
      rw [e] at p
      obtain ⟨f', hf', _, k⟩ := callB_ok xd.calm xd.gd (hu65 xd) R' hs e
      rw [hf] at hf'
      cases hf'
      exact k Q σ p
theorem good_callBO {x : Str} {pp : Pos} (xd : XD X sl W c) (g : ∀ e v S, GoodE X sl W e v S (R.E c e v S)) (hg : isBl c x = true) (hb : isBn x = true) (hn : noStar args = true) :
    GoodE X sl W (.Call (.Name x pp) args [] pos) v S ((evA R c args v S).bind fun ds S1 => callBX c.G x S1 ds) := by
  intro F r σ H R' s Q p pins s0 I
  obtain ⟨h1, h2, h3, h4⟩ := isBl_of xd hg
  obtain ⟨f, hf, bt⟩ := isBn_ok hb
  refine wpAny_Call_Name_kw (ld_blt I h1 h2 hf ?_ h4 h3)
  rw [callWith_nk]
  exact run_cwB bt (fv := []) pd_step g .nil args hn R' s p (fun ds S1 F1 r1 H1 vs R1 x1 hs s1 p1 => callBX_ok xd R1 hs p1 hf) pins s0 I
/-! ### o.m(*xs) -/
theorem star_form {M : Model} {A : Around} {E : Value → Shared → Prop} {s : Shared} {env : Env} {e : Expr} {m : Str} {p : Pos} {Q : Value → Shared → Prop} (hb : okBase o = true)
    (h : wpAny M A (eval o env) (fun ov s1 => wpAny M A (getAttr ov m true) (fun f s2 => wpAny M A (callWith pos f [] (backTo pos [(true, eval e env)]) []) Q E s2) E s1) E s) :
    wpAny M A (eval (.Call (.Attribute o m apos) [.Starred e p] [] pos) env) Q E s := by
  have f1 : methodCallForm ([Expr.Starred e p].length + ([] : List Keyword).length) (backTo pos [(true, eval e env)]) [] = false := rfl
  have f2 : methodCallPos false o env apos pos = pure pos := rfl
  have f3 : ∀ ov, calleeOf false o env ov m = (getAttr ov m true >>= fun v => pure (v, [])) := fun _ => rfl
  rw [arm_eval_Call, base_of hb, show starEach [.Starred e p] env = [(true, eval e env)] from rfl, show backToKw pos (keywordEach [] env) = [] from rfl]
  refine wpAny_bind (wpAny_mono h (fun ov s1 h1 => wpAny_bind (wpAny_standAt ?_)) fun _ _ z => z)
  unfold methodCall
  rw [f1, f2, f3]
  exact wpAny_bind (wpAny_holding (wpAny_bind (wpAny_mono h1 (fun f s2 h2 => wpAny_pure (wpAny_bind (wpAny_pure h2))) fun _ _ z => z)))
/-- a callee's code runs -/
def CodeS (X : Cx) (σ : L2.St) (f : Value) (vs : List V) (H : Hp) (Q : VK) : Prop := ∀ (pins : List (Addr × Obj)) (s : Shared) (us : List Value), Inv X pins σ H s → Vals vs us →
  codeAny (model X.prog X.w) X.A (.call f ⟨us, []⟩) (fun r s' => match r with | .ok (.ret v) => EP X pins σ Q v s' | .ok _ => False | .error e => X.xe e s') s
theorem codeS_ok {f : FnI} {ga : Addr} {ds : List D} {vs : List V} (xd : XD X sl W c) (hl : f.lev ≤ c.G.lev) (fg : FnG X sl f ga) (R' : Rel (fx X sl) F r S H) (hs : VRs (fx X sl) F r ds vs) (p : PostF (fx X sl) F r H (runF f ds S) Q (EW W σ)) : CodeS X σ (.ref ga) vs H Q := by
  unfold runF at p
  dsimp only at p
  split at p
  · rename_i hlen
    obtain ⟨dvs, hd, Fn⟩ := fg.pos (f.dfl.length - (f.ps.length - ds.length)) (Nat.sub_le _ _)
    have q := runP_ok (as := fill f ds) (vs := vs ++ dvs) R' (hs.append (hd F r)) p
    rw [hlen] at q
    intro pins s us I rv
    refine codeAny_mono (Fn X.A X.stack s H us vs Q _ (xd.room.mono hl) xd.gd I.env0 rv q) fun z s' hq => ?_
    cases z with
    | error e => exact xd.tk e s' (XE.of_call I (fun _ _ _ h => h) hq)
    | ok fl =>
      cases fl with
      | ret u => exact I.after hq
      | next => exact False.elim hq
      | brk => exact False.elim hq
      | cont => exact False.elim hq
  · exact p.elim
theorem good_star {m : Str} {e : Expr} {pp : Pos} (xd : XD X sl W c) (g : ∀ e v S, GoodE X sl W e v S (R.E c e v S)) (hb : okBase o = true) :
    GoodE X sl W (.Call (.Attribute o m apos) [.Starred e pp] [] pos) v S ((R.E c o v S).bind fun od S1 => callStar R c m od e v S1) := by
  intro F r σ H R' s Q p pins s0 I
  refine star_form hb (thn (run1 (C := fun x H1 => ∃ (b dx ga : Addr) (fs : List (Str × V)) (C : Addr), x = .ref b ∧ H1 b = some (.ins C dx fs) ∧ Cls X.K C ∧ BMeth X.K C m ga ∧ fs.lookup m = none ∧
      ∀ q, H1 q = none → semE X e σ (upd H1 q (.met ga b)) fun y H3 => ∃ t vs, y = .ref t ∧ (SqT X.K H3 t vs ∨ SqL X.K H3 t vs) ∧ H3 q = some (.met ga b) ∧ CodeS X σ (.ref ga) (.ref b :: vs) H3 Q) pd_step (g o v S) R' s p (fun od S1 F1 r1 H1 x R1 x1 hx s1 p1 => ?_) pins s0 I) fun u s1 ⟨x, H1, I1, rx, b, dx, ga, fs, C, ex, ea, cl, bm, l, q⟩ => ?_)
  · unfold callStar at p1
    cases hi : insD S1 od with
    | none => rw [hi] at p1; exact p1.elim
    | some t =>
      obtain ⟨cl, ns, xs⟩ := t
      rw [hi] at p1
      dsimp only at p1
      cases hci : c.G.cls cl with
      | none => rw [hci] at p1; exact p1.elim
      | some ci =>
        rw [hci] at p1
        dsimp only [Option.elim] at p1
        split at p1
        · exact p1.elim
        · rename_i hk
          rw [Bool.or_eq_true, not_or] at hk
          obtain ⟨k1, k2⟩ := hk
          cases hf : meOk c.G cl m with
          | none => rw [hf] at p1; exact p1.elim
          | some f =>
            rw [hf] at p1
            dsimp only [Option.elim] at p1
            obtain ⟨b, rfl, ho⟩ := insD_ok R1 hx hi
            obtain ⟨ga, bm, fg⟩ := xd.gen.me cl m f hf
            obtain ⟨_, c1, c2, _⟩ := xd.gen.cls cl ci hci
            obtain ⟨d1, d2, _⟩ := c1 (by simpa using k2)
            rcases ho with ⟨l, C, dx, fs, h1, h2, h3, h4⟩ | ⟨sl', C, dx, vs, l, h3, h1, h2, h4⟩
            · subst h2
              refine ⟨b, dx, ga, fs, _, rfl, h1, d2, bm, notin_lookup h3 (by simpa using k1), fun q hq => ?_⟩
              have R2 := R1.tmp (R1.fresh hq) (R1.notin hq) (by rw [hq]; intro z; cases z) (.met ga b)
              have x2 := (Ext.refl F1 r1 H1).tmp hq (.met ga b)
              refine run1 pd_step (g e v S1) R2 (s1.step x2) (PostR.step p1 pd_step x2) fun xd' S2 F2 r2 H2 y R3 x3 hy s2 p2 => ?_
              cases hit : items S2 xd' with
              | none => rw [hit] at p2; exact p2.elim
              | some zs =>
                rw [hit] at p2
                obtain ⟨t, us, rfl, t2, t3⟩ := hy.items R3 hit
                obtain ⟨g3, _, _⟩ := x3.apart R3 (o := .met ga b) upd_same (by intro z; cases z) (by intro _ z; cases z) (R1.fresh hq) (R1.notin hq)
                exact ⟨t, us, rfl, t2.symm, g3, codeS_ok xd (meOk_lev hf) fg R3 (.cons ((x2.trans x3).mono hx) t3) p2⟩
            · have l' : sl.lookup cl = some sl' := l
              rw [d1] at l'; cases l'
  · subst ex
    obtain rfl : u = Value.ref b := rx
    refine getbound_ok I1 ea cl bm l fun q1 s2 hq I2 => ?_
    refine PySem.W.ks_call (P := PySem.W.MethP X.K q1 ga (.ref b)) rfl (PySem.W.keeps_M bm.fi) (PySem.W.ks_lone (thn (q q1 hq pins s2 I2) fun v2 s4 ⟨y, H3, I4, ry, t, vs, ey, ht, hm, hc⟩ => ?_))
    subst ey
    obtain rfl : v2 = Value.ref t := ry
    refine StX.star_any I4 ht fun us s5 I5 rv => ?_
    exact ⟨met_P I5 hm, wpAny_call (PySem.W.method_call (met_P I5 hm).1 (hc pins s5 _ I5 (.cons rfl rv)))⟩
end
end DV
end

section
set_option Elab.async false
set_option linter.all false
set_option maxRecDepth 100000
set_option autoImplicit false
/-! The evaluator is right. -/
namespace DV
open PySem PySem.Spec PyProof.Rows L2
section
variable {X : Cx} {sl : Slo} {W : WX} {c : Ctx} {v : Slots} {S : Sto} {R : Rec} {pos : Pos}
theorem setArg_of {x : Str} {args : List Expr} {a : Expr} (h : setArg x args = some a) : ∃ p2 q, (x = "len" ∨ x = "sorted") ∧ args = [.Call (.Name "set" p2) [a] [] q] := by
  unfold setArg at h
  split at h
  · split at h
    · rename_i hc
      cases h
      obtain ⟨h1, rfl⟩ := hc
      exact ⟨_, _, h1, rfl⟩
    · cases h
  · cases h
theorem loneStar_of {args : List Expr} (h : loneStar args = true) : ∃ e pp, args = [.Starred e pp] := by
  unfold loneStar at h
  split at h
  · exact ⟨_, _, rfl⟩
  · cases h
theorem good_evCall {f : Expr} {args : List Expr} (xd : XD X sl W c) (hG : Good sl R) : GoodE X sl W (.Call f args [] pos) v S (evCall R c f args pos v S) := by
  have g := hG.E X W c xd
  unfold evCall
  split
  · rename_i x p
    split
    · rename_i hg
      split
      · rename_i hx
        subst hx
        split
        · exact good_isi xd g
        · exact fun F r σ H R' s Q p => p.elim
      · split
        · rename_i a hsa
          split
          · rename_i hb
            rw [Bool.and_eq_true, Bool.and_eq_true] at hb
            obtain ⟨p2, q, hx, rfl⟩ := setArg_of hsa
            exact good_setC xd g hx hb.1 hb.2.1 hb.2.2
          · exact fun F r σ H R' s Q p => p.elim
        · split
          · exact good_callF xd g hg
          · split
            · exact good_make xd g hg
            · split
              · rename_i hf
                split
                · rename_i hb
                  rw [Bool.and_eq_true, Bool.and_eq_true] at hb
                  exact good_callBO xd g (by unfold isBl; rw [hg, hf]; rfl) hb.1 hb.2.1
                · exact fun F r σ H R' s Q p => p.elim
              · exact fun F r σ H R' s Q p => p.elim
    · exact fun F r σ H R' s Q p => p.elim
  · split
    · exact fun F r σ H R' s Q p => p.elim
    · exact good_callSub xd g
  · split
    · rename_i hls
      split
      · rename_i hb
        obtain ⟨e, pp, rfl⟩ := loneStar_of hls
        exact good_star xd g hb
      · exact fun F r σ H R' s Q p => p.elim
    split
    · rename_i hb
      rw [Bool.and_eq_true, Bool.and_eq_true, Bool.and_eq_true] at hb
      exact good_meth xd g hb.1 hb.2.1 hb.2.2.1 (of_decide_eq_true hb.2.2.2)
    · exact fun F r σ H R' s Q p => p.elim
  · exact fun F r σ H R' s Q p => p.elim
theorem good_stepE (xd : XD X sl W c) (hG : Good sl R) (e : Expr) (v : Slots) (S : Sto) : GoodE X sl W e v S (stepE R c e v S) := by
  have g := hG.E X W c xd
  have gt := hG.T X W c xd
  unfold stepE
  split
  · exact good_const
  · exact good_name xd
  · exact good_binop g
  · exact good_neg g
  · exact good_not g
  · exact good_bool g _ v S
  · exact good_ifExp g gt
  · exact (good_cmp xd g).1
  · exact good_tuple g
  · split
    · rename_i hb
      exact good_attr xd g hb
    · exact fun F r σ H R' s Q p => p.elim
  · exact good_slice g
  · rename_i hns
    split
    · exact fun F r σ H R' s Q p => p.elim
    · rename_i hs
      exact good_sub xd g (by simpa using hs)
  · exact good_evCall xd hG
  · exact good_kw xd g
  · cases h : evNew R c e v S with
    | none => exact fun F r σ H R' s Q p => p.elim
    | some m => exact (good_new xd hG h).val
theorem good_stepT (xd : XD X sl W c) (hG : Good sl R) (e : Expr) (v : Slots) (S : Sto) : GoodT X sl W e v S (stepT R c e v S) := by
  have g := hG.E X W c xd
  have gt := hG.T X W c xd
  unfold stepT
  split
  · exact good_tnot gt
  · exact good_tbool gt _ v S
  · exact (good_cmp xd g).2
  · exact fun F r σ H R' s Q p => p.elim
  · rename_i h1 h2 h3 h4
    refine good_ttruth (fun whole => ?_) (g e v S)
    cases e <;> first | rfl | (exact (h2 _ _ _ rfl).elim) | (exact (h3 _ _ _ _ rfl).elim) | (exact (h4 _ _ _ _ rfl).elim) | skip
    rename_i op a p
    cases op <;> first | rfl | (exact (h1 _ _ rfl).elim)
theorem noTup_of {e : Expr} (h : ∀ (a : List Expr) (b : Nat) (c : Pos), e = .Tuple a b c → False) : isTupE e = false := by
  cases e <;> first | rfl | exact (h _ _ _ rfl).elim
theorem good_stepS {N : Nat} (xs : XS X sl W c) (hG : Good sl R) (st : Stmt) (v : Slots) (S : Sto) : GoodS X sl W st v S (stepS N R c st v S) := by
  have xd := xs.toXD
  have g := hG.E X W c xd
  have gt := hG.T X W c xd
  have gs := hG.S X W c xs
  have bad : ∀ {st : Stmt}, GoodS X sl W st v S .bad := fun F r σ H R' s Dn p => p.elim
  unfold stepS
  split
  · exact good_pass
  · exact good_break
  · exact good_continue
  · exact good_ret0
  · split
    · exact good_ret (good_mut xd hG _ v S)
    · exact good_ret (g _ v S)
  · split
    · exact bad
    · rename_i hc
      exact good_expr (g _ v S) (by simpa using hc)
  · exact good_if gt gs
  · exact good_while xs gt gs
  · split
    · exact bad
    · rename_i hs
      split
      · rename_i t ht
        exact good_for xs hG ht (by simpa using hs)
      · exact bad
  · split
    · rename_i i hi
      exact good_set xd hG hi
    · exact bad
  · split
    · exact bad
    · rename_i hb
      rw [Bool.or_eq_true, not_or] at hb
      split
      · rename_i j hj
        exact good_putN xd hG (by simpa using hb.1) (by simpa using hb.2) hj
      · exact bad
  · split
    · rename_i hb
      rw [Bool.and_eq_true] at hb
      split
      · rename_i hsw
        split
        · rename_i t ht
          exact good_parA xd hG ht hb.1 hsw
        · exact bad
      · rename_i names hsw
        split
        · split
          · rename_i hk
            rw [Bool.and_eq_true, Bool.and_eq_true, Bool.and_eq_true] at hk
            obtain ⟨k1, k2, k3, k4⟩ := hk
            have k1 := of_decide_eq_true k1
            subst k1
            split
            · rename_i i j hi hj
              exact good_par2 xd hG hb.1 hsw (of_decide_eq_true k2) k3 k4 hi hj
            · exact bad
          · exact bad
        · split
          · rename_i hk
            rw [Bool.and_eq_true, Bool.and_eq_true, Bool.and_eq_true, Bool.and_eq_true] at hk
            obtain ⟨k1, k2, k3, k4, k5⟩ := hk
            have k1 := of_decide_eq_true k1
            subst k1
            split
            · rename_i i j l hi hj hl
              exact good_par3 xd hG hb.1 hsw (of_decide_eq_true k2) k3 k4 k5 hi hj hl
            · exact bad
          · exact bad
        · exact bad
      · exact bad
    · exact bad
  · rename_i h1 h2
    split
    · rename_i t ht
      exact good_tupA xd hG ht (noTup_of h2)
    · exact bad
  · split
    · exact good_putA xd hG
    · exact bad
  · split
    · exact bad
    · rename_i hs
      exact good_put xd hG (by simpa using hs)
  · split
    · rename_i i hi
      exact good_aug xd hG hi
    · exact bad
  · exact bad
end
theorem good_ev {sl : Slo} (N : Nat) : ∀ n, Good sl (ev N n)
  | 0 => ⟨fun X W c xd e v S F r σ H R' s Q p => p.elim, fun X W c xd e v S F r σ H R' s Q p => p.elim, fun X W c xs st v S F r σ H R' s Q p => p.elim⟩
  | n + 1 => ⟨fun X W c xd => good_stepE xd (good_ev N n), fun X W c xd => good_stepT xd (good_ev N n), fun X W c xs => good_stepS xs (good_ev N n)⟩
end DV
end

section
set_option Elab.async false
set_option linter.all false
set_option maxRecDepth 100000
set_option autoImplicit false
/-! Defs keep their promises; a whole program. -/
namespace DV
open PySem PySem.Spec PyProof.Rows L2
/-- a def as it stands -/
structure DefOk (X : Cx) (sl : Slo) (d : DefS) (a : Addr) : Prop where
  ex : ∃ (fd : FuncData) (x qual : Str) (dvs : List V), FunD X.K x qual (defArgs d.st) (defBody d.st) (defScope d.st) dvs [] a fd ∧ FnScope d.N d.ps (defScope d.st) ∧
    (∀ j, j ≤ d.dfl.length → ∃ (dv : List V) (ds : List Value), (∀ F r, VRs (fx X sl) F r (d.dfl.drop j) dv) ∧ Vals dv ds ∧ Binds X.K fd d.ps ds) ∧
    ∀ ks ∈ d.kws, ∀ (s : Shared) (us us' : List Value), us.length = ks.length → kwOrder d.ps (ks.zip us) = some us' → us'.length = d.ps.length ∧ BindsTo s fd ⟨[], ks.zip us⟩ (d.ps.zip us')
section
variable {X : Cx} {sl : Slo} {G : Gen} {d : DefS} {a : Addr} {W n : Nat}
theorem vals_of_vrs {Y : Fx} {F : Hp} {r : Rho} {ds : List D} {vs : List V} (h : VRs Y F r ds vs) : ds.length = vs.length := h.length
theorem sr_start {Y : Fx} {F : Hp} {r : Rho} {N : List Str} {ds : List D} {vs : List V} (h : VRs Y F r ds vs) : SR Y F r (ds.map some ++ List.replicate (N.length - ds.length) none) (L2.start N vs) := by
  have hl := h.length
  refine ⟨by unfold L2.start; simp [hl], fun i d q => ?_⟩
  unfold L2.start
  by_cases hi : i < ds.length
  · rw [List.getElem?_append_left (by simpa using hi)] at q
    rw [List.getElem?_append_left (by rw [List.length_map, ← hl]; exact hi)]
    have q' : ds[i]? = some d := by simpa using q
    obtain ⟨w, w1, w2⟩ := h.get q'
    exact ⟨w, by simp [w1], w2⟩
  · rw [List.getElem?_append_right (by simpa using hi)] at q
    exfalso
    have := List.mem_of_getElem? q
    rw [List.mem_replicate] at this
    cases this.2
theorem post_body {Y : Fx} {F : Hp} {r : Rho} {H : Hp} {m : SRes} {Q : VK} {E : XK} (p : PostF Y F r H (match m with
  | .rt r S' => .ok r S'
  | .nx _ S' => .ok .non S'
  | .exc c ns xs _ S' => .exc c ns xs S'
  | _ => .bad) Q E) : PostS Y (fun cls d _ H => E cls d H) F r H m { nx := fun _ H' => Q .non H', rt := Q } := by
  cases m with
  | bad => exact p
  | nx v S => exact fun F1 r1 H1 σ1 R1 x1 s1 => p F1 r1 H1 _ R1 x1 .non
  | rt d S => exact p
  | bk v S => exact p.elim
  | ct v S => exact p.elim
  | exc c ns xs v S =>
    intro σ F1 r1 H1 R1 x1
    obtain ⟨k1, k2⟩ := p F1 r1 H1 R1 x1
    exact ⟨fun hn F2 r2 x2 s2 => k1 hn, fun hn a fs e1 e2 h F2 r2 x2 s2 => k2 hn a fs e1 e2 h⟩
/-- the body runs -/
theorem body_run {fd : FuncData} {x qual : Str} {dvs : List V} (gen : GenOk X sl G) (F : FunD X.K x qual (defArgs d.st) (defBody d.st) (defScope d.st) dvs [] a fd) (S : FnScope d.N d.ps (defScope d.st))
    {A : Around} {outer : List Env} {s : Shared} {H : Hp} {args : Args} {us : List Value} {vs : List V} {Q : VK} {E : XK} (hr : Room (G.lev + 1) A) (hg : A.guards = some []) (e0 : Env0 X.prog X.w X.K X.mg X.base A outer s H)
    (hb : BindsTo s fd args (d.ps.zip us)) (rv : Vals vs us) (sp : SpD (fx X sl) d.ps.length (bodyRun W n G d) vs H Q E) : codeAny (model X.prog X.w) A (.call (.ref a) args) (CR (CX X.prog X.w) outer X.prog X.w H s Q E) s := by
  obtain ⟨oc, od, dV, kV, doc, pm, an, cdv, ct, osl, rfl, lk, hcd, _, _⟩ := F.ex
  obtain ⟨F0, r0, S0, ds, R0, hv, hl, post⟩ := sp
  have hlen : vs.length = d.ps.length := by rw [← hv.length]; exact hl
  refine StX.run_bnd (G := fun xs H2 => xs = vs ∧ H2 = H) lk hcd S hr e0 (fun A' Ex Q' h => ?_) fun s2 H2 xs ⟨e1, e2⟩ hr' => ?_
  · exact hb _ A' Ex Q' (h s H vs us e0 Un.refl rfl (fun _ _ z => z) rv hlen ⟨rfl, rfl⟩)
  · subst e1 e2
    refine ⟨_, pss_sem, ?_⟩
    have xs : XS (cxOf (CX X.prog X.w) X.prog X.w X.K X.mg X.base d.N qual (defScope d.st) a cdv A outer s2 H2 E) sl (fun cls d _ H => E cls d H) ⟨d.N, defScope d.st, G, d.mutv, true, d.mret⟩ :=
      { N := rfl, nd := S.nd, sc := rfl, calm := rfl, tk := takes_of rfl rfl rfl rfl,
        gen := ⟨gen.glob, fun x f e => let ⟨a, h1, h2, h3, h4⟩ := gen.fn x f e; ⟨a, h1, h2, h3, h4.pos, h4.kw⟩, fun c m f e => let ⟨a, h1, h4⟩ := gen.me c m f e; ⟨a, h1, h4.pos, h4.kw⟩, fun c p e => let ⟨a, h1, h4⟩ := gen.make c p e; ⟨a, h1, h4.pos, h4.kw⟩, gen.free, gen.cls⟩,
        room := hr', gd := hg, top := fun _ _ _ => rfl, own := passes_of rfl }
    exact good_B ((good_ev W n).S _ _ _ xs) (defBody d.st) _ S0 F0 r0 _ H2 R0 (sr_start hv) _ (post_body post)
end
end DV
end

section
set_option Elab.async false
set_option linter.all false
set_option maxRecDepth 100000
set_option autoImplicit false
/-! A whole program; a law's end. -/
namespace DV
open PySem PySem.Spec PyProof.Rows L2
section
variable {X : Cx} {sl : Slo} {G : Gen} {d : DefS} {a : Addr} {W n : Nat}
theorem kwV_ok {ps ks : List Str} : ∀ {vs ws : List V} {us : List Value}, Vals vs us → kwOrder ps (ks.zip vs) = some ws → ∃ us', kwOrder ps (ks.zip us) = some us' ∧ Vals ws us' := by
  intro vs ws us rv
  have look : ∀ {ks : List Str} {vs : List V} {us : List Value} {p : Str} {w : V}, Vals vs us → (ks.zip vs).lookup p = some w → ∃ u, (ks.zip us).lookup p = some u ∧ RelV w u := by
    intro ks
    induction ks with
    | nil => intro vs us p w rv e; cases e
    | cons k ks ih =>
      intro vs us p w rv e
      cases rv with
      | nil => cases e
      | @cons x y xs ys h hs =>
        have e' : (match p == k with | true => some x | false => (ks.zip xs).lookup p) = some w := e
        show ∃ u, (match p == k with | true => some y | false => (ks.zip ys).lookup p) = some u ∧ _
        cases q : p == k with
        | true => rw [q] at e'; cases e'; exact ⟨y, rfl, h⟩
        | false => rw [q] at e'; exact ih hs e'
  induction ps generalizing ws with
  | nil => intro e; cases e; exact ⟨[], rfl, .nil⟩
  | cons p ps ih =>
    intro e
    unfold kwOrder at e
    cases h1 : (ks.zip vs).lookup p with
    | none => rw [h1] at e; cases e
    | some w =>
      cases h2 : kwOrder ps (ks.zip vs) with
      | none => rw [h1, h2] at e; cases e
      | some ws' =>
        rw [h1, h2] at e
        cases e
        obtain ⟨u, u1, u2⟩ := look rv h1
        obtain ⟨us', k1, k2⟩ := ih h2
        refine ⟨u :: us', ?_, .cons u2 k2⟩
        unfold kwOrder
        rw [u1, k1]
theorem fng_of (gen : GenOk X sl G) (D : DefOk X sl d a) : FnG X sl (fnOfD W n G d) a := by
  obtain ⟨fd, x, qual, dvs, F, S, hpos, hkw⟩ := D.ex
  refine ⟨fun j hj => ?_, fun ks hks => ?_⟩
  · obtain ⟨dv, ds, h1, h2, h3⟩ := hpos j hj
    refine ⟨dv, h1, fun A outer s H us vs Q E hr hg e0 rv sp => ?_⟩
    have sp : SpD (fx X sl) d.ps.length (bodyRun W n G d) (vs ++ dv) H Q E := sp
    have rv2 : Vals (vs ++ dv) (us ++ ds) := rv.append h2
    have hl : (us ++ ds).length = d.ps.length := by
      obtain ⟨_, _, _, es, _, hv, hl, _⟩ := sp
      rw [← rv2.length, ← hv.length]; exact hl
    exact body_run gen F S hr hg e0 (h3 s us (e0.mod.kin.keeps fun b o e => (e0.bs b o e).1) hl) rv2 sp
  · intro A outer s H us vs ws Q E hr hg e0 rv hl ho sp
    obtain ⟨us', k1, k2⟩ := kwV_ok rv ho
    obtain ⟨l1, l2⟩ := hkw ks hks s us us' (by rw [← rv.length]; exact hl) k1
    exact body_run gen F S hr hg e0 l2 k2 sp
/-- what is known of a def by its kind -/
def KindP (X : Cx) (x : Str) (k : Kind) (a : Addr) : Prop := match k with
  | .fn => a = He.ga X.K x ∧ X.mg x = some (.ref a) ∧ PySem.W.keepIn X.K (.ref a) = true
  | .meth c m => BMeth X.K (He.ga X.K c) m a ∧ (m = "__init__" → Mk X.K (He.ga X.K c) a)
  | _ => True
structure GenR (X : Cx) (sl : Slo) (G : Gen) : Prop where
  glob : ∀ x d, G.glob x = some d → ∃ u v, X.mg x = some u ∧ RelV v u ∧ ∀ F r, VR (fx X sl) F r d v
  fn : ∀ x f, G.fns x = some f → ∃ a, FnG X sl f a ∧ KindP X x f.kind a
  free : ∀ x, G.free x = true → X.mg x = none
  cls : ∀ c ci, G.cls c = some ci → X.mg c = some (.ref (He.ga X.K c)) ∧
    (ci.slots = false → sl.lookup c = none ∧ Cls X.K (He.ga X.K c) ∧ ∀ f ∈ ci.flds, NoAttr X.K (He.ga X.K c) f) ∧
    (ci.slots = true → sl.lookup c = some ci.flds ∧ ci.flds.Nodup ∧ SlX.SCls X.K (He.ga X.K c) ∧ ∀ (i : Nat) f, ci.flds[i]? = some f → ∃ p, SlX.Slot1 X.K (He.ga X.K c) f p i) ∧
    (ci.isi = true → ci.slots = true ∧ SlX.SIsi X.K (He.ga X.K c) ∧ ∀ T ∈ ["NoneType", "bool", "int", "str", "tuple", "list"], PySem.W.kitOne X.K (.type T) (.ref (He.ga X.K c)) = some false)
theorem fnOk_fns {x : Str} {f : FnI} (e : fnOk G x = some f) : G.fns x = some f ∧ isFnK f.kind = true := by
  unfold fnOk at e
  cases q : G.fns x with
  | none => rw [q] at e; cases e
  | some g =>
    rw [q] at e
    dsimp only at e
    split at e
    · rename_i h
      cases e
      rw [Bool.and_eq_true] at h
      exact ⟨rfl, h.1⟩
    · cases e
theorem meOk_fns {x m : Str} {f : FnI} (e : meOk G x m = some f) : G.fns (x ++ "." ++ m) = some f ∧ isMeK x m f.kind = true := by
  unfold meOk at e
  cases q : G.fns (x ++ "." ++ m) with
  | none => rw [q] at e; cases e
  | some g =>
    rw [q] at e
    dsimp only at e
    split at e
    · rename_i h
      cases e
      rw [Bool.and_eq_true] at h
      exact ⟨rfl, h.1⟩
    · cases e
theorem mkOk_fns {x : Str} {p : ClI × FnI} (e : mkOk G x = some p) : G.fns (x ++ ".__init__") = some p.2 ∧ isMeK x "__init__" p.2.kind = true := by
  unfold mkOk at e
  cases q1 : G.cls x with
  | none => rw [q1] at e; cases e
  | some ci =>
    cases q : G.fns (x ++ ".__init__") with
    | none => rw [q1, q] at e; cases e
    | some g =>
      rw [q1, q] at e
      dsimp only at e
      split at e
      · rename_i h
        cases e
        rw [Bool.and_eq_true] at h
        exact ⟨rfl, h.1⟩
      · cases e
theorem isMeK_of {c m : Str} {k : Kind} (h : isMeK c m k = true) : k = .meth c m := by
  unfold isMeK at h
  cases k <;> first | (cases h; done) | skip
  rename_i c' m'
  have h' : (decide (c' = c) && decide (m' = m)) = true := h
  rw [Bool.and_eq_true] at h'
  rw [of_decide_eq_true h'.1, of_decide_eq_true h'.2]
theorem GenR.ok (g : GenR X sl G) : GenOk X sl G := by
  refine ⟨g.glob, fun x f e => ?_, fun c m f e => ?_, fun c p e => ?_, g.free, g.cls⟩
  · obtain ⟨h1, h2⟩ := fnOk_fns e
    obtain ⟨a, fg, kp⟩ := g.fn x f h1
    cases hk : f.kind <;> rw [hk] at h2 kp <;> first | (cases h2; done) | skip
    exact ⟨a, kp.1, kp.2.1, kp.2.2, fg⟩
  · obtain ⟨h1, h2⟩ := meOk_fns e
    obtain ⟨a, fg, kp⟩ := g.fn _ f h1
    rw [isMeK_of h2] at kp
    exact ⟨a, kp.1, fg⟩
  · obtain ⟨h1, h2⟩ := mkOk_fns e
    obtain ⟨a, fg, kp⟩ := g.fn _ p.2 h1
    rw [isMeK_of h2] at kp
    exact ⟨a, kp.2 rfl, fg⟩
theorem GenR.add (g : GenR X sl G) (D : DefOk X sl d a) (kp : KindP X d.name d.kind a) : GenR X sl (addD W n G d) := by
  refine ⟨g.glob, fun x f e => ?_, g.free, g.cls⟩
  have e' : (if x = d.name then some (fnOfD W n G d) else G.fns x) = some f := e
  split at e'
  · rename_i hx
    cases e'
    subst hx
    exact ⟨a, fng_of g.ok D, kp⟩
  · exact g.fn x f e'
theorem GenR.build : ∀ {ds : List DefS} {G : Gen}, GenR X sl G → (∀ d ∈ ds, ∃ a, DefOk X sl d a ∧ KindP X d.name d.kind a) → GenR X sl (build W n G ds)
  | [], _, g, _ => g
  | d :: ds, G, g, h => by
    obtain ⟨a, D, kp⟩ := h d List.mem_cons_self
    exact GenR.build (ds := ds) (g.add D kp) fun d' hd => h d' (List.mem_cons_of_mem _ hd)
end
end DV
end

section
set_option Elab.async false
set_option linter.all false
set_option maxRecDepth 100000
set_option autoImplicit false
/-! A law's end. -/
namespace DV
open PySem PySem.Spec PyProof.Rows L2
section
variable {P : Program} {w : World} {K : PySem.W.Frag} {mg mb : Str → Option Value} {k : Nat} {g a : Addr} {sp : Sp} {z : Shared} {us : List Value} {is : List Int} {H : Hp}
/-- the state ahead of the law's call, nothing tracked but the script -/
theorem env_top (kin : K.In z.heap) (n1 : z.heap.Ns mainGlobals mg) (n2 : z.heap.Ns builtinsNs mb) (n3 : ∀ y : Str, y ≠ "__name__" → mb y = bootBuiltins y) (n4 : z.heap.NoLimit) (n5 : z.gens = #[])
    (at_ : z.heap.get? a = some { cls := .type "list", data := .seq us.toArray }) (ok : HOk P w H z.heap) (one : ∀ b, H b ≠ none → b = a) (two : H a ≠ none → K.lookup a = none) :
    K.In (hidT z.heap H) ∧ (hidT z.heap H).Ns mainGlobals mg ∧ Env0 P w K mg (hidT z.heap H) callerA [] z H := by
  have not_a : ∀ {b : Addr}, b ≠ a → H b = none := fun {b} h => Classical.byContradiction fun q => h (one b q)
  have dict_free : ∀ {b : Addr} {o : Obj} {es : Array DictEntry} {m : Nat}, z.heap.get? b = some o → o.data = .dict es m → H b = none := fun {b o es m} e q => not_a fun y => by
    rw [y, at_] at e
    have e2 := (Option.some.inj e).symm
    rw [e2] at q
    cases q
  have ns_on : ∀ {b : Addr} {m : Str → Option Value}, z.heap.Ns b m → (hidT z.heap H).Ns b m := fun ⟨o, es, m, e, q, y⟩ => ⟨o, es, m, hidT_get e (dict_free e q), q, y⟩
  have kin2 : K.In (hidT z.heap H) := fun b o e => hidT_get (kin b o e) (Classical.byContradiction fun q => by
    have y := one b q
    subst y
    rw [two q] at e
    cases e)
  obtain ⟨mc, c1, c2⟩ := n4
  have md : Mod K mg (hidT z.heap H) := ⟨kin2, ns_on n1, ⟨mb, ns_on n2, n3⟩, ⟨mc, ns_on c1, c2⟩⟩
  exact ⟨kin2, ns_on n1, rfl, md, fun b o e => of_hidT e, Nat.le_of_eq (hidT_size _ _), trivial, fun b y => (nomatch y), ok, .of_eq n5⟩
theorem law_top (kin : K.In z.heap) (n1 : z.heap.Ns mainGlobals mg) (n2 : z.heap.Ns builtinsNs mb) (n3 : ∀ y : Str, y ≠ "__name__" → mb y = bootBuiltins y) (n4 : z.heap.NoLimit) (n5 : z.gens = #[])
    (at_ : z.heap.get? a = some { cls := .type "list", data := .seq us.toArray }) (hi : IntsAre us is) (hl : is.length ≤ sizeLine) (rm : Room k callerA)
    (F : ∀ base : Heap, K.In base → base.Ns mainGlobals mg → FnRG P w K mg base k g sp) (hsp : ∀ H : Hp, Only H → SqL K H a (is.map V.int) → sp [.ref a] H (fun v _ => v = .bl true) fun _ _ _ => False) :
    codeAny (model P w) callerA (.call (.ref g) ⟨[.ref a], []⟩) (fun q z' => q = .ok (.ret (.bool true)) ∧ OldK z.heap z'.heap ∧ z'.os = z.os ∧ AllBare z'.gens) z := by
  have rv : Vals (is.map V.int) us := vals_ints hi
  have run : ∀ H : Hp, Only H → SqL K H a (is.map V.int) → HOk P w H z.heap → (∀ b, H b ≠ none → b = a) → (H a ≠ none → K.lookup a = none) →
      codeAny (model P w) callerA (.call (.ref g) ⟨[.ref a], []⟩) (fun q z' => q = .ok (.ret (.bool true)) ∧ OldK z.heap z'.heap ∧ z'.os = z.os ∧ AllBare z'.gens) z := fun H on sq ok one two => by
    obtain ⟨b1, b2, e0⟩ := env_top kin n1 n2 n3 n4 n5 at_ ok one two
    refine codeAny_mono (F _ b1 b2 callerA [] z H [.ref a] [.ref a] _ _ rm rfl e0 (.cons rfl .nil) (hsp H on sq)) fun q z' y => ?_
    cases q with
    | error x =>
      obtain ⟨_, _, _, _, _, _, _, _, _, _, _, _, bad⟩ := y
      exact bad.elim
    | ok fl =>
      cases fl <;> first | (exact False.elim y) | skip
      obtain ⟨v, H', os, bare, un, ok', rel, fin⟩ := y
      have fin : v = .bl true := fin
      subst fin
      cases (show _ = Value.bool true from rel)
      refine ⟨rfl, OldK.of_keep fun b o e => ?_, os, bare⟩
      rcases on b with q | ⟨ob, xs, q⟩
      · exact un.keep b o e q (fun y => nomatch y) (fun y => nomatch y)
      · obtain ⟨e1, _⟩ := ok b _ q
        obtain ⟨e2, _⟩ := ok' b _ (un.frzs b ob _ q)
        rw [e] at e1
        cases e1
        exact e2
  cases hk : K.lookup a with
  | some o =>
    have e := kin a o hk
    rw [at_] at e
    cases e
    refine run (fun _ => none) (fun _ => .inl rfl) (.inr ⟨_, us.toArray, _, hk, rfl, rfl, rfl, ?_, by simpa using rv⟩) (fun b u y => nomatch y) (fun b y => absurd rfl y) fun y => absurd rfl y
    rw [List.size_toArray, hi.length]
    exact hl
  | none =>
    have val : ∀ b, (if b = a then some (HO.frz { cls := .type "list", data := .seq us.toArray } (.lst (is.map V.int))) else none) ≠ none → b = a := fun b y => Classical.byContradiction fun q => y (if_neg q)
    refine run (fun b => if b = a then some (.frz { cls := .type "list", data := .seq us.toArray } (.lst (is.map V.int))) else none) (fun b => ?_) (.inl (.inr ⟨_, if_pos rfl⟩)) (fun b u y => ?_) val fun _ => hk
    · by_cases q : b = a
      · exact .inr ⟨_, _, if_pos q⟩
      · exact .inl (if_neg q)
    · have q : b = a := val b (fun h => by have y' := y; dsimp only at y'; rw [h] at y'; cases y')
      subst q
      have y2 := (if_pos rfl).symm.trans y
      cases y2
      exact ⟨at_, by rw [List.length_map]; exact hl, us, _, rv, at_⟩
end
/-- the goal that a head leaves, from the law's promise; each number has at most 2^20 bits -/
theorem walk_top {l : PySem.W.OpenLaw} {n k : Nat} {q : Program} {loose : List Str} {XP : (Str → Option Value) → Heap → Prop} {YP : World → Heap → Prop} {d : DefRec} (hn : l.most = some n) (hn2 : n ≤ sizeLine) (hd : d.params.defaults = []) (rm : Room k callerA)
    (F : ∀ (w : World) (mg : Str → Option Value) (g : Addr) (h : Heap), YP w h → h.Ns mainGlobals mg → mg d.name = some (.ref g) → ∃ (K : PySem.W.Frag) (sp : Sp), K.In h ∧
      (∀ (H : Hp) (a : Addr) (is : List Int), is.length ≤ n → (∀ i ∈ is, Builtin.Int.intBits i ≤ 1048576) → Only H → SqL K H a (is.map V.int) → sp [.ref a] H (fun v _ => v = .bl true) fun _ _ _ => False) ∧
      ∀ base : Heap, K.In base → base.Ns mainGlobals mg → FnRG l.prog w K mg base k g sp) : PySem.W.WalkO q loose XP YP l.row.toRowW d [] (fun f vs => PySem.call f vs) := by
  refine Att.attach_callB hn hd fun w _ z mg mb g o pm cd doc a us is G Y _ _ _ hmg at_ hi hl hb n5 => ?_
  obtain ⟨K, sp, kin, hsp, hF⟩ := F w mg g _ Y G.T.g hmg
  exact law_top kin G.T.g G.T.b G.T.builtins G.T.nolimit n5 at_ hi (Nat.le_trans hl hn2) rm hF fun H on sq => hsp H a is hl hb on sq
end DV
end

section
set_option Elab.async false
set_option linter.all false
set_option maxRecDepth 100000
set_option autoImplicit false
/-! The head's facts: one Bool over the written part beside the defs and the tables. -/
namespace DV
open PySem PySem.Spec PyProof.Rows L2
/-! ### the hook -/
abbrev AlX : Type := He.AlT × Bool
def obsX (fn : List He.DefD) (ts : List He.Tab) (chk : PySem.W.Frag → Bool) (K : PySem.W.Frag) : AlX := (He.obsT [] fn ts K, chk K)
def valX (fn : List He.DefD) (ts : List He.Tab) (w : World) : AlX := (He.valT fn ts w, true)
def obsXG (n : Nat) (fn : List He.DefD) (ts : List He.Tab) (chk : PySem.W.Frag → Bool) (g : Addr → Option Obj) : AlX := obsX fn ts chk (He.frG g (He.asD g n))
def hookX (n : Nat) (fn : List He.DefD) (ts : List He.Tab) (chk : PySem.W.Frag → Bool) : PySem.W.Hook where
  α := AlX
  obs := fun s => obsXG n fn ts chk s.heap.get?
  val := fun w => valX fn ts w
  says := fun w h => ∃ K : PySem.W.Frag, K.In h ∧ obsX fn ts chk K = valX fn ts w
  of := fun _ _ e => ⟨_, He.frG_in, e⟩
  keeps := fun _ _ _ ⟨K, hK, c⟩ k => ⟨K, PySem.W.Frag.In.keeps hK k, c⟩
theorem obsXG_eq {n : Nat} {fn : List He.DefD} {ts : List He.Tab} {chk : PySem.W.Frag → Bool} {g : Addr → Option Obj} {s : Shared} (h : ∀ a, g a = s.heap.get? a) : obsXG n fn ts chk g = (hookX n fn ts chk).obs s := by
  have e : g = s.heap.get? := funext h
  rw [e] <;> rfl
theorem sayX {fn : List He.DefD} {ts : List He.Tab} {chk : PySem.W.Frag → Bool} {w : World} {K : PySem.W.Frag} (e : obsX fn ts chk K = valX fn ts w) : He.SaysT [] fn ts w K ∧ chk K = true := by
  unfold obsX valX at e
  exact ⟨congrArg Prod.fst e, congrArg Prod.snd e⟩

/-! ### values -/
/-- what stands in the written part -/
def valB (K : PySem.W.Frag) : Nat → D → Value → Bool
  | _, .non, .none => true
  | _, .bl b, .bool c => b == c
  | _, .int i, .int j _ => decide (i = j)
  | _, .str x, .str y _ => decide (x = y)
  | _, .fn x, .ref a => decide (a = He.ga K x) && (He.Fa.glo x).ok K
  | n + 1, .tup xs, .ref a => match K.lookup a with
    | some ⟨.type c, _, .seq its _, _⟩ => decide (c = "tuple") && (decide (its.size ≤ sizeLine) && valBs (valB K n) xs its.toList)
    | _ => false
  | _, _, _ => false
where
  valBs (f : D → Value → Bool) : List D → List Value → Bool
    | [], [] => true
    | x :: xs, u :: us => f x u && valBs f xs us
    | _, _ => false
section
variable {X : Cx} {sl : Slo} {h : Heap}
mutual
theorem valB_ok (kin : X.K.In h) (ns : h.Ns mainGlobals X.mg) : ∀ (n : Nat) {d : D} {u : Value}, valB X.K n d u = true → ∃ v, RelV v u ∧ ∀ F r, VR (fx X sl) F r d v
  | n, .non, u, e => by cases u <;> first | exact ⟨.non, rfl, fun _ _ => .non⟩ | (unfold valB at e; cases e)
  | n, .bl b, u, e => by
    cases u <;> first | (unfold valB at e; cases eq_of_beq e; exact ⟨.bl b, rfl, fun _ _ => .bl b⟩) | (unfold valB at e; cases e)
  | n, .int i, u, e => by
    cases u <;> first | (unfold valB at e; cases of_decide_eq_true e; exact ⟨.int i, ⟨_, rfl⟩, fun _ _ => .int i⟩) | (unfold valB at e; cases e)
  | n, .str x, u, e => by
    cases u <;> first | (unfold valB at e; cases of_decide_eq_true e; exact ⟨.str x, ⟨_, rfl⟩, fun _ _ => .str x⟩) | (unfold valB at e; cases e)
  | n, .fn x, u, e => by
    cases u with
    | ref a =>
      unfold valB at e
      rw [Bool.and_eq_true] at e
      have ea := of_decide_eq_true e.1
      subst ea
      exact ⟨.ref _, rfl, fun _ _ => .fn (He.glo_ok kin ns e.2) rfl⟩
    | _ => unfold valB at e; cases e
  | n + 1, .tup xs, u, e => by
    cases u with
    | ref a =>
      unfold valB at e
      cases q : X.K.lookup a with
      | none => rw [q] at e; cases e
      | some o =>
        obtain ⟨oc, od, dt, osl⟩ := o
        rw [q] at e
        cases oc with
        | type c =>
          cases dt with
          | seq its m =>
            have e' : (decide (c = "tuple") && (decide (its.size ≤ sizeLine) && valB.valBs (valB X.K n) xs its.toList)) = true := e
            rw [Bool.and_eq_true, Bool.and_eq_true] at e'
            obtain ⟨e1, e2, e3⟩ := e'
            obtain ⟨vs, r1, r2⟩ := valBs_ok kin ns n e3
            exact ⟨.ref a, rfl, fun F r => .tup (.inr ⟨_, its, m, q, congrArg Value.type (of_decide_eq_true e1), rfl, of_decide_eq_true e2, r1⟩) (r2 F r)⟩
          | _ => cases e
        | _ => cases e
    | _ => unfold valB at e; cases e
  | 0, .tup xs, u, e => by cases u <;> (unfold valB at e; cases e)
  | n, .lst xs, u, e => by cases n <;> cases u <;> (unfold valB at e; cases e)
  | n, .dict ks xs, u, e => by cases n <;> cases u <;> (unfold valB at e; cases e)
  | n, .kd ks xs, u, e => by cases n <;> cases u <;> (unfold valB at e; cases e)
  | n, .obj c ns' xs, u, e => by cases n <;> cases u <;> (unfold valB at e; cases e)
  | n, .scr xs, u, e => by cases n <;> cases u <;> (unfold valB at e; cases e)
  | n, .ref k, u, e => by cases n <;> cases u <;> (unfold valB at e; cases e)
theorem valBs_ok (kin : X.K.In h) (ns : h.Ns mainGlobals X.mg) : ∀ (n : Nat) {ds : List D} {us : List Value}, valB.valBs (valB X.K n) ds us = true → ∃ vs, Vals vs us ∧ ∀ F r, VRs (fx X sl) F r ds vs
  | n, [], us, e => by
    cases us with
    | nil => exact ⟨[], .nil, fun _ _ => .nil⟩
    | cons => cases e
  | n, d :: ds, us, e => by
    cases us with
    | nil => cases e
    | cons u us =>
      obtain ⟨e1, e2⟩ := He.ba (show (valB X.K n d u && valB.valBs (valB X.K n) ds us) = true from e)
      obtain ⟨v, r1, r2⟩ := valB_ok kin ns n e1
      obtain ⟨vs, q1, q2⟩ := valBs_ok kin ns n e2
      exact ⟨v :: vs, .cons r1 q1, fun F r => .cons (r2 F r) (q2 F r)⟩
end
end
end DV
end

section
set_option Elab.async false
set_option linter.all false
set_option maxRecDepth 100000
set_option autoImplicit false
/-! The head's facts of a program: classes, defs, globals. -/
namespace DV
open PySem PySem.Spec PyProof.Rows L2
def dNm (d : DefS) : Str := match d.kind with
  | .meth _ m => m
  | _ => d.name
def dAt (d : DefS) : Str × Option Str := match d.kind with
  | .meth c m => (c, some m)
  | _ => (d.name, none)
def dvOf (p : Str × Option Str) (i : Nat) : D → He.Dv
  | .non => .non
  | .bl b => .bl b
  | .int j => .int j
  | .str x => .str x
  | _ => .adr (He.dflAt p i)
def toD (d : DefS) : He.DefD := ⟨dAt d, dNm d, d.name, defArgs d.st, defBody d.st, defScope d.st, d.dfl.mapIdx fun i x => dvOf (dAt d) i x, []⟩
/-! ### what is looked at -/
def slotB (K : PySem.W.Frag) (C : Addr) (f : Str) (i : Nat) : Bool := He.eqO (PySem.W.findIn K (.ref C) f) (some (some (.ref (He.ma K C f)))) && (He.eqO (PySem.W.specialIn K (.ref (He.ma K C f)) "__get__") (some (some (.builtin "member_descriptor.__get__"))) &&
  (decide (PySem.W.takesIn K (.ref (He.ma K C f)) = some true) && (decide (PySem.W.typeIn K (.ref (He.ma K C f)) = some (.type "member_descriptor")) && (decide (PySem.W.slotIn K (He.ma K C f) C = some i) && decide (i < 1000)))))
theorem slotB_ok {K : PySem.W.Frag} {C : Addr} {f : Str} {i : Nat} (h : slotB K C f i = true) : SlX.Slot1 K C f (He.ma K C f) i := by
  unfold slotB at h
  obtain ⟨h1, h⟩ := He.ba h
  obtain ⟨h2, h⟩ := He.ba h
  obtain ⟨h3, h⟩ := He.ba h
  obtain ⟨h4, h⟩ := He.ba h
  obtain ⟨h5, h6⟩ := He.ba h
  exact ⟨He.eqO_ok h1, He.eqO_ok h2, of_decide_eq_true h3, of_decide_eq_true h4, of_decide_eq_true h5, of_decide_eq_true h6⟩
def sclsB (K : PySem.W.Frag) (C : Addr) : Bool := PySem.W.plainGet K C Str.empty && (PySem.W.isClsIn K C && (PySem.W.plainOver K C && He.eqO (PySem.W.findIn K (.ref C) "__setattr__") (some (some (.builtin "object.__setattr__")))))
theorem sclsB_ok {K : PySem.W.Frag} {C : Addr} (h : sclsB K C = true) : SlX.SCls K C := by
  unfold sclsB at h
  obtain ⟨h1, h⟩ := He.ba h
  obtain ⟨h2, h⟩ := He.ba h
  obtain ⟨h3, h4⟩ := He.ba h
  exact ⟨h1, h2, h3, He.eqO_ok h4⟩
def isiB (K : PySem.W.Frag) (C : Addr) : Bool := He.eqO (PySem.W.findIn K (.ref C) "__class__") (some (some (.builtin "object.__class__"))) && (He.eqO (PySem.W.specialIn K (.builtin "object.__class__") "__get__") (some (some (.builtin "getset_descriptor.__get__"))) &&
  (decide (PySem.W.takesIn K (.builtin "object.__class__") = some true) && (decide (PySem.W.mroIn K C (.type "object") = some true) && (["NoneType", "bool", "int", "str", "tuple", "list"].all fun T => decide (PySem.W.kitOne K (.type T) (.ref C) = some false)))))
theorem isiB_ok {K : PySem.W.Frag} {C : Addr} (h : isiB K C = true) : SlX.SIsi K C ∧ ∀ T ∈ ["NoneType", "bool", "int", "str", "tuple", "list"], PySem.W.kitOne K (.type T) (.ref C) = some false := by
  unfold isiB at h
  obtain ⟨h1, h⟩ := He.ba h
  obtain ⟨h2, h⟩ := He.ba h
  obtain ⟨h3, h⟩ := He.ba h
  obtain ⟨h4, h5⟩ := He.ba h
  exact ⟨⟨He.eqO_ok h1, He.eqO_ok h2, of_decide_eq_true h3, of_decide_eq_true h4⟩, fun T hT => of_decide_eq_true (List.all_eq_true.mp h5 T hT)⟩
def clsB (sl : Slo) (K : PySem.W.Frag) (p : Str × ClI) : Bool := (He.Fa.glo p.1).ok K && ((if p.2.slots then decide (sl.lookup p.1 = some p.2.flds) && (decide p.2.flds.Nodup && (sclsB K (He.ga K p.1) && ((p.2.flds.mapIdx fun i f => slotB K (He.ga K p.1) f i).all id)))
    else decide (sl.lookup p.1 = none) && ((He.Fa.cls p.1).ok K && p.2.flds.all fun f => (He.Fa.noat p.1 f).ok K)) && (!p.2.isi || (p.2.slots && isiB K (He.ga K p.1))))
def kindB (K : PySem.W.Frag) (d : DefS) : Bool := match d.kind with
  | .fn => (He.Fa.glo d.name).ok K && PySem.W.keepIn K (.ref (He.ga K d.name))
  | .meth c m => (He.Fa.meth c m).ok K && (He.eqO (PySem.W.specialIn K (.ref (He.ma K (He.ga K c) m)) "__get__") (some (some (.builtin "function.__get__"))) && (decide (PySem.W.takesIn K (.ref (He.ma K (He.ga K c) m)) = some false) && (!PySem.W.copiedNames.contains m && (PySem.W.fnIn K (He.ma K (He.ga K c) m) && (!decide (m = "__init__") || (He.Fa.mkr c).ok K)))))
  | _ => false
/-- defaults that are objects -/
def dflB' (K : PySem.W.Frag) (d : DefS) : Bool := (d.dfl.mapIdx fun i x => match dvOf (dAt d) i x with
  | .adr p => valB K 3 x (.ref (p K))
  | _ => true).all id
def globB (K : PySem.W.Frag) (p : Str × D) : Bool := match p.2 with
  | .kd ks xs => match PySem.W.nsIn K mainGlobals p.1 with
    | some (some (.ref a)) => decide (a = He.ga K p.1) && (match K.lookup a with
      | some ⟨_, _, .dict es _, _⟩ => kdB K ks xs es.toList
      | _ => false)
    | _ => false
  | d => match PySem.W.nsIn K mainGlobals p.1 with
    | some (some u) => valB K 4 d u
    | _ => false
where
  kdB (K : PySem.W.Frag) : List Str → List D → List DictEntry → Bool
    | [], [], [] => true
    | k :: ks, x :: xs, e :: es => (match e.key with | .str y _ => decide (y = k) | _ => false) && (valB K 3 x e.val && kdB K ks xs es)
    | _, _, _ => false
def chkA (sl : Slo) (clss : List (Str × ClI)) (globs : List (Str × D)) (frees : List Str) (ds : List DefS) (K : PySem.W.Frag) : Bool :=
  (frees.all fun x => (He.Fa.free x).ok K) && ((clss.all fun p => clsB sl K p) && ((globs.all fun p => globB K p) && ds.all fun d => kindB K d && dflB' K d))
/-- the tables of the globals -/
def tabsOf (globs : List (Str × D)) : List He.Tab := globs.filterMap fun p => match p.2 with
  | .kd ks _ => some (fun K => He.ga K p.1, ks)
  | _ => none
def baseOf (clss : List (Str × ClI)) (globs : List (Str × D)) (frees : List Str) : Gen := ⟨0, fun x => globs.lookup x, fun _ => none, fun x => clss.lookup x, fun x => frees.contains x⟩
/-! ### .. means -/
section
variable {X : Cx} {sl : Slo} {h : Heap}
theorem clsB_ok (kin : X.K.In h) (ns : h.Ns mainGlobals X.mg) {c : Str} {ci : ClI} (e : clsB sl X.K (c, ci) = true) : X.mg c = some (.ref (He.ga X.K c)) ∧
    (ci.slots = false → sl.lookup c = none ∧ Cls X.K (He.ga X.K c) ∧ ∀ f ∈ ci.flds, NoAttr X.K (He.ga X.K c) f) ∧
    (ci.slots = true → sl.lookup c = some ci.flds ∧ ci.flds.Nodup ∧ SlX.SCls X.K (He.ga X.K c) ∧ ∀ (i : Nat) f, ci.flds[i]? = some f → ∃ p, SlX.Slot1 X.K (He.ga X.K c) f p i) ∧
    (ci.isi = true → ci.slots = true ∧ SlX.SIsi X.K (He.ga X.K c) ∧ ∀ T ∈ ["NoneType", "bool", "int", "str", "tuple", "list"], PySem.W.kitOne X.K (.type T) (.ref (He.ga X.K c)) = some false) := by
  unfold clsB at e
  obtain ⟨e1, e⟩ := He.ba e
  obtain ⟨e2, e3⟩ := He.ba e
  dsimp only at e2 e3
  refine ⟨He.glo_ok kin ns e1, fun hs => ?_, fun hs => ?_, fun hi => ?_⟩
  · rw [hs] at e2
    have e2 : (decide (sl.lookup c = none) && ((He.Fa.cls c).ok X.K && ci.flds.all fun f => (He.Fa.noat c f).ok X.K)) = true := e2
    obtain ⟨a1, e2⟩ := He.ba e2
    obtain ⟨a2, a3⟩ := He.ba e2
    exact ⟨of_decide_eq_true a1, He.cls_ok a2, fun f hf => He.noat_ok (List.all_eq_true.mp a3 f hf)⟩
  · rw [hs] at e2
    have e2 : (decide (sl.lookup c = some ci.flds) && (decide ci.flds.Nodup && (sclsB X.K (He.ga X.K c) && ((ci.flds.mapIdx fun i f => slotB X.K (He.ga X.K c) f i).all id)))) = true := e2
    obtain ⟨a1, e2⟩ := He.ba e2
    obtain ⟨a2, e2⟩ := He.ba e2
    obtain ⟨a3, a4⟩ := He.ba e2
    refine ⟨of_decide_eq_true a1, of_decide_eq_true a2, sclsB_ok a3, fun i f hf => ⟨_, slotB_ok ?_⟩⟩
    have := List.all_eq_true.mp a4 (slotB X.K (He.ga X.K c) f i) (List.mem_of_getElem? (i := i) (by rw [List.getElem?_mapIdx, hf]; rfl))
    simpa using this
  · rw [hi] at e3
    have e3 : (ci.slots && isiB X.K (He.ga X.K c)) = true := e3
    obtain ⟨a1, a2⟩ := He.ba e3
    exact ⟨a1, isiB_ok a2⟩
theorem kindB_ok (kin : X.K.In h) (ns : h.Ns mainGlobals X.mg) {d : DefS} (e : kindB X.K d = true) : KindP X d.name d.kind (He.fAd X.K (dAt d)) := by
  unfold kindB at e
  unfold KindP dAt
  cases hk : d.kind with
  | fn =>
    rw [hk] at e
    obtain ⟨e1, e2⟩ := He.ba e
    exact ⟨rfl, He.glo_ok kin ns e1, e2⟩
  | meth c m =>
    rw [hk] at e
    obtain ⟨e1, e⟩ := He.ba e
    obtain ⟨e2, e⟩ := He.ba e
    obtain ⟨e3, e⟩ := He.ba e
    obtain ⟨e4, e⟩ := He.ba e
    obtain ⟨e5, e6⟩ := He.ba e
    refine ⟨⟨He.meth_ok e1, He.eqO_ok e2, of_decide_eq_true e3, by simpa using e4, e5⟩, fun hm => ?_⟩
    subst hm
    have e6 : (He.Fa.mkr c).ok X.K = true := by simpa using e6
    exact He.mkr_ok e6
  | _ => trivial
end
end DV
end

section
set_option Elab.async false
set_option linter.all false
set_option maxRecDepth 100000
set_option autoImplicit false
/-! From the head's facts to the program. -/
namespace DV
open PySem PySem.Spec PyProof.Rows L2
/-- what is seen of a def's text -/
structure DefF (d : DefS) : Prop where
  sc : FnScope d.N d.ps (defScope d.st)
  no : d.dfl = [] → ∀ (kV doc pm : Value) (an : Option Addr) (cdv ct : Value) (us : List Value), us.length = d.ps.length → bindArgs (PySem.W.fnOf (dNm d) d.name (defArgs d.st) (defBody d.st) (defScope d.st) .none kV doc pm an cdv ct) ⟨us, []⟩ = pure (d.ps.zip us)
  le : d.dfl.length ≤ d.ps.length
  df : d.dfl ≠ [] → ∀ j, j ≤ d.dfl.length → ∀ (T : Addr) (kV doc pm : Value) (an : Option Addr) (cdv ct : Value) (us its : List Value), us.length = d.ps.length - (d.dfl.length - j) → its.length = d.dfl.length →
    ∃ k, bindArgs (PySem.W.fnOf (dNm d) d.name (defArgs d.st) (defBody d.st) (defScope d.st) (.ref T) kV doc pm an cdv ct) ⟨us, []⟩ = seqItems? (.ref T) >>= k ∧ k (some its.toArray) = pure (d.ps.zip (us ++ its.drop j))
  kw : d.kws ≠ [] → d.dfl = [] ∧ ∀ ks ∈ d.kws, ∀ (kV doc pm : Value) (an : Option Addr) (cdv ct : Value) (us us' : List Value), us.length = ks.length → kwOrder d.ps (ks.zip us) = some us' →
    us'.length = d.ps.length ∧ bindArgs (PySem.W.fnOf (dNm d) d.name (defArgs d.st) (defBody d.st) (defScope d.st) .none kV doc pm an cdv ct) ⟨[], ks.zip us⟩ = pure (d.ps.zip us')
section
variable {X : Cx} {sl : Slo} {h : Heap}
theorem ref_of {v : V} {a : Addr} (r : RelV v (.ref a)) : v = .ref a := by
  cases v with
  | ref b => cases (show Value.ref a = Value.ref b from r); rfl
  | non => cases (show Value.ref a = Value.none from r)
  | bl b => cases (show Value.ref a = Value.bool b from r)
  | int i => obtain ⟨t, q⟩ := (show ∃ t, Value.ref a = Value.int i t from r); cases q
  | str x => obtain ⟨t, q⟩ := (show ∃ t, Value.ref a = Value.str x t from r); cases q
  | byt b => obtain ⟨t, q⟩ := (show ∃ t, Value.ref a = Value.bytes b t from r); cases q
  | flt b => obtain ⟨t, q⟩ := (show ∃ t, Value.ref a = Value.float b t from r); cases q
  | ty n => cases (show Value.ref a = Value.type n from r)
theorem dfl_ok (kin : X.K.In h) (ns : h.Ns mainGlobals X.mg) {d : DefS} (e : dflB' X.K d = true) (F : Hp) (r : Rho) : VRs (fx X sl) F r d.dfl ((toD d).dvs X.K) := by
  have all : ∀ (i : Nat) x, d.dfl[i]? = some x → VR (fx X sl) F r x ((dvOf (dAt d) i x).v X.K) := fun i x hx => by
    have e1 := List.all_eq_true.mp e (match dvOf (dAt d) i x with | .adr p => valB X.K 3 x (.ref (p X.K)) | _ => true) (List.mem_of_getElem? (i := i) (by rw [List.getElem?_mapIdx, hx]; rfl))
    have obj : ∀ p, dvOf (dAt d) i x = .adr p → VR (fx X sl) F r x ((dvOf (dAt d) i x).v X.K) := fun p hp => by
      rw [hp] at e1 ⊢
      obtain ⟨v, r1, r2⟩ := valB_ok (sl := sl) kin ns 3 e1
      rw [ref_of r1] at r2
      exact r2 F r
    cases x with
    | non => exact .non
    | bl b => exact .bl b
    | int j => exact .int j
    | str z => exact .str z
    | _ => exact obj _ rfl
  have go : ∀ (xs : List D) (k : Nat), (∀ (i : Nat) x, xs[i]? = some x → VR (fx X sl) F r x ((dvOf (dAt d) (i + k) x).v X.K)) → VRs (fx X sl) F r xs ((xs.mapIdx fun i x => dvOf (dAt d) (i + k) x).map (He.Dv.v X.K)) := by
    intro xs
    induction xs with
    | nil => intro k _; exact .nil
    | cons x xs ih =>
      intro k hx
      rw [List.mapIdx_cons, List.map_cons]
      refine .cons (hx 0 x rfl) ?_
      have := ih (k + 1) fun i y hy => by
        have := hx (i + 1) y (by simpa using hy)
        rwa [show i + 1 + k = i + (k + 1) by omega] at this
      simpa [show ∀ i, i + 1 + k = i + (k + 1) from fun i => by omega] using this
  exact go d.dfl 0 all
theorem defOk_of {fd : FuncData} (kin : X.K.In h) (ns : h.Ns mainGlobals X.mg) {d : DefS} (f : DefF d) (e : dflB' X.K d = true) (F : FunD X.K (dNm d) d.name (defArgs d.st) (defBody d.st) (defScope d.st) ((toD d).dvs X.K) [] (He.fAd X.K (dAt d)) fd) : DefOk X sl d (He.fAd X.K (dAt d)) := by
  have len : ((toD d).dvs X.K).length = d.dfl.length := ((dfl_ok (sl := sl) kin ns e (fun _ => none) []).length).symm
  refine ⟨fd, dNm d, d.name, (toD d).dvs X.K, F, f.sc, fun j hj => ?_, fun ks hks => ?_⟩
  · cases hd : d.dfl with
    | nil =>
      have dn : (toD d).dvs X.K = [] := List.eq_nil_of_length_eq_zero (by rw [len, hd]; rfl)
      rw [dn] at F
      refine ⟨[], [], fun _ _ => by rw [List.drop_nil]; exact .nil, .nil, F.bindsN fun kV doc pm an cdv ct us hl => f.no hd kV doc pm an cdv ct us hl⟩
    | cons x xs =>
      rw [← hd]
      have hne : (toD d).dvs X.K ≠ [] := fun z => by rw [z] at len; rw [hd] at len; cases len
      have hne2 : d.dfl ≠ [] := by rw [hd]; exact fun z => by cases z
      obtain ⟨ds, r1, b⟩ := F.binds1 (ps := d.ps) (d.ps.length - (d.dfl.length - j)) j hne (by rw [len]; have := f.le; omega) fun T kV doc pm an cdv ct us its h1 h2 => f.df hne2 j hj T kV doc pm an cdv ct us its h1 (by rw [h2, len])
      exact ⟨_, ds, fun F' r' => (dfl_ok kin ns e F' r').drop j, r1, b⟩
  · obtain ⟨hd, hk⟩ := f.kw (List.ne_nil_of_mem hks)
    have dn : (toD d).dvs X.K = [] := List.eq_nil_of_length_eq_zero (by rw [len, hd]; rfl)
    rw [dn] at F
    intro s us us' hl ho
    obtain ⟨oc, od, dV, kV, doc, pm, an, cdv, ct, osl, rfl, lk, hcd, hD, hK⟩ := F.ex
    rcases hD with ⟨_, rfl⟩ | ⟨z, _⟩
    · obtain ⟨l1, l2⟩ := hk ks hks kV doc pm an cdv ct us us' hl ho
      exact ⟨l1, .of_eq l2⟩
    · exact absurd rfl z
end
end DV
end

section
set_option Elab.async false
set_option linter.all false
set_option maxRecDepth 100000
set_option autoImplicit false
/-! From the head's facts to the law. -/
namespace DV
open PySem PySem.Spec PyProof.Rows L2
section
variable {X : Cx} {sl : Slo} {h : Heap}
theorem kdB_ok (kin : X.K.In h) (ns : h.Ns mainGlobals X.mg) : ∀ {ks : List Str} {xs : List D} {es : List DictEntry}, globB.kdB X.K ks xs es = true → ∃ fs : List (Str × V), fs.map (·.1) = ks ∧ (∀ F r, VRs (fx X sl) F r xs (fs.map (·.2))) ∧ es.any (·.refKey) = false ∧
    ∀ z : Str, RelO (fs.lookup z) ((es.find? (·.key.isStr z)).map (·.val))
  | [], [], [], _ => ⟨[], rfl, fun _ _ => .nil, rfl, fun _ => trivial⟩
  | k :: ks, x :: xs, e :: es, q => by
    obtain ⟨q1, q2⟩ := He.ba (show ((match e.key with | .str y _ => decide (y = k) | _ => false) && (valB X.K 3 x e.val && globB.kdB X.K ks xs es)) = true from q)
    obtain ⟨q3, q4⟩ := He.ba q2
    obtain ⟨fs, f1, f2, f3, f4⟩ := kdB_ok kin ns q4
    obtain ⟨v, r1, r2⟩ := valB_ok (sl := sl) kin ns 3 q3
    obtain ⟨hash, key, val⟩ := e
    cases key with
    | str y t =>
      have ey : y = k := of_decide_eq_true q1
      subst ey
      refine ⟨(y, v) :: fs, by rw [List.map_cons, f1], fun F r => .cons (r2 F r) (f2 F r), ?_, fun z => ?_⟩
      · rw [List.any_cons, f3]; rfl
      · have f5 := f4 z
        rw [List.find?_cons]
        show RelO (match z == y with | true => some v | false => fs.lookup z) (Option.map (fun q : DictEntry => q.val) (match (y == z) with | true => some (⟨hash, .str y t, val⟩ : DictEntry) | false => es.find? (·.key.isStr z)))
        by_cases hz : y = z
        · subst hz
          rw [beq_self_eq_true]
          exact r1
        · have e1 : (z == y) = false := beq_eq_false_iff_ne.mpr fun q => hz q.symm
          have e2 : (y == z) = false := beq_eq_false_iff_ne.mpr hz
          rw [e1, e2]
          exact f5
    | _ => cases q1
  | [], [], _ :: _, q => by cases q
  | [], _ :: _, _, q => by cases q
  | _ :: _, [], _, q => by cases q
  | _ :: _, _ :: _, [], q => by cases q
theorem globB_ok {ts : List He.Tab} (kin : X.K.In h) (ns : h.Ns mainGlobals X.mg) (tab : ∀ t ∈ ts, ∃ es n, KDict X.K X.w (t.1 X.K) es n) {x : Str} {d : D} (ht : ∀ ks xs, d = .kd ks xs → ((fun K => He.ga K x, ks) : He.Tab) ∈ ts) (e : globB X.K (x, d) = true) :
    ∃ u v, X.mg x = some u ∧ RelV v u ∧ ∀ F r, VR (fx X sl) F r d v := by
  have plain : (match PySem.W.nsIn X.K mainGlobals x with | some (some u) => valB X.K 4 d u | _ => false) = true → ∃ u v, X.mg x = some u ∧ RelV v u ∧ ∀ F r, VR (fx X sl) F r d v := fun e => by
    cases q : PySem.W.nsIn X.K mainGlobals x with
    | none => rw [q] at e; cases e
    | some o =>
      cases o with
      | none => rw [q] at e; cases e
      | some u =>
        rw [q] at e
        obtain ⟨v, r1, r2⟩ := valB_ok (sl := sl) kin ns 4 e
        exact ⟨u, v, PySem.W.mg_of kin ns q, r1, r2⟩
  cases d with
  | kd ks xs =>
    have e' : (match PySem.W.nsIn X.K mainGlobals x with
      | some (some (.ref a)) => decide (a = He.ga X.K x) && (match X.K.lookup a with
        | some ⟨_, _, .dict es _, _⟩ => globB.kdB X.K ks xs es.toList
        | _ => false)
      | _ => false) = true := e
    obtain ⟨es, n, KD⟩ := tab _ (ht ks xs rfl)
    have KD : KDict X.K X.w (He.ga X.K x) es n := KD
    cases q : PySem.W.nsIn X.K mainGlobals x with
    | none => rw [q] at e'; cases e'
    | some o =>
      cases o with
      | none => rw [q] at e'; cases e'
      | some u =>
        rw [q] at e'
        cases u with
        | ref a =>
          obtain ⟨a1, a2⟩ := He.ba e'
          have ea := of_decide_eq_true a1
          subst ea
          rw [KD.at_] at a2
          obtain ⟨fs, f1, f2, f3, f4⟩ := kdB_ok (sl := sl) kin ns a2
          refine ⟨_, .ref _, PySem.W.mg_of kin ns q, rfl, fun F r => .kd ⟨⟨es, n, KD⟩, fun z => ?_⟩ f1 (f2 F r)⟩
          have f5 := f4 z
          show ∃ o, PySem.W.nsIn X.K (He.ga X.K x) z = some o ∧ _
          unfold PySem.W.nsIn
          rw [KD.at_]
          dsimp only
          cases hf : es.toList.find? (·.key.isStr z) with
          | none =>
            rw [hf] at f5
            refine ⟨none, ?_, f5⟩
            dsimp only
            rw [f3]
            rfl
          | some en =>
            rw [hf] at f5
            exact ⟨_, rfl, f5⟩
        | _ => cases e'
  | _ => exact plain e
/-- all that a program leans on -/
theorem head_ok {w : World} {clss : List (Str × ClI)} {globs : List (Str × D)} {frees : List Str} {ds : List DefS} (kin : X.K.In h) (ns : h.Ns mainGlobals X.mg) (hw : X.w = w) (hf : ∀ d ∈ ds, DefF d)
    (e : obsX (ds.map toD) (tabsOf globs) (chkA sl clss globs frees ds) X.K = valX (ds.map toD) (tabsOf globs) w) :
    GenR X sl (baseOf clss globs frees) ∧ ∀ d ∈ ds, DefOk X sl d (He.fAd X.K (dAt d)) ∧ KindP X d.name d.kind (He.fAd X.K (dAt d)) := by
  obtain ⟨c, k⟩ := sayX e
  obtain ⟨k1, k⟩ := He.ba k
  obtain ⟨k2, k⟩ := He.ba k
  obtain ⟨k3, k4⟩ := He.ba k
  have tab : ∀ t ∈ tabsOf globs, ∃ es n, KDict X.K X.w (t.1 X.K) es n := fun t ht => by
    obtain ⟨i, hi, e⟩ := List.getElem_of_mem ht
    rw [hw]
    exact c.tab i (by rw [List.getElem?_eq_getElem hi, e])
  refine ⟨⟨fun x d hx => ?_, fun x f hx => (by cases hx), fun x hx => ?_, fun x ci hx => ?_⟩, fun d hd => ?_⟩
  · have hm : (x, d) ∈ globs := PySem.mem_of_lookup hx
    refine globB_ok kin ns tab (fun ks xs hk => ?_) (List.all_eq_true.mp k3 _ hm)
    subst hk
    exact List.mem_filterMap.mpr ⟨_, hm, rfl⟩
  · have hm : x ∈ frees := by simpa using (show frees.contains x = true from hx)
    exact He.free_ok kin ns (List.all_eq_true.mp k1 x hm)
  · exact clsB_ok kin ns (List.all_eq_true.mp k2 _ (PySem.mem_of_lookup hx))
  · obtain ⟨q1, q2⟩ := He.ba (List.all_eq_true.mp k4 d hd)
    obtain ⟨i, hi, e⟩ := List.getElem_of_mem hd
    obtain ⟨fd, F⟩ := c.d.def_ i (d := toD d) (by rw [List.getElem?_map, List.getElem?_eq_getElem hi, e]; rfl)
    exact ⟨defOk_of kin ns (hf d hd) q2 F, kindB_ok kin ns q1⟩
end
end DV
end

section
set_option Elab.async false
set_option linter.all false
set_option maxRecDepth 100000
set_option autoImplicit false
/-! A law, from what the evaluator answers. -/
namespace DV
open PySem PySem.Spec PyProof.Rows L2
theorem vrs_nil {Y : Fx} {F : Hp} {r : Rho} {vs : List V} (h : VRs Y F r [] vs) : vs = [] := by cases h; rfl
theorem walk_law {l : PySem.W.OpenLaw} {m : Nat} {q : Program} {loose : List Str} {XP : (Str → Option Value) → Heap → Prop} {d : DefRec} {sl : Slo} {clss : List (Str × ClI)} {globs : List (Str × D)} {frees : List Str} {ds : List DefS} {L : DefS} {W n k : Nat}
    (hn : l.most = some m) (hn2 : m ≤ sizeLine) (hd : d.params.defaults = []) (rm : Room ((build W n (baseOf clss globs frees) ds).lev + 1) callerA) (hf : ∀ d ∈ ds ++ [L], DefF d) (hk : L.kind = .fn) (hN : L.name = d.name) (h0 : L.dfl = []) (h1 : L.ps.length = 1)
    (run : ∀ is : List Int, is.length ≤ m → (∀ i ∈ is, Builtin.Int.intBits i ≤ 1048576) → ∃ S, bodyRun W n (build W n (baseOf clss globs frees) ds) L [.scr (is.map .int)] [] = .ok (.bl true) S) :
    PySem.W.WalkO q loose XP (hookX k ((ds ++ [L]).map toD) (tabsOf globs) (chkA sl clss globs frees (ds ++ [L]))).says l.row.toRowW d [] (fun f vs => PySem.call f vs) := by
  refine walk_top hn hn2 hd rm fun w mg g h Y G hg => ?_
  obtain ⟨K, kin, e⟩ := Y
  refine ⟨K, fun vs H Q E => SpD ⟨K, mg, sl, w⟩ L.ps.length (bodyRun W n (build W n (baseOf clss globs frees) ds) L) vs H Q E, kin, fun H a is hl hb on sq => ?_, fun base bk bn => ?_⟩
  · obtain ⟨S, hS⟩ := run is hl hb
    refine ⟨H, [], [], [.scr (is.map .int)], ⟨fun _ _ e => e, rfl, fun n a h => by simp at h, fun m n a h => by simp at h, fun n a h => by simp at h, fun n o h => by simp at h, fun b x e => ?_⟩, .cons (.scr sq (ints_vr is)) .nil, by rw [h1]; rfl, ?_⟩
    · rcases on b with z | ⟨o, xs, z⟩
      · rw [z] at e; cases e
      · rw [z] at e; cases e
    · rw [hS]
      intro F' r' H' v R x hv
      cases hv
      rfl
  · have key : ∀ s0 : Shared, FnRG l.prog w K mg base ((build W n (baseOf clss globs frees) ds).lev + 1) g (fun vs H Q E => SpD ⟨K, mg, sl, w⟩ L.ps.length (bodyRun W n (build W n (baseOf clss globs frees) ds) L) vs H Q E) := fun s0 => by
      let X : Cx := cxOf (CX l.prog w) l.prog w K mg base [] "" (defScope L.st) 0 .none callerA [] s0 (fun _ => none) (fun _ _ _ => False)
      obtain ⟨gr, dd⟩ := head_ok (X := X) (sl := sl) (h := h) kin G rfl hf e
      obtain ⟨D, kp⟩ := dd L (List.mem_append_right _ List.mem_cons_self)
      have gb := GenR.build (W := W) (n := n) gr fun d' hd' => ⟨_, dd d' (List.mem_append_left _ hd')⟩
      have fg := fng_of (W := W) (n := n) gb.ok D
      rw [hk] at kp
      have eg : g = He.fAd K (dAt L) := by
        have e1 : mg L.name = some (.ref (He.fAd K (dAt L))) := kp.2.1
        rw [hN, hg] at e1
        exact Value.ref.inj (Option.some.inj e1)
      obtain ⟨dv, v1, fr⟩ := fg.pos 0 (Nat.zero_le _)
      have hdv : dv = [] := by
        have := v1 (fun _ => none) []
        have hz : (fnOfD W n (build W n (baseOf clss globs frees) ds) L).dfl = [] := h0
        rw [hz] at this
        exact vrs_nil this
      subst hdv
      rw [eg]
      intro A outer s H us vs Q E hr hg e0 rv sp
      exact fr A outer s H us vs Q E hr hg e0 rv (by show SpD _ _ _ (vs ++ []) H Q E; rw [List.append_nil]; exact sp)
    intro A outer s H us vs Q E hr hg e0 rv sp
    exact key s A outer s H us vs Q E hr hg e0 rv sp
end DV
end

section
set_option Elab.async false
set_option linter.all false
set_option maxRecDepth 100000
set_option autoImplicit false
/-! The top's run, seen in four parts. -/
namespace DV
open PySem L2
theorem map_parts {α A1 A2 A3 A4 A5 A6 A7 B : Type} {m : Option α} {l : α → Bool} {f : α → A1 × A2 × A3 × A4 × A5 × A6 × A7} {g : A1 × A2 × A3 × A4 × A5 × A6 × A7} {o : α → B} {v : B}
    (h1 : m.map (fun s => (l s, (f s).1, (f s).2.1, (f s).2.2.1, (f s).2.2.2.1, (f s).2.2.2.2.1, (f s).2.2.2.2.2.1, (f s).2.2.2.2.2.2)) = some (true, g.1, g.2.1, g.2.2.1, g.2.2.2.1, g.2.2.2.2.1, g.2.2.2.2.2.1, g.2.2.2.2.2.2)) (h4 : m.map o = some v) :
    m.map (fun s => (l s, f s, o s)) = some (true, g, v) := by
  cases m with
  | none => cases h4
  | some s =>
    obtain ⟨g1, g2, g3, g4, g5, g6, g7⟩ := g
    simp only [Option.map_some, Option.some.injEq, Prod.mk.injEq] at h1 h4 ⊢
    refine ⟨h1.1, ?_, h4⟩
    obtain ⟨_, a1, a2, a3, a4, a5, a6, a7⟩ := h1
    generalize f s = y at *
    obtain ⟨y1, y2, y3, y4, y5, y6, y7⟩ := y
    simp only at a1 a2 a3 a4 a5 a6 a7
    subst a1 a2 a3 a4 a5 a6 a7
    rfl
/-! ### the facts, at places that are told -/
def obsYG (as : List Addr) (fn : List He.DefD) (ts : List He.Tab) (chk : PySem.W.Frag → Bool) (g : Addr → Option Obj) : AlX := obsX fn ts chk (He.frG g as)
def hookY (as : List Addr) (fn : List He.DefD) (ts : List He.Tab) (chk : PySem.W.Frag → Bool) : PySem.W.Hook where
  α := AlX
  obs := fun s => obsYG as fn ts chk s.heap.get?
  val := fun w => valX fn ts w
  says := fun w h => ∃ K : PySem.W.Frag, K.In h ∧ obsX fn ts chk K = valX fn ts w
  of := fun _ _ e => ⟨_, He.frG_in, e⟩
  keeps := fun _ _ _ ⟨K, hK, c⟩ k => ⟨K, PySem.W.Frag.In.keeps hK k, c⟩
theorem obsYG_eq {as : List Addr} {fn : List He.DefD} {ts : List He.Tab} {chk : PySem.W.Frag → Bool} {g : Addr → Option Obj} {s : Shared} (h : ∀ a, g a = s.heap.get? a) : obsYG as fn ts chk g = (hookY as fn ts chk).obs s := by
  have e : g = s.heap.get? := funext h
  rw [e] <;> rfl
theorem obsY_parts {α : Type} {m : Option α} {g : α → Addr → Option Obj} {as : List Addr} {fn : List He.DefD} {ts : List He.Tab} {chk : PySem.W.Frag → Bool} {w : World}
    (h1 : m.map (fun s => ((fn.all fun d => d.ok (He.frG (g s) as)) && chk (He.frG (g s) as), ts.map fun t => He.dicW (He.frG (g s) as) (t.1 (He.frG (g s) as)))) = some (true, ts.map fun t => some (He.keysIn w.params t.2)))
    (h2 : m.map (fun s => fn.map fun d => He.fnW (He.frG (g s) as) d.at_) = some (fn.map He.DefD.val)) : m.map (fun s => obsYG as fn ts chk (g s)) = some (valX fn ts w) := by
  cases m with
  | none => cases h1
  | some s =>
    simp only [Option.map_some, Option.some.injEq, Prod.mk.injEq, Bool.and_eq_true] at h1 h2
    show some (obsX fn ts chk (He.frG (g s) as)) = some (valX fn ts w)
    unfold obsX valX He.obsT He.valT He.obsD He.valD
    rw [h1.1.1, h1.1.2, h1.2, h2]
    rfl
theorem obsY_of {α : Type} {m : Option α} {g : α → Addr → Option Obj} {as : List Addr} {fn : List He.DefD} {ts : List He.Tab} {chk : PySem.W.Frag → Bool} {w : World} {vs : List He.FnW}
    (h : m.map (fun s => ((((fn.all fun d => d.ok (He.frG (g s) as)) && chk (He.frG (g s) as), ts.map fun t => He.dicW (He.frG (g s) as) (t.1 (He.frG (g s) as)))), fn.map fun d => He.fnW (He.frG (g s) as) d.at_)) = some ((true, ts.map fun t => some (He.keysIn w.params t.2)), vs))
    (hv : fn.map He.DefD.val = vs) : m.map (fun s => obsYG as fn ts chk (g s)) = some (valX fn ts w) := by
  subst hv
  cases m with
  | none => cases h
  | some s =>
    have e := Option.some.inj h
    exact obsY_parts (m := some s) (congrArg some (congrArg Prod.fst e)) (congrArg some (congrArg Prod.snd e))
end DV
end

section
set_option Elab.async false
set_option linter.all false
set_option maxRecDepth 100000
set_option autoImplicit false
/-! The words of the shallow forms: what the evaluator does, with the syntax away. -/
namespace DV
open PySem L2

def SRes.seq (m : SRes) (k : Slots → Sto → SRes) : SRes := match m with
  | .nx v S => k v S
  | r => r
def finR (m : SRes) : Res D := match m with
  | .rt r S' => .ok r S'
  | .nx _ S' => .ok .non S'
  | .exc c ns xs _ S' => .exc c ns xs S'
  | _ => .bad
def lk (v : Slots) (i : Nat) (S : Sto) : Res D := Res.opt S ((v[i]?).join)
def consR (m : Res D) (k : Sto → Res (List D)) : Res (List D) := m.bind fun d S1 => (k S1).bind fun ds S2 => .ok (d :: ds) S2
def starR (m : Res D) (k : Sto → Res (List D)) : Res (List D) := m.bind fun d S1 => match items S1 d with
  | some xs => (k S1).bind fun ds S2 => .ok (xs ++ ds) S2
  | none => .bad
def tupR (m : Res (List D)) : Res D := m.bind fun xs S1 => if xs.length ≤ sizeLine then .ok (.tup xs) S1 else .bad
def lstR (m : Res (List D)) : Res Ob := m.bind fun xs S1 => if xs.length ≤ sizeLine then .ok (.lst xs) S1 else .bad
def obR (m : Res Ob) : Res D := m.bind fun o S1 => .ok (obD o) S1
def allocR (m : Res Ob) : Res D := m.bind fun o S1 => alloc S1 o
def lcR (m : Res (List D)) : Res Ob := m.bind fun xs S1 => .ok (.lst xs) S1
def dcR (m : Res (List Key × List D)) : Res Ob := m.bind fun p S1 => .ok (.dict p.1 p.2) S1
def negR (m : Res D) : Res D := m.bind fun x S1 => match x with
  | .int i => .ok (.int (-i)) S1
  | _ => .bad
def notR (m : Res D) : Res D := m.bind fun x S1 => Res.opt S1 ((truth S1 x).map fun b => .bl (!b))
def binR (op : Operator) (m : Res D) (k : Sto → Res D) : Res D := m.bind fun x S1 => (k S1).bind fun y S2 => Res.opt S2 (binop op x y)
def andR (m : Res D) (k : Sto → Res D) : Res D := m.bind fun x S1 => match truth S1 x with
  | some t => if t then k S1 else .ok x S1
  | none => .bad
def orR (m : Res D) (k : Sto → Res D) : Res D := m.bind fun x S1 => match truth S1 x with
  | some t => if t then .ok x S1 else k S1
  | none => .bad
def andT (m : Res Bool) (k : Sto → Res Bool) : Res Bool := m.bind fun t S1 => if t then k S1 else .ok false S1
def orT (m : Res Bool) (k : Sto → Res Bool) : Res Bool := m.bind fun t S1 => if t then .ok true S1 else k S1
def notT (m : Res Bool) : Res Bool := m.bind fun b S1 => .ok (!b) S1
def blR (m : Res Bool) : Res D := m.bind fun b S1 => .ok (.bl b) S1
def truR (m : Res D) : Res Bool := m.bind fun x S1 => Res.opt S1 (truth S1 x)
def ifR (m : Res Bool) (a b : Sto → Res D) : Res D := m.bind fun k S1 => if k then a S1 else b S1
def cmpR (op : CmpOp) (m : Res D) (k : Sto → Res D) : Res Bool := m.bind fun x S1 => (k S1).bind fun y S2 => Res.opt S2 (cmpF op S2 x y)
def cmp2R (op op' : CmpOp) (m : Res D) (k k2 : Sto → Res D) : Res Bool := m.bind fun x S1 => (k S1).bind fun y S2 => match cmpF op S2 x y with
  | some true => (k2 S2).bind fun z S3 => Res.opt S3 (cmpF op' S3 y z)
  | some false => .ok false S2
  | none => .bad
def attR (cls : Str → Option ClI) (f : Str) (m : Res D) : Res D := m.bind fun od S1 => match attrV cls S1 f od with
  | some (.inl d) => .ok d S1
  | _ => .bad
def subR (m : Res D) (k : Sto → Res D) : Res D := m.bind fun od S1 => (k S1).bind fun id S2 => Res.opt S2 (getF S2 od id)
def noP (S : Sto) : Res (Option Int) := .ok none S
def intP (m : Res D) : Res (Option Int) := m.bind fun d S1 => match d with
  | .int i => .ok (some i) S1
  | _ => .bad
def sliR (m : Res D) (lo hi : Sto → Res (Option Int)) : Res D := m.bind fun od S1 => (lo S1).bind fun l S2 => (hi S2).bind fun u S3 => Res.opt S3 (sliceV S3 od l u)
def isiR (t : Str) (m : Res D) : Res D := m.bind fun d S1 => Res.opt S1 ((isInst S1 t d).map .bl)
def ownR (t : Str) (m : Res D) : Res D := m.bind fun d S1 => Res.opt S1 ((isOwn S1 t d).map .bl)
def fnR (f : FnI) (m : Res (List D)) : Res D := m.bind fun ds S1 => runF f ds S1
def mkR (c : Str) (ci : ClI) (f : FnI) (m : Res (List D)) : Res D := m.bind fun ds S1 => makeR c ci f ds S1
def bR (b : Sto → List D → Option D) (m : Res (List D)) : Res D := m.bind fun ds S1 => Res.opt S1 (b S1 ds)
def boR (G : Gen) (x : Str) (m : Res (List D)) : Res D := m.bind fun ds S1 => callBO G x S1 ds
/-- callStar, the argument by a function -/
def stR1 (G : Gen) (m : Str) (o : D) (e : Sto → Res D) (S : Sto) : Res D := match insD S o with
  | some (cl, ns, _) => (G.cls cl).elim .bad fun ci => if ns.contains m || ci.slots then .bad else (meOk G cl m).elim .bad fun f => (e S).bind fun d S2 => match items S2 d with
    | some xs => runF f (o :: xs) S2
    | none => .bad
  | none => .bad
def stR (G : Gen) (m : Str) (o : Res D) (e : Sto → Res D) : Res D := o.bind fun od S1 => stR1 G m od e S1
def setFR (x : Str) (m : Res D) : Res D := m.bind fun d S1 => Res.opt S1 (setF x S1 d)
def vR (G : Gen) (m : Res D) (A : Sto → Res (List D)) : Res D := m.bind fun fd S1 => match fd with
  | .fn x => (fnOk G x).elim .bad fun f => (A S1).bind fun ds S2 => runF f ds S2
  | _ => .bad
/-- callAt, the arguments by a function -/
def atR (G : Gen) (m : Str) (A : Sto → Res (List D)) (o : D) (S : Sto) : Res D := match insD S o with
  | some (cl, ns, _) => if ns.contains m || (G.cls cl).isNone then .bad else (meOk G cl m).elim .bad fun f => (A S).bind fun ds S2 => runF f (o :: ds) S2
  | none => match o with
    | .str z => if strMeth m then (A S).bind fun ds S2 => Res.opt S2 (methB m S2 (.str z) ds) else .bad
    | .kd ks xs => if m = "get" then (A S).bind fun ds S2 => Res.opt S2 (methK m ks xs ds) else .bad
    | .dict ks xs => if m = "get" then (A S).bind fun ds S2 => Res.opt S2 (methD m ks xs ds) else .bad
    | .ref n => (match S[n]? with
      | some (.lst _) => if lstMeth m then (A S).bind fun ds S2 => match S2[n]? with
        | some (.lst xs) => (match methL m xs ds with
          | some ys => .ok .non (S2.set n (.lst ys))
          | none => .bad)
        | _ => .bad
        else .bad
      | some (.dict _ _) => if m = "get" then (A S).bind fun ds S2 => match S2[n]? with
        | some (.dict ks xs) => Res.opt S2 (methD m ks xs ds)
        | _ => .bad
        else .bad
      | _ => .bad)
    | _ => .bad
def meR (G : Gen) (m : Str) (o : Res D) (A : Sto → Res (List D)) : Res D := o.bind fun od S1 => atR G m A od S1
def kwR (f : FnI) (ks : List Str) (m : Res (List D)) : Res D := m.bind fun ds S1 => (kwOrder f.ps (ks.zip ds)).elim .bad fun as => if as.length = f.ps.length ∧ ds.length = ks.length then runP f as S1 else .bad
/-- what is walked -/
def itR (m : Res D) : Res Itr := m.bind fun d S1 => Res.opt S1 (itS S1 d)
def rng1 (m : Res (List D)) : Res Itr := m.bind fun ds S1 => match ds with
  | [.int i] => if smallI i then .ok ⟨(List.range i.toNat).map fun (k : Nat) => .int (0 + k), none, []⟩ S1 else .bad
  | _ => .bad
def rng2 (m : Res (List D)) : Res Itr := m.bind fun ds S1 => match ds with
  | [.int i, .int j] => if smallI i && smallI j then .ok ⟨(List.range (j - i).toNat).map fun (k : Nat) => .int (i + k), none, []⟩ S1 else .bad
  | _ => .bad
def enuR (m : Res (List D)) : Res Itr := m.bind fun ds S1 => match ds with
  | [d] => if isLst S1 d || isTup d then Res.opt S1 ((itS S1 d).map fun t => ⟨t.xs.mapIdx fun k y => .tup [.int (k : Nat), y], t.src, t.snap⟩) else .bad
  | _ => .bad
def zipR (m : Res (List D)) : Res Itr := m.bind fun ds S1 => match ds with
  | [.tup xs, .tup ys] => .ok ⟨(xs.zip ys).map fun p => .tup [p.1, p.2], none, []⟩ S1
  | [.lst xs, .lst ys] => .ok ⟨(xs.zip ys).map fun p => .tup [p.1, p.2], none, []⟩ S1
  | _ => .bad
/-- a comprehension's turn -/
def hdR (tg : Tg) (T : Option (Slots → Sto → Res Bool)) (w : Slots) (d : D) (S : Sto) : Res (Option Slots) := match tg.put d w with
  | some v1 => (match T with
      | none => .ok (some v1) S
      | some t => (match t v1 S with
        | .ok true S2 => .ok (some v1) S2
        | .ok false S2 => .ok none S2
        | _ => .bad))
  | none => .bad
def turnR (tg : Tg) (T : Option (Slots → Sto → Res Bool)) (E : Slots → Sto → Res D) (w : Slots) (d : D) (S : Sto) : Res (Option D) :=
  match hdR tg T w d S with
  | .ok (some v1) S2 => (match E v1 S2 with
    | .ok y S3 => .ok (some y) S3
    | _ => .bad)
  | .ok none S2 => .ok none S2
  | _ => .bad
def turnDR (tg : Tg) (T : Option (Slots → Sto → Res Bool)) (K E : Slots → Sto → Res D) (w : Slots) (d : D) (S : Sto) : Res (Option (Key × D)) :=
  match hdR tg T w d S with
  | .ok (some v1) S2 => (match K v1 S2 with
    | .ok k S3 => (match E v1 S3 with
      | .ok y S4 => (match toKey k with
        | some k' => .ok (some (k', y)) S4
        | none => .bad)
      | _ => .bad)
    | _ => .bad)
  | .ok none S2 => .ok none S2
  | _ => .bad
def compR (it : Res Itr) (body : D → Sto → Res (Option D)) : Res (List D) := it.bind fun it S1 => loopC body it it.xs [] S1
def compDR (it : Res Itr) (body : D → Sto → Res (Option (Key × D))) : Res (List Key × List D) := it.bind fun it S1 => loopD body it it.xs ([], []) S1
/-- a dict's display -/
def kvR (m : Res D) (e : Sto → Res D) (k : Sto → Res (List (Key × D))) : Res (List (Key × D)) := m.bind fun kd S1 => (e S1).bind fun d S2 => match toKey kd with
  | some k' => (k S2).bind fun r S3 => .ok ((k', d) :: r) S3
  | none => .bad
def dispR (m : Res (List (Key × D))) : Res Ob := m.bind fun kvs S1 => if kvs.length ≤ 15 then let p := mergeD kvs ([], []); .ok (.dict p.1 p.2) S1 else .bad
/-! statements -/
def retR (v : Slots) (m : Res D) : SRes := m.st v fun d S1 => .rt d S1
def expR (v : Slots) (m : Res D) : SRes := m.st v fun _ S1 => .nx v S1
def iteR (v : Slots) (m : Res Bool) (a b : Sto → SRes) : SRes := m.st v fun k S1 => if k then a S1 else b S1
def forR (v : Slots) (it : Res Itr) (t : Tg) (body : Slots → Sto → SRes) : SRes := it.st v fun it S1 => loopF (fun d v S => match t.put d v with
  | some v1 => body v1 S
  | none => .bad) it it.xs v S1
def setR (v : Slots) (i : Nat) (m : Res D) : SRes := m.st v fun d S1 => if i < v.length then .nx (v.set i (some d)) S1 else .bad
def putR (v : Slots) (m : Res D) (o i : Sto → Res D) (j : Nat) : SRes := m.st v fun d S1 => (match d with
  | .tup [d1, d2] => (o S1).st v fun od S2 => (i S2).st v fun id S3 => (match putV od id d1 S3 with
    | some S4 => if j < v.length then .nx (v.set j (some d2)) S4 else .bad
    | none => .bad)
  | _ => .bad)
def setsR (v : Slots) (is : List Nat) (m : Res (List D)) : SRes := m.st v fun ds S1 => (match setAll is ds v with
  | some v1 => .nx v1 S1
  | none => .bad)
def setsR1 (v : Slots) (is : List Nat) (m : Res (List D)) : SRes := m.st v fun ds S1 => if ds.length ≤ sizeLine then (match setAll is ds v with
  | some v1 => .nx v1 S1
  | none => .bad) else .bad
def unpR (v : Slots) (t : Tg) (m : Res D) : SRes := m.st v fun d S1 => (match t.put d v with
  | some v1 => .nx v1 S1
  | none => .bad)
def atsR (cls : Str → Option ClI) (v : Slots) (f : Str) (m : Res D) (o : Sto → Res D) : SRes := m.st v fun d S1 => (o S1).st v fun od S2 => (match putA cls od f d S2 with
  | some S3 => .nx v S3
  | none => .bad)
def ixsR (v : Slots) (m : Res D) (o i : Sto → Res D) : SRes := m.st v fun d S1 => (o S1).st v fun od S2 => (i S2).st v fun id S3 => (match putV od id d S3 with
  | some S4 => .nx v S4
  | none => .bad)
def augR (v : Slots) (i : Nat) (m : Res D) : SRes := match (v[i]?).join with
  | some (.int a) => m.st v fun d S1 => (match d with
    | .int b => if i < v.length then .nx (v.set i (some (.int (a + b)))) S1 else .bad
    | _ => .bad)
  | _ => .bad
/-- a def, with its run as told -/
def addS (G : Gen) (d : DefS) (r : List D → Sto → Res D) : Gen := { G with lev := G.lev + levUp d.kind, fns := fun x => if x = d.name then some ⟨G.lev + 1, d.kind, d.ps, d.dfl, d.pur, d.frz, r, d.kws⟩ else G.fns x }
theorem addD_eq {W n : Nat} {G : Gen} {d : DefS} {r : List D → Sto → Res D} (h : ∀ a S, bodyRun W n G d a S = r a S) : addD W n G d = addS G d r := by
  have e : bodyRun W n G d = r := funext fun a => funext fun S => h a S
  unfold addD fnOfD
  rw [e]
  rfl
def begR (ps N : Nat) (args : List D) : Slots := args.map some ++ List.replicate (N - args.length) none
end DV
namespace DV
/-- the turns of a while -/
def WW : Nat := 1000000000
end DV
end

section
set_option Elab.async false
set_option linter.all false
set_option maxRecDepth 100000
set_option autoImplicit false
/-! Rules for the shallow forms. -/
namespace DV
open PySem L2

section
variable {A B : Type} {a : A} {S S1 : Sto} {d x y : D} {v : Slots} {ds : List D} {i : Nat}
@[simp] theorem bind_ok {k : A → Sto → Res B} : (Res.ok a S).bind k = k a S := rfl
@[simp] theorem bind_bad {k : A → Sto → Res B} : (Res.bad : Res A).bind k = .bad := rfl
@[simp] theorem st_ok {k : A → Sto → SRes} : (Res.ok a S).st v k = k a S := rfl
@[simp] theorem opt_some : Res.opt S (some a) = .ok a S := rfl
@[simp] theorem opt_none : Res.opt S (none : Option A) = .bad := rfl
@[simp] theorem seq_nx {k : Slots → Sto → SRes} : (SRes.nx v S).seq k = k v S := rfl
@[simp] theorem seq_rt {k : Slots → Sto → SRes} : (SRes.rt d S).seq k = .rt d S := rfl
@[simp] theorem seq_bk {k : Slots → Sto → SRes} : (SRes.bk v S).seq k = .bk v S := rfl
@[simp] theorem seq_ct {k : Slots → Sto → SRes} : (SRes.ct v S).seq k = .ct v S := rfl
@[simp] theorem fin_rt : finR (.rt d S) = .ok d S := rfl
@[simp] theorem fin_nx : finR (.nx v S) = .ok .non S := rfl
@[simp] theorem lk_zero : lk (some d :: v) 0 S = .ok d S := rfl
@[simp] theorem lk_succ {o : Option D} : lk (o :: v) (i + 1) S = lk v i S := rfl
@[simp] theorem begR_def {ps N : Nat} : begR ps N ds = ds.map some ++ List.replicate (N - ds.length) none := rfl
def consR2 (d : D) (m : Res (List D)) : Res (List D) := m.bind fun ds S2 => .ok (d :: ds) S2
@[simp] theorem consR_ok {k : Sto → Res (List D)} : consR (.ok d S) k = consR2 d (k S) := rfl
@[simp] theorem consR2_ok : consR2 d (.ok ds S) = .ok (d :: ds) S := rfl
def starR2 (S1 : Sto) (d : D) (k : Res (List D)) : Res (List D) := match items S1 d with
  | some xs => k.bind fun ds S2 => .ok (xs ++ ds) S2
  | none => .bad
@[simp] theorem starR_ok {k : Sto → Res (List D)} : starR (.ok d S) k = starR2 S d (k S) := rfl
@[simp] theorem starR2_tup {xs : List D} : starR2 S (.tup xs) (.ok ds S1) = .ok (xs ++ ds) S1 := rfl
@[simp] theorem starR2_lst {xs : List D} : starR2 S (.lst xs) (.ok ds S1) = .ok (xs ++ ds) S1 := rfl
@[simp] theorem tupR_ok : tupR (.ok ds S) = if ds.length ≤ sizeLine then .ok (.tup ds) S else .bad := rfl
@[simp] theorem lstR_ok : lstR (.ok ds S) = if ds.length ≤ sizeLine then .ok (.lst ds) S else .bad := rfl
@[simp] theorem obR_lst : obR (.ok (.lst ds) S) = .ok (.lst ds) S := rfl
@[simp] theorem obR_dict {ks : List Key} : obR (.ok (.dict ks ds) S) = .ok (.dict ks ds) S := rfl
@[simp] theorem allocR_ok {o : Ob} : allocR (.ok o S) = .ok (.ref S.length) (S ++ [o]) := rfl
@[simp] theorem lcR_ok : lcR (.ok ds S) = .ok (.lst ds) S := rfl
@[simp] theorem dcR_ok {p : List Key × List D} : dcR (.ok p S) = .ok (.dict p.1 p.2) S := rfl
@[simp] theorem negR_int {z : Int} : negR (.ok (.int z) S) = .ok (.int (-z)) S := rfl
@[simp] theorem notR_ok : notR (.ok x S) = Res.opt S ((truth S x).map fun b => .bl (!b)) := rfl
def binR2 (op : Operator) (x : D) (m : Res D) : Res D := m.bind fun y S2 => Res.opt S2 (binop op x y)
@[simp] theorem binR_ok {op : Operator} {k : Sto → Res D} : binR op (.ok x S) k = binR2 op x (k S) := rfl
@[simp] theorem binR2_ok {op : Operator} : binR2 op x (.ok y S) = Res.opt S (binop op x y) := rfl
@[simp] theorem andR_bl {b : Bool} {k : Sto → Res D} : andR (.ok (.bl b) S) k = if b then k S else .ok (.bl b) S := rfl
@[simp] theorem orR_bl {b : Bool} {k : Sto → Res D} : orR (.ok (.bl b) S) k = if b then .ok (.bl b) S else k S := rfl
@[simp] theorem andT_ok {b : Bool} {k : Sto → Res Bool} : andT (.ok b S) k = if b then k S else .ok false S := rfl
@[simp] theorem orT_ok {b : Bool} {k : Sto → Res Bool} : orT (.ok b S) k = if b then .ok true S else k S := rfl
@[simp] theorem notT_ok {b : Bool} : notT (.ok b S) = .ok (!b) S := rfl
@[simp] theorem blR_ok {b : Bool} : blR (.ok b S) = .ok (.bl b) S := rfl
@[simp] theorem truR_ok : truR (.ok x S) = Res.opt S (truth S x) := rfl
@[simp] theorem ifR_ok {b : Bool} {k l : Sto → Res D} : ifR (.ok b S) k l = if b then k S else l S := rfl
def cmpR2 (op : CmpOp) (x : D) (m : Res D) : Res Bool := m.bind fun y S2 => Res.opt S2 (cmpF op S2 x y)
@[simp] theorem cmpR_ok {op : CmpOp} {k : Sto → Res D} : cmpR op (.ok x S) k = cmpR2 op x (k S) := rfl
@[simp] theorem cmpR2_ok {op : CmpOp} : cmpR2 op x (.ok y S) = Res.opt S (cmpF op S x y) := rfl
def cmp2R2 (op op' : CmpOp) (x : D) (m : Res D) (k2 : Sto → Res D) : Res Bool := m.bind fun y S2 => match cmpF op S2 x y with
  | some true => (k2 S2).bind fun z S3 => Res.opt S3 (cmpF op' S3 y z)
  | some false => .ok false S2
  | none => .bad
@[simp] theorem cmp2R_ok {op op' : CmpOp} {k k2 : Sto → Res D} : cmp2R op op' (.ok x S) k k2 = cmp2R2 op op' x (k S) k2 := rfl
@[simp] theorem cmp2R2_ok {op op' : CmpOp} {k2 : Sto → Res D} : cmp2R2 op op' x (.ok y S) k2 = match cmpF op S x y with
  | some true => (k2 S).bind fun z S3 => Res.opt S3 (cmpF op' S3 y z)
  | some false => .ok false S
  | none => .bad := rfl
def attO (S : Sto) (o : Option (Sum D (Str × D))) : Res D := match o with
  | some (.inl d) => .ok d S
  | _ => .bad
@[simp] theorem attO_some : attO S (some (.inl d)) = .ok d S := rfl
@[simp] theorem attR_ok {cls : Str → Option ClI} {f : Str} : attR cls f (.ok x S) = attO S (attrV cls S f x) := rfl
def subR2 (x : D) (m : Res D) : Res D := m.bind fun y S2 => Res.opt S2 (getF S2 x y)
@[simp] theorem subR_ok {k : Sto → Res D} : subR (.ok x S) k = subR2 x (k S) := rfl
@[simp] theorem subR2_ok : subR2 x (.ok y S) = Res.opt S (getF S x y) := rfl
@[simp] theorem noP_def : noP S = .ok none S := rfl
@[simp] theorem intP_ok {z : Int} : intP (.ok (.int z) S) = .ok (some z) S := rfl
def sliR2 (x : D) (l : Res (Option Int)) (hi : Sto → Res (Option Int)) : Res D := l.bind fun l S2 => (hi S2).bind fun u S3 => Res.opt S3 (sliceV S3 x l u)
@[simp] theorem sliR_ok {lo hi : Sto → Res (Option Int)} : sliR (.ok x S) lo hi = sliR2 x (lo S) hi := rfl
def sliR3 (x : D) (l : Option Int) (u : Res (Option Int)) : Res D := u.bind fun u S3 => Res.opt S3 (sliceV S3 x l u)
@[simp] theorem sliR2_ok {l : Option Int} {hi : Sto → Res (Option Int)} : sliR2 x (.ok l S) hi = sliR3 x l (hi S) := rfl
@[simp] theorem sliR3_ok {l u : Option Int} : sliR3 x l (.ok u S) = Res.opt S (sliceV S x l u) := rfl
@[simp] theorem isiR_ok {t : Str} : isiR t (.ok x S) = Res.opt S ((isInst S t x).map .bl) := rfl
@[simp] theorem ownR_ok {t : Str} : ownR t (.ok x S) = Res.opt S ((isOwn S t x).map .bl) := rfl
@[simp] theorem fnR_ok {f : FnI} : fnR f (.ok ds S) = runF f ds S := rfl
@[simp] theorem mkR_ok {c : Str} {ci : ClI} {f : FnI} : mkR c ci f (.ok ds S) = makeR c ci f ds S := rfl
@[simp] theorem bR_ok {b : Sto → List D → Option D} : bR b (.ok ds S) = Res.opt S (b S ds) := rfl
@[simp] theorem boR_ok {G : Gen} {t : Str} : boR G t (.ok ds S) = callBO G t S ds := rfl
@[simp] theorem stR_ok {G : Gen} {m : Str} {k : Sto → Res D} : stR G m (.ok x S) k = stR1 G m x k S := rfl
@[simp] theorem setFR_ok {t : Str} : setFR t (.ok x S) = Res.opt S (setF t S x) := rfl
@[simp] theorem meR_ok {G : Gen} {m : Str} {k : Sto → Res (List D)} : meR G m (.ok x S) k = atR G m k x S := rfl
@[simp] theorem itR_ok : itR (.ok x S) = Res.opt S (itS S x) := rfl
theorem rng1_ok {z : Int} : rng1 (.ok [.int z] S) = if smallI z then .ok ⟨(List.range z.toNat).map fun (k : Nat) => .int (0 + k), none, []⟩ S else .bad := rfl
@[simp] theorem retR_ok : retR v (.ok x S) = .rt x S := rfl
@[simp] theorem expR_ok : expR v (.ok x S) = .nx v S := rfl
@[simp] theorem iteR_ok {b : Bool} {k l : Sto → SRes} : iteR v (.ok b S) k l = if b then k S else l S := rfl
@[simp] theorem setR_ok : setR v i (.ok x S) = if i < v.length then .nx (v.set i (some x)) S else .bad := rfl
end
/-! what values do -/
section
variable {S : Sto} {i j : Int} {a b : Str} {xs ys : List D} {d : D}
@[simp] theorem add_int : binop .Add (.int i) (.int j) = some (.int (i + j)) := rfl
@[simp] theorem sub_int : binop .Sub (.int i) (.int j) = some (.int (i - j)) := rfl
@[simp] theorem mul_int : binop .Mult (.int i) (.int j) = if mulOk i j then some (.int (i * j)) else none := rfl
@[simp] theorem fdiv_int : binop .FloorDiv (.int i) (.int j) = if divOk j then some (.int (i.fdiv j)) else none := rfl
@[simp] theorem mod_int : binop .Mod (.int i) (.int j) = if j = 0 then none else some (.int (i.fmod j)) := rfl
@[simp] theorem add_str : binop .Add (.str a) (.str b) = if a.length + b.length ≤ sizeLine then some (.str (a ++ b)) else none := rfl
@[simp] theorem add_tup : binop .Add (.tup xs) (.tup ys) = if xs.length + ys.length ≤ sizeLine then some (.tup (xs ++ ys)) else none := rfl
@[simp] theorem truth_bl {b : Bool} : truth S (.bl b) = some b := rfl
@[simp] theorem truth_int : truth S (.int i) = some (i != 0) := rfl
theorem cmpF_of {op : CmpOp} {x y : D} {t : Bool} (h : cmpV op S x y = some t) : cmpF op S x y = some t := by unfold cmpF; rw [h]
@[simp] theorem lt_int : cmpF .Lt S (.int i) (.int j) = some (decide (i < j)) := rfl
@[simp] theorem le_int : cmpF .LtE S (.int i) (.int j) = some (decide (i ≤ j)) := rfl
@[simp] theorem gt_int : cmpF .Gt S (.int i) (.int j) = some (decide (j < i)) := rfl
@[simp] theorem ge_int : cmpF .GtE S (.int i) (.int j) = some (decide (j ≤ i)) := rfl
@[simp] theorem eq_int : cmpF .Eq S (.int i) (.int j) = some (decide (i = j)) := rfl
@[simp] theorem ne_int : cmpF .NotEq S (.int i) (.int j) = some (!decide (i = j)) := rfl
@[simp] theorem eq_str : cmpF .Eq S (.str a) (.str b) = some (decide (a = b)) := rfl
@[simp] theorem ne_str : cmpF .NotEq S (.str a) (.str b) = some (!decide (a = b)) := rfl
@[simp] theorem is_non {x : D} (h : ∀ n, x ≠ .ref n) : cmpF .Is S x .non = some (match x with | .non => true | _ => false) := by
  cases x <;> first | rfl | exact absurd rfl (h _)
@[simp] theorem isnot_non {x : D} (h : ∀ n, x ≠ .ref n) : cmpF .IsNot S x .non = some (match x with | .non => false | _ => true) := by
  cases x <;> first | rfl | exact absurd rfl (h _)
@[simp] theorem in_str : cmpF .In S (.str a) (.str b) = some (strIn a b) := rfl
theorem ofString_inj {s t : String} : Str.ofString s = Str.ofString t ↔ s = t := by
  constructor
  · intro h
    have := congrArg (fun x : Str => x.cps.toList) h
    simp only [Str.ofString_eq_toList] at this
    have q : s.toList = t.toList := by
      have inj : ∀ (l m : List Char), l.map Char.toNat = m.map Char.toNat → l = m := by
        intro l
        induction l with
        | nil => intro m e; cases m with
          | nil => rfl
          | cons _ _ => simp at e
        | cons c l ih => intro m e; cases m with
          | nil => simp at e
          | cons c' m =>
            simp only [List.map_cons, List.cons.injEq] at e
            rw [ih m e.2, Char.ext (UInt32.toNat_inj.mp e.1)]
      exact inj _ _ this
    exact String.toList_inj.mp q
  · intro h; rw [h]
@[simp] theorem ofString_eq {s t : String} : (Str.ofString s = Str.ofString t) = (s = t) := propext ofString_inj
end
end DV
end

section
set_option Elab.async false
set_option linter.all false
set_option maxRecDepth 100000
set_option autoImplicit false
/-! Loops of the shallow forms; calls. -/
namespace DV
open PySem L2
section
variable {A : Type} {t : Itr} {S : Sto}
theorem okSrc_none (h : t.src = none) (S : Sto) : okSrc S t = true := by unfold okSrc; rw [h]
/-- a comprehension whose turns leave the store -/
theorem loopC_fm (hs : t.src = none) {body : D → Sto → Res (Option D)} (enc : A → D) (g : A → Option D) : ∀ (l : List A) (acc : List D), (∀ a ∈ l, body (enc a) S = .ok (g a) S) → acc.length + l.length ≤ sizeLine →
    loopC body t (l.map enc) acc S = .ok (acc ++ l.filterMap g) S
  | [], acc, _, _ => by simp [loopC, okSrc_none hs]
  | a :: l, acc, h, hl => by
    have h1 := h a List.mem_cons_self
    simp only [List.map_cons, loopC, okSrc_none hs, if_true, h1]
    cases e : g a with
    | none =>
      dsimp only
      rw [loopC_fm hs enc g l acc (fun b hb => h b (List.mem_cons_of_mem _ hb)) (by simp at hl; omega)]
      simp [List.filterMap_cons, e]
    | some y =>
      dsimp only
      rw [if_pos (by simp at hl; omega), loopC_fm hs enc g l (acc ++ [y]) (fun b hb => h b (List.mem_cons_of_mem _ hb)) (by simp at hl ⊢; omega)]
      simp [List.filterMap_cons, e]
theorem loopC_map (hs : t.src = none) {body : D → Sto → Res (Option D)} (enc : A → D) (g : A → D) (l : List A) (h : ∀ a ∈ l, body (enc a) S = .ok (some (g a)) S) (hl : l.length ≤ sizeLine) :
    loopC body t (l.map enc) [] S = .ok (l.map g) S := by
  rw [loopC_fm hs enc (fun a => some (g a)) l [] h (by simpa using hl)]
  simp
theorem loopF_rel (hs : t.src = none) {T : Type} {body : D → Slots → Sto → SRes} (enc : A → D) (R : T → Slots → Sto → Prop) (f : T → A → T) : ∀ (l : List A) (s : T) (v : Slots) (S : Sto),
    (∀ (s : T) (v : Slots) (S : Sto) (a : A), a ∈ l → R s v S → ∃ v' S', (body (enc a) v S = .nx v' S' ∨ body (enc a) v S = .ct v' S') ∧ R (f s a) v' S') → R s v S → ∃ v' S', loopF body t (l.map enc) v S = .nx v' S' ∧ R (l.foldl f s) v' S'
  | [], s, v, S, _, r => ⟨v, S, by simp [loopF, okSrc_none hs], r⟩
  | a :: l, s, v, S, h, r => by
    obtain ⟨v1, S1, e, r1⟩ := h s v S a List.mem_cons_self r
    obtain ⟨v2, S2, e2, r2⟩ := loopF_rel hs enc R f l (f s a) v1 S1 (fun s v S b hb => h s v S b (List.mem_cons_of_mem _ hb)) r1
    refine ⟨v2, S2, ?_, r2⟩
    simp only [List.map_cons, loopF, okSrc_none hs, if_true]
    rcases e with e | e <;> rw [e] <;> exact e2
/-- a loop that may return -/
theorem loopF_ret (hs : t.src = none) {body : D → Slots → Sto → SRes} (enc : A → D) (R : List A → Slots → Sto → Prop) (P : D → Sto → Prop) : ∀ (l : List A) (p : List A) (v : Slots) (S : Sto),
    (∀ (p : List A) (a : A) (q : List A) (v : Slots) (S : Sto), p ++ a :: q = l → R p v S → (∃ v' S', (body (enc a) v S = .nx v' S' ∨ body (enc a) v S = .ct v' S') ∧ R (p ++ [a]) v' S') ∨ ∃ d S', body (enc a) v S = .rt d S' ∧ P d S') → R [] v S →
    (∃ v' S', loopF body t (l.map enc) v S = .nx v' S' ∧ R l v' S') ∨ ∃ d S', loopF body t (l.map enc) v S = .rt d S' ∧ P d S' := by
  intro l _ v S h r
  have go : ∀ (q p : List A) (v : Slots) (S : Sto), p ++ q = l → R p v S → (∃ v' S', loopF body t (q.map enc) v S = .nx v' S' ∧ R l v' S') ∨ ∃ d S', loopF body t (q.map enc) v S = .rt d S' ∧ P d S' := by
    intro q
    induction q with
    | nil => intro p v S e r; exact .inl ⟨v, S, by simp [loopF, okSrc_none hs], by rw [List.append_nil] at e; rw [← e]; exact r⟩
    | cons a q ih =>
      intro p v S e r
      simp only [List.map_cons, loopF, okSrc_none hs, if_true]
      rcases h p a q v S e r with ⟨v1, S1, e1, r1⟩ | ⟨d, S1, e1, r1⟩
      · have := ih (p ++ [a]) v1 S1 (by rw [List.append_assoc]; exact e) r1
        rcases e1 with e1 | e1 <;> rw [e1] <;> exact this
      · exact .inr ⟨d, S1, by rw [e1], r1⟩
  exact go l [] v S rfl r
/-- a while, by a measure -/
theorem loopW_rel {T : Type} {test : Slots → Sto → Res Bool} {body : Slots → Sto → SRes} (R : T → Slots → Sto → Prop) (m : T → Nat) (stop : T → Bool) (f : T → T)
    (ht : ∀ s v S, R s v S → test v S = .ok (!stop s) S) (hb : ∀ s v S, R s v S → stop s = false → ∃ v' S', body v S = .nx v' S' ∧ R (f s) v' S' ∧ m (f s) < m s) :
    ∀ (n : Nat) (s : T) (v : Slots) (S : Sto), R s v S → m s < n → ∃ s' v' S', loopW test body n v S = .nx v' S' ∧ R s' v' S' ∧ stop s' = true
  | 0, s, v, S, _, h => absurd h (Nat.not_lt_zero _)
  | n + 1, s, v, S, r, h => by
    have e := ht s v S r
    unfold loopW
    rw [e]
    cases hs : stop s with
    | true => exact ⟨s, v, S, by simp [hs], r, hs⟩
    | false =>
      obtain ⟨v1, S1, e1, r1, l1⟩ := hb s v S r hs
      obtain ⟨s2, v2, S2, e2, r2, q2⟩ := loopW_rel R m stop f ht hb n (f s) v1 S1 r1 (by omega)
      refine ⟨s2, v2, S2, ?_, r2, q2⟩
      simp [e1, e2]
end
section
variable {f : FnI} {args as : List D} {S S' : Sto} {d d' : D}
theorem fill_full (h : args.length = f.ps.length) : fill f args = args := by unfold fill; rw [h]; simp
theorem runP_pure (hp : f.pur = true) (hc : cloL args = true) (h : f.run args [] = .ok d S') (hz : fz 8 S' d = some d') : runP f args S = .ok d' S := by
  unfold runP
  rw [hp, hc, h]
  simp only [Bool.and_self, if_true, hz]
theorem fz_clo {n : Nat} (h : d.clo = true) : fz (n + 1) S d = some d := by unfold fz; rw [if_pos h]
theorem runF_fill (h : (fill f args).length = f.ps.length) : runF f args S = runP f (fill f args) S := by unfold runF; rw [if_pos h]
theorem runF_pure (hl : args.length = f.ps.length) (hp : f.pur = true) (hc : cloL args = true) (h : f.run args [] = .ok d S') (hd : d.clo = true) : runF f args S = .ok d S := by
  rw [runF_fill (by rw [fill_full hl]; exact hl), fill_full hl]
  exact runP_pure hp hc h (fz_clo hd)
theorem runF_pureZ (hl : args.length = f.ps.length) (hp : f.pur = true) (hc : cloL args = true) (h : f.run args [] = .ok d S') (hd : fz 8 S' d = some d') : runF f args S = .ok d' S := by
  rw [runF_fill (by rw [fill_full hl]; exact hl), fill_full hl]
  exact runP_pure hp hc h hd
/-- a call in the store, the answer as it is -/
theorem runF_raw (hl : args.length = f.ps.length) (hn : (f.pur && cloL args) = false) (h : f.run args S = .ok d S') (hd : ∀ n, d ≠ .ref n) : runF f args S = .ok d S' := by
  rw [runF_fill (by rw [fill_full hl]; exact hl), fill_full hl]
  unfold runP
  rw [hn, h]
  simp only [Bool.false_eq_true, if_false]
  split
  · cases d <;> first | rfl | exact absurd rfl (hd _)
  · rfl
/-- a new list that is set still -/
theorem runF_lst {n : Nat} {xs : List D} (hl : args.length = f.ps.length) (hn : (f.pur && cloL args) = false) (hf : f.frz = true) (h : f.run args S = .ok (.ref n) S') (hx : S'[n]? = some (.lst xs)) (hc : cloL xs = true) : runF f args S = .ok (.lst xs) (S'.set n .dead) := by
  rw [runF_fill (by rw [fill_full hl]; exact hl), fill_full hl]
  unfold runP
  rw [hn, h]
  simp only [Bool.false_eq_true, if_false, hf, if_true, hx, hc]
theorem runF_ref {n : Nat} (hl : args.length = f.ps.length) (hn : (f.pur && cloL args) = false) (hf : f.frz = false) (h : f.run args S = .ok d S') : runF f args S = .ok d S' := by
  rw [runF_fill (by rw [fill_full hl]; exact hl), fill_full hl]
  unfold runP
  rw [hn, h]
  simp only [Bool.false_eq_true, if_false, hf]
end
end DV
namespace DV
open PySem L2
section
variable {A : Type} {t : Itr} {S : Sto} {v : Slots} {body : D → Slots → Sto → SRes} {enc : A → D} {l : List A} {L : SRes}
theorem loopF_gen {T : Type} (R : T → Slots → Sto → Prop) (f : T → A → T) (s : T) (hL : loopF body t (l.map enc) v S = L) (hs : t.src = none) (r : R s v S)
    (h : ∀ (s : T) (v : Slots) (S : Sto) (a : A), a ∈ l → R s v S → ∃ v' S', (body (enc a) v S = .nx v' S' ∨ body (enc a) v S = .ct v' S') ∧ R (f s a) v' S') : ∃ v' S', L = .nx v' S' ∧ R (l.foldl f s) v' S' := by
  obtain ⟨v', S', e, q⟩ := loopF_rel hs enc R f l s v S h r
  exact ⟨v', S', hL.symm.trans e, q⟩
theorem loopF_genR (R : List A → Slots → Sto → Prop) (P : D → Sto → Prop) (hL : loopF body t (l.map enc) v S = L) (hs : t.src = none) (r : R [] v S)
    (h : ∀ (p : List A) (a : A) (q : List A) (v : Slots) (S : Sto), p ++ a :: q = l → R p v S → (∃ v' S', (body (enc a) v S = .nx v' S' ∨ body (enc a) v S = .ct v' S') ∧ R (p ++ [a]) v' S') ∨ ∃ d S', body (enc a) v S = .rt d S' ∧ P d S') :
    (∃ v' S', L = .nx v' S' ∧ R l v' S') ∨ ∃ d S', L = .rt d S' ∧ P d S' := by
  rcases loopF_ret hs enc R P l [] v S h r with ⟨v', S', e, q⟩ | ⟨d, S', e, q⟩
  · exact .inl ⟨v', S', hL.symm.trans e, q⟩
  · exact .inr ⟨d, S', hL.symm.trans e, q⟩
/-- a loop over a list, by its places -/
theorem loopF_genP (R : List A → Slots → Sto → Prop) (hL : loopF body t (l.map enc) v S = L) (hs : t.src = none) (r : R [] v S)
    (h : ∀ (p : List A) (a : A) (q : List A) (v : Slots) (S : Sto), p ++ a :: q = l → R p v S → (∃ v' S', (body (enc a) v S = .nx v' S' ∨ body (enc a) v S = .ct v' S') ∧ R (p ++ [a]) v' S')) :
    ∃ v' S', L = .nx v' S' ∧ R l v' S' := by
  rcases loopF_genR R (fun _ _ => False) hL hs r (fun p a q v S e r => .inl (h p a q v S e r)) with q | ⟨_, _, _, q⟩
  · exact q
  · exact q.elim
end
end DV
end

section
set_option Elab.async false
set_option linter.all false
set_option maxRecDepth 100000
set_option autoImplicit false
/-! Texts of numbers, walks over texts. -/
namespace DV
open PySem L2 SX
/-- the text of a number -/
def numS (n : Nat) : Str := Str.ofString (toString ((n : Nat) : Int))
theorem numS_eq (n : Nat) : numS n = SX.S (TL.numL n) := num_S n
abbrev Big (n : Nat) : Prop := n < 10 ^ 200
theorem numS_len {n : Nat} (h : Big n) : (numS n).length ≤ 200 := by
  rw [numS_eq, S_len]; exact TL.numL_len (by decide) h
theorem numS_ne {n : Nat} : (numS n).length ≠ 0 := by
  rw [numS_eq, S_len]
  intro h
  exact TL.numL_ne n (List.eq_nil_of_length_eq_zero h)
theorem numS_int {n : Nat} (h : Big n) : intText? (numS n) = some (n : Int) := TL.int_num (Nat.le_trans (TL.numL_len (by decide) h) (by decide))
theorem numS_inj {m n : Nat} (h : numS m = numS n) : m = n := by
  rw [numS_eq, numS_eq] at h
  exact TL.numL_inj (S_inj h)
theorem str_int (n : Nat) : Str.ofString (toString ((n : Nat) : Int)) = numS n := rfl
theorem str_lenOf (s : String) : (Str.ofString s).length = s.toList.length := by
  rw [Str.ofString_eq_toList]; simp [Str.length]
theorem strIn_one (c : Nat) (a : List Nat) : strIn ⟨#[c]⟩ (SX.S a) = decide (c ∈ a) := in_one a c
theorem ofStr_S (s : String) : Str.ofString s = SX.S (s.toList.map Char.toNat) := by rw [Str.ofString_eq_toList]
theorem log2_lt {n k : Nat} (h : n < 2 ^ k) (hk : 0 < k) : n.log2 < k := by
  by_cases hn : n = 0
  · subst hn; simpa using hk
  · exact (Nat.log2_lt hn).mpr h
theorem strOk_big {n : Nat} (h : Big n) : strOk (n : Int) = true := by
  unfold strOk
  rw [decide_eq_true_eq, Int.natAbs_natCast]
  exact log2_lt (Nat.lt_trans h (by decide +kernel)) (by decide)
@[simp] theorem bStr_num {n : Nat} (h : Big n) : bStr [.int (n : Int)] = some (.str (numS n)) := by
  unfold bStr; simp only [strOk_big h, if_true]; rfl
@[simp] theorem bInt_num {n : Nat} (h : Big n) : bInt [.str (numS n)] = some (.int n) := by
  show (if (numS n).length ≤ 640 then Option.map D.int (intText? (numS n)) else none) = _
  rw [if_pos (by have := numS_len h; omega), numS_int h]
  rfl
@[simp] theorem bLen_str {S : Sto} {z : Str} (h : z.length ≤ sizeLine) : bLen S [.str z] = some (.int z.length) := by
  show (if z.length ≤ sizeLine then some (D.int z.length) else none) = _
  rw [if_pos h]
@[simp] theorem bLen_tup {S : Sto} {xs : List D} : bLen S [.tup xs] = some (.int (xs.length : Nat)) := rfl
@[simp] theorem bLen_lst {S : Sto} {xs : List D} : bLen S [.lst xs] = some (.int (xs.length : Nat)) := rfl
theorem callBO_no {G : Gen} {x : Str} {S : Sto} {d : D} (h : insD S d = none) : callBO G x S [d] = Res.opt S (callB x S [d]) := by
  unfold callBO
  simp only [h]
theorem callB_len {S : Sto} {ds : List D} : callB "len" S ds = bLen S ds := by unfold callB; rw [if_pos rfl]
theorem callB_str {S : Sto} {ds : List D} : callB "str" S ds = bStr ds := by unfold callB; simp
@[simp] theorem boLen_str {G : Gen} {S : Sto} {z : Str} : callBO G "len" S [.str z] = Res.opt S (bLen S [.str z]) := by rw [callBO_no rfl, callB_len]
@[simp] theorem boLen_tup {G : Gen} {S : Sto} {xs : List D} : callBO G "len" S [.tup xs] = .ok (.int (xs.length : Nat)) S := by rw [callBO_no rfl, callB_len]; rfl
@[simp] theorem boLen_lst {G : Gen} {S : Sto} {xs : List D} : callBO G "len" S [.lst xs] = .ok (.int (xs.length : Nat)) S := by rw [callBO_no rfl, callB_len]; rfl
@[simp] theorem boLen_scr {G : Gen} {S : Sto} {xs : List D} : callBO G "len" S [.scr xs] = .ok (.int (xs.length : Nat)) S := by rw [callBO_no rfl, callB_len]; rfl
theorem boLen_ref {G : Gen} {S : Sto} {n : Nat} {xs : List D} (h : S[n]? = some (.lst xs)) : callBO G "len" S [.ref n] = .ok (.int (xs.length : Nat)) S := by
  have e : insD S (.ref n) = none := by
    show (match S[n]? with | some (Ob.ins c ns xs) => some (c, ns, xs) | _ => none) = _
    rw [h]
  rw [callBO_no e, callB_len]
  have e2 : items S (.ref n) = some xs := by
    show (match S[n]? with | some (Ob.lst xs) => some xs | _ => none) = _
    rw [h]
  show Res.opt S ((items S (.ref n)).map fun xs => D.int (xs.length : Nat)) = _
  rw [e2]; rfl
@[simp] theorem boStr_int {G : Gen} {S : Sto} {i : Int} : callBO G "str" S [.int i] = Res.opt S (bStr [.int i]) := by rw [callBO_no rfl, callB_str]
theorem back_len {n : Nat} (hn : n < 1000000) : backOk (Str.ofString "len") (.int (n : Int)) = true := by
  unfold backOk
  have h1 : decide ((0 : Int) ≤ (n : Int)) = true := decide_eq_true (by omega)
  have h2 : decide ((n : Int).toNat < 9223372036854775808) = true := decide_eq_true (by omega)
  simp only [h1, h2, Bool.and_true, decide_true]
/-- an instance, by its class's own def -/
theorem boLen_own {G : Gen} {S S2 : Sto} {d : D} {cl : Str} {ns : List Str} {xs : List D} {f : FnI} {n : Nat} (h : insD S d = some (cl, ns, xs)) (hf : meOk G cl "__len__" = some f) (hl : f.lev + 2 ≤ G.lev) (e : runF f [d] S = .ok (.int (n : Int)) S2) (hn : n < 1000000) : callBO G "len" S [d] = .ok (.int (n : Int)) S2 := by
  unfold callBO
  have hs : spName "len" = some (Str.ofString "__len__") := by simp [spName]
  simp only [h, hs, hf, Option.elim, if_pos hl, e, bind_ok]
  rw [back_len hn]; rfl
theorem boStr_own {G : Gen} {S S2 : Sto} {d : D} {cl : Str} {ns : List Str} {xs : List D} {f : FnI} {z : Str} (h : insD S d = some (cl, ns, xs)) (hf : meOk G cl "__str__" = some f) (hl : f.lev + 2 ≤ G.lev) (e : runF f [d] S = .ok (.str z) S2) : callBO G "str" S [d] = .ok (.str z) S2 := by
  unfold callBO
  have hs : spName "str" = some (Str.ofString "__str__") := by simp [spName]
  simp only [h, hs, hf, Option.elim, if_pos hl, e, bind_ok]
  rw [show backOk (Str.ofString "str") (.str z) = true from by simp [backOk]]; rfl
theorem boolsOf_map {A : Type} (f : A → Bool) : ∀ l : List A, boolsOf (l.map fun a => .bl (f a)) = some (l.map f)
  | [] => rfl
  | a :: l => by
    show (boolsOf (l.map fun a => .bl (f a))).map (f a :: ·) = _
    rw [boolsOf_map f l]; rfl
theorem bAll_map {A : Type} {S : Sto} (f : A → Bool) (l : List A) : bAll S [.lst (l.map fun a => .bl (f a))] = some (.bl (l.all f)) := by
  show (boolsOf (l.map fun a => .bl (f a))).map (fun bs => D.bl (bs.all id)) = _
  rw [boolsOf_map f l]
  simp [List.all_map]
theorem intsOf_map {A : Type} (f : A → Int) : ∀ l : List A, intsOf (l.map fun a => .int (f a)) = some (l.map f)
  | [] => rfl
  | a :: l => by
    show (intsOf (l.map fun a => .int (f a))).map (f a :: ·) = _
    rw [intsOf_map f l]; rfl
theorem bSum_map {A : Type} {S : Sto} (f : A → Int) (l : List A) : bSum S [.lst (l.map fun a => .int (f a))] = some (.int (l.map f).sum) := by
  show (intsOf (l.map fun a => .int (f a))).map (fun bs => D.int bs.sum) = _
  rw [intsOf_map f l]; rfl
theorem strsOf_map {A : Type} (f : A → Str) : ∀ l : List A, strsOf (l.map fun a => .str (f a)) = some (l.map f)
  | [] => rfl
  | a :: l => by
    show (strsOf (l.map fun a => .str (f a))).map (f a :: ·) = _
    rw [strsOf_map f l]; rfl
@[simp] theorem itS_str {S : Sto} {z : Str} : itS S (.str z) = some ⟨z.cps.toList.map fun k => .str ⟨#[k]⟩, none, []⟩ := rfl
@[simp] theorem itS_tup {S : Sto} {xs : List D} : itS S (.tup xs) = some ⟨xs, none, []⟩ := rfl
@[simp] theorem itS_lst {S : Sto} {xs : List D} : itS S (.lst xs) = some ⟨xs, none, []⟩ := rfl
@[simp] theorem itS_scr {S : Sto} {xs : List D} : itS S (.scr xs) = some ⟨xs, none, []⟩ := rfl
@[simp] theorem compR_ok {S : Sto} {it : Itr} {body : D → Sto → Res (Option D)} : compR (.ok it S) body = loopC body it it.xs [] S := rfl
@[simp] theorem compDR_ok {S : Sto} {it : Itr} {body : D → Sto → Res (Option (Key × D))} : compDR (.ok it S) body = loopD body it it.xs ([], []) S := rfl
@[simp] theorem forR_ok {S : Sto} {v : Slots} {it : Itr} {t : Tg} {body : Slots → Sto → SRes} : forR v (.ok it S) t body = loopF (fun d v S => match t.put d v with
  | some v1 => body v1 S
  | none => .bad) it it.xs v S := rfl
/-- all(.. for ..) over typed things -/
theorem all_comp {A : Type} {S : Sto} {src : List D} {tg : Tg} {T : Option (Slots → Sto → Res Bool)} {E : Slots → Sto → Res D} {w : Slots} (enc : A → D) (f : A → Bool) (l : List A)
    (h : ∀ a ∈ l, turnR tg T E w (enc a) S = .ok (some (.bl (f a))) S) (hl : l.length ≤ sizeLine) (e : src = l.map enc) :
    bR bAll (consR (obR (lcR (compR (.ok ⟨src, none, []⟩ S) (turnR tg T E w)))) fun S => .ok [] S) = .ok (.bl (l.all f)) S := by
  subst e
  simp only [compR_ok]
  rw [loopC_map rfl enc (fun a => .bl (f a)) l h hl]
  simp only [lcR_ok, obR_lst, consR_ok, consR2_ok, bR_ok, bAll_map, opt_some]
@[simp] theorem put_one {i : Nat} {d : D} {v : Slots} : Tg.put (.one i) d v = if i < v.length then some (v.set i (some d)) else none := rfl
theorem turnR_none {i : Nat} {E : Slots → Sto → Res D} {w : Slots} {d y : D} {S : Sto} (hi : i < w.length) (h : E (w.set i (some d)) S = .ok y S) : turnR (.one i) none E w d S = .ok (some y) S := by
  unfold turnR hdR
  rw [put_one, if_pos hi]
  simp only [h]
end DV
namespace DV
open PySem L2 SX
section
variable {f : FnI} {args as : List D} {S S' : Sto} {d d' : D} {c : Str} {ci : ClI}
theorem makeR_rec (hl : (fill f (.non :: args)) = .non :: as) (hn : as.length + 1 = f.ps.length) (hr : ci.rec_ = true) (hc : cloL args = true) (h : f.run (.ref 0 :: as) [.ins c [] []] = .ok .non S') (hz : fz 8 S' (.ref 0) = some d') :
    makeR c ci f args S = .ok d' S := by
  unfold makeR
  rw [hl, if_pos (by simpa using hn), hr, hc]
  simp only [Bool.and_self, if_true, List.drop_succ_cons, List.drop_zero, h, hz]
theorem fill_self (h : args.length + 1 = f.ps.length) : fill f (.non :: args) = .non :: args := fill_full (by simpa using h)
theorem fz_obj {n : Nat} {c : Str} {ns : List Str} {xs : List D} {S : Sto} (h : S[0]? = some (.ins c ns xs)) (hc : cloL xs = true) : fz (n + 2) S (.ref 0) = some (.obj c ns xs) := by
  have hx : ∀ xs : List D, cloL xs = true → fz.fzL (fz (n + 1) S) xs = some xs := by
    intro xs
    induction xs with
    | nil => intro _; rfl
    | cons x xs ih =>
      intro hc
      have hc' := Bool.and_eq_true_iff.mp (show (x.clo && cloL xs) = true from hc)
      show (match fz (n + 1) S x, fz.fzL (fz (n + 1) S) xs with | some y, some ys => some (y :: ys) | _, _ => none) = _
      rw [fz_clo hc'.1, ih hc'.2]
  unfold fz
  rw [if_neg (by simp [D.clo])]
  simp only [h]
  rw [hx xs hc]
  rfl
end
@[simp] theorem getF_lst {S : Sto} {xs : List D} {i : Int} : getF S (.lst xs) (.int i) = (match atI xs i with | some d => some d | none => none) := by
  unfold getF
  show (match atI xs i with | some d => some d | none => _) = _
  cases h : atI xs i with
  | some d => rfl
  | none => rfl
@[simp] theorem getF_tup {S : Sto} {xs : List D} {i : Int} : getF S (.tup xs) (.int i) = (match atI xs i with | some d => some d | none => none) := by
  unfold getF
  show (match atI xs i with | some d => some d | none => _) = _
  cases h : atI xs i with
  | some d => rfl
  | none => rfl
theorem atI_nat {xs : List D} {i : Nat} (h : i < xs.length) : atI xs (i : Int) = some xs[i] := by
  unfold atI ixN
  rw [if_pos (by omega), if_pos (by omega)]
  simp [h]
@[simp] theorem sliceV_lst {S : Sto} {xs : List D} {l u : Option Int} : sliceV S (.lst xs) l u = some (.lst (cutD xs l u)) := rfl
@[simp] theorem sliceV_tup {S : Sto} {xs : List D} {l u : Option Int} : sliceV S (.tup xs) l u = some (.tup (cutD xs l u)) := rfl
theorem cutD_to {xs : List D} {k : Nat} : cutD xs none (some (k : Int)) = xs.take k := by
  unfold cutD
  rw [HT.sIx_none, HT.sIx_nat, List.drop_zero, Nat.sub_zero]
  by_cases h : k ≤ xs.length
  · rw [Nat.min_eq_left h]
  · rw [Nat.min_eq_right (by omega), List.take_of_length_le (Nat.le_refl _), List.take_of_length_le (by omega)]
theorem cutD_from {xs : List D} {k : Nat} : cutD xs (some (k : Int)) none = xs.drop k := by
  unfold cutD
  rw [HT.sIx_none, HT.sIx_nat]
  by_cases h : k ≤ xs.length
  · rw [Nat.min_eq_left h, List.take_of_length_le (by simp)]
  · rw [Nat.min_eq_right (by omega)]; simp; omega
end DV
namespace DV
open PySem L2 SX
section
variable {A : Type} {x y z w u t : A} {xs : List A}
theorem atI_ofNat {xs : List A} {k : Nat} : atI xs (k : Int) = xs[k]? := by
  unfold atI ixN
  rw [if_pos (by omega)]
  by_cases h : (k : Int) < xs.length
  · rw [if_pos h]; simp
  · rw [if_neg h]; simp; omega
@[simp] theorem at0 : atI (x :: xs) 0 = some x := atI_ofNat (k := 0)
@[simp] theorem at1 : atI (x :: y :: xs) 1 = some y := atI_ofNat (k := 1)
@[simp] theorem at2 : atI (x :: y :: z :: xs) 2 = some z := atI_ofNat (k := 2)
@[simp] theorem at3 : atI (x :: y :: z :: w :: xs) 3 = some w := atI_ofNat (k := 3)
@[simp] theorem at4 : atI (x :: y :: z :: w :: u :: xs) 4 = some u := atI_ofNat (k := 4)
@[simp] theorem at5 : atI (x :: y :: z :: w :: u :: t :: xs) 5 = some t := atI_ofNat (k := 5)
end
@[simp] theorem cutD_to2 {xs : List D} : cutD xs none (some 2) = xs.take 2 := cutD_to (k := 2)
@[simp] theorem cutD_from2 {xs : List D} : cutD xs (some 2) none = xs.drop 2 := cutD_from (k := 2)
@[simp] theorem cutD_from1 {xs : List D} : cutD xs (some 1) none = xs.drop 1 := cutD_from (k := 1)
@[simp] theorem setsR_ok {S : Sto} {v : Slots} {is : List Nat} {ds : List D} : setsR v is (.ok ds S) = (match setAll is ds v with
  | some v1 => .nx v1 S
  | none => .bad) := rfl
@[simp] theorem setsR1_ok {S : Sto} {v : Slots} {is : List Nat} {ds : List D} : setsR1 v is (.ok ds S) = if ds.length ≤ sizeLine then (match setAll is ds v with
  | some v1 => .nx v1 S
  | none => .bad) else .bad := rfl
@[simp] theorem setAll_nil {v : Slots} : setAll [] [] v = some v := rfl
@[simp] theorem setAll_cons {i : Nat} {is : List Nat} {d : D} {ds : List D} {v : Slots} : setAll (i :: is) (d :: ds) v = if i < v.length then setAll is ds (v.set i (some d)) else none := rfl
@[simp] theorem unpR_ok {S : Sto} {v : Slots} {t : Tg} {d : D} : unpR v t (.ok d S) = (match t.put d v with
  | some v1 => .nx v1 S
  | none => .bad) := rfl
@[simp] theorem put_many {is : List Nat} {xs : List D} {v : Slots} : Tg.put (.many is) (.tup xs) v = setAll is xs v := rfl
theorem small_le {n : Nat} (h : n ≤ 1000) : n ≤ sizeLine := by unfold sizeLine; omega
@[simp] theorem size2 : (2 : Nat) ≤ sizeLine := small_le (by decide)
@[simp] theorem size3 : (3 : Nat) ≤ sizeLine := small_le (by decide)
@[simp] theorem size4 : (4 : Nat) ≤ sizeLine := small_le (by decide)
@[simp] theorem size1 : (1 : Nat) ≤ sizeLine := small_le (by decide)
@[simp] theorem size5 : (5 : Nat) ≤ sizeLine := small_le (by decide)
@[simp] theorem size6 : (6 : Nat) ≤ sizeLine := small_le (by decide)
@[simp] theorem size7 : (7 : Nat) ≤ sizeLine := small_le (by decide)
@[simp] theorem size8 : (8 : Nat) ≤ sizeLine := small_le (by decide)
@[simp] theorem size9 : (9 : Nat) ≤ sizeLine := small_le (by decide)
@[simp] theorem size10 : (10 : Nat) ≤ sizeLine := small_le (by decide)
@[simp] theorem size11 : (11 : Nat) ≤ sizeLine := small_le (by decide)
@[simp] theorem size12 : (12 : Nat) ≤ sizeLine := small_le (by decide)
@[simp] theorem size13 : (13 : Nat) ≤ sizeLine := small_le (by decide)
@[simp] theorem size14 : (14 : Nat) ≤ sizeLine := small_le (by decide)
@[simp] theorem size15 : (15 : Nat) ≤ sizeLine := small_le (by decide)
@[simp] theorem size0 : (0 : Nat) ≤ sizeLine := small_le (by decide)
@[simp] theorem bMax_int {i j : Int} : bMax [.int i, .int j] = some (.int (if j > i then j else i)) := rfl
@[simp] theorem bMin_int {i j : Int} : bMin [.int i, .int j] = some (.int (if j < i then j else i)) := rfl
@[simp] theorem bAbs_int {i : Int} : bAbs [.int i] = some (.int (if i < 0 then -i else i)) := rfl
@[simp] theorem bInt_int {i : Int} : bInt [.int i] = some (.int i) := rfl
theorem divOk_small {j : Int} (h : 0 < j) (h2 : j < 1073741824) : divOk j = true := by
  unfold divOk
  simp only [Bool.and_eq_true, Bool.or_eq_true, decide_eq_true_eq]
  exact ⟨by omega, .inl (by omega)⟩
@[simp] theorem divOk2 : divOk 2 = true := divOk_small (by decide) (by decide)
/-- any number from 1 on that is not too great -/
theorem divOk_big {j : Int} (h : 0 < j) (h2 : j.natAbs.log2 < 9000) : divOk j = true := by
  unfold divOk
  simp only [Bool.and_eq_true, Bool.or_eq_true, decide_eq_true_eq]
  exact ⟨by omega, .inr ⟨h, h2⟩⟩
end DV
namespace DV
open PySem L2 SX
section
variable {cls : Str → Option ClI} {v : Slots} {f : Str} {d od : D} {S : Sto}
def atsR2 (cls : Str → Option ClI) (v : Slots) (f : Str) (d : D) (m : Res D) : SRes := m.st v fun od S2 => (match putA cls od f d S2 with
  | some S3 => .nx v S3
  | none => .bad)
@[simp] theorem atsR_ok {o : Sto → Res D} : atsR cls v f (.ok d S) o = atsR2 cls v f d (o S) := rfl
@[simp] theorem atsR2_ok : atsR2 cls v f d (.ok od S) = (match putA cls od f d S with
  | some S3 => .nx v S3
  | none => .bad) := rfl
end
end DV
namespace DV
open PySem L2 SX
section
variable {G : Gen} {m z : Str} {A : Sto → Res (List D)} {S : Sto} {ks : List Str} {xs : List D} {kk : List Key} {n : Nat}
@[simp] theorem strMeth_split : strMeth "split" = true := by decide +kernel
@[simp] theorem strMeth_join : strMeth "join" = true := by decide +kernel
@[simp] theorem lstMeth_append : lstMeth "append" = true := by decide +kernel
@[simp] theorem lstMeth_insert : lstMeth "insert" = true := by decide +kernel
@[simp] theorem atR_str : atR G m A (.str z) S = if strMeth m then (A S).bind fun ds S2 => Res.opt S2 (methB m S2 (.str z) ds) else .bad := rfl
@[simp] theorem atR_kd : atR G m A (.kd ks xs) S = if m = "get" then (A S).bind fun ds S2 => Res.opt S2 (methK m ks xs ds) else .bad := rfl
@[simp] theorem atR_dict : atR G m A (.dict kk xs) S = if m = "get" then (A S).bind fun ds S2 => Res.opt S2 (methD m kk xs ds) else .bad := rfl
theorem methB_split {y : Str} (h1 : (y.length == 0) = false) (h2 : z.length + 2 ≤ sizeLine) : methB "split" S (.str z) [.str y] = some (.lst ((Txt.split z y).map .str)) := by
  unfold methB
  simp only [if_pos, h1, true_and, h2]
theorem methB_join {ys : List Str} (h : (ys.map (·.length)).sum + ys.length * z.length ≤ 16777216) : methB "join" S (.str z) [.lst (ys.map .str)] = some (.str (Txt.join z ys)) := by
  unfold methB
  have e := strsOf_map (fun x : Str => x) ys
  simp only [List.map_id'] at e
  have e' : strsOf (List.map D.str ys) = some ys := e
  simp only [ofString_eq, show ("join" = "split") = False from by decide, if_false, if_true, items, e', h]
theorem methB_joinT {ys : List Str} (h : (ys.map (·.length)).sum + ys.length * z.length ≤ 16777216) : methB "join" S (.str z) [.tup (ys.map .str)] = some (.str (Txt.join z ys)) := by
  unfold methB
  have e := strsOf_map (fun x : Str => x) ys
  simp only [List.map_id'] at e
  have e' : strsOf (List.map D.str ys) = some ys := e
  simp only [ofString_eq, show ("join" = "split") = False from by decide, if_false, if_true, items, e', h]
end
end DV
end

section
set_option Elab.async false
set_option linter.all false
set_option maxRecDepth 100000
set_option autoImplicit false
/-! Tellings: their words, texts, bounds. -/
namespace DV
open PySem L2 SX
inductive Fm where
  | is_ (a : Nat) | from_ (a b : Nat) | least (a : Nat) | most (a : Nat) | near (a r : Nat) | under (k : Nat)
structure Ln where
  lo : Nat
  hi : Option Nat
  f : Fm
def Fm.ok : Fm → Prop
  | .is_ a => Big a
  | .from_ a b => Big a ∧ Big b ∧ a ≤ b
  | .least a => Big a
  | .most a => Big a
  | .near a r => Big a ∧ Big r ∧ 1 ≤ r ∧ a % r = 0
  | .under k => Big k ∧ 1 ≤ k
def Ln.ok (l : Ln) : Prop := Big l.lo ∧ (∀ h, l.hi = some h → Big h ∧ l.lo < h) ∧ l.f.ok
def Fm.ws : Fm → List Str
  | .is_ a => ["is", numS a]
  | .from_ a b => ["from", numS a, "to", numS b]
  | .least a => ["least", numS a]
  | .most a => ["most", numS a]
  | .near a r => ["near", numS a, "by", numS r]
  | .under k => ["under", numS k]
def hiS : Option Nat → Str
  | none => "open"
  | some h => numS h
def Ln.ws (l : Ln) : List Str := numS l.lo :: hiS l.hi :: l.f.ws
def Ln.text (l : Ln) : Str := Txt.join " " l.ws
def Fm.b1 : Fm → Int
  | .is_ a => a
  | .from_ a _ => a
  | .least a => a
  | .most _ => 0
  | .near a r => max 0 ((a : Int) - (r : Int).fdiv 2)
  | .under _ => 0
def Fm.b2 : Fm → Option Int
  | .is_ a => some a
  | .from_ _ b => some b
  | .least _ => none
  | .most a => some a
  | .near a r => some ((a : Int) + ((r : Int) + 1).fdiv 2 - 1)
  | .under k => some ((k : Int) - 1)
def optD : Option Int → D
  | none => .non
  | some i => .int i
def hiD : Option Nat → D
  | none => .str "open"
  | some h => .int h
def Ln.d (l : Ln) : D := .obj "Telling" ["low", "high", "least", "most"] [.int l.lo, hiD l.hi, .int l.f.b1, optD l.f.b2]
theorem num_no (n : Nat) {s : Nat} (h : s < 48 ∨ 57 < s) : s ∉ TL.tl (numS n) := by
  rw [numS_eq]; exact TL.numL_free h
theorem lit_tl (s : String) : TL.tl (Str.ofString s) = s.toList.map Char.toNat := TL.tl_ofString s
theorem lit_no {s : String} {c : Nat} (h : decide (c ∈ s.toList.map Char.toNat) = false) : c ∉ TL.tl (Str.ofString s) := by
  rw [lit_tl]; exact of_decide_eq_false h
theorem ws_no (l : Ln) {s : Nat} (h : s = 32 ∨ s = 10) : ∀ p ∈ l.ws, s ∉ TL.tl p := by
  have hn : ∀ n : Nat, s ∉ TL.tl (numS n) := fun n => num_no n (by omega)
  have hh : s ∉ TL.tl (hiS l.hi) := by
    cases l.hi with
    | none => rcases h with rfl | rfl <;> exact lit_no (by decide)
    | some k => exact hn k
  intro p hp
  have hp' : p = numS l.lo ∨ p = hiS l.hi ∨ p ∈ l.f.ws := by simpa [Ln.ws] using hp
  rcases hp' with rfl | rfl | hp
  · exact hn _
  · exact hh
  · cases hf : l.f <;> rw [hf] at hp <;> simp only [Fm.ws, List.mem_cons, List.mem_nil_iff, or_false] at hp
    all_goals
      rcases hp with rfl | hp
      · rcases h with rfl | rfl <;> exact lit_no (by decide)
    all_goals
      first
        | (subst hp; exact hn _)
        | (rcases hp with rfl | rfl | rfl
           · exact hn _
           · rcases h with rfl | rfl <;> exact lit_no (by decide)
           · exact hn _)
theorem text_split (l : Ln) : Txt.split l.text " " = l.ws :=
  have e : TL.tl (" " : Str) = [32] := by rw [lit_tl]; decide
  TL.split_join e (by rw [← Array.all_toList]; show (TL.tl (" " : Str)).all _ = true; rw [e]; rfl) (by simp [Ln.ws]) (ws_no l (.inl rfl))
theorem text_tl (l : Ln) : TL.tl l.text = TL.joinL [32] (l.ws.map TL.tl) := by
  unfold Ln.text
  rw [TL.join_eq, TL.tl_join, lit_tl]
  rfl
theorem joinL_no {s : Nat} {c : Nat} (hs : s ≠ c) : ∀ {ps : List (List Nat)}, (∀ p ∈ ps, s ∉ p) → s ∉ TL.joinL [c] ps
  | [], _ => by simp [TL.joinL]
  | [p], h => by simpa [TL.joinL] using h p (List.mem_singleton.mpr rfl)
  | p :: q :: r, h => by
    have h1 := h p List.mem_cons_self
    have h2 := joinL_no hs (ps := q :: r) fun z hz => h z (List.mem_cons_of_mem _ hz)
    show s ∉ p ++ ([c] ++ TL.joinL [c] (q :: r))
    simp only [List.mem_append, List.mem_singleton, not_or]
    exact ⟨h1, hs, h2⟩
theorem text_nl (l : Ln) : 10 ∉ TL.tl l.text := by
  rw [text_tl]
  refine joinL_no (by decide) fun p hp => ?_
  obtain ⟨z, hz, rfl⟩ := List.mem_map.mp hp
  exact ws_no l (.inr rfl) z hz
theorem joinL_len {c k : Nat} : ∀ {ps : List (List Nat)}, (∀ p ∈ ps, p.length ≤ k) → (TL.joinL [c] ps).length ≤ ps.length * (k + 1)
  | [], _ => by simp [TL.joinL]
  | [p], h => by
    have := h p (List.mem_singleton.mpr rfl)
    show p.length ≤ 1 * (k + 1)
    omega
  | p :: q :: r, h => by
    have h1 := h p List.mem_cons_self
    have h2 := joinL_len (c := c) (ps := q :: r) fun z hz => h z (List.mem_cons_of_mem _ hz)
    show (p ++ ([c] ++ TL.joinL [c] (q :: r))).length ≤ _
    simp only [List.length_append, List.length_cons, List.length_nil] at h2 ⊢
    rw [Nat.succ_mul]
    omega
theorem ws_len {l : Ln} (h : l.ok) : ∀ p ∈ l.ws, (TL.tl p).length ≤ 200 := by
  obtain ⟨h1, h2, h3⟩ := h
  have hn : ∀ n : Nat, Big n → (TL.tl (numS n)).length ≤ 200 := fun n b => by rw [← TL.len_tl]; exact numS_len b
  have hl : ∀ s : String, s.toList.length ≤ 200 → (TL.tl (Str.ofString s)).length ≤ 200 := fun s q => by rw [lit_tl]; simpa using q
  intro p hp
  have hp' : p = numS l.lo ∨ p = hiS l.hi ∨ p ∈ l.f.ws := by simpa [Ln.ws] using hp
  rcases hp' with rfl | rfl | hp
  · exact hn _ h1
  · cases hh : l.hi with
    | none => exact hl _ (by decide)
    | some k => exact hn k (h2 k hh).1
  · cases hf : l.f <;> rw [hf] at hp h3 <;> simp only [Fm.ws, List.mem_cons, List.mem_nil_iff, or_false] at hp
    · rcases hp with rfl | rfl
      · exact hl _ (by decide)
      · exact hn _ h3
    · rcases hp with rfl | rfl | rfl | rfl
      · exact hl _ (by decide)
      · exact hn _ h3.1
      · exact hl _ (by decide)
      · exact hn _ h3.2.1
    · rcases hp with rfl | rfl
      · exact hl _ (by decide)
      · exact hn _ h3
    · rcases hp with rfl | rfl
      · exact hl _ (by decide)
      · exact hn _ h3
    · rcases hp with rfl | rfl | rfl | rfl
      · exact hl _ (by decide)
      · exact hn _ h3.1
      · exact hl _ (by decide)
      · exact hn _ h3.2.1
    · rcases hp with rfl | rfl
      · exact hl _ (by decide)
      · exact hn _ h3.1
theorem ws_card (l : Ln) : 4 ≤ l.ws.length ∧ l.ws.length ≤ 6 := by
  unfold Ln.ws
  cases l.f <;> simp [Fm.ws]
theorem text_len {l : Ln} (h : l.ok) : l.text.length ≤ 1300 := by
  rw [TL.len_tl, text_tl]
  have := joinL_len (c := 32) (k := 200) (ps := l.ws.map TL.tl) fun p hp => by
    obtain ⟨z, hz, rfl⟩ := List.mem_map.mp hp
    exact ws_len h z hz
  have c := (ws_card l).2
  rw [List.length_map] at this
  have : l.ws.length * (200 + 1) ≤ 6 * 201 := Nat.mul_le_mul_right _ c
  omega
theorem numS_lit {n : Nat} {s : String} (h : s.toList.all (fun c => decide (c.toNat < 48 ∨ 57 < c.toNat)) = true) : numS n ≠ Str.ofString s := by
  intro e
  have e2 : TL.tl (numS n) = TL.tl (Str.ofString s) := by rw [e]
  rw [numS_eq, lit_tl] at e2
  have e3 : TL.numL n = s.toList.map Char.toNat := e2
  cases hs : s.toList with
  | nil => rw [hs] at e3; exact TL.numL_ne n e3
  | cons c r =>
    rw [hs] at e3 h
    have hc : c.toNat ∈ TL.numL n := by rw [e3]; simp
    have := TL.numL_digits n _ hc
    simp only [List.all_cons, Bool.and_eq_true, decide_eq_true_eq] at h
    omega
@[simp] theorem numS_open (n : Nat) : (numS n = Str.ofString "open") = False := eq_false (numS_lit (by decide))
theorem b1_near (a r : Nat) : (if ((a : Int) - (r : Int).fdiv 2) > 0 then ((a : Int) - (r : Int).fdiv 2) else 0) = max 0 ((a : Int) - (r : Int).fdiv 2) := by
  split <;> omega
end DV
namespace DV
open PySem L2 SX
theorem enuR_map {A : Type} {S : Sto} (g : A → D) (l : List A) : enuR (.ok [.tup (l.map g)] S) = .ok ⟨l.zipIdx.map fun p => .tup [.int (p.2 : Nat), g p.1], none, []⟩ S := by
  show Res.opt S ((itS S (.tup (l.map g))).map fun t => (⟨t.xs.mapIdx fun k y => .tup [.int (k : Nat), y], t.src, t.snap⟩ : Itr)) = _
  simp only [itS_tup, Option.map_some, opt_some]
  congr 2
  rw [List.mapIdx_eq_zipIdx_map]
  simp [List.zipIdx_map]
theorem enuR_mapL {A : Type} {S : Sto} (g : A → D) (l : List A) : enuR (.ok [.lst (l.map g)] S) = .ok ⟨l.zipIdx.map fun p => .tup [.int (p.2 : Nat), g p.1], none, []⟩ S := by
  show Res.opt S ((itS S (.lst (l.map g))).map fun t => (⟨t.xs.mapIdx fun k y => .tup [.int (k : Nat), y], t.src, t.snap⟩ : Itr)) = _
  simp only [itS_lst, Option.map_some, opt_some]
  congr 2
  rw [List.mapIdx_eq_zipIdx_map]
  simp [List.zipIdx_map]
theorem cloL_map {A : Type} (g : A → D) (h : ∀ a, (g a).clo = true) : ∀ l : List A, cloL (l.map g) = true
  | [] => rfl
  | a :: l => by
    show ((g a).clo && cloL (l.map g)) = true
    rw [h a, cloL_map g h l]; rfl
theorem Ln.clo (l : Ln) : l.d.clo = true := by unfold Ln.d; cases l.hi <;> cases l.f <;> rfl
theorem cloL_cons {d : D} {ds : List D} : cloL (d :: ds) = (d.clo && cloL ds) := rfl
def linesD (ls : List Ln) : D := .tup (ls.map fun l => .str l.text)
def toldD (ls : List Ln) : D := .tup (ls.map Ln.d)
def tableD (ls : List Ln) : D := .obj "Table" ["shape", "told"] [linesD ls, toldD ls]
theorem linesD_clo (ls : List Ln) : (linesD ls).clo = true := cloL_map _ (fun _ => rfl) ls
theorem toldD_clo (ls : List Ln) : (toldD ls).clo = true := cloL_map _ Ln.clo ls
theorem tableD_clo (ls : List Ln) : (tableD ls).clo = true := by
  show ((linesD ls).clo && ((toldD ls).clo && true)) = true
  rw [linesD_clo, toldD_clo]; rfl
structure LsOk (ls : List Ln) : Prop where
  ok : ∀ l ∈ ls, l.ok
  ne : ls ≠ []
  le : ls.length ≤ 12
def textOf (ls : List Ln) : Str := Txt.join "\n" (ls.map Ln.text)
theorem textOf_split {ls : List Ln} (h : LsOk ls) : Txt.split (textOf ls) "\n" = ls.map Ln.text :=
  have e : TL.tl ("\n" : Str) = [10] := by rw [lit_tl]; decide
  TL.split_join e (by rw [← Array.all_toList]; show (TL.tl ("\n" : Str)).all _ = true; rw [e]; rfl) (by simpa using h.ne) (by
    intro p hp
    obtain ⟨l, _, rfl⟩ := List.mem_map.mp hp
    exact text_nl l)
theorem textOf_len {ls : List Ln} (h : LsOk ls) : (textOf ls).length ≤ 20000 := by
  rw [TL.len_tl]
  unfold textOf
  rw [TL.join_eq, TL.tl_join, lit_tl]
  have := joinL_len (c := 10) (k := 1300) (ps := (ls.map Ln.text).map TL.tl) fun p hp => by
    obtain ⟨z, hz, rfl⟩ := List.mem_map.mp hp
    obtain ⟨l, hl, rfl⟩ := List.mem_map.mp hz
    rw [← TL.len_tl]
    exact text_len (h.ok l hl)
  simp only [List.length_map] at this
  have h2 := h.le
  have e : ("\n" : String).toList.map Char.toNat = [10] := by decide
  rw [e]
  have : ls.length * (1300 + 1) ≤ 12 * 1301 := Nat.mul_le_mul_right _ h2
  omega
end DV
end

section
set_option Elab.async false
set_option linter.all false
set_option maxRecDepth 100000
set_option autoImplicit false
set_option exponentiation.threshold 9000
/-! Sizes of numbers; Euclid; plain things. -/
namespace DV
open PySem L2 SX
abbrev Mid (i : Int) : Prop := i.natAbs < 2 ^ 4000
theorem log2_mid {n : Nat} (h : n < 2 ^ 4000) : n.log2 < 4000 := log2_lt h (by decide)
theorem mulOk_mid {i j : Int} (h : Mid i) (h2 : Mid j) : mulOk i j = true := by
  unfold mulOk
  rw [decide_eq_true_eq]
  have := log2_mid h
  have := log2_mid h2
  omega
theorem divOk_mid {j : Int} (h : 0 < j) (h2 : Mid j) : divOk j = true := divOk_big h (by have := log2_mid h2; omega)
theorem mid_small {i : Int} (h : i.natAbs < 2 ^ 60) : Mid i := Nat.lt_trans h (Nat.pow_lt_pow_right (by decide) (by decide))
/-! Euclid's turns -/
def eStep (p : Nat × Nat) : Nat × Nat := (p.2, p.1 % p.2)
def eM (p : Nat × Nat) : Nat := if p.2 = 0 then 0 else if p.1 = 0 then 1 else (p.1 * p.2).log2 + (if p.1 < p.2 then 2 else 1)
theorem eM_step {p : Nat × Nat} (h : 0 < p.2) : eM (eStep p) < eM p := by
  obtain ⟨a, b⟩ := p
  have h : 0 < b := h
  have hb : b ≠ 0 := by omega
  have m1 : ∀ x : Nat, 0 < x + (if a < b then 2 else 1) := fun x => by split <;> omega
  unfold eM eStep
  dsimp only
  simp only [if_neg hb]
  by_cases ha : a = 0
  · subst ha
    simp
  rw [if_neg ha]
  by_cases hr : a % b = 0
  · rw [if_pos hr]
    exact m1 (a * b).log2
  rw [if_neg hr]
  by_cases hl : a < b
  · rw [if_pos hl, Nat.mod_eq_of_lt hl, if_neg (by omega), Nat.mul_comm]
    omega
  · have h3 : a % b < b := Nat.mod_lt _ h
    rw [if_neg hl, if_neg (by omega)]
    have h4 : a = b * (a / b) + a % b := (Nat.div_add_mod a b).symm
    have h5 : 1 ≤ a / b := (Nat.one_le_div_iff h).mpr (by omega)
    have h6 : b ≤ b * (a / b) := Nat.le_mul_of_pos_right b h5
    have h7 : 2 * (a % b) ≤ a := by omega
    have h8 : 2 * (b * (a % b)) ≤ a * b := by
      have := Nat.mul_le_mul_left b h7
      rw [Nat.mul_comm a b]
      calc 2 * (b * (a % b)) = b * (2 * (a % b)) := by rw [Nat.mul_left_comm]
        _ ≤ b * a := this
    have hp : 0 < b * (a % b) := Nat.mul_pos h (by omega)
    have hlt : (b * (a % b)).log2 < (a * b).log2 := by
      have h9 : (b * (a % b)).log2 + 1 ≤ (a * b).log2 := by
        rw [Nat.le_log2 (by omega), Nat.pow_succ]
        have := Nat.log2_self_le (n := b * (a % b)) (by omega)
        omega
      omega
    omega
theorem eM_lt {a b : Nat} (h1 : a < 2 ^ 4000) (h2 : b < 2 ^ 4000) : eM (a, b) < 10000 := by
  unfold eM
  dsimp only
  split
  · omega
  · split
    · omega
    · have : (a * b).log2 < 8000 := log2_lt (by
        have := Nat.mul_lt_mul'' h1 h2
        rwa [← Nat.pow_add] at this) (by decide)
      split <;> omega
theorem eStep_gcd (p : Nat × Nat) : Nat.gcd (eStep p).1 (eStep p).2 = Nat.gcd p.1 p.2 := by
  unfold eStep
  dsimp only
  rw [Nat.gcd_comm p.1 p.2, Nat.gcd_rec p.2 p.1, Nat.gcd_comm]
theorem emod_nat (a b : Nat) : (a : Int).fmod (b : Int) = ((a % b : Nat) : Int) := by
  rw [Int.fmod_eq_emod_of_nonneg _ (by omega)]; omega
theorem eq_pair {S : Sto} {a b c d : Int} : cmpF .Eq S (.tup [.int a, .int b]) (.tup [.int c, .int d]) = some (decide (a = c) && decide (b = d)) := by
  refine cmpF_of ?_
  show deq (.tup [.int a, .int b]) (.tup [.int c, .int d]) = _
  have e : deq (.tup [.int a, .int b]) (.tup [.int c, .int d]) = some (PyData.eqv (.tuple [.int a, .int b]) (.tuple [.int c, .int d])) := rfl
  rw [e]
  simp only [PyData.eqv, PyData.eqvAll, Bool.and_true]
  rfl
end DV
namespace DV
open PySem L2 SX
/-! plain things -/
mutual
def plain : D → Bool
  | .non => true
  | .bl _ => true
  | .int _ => true
  | .str _ => true
  | .tup xs => plainL xs
  | .lst xs => plainL xs
  | _ => false
def plainL : List D → Bool
  | [] => true
  | x :: xs => plain x && plainL xs
end
mutual
theorem plain_clo : ∀ {d : D}, plain d = true → d.clo = true
  | .non, _ => rfl
  | .bl _, _ => rfl
  | .int _, _ => rfl
  | .str _, _ => rfl
  | .tup xs, h => plainL_clo (xs := xs) h
  | .lst xs, h => plainL_clo (xs := xs) h
theorem plainL_clo : ∀ {xs : List D}, plainL xs = true → cloL xs = true
  | [], _ => rfl
  | x :: xs, h => by
    have h' := Bool.and_eq_true_iff.mp (show (plain x && plainL xs) = true from h)
    show (x.clo && cloL xs) = true
    rw [plain_clo h'.1, plainL_clo h'.2]; rfl
end
theorem plainL_mem {xs : List D} (h : plainL xs = true) : ∀ x ∈ xs, plain x = true := by
  induction xs with
  | nil => intro x hx; cases hx
  | cons y ys ih =>
    have h' := Bool.and_eq_true_iff.mp (show (plain y && plainL ys) = true from h)
    intro x hx
    rcases List.mem_cons.mp hx with rfl | hx
    · exact h'.1
    · exact ih h'.2 x hx
theorem plainL_of {xs : List D} (h : ∀ x ∈ xs, plain x = true) : plainL xs = true := by
  induction xs with
  | nil => rfl
  | cons y ys ih =>
    show (plain y && plainL ys) = true
    rw [h y List.mem_cons_self, ih fun x hx => h x (List.mem_cons_of_mem _ hx)]; rfl
/-- the ints within are not too great -/
def intsMid : List D → Prop := fun xs => ∀ i, .int i ∈ xs → Mid i
/-- a triple of a fraction in lowest terms and a number -/
def tripI (a b c : Int) : Bool := decide (0 ≤ a) && decide (1 ≤ b) && decide (1 ≤ c) && decide (Int.gcd a b = 1)
def tripB : D → Bool
  | .tup [.int a, .int b, .int c] => tripI a b c
  | _ => false
def partMid (p : D) : Prop := ∀ a b c, p = .tup [.int a, .int b, .int c] → Mid a ∧ Mid b
def trD (t : Int × Int × Int) : D := .tup [.int t.1, .int t.2.1, .int t.2.2]
theorem tripB_of {p : D} (h : tripB p = true) : ∃ t, p = trD t ∧ 0 ≤ t.1 ∧ 1 ≤ t.2.1 ∧ 1 ≤ t.2.2 ∧ Int.gcd t.1 t.2.1 = 1 := by
  unfold tripB at h
  split at h
  · rename_i a b c
    simp only [tripI, Bool.and_eq_true, decide_eq_true_eq] at h
    exact ⟨(a, b, c), rfl, h.1.1.1, h.1.1.2, h.1.2, h.2⟩
  · cases h
/-- each less than the next -/
def chainB : List (Int × Int × Int) → Bool
  | a :: b :: r => decide (a.1 * b.2.1 < b.1 * a.2.1) && chainB (b :: r)
  | _ => true
def untr : D → Int × Int × Int
  | .tup [.int a, .int b, .int c] => (a, b, c)
  | _ => (0, 0, 0)
def dataL (ps : List D) : Bool := ps.all tripB && chainB (ps.map untr)
def dataB : D → Bool
  | .tup ps => dataL ps
  | _ => false
theorem all_trips {ps : List D} (h : ps.all tripB = true) : ps = (ps.map untr).map trD ∧ ∀ t ∈ ps.map untr, 0 ≤ t.1 ∧ 1 ≤ t.2.1 ∧ 1 ≤ t.2.2 ∧ Int.gcd t.1 t.2.1 = 1 := by
  induction ps with
  | nil => exact ⟨rfl, fun t ht => by cases ht⟩
  | cons p ps ih =>
    simp only [List.all_cons, Bool.and_eq_true] at h
    obtain ⟨t, rfl, h1⟩ := tripB_of h.1
    obtain ⟨h2, h3⟩ := ih h.2
    refine ⟨?_, fun u hu => ?_⟩
    · rw [List.map_cons, List.map_cons, ← h2]; rfl
    · rcases List.mem_cons.mp hu with rfl | hu
      · exact h1
      · exact h3 u hu
theorem chain_zip : ∀ l : List (Int × Int × Int), chainB l = (l.zip l.tail).all fun p => decide (p.1.1 * p.2.2.1 < p.2.1 * p.1.2.1)
  | [] => rfl
  | [_] => rfl
  | a :: b :: r => by
    show (decide (a.1 * b.2.1 < b.1 * a.2.1) && chainB (b :: r)) = _
    rw [chain_zip (b :: r)]
    rfl
end DV
namespace DV
open PySem L2 SX
theorem plain_knd {d : D} (h : plain d = true) : (match d with | .non => true | .bl _ => true | .int _ => true | .str _ => true | .tup _ => true | .lst _ => true | .dict _ _ => true | _ => false) = true := by
  cases d <;> first | rfl | cases h
theorem atI0 {x : D} {xs : List D} : atI (x :: xs) 0 = some x := at0
theorem gcd_one_iff {a b : Int} (hb : 1 ≤ b) : (a.fdiv (Int.gcd a b) = a ∧ b.fdiv (Int.gcd a b) = b) ↔ Int.gcd a b = 1 := by
  have hpos : 0 < Int.gcd a b := Nat.gcd_pos_of_pos_right _ (by omega)
  constructor
  · rintro ⟨_, h⟩
    have hd : ((Int.gcd a b : Nat) : Int) ∣ b := Int.gcd_dvd_right ..
    rw [Int.fdiv_eq_ediv_of_nonneg _ (by omega)] at h
    have h3 := Int.mul_ediv_cancel' hd
    rw [h] at h3
    have h4 : ((Int.gcd a b : Nat) : Int) * b = 1 * b := by rw [h3, Int.one_mul]
    have := Int.eq_of_mul_eq_mul_right (by omega) h4
    omega
  · intro h
    rw [h]
    simp
end DV
namespace DV
open PySem L2 SX
abbrev Tri := Int × Int × Int
def triMid (t : Tri) : Prop := Mid t.1 ∧ Mid t.2.1
@[simp] theorem zipR_tup {S : Sto} {xs ys : List D} : zipR (.ok [.tup xs, .tup ys] S) = .ok ⟨(xs.zip ys).map fun p => .tup [p.1, p.2], none, []⟩ S := rfl
theorem trD_clo (t : Tri) : (trD t).clo = true := rfl
/-- in a stretch -/
def liesB (t : Tri) (lo : Nat) (hi : Option Nat) : Bool := decide (lo * t.2.1 ≤ t.1) && (match hi with
  | none => true
  | some h => decide (t.1 < h * t.2.1))
def cntI (ts : List Tri) (lo : Nat) (hi : Option Nat) : Int := ((ts.filter fun t => liesB t lo hi).map (·.2.2)).sum
def b2Ok (o : Option Int) (c : Int) : Bool := match o with
  | none => true
  | some m => decide (c ≤ m)
def fitsL (ls : List Ln) (ts : List Tri) : Bool := ls.all fun l => decide (l.f.b1 ≤ cntI ts l.lo l.hi) && b2Ok l.f.b2 (cntI ts l.lo l.hi)
theorem mid_big {n : Nat} (h : Big n) : Mid (n : Int) := by
  show (n : Int).natAbs < 2 ^ 4000
  rw [Int.natAbs_natCast]
  exact Nat.lt_trans h (by decide +kernel)
@[simp] theorem hiD_open {S : Sto} {hi : Option Nat} : cmpF .Eq S (hiD hi) (.str "open") = some (hi.isNone) := by cases hi <;> rfl
@[simp] theorem put_manyD {is : List Nat} {xs : List D} {v : Slots} : Tg.put (.many is) (.tup xs) v = setAll is xs v := rfl
theorem turnR_put {tg : Tg} {E : Slots → Sto → Res D} {w w' : Slots} {d y : D} {S : Sto} (hp : tg.put d w = some w') (h : E w' S = .ok y S) : turnR tg none E w d S = .ok (some y) S := by
  unfold turnR hdR
  rw [hp]
  simp only [h]
theorem turnR_test {tg : Tg} {T : Slots → Sto → Res Bool} {E : Slots → Sto → Res D} {w w' : Slots} {d y : D} {b : Bool} {S : Sto} (hp : tg.put d w = some w') (ht : T w' S = .ok b S) (h : b = true → E w' S = .ok y S) : turnR tg (some T) E w d S = .ok (if b then some y else none) S := by
  unfold turnR hdR
  rw [hp]
  simp only [ht]
  cases b with
  | false => rfl
  | true => simp only [h rfl]; rfl
end DV
namespace DV
open PySem L2 SX
@[simp] theorem attrV_obj {cls : Str → Option ClI} {S : Sto} {f c : Str} {ns : List Str} {xs : List D} : attrV cls S f (.obj c ns xs) = (match cls c with
  | some ci => if ci.flds.contains f then (flook ns xs f).map .inl else none
  | none => none) := rfl
@[simp] theorem flook_cons {k j : Str} {ks : List Str} {x : D} {xs : List D} : flook (k :: ks) (x :: xs) j = if k = j then some x else flook ks xs j := rfl
@[simp] theorem flook_nil {j : Str} : flook [] [] j = none := rfl
theorem fits_cons {l : Ln} {ls : List Ln} {ts : List Tri} : fitsL (l :: ls) ts = (fitsL [l] ts && fitsL ls ts) := by simp [fitsL]
theorem fits_append {ls ms : List Ln} {ts : List Tri} : fitsL (ls ++ ms) ts = (fitsL ls ts && fitsL ms ts) := by simp [fitsL]
end DV
namespace DV
open PySem L2 SX
@[simp] theorem getF_kd {S : Sto} {ks : List Str} {xs : List D} {z : Str} : getF S (.kd ks xs) (.str z) = flook ks xs z := rfl
@[simp] theorem vR_ok {G : Gen} {S : Sto} {x : Str} {A : Sto → Res (List D)} : vR G (.ok (.fn x) S) A = (fnOk G x).elim .bad fun f => (A S).bind fun ds S2 => runF f ds S2 := rfl
@[simp] theorem isT_table {S : Sto} {ls : List Ln} : cmpF .Is S (tableD ls) .non = some false := rfl
@[simp] theorem isnT_table {S : Sto} {ls : List Ln} : cmpF .IsNot S (tableD ls) .non = some true := rfl
end DV
end

section
set_option Elab.async false
set_option linter.all false
set_option maxRecDepth 100000
set_option autoImplicit false
set_option exponentiation.threshold 9000
/-! Where draws come from. -/
namespace DV
open PySem L2 SX
section
variable {S S1 S2 : Sto} {w n m k : Nat} {xs : List D} {i : Int} {d : D} {o : Ob}
theorem items_ref (h : S[n]? = some (.lst xs)) : items S (.ref n) = some xs := by
  show (match S[n]? with | some (Ob.lst xs) => some xs | _ => none) = _
  rw [h]
theorem dictD_ref (h : S[n]? = some (.lst xs)) : dictD S (.ref n) = none := by
  show (match S[n]? with | some (Ob.dict ks xs) => some (ks, xs) | _ => none) = _
  rw [h]
theorem getF_ref (h : S[n]? = some (.lst xs)) : getF S (.ref n) (.int i) = atI xs i := by
  have e : getV S (.ref n) (.int i) = atI xs i := by
    show (match items S (.ref n) with | some xs => atI xs i | none => none) = _
    rw [items_ref h]
  unfold getF
  rw [e]
  cases atI xs i with
  | some d => rfl
  | none =>
    show (match dictD S (.ref n), toKey (.int i) with | some p, some k => dlook p.1 p.2 k | _, _ => none) = _
    rw [dictD_ref h]
theorem putV_ref (h : S[n]? = some (.lst xs)) (hk : ixN xs.length i = some k) : putV (.ref n) (.int i) d S = some (S.set n (.lst (xs.set k d))) := by
  unfold putV
  simp only [h, hk, Option.map_some]
/-- what stood elsewhere stands -/
structure Fr (w : Nat) (S S' : Sto) : Prop where
  len : S.length ≤ S'.length
  at_ : ∀ i, i ≠ w → i < S.length → S'[i]? = S[i]?
theorem Fr.refl (w : Nat) (S : Sto) : Fr w S S := ⟨Nat.le_refl _, fun _ _ _ => rfl⟩
theorem Fr.trans (a : Fr w S S1) (b : Fr w S1 S2) : Fr w S S2 := ⟨Nat.le_trans a.len b.len, fun i h l => (b.at_ i h (Nat.lt_of_lt_of_le l a.len)).trans (a.at_ i h l)⟩
theorem Fr.set (w : Nat) (S : Sto) (o : Ob) : Fr w S (S.set w o) := ⟨by simp, fun i h _ => List.getElem?_set_ne (Ne.symm h)⟩
theorem Fr.push (w : Nat) (S : Sto) (o : Ob) : Fr w S (S ++ [o]) := ⟨by simp, fun i _ l => List.getElem?_append_left l⟩
/-- an object beyond what stood is changed -/
theorem Fr.set_new (a : Fr w S S1) (h : S.length ≤ k) : Fr w S (S1.set k o) := ⟨by simp [a.len], fun i hi l => by rw [List.getElem?_set_ne (by omega)]; exact a.at_ i hi l⟩
theorem Fr.get (a : Fr w S S1) (h : k ≠ w) (e : S[k]? = some o) : S1[k]? = some o := by
  rw [a.at_ k h (List.getElem?_eq_some_iff.mp e).1]; exact e
/-- the well, with so many draws left -/
def Wl (n : Nat) (S : Sto) (w : Nat) : Prop := ∃ a b c : Int, S[w]? = some (.lst [.int a, .int b, .int c]) ∧ 0 ≤ a ∧ a < 2147483648 ∧ 0 ≤ b ∧ b + n ≤ 1099511627776 ∧ 0 ≤ c
theorem Wl.mono (h : Wl m S w) (l : n ≤ m) : Wl n S w := by
  obtain ⟨a, b, c, h1, h2, h3, h4, h5, h6⟩ := h
  exact ⟨a, b, c, h1, h2, h3, h4, by omega, h6⟩
theorem Wl.lt (h : Wl n S w) : w < S.length := by
  obtain ⟨_, _, _, h1, _⟩ := h
  exact (List.getElem?_eq_some_iff.mp h1).1
theorem Wl.push (h : Wl n S w) (o : Ob) : Wl n (S ++ [o]) w := by
  have l := h.lt
  obtain ⟨a, b, c, h1, h2⟩ := h
  exact ⟨a, b, c, by rw [List.getElem?_append_left l]; exact h1, h2⟩
theorem Wl.set_ne (h : Wl n S w) (hk : k ≠ w) : Wl n (S.set k o) w := by
  obtain ⟨a, b, c, h1, h2⟩ := h
  exact ⟨a, b, c, by rw [List.getElem?_set_ne hk]; exact h1, h2⟩
@[simp] theorem bDivmod_int {i j : Int} : bDivmod [.int i, .int j] = if 0 < j ∧ j < 1073741824 then some (.tup [.int (i / j), .int (i % j)]) else none := rfl
def ixsR2 (v : Slots) (d : D) (o : Res D) (i : Sto → Res D) : SRes := o.st v fun od S2 => (i S2).st v fun id S3 => (match putV od id d S3 with
  | some S4 => .nx v S4
  | none => .bad)
@[simp] theorem ixsR_ok {v : Slots} {o i : Sto → Res D} : ixsR v (.ok d S) o i = ixsR2 v d (o S) i := rfl
def ixsR3 (v : Slots) (d od : D) (i : Res D) : SRes := i.st v fun id S3 => (match putV od id d S3 with
  | some S4 => .nx v S4
  | none => .bad)
@[simp] theorem ixsR2_ok {v : Slots} {od : D} {i : Sto → Res D} : ixsR2 v d (.ok od S) i = ixsR3 v d od (i S) := rfl
@[simp] theorem ixsR3_ok {v : Slots} {od id : D} : ixsR3 v d od (.ok id S) = (match putV od id d S with
  | some S4 => .nx v S4
  | none => .bad) := rfl
def putO (v : Slots) (j : Nat) (d2 : D) : Option Sto → SRes
  | some S4 => if j < v.length then .nx (v.set j (some d2)) S4 else .bad
  | none => .bad
@[simp] theorem putR_tup {v : Slots} {d1 d2 od id : D} {o i : Sto → Res D} {j : Nat} (ho : o S = .ok od S) (hi : i S = .ok id S) : putR v (.ok (.tup [d1, d2]) S) o i j = putO v j d2 (putV od id d1 S) := by
  unfold putR
  simp only [st_ok, ho, hi]
  cases putV od id d1 S <;> rfl
@[simp] theorem putO_some {v : Slots} {j : Nat} {d2 : D} : putO v j d2 (some S) = if j < v.length then .nx (v.set j (some d2)) S else .bad := rfl
theorem mulOk_small {i j : Int} (h : i.natAbs < 2 ^ 64) (h2 : j.natAbs < 2 ^ 64) : mulOk i j = true := mulOk_mid (Nat.lt_of_lt_of_le h (Nat.pow_le_pow_right (by decide) (by decide))) (Nat.lt_of_lt_of_le h2 (Nat.pow_le_pow_right (by decide) (by decide)))
theorem fmod_pos {i j : Int} (h : 0 < j) : 0 ≤ i.fmod j ∧ i.fmod j < j := ⟨Int.fmod_nonneg_of_pos _ h, Int.fmod_lt_of_pos _ h⟩
end
end DV
namespace DV
open PySem L2 SX
theorem cloL_mem {xs : List D} (h : cloL xs = true) : ∀ x ∈ xs, x.clo = true := by
  induction xs with
  | nil => intro x hx; cases hx
  | cons y ys ih =>
    have hc' := Bool.and_eq_true_iff.mp (show (y.clo && cloL ys) = true from h)
    intro x hx
    rcases List.mem_cons.mp hx with rfl | hx
    · exact hc'.1
    · exact ih hc'.2 x hx
theorem lt5 {r : Nat} (h : (r : Int) < 5) : r = 0 ∨ r = 1 ∨ r = 2 ∨ r = 3 ∨ r = 4 := by omega
theorem getF_nat {S : Sto} {xs : List D} {r : Nat} (h : r < xs.length) : getF S (.lst xs) (.int r) = some xs[r] := by
  rw [getF_lst, atI_nat h]
theorem getF_natT {S : Sto} {xs : List D} {r : Nat} (h : r < xs.length) : getF S (.tup xs) (.int r) = some xs[r] := by
  rw [getF_tup, atI_nat h]
theorem bend_at {S : Sto} {r : Nat} (h : (r : Int) < 5) : ∃ d : Int, (d = 0 ∨ d = 1 ∨ d = -1) ∧ getF S (.lst [.int 0, .int 0, .int 0, .int 1, .int (-1)]) (.int r) = some (.int d) := by
  rcases lt5 h with rfl | rfl | rfl | rfl | rfl
  · exact ⟨0, .inl rfl, rfl⟩
  · exact ⟨0, .inl rfl, rfl⟩
  · exact ⟨0, .inl rfl, rfl⟩
  · exact ⟨1, .inr (.inl rfl), rfl⟩
  · exact ⟨-1, .inr (.inr rfl), rfl⟩
theorem add_str_ok {a b : Str} {k l : Nat} (ha : a.length ≤ k) (hb : b.length ≤ l) (h : k + l ≤ 100000) : binop .Add (.str a) (.str b) = some (.str (a ++ b)) := by
  rw [add_str, if_pos (by unfold sizeLine; omega)]
theorem len_append (a b : Str) : (a ++ b).length = a.length + b.length := by
  show (a.cps ++ b.cps).size = _
  simp [Str.length]
theorem lit_len {s : String} {k : Nat} (h : decide (s.toList.length ≤ k) = true) : (Str.ofString s).length ≤ k := by
  rw [str_lenOf]; exact of_decide_eq_true h
theorem app_len {a b : Str} {k l : Nat} (ha : a.length ≤ k) (hb : b.length ≤ l) : (a ++ b).length ≤ k + l := by rw [len_append]; omega
/-- words joined by blanks, as they are put together -/
theorem cat1 {w1 p : String} {x : Str} (hp : (p.toList.map Char.toNat == w1.toList.map Char.toNat ++ [32]) = true) : (Str.ofString p) ++ x = Txt.join " " [Str.ofString w1, x] := by
  refine TL.ext_tl ?_
  rw [TL.tl_append, TL.join_eq, TL.tl_join, lit_tl]
  show p.toList.map Char.toNat ++ TL.tl x = TL.tl (Str.ofString w1) ++ (TL.tl (Str.ofString " ") ++ TL.tl x)
  rw [lit_tl, lit_tl, eq_of_beq hp, List.append_assoc]
  rfl
theorem cat3 {w1 p w2 q : String} {x y : Str} (hp : (p.toList.map Char.toNat == w1.toList.map Char.toNat ++ [32]) = true) (hq : (q.toList.map Char.toNat == 32 :: w2.toList.map Char.toNat ++ [32]) = true) :
    (Str.ofString p) ++ x ++ (Str.ofString q) ++ y = Txt.join " " [Str.ofString w1, x, Str.ofString w2, y] := by
  refine TL.ext_tl ?_
  rw [TL.tl_append, TL.tl_append, TL.tl_append, TL.join_eq, TL.tl_join, lit_tl, lit_tl]
  show _ = TL.tl (Str.ofString w1) ++ (TL.tl (Str.ofString " ") ++ (TL.tl x ++ (TL.tl (Str.ofString " ") ++ (TL.tl (Str.ofString w2) ++ (TL.tl (Str.ofString " ") ++ TL.tl y)))))
  rw [lit_tl, lit_tl, lit_tl, eq_of_beq hp, eq_of_beq hq]
  have e : (" " : String).toList.map Char.toNat = [32] := by decide
  rw [e]
  simp
theorem joinL_cons {c : Nat} {p : List Nat} {q : List Nat} {r : List (List Nat)} : TL.joinL [c] (p :: q :: r) = p ++ (c :: TL.joinL [c] (q :: r)) := rfl
/-- a line from its parts -/
theorem line_cat {l : Ln} : numS l.lo ++ (Str.ofString " ") ++ hiS l.hi ++ (Str.ofString " ") ++ Txt.join " " l.f.ws = l.text := by
  refine TL.ext_tl ?_
  rw [text_tl, TL.tl_append, TL.tl_append, TL.tl_append, TL.tl_append, TL.join_eq, TL.tl_join, lit_tl]
  have e : (" " : String).toList.map Char.toNat = [32] := by decide
  rw [e]
  unfold Ln.ws
  have hne : ∃ p r, l.f.ws = p :: r := by cases l.f <;> exact ⟨_, _, rfl⟩
  obtain ⟨p, r, hpr⟩ := hne
  rw [hpr]
  simp only [List.map_cons, joinL_cons]
  simp
theorem big_of {n : Nat} (h : n < 10 ^ 100) : Big n := Nat.lt_trans h (by decide +kernel)
end DV
namespace DV
theorem near_div (A h : Nat) : (2 * (A : Int) + (h : Int)).fdiv (2 * (h : Int)) = (((2 * A + h) / (2 * h) : Nat) : Int) := by
  rw [Int.fdiv_eq_ediv_of_nonneg _ (by omega), Int.natCast_ediv]
  simp
end DV
namespace DV
open PySem L2 SX
section
variable {S S2 : Sto} {n k : Nat} {xs ys xs0 ds : List D} {G : Gen} {m : Str} {A : Sto → Res (List D)}
theorem insD_ref (h : S[n]? = some (.lst xs)) : insD S (.ref n) = none := by
  show (match S[n]? with | some (Ob.ins c ns xs) => some (c, ns, xs) | _ => none) = _
  rw [h]
theorem atR_lst (h : S[n]? = some (.lst xs0)) (hm : lstMeth m = true) (hA : A S = .ok ds S2) (h2 : S2[n]? = some (.lst xs)) (hy : methL m xs ds = some ys) : atR G m A (.ref n) S = .ok .non (S2.set n (.lst ys)) := by
  unfold atR
  rw [insD_ref h]
  simp only [h, hm, if_true, hA, bind_ok, h2, hy]
theorem bLen_ref (h : S[n]? = some (.lst xs)) : bLen S [.ref n] = some (.int (xs.length : Nat)) := by
  show (items S (.ref n)).map (fun xs => D.int (xs.length : Nat)) = _
  rw [items_ref h]; rfl
theorem isLst_ref (h : S[n]? = some (.lst xs)) : isLst S (.ref n) = true := by
  show (match S[n]? with | some (Ob.lst _) => true | _ => false) = true
  rw [h]
theorem sliceV_ref {l u : Option Int} (h : S[n]? = some (.lst xs)) : sliceV S (.ref n) l u = some (.lst (cutD xs l u)) := by
  show (if isLst S (.ref n) = true then (items S (.ref n)).map fun xs => D.lst (cutD xs l u) else none) = _
  rw [isLst_ref h, items_ref h]; rfl
theorem smallI_nat {i : Nat} (h : i < 2 ^ 60) : smallI (i : Int) = true := by
  unfold smallI
  rw [decide_eq_true_eq, Int.natAbs_natCast]
  omega
theorem rng1_nat {i : Nat} (h : i < 2 ^ 60) : rng1 (.ok [.int (i : Int)] S) = .ok ⟨(List.range i).map fun (k : Nat) => .int (k : Int), none, []⟩ S := by
  rw [rng1_ok, if_pos (smallI_nat h)]
  simp
theorem methL_append {d : D} (h : xs.length < sizeLine) : methL "append" xs [d] = some (xs ++ [d]) := by
  unfold methL
  rw [if_pos rfl]
  simp only [if_pos h]
theorem methL_insert {d : D} {i : Nat} (h : xs.length < sizeLine) (hi : i < 2 ^ 60) : methL "insert" xs [.int i, d] = some (xs.take i ++ [d] ++ xs.drop i) := by
  unfold methL
  rw [if_neg (by simp), if_pos rfl]
  simp only
  rw [if_pos ⟨h, by omega, by omega⟩]
  rfl
theorem cut_nat (xs : List Nat) (a b : Option Int) : ∃ ys : List Nat, cutD (xs.map fun x => D.int (x : Nat)) a b = (ys.map fun x => D.int (x : Nat)) ∧ ys.sum ≤ xs.sum ∧ ys.length ≤ xs.length := by
  refine ⟨(xs.drop (HT.sIx xs.length 0 a)).take (HT.sIx xs.length xs.length b - HT.sIx xs.length 0 a), ?_, ?_, by simp; omega⟩
  · unfold cutD
    simp only [List.length_map, List.map_drop, List.map_take]
  · have h1 : ∀ (l : List Nat) (k : Nat), (l.take k).sum ≤ l.sum := fun l k => by
      conv => rhs; rw [← List.take_append_drop k l, List.sum_append]
      omega
    have h2 : ∀ (l : List Nat) (k : Nat), (l.drop k).sum ≤ l.sum := fun l k => by
      conv => rhs; rw [← List.take_append_drop k l, List.sum_append]
      omega
    exact Nat.le_trans (h1 _ _) (h2 _ _)
theorem bSum_nat (ys : List Nat) : bSum S [.lst (ys.map fun x => .int (x : Nat))] = some (.int (ys.sum : Nat)) := by
  rw [bSum_map (fun x : Nat => (x : Int)) ys]
  congr 2
  induction ys with
  | nil => rfl
  | cons y ys ih => simp [ih]
theorem sum_set : ∀ (xs : List Nat) (i : Nat) (h : i < xs.length), (xs.set i (xs[i] + 1)).sum = xs.sum + 1
  | x :: xs, 0, _ => by simp; omega
  | x :: xs, i + 1, h => by
    have := sum_set xs i (by simpa using h)
    simp only [List.set_cons_succ, List.sum_cons, List.getElem_cons_succ]
    omega
theorem getF_refN {xs : List Nat} {i : Nat} (h : S[n]? = some (.lst (xs.map fun x => .int (x : Nat)))) (hi : i < xs.length) : getF S (.ref n) (.int i) = some (.int (xs[i] : Nat)) := by
  rw [getF_ref h, atI_ofNat]
  simp [hi]
theorem range_split {n : Nat} {p q : List Nat} {a : Nat} (e : p ++ a :: q = List.range n) : a = p.length ∧ p.length + 1 + q.length = n := by
  have h := congrArg List.length e
  simp at h
  have h2 : (List.range n)[p.length]? = some a := by rw [← e]; simp
  rw [List.getElem?_range (by omega)] at h2
  exact ⟨(Option.some.inj h2).symm, by omega⟩
end
end DV
namespace DV
open PySem L2 SX
section
variable {S S2 : Sto} {n k : Nat} {xs ys xs0 ds : List D} {G : Gen} {m : Str} {A : Sto → Res (List D)}
def atL (m : Str) (n : Nat) (r : Res (List D)) : Res D := r.bind fun ds S2 => match S2[n]? with
  | some (.lst xs) => (match methL m xs ds with
    | some ys => .ok .non (S2.set n (.lst ys))
    | none => .bad)
  | _ => .bad
theorem atR_lstS (h : S[n]? = some (.lst xs0)) (hm : lstMeth m = true) : atR G m A (.ref n) S = atL m n (A S) := by
  unfold atR
  rw [insD_ref h]
  simp only [h, hm, if_true]
  rfl
theorem atL_ok (h2 : S2[n]? = some (.lst xs)) : atL m n (.ok ds S2) = (match methL m xs ds with
    | some ys => .ok .non (S2.set n (.lst ys))
    | none => .bad) := by
  unfold atL
  simp only [bind_ok, h2]
theorem first_text (m : Nat) : (Str.ofString "0 open most ") ++ numS m = (Ln.mk 0 none (.most m)).text := by
  refine TL.ext_tl ?_
  rw [text_tl, TL.tl_append]
  have e0 : TL.tl (numS 0) = [48] := by rw [numS_eq]; exact TL.numL_lt (by decide)
  simp only [Ln.ws, Fm.ws, hiS, List.map_cons, List.map_nil]
  rw [e0, lit_tl, lit_tl, lit_tl]
  have e1 : ("0 open most " : String).toList.map Char.toNat = [48, 32, 111, 112, 101, 110, 32, 109, 111, 115, 116, 32] := by decide
  have e2 : ("open" : String).toList.map Char.toNat = [111, 112, 101, 110] := by decide
  have e3 : ("most" : String).toList.map Char.toNat = [109, 111, 115, 116] := by decide
  rw [e1, e2, e3]
  simp [TL.joinL]
theorem fws_len {f : Fm} (h : f.ok) : (Txt.join " " f.ws).length ≤ 1300 := by
  have k : Ln.ok ⟨0, none, f⟩ := ⟨by show 0 < 10 ^ 200; exact Nat.pow_pos (by decide), fun _ q => (nomatch q), h⟩
  have := text_len k
  rw [← line_cat, len_append] at this
  show (Txt.join " " f.ws).length ≤ 1300
  have e : (Ln.mk 0 none f).f = f := rfl
  rw [e] at this
  omega
theorem hiS_len {h : Option Nat} (hb : ∀ k, h = some k → Big k) : (hiS h).length ≤ 200 := by
  cases h with
  | none => exact lit_len (by decide)
  | some k => exact numS_len (hb k rfl)
end
end DV
namespace DV
open PySem L2 SX
@[simp] theorem bStr_mul {a b : Nat} (h : Big (a * b)) : bStr [.int ((a : Int) * (b : Int))] = some (.str (numS (a * b))) := by
  rw [show (a : Int) * (b : Int) = ((a * b : Nat) : Int) by simp]; exact bStr_num h
theorem mulOk_nat {a b : Nat} (h : a < 2 ^ 60) (h2 : b < 2 ^ 60) : mulOk (a : Int) (b : Int) = true :=
  mulOk_small (by rw [Int.natAbs_natCast]; omega) (by rw [Int.natAbs_natCast]; omega)
end DV
namespace DV
open PySem L2 SX
def ltT (x y : Tri) : Bool := decide (x.1 * y.2.1 < y.1 * x.2.1)
theorem chain_snoc : ∀ (p : List Tri) (x : Tri), chainB (p ++ [x]) = (chainB p && (match p.getLast? with
    | none => true
    | some y => ltT y x))
  | [], x => rfl
  | [a], x => by simp [chainB, ltT]
  | a :: b :: r, x => by
    have ih := chain_snoc (b :: r) x
    show (decide (a.1 * b.2.1 < b.1 * a.2.1) && chainB ((b :: r) ++ [x])) = _
    rw [ih]
    simp only [List.getLast?_cons_cons]
    rw [← Bool.and_assoc]
    rfl
theorem chain_pre : ∀ (p q : List Tri), chainB (p ++ q) = true → chainB p = true
  | [], _, _ => rfl
  | [_], _, _ => rfl
  | a :: b :: r, q, h => by
    have h' := Bool.and_eq_true_iff.mp (show (decide (a.1 * b.2.1 < b.1 * a.2.1) && chainB ((b :: r) ++ q)) = true from h)
    show (decide (a.1 * b.2.1 < b.1 * a.2.1) && chainB (b :: r)) = true
    rw [h'.1, chain_pre (b :: r) q h'.2]; rfl
theorem data_pre {p q : List D} (h : dataL (p ++ q) = true) : dataL p = true := by
  unfold dataL at h ⊢
  rw [List.all_append, List.map_append, Bool.and_eq_true, Bool.and_eq_true] at h
  rw [h.1.1, chain_pre _ _ h.2]; rfl
theorem data_snoc {p : List D} {x : D} : dataL (p ++ [x]) = (dataL p && (tripB x && (match p.getLast? with
    | none => true
    | some y => ltT (untr y) (untr x)))) := by
  unfold dataL
  rw [List.all_append, List.map_append, List.map_singleton, chain_snoc, List.getLast?_map]
  simp only [List.all_cons, List.all_nil, Bool.and_true]
  cases p.getLast? with
  | none =>
    simp only [Option.map_none]
    cases p.all tripB <;> cases tripB x <;> cases chainB (p.map untr) <;> rfl
  | some y =>
    simp only [Option.map_some]
    cases p.all tripB <;> cases tripB x <;> cases chainB (p.map untr) <;> cases ltT (untr y) (untr x) <;> rfl
/-- the parts that data have here -/
inductive PK : D → Prop
  | tri (t : Tri) (h1 : t.1.natAbs < 2 ^ 100) (h2 : t.2.1.natAbs < 2 ^ 100) : PK (trD t)
  | tru : PK (.tup [.bl true, .int 1, .int 1])
  | oth (p : D) (h : plain p = true) (n : ∀ a b c, p ≠ .tup [a, b, c]) : PK p
theorem PK.plain {p : D} (h : PK p) : DV.plain p = true := by
  cases h with
  | tri t => rfl
  | tru => rfl
  | oth p h n => exact h
theorem PK.mid {p : D} (h : PK p) : partMid p := by
  intro a b c e
  cases h with
  | tri t h1 h2 =>
    have e' : D.tup [.int t.1, .int t.2.1, .int t.2.2] = .tup [.int a, .int b, .int c] := e
    simp only [D.tup.injEq, List.cons.injEq, D.int.injEq, and_true] at e'
    obtain ⟨r1, r2, r3⟩ := e'
    subst r1 r2 r3
    have : (2 : Nat) ^ 100 < 2 ^ 4000 := Nat.pow_lt_pow_right (by decide) (by decide)
    exact ⟨Nat.lt_trans h1 this, Nat.lt_trans h2 this⟩
  | tru => cases e
  | oth p h n => exact absurd e (n _ _ _)
theorem data_nil : dataL [] = true := rfl
theorem ne_nil_list {S : Sto} {x : Bool} : cmpF .NotEq S (.lst [.bl x]) (.lst []) = some true := by
  refine cmpF_of ?_
  show (deq (.lst [.bl x]) (.lst [])).map (!·) = _
  have e : deq (.lst [.bl x]) (.lst []) = some (PyData.eqv (.list [.bool x]) (.list [])) := rfl
  rw [e]; rfl
theorem eq_nil_list {S : Sto} : cmpF .NotEq S (.lst []) (.lst []) = some false := by
  refine cmpF_of ?_
  show (deq (.lst []) (.lst [])).map (!·) = _
  have e : deq (.lst []) (.lst []) = some (PyData.eqv (.list []) (.list [])) := rfl
  rw [e]; rfl
theorem ne_pair {S : Sto} {a b c d : Int} : cmpF .NotEq S (.tup [.int a, .int b]) (.tup [.int c, .int d]) = some (!(decide (a = c) && decide (b = d))) := by
  refine cmpF_of ?_
  show (deq (.tup [.int a, .int b]) (.tup [.int c, .int d])).map (!·) = _
  have e : deq (.tup [.int a, .int b]) (.tup [.int c, .int d]) = some (PyData.eqv (.tuple [.int a, .int b]) (.tuple [.int c, .int d])) := rfl
  rw [e]
  simp only [PyData.eqv, PyData.eqvAll, Bool.and_true]
  rfl
end DV
end

section
set_option Elab.async false
set_option linter.all false
set_option maxRecDepth 100000
set_option autoImplicit false
/-! Comprehensions that change the store; dicts as association lists. -/
namespace DV
open PySem L2 SX
section
variable {A : Type} {t : Itr} {S : Sto} {body : D → Sto → Res (Option D)} {enc : A → D} {l : List A} {L : Res (List D)}
theorem loopC_genP (I : List A → List D → Sto → Prop) (hL : loopC body t (l.map enc) [] S = L) (hs : t.src = none) (r : I [] [] S) (hlen : l.length ≤ sizeLine)
    (h : ∀ (p : List A) (a : A) (q : List A) (acc : List D) (S : Sto), p ++ a :: q = l → I p acc S → ∃ o S', body (enc a) S = .ok o S' ∧ I (p ++ [a]) (acc ++ o.toList) S') :
    ∃ acc S', L = .ok acc S' ∧ I l acc S' := by
  have go : ∀ (q p : List A) (acc : List D) (S : Sto), p ++ q = l → acc.length ≤ p.length → I p acc S → ∃ acc' S', loopC body t (q.map enc) acc S = .ok acc' S' ∧ I l acc' S' := by
    intro q
    induction q with
    | nil => intro p acc S e _ r; exact ⟨acc, S, by simp [loopC, okSrc_none hs], by rw [List.append_nil] at e; rw [← e]; exact r⟩
    | cons a q ih =>
      intro p acc S e hl r
      obtain ⟨o, S1, e1, r1⟩ := h p a q acc S e r
      have hlt : acc.length < sizeLine := by
        have := congrArg List.length e
        simp at this
        omega
      simp only [List.map_cons, loopC, okSrc_none hs, if_true, e1]
      cases o with
      | none =>
        simp only [Option.toList_none, List.append_nil] at r1
        exact ih (p ++ [a]) acc S1 (by rw [List.append_assoc]; exact e) (by simp; omega) r1
      | some y =>
        simp only [Option.toList_some] at r1
        simp only [if_pos hlt]
        exact ih (p ++ [a]) (acc ++ [y]) S1 (by rw [List.append_assoc]; exact e) (by simp; omega) r1
  obtain ⟨acc, S', e, r'⟩ := go l [] [] S rfl (Nat.le_refl _) r
  exact ⟨acc, S', hL.symm.trans e, r'⟩
end
/-! association lists with number keys -/
abbrev AL (A : Type) := List (Nat × A)
section
variable {A : Type} (enc : A → D)
def alK (l : AL A) : List Key := l.map fun p => .inl p.1
def alV (l : AL A) : List D := l.map fun p => enc p.2
def alput (l : AL A) (k : Nat) (y : A) : AL A := if l.any (fun p => p.1 == k) then l.map (fun p => if p.1 = k then (p.1, y) else p) else l ++ [(k, y)]
def alget : AL A → Nat → Option A
  | [], _ => none
  | (j, y) :: r, k => if j = k then some y else alget r k
theorem dlook_al (l : AL A) (k : Nat) : dlook (alK l) (alV enc l) (.inl (k : Int)) = (alget l k).map enc := by
  induction l with
  | nil => rfl
  | cons p l ih =>
    obtain ⟨j, y⟩ := p
    show (if (Sum.inl (j : Int) : Key) = .inl (k : Int) then some (enc y) else dlook (alK l) (alV enc l) (.inl (k : Int))) = (if j = k then some y else alget l k).map enc
    by_cases h : j = k
    · subst h; rw [if_pos rfl, if_pos rfl]; rfl
    · rw [if_neg h, if_neg (fun z => h (by have := Sum.inl.inj z; omega)), ih]
theorem dsub_al (l : AL A) (k : Nat) (y : A) : dsub (alK l) (alV enc l) (.inl (k : Int)) (enc y) = alV enc (l.map fun p => if p.1 = k then (p.1, y) else p) := by
  induction l with
  | nil => rfl
  | cons p l ih =>
    obtain ⟨j, z⟩ := p
    show (if (Sum.inl (j : Int) : Key) = .inl (k : Int) then enc y else enc z) :: dsub (alK l) (alV enc l) (.inl (k : Int)) (enc y) = _
    rw [ih]
    by_cases h : j = k
    · subst h; simp [alV]
    · rw [if_neg (fun z => h (by have := Sum.inl.inj z; omega))]
      simp [alV, h]
theorem dput_al (l : AL A) (k : Nat) (y : A) : dput (alK l) (alV enc l) (.inl (k : Int)) (enc y) = (alK (alput l k y), alV enc (alput l k y)) := by
  unfold dput alput
  have ha : (alK l).any (fun j => decide (j = .inl (k : Int))) = l.any (fun p => p.1 == k) := by
    unfold alK
    rw [List.any_map]
    congr 1
    funext p
    show decide ((Sum.inl (p.1 : Int) : Key) = .inl (k : Int)) = (p.1 == k)
    by_cases h : p.1 = k
    · subst h; simp
    · have : ¬ (Sum.inl (p.1 : Int) : Key) = .inl (k : Int) := fun z => h (by have := Sum.inl.inj z; omega)
      rw [decide_eq_false this]; simp [h]
  rw [ha]
  cases l.any (fun p => p.1 == k) with
  | true =>
    simp only [if_true]
    rw [dsub_al]
    congr 1
    unfold alK
    rw [List.map_map]
    apply List.map_congr_left
    intro p _
    simp only [Function.comp]
    split <;> rfl
  | false =>
    simp [alK, alV]
theorem alget_put_same (l : AL A) (k : Nat) (y : A) : alget (alput l k y) k = some y := by
  unfold alput
  cases h : l.any (fun p => p.1 == k) with
  | true =>
    simp only [if_true]
    induction l with
    | nil => simp at h
    | cons p l ih =>
      obtain ⟨j, z⟩ := p
      by_cases hj : j = k
      · subst hj; simp [alget]
      · have h' : l.any (fun p => p.1 == k) = true := by simpa [hj] using h
        simp only [List.map_cons, if_neg hj, alget]
        exact ih h'
  | false =>
    simp only [Bool.false_eq_true, if_false]
    induction l with
    | nil => simp [alget]
    | cons p l ih =>
      obtain ⟨j, z⟩ := p
      have hj : j ≠ k := fun e => by subst e; simp at h
      have h' : l.any (fun p => p.1 == k) = false := by simpa [hj] using h
      simp only [List.cons_append, alget, if_neg hj]
      exact ih h'
theorem alget_put_ne (l : AL A) {k j : Nat} (y : A) (hne : j ≠ k) : alget (alput l k y) j = alget l j := by
  unfold alput
  cases h : l.any (fun p => p.1 == k) with
  | true =>
    simp only [if_true]
    clear h
    induction l with
    | nil => rfl
    | cons p l ih =>
      obtain ⟨i, z⟩ := p
      by_cases hi : i = k
      · subst hi
        simp only [List.map_cons, if_true, alget]
        rw [if_neg (Ne.symm hne), if_neg (Ne.symm hne)]
        exact ih
      · simp only [List.map_cons, if_neg hi, alget, ih]
  | false =>
    simp only [Bool.false_eq_true, if_false]
    clear h
    induction l with
    | nil => simp [alget, Ne.symm hne]
    | cons p l ih =>
      obtain ⟨i, z⟩ := p
      simp only [List.cons_append, alget, ih]
theorem alK_put_of {l : AL A} {k : Nat} (y : A) (h : (alget l k).isSome = true) : alK (alput l k y) = alK l ∧ (alput l k y).length = l.length := by
  have ha : l.any (fun p => p.1 == k) = true := by
    induction l with
    | nil => simp [alget] at h
    | cons p l ih =>
      obtain ⟨j, z⟩ := p
      by_cases hj : j = k
      · subst hj; simp
      · simp only [alget, if_neg hj] at h
        simp [ih h]
  unfold alput
  rw [ha]
  simp only [if_true]
  refine ⟨?_, by simp⟩
  unfold alK
  rw [List.map_map]
  apply List.map_congr_left
  intro p _
  simp only [Function.comp]
  split <;> rfl
theorem alput_len (l : AL A) (k : Nat) (y : A) : (alput l k y).length ≤ l.length + 1 := by
  unfold alput; split <;> simp
end
theorem nodup_lt : ∀ (n : Nat) (l : List Nat), l.Nodup → (∀ x ∈ l, x < n) → l.length ≤ n
  | 0, l, _, h => by
    cases l with
    | nil => simp
    | cons x l => exact absurd (h x List.mem_cons_self) (Nat.not_lt_zero _)
  | n + 1, l, hd, h => by
    by_cases hm : n ∈ l
    · have h1 := nodup_lt n (l.erase n) (hd.erase n) (fun x hx => by
        have hx' := (List.Nodup.mem_erase_iff hd).mp hx
        have := h x hx'.2
        omega)
      rw [List.length_erase_of_mem hm] at h1
      omega
    · have := nodup_lt n l hd (fun x hx => by
        have := h x hx
        have : x ≠ n := fun e => hm (e ▸ hx)
        omega)
      omega
end DV
namespace DV
open PySem L2 SX
/-! sorted numbers -/
def insN (i : Nat) : List Nat → List Nat
  | [] => [i]
  | j :: js => if i ≤ j then i :: j :: js else j :: insN i js
def sortN : List Nat → List Nat
  | [] => []
  | i :: is => insN i (sortN is)
theorem insN_cast (i : Nat) : ∀ l : List Nat, insI (i : Int) (l.map fun (x : Nat) => (x : Int)) = (insN i l).map fun (x : Nat) => (x : Int)
  | [] => rfl
  | j :: js => by
    show (if (i : Int) ≤ (j : Int) then _ else _) = _
    unfold insN
    by_cases h : i ≤ j
    · rw [if_pos h, if_pos (by omega)]; rfl
    · rw [if_neg h, if_neg (by omega), insN_cast i js]; rfl
theorem sortN_cast : ∀ l : List Nat, sortI (l.map fun (x : Nat) => (x : Int)) = (sortN l).map fun (x : Nat) => (x : Int)
  | [] => rfl
  | i :: is => by
    show insI (i : Int) (sortI (is.map fun (x : Nat) => (x : Int))) = _
    rw [sortN_cast is, insN_cast]; rfl
theorem mem_insN {i x : Nat} : ∀ {l : List Nat}, x ∈ insN i l ↔ x = i ∨ x ∈ l
  | [] => by simp [insN]
  | j :: js => by
    unfold insN
    split
    · simp
    · rw [List.mem_cons, mem_insN, List.mem_cons]
      constructor
      · rintro (h | h | h)
        · exact .inr (.inl h)
        · exact .inl h
        · exact .inr (.inr h)
      · rintro (h | h | h)
        · exact .inr (.inl h)
        · exact .inl h
        · exact .inr (.inr h)
theorem mem_sortN {x : Nat} : ∀ {l : List Nat}, x ∈ sortN l ↔ x ∈ l
  | [] => by simp [sortN]
  | i :: is => by
    show x ∈ insN i (sortN is) ↔ _
    rw [mem_insN, mem_sortN, List.mem_cons]
theorem insN_nodup {i : Nat} : ∀ {l : List Nat}, l.Nodup → i ∉ l → (insN i l).Nodup
  | [], _, _ => by simp [insN]
  | j :: js, h, hn => by
    unfold insN
    split
    · exact List.nodup_cons.mpr ⟨hn, h⟩
    · have h' := List.nodup_cons.mp h
      refine List.nodup_cons.mpr ⟨?_, insN_nodup h'.2 fun z => hn (List.mem_cons_of_mem _ z)⟩
      rw [mem_insN]
      rintro (rfl | z)
      · exact hn List.mem_cons_self
      · exact h'.1 z
theorem sortN_nodup : ∀ {l : List Nat}, l.Nodup → (sortN l).Nodup
  | [], _ => by simp [sortN]
  | i :: is, h => by
    have h' := List.nodup_cons.mp h
    exact insN_nodup (sortN_nodup h'.2) fun z => h'.1 (mem_sortN.mp z)
theorem insN_len (i : Nat) : ∀ l : List Nat, (insN i l).length = l.length + 1
  | [] => rfl
  | j :: js => by unfold insN; split <;> simp [insN_len i js]
theorem sortN_len : ∀ l : List Nat, (sortN l).length = l.length
  | [] => rfl
  | i :: is => by show (insN i (sortN is)).length = _; rw [insN_len, sortN_len is]; rfl
/-! bounds, marks -/
structure Bd where
  lo : Nat
  hi : Nat
  most : Int
  src : Option (Option Nat × Bool)
def srcD : Option (Option Nat × Bool) → D
  | none => .non
  | some (none, true) => .tup [.non, .str "least"]
  | some (none, false) => .tup [.non, .str "most"]
  | some (some i, true) => .tup [.int i, .str "least"]
  | some (some i, false) => .tup [.int i, .str "most"]
def Bd.d (b : Bd) : D := .obj "Bound" ["low", "high", "most", "source"] [.int b.lo, .int b.hi, .int b.most, srcD b.src]
theorem Bd.clo (b : Bd) : b.d.clo = true := by
  unfold Bd.d srcD
  rcases b.src with _ | ⟨_ | i, _ | _⟩ <;> rfl
abbrev Strt := Nat × Option Nat
def strD (s : Strt) : D := .tup [.int s.1, hiD s.2]
/-- the marks as they are met -/
def addMark (m : AL Bool) (s : Strt) : AL Bool := match s.2 with
  | none => alput m s.1 true
  | some h => alput (alput m s.1 true) h true
def metMarks (ss : List Strt) : AL Bool := ss.foldl addMark [(0, true)]
def marksOf (ss : List Strt) : List Nat := sortN ((metMarks ss).map (·.1))
def placeOf (ms : List Nat) : Option Nat → Nat
  | none => ms.length
  | some k => ms.idxOf k
def baseHeld (n : Nat) : List Bd := (List.range n).map fun k => ⟨k + 1, k, 0, none⟩
def tellHeld (ms : List Nat) (lo : Nat) (hi : Option Nat) (b1 : Int) (b2 : Option Int) (i : Option Nat) : List Bd :=
  ⟨placeOf ms hi, placeOf ms (some lo), -b1, some (i, true)⟩ :: (match b2 with
    | none => []
    | some m => [⟨placeOf ms (some lo), placeOf ms hi, m, some (i, false)⟩])
def Ln.strt (l : Ln) : Strt := (l.lo, l.hi)
def allStr (ls : List Ln) (ss : List Strt) : List Strt := ls.map Ln.strt ++ ss
def heldOf (ms : List Nat) (ls : List Ln) : List Bd := baseHeld ms.length ++ (ls.zipIdx.flatMap fun p => tellHeld ms p.1.lo p.1.hi p.1.f.b1 p.1.f.b2 (some p.2))
def placesK (ms : List Nat) : List Key := (ms.map fun k => .inl (k : Int)) ++ [.inr "open"]
def placesV (ms : List Nat) : List D := ((List.range ms.length).map fun k => .int (k : Nat)) ++ [.int (ms.length : Nat)]
def marksD (ms : List Nat) : D := .lst (ms.map fun k => .int (k : Nat))
def pointsD (ms : List Nat) (hs : List Bd) : D := .obj "Points" ["marks", "places", "held"] [marksD ms, .dict (placesK ms) (placesV ms), .lst (hs.map Bd.d)]
theorem alput_keys {A : Type} (l : AL A) (k : Nat) (y : A) (h : (l.map (·.1)).Nodup) : ((alput l k y).map (·.1)).Nodup ∧ ∀ x, x ∈ (alput l k y).map (·.1) ↔ x = k ∨ x ∈ l.map (·.1) := by
  unfold alput
  cases ha : l.any (fun p => p.1 == k) with
  | true =>
    simp only [if_true]
    have e : (l.map fun p => if p.1 = k then (p.1, y) else p).map (·.1) = l.map (·.1) := by
      rw [List.map_map]
      apply List.map_congr_left
      intro p _
      simp only [Function.comp]
      split <;> rfl
    rw [e]
    refine ⟨h, fun x => ⟨.inr, fun q => ?_⟩⟩
    rcases q with rfl | q
    · obtain ⟨p, hp, e⟩ := List.any_eq_true.mp ha
      exact List.mem_map.mpr ⟨p, hp, by simpa using e⟩
    · exact q
  | false =>
    simp only [Bool.false_eq_true, if_false, List.map_append, List.map_cons, List.map_nil]
    refine ⟨?_, fun x => by simp [or_comm]⟩
    rw [List.nodup_append]
    refine ⟨h, by simp, fun a ha' b hb e => ?_⟩
    subst e
    have hb' : a = k := by simpa using hb
    subst hb'
    obtain ⟨p, hp, e2⟩ := List.mem_map.mp ha'
    have := List.any_eq_false.mp ha p hp
    simp [e2] at this
theorem addMark_keys (m : AL Bool) (s : Strt) (h : (m.map (·.1)).Nodup) : ((addMark m s).map (·.1)).Nodup ∧ (∀ x, x ∈ (addMark m s).map (·.1) ↔ x ∈ m.map (·.1) ∨ x = s.1 ∨ s.2 = some x) ∧ (addMark m s).length ≤ m.length + 2 := by
  obtain ⟨lo, hi⟩ := s
  have a := alput_keys m lo true h
  have l1 := alput_len m lo true
  cases hi with
  | none => exact ⟨a.1, fun x => by show x ∈ (alput m lo true).map (·.1) ↔ _; rw [a.2 x]; simp [or_comm], by show (alput m lo true).length ≤ _; omega⟩
  | some h' =>
    have b := alput_keys (alput m lo true) h' true a.1
    have l2 := alput_len (alput m lo true) h' true
    refine ⟨b.1, fun x => ?_, by show (alput (alput m lo true) h' true).length ≤ _; omega⟩
    show x ∈ (alput (alput m lo true) h' true).map (·.1) ↔ _
    rw [b.2 x, a.2 x]
    simp only [Option.some.injEq]
    constructor
    · rintro (rfl | rfl | h)
      · exact .inr (.inr rfl)
      · exact .inr (.inl rfl)
      · exact .inl h
    · rintro (h | rfl | rfl)
      · exact .inr (.inr h)
      · exact .inr (.inl rfl)
      · exact .inl rfl
theorem met_keys : ∀ (ss : List Strt) (m : AL Bool), (m.map (·.1)).Nodup → ((ss.foldl addMark m).map (·.1)).Nodup ∧ (∀ x, x ∈ (ss.foldl addMark m).map (·.1) ↔ x ∈ m.map (·.1) ∨ ∃ s ∈ ss, x = s.1 ∨ s.2 = some x) ∧ (ss.foldl addMark m).length ≤ m.length + 2 * ss.length
  | [], m, h => ⟨h, fun x => by simp, by simp⟩
  | s :: ss, m, h => by
    obtain ⟨a1, a2, a3⟩ := addMark_keys m s h
    obtain ⟨b1, b2, b3⟩ := met_keys ss (addMark m s) a1
    refine ⟨b1, fun x => ?_, by simp at b3 ⊢; omega⟩
    show x ∈ (ss.foldl addMark (addMark m s)).map (·.1) ↔ _
    rw [b2 x, a2 x]
    simp only [List.mem_cons, exists_eq_or_imp]
    rw [or_assoc]
theorem marks_facts (ss : List Strt) : (marksOf ss).Nodup ∧ (∀ x, x ∈ marksOf ss ↔ x = 0 ∨ ∃ s ∈ ss, x = s.1 ∨ s.2 = some x) ∧ (marksOf ss).length ≤ 1 + 2 * ss.length ∧ 0 < (marksOf ss).length := by
  obtain ⟨a, b, c⟩ := met_keys ss [(0, true)] (by simp)
  have hm : ∀ x, x ∈ marksOf ss ↔ x = 0 ∨ ∃ s ∈ ss, x = s.1 ∨ s.2 = some x := fun x => by
    unfold marksOf metMarks
    rw [mem_sortN, b x]; simp
  refine ⟨sortN_nodup a, hm, by unfold marksOf metMarks; rw [sortN_len, List.length_map]; simpa using c, List.length_pos_of_mem ((hm 0).mpr (.inl rfl))⟩
end DV
namespace DV
open PySem L2 SX
section
variable {S S2 : Sto} {n : Nat} {ks : List Key} {xs ds : List D} {k : Key} {i d y : D}
theorem itemsN_dict (h : S[n]? = some (.dict ks xs)) : items S (.ref n) = none := by
  show (match S[n]? with | some (Ob.lst xs) => some xs | _ => none) = _
  rw [h]
theorem dictD_dict (h : S[n]? = some (.dict ks xs)) : dictD S (.ref n) = some (ks, xs) := by
  show (match S[n]? with | some (Ob.dict ks xs) => some (ks, xs) | _ => none) = _
  rw [h]
theorem getF_dict (h : S[n]? = some (.dict ks xs)) (hk : toKey y = some k) : getF S (.ref n) y = dlook ks xs k := by
  have e : getV S (.ref n) y = none := by
    unfold getV
    split
    · show (match items S (.ref n) with | some xs => atI xs _ | none => none) = _
      rw [itemsN_dict h]
    · rfl
  unfold getF
  rw [e]
  show (match dictD S (.ref n), toKey y with | some p, some k => dlook p.1 p.2 k | _, _ => none) = _
  rw [dictD_dict h, hk]
theorem getF_dictC (hk : toKey y = some k) : getF S (.dict ks xs) y = dlook ks xs k := by
  have e : getV S (.dict ks xs) y = none := by
    unfold getV
    split <;> rfl
  unfold getF
  rw [e]
  show (match dictD S (.dict ks xs), toKey y with | some p, some k => dlook p.1 p.2 k | _, _ => none) = _
  rw [hk]; rfl
theorem putV_dict (h : S[n]? = some (.dict ks xs)) (hk : toKey i = some k) (hl : ks.length < sizeLine) : putV (.ref n) i d S = some (S.set n (.dict (dput ks xs k d).1 (dput ks xs k d).2)) := by
  unfold putV
  simp only [h, hk, if_pos hl]
theorem cmpIn_dict (h : S[n]? = some (.dict ks xs)) (hk : toKey y = some k) (hy : ∀ z, y ≠ .str z) : cmpF .In S y (.ref n) = some (dlook ks xs k).isSome := by
  unfold cmpF
  have e : cmpV .In S y (.ref n) = none := by
    show inS S y (.ref n) = none
    unfold inS
    rw [itemsN_dict h]
  rw [e]
  show (match dictD S (.ref n), toKey y with | some p, some k => some (dlook p.1 p.2 k).isSome | _, _ => none) = _
  rw [dictD_dict h, hk]
theorem cmpNotIn_dict (h : S[n]? = some (.dict ks xs)) (hk : toKey y = some k) (hy : ∀ z, y ≠ .str z) : cmpF .NotIn S y (.ref n) = some (!(dlook ks xs k).isSome) := by
  unfold cmpF
  have e : cmpV .NotIn S y (.ref n) = none := by
    show (inS S y (.ref n)).map (!·) = none
    unfold inS
    rw [itemsN_dict h]; rfl
  rw [e]
  show (match dictD S (.ref n), toKey y with | some p, some k => some (!(dlook p.1 p.2 k).isSome) | _, _ => none) = _
  rw [dictD_dict h, hk]
def kvR2 (kd : D) (m : Res D) (k : Sto → Res (List (Key × D))) : Res (List (Key × D)) := m.bind fun d S2 => match toKey kd with
  | some k' => (k S2).bind fun r S3 => .ok ((k', d) :: r) S3
  | none => .bad
@[simp] theorem kvR_ok {kd : D} {e : Sto → Res D} {r : Sto → Res (List (Key × D))} : kvR (.ok kd S) e r = kvR2 kd (e S) r := rfl
@[simp] theorem kvR2_int {z : Int} {r : Sto → Res (List (Key × D))} : kvR2 (.int z) (.ok d S) r = (r S).bind fun r S3 => .ok ((.inl z, d) :: r) S3 := rfl
@[simp] theorem dispR_one {k : Key} : dispR (.ok [(k, d)] S) = .ok (.dict [k] [d]) S := rfl
theorem bSorted_al {m : AL Bool} (h : S[n]? = some (.dict (alK m) xs)) (hl : m.length < 64) : bSorted S [.ref n] = some (marksD (sortN (m.map (·.1)))) := by
  have hk : keyInts (alK m) = some ((m.map (·.1)).map fun (x : Nat) => (x : Int)) := by
    clear h hl
    induction m with
    | nil => rfl
    | cons p m ih =>
      show (keyInts (alK m)).map ((p.1 : Int) :: ·) = _
      rw [ih]; rfl
  show (if isTup (.ref n) = true then none else match items S (.ref n) with
    | some xs => (intsOf xs).map fun is => D.lst ((sortI is).map .int)
    | none => match dictD S (.ref n) with
      | some (ks, _) => if ks.length < 64 then (keyInts ks).map fun is => D.lst ((sortI is).map .int) else none
      | none => none) = _
  rw [itemsN_dict h, dictD_dict h]
  have hl' : (alK m).length < 64 := by unfold alK; simpa using hl
  simp only [show (isTup (.ref n) = true) = False from by simp [isTup], if_false, if_pos hl', hk, Option.map_some]
  rw [sortN_cast]
  simp [marksD]
end
@[simp] theorem hiD_nopen {S : Sto} {hi : Option Nat} : cmpF .NotEq S (hiD hi) (.str "open") = some (hi.isSome) := by cases hi <;> rfl
theorem loopD_al {A B : Type} {t : Itr} {S : Sto} (hs : t.src = none) {body : D → Sto → Res (Option (Key × D))} (enc : A → D) (f : A → Nat × B) (eB : B → D) : ∀ (l : List A) (acc : AL B), (∀ a ∈ l, body (enc a) S = .ok (some (.inl ((f a).1 : Int), eB (f a).2)) S) → acc.length + l.length ≤ sizeLine →
    loopD body t (l.map enc) (alK acc, alV eB acc) S = .ok (alK (l.foldl (fun acc a => alput acc (f a).1 (f a).2) acc), alV eB (l.foldl (fun acc a => alput acc (f a).1 (f a).2) acc)) S
  | [], acc, _, _ => by simp [loopD, okSrc_none hs]
  | a :: l, acc, h, hl => by
    have h1 := h a List.mem_cons_self
    have hl1 : (alK acc).length < sizeLine := by unfold alK; simp at hl ⊢; omega
    have hl2 := alput_len acc (f a).1 (f a).2
    simp only [List.map_cons, loopD, okSrc_none hs, if_true, h1, if_pos hl1]
    rw [dput_al]
    exact loopD_al hs enc f eB l (alput acc (f a).1 (f a).2) (fun b hb => h b (List.mem_cons_of_mem _ hb)) (by simp at hl; omega)
theorem alput_new {A : Type} {l : AL A} {k : Nat} {y : A} (h : k ∉ l.map (·.1)) : alput l k y = l ++ [(k, y)] := by
  unfold alput
  have : l.any (fun p => p.1 == k) = false := by
    rw [List.any_eq_false]
    intro p hp e
    exact h (List.mem_map.mpr ⟨p, hp, by simpa using e⟩)
  rw [this]; rfl
theorem foldl_alput_nodup {A : Type} : ∀ (l : AL A) (acc : AL A), ((acc ++ l).map (·.1)).Nodup → l.foldl (fun acc a => alput acc a.1 a.2) acc = acc ++ l
  | [], acc, _ => by simp
  | (k, y) :: l, acc, h => by
    have hk : k ∉ acc.map (·.1) := by
      rw [List.map_append, List.nodup_append] at h
      intro z
      exact h.2.2 k z k (by simp) rfl
    show l.foldl (fun acc a => alput acc a.1 a.2) (alput acc k y) = _
    rw [alput_new hk, foldl_alput_nodup l (acc ++ [(k, y)]) (by simpa using h)]
    simp
theorem alK_zipIdx (ms : List Nat) : alK ms.zipIdx = ms.map fun (k : Nat) => (.inl (k : Int) : Key) := by
  unfold alK
  have : (ms.zipIdx.map fun p => (Sum.inl (p.1 : Int) : Key)) = (ms.zipIdx.map Prod.fst).map fun (k : Nat) => (.inl (k : Int) : Key) := by rw [List.map_map]; rfl
  rw [this]
  congr 1
  rw [← List.unzip_fst, List.unzip_zipIdx_eq_prod]
theorem alV_zipIdx (ms : List Nat) : alV (fun (k : Nat) => D.int (k : Nat)) ms.zipIdx = (List.range ms.length).map fun (k : Nat) => .int (k : Nat) := by
  unfold alV
  have : (ms.zipIdx.map fun p => D.int (p.2 : Nat)) = (ms.zipIdx.map Prod.snd).map fun (k : Nat) => D.int (k : Nat) := by rw [List.map_map]; rfl
  rw [this]
  congr 1
  rw [← List.unzip_snd, List.unzip_zipIdx_eq_prod]
  simp [List.range_eq_range']
theorem dlook_places {ms : List Nat} (hd : ms.Nodup) {k : Nat} (hk : k ∈ ms) : dlook (placesK ms) (placesV ms) (.inl (k : Int)) = some (.int (ms.idxOf k : Nat)) := by
  unfold placesK placesV
  have go : ∀ (l : List Nat) (s : Nat) (r : List Key) (q : List D), k ∈ l → dlook ((l.map fun (k : Nat) => (.inl (k : Int) : Key)) ++ r) (((List.range' s l.length).map fun (k : Nat) => D.int (k : Nat)) ++ q) (.inl (k : Int)) = some (.int ((s + l.idxOf k : Nat) : Int)) := by
    intro l
    induction l with
    | nil => intro s r q h; cases h
    | cons a l ih =>
      intro s r q h
      simp only [List.map_cons, List.length_cons, List.range'_succ, List.cons_append]
      show (if (Sum.inl (a : Int) : Key) = .inl (k : Int) then some (D.int (s : Nat)) else dlook _ _ _) = _
      by_cases ha : a = k
      · subst ha; simp
      · rw [if_neg (fun z => ha (by have := Sum.inl.inj z; omega))]
        have hm : k ∈ l := by rcases List.mem_cons.mp h with e | e; exact absurd e.symm ha; exact e
        rw [ih (s + 1) r q hm]
        rw [List.idxOf_cons, show (a == k) = false from by simpa using ha]
        simp only [cond_false]
        congr 2
        omega
  have := go ms 0 [.inr "open"] [.int (ms.length : Nat)] hk
  rw [← List.range_eq_range'] at this
  simpa using this
theorem dlook_open {ms : List Nat} : dlook (placesK ms) (placesV ms) (.inr "open") = some (.int (ms.length : Nat)) := by
  unfold placesK placesV
  have go : ∀ (l : List Nat) (vs : List D), vs.length = l.length → dlook ((l.map fun (k : Nat) => (.inl (k : Int) : Key)) ++ [.inr "open"]) (vs ++ [.int (ms.length : Nat)]) (.inr "open") = some (.int (ms.length : Nat)) := by
    intro l
    induction l with
    | nil =>
      intro vs h
      obtain rfl := List.eq_nil_of_length_eq_zero h
      show (if (Sum.inr (Str.ofString "open") : Key) = .inr "open" then _ else _) = _
      rw [if_pos rfl]
    | cons a l ih =>
      intro vs h
      cases vs with
      | nil => cases h
      | cons v vs =>
        show (if (Sum.inl (a : Int) : Key) = .inr "open" then some v else dlook _ _ _) = _
        rw [if_neg (fun z => by cases z)]
        exact ih vs (by simpa using h)
  exact go ms _ (by simp)
theorem dput_open {ms : List Nat} : dput (ms.map fun (k : Nat) => (.inl (k : Int) : Key)) ((List.range ms.length).map fun (k : Nat) => .int (k : Nat)) (.inr "open") (.int (ms.length : Nat)) = (placesK ms, placesV ms) := by
  unfold dput
  have : (ms.map fun (k : Nat) => (.inl (k : Int) : Key)).any (fun k => decide (k = .inr "open")) = false := by
    rw [List.any_eq_false]
    intro k hk
    obtain ⟨a, _, rfl⟩ := List.mem_map.mp hk
    simp
  rw [this]; rfl
end DV
namespace DV
open PySem L2 SX
def triPy (t : Tri) : PyData := .tuple [.int t.1, .int t.2.1, .int t.2.2]
theorem toPys_tri : ∀ ts : List Tri, toPys (ts.map trD) = some (ts.map triPy)
  | [] => rfl
  | t :: ts => by
    show (match toPy (trD t), toPys (ts.map trD) with | some d, some ds => some (d :: ds) | _, _ => none) = _
    rw [toPys_tri ts]; rfl
theorem shaped_tri (ts : List Tri) : SeqAt.shaped (.tuple (ts.map triPy)) = true := by
  have h1 : ∀ ts : List Tri, PyData.canLayAll0 (ts.map triPy) = true := by
    intro ts
    induction ts with
    | nil => simp [PyData.canLayAll0]
    | cons t ts ih => simp only [List.map_cons, PyData.canLayAll0, ih, Bool.and_true]; simp [triPy, PyData.canLay0, PyData.canLayAll0]
  have h2 : ∀ ts : List Tri, PyData.depthAll (ts.map triPy) ≤ 1 := by
    intro ts
    induction ts with
    | nil => simp [PyData.depthAll]
    | cons t ts ih =>
      simp only [List.map_cons, PyData.depthAll]
      have : (triPy t).depth = 1 := by simp [triPy, PyData.depth, PyData.depthAll]
      omega
  unfold SeqAt.shaped
  rw [Bool.and_eq_true, decide_eq_true_eq]
  refine ⟨by simp only [PyData.canLay0]; exact h1 ts, ?_⟩
  have := h2 ts
  simp only [PyData.depth]
  omega
theorem eq_empty {S : Sto} (ts : List Tri) : cmpF .Eq S (.tup (ts.map trD)) (.tup []) = some ts.isEmpty := by
  refine cmpF_of ?_
  show deq (.tup (ts.map trD)) (.tup []) = _
  have e : deq (.tup (ts.map trD)) (.tup []) = (match toPy (.tup (ts.map trD)), toPy (.tup []) with
    | some d, some e => if SeqAt.shaped d && SeqAt.shaped e then some (PyData.eqv d e) else none
    | _, _ => none) := rfl
  rw [e]
  have e1 : toPy (.tup (ts.map trD)) = some (.tuple (ts.map triPy)) := by
    show (toPys (ts.map trD)).map PyData.tuple = _
    rw [toPys_tri]; rfl
  have e2 : toPy (.tup []) = some (.tuple []) := rfl
  have e3 : SeqAt.shaped (.tuple []) = true := rfl
  rw [e1, e2]
  simp only [shaped_tri, e3, Bool.and_self, if_true]
  cases ts <;> simp [PyData.eqv, PyData.eqvAll]
theorem fdiv_small {a b : Int} (ha : 0 ≤ a) (hb : 1 ≤ b) : 0 ≤ a.fdiv (Int.gcd a b) ∧ a.fdiv (Int.gcd a b) ≤ a ∧ 1 ≤ b.fdiv (Int.gcd a b) ∧ b.fdiv (Int.gcd a b) ≤ b := by
  have hpos : 0 < Int.gcd a b := Nat.gcd_pos_of_pos_right _ (by omega)
  have hg : (0 : Int) < (Int.gcd a b : Int) := by omega
  rw [Int.fdiv_eq_ediv_of_nonneg _ (by omega), Int.fdiv_eq_ediv_of_nonneg _ (by omega)]
  refine ⟨Int.ediv_nonneg ha (by omega), Int.ediv_le_self _ ha, ?_, Int.ediv_le_self _ (by omega)⟩
  have hd : ((Int.gcd a b : Nat) : Int) ∣ b := Int.gcd_dvd_right ..
  have h3 := Int.mul_ediv_cancel' hd
  by_cases h : 1 ≤ b / (Int.gcd a b : Int)
  · exact h
  · have : b / (Int.gcd a b : Int) = 0 := by
      have := Int.ediv_nonneg (show 0 ≤ b by omega) (show (0 : Int) ≤ (Int.gcd a b : Int) by omega)
      omega
    rw [this, Int.mul_zero] at h3
    omega
end DV
namespace DV
open PySem L2 SX
theorem turnDR_put {tg : Tg} {K E : Slots → Sto → Res D} {w w' : Slots} {d k y : D} {k' : Key} {S : Sto} (hp : tg.put d w = some w') (h1 : K w' S = .ok k S) (hk : toKey k = some k') (h : E w' S = .ok y S) : turnDR tg none K E w d S = .ok (some (k', y)) S := by
  unfold turnDR hdR
  rw [hp]
  simp only [h1, h, hk]
theorem attrV_ref {cls : Str → Option ClI} {S : Sto} {f c : Str} {ns : List Str} {xs : List D} {n : Nat} (h : S[n]? = some (.ins c ns xs)) : attrV cls S f (.ref n) = (match cls c with
  | some ci => if ci.flds.contains f then (flook ns xs f).map .inl else none
  | none => none) := by
  have : insD S (.ref n) = some (c, ns, xs) := by
    show (match S[n]? with | some (Ob.ins c ns xs) => some (c, ns, xs) | _ => none) = _
    rw [h]
  unfold attrV
  rw [this]
  all_goals rfl
theorem atR_ins {G : Gen} {m c : Str} {ns : List Str} {xs : List D} {A : Sto → Res (List D)} {n : Nat} {S : Sto} {f : FnI} (h : S[n]? = some (.ins c ns xs)) (h1 : ns.contains m = false) (h2 : (G.cls c).isNone = false) (h3 : meOk G c m = some f) : atR G m A (.ref n) S = (A S).bind fun ds S2 => runF f (.ref n :: ds) S2 := by
  have : insD S (.ref n) = some (c, ns, xs) := by
    show (match S[n]? with | some (Ob.ins c ns xs) => some (c, ns, xs) | _ => none) = _
    rw [h]
  unfold atR
  rw [this]
  simp only [h1, h2, Bool.or_self, Bool.false_eq_true, if_false, h3, Option.elim]
theorem atR_obj {G : Gen} {m c : Str} {ns : List Str} {xs : List D} {A : Sto → Res (List D)} {S : Sto} {f : FnI} (h1 : ns.contains m = false) (h2 : (G.cls c).isNone = false) (h3 : meOk G c m = some f) : atR G m A (.obj c ns xs) S = (A S).bind fun ds S2 => runF f (.obj c ns xs :: ds) S2 := by
  unfold atR
  simp only [insD, h1, h2, Bool.or_self, Bool.false_eq_true, if_false, h3, Option.elim]
end DV
namespace DV
open PySem L2 SX
theorem fzL_clo {n : Nat} {S : Sto} : ∀ {xs : List D}, cloL xs = true → fz.fzL (fz (n + 1) S) xs = some xs
  | [], _ => rfl
  | x :: xs, h => by
    have h' := Bool.and_eq_true_iff.mp (show (x.clo && cloL xs) = true from h)
    show (match fz (n + 1) S x, fz.fzL (fz (n + 1) S) xs with | some y, some ys => some (y :: ys) | _, _ => none) = _
    rw [fz_clo h'.1, fzL_clo h'.2]
theorem fz_refL {n k : Nat} {S : Sto} {xs : List D} (h : S[k]? = some (.lst xs)) (hc : cloL xs = true) : fz (n + 2) S (.ref k) = some (.lst xs) := by
  unfold fz
  rw [if_neg (by simp [D.clo])]
  simp only [h]
  rw [fzL_clo hc]; rfl
theorem fz_refD {n k : Nat} {S : Sto} {ks : List Key} {xs : List D} (h : S[k]? = some (.dict ks xs)) (hc : cloL xs = true) : fz (n + 2) S (.ref k) = some (.dict ks xs) := by
  unfold fz
  rw [if_neg (by simp [D.clo])]
  simp only [h]
  rw [fzL_clo hc]; rfl
theorem fz_refI {n k : Nat} {S : Sto} {c : Str} {ns : List Str} {xs ys : List D} (h : S[k]? = some (.ins c ns xs)) (hy : fz.fzL (fz n S) xs = some ys) : fz (n + 1) S (.ref k) = some (.obj c ns ys) := by
  unfold fz
  rw [if_neg (by simp [D.clo])]
  simp only [h]
  rw [hy]; rfl
theorem fzL_cons {f : D → Option D} {x y : D} {xs ys : List D} (h : f x = some y) (hs : fz.fzL f xs = some ys) : fz.fzL f (x :: xs) = some (y :: ys) := by
  show (match f x, fz.fzL f xs with | some y, some ys => some (y :: ys) | _, _ => none) = _
  rw [h, hs]
section
variable {A : Type} {t : Itr} {S : Sto} {v : Slots} {body : D → Slots → Sto → SRes} {enc : A → D} {l : List A} {L : SRes}
/-- a loop that may be broken off -/
theorem loopF_genB (R : List A → Slots → Sto → Prop) (P : Slots → Sto → Prop) (hL : loopF body t (l.map enc) v S = L) (hs : t.src = none) (r : R [] v S)
    (h : ∀ (p : List A) (a : A) (q : List A) (v : Slots) (S : Sto), p ++ a :: q = l → R p v S → (∃ v' S', (body (enc a) v S = .nx v' S' ∨ body (enc a) v S = .ct v' S') ∧ R (p ++ [a]) v' S') ∨ ∃ v' S', body (enc a) v S = .bk v' S' ∧ P v' S') :
    ∃ v' S', L = .nx v' S' ∧ (R l v' S' ∨ P v' S') := by
  have go : ∀ (q p : List A) (v : Slots) (S : Sto), p ++ q = l → R p v S → ∃ v' S', loopF body t (q.map enc) v S = .nx v' S' ∧ (R l v' S' ∨ P v' S') := by
    intro q
    induction q with
    | nil => intro p v S e r; exact ⟨v, S, by simp [loopF, okSrc_none hs], .inl (by rw [List.append_nil] at e; rw [← e]; exact r)⟩
    | cons a q ih =>
      intro p v S e r
      simp only [List.map_cons, loopF, okSrc_none hs, if_true]
      rcases h p a q v S e r with ⟨v1, S1, e1, r1⟩ | ⟨v1, S1, e1, r1⟩
      · have := ih (p ++ [a]) v1 S1 (by rw [List.append_assoc]; exact e) r1
        rcases e1 with e1 | e1 <;> rw [e1] <;> exact this
      · exact ⟨v1, S1, by rw [e1], .inr r1⟩
  obtain ⟨v', S', e, q⟩ := go l [] v S rfl r
  exact ⟨v', S', hL.symm.trans e, q⟩
end
theorem turnR_testS {tg : Tg} {T : Slots → Sto → Res Bool} {E : Slots → Sto → Res D} {w w' : Slots} {d y : D} {b : Bool} {S S1 : Sto} (hp : tg.put d w = some w') (ht : T w' S = .ok b S1) (h : b = true → E w' S1 = .ok y S1) : turnR tg (some T) E w d S = .ok (if b then some y else none) S1 := by
  unfold turnR hdR
  rw [hp]
  simp only [ht]
  cases b with
  | false => rfl
  | true => simp only [h rfl]; rfl
/-! ways along bounds -/
structure WSt where
  costs : AL Int
  last : AL Bd
def better (st : WSt) (b : Bd) : Option WSt := match alget st.costs b.lo with
  | none => none
  | some c => match alget st.costs b.hi with
    | some d => if d ≤ c + b.most then none else some ⟨alput st.costs b.hi (c + b.most), alput st.last b.hi b⟩
    | none => some ⟨alput st.costs b.hi (c + b.most), alput st.last b.hi b⟩
def pass1 (x : WSt × List Bd) (b : Bd) : WSt × List Bd := match better x.1 b with
  | none => x
  | some st => (st, x.2 ++ [b])
def pass (held : List Bd) (st : WSt) : WSt × List Bd := held.foldl pass1 (st, [])
def runW (held : List Bd) : Nat → WSt → List Bd → WSt × List Bd
  | 0, st, h => (st, h)
  | n + 1, st, _ => if (pass held st).2 = [] then ((pass held st).1, []) else runW held n (pass held st).1 (pass held st).2
def stW (bg : D) (st : WSt) (hr : Nat) (hs : List Ob) : Sto := .ins "Ways" ["begin", "costs", "last", "helped"] [bg, .ref 1, .ref 2, .ref hr] :: .dict (alK st.costs) (alV .int st.costs) :: .dict (alK st.last) (alV Bd.d st.last) :: hs
def waysD (bg : D) (st : WSt) (h : List Bd) : D := .obj "Ways" ["begin", "costs", "last", "helped"] [bg, .dict (alK st.costs) (alV .int st.costs), .dict (alK st.last) (alV Bd.d st.last), .lst (h.map Bd.d)]
theorem better_len {st st' : WSt} {b : Bd} (h : better st b = some st') : st'.costs.length ≤ st.costs.length + 1 ∧ st'.last.length ≤ st.last.length + 1 := by
  unfold better at h
  split at h
  · cases h
  · split at h
    · split at h
      · cases h
      · cases h; exact ⟨alput_len .., alput_len ..⟩
    · cases h; exact ⟨alput_len .., alput_len ..⟩
end DV
end

section
set_option Elab.async false
set_option linter.all false
set_option maxRecDepth 100000
set_option autoImplicit false
/-! The ways' turns: what was bettered late leads back to a ring. -/
namespace DV
def Sat (st : WSt) (b : Bd) : Prop := ∀ c d, alget st.costs b.lo = some c → alget st.costs b.hi = some d → d ≤ c + b.most
/-- tm v: the last turn in which v was bettered, -1 for none -/
structure WI (n : Nat) (held : List Bd) (k : Int) (p q : List Bd) (st : WSt) (tm : Nat → Int) : Prop where
  cs : ∀ v, v < n → (alget st.costs v).isSome = true
  tb : ∀ v, -1 ≤ tm v ∧ tm v ≤ k
  la : ∀ v, 0 ≤ tm v → ∃ b ∈ held, alget st.last v = some b ∧ b.hi = v ∧ tm v - 1 ≤ tm b.lo
  dn : ∀ b ∈ p, Sat st b ∨ k ≤ tm b.lo
  td : ∀ b ∈ q, 1 ≤ k → Sat st b ∨ k - 1 ≤ tm b.lo
theorem better_some {st st' : WSt} {b : Bd} (h : better st b = some st') : ∃ c, alget st.costs b.lo = some c ∧ st' = ⟨alput st.costs b.hi (c + b.most), alput st.last b.hi b⟩ ∧ ∀ d, alget st.costs b.hi = some d → c + b.most < d := by
  unfold better at h
  split at h
  · cases h
  · rename_i c e
    split at h
    · rename_i d e2
      split at h
      · cases h
      · cases h
        exact ⟨c, e, rfl, fun d' e3 => by rw [e2] at e3; cases e3; omega⟩
    · rename_i e2
      cases h
      exact ⟨c, e, rfl, fun d' e3 => by rw [e2] at e3; cases e3⟩
theorem better_none {n : Nat} {st : WSt} {b : Bd} (hlo : (alget st.costs b.lo).isSome = true) (h : better st b = none) : Sat st b := by
  intro c d h1 h2
  unfold better at h
  rw [h1] at h
  simp only [h2] at h
  by_cases q : d ≤ c + b.most
  · exact q
  · rw [if_neg q] at h; cases h
section
variable {n : Nat} {held : List Bd} {k : Int} {p q : List Bd} {st st' : WSt} {tm : Nat → Int} {b : Bd}
theorem WI.step (I : WI n held k p (b :: q) st tm) (hb : b ∈ held) (hlo : b.lo < n) (hhi : b.hi < n) (hk : 0 ≤ k) :
    (better st b = none → WI n held k (p ++ [b]) q st tm) ∧
    (∀ st', better st b = some st' → WI n held k (p ++ [b]) q st' (fun v => if v = b.hi then k else tm v)) := by
  refine ⟨fun h => ⟨I.cs, I.tb, I.la, fun c hc => ?_, fun c hc => I.td c (List.mem_cons_of_mem _ hc)⟩, fun st' h => ?_⟩
  · rcases List.mem_append.mp hc with h' | h'
    · exact I.dn c h'
    · obtain rfl := List.mem_singleton.mp h'
      exact .inl (better_none (n := n) (I.cs _ hlo) h)
  · obtain ⟨c0, e1, rfl, hd⟩ := better_some h
    have le : ∀ v, tm v ≤ (if v = b.hi then k else tm v) := fun v => by
      split
      · exact (I.tb v).2
      · exact Int.le_refl _
    have keep : ∀ x : Bd, ∀ j : Int, j ≤ k → (Sat st x ∨ j ≤ tm x.lo) → (Sat ⟨alput st.costs b.hi (c0 + b.most), alput st.last b.hi b⟩ x ∨ j ≤ (if x.lo = b.hi then k else tm x.lo)) := fun x j hj hx => by
      by_cases hl : x.lo = b.hi
      · exact .inr (by rw [if_pos hl]; exact hj)
      · rcases hx with hx | hx
        · refine .inl fun c d h1 h2 => ?_
          simp only at h1 h2
          rw [alget_put_ne _ _ hl] at h1
          by_cases hh : x.hi = b.hi
          · rw [hh, alget_put_same] at h2
            cases h2
            obtain ⟨d0, hd0⟩ := Option.isSome_iff_exists.mp (I.cs b.hi hhi)
            have a1 := hd d0 hd0
            have a2 := hx c d0 h1 (by rw [hh]; exact hd0)
            omega
          · rw [alget_put_ne _ _ hh] at h2
            exact hx c d h1 h2
        · exact .inr (by rw [if_neg hl]; exact hx)
    refine ⟨fun v hv => ?_, fun v => ?_, fun v hv => ?_, fun c hc => ?_, fun c hc h1 => ?_⟩
    · show (alget (alput st.costs b.hi (c0 + b.most)) v).isSome = true
      by_cases h' : v = b.hi
      · subst h'; rw [alget_put_same]; rfl
      · rw [alget_put_ne _ _ h']; exact I.cs v hv
    · try dsimp only
      split
      · omega
      · exact I.tb v
    · dsimp only at hv ⊢
      by_cases h' : v = b.hi
      · refine ⟨b, hb, by subst h'; exact alget_put_same .., h'.symm, ?_⟩
        rw [if_pos h']
        by_cases hl : b.lo = b.hi
        · rw [if_pos hl]; omega
        · rw [if_neg hl]
          by_cases hk1 : 1 ≤ k
          · rcases I.td b List.mem_cons_self hk1 with hs | hs
            · obtain ⟨d0, hd0⟩ := Option.isSome_iff_exists.mp (I.cs b.hi hhi)
              have a1 := hd d0 hd0
              have a2 := hs c0 d0 e1 hd0
              omega
            · exact hs
          · have := (I.tb b.lo).1; omega
      · rw [if_neg h'] at hv ⊢
        obtain ⟨b', m1, m2, m3, m4⟩ := I.la v hv
        refine ⟨b', m1, by show alget (alput st.last b.hi b) v = _; rw [alget_put_ne _ _ h']; exact m2, m3, ?_⟩
        have := le b'.lo
        omega
    · rcases List.mem_append.mp hc with h' | h'
      · exact keep c k (Int.le_refl _) (I.dn c h')
      · obtain rfl := List.mem_singleton.mp h'
        by_cases hl : c.lo = c.hi
        · exact .inr (by show k ≤ (if c.lo = c.hi then k else tm c.lo); rw [if_pos hl]; exact Int.le_refl _)
        · refine .inl fun x y h1 h2 => ?_
          simp only at h1 h2
          rw [alget_put_ne _ _ hl, e1] at h1
          rw [alget_put_same] at h2
          cases h1; cases h2
          exact Int.le_refl _
    · exact keep c (k - 1) (by omega) (I.td c (List.mem_cons_of_mem _ hc) h1)
/-- a whole turn -/
theorem WI.turn (hn : ∀ b ∈ held, b.lo < n ∧ b.hi < n) (hk : 0 ≤ k) : ∀ (q p : List Bd) (x : WSt × List Bd) (tm : Nat → Int), p ++ q = held → WI n held k p q x.1 tm → (∀ b ∈ x.2, b ∈ held ∧ tm b.hi = k) →
    ∃ tm', WI n held k held [] (q.foldl pass1 x).1 tm' ∧ ∀ b ∈ (q.foldl pass1 x).2, b ∈ held ∧ tm' b.hi = k
  | [], p, x, tm, e, I, h => ⟨tm, by rw [List.append_nil] at e; subst e; exact I, h⟩
  | b :: q, p, x, tm, e, I, h => by
    have hb : b ∈ held := by rw [← e]; simp
    obtain ⟨h1, h2⟩ := I.step hb (hn b hb).1 (hn b hb).2 hk
    have e' : (p ++ [b]) ++ q = held := by rw [List.append_assoc]; exact e
    show ∃ tm', WI n held k held [] (q.foldl pass1 (pass1 x b)).1 tm' ∧ ∀ c ∈ (q.foldl pass1 (pass1 x b)).2, c ∈ held ∧ tm' c.hi = k
    cases hbt : better x.1 b with
    | none =>
      have : pass1 x b = x := by unfold pass1; rw [hbt]
      rw [this]
      exact WI.turn hn hk q (p ++ [b]) x tm e' (h1 hbt) h
    | some st =>
      have : pass1 x b = (st, x.2 ++ [b]) := by unfold pass1; rw [hbt]
      rw [this]
      refine WI.turn hn hk q (p ++ [b]) (st, x.2 ++ [b]) (fun v => if v = b.hi then k else tm v) e' (h2 st hbt) fun c hc => ?_
      rcases List.mem_append.mp hc with hc | hc
      · obtain ⟨m1, m2⟩ := h c hc
        refine ⟨m1, ?_⟩
        try dsimp only
        split
        · rfl
        · exact m2
      · obtain rfl := List.mem_singleton.mp hc
        exact ⟨hb, by simp⟩
theorem WI.next (I : WI n held k held [] st tm) : WI n held (k + 1) [] held st tm :=
  ⟨I.cs, fun v => ⟨(I.tb v).1, by have := (I.tb v).2; omega⟩, I.la, fun b hb => (by cases hb), fun b hb _ => by
    rcases I.dn b hb with h | h
    · exact .inl h
    · exact .inr (by omega)⟩
theorem WI.run (hn : ∀ b ∈ held, b.lo < n ∧ b.hi < n) : ∀ (N : Nat) (k : Int) (st : WSt) (h : List Bd) (tm : Nat → Int), 0 ≤ k → WI n held k [] held st tm → ∀ st' h', runW held N st h = (st', h') → h' ≠ [] → 0 < N →
    ∃ tm', WI n held (k + N - 1) held [] st' tm' ∧ ∀ b ∈ h', b ∈ held ∧ tm' b.hi = k + N - 1
  | 0, _, _, _, _, _, _, _, _, _, _, h0 => absurd h0 (Nat.lt_irrefl _)
  | N + 1, k, st, h, tm, hk, I, st', h', e, hne, _ => by
    obtain ⟨tm1, I1, hh⟩ := WI.turn hn hk held [] (st, []) tm rfl I (fun b hb => by cases hb)
    unfold runW at e
    by_cases hp : (pass held st).2 = []
    · rw [if_pos hp] at e
      cases e
      exact absurd rfl hne
    · rw [if_neg hp] at e
      cases N with
      | zero =>
        have e' : ((pass held st).1, (pass held st).2) = (st', h') := e
        cases e'
        refine ⟨tm1, ?_, fun b hb => ?_⟩
        · rw [show k + ((0 + 1 : Nat) : Int) - 1 = k by omega]; exact I1
        · rw [show k + ((0 + 1 : Nat) : Int) - 1 = k by omega]; exact hh b hb
      | succ N =>
        obtain ⟨tm2, I2, hh2⟩ := WI.run hn (N + 1) (k + 1) (pass held st).1 (pass held st).2 tm1 (by omega) I1.next st' h' e hne (by omega)
        refine ⟨tm2, ?_, fun b hb => ?_⟩
        · rw [show k + ((N + 1 + 1 : Nat) : Int) - 1 = k + 1 + ((N + 1 : Nat) : Int) - 1 by omega]; exact I2
        · rw [show k + ((N + 1 + 1 : Nat) : Int) - 1 = k + 1 + ((N + 1 : Nat) : Int) - 1 by omega]; exact hh2 b hb
end
end DV
namespace DV
/-- the first state: all points at nothing -/
theorem WI.start {n : Nat} {held : List Bd} : WI n held 0 [] held ⟨(List.range n).map fun k => (k, (0 : Int)), []⟩ (fun _ => -1) :=
  ⟨fun v hv => by
    have : ∀ (l : List Nat), v ∈ l → (alget (l.map fun k => (k, (0 : Int))) v).isSome = true := by
      intro l
      induction l with
      | nil => intro h; cases h
      | cons a l ih =>
        intro h
        simp only [List.map_cons, alget]
        by_cases ha : a = v
        · rw [if_pos ha]; rfl
        · rw [if_neg ha]
          rcases List.mem_cons.mp h with e | e
          · exact absurd e.symm ha
          · exact ih e
    exact this _ (List.mem_range.mpr hv), fun v => ⟨Int.le_refl _, by omega⟩, fun v h => by omega, fun b h => (by cases h), fun b _ h => by omega⟩
/-- the walk back -/
def walkB (last : AL Bd) (v : Nat) : Nat → Nat
  | 0 => v
  | j + 1 => match alget last (walkB last v j) with
    | some b => b.lo
    | none => 0
theorem walk_ok {n : Nat} {held : List Bd} {st : WSt} {h : List Bd} (hn : ∀ b ∈ held, b.lo < n ∧ b.hi < n) (e : runW held (n + 1) ⟨(List.range n).map fun k => (k, (0 : Int)), []⟩ [] = (st, h)) {b0 : Bd} {r : List Bd} (hb : h = b0 :: r) :
    (∀ v, v < n → (alget st.costs v).isSome = true) ∧ ∀ j, j ≤ n → walkB st.last b0.hi j < n ∧ ∃ b ∈ held, alget st.last (walkB st.last b0.hi j) = some b := by
  obtain ⟨tm, I, hh⟩ := WI.run hn (n + 1) 0 _ [] _ (Int.le_refl _) WI.start st h e (by rw [hb]; simp) (by omega)
  have h0 := hh b0 (by rw [hb]; simp)
  refine ⟨I.cs, ?_⟩
  have key : ∀ j, j ≤ n → (n : Int) - j ≤ tm (walkB st.last b0.hi j) := by
    intro j
    induction j with
    | zero => intro _; show (n : Int) - 0 ≤ tm b0.hi; rw [h0.2]; omega
    | succ j ih =>
      intro hj
      have ih := ih (by omega)
      obtain ⟨b, _, e1, _, e3⟩ := I.la (walkB st.last b0.hi j) (by omega)
      show (n : Int) - ((j + 1 : Nat) : Int) ≤ tm (match alget st.last (walkB st.last b0.hi j) with | some b => b.lo | none => 0)
      rw [e1]
      dsimp only
      omega
  intro j hj
  obtain ⟨b, hb', e1, e2, _⟩ := I.la (walkB st.last b0.hi j) (by have := key j hj; omega)
  exact ⟨by rw [← e2]; exact (hn b hb').2, b, hb', e1⟩
/-- where nothing was bettered in the last turn, all costs stand -/
theorem costs_ok {n : Nat} {held : List Bd} (hn : ∀ b ∈ held, b.lo < n ∧ b.hi < n) : ∀ (N : Nat) (st : WSt) (h : List Bd) (st' : WSt) (h' : List Bd), (∀ v, v < n → (alget st.costs v).isSome = true) → runW held N st h = (st', h') → ∀ v, v < n → (alget st'.costs v).isSome = true := by
  have one : ∀ (q : List Bd) (x : WSt × List Bd), (∀ v, v < n → (alget x.1.costs v).isSome = true) → ∀ v, v < n → (alget (q.foldl pass1 x).1.costs v).isSome = true := by
    intro q
    induction q with
    | nil => intro x h; exact h
    | cons b q ih =>
      intro x h
      refine ih (pass1 x b) fun v hv => ?_
      unfold pass1
      cases hb : better x.1 b with
      | none => exact h v hv
      | some st =>
        obtain ⟨c, _, rfl, _⟩ := better_some hb
        show (alget (alput x.1.costs b.hi (c + b.most)) v).isSome = true
        by_cases e : v = b.hi
        · subst e; rw [alget_put_same]; rfl
        · rw [alget_put_ne _ _ e]; exact h v hv
  intro N
  induction N with
  | zero => intro st h st' h' hc e; cases e; exact hc
  | succ N ih =>
    intro st h st' h' hc e
    unfold runW at e
    have h1 := one held (st, []) hc
    by_cases hp : (pass held st).2 = []
    · rw [if_pos hp] at e
      cases e
      exact h1
    · rw [if_neg hp] at e
      exact ih _ _ _ _ h1 e
end DV
namespace DV
open PySem L2 SX
theorem loopW_gen {T : Type} {test : Slots → Sto → Res Bool} {body : Slots → Sto → SRes} {n : Nat} {v : Slots} {S : Sto} {L : SRes} (R : T → Slots → Sto → Prop) (m : T → Nat) (stop : T → Bool) (f : T → T) (s : T) (hL : loopW test body n v S = L) (r : R s v S) (hm : m s < n)
    (ht : ∀ s v S, R s v S → test v S = .ok (!stop s) S) (hb : ∀ s v S, R s v S → stop s = false → ∃ v' S', body v S = .nx v' S' ∧ R (f s) v' S' ∧ m (f s) < m s) : ∃ s' v' S', L = .nx v' S' ∧ R s' v' S' ∧ stop s' = true := by
  obtain ⟨s', v', S', e, q⟩ := loopW_rel R m stop f ht hb n s v S r hm
  exact ⟨s', v', S', hL.symm.trans e, q⟩
theorem notin_nums {S : Sto} {n a : Nat} {seen : List Nat} (h : S[n]? = some (.lst (seen.map fun k : Nat => .int k))) : cmpF .NotIn S (.int a) (.ref n) = some (!decide (a ∈ seen)) := by
  refine cmpF_of ?_
  show (inS S (.int a) (.ref n)).map (!·) = _
  unfold inS
  rw [items_ref h]
  have h1 : (seen.map fun k : Nat => D.int k).all flatD = true := by rw [List.all_map, List.all_eq_true]; intro x _; rfl
  have h2 : (seen.map fun k : Nat => D.int k).any (fun z => eqF z (.int a)) = decide (a ∈ seen) := by
    rw [List.any_map]
    induction seen with
    | nil => rfl
    | cons x l ih =>
      have hx : ((fun z => eqF z (.int a)) ∘ fun k : Nat => D.int k) x = decide (a = x) := by
        show ((x : Int) == (a : Int)) = decide (a = x)
        by_cases e : a = x
        · subst e; simp
        · have : ¬ ((x : Int) = (a : Int)) := by omega
          rw [decide_eq_false e]; simpa using this
      clear h1 h
      rw [List.any_cons, hx]
      have ih' : l.any ((fun z => eqF z (.int a)) ∘ fun k : Nat => D.int k) = decide (a ∈ l) := by
        clear hx ih
        induction l with
        | nil => rfl
        | cons y l ih =>
          rw [List.any_cons, ih]
          have hy : ((fun z => eqF z (.int a)) ∘ fun k : Nat => D.int k) y = decide (a = y) := by
            show ((y : Int) == (a : Int)) = decide (a = y)
            by_cases e : a = y
            · subst e; simp
            · have : ¬ ((y : Int) = (a : Int)) := by omega
              rw [decide_eq_false e]; simpa using this
          rw [hy]
          by_cases e1 : a = y <;> by_cases e2 : a ∈ l <;> simp [e1, e2]
      rw [ih']
      by_cases e1 : a = x <;> by_cases e2 : a ∈ l <;> simp [e1, e2]
  simp only [h1, h2, show flatD (.int (a : Int)) = true from rfl, Bool.and_self, if_true]
  rfl
end DV
end

section
set_option Elab.async false
set_option linter.all false
set_option maxRecDepth 100000
set_option autoImplicit false
set_option exponentiation.threshold 9000
/-! Lots: their parts, worth, what they cover. -/
namespace DV
open PySem L2 SX
structure LP where
  k : Nat
  b : Bool
  wt : Int
def lpW (b : Bool) : Str := if b then "least" else "most"
def LP.key (p : LP) : Nat × Bool := (p.k, p.b)
def keyT (x : Nat × Bool) : D := .tup [.int x.1, .str (lpW x.2)]
def LP.d (p : LP) : D := .tup [.int p.k, .str (lpW p.b), .int p.wt]
def lotD (ps : List LP) : D := .tup (ps.map LP.d)
theorem LP.clo (p : LP) : p.d.clo = true := rfl
theorem lotD_clo (ps : List LP) : (lotD ps).clo = true := cloL_map _ LP.clo ps
def inL (l : Ln) (x : Nat) : Bool := decide (l.lo ≤ x) && (match l.hi with
  | none => true
  | some h => decide (x < h))
def cov1 (ls : List Ln) (x : Nat) (p : LP) : Int := match ls[p.k]? with
  | some l => if inL l x then (if p.b then p.wt else -p.wt) else 0
  | none => 0
def coverI (ls : List Ln) (ps : List LP) (x : Nat) : Int := (ps.map (cov1 ls x)).sum
def wor1 (ls : List Ln) (p : LP) : Int := match ls[p.k]? with
  | some l => if p.b then p.wt * l.f.b1 else -(p.wt * (l.f.b2.getD 0))
  | none => 0
def worthI (ls : List Ln) (ps : List LP) : Int := (ps.map (wor1 ls)).sum
/-- parts of the table's tellings -/
def LotW (ls : List Ln) (ps : List LP) : Prop := ∀ p ∈ ps, ∃ l, ls[p.k]? = some l ∧ (p.b = false → ∃ m, l.f.b2 = some m) ∧ p.wt.natAbs < 2 ^ 1000
def isLotB (ps : List LP) : Bool := ps.all (fun p => decide (1 ≤ p.wt)) && decide ((ps.map LP.key).Nodup)
theorem LotW.mid {ls : List Ln} {ps : List LP} (h : LotW ls ps) : ∀ p ∈ ps, Mid p.wt := fun p hp => by
  obtain ⟨_, _, _, h3⟩ := h p hp
  exact Nat.lt_trans h3 (Nat.pow_lt_pow_right (by decide) (by decide))
theorem b_mid {f : Fm} (h : f.ok) : Mid f.b1 ∧ ∀ m, f.b2 = some m → Mid m := by
  have big : ∀ n : Nat, Big n → n < 2 ^ 3000 := fun n h => Nat.lt_trans h (by decide +kernel)
  have top : (2 : Nat) ^ 3000 * 4 < 2 ^ 4000 := by decide +kernel
  have two : ∀ (i : Int) (a r : Nat), a < 2 ^ 3000 → r < 2 ^ 3000 → i.natAbs ≤ a + r + 1 → Mid i := fun i a r h1 h2 h3 => by
    show i.natAbs < 2 ^ 4000
    generalize (2 : Nat) ^ 4000 = T at top ⊢
    generalize (2 : Nat) ^ 3000 = U at top h1 h2
    omega
  have z : (0 : Nat) < 2 ^ 3000 := Nat.pow_pos (by decide)
  cases f with
  | is_ a => exact ⟨two _ a 0 (big a h) z (by show (a : Int).natAbs ≤ _; omega), fun m e => by cases e; exact two _ a 0 (big a h) z (by show (a : Int).natAbs ≤ _; omega)⟩
  | from_ a b =>
    obtain ⟨h1, h2, h3⟩ := h
    exact ⟨two _ a 0 (big a h1) z (by show (a : Int).natAbs ≤ _; omega), fun m e => by cases e; exact two _ b 0 (big b h2) z (by show (b : Int).natAbs ≤ _; omega)⟩
  | least a => exact ⟨two _ a 0 (big a h) z (by show (a : Int).natAbs ≤ _; omega), fun m e => by cases e⟩
  | most a => exact ⟨two _ a 0 (big a h) z (by show (0 : Int).natAbs ≤ _; omega), fun m e => by cases e; exact two _ a 0 (big a h) z (by show (a : Int).natAbs ≤ _; omega)⟩
  | near a r =>
    obtain ⟨h1, h2, h3, h4⟩ := h
    have e1 : (r : Int).fdiv 2 = ((r / 2 : Nat) : Int) := by rw [Int.fdiv_eq_ediv_of_nonneg _ (by decide)]; omega
    have e2 : ((r : Int) + 1).fdiv 2 = (((r + 1) / 2 : Nat) : Int) := by rw [Int.fdiv_eq_ediv_of_nonneg _ (by decide)]; omega
    refine ⟨two _ a r (big a h1) (big r h2) ?_, fun m e => ?_⟩
    · show (max 0 ((a : Int) - (r : Int).fdiv 2)).natAbs ≤ _
      rw [e1]; omega
    · cases e
      refine two _ a r (big a h1) (big r h2) ?_
      show ((a : Int) + ((r : Int) + 1).fdiv 2 - 1).natAbs ≤ _
      rw [e2]; omega
  | under k =>
    obtain ⟨h1, h2⟩ := h
    exact ⟨two _ k 0 (big k h1) z (by show (0 : Int).natAbs ≤ _; omega), fun m e => by cases e; exact two _ k 0 (big k h1) z (by show ((k : Int) - 1).natAbs ≤ _; omega)⟩
theorem lpW_ne : lpW true ≠ lpW false := by unfold lpW; simp
theorem lpW_inj {a b : Bool} (h : lpW a = lpW b) : a = b := by
  cases a <;> cases b <;> first | rfl | exact absurd h lpW_ne | exact absurd h.symm lpW_ne
@[simp] theorem lpW_least {b : Bool} : (lpW b = Str.ofString "least") = (b = true) := by
  cases b <;> simp [lpW]
@[simp] theorem lpW_most {b : Bool} : (lpW b = Str.ofString "most") = (b = false) := by
  cases b <;> simp [lpW]
/-! keys in sets -/
def keyK (x : Nat × Bool) : List Key := [.inl (x.1 : Int), .inr (lpW x.2)]
theorem keyK_inj {x y : Nat × Bool} (h : keyK x = keyK y) : x = y := by
  unfold keyK at h
  simp only [List.cons.injEq, Sum.inl.injEq, Sum.inr.injEq, and_true] at h
  exact Prod.ext (by omega) (lpW_inj h.2)
theorem tupKeys_map : ∀ xs : List (Nat × Bool), tupKeys (xs.map keyT) = some (xs.map keyK)
  | [] => rfl
  | x :: xs => by
    show (match keysOf [.int x.1, .str (lpW x.2)], tupKeys (xs.map keyT) with | some k, some ks => some (k :: ks) | _, _ => none) = _
    rw [tupKeys_map xs]; rfl
theorem nodup_map_iff {A B : Type} {f : A → B} (hf : ∀ x y, f x = f y → x = y) (l : List A) : (l.map f).Nodup ↔ l.Nodup := by
  constructor
  · exact fun h => List.Pairwise.of_map f (fun _ _ hne e => hne (congrArg f e)) h
  · intro h
    exact List.Pairwise.map f (fun a b hne e => hne (hf a b e)) h
theorem setLen_keys {S : Sto} (xs : List (Nat × Bool)) (h : xs.length < 64) : setF "len" S (.lst (xs.map keyT)) = some (.int ((kmet (xs.map keyK)).length : Nat)) := by
  unfold setF
  have e0 : isLst S (D.lst (xs.map keyT)) = true := rfl
  have e2 : items S (D.lst (xs.map keyT)) = some (xs.map keyT) := rfl
  rw [if_pos e0, e2]
  cases xs with
  | nil => simp [intsOf, kmet]
  | cons x xs =>
    have e1 : intsOf ((x :: xs).map keyT) = none := rfl
    have e3 : ((x :: xs).map keyK).length < 64 := by rw [List.length_map]; exact h
    have e4 := tupKeys_map (x :: xs)
    generalize (x :: xs).map keyT = X at e1 e4 ⊢
    generalize (x :: xs).map keyK = Y at e3 e4 ⊢
    simp only [e1, e4]
    rw [if_pos ⟨trivial, e3⟩]
theorem keys_full (xs : List (Nat × Bool)) : (((kmet (xs.map keyK)).length : Nat) : Int) = (xs.length : Nat) ↔ xs.Nodup := by
  have h := kmet_full (ks := xs.map keyK)
  rw [nodup_map_iff (fun x y => keyK_inj), List.length_map] at h
  rw [← h]; omega
/-! borders -/
def segs (ms : List Nat) : List (Nat × Option Nat) := ms.zip (ms.tail.map some ++ [none])
def pieceD (lo : Nat) (hi : Option Nat) (c : Int) : D := .obj "Piece" ["low", "high", "cover"] [.int lo, hiD hi, .int c]
theorem pieceD_clo (lo : Nat) (hi : Option Nat) (c : Int) : (pieceD lo hi c).clo = true := by unfold pieceD; cases hi <;> rfl
theorem zip_edges : ∀ (m : Nat) (ms : List Nat), (((m :: ms).map fun k : Nat => D.int k) ++ [D.str "open"]).zip ((((m :: ms).map fun k : Nat => D.int k) ++ [D.str "open"]).drop 1) = (segs (m :: ms)).map fun s => (D.int s.1, hiD s.2)
  | m, [] => rfl
  | m, n :: ms => by
    have ih := zip_edges n ms
    unfold segs at ih ⊢
    simp only [List.map_cons, List.cons_append, List.drop_succ_cons, List.drop_zero, List.zip_cons_cons, List.tail_cons] at ih ⊢
    rw [ih]; rfl
theorem segs_fst (ms : List Nat) : (segs ms).map (·.1) = ms := by
  unfold segs
  rw [List.map_fst_zip]
  cases ms <;> simp
theorem segs_len (ms : List Nat) : (segs ms).length = ms.length := by
  have := congrArg List.length (segs_fst ms)
  simpa using this
/-- the lot shows that nothing fits -/
def clashB (ls : List Ln) (ps : List LP) : Bool := isLotB ps && (decide (1 ≤ worthI ls ps) && (marksOf (allStr ls [])).all fun x => decide (coverI ls ps x ≤ 0))
theorem sum_snoc (l : List Int) (x : Int) : (l ++ [x]).sum = l.sum + x := by simp
end DV
end

section
set_option Elab.async false
set_option linter.all false
set_option maxRecDepth 100000
set_option autoImplicit false
/-! Keys in lists. -/
namespace DV
open PySem L2 SX
def keyPy (x : Nat × Bool) : PyData := .tuple [.int x.1, .str (lpW x.2)]
theorem toPys_key : ∀ xs : List (Nat × Bool), toPys (xs.map keyT) = some (xs.map keyPy)
  | [] => rfl
  | x :: xs => by
    show (match toPy (keyT x), toPys (xs.map keyT) with | some d, some ds => some (d :: ds) | _, _ => none) = _
    rw [toPys_key xs]; rfl
theorem strOk_lpW (b : Bool) : PyData.strOk (lpW b) = true := by cases b <;> decide +kernel
theorem lay_key : ∀ xs : List (Nat × Bool), PyData.canLayAll0 (xs.map keyPy) = true ∧ PyData.depthAll (xs.map keyPy) ≤ 1
  | [] => by simp [PyData.canLayAll0, PyData.depthAll]
  | x :: xs => by
    have ih := lay_key xs
    have e1 : (keyPy x).canLay0 = true := by simp [keyPy, PyData.canLay0, PyData.canLayAll0, strOk_lpW]
    have e2 : (keyPy x).depth = 1 := by simp [keyPy, PyData.depth, PyData.depthAll]
    simp only [List.map_cons, PyData.canLayAll0, PyData.depthAll, e1, e2, ih.1]
    exact ⟨rfl, by omega⟩
theorem shaped_key (xs : List (Nat × Bool)) : SeqAt.shaped (.list (xs.map keyPy)) = true := by
  obtain ⟨h1, h2⟩ := lay_key xs
  unfold SeqAt.shaped
  simp [PyData.canLay0, h1, PyData.depth]
  omega
theorem shaped_key1 (x : Nat × Bool) : SeqAt.shaped (keyPy x) = true := by
  unfold SeqAt.shaped
  simp [keyPy, PyData.canLay0, PyData.canLayAll0, PyData.depth, PyData.depthAll, strOk_lpW]
theorem eqv_key (x y : Nat × Bool) : PyData.eqv (keyPy x) (keyPy y) = decide (x = y) := by
  unfold keyPy
  simp only [PyData.eqv, PyData.eqvAll, Bool.and_true]
  obtain ⟨a, b⟩ := x; obtain ⟨c, d⟩ := y
  have e : ((a : Int) == (c : Int)) = decide (a = c) := by
    by_cases h : a = c
    · subst h; simp
    · have : ¬ ((a : Int) = (c : Int)) := by omega
      simp [h, this]
  cases b <;> cases d <;> simp [lpW, e]
theorem in_keys {S : Sto} {n : Nat} {x : Nat × Bool} {seen : List (Nat × Bool)} (h : S[n]? = some (.lst (seen.map keyT))) : cmpF .In S (keyT x) (.ref n) = some (decide (x ∈ seen)) := by
  refine cmpF_of ?_
  show inS S (keyT x) (.ref n) = _
  unfold inS
  rw [items_ref h]
  have h0 : flatD (keyT x) = false := rfl
  have h1 : toPy (keyT x) = some (keyPy x) := rfl
  have h2 : SeqAt.shaped (keyPy x) = true := shaped_key1 x
  simp only [h0, Bool.false_and, Bool.false_eq_true, if_false, isLst_ref h, if_true, h1, toPys_key, h2, shaped_key, Bool.and_self]
  congr 1
  rw [List.any_map]
  have e : ((fun z => PyData.eqv z (keyPy x)) ∘ keyPy) = fun y => decide (y = x) := funext fun y => eqv_key y x
  rw [e]
  clear h e
  induction seen with
  | nil => rfl
  | cons y l ih =>
    rw [List.any_cons, ih]
    by_cases h : y = x
    · simp [h]
    · have : ¬ x = y := fun e => h e.symm
      simp [h, this]
theorem notin_words {S : Sto} {b : Bool} : cmpF .NotIn S (.str (lpW b)) (.lst [.str "least", .str "most"]) = some false := by
  cases b <;> rfl
/-! sorted marks -/
theorem insN_sorted (i : Nat) : ∀ l : List Nat, l.Pairwise (· ≤ ·) → (insN i l).Pairwise (· ≤ ·)
  | [], _ => by simp [insN]
  | j :: js, h => by
    rw [List.pairwise_cons] at h
    unfold insN
    split
    · rename_i hij
      rw [List.pairwise_cons, List.pairwise_cons]
      exact ⟨fun x hx => by
        rcases List.mem_cons.mp hx with rfl | hx
        · exact hij
        · exact Nat.le_trans hij (h.1 x hx), h⟩
    · rename_i hij
      rw [List.pairwise_cons]
      exact ⟨fun x hx => by
        rcases mem_insN.mp hx with rfl | hx
        · omega
        · exact h.1 x hx, insN_sorted i js h.2⟩
theorem sortN_sorted : ∀ l : List Nat, (sortN l).Pairwise (· ≤ ·)
  | [] => List.Pairwise.nil
  | i :: is => insN_sorted i _ (sortN_sorted is)
theorem sorted_uniq : ∀ (l m : List Nat), l.Pairwise (· ≤ ·) → m.Pairwise (· ≤ ·) → l.Nodup → m.Nodup → (∀ x, x ∈ l ↔ x ∈ m) → l = m
  | [], [], _, _, _, _, _ => rfl
  | [], y :: m, _, _, _, _, h => absurd ((h y).mpr List.mem_cons_self) (by simp)
  | x :: l, [], _, _, _, _, h => absurd ((h x).mp List.mem_cons_self) (by simp)
  | x :: l, y :: m, h1, h2, n1, n2, h => by
    rw [List.pairwise_cons] at h1 h2
    rw [List.nodup_cons] at n1 n2
    have e : x = y := by
      have a := (h x).mp List.mem_cons_self
      have b := (h y).mpr List.mem_cons_self
      rcases List.mem_cons.mp a with a | a
      · exact a
      · rcases List.mem_cons.mp b with b | b
        · exact b.symm
        · have := h2.1 x a
          have := h1.1 y b
          omega
    subst e
    congr 1
    refine sorted_uniq l m h1.2 h2.2 n1.2 n2.2 fun z => ?_
    constructor
    · intro hz
      rcases List.mem_cons.mp ((h z).mp (List.mem_cons_of_mem _ hz)) with q | q
      · subst q; exact absurd hz n1.1
      · exact q
    · intro hz
      rcases List.mem_cons.mp ((h z).mpr (List.mem_cons_of_mem _ hz)) with q | q
      · subst q; exact absurd hz n2.1
      · exact q
theorem kmet_map {A B : Type} [DecidableEq A] [DecidableEq B] {f : A → B} (hf : ∀ x y, f x = f y → x = y) : ∀ l m : List A, (l.map f).foldl kadd (m.map f) = (l.foldl kadd m).map f
  | [], m => rfl
  | x :: l, m => by
    have e : kadd (m.map f) (f x) = (kadd m x).map f := by
      unfold kadd
      by_cases h : x ∈ m
      · rw [if_pos h, if_pos (List.mem_map_of_mem h)]
      · rw [if_neg h, if_neg (fun q => by obtain ⟨y, hy, e⟩ := List.mem_map.mp q; rw [hf _ _ e] at hy; exact h hy)]; rfl
    rw [List.map_cons, List.foldl_cons, e, List.foldl_cons]
    exact kmet_map hf l (kadd m x)
theorem sortI_kmet (l : List Nat) : sortI (kmet (l.map fun (x : Nat) => (x : Int))) = (sortN (kmet l)).map fun (x : Nat) => (x : Int) := by
  rw [← sortN_cast]
  congr 1
  exact kmet_map (f := fun (x : Nat) => (x : Int)) (fun x y h => by omega) l []
/-- the marks, with doubles -/
def strM (s : Strt) : List Nat := s.1 :: s.2.toList
def rawM (ss : List Strt) : List Nat := 0 :: ss.flatMap strM
theorem rawM_snoc (p : List Strt) (s : Strt) : rawM (p ++ [s]) = rawM p ++ strM s := by simp [rawM]
theorem strM_len (s : Strt) : (strM s).length ≤ 2 := by unfold strM; cases s.2 <;> simp
theorem rawM_len : ∀ ss : List Strt, (rawM ss).length ≤ 1 + 2 * ss.length := by
  intro ss
  unfold rawM
  induction ss with
  | nil => simp
  | cons s ss ih =>
    have := strM_len s
    simp only [List.flatMap_cons, List.length_cons, List.length_append] at ih ⊢
    omega
theorem sort_raw (ss : List Strt) : sortN (kmet (rawM ss)) = marksOf ss := by
  obtain ⟨mN, mM, mL, mP⟩ := marks_facts ss
  refine sorted_uniq _ _ (sortN_sorted _) (sortN_sorted _) (sortN_nodup (kmet_nodup _)) mN fun x => ?_
  rw [mem_sortN, mem_kmet, mM]
  unfold rawM
  rw [List.mem_cons, List.mem_flatMap]
  constructor
  · rintro (h | ⟨s, hs, h⟩)
    · exact .inl h
    · refine .inr ⟨s, hs, ?_⟩
      unfold strM at h
      rcases List.mem_cons.mp h with h | h
      · exact .inl h
      · exact .inr (by simpa using h)
  · rintro (h | ⟨s, hs, h⟩)
    · exact .inl h
    · refine .inr ⟨s, hs, ?_⟩
      unfold strM
      rcases h with h | h
      · rw [h]; exact List.mem_cons_self
      · exact List.mem_cons_of_mem _ (by simpa using h)
theorem set_raw {S : Sto} (ss : List Strt) (h : ss.length ≤ 20) : setF "sorted" S (.lst ((rawM ss).map fun k : Nat => .int k)) = some (.lst ((marksOf ss).map fun k : Nat => .int k)) := by
  have hl := rawM_len ss
  have e1 : intsOf ((rawM ss).map fun k : Nat => D.int k) = some ((rawM ss).map fun (x : Nat) => (x : Int)) := intsOf_map (fun (x : Nat) => (x : Int)) (rawM ss)
  unfold setF
  have e0 : ∀ xs : List D, isLst S (.lst xs) = true := fun _ => rfl
  have e2 : ∀ xs : List D, items S (.lst xs) = some xs := fun _ => rfl
  rw [if_pos (e0 _), e2]
  simp only [e1]
  rw [if_pos (by simp; omega), if_neg (by simp), if_pos trivial, sortI_kmet, sort_raw, List.map_map]
  rfl
theorem segs_at {ms : List Nat} {k : Nat} (h : k < ms.length) : (segs ms)[k]? = some (ms[k], ms[k + 1]?) := by
  unfold segs
  rw [List.getElem?_zip_eq_some]
  refine ⟨List.getElem?_eq_getElem h, ?_⟩
  by_cases hk : k + 1 < ms.length
  · rw [List.getElem?_append_left (by simp; omega), List.getElem?_map, List.getElem?_tail, List.getElem?_eq_getElem hk]; rfl
  · rw [List.getElem?_append_right (by simp; omega), List.getElem?_eq_none (by omega : ms.length ≤ k + 1)]
    have : k - (List.map some ms.tail).length = 0 := by simp; omega
    rw [this]; rfl
@[simp] theorem add_lst {xs ys : List D} : binop .Add (.lst xs) (.lst ys) = if xs.length + ys.length ≤ sizeLine then some (.lst (xs ++ ys)) else none := rfl
theorem isLotB_snoc (p : List LP) (x : LP) : isLotB (p ++ [x]) = (isLotB p && (decide (1 ≤ x.wt) && !decide (x.key ∈ p.map LP.key))) := by
  unfold isLotB
  simp only [List.all_append, List.all_cons, List.all_nil, Bool.and_true, List.map_append, List.map_cons, List.map_nil]
  have e : decide ((p.map LP.key ++ [x.key]).Nodup) = (decide ((p.map LP.key).Nodup) && !decide (x.key ∈ p.map LP.key)) := by
    rw [← decide_not, ← Bool.decide_and]
    congr 1
    rw [List.nodup_append]
    simp
  rw [e]
  cases p.all (fun p => decide (1 ≤ p.wt)) <;> cases decide ((p.map LP.key).Nodup) <;> cases decide (1 ≤ x.wt) <;> rfl
theorem isLotB_pre (p q : List LP) (h : isLotB (p ++ q) = true) : isLotB p = true := by
  unfold isLotB at h ⊢
  rw [Bool.and_eq_true, decide_eq_true_eq, List.all_append, Bool.and_eq_true, List.map_append, List.nodup_append] at h
  rw [Bool.and_eq_true, decide_eq_true_eq]
  exact ⟨h.1.1, h.2.1⟩
end DV
end

section
set_option Elab.async false
set_option linter.all false
set_option maxRecDepth 100000
set_option maxHeartbeats 0
namespace K74
open PySem L2 DV
def top (i : Nat) : Stmt := PySem.Challenge.pw_unlikebins_k74_clashes_judged.main.body.getD i (.Pass ⟨0, 0, 0, 0⟩)
def d0 : DefS := ⟨"_law_draw", (top 71), .fn, ["_law_well_here", "_law_many", "_law_seed", "_law_digit"], ["_law_well_here", "_law_many"], [], ["_law_well_here"], false, true, true, []⟩
def d1 : DefS := ⟨"Table.__str__", (inClass (top 30) 8), (.meth "Table" "__str__"), ["self"], ["self"], [], [], false, true, true, []⟩
def d2 : DefS := ⟨"Table.__len__", (inClass (top 30) 6), (.meth "Table" "__len__"), ["self"], ["self"], [], [], false, true, true, []⟩
def d3 : DefS := ⟨"written_count", (top 12), .fn, ["word", "sign"], ["word"], [], [], false, true, true, []⟩
def d4 : DefS := ⟨"is_integer", (top 10), .fn, ["value"], ["value"], [], [], false, true, true, []⟩
def d5 : DefS := ⟨"is_high", (top 13), .fn, ["value", "low"], ["value", "low"], [], [], false, true, true, []⟩
def d6 : DefS := ⟨"written_stretch", (top 15), .fn, ["words", "low", "high"], ["words"], [], [], false, true, true, []⟩
def d7 : DefS := ⟨"near_bounds", (top 25), .fn, ["count", "step"], ["count", "step"], [], [], false, true, true, []⟩
def d8 : DefS := ⟨"one_number", (top 26), .fn, ["word", "number"], ["word", "number"], [], [], false, true, true, []⟩
def d9 : DefS := ⟨"written_bounds", (top 27), .fn, ["words", "number", "first", "second"], ["words"], [], [], false, true, true, []⟩
def d10 : DefS := ⟨"Telling.__init__", (inClass (top 24) 0), (.meth "Telling" "__init__"), ["self", "low", "high", "least", "most"], ["self", "low", "high", "least", "most"], [], [], false, false, false, []⟩
def d11 : DefS := ⟨"telling_of", (top 28), .fn, ["value", "words", "stretch", "bounds"], ["value"], [], [], false, true, true, []⟩
def d12 : DefS := ⟨"check_tellings", (top 29), .fn, ["value", "at", "line"], ["value"], [], [], false, true, true, []⟩
def d13 : DefS := ⟨"Table.__init__", (inClass (top 30) 1), (.meth "Table" "__init__"), ["self", "tellings", "line"], ["self", "tellings"], [], [], false, false, false, []⟩
def d14 : DefS := ⟨"Table.__eq__", (inClass (top 30) 7), (.meth "Table" "__eq__"), ["self", "other"], ["self", "other"], [], [], false, true, true, []⟩
def d15 : DefS := ⟨"_law_how", (top 75), .fn, ["_law_well_here", "_law_amount", "_law_way", "_law_a", "_law_half"], ["_law_well_here", "_law_amount"], [], [], false, true, true, []⟩
def d16 : DefS := ⟨"_law_lines", (top 76), .fn, ["_law_well_here", "_law_many", "_law_most", "_law_turn", "_law_found", "_law_step", "_law_things", "_law_at", "_law_lo", "_law_hi", "_law_end", "_law_how_here"], ["_law_well_here", "_law_many", "_law_most"], [], ["_law_things", "_law_found"], false, true, true, []⟩
def d17 : DefS := ⟨"Table.__repr__", (inClass (top 30) 9), (.meth "Table" "__repr__"), ["self"], ["self"], [], [], false, true, true, []⟩
def d18 : DefS := ⟨"check_table", (top 32), .fn, ["value"], ["value"], [], [], false, true, true, []⟩
def d19 : DefS := ⟨"Ways.ring", (inClass (top 20) 4), (.meth "Ways" "ring"), ["self", "at", "seen", "found", "here"], ["self"], [], ["seen", "found"], false, true, true, []⟩
def d20 : DefS := ⟨"lot_of", (top 21), .fn, ["bounds", "bound"], ["bounds"], [], [], false, true, true, []⟩
def d21 : DefS := ⟨"Points.size", (inClass (top 19) 2), (.meth "Points" "size"), ["self"], ["self"], [], [], false, true, true, []⟩
def d22 : DefS := ⟨"Ways.is_better", (inClass (top 20) 1), (.meth "Ways" "is_better"), ["self", "bound", "cost"], ["self", "bound"], [], [], false, true, true, []⟩
def d23 : DefS := ⟨"Ways.__init__", (inClass (top 20) 0), (.meth "Ways" "__init__"), ["self", "points", "begin", "size", "turn", "at", "bound"], ["self", "points", "begin"], [], [], false, false, false, []⟩
def d24 : DefS := ⟨"Bound.__init__", (inClass (top 18) 0), (.meth "Bound" "__init__"), ["self", "low", "high", "most", "source"], ["self", "low", "high", "most", "source"], [], [], false, false, false, []⟩
def d25 : DefS := ⟨"Points.add", (inClass (top 19) 1), (.meth "Points" "add"), ["self", "low", "high", "least", "most", "index"], ["self", "low", "high", "least", "most", "index"], [], [], false, true, true, []⟩
def d26 : DefS := ⟨"Points.__init__", (inClass (top 19) 0), (.meth "Points" "__init__"), ["self", "told", "stretches", "marks", "low", "high", "index", "telling", "at", "mark"], ["self", "told", "stretches"], [(.tup [])], ["marks", "self"], false, false, false, []⟩
def d27 : DefS := ⟨"clash_of", (top 67), .fn, ["told", "ring"], ["told"], [], [], false, true, true, []⟩
def d28 : DefS := ⟨"clash", (top 68), .fn, ["table"], ["table"], [], [], false, true, true, []⟩
def d29 : DefS := ⟨"_law_pick", (top 72), .fn, ["_law_well_here", "_law_choices"], ["_law_well_here", "_law_choices"], [], [], false, true, true, []⟩
def d30 : DefS := ⟨"_law_bent", (top 81), .fn, ["_law_well_here", "_law_said_here", "_law_lot_here", "_law_at", "_law_way", "_law_k", "_law_word", "_law_weight", "_law_fresh", "_law_other", "_law_index_part", "_law_part", "_law_amount_here"], ["_law_well_here", "_law_said_here", "_law_lot_here"], [], [], false, true, true, []⟩
def d31 : DefS := ⟨"_law_int", (top 77), .fn, ["_law_thing"], ["_law_thing"], [], [], false, true, true, []⟩
def d32 : DefS := ⟨"_law_is_lot", (top 78), .fn, ["_law_said_here", "_law_thing", "_law_seen", "_law_part"], ["_law_said_here", "_law_thing"], [], ["_law_seen"], false, true, true, []⟩
def d33 : DefS := ⟨"text_table", (top 31), .fn, ["value", "lines", "line"], ["value"], [], [], false, true, true, []⟩
def d34 : DefS := ⟨"is_count", (top 11), .fn, ["value"], ["value"], [], [], false, true, true, []⟩
def d35 : DefS := ⟨"is_stretch", (top 14), .fn, ["low", "high"], ["low", "high"], [], [], false, true, true, []⟩
def d36 : DefS := ⟨"lowest_terms", (top 16), .fn, ["top", "bottom", "one", "other"], ["top", "bottom"], [], [], false, true, true, []⟩
def d37 : DefS := ⟨"is_triple", (top 35), .fn, ["value", "part"], ["value"], [], [], false, true, true, []⟩
def d38 : DefS := ⟨"is_data", (top 36), .fn, ["value", "one", "other", "part"], ["value"], [], [], false, true, true, []⟩
def d39 : DefS := ⟨"lies_in", (top 37), .fn, ["triple", "low", "high"], ["triple", "low", "high"], [], [], false, true, true, []⟩
def d40 : DefS := ⟨"count_in", (top 38), .fn, ["data", "low", "high", "triple"], ["data", "low", "high"], [], [], false, true, true, []⟩
def d41 : DefS := ⟨"does_fit", (top 39), .fn, ["table", "data", "telling", "found"], ["table", "data"], [], [], false, true, true, []⟩
def d42 : DefS := ⟨"shows_possible", (top 50), .fn, ["table", "claim", "certificate"], ["table", "claim", "certificate"], [], [], false, true, true, []⟩
def d43 : DefS := ⟨"is_part", (top 43), .fn, ["table", "value"], ["table", "value"], [], [], false, true, true, []⟩
def d44 : DefS := ⟨"is_lot", (top 44), .fn, ["table", "value", "part"], ["table", "value"], [], [], false, true, true, []⟩
def d45 : DefS := ⟨"worth", (top 45), .fn, ["table", "lot", "found", "index", "word", "weight", "telling"], ["table", "lot"], [], [], false, true, true, []⟩
def d46 : DefS := ⟨"Piece.__init__", (inClass (top 47) 0), (.meth "Piece" "__init__"), ["self", "low", "high", "cover"], ["self", "low", "high", "cover"], [], [], false, false, false, []⟩
def d47 : DefS := ⟨"covers", (top 46), .fn, ["table", "lot", "low", "found", "index", "word", "weight", "telling"], ["table", "lot", "low"], [], [], false, true, true, []⟩
def d48 : DefS := ⟨"pieces", (top 48), .fn, ["table", "lot", "stretches", "ends", "marks", "edges", "low", "high", "telling"], ["table", "lot", "stretches"], [], ["marks"], false, true, true, []⟩
def d49 : DefS := ⟨"shows_clash", (top 51), .fn, ["table", "claim", "certificate", "piece"], ["table", "claim", "certificate"], [], [], false, true, true, []⟩
def d50 : DefS := ⟨"is_bound", (top 52), .fn, ["value"], ["value"], [], [], false, true, true, []⟩
def d51 : DefS := ⟨"is_pair_of_lots", (top 53), .fn, ["table", "value", "part"], ["table", "value"], [], [], false, true, true, []⟩
def d52 : DefS := ⟨"Piece.lies_in", (inClass (top 47) 1), (.meth "Piece" "lies_in"), ["self", "low", "high"], ["self", "low", "high"], [], [], false, true, true, []⟩
def d53 : DefS := ⟨"is_below", (top 49), .fn, ["table", "lot", "stretch", "most", "found", "piece"], ["table", "lot", "stretch", "most"], [], [], false, true, true, []⟩
def d54 : DefS := ⟨"shows_count", (top 54), .fn, ["table", "claim", "certificate", "stretch", "least", "most", "one", "two"], ["table", "claim", "certificate"], [], [], false, true, true, []⟩
def d55 : DefS := ⟨"is_high_piece", (top 56), .fn, ["piece", "stretch"], ["piece", "stretch"], [], [], false, true, true, []⟩
def d56 : DefS := ⟨"is_low_piece", (top 55), .fn, ["piece", "stretch"], ["piece", "stretch"], [], [], false, true, true, []⟩
def d57 : DefS := ⟨"shows_sum", (top 57), .fn, ["table", "claim", "certificate", "stretch", "least", "most", "one", "two", "piece"], ["table", "claim", "certificate"], [], [], false, true, true, []⟩
def d58 : DefS := ⟨"is_fraction", (top 59), .fn, ["top", "bottom"], ["top", "bottom"], [], [], false, true, true, []⟩
def d59 : DefS := ⟨"is_lot_with_extra", (top 58), .fn, ["table", "value"], ["table", "value"], [], [], false, true, true, []⟩
def d60 : DefS := ⟨"shows_mean", (top 60), .fn, ["table", "claim", "certificate", "piece", "stretch", "top", "bottom", "lot", "extra"], ["table", "claim", "certificate"], [], [], false, true, true, []⟩
def d61 : DefS := ⟨"contains", (top 62), .fn, ["outer", "inner"], ["outer", "inner"], [], [], false, true, true, []⟩
def d62 : DefS := ⟨"share_price", (top 61), .fn, ["piece", "inner", "outer", "top", "bottom", "extra"], ["piece", "inner", "outer", "top", "bottom", "extra"], [], [], false, true, true, []⟩
def d63 : DefS := ⟨"shows_share", (top 63), .fn, ["table", "claim", "certificate", "piece", "inner", "outer", "top", "bottom", "lot", "extra"], ["table", "claim", "certificate"], [], [], false, true, true, []⟩
def d64 : DefS := ⟨"accepts", (top 65), .fn, ["claim", "certificate", "table"], ["claim", "certificate"], [], [], false, true, true, [["certificate", "claim"]]⟩
def d65 : DefS := ⟨"_law_bounds", (top 73), .fn, ["_law_words", "_law_a", "_law_half"], ["_law_words"], [], [], false, true, true, []⟩
def d66 : DefS := ⟨"_law_said", (top 74), .fn, ["_law_line", "_law_words"], ["_law_line"], [], [], false, true, true, []⟩
def d67 : DefS := ⟨"_law_worth", (top 79), .fn, ["_law_said_here", "_law_lot_here", "_law_found", "_law_k", "_law_word", "_law_weight", "_law_bound"], ["_law_said_here", "_law_lot_here"], [], [], false, true, true, []⟩
def d68 : DefS := ⟨"_law_pieces", (top 80), .fn, ["_law_said_here", "_law_lot_here", "_law_stretches", "_law_marks", "_law_line", "_law_k", "_law_lo", "_law_hi", "_law_found", "_law_cover", "_law_at", "_law_word", "_law_weight"], ["_law_said_here", "_law_lot_here", "_law_stretches"], [], ["_law_found"], false, true, true, []⟩
def d69 : DefS := ⟨"_law_right", (top 82), .fn, ["_law_well_here", "_law_turn", "_law_lines_here", "_law_lot_here", "_law_again", "_law_asked", "_law_due", "_law_said_here", "_law_line", "_law_piece"], ["_law_well_here"], [], [], false, true, true, []⟩
def d70 : DefS := ⟨"_law_well", (top 70), .fn, ["_law_script", "_law_spot", "_law_state", "_law_cell", "_law_own"], ["_law_script", "_law_spot"], [], [], true, false, false, []⟩
def d71 : DefS := ⟨"law", (top 83), .fn, ["_law_script", "_law_spot"], ["_law_script"], [], [], false, true, true, []⟩
def dl : List DefS := [d0, d1, d2, d3, d4, d5, d6, d7, d8, d9, d10, d11, d12, d13, d14, d15, d16, d17, d18, d19, d20, d21, d22, d23, d24, d25, d26, d27, d28, d29, d30, d31, d32, d33, d34, d35, d36, d37, d38, d39, d40, d41, d42, d43, d44, d45, d46, d47, d48, d49, d50, d51, d52, d53, d54, d55, d56, d57, d58, d59, d60, d61, d62, d63, d64, d65, d66, d67, d68, d69, d70]
def dlaw : DefS := d71
def dlist : List DefS := [d0, d1, d2, d3, d4, d5, d6, d7, d8, d9, d10, d11, d12, d13, d14, d15, d16, d17, d18, d19, d20, d21, d22, d23, d24, d25, d26, d27, d28, d29, d30, d31, d32, d33, d34, d35, d36, d37, d38, d39, d40, d41, d42, d43, d44, d45, d46, d47, d48, d49, d50, d51, d52, d53, d54, d55, d56, d57, d58, d59, d60, d61, d62, d63, d64, d65, d66, d67, d68, d69, d70, d71]
theorem dlist_eq : dlist = dl ++ [dlaw] := rfl
def globs : List (Str × D) := [
  ("DIGITS", (.str "0123456789")),
  ("OPEN", (.str "open")),
  ("MOST_TELLINGS", (.int 12)),
  ("ENDLESS", (.str "endless")),
  ("SHAPES", (.kd ["possible", "clash", "count", "sum", "mean", "share"] [(.int 2), (.int 2), (.int 6), (.int 6), (.int 6), (.int 8)])),
  ("SHOWS", (.kd ["possible", "clash", "count", "sum", "mean", "share"] [(.fn "shows_possible"), (.fn "shows_clash"), (.fn "shows_count"), (.fn "shows_sum"), (.fn "shows_mean"), (.fn "shows_share")]))]
def clss : List (Str × ClI) := [
  ("Bound", ⟨false, false, true, ["low", "high", "most", "source"]⟩),
  ("Points", ⟨false, false, true, ["marks", "places", "held"]⟩),
  ("Ways", ⟨false, false, true, ["begin", "costs", "last", "helped"]⟩),
  ("Telling", ⟨false, false, true, ["low", "high", "least", "most"]⟩),
  ("Table", ⟨true, true, true, ["shape", "told"]⟩),
  ("Piece", ⟨false, false, true, ["low", "high", "cover"]⟩)]
def frees : List Str := ["abs", "all", "bool", "divmod", "enumerate", "int", "isinstance", "len", "list", "max", "min", "range", "repr", "set", "sorted", "str", "sum", "tuple", "zip"]
def slo : Slo := clss.filterMap fun p => if p.2.slots then some (p.1, p.2.flds) else none
theorem f_d0 : DefF d0 := ⟨⟨rfl, rfl, rfl, by decide +kernel, rfl, by decide +kernel, by decide +kernel⟩, fun _ _ _ _ _ _ _ us hl => match us, hl with | [_, _], _ => rfl, by decide, (fun h => absurd rfl h), (fun h => absurd rfl h)⟩
theorem f_d1 : DefF d1 := ⟨⟨rfl, rfl, rfl, by decide +kernel, rfl, by decide +kernel, by decide +kernel⟩, fun _ _ _ _ _ _ _ us hl => match us, hl with | [_], _ => rfl, by decide, (fun h => absurd rfl h), (fun h => absurd rfl h)⟩
theorem f_d2 : DefF d2 := ⟨⟨rfl, rfl, rfl, by decide +kernel, rfl, by decide +kernel, by decide +kernel⟩, fun _ _ _ _ _ _ _ us hl => match us, hl with | [_], _ => rfl, by decide, (fun h => absurd rfl h), (fun h => absurd rfl h)⟩
theorem f_d3 : DefF d3 := ⟨⟨rfl, rfl, rfl, by decide +kernel, rfl, by decide +kernel, by decide +kernel⟩, fun _ _ _ _ _ _ _ us hl => match us, hl with | [_], _ => rfl, by decide, (fun h => absurd rfl h), (fun h => absurd rfl h)⟩
theorem f_d4 : DefF d4 := ⟨⟨rfl, rfl, rfl, by decide +kernel, rfl, by decide +kernel, by decide +kernel⟩, fun _ _ _ _ _ _ _ us hl => match us, hl with | [_], _ => rfl, by decide, (fun h => absurd rfl h), (fun h => absurd rfl h)⟩
theorem f_d5 : DefF d5 := ⟨⟨rfl, rfl, rfl, by decide +kernel, rfl, by decide +kernel, by decide +kernel⟩, fun _ _ _ _ _ _ _ us hl => match us, hl with | [_, _], _ => rfl, by decide, (fun h => absurd rfl h), (fun h => absurd rfl h)⟩
theorem f_d6 : DefF d6 := ⟨⟨rfl, rfl, rfl, by decide +kernel, rfl, by decide +kernel, by decide +kernel⟩, fun _ _ _ _ _ _ _ us hl => match us, hl with | [_], _ => rfl, by decide, (fun h => absurd rfl h), (fun h => absurd rfl h)⟩
theorem f_d7 : DefF d7 := ⟨⟨rfl, rfl, rfl, by decide +kernel, rfl, by decide +kernel, by decide +kernel⟩, fun _ _ _ _ _ _ _ us hl => match us, hl with | [_, _], _ => rfl, by decide, (fun h => absurd rfl h), (fun h => absurd rfl h)⟩
theorem f_d8 : DefF d8 := ⟨⟨rfl, rfl, rfl, by decide +kernel, rfl, by decide +kernel, by decide +kernel⟩, fun _ _ _ _ _ _ _ us hl => match us, hl with | [_, _], _ => rfl, by decide, (fun h => absurd rfl h), (fun h => absurd rfl h)⟩
theorem f_d9 : DefF d9 := ⟨⟨rfl, rfl, rfl, by decide +kernel, rfl, by decide +kernel, by decide +kernel⟩, fun _ _ _ _ _ _ _ us hl => match us, hl with | [_], _ => rfl, by decide, (fun h => absurd rfl h), (fun h => absurd rfl h)⟩
theorem f_d10 : DefF d10 := ⟨⟨rfl, rfl, rfl, by decide +kernel, rfl, by decide +kernel, by decide +kernel⟩, fun _ _ _ _ _ _ _ us hl => match us, hl with | [_, _, _, _, _], _ => rfl, by decide, (fun h => absurd rfl h), (fun h => absurd rfl h)⟩
theorem f_d11 : DefF d11 := ⟨⟨rfl, rfl, rfl, by decide +kernel, rfl, by decide +kernel, by decide +kernel⟩, fun _ _ _ _ _ _ _ us hl => match us, hl with | [_], _ => rfl, by decide, (fun h => absurd rfl h), (fun h => absurd rfl h)⟩
theorem f_d12 : DefF d12 := ⟨⟨rfl, rfl, rfl, by decide +kernel, rfl, by decide +kernel, by decide +kernel⟩, fun _ _ _ _ _ _ _ us hl => match us, hl with | [_], _ => rfl, by decide, (fun h => absurd rfl h), (fun h => absurd rfl h)⟩
theorem f_d13 : DefF d13 := ⟨⟨rfl, rfl, rfl, by decide +kernel, rfl, by decide +kernel, by decide +kernel⟩, fun _ _ _ _ _ _ _ us hl => match us, hl with | [_, _], _ => rfl, by decide, (fun h => absurd rfl h), (fun h => absurd rfl h)⟩
theorem f_d14 : DefF d14 := ⟨⟨rfl, rfl, rfl, by decide +kernel, rfl, by decide +kernel, by decide +kernel⟩, fun _ _ _ _ _ _ _ us hl => match us, hl with | [_, _], _ => rfl, by decide, (fun h => absurd rfl h), (fun h => absurd rfl h)⟩
theorem f_d15 : DefF d15 := ⟨⟨rfl, rfl, rfl, by decide +kernel, rfl, by decide +kernel, by decide +kernel⟩, fun _ _ _ _ _ _ _ us hl => match us, hl with | [_, _], _ => rfl, by decide, (fun h => absurd rfl h), (fun h => absurd rfl h)⟩
theorem f_d16 : DefF d16 := ⟨⟨rfl, rfl, rfl, by decide +kernel, rfl, by decide +kernel, by decide +kernel⟩, fun _ _ _ _ _ _ _ us hl => match us, hl with | [_, _, _], _ => rfl, by decide, (fun h => absurd rfl h), (fun h => absurd rfl h)⟩
theorem f_d17 : DefF d17 := ⟨⟨rfl, rfl, rfl, by decide +kernel, rfl, by decide +kernel, by decide +kernel⟩, fun _ _ _ _ _ _ _ us hl => match us, hl with | [_], _ => rfl, by decide, (fun h => absurd rfl h), (fun h => absurd rfl h)⟩
theorem f_d18 : DefF d18 := ⟨⟨rfl, rfl, rfl, by decide +kernel, rfl, by decide +kernel, by decide +kernel⟩, fun _ _ _ _ _ _ _ us hl => match us, hl with | [_], _ => rfl, by decide, (fun h => absurd rfl h), (fun h => absurd rfl h)⟩
theorem f_d19 : DefF d19 := ⟨⟨rfl, rfl, rfl, by decide +kernel, rfl, by decide +kernel, by decide +kernel⟩, fun _ _ _ _ _ _ _ us hl => match us, hl with | [_], _ => rfl, by decide, (fun h => absurd rfl h), (fun h => absurd rfl h)⟩
theorem f_d20 : DefF d20 := ⟨⟨rfl, rfl, rfl, by decide +kernel, rfl, by decide +kernel, by decide +kernel⟩, fun _ _ _ _ _ _ _ us hl => match us, hl with | [_], _ => rfl, by decide, (fun h => absurd rfl h), (fun h => absurd rfl h)⟩
theorem f_d21 : DefF d21 := ⟨⟨rfl, rfl, rfl, by decide +kernel, rfl, by decide +kernel, by decide +kernel⟩, fun _ _ _ _ _ _ _ us hl => match us, hl with | [_], _ => rfl, by decide, (fun h => absurd rfl h), (fun h => absurd rfl h)⟩
theorem f_d22 : DefF d22 := ⟨⟨rfl, rfl, rfl, by decide +kernel, rfl, by decide +kernel, by decide +kernel⟩, fun _ _ _ _ _ _ _ us hl => match us, hl with | [_, _], _ => rfl, by decide, (fun h => absurd rfl h), (fun h => absurd rfl h)⟩
theorem f_d23 : DefF d23 := ⟨⟨rfl, rfl, rfl, by decide +kernel, rfl, by decide +kernel, by decide +kernel⟩, fun _ _ _ _ _ _ _ us hl => match us, hl with | [_, _, _], _ => rfl, by decide, (fun h => absurd rfl h), (fun h => absurd rfl h)⟩
theorem f_d24 : DefF d24 := ⟨⟨rfl, rfl, rfl, by decide +kernel, rfl, by decide +kernel, by decide +kernel⟩, fun _ _ _ _ _ _ _ us hl => match us, hl with | [_, _, _, _, _], _ => rfl, by decide, (fun h => absurd rfl h), (fun h => absurd rfl h)⟩
theorem f_d25 : DefF d25 := ⟨⟨rfl, rfl, rfl, by decide +kernel, rfl, by decide +kernel, by decide +kernel⟩, fun _ _ _ _ _ _ _ us hl => match us, hl with | [_, _, _, _, _, _], _ => rfl, by decide, (fun h => absurd rfl h), (fun h => absurd rfl h)⟩
theorem f_d26 : DefF d26 := ⟨⟨rfl, rfl, rfl, by decide +kernel, rfl, by decide +kernel, by decide +kernel⟩, (fun h => by cases h), by decide, (by
    intro _ j hj T kV doc pm an cdv ct us its h1 h2
    have hj : j ≤ 1 := hj
    have h2 : its.length = 1 := h2
    obtain rfl | rfl : j = 0 ∨ j = 1 := by omega
    · match us, its, h1, h2 with
      | [_, _], [_], _, _ => exact ⟨_, rfl, rfl⟩
    · match us, its, h1, h2 with
      | [_, _, _], [_], _, _ => exact ⟨_, rfl, rfl⟩
    ), (fun h => absurd rfl h)⟩
theorem f_d27 : DefF d27 := ⟨⟨rfl, rfl, rfl, by decide +kernel, rfl, by decide +kernel, by decide +kernel⟩, fun _ _ _ _ _ _ _ us hl => match us, hl with | [_], _ => rfl, by decide, (fun h => absurd rfl h), (fun h => absurd rfl h)⟩
theorem f_d28 : DefF d28 := ⟨⟨rfl, rfl, rfl, by decide +kernel, rfl, by decide +kernel, by decide +kernel⟩, fun _ _ _ _ _ _ _ us hl => match us, hl with | [_], _ => rfl, by decide, (fun h => absurd rfl h), (fun h => absurd rfl h)⟩
theorem f_d29 : DefF d29 := ⟨⟨rfl, rfl, rfl, by decide +kernel, rfl, by decide +kernel, by decide +kernel⟩, fun _ _ _ _ _ _ _ us hl => match us, hl with | [_, _], _ => rfl, by decide, (fun h => absurd rfl h), (fun h => absurd rfl h)⟩
theorem f_d30 : DefF d30 := ⟨⟨rfl, rfl, rfl, by decide +kernel, rfl, by decide +kernel, by decide +kernel⟩, fun _ _ _ _ _ _ _ us hl => match us, hl with | [_, _, _], _ => rfl, by decide, (fun h => absurd rfl h), (fun h => absurd rfl h)⟩
theorem f_d31 : DefF d31 := ⟨⟨rfl, rfl, rfl, by decide +kernel, rfl, by decide +kernel, by decide +kernel⟩, fun _ _ _ _ _ _ _ us hl => match us, hl with | [_], _ => rfl, by decide, (fun h => absurd rfl h), (fun h => absurd rfl h)⟩
theorem f_d32 : DefF d32 := ⟨⟨rfl, rfl, rfl, by decide +kernel, rfl, by decide +kernel, by decide +kernel⟩, fun _ _ _ _ _ _ _ us hl => match us, hl with | [_, _], _ => rfl, by decide, (fun h => absurd rfl h), (fun h => absurd rfl h)⟩
theorem f_d33 : DefF d33 := ⟨⟨rfl, rfl, rfl, by decide +kernel, rfl, by decide +kernel, by decide +kernel⟩, fun _ _ _ _ _ _ _ us hl => match us, hl with | [_], _ => rfl, by decide, (fun h => absurd rfl h), (fun h => absurd rfl h)⟩
theorem f_d34 : DefF d34 := ⟨⟨rfl, rfl, rfl, by decide +kernel, rfl, by decide +kernel, by decide +kernel⟩, fun _ _ _ _ _ _ _ us hl => match us, hl with | [_], _ => rfl, by decide, (fun h => absurd rfl h), (fun h => absurd rfl h)⟩
theorem f_d35 : DefF d35 := ⟨⟨rfl, rfl, rfl, by decide +kernel, rfl, by decide +kernel, by decide +kernel⟩, fun _ _ _ _ _ _ _ us hl => match us, hl with | [_, _], _ => rfl, by decide, (fun h => absurd rfl h), (fun h => absurd rfl h)⟩
theorem f_d36 : DefF d36 := ⟨⟨rfl, rfl, rfl, by decide +kernel, rfl, by decide +kernel, by decide +kernel⟩, fun _ _ _ _ _ _ _ us hl => match us, hl with | [_, _], _ => rfl, by decide, (fun h => absurd rfl h), (fun h => absurd rfl h)⟩
theorem f_d37 : DefF d37 := ⟨⟨rfl, rfl, rfl, by decide +kernel, rfl, by decide +kernel, by decide +kernel⟩, fun _ _ _ _ _ _ _ us hl => match us, hl with | [_], _ => rfl, by decide, (fun h => absurd rfl h), (fun h => absurd rfl h)⟩
theorem f_d38 : DefF d38 := ⟨⟨rfl, rfl, rfl, by decide +kernel, rfl, by decide +kernel, by decide +kernel⟩, fun _ _ _ _ _ _ _ us hl => match us, hl with | [_], _ => rfl, by decide, (fun h => absurd rfl h), (fun h => absurd rfl h)⟩
theorem f_d39 : DefF d39 := ⟨⟨rfl, rfl, rfl, by decide +kernel, rfl, by decide +kernel, by decide +kernel⟩, fun _ _ _ _ _ _ _ us hl => match us, hl with | [_, _, _], _ => rfl, by decide, (fun h => absurd rfl h), (fun h => absurd rfl h)⟩
theorem f_d40 : DefF d40 := ⟨⟨rfl, rfl, rfl, by decide +kernel, rfl, by decide +kernel, by decide +kernel⟩, fun _ _ _ _ _ _ _ us hl => match us, hl with | [_, _, _], _ => rfl, by decide, (fun h => absurd rfl h), (fun h => absurd rfl h)⟩
theorem f_d41 : DefF d41 := ⟨⟨rfl, rfl, rfl, by decide +kernel, rfl, by decide +kernel, by decide +kernel⟩, fun _ _ _ _ _ _ _ us hl => match us, hl with | [_, _], _ => rfl, by decide, (fun h => absurd rfl h), (fun h => absurd rfl h)⟩
theorem f_d42 : DefF d42 := ⟨⟨rfl, rfl, rfl, by decide +kernel, rfl, by decide +kernel, by decide +kernel⟩, fun _ _ _ _ _ _ _ us hl => match us, hl with | [_, _, _], _ => rfl, by decide, (fun h => absurd rfl h), (fun h => absurd rfl h)⟩
theorem f_d43 : DefF d43 := ⟨⟨rfl, rfl, rfl, by decide +kernel, rfl, by decide +kernel, by decide +kernel⟩, fun _ _ _ _ _ _ _ us hl => match us, hl with | [_, _], _ => rfl, by decide, (fun h => absurd rfl h), (fun h => absurd rfl h)⟩
theorem f_d44 : DefF d44 := ⟨⟨rfl, rfl, rfl, by decide +kernel, rfl, by decide +kernel, by decide +kernel⟩, fun _ _ _ _ _ _ _ us hl => match us, hl with | [_, _], _ => rfl, by decide, (fun h => absurd rfl h), (fun h => absurd rfl h)⟩
theorem f_d45 : DefF d45 := ⟨⟨rfl, rfl, rfl, by decide +kernel, rfl, by decide +kernel, by decide +kernel⟩, fun _ _ _ _ _ _ _ us hl => match us, hl with | [_, _], _ => rfl, by decide, (fun h => absurd rfl h), (fun h => absurd rfl h)⟩
theorem f_d46 : DefF d46 := ⟨⟨rfl, rfl, rfl, by decide +kernel, rfl, by decide +kernel, by decide +kernel⟩, fun _ _ _ _ _ _ _ us hl => match us, hl with | [_, _, _, _], _ => rfl, by decide, (fun h => absurd rfl h), (fun h => absurd rfl h)⟩
theorem f_d47 : DefF d47 := ⟨⟨rfl, rfl, rfl, by decide +kernel, rfl, by decide +kernel, by decide +kernel⟩, fun _ _ _ _ _ _ _ us hl => match us, hl with | [_, _, _], _ => rfl, by decide, (fun h => absurd rfl h), (fun h => absurd rfl h)⟩
theorem f_d48 : DefF d48 := ⟨⟨rfl, rfl, rfl, by decide +kernel, rfl, by decide +kernel, by decide +kernel⟩, fun _ _ _ _ _ _ _ us hl => match us, hl with | [_, _, _], _ => rfl, by decide, (fun h => absurd rfl h), (fun h => absurd rfl h)⟩
theorem f_d49 : DefF d49 := ⟨⟨rfl, rfl, rfl, by decide +kernel, rfl, by decide +kernel, by decide +kernel⟩, fun _ _ _ _ _ _ _ us hl => match us, hl with | [_, _, _], _ => rfl, by decide, (fun h => absurd rfl h), (fun h => absurd rfl h)⟩
theorem f_d50 : DefF d50 := ⟨⟨rfl, rfl, rfl, by decide +kernel, rfl, by decide +kernel, by decide +kernel⟩, fun _ _ _ _ _ _ _ us hl => match us, hl with | [_], _ => rfl, by decide, (fun h => absurd rfl h), (fun h => absurd rfl h)⟩
theorem f_d51 : DefF d51 := ⟨⟨rfl, rfl, rfl, by decide +kernel, rfl, by decide +kernel, by decide +kernel⟩, fun _ _ _ _ _ _ _ us hl => match us, hl with | [_, _], _ => rfl, by decide, (fun h => absurd rfl h), (fun h => absurd rfl h)⟩
theorem f_d52 : DefF d52 := ⟨⟨rfl, rfl, rfl, by decide +kernel, rfl, by decide +kernel, by decide +kernel⟩, fun _ _ _ _ _ _ _ us hl => match us, hl with | [_, _, _], _ => rfl, by decide, (fun h => absurd rfl h), (fun h => absurd rfl h)⟩
theorem f_d53 : DefF d53 := ⟨⟨rfl, rfl, rfl, by decide +kernel, rfl, by decide +kernel, by decide +kernel⟩, fun _ _ _ _ _ _ _ us hl => match us, hl with | [_, _, _, _], _ => rfl, by decide, (fun h => absurd rfl h), (fun h => absurd rfl h)⟩
theorem f_d54 : DefF d54 := ⟨⟨rfl, rfl, rfl, by decide +kernel, rfl, by decide +kernel, by decide +kernel⟩, fun _ _ _ _ _ _ _ us hl => match us, hl with | [_, _, _], _ => rfl, by decide, (fun h => absurd rfl h), (fun h => absurd rfl h)⟩
theorem f_d55 : DefF d55 := ⟨⟨rfl, rfl, rfl, by decide +kernel, rfl, by decide +kernel, by decide +kernel⟩, fun _ _ _ _ _ _ _ us hl => match us, hl with | [_, _], _ => rfl, by decide, (fun h => absurd rfl h), (fun h => absurd rfl h)⟩
theorem f_d56 : DefF d56 := ⟨⟨rfl, rfl, rfl, by decide +kernel, rfl, by decide +kernel, by decide +kernel⟩, fun _ _ _ _ _ _ _ us hl => match us, hl with | [_, _], _ => rfl, by decide, (fun h => absurd rfl h), (fun h => absurd rfl h)⟩
theorem f_d57 : DefF d57 := ⟨⟨rfl, rfl, rfl, by decide +kernel, rfl, by decide +kernel, by decide +kernel⟩, fun _ _ _ _ _ _ _ us hl => match us, hl with | [_, _, _], _ => rfl, by decide, (fun h => absurd rfl h), (fun h => absurd rfl h)⟩
theorem f_d58 : DefF d58 := ⟨⟨rfl, rfl, rfl, by decide +kernel, rfl, by decide +kernel, by decide +kernel⟩, fun _ _ _ _ _ _ _ us hl => match us, hl with | [_, _], _ => rfl, by decide, (fun h => absurd rfl h), (fun h => absurd rfl h)⟩
theorem f_d59 : DefF d59 := ⟨⟨rfl, rfl, rfl, by decide +kernel, rfl, by decide +kernel, by decide +kernel⟩, fun _ _ _ _ _ _ _ us hl => match us, hl with | [_, _], _ => rfl, by decide, (fun h => absurd rfl h), (fun h => absurd rfl h)⟩
theorem f_d60 : DefF d60 := ⟨⟨rfl, rfl, rfl, by decide +kernel, rfl, by decide +kernel, by decide +kernel⟩, fun _ _ _ _ _ _ _ us hl => match us, hl with | [_, _, _], _ => rfl, by decide, (fun h => absurd rfl h), (fun h => absurd rfl h)⟩
theorem f_d61 : DefF d61 := ⟨⟨rfl, rfl, rfl, by decide +kernel, rfl, by decide +kernel, by decide +kernel⟩, fun _ _ _ _ _ _ _ us hl => match us, hl with | [_, _], _ => rfl, by decide, (fun h => absurd rfl h), (fun h => absurd rfl h)⟩
theorem f_d62 : DefF d62 := ⟨⟨rfl, rfl, rfl, by decide +kernel, rfl, by decide +kernel, by decide +kernel⟩, fun _ _ _ _ _ _ _ us hl => match us, hl with | [_, _, _, _, _, _], _ => rfl, by decide, (fun h => absurd rfl h), (fun h => absurd rfl h)⟩
theorem f_d63 : DefF d63 := ⟨⟨rfl, rfl, rfl, by decide +kernel, rfl, by decide +kernel, by decide +kernel⟩, fun _ _ _ _ _ _ _ us hl => match us, hl with | [_, _, _], _ => rfl, by decide, (fun h => absurd rfl h), (fun h => absurd rfl h)⟩
theorem f_d64 : DefF d64 := ⟨⟨rfl, rfl, rfl, by decide +kernel, rfl, by decide +kernel, by decide +kernel⟩, fun _ _ _ _ _ _ _ us hl => match us, hl with | [_, _], _ => rfl, by decide, (fun h => absurd rfl h), (fun _ => ⟨rfl, fun ks hks kV doc pm an cdv ct us us2 hl ho => by
    have hk : ks = (["certificate", "claim"] : List PySem.Str) := by simpa [d64] using hks
    rcases hk with rfl
    · match us, hl with
      | [x0, x1], _ =>
        have e : us2 = [x1, x0] := (Option.some.inj ((show some [x1, x0] = some us2 from ho))).symm
        subst e
        exact ⟨rfl, rfl⟩
    ⟩)⟩
theorem f_d65 : DefF d65 := ⟨⟨rfl, rfl, rfl, by decide +kernel, rfl, by decide +kernel, by decide +kernel⟩, fun _ _ _ _ _ _ _ us hl => match us, hl with | [_], _ => rfl, by decide, (fun h => absurd rfl h), (fun h => absurd rfl h)⟩
theorem f_d66 : DefF d66 := ⟨⟨rfl, rfl, rfl, by decide +kernel, rfl, by decide +kernel, by decide +kernel⟩, fun _ _ _ _ _ _ _ us hl => match us, hl with | [_], _ => rfl, by decide, (fun h => absurd rfl h), (fun h => absurd rfl h)⟩
theorem f_d67 : DefF d67 := ⟨⟨rfl, rfl, rfl, by decide +kernel, rfl, by decide +kernel, by decide +kernel⟩, fun _ _ _ _ _ _ _ us hl => match us, hl with | [_, _], _ => rfl, by decide, (fun h => absurd rfl h), (fun h => absurd rfl h)⟩
theorem f_d68 : DefF d68 := ⟨⟨rfl, rfl, rfl, by decide +kernel, rfl, by decide +kernel, by decide +kernel⟩, fun _ _ _ _ _ _ _ us hl => match us, hl with | [_, _, _], _ => rfl, by decide, (fun h => absurd rfl h), (fun h => absurd rfl h)⟩
theorem f_d69 : DefF d69 := ⟨⟨rfl, rfl, rfl, by decide +kernel, rfl, by decide +kernel, by decide +kernel⟩, fun _ _ _ _ _ _ _ us hl => match us, hl with | [_], _ => rfl, by decide, (fun h => absurd rfl h), (fun h => absurd rfl h)⟩
theorem f_d70 : DefF d70 := ⟨⟨rfl, rfl, rfl, by decide +kernel, rfl, by decide +kernel, by decide +kernel⟩, fun _ _ _ _ _ _ _ us hl => match us, hl with | [_, _], _ => rfl, by decide, (fun h => absurd rfl h), (fun h => absurd rfl h)⟩
theorem f_d71 : DefF d71 := ⟨⟨rfl, rfl, rfl, by decide +kernel, rfl, by decide +kernel, by decide +kernel⟩, fun _ _ _ _ _ _ _ us hl => match us, hl with | [_], _ => rfl, by decide, (fun h => absurd rfl h), (fun h => absurd rfl h)⟩
theorem f_all : ∀ d ∈ dlist, DefF d := by
  intro d hd
  simp only [dlist, List.mem_cons, List.mem_nil_iff, or_false] at hd
  rcases hd with rfl | rfl | rfl | rfl | rfl | rfl | rfl | rfl | rfl | rfl | rfl | rfl | rfl | rfl | rfl | rfl | rfl | rfl | rfl | rfl | rfl | rfl | rfl | rfl | rfl | rfl | rfl | rfl | rfl | rfl | rfl | rfl | rfl | rfl | rfl | rfl | rfl | rfl | rfl | rfl | rfl | rfl | rfl | rfl | rfl | rfl | rfl | rfl | rfl | rfl | rfl | rfl | rfl | rfl | rfl | rfl | rfl | rfl | rfl | rfl | rfl | rfl | rfl | rfl | rfl | rfl | rfl | rfl | rfl | rfl | rfl | rfl
  · exact f_d0
  · exact f_d1
  · exact f_d2
  · exact f_d3
  · exact f_d4
  · exact f_d5
  · exact f_d6
  · exact f_d7
  · exact f_d8
  · exact f_d9
  · exact f_d10
  · exact f_d11
  · exact f_d12
  · exact f_d13
  · exact f_d14
  · exact f_d15
  · exact f_d16
  · exact f_d17
  · exact f_d18
  · exact f_d19
  · exact f_d20
  · exact f_d21
  · exact f_d22
  · exact f_d23
  · exact f_d24
  · exact f_d25
  · exact f_d26
  · exact f_d27
  · exact f_d28
  · exact f_d29
  · exact f_d30
  · exact f_d31
  · exact f_d32
  · exact f_d33
  · exact f_d34
  · exact f_d35
  · exact f_d36
  · exact f_d37
  · exact f_d38
  · exact f_d39
  · exact f_d40
  · exact f_d41
  · exact f_d42
  · exact f_d43
  · exact f_d44
  · exact f_d45
  · exact f_d46
  · exact f_d47
  · exact f_d48
  · exact f_d49
  · exact f_d50
  · exact f_d51
  · exact f_d52
  · exact f_d53
  · exact f_d54
  · exact f_d55
  · exact f_d56
  · exact f_d57
  · exact f_d58
  · exact f_d59
  · exact f_d60
  · exact f_d61
  · exact f_d62
  · exact f_d63
  · exact f_d64
  · exact f_d65
  · exact f_d66
  · exact f_d67
  · exact f_d68
  · exact f_d69
  · exact f_d70
  · exact f_d71
def loose : List PySem.Str := (["_wall", "WrongValue", "InvalidText", "InvalidIndex", "NotTable", "InvalidTellings", "DIGITS", "OPEN", "is_integer", "is_count", "written_count", "is_high", "is_stretch", "written_stretch", "lowest_terms", "Bound", "Points", "Ways", "lot_of", "MOST_TELLINGS", "Telling", "near_bounds", "one_number", "written_bounds", "telling_of", "check_tellings", "Table", "text_table", "check_table", "check_index"] : List PySem.Str) ++ (["is_triple", "is_data", "lies_in", "count_in", "does_fit", "ENDLESS", "SHAPES", "is_part", "is_lot", "worth", "covers", "Piece", "pieces", "is_below", "shows_possible", "shows_clash", "is_bound", "is_pair_of_lots", "shows_count", "is_low_piece", "is_high_piece", "shows_sum", "is_lot_with_extra", "is_fraction", "shows_mean", "share_price", "contains", "shows_share", "SHOWS", "accepts"] : List PySem.Str) ++ (["clash_of", "clash", "_law_well", "_law_draw", "_law_pick", "_law_bounds", "_law_said", "_law_how", "_law_lines", "_law_int", "_law_is_lot", "_law_worth", "_law_pieces", "_law_bent", "_law_right"] : List PySem.Str)
abbrev R : PySem.W.OpenRow := PySem.W.OpenLaw.row PySem.Challenge.rw_unlikebins_k74_clashes_judged
def fnl : List He.DefD := [d0, d1, d2, d3, d4, d5, d6, d7, d8, d9, d10, d11, d12, d13, d14, d15, d16, d17, d18, d19, d20, d21, d22, d23, d24, d25, d26, d27, d28, d29, d30, d31, d32, d33, d34, d35, d36, d37, d38, d39, d40, d41, d42, d43, d44, d45, d46, d47, d48, d49, d50, d51, d52, d53, d54, d55, d56, d57, d58, d59, d60, d61, d62, d63, d64, d65, d66, d67, d68, d69, d70, d71].map toD
def chk : PySem.W.Frag → Bool := chkA slo clss globs frees dlist
def as_ : List Addr := [3, 117, 124, 129, 136, 143, 150, 157, 174, 216, 263, 272, 289, 300, 307, 314, 321, 328, 405, 414, 421, 433, 438, 445, 450, 457, 458, 465, 470, 477, 484, 508, 517, 522, 529, 534, 541, 546, 553, 560, 567, 572, 579, 586, 593, 600, 607, 614, 615, 622, 629, 636, 643, 650, 657, 664, 671, 678, 685, 692, 699, 706, 713, 718, 723, 728, 116, 123, 128, 135, 142, 149, 156, 173, 215, 262, 271, 288, 299, 306, 313, 320, 327, 404, 413, 420, 432, 437, 444, 449, 456, 464, 469, 476, 483, 507, 516, 521, 528, 533, 540, 545, 552, 559, 566, 571, 578, 585, 592, 599, 606, 613, 621, 628, 635, 642, 649, 656, 663, 670, 677, 684, 691, 698, 705, 712, 717, 722, 727, 171, 192, 199, 206, 232, 239, 260, 286, 341, 380, 387, 394, 401, 406, 407, 498, 505, 170, 191, 187, 198, 205, 231, 238, 259, 285, 340, 379, 386, 393, 400, 497, 504, 186]
abbrev hk : PySem.W.Hook := hookY as_ (dlist.map toD) (tabsOf globs) chk
def ob (s : PySem.W.SharedT) : AlX := obsYG as_ (dlist.map toD) (tabsOf globs) chk (HandSHeadRun.getT s)
theorem ob_eq (s : PySem.W.SharedT) : ob s = hk.obs s.abs := obsYG_eq (HandSHeadRun.getT_eq s)
abbrev vq : Program := PySem.W.view R.prog [83]
section
open PySem.W HandSHeadRun
noncomputable abbrev seenF (s : SharedT) := seenQ vq loose (importedModules R.prog.main.body) (fun s => xlAt vq [] s && recOk R.toRowW.records s) s.abs
abbrev gd := openGood vq loose
noncomputable abbrev endW (b : Bool) (w : World) (os : OsState) := endF (stepQ (denQ tabQ) R.prog (w.withFollow "special-get-raises" b)) 6000 R.prog (w.withFollow "special-get-raises" b) os
end
theorem vals_eq : (dlist.map toD).map He.DefD.val = [(toD d0).val, (toD d1).val, (toD d2).val, (toD d3).val, (toD d4).val, (toD d5).val, (toD d6).val, (toD d7).val, (toD d8).val, (toD d9).val, (toD d10).val, (toD d11).val, (toD d12).val, (toD d13).val, (toD d14).val, (toD d15).val, (toD d16).val, (toD d17).val, (toD d18).val, (toD d19).val, (toD d20).val, (toD d21).val, (toD d22).val, (toD d23).val, (toD d24).val, (toD d25).val, (toD d26).val, (toD d27).val, (toD d28).val, (toD d29).val, (toD d30).val, (toD d31).val, (toD d32).val, (toD d33).val, (toD d34).val, (toD d35).val, (toD d36).val, (toD d37).val, (toD d38).val, (toD d39).val, (toD d40).val, (toD d41).val, (toD d42).val, (toD d43).val, (toD d44).val, (toD d45).val, (toD d46).val, (toD d47).val, (toD d48).val, (toD d49).val, (toD d50).val, (toD d51).val, (toD d52).val, (toD d53).val, (toD d54).val, (toD d55).val, (toD d56).val, (toD d57).val, (toD d58).val, (toD d59).val, (toD d60).val, (toD d61).val, (toD d62).val, (toD d63).val, (toD d64).val, (toD d65).val, (toD d66).val, (toD d67).val, (toD d68).val, (toD d69).val, (toD d70).val, (toD d71).val] := by kernel_rfl
theorem run_1f (w : World) (os : OsState) : (endW false w os).map (fun s => (HandSHeadRun.looksF R.prog (PySem.W.boot_heap (w.withFollow "special-get-raises" false).params) s.abs, (seenF s).1, (seenF s).2.1, (seenF s).2.2.1, (seenF s).2.2.2.1, (seenF s).2.2.2.2.1, (seenF s).2.2.2.2.2.1, (seenF s).2.2.2.2.2.2)) = some (true, gd.1, gd.2.1, gd.2.2.1, gd.2.2.2.1, gd.2.2.2.2.1, gd.2.2.2.2.2.1, gd.2.2.2.2.2.2) := by
  kernel_rfl
theorem run_4f (w : World) (os : OsState) : (endW false w os).map (fun s => ((((dlist.map toD).all fun d => d.ok (He.frG (HandSHeadRun.getT s) as_)) && chk (He.frG (HandSHeadRun.getT s) as_), (tabsOf globs).map fun t => He.dicW (He.frG (HandSHeadRun.getT s) as_) (t.1 (He.frG (HandSHeadRun.getT s) as_))), (dlist.map toD).map fun d => He.fnW (He.frG (HandSHeadRun.getT s) as_) d.at_)) =
    some ((true, (tabsOf globs).map fun t => some (He.keysIn (w.withFollow "special-get-raises" false).params t.2)), [(toD d0).val, (toD d1).val, (toD d2).val, (toD d3).val, (toD d4).val, (toD d5).val, (toD d6).val, (toD d7).val, (toD d8).val, (toD d9).val, (toD d10).val, (toD d11).val, (toD d12).val, (toD d13).val, (toD d14).val, (toD d15).val, (toD d16).val, (toD d17).val, (toD d18).val, (toD d19).val, (toD d20).val, (toD d21).val, (toD d22).val, (toD d23).val, (toD d24).val, (toD d25).val, (toD d26).val, (toD d27).val, (toD d28).val, (toD d29).val, (toD d30).val, (toD d31).val, (toD d32).val, (toD d33).val, (toD d34).val, (toD d35).val, (toD d36).val, (toD d37).val, (toD d38).val, (toD d39).val, (toD d40).val, (toD d41).val, (toD d42).val, (toD d43).val, (toD d44).val, (toD d45).val, (toD d46).val, (toD d47).val, (toD d48).val, (toD d49).val, (toD d50).val, (toD d51).val, (toD d52).val, (toD d53).val, (toD d54).val, (toD d55).val, (toD d56).val, (toD d57).val, (toD d58).val, (toD d59).val, (toD d60).val, (toD d61).val, (toD d62).val, (toD d63).val, (toD d64).val, (toD d65).val, (toD d66).val, (toD d67).val, (toD d68).val, (toD d69).val, (toD d70).val, (toD d71).val]) := by
  kernel_rfl
theorem run_f (w : World) : HandSHeadRun.RunEq R vq hk ob 6000 loose (w.withFollow "special-get-raises" false) := fun os =>
  map_parts (f := seenF) (g := gd) (o := ob) (run_1f w os) (obsY_of (run_4f w os) vals_eq)
theorem run_1t (w : World) (os : OsState) : (endW true w os).map (fun s => (HandSHeadRun.looksF R.prog (PySem.W.boot_heap (w.withFollow "special-get-raises" true).params) s.abs, (seenF s).1, (seenF s).2.1, (seenF s).2.2.1, (seenF s).2.2.2.1, (seenF s).2.2.2.2.1, (seenF s).2.2.2.2.2.1, (seenF s).2.2.2.2.2.2)) = some (true, gd.1, gd.2.1, gd.2.2.1, gd.2.2.2.1, gd.2.2.2.2.1, gd.2.2.2.2.2.1, gd.2.2.2.2.2.2) := by
  kernel_rfl
theorem run_4t (w : World) (os : OsState) : (endW true w os).map (fun s => ((((dlist.map toD).all fun d => d.ok (He.frG (HandSHeadRun.getT s) as_)) && chk (He.frG (HandSHeadRun.getT s) as_), (tabsOf globs).map fun t => He.dicW (He.frG (HandSHeadRun.getT s) as_) (t.1 (He.frG (HandSHeadRun.getT s) as_))), (dlist.map toD).map fun d => He.fnW (He.frG (HandSHeadRun.getT s) as_) d.at_)) =
    some ((true, (tabsOf globs).map fun t => some (He.keysIn (w.withFollow "special-get-raises" true).params t.2)), [(toD d0).val, (toD d1).val, (toD d2).val, (toD d3).val, (toD d4).val, (toD d5).val, (toD d6).val, (toD d7).val, (toD d8).val, (toD d9).val, (toD d10).val, (toD d11).val, (toD d12).val, (toD d13).val, (toD d14).val, (toD d15).val, (toD d16).val, (toD d17).val, (toD d18).val, (toD d19).val, (toD d20).val, (toD d21).val, (toD d22).val, (toD d23).val, (toD d24).val, (toD d25).val, (toD d26).val, (toD d27).val, (toD d28).val, (toD d29).val, (toD d30).val, (toD d31).val, (toD d32).val, (toD d33).val, (toD d34).val, (toD d35).val, (toD d36).val, (toD d37).val, (toD d38).val, (toD d39).val, (toD d40).val, (toD d41).val, (toD d42).val, (toD d43).val, (toD d44).val, (toD d45).val, (toD d46).val, (toD d47).val, (toD d48).val, (toD d49).val, (toD d50).val, (toD d51).val, (toD d52).val, (toD d53).val, (toD d54).val, (toD d55).val, (toD d56).val, (toD d57).val, (toD d58).val, (toD d59).val, (toD d60).val, (toD d61).val, (toD d62).val, (toD d63).val, (toD d64).val, (toD d65).val, (toD d66).val, (toD d67).val, (toD d68).val, (toD d69).val, (toD d70).val, (toD d71).val]) := by
  kernel_rfl
theorem run_t (w : World) : HandSHeadRun.RunEq R vq hk ob 6000 loose (w.withFollow "special-get-raises" true) := fun os =>
  map_parts (f := seenF) (g := gd) (o := ob) (run_1t w os) (obsY_of (run_4t w os) vals_eq)
theorem run (w : World) : HandSHeadRun.RunEq R vq hk ob 6000 loose w :=
  PySem.W.byRow2 "special-get-raises" (P := fun w => HandSHeadRun.RunEq R vq hk ob 6000 loose w) run_f run_t w
end K74
end

section
set_option Elab.async false
set_option linter.all false
set_option maxRecDepth 100000
set_option maxHeartbeats 0
namespace K74
open PySem L2 DV
def gv_DIGITS : D := (.str "0123456789")
def gv_OPEN : D := (.str "open")
def gv_MOST_TELLINGS : D := (.int 12)
def gv_ENDLESS : D := (.str "endless")
def gv_SHAPES : D := (.kd ["possible", "clash", "count", "sum", "mean", "share"] [(.int 2), (.int 2), (.int 6), (.int 6), (.int 6), (.int 8)])
def gv_SHOWS : D := (.kd ["possible", "clash", "count", "sum", "mean", "share"] [(.fn "shows_possible"), (.fn "shows_clash"), (.fn "shows_count"), (.fn "shows_sum"), (.fn "shows_mean"), (.fn "shows_share")])
def clsF : Str → Option ClI := fun x => clss.lookup x
def ci_Bound : ClI := ⟨false, false, true, ["low", "high", "most", "source"]⟩
@[simp] theorem cls_Bound : clsF "Bound" = some ⟨false, false, true, ["low", "high", "most", "source"]⟩ := by kernel_rfl
def ci_Points : ClI := ⟨false, false, true, ["marks", "places", "held"]⟩
@[simp] theorem cls_Points : clsF "Points" = some ⟨false, false, true, ["marks", "places", "held"]⟩ := by kernel_rfl
def ci_Ways : ClI := ⟨false, false, true, ["begin", "costs", "last", "helped"]⟩
@[simp] theorem cls_Ways : clsF "Ways" = some ⟨false, false, true, ["begin", "costs", "last", "helped"]⟩ := by kernel_rfl
def ci_Telling : ClI := ⟨false, false, true, ["low", "high", "least", "most"]⟩
@[simp] theorem cls_Telling : clsF "Telling" = some ⟨false, false, true, ["low", "high", "least", "most"]⟩ := by kernel_rfl
def ci_Table : ClI := ⟨true, true, true, ["shape", "told"]⟩
@[simp] theorem cls_Table : clsF "Table" = some ⟨true, true, true, ["shape", "told"]⟩ := by kernel_rfl
def ci_Piece : ClI := ⟨false, false, true, ["low", "high", "cover"]⟩
@[simp] theorem cls_Piece : clsF "Piece" = some ⟨false, false, true, ["low", "high", "cover"]⟩ := by kernel_rfl
def Gbase : Gen := baseOf clss globs frees
abbrev G__law_draw : Gen := Gbase
def s__law_draw (args : List D) (S : Sto) : Res D := finR <|
  let v := begR 2 4 args
  (iteR v (cmpR .Gt (subR (lk v 0 S) fun S => (.ok (.int 2) S)) fun S => (.ok (.int 0) S)) (fun S =>
    (putR v (bR (fun _ => bDivmod) (consR (subR (lk v 0 S) fun S => (.ok (.int 2) S)) fun S => consR (lk v 1 S) fun S => .ok [] S)) (fun S => (lk v 0 S)) (fun S => (.ok (.int 2) S)) 3).seq fun v S =>
    (retR v (lk v 3 S)).seq fun v S =>
    .nx v S)
  fun S => .nx v S).seq fun v S =>
  (ixsR v (binR .Add (subR (lk v 0 S) fun S => (.ok (.int 1) S)) fun S => (.ok (.int 1) S)) (fun S => (lk v 0 S)) fun S => (.ok (.int 1) S)).seq fun v S =>
  (setR v 2 (bR (fun _ => bInt) (consR (subR (lk v 0 S) fun S => (.ok (.int 0) S)) fun S => .ok [] S))).seq fun v S =>
  (ixsR v (binR .Mod (bR (fun _ => bInt) (consR (binR .Add (binR .Add (binR .Mult (lk v 2 S) fun S => (.ok (.int 44027) S)) fun S => (binR .Mult (subR (lk v 0 S) fun S => (.ok (.int 1) S)) fun S => (.ok (.int 57037) S))) fun S => (.ok (.int 29) S)) fun S => .ok [] S)) fun S => (.ok (.int 2147483629) S)) (fun S => (lk v 0 S)) fun S => (.ok (.int 0) S)).seq fun v S =>
  (retR v (binR .Mod (bR (fun _ => bInt) (consR (binR .FloorDiv (subR (lk v 0 S) fun S => (.ok (.int 0) S)) fun S => (.ok (.int 2048) S)) fun S => .ok [] S)) fun S => (lk v 1 S))).seq fun v S =>
  .nx v S
theorem e__law_draw (a : List D) (S : Sto) : bodyRun WW 60 G__law_draw d0 a S = s__law_draw a S := by kernel_rfl
def fi__law_draw : FnI := ⟨Gbase.lev + 1, d0.kind, d0.ps, d0.dfl, d0.pur, d0.frz, s__law_draw, d0.kws⟩
theorem run__law_draw : fi__law_draw.run = s__law_draw := rfl
def GN_0 : Gen := addS Gbase d0 s__law_draw
abbrev G_Table___str__ : Gen := GN_0
def s_Table___str__ (args : List D) (S : Sto) : Res D := finR <|
  let v := begR 1 1 args
  (retR v (meR G_Table___str__ "join" (.ok (.str "
") S) fun S => (consR (attR clsF "shape" (lk v 0 S)) fun S => .ok [] S))).seq fun v S =>
  .nx v S
theorem e_Table___str__ (a : List D) (S : Sto) : bodyRun WW 60 G_Table___str__ d1 a S = s_Table___str__ a S := by kernel_rfl
def fi_Table___str__ : FnI := ⟨GN_0.lev + 1, d1.kind, d1.ps, d1.dfl, d1.pur, d1.frz, s_Table___str__, d1.kws⟩
theorem run_Table___str__ : fi_Table___str__.run = s_Table___str__ := rfl
def GN_1 : Gen := addS GN_0 d1 s_Table___str__
abbrev G_Table___len__ : Gen := GN_1
def s_Table___len__ (args : List D) (S : Sto) : Res D := finR <|
  let v := begR 1 1 args
  (retR v (boR G_Table___len__ "len" (consR (attR clsF "shape" (lk v 0 S)) fun S => .ok [] S))).seq fun v S =>
  .nx v S
theorem e_Table___len__ (a : List D) (S : Sto) : bodyRun WW 60 G_Table___len__ d2 a S = s_Table___len__ a S := by kernel_rfl
def fi_Table___len__ : FnI := ⟨GN_1.lev + 1, d2.kind, d2.ps, d2.dfl, d2.pur, d2.frz, s_Table___len__, d2.kws⟩
theorem run_Table___len__ : fi_Table___len__.run = s_Table___len__ := rfl
def GN_2 : Gen := addS GN_1 d2 s_Table___len__
abbrev G_written_count : Gen := GN_2
def s_written_count (args : List D) (S : Sto) : Res D := finR <|
  let v := begR 1 2 args
  (iteR v (orT (cmpR .Eq (lk v 0 S) fun S => (.ok (.str "") S)) fun S => (orT (cmpR .Gt (boR G_written_count "len" (consR (lk v 0 S) fun S => .ok [] S)) fun S => (.ok (.int 4000) S)) fun S => (notT (truR (bR (bAll) (consR (obR (lcR (compR (itR (lk v 0 S)) (turnR (.one 1) none (fun v S => (blR (cmpR .In (lk v 1 S) fun S => (.ok gv_DIGITS S)))) (wipeD v [1]))))) fun S => .ok [] S)))))) (fun S =>
    (retR v (.ok .non S)).seq fun v S =>
    .nx v S)
  fun S => .nx v S).seq fun v S =>
  (retR v (ifR (cmpR .Eq (boR G_written_count "str" (consR (bR (fun _ => bInt) (consR (lk v 0 S) fun S => .ok [] S)) fun S => .ok [] S)) fun S => (lk v 0 S)) (fun S => (bR (fun _ => bInt) (consR (lk v 0 S) fun S => .ok [] S))) fun S => (.ok .non S))).seq fun v S =>
  .nx v S
theorem e_written_count (a : List D) (S : Sto) : bodyRun WW 60 G_written_count d3 a S = s_written_count a S := by kernel_rfl
def fi_written_count : FnI := ⟨GN_2.lev + 1, d3.kind, d3.ps, d3.dfl, d3.pur, d3.frz, s_written_count, d3.kws⟩
theorem run_written_count : fi_written_count.run = s_written_count := rfl
def GN_3 : Gen := addS GN_2 d3 s_written_count
abbrev G_is_integer : Gen := GN_3
def s_is_integer (args : List D) (S : Sto) : Res D := finR <|
  let v := begR 1 1 args
  (retR v (andR (isiR "int" (lk v 0 S)) fun S => (notR (isiR "bool" (lk v 0 S))))).seq fun v S =>
  .nx v S
theorem e_is_integer (a : List D) (S : Sto) : bodyRun WW 60 G_is_integer d4 a S = s_is_integer a S := by kernel_rfl
def fi_is_integer : FnI := ⟨GN_3.lev + 1, d4.kind, d4.ps, d4.dfl, d4.pur, d4.frz, s_is_integer, d4.kws⟩
theorem run_is_integer : fi_is_integer.run = s_is_integer := rfl
def GN_4 : Gen := addS GN_3 d4 s_is_integer
abbrev G_is_high : Gen := GN_4
def s_is_high (args : List D) (S : Sto) : Res D := finR <|
  let v := begR 2 2 args
  (iteR v (truR (isiR "str" (lk v 0 S))) (fun S =>
    (retR v (blR (cmpR .Eq (lk v 0 S) fun S => (.ok gv_OPEN S)))).seq fun v S =>
    .nx v S)
  fun S => .nx v S).seq fun v S =>
  (retR v (andR (fnR fi_is_integer (consR (lk v 0 S) fun S => .ok [] S)) fun S => (blR (cmpR .Gt (lk v 0 S) fun S => (lk v 1 S))))).seq fun v S =>
  .nx v S
theorem e_is_high (a : List D) (S : Sto) : bodyRun WW 60 G_is_high d5 a S = s_is_high a S := by kernel_rfl
def fi_is_high : FnI := ⟨GN_4.lev + 1, d5.kind, d5.ps, d5.dfl, d5.pur, d5.frz, s_is_high, d5.kws⟩
theorem run_is_high : fi_is_high.run = s_is_high := rfl
def GN_5 : Gen := addS GN_4 d5 s_is_high
abbrev G_written_stretch : Gen := GN_5
def s_written_stretch (args : List D) (S : Sto) : Res D := finR <|
  let v := begR 1 3 args
  (setR v 1 (fnR fi_written_count (consR (subR (lk v 0 S) fun S => (.ok (.int 0) S)) fun S => .ok [] S))).seq fun v S =>
  (setR v 2 (ifR (cmpR .Eq (subR (lk v 0 S) fun S => (.ok (.int 1) S)) fun S => (.ok gv_OPEN S)) (fun S => (.ok gv_OPEN S)) fun S => (fnR fi_written_count (consR (subR (lk v 0 S) fun S => (.ok (.int 1) S)) fun S => .ok [] S)))).seq fun v S =>
  (retR v (ifR (andT (cmpR .IsNot (lk v 1 S) fun S => (.ok .non S)) fun S => (andT (cmpR .IsNot (lk v 2 S) fun S => (.ok .non S)) fun S => (truR (fnR fi_is_high (consR (lk v 2 S) fun S => consR (lk v 1 S) fun S => .ok [] S))))) (fun S => (tupR (consR (lk v 1 S) fun S => consR (lk v 2 S) fun S => .ok [] S))) fun S => (.ok .non S))).seq fun v S =>
  .nx v S
theorem e_written_stretch (a : List D) (S : Sto) : bodyRun WW 60 G_written_stretch d6 a S = s_written_stretch a S := by kernel_rfl
def fi_written_stretch : FnI := ⟨GN_5.lev + 1, d6.kind, d6.ps, d6.dfl, d6.pur, d6.frz, s_written_stretch, d6.kws⟩
theorem run_written_stretch : fi_written_stretch.run = s_written_stretch := rfl
def GN_6 : Gen := addS GN_5 d6 s_written_stretch
abbrev G_near_bounds : Gen := GN_6
def s_near_bounds (args : List D) (S : Sto) : Res D := finR <|
  let v := begR 2 2 args
  (retR v (tupR (consR (bR (fun _ => bMax) (consR (.ok (.int 0) S) fun S => consR (binR .Sub (lk v 0 S) fun S => (binR .FloorDiv (lk v 1 S) fun S => (.ok (.int 2) S))) fun S => .ok [] S)) fun S => consR (binR .Sub (binR .Add (lk v 0 S) fun S => (binR .FloorDiv (binR .Add (lk v 1 S) fun S => (.ok (.int 1) S)) fun S => (.ok (.int 2) S))) fun S => (.ok (.int 1) S)) fun S => .ok [] S))).seq fun v S =>
  .nx v S
theorem e_near_bounds (a : List D) (S : Sto) : bodyRun WW 60 G_near_bounds d7 a S = s_near_bounds a S := by kernel_rfl
def fi_near_bounds : FnI := ⟨GN_6.lev + 1, d7.kind, d7.ps, d7.dfl, d7.pur, d7.frz, s_near_bounds, d7.kws⟩
theorem run_near_bounds : fi_near_bounds.run = s_near_bounds := rfl
def GN_7 : Gen := addS GN_6 d7 s_near_bounds
abbrev G_one_number : Gen := GN_7
def s_one_number (args : List D) (S : Sto) : Res D := finR <|
  let v := begR 2 2 args
  (iteR v (cmpR .Eq (lk v 0 S) fun S => (.ok (.str "is") S)) (fun S =>
    (retR v (tupR (consR (lk v 1 S) fun S => consR (lk v 1 S) fun S => .ok [] S))).seq fun v S =>
    .nx v S)
  fun S => .nx v S).seq fun v S =>
  (iteR v (cmpR .Eq (lk v 0 S) fun S => (.ok (.str "least") S)) (fun S =>
    (retR v (tupR (consR (lk v 1 S) fun S => consR (.ok .non S) fun S => .ok [] S))).seq fun v S =>
    .nx v S)
  fun S => .nx v S).seq fun v S =>
  (iteR v (cmpR .Eq (lk v 0 S) fun S => (.ok (.str "most") S)) (fun S =>
    (retR v (tupR (consR (.ok (.int 0) S) fun S => consR (lk v 1 S) fun S => .ok [] S))).seq fun v S =>
    .nx v S)
  fun S => .nx v S).seq fun v S =>
  (retR v (ifR (andT (cmpR .Eq (lk v 0 S) fun S => (.ok (.str "under") S)) fun S => (cmpR .Gt (lk v 1 S) fun S => (.ok (.int 0) S))) (fun S => (tupR (consR (.ok (.int 0) S) fun S => consR (binR .Sub (lk v 1 S) fun S => (.ok (.int 1) S)) fun S => .ok [] S))) fun S => (.ok .non S))).seq fun v S =>
  .nx v S
theorem e_one_number (a : List D) (S : Sto) : bodyRun WW 60 G_one_number d8 a S = s_one_number a S := by kernel_rfl
def fi_one_number : FnI := ⟨GN_7.lev + 1, d8.kind, d8.ps, d8.dfl, d8.pur, d8.frz, s_one_number, d8.kws⟩
theorem run_one_number : fi_one_number.run = s_one_number := rfl
def GN_8 : Gen := addS GN_7 d8 s_one_number
abbrev G_written_bounds : Gen := GN_8
def s_written_bounds (args : List D) (S : Sto) : Res D := finR <|
  let v := begR 1 4 args
  (iteR v (cmpR .Eq (boR G_written_bounds "len" (consR (lk v 0 S) fun S => .ok [] S)) fun S => (.ok (.int 2) S)) (fun S =>
    (setR v 1 (fnR fi_written_count (consR (subR (lk v 0 S) fun S => (.ok (.int 1) S)) fun S => .ok [] S))).seq fun v S =>
    (retR v (ifR (cmpR .Is (lk v 1 S) fun S => (.ok .non S)) (fun S => (.ok .non S)) fun S => (fnR fi_one_number (consR (subR (lk v 0 S) fun S => (.ok (.int 0) S)) fun S => consR (lk v 1 S) fun S => .ok [] S)))).seq fun v S =>
    .nx v S)
  fun S => .nx v S).seq fun v S =>
  (iteR v (cmpR .NotEq (boR G_written_bounds "len" (consR (lk v 0 S) fun S => .ok [] S)) fun S => (.ok (.int 4) S)) (fun S =>
    (retR v (.ok .non S)).seq fun v S =>
    .nx v S)
  fun S => .nx v S).seq fun v S =>
  (setsR v [2, 3] (consR (fnR fi_written_count (consR (subR (lk v 0 S) fun S => (.ok (.int 1) S)) fun S => .ok [] S)) fun S => consR (fnR fi_written_count (consR (subR (lk v 0 S) fun S => (.ok (.int 3) S)) fun S => .ok [] S)) fun S => .ok [] S)).seq fun v S =>
  (iteR v (orT (cmpR .Is (lk v 2 S) fun S => (.ok .non S)) fun S => (cmpR .Is (lk v 3 S) fun S => (.ok .non S))) (fun S =>
    (retR v (.ok .non S)).seq fun v S =>
    .nx v S)
  fun S => .nx v S).seq fun v S =>
  (iteR v (andT (cmpR .Eq (subR (lk v 0 S) fun S => (.ok (.int 0) S)) fun S => (.ok (.str "from") S)) fun S => (cmpR .Eq (subR (lk v 0 S) fun S => (.ok (.int 2) S)) fun S => (.ok (.str "to") S))) (fun S =>
    (retR v (ifR (cmpR .LtE (lk v 2 S) fun S => (lk v 3 S)) (fun S => (tupR (consR (lk v 2 S) fun S => consR (lk v 3 S) fun S => .ok [] S))) fun S => (.ok .non S))).seq fun v S =>
    .nx v S)
  fun S => .nx v S).seq fun v S =>
  (iteR v (orT (cmpR .NotEq (subR (lk v 0 S) fun S => (.ok (.int 0) S)) fun S => (.ok (.str "near") S)) fun S => (orT (cmpR .NotEq (subR (lk v 0 S) fun S => (.ok (.int 2) S)) fun S => (.ok (.str "by") S)) fun S => (orT (cmpR .Eq (lk v 3 S) fun S => (.ok (.int 0) S)) fun S => (cmpR .NotEq (binR .Mod (lk v 2 S) fun S => (lk v 3 S)) fun S => (.ok (.int 0) S))))) (fun S =>
    (retR v (.ok .non S)).seq fun v S =>
    .nx v S)
  fun S => .nx v S).seq fun v S =>
  (retR v (fnR fi_near_bounds (consR (lk v 2 S) fun S => consR (lk v 3 S) fun S => .ok [] S))).seq fun v S =>
  .nx v S
theorem e_written_bounds (a : List D) (S : Sto) : bodyRun WW 60 G_written_bounds d9 a S = s_written_bounds a S := by kernel_rfl
def fi_written_bounds : FnI := ⟨GN_8.lev + 1, d9.kind, d9.ps, d9.dfl, d9.pur, d9.frz, s_written_bounds, d9.kws⟩
theorem run_written_bounds : fi_written_bounds.run = s_written_bounds := rfl
def GN_9 : Gen := addS GN_8 d9 s_written_bounds
abbrev G_Telling___init__ : Gen := GN_9
def s_Telling___init__ (args : List D) (S : Sto) : Res D := finR <|
  let v := begR 5 5 args
  (atsR clsF v "low" (lk v 1 S) fun S => (lk v 0 S)).seq fun v S =>
  (atsR clsF v "high" (lk v 2 S) fun S => (lk v 0 S)).seq fun v S =>
  (atsR clsF v "least" (lk v 3 S) fun S => (lk v 0 S)).seq fun v S =>
  (atsR clsF v "most" (lk v 4 S) fun S => (lk v 0 S)).seq fun v S =>
  .nx v S
theorem e_Telling___init__ (a : List D) (S : Sto) : bodyRun WW 60 G_Telling___init__ d10 a S = s_Telling___init__ a S := by kernel_rfl
def fi_Telling___init__ : FnI := ⟨GN_9.lev + 1, d10.kind, d10.ps, d10.dfl, d10.pur, d10.frz, s_Telling___init__, d10.kws⟩
theorem run_Telling___init__ : fi_Telling___init__.run = s_Telling___init__ := rfl
def GN_10 : Gen := addS GN_9 d10 s_Telling___init__
abbrev G_telling_of : Gen := GN_10
def s_telling_of (args : List D) (S : Sto) : Res D := finR <|
  let v := begR 1 4 args
  (iteR v (notT (truR (isiR "str" (lk v 0 S)))) (fun S =>
    (retR v (.ok .non S)).seq fun v S =>
    .nx v S)
  fun S => .nx v S).seq fun v S =>
  (setR v 1 (meR G_telling_of "split" (lk v 0 S) fun S => (consR (.ok (.str " ") S) fun S => .ok [] S))).seq fun v S =>
  (iteR v (cmpR .Lt (boR G_telling_of "len" (consR (lk v 1 S) fun S => .ok [] S)) fun S => (.ok (.int 4) S)) (fun S =>
    (retR v (.ok .non S)).seq fun v S =>
    .nx v S)
  fun S => .nx v S).seq fun v S =>
  (setsR v [2, 3] (consR (fnR fi_written_stretch (consR (sliR (lk v 1 S) (fun S => noP S) fun S => (intP (.ok (.int 2) S))) fun S => .ok [] S)) fun S => consR (fnR fi_written_bounds (consR (sliR (lk v 1 S) (fun S => (intP (.ok (.int 2) S))) fun S => noP S) fun S => .ok [] S)) fun S => .ok [] S)).seq fun v S =>
  (retR v (ifR (orT (cmpR .Is (lk v 2 S) fun S => (.ok .non S)) fun S => (cmpR .Is (lk v 3 S) fun S => (.ok .non S))) (fun S => (.ok .non S)) fun S => (mkR "Telling" ci_Telling fi_Telling___init__ (starR (lk v 2 S) fun S => starR (lk v 3 S) fun S => .ok [] S)))).seq fun v S =>
  .nx v S
theorem e_telling_of (a : List D) (S : Sto) : bodyRun WW 60 G_telling_of d11 a S = s_telling_of a S := by kernel_rfl
def fi_telling_of : FnI := ⟨GN_10.lev + 1, d11.kind, d11.ps, d11.dfl, d11.pur, d11.frz, s_telling_of, d11.kws⟩
theorem run_telling_of : fi_telling_of.run = s_telling_of := rfl
def GN_11 : Gen := addS GN_10 d11 s_telling_of
abbrev G_check_tellings : Gen := GN_11
def s_check_tellings (args : List D) (S : Sto) : Res D := finR <|
  let v := begR 1 3 args
  (iteR v (orT (notT (truR (isiR "tuple" (lk v 0 S)))) fun S => (cmpR .Eq (boR G_check_tellings "len" (consR (lk v 0 S) fun S => .ok [] S)) fun S => (.ok (.int 0) S))) (fun S =>
    (SRes.bad).seq fun v S =>
    .nx v S)
  fun S => .nx v S).seq fun v S =>
  (forR v (enuR (consR (lk v 0 S) fun S => .ok [] S)) (.many [1, 2]) (fun v S =>
    (iteR v (orT (cmpR .Eq (lk v 1 S) fun S => (.ok gv_MOST_TELLINGS S)) fun S => (cmpR .Is (fnR fi_telling_of (consR (lk v 2 S) fun S => .ok [] S)) fun S => (.ok .non S))) (fun S =>
      (SRes.bad).seq fun v S =>
      .nx v S)
    fun S => .nx v S).seq fun v S =>
    .nx v S)).seq fun v S =>
  .nx v S
theorem e_check_tellings (a : List D) (S : Sto) : bodyRun WW 60 G_check_tellings d12 a S = s_check_tellings a S := by kernel_rfl
def fi_check_tellings : FnI := ⟨GN_11.lev + 1, d12.kind, d12.ps, d12.dfl, d12.pur, d12.frz, s_check_tellings, d12.kws⟩
theorem run_check_tellings : fi_check_tellings.run = s_check_tellings := rfl
def GN_12 : Gen := addS GN_11 d12 s_check_tellings
abbrev G_Table___init__ : Gen := GN_12
def s_Table___init__ (args : List D) (S : Sto) : Res D := finR <|
  let v := begR 2 3 args
  (expR v (fnR fi_check_tellings (consR (lk v 1 S) fun S => .ok [] S))).seq fun v S =>
  (atsR clsF v "shape" (lk v 1 S) fun S => (lk v 0 S)).seq fun v S =>
  (atsR clsF v "told" (bR (bTup) (consR (obR (lcR (compR (itR (lk v 1 S)) (turnR (.one 2) none (fun v S => (fnR fi_telling_of (consR (lk v 2 S) fun S => .ok [] S))) (wipeD v [2]))))) fun S => .ok [] S)) fun S => (lk v 0 S)).seq fun v S =>
  .nx v S
theorem e_Table___init__ (a : List D) (S : Sto) : bodyRun WW 60 G_Table___init__ d13 a S = s_Table___init__ a S := by kernel_rfl
def fi_Table___init__ : FnI := ⟨GN_12.lev + 1, d13.kind, d13.ps, d13.dfl, d13.pur, d13.frz, s_Table___init__, d13.kws⟩
theorem run_Table___init__ : fi_Table___init__.run = s_Table___init__ := rfl
def GN_13 : Gen := addS GN_12 d13 s_Table___init__
abbrev G_Table___eq__ : Gen := GN_13
def s_Table___eq__ (args : List D) (S : Sto) : Res D := finR <|
  let v := begR 2 2 args
  (retR v (andR (ownR "Table" (lk v 1 S)) fun S => (blR (cmpR .Eq (attR clsF "shape" (lk v 0 S)) fun S => (attR clsF "shape" (lk v 1 S)))))).seq fun v S =>
  .nx v S
theorem e_Table___eq__ (a : List D) (S : Sto) : bodyRun WW 60 G_Table___eq__ d14 a S = s_Table___eq__ a S := by kernel_rfl
def fi_Table___eq__ : FnI := ⟨GN_13.lev + 1, d14.kind, d14.ps, d14.dfl, d14.pur, d14.frz, s_Table___eq__, d14.kws⟩
theorem run_Table___eq__ : fi_Table___eq__.run = s_Table___eq__ := rfl
def GN_14 : Gen := addS GN_13 d14 s_Table___eq__
abbrev G__law_how : Gen := GN_14
def s__law_how (args : List D) (S : Sto) : Res D := finR <|
  let v := begR 2 5 args
  (setsR v [2, 3] (consR (fnR fi__law_draw (consR (lk v 0 S) fun S => consR (.ok (.int 6) S) fun S => .ok [] S)) fun S => consR (bR (fun _ => bMax) (consR (.ok (.int 0) S) fun S => consR (binR .Add (lk v 1 S) fun S => (subR (obR (lstR (consR (.ok (.int 0) S) fun S => consR (.ok (.int 0) S) fun S => consR (.ok (.int 0) S) fun S => consR (.ok (.int 1) S) fun S => consR (negR (.ok (.int 1) S)) fun S => .ok [] S))) fun S => (fnR fi__law_draw (consR (lk v 0 S) fun S => consR (.ok (.int 5) S) fun S => .ok [] S)))) fun S => .ok [] S)) fun S => .ok [] S)).seq fun v S =>
  (iteR v (cmpR .Eq (lk v 2 S) fun S => (.ok (.int 0) S)) (fun S =>
    (retR v (binR .Add (.ok (.str "is ") S) fun S => (boR G__law_how "str" (consR (lk v 3 S) fun S => .ok [] S)))).seq fun v S =>
    .nx v S)
  fun S => .nx v S).seq fun v S =>
  (iteR v (cmpR .Eq (lk v 2 S) fun S => (.ok (.int 1) S)) (fun S =>
    (retR v (binR .Add (binR .Add (binR .Add (.ok (.str "from ") S) fun S => (boR G__law_how "str" (consR (bR (fun _ => bMax) (consR (.ok (.int 0) S) fun S => consR (binR .Sub (lk v 3 S) fun S => (fnR fi__law_draw (consR (lk v 0 S) fun S => consR (.ok (.int 3) S) fun S => .ok [] S))) fun S => .ok [] S)) fun S => .ok [] S))) fun S => (.ok (.str " to ") S)) fun S => (boR G__law_how "str" (consR (binR .Add (lk v 3 S) fun S => (fnR fi__law_draw (consR (lk v 0 S) fun S => consR (.ok (.int 3) S) fun S => .ok [] S))) fun S => .ok [] S)))).seq fun v S =>
    .nx v S)
  fun S => .nx v S).seq fun v S =>
  (iteR v (cmpR .Eq (lk v 2 S) fun S => (.ok (.int 2) S)) (fun S =>
    (retR v (binR .Add (.ok (.str "least ") S) fun S => (boR G__law_how "str" (consR (lk v 3 S) fun S => .ok [] S)))).seq fun v S =>
    .nx v S)
  fun S => .nx v S).seq fun v S =>
  (iteR v (cmpR .Eq (lk v 2 S) fun S => (.ok (.int 3) S)) (fun S =>
    (retR v (binR .Add (.ok (.str "most ") S) fun S => (boR G__law_how "str" (consR (lk v 3 S) fun S => .ok [] S)))).seq fun v S =>
    .nx v S)
  fun S => .nx v S).seq fun v S =>
  (iteR v (cmpR .Eq (lk v 2 S) fun S => (.ok (.int 4) S)) (fun S =>
    (setR v 4 (binR .Add (.ok (.int 1) S) fun S => (fnR fi__law_draw (consR (lk v 0 S) fun S => consR (.ok (.int 4) S) fun S => .ok [] S)))).seq fun v S =>
    (retR v (binR .Add (binR .Add (binR .Add (.ok (.str "near ") S) fun S => (boR G__law_how "str" (consR (binR .Mult (lk v 4 S) fun S => (binR .FloorDiv (binR .Add (binR .Mult (.ok (.int 2) S) fun S => (lk v 3 S)) fun S => (lk v 4 S)) fun S => (binR .Mult (.ok (.int 2) S) fun S => (lk v 4 S)))) fun S => .ok [] S))) fun S => (.ok (.str " by ") S)) fun S => (boR G__law_how "str" (consR (lk v 4 S) fun S => .ok [] S)))).seq fun v S =>
    .nx v S)
  fun S => .nx v S).seq fun v S =>
  (retR v (binR .Add (.ok (.str "under ") S) fun S => (boR G__law_how "str" (consR (binR .Add (binR .Add (lk v 3 S) fun S => (.ok (.int 1) S)) fun S => (fnR fi__law_draw (consR (lk v 0 S) fun S => consR (.ok (.int 2) S) fun S => .ok [] S))) fun S => .ok [] S)))).seq fun v S =>
  .nx v S
theorem e__law_how (a : List D) (S : Sto) : bodyRun WW 60 G__law_how d15 a S = s__law_how a S := by kernel_rfl
def fi__law_how : FnI := ⟨GN_14.lev + 1, d15.kind, d15.ps, d15.dfl, d15.pur, d15.frz, s__law_how, d15.kws⟩
theorem run__law_how : fi__law_how.run = s__law_how := rfl
def GN_15 : Gen := addS GN_14 d15 s__law_how
abbrev G__law_lines : Gen := GN_15
def s__law_lines (args : List D) (S : Sto) : Res D := finR <|
  let v := begR 3 12 args
  (setsR v [5, 6] (consR (binR .Add (.ok (.int 1) S) fun S => (fnR fi__law_draw (consR (lk v 0 S) fun S => consR (.ok (.int 9) S) fun S => .ok [] S))) fun S => consR (allocR (lstR (consR (.ok (.int 0) S) fun S => consR (.ok (.int 0) S) fun S => consR (.ok (.int 0) S) fun S => consR (.ok (.int 0) S) fun S => consR (.ok (.int 0) S) fun S => .ok [] S))) fun S => .ok [] S)).seq fun v S =>
  (forR v (rng1 (consR (fnR fi__law_draw (consR (lk v 0 S) fun S => consR (binR .Add (lk v 2 S) fun S => (.ok (.int 1) S)) fun S => .ok [] S)) fun S => .ok [] S)) (.one 3) (fun v S =>
    (setR v 7 (fnR fi__law_draw (consR (lk v 0 S) fun S => consR (.ok (.int 5) S) fun S => .ok [] S))).seq fun v S =>
    (ixsR v (binR .Add (subR (lk v 6 S) fun S => (lk v 7 S)) fun S => (.ok (.int 1) S)) (fun S => (lk v 6 S)) fun S => (lk v 7 S)).seq fun v S =>
    .nx v S)).seq fun v S =>
  (setR v 4 (allocR (lstR (consR (binR .Add (.ok (.str "0 open most ") S) fun S => (boR G__law_lines "str" (consR (lk v 2 S) fun S => .ok [] S))) fun S => .ok [] S)))).seq fun v S =>
  (forR v (rng1 (consR (binR .Add (.ok (.int 1) S) fun S => (fnR fi__law_draw (consR (lk v 0 S) fun S => consR (lk v 1 S) fun S => .ok [] S))) fun S => .ok [] S)) (.one 3) (fun v S =>
    (setR v 8 (fnR fi__law_draw (consR (lk v 0 S) fun S => consR (.ok (.int 4) S) fun S => .ok [] S))).seq fun v S =>
    (setR v 9 (binR .Add (binR .Add (lk v 8 S) fun S => (.ok (.int 1) S)) fun S => (fnR fi__law_draw (consR (lk v 0 S) fun S => consR (binR .Sub (.ok (.int 5) S) fun S => (lk v 8 S)) fun S => .ok [] S)))).seq fun v S =>
    (setR v 10 (ifR (cmpR .Eq (lk v 9 S) fun S => (.ok (.int 5) S)) (fun S => (.ok (.str "open") S)) fun S => (boR G__law_lines "str" (consR (binR .Mult (lk v 5 S) fun S => (lk v 9 S)) fun S => .ok [] S)))).seq fun v S =>
    (setR v 11 (fnR fi__law_how (consR (lk v 0 S) fun S => consR (bR (bSum) (consR (sliR (lk v 6 S) (fun S => (intP (lk v 8 S))) fun S => (intP (lk v 9 S))) fun S => .ok [] S)) fun S => .ok [] S))).seq fun v S =>
    (expR v (meR G__law_lines "insert" (lk v 4 S) fun S => (consR (fnR fi__law_draw (consR (lk v 0 S) fun S => consR (binR .Add (boR G__law_lines "len" (consR (lk v 4 S) fun S => .ok [] S)) fun S => (.ok (.int 1) S)) fun S => .ok [] S)) fun S => consR (binR .Add (binR .Add (binR .Add (binR .Add (boR G__law_lines "str" (consR (binR .Mult (lk v 5 S) fun S => (lk v 8 S)) fun S => .ok [] S)) fun S => (.ok (.str " ") S)) fun S => (lk v 10 S)) fun S => (.ok (.str " ") S)) fun S => (lk v 11 S)) fun S => .ok [] S))).seq fun v S =>
    .nx v S)).seq fun v S =>
  (retR v (lk v 4 S)).seq fun v S =>
  .nx v S
theorem e__law_lines (a : List D) (S : Sto) : bodyRun WW 60 G__law_lines d16 a S = s__law_lines a S := by kernel_rfl
def fi__law_lines : FnI := ⟨GN_15.lev + 1, d16.kind, d16.ps, d16.dfl, d16.pur, d16.frz, s__law_lines, d16.kws⟩
theorem run__law_lines : fi__law_lines.run = s__law_lines := rfl
def GN_16 : Gen := addS GN_15 d16 s__law_lines
abbrev G_Table___repr__ : Gen := GN_16
def s_Table___repr__ (args : List D) (S : Sto) : Res D := finR <|
  let v := begR 1 1 args
  (retR v .bad).seq fun v S =>
  .nx v S
theorem e_Table___repr__ (a : List D) (S : Sto) : bodyRun WW 60 G_Table___repr__ d17 a S = s_Table___repr__ a S := by kernel_rfl
def fi_Table___repr__ : FnI := ⟨GN_16.lev + 1, d17.kind, d17.ps, d17.dfl, d17.pur, d17.frz, s_Table___repr__, d17.kws⟩
theorem run_Table___repr__ : fi_Table___repr__.run = s_Table___repr__ := rfl
def GN_17 : Gen := addS GN_16 d17 s_Table___repr__
abbrev G_check_table : Gen := GN_17
def s_check_table (args : List D) (S : Sto) : Res D := finR <|
  let v := begR 1 1 args
  (iteR v (notT (truR (ownR "Table" (lk v 0 S)))) (fun S =>
    (SRes.bad).seq fun v S =>
    .nx v S)
  fun S => .nx v S).seq fun v S =>
  .nx v S
theorem e_check_table (a : List D) (S : Sto) : bodyRun WW 60 G_check_table d18 a S = s_check_table a S := by kernel_rfl
def fi_check_table : FnI := ⟨GN_17.lev + 1, d18.kind, d18.ps, d18.dfl, d18.pur, d18.frz, s_check_table, d18.kws⟩
theorem run_check_table : fi_check_table.run = s_check_table := rfl
def GN_18 : Gen := addS GN_17 d18 s_check_table
abbrev G_Ways_ring : Gen := GN_18
def s_Ways_ring (args : List D) (S : Sto) : Res D := finR <|
  let v := begR 1 5 args
  (iteR v (cmpR .Eq (boR G_Ways_ring "len" (consR (attR clsF "helped" (lk v 0 S)) fun S => .ok [] S)) fun S => (.ok (.int 0) S)) (fun S =>
    (retR v (.ok .non S)).seq fun v S =>
    .nx v S)
  fun S => .nx v S).seq fun v S =>
  (setsR v [1, 2] (consR (attR clsF "high" (subR (attR clsF "helped" (lk v 0 S)) fun S => (.ok (.int 0) S))) fun S => consR (allocR (lstR (.ok [] S))) fun S => .ok [] S)).seq fun v S =>
  (loopW (fun v S => (cmpR .NotIn (lk v 1 S) fun S => (lk v 2 S))) (fun v S =>
    (expR v (meR G_Ways_ring "append" (lk v 2 S) fun S => (consR (lk v 1 S) fun S => .ok [] S))).seq fun v S =>
    (setR v 1 (attR clsF "low" (subR (attR clsF "last" (lk v 0 S)) fun S => (lk v 1 S)))).seq fun v S =>
    .nx v S) WW v S).seq fun v S =>
  (setsR v [3, 4] (consR (allocR (lstR (consR (subR (attR clsF "last" (lk v 0 S)) fun S => (lk v 1 S)) fun S => .ok [] S))) fun S => consR (attR clsF "low" (subR (attR clsF "last" (lk v 0 S)) fun S => (lk v 1 S))) fun S => .ok [] S)).seq fun v S =>
  (loopW (fun v S => (cmpR .NotEq (lk v 4 S) fun S => (lk v 1 S))) (fun v S =>
    (expR v (meR G_Ways_ring "append" (lk v 3 S) fun S => (consR (subR (attR clsF "last" (lk v 0 S)) fun S => (lk v 4 S)) fun S => .ok [] S))).seq fun v S =>
    (setR v 4 (attR clsF "low" (subR (attR clsF "last" (lk v 0 S)) fun S => (lk v 4 S)))).seq fun v S =>
    .nx v S) WW v S).seq fun v S =>
  (retR v (lk v 3 S)).seq fun v S =>
  .nx v S
theorem e_Ways_ring (a : List D) (S : Sto) : bodyRun WW 60 G_Ways_ring d19 a S = s_Ways_ring a S := by kernel_rfl
def fi_Ways_ring : FnI := ⟨GN_18.lev + 1, d19.kind, d19.ps, d19.dfl, d19.pur, d19.frz, s_Ways_ring, d19.kws⟩
theorem run_Ways_ring : fi_Ways_ring.run = s_Ways_ring := rfl
def GN_19 : Gen := addS GN_18 d19 s_Ways_ring
abbrev G_lot_of : Gen := GN_19
def s_lot_of (args : List D) (S : Sto) : Res D := finR <|
  let v := begR 1 2 args
  (retR v (bR (bTup) (consR (obR (lcR (compR (itR (lk v 0 S)) (turnR (.one 1) (some fun v S => (cmpR .IsNot (attR clsF "source" (lk v 1 S)) fun S => (.ok .non S))) (fun v S => (tupR (starR (attR clsF "source" (lk v 1 S)) fun S => consR (.ok (.int 1) S) fun S => .ok [] S))) (wipeD v [1]))))) fun S => .ok [] S))).seq fun v S =>
  .nx v S
theorem e_lot_of (a : List D) (S : Sto) : bodyRun WW 60 G_lot_of d20 a S = s_lot_of a S := by kernel_rfl
def fi_lot_of : FnI := ⟨GN_19.lev + 1, d20.kind, d20.ps, d20.dfl, d20.pur, d20.frz, s_lot_of, d20.kws⟩
theorem run_lot_of : fi_lot_of.run = s_lot_of := rfl
def GN_20 : Gen := addS GN_19 d20 s_lot_of
abbrev G_Points_size : Gen := GN_20
def s_Points_size (args : List D) (S : Sto) : Res D := finR <|
  let v := begR 1 1 args
  (retR v (binR .Add (boR G_Points_size "len" (consR (attR clsF "marks" (lk v 0 S)) fun S => .ok [] S)) fun S => (.ok (.int 1) S))).seq fun v S =>
  .nx v S
theorem e_Points_size (a : List D) (S : Sto) : bodyRun WW 60 G_Points_size d21 a S = s_Points_size a S := by kernel_rfl
def fi_Points_size : FnI := ⟨GN_20.lev + 1, d21.kind, d21.ps, d21.dfl, d21.pur, d21.frz, s_Points_size, d21.kws⟩
theorem run_Points_size : fi_Points_size.run = s_Points_size := rfl
def GN_21 : Gen := addS GN_20 d21 s_Points_size
abbrev G_Ways_is_better : Gen := GN_21
def s_Ways_is_better (args : List D) (S : Sto) : Res D := finR <|
  let v := begR 2 3 args
  (iteR v (cmpR .NotIn (attR clsF "low" (lk v 1 S)) fun S => (attR clsF "costs" (lk v 0 S))) (fun S =>
    (retR v (.ok (.bl false) S)).seq fun v S =>
    .nx v S)
  fun S => .nx v S).seq fun v S =>
  (setR v 2 (binR .Add (subR (attR clsF "costs" (lk v 0 S)) fun S => (attR clsF "low" (lk v 1 S))) fun S => (attR clsF "most" (lk v 1 S)))).seq fun v S =>
  (iteR v (andT (cmpR .In (attR clsF "high" (lk v 1 S)) fun S => (attR clsF "costs" (lk v 0 S))) fun S => (cmpR .LtE (subR (attR clsF "costs" (lk v 0 S)) fun S => (attR clsF "high" (lk v 1 S))) fun S => (lk v 2 S))) (fun S =>
    (retR v (.ok (.bl false) S)).seq fun v S =>
    .nx v S)
  fun S => .nx v S).seq fun v S =>
  (ixsR v (lk v 2 S) (fun S => (attR clsF "costs" (lk v 0 S))) fun S => (attR clsF "high" (lk v 1 S))).seq fun v S =>
  (ixsR v (lk v 1 S) (fun S => (attR clsF "last" (lk v 0 S))) fun S => (attR clsF "high" (lk v 1 S))).seq fun v S =>
  (retR v (.ok (.bl true) S)).seq fun v S =>
  .nx v S
theorem e_Ways_is_better (a : List D) (S : Sto) : bodyRun WW 60 G_Ways_is_better d22 a S = s_Ways_is_better a S := by kernel_rfl
def fi_Ways_is_better : FnI := ⟨GN_21.lev + 1, d22.kind, d22.ps, d22.dfl, d22.pur, d22.frz, s_Ways_is_better, d22.kws⟩
theorem run_Ways_is_better : fi_Ways_is_better.run = s_Ways_is_better := rfl
def GN_22 : Gen := addS GN_21 d22 s_Ways_is_better
abbrev G_Ways___init__ : Gen := GN_22
def s_Ways___init__ (args : List D) (S : Sto) : Res D := finR <|
  let v := begR 3 7 args
  (setR v 3 (meR G_Ways___init__ "size" (lk v 1 S) fun S => (.ok [] S))).seq fun v S =>
  (atsR clsF v "begin" (lk v 2 S) fun S => (lk v 0 S)).seq fun v S =>
  (atsR clsF v "costs" (ifR (cmpR .Is (lk v 2 S) fun S => (.ok .non S)) (fun S => (allocR (dcR (compDR (rng1 (consR (lk v 3 S) fun S => .ok [] S)) (turnDR (.one 5) none (fun v S => (lk v 5 S)) (fun v S => (.ok (.int 0) S)) (wipeD v [5])))))) fun S => (allocR (dispR (kvR (lk v 2 S) (fun S => (.ok (.int 0) S)) fun S => .ok [] S)))) fun S => (lk v 0 S)).seq fun v S =>
  (atsR clsF v "last" (allocR (.ok (.dict [] []) S)) fun S => (lk v 0 S)).seq fun v S =>
  (atsR clsF v "helped" (allocR (lstR (.ok [] S))) fun S => (lk v 0 S)).seq fun v S =>
  (forR v (rng1 (consR (binR .Add (lk v 3 S) fun S => (.ok (.int 1) S)) fun S => .ok [] S)) (.one 4) (fun v S =>
    (atsR clsF v "helped" (allocR (lcR (compR (itR (attR clsF "held" (lk v 1 S))) (turnR (.one 6) (some fun v S => (truR (meR G_Ways___init__ "is_better" (lk v 0 S) fun S => (consR (lk v 6 S) fun S => .ok [] S)))) (fun v S => (lk v 6 S)) (wipeD v [6]))))) fun S => (lk v 0 S)).seq fun v S =>
    (iteR v (cmpR .Eq (boR G_Ways___init__ "len" (consR (attR clsF "helped" (lk v 0 S)) fun S => .ok [] S)) fun S => (.ok (.int 0) S)) (fun S =>
      (SRes.bk v S).seq fun v S =>
      .nx v S)
    fun S => .nx v S).seq fun v S =>
    .nx v S)).seq fun v S =>
  .nx v S
theorem e_Ways___init__ (a : List D) (S : Sto) : bodyRun WW 60 G_Ways___init__ d23 a S = s_Ways___init__ a S := by kernel_rfl
def fi_Ways___init__ : FnI := ⟨GN_22.lev + 1, d23.kind, d23.ps, d23.dfl, d23.pur, d23.frz, s_Ways___init__, d23.kws⟩
theorem run_Ways___init__ : fi_Ways___init__.run = s_Ways___init__ := rfl
def GN_23 : Gen := addS GN_22 d23 s_Ways___init__
abbrev G_Bound___init__ : Gen := GN_23
def s_Bound___init__ (args : List D) (S : Sto) : Res D := finR <|
  let v := begR 5 5 args
  (atsR clsF v "low" (lk v 1 S) fun S => (lk v 0 S)).seq fun v S =>
  (atsR clsF v "high" (lk v 2 S) fun S => (lk v 0 S)).seq fun v S =>
  (atsR clsF v "most" (lk v 3 S) fun S => (lk v 0 S)).seq fun v S =>
  (atsR clsF v "source" (lk v 4 S) fun S => (lk v 0 S)).seq fun v S =>
  .nx v S
theorem e_Bound___init__ (a : List D) (S : Sto) : bodyRun WW 60 G_Bound___init__ d24 a S = s_Bound___init__ a S := by kernel_rfl
def fi_Bound___init__ : FnI := ⟨GN_23.lev + 1, d24.kind, d24.ps, d24.dfl, d24.pur, d24.frz, s_Bound___init__, d24.kws⟩
theorem run_Bound___init__ : fi_Bound___init__.run = s_Bound___init__ := rfl
def GN_24 : Gen := addS GN_23 d24 s_Bound___init__
abbrev G_Points_add : Gen := GN_24
def s_Points_add (args : List D) (S : Sto) : Res D := finR <|
  let v := begR 6 6 args
  (expR v (meR G_Points_add "append" (attR clsF "held" (lk v 0 S)) fun S => (consR (mkR "Bound" ci_Bound fi_Bound___init__ (consR (subR (attR clsF "places" (lk v 0 S)) fun S => (lk v 2 S)) fun S => consR (subR (attR clsF "places" (lk v 0 S)) fun S => (lk v 1 S)) fun S => consR (negR (lk v 3 S)) fun S => consR (tupR (consR (lk v 5 S) fun S => consR (.ok (.str "least") S) fun S => .ok [] S)) fun S => .ok [] S)) fun S => .ok [] S))).seq fun v S =>
  (iteR v (cmpR .IsNot (lk v 4 S) fun S => (.ok .non S)) (fun S =>
    (expR v (meR G_Points_add "append" (attR clsF "held" (lk v 0 S)) fun S => (consR (mkR "Bound" ci_Bound fi_Bound___init__ (consR (subR (attR clsF "places" (lk v 0 S)) fun S => (lk v 1 S)) fun S => consR (subR (attR clsF "places" (lk v 0 S)) fun S => (lk v 2 S)) fun S => consR (lk v 4 S) fun S => consR (tupR (consR (lk v 5 S) fun S => consR (.ok (.str "most") S) fun S => .ok [] S)) fun S => .ok [] S)) fun S => .ok [] S))).seq fun v S =>
    .nx v S)
  fun S => .nx v S).seq fun v S =>
  .nx v S
theorem e_Points_add (a : List D) (S : Sto) : bodyRun WW 60 G_Points_add d25 a S = s_Points_add a S := by kernel_rfl
def fi_Points_add : FnI := ⟨GN_24.lev + 1, d25.kind, d25.ps, d25.dfl, d25.pur, d25.frz, s_Points_add, d25.kws⟩
theorem run_Points_add : fi_Points_add.run = s_Points_add := rfl
def GN_25 : Gen := addS GN_24 d25 s_Points_add
abbrev G_Points___init__ : Gen := GN_25
def s_Points___init__ (args : List D) (S : Sto) : Res D := finR <|
  let v := begR 3 10 args
  (setR v 3 (allocR (dispR (kvR (.ok (.int 0) S) (fun S => (.ok (.bl true) S)) fun S => .ok [] S)))).seq fun v S =>
  (forR v (itR (obR (lstR (starR (obR (lcR (compR (itR (lk v 1 S)) (turnR (.one 7) none (fun v S => (tupR (consR (attR clsF "low" (lk v 7 S)) fun S => consR (attR clsF "high" (lk v 7 S)) fun S => .ok [] S))) (wipeD v [7]))))) fun S => starR (lk v 2 S) fun S => .ok [] S)))) (.many [4, 5]) (fun v S =>
    (ixsR v (.ok (.bl true) S) (fun S => (lk v 3 S)) fun S => (lk v 4 S)).seq fun v S =>
    (iteR v (cmpR .NotEq (lk v 5 S) fun S => (.ok gv_OPEN S)) (fun S =>
      (ixsR v (.ok (.bl true) S) (fun S => (lk v 3 S)) fun S => (lk v 5 S)).seq fun v S =>
      .nx v S)
    fun S => .nx v S).seq fun v S =>
    .nx v S)).seq fun v S =>
  (atsR clsF v "marks" (bR (bSorted) (consR (lk v 3 S) fun S => .ok [] S)) fun S => (lk v 0 S)).seq fun v S =>
  (atsR clsF v "places" (allocR (dcR (compDR (enuR (consR (attR clsF "marks" (lk v 0 S)) fun S => .ok [] S)) (turnDR (.many [8, 9]) none (fun v S => (lk v 9 S)) (fun v S => (lk v 8 S)) (wipeD v [8, 9]))))) fun S => (lk v 0 S)).seq fun v S =>
  (ixsR v (boR G_Points___init__ "len" (consR (attR clsF "marks" (lk v 0 S)) fun S => .ok [] S)) (fun S => (attR clsF "places" (lk v 0 S))) fun S => (.ok gv_OPEN S)).seq fun v S =>
  (atsR clsF v "held" (allocR (lcR (compR (rng1 (consR (boR G_Points___init__ "len" (consR (attR clsF "marks" (lk v 0 S)) fun S => .ok [] S)) fun S => .ok [] S)) (turnR (.one 8) none (fun v S => (mkR "Bound" ci_Bound fi_Bound___init__ (consR (binR .Add (lk v 8 S) fun S => (.ok (.int 1) S)) fun S => consR (lk v 8 S) fun S => consR (.ok (.int 0) S) fun S => consR (.ok .non S) fun S => .ok [] S))) (wipeD v [8]))))) fun S => (lk v 0 S)).seq fun v S =>
  (forR v (enuR (consR (lk v 1 S) fun S => .ok [] S)) (.many [6, 7]) (fun v S =>
    (expR v (meR G_Points___init__ "add" (lk v 0 S) fun S => (consR (attR clsF "low" (lk v 7 S)) fun S => consR (attR clsF "high" (lk v 7 S)) fun S => consR (attR clsF "least" (lk v 7 S)) fun S => consR (attR clsF "most" (lk v 7 S)) fun S => consR (lk v 6 S) fun S => .ok [] S))).seq fun v S =>
    .nx v S)).seq fun v S =>
  .nx v S
theorem e_Points___init__ (a : List D) (S : Sto) : bodyRun WW 60 G_Points___init__ d26 a S = s_Points___init__ a S := by kernel_rfl
def fi_Points___init__ : FnI := ⟨GN_25.lev + 1, d26.kind, d26.ps, d26.dfl, d26.pur, d26.frz, s_Points___init__, d26.kws⟩
theorem run_Points___init__ : fi_Points___init__.run = s_Points___init__ := rfl
def GN_26 : Gen := addS GN_25 d26 s_Points___init__
abbrev G_clash_of : Gen := GN_26
def s_clash_of (args : List D) (S : Sto) : Res D := finR <|
  let v := begR 1 2 args
  (setR v 1 (meR G_clash_of "ring" (mkR "Ways" ci_Ways fi_Ways___init__ (consR (mkR "Points" ci_Points fi_Points___init__ (consR (lk v 0 S) fun S => .ok [] S)) fun S => consR (.ok .non S) fun S => .ok [] S)) fun S => (.ok [] S))).seq fun v S =>
  (retR v (ifR (cmpR .Is (lk v 1 S) fun S => (.ok .non S)) (fun S => (.ok .non S)) fun S => (fnR fi_lot_of (consR (lk v 1 S) fun S => .ok [] S)))).seq fun v S =>
  .nx v S
theorem e_clash_of (a : List D) (S : Sto) : bodyRun WW 60 G_clash_of d27 a S = s_clash_of a S := by kernel_rfl
def fi_clash_of : FnI := ⟨GN_26.lev + 1, d27.kind, d27.ps, d27.dfl, d27.pur, d27.frz, s_clash_of, d27.kws⟩
theorem run_clash_of : fi_clash_of.run = s_clash_of := rfl
def GN_27 : Gen := addS GN_26 d27 s_clash_of
abbrev G_clash : Gen := GN_27
def s_clash (args : List D) (S : Sto) : Res D := finR <|
  let v := begR 1 1 args
  (expR v (fnR fi_check_table (consR (lk v 0 S) fun S => .ok [] S))).seq fun v S =>
  (retR v (fnR fi_clash_of (consR (attR clsF "told" (lk v 0 S)) fun S => .ok [] S))).seq fun v S =>
  .nx v S
theorem e_clash (a : List D) (S : Sto) : bodyRun WW 60 G_clash d28 a S = s_clash a S := by kernel_rfl
def fi_clash : FnI := ⟨GN_27.lev + 1, d28.kind, d28.ps, d28.dfl, d28.pur, d28.frz, s_clash, d28.kws⟩
theorem run_clash : fi_clash.run = s_clash := rfl
def GN_28 : Gen := addS GN_27 d28 s_clash
abbrev G__law_pick : Gen := GN_28
def s__law_pick (args : List D) (S : Sto) : Res D := finR <|
  let v := begR 2 2 args
  (retR v (subR (lk v 1 S) fun S => (fnR fi__law_draw (consR (lk v 0 S) fun S => consR (boR G__law_pick "len" (consR (lk v 1 S) fun S => .ok [] S)) fun S => .ok [] S)))).seq fun v S =>
  .nx v S
theorem e__law_pick (a : List D) (S : Sto) : bodyRun WW 60 G__law_pick d29 a S = s__law_pick a S := by kernel_rfl
def fi__law_pick : FnI := ⟨GN_28.lev + 1, d29.kind, d29.ps, d29.dfl, d29.pur, d29.frz, s__law_pick, d29.kws⟩
theorem run__law_pick : fi__law_pick.run = s__law_pick := rfl
def GN_29 : Gen := addS GN_28 d29 s__law_pick
abbrev G__law_bent : Gen := GN_29
def s__law_bent (args : List D) (S : Sto) : Res D := finR <|
  let v := begR 3 13 args
  (setsR v [3, 4] (consR (fnR fi__law_draw (consR (lk v 0 S) fun S => consR (binR .Add (boR G__law_bent "len" (consR (lk v 2 S) fun S => .ok [] S)) fun S => (.ok (.int 1) S)) fun S => .ok [] S)) fun S => consR (fnR fi__law_draw (consR (lk v 0 S) fun S => consR (.ok (.int 5) S) fun S => .ok [] S)) fun S => .ok [] S)).seq fun v S =>
  (iteR v (orT (cmpR .Eq (lk v 4 S) fun S => (.ok (.int 0) S)) fun S => (cmpR .Eq (lk v 2 S) fun S => (tupR (.ok [] S)))) (fun S =>
    (setR v 5 (fnR fi__law_draw (consR (lk v 0 S) fun S => consR (boR G__law_bent "len" (consR (lk v 1 S) fun S => .ok [] S)) fun S => .ok [] S))).seq fun v S =>
    (setR v 6 (ifR (cmpR .Is (subR (subR (lk v 1 S) fun S => (lk v 5 S)) fun S => (.ok (.int 3) S)) fun S => (.ok .non S)) (fun S => (.ok (.str "least") S)) fun S => (fnR fi__law_pick (consR (lk v 0 S) fun S => consR (obR (lstR (consR (.ok (.str "least") S) fun S => consR (.ok (.str "most") S) fun S => .ok [] S))) fun S => .ok [] S)))).seq fun v S =>
    (retR v (binR .Add (binR .Add (sliR (lk v 2 S) (fun S => noP S) fun S => (intP (lk v 3 S))) fun S => (tupR (consR (tupR (consR (lk v 5 S) fun S => consR (lk v 6 S) fun S => consR (binR .Add (.ok (.int 1) S) fun S => (fnR fi__law_draw (consR (lk v 0 S) fun S => consR (.ok (.int 3) S) fun S => .ok [] S))) fun S => .ok [] S)) fun S => .ok [] S))) fun S => (sliR (lk v 2 S) (fun S => (intP (lk v 3 S))) fun S => noP S))).seq fun v S =>
    .nx v S)
  fun S => .nx v S).seq fun v S =>
  (setR v 3 (bR (fun _ => bMin) (consR (lk v 3 S) fun S => consR (binR .Sub (boR G__law_bent "len" (consR (lk v 2 S) fun S => .ok [] S)) fun S => (.ok (.int 1) S)) fun S => .ok [] S))).seq fun v S =>
  (unpR v (.many [5, 6, 7]) (subR (lk v 2 S) fun S => (lk v 3 S))).seq fun v S =>
  (iteR v (cmpR .Eq (lk v 4 S) fun S => (.ok (.int 1) S)) (fun S =>
    (retR v (binR .Add (sliR (lk v 2 S) (fun S => noP S) fun S => (intP (lk v 3 S))) fun S => (sliR (lk v 2 S) (fun S => (intP (binR .Add (lk v 3 S) fun S => (.ok (.int 1) S)))) fun S => noP S))).seq fun v S =>
    .nx v S)
  fun S => .nx v S).seq fun v S =>
  (iteR v (cmpR .Eq (lk v 4 S) fun S => (.ok (.int 2) S)) (fun S =>
    (setR v 8 (tupR (consR (lk v 5 S) fun S => consR (lk v 6 S) fun S => consR (binR .Add (lk v 7 S) fun S => (fnR fi__law_pick (consR (lk v 0 S) fun S => consR (obR (lstR (consR (.ok (.int 1) S) fun S => consR (negR (.ok (.int 1) S)) fun S => consR (.ok (.int 5) S) fun S => .ok [] S))) fun S => .ok [] S))) fun S => .ok [] S))).seq fun v S =>
    (retR v (binR .Add (binR .Add (sliR (lk v 2 S) (fun S => noP S) fun S => (intP (lk v 3 S))) fun S => (tupR (consR (lk v 8 S) fun S => .ok [] S))) fun S => (sliR (lk v 2 S) (fun S => (intP (binR .Add (lk v 3 S) fun S => (.ok (.int 1) S)))) fun S => noP S))).seq fun v S =>
    .nx v S)
  fun S => .nx v S).seq fun v S =>
  (iteR v (cmpR .Eq (lk v 4 S) fun S => (.ok (.int 3) S)) (fun S =>
    (setR v 9 (fnR fi__law_draw (consR (lk v 0 S) fun S => consR (boR G__law_bent "len" (consR (lk v 1 S) fun S => .ok [] S)) fun S => .ok [] S))).seq fun v S =>
    (retR v (binR .Add (binR .Add (sliR (lk v 2 S) (fun S => noP S) fun S => (intP (lk v 3 S))) fun S => (tupR (consR (tupR (consR (lk v 9 S) fun S => consR (.ok (.str "least") S) fun S => consR (lk v 7 S) fun S => .ok [] S)) fun S => .ok [] S))) fun S => (sliR (lk v 2 S) (fun S => (intP (binR .Add (lk v 3 S) fun S => (.ok (.int 1) S)))) fun S => noP S))).seq fun v S =>
    .nx v S)
  fun S => .nx v S).seq fun v S =>
  (retR v (bR (bTup) (consR (obR (lcR (compR (itR (lk v 2 S)) (turnR (.many [10, 11, 12]) none (fun v S => (tupR (consR (lk v 10 S) fun S => consR (lk v 11 S) fun S => consR (binR .Mult (.ok (.int 2) S) fun S => (lk v 12 S)) fun S => .ok [] S))) (wipeD v [10, 11, 12]))))) fun S => .ok [] S))).seq fun v S =>
  .nx v S
theorem e__law_bent (a : List D) (S : Sto) : bodyRun WW 60 G__law_bent d30 a S = s__law_bent a S := by kernel_rfl
def fi__law_bent : FnI := ⟨GN_29.lev + 1, d30.kind, d30.ps, d30.dfl, d30.pur, d30.frz, s__law_bent, d30.kws⟩
theorem run__law_bent : fi__law_bent.run = s__law_bent := rfl
def GN_30 : Gen := addS GN_29 d30 s__law_bent
abbrev G__law_int : Gen := GN_30
def s__law_int (args : List D) (S : Sto) : Res D := finR <|
  let v := begR 1 1 args
  (retR v (andR (isiR "int" (lk v 0 S)) fun S => (notR (isiR "bool" (lk v 0 S))))).seq fun v S =>
  .nx v S
theorem e__law_int (a : List D) (S : Sto) : bodyRun WW 60 G__law_int d31 a S = s__law_int a S := by kernel_rfl
def fi__law_int : FnI := ⟨GN_30.lev + 1, d31.kind, d31.ps, d31.dfl, d31.pur, d31.frz, s__law_int, d31.kws⟩
theorem run__law_int : fi__law_int.run = s__law_int := rfl
def GN_31 : Gen := addS GN_30 d31 s__law_int
abbrev G__law_is_lot : Gen := GN_31
def s__law_is_lot (args : List D) (S : Sto) : Res D := finR <|
  let v := begR 2 4 args
  (iteR v (notT (truR (isiR "tuple" (lk v 1 S)))) (fun S =>
    (retR v (.ok (.bl false) S)).seq fun v S =>
    .nx v S)
  fun S => .nx v S).seq fun v S =>
  (setR v 2 (allocR (lstR (.ok [] S)))).seq fun v S =>
  (forR v (itR (lk v 1 S)) (.one 3) (fun v S =>
    (iteR v (orT (notT (truR (isiR "tuple" (lk v 3 S)))) fun S => (orT (cmpR .NotEq (boR G__law_is_lot "len" (consR (lk v 3 S) fun S => .ok [] S)) fun S => (.ok (.int 3) S)) fun S => (orT (notT (truR (fnR fi__law_int (consR (subR (lk v 3 S) fun S => (.ok (.int 0) S)) fun S => .ok [] S)))) fun S => (notT (truR (fnR fi__law_int (consR (subR (lk v 3 S) fun S => (.ok (.int 2) S)) fun S => .ok [] S))))))) (fun S =>
      (retR v (.ok (.bl false) S)).seq fun v S =>
      .nx v S)
    fun S => .nx v S).seq fun v S =>
    (iteR v (orT (notT (truR (isiR "str" (subR (lk v 3 S) fun S => (.ok (.int 1) S))))) fun S => (cmpR .NotIn (subR (lk v 3 S) fun S => (.ok (.int 1) S)) fun S => (obR (lstR (consR (.ok (.str "least") S) fun S => consR (.ok (.str "most") S) fun S => .ok [] S))))) (fun S =>
      (retR v (.ok (.bl false) S)).seq fun v S =>
      .nx v S)
    fun S => .nx v S).seq fun v S =>
    (iteR v (orT (cmpR .Lt (subR (lk v 3 S) fun S => (.ok (.int 2) S)) fun S => (.ok (.int 1) S)) fun S => (notT (cmp2R .LtE .Lt (.ok (.int 0) S) (fun S => (subR (lk v 3 S) fun S => (.ok (.int 0) S))) fun S => (boR G__law_is_lot "len" (consR (lk v 0 S) fun S => .ok [] S))))) (fun S =>
      (retR v (.ok (.bl false) S)).seq fun v S =>
      .nx v S)
    fun S => .nx v S).seq fun v S =>
    (iteR v (orT (andT (cmpR .Eq (subR (lk v 3 S) fun S => (.ok (.int 1) S)) fun S => (.ok (.str "most") S)) fun S => (cmpR .Is (subR (subR (lk v 0 S) fun S => (subR (lk v 3 S) fun S => (.ok (.int 0) S))) fun S => (.ok (.int 3) S)) fun S => (.ok .non S))) fun S => (cmpR .In (sliR (lk v 3 S) (fun S => noP S) fun S => (intP (.ok (.int 2) S))) fun S => (lk v 2 S))) (fun S =>
      (retR v (.ok (.bl false) S)).seq fun v S =>
      .nx v S)
    fun S => .nx v S).seq fun v S =>
    (expR v (meR G__law_is_lot "append" (lk v 2 S) fun S => (consR (sliR (lk v 3 S) (fun S => noP S) fun S => (intP (.ok (.int 2) S))) fun S => .ok [] S))).seq fun v S =>
    .nx v S)).seq fun v S =>
  (retR v (.ok (.bl true) S)).seq fun v S =>
  .nx v S
theorem e__law_is_lot (a : List D) (S : Sto) : bodyRun WW 60 G__law_is_lot d32 a S = s__law_is_lot a S := by kernel_rfl
def fi__law_is_lot : FnI := ⟨GN_31.lev + 1, d32.kind, d32.ps, d32.dfl, d32.pur, d32.frz, s__law_is_lot, d32.kws⟩
theorem run__law_is_lot : fi__law_is_lot.run = s__law_is_lot := rfl
def GN_32 : Gen := addS GN_31 d32 s__law_is_lot
abbrev G_text_table : Gen := GN_32
def s_text_table (args : List D) (S : Sto) : Res D := finR <|
  let v := begR 1 3 args
  (iteR v (notT (truR (isiR "str" (lk v 0 S)))) (fun S =>
    (retR v (.ok .non S)).seq fun v S =>
    .nx v S)
  fun S => .nx v S).seq fun v S =>
  (setR v 1 (bR (bTup) (consR (meR G_text_table "split" (lk v 0 S) fun S => (consR (.ok (.str "
") S) fun S => .ok [] S)) fun S => .ok [] S))).seq fun v S =>
  (iteR v (orT (cmpR .Gt (boR G_text_table "len" (consR (lk v 1 S) fun S => .ok [] S)) fun S => (.ok gv_MOST_TELLINGS S)) fun S => (notT (truR (bR (bAll) (consR (obR (lcR (compR (itR (lk v 1 S)) (turnR (.one 2) none (fun v S => (blR (cmpR .IsNot (fnR fi_telling_of (consR (lk v 2 S) fun S => .ok [] S)) fun S => (.ok .non S)))) (wipeD v [2]))))) fun S => .ok [] S))))) (fun S =>
    (retR v (.ok .non S)).seq fun v S =>
    .nx v S)
  fun S => .nx v S).seq fun v S =>
  (retR v (mkR "Table" ci_Table fi_Table___init__ (consR (lk v 1 S) fun S => .ok [] S))).seq fun v S =>
  .nx v S
theorem e_text_table (a : List D) (S : Sto) : bodyRun WW 60 G_text_table d33 a S = s_text_table a S := by kernel_rfl
def fi_text_table : FnI := ⟨GN_32.lev + 1, d33.kind, d33.ps, d33.dfl, d33.pur, d33.frz, s_text_table, d33.kws⟩
theorem run_text_table : fi_text_table.run = s_text_table := rfl
def GN_33 : Gen := addS GN_32 d33 s_text_table
abbrev G_is_count : Gen := GN_33
def s_is_count (args : List D) (S : Sto) : Res D := finR <|
  let v := begR 1 1 args
  (retR v (andR (fnR fi_is_integer (consR (lk v 0 S) fun S => .ok [] S)) fun S => (blR (cmpR .GtE (lk v 0 S) fun S => (.ok (.int 0) S))))).seq fun v S =>
  .nx v S
theorem e_is_count (a : List D) (S : Sto) : bodyRun WW 60 G_is_count d34 a S = s_is_count a S := by kernel_rfl
def fi_is_count : FnI := ⟨GN_33.lev + 1, d34.kind, d34.ps, d34.dfl, d34.pur, d34.frz, s_is_count, d34.kws⟩
theorem run_is_count : fi_is_count.run = s_is_count := rfl
def GN_34 : Gen := addS GN_33 d34 s_is_count
abbrev G_is_stretch : Gen := GN_34
def s_is_stretch (args : List D) (S : Sto) : Res D := finR <|
  let v := begR 2 2 args
  (retR v (andR (fnR fi_is_count (consR (lk v 0 S) fun S => .ok [] S)) fun S => (fnR fi_is_high (consR (lk v 1 S) fun S => consR (lk v 0 S) fun S => .ok [] S)))).seq fun v S =>
  .nx v S
theorem e_is_stretch (a : List D) (S : Sto) : bodyRun WW 60 G_is_stretch d35 a S = s_is_stretch a S := by kernel_rfl
def fi_is_stretch : FnI := ⟨GN_34.lev + 1, d35.kind, d35.ps, d35.dfl, d35.pur, d35.frz, s_is_stretch, d35.kws⟩
theorem run_is_stretch : fi_is_stretch.run = s_is_stretch := rfl
def GN_35 : Gen := addS GN_34 d35 s_is_stretch
abbrev G_lowest_terms : Gen := GN_35
def s_lowest_terms (args : List D) (S : Sto) : Res D := finR <|
  let v := begR 2 4 args
  (setsR v [2, 3] (consR (bR (fun _ => bAbs) (consR (lk v 0 S) fun S => .ok [] S)) fun S => consR (lk v 1 S) fun S => .ok [] S)).seq fun v S =>
  (loopW (fun v S => (cmpR .Gt (lk v 3 S) fun S => (.ok (.int 0) S))) (fun v S =>
    (setsR v [2, 3] (consR (lk v 3 S) fun S => consR (binR .Mod (lk v 2 S) fun S => (lk v 3 S)) fun S => .ok [] S)).seq fun v S =>
    .nx v S) WW v S).seq fun v S =>
  (retR v (tupR (consR (binR .FloorDiv (lk v 0 S) fun S => (lk v 2 S)) fun S => consR (binR .FloorDiv (lk v 1 S) fun S => (lk v 2 S)) fun S => .ok [] S))).seq fun v S =>
  .nx v S
theorem e_lowest_terms (a : List D) (S : Sto) : bodyRun WW 60 G_lowest_terms d36 a S = s_lowest_terms a S := by kernel_rfl
def fi_lowest_terms : FnI := ⟨GN_35.lev + 1, d36.kind, d36.ps, d36.dfl, d36.pur, d36.frz, s_lowest_terms, d36.kws⟩
theorem run_lowest_terms : fi_lowest_terms.run = s_lowest_terms := rfl
def GN_36 : Gen := addS GN_35 d36 s_lowest_terms
abbrev G_is_triple : Gen := GN_36
def s_is_triple (args : List D) (S : Sto) : Res D := finR <|
  let v := begR 1 2 args
  (iteR v (orT (notT (truR (isiR "tuple" (lk v 0 S)))) fun S => (orT (cmpR .NotEq (boR G_is_triple "len" (consR (lk v 0 S) fun S => .ok [] S)) fun S => (.ok (.int 3) S)) fun S => (notT (truR (bR (bAll) (consR (obR (lcR (compR (itR (lk v 0 S)) (turnR (.one 1) none (fun v S => (fnR fi_is_integer (consR (lk v 1 S) fun S => .ok [] S))) (wipeD v [1]))))) fun S => .ok [] S)))))) (fun S =>
    (retR v (.ok (.bl false) S)).seq fun v S =>
    .nx v S)
  fun S => .nx v S).seq fun v S =>
  (iteR v (orT (cmpR .Lt (subR (lk v 0 S) fun S => (.ok (.int 0) S)) fun S => (.ok (.int 0) S)) fun S => (orT (cmpR .Lt (subR (lk v 0 S) fun S => (.ok (.int 1) S)) fun S => (.ok (.int 1) S)) fun S => (cmpR .Lt (subR (lk v 0 S) fun S => (.ok (.int 2) S)) fun S => (.ok (.int 1) S)))) (fun S =>
    (retR v (.ok (.bl false) S)).seq fun v S =>
    .nx v S)
  fun S => .nx v S).seq fun v S =>
  (retR v (blR (cmpR .Eq (fnR fi_lowest_terms (consR (subR (lk v 0 S) fun S => (.ok (.int 0) S)) fun S => consR (subR (lk v 0 S) fun S => (.ok (.int 1) S)) fun S => .ok [] S)) fun S => (sliR (lk v 0 S) (fun S => noP S) fun S => (intP (.ok (.int 2) S)))))).seq fun v S =>
  .nx v S
theorem e_is_triple (a : List D) (S : Sto) : bodyRun WW 60 G_is_triple d37 a S = s_is_triple a S := by kernel_rfl
def fi_is_triple : FnI := ⟨GN_36.lev + 1, d37.kind, d37.ps, d37.dfl, d37.pur, d37.frz, s_is_triple, d37.kws⟩
theorem run_is_triple : fi_is_triple.run = s_is_triple := rfl
def GN_37 : Gen := addS GN_36 d37 s_is_triple
abbrev G_is_data : Gen := GN_37
def s_is_data (args : List D) (S : Sto) : Res D := finR <|
  let v := begR 1 4 args
  (iteR v (orT (notT (truR (isiR "tuple" (lk v 0 S)))) fun S => (notT (truR (bR (bAll) (consR (obR (lcR (compR (itR (lk v 0 S)) (turnR (.one 3) none (fun v S => (fnR fi_is_triple (consR (lk v 3 S) fun S => .ok [] S))) (wipeD v [3]))))) fun S => .ok [] S))))) (fun S =>
    (retR v (.ok (.bl false) S)).seq fun v S =>
    .nx v S)
  fun S => .nx v S).seq fun v S =>
  (retR v (bR (bAll) (consR (obR (lcR (compR (zipR (consR (lk v 0 S) fun S => consR (sliR (lk v 0 S) (fun S => (intP (.ok (.int 1) S))) fun S => noP S) fun S => .ok [] S)) (turnR (.many [1, 2]) none (fun v S => (blR (cmpR .Lt (binR .Mult (subR (lk v 1 S) fun S => (.ok (.int 0) S)) fun S => (subR (lk v 2 S) fun S => (.ok (.int 1) S))) fun S => (binR .Mult (subR (lk v 2 S) fun S => (.ok (.int 0) S)) fun S => (subR (lk v 1 S) fun S => (.ok (.int 1) S)))))) (wipeD v [1, 2]))))) fun S => .ok [] S))).seq fun v S =>
  .nx v S
theorem e_is_data (a : List D) (S : Sto) : bodyRun WW 60 G_is_data d38 a S = s_is_data a S := by kernel_rfl
def fi_is_data : FnI := ⟨GN_37.lev + 1, d38.kind, d38.ps, d38.dfl, d38.pur, d38.frz, s_is_data, d38.kws⟩
theorem run_is_data : fi_is_data.run = s_is_data := rfl
def GN_38 : Gen := addS GN_37 d38 s_is_data
abbrev G_lies_in : Gen := GN_38
def s_lies_in (args : List D) (S : Sto) : Res D := finR <|
  let v := begR 3 3 args
  (iteR v (cmpR .Lt (subR (lk v 0 S) fun S => (.ok (.int 0) S)) fun S => (binR .Mult (lk v 1 S) fun S => (subR (lk v 0 S) fun S => (.ok (.int 1) S)))) (fun S =>
    (retR v (.ok (.bl false) S)).seq fun v S =>
    .nx v S)
  fun S => .nx v S).seq fun v S =>
  (retR v (orR (blR (cmpR .Eq (lk v 2 S) fun S => (.ok gv_OPEN S))) fun S => (blR (cmpR .Lt (subR (lk v 0 S) fun S => (.ok (.int 0) S)) fun S => (binR .Mult (lk v 2 S) fun S => (subR (lk v 0 S) fun S => (.ok (.int 1) S))))))).seq fun v S =>
  .nx v S
theorem e_lies_in (a : List D) (S : Sto) : bodyRun WW 60 G_lies_in d39 a S = s_lies_in a S := by kernel_rfl
def fi_lies_in : FnI := ⟨GN_38.lev + 1, d39.kind, d39.ps, d39.dfl, d39.pur, d39.frz, s_lies_in, d39.kws⟩
theorem run_lies_in : fi_lies_in.run = s_lies_in := rfl
def GN_39 : Gen := addS GN_38 d39 s_lies_in
abbrev G_count_in : Gen := GN_39
def s_count_in (args : List D) (S : Sto) : Res D := finR <|
  let v := begR 3 4 args
  (retR v (bR (bSum) (consR (obR (lcR (compR (itR (lk v 0 S)) (turnR (.one 3) (some fun v S => (truR (fnR fi_lies_in (consR (lk v 3 S) fun S => consR (lk v 1 S) fun S => consR (lk v 2 S) fun S => .ok [] S)))) (fun v S => (subR (lk v 3 S) fun S => (.ok (.int 2) S))) (wipeD v [3]))))) fun S => .ok [] S))).seq fun v S =>
  .nx v S
theorem e_count_in (a : List D) (S : Sto) : bodyRun WW 60 G_count_in d40 a S = s_count_in a S := by kernel_rfl
def fi_count_in : FnI := ⟨GN_39.lev + 1, d40.kind, d40.ps, d40.dfl, d40.pur, d40.frz, s_count_in, d40.kws⟩
theorem run_count_in : fi_count_in.run = s_count_in := rfl
def GN_40 : Gen := addS GN_39 d40 s_count_in
abbrev G_does_fit : Gen := GN_40
def s_does_fit (args : List D) (S : Sto) : Res D := finR <|
  let v := begR 2 4 args
  (forR v (itR (attR clsF "told" (lk v 0 S))) (.one 2) (fun v S =>
    (setR v 3 (fnR fi_count_in (consR (lk v 1 S) fun S => consR (attR clsF "low" (lk v 2 S)) fun S => consR (attR clsF "high" (lk v 2 S)) fun S => .ok [] S))).seq fun v S =>
    (iteR v (orT (cmpR .Lt (lk v 3 S) fun S => (attR clsF "least" (lk v 2 S))) fun S => (andT (cmpR .IsNot (attR clsF "most" (lk v 2 S)) fun S => (.ok .non S)) fun S => (cmpR .Gt (lk v 3 S) fun S => (attR clsF "most" (lk v 2 S))))) (fun S =>
      (retR v (.ok (.bl false) S)).seq fun v S =>
      .nx v S)
    fun S => .nx v S).seq fun v S =>
    .nx v S)).seq fun v S =>
  (retR v (.ok (.bl true) S)).seq fun v S =>
  .nx v S
theorem e_does_fit (a : List D) (S : Sto) : bodyRun WW 60 G_does_fit d41 a S = s_does_fit a S := by kernel_rfl
def fi_does_fit : FnI := ⟨GN_40.lev + 1, d41.kind, d41.ps, d41.dfl, d41.pur, d41.frz, s_does_fit, d41.kws⟩
theorem run_does_fit : fi_does_fit.run = s_does_fit := rfl
def GN_41 : Gen := addS GN_40 d41 s_does_fit
abbrev G_shows_possible : Gen := GN_41
def s_shows_possible (args : List D) (S : Sto) : Res D := finR <|
  let v := begR 3 3 args
  (retR v (andR (fnR fi_is_data (consR (lk v 2 S) fun S => .ok [] S)) fun S => (fnR fi_does_fit (consR (lk v 0 S) fun S => consR (lk v 2 S) fun S => .ok [] S)))).seq fun v S =>
  .nx v S
theorem e_shows_possible (a : List D) (S : Sto) : bodyRun WW 60 G_shows_possible d42 a S = s_shows_possible a S := by kernel_rfl
def fi_shows_possible : FnI := ⟨GN_41.lev + 1, d42.kind, d42.ps, d42.dfl, d42.pur, d42.frz, s_shows_possible, d42.kws⟩
theorem run_shows_possible : fi_shows_possible.run = s_shows_possible := rfl
def GN_42 : Gen := addS GN_41 d42 s_shows_possible
abbrev G_is_part : Gen := GN_42
def s_is_part (args : List D) (S : Sto) : Res D := finR <|
  let v := begR 2 2 args
  (iteR v (orT (notT (truR (isiR "tuple" (lk v 1 S)))) fun S => (orT (cmpR .NotEq (boR G_is_part "len" (consR (lk v 1 S) fun S => .ok [] S)) fun S => (.ok (.int 3) S)) fun S => (notT (truR (isiR "str" (subR (lk v 1 S) fun S => (.ok (.int 1) S))))))) (fun S =>
    (retR v (.ok (.bl false) S)).seq fun v S =>
    .nx v S)
  fun S => .nx v S).seq fun v S =>
  (iteR v (orT (notT (truR (fnR fi_is_integer (consR (subR (lk v 1 S) fun S => (.ok (.int 0) S)) fun S => .ok [] S)))) fun S => (orT (notT (cmp2R .LtE .Lt (.ok (.int 0) S) (fun S => (subR (lk v 1 S) fun S => (.ok (.int 0) S))) fun S => (boR G_is_part "len" (consR (lk v 0 S) fun S => .ok [] S)))) fun S => (orT (notT (truR (fnR fi_is_integer (consR (subR (lk v 1 S) fun S => (.ok (.int 2) S)) fun S => .ok [] S)))) fun S => (cmpR .Lt (subR (lk v 1 S) fun S => (.ok (.int 2) S)) fun S => (.ok (.int 1) S))))) (fun S =>
    (retR v (.ok (.bl false) S)).seq fun v S =>
    .nx v S)
  fun S => .nx v S).seq fun v S =>
  (retR v (orR (blR (cmpR .Eq (subR (lk v 1 S) fun S => (.ok (.int 1) S)) fun S => (.ok (.str "least") S))) fun S => (andR (blR (cmpR .Eq (subR (lk v 1 S) fun S => (.ok (.int 1) S)) fun S => (.ok (.str "most") S))) fun S => (blR (cmpR .IsNot (attR clsF "most" (subR (attR clsF "told" (lk v 0 S)) fun S => (subR (lk v 1 S) fun S => (.ok (.int 0) S)))) fun S => (.ok .non S)))))).seq fun v S =>
  .nx v S
theorem e_is_part (a : List D) (S : Sto) : bodyRun WW 60 G_is_part d43 a S = s_is_part a S := by kernel_rfl
def fi_is_part : FnI := ⟨GN_42.lev + 1, d43.kind, d43.ps, d43.dfl, d43.pur, d43.frz, s_is_part, d43.kws⟩
theorem run_is_part : fi_is_part.run = s_is_part := rfl
def GN_43 : Gen := addS GN_42 d43 s_is_part
abbrev G_is_lot : Gen := GN_43
def s_is_lot (args : List D) (S : Sto) : Res D := finR <|
  let v := begR 2 3 args
  (iteR v (orT (notT (truR (isiR "tuple" (lk v 1 S)))) fun S => (notT (truR (bR (bAll) (consR (obR (lcR (compR (itR (lk v 1 S)) (turnR (.one 2) none (fun v S => (fnR fi_is_part (consR (lk v 0 S) fun S => consR (lk v 2 S) fun S => .ok [] S))) (wipeD v [2]))))) fun S => .ok [] S))))) (fun S =>
    (retR v (.ok (.bl false) S)).seq fun v S =>
    .nx v S)
  fun S => .nx v S).seq fun v S =>
  (retR v (blR (cmpR .Eq (setFR "len" (obR (lcR (compR (itR (lk v 1 S)) (turnR (.one 2) none (fun v S => (sliR (lk v 2 S) (fun S => noP S) fun S => (intP (.ok (.int 2) S)))) (wipeD v [2])))))) fun S => (boR G_is_lot "len" (consR (lk v 1 S) fun S => .ok [] S))))).seq fun v S =>
  .nx v S
theorem e_is_lot (a : List D) (S : Sto) : bodyRun WW 60 G_is_lot d44 a S = s_is_lot a S := by kernel_rfl
def fi_is_lot : FnI := ⟨GN_43.lev + 1, d44.kind, d44.ps, d44.dfl, d44.pur, d44.frz, s_is_lot, d44.kws⟩
theorem run_is_lot : fi_is_lot.run = s_is_lot := rfl
def GN_44 : Gen := addS GN_43 d44 s_is_lot
abbrev G_worth : Gen := GN_44
def s_worth (args : List D) (S : Sto) : Res D := finR <|
  let v := begR 2 7 args
  (setR v 2 (.ok (.int 0) S)).seq fun v S =>
  (forR v (itR (lk v 1 S)) (.many [3, 4, 5]) (fun v S =>
    (setR v 6 (subR (attR clsF "told" (lk v 0 S)) fun S => (lk v 3 S))).seq fun v S =>
    (augR v 2 (ifR (cmpR .Eq (lk v 4 S) fun S => (.ok (.str "least") S)) (fun S => (binR .Mult (lk v 5 S) fun S => (attR clsF "least" (lk v 6 S)))) fun S => (binR .Mult (negR (lk v 5 S)) fun S => (attR clsF "most" (lk v 6 S))))).seq fun v S =>
    .nx v S)).seq fun v S =>
  (retR v (lk v 2 S)).seq fun v S =>
  .nx v S
theorem e_worth (a : List D) (S : Sto) : bodyRun WW 60 G_worth d45 a S = s_worth a S := by kernel_rfl
def fi_worth : FnI := ⟨GN_44.lev + 1, d45.kind, d45.ps, d45.dfl, d45.pur, d45.frz, s_worth, d45.kws⟩
theorem run_worth : fi_worth.run = s_worth := rfl
def GN_45 : Gen := addS GN_44 d45 s_worth
abbrev G_Piece___init__ : Gen := GN_45
def s_Piece___init__ (args : List D) (S : Sto) : Res D := finR <|
  let v := begR 4 4 args
  (atsR clsF v "low" (lk v 1 S) fun S => (lk v 0 S)).seq fun v S =>
  (atsR clsF v "high" (lk v 2 S) fun S => (lk v 0 S)).seq fun v S =>
  (atsR clsF v "cover" (lk v 3 S) fun S => (lk v 0 S)).seq fun v S =>
  .nx v S
theorem e_Piece___init__ (a : List D) (S : Sto) : bodyRun WW 60 G_Piece___init__ d46 a S = s_Piece___init__ a S := by kernel_rfl
def fi_Piece___init__ : FnI := ⟨GN_45.lev + 1, d46.kind, d46.ps, d46.dfl, d46.pur, d46.frz, s_Piece___init__, d46.kws⟩
theorem run_Piece___init__ : fi_Piece___init__.run = s_Piece___init__ := rfl
def GN_46 : Gen := addS GN_45 d46 s_Piece___init__
abbrev G_covers : Gen := GN_46
def s_covers (args : List D) (S : Sto) : Res D := finR <|
  let v := begR 3 8 args
  (setR v 3 (.ok (.int 0) S)).seq fun v S =>
  (forR v (itR (lk v 1 S)) (.many [4, 5, 6]) (fun v S =>
    (setR v 7 (subR (attR clsF "told" (lk v 0 S)) fun S => (lk v 4 S))).seq fun v S =>
    (iteR v (andT (cmpR .LtE (attR clsF "low" (lk v 7 S)) fun S => (lk v 2 S)) fun S => (orT (cmpR .Eq (attR clsF "high" (lk v 7 S)) fun S => (.ok gv_OPEN S)) fun S => (cmpR .Lt (lk v 2 S) fun S => (attR clsF "high" (lk v 7 S))))) (fun S =>
      (augR v 3 (ifR (cmpR .Eq (lk v 5 S) fun S => (.ok (.str "least") S)) (fun S => (lk v 6 S)) fun S => (negR (lk v 6 S)))).seq fun v S =>
      .nx v S)
    fun S => .nx v S).seq fun v S =>
    .nx v S)).seq fun v S =>
  (retR v (lk v 3 S)).seq fun v S =>
  .nx v S
theorem e_covers (a : List D) (S : Sto) : bodyRun WW 60 G_covers d47 a S = s_covers a S := by kernel_rfl
def fi_covers : FnI := ⟨GN_46.lev + 1, d47.kind, d47.ps, d47.dfl, d47.pur, d47.frz, s_covers, d47.kws⟩
theorem run_covers : fi_covers.run = s_covers := rfl
def GN_47 : Gen := addS GN_46 d47 s_covers
abbrev G_pieces : Gen := GN_47
def s_pieces (args : List D) (S : Sto) : Res D := finR <|
  let v := begR 3 9 args
  (setR v 3 (obR (lcR (compR (itR (attR clsF "told" (lk v 0 S))) (turnR (.one 8) none (fun v S => (tupR (consR (attR clsF "low" (lk v 8 S)) fun S => consR (attR clsF "high" (lk v 8 S)) fun S => .ok [] S))) (wipeD v [8])))))).seq fun v S =>
  (setR v 4 (allocR (dispR (kvR (.ok (.int 0) S) (fun S => (.ok (.bl true) S)) fun S => .ok [] S)))).seq fun v S =>
  (forR v (itR (obR (lstR (starR (lk v 3 S) fun S => starR (lk v 2 S) fun S => .ok [] S)))) (.many [6, 7]) (fun v S =>
    (ixsR v (.ok (.bl true) S) (fun S => (lk v 4 S)) fun S => (lk v 6 S)).seq fun v S =>
    (iteR v (cmpR .NotEq (lk v 7 S) fun S => (.ok gv_OPEN S)) (fun S =>
      (ixsR v (.ok (.bl true) S) (fun S => (lk v 4 S)) fun S => (lk v 7 S)).seq fun v S =>
      .nx v S)
    fun S => .nx v S).seq fun v S =>
    .nx v S)).seq fun v S =>
  (setR v 5 (obR (lstR (starR (bR (bSorted) (consR (lk v 4 S) fun S => .ok [] S)) fun S => consR (.ok gv_OPEN S) fun S => .ok [] S)))).seq fun v S =>
  (retR v (obR (lcR (compR (zipR (consR (lk v 5 S) fun S => consR (sliR (lk v 5 S) (fun S => (intP (.ok (.int 1) S))) fun S => noP S) fun S => .ok [] S)) (turnR (.many [6, 7]) none (fun v S => (mkR "Piece" ci_Piece fi_Piece___init__ (consR (lk v 6 S) fun S => consR (lk v 7 S) fun S => consR (fnR fi_covers (consR (lk v 0 S) fun S => consR (lk v 1 S) fun S => consR (lk v 6 S) fun S => .ok [] S)) fun S => .ok [] S))) (wipeD v [6, 7])))))).seq fun v S =>
  .nx v S
theorem e_pieces (a : List D) (S : Sto) : bodyRun WW 60 G_pieces d48 a S = s_pieces a S := by kernel_rfl
def fi_pieces : FnI := ⟨GN_47.lev + 1, d48.kind, d48.ps, d48.dfl, d48.pur, d48.frz, s_pieces, d48.kws⟩
theorem run_pieces : fi_pieces.run = s_pieces := rfl
def GN_48 : Gen := addS GN_47 d48 s_pieces
abbrev G_shows_clash : Gen := GN_48
def s_shows_clash (args : List D) (S : Sto) : Res D := finR <|
  let v := begR 3 4 args
  (iteR v (orT (notT (truR (fnR fi_is_lot (consR (lk v 0 S) fun S => consR (lk v 2 S) fun S => .ok [] S)))) fun S => (cmpR .Lt (fnR fi_worth (consR (lk v 0 S) fun S => consR (lk v 2 S) fun S => .ok [] S)) fun S => (.ok (.int 1) S))) (fun S =>
    (retR v (.ok (.bl false) S)).seq fun v S =>
    .nx v S)
  fun S => .nx v S).seq fun v S =>
  (retR v (bR (bAll) (consR (obR (lcR (compR (itR (fnR fi_pieces (consR (lk v 0 S) fun S => consR (lk v 2 S) fun S => consR (obR (lstR (.ok [] S))) fun S => .ok [] S))) (turnR (.one 3) none (fun v S => (blR (cmpR .LtE (attR clsF "cover" (lk v 3 S)) fun S => (.ok (.int 0) S)))) (wipeD v [3]))))) fun S => .ok [] S))).seq fun v S =>
  .nx v S
theorem e_shows_clash (a : List D) (S : Sto) : bodyRun WW 60 G_shows_clash d49 a S = s_shows_clash a S := by kernel_rfl
def fi_shows_clash : FnI := ⟨GN_48.lev + 1, d49.kind, d49.ps, d49.dfl, d49.pur, d49.frz, s_shows_clash, d49.kws⟩
theorem run_shows_clash : fi_shows_clash.run = s_shows_clash := rfl
def GN_49 : Gen := addS GN_48 d49 s_shows_clash
abbrev G_is_bound : Gen := GN_49
def s_is_bound (args : List D) (S : Sto) : Res D := finR <|
  let v := begR 1 1 args
  (retR v (ifR (truR (isiR "str" (lk v 0 S))) (fun S => (blR (cmpR .Eq (lk v 0 S) fun S => (.ok gv_ENDLESS S)))) fun S => (fnR fi_is_integer (consR (lk v 0 S) fun S => .ok [] S)))).seq fun v S =>
  .nx v S
theorem e_is_bound (a : List D) (S : Sto) : bodyRun WW 60 G_is_bound d50 a S = s_is_bound a S := by kernel_rfl
def fi_is_bound : FnI := ⟨GN_49.lev + 1, d50.kind, d50.ps, d50.dfl, d50.pur, d50.frz, s_is_bound, d50.kws⟩
theorem run_is_bound : fi_is_bound.run = s_is_bound := rfl
def GN_50 : Gen := addS GN_49 d50 s_is_bound
abbrev G_is_pair_of_lots : Gen := GN_50
def s_is_pair_of_lots (args : List D) (S : Sto) : Res D := finR <|
  let v := begR 2 3 args
  (retR v (andR (isiR "tuple" (lk v 1 S)) fun S => (andR (blR (cmpR .Eq (boR G_is_pair_of_lots "len" (consR (lk v 1 S) fun S => .ok [] S)) fun S => (.ok (.int 2) S))) fun S => (bR (bAll) (consR (obR (lcR (compR (itR (lk v 1 S)) (turnR (.one 2) none (fun v S => (fnR fi_is_lot (consR (lk v 0 S) fun S => consR (lk v 2 S) fun S => .ok [] S))) (wipeD v [2]))))) fun S => .ok [] S))))).seq fun v S =>
  .nx v S
theorem e_is_pair_of_lots (a : List D) (S : Sto) : bodyRun WW 60 G_is_pair_of_lots d51 a S = s_is_pair_of_lots a S := by kernel_rfl
def fi_is_pair_of_lots : FnI := ⟨GN_50.lev + 1, d51.kind, d51.ps, d51.dfl, d51.pur, d51.frz, s_is_pair_of_lots, d51.kws⟩
theorem run_is_pair_of_lots : fi_is_pair_of_lots.run = s_is_pair_of_lots := rfl
def GN_51 : Gen := addS GN_50 d51 s_is_pair_of_lots
abbrev G_Piece_lies_in : Gen := GN_51
def s_Piece_lies_in (args : List D) (S : Sto) : Res D := finR <|
  let v := begR 3 3 args
  (retR v (andR (blR (cmpR .GtE (attR clsF "low" (lk v 0 S)) fun S => (lk v 1 S))) fun S => (orR (blR (cmpR .Eq (lk v 2 S) fun S => (.ok gv_OPEN S))) fun S => (andR (blR (cmpR .NotEq (attR clsF "high" (lk v 0 S)) fun S => (.ok gv_OPEN S))) fun S => (blR (cmpR .LtE (attR clsF "high" (lk v 0 S)) fun S => (lk v 2 S))))))).seq fun v S =>
  .nx v S
theorem e_Piece_lies_in (a : List D) (S : Sto) : bodyRun WW 60 G_Piece_lies_in d52 a S = s_Piece_lies_in a S := by kernel_rfl
def fi_Piece_lies_in : FnI := ⟨GN_51.lev + 1, d52.kind, d52.ps, d52.dfl, d52.pur, d52.frz, s_Piece_lies_in, d52.kws⟩
theorem run_Piece_lies_in : fi_Piece_lies_in.run = s_Piece_lies_in := rfl
def GN_52 : Gen := addS GN_51 d52 s_Piece_lies_in
abbrev G_is_below : Gen := GN_52
def s_is_below (args : List D) (S : Sto) : Res D := finR <|
  let v := begR 4 6 args
  (setR v 4 (fnR fi_pieces (consR (lk v 0 S) fun S => consR (lk v 1 S) fun S => consR (obR (lstR (consR (lk v 2 S) fun S => .ok [] S))) fun S => .ok [] S))).seq fun v S =>
  (retR v (bR (bAll) (consR (obR (lcR (compR (itR (lk v 4 S)) (turnR (.one 5) none (fun v S => (blR (cmpR .LtE (attR clsF "cover" (lk v 5 S)) fun S => (ifR (truR (stR G_is_below "lies_in" (lk v 5 S) fun S => (lk v 2 S))) (fun S => (lk v 3 S)) fun S => (.ok (.int 0) S))))) (wipeD v [5]))))) fun S => .ok [] S))).seq fun v S =>
  .nx v S
theorem e_is_below (a : List D) (S : Sto) : bodyRun WW 60 G_is_below d53 a S = s_is_below a S := by kernel_rfl
def fi_is_below : FnI := ⟨GN_52.lev + 1, d53.kind, d53.ps, d53.dfl, d53.pur, d53.frz, s_is_below, d53.kws⟩
theorem run_is_below : fi_is_below.run = s_is_below := rfl
def GN_53 : Gen := addS GN_52 d53 s_is_below
abbrev G_shows_count : Gen := GN_53
def s_shows_count (args : List D) (S : Sto) : Res D := finR <|
  let v := begR 3 8 args
  (setsR v [3, 4, 5] (consR (sliR (lk v 1 S) (fun S => (intP (.ok (.int 2) S))) fun S => (intP (.ok (.int 4) S))) fun S => consR (subR (lk v 1 S) fun S => (.ok (.int 4) S)) fun S => consR (subR (lk v 1 S) fun S => (.ok (.int 5) S)) fun S => .ok [] S)).seq fun v S =>
  (iteR v (orT (notT (truR (fnR fi_is_integer (consR (lk v 4 S) fun S => .ok [] S)))) fun S => (orT (notT (truR (fnR fi_is_bound (consR (lk v 5 S) fun S => .ok [] S)))) fun S => (notT (truR (fnR fi_is_pair_of_lots (consR (lk v 0 S) fun S => consR (lk v 2 S) fun S => .ok [] S)))))) (fun S =>
    (retR v (.ok (.bl false) S)).seq fun v S =>
    .nx v S)
  fun S => .nx v S).seq fun v S =>
  (unpR v (.many [6, 7]) (lk v 2 S)).seq fun v S =>
  (iteR v (orT (notT (truR (fnR fi_is_below (consR (lk v 0 S) fun S => consR (lk v 6 S) fun S => consR (lk v 3 S) fun S => consR (.ok (.int 1) S) fun S => .ok [] S)))) fun S => (cmpR .Lt (fnR fi_worth (consR (lk v 0 S) fun S => consR (lk v 6 S) fun S => .ok [] S)) fun S => (lk v 4 S))) (fun S =>
    (retR v (.ok (.bl false) S)).seq fun v S =>
    .nx v S)
  fun S => .nx v S).seq fun v S =>
  (retR v (orR (blR (cmpR .Eq (lk v 5 S) fun S => (.ok gv_ENDLESS S))) fun S => (andR (fnR fi_is_below (consR (lk v 0 S) fun S => consR (lk v 7 S) fun S => consR (lk v 3 S) fun S => consR (negR (.ok (.int 1) S)) fun S => .ok [] S)) fun S => (blR (cmpR .GtE (fnR fi_worth (consR (lk v 0 S) fun S => consR (lk v 7 S) fun S => .ok [] S)) fun S => (negR (lk v 5 S))))))).seq fun v S =>
  .nx v S
theorem e_shows_count (a : List D) (S : Sto) : bodyRun WW 60 G_shows_count d54 a S = s_shows_count a S := by kernel_rfl
def fi_shows_count : FnI := ⟨GN_53.lev + 1, d54.kind, d54.ps, d54.dfl, d54.pur, d54.frz, s_shows_count, d54.kws⟩
theorem run_shows_count : fi_shows_count.run = s_shows_count := rfl
def GN_54 : Gen := addS GN_53 d54 s_shows_count
abbrev G_is_high_piece : Gen := GN_54
def s_is_high_piece (args : List D) (S : Sto) : Res D := finR <|
  let v := begR 2 2 args
  (iteR v (notT (truR (stR G_is_high_piece "lies_in" (lk v 0 S) fun S => (lk v 1 S)))) (fun S =>
    (retR v (blR (cmpR .LtE (attR clsF "cover" (lk v 0 S)) fun S => (.ok (.int 0) S)))).seq fun v S =>
    .nx v S)
  fun S => .nx v S).seq fun v S =>
  (retR v (andR (blR (cmpR .NotEq (attR clsF "high" (lk v 0 S)) fun S => (.ok gv_OPEN S))) fun S => (blR (cmpR .LtE (attR clsF "cover" (lk v 0 S)) fun S => (negR (attR clsF "high" (lk v 0 S))))))).seq fun v S =>
  .nx v S
theorem e_is_high_piece (a : List D) (S : Sto) : bodyRun WW 60 G_is_high_piece d55 a S = s_is_high_piece a S := by kernel_rfl
def fi_is_high_piece : FnI := ⟨GN_54.lev + 1, d55.kind, d55.ps, d55.dfl, d55.pur, d55.frz, s_is_high_piece, d55.kws⟩
theorem run_is_high_piece : fi_is_high_piece.run = s_is_high_piece := rfl
def GN_55 : Gen := addS GN_54 d55 s_is_high_piece
abbrev G_is_low_piece : Gen := GN_55
def s_is_low_piece (args : List D) (S : Sto) : Res D := finR <|
  let v := begR 2 2 args
  (retR v (blR (cmpR .LtE (attR clsF "cover" (lk v 0 S)) fun S => (ifR (truR (stR G_is_low_piece "lies_in" (lk v 0 S) fun S => (lk v 1 S))) (fun S => (attR clsF "low" (lk v 0 S))) fun S => (.ok (.int 0) S))))).seq fun v S =>
  .nx v S
theorem e_is_low_piece (a : List D) (S : Sto) : bodyRun WW 60 G_is_low_piece d56 a S = s_is_low_piece a S := by kernel_rfl
def fi_is_low_piece : FnI := ⟨GN_55.lev + 1, d56.kind, d56.ps, d56.dfl, d56.pur, d56.frz, s_is_low_piece, d56.kws⟩
theorem run_is_low_piece : fi_is_low_piece.run = s_is_low_piece := rfl
def GN_56 : Gen := addS GN_55 d56 s_is_low_piece
abbrev G_shows_sum : Gen := GN_56
def s_shows_sum (args : List D) (S : Sto) : Res D := finR <|
  let v := begR 3 9 args
  (setsR1 v [3, 4, 5] (consR (sliR (lk v 1 S) (fun S => (intP (.ok (.int 2) S))) fun S => (intP (.ok (.int 4) S))) fun S => consR (subR (lk v 1 S) fun S => (.ok (.int 4) S)) fun S => consR (subR (lk v 1 S) fun S => (.ok (.int 5) S)) fun S => .ok [] S)).seq fun v S =>
  (iteR v (orT (notT (truR (fnR fi_is_integer (consR (lk v 4 S) fun S => .ok [] S)))) fun S => (orT (notT (truR (fnR fi_is_bound (consR (lk v 5 S) fun S => .ok [] S)))) fun S => (notT (truR (fnR fi_is_pair_of_lots (consR (lk v 0 S) fun S => consR (lk v 2 S) fun S => .ok [] S)))))) (fun S =>
    (retR v (.ok (.bl false) S)).seq fun v S =>
    .nx v S)
  fun S => .nx v S).seq fun v S =>
  (unpR v (.many [6, 7]) (lk v 2 S)).seq fun v S =>
  (iteR v (cmpR .Lt (fnR fi_worth (consR (lk v 0 S) fun S => consR (lk v 6 S) fun S => .ok [] S)) fun S => (lk v 4 S)) (fun S =>
    (retR v (.ok (.bl false) S)).seq fun v S =>
    .nx v S)
  fun S => .nx v S).seq fun v S =>
  (iteR v (notT (truR (bR (bAll) (consR (obR (lcR (compR (itR (fnR fi_pieces (consR (lk v 0 S) fun S => consR (lk v 6 S) fun S => consR (obR (lstR (consR (lk v 3 S) fun S => .ok [] S))) fun S => .ok [] S))) (turnR (.one 8) none (fun v S => (fnR fi_is_low_piece (consR (lk v 8 S) fun S => consR (lk v 3 S) fun S => .ok [] S))) (wipeD v [8]))))) fun S => .ok [] S)))) (fun S =>
    (retR v (.ok (.bl false) S)).seq fun v S =>
    .nx v S)
  fun S => .nx v S).seq fun v S =>
  (iteR v (cmpR .Eq (lk v 5 S) fun S => (.ok gv_ENDLESS S)) (fun S =>
    (retR v (.ok (.bl true) S)).seq fun v S =>
    .nx v S)
  fun S => .nx v S).seq fun v S =>
  (iteR v (cmpR .Lt (fnR fi_worth (consR (lk v 0 S) fun S => consR (lk v 7 S) fun S => .ok [] S)) fun S => (negR (lk v 5 S))) (fun S =>
    (retR v (.ok (.bl false) S)).seq fun v S =>
    .nx v S)
  fun S => .nx v S).seq fun v S =>
  (retR v (bR (bAll) (consR (obR (lcR (compR (itR (fnR fi_pieces (consR (lk v 0 S) fun S => consR (lk v 7 S) fun S => consR (obR (lstR (consR (lk v 3 S) fun S => .ok [] S))) fun S => .ok [] S))) (turnR (.one 8) none (fun v S => (fnR fi_is_high_piece (consR (lk v 8 S) fun S => consR (lk v 3 S) fun S => .ok [] S))) (wipeD v [8]))))) fun S => .ok [] S))).seq fun v S =>
  .nx v S
theorem e_shows_sum (a : List D) (S : Sto) : bodyRun WW 60 G_shows_sum d57 a S = s_shows_sum a S := by kernel_rfl
def fi_shows_sum : FnI := ⟨GN_56.lev + 1, d57.kind, d57.ps, d57.dfl, d57.pur, d57.frz, s_shows_sum, d57.kws⟩
theorem run_shows_sum : fi_shows_sum.run = s_shows_sum := rfl
def GN_57 : Gen := addS GN_56 d57 s_shows_sum
abbrev G_is_fraction : Gen := GN_57
def s_is_fraction (args : List D) (S : Sto) : Res D := finR <|
  let v := begR 2 2 args
  (retR v (andR (fnR fi_is_count (consR (lk v 0 S) fun S => .ok [] S)) fun S => (andR (fnR fi_is_integer (consR (lk v 1 S) fun S => .ok [] S)) fun S => (blR (cmpR .GtE (lk v 1 S) fun S => (.ok (.int 1) S)))))).seq fun v S =>
  .nx v S
theorem e_is_fraction (a : List D) (S : Sto) : bodyRun WW 60 G_is_fraction d58 a S = s_is_fraction a S := by kernel_rfl
def fi_is_fraction : FnI := ⟨GN_57.lev + 1, d58.kind, d58.ps, d58.dfl, d58.pur, d58.frz, s_is_fraction, d58.kws⟩
theorem run_is_fraction : fi_is_fraction.run = s_is_fraction := rfl
def GN_58 : Gen := addS GN_57 d58 s_is_fraction
abbrev G_is_lot_with_extra : Gen := GN_58
def s_is_lot_with_extra (args : List D) (S : Sto) : Res D := finR <|
  let v := begR 2 2 args
  (retR v (andR (isiR "tuple" (lk v 1 S)) fun S => (andR (blR (cmpR .Eq (boR G_is_lot_with_extra "len" (consR (lk v 1 S) fun S => .ok [] S)) fun S => (.ok (.int 2) S))) fun S => (andR (fnR fi_is_lot (consR (lk v 0 S) fun S => consR (subR (lk v 1 S) fun S => (.ok (.int 0) S)) fun S => .ok [] S)) fun S => (fnR fi_is_count (consR (subR (lk v 1 S) fun S => (.ok (.int 1) S)) fun S => .ok [] S)))))).seq fun v S =>
  .nx v S
theorem e_is_lot_with_extra (a : List D) (S : Sto) : bodyRun WW 60 G_is_lot_with_extra d59 a S = s_is_lot_with_extra a S := by kernel_rfl
def fi_is_lot_with_extra : FnI := ⟨GN_58.lev + 1, d59.kind, d59.ps, d59.dfl, d59.pur, d59.frz, s_is_lot_with_extra, d59.kws⟩
theorem run_is_lot_with_extra : fi_is_lot_with_extra.run = s_is_lot_with_extra := rfl
def GN_59 : Gen := addS GN_58 d59 s_is_lot_with_extra
abbrev G_shows_mean : Gen := GN_59
def s_shows_mean (args : List D) (S : Sto) : Res D := finR <|
  let v := begR 3 9 args
  (setsR v [4, 5, 6] (consR (sliR (lk v 1 S) (fun S => (intP (.ok (.int 2) S))) fun S => (intP (.ok (.int 4) S))) fun S => consR (subR (lk v 1 S) fun S => (.ok (.int 4) S)) fun S => consR (subR (lk v 1 S) fun S => (.ok (.int 5) S)) fun S => .ok [] S)).seq fun v S =>
  (iteR v (orT (notT (truR (fnR fi_is_fraction (consR (lk v 5 S) fun S => consR (lk v 6 S) fun S => .ok [] S)))) fun S => (notT (truR (fnR fi_is_lot_with_extra (consR (lk v 0 S) fun S => consR (lk v 2 S) fun S => .ok [] S))))) (fun S =>
    (retR v (.ok (.bl false) S)).seq fun v S =>
    .nx v S)
  fun S => .nx v S).seq fun v S =>
  (unpR v (.many [7, 8]) (lk v 2 S)).seq fun v S =>
  (forR v (itR (fnR fi_pieces (consR (lk v 0 S) fun S => consR (lk v 7 S) fun S => consR (obR (lstR (consR (lk v 4 S) fun S => .ok [] S))) fun S => .ok [] S))) (.one 3) (fun v S =>
    (iteR v (cmpR .Gt (attR clsF "cover" (lk v 3 S)) fun S => (ifR (truR (stR G_shows_mean "lies_in" (lk v 3 S) fun S => (lk v 4 S))) (fun S => (binR .Sub (binR .Sub (binR .Mult (lk v 6 S) fun S => (attR clsF "low" (lk v 3 S))) fun S => (lk v 5 S)) fun S => (lk v 8 S))) fun S => (.ok (.int 0) S))) (fun S =>
      (retR v (.ok (.bl false) S)).seq fun v S =>
      .nx v S)
    fun S => .nx v S).seq fun v S =>
    .nx v S)).seq fun v S =>
  (retR v (blR (cmpR .GtE (binR .Add (fnR fi_worth (consR (lk v 0 S) fun S => consR (lk v 7 S) fun S => .ok [] S)) fun S => (lk v 8 S)) fun S => (.ok (.int 0) S)))).seq fun v S =>
  .nx v S
theorem e_shows_mean (a : List D) (S : Sto) : bodyRun WW 60 G_shows_mean d60 a S = s_shows_mean a S := by kernel_rfl
def fi_shows_mean : FnI := ⟨GN_59.lev + 1, d60.kind, d60.ps, d60.dfl, d60.pur, d60.frz, s_shows_mean, d60.kws⟩
theorem run_shows_mean : fi_shows_mean.run = s_shows_mean := rfl
def GN_60 : Gen := addS GN_59 d60 s_shows_mean
abbrev G_contains : Gen := GN_60
def s_contains (args : List D) (S : Sto) : Res D := finR <|
  let v := begR 2 2 args
  (iteR v (cmpR .Gt (subR (lk v 0 S) fun S => (.ok (.int 0) S)) fun S => (subR (lk v 1 S) fun S => (.ok (.int 0) S))) (fun S =>
    (retR v (.ok (.bl false) S)).seq fun v S =>
    .nx v S)
  fun S => .nx v S).seq fun v S =>
  (retR v (orR (blR (cmpR .Eq (subR (lk v 0 S) fun S => (.ok (.int 1) S)) fun S => (.ok gv_OPEN S))) fun S => (andR (blR (cmpR .NotEq (subR (lk v 1 S) fun S => (.ok (.int 1) S)) fun S => (.ok gv_OPEN S))) fun S => (blR (cmpR .LtE (subR (lk v 1 S) fun S => (.ok (.int 1) S)) fun S => (subR (lk v 0 S) fun S => (.ok (.int 1) S))))))).seq fun v S =>
  .nx v S
theorem e_contains (a : List D) (S : Sto) : bodyRun WW 60 G_contains d61 a S = s_contains a S := by kernel_rfl
def fi_contains : FnI := ⟨GN_60.lev + 1, d61.kind, d61.ps, d61.dfl, d61.pur, d61.frz, s_contains, d61.kws⟩
theorem run_contains : fi_contains.run = s_contains := rfl
def GN_61 : Gen := addS GN_60 d61 s_contains
abbrev G_share_price : Gen := GN_61
def s_share_price (args : List D) (S : Sto) : Res D := finR <|
  let v := begR 6 6 args
  (iteR v (notT (truR (stR G_share_price "lies_in" (lk v 0 S) fun S => (lk v 2 S)))) (fun S =>
    (retR v (.ok (.int 0) S)).seq fun v S =>
    .nx v S)
  fun S => .nx v S).seq fun v S =>
  (retR v (binR .Sub (binR .Sub (lk v 3 S) fun S => (lk v 5 S)) fun S => (ifR (truR (stR G_share_price "lies_in" (lk v 0 S) fun S => (lk v 1 S))) (fun S => (lk v 4 S)) fun S => (.ok (.int 0) S)))).seq fun v S =>
  .nx v S
theorem e_share_price (a : List D) (S : Sto) : bodyRun WW 60 G_share_price d62 a S = s_share_price a S := by kernel_rfl
def fi_share_price : FnI := ⟨GN_61.lev + 1, d62.kind, d62.ps, d62.dfl, d62.pur, d62.frz, s_share_price, d62.kws⟩
theorem run_share_price : fi_share_price.run = s_share_price := rfl
def GN_62 : Gen := addS GN_61 d62 s_share_price
abbrev G_shows_share : Gen := GN_62
def s_shows_share (args : List D) (S : Sto) : Res D := finR <|
  let v := begR 3 10 args
  (setsR1 v [4, 5, 6, 7] (consR (sliR (lk v 1 S) (fun S => (intP (.ok (.int 2) S))) fun S => (intP (.ok (.int 4) S))) fun S => consR (sliR (lk v 1 S) (fun S => (intP (.ok (.int 4) S))) fun S => (intP (.ok (.int 6) S))) fun S => consR (subR (lk v 1 S) fun S => (.ok (.int 6) S)) fun S => consR (subR (lk v 1 S) fun S => (.ok (.int 7) S)) fun S => .ok [] S)).seq fun v S =>
  (iteR v (orT (notT (truR (fnR fi_is_stretch (starR (lk v 5 S) fun S => .ok [] S)))) fun S => (orT (notT (truR (fnR fi_contains (consR (lk v 5 S) fun S => consR (lk v 4 S) fun S => .ok [] S)))) fun S => (notT (truR (fnR fi_is_fraction (consR (lk v 6 S) fun S => consR (lk v 7 S) fun S => .ok [] S)))))) (fun S =>
    (retR v (.ok (.bl false) S)).seq fun v S =>
    .nx v S)
  fun S => .nx v S).seq fun v S =>
  (iteR v (notT (truR (fnR fi_is_lot_with_extra (consR (lk v 0 S) fun S => consR (lk v 2 S) fun S => .ok [] S)))) (fun S =>
    (retR v (.ok (.bl false) S)).seq fun v S =>
    .nx v S)
  fun S => .nx v S).seq fun v S =>
  (unpR v (.many [8, 9]) (lk v 2 S)).seq fun v S =>
  (forR v (itR (fnR fi_pieces (consR (lk v 0 S) fun S => consR (lk v 8 S) fun S => consR (obR (lstR (consR (lk v 4 S) fun S => consR (lk v 5 S) fun S => .ok [] S))) fun S => .ok [] S))) (.one 3) (fun v S =>
    (iteR v (cmpR .Gt (attR clsF "cover" (lk v 3 S)) fun S => (fnR fi_share_price (consR (lk v 3 S) fun S => consR (lk v 4 S) fun S => consR (lk v 5 S) fun S => consR (lk v 6 S) fun S => consR (lk v 7 S) fun S => consR (lk v 9 S) fun S => .ok [] S))) (fun S =>
      (retR v (.ok (.bl false) S)).seq fun v S =>
      .nx v S)
    fun S => .nx v S).seq fun v S =>
    .nx v S)).seq fun v S =>
  (retR v (blR (cmpR .GtE (binR .Add (fnR fi_worth (consR (lk v 0 S) fun S => consR (lk v 8 S) fun S => .ok [] S)) fun S => (lk v 9 S)) fun S => (.ok (.int 0) S)))).seq fun v S =>
  .nx v S
theorem e_shows_share (a : List D) (S : Sto) : bodyRun WW 60 G_shows_share d63 a S = s_shows_share a S := by kernel_rfl
def fi_shows_share : FnI := ⟨GN_62.lev + 1, d63.kind, d63.ps, d63.dfl, d63.pur, d63.frz, s_shows_share, d63.kws⟩
theorem run_shows_share : fi_shows_share.run = s_shows_share := rfl
def GN_63 : Gen := addS GN_62 d63 s_shows_share
abbrev G_accepts : Gen := GN_63
def s_accepts (args : List D) (S : Sto) : Res D := finR <|
  let v := begR 2 3 args
  (iteR v (orT (notT (truR (isiR "tuple" (lk v 0 S)))) fun S => (orT (cmpR .Eq (boR G_accepts "len" (consR (lk v 0 S) fun S => .ok [] S)) fun S => (.ok (.int 0) S)) fun S => (notT (truR (isiR "str" (subR (lk v 0 S) fun S => (.ok (.int 0) S))))))) (fun S =>
    (retR v (.ok (.bl false) S)).seq fun v S =>
    .nx v S)
  fun S => .nx v S).seq fun v S =>
  (iteR v (cmpR .NotEq (meR G_accepts "get" (.ok gv_SHAPES S) fun S => (consR (subR (lk v 0 S) fun S => (.ok (.int 0) S)) fun S => consR (.ok (.int 0) S) fun S => .ok [] S)) fun S => (boR G_accepts "len" (consR (lk v 0 S) fun S => .ok [] S))) (fun S =>
    (retR v (.ok (.bl false) S)).seq fun v S =>
    .nx v S)
  fun S => .nx v S).seq fun v S =>
  (setR v 2 (fnR fi_text_table (consR (subR (lk v 0 S) fun S => (.ok (.int 1) S)) fun S => .ok [] S))).seq fun v S =>
  (iteR v (orT (cmpR .Is (lk v 2 S) fun S => (.ok .non S)) fun S => (andT (cmpR .Gt (boR G_accepts "len" (consR (lk v 0 S) fun S => .ok [] S)) fun S => (.ok (.int 2) S)) fun S => (notT (truR (fnR fi_is_stretch (consR (subR (lk v 0 S) fun S => (.ok (.int 2) S)) fun S => consR (subR (lk v 0 S) fun S => (.ok (.int 3) S)) fun S => .ok [] S)))))) (fun S =>
    (retR v (.ok (.bl false) S)).seq fun v S =>
    .nx v S)
  fun S => .nx v S).seq fun v S =>
  (retR v (vR G_accepts (subR (.ok gv_SHOWS S) fun S => (subR (lk v 0 S) fun S => (.ok (.int 0) S))) fun S => (consR (lk v 2 S) fun S => consR (lk v 0 S) fun S => consR (lk v 1 S) fun S => .ok [] S))).seq fun v S =>
  .nx v S
theorem e_accepts (a : List D) (S : Sto) : bodyRun WW 60 G_accepts d64 a S = s_accepts a S := by kernel_rfl
def fi_accepts : FnI := ⟨GN_63.lev + 1, d64.kind, d64.ps, d64.dfl, d64.pur, d64.frz, s_accepts, d64.kws⟩
theorem run_accepts : fi_accepts.run = s_accepts := rfl
def GN_64 : Gen := addS GN_63 d64 s_accepts
abbrev G__law_bounds : Gen := GN_64
def s__law_bounds (args : List D) (S : Sto) : Res D := finR <|
  let v := begR 1 3 args
  (setR v 1 (bR (fun _ => bInt) (consR (subR (lk v 0 S) fun S => (.ok (.int 1) S)) fun S => .ok [] S))).seq fun v S =>
  (iteR v (cmpR .Eq (subR (lk v 0 S) fun S => (.ok (.int 0) S)) fun S => (.ok (.str "is") S)) (fun S =>
    (retR v (tupR (consR (lk v 1 S) fun S => consR (lk v 1 S) fun S => .ok [] S))).seq fun v S =>
    .nx v S)
  fun S => .nx v S).seq fun v S =>
  (iteR v (cmpR .Eq (subR (lk v 0 S) fun S => (.ok (.int 0) S)) fun S => (.ok (.str "from") S)) (fun S =>
    (retR v (tupR (consR (lk v 1 S) fun S => consR (bR (fun _ => bInt) (consR (subR (lk v 0 S) fun S => (.ok (.int 3) S)) fun S => .ok [] S)) fun S => .ok [] S))).seq fun v S =>
    .nx v S)
  fun S => .nx v S).seq fun v S =>
  (iteR v (cmpR .Eq (subR (lk v 0 S) fun S => (.ok (.int 0) S)) fun S => (.ok (.str "least") S)) (fun S =>
    (retR v (tupR (consR (lk v 1 S) fun S => consR (.ok .non S) fun S => .ok [] S))).seq fun v S =>
    .nx v S)
  fun S => .nx v S).seq fun v S =>
  (iteR v (cmpR .Eq (subR (lk v 0 S) fun S => (.ok (.int 0) S)) fun S => (.ok (.str "most") S)) (fun S =>
    (retR v (tupR (consR (.ok (.int 0) S) fun S => consR (lk v 1 S) fun S => .ok [] S))).seq fun v S =>
    .nx v S)
  fun S => .nx v S).seq fun v S =>
  (iteR v (cmpR .Eq (subR (lk v 0 S) fun S => (.ok (.int 0) S)) fun S => (.ok (.str "under") S)) (fun S =>
    (retR v (tupR (consR (.ok (.int 0) S) fun S => consR (binR .Sub (lk v 1 S) fun S => (.ok (.int 1) S)) fun S => .ok [] S))).seq fun v S =>
    .nx v S)
  fun S => .nx v S).seq fun v S =>
  (setR v 2 (bR (fun _ => bInt) (consR (subR (lk v 0 S) fun S => (.ok (.int 3) S)) fun S => .ok [] S))).seq fun v S =>
  (retR v (tupR (consR (bR (fun _ => bMax) (consR (.ok (.int 0) S) fun S => consR (binR .Sub (lk v 1 S) fun S => (binR .FloorDiv (lk v 2 S) fun S => (.ok (.int 2) S))) fun S => .ok [] S)) fun S => consR (binR .Sub (binR .Add (lk v 1 S) fun S => (binR .FloorDiv (binR .Add (lk v 2 S) fun S => (.ok (.int 1) S)) fun S => (.ok (.int 2) S))) fun S => (.ok (.int 1) S)) fun S => .ok [] S))).seq fun v S =>
  .nx v S
theorem e__law_bounds (a : List D) (S : Sto) : bodyRun WW 60 G__law_bounds d65 a S = s__law_bounds a S := by kernel_rfl
def fi__law_bounds : FnI := ⟨GN_64.lev + 1, d65.kind, d65.ps, d65.dfl, d65.pur, d65.frz, s__law_bounds, d65.kws⟩
theorem run__law_bounds : fi__law_bounds.run = s__law_bounds := rfl
def GN_65 : Gen := addS GN_64 d65 s__law_bounds
abbrev G__law_said : Gen := GN_65
def s__law_said (args : List D) (S : Sto) : Res D := finR <|
  let v := begR 1 2 args
  (setR v 1 (meR G__law_said "split" (lk v 0 S) fun S => (consR (.ok (.str " ") S) fun S => .ok [] S))).seq fun v S =>
  (retR v (binR .Add (tupR (consR (bR (fun _ => bInt) (consR (subR (lk v 1 S) fun S => (.ok (.int 0) S)) fun S => .ok [] S)) fun S => consR (ifR (cmpR .Eq (subR (lk v 1 S) fun S => (.ok (.int 1) S)) fun S => (.ok (.str "open") S)) (fun S => (.ok .non S)) fun S => (bR (fun _ => bInt) (consR (subR (lk v 1 S) fun S => (.ok (.int 1) S)) fun S => .ok [] S))) fun S => .ok [] S)) fun S => (fnR fi__law_bounds (consR (sliR (lk v 1 S) (fun S => (intP (.ok (.int 2) S))) fun S => noP S) fun S => .ok [] S)))).seq fun v S =>
  .nx v S
theorem e__law_said (a : List D) (S : Sto) : bodyRun WW 60 G__law_said d66 a S = s__law_said a S := by kernel_rfl
def fi__law_said : FnI := ⟨GN_65.lev + 1, d66.kind, d66.ps, d66.dfl, d66.pur, d66.frz, s__law_said, d66.kws⟩
theorem run__law_said : fi__law_said.run = s__law_said := rfl
def GN_66 : Gen := addS GN_65 d66 s__law_said
abbrev G__law_worth : Gen := GN_66
def s__law_worth (args : List D) (S : Sto) : Res D := finR <|
  let v := begR 2 7 args
  (setR v 2 (.ok (.int 0) S)).seq fun v S =>
  (forR v (itR (lk v 1 S)) (.many [3, 4, 5]) (fun v S =>
    (setR v 6 (ifR (cmpR .Eq (lk v 4 S) fun S => (.ok (.str "least") S)) (fun S => (subR (subR (lk v 0 S) fun S => (lk v 3 S)) fun S => (.ok (.int 2) S))) fun S => (binR .Sub (.ok (.int 0) S) fun S => (subR (subR (lk v 0 S) fun S => (lk v 3 S)) fun S => (.ok (.int 3) S))))).seq fun v S =>
    (setR v 2 (binR .Add (lk v 2 S) fun S => (binR .Mult (lk v 5 S) fun S => (lk v 6 S)))).seq fun v S =>
    .nx v S)).seq fun v S =>
  (retR v (lk v 2 S)).seq fun v S =>
  .nx v S
theorem e__law_worth (a : List D) (S : Sto) : bodyRun WW 60 G__law_worth d67 a S = s__law_worth a S := by kernel_rfl
def fi__law_worth : FnI := ⟨GN_66.lev + 1, d67.kind, d67.ps, d67.dfl, d67.pur, d67.frz, s__law_worth, d67.kws⟩
theorem run__law_worth : fi__law_worth.run = s__law_worth := rfl
def GN_67 : Gen := addS GN_66 d67 s__law_worth
abbrev G__law_pieces : Gen := GN_67
def s__law_pieces (args : List D) (S : Sto) : Res D := finR <|
  let v := begR 3 13 args
  (setR v 3 (obR (lstR (consR (.ok (.int 0) S) fun S => .ok [] S)))).seq fun v S =>
  (forR v (itR (lk v 0 S)) (.one 4) (fun v S =>
    (setR v 3 (binR .Add (binR .Add (lk v 3 S) fun S => (obR (lstR (consR (subR (lk v 4 S) fun S => (.ok (.int 0) S)) fun S => .ok [] S)))) fun S => (ifR (cmpR .Is (subR (lk v 4 S) fun S => (.ok (.int 1) S)) fun S => (.ok .non S)) (fun S => (obR (lstR (.ok [] S)))) fun S => (obR (lstR (consR (subR (lk v 4 S) fun S => (.ok (.int 1) S)) fun S => .ok [] S)))))).seq fun v S =>
    .nx v S)).seq fun v S =>
  (forR v (itR (lk v 2 S)) (.many [6, 7]) (fun v S =>
    (setR v 3 (binR .Add (binR .Add (lk v 3 S) fun S => (obR (lstR (consR (lk v 6 S) fun S => .ok [] S)))) fun S => (ifR (cmpR .Eq (lk v 7 S) fun S => (.ok (.str "open") S)) (fun S => (obR (lstR (.ok [] S)))) fun S => (obR (lstR (consR (lk v 7 S) fun S => .ok [] S)))))).seq fun v S =>
    .nx v S)).seq fun v S =>
  (setsR v [3, 8] (consR (binR .Add (setFR "sorted" (lk v 3 S)) fun S => (obR (lstR (consR (.ok .non S) fun S => .ok [] S)))) fun S => consR (allocR (lstR (.ok [] S))) fun S => .ok [] S)).seq fun v S =>
  (forR v (rng1 (consR (binR .Sub (boR G__law_pieces "len" (consR (lk v 3 S) fun S => .ok [] S)) fun S => (.ok (.int 1) S)) fun S => .ok [] S)) (.one 5) (fun v S =>
    (setR v 9 (.ok (.int 0) S)).seq fun v S =>
    (forR v (itR (lk v 1 S)) (.many [10, 11, 12]) (fun v S =>
      (iteR v (andT (cmpR .LtE (subR (subR (lk v 0 S) fun S => (lk v 10 S)) fun S => (.ok (.int 0) S)) fun S => (subR (lk v 3 S) fun S => (lk v 5 S))) fun S => (orT (cmpR .Is (subR (subR (lk v 0 S) fun S => (lk v 10 S)) fun S => (.ok (.int 1) S)) fun S => (.ok .non S)) fun S => (cmpR .Lt (subR (lk v 3 S) fun S => (lk v 5 S)) fun S => (subR (subR (lk v 0 S) fun S => (lk v 10 S)) fun S => (.ok (.int 1) S))))) (fun S =>
        (setR v 9 (binR .Add (lk v 9 S) fun S => (ifR (cmpR .Eq (lk v 11 S) fun S => (.ok (.str "least") S)) (fun S => (lk v 12 S)) fun S => (binR .Sub (.ok (.int 0) S) fun S => (lk v 12 S))))).seq fun v S =>
        .nx v S)
      fun S => .nx v S).seq fun v S =>
      .nx v S)).seq fun v S =>
    (expR v (meR G__law_pieces "append" (lk v 8 S) fun S => (consR (obR (lstR (consR (subR (lk v 3 S) fun S => (lk v 5 S)) fun S => consR (subR (lk v 3 S) fun S => (binR .Add (lk v 5 S) fun S => (.ok (.int 1) S))) fun S => consR (lk v 9 S) fun S => .ok [] S))) fun S => .ok [] S))).seq fun v S =>
    .nx v S)).seq fun v S =>
  (retR v (lk v 8 S)).seq fun v S =>
  .nx v S
theorem e__law_pieces (a : List D) (S : Sto) : bodyRun WW 60 G__law_pieces d68 a S = s__law_pieces a S := by kernel_rfl
def fi__law_pieces : FnI := ⟨GN_67.lev + 1, d68.kind, d68.ps, d68.dfl, d68.pur, d68.frz, s__law_pieces, d68.kws⟩
theorem run__law_pieces : fi__law_pieces.run = s__law_pieces := rfl
def GN_68 : Gen := addS GN_67 d68 s__law_pieces
abbrev G__law_right : Gen := GN_68
def s__law_right (args : List D) (S : Sto) : Res D := finR <|
  let v := begR 1 10 args
  (forR v (rng1 (consR (.ok (.int 6) S) fun S => .ok [] S)) (.one 1) (fun v S =>
    (setR v 2 (fnR fi__law_lines (consR (lk v 0 S) fun S => consR (.ok (.int 4) S) fun S => consR (.ok (.int 4) S) fun S => .ok [] S))).seq fun v S =>
    (setsR v [7, 3] (consR (obR (lcR (compR (itR (lk v 2 S)) (turnR (.one 8) none (fun v S => (fnR fi__law_said (consR (lk v 8 S) fun S => .ok [] S))) (wipeD v [8]))))) fun S => consR (fnR fi_clash (consR (mkR "Table" ci_Table fi_Table___init__ (consR (bR (bTup) (consR (lk v 2 S) fun S => .ok [] S)) fun S => .ok [] S)) fun S => .ok [] S)) fun S => .ok [] S)).seq fun v S =>
    (setR v 3 (ifR (cmpR .Is (lk v 3 S) fun S => (.ok .non S)) (fun S => (tupR (.ok [] S))) fun S => (lk v 3 S))).seq fun v S =>
    (forR v (rng1 (consR (fnR fi__law_draw (consR (lk v 0 S) fun S => consR (.ok (.int 3) S) fun S => .ok [] S)) fun S => .ok [] S)) (.one 4) (fun v S =>
      (setR v 3 (fnR fi__law_bent (consR (lk v 0 S) fun S => consR (lk v 7 S) fun S => consR (lk v 3 S) fun S => .ok [] S))).seq fun v S =>
      .nx v S)).seq fun v S =>
    (setR v 5 (tupR (consR (.ok (.str "clash") S) fun S => consR (meR G__law_right "join" (.ok (.str "
") S) fun S => (consR (lk v 2 S) fun S => .ok [] S)) fun S => .ok [] S))).seq fun v S =>
    (setR v 6 (andR (fnR fi__law_is_lot (consR (lk v 7 S) fun S => consR (lk v 3 S) fun S => .ok [] S)) fun S => (blR (cmpR .GtE (fnR fi__law_worth (consR (lk v 7 S) fun S => consR (lk v 3 S) fun S => .ok [] S)) fun S => (.ok (.int 1) S))))).seq fun v S =>
    (iteR v (truR (lk v 6 S)) (fun S =>
      (setR v 6 (blR (cmpR .Eq (obR (lcR (compR (itR (fnR fi__law_pieces (consR (lk v 7 S) fun S => consR (lk v 3 S) fun S => consR (obR (lstR (.ok [] S))) fun S => .ok [] S))) (turnR (.one 9) (some fun v S => (cmpR .Gt (subR (lk v 9 S) fun S => (.ok (.int 2) S)) fun S => (.ok (.int 0) S))) (fun v S => (lk v 9 S)) (wipeD v [9]))))) fun S => (obR (lstR (.ok [] S)))))).seq fun v S =>
      .nx v S)
    fun S => .nx v S).seq fun v S =>
    (iteR v (cmpR .NotEq (bR (fun _ => bRepr) (consR (obR (lstR (consR (fnR fi_accepts (consR (lk v 5 S) fun S => consR (lk v 3 S) fun S => .ok [] S)) fun S => consR (kwR fi_accepts ["certificate", "claim"] (consR (lk v 3 S) fun S => consR (lk v 5 S) fun S => .ok [] S)) fun S => .ok [] S))) fun S => .ok [] S)) fun S => (bR (fun _ => bRepr) (consR (obR (lstR (consR (lk v 6 S) fun S => consR (lk v 6 S) fun S => .ok [] S))) fun S => .ok [] S))) (fun S =>
      (retR v (.ok (.bl false) S)).seq fun v S =>
      .nx v S)
    fun S => .nx v S).seq fun v S =>
    (iteR v (orT (truR (fnR fi_accepts (consR (lk v 5 S) fun S => consR (bR (bLst) (consR (lk v 3 S) fun S => .ok [] S)) fun S => .ok [] S))) fun S => (truR (fnR fi_accepts (consR (lk v 5 S) fun S => consR (tupR (consR (lk v 3 S) fun S => .ok [] S)) fun S => .ok [] S)))) (fun S =>
      (retR v (.ok (.bl false) S)).seq fun v S =>
      .nx v S)
    fun S => .nx v S).seq fun v S =>
    .nx v S)).seq fun v S =>
  (retR v (.ok (.bl true) S)).seq fun v S =>
  .nx v S
theorem e__law_right (a : List D) (S : Sto) : bodyRun WW 60 G__law_right d69 a S = s__law_right a S := by kernel_rfl
def fi__law_right : FnI := ⟨GN_68.lev + 1, d69.kind, d69.ps, d69.dfl, d69.pur, d69.frz, s__law_right, d69.kws⟩
theorem run__law_right : fi__law_right.run = s__law_right := rfl
def GN_69 : Gen := addS GN_68 d69 s__law_right
abbrev G__law_well : Gen := GN_69
def s__law_well (args : List D) (S : Sto) : Res D := finR <|
  let v := begR 2 5 args
  (setR v 2 (binR .Add (.ok (.int 66431) S) fun S => (binR .Mult (.ok (.int 877) S) fun S => (lk v 1 S)))).seq fun v S =>
  (forR v (itR (binR .Add (sliR (lk v 0 S) (fun S => noP S) fun S => (intP (.ok (.int 4) S))) fun S => (sliR (lk v 0 S) (fun S => (intP (lk v 1 S))) fun S => (intP (binR .Add (lk v 1 S) fun S => (.ok (.int 1) S)))))) (.one 3) (fun v S =>
    (setR v 2 (binR .Mod (bR (fun _ => bInt) (consR (binR .Add (binR .Add (binR .Mult (lk v 2 S) fun S => (.ok (.int 46021) S)) fun S => (lk v 3 S)) fun S => (.ok (.int 3) S)) fun S => .ok [] S)) fun S => (.ok (.int 2147483579) S))).seq fun v S =>
    .nx v S)).seq fun v S =>
  (setR v 4 (ifR (cmpR .Lt (lk v 1 S) fun S => (boR G__law_well "len" (consR (lk v 0 S) fun S => .ok [] S))) (fun S => (subR (lk v 0 S) fun S => (lk v 1 S))) fun S => (.ok (.int 0) S))).seq fun v S =>
  (retR v (allocR (lstR (consR (lk v 2 S) fun S => consR (.ok (.int 0) S) fun S => consR (ifR (cmpR .GtE (bR (fun _ => bAbs) (consR (lk v 4 S) fun S => .ok [] S)) fun S => (binR .Pow (.ok (.int 10) S) fun S => (.ok (.int 18) S))) (fun S => (bR (fun _ => bAbs) (consR (lk v 4 S) fun S => .ok [] S))) fun S => (.ok (.int 0) S)) fun S => .ok [] S)))).seq fun v S =>
  .nx v S
theorem e__law_well (a : List D) (S : Sto) : bodyRun WW 60 G__law_well d70 a S = s__law_well a S := by kernel_rfl
def fi__law_well : FnI := ⟨GN_69.lev + 1, d70.kind, d70.ps, d70.dfl, d70.pur, d70.frz, s__law_well, d70.kws⟩
theorem run__law_well : fi__law_well.run = s__law_well := rfl
def GN_70 : Gen := addS GN_69 d70 s__law_well
abbrev G_law : Gen := GN_70
def s_law (args : List D) (S : Sto) : Res D := finR <|
  let v := begR 1 2 args
  (retR v (bR (bAll) (consR (obR (lcR (compR (rng1 (consR (bR (fun _ => bMax) (consR (.ok (.int 2) S) fun S => consR (bR (fun _ => bMin) (consR (boR G_law "len" (consR (lk v 0 S) fun S => .ok [] S)) fun S => consR (.ok (.int 3) S) fun S => .ok [] S)) fun S => .ok [] S)) fun S => .ok [] S)) (turnR (.one 1) none (fun v S => (fnR fi__law_right (consR (fnR fi__law_well (consR (lk v 0 S) fun S => consR (lk v 1 S) fun S => .ok [] S)) fun S => .ok [] S))) (wipeD v [1]))))) fun S => .ok [] S))).seq fun v S =>
  .nx v S
theorem e_law (a : List D) (S : Sto) : bodyRun WW 60 G_law d71 a S = s_law a S := by kernel_rfl
theorem build_eq : build WW 60 Gbase dl = GN_70 := by
  unfold build dl
  simp only [List.foldl]
  rw [show addD WW 60 Gbase d0 = GN_0 from addD_eq e__law_draw]
  rw [show addD WW 60 GN_0 d1 = GN_1 from addD_eq e_Table___str__]
  rw [show addD WW 60 GN_1 d2 = GN_2 from addD_eq e_Table___len__]
  rw [show addD WW 60 GN_2 d3 = GN_3 from addD_eq e_written_count]
  rw [show addD WW 60 GN_3 d4 = GN_4 from addD_eq e_is_integer]
  rw [show addD WW 60 GN_4 d5 = GN_5 from addD_eq e_is_high]
  rw [show addD WW 60 GN_5 d6 = GN_6 from addD_eq e_written_stretch]
  rw [show addD WW 60 GN_6 d7 = GN_7 from addD_eq e_near_bounds]
  rw [show addD WW 60 GN_7 d8 = GN_8 from addD_eq e_one_number]
  rw [show addD WW 60 GN_8 d9 = GN_9 from addD_eq e_written_bounds]
  rw [show addD WW 60 GN_9 d10 = GN_10 from addD_eq e_Telling___init__]
  rw [show addD WW 60 GN_10 d11 = GN_11 from addD_eq e_telling_of]
  rw [show addD WW 60 GN_11 d12 = GN_12 from addD_eq e_check_tellings]
  rw [show addD WW 60 GN_12 d13 = GN_13 from addD_eq e_Table___init__]
  rw [show addD WW 60 GN_13 d14 = GN_14 from addD_eq e_Table___eq__]
  rw [show addD WW 60 GN_14 d15 = GN_15 from addD_eq e__law_how]
  rw [show addD WW 60 GN_15 d16 = GN_16 from addD_eq e__law_lines]
  rw [show addD WW 60 GN_16 d17 = GN_17 from addD_eq e_Table___repr__]
  rw [show addD WW 60 GN_17 d18 = GN_18 from addD_eq e_check_table]
  rw [show addD WW 60 GN_18 d19 = GN_19 from addD_eq e_Ways_ring]
  rw [show addD WW 60 GN_19 d20 = GN_20 from addD_eq e_lot_of]
  rw [show addD WW 60 GN_20 d21 = GN_21 from addD_eq e_Points_size]
  rw [show addD WW 60 GN_21 d22 = GN_22 from addD_eq e_Ways_is_better]
  rw [show addD WW 60 GN_22 d23 = GN_23 from addD_eq e_Ways___init__]
  rw [show addD WW 60 GN_23 d24 = GN_24 from addD_eq e_Bound___init__]
  rw [show addD WW 60 GN_24 d25 = GN_25 from addD_eq e_Points_add]
  rw [show addD WW 60 GN_25 d26 = GN_26 from addD_eq e_Points___init__]
  rw [show addD WW 60 GN_26 d27 = GN_27 from addD_eq e_clash_of]
  rw [show addD WW 60 GN_27 d28 = GN_28 from addD_eq e_clash]
  rw [show addD WW 60 GN_28 d29 = GN_29 from addD_eq e__law_pick]
  rw [show addD WW 60 GN_29 d30 = GN_30 from addD_eq e__law_bent]
  rw [show addD WW 60 GN_30 d31 = GN_31 from addD_eq e__law_int]
  rw [show addD WW 60 GN_31 d32 = GN_32 from addD_eq e__law_is_lot]
  rw [show addD WW 60 GN_32 d33 = GN_33 from addD_eq e_text_table]
  rw [show addD WW 60 GN_33 d34 = GN_34 from addD_eq e_is_count]
  rw [show addD WW 60 GN_34 d35 = GN_35 from addD_eq e_is_stretch]
  rw [show addD WW 60 GN_35 d36 = GN_36 from addD_eq e_lowest_terms]
  rw [show addD WW 60 GN_36 d37 = GN_37 from addD_eq e_is_triple]
  rw [show addD WW 60 GN_37 d38 = GN_38 from addD_eq e_is_data]
  rw [show addD WW 60 GN_38 d39 = GN_39 from addD_eq e_lies_in]
  rw [show addD WW 60 GN_39 d40 = GN_40 from addD_eq e_count_in]
  rw [show addD WW 60 GN_40 d41 = GN_41 from addD_eq e_does_fit]
  rw [show addD WW 60 GN_41 d42 = GN_42 from addD_eq e_shows_possible]
  rw [show addD WW 60 GN_42 d43 = GN_43 from addD_eq e_is_part]
  rw [show addD WW 60 GN_43 d44 = GN_44 from addD_eq e_is_lot]
  rw [show addD WW 60 GN_44 d45 = GN_45 from addD_eq e_worth]
  rw [show addD WW 60 GN_45 d46 = GN_46 from addD_eq e_Piece___init__]
  rw [show addD WW 60 GN_46 d47 = GN_47 from addD_eq e_covers]
  rw [show addD WW 60 GN_47 d48 = GN_48 from addD_eq e_pieces]
  rw [show addD WW 60 GN_48 d49 = GN_49 from addD_eq e_shows_clash]
  rw [show addD WW 60 GN_49 d50 = GN_50 from addD_eq e_is_bound]
  rw [show addD WW 60 GN_50 d51 = GN_51 from addD_eq e_is_pair_of_lots]
  rw [show addD WW 60 GN_51 d52 = GN_52 from addD_eq e_Piece_lies_in]
  rw [show addD WW 60 GN_52 d53 = GN_53 from addD_eq e_is_below]
  rw [show addD WW 60 GN_53 d54 = GN_54 from addD_eq e_shows_count]
  rw [show addD WW 60 GN_54 d55 = GN_55 from addD_eq e_is_high_piece]
  rw [show addD WW 60 GN_55 d56 = GN_56 from addD_eq e_is_low_piece]
  rw [show addD WW 60 GN_56 d57 = GN_57 from addD_eq e_shows_sum]
  rw [show addD WW 60 GN_57 d58 = GN_58 from addD_eq e_is_fraction]
  rw [show addD WW 60 GN_58 d59 = GN_59 from addD_eq e_is_lot_with_extra]
  rw [show addD WW 60 GN_59 d60 = GN_60 from addD_eq e_shows_mean]
  rw [show addD WW 60 GN_60 d61 = GN_61 from addD_eq e_contains]
  rw [show addD WW 60 GN_61 d62 = GN_62 from addD_eq e_share_price]
  rw [show addD WW 60 GN_62 d63 = GN_63 from addD_eq e_shows_share]
  rw [show addD WW 60 GN_63 d64 = GN_64 from addD_eq e_accepts]
  rw [show addD WW 60 GN_64 d65 = GN_65 from addD_eq e__law_bounds]
  rw [show addD WW 60 GN_65 d66 = GN_66 from addD_eq e__law_said]
  rw [show addD WW 60 GN_66 d67 = GN_67 from addD_eq e__law_worth]
  rw [show addD WW 60 GN_67 d68 = GN_68 from addD_eq e__law_pieces]
  rw [show addD WW 60 GN_68 d69 = GN_69 from addD_eq e__law_right]
  rw [show addD WW 60 GN_69 d70 = GN_70 from addD_eq e__law_well]
theorem law_eq (a : List D) (S : Sto) : bodyRun WW 60 (build WW 60 Gbase dl) dlaw a S = s_law a S := by
  rw [build_eq]; exact e_law a S
end K74
end

section
set_option Elab.async false
set_option linter.all false
set_option maxRecDepth 100000
set_option maxHeartbeats 4000000
namespace K74
open PySem L2 DV SX
/-! Integers, words of integers, stretches. -/
def isIntD : D → Bool
  | .int _ => true
  | _ => false
/-- things whose kind is known -/
def knd : D → Bool
  | .non => true
  | .bl _ => true
  | .int _ => true
  | .str _ => true
  | .tup _ => true
  | .lst _ => true
  | .dict _ _ => true
  | _ => false
theorem r_is_integer (d : D) (S : Sto) (h : knd d = true) (c : d.clo = true) : runF fi_is_integer [d] S = .ok (.bl (isIntD d)) S := by
  refine runF_pure (S' := []) rfl rfl (by simpa [cloL] using c) ?_ rfl
  show s_is_integer [d] [] = _
  cases d <;> first | (cases h; done) | skip
  all_goals simp [s_is_integer, isInst, tyOfD, isIntD]
@[simp] theorem r_int (i : Int) (S : Sto) : runF fi_is_integer [.int i] S = .ok (.bl true) S := r_is_integer _ _ rfl rfl
def isCntD : D → Bool
  | .int i => decide (0 ≤ i)
  | _ => false
theorem r_is_count (d : D) (S : Sto) (h : knd d = true) (c : d.clo = true) : runF fi_is_count [d] S = .ok (.bl (isCntD d)) S := by
  refine runF_pure (S' := []) rfl rfl (by simpa [cloL] using c) ?_ rfl
  show s_is_count [d] [] = _
  have e := r_is_integer d [] h c
  cases d <;> first | (cases h; done) | skip
  all_goals simp [s_is_count, e, isIntD, isCntD]
def hiOk (low : Int) : D → Bool
  | .int i => decide (low < i)
  | .str z => decide (z = "open")
  | _ => false
theorem r_is_high (d : D) (low : Int) (S : Sto) (h : knd d = true) (c : d.clo = true) : runF fi_is_high [d, .int low] S = .ok (.bl (hiOk low d)) S := by
  refine runF_pure (S' := []) rfl rfl (by simpa [cloL, D.clo] using c) ?_ rfl
  show s_is_high [d, .int low] [] = _
  have e := r_is_integer d [] h c
  cases d <;> first | (cases h; done) | skip
  all_goals simp [s_is_high, e, isIntD, hiOk, isInst, tyOfD, gv_OPEN]
/-- what a word of digits tells -/
theorem r_written_count {n : Nat} (S : Sto) (h : Big n) : runF fi_written_count [.str (numS n)] S = .ok (.int n) S := by
  refine runF_pure (S' := []) rfl rfl rfl ?_ rfl
  show s_written_count [.str (numS n)] [] = _
  have hl := numS_len h
  have hne : numS n ≠ Str.ofString "" := fun e => numS_ne (n := n) (by rw [e]; rfl)
  have hl2 : (numS n).cps.toList.length ≤ sizeLine := by
    have : (numS n).cps.toList.length ≤ 200 := by simpa [Str.length] using hl
    unfold sizeLine; omega
  have hd : (numS n).cps.toList.all (fun c => decide (c ∈ ("0123456789" : String).toList.map Char.toNat)) = true := by
    rw [List.all_eq_true]
    intro c hc
    rw [numS_eq] at hc
    have := TL.numL_digits n c (by simpa using hc)
    rw [decide_eq_true_eq]
    obtain ⟨h1, h2⟩ := this
    have : c = 48 ∨ c = 49 ∨ c = 50 ∨ c = 51 ∨ c = 52 ∨ c = 53 ∨ c = 54 ∨ c = 55 ∨ c = 56 ∨ c = 57 := by omega
    rcases this with rfl | rfl | rfl | rfl | rfl | rfl | rfl | rfl | rfl | rfl <;> decide
  simp [s_written_count, wipeD, hne, bLen_str (show (numS n).length ≤ sizeLine by unfold sizeLine; omega)]
  rw [loopC_map rfl (fun k => .str ⟨#[k]⟩) (fun c => .bl (decide (c ∈ ("0123456789" : String).toList.map Char.toNat))) _ (fun c hc => ?_) hl2]
  · have h4 : ¬ ((4000 : Int) < ((numS n).length : Nat)) := by omega
    simp only [lcR_ok, obR_lst, consR_ok, consR2_ok, bR_ok, bAll_map, hd, opt_some, truR_ok, truth_bl, notT_ok, if_neg h4]
    simp [h]
  · refine turnR_none (by simp) ?_
    simp only [List.set_cons_succ, List.set_cons_zero, lk_succ, lk_zero, cmpR_ok, gv_DIGITS, cmpR2_ok, in_str, opt_some, blR_ok]
    rw [ofStr_S, strIn_one]

end K74
end

section
set_option Elab.async false
set_option linter.all false
set_option maxRecDepth 100000
set_option maxHeartbeats 4000000
namespace K74
open PySem L2 DV SX
/-! Tellings read. -/
@[simp] theorem r_high_int (low i : Int) (S : Sto) : runF fi_is_high [.int i, .int low] S = .ok (.bl (decide (low < i))) S := r_is_high (.int i) low S rfl rfl
@[simp] theorem r_high_str (low : Int) (z : Str) (S : Sto) : runF fi_is_high [.str z, .int low] S = .ok (.bl (decide (z = "open"))) S := r_is_high (.str z) low S rfl rfl
theorem r_written_stretch {lo : Nat} {hi : Option Nat} (S : Sto) (h : Big lo) (h2 : ∀ k, hi = some k → Big k ∧ lo < k) : runF fi_written_stretch [.lst [.str (numS lo), .str (hiS hi)]] S = .ok (.tup [.int lo, hiD hi]) S := by
  refine runF_pure (S' := []) rfl rfl rfl ?_ (by cases hi <;> rfl)
  show s_written_stretch [.lst [.str (numS lo), .str (hiS hi)]] [] = _
  cases hi with
  | none => simp [s_written_stretch, hiS, hiD, gv_OPEN, r_written_count _ h]
  | some k =>
    obtain ⟨b, l⟩ := h2 k rfl
    simp [s_written_stretch, hiS, hiD, gv_OPEN, r_written_count _ h, r_written_count _ b, l]
theorem r_near_bounds (a r : Nat) (S : Sto) : runF fi_near_bounds [.int a, .int r] S = .ok (.tup [.int (Fm.near a r).b1, optD (Fm.near a r).b2]) S := by
  refine runF_pure (S' := []) rfl rfl rfl ?_ rfl
  show s_near_bounds [.int a, .int r] [] = _
  have e : (if (r : Int).fdiv 2 < (a : Int) then (a : Int) - (r : Int).fdiv 2 else 0) = max 0 ((a : Int) - (r : Int).fdiv 2) := by split <;> omega
  simp [s_near_bounds, Fm.b1, Fm.b2, optD, e]
theorem r_one_is (a : Int) (S : Sto) : runF fi_one_number [.str "is", .int a] S = .ok (.tup [.int a, .int a]) S := by
  refine runF_pure (S' := []) rfl rfl rfl ?_ rfl
  show s_one_number [.str "is", .int a] [] = _
  simp [s_one_number]
theorem r_one_least (a : Int) (S : Sto) : runF fi_one_number [.str "least", .int a] S = .ok (.tup [.int a, .non]) S := by
  refine runF_pure (S' := []) rfl rfl rfl ?_ rfl
  show s_one_number [.str "least", .int a] [] = _
  simp [s_one_number]
theorem r_one_most (a : Int) (S : Sto) : runF fi_one_number [.str "most", .int a] S = .ok (.tup [.int 0, .int a]) S := by
  refine runF_pure (S' := []) rfl rfl rfl ?_ rfl
  show s_one_number [.str "most", .int a] [] = _
  simp [s_one_number]
theorem r_one_under (a : Int) (S : Sto) (h : 0 < a) : runF fi_one_number [.str "under", .int a] S = .ok (.tup [.int 0, .int (a - 1)]) S := by
  refine runF_pure (S' := []) rfl rfl rfl ?_ rfl
  show s_one_number [.str "under", .int a] [] = _
  simp [s_one_number, h]
theorem r_written_bounds {f : Fm} (S : Sto) (h : f.ok) : runF fi_written_bounds [.lst (f.ws.map .str)] S = .ok (.tup [.int f.b1, optD f.b2]) S := by
  refine runF_pure (S' := []) rfl rfl (by cases f <;> rfl) ?_ (by cases f <;> rfl)
  show s_written_bounds [.lst (f.ws.map .str)] [] = _
  cases f with
  | is_ a => simp [s_written_bounds, Fm.ws, r_written_count _ (show Big a from h), r_one_is]; exact ⟨rfl, rfl⟩
  | least a => simp [s_written_bounds, Fm.ws, r_written_count _ (show Big a from h), r_one_least]; exact ⟨rfl, rfl⟩
  | most a => simp [s_written_bounds, Fm.ws, r_written_count _ (show Big a from h), r_one_most]; exact ⟨rfl, rfl⟩
  | under k =>
    obtain ⟨b, l⟩ := h
    simp [s_written_bounds, Fm.ws, r_written_count _ b, r_one_under _ _ (show (0 : Int) < k by omega)]; exact ⟨rfl, rfl⟩
  | from_ a b =>
    obtain ⟨h1, h2, h3⟩ := h
    simp [s_written_bounds, Fm.ws, r_written_count _ h1, r_written_count _ h2, h3]
    exact ⟨rfl, rfl⟩
  | near a r =>
    obtain ⟨h1, h2, h3, h4⟩ := h
    have e1 : r ≠ 0 := by omega
    have e2 : ((a : Int).fmod (r : Int)) = 0 := by
      rw [Int.fmod_eq_emod_of_nonneg _ (by omega)]
      omega
    simp [s_written_bounds, Fm.ws, r_written_count _ h1, r_written_count _ h2, e1, e2, r_near_bounds]
theorem r_Telling (a b c d : D) (S : Sto) (h : cloL [a, b, c, d] = true) : makeR "Telling" ci_Telling fi_Telling___init__ [a, b, c, d] S = .ok (.obj "Telling" ["low", "high", "least", "most"] [a, b, c, d]) S := by
  refine makeR_rec (S' := [.ins "Telling" ["low", "high", "least", "most"] [a, b, c, d]]) (fill_self rfl) rfl rfl h ?_ (fz_obj rfl h)
  show s_Telling___init__ [.ref 0, a, b, c, d] [.ins "Telling" [] []] = _
  simp [s_Telling___init__, putA, fput]
theorem split_words {l : Ln} (h : l.ok) (S : Sto) : methB "split" S (.str l.text) [.str " "] = some (.lst (l.ws.map .str)) := by
  have hl := text_len h
  rw [methB_split (by decide +kernel) (by unfold sizeLine; omega), text_split]
theorem r_telling_of {l : Ln} (h : l.ok) (S : Sto) : runF fi_telling_of [.str l.text] S = .ok l.d S := by
  refine runF_pure (S' := []) rfl rfl rfl ?_ (by unfold Ln.d; cases l.hi <;> cases l.f <;> rfl)
  show s_telling_of [.str l.text] [] = _
  have hc := ws_card l
  have e1 : (l.ws.map D.str).take 2 = [.str (numS l.lo), .str (hiS l.hi)] := by simp [Ln.ws]
  have e2 : (l.ws.map D.str).drop 2 = l.f.ws.map D.str := by simp [Ln.ws]
  have e3 : ¬ ((l.ws.length : Int) < 4) := by omega
  have e4 := r_written_stretch ([] : Sto) h.1 h.2.1
  have e5 := r_written_bounds ([] : Sto) h.2.2
  have e6 := r_Telling (.int l.lo) (hiD l.hi) (.int l.f.b1) (optD l.f.b2) [] (by cases l.hi <;> cases l.f <;> rfl)
  simp [s_telling_of, isInst, tyOfD, split_words h, e1, e2, e3, e4, e5, e6, Ln.d]

end K74
end

section
set_option Elab.async false
set_option linter.all false
set_option maxRecDepth 100000
set_option maxHeartbeats 4000000
namespace K74
open PySem L2 DV SX
/-! Tables. -/
theorem r_check_tellings {ls : List Ln} (h : LsOk ls) (S : Sto) : runF fi_check_tellings [linesD ls] S = .ok .non S := by
  refine runF_pure (S' := []) rfl rfl (by rw [cloL_cons, linesD_clo]; rfl) ?_ rfl
  show s_check_tellings [linesD ls] [] = _
  have hn : ls.length ≠ 0 := fun e => h.ne (List.eq_nil_of_length_eq_zero e)
  simp [s_check_tellings, linesD, isInst, tyOfD, hn, enuR_map (fun l : Ln => D.str l.text) ls]
  generalize hL : loopF _ _ _ _ _ = L
  obtain ⟨v', S', rfl, rfl, _⟩ := loopF_gen (T := Unit) (fun _ v S => S = [] ∧ ∃ a b, v = [some (linesD ls), a, b]) (fun _ _ => ()) () hL rfl ⟨rfl, none, none, rfl⟩ (by
    intro _ v S p hp r
    obtain ⟨rfl, a, b, rfl⟩ := r
    have h1 := List.mem_zipIdx' hp
    have h2 := h.le
    have h3 := r_telling_of (h.ok p.1 (by rw [h1.2]; exact List.getElem_mem _)) ([] : Sto)
    have h4 : ¬ ((p.2 : Int) = 12) := by omega
    refine ⟨_, _, .inl ?_, rfl, some (.int p.2), some (.str p.1.text), rfl⟩
    simp [gv_MOST_TELLINGS, h3, h4, Ln.d])
  simp
theorem r_Table {ls : List Ln} (h : LsOk ls) (S : Sto) : makeR "Table" ci_Table fi_Table___init__ [linesD ls] S = .ok (tableD ls) S := by
  refine makeR_rec (S' := [.ins "Table" ["shape", "told"] [linesD ls, toldD ls]]) (fill_self rfl) rfl rfl (by rw [cloL_cons, linesD_clo]; rfl) ?_ (fz_obj rfl (by rw [cloL_cons, cloL_cons, linesD_clo, toldD_clo]; rfl))
  show s_Table___init__ [.ref 0, linesD ls] [.ins "Table" [] []] = _
  have e := r_check_tellings h [.ins "Table" [] []]
  have hl := h.le
  simp [s_Table___init__, e, putA, fput, wipeD]
  simp only [linesD, itS_tup, opt_some, compR_ok]
  rw [loopC_map rfl (fun l : Ln => .str l.text) Ln.d ls (fun l hl => ?_) (by unfold sizeLine; omega)]
  · simp [bTup, items, putA, fput, toldD]
  · refine turnR_none (by simp) ?_
    simp [r_telling_of (h.ok l hl)]
theorem r_text_table {ls : List Ln} (h : LsOk ls) (S : Sto) : runF fi_text_table [.str (textOf ls)] S = .ok (tableD ls) S := by
  refine runF_pure (S' := []) rfl rfl rfl ?_ (tableD_clo ls)
  show s_text_table [.str (textOf ls)] [] = _
  have h1 := textOf_len h
  have e := textOf_split h
  have hl := h.le
  have h4 : ¬ ((12 : Int) < (ls.length : Nat)) := by omega
  have e2 := r_Table h ([] : Sto)
  simp [s_text_table, isInst, tyOfD, methB_split (S := []) (y := "\n") (z := textOf ls) (by decide +kernel) (by unfold sizeLine; omega), e, bTup, items, gv_MOST_TELLINGS, h4, wipeD]
  rw [← List.map_map, loopC_map rfl D.str (fun z => .bl true) (ls.map Ln.text) (fun z hz => ?_) (by simp; unfold sizeLine; omega)]
  · rw [lcR_ok, obR_lst, consR_ok, consR2_ok, bR_ok, bAll_map (fun _ => true)]
    have e3 : makeR "Table" ci_Table fi_Table___init__ [.tup (ls.map (D.str ∘ Ln.text))] [] = .ok (tableD ls) [] := e2
    simp [e3]
  · obtain ⟨l, hl, rfl⟩ := List.mem_map.mp hz
    refine turnR_none (by simp) ?_
    simp [r_telling_of (h.ok l hl), Ln.d]

end K74
end

section
set_option Elab.async false
set_option linter.all false
set_option maxRecDepth 100000
set_option maxHeartbeats 4000000
namespace K74
open PySem L2 DV SX
theorem r_law_bounds {f : Fm} (S : Sto) (h : f.ok) : runF fi__law_bounds [.lst (f.ws.map .str)] S = .ok (.tup [.int f.b1, optD f.b2]) S := by
  refine runF_pure (S' := []) rfl rfl (by cases f <;> rfl) ?_ (by cases f <;> rfl)
  show s__law_bounds [.lst (f.ws.map .str)] [] = _
  cases f with
  | is_ a => simp [s__law_bounds, Fm.ws, (show Big a from h)]; exact ⟨rfl, rfl⟩
  | least a => simp [s__law_bounds, Fm.ws, (show Big a from h)]; exact ⟨rfl, rfl⟩
  | most a => simp [s__law_bounds, Fm.ws, (show Big a from h)]; exact ⟨rfl, rfl⟩
  | under k =>
    obtain ⟨b, l⟩ := h
    simp [s__law_bounds, Fm.ws, b]; exact ⟨rfl, rfl⟩
  | from_ a b =>
    obtain ⟨h1, h2, h3⟩ := h
    simp [s__law_bounds, Fm.ws, h1, h2]; exact ⟨rfl, rfl⟩
  | near a r =>
    obtain ⟨h1, h2, h3, h4⟩ := h
    have e : (if (r : Int).fdiv 2 < (a : Int) then (a : Int) - (r : Int).fdiv 2 else 0) = max 0 ((a : Int) - (r : Int).fdiv 2) := by split <;> omega
    simp [s__law_bounds, Fm.ws, h1, h2, e]; exact ⟨rfl, rfl⟩
def hiN : Option Nat → D
  | none => .non
  | some h => .int h
theorem r_law_said {l : Ln} (h : l.ok) (S : Sto) : runF fi__law_said [.str l.text] S = .ok (.tup [.int l.lo, hiN l.hi, .int l.f.b1, optD l.f.b2]) S := by
  refine runF_pure (S' := []) rfl rfl rfl ?_ (by cases l.hi <;> cases l.f <;> rfl)
  show s__law_said [.str l.text] [] = _
  have e2 : (l.ws.map D.str).drop 2 = l.f.ws.map D.str := by simp [Ln.ws]
  have g0 : getF ([] : Sto) (.lst (l.ws.map .str)) (.int 0) = some (.str (numS l.lo)) := by simp [Ln.ws]
  have g1 : getF ([] : Sto) (.lst (l.ws.map .str)) (.int 1) = some (.str (hiS l.hi)) := by simp [Ln.ws]
  have e5 := r_law_bounds ([] : Sto) h.2.2
  have b1 : Big l.lo := h.1
  cases hh : l.hi with
  | none =>
    rw [hh] at g1
    simp [s__law_said, split_words h, g0, g1, b1, e2, e5, hiS, hiN, -getF_lst]
  | some k =>
    have b2 := (h.2.1 k hh).1
    rw [hh] at g1
    simp [s__law_said, split_words h, g0, g1, b1, b2, e2, e5, hiS, hiN, -getF_lst]

end K74
end

section
set_option Elab.async false
set_option linter.all false
set_option maxRecDepth 100000
set_option maxHeartbeats 4000000
namespace K74
open PySem L2 DV SX
/-! A draw. -/
theorem r_draw {n : Nat} {S : Sto} {w : Nat} {many : Int} (W : Wl (n + 1) S w) (h1 : 1 ≤ many) (h2 : many < 1073741824) :
    ∃ (r : Nat) (S' : Sto), (r : Int) < many ∧ Wl n S' w ∧ Fr w S S' ∧ runF fi__law_draw [.ref w, .int many] S = .ok (.int r) S' := by
  have hl := W.lt
  obtain ⟨a, b, c, hS, a0, a1, b0, b1, c0⟩ := W
  by_cases hc : 0 < c
  · have hS2 : (S.set w (.lst [.int a, .int b, .int (c / many)]))[w]? = some (.lst [.int a, .int b, .int (c / many)]) := List.getElem?_set_self hl
    have hr := Int.emod_nonneg c (show many ≠ 0 by omega)
    have hr2 := Int.emod_lt_of_pos c (show 0 < many by omega)
    refine ⟨(c % many).toNat, S.set w (.lst [.int a, .int b, .int (c / many)]), by omega, ⟨a, b, c / many, hS2, a0, a1, b0, by omega, Int.ediv_nonneg c0 (by omega)⟩, .set .., ?_⟩
    refine runF_raw rfl rfl ?_ (fun _ e => by cases e)
    show s__law_draw [.ref w, .int many] S = _
    have hk : (0 : Int) < many ∧ many < 1073741824 := ⟨by omega, h2⟩
    simp [s__law_draw, getF_ref hS, hc, hk]
    rw [putV_ref hS (k := 2) rfl]
    simp
    omega
  · have hm : (1 : Int) ≤ b + 1 := by omega
    let S1 := S.set w (.lst [.int a, .int (b + 1), .int c])
    have hS1 : S1[w]? = some (.lst [.int a, .int (b + 1), .int c]) := List.getElem?_set_self hl
    let x : Int := (a * 44027 + (b + 1) * 57037 + 29).fmod 2147483629
    have hx := fmod_pos (i := a * 44027 + (b + 1) * 57037 + 29) (j := 2147483629) (by decide)
    let S2 := S1.set w (.lst [.int x, .int (b + 1), .int c])
    have hl1 : w < S1.length := by simpa [S1] using hl
    have hS2 : S2[w]? = some (.lst [.int x, .int (b + 1), .int c]) := List.getElem?_set_self hl1
    have hr := fmod_pos (i := x.fdiv 2048) (j := many) (by omega)
    refine ⟨((x.fdiv 2048).fmod many).toNat, S2, by omega, ⟨x, b + 1, c, hS2, hx.1, by show _ < _; have := hx.2; omega, by omega, by omega, c0⟩, (Fr.set ..).trans (.set ..), ?_⟩
    refine runF_raw rfl rfl ?_ (fun _ e => by cases e)
    show s__law_draw [.ref w, .int many] S = _
    have m1 : mulOk a 44027 = true := mulOk_small (by omega) (by decide)
    have m2 : mulOk (b + 1) 57037 = true := mulOk_small (by omega) (by decide)
    have e1 : putV (.ref w) (.int 1) (.int (b + 1)) S = some S1 := putV_ref hS (k := 1) rfl
    have e2 : putV (.ref w) (.int 0) (.int x) S1 = some S2 := putV_ref hS1 (k := 0) rfl
    have d1 : divOk 2048 = true := divOk_small (by decide) (by decide)
    have hn : ¬ many = 0 := by omega
    simp [s__law_draw, getF_ref hS, hc, e1, getF_ref hS1, m1, m2]
    rw [show (a * 44027 + (b + 1) * 57037 + 29).fmod 2147483629 = x from rfl, e2]
    simp [getF_ref hS2, d1, hn]
    omega

end K74
end

section
set_option Elab.async false
set_option linter.all false
set_option maxRecDepth 100000
set_option maxHeartbeats 4000000
namespace K74
open PySem L2 DV SX
theorem r_pick {n : Nat} {S : Sto} {w : Nat} {xs : List D} (W : Wl (n + 1) S w) (h1 : xs ≠ []) (h2 : xs.length < 1073741824) (hc : cloL xs = true) :
    ∃ (x : D) (S' : Sto), x ∈ xs ∧ Wl n S' w ∧ Fr w S S' ∧ runF fi__law_pick [.ref w, .lst xs] S = .ok x S' := by
  have hp : 0 < xs.length := List.length_pos_iff.mpr h1
  obtain ⟨r, S1, hr, W1, F1, e1⟩ := r_draw W (many := (xs.length : Nat)) (by omega) (by omega)
  have hr' : r < xs.length := by omega
  refine ⟨xs[r], S1, List.getElem_mem _, W1, F1, ?_⟩
  refine runF_raw rfl (by rw [show cloL [.ref w, .lst xs] = false from rfl]; simp) ?_ (fun k e => ?_)
  · show s__law_pick [.ref w, .lst xs] S = _
    simp [s__law_pick, e1, atI_ofNat, hr']
  · have := cloL_mem hc _ (List.getElem_mem hr')
    rw [e] at this
    cases this
theorem r_how {n : Nat} {S : Sto} {w m : Nat} (W : Wl (n + 8) S w) (hm : m < 10 ^ 6) :
    ∃ (f : Fm) (S' : Sto), f.ok ∧ Wl n S' w ∧ Fr w S S' ∧ runF fi__law_how [.ref w, .int m] S = .ok (.str (Txt.join " " f.ws)) S' := by
  obtain ⟨r1, S1, hr1, W1, F1, e1⟩ := r_draw (n := n + 7) W (many := 6) (by decide) (by decide)
  obtain ⟨r2, S2, hr2, W2, F2, e2⟩ := r_draw (n := n + 6) W1 (many := 5) (by decide) (by decide)
  obtain ⟨dl, hdl, eb⟩ := bend_at (S := S2) hr2
  obtain ⟨A, hA, hAb⟩ : ∃ A : Nat, (if 0 < (m : Int) + dl then (m : Int) + dl else 0) = (A : Int) ∧ A < 10 ^ 7 := ⟨(if 0 < (m : Int) + dl then (m : Int) + dl else 0).toNat, by split <;> omega, by split <;> omega⟩
  have bA : Big A := big_of (Nat.lt_trans hAb (by decide +kernel))
  have lA := numS_len bA
  have F12 := F1.trans F2
  have run : ∀ (f : Fm) (S' : Sto), s__law_how [.ref w, .int m] S = .ok (.str (Txt.join " " f.ws)) S' → runF fi__law_how [.ref w, .int m] S = .ok (.str (Txt.join " " f.ws)) S' := fun f S' h =>
    runF_raw rfl rfl h (fun _ e => by cases e)
  by_cases c0 : r1 = 0
  · subst c0
    refine ⟨.is_ A, S2, bA, W2.mono (by omega), F12, run _ _ ?_⟩
    have k1 := add_str_ok (a := "is ") (b := numS A) (k := 3) (l := 200) (lit_len (by decide)) lA (by decide)
    simp [s__law_how, e1, e2, eb, hA, bA, -add_str, k1]
    exact cat1 (w1 := "is") (p := "is ") (by decide)
  by_cases c1 : r1 = 1
  · subst c1
    obtain ⟨r3, S3, hr3, W3, F3, e3⟩ := r_draw (n := n + 5) W2 (many := 3) (by decide) (by decide)
    obtain ⟨r4, S4, hr4, W4, F4, e4⟩ := r_draw (n := n + 4) W3 (many := 3) (by decide) (by decide)
    obtain ⟨B, hB, hBb⟩ : ∃ B : Nat, (if (r3 : Int) < (A : Int) then (A : Int) - r3 else 0) = (B : Int) ∧ B ≤ A := ⟨(if (r3 : Int) < (A : Int) then (A : Int) - r3 else 0).toNat, by split <;> omega, by split <;> omega⟩
    have bB : Big B := Nat.lt_of_le_of_lt hBb bA
    have bC : Big (A + r4) := big_of (Nat.lt_trans (show A + r4 < 10 ^ 8 by omega) (by decide +kernel))
    refine ⟨.from_ B (A + r4), S4, ⟨bB, bC, by omega⟩, W4.mono (by omega), (F12.trans F3).trans F4, run _ _ ?_⟩
    have k1 := add_str_ok (a := "from ") (b := numS B) (k := 5) (l := 200) (lit_len (by decide)) (numS_len bB) (by decide)
    have k2 := add_str_ok (a := "from " ++ numS B) (b := " to ") (k := 205) (l := 4) (app_len (lit_len (s := "from ") (k := 5) (by decide)) (numS_len bB)) (lit_len (by decide)) (by decide)
    have k3 := add_str_ok (a := "from " ++ numS B ++ " to ") (b := numS (A + r4)) (k := 209) (l := 200) (app_len (app_len (lit_len (s := "from ") (k := 5) (by decide)) (numS_len bB)) (lit_len (s := " to ") (k := 4) (by decide))) (numS_len bC) (by decide)
    have k4 : bStr [.int ((A : Int) + (r4 : Int))] = some (.str (numS (A + r4))) := by rw [← Int.natCast_add]; exact bStr_num bC
    have hB' : (if r3 < A then (A : Int) - (r3 : Int) else 0) = (B : Int) := by rw [← hB]; simp
    simp [s__law_how, e1, e2, eb, hA, e3, e4, -add_str, k1, k2, k3, k4, hB', bB]
    exact cat3 (w1 := "from") (p := "from ") (w2 := "to") (q := " to ") (by decide) (by decide)
  by_cases c2 : r1 = 2
  · subst c2
    refine ⟨.least A, S2, bA, W2.mono (by omega), F12, run _ _ ?_⟩
    have k1 := add_str_ok (a := "least ") (b := numS A) (k := 6) (l := 200) (lit_len (by decide)) lA (by decide)
    simp [s__law_how, e1, e2, eb, hA, bA, -add_str, k1]
    exact cat1 (w1 := "least") (p := "least ") (by decide)
  by_cases c3 : r1 = 3
  · subst c3
    refine ⟨.most A, S2, bA, W2.mono (by omega), F12, run _ _ ?_⟩
    have k1 := add_str_ok (a := "most ") (b := numS A) (k := 5) (l := 200) (lit_len (by decide)) lA (by decide)
    simp [s__law_how, e1, e2, eb, hA, bA, -add_str, k1]
    exact cat1 (w1 := "most") (p := "most ") (by decide)
  by_cases c4 : r1 = 4
  · subst c4
    obtain ⟨r3, S3, hr3, W3, F3, e3⟩ := r_draw (n := n + 5) W2 (many := 4) (by decide) (by decide)
    let h := 1 + r3
    let q := (2 * A + h) / (2 * h)
    have hq : q ≤ 2 * A + h := Nat.div_le_self _ _
    have bh : Big h := big_of (Nat.lt_trans (show 1 + r3 < 10 ^ 8 by omega) (by decide +kernel))
    have hhq : h * q < 10 ^ 10 := by
      have h4 : h ≤ 4 := by show 1 + r3 ≤ 4; omega
      have := Nat.mul_le_mul h4 hq
      omega
    have bq : Big (h * q) := big_of (Nat.lt_trans hhq (by decide +kernel))
    refine ⟨.near (h * q) h, S3, ⟨bq, bh, by show 1 ≤ 1 + r3; omega, Nat.mul_mod_right _ _⟩, W3.mono (by omega), F12.trans F3, run _ _ ?_⟩
    have eh : (1 : Int) + (r3 : Int) = (h : Int) := by show _ = ((1 + r3 : Nat) : Int); omega
    have k1 := add_str_ok (a := "near ") (b := numS (h * q)) (k := 5) (l := 200) (lit_len (by decide)) (numS_len bq) (by decide)
    have k2 := add_str_ok (a := "near " ++ numS (h * q)) (b := " by ") (k := 205) (l := 4) (app_len (lit_len (s := "near ") (k := 5) (by decide)) (numS_len bq)) (lit_len (by decide)) (by decide)
    have k3 := add_str_ok (a := "near " ++ numS (h * q) ++ " by ") (b := numS h) (k := 209) (l := 200) (app_len (app_len (lit_len (s := "near ") (k := 5) (by decide)) (numS_len bq)) (lit_len (s := " by ") (k := 4) (by decide))) (numS_len bh) (by decide)
    have h4 : h ≤ 4 := by show 1 + r3 ≤ 4; omega
    have m1 : mulOk 2 (A : Int) = true := mulOk_small (by decide) (by rw [Int.natAbs_natCast]; omega)
    have m2 : mulOk 2 (h : Int) = true := mulOk_small (by decide) (by rw [Int.natAbs_natCast]; omega)
    have m3 : mulOk (h : Int) (q : Int) = true := mulOk_small (by rw [Int.natAbs_natCast]; omega) (by rw [Int.natAbs_natCast]; omega)
    have d1 : divOk (2 * (h : Int)) = true := divOk_small (by show 0 < 2 * ((1 + r3 : Nat) : Int); omega) (by omega)
    have dq : (2 * (A : Int) + (h : Int)).fdiv (2 * (h : Int)) = (q : Int) := near_div A h
    have mq : (h : Int) * (q : Int) = ((h * q : Nat) : Int) := by simp
    have k4 : bStr [.int ((h * q : Nat) : Int)] = some (.str (numS (h * q))) := bStr_num bq
    simp only [s__law_how, begR_def, List.map_cons, List.map_nil, List.length_cons, List.length_nil]
    simp [e1, e2, eb, hA, e3, eh, m1, m2, d1, dq, m3, -Int.natCast_mul, -add_str]
    rw [mq]
    simp [bq, bh, k1, k2, k3, -Int.natCast_mul, -add_str]
    exact cat3 (w1 := "near") (p := "near ") (w2 := "by") (q := " by ") (by decide) (by decide)
  · obtain ⟨r3, S3, hr3, W3, F3, e3⟩ := r_draw (n := n + 5) W2 (many := 2) (by decide) (by decide)
    have bC : Big (A + 1 + r3) := big_of (Nat.lt_trans (show A + 1 + r3 < 10 ^ 8 by omega) (by decide +kernel))
    refine ⟨.under (A + 1 + r3), S3, ⟨bC, by omega⟩, W3.mono (by omega), F12.trans F3, run _ _ ?_⟩
    have k1 := add_str_ok (a := "under ") (b := numS (A + 1 + r3)) (k := 6) (l := 200) (lit_len (by decide)) (numS_len bC) (by decide)
    have k4 : bStr [.int ((A : Int) + 1 + (r3 : Int))] = some (.str (numS (A + 1 + r3))) := by
      rw [show (A : Int) + 1 + (r3 : Int) = ((A + 1 + r3 : Nat) : Int) by omega]; exact bStr_num bC
    simp [s__law_how, e1, e2, eb, hA, e3, -add_str, k1, k4, c0, show ¬ ((r1 : Int) = 1) by omega, show ¬ ((r1 : Int) = 2) by omega, show ¬ ((r1 : Int) = 3) by omega, show ¬ ((r1 : Int) = 4) by omega]
    exact cat1 (w1 := "under") (p := "under ") (by decide)

end K74
end

section
set_option Elab.async false
set_option linter.all false
set_option maxRecDepth 100000
set_option maxHeartbeats 4000000
namespace K74
open PySem L2 DV SX

/-- small borders -/
def LnS (l : Ln) : Prop := l.ok ∧ l.lo ≤ 100 ∧ ∀ h, l.hi = some h → h ≤ 100
theorem r_lines {n : Nat} {S : Sto} {w many most : Nat} (W : Wl (n + 1000) S w) (hmany : 1 ≤ many) (hm2 : many ≤ 10) (hmost : most ≤ 20) :
    ∃ (ls : List Ln) (S' : Sto), (∀ l ∈ ls, LnS l) ∧ 1 ≤ ls.length ∧ ls.length ≤ many + 1 ∧ Wl n S' w ∧ Fr w S S' ∧ runF fi__law_lines [.ref w, .int many, .int most] S = .ok (.lst (ls.map fun l => .str l.text)) S' := by
  have wl := W.lt
  obtain ⟨r1, S1, hr1, W1, F1, e1⟩ := r_draw (n := n + 999) (W.mono (by omega)) (many := 9) (by decide) (by decide)
  have wl1 := W1.lt
  have l1 := F1.len
  obtain ⟨k, hk0⟩ : ∃ k, S1.length = k := ⟨_, rfl⟩
  have W2 : Wl (n + 999) (S1 ++ [.lst [.int 0, .int 0, .int 0, .int 0, .int 0]]) w := W1.push _
  have F2 : Fr w S (S1 ++ [.lst [.int 0, .int 0, .int 0, .int 0, .int 0]]) := F1.trans (.push ..)
  have hk : (S1 ++ [Ob.lst [.int 0, .int 0, .int 0, .int 0, .int 0]])[k]? = some (.lst (([0, 0, 0, 0, 0] : List Nat).map fun x => .int (x : Nat))) := by rw [← hk0]; simp
  generalize hS2 : S1 ++ [Ob.lst [D.int 0, D.int 0, D.int 0, D.int 0, D.int 0]] = S2 at W2 F2 hk
  have hkw : k ≠ w := by omega
  have hk2 : k < S2.length := (List.getElem?_eq_some_iff.mp hk).1
  obtain ⟨r2, S3, hr2, W3, F3, e2⟩ := r_draw (n := n + 998) (W2.mono (by omega)) (many := (most : Int) + 1) (by omega) (by omega)
  have hk3 := F3.get hkw hk
  have l3 := F3.len
  obtain ⟨step, est, hs1, hs9⟩ : ∃ step : Nat, (1 : Int) + (r1 : Int) = (step : Int) ∧ 1 ≤ step ∧ step ≤ 9 := ⟨1 + r1, by omega, by omega, by omega⟩
  have hr2' : r2 ≤ 20 := by omega
  have bm : Big most := big_of (Nat.lt_trans (show most < 100 by omega) (by decide +kernel))
  have F3' := F2.trans F3
  clear W2 F2 hk F3
  generalize hX : s__law_lines [.ref w, .int many, .int most] S = X
  have main : ∃ (ls : List Ln) (S' : Sto) (k2 : Nat), (∀ l ∈ ls, LnS l) ∧ 1 ≤ ls.length ∧ ls.length ≤ many + 1 ∧ Wl n S' w ∧ Fr w S S' ∧ S.length ≤ k2 ∧ k2 ≠ w ∧ S'[k2]? = some (.lst (ls.map fun l => .str l.text)) ∧
      X = .ok (.ref k2) S' := by
    simp [s__law_lines, e1, est, hk0, hS2, e2, rng1_nat (show r2 < 2 ^ 60 by omega)] at hX
    generalize hL : loopF _ _ _ _ _ = L at hX
    obtain ⟨v1, S4, rfl, W4, F4, kl4, ⟨xs, x5, xs1, xk⟩, a3, a7, rfl⟩ := loopF_genP (fun p v S' => Wl (n + 500 + (r2 - p.length)) S' w ∧ Fr w S S' ∧ k < S'.length ∧
      (∃ xs : List Nat, xs.length = 5 ∧ xs.sum ≤ p.length ∧ S'[k]? = some (.lst (xs.map fun x => .int (x : Nat)))) ∧
      ∃ a b, v = [some (.ref w), some (.int many), some (.int most), a, none, some (.int step), some (.ref k), b, none, none, none, none]) hL rfl
      ⟨W3.mono (by simp; omega), F3', by omega, ⟨[0, 0, 0, 0, 0], rfl, by decide, hk3⟩, none, none, rfl⟩ (fun p a q v S' e r => by
        obtain ⟨W', F', kl, ⟨xs, x5, xs1, xk⟩, a3, a7, rfl⟩ := r
        obtain ⟨ha, hpq⟩ := range_split e
        obtain ⟨r5, S5, hr5, W5, F5, e5⟩ := r_draw (n := n + 500 + (r2 - (p.length + 1))) (S := S') (w := w) (W'.mono (by omega)) (many := 5) (by decide) (by decide)
        have xk5 := F5.get hkw xk
        have h5 : r5 < xs.length := by omega
        have e6 : putV (.ref k) (.int r5) (.int ((xs[r5] : Nat) + 1)) S5 = some (S5.set k (.lst ((xs.set r5 (xs[r5] + 1)).map fun x => .int (x : Nat)))) := by
          rw [putV_ref xk5 (k := r5) (by
            unfold ixN
            rw [if_pos (by omega), if_pos (by simp; omega)]
            simp), List.map_set]
          simp
        refine ⟨[some (.ref w), some (.int many), some (.int most), some (.int a), none, some (.int step), some (.ref k), some (.int r5), none, none, none, none], S5.set k (.lst ((xs.set r5 (xs[r5] + 1)).map fun x => .int (x : Nat))), .inl (by simp [e5, getF_refN xk5 h5, e6]), ?_, (F'.trans F5).set_new (by omega), ?_, ⟨xs.set r5 (xs[r5] + 1), by simp [x5], ?_, ?_⟩, some (.int a), some (.int r5), rfl⟩
        · have := W5.set_ne (o := .lst ((xs.set r5 (xs[r5] + 1)).map fun x => .int (x : Nat))) hkw
          simpa using this
        · have := F5.len; simp; omega
        · rw [sum_set xs r5 h5]; simp; omega
        · exact List.getElem?_set_self (by have := F5.len; omega))
    clear hL
    have kx := add_str_ok (a := "0 open most ") (b := numS most) (k := 12) (l := 200) (lit_len (by decide)) (numS_len bm) (by decide)
    have W5 := W4.push (.lst [.str (Ln.mk 0 none (.most most)).text])
    have F5 := F4.trans (.push w S4 (.lst [.str (Ln.mk 0 none (.most most)).text]))
    have xk5 : (S4 ++ [Ob.lst [.str (Ln.mk 0 none (.most most)).text]])[k]? = some (.lst (xs.map fun x => .int (x : Nat))) := by rw [List.getElem?_append_left kl4]; exact xk
    have l4 := F4.len
    obtain ⟨k2, hk20⟩ : ∃ k2, S4.length = k2 := ⟨_, rfl⟩
    have xk2 : (S4 ++ [Ob.lst [.str (Ln.mk 0 none (.most most)).text]])[k2]? = some (.lst ([Ln.mk 0 none (.most most)].map fun l => .str l.text)) := by rw [← hk20]; simp
    have hlen : k2 < (S4 ++ [Ob.lst [.str (Ln.mk 0 none (.most most)).text]]).length := by simp; omega
    generalize hS5 : S4 ++ [Ob.lst [D.str (Ln.mk 0 none (.most most)).text]] = S5 at W5 F5 xk5 xk2 hlen
    have hk2w : k2 ≠ w := by omega
    have hk2k : k2 ≠ k := by omega
    obtain ⟨r6, S6, hr6, W6, F6, e6⟩ := r_draw (n := n + 499) (W5.mono (by omega)) (many := (many : Int)) (by omega) (by omega)
    have xk6 := F6.get hkw xk5
    have xk26 := F6.get hk2w xk2
    have l6 := F6.len
    have eT : (1 : Int) + (r6 : Int) = ((1 + r6 : Nat) : Int) := by omega
    simp [bm, -add_str, kx, first_text, hk20, hS5, e6] at hX
    rw [eT, rng1_nat (show 1 + r6 < 2 ^ 60 by omega)] at hX
    simp at hX
    generalize hL : loopF _ _ _ _ _ = L at hX
    obtain ⟨v2, S7, rfl, W7, F7, xk7, ⟨ls, hok, hls, xk27⟩, b3, b7, b8, b9, b10, b11, rfl⟩ := loopF_genP (fun p v S' => Wl (n + 20 * (1 + r6 - p.length)) S' w ∧ Fr w S S' ∧ S'[k]? = some (.lst (xs.map fun x => .int (x : Nat))) ∧
      (∃ ls : List Ln, (∀ l ∈ ls, LnS l) ∧ ls.length = 1 + p.length ∧ S'[k2]? = some (.lst (ls.map fun l => .str l.text))) ∧
      ∃ b3 b7 b8 b9 b10 b11, v = [some (.ref w), some (.int many), some (.int most), b3, some (.ref k2), some (.int step), some (.ref k), b7, b8, b9, b10, b11]) hL rfl
      ⟨W6.mono (by simp; omega), F5.trans F6, xk6, ⟨[Ln.mk 0 none (.most most)], (by
        intro l hl
        obtain rfl := List.mem_singleton.mp hl
        exact ⟨⟨by show 0 < 10 ^ 200; exact Nat.pow_pos (by decide), fun _ q => (nomatch q), bm⟩, by show 0 ≤ 100; omega, fun _ q => (nomatch q)⟩), rfl, xk26⟩, _, _, _, _, _, _, rfl⟩ (fun p a q v S' e r => by
        obtain ⟨W', F', xk', ⟨ls, hok, hls, xk2'⟩, b3, b7, b8, b9, b10, b11, rfl⟩ := r
        obtain ⟨ha, hpq⟩ := range_split e
        obtain ⟨lo, T1, hlo, W1, G1, f1⟩ := r_draw (n := n + 20 * (1 + r6 - (p.length + 1)) + 19) (S := S') (w := w) (W'.mono (by omega)) (many := 4) (by decide) (by decide)
        obtain ⟨d, T2, hd, W2, G2, f2⟩ := r_draw (n := n + 20 * (1 + r6 - (p.length + 1)) + 18) (S := T1) (w := w) (W1.mono (by omega)) (many := 5 - (lo : Int)) (by omega) (by omega)
        have xk2 := G2.get hkw (G1.get hkw xk')
        obtain ⟨ys, hys, hysum, _⟩ := cut_nat xs (some (lo : Int)) (some ((lo : Int) + 1 + d))
        have hsl : sliceV T2 (.ref k) (some (lo : Int)) (some ((lo : Int) + 1 + d)) = some (.lst (ys.map fun x => .int (x : Nat))) := by rw [sliceV_ref xk2, hys]
        have hxs : xs.sum ≤ 20 := by have := xs1; simp at this; omega
        obtain ⟨f, T3, hf, W3, G3, f3⟩ := r_how (n := n + 20 * (1 + r6 - (p.length + 1)) + 10) (S := T2) (w := w) (m := ys.sum) (W2.mono (by omega)) (by omega)
        have xk23 := G3.get hk2w (G2.get hk2w (G1.get hk2w xk2'))
        obtain ⟨at_, T4, hat, W4, G4, f4⟩ := r_draw (n := n + 20 * (1 + r6 - (p.length + 1)) + 9) (S := T3) (w := w) (W3.mono (by omega)) (many := (ls.length : Int) + 1) (by omega) (by omega)
        have xk24 := G4.get hk2w xk23
        have hlo4 : lo < 4 := by omega
        have hd5 : d + lo < 5 := by omega
        have hm1 : step * lo ≤ 9 * 4 := Nat.mul_le_mul hs9 (by omega)
        have hm2 : step * (lo + 1 + d) ≤ 9 * 5 := Nat.mul_le_mul hs9 (by omega)
        have hm3 : step * lo < step * (lo + 1 + d) := Nat.mul_lt_mul_of_pos_left (by omega) (by omega)
        have blo : Big (step * lo) := big_of (Nat.lt_trans (show step * lo < 100 by omega) (by decide +kernel))
        have bhi : Big (step * (lo + 1 + d)) := big_of (Nat.lt_trans (show step * (lo + 1 + d) < 100 by omega) (by decide +kernel))
        obtain ⟨hi, hhi, hend⟩ : ∃ hi : Option Nat, (∀ h, hi = some h → (Big h ∧ step * lo < h) ∧ h ≤ 100) ∧ ∀ S : Sto, (if (lo : Int) + 1 + d = 5 then Res.ok (D.str "open") S else boR G__law_lines "str" (consR (Res.opt S (if mulOk (step : Int) ((lo : Int) + 1 + d) = true then some (.int ((step : Int) * ((lo : Int) + 1 + d))) else none)) fun S => .ok [] S)) = .ok (.str (hiS hi)) S := by
          by_cases h5 : lo + 1 + d = 5
          · refine ⟨none, fun h q => (nomatch q), fun S => ?_⟩
            rw [if_pos (by omega)]; rfl
          · refine ⟨some (step * (lo + 1 + d)), fun h q => ?_, fun S => ?_⟩
            · cases q; exact ⟨⟨bhi, hm3⟩, by omega⟩
            · have h6 : ¬ ((lo : Int) + 1 + d = 5) := by omega
              have h7 : (lo : Int) + 1 + (d : Int) = ((lo + 1 + d : Nat) : Int) := by omega
              rw [if_neg h6, h7]
              have h9 := mulOk_nat (a := step) (b := lo + 1 + d) (by omega) (by omega)
              have h10 : bStr [.int ((step : Int) * ((lo + 1 + d : Nat) : Int))] = some (.str (numS (step * (lo + 1 + d)))) := bStr_mul bhi
              simp only [h9, if_true, opt_some, consR_ok, consR2_ok, boR_ok, boStr_int, h10, hiS]
        have hl : LnS ⟨step * lo, hi, f⟩ := ⟨⟨blo, fun h q => (hhi h q).1, hf⟩, by show step * lo ≤ 100; omega, fun h q => (hhi h q).2⟩
        have lhi : (hiS hi).length ≤ 200 := hiS_len fun k q => (hhi k q).1.1
        have lf := fws_len hf
        have q1 := add_str_ok (a := numS (step * lo)) (b := " ") (k := 200) (l := 1) (numS_len blo) (lit_len (by decide)) (by decide)
        have q2 := add_str_ok (a := numS (step * lo) ++ Str.ofString " ") (b := hiS hi) (k := 201) (l := 200) (app_len (numS_len blo) (lit_len (s := " ") (k := 1) (by decide))) lhi (by decide)
        have q3 := add_str_ok (a := numS (step * lo) ++ Str.ofString " " ++ hiS hi) (b := " ") (k := 401) (l := 1) (app_len (app_len (numS_len blo) (lit_len (s := " ") (k := 1) (by decide))) lhi) (lit_len (by decide)) (by decide)
        have q4 := add_str_ok (a := numS (step * lo) ++ Str.ofString " " ++ hiS hi ++ Str.ofString " ") (b := Txt.join " " f.ws) (k := 402) (l := 1300) (app_len (app_len (app_len (numS_len blo) (lit_len (s := " ") (k := 1) (by decide))) lhi) (lit_len (s := " ") (k := 1) (by decide))) lf (by decide)
        have q5 := line_cat (l := ⟨step * lo, hi, f⟩)
        simp only at q5
        rw [q5] at q4
        have h9 := mulOk_nat (a := step) (b := lo) (by omega) (by omega)
        have hi1 := methL_insert (xs := ls.map fun l => D.str l.text) (d := .str (Ln.mk (step * lo) hi f).text) (i := at_) (by simp; unfold sizeLine; omega) (by omega)
        have hmap : (ls.take at_ ++ [Ln.mk (step * lo) hi f] ++ ls.drop at_).map (fun l => D.str l.text) = (ls.map fun l => D.str l.text).take at_ ++ [.str (Ln.mk (step * lo) hi f).text] ++ (ls.map fun l => D.str l.text).drop at_ := by simp
        refine ⟨[some (.ref w), some (.int many), some (.int most), some (.int a), some (.ref k2), some (.int step), some (.ref k), b7, some (.int lo), some (.int ((lo : Int) + 1 + d)), some (.str (hiS hi)), some (.str (Txt.join " " f.ws))], T4.set k2 (.lst ((ls.take at_ ++ [Ln.mk (step * lo) hi f] ++ ls.drop at_).map fun l => .str l.text)), .inl ?_, ?_, ?_, ?_, ⟨ls.take at_ ++ [Ln.mk (step * lo) hi f] ++ ls.drop at_, ?_, ?_, ?_⟩, _, _, _, _, _, _, rfl⟩
        · rw [hmap]
          have q6 : callBO G__law_lines "len" T3 [.ref k2] = .ok (.int (ls.length : Nat)) T3 := by rw [boLen_ref xk23]; simp
          simp [f1, f2, hend, hsl, bSum_nat, f3, atR_lstS xk23, q6, f4, h9, blo, -add_str, q1, q2, q3, q4, atL_ok xk24, hi1]
        · have := W4.set_ne (o := .lst ((ls.take at_ ++ [Ln.mk (step * lo) hi f] ++ ls.drop at_).map fun l => .str l.text)) hk2w
          exact this.mono (by simp only [List.length_append, List.length_cons, List.length_nil]; omega)
        · exact ((((F'.trans G1).trans G2).trans G3).trans G4).set_new (by omega)
        · rw [List.getElem?_set_ne hk2k]; exact G4.get hkw (G3.get hkw xk2)
        · intro l hl'
          have : l ∈ ls.take at_ ∨ l = Ln.mk (step * lo) hi f ∨ l ∈ ls.drop at_ := by simpa [or_assoc] using hl'
          rcases this with h | rfl | h
          · exact hok l (List.mem_of_mem_take h)
          · exact hl
          · exact hok l (List.mem_of_mem_drop h)
        · simp only [List.length_append, List.length_take, List.length_drop, List.length_cons, List.length_nil]; omega
        · exact List.getElem?_set_self ((List.getElem?_eq_some_iff.mp xk24).1))
    simp at hX
    refine ⟨ls, S7, k2, hok, by omega, by simp at hls; omega, W7.mono (by omega), F7, by omega, hk2w, xk27, hX.symm⟩
  obtain ⟨ls, S', k2, h1, h2, h3, h4, h5, h6, h7, h8, h9⟩ := main
  refine ⟨ls, S'.set k2 .dead, h1, h2, h3, h4.set_ne h7, h5.set_new h6, ?_⟩
  exact runF_lst (n := k2) rfl rfl rfl (by show s__law_lines _ S = _; rw [hX]; exact h9) h8 (cloL_map _ (fun _ => rfl) ls)

end K74
end

section
set_option Elab.async false
set_option linter.all false
set_option maxRecDepth 100000
set_option maxHeartbeats 4000000
namespace K74
open PySem L2 DV SX
theorem r_Bound (b : Bd) (S : Sto) : makeR "Bound" ci_Bound fi_Bound___init__ [.int b.lo, .int b.hi, .int b.most, srcD b.src] S = .ok b.d S := by
  have hc : (srcD b.src).clo = true := by unfold srcD; rcases b.src with _ | ⟨_ | i, _ | _⟩ <;> rfl
  have hc2 : cloL [.int b.lo, .int b.hi, .int b.most, srcD b.src] = true := by
    show (true && (true && (true && ((srcD b.src).clo && true)))) = true
    rw [hc]; rfl
  refine makeR_rec (S' := [.ins "Bound" ["low", "high", "most", "source"] [.int b.lo, .int b.hi, .int b.most, srcD b.src]]) (fill_self rfl) rfl rfl hc2 ?_ (fz_obj rfl hc2)
  rw [run_Bound___init__]
  simp [s_Bound___init__, putA, fput]
def insP (ms : List Nat) : Ob := .ins "Points" ["marks", "places", "held"] [marksD ms, .ref 2, .ref 3]
def stP (ms : List Nat) (dm : Ob) (hs : List Bd) : Sto := [insP ms, dm, .dict (placesK ms) (placesV ms), .lst (hs.map Bd.d)]
@[simp] theorem at_marks {ms : List Nat} {dm : Ob} {hs : List Bd} : attrV clsF (stP ms dm hs) "marks" (.ref 0) = some (.inl (marksD ms)) := by
  simp [attrV, insD, stP, insP]
@[simp] theorem at_places {ms : List Nat} {dm : Ob} {hs : List Bd} : attrV clsF (stP ms dm hs) "places" (.ref 0) = some (.inl (.ref 2)) := by
  simp [attrV, insD, stP, insP]
@[simp] theorem at_held {ms : List Nat} {dm : Ob} {hs : List Bd} : attrV clsF (stP ms dm hs) "held" (.ref 0) = some (.inl (.ref 3)) := by
  simp [attrV, insD, stP, insP]
theorem pl_lo {ms : List Nat} {dm : Ob} {hs : List Bd} (hd : ms.Nodup) {k : Nat} (hk : k ∈ ms) : getF (stP ms dm hs) (.ref 2) (.int k) = some (.int (placeOf ms (some k) : Nat)) := by
  rw [getF_dict (ks := placesK ms) (xs := placesV ms) (k := .inl k) rfl rfl, dlook_places hd hk]; rfl
theorem pl_hi {ms : List Nat} {dm : Ob} {hs : List Bd} (hd : ms.Nodup) {h : Option Nat} (hk : ∀ k, h = some k → k ∈ ms) : getF (stP ms dm hs) (.ref 2) (hiD h) = some (.int (placeOf ms h : Nat)) := by
  cases h with
  | none => rw [show hiD none = D.str "open" from rfl, getF_dict (ks := placesK ms) (xs := placesV ms) (k := .inr "open") rfl rfl, dlook_open]; rfl
  | some k => exact pl_lo hd (hk k rfl)
theorem held_at {ms : List Nat} {dm : Ob} {hs : List Bd} : (stP ms dm hs)[3]? = some (.lst (hs.map Bd.d)) := rfl
theorem held_set {ms : List Nat} {dm : Ob} {hs hs' : List Bd} : (stP ms dm hs).set 3 (.lst (hs'.map Bd.d)) = stP ms dm hs' := rfl
def idxD : Option Nat → D
  | none => .non
  | some i => .int i
theorem r_add {ms : List Nat} {dm : Ob} {hs : List Bd} (hd : ms.Nodup) {lo : Nat} {hi : Option Nat} {b1 : Int} {b2 : Option Int} {i : Option Nat} (h1 : lo ∈ ms) (h2 : ∀ k, hi = some k → k ∈ ms) (hl : hs.length ≤ 10000) :
    runF fi_Points_add [.ref 0, .int lo, hiD hi, .int b1, optD b2, idxD i] (stP ms dm hs) = .ok .non (stP ms dm (hs ++ tellHeld ms lo hi b1 b2 i)) := by
  refine runF_raw rfl rfl ?_ (fun _ e => by cases e)
  rw [run_Points_add]
  have p1 := pl_lo (dm := dm) (hs := hs) hd h1
  have p2 := pl_hi (dm := dm) (hs := hs) hd h2
  have bd1 := r_Bound ⟨placeOf ms hi, placeOf ms (some lo), -b1, some (i, true)⟩ (stP ms dm hs)
  have ap1 := methL_append (xs := hs.map Bd.d) (d := (⟨placeOf ms hi, placeOf ms (some lo), -b1, some (i, true)⟩ : Bd).d) (by simp; unfold sizeLine; omega)
  have e1 : hs.map Bd.d ++ [(⟨placeOf ms hi, placeOf ms (some lo), -b1, some (i, true)⟩ : Bd).d] = (hs ++ [(⟨placeOf ms hi, placeOf ms (some lo), -b1, some (i, true)⟩ : Bd)]).map Bd.d := by simp
  rw [e1] at ap1
  have sr1 : srcD (some (i, true)) = .tup [idxD i, .str "least"] := by cases i <;> rfl
  have sr2 : srcD (some (i, false)) = .tup [idxD i, .str "most"] := by cases i <;> rfl
  simp only [sr1] at bd1
  cases b2 with
  | none =>
    simp [s_Points_add, atR_lstS held_at, p1, p2, bd1, atL_ok held_at, ap1, -List.map_append, held_set, optD, tellHeld]
  | some m =>
    generalize hq1 : hs ++ [(⟨placeOf ms hi, placeOf ms (some lo), -b1, some (i, true)⟩ : Bd)] = hs1 at *
    have q1 := pl_lo (dm := dm) (hs := hs1) hd h1
    have q2 := pl_hi (dm := dm) (hs := hs1) hd h2
    have bd2 := r_Bound ⟨placeOf ms (some lo), placeOf ms hi, m, some (i, false)⟩ (stP ms dm hs1)
    simp only [sr2] at bd2
    have ap2 := methL_append (xs := hs1.map Bd.d) (d := (⟨placeOf ms (some lo), placeOf ms hi, m, some (i, false)⟩ : Bd).d) (by rw [← hq1]; simp; unfold sizeLine; omega)
    have e2 : hs1.map Bd.d ++ [(⟨placeOf ms (some lo), placeOf ms hi, m, some (i, false)⟩ : Bd).d] = (hs1 ++ [(⟨placeOf ms (some lo), placeOf ms hi, m, some (i, false)⟩ : Bd)]).map Bd.d := by simp
    rw [e2] at ap2
    have e3 : hs ++ tellHeld ms lo hi b1 (some m) i = hs1 ++ [(⟨placeOf ms (some lo), placeOf ms hi, m, some (i, false)⟩ : Bd)] := by rw [← hq1]; simp [tellHeld]
    rw [e3]
    simp [s_Points_add, atR_lstS held_at, p1, p2, bd1, atL_ok held_at, ap1, -List.map_append, held_set, optD, q1, q2, bd2, ap2]

end K74
end

section
set_option Elab.async false
set_option linter.all false
set_option maxRecDepth 100000
set_option maxHeartbeats 4000000
namespace K74
open PySem L2 DV SX
theorem strD_put {s : Strt} {v : Slots} {i j : Nat} : Tg.put (.many [i, j]) (strD s) v = setAll [i, j] [.int s.1, hiD s.2] v := rfl
theorem me_add : meOk G_Points___init__ "Points" "add" = some fi_Points_add := by kernel_rfl
theorem at_add {ms : List Nat} {dm : Ob} {hs : List Bd} {A : Sto → Res (List D)} : atR G_Points___init__ "add" A (.ref 0) (stP ms dm hs) = (A (stP ms dm hs)).bind fun ds S2 => runF fi_Points_add (.ref 0 :: ds) S2 :=
  atR_ins (S := stP ms dm hs) (n := 0) rfl (by decide +kernel) (by decide +kernel) me_add
theorem run_Points {ls : List Ln} {ss : List Strt} {sd : D} (hn : ls.length + ss.length ≤ 20) (hs : sd = .tup (ss.map strD) ∨ sd = .lst (ss.map strD)) :
    ∃ dm, s_Points___init__ [.ref 0, toldD ls, sd] [.ins "Points" [] []] = .ok .non (stP (marksOf (allStr ls ss)) dm (heldOf (marksOf (allStr ls ss)) ls)) := by
  obtain ⟨mN, mM, mL, mP⟩ := marks_facts (allStr ls ss)
  have hal : (allStr ls ss).length ≤ 20 := by unfold allStr; simp; omega
  generalize hX : s_Points___init__ [.ref 0, toldD ls, sd] [.ins "Points" [] []] = X
  simp [s_Points___init__, toldD, wipeD] at hX
  rw [loopC_map rfl Ln.d (fun l => strD l.strt) ls (fun l hl => by
    refine turnR_none (by simp) ?_
    simp [Ln.d, strD, Ln.strt]) (by unfold sizeLine; omega)] at hX
  have e1 : ∀ S : Sto, (starR2 S (.lst (ls.map fun l => strD l.strt)) (starR2 S sd (.ok [] S))) = .ok ((allStr ls ss).map strD) S := fun S => by
    have : (allStr ls ss).map strD = (ls.map fun l => strD l.strt) ++ ss.map strD := by unfold allStr; simp
    rw [this]
    rcases hs with rfl | rfl <;> simp
  simp [e1] at hX
  rw [if_pos (show (allStr ls ss).length ≤ sizeLine by unfold sizeLine; omega)] at hX
  simp at hX
  generalize hL : loopF _ _ _ _ _ = L at hX
  obtain ⟨v1, S1, rfl, rfl, a4, a5, rfl⟩ := loopF_genP (fun p v S => S = [.ins "Points" [] [], .dict (alK (p.foldl addMark [(0, true)])) (alV .bl (p.foldl addMark [(0, true)]))] ∧ ∃ a4 a5, v = [some (.ref 0), some (.tup (ls.map Ln.d)), some sd, some (.ref 1), a4, a5, none, none, none, none]) hL rfl ⟨rfl, none, none, rfl⟩ (fun p s q v S e r => by
    obtain ⟨rfl, a4, a5, rfl⟩ := r
    have hp : p.length ≤ 20 := by have := congrArg List.length e; simp at this; omega
    obtain ⟨_, _, ml⟩ := met_keys p [(0, true)] (by simp)
    generalize hm : p.foldl addMark [(0, true)] = m at ml
    have em : (p ++ [s]).foldl addMark [(0, true)] = addMark m s := by rw [List.foldl_append, hm]; rfl
    rw [em]
    have ml' : m.length ≤ 60 := by simp at ml; omega
    obtain ⟨lo, hi⟩ := s
    have p1 := putV_dict (S := [.ins "Points" [] [], .dict (alK m) (alV .bl m)]) (n := 1) (i := .int lo) (k := .inl lo) (d := .bl true) rfl rfl (by unfold alK sizeLine; simp; omega)
    rw [dput_al] at p1
    have l1 := alput_len m lo true
    cases hi with
    | none =>
      refine ⟨[some (.ref 0), some (.tup (ls.map Ln.d)), some sd, some (.ref 1), some (.int lo), some (hiD none), none, none, none, none], _, .inl ?_, rfl, _, _, rfl⟩
      rw [strD_put]
      simp [p1, gv_OPEN, addMark]
    | some k =>
      have p2 := putV_dict (S := [.ins "Points" [] [], .dict (alK (alput m lo true)) (alV .bl (alput m lo true))]) (n := 1) (i := .int k) (k := .inl k) (d := .bl true) rfl rfl (by unfold alK sizeLine; simp; omega)
      rw [dput_al] at p2
      refine ⟨[some (.ref 0), some (.tup (ls.map Ln.d)), some sd, some (.ref 1), some (.int lo), some (hiD (some k)), none, none, none, none], _, .inl ?_, rfl, _, _, rfl⟩
      rw [strD_put]
      have ek : hiD (some k) = .int k := rfl
      simp [p1, gv_OPEN, addMark]
      simp [ek, p2])
  clear hL
  obtain ⟨_, _, ml⟩ := met_keys (allStr ls ss) [(0, true)] (by simp)
  have hmm : metMarks (allStr ls ss) = (allStr ls ss).foldl addMark [(0, true)] := rfl
  rw [← hmm] at hX ml
  have bs := bSorted_al (S := [.ins "Points" [] [], .dict (alK (metMarks (allStr ls ss))) (alV .bl (metMarks (allStr ls ss)))]) (n := 1) (m := metMarks (allStr ls ss)) rfl (by simp at ml; omega)
  have hms : sortN ((metMarks (allStr ls ss)).map (·.1)) = marksOf (allStr ls ss) := rfl
  rw [hms] at bs
  generalize marksOf (allStr ls ss) = ms at *
  generalize hdm : Ob.dict (alK (metMarks (allStr ls ss))) (alV .bl (metMarks (allStr ls ss))) = dm at hX bs
  refine ⟨dm, ?_⟩
  simp [bs, putA, fput] at hX
  have en := enuR_mapL (S := [Ob.ins "Points" ["marks"] [marksD ms], dm]) (fun k : Nat => D.int k) ms
  have hml : ms.length ≤ 60 := by omega
  rw [attrV_ref (n := 0) rfl] at hX
  simp at hX
  rw [show marksD ms = D.lst (ms.map fun k : Nat => D.int k) from rfl] at hX en
  rw [en] at hX
  simp at hX
  have ld := loopD_al (A := Nat × Nat) (t := ⟨ms.zipIdx.map fun p => .tup [.int (p.2 : Nat), .int p.1], none, []⟩) (S := [Ob.ins "Points" ["marks"] [D.lst (ms.map fun k : Nat => D.int k)], dm]) rfl (body := turnDR (.many [8, 9]) none (fun v S => lk v 9 S) (fun v S => lk v 8 S) [some (.ref 0), some (.tup (ls.map Ln.d)), some sd, some (.ref 1), a4, a5, none, none, none, none]) (fun p => .tup [.int (p.2 : Nat), .int p.1]) id (fun k : Nat => D.int k) ms.zipIdx [] (fun p hp => turnDR_put rfl rfl rfl rfl) (by unfold sizeLine; simp; omega)
  have kz : ms.zipIdx.foldl (fun acc a => alput acc (id a).1 (id a).2) [] = ms.zipIdx := by
    have := foldl_alput_nodup ms.zipIdx [] (by
      rw [List.nil_append, ← List.unzip_fst, List.unzip_zipIdx_eq_prod]; exact mN)
    simpa using this
  rw [kz, alK_zipIdx, alV_zipIdx] at ld
  rw [show ((alK ([] : AL Nat), alV (fun k : Nat => D.int k) []) : List Key × List D) = ([], []) from rfl] at ld
  rw [ld] at hX
  clear ld en kz bs
  have po := putV_dict (S := [Ob.ins "Points" ["marks", "places"] [D.lst (ms.map fun k : Nat => D.int k), .ref 2], dm, .dict (ms.map fun k : Nat => .inl (k : Int)) ((List.range ms.length).map fun k : Nat => D.int k)]) (n := 2) (i := .str "open") (k := .inr "open") (d := .int (ms.length : Nat)) rfl rfl (by unfold sizeLine; simp; omega)
  rw [dput_open] at po
  simp [putA, fput, attrV, insD, gv_OPEN, po, rng1_nat (show ms.length < 2 ^ 60 by omega)] at hX
  rw [loopC_map rfl (fun k : Nat => D.int k) (fun k => (⟨k + 1, k, 0, none⟩ : Bd).d) (List.range ms.length) (fun k hk => by
    refine turnR_none (by simp) ?_
    have := r_Bound ⟨k + 1, k, 0, none⟩ [Ob.ins "Points" ["marks", "places"] [D.lst (ms.map fun k : Nat => D.int k), .ref 2], dm, .dict (placesK ms) (placesV ms)]
    simp [srcD] at this
    simp [this]) (by unfold sizeLine; simp; omega)] at hX
  have hst : [Ob.ins "Points" ["marks", "places", "held"] [D.lst (ms.map fun k : Nat => D.int k), .ref 2, .ref 3], dm, .dict (placesK ms) (placesV ms), .lst ((List.range ms.length).map fun k => (⟨k + 1, k, 0, none⟩ : Bd).d)] = stP ms dm (baseHeld ms.length) := by
    unfold stP insP baseHeld marksD
    simp
  simp [putA, fput] at hX
  rw [hst] at hX
  rw [enuR_map Ln.d ls] at hX
  simp at hX
  generalize hL : loopF _ _ _ _ _ = L at hX
  obtain ⟨v2, S2, rfl, rfl, b6, b7, rfl⟩ := loopF_genP (fun p v S => S = stP ms dm (baseHeld ms.length ++ (p.flatMap fun q : Ln × Nat => tellHeld ms q.1.lo q.1.hi q.1.f.b1 q.1.f.b2 (some q.2))) ∧ ∃ a6 a7, v = [some (.ref 0), some (.tup (ls.map Ln.d)), some sd, some (.ref 1), a4, a5, a6, a7, none, none]) hL rfl ⟨by simp, none, none, rfl⟩ (fun p q r v S e r' => by
    obtain ⟨rfl, a6, a7, rfl⟩ := r'
    obtain ⟨l, i⟩ := q
    have hlen : p.length ≤ 20 := by have := congrArg List.length e; simp at this; omega
    have hl : l ∈ ls := by
      have hm : (l, i) ∈ ls.zipIdx := by rw [← e]; simp
      have := List.mem_zipIdx' hm
      rw [this.2]; exact List.getElem_mem _
    have hst : (l.lo, l.hi) ∈ allStr ls ss := by
      unfold allStr
      exact List.mem_append_left _ (List.mem_map.mpr ⟨l, hl, rfl⟩)
    have m1 : l.lo ∈ ms := (mM l.lo).mpr (.inr ⟨_, hst, .inl rfl⟩)
    have m2 : ∀ k, l.hi = some k → k ∈ ms := fun k hk => (mM k).mpr (.inr ⟨_, hst, .inr hk⟩)
    have hfl : ∀ p : List (Ln × Nat), (p.flatMap fun q : Ln × Nat => tellHeld ms q.1.lo q.1.hi q.1.f.b1 q.1.f.b2 (some q.2)).length ≤ 2 * p.length := by
      intro p
      induction p with
      | nil => simp
      | cons a p ih =>
        simp only [List.flatMap_cons, List.length_append, List.length_cons]
        have : (tellHeld ms a.1.lo a.1.hi a.1.f.b1 a.1.f.b2 (some a.2)).length ≤ 2 := by unfold tellHeld; cases a.1.f.b2 <;> simp
        omega
    have hb := hfl p
    have ra := r_add (dm := dm) (hs := baseHeld ms.length ++ (p.flatMap fun q : Ln × Nat => tellHeld ms q.1.lo q.1.hi q.1.f.b1 q.1.f.b2 (some q.2))) mN (b1 := l.f.b1) (b2 := l.f.b2) (i := some i) m1 m2 (by
      rw [List.length_append]
      have : (baseHeld ms.length).length = ms.length := by simp [baseHeld]
      omega)
    refine ⟨[some (.ref 0), some (.tup (ls.map Ln.d)), some sd, some (.ref 1), a4, a5, some (.int i), some l.d, none, none], _, .inl ?_, rfl, _, _, rfl⟩
    simp only [idxD] at ra
    simp [Ln.d, at_add, ra])
  simp at hX
  rw [← hX]
  rfl

end K74
end

section
set_option Elab.async false
set_option linter.all false
set_option maxRecDepth 100000
set_option maxHeartbeats 4000000
namespace K74
open PySem L2 DV SX
theorem heldD_clo (hs : List Bd) : cloL (hs.map Bd.d) = true := cloL_map _ Bd.clo hs
theorem placesV_clo (ms : List Nat) : cloL (placesV ms) = true := by
  unfold placesV
  have : ∀ (l : List Nat), cloL ((l.map fun (k : Nat) => D.int (k : Nat)) ++ [.int (ms.length : Nat)]) = true := by
    intro l
    induction l with
    | nil => rfl
    | cons a l ih => simp only [List.map_cons, List.cons_append, cloL_cons, ih]; rfl
  exact this _
theorem marksD_clo (ms : List Nat) : (marksD ms).clo = true := cloL_map _ (fun _ => rfl) ms
theorem pointsD_clo (ms : List Nat) (hs : List Bd) : (pointsD ms hs).clo = true := by
  show ((marksD ms).clo && (cloL (placesV ms) && (cloL (hs.map Bd.d) && true))) = true
  rw [marksD_clo, placesV_clo, heldD_clo]; rfl
theorem fz_points {ms : List Nat} {dm : Ob} {hs : List Bd} : fz 8 (stP ms dm hs) (.ref 0) = some (pointsD ms hs) :=
  fz_refI (n := 7) (k := 0) rfl (fzL_cons (fz_clo (n := 6) (marksD_clo ms)) (fzL_cons (fz_refD (n := 5) (k := 2) rfl (placesV_clo ms)) (fzL_cons (fz_refL (n := 5) (k := 3) rfl (heldD_clo hs)) rfl)))
theorem r_Points {ls : List Ln} (hn : ls.length ≤ 20) (S : Sto) : makeR "Points" ci_Points fi_Points___init__ [toldD ls] S = .ok (pointsD (marksOf (allStr ls [])) (heldOf (marksOf (allStr ls [])) ls)) S := by
  obtain ⟨dm, e⟩ := run_Points (ls := ls) (ss := []) (sd := .tup []) (by simpa using hn) (.inl rfl)
  refine makeR_rec (S' := stP (marksOf (allStr ls [])) dm (heldOf (marksOf (allStr ls [])) ls)) (as := [toldD ls, .tup []]) rfl rfl rfl (by rw [cloL_cons, toldD_clo]; rfl) ?_ fz_points
  rw [run_Points___init__]
  exact e
@[simp] theorem at_marksC {S : Sto} {ms : List Nat} {hs : List Bd} : attrV clsF S "marks" (pointsD ms hs) = some (.inl (marksD ms)) := by simp [pointsD]
@[simp] theorem at_heldC {S : Sto} {ms : List Nat} {hs : List Bd} : attrV clsF S "held" (pointsD ms hs) = some (.inl (.lst (hs.map Bd.d))) := by simp [pointsD]
theorem r_size {ms : List Nat} {hs : List Bd} (S : Sto) : runF fi_Points_size [pointsD ms hs] S = .ok (.int ((ms.length + 1 : Nat) : Int)) S := by
  refine runF_pure (S' := []) rfl rfl (by rw [cloL_cons, pointsD_clo]; rfl) ?_ rfl
  rw [run_Points_size]
  simp [s_Points_size, marksD]

end K74
end

section
set_option Elab.async false
set_option linter.all false
set_option maxRecDepth 100000
set_option maxHeartbeats 4000000
namespace K74
open PySem L2 DV SX
@[simp] theorem bd_lo {S : Sto} {b : Bd} : attrV clsF S "low" b.d = some (.inl (.int b.lo)) := by simp [Bd.d]
@[simp] theorem bd_hi {S : Sto} {b : Bd} : attrV clsF S "high" b.d = some (.inl (.int b.hi)) := by simp [Bd.d]
@[simp] theorem bd_most {S : Sto} {b : Bd} : attrV clsF S "most" b.d = some (.inl (.int b.most)) := by simp [Bd.d]
@[simp] theorem w_costs {bg : D} {st : WSt} {hr : Nat} {hs : List Ob} : attrV clsF (stW bg st hr hs) "costs" (.ref 0) = some (.inl (.ref 1)) := by simp [attrV, insD, stW]
@[simp] theorem w_last {bg : D} {st : WSt} {hr : Nat} {hs : List Ob} : attrV clsF (stW bg st hr hs) "last" (.ref 0) = some (.inl (.ref 2)) := by simp [attrV, insD, stW]
@[simp] theorem w_helped {bg : D} {st : WSt} {hr : Nat} {hs : List Ob} : attrV clsF (stW bg st hr hs) "helped" (.ref 0) = some (.inl (.ref hr)) := by simp [attrV, insD, stW]
theorem w_in {bg : D} {st : WSt} {hr : Nat} {hs : List Ob} {k : Nat} : cmpF .In (stW bg st hr hs) (.int k) (.ref 1) = some (alget st.costs k).isSome := by
  rw [cmpIn_dict (ks := alK st.costs) (xs := alV .int st.costs) (k := .inl k) rfl rfl (fun z e => by cases e), dlook_al]
  cases alget st.costs k <;> rfl
theorem w_notin {bg : D} {st : WSt} {hr : Nat} {hs : List Ob} {k : Nat} : cmpF .NotIn (stW bg st hr hs) (.int k) (.ref 1) = some (!(alget st.costs k).isSome) := by
  rw [cmpNotIn_dict (ks := alK st.costs) (xs := alV .int st.costs) (k := .inl k) rfl rfl (fun z e => by cases e), dlook_al]
  cases alget st.costs k <;> rfl
theorem w_get {bg : D} {st : WSt} {hr : Nat} {hs : List Ob} {k : Nat} {c : Int} (h : alget st.costs k = some c) : getF (stW bg st hr hs) (.ref 1) (.int k) = some (.int c) := by
  rw [getF_dict (ks := alK st.costs) (xs := alV .int st.costs) (k := .inl k) rfl rfl, dlook_al, h]; rfl
theorem w_put {bg : D} {st : WSt} {hr : Nat} {hs : List Ob} {k : Nat} {c : Int} (hl : st.costs.length < 100000) : putV (.ref 1) (.int k) (.int c) (stW bg st hr hs) = some (stW bg ⟨alput st.costs k c, st.last⟩ hr hs) := by
  rw [putV_dict (ks := alK st.costs) (xs := alV .int st.costs) (k := .inl k) rfl rfl (by unfold alK sizeLine; simp; omega), dput_al]; rfl
theorem w_putL {bg : D} {st : WSt} {hr : Nat} {hs : List Ob} {k : Nat} {b : Bd} (hl : st.last.length < 100000) : putV (.ref 2) (.int k) b.d (stW bg st hr hs) = some (stW bg ⟨st.costs, alput st.last k b⟩ hr hs) := by
  rw [putV_dict (ks := alK st.last) (xs := alV Bd.d st.last) (k := .inl k) rfl rfl (by unfold alK sizeLine; simp; omega), dput_al]; rfl
theorem r_is_better {bg : D} {st : WSt} {hr : Nat} {hs : List Ob} {b : Bd} (h1 : st.costs.length < 10000) (h2 : st.last.length < 10000) :
    runF fi_Ways_is_better [.ref 0, b.d] (stW bg st hr hs) = .ok (.bl (better st b).isSome) (stW bg ((better st b).getD st) hr hs) := by
  refine runF_raw rfl rfl ?_ (fun _ e => by cases e)
  rw [run_Ways_is_better]
  unfold better
  cases e1 : alget st.costs b.lo with
  | none => simp [s_Ways_is_better, w_notin, e1]
  | some c =>
    cases e2 : alget st.costs b.hi with
    | none =>
      have p1 := w_put (bg := bg) (st := st) (hr := hr) (hs := hs) (k := b.hi) (c := c + b.most) (by omega)
      have p2 := w_putL (bg := bg) (st := ⟨alput st.costs b.hi (c + b.most), st.last⟩) (hr := hr) (hs := hs) (k := b.hi) (b := b) (by show st.last.length < _; omega)
      simp [s_Ways_is_better, w_notin, w_in, e1, e2, w_get e1, p1, p2]
    | some d =>
      by_cases hd : d ≤ c + b.most
      · simp [s_Ways_is_better, w_notin, w_in, e1, e2, w_get e1, w_get e2, hd]
      · have p1 := w_put (bg := bg) (st := st) (hr := hr) (hs := hs) (k := b.hi) (c := c + b.most) (by omega)
        have p2 := w_putL (bg := bg) (st := ⟨alput st.costs b.hi (c + b.most), st.last⟩) (hr := hr) (hs := hs) (k := b.hi) (b := b) (by show st.last.length < _; omega)
        simp [s_Ways_is_better, w_notin, w_in, e1, e2, w_get e1, w_get e2, hd, p1, p2]

end K74
end

section
set_option Elab.async false
set_option linter.all false
set_option maxRecDepth 100000
set_option maxHeartbeats 4000000
namespace K74
open PySem L2 DV SX
def initW (n : Nat) : Option Nat → AL Int
  | none => (List.range n).map fun k => (k, 0)
  | some k => [(k, 0)]
def bgD : Option Nat → D
  | none => .non
  | some k => .int k
theorem me_size : meOk G_Ways___init__ "Points" "size" = some fi_Points_size := by kernel_rfl
theorem at_size {ms : List Nat} {hs : List Bd} {A : Sto → Res (List D)} {S : Sto} : atR G_Ways___init__ "size" A (pointsD ms hs) S = (A S).bind fun ds S2 => runF fi_Points_size (pointsD ms hs :: ds) S2 :=
  atR_obj (by decide +kernel) (by decide +kernel) me_size
theorem me_better : meOk G_Ways___init__ "Ways" "is_better" = some fi_Ways_is_better := by kernel_rfl
theorem at_better {bg : D} {st : WSt} {hr : Nat} {hs : List Ob} {A : Sto → Res (List D)} : atR G_Ways___init__ "is_better" A (.ref 0) (stW bg st hr hs) = (A (stW bg st hr hs)).bind fun ds S2 => runF fi_Ways_is_better (.ref 0 :: ds) S2 :=
  atR_ins (S := stW bg st hr hs) (n := 0) rfl (by decide +kernel) (by decide +kernel) me_better
theorem pass1_len (x : WSt × List Bd) (b : Bd) : (pass1 x b).1.costs.length ≤ x.1.costs.length + 1 ∧ (pass1 x b).1.last.length ≤ x.1.last.length + 1 := by
  unfold pass1
  cases h : better x.1 b with
  | none => exact ⟨by simp, by simp⟩
  | some st => exact better_len h
theorem passes_len : ∀ (l : List Bd) (x : WSt × List Bd), (l.foldl pass1 x).1.costs.length ≤ x.1.costs.length + l.length ∧ (l.foldl pass1 x).1.last.length ≤ x.1.last.length + l.length
  | [], x => ⟨by simp, by simp⟩
  | b :: l, x => by
    have h1 := pass1_len x b
    have h2 := passes_len l (pass1 x b)
    simp only [List.foldl_cons, List.length_cons]
    omega
theorem stW_push {bg : D} {st : WSt} {hr : Nat} {hs : List Ob} {o : Ob} : stW bg st hr hs ++ [o] = stW bg st hr (hs ++ [o]) := rfl
theorem stW_len {bg : D} {st : WSt} {hr : Nat} {hs : List Ob} : (stW bg st hr hs).length = 3 + hs.length := by unfold stW; simp; omega
theorem stW_at {bg : D} {st : WSt} {hr : Nat} {hs : List Ob} {o : Ob} : (stW bg st hr (hs ++ [o]))[3 + hs.length]? = some o := by
  unfold stW
  rw [show 3 + hs.length = hs.length + 1 + 1 + 1 by omega]
  simp
/-- one turn's comprehension -/
theorem turn_comp {bg : D} {hr : Nat} {hs : List Ob} {ms : List Nat} {held : List Bd} {st : WSt} {w : Slots} (hw : ∃ w1 w2 w3 w4 w5, w = [some (.ref 0), w1, w2, w3, w4, w5, none]) (hl : held.length ≤ 90) (h1 : st.costs.length ≤ 8000) (h2 : st.last.length ≤ 8000) :
    loopC (turnR (.one 6) (some fun v S => truR (meR G_Ways___init__ "is_better" (lk v 0 S) fun S => (consR (lk v 6 S) fun S => .ok [] S))) (fun v S => (lk v 6 S)) w) ⟨held.map Bd.d, none, []⟩ (held.map Bd.d) [] (stW bg st hr hs) = .ok ((pass held st).2.map Bd.d) (stW bg (pass held st).1 hr hs) := by
  obtain ⟨w1, w2, w3, w4, w5, rfl⟩ := hw
  generalize hL : loopC _ _ _ _ _ = L
  obtain ⟨acc, S', rfl, rfl, rfl⟩ := loopC_genP (fun p acc S => S = stW bg (p.foldl pass1 (st, [])).1 hr hs ∧ acc = (p.foldl pass1 (st, [])).2.map Bd.d) hL rfl ⟨rfl, rfl⟩ (by unfold sizeLine; omega) (fun p b q acc S e r => by
    obtain ⟨rfl, rfl⟩ := r
    have hp : p.length ≤ 90 := by have := congrArg List.length e; simp at this; omega
    have hlen := passes_len p (st, [])
    rw [List.foldl_append]
    generalize p.foldl pass1 (st, []) = x at hlen
    obtain ⟨x1, x2⟩ := x
    have hb := r_is_better (bg := bg) (st := x1) (hr := hr) (hs := hs) (b := b) (by simp at hlen; omega) (by simp at hlen; omega)
    refine ⟨if (better x1 b).isSome then some b.d else none, stW bg ((better x1 b).getD x1) hr hs, ?_, ?_, ?_⟩
    · refine turnR_testS (b := (better x1 b).isSome) rfl ?_ fun _ => ?_
      · simp [at_better, hb]
      · simp
    · show _ = stW bg (pass1 (x1, x2) b).1 hr hs
      unfold pass1
      cases better x1 b <;> rfl
    · show _ = (pass1 (x1, x2) b).2.map Bd.d
      unfold pass1
      cases better x1 b <;> simp)
  rfl
theorem run_Ways {ms : List Nat} {held : List Bd} {bg : Option Nat} (hm : ms.length ≤ 60) (hl : held.length ≤ 90) :
    ∃ st h hr hs, runW held (ms.length + 2) ⟨initW (ms.length + 1) bg, []⟩ [] = (st, h) ∧ (stW (bgD bg) st hr hs)[hr]? = some (.lst (h.map Bd.d)) ∧ s_Ways___init__ [.ref 0, pointsD ms held, bgD bg] [.ins "Ways" [] []] = .ok .non (stW (bgD bg) st hr hs) := by
  generalize hX : s_Ways___init__ [.ref 0, pointsD ms held, bgD bg] [.ins "Ways" [] []] = X
  have sz := r_size (ms := ms) (hs := held)
  have hbn : ∀ n, bgD bg ≠ .ref n := fun n e => by cases bg <;> cases e
  have ec : (ms.length : Int) + 1 = ((ms.length + 1 : Nat) : Int) := by omega
  have e0 : ∀ S : Sto, (ifR (Res.opt S (cmpF .Is S (bgD bg) .non)) (fun S => (allocR (dcR (compDR (rng1 (.ok [.int ((ms.length : Int) + 1)] S)) (turnDR (.one 5) none (fun v S => (lk v 5 S)) (fun v S => (.ok (.int 0) S)) [some (.ref 0), some (pointsD ms held), some (bgD bg), some (.int ((ms.length : Int) + 1)), none, none, none]))))) fun S => (allocR (dispR (kvR2 (bgD bg) (.ok (.int 0) S) fun S => .ok [] S)))) = .ok (.ref S.length) (S ++ [.dict (alK (initW (ms.length + 1) bg)) (alV .int (initW (ms.length + 1) bg))]) := fun S => by
    rw [ec]
    cases bg with
    | some k =>
      have eis : cmpF .Is S (bgD (some k)) .non = some false := rfl
      simp only [eis, opt_some, ifR_ok, Bool.false_eq_true, if_false]
      simp [bgD, initW, alK, alV]
    | none =>
      have ld := loopD_al (A := Nat) (t := ⟨(List.range (ms.length + 1)).map fun k : Nat => D.int k, none, []⟩) (S := S) rfl (body := turnDR (.one 5) none (fun v S => lk v 5 S) (fun v S => .ok (.int 0) S) [some (.ref 0), some (pointsD ms held), some (bgD none), some (.int ((ms.length + 1 : Nat) : Int)), none, none, none]) (fun k => D.int k) (fun k => (k, (0 : Int))) D.int (List.range (ms.length + 1)) [] (fun k hk => turnDR_put rfl rfl rfl rfl) (by unfold sizeLine; simp; omega)
      have kz : (List.range (ms.length + 1)).foldl (fun acc a => alput acc (a, (0 : Int)).1 (a, (0 : Int)).2) [] = (List.range (ms.length + 1)).map fun k => (k, (0 : Int)) := by
        have := foldl_alput_nodup ((List.range (ms.length + 1)).map fun k => (k, (0 : Int))) [] (by
          rw [List.nil_append, List.map_map]
          have : (Prod.fst ∘ fun k : Nat => (k, (0 : Int))) = id := rfl
          rw [this, List.map_id]
          exact List.nodup_range)
        rw [List.foldl_map] at this
        simpa using this
      rw [kz] at ld
      rw [show ((alK ([] : AL Int), alV D.int []) : List Key × List D) = ([], []) from rfl] at ld
      have eis : cmpF .Is S (bgD none) .non = some true := rfl
      simp only [eis, opt_some, ifR_ok, if_true]
      rw [rng1_nat (by omega)]
      simp only [compDR_ok, ld, dcR_ok, allocR_ok]
      rfl
  simp only [s_Ways___init__, wipeD] at hX
  simp [at_size, sz, putA, fput] at hX
  rw [e0] at hX
  simp [putA, fput] at hX
  have hst : [Ob.ins "Ways" ["begin", "costs", "last", "helped"] [bgD bg, .ref 1, .ref 2, .ref 3], .dict (alK (initW (ms.length + 1) bg)) (alV .int (initW (ms.length + 1) bg)), .dict [] [], .lst []] = stW (bgD bg) ⟨initW (ms.length + 1) bg, []⟩ 3 ([] ++ [.lst ([].map Bd.d)]) := rfl
  rw [hst] at hX
  rw [show (ms.length : Int) + 1 + 1 = ((ms.length + 2 : Nat) : Int) by omega, rng1_nat (show ms.length + 2 < 2 ^ 60 by omega)] at hX
  simp at hX
  have hi0 : (initW (ms.length + 1) bg).length ≤ 61 := by cases bg <;> simp [initW]; omega
  generalize hN : ms.length + 2 = N at *
  generalize hs0 : (⟨initW (ms.length + 1) bg, []⟩ : WSt) = st0 at *
  have hc0 : st0.costs.length ≤ 61 ∧ st0.last.length = 0 := by rw [← hs0]; exact ⟨hi0, rfl⟩
  generalize hL : loopF _ _ _ _ _ = L at hX
  obtain ⟨v1, S1, rfl, fin⟩ := loopF_genB (fun p v S => ∃ st h hs, S = stW (bgD bg) st (3 + hs.length) (hs ++ [.lst (h.map Bd.d)]) ∧ runW held N st0 [] = runW held (N - p.length) st h ∧ st.costs.length ≤ 61 + 90 * p.length ∧ st.last.length ≤ 90 * p.length ∧ ∃ a4, v = [some (.ref 0), some (pointsD ms held), some (bgD bg), some (.int ((ms.length : Int) + 1)), a4, none, none])
    (fun v S => ∃ st hs, S = stW (bgD bg) st (3 + hs.length) (hs ++ [.lst []]) ∧ runW held N st0 [] = (st, [])) hL rfl
    ⟨st0, [], [], rfl, rfl, by have := hc0.1; simp; omega, by rw [hc0.2]; exact Nat.zero_le _, none, rfl⟩ (fun p a q v S e r => by
      obtain ⟨st, h, hs, rfl, hrun, hc, hla, a4, rfl⟩ := r
      have hp : p.length + 1 + q.length = N := by
        have := congrArg List.length e
        simp at this; omega
      have hp2 : p.length ≤ 61 := by omega
      have tc := turn_comp (bg := bgD bg) (hr := 3 + hs.length) (hs := hs ++ [.lst (h.map Bd.d)]) (ms := ms) (held := held) (st := st) (w := [some (.ref 0), some (pointsD ms held), some (bgD bg), some (.int ((ms.length : Int) + 1)), some (.int a), none, none]) ⟨_, _, _, _, _, rfl⟩ hl (by omega) (by omega)
      have hlen := passes_len held (st, [])
      have hst' : (pass held st).1.costs.length ≤ st.costs.length + held.length ∧ (pass held st).1.last.length ≤ st.last.length + held.length := hlen
      have hrun2 : runW held (N - p.length) st h = if (pass held st).2 = [] then ((pass held st).1, []) else runW held (N - (p.length + 1)) (pass held st).1 (pass held st).2 := by
        rw [show N - p.length = (N - (p.length + 1)) + 1 by omega]; rfl
      generalize pass held st = x at *
      obtain ⟨st2, h2⟩ := x
      have put : ∀ o : Ob, putA clsF (.ref 0) "helped" (.ref (3 + (hs ++ [Ob.lst (h.map Bd.d)]).length)) (stW (bgD bg) st2 (3 + hs.length) (hs ++ [.lst (h.map Bd.d)] ++ [o])) = some (stW (bgD bg) st2 (3 + (hs ++ [Ob.lst (h.map Bd.d)]).length) (hs ++ [.lst (h.map Bd.d)] ++ [o])) := fun o => by
        simp [putA, fput, stW]
      have bl := boLen_ref (G := G_Ways___init__) (S := stW (bgD bg) st2 (3 + (hs ++ [Ob.lst (h.map Bd.d)]).length) (hs ++ [.lst (h.map Bd.d)] ++ [.lst (h2.map Bd.d)])) (n := 3 + (hs ++ [Ob.lst (h.map Bd.d)]).length) (xs := h2.map Bd.d) stW_at
      have hlenS : (stW (bgD bg) st2 (3 + hs.length) (hs ++ [Ob.lst (h.map Bd.d)])).length = 3 + (hs ++ [Ob.lst (h.map Bd.d)]).length := stW_len
      generalize hs ++ [Ob.lst (h.map Bd.d)] = hs1 at *
      by_cases hh : h2 = []
      · subst hh
        refine .inr ⟨[some (.ref 0), some (pointsD ms held), some (bgD bg), some (.int ((ms.length : Int) + 1)), some (.int a), none, none], stW (bgD bg) st2 (3 + hs1.length) (hs1 ++ [.lst []]), ?_, st2, hs1, rfl, by rw [hrun, hrun2]; rfl⟩
        simp only [List.map_nil] at tc bl
        simp [tc, hlenS, put (.lst []), stW_push, bl]
      · refine .inl ⟨[some (.ref 0), some (pointsD ms held), some (bgD bg), some (.int ((ms.length : Int) + 1)), some (.int a), none, none], stW (bgD bg) st2 (3 + hs1.length) (hs1 ++ [.lst (h2.map Bd.d)]), .inl ?_, st2, h2, hs1, rfl, by rw [hrun, hrun2, if_neg hh]; simp, by simp at hst' ⊢; omega, by simp at hst' ⊢; omega, _, rfl⟩
        have hne : ¬ h2.length = 0 := fun z => hh (List.eq_nil_of_length_eq_zero z)
        simp [tc, hlenS, put (.lst (h2.map Bd.d)), stW_push, bl, hne])
  simp at hX
  rcases fin with ⟨st, h, hs, rfl, hrun, _⟩ | ⟨st, hs, rfl, hrun⟩
  · refine ⟨st, h, 3 + hs.length, hs ++ [.lst (h.map Bd.d)], ?_, stW_at, hX.symm⟩
    rw [hrun]
    simp [runW]
  · exact ⟨st, [], 3 + hs.length, hs ++ [.lst []], hrun, stW_at, hX.symm⟩

end K74
end

section
set_option Elab.async false
set_option linter.all false
set_option maxRecDepth 100000
set_option maxHeartbeats 4000000
namespace K74
open PySem L2 DV SX
@[simp] theorem wc_costs {S : Sto} {bg : D} {st : WSt} {h : List Bd} : attrV clsF S "costs" (waysD bg st h) = some (.inl (.dict (alK st.costs) (alV .int st.costs))) := by simp [waysD]
@[simp] theorem wc_last {S : Sto} {bg : D} {st : WSt} {h : List Bd} : attrV clsF S "last" (waysD bg st h) = some (.inl (.dict (alK st.last) (alV Bd.d st.last))) := by simp [waysD]
@[simp] theorem wc_helped {S : Sto} {bg : D} {st : WSt} {h : List Bd} : attrV clsF S "helped" (waysD bg st h) = some (.inl (.lst (h.map Bd.d))) := by simp [waysD]
theorem alV_clo {A : Type} (g : A → D) (hg : ∀ a, (g a).clo = true) (l : AL A) : cloL (alV g l) = true := cloL_map (fun p : Nat × A => g p.2) (fun p => hg p.2) l
theorem waysD_clo {bg : Option Nat} {st : WSt} {h : List Bd} : (waysD (bgD bg) st h).clo = true := by
  show ((bgD bg).clo && (cloL (alV D.int st.costs) && (cloL (alV Bd.d st.last) && (cloL (h.map Bd.d) && true)))) = true
  rw [alV_clo _ (fun _ => rfl), alV_clo _ Bd.clo, heldD_clo]
  cases bg <;> rfl
theorem r_Ways {ms : List Nat} {held : List Bd} {bg : Option Nat} (hm : ms.length ≤ 60) (hl : held.length ≤ 90) (S : Sto) :
    ∃ st h, runW held (ms.length + 2) ⟨initW (ms.length + 1) bg, []⟩ [] = (st, h) ∧ makeR "Ways" ci_Ways fi_Ways___init__ [pointsD ms held, bgD bg] S = .ok (waysD (bgD bg) st h) S := by
  obtain ⟨st, h, hr, hs, e1, e2, e3⟩ := run_Ways (bg := bg) hm hl
  refine ⟨st, h, e1, ?_⟩
  have hb : (bgD bg).clo = true := by cases bg <;> rfl
  refine makeR_rec (S' := stW (bgD bg) st hr hs) (fill_self rfl) rfl rfl (by rw [cloL_cons, pointsD_clo, cloL_cons, hb]; rfl) ?_ ?_
  · rw [run_Ways___init__]; exact e3
  · exact fz_refI (n := 7) (k := 0) rfl (fzL_cons (fz_clo (n := 6) hb) (fzL_cons (fz_refD (n := 5) (k := 1) rfl (alV_clo _ (fun _ => rfl) _)) (fzL_cons (fz_refD (n := 5) (k := 2) rfl (alV_clo _ Bd.clo _)) (fzL_cons (fz_refL (n := 5) e2 (heldD_clo h)) rfl))))
theorem get_last {S : Sto} {st : WSt} {k : Nat} {b : Bd} (h : alget st.last k = some b) : getF S (.dict (alK st.last) (alV Bd.d st.last)) (.int k) = some b.d := by
  rw [getF_dictC (k := .inl k) rfl, dlook_al, h]; rfl
theorem get_cost {S : Sto} {st : WSt} {k : Nat} {c : Int} (h : alget st.costs k = some c) : getF S (.dict (alK st.costs) (alV D.int st.costs)) (.int k) = some (.int c) := by
  rw [getF_dictC (k := .inl k) rfl, dlook_al, h]; rfl
theorem r_ring_none {bg : Option Nat} {st : WSt} (S : Sto) : runF fi_Ways_ring [waysD (bgD bg) st []] S = .ok .non S := by
  refine runF_pure (S' := []) rfl rfl (by rw [cloL_cons, waysD_clo]; rfl) ?_ rfl
  rw [run_Ways_ring]
  simp [s_Ways_ring]
theorem r_ring {n : Nat} {bg : Option Nat} {st : WSt} {b0 : Bd} {r : List Bd} (hn : n ≤ 1000) (hw : ∀ j, j ≤ n → walkB st.last b0.hi j < n ∧ ∃ b, alget st.last (walkB st.last b0.hi j) = some b) (S : Sto) :
    ∃ fs : List Bd, runF fi_Ways_ring [waysD (bgD bg) st (b0 :: r)] S = .ok (.lst (fs.map Bd.d)) S := by
  have step : ∀ j, j ≤ n → ∃ b, alget st.last (walkB st.last b0.hi j) = some b ∧ walkB st.last b0.hi (j + 1) = b.lo := fun j hj => by
    obtain ⟨_, b, hb⟩ := hw j hj
    refine ⟨b, hb, ?_⟩
    show (match alget st.last (walkB st.last b0.hi j) with | some b => b.lo | none => 0) = _
    rw [hb]
  have main : ∃ (fs : List Bd) (S' : Sto), s_Ways_ring [waysD (bgD bg) st (b0 :: r)] [] = .ok (.ref 1) S' ∧ S'[1]? = some (.lst (fs.map Bd.d)) := by
    generalize hX : s_Ways_ring [waysD (bgD bg) st (b0 :: r)] [] = X
    have hne : ¬ ((r.length : Int) + 1 = 0) := by omega
    simp [s_Ways_ring, hne] at hX
    generalize hL : loopW _ _ _ _ _ = L at hX
    obtain ⟨j, v1, S1, rfl, ⟨hj, hnd, rfl, rfl⟩, hst⟩ := loopW_gen (T := Nat) (fun j v S => j ≤ n ∧ ((List.range j).map (walkB st.last b0.hi)).Nodup ∧ v = [some (waysD (bgD bg) st (b0 :: r)), some (.int (walkB st.last b0.hi j : Nat)), some (.ref 0), none, none] ∧ S = [.lst (((List.range j).map (walkB st.last b0.hi)).map fun k : Nat => .int k)])
      (fun j => n - j) (fun j => decide (walkB st.last b0.hi j ∈ (List.range j).map (walkB st.last b0.hi))) (fun j => j + 1) 0 hL ⟨Nat.zero_le _, by simp, rfl, rfl⟩ (by unfold WW; omega)
      (fun j v S r' => by
        obtain ⟨hj, hnd, rfl, rfl⟩ := r'
        have := notin_nums (S := [.lst (((List.range j).map (walkB st.last b0.hi)).map fun k : Nat => .int k)]) (n := 0) (a := walkB st.last b0.hi j) rfl
        simp only [lk_succ, lk_zero, cmpR_ok, cmpR2_ok, this, opt_some])
      (fun j v S r' hs => by
        obtain ⟨hj, hnd, rfl, rfl⟩ := r'
        have hs' : walkB st.last b0.hi j ∉ (List.range j).map (walkB st.last b0.hi) := of_decide_eq_false hs
        have hnd2 : ((List.range (j + 1)).map (walkB st.last b0.hi)).Nodup := by
          rw [List.range_succ, List.map_append, List.nodup_append]
          refine ⟨hnd, by simp, fun a ha b hb e => ?_⟩
          have : b = walkB st.last b0.hi j := by simpa using hb
          exact hs' (by rw [← this, ← e]; exact ha)
        have hlt : j + 1 ≤ n := by
          have := nodup_lt n _ hnd2 (fun x hx => by
            obtain ⟨i, hi, rfl⟩ := List.mem_map.mp hx
            exact (hw i (by have := List.mem_range.mp hi; omega)).1)
          simpa using this
        obtain ⟨b, hb1, hb2⟩ := step j hj
        have ap := methL_append (xs := ((List.range j).map (walkB st.last b0.hi)).map fun k : Nat => D.int k) (d := .int (walkB st.last b0.hi j : Nat)) (by simp; unfold sizeLine; omega)
        have e1 : (((List.range j).map (walkB st.last b0.hi)).map fun k : Nat => D.int k) ++ [.int (walkB st.last b0.hi j : Nat)] = ((List.range (j + 1)).map (walkB st.last b0.hi)).map fun k : Nat => D.int k := by rw [List.range_succ]; simp
        rw [e1] at ap
        refine ⟨[some (waysD (bgD bg) st (b0 :: r)), some (.int (walkB st.last b0.hi (j + 1) : Nat)), some (.ref 0), none, none], [.lst (((List.range (j + 1)).map (walkB st.last b0.hi)).map fun k : Nat => .int k)], ?_, ⟨hlt, hnd2, rfl, rfl⟩, by show n - (j + 1) < n - j; omega⟩
        rw [hb2]
        generalize ((List.range (j + 1)).map (walkB st.last b0.hi)).map (fun k : Nat => D.int k) = sn' at *
        generalize ((List.range j).map (walkB st.last b0.hi)).map (fun k : Nat => D.int k) = sn at *
        simp [atR_lstS (S := [.lst sn]) (n := 0) (xs0 := sn) rfl, atL_ok (S2 := [.lst sn]) (n := 0) (xs := sn) rfl, ap, get_last hb1])
    clear hL
    obtain ⟨i, hi, hij⟩ := List.mem_map.mp (of_decide_eq_true hst)
    have hi : i < j := List.mem_range.mp hi
    obtain ⟨b, hb1, hb2⟩ := step j hj
    have hlo : b.lo = walkB st.last b0.hi (i + 1) := by
      obtain ⟨b', hb1', hb2'⟩ := step i (by omega)
      rw [hij, hb1] at hb1'
      cases hb1'
      exact hb2'.symm
    generalize ((List.range j).map (walkB st.last b0.hi)).map (fun k : Nat => D.int k) = sn at hX
    simp [get_last hb1] at hX
    rw [hlo] at hX
    generalize hL : loopW _ _ _ _ _ = L at hX
    obtain ⟨m, v2, S2, rfl, ⟨hm1, hm2, rfl, fs, rfl, _⟩, hst2⟩ := loopW_gen (T := Nat) (fun m v S => i + 1 ≤ m ∧ m ≤ j ∧ v = [some (waysD (bgD bg) st (b0 :: r)), some (.int (walkB st.last b0.hi j : Nat)), some (.ref 0), some (.ref 1), some (.int (walkB st.last b0.hi m : Nat))] ∧ ∃ fs : List Bd, S = [.lst sn, .lst (fs.map Bd.d)] ∧ fs.length ≤ m)
      (fun m => j - m) (fun m => decide (walkB st.last b0.hi m = walkB st.last b0.hi j)) (fun m => m + 1) (i + 1) hL ⟨Nat.le_refl _, hi, rfl, [b], rfl, by simp⟩ (by unfold WW; omega)
      (fun m v S r' => by
        obtain ⟨h1, h2, rfl, fs, rfl, hfl⟩ := r'
        simp
        by_cases e : walkB st.last b0.hi m = walkB st.last b0.hi j
        · simp [e]
        · simp [e]; omega)
      (fun m v S r' hs => by
        obtain ⟨h1, h2, rfl, fs, rfl, hfl⟩ := r'
        have hs' : walkB st.last b0.hi m ≠ walkB st.last b0.hi j := of_decide_eq_false hs
        have hmj : m ≠ j := fun e => hs' (by rw [e])
        obtain ⟨b', hb1', hb2'⟩ := step m (by omega)
        have ap := methL_append (xs := fs.map Bd.d) (d := b'.d) (by simp; unfold sizeLine; omega)
        have e1 : fs.map Bd.d ++ [b'.d] = (fs ++ [b']).map Bd.d := by simp
        rw [e1] at ap
        refine ⟨[some (waysD (bgD bg) st (b0 :: r)), some (.int (walkB st.last b0.hi j : Nat)), some (.ref 0), some (.ref 1), some (.int (walkB st.last b0.hi (m + 1) : Nat))], [.lst sn, .lst ((fs ++ [b']).map Bd.d)], ?_, ⟨by omega, by omega, rfl, fs ++ [b'], rfl, by simp; omega⟩, by show j - (m + 1) < j - m; omega⟩
        rw [hb2']
        generalize (fs ++ [b']).map Bd.d = f2 at *
        generalize fs.map Bd.d = f1 at *
        simp [atR_lstS (S := [.lst sn, .lst f1]) (n := 1) (xs0 := f1) rfl, atL_ok (S2 := [.lst sn, .lst f1]) (n := 1) (xs := f1) rfl, ap, get_last hb1'])
    simp at hX
    exact ⟨fs, [.lst sn, .lst (fs.map Bd.d)], hX.symm, rfl⟩
  obtain ⟨fs, S', e1, e2⟩ := main
  refine ⟨fs, runF_pureZ (S' := S') rfl rfl (by rw [cloL_cons, waysD_clo]; rfl) (by rw [run_Ways_ring]; exact e1) (fz_refL (n := 6) e2 (heldD_clo fs))⟩

end K74
end

section
set_option Elab.async false
set_option linter.all false
set_option maxRecDepth 100000
set_option maxHeartbeats 4000000
namespace K74
open PySem L2 DV SX
/-- the bound by which the walk's place was bettered last -/
def lastB (st : WSt) (v t : Nat) : Bd := match alget st.last (walkB st.last v t) with
  | some b => b
  | none => ⟨0, 0, 0, none⟩
theorem r_ring_full {n : Nat} {bg : Option Nat} {st : WSt} {b0 : Bd} {r : List Bd} (hn : n ≤ 1000) (hw : ∀ j, j ≤ n → walkB st.last b0.hi j < n ∧ ∃ b, alget st.last (walkB st.last b0.hi j) = some b) (S : Sto) :
    ∃ i j, i < j ∧ j ≤ n ∧ walkB st.last b0.hi i = walkB st.last b0.hi j ∧ ((List.range j).map (walkB st.last b0.hi)).Nodup ∧ runF fi_Ways_ring [waysD (bgD bg) st (b0 :: r)] S = .ok (.lst (((List.range' i (j - i)).map (lastB st b0.hi)).map Bd.d)) S := by
  have step : ∀ j, j ≤ n → ∃ b, alget st.last (walkB st.last b0.hi j) = some b ∧ walkB st.last b0.hi (j + 1) = b.lo := fun j hj => by
    obtain ⟨_, b, hb⟩ := hw j hj
    refine ⟨b, hb, ?_⟩
    show (match alget st.last (walkB st.last b0.hi j) with | some b => b.lo | none => 0) = _
    rw [hb]
  have lb : ∀ t b, alget st.last (walkB st.last b0.hi t) = some b → lastB st b0.hi t = b := fun t b h => by unfold lastB; rw [h]
  have main : ∃ (i j : Nat) (S' : Sto), i < j ∧ j ≤ n ∧ walkB st.last b0.hi i = walkB st.last b0.hi j ∧ ((List.range j).map (walkB st.last b0.hi)).Nodup ∧ s_Ways_ring [waysD (bgD bg) st (b0 :: r)] [] = .ok (.ref 1) S' ∧ S'[1]? = some (.lst (((List.range' i (j - i)).map (lastB st b0.hi)).map Bd.d)) := by
    generalize hX : s_Ways_ring [waysD (bgD bg) st (b0 :: r)] [] = X
    have hne : ¬ ((r.length : Int) + 1 = 0) := by omega
    simp [s_Ways_ring, hne] at hX
    generalize hL : loopW _ _ _ _ _ = L at hX
    obtain ⟨j, v1, S1, rfl, ⟨hj, hnd, rfl, rfl⟩, hst⟩ := loopW_gen (T := Nat) (fun j v S => j ≤ n ∧ ((List.range j).map (walkB st.last b0.hi)).Nodup ∧ v = [some (waysD (bgD bg) st (b0 :: r)), some (.int (walkB st.last b0.hi j : Nat)), some (.ref 0), none, none] ∧ S = [.lst (((List.range j).map (walkB st.last b0.hi)).map fun k : Nat => .int k)])
      (fun j => n - j) (fun j => decide (walkB st.last b0.hi j ∈ (List.range j).map (walkB st.last b0.hi))) (fun j => j + 1) 0 hL ⟨Nat.zero_le _, by simp, rfl, rfl⟩ (by unfold WW; omega)
      (fun j v S r' => by
        obtain ⟨hj, hnd, rfl, rfl⟩ := r'
        have := notin_nums (S := [.lst (((List.range j).map (walkB st.last b0.hi)).map fun k : Nat => .int k)]) (n := 0) (a := walkB st.last b0.hi j) rfl
        simp only [lk_succ, lk_zero, cmpR_ok, cmpR2_ok, this, opt_some])
      (fun j v S r' hs => by
        obtain ⟨hj, hnd, rfl, rfl⟩ := r'
        have hs' : walkB st.last b0.hi j ∉ (List.range j).map (walkB st.last b0.hi) := of_decide_eq_false hs
        have hnd2 : ((List.range (j + 1)).map (walkB st.last b0.hi)).Nodup := by
          rw [List.range_succ, List.map_append, List.nodup_append]
          refine ⟨hnd, by simp, fun a ha b hb e => ?_⟩
          have : b = walkB st.last b0.hi j := by simpa using hb
          exact hs' (by rw [← this, ← e]; exact ha)
        have hlt : j + 1 ≤ n := by
          have := nodup_lt n _ hnd2 (fun x hx => by
            obtain ⟨i, hi, rfl⟩ := List.mem_map.mp hx
            exact (hw i (by have := List.mem_range.mp hi; omega)).1)
          simpa using this
        obtain ⟨b, hb1, hb2⟩ := step j hj
        have ap := methL_append (xs := ((List.range j).map (walkB st.last b0.hi)).map fun k : Nat => D.int k) (d := .int (walkB st.last b0.hi j : Nat)) (by simp; unfold sizeLine; omega)
        have e1 : (((List.range j).map (walkB st.last b0.hi)).map fun k : Nat => D.int k) ++ [.int (walkB st.last b0.hi j : Nat)] = ((List.range (j + 1)).map (walkB st.last b0.hi)).map fun k : Nat => D.int k := by rw [List.range_succ]; simp
        rw [e1] at ap
        refine ⟨[some (waysD (bgD bg) st (b0 :: r)), some (.int (walkB st.last b0.hi (j + 1) : Nat)), some (.ref 0), none, none], [.lst (((List.range (j + 1)).map (walkB st.last b0.hi)).map fun k : Nat => .int k)], ?_, ⟨hlt, hnd2, rfl, rfl⟩, by show n - (j + 1) < n - j; omega⟩
        rw [hb2]
        generalize ((List.range (j + 1)).map (walkB st.last b0.hi)).map (fun k : Nat => D.int k) = sn' at *
        generalize ((List.range j).map (walkB st.last b0.hi)).map (fun k : Nat => D.int k) = sn at *
        simp [atR_lstS (S := [.lst sn]) (n := 0) (xs0 := sn) rfl, atL_ok (S2 := [.lst sn]) (n := 0) (xs := sn) rfl, ap, get_last hb1])
    clear hL
    obtain ⟨i, hi, hij⟩ := List.mem_map.mp (of_decide_eq_true hst)
    have hi : i < j := List.mem_range.mp hi
    obtain ⟨b, hb1, hb2⟩ := step j hj
    have hlo : b.lo = walkB st.last b0.hi (i + 1) := by
      obtain ⟨b', hb1', hb2'⟩ := step i (by omega)
      rw [hij, hb1] at hb1'
      cases hb1'
      exact hb2'.symm
    generalize ((List.range j).map (walkB st.last b0.hi)).map (fun k : Nat => D.int k) = sn at hX
    have lbi : lastB st b0.hi i = b := by
      obtain ⟨b', hb1', hb2'⟩ := step i (by omega)
      rw [lb i b' hb1']
      rw [hij, hb1] at hb1'
      cases hb1'
      rfl
    simp [get_last hb1] at hX
    rw [hlo] at hX
    generalize hL : loopW _ _ _ _ _ = L at hX
    obtain ⟨m, v2, S2, rfl, ⟨hm1, hm2, rfl, rfl⟩, hst2⟩ := loopW_gen (T := Nat) (fun m v S => i + 1 ≤ m ∧ m ≤ j ∧ v = [some (waysD (bgD bg) st (b0 :: r)), some (.int (walkB st.last b0.hi j : Nat)), some (.ref 0), some (.ref 1), some (.int (walkB st.last b0.hi m : Nat))] ∧ S = [.lst sn, .lst (((List.range' i (m - i)).map (lastB st b0.hi)).map Bd.d)])
      (fun m => j - m) (fun m => decide (walkB st.last b0.hi m = walkB st.last b0.hi j)) (fun m => m + 1) (i + 1) hL ⟨Nat.le_refl _, hi, rfl, by rw [show i + 1 - i = 1 by omega, ← lbi]; rfl⟩ (by unfold WW; omega)
      (fun m v S r' => by
        obtain ⟨h1, h2, rfl, rfl⟩ := r'
        simp
        by_cases e : walkB st.last b0.hi m = walkB st.last b0.hi j
        · simp [e]
        · simp [e]; omega)
      (fun m v S r' hs => by
        obtain ⟨h1, h2, rfl, rfl⟩ := r'
        have hs' : walkB st.last b0.hi m ≠ walkB st.last b0.hi j := of_decide_eq_false hs
        have hmj : m ≠ j := fun e => hs' (by rw [e])
        obtain ⟨b', hb1', hb2'⟩ := step m (by omega)
        have ap := methL_append (xs := ((List.range' i (m - i)).map (lastB st b0.hi)).map Bd.d) (d := b'.d) (by simp; unfold sizeLine; omega)
        have e1 : ((List.range' i (m - i)).map (lastB st b0.hi)).map Bd.d ++ [b'.d] = ((List.range' i (m + 1 - i)).map (lastB st b0.hi)).map Bd.d := by
          rw [show m + 1 - i = (m - i) + 1 by omega, List.range'_concat]
          have : i + (m - i) = m := by omega
          simp [this, lb m b' hb1']
        rw [e1] at ap
        refine ⟨[some (waysD (bgD bg) st (b0 :: r)), some (.int (walkB st.last b0.hi j : Nat)), some (.ref 0), some (.ref 1), some (.int (walkB st.last b0.hi (m + 1) : Nat))], [.lst sn, .lst (((List.range' i (m + 1 - i)).map (lastB st b0.hi)).map Bd.d)], ?_, ⟨by omega, by omega, rfl, rfl⟩, by show j - (m + 1) < j - m; omega⟩
        rw [hb2']
        generalize ((List.range' i (m + 1 - i)).map (lastB st b0.hi)).map Bd.d = f2 at *
        generalize ((List.range' i (m - i)).map (lastB st b0.hi)).map Bd.d = f1 at *
        simp [atR_lstS (S := [.lst sn, .lst f1]) (n := 1) (xs0 := f1) rfl, atL_ok (S2 := [.lst sn, .lst f1]) (n := 1) (xs := f1) rfl, ap, get_last hb1'])
    clear hL
    have hmj : m = j := by
      rcases Nat.lt_or_ge m j with h | h
      · exfalso
        have e := of_decide_eq_true hst2
        rw [← hij] at e
        have := List.pairwise_iff_getElem.mp hnd i m (by simpa using hi) (by simpa using h) (by omega)
        simp at this
        exact this e.symm
      · omega
    subst hmj
    simp at hX
    exact ⟨i, m, _, hi, hj, hij, hnd, hX.symm, by simp⟩
  obtain ⟨i, j, S', q1, q2, q3, q4, e1, e2⟩ := main
  exact ⟨i, j, q1, q2, q3, q4, runF_pureZ (S' := S') rfl rfl (by rw [cloL_cons, waysD_clo]; rfl) (by rw [run_Ways_ring]; exact e1) (fz_refL (n := 6) e2 (heldD_clo _))⟩

end K74
end

section
set_option Elab.async false
set_option linter.all false
set_option maxRecDepth 100000
set_option maxHeartbeats 4000000
namespace K74
open PySem L2 DV SX
set_option exponentiation.threshold 9000
theorem r_check_table {ls : List Ln} (S : Sto) : runF fi_check_table [tableD ls] S = .ok .non S := by
  refine runF_pure (S' := []) rfl rfl (by rw [cloL_cons, tableD_clo]; rfl) ?_ rfl
  rw [run_check_table]
  simp [s_check_table, isOwn, tableD, insD]
def bdLP (b : Bd) : Option LP := match b.src with
  | some (some i, b) => some ⟨i, b, 1⟩
  | _ => none
def srcOk (b : Bd) : Prop := ∀ x, b.src ≠ some (none, x)
theorem r_lot_of {fs : List Bd} (h : ∀ b ∈ fs, srcOk b) (hl : fs.length ≤ 1000) (S : Sto) : runF fi_lot_of [.lst (fs.map Bd.d)] S = .ok (lotD (fs.filterMap bdLP)) S := by
  refine runF_pure (S' := []) rfl rfl (by show (cloL (fs.map Bd.d) && true) = true; rw [heldD_clo]; rfl) ?_ (lotD_clo _)
  rw [run_lot_of]
  simp [s_lot_of, wipeD]
  rw [loopC_fm rfl Bd.d (fun b => (bdLP b).map LP.d) fs [] (fun b hb => ?_) (by unfold sizeLine; simp; omega)]
  · have e : fs.filterMap (fun b => (bdLP b).map LP.d) = (fs.filterMap bdLP).map LP.d := by rw [List.map_filterMap]
    rw [List.nil_append, e]
    have : ∀ xs : List D, bTup [] [.lst xs] = some (.tup xs) := fun _ => rfl
    simp [this, lotD]
  · have h1 := h b hb
    have e0 : (bdLP b).map LP.d = if b.src.isSome then some ((bdLP b).elim .non LP.d) else none := by
      unfold bdLP
      rcases hs : b.src with _ | ⟨_ | i, w⟩
      · rfl
      · exact absurd hs (h1 w)
      · rfl
    rw [e0]
    have ea : ∀ S : Sto, attrV clsF S "source" b.d = some (.inl (srcD b.src)) := fun S => by simp [Bd.d]
    refine turnR_test (y := (bdLP b).elim .non LP.d) (b := b.src.isSome) rfl ?_ fun hh => ?_
    · simp [ea]
      rcases hs : b.src with _ | ⟨_ | i, _ | _⟩ <;> rfl
    · unfold bdLP
      rcases hs : b.src with _ | ⟨_ | i, w⟩
      · rw [hs] at hh; cases hh
      · exact absurd hs (h1 w)
      · rw [hs] at ea
        simp [ea]
        cases w <;> rfl
theorem held_src {ms : List Nat} {ls : List Ln} : ∀ b ∈ heldOf ms ls, srcOk b ∧ ∀ p, bdLP b = some p → p.wt = 1 ∧ ∃ l, ls[p.k]? = some l ∧ (p.b = false → ∃ m, l.f.b2 = some m) := by
  intro b hb
  rcases List.mem_append.mp hb with h | h
  · obtain ⟨k, hk, rfl⟩ := List.mem_map.mp h
    exact ⟨(fun x e => by cases e), fun p e => by cases e⟩
  · obtain ⟨p, hp0, hp⟩ := List.mem_flatMap.mp h
    have hz := List.mem_zipIdx' hp0
    have hg : ls[p.2]? = some p.1 := by rw [hz.2]; exact List.getElem?_eq_getElem hz.1
    unfold tellHeld at hp
    rcases List.mem_cons.mp hp with rfl | hp
    · exact ⟨(fun x e => by cases e), fun q e => by cases e; exact ⟨rfl, p.1, hg, fun e => by cases e⟩⟩
    · cases hb2 : p.1.f.b2 with
      | none => rw [hb2] at hp; cases hp
      | some m =>
        rw [hb2] at hp
        obtain rfl := List.mem_singleton.mp hp
        exact ⟨(fun x e => by cases e), fun q e => by cases e; exact ⟨rfl, p.1, hg, fun _ => ⟨m, hb2⟩⟩⟩
theorem place_lt {ms : List Nat} {h : Option Nat} : placeOf ms h < ms.length + 1 := by
  cases h with
  | none => exact Nat.lt_succ_self _
  | some k =>
    show ms.idxOf k < _
    have := List.idxOf_le_length (a := k) (l := ms)
    omega
theorem held_lt {ms : List Nat} {ls : List Ln} : ∀ b ∈ heldOf ms ls, b.lo < ms.length + 1 ∧ b.hi < ms.length + 1 := by
  intro b hb
  rcases List.mem_append.mp hb with h | h
  · obtain ⟨k, hk, rfl⟩ := List.mem_map.mp h
    have := List.mem_range.mp hk
    exact ⟨by show k + 1 < _; omega, by show k < _; omega⟩
  · obtain ⟨p, _, hp⟩ := List.mem_flatMap.mp h
    unfold tellHeld at hp
    rcases List.mem_cons.mp hp with rfl | hp
    · exact ⟨place_lt (ms := ms) (h := p.1.hi), place_lt (ms := ms) (h := some p.1.lo)⟩
    · cases hb2 : p.1.f.b2 with
      | none => rw [hb2] at hp; cases hp
      | some m =>
        rw [hb2] at hp
        obtain rfl := List.mem_singleton.mp hp
        exact ⟨place_lt (ms := ms) (h := some p.1.lo), place_lt (ms := ms) (h := p.1.hi)⟩
theorem held_len {ms : List Nat} {ls : List Ln} : (heldOf ms ls).length ≤ ms.length + 2 * ls.length := by
  have hfl : ∀ p : List (Ln × Nat), (p.flatMap fun q : Ln × Nat => tellHeld ms q.1.lo q.1.hi q.1.f.b1 q.1.f.b2 (some q.2)).length ≤ 2 * p.length := by
    intro p
    induction p with
    | nil => simp
    | cons a p ih =>
      simp only [List.flatMap_cons, List.length_append, List.length_cons]
      have : (tellHeld ms a.1.lo a.1.hi a.1.f.b1 a.1.f.b2 (some a.2)).length ≤ 2 := by unfold tellHeld; cases a.1.f.b2 <;> simp
      omega
  have := hfl ls.zipIdx
  unfold heldOf
  rw [List.length_append]
  have e : (baseHeld ms.length).length = ms.length := by simp [baseHeld]
  rw [List.length_zipIdx] at this
  omega
theorem me_ringC : meOk G_clash_of "Ways" "ring" = some fi_Ways_ring := by kernel_rfl
theorem at_ringC {bg : D} {st : WSt} {h : List Bd} {A : Sto → Res (List D)} {S : Sto} : atR G_clash_of "ring" A (waysD bg st h) S = (A S).bind fun ds S2 => runF fi_Ways_ring (waysD bg st h :: ds) S2 :=
  atR_obj (by decide +kernel) (by decide +kernel) me_ringC
theorem r_clash {ls : List Ln} (hn : ls.length ≤ 12) (S : Sto) :
    runF fi_clash [tableD ls] S = .ok .non S ∨ ∃ ps : List LP, LotW ls ps ∧ ps.length ≤ 2 * ls.length + 2 ∧ (∀ p ∈ ps, p.wt = 1) ∧ runF fi_clash [tableD ls] S = .ok (lotD ps) S := by
  have ct := r_check_table (ls := ls) ([] : Sto)
  have rp := r_Points (ls := ls) (by omega) ([] : Sto)
  obtain ⟨mN, mM, mL, mP⟩ := marks_facts (allStr ls [])
  have hal : (allStr ls []).length = ls.length := by simp [allStr]
  rw [hal] at mL
  generalize marksOf (allStr ls []) = ms at *
  have hms : ms.length ≤ 60 := by omega
  have hh := held_len (ms := ms) (ls := ls)
  have told : ∀ S : Sto, attrV clsF S "told" (tableD ls) = some (.inl (toldD ls)) := fun S => by simp [tableD]
  have hc : cloL [tableD ls] = true := by rw [cloL_cons, tableD_clo]; rfl
  have hc2 : cloL [toldD ls] = true := by rw [cloL_cons, toldD_clo]; rfl
  obtain ⟨st, h, e1, e2⟩ := r_Ways (ms := ms) (held := heldOf ms ls) (bg := none) hms (by omega) ([] : Sto)
  have e2 : makeR "Ways" ci_Ways fi_Ways___init__ [pointsD ms (heldOf ms ls), .non] [] = .ok (waysD (bgD none) st h) [] := e2
  cases h with
  | nil =>
    left
    have rg := r_ring_none (bg := none) (st := st) ([] : Sto)
    have rc : runF fi_clash_of [toldD ls] [] = .ok .non [] := by
      refine runF_pure (S' := []) rfl rfl hc2 ?_ rfl
      rw [run_clash_of]
      simp [s_clash_of, rp, e2, at_ringC, rg]
    refine runF_pure (S' := []) rfl rfl hc ?_ rfl
    rw [run_clash]
    simp [s_clash, ct, told, rc]
  | cons b0 r =>
    right
    have hw := (walk_ok held_lt e1 (b0 := b0) (r := r) rfl).2
    obtain ⟨i, j, q1, q2, q3, q4, rg⟩ := r_ring_full (bg := none) (st := st) (b0 := b0) (r := r) (n := ms.length + 1) (by omega) (fun j hj => ⟨(hw j hj).1, let ⟨b, _, e⟩ := (hw j hj).2; ⟨b, e⟩⟩) ([] : Sto)
    have hfs : ∀ b ∈ (List.range' i (j - i)).map (lastB st b0.hi), b ∈ heldOf ms ls := fun b hb => by
      obtain ⟨t, ht, rfl⟩ := List.mem_map.mp hb
      have ht2 := (List.mem_range'_1.mp ht).2
      obtain ⟨b, hb, e⟩ := (hw t (by omega)).2
      unfold lastB
      rw [e]; exact hb
    have hlen : ((List.range' i (j - i)).map (lastB st b0.hi)).length ≤ ms.length + 1 := by simp; omega
    generalize (List.range' i (j - i)).map (lastB st b0.hi) = fs at *
    have rl := r_lot_of (fs := fs) (fun b hb => (held_src b (hfs b hb)).1) (by omega) ([] : Sto)
    have hps : ∀ p ∈ fs.filterMap bdLP, p.wt = 1 ∧ ∃ l, ls[p.k]? = some l ∧ (p.b = false → ∃ m, l.f.b2 = some m) := fun p hp => by
      obtain ⟨b, hb, e⟩ := List.mem_filterMap.mp hp
      exact (held_src b (hfs b hb)).2 p e
    have hpl : (fs.filterMap bdLP).length ≤ fs.length := List.length_filterMap_le ..
    have rc : runF fi_clash_of [toldD ls] [] = .ok (lotD (fs.filterMap bdLP)) [] := by
      refine runF_pure (S' := []) rfl rfl hc2 ?_ (lotD_clo _)
      rw [run_clash_of]
      have isl : ∀ xs : List D, cmpF .Is ([] : Sto) (.lst xs) .non = some false := fun _ => rfl
      generalize fs.map Bd.d = fd at *
      simp [s_clash_of, rp, e2, at_ringC, rg, rl]
    refine ⟨fs.filterMap bdLP, fun p hp => ?_, by omega, fun p hp => (hps p hp).1, ?_⟩
    · obtain ⟨h1, l, h2, h3⟩ := hps p hp
      exact ⟨l, h2, h3, by rw [h1]; exact Nat.one_lt_two_pow (by decide)⟩
    · refine runF_pure (S' := []) rfl rfl hc ?_ (lotD_clo _)
      rw [run_clash]
      simp [s_clash, ct, told, rc]

end K74
end

section
set_option Elab.async false
set_option linter.all false
set_option maxRecDepth 100000
set_option maxHeartbeats 4000000
namespace K74
open PySem L2 DV SX
set_option exponentiation.threshold 9000
@[simp] theorem augR_ok {v : Slots} {i : Nat} {b : Int} {S : Sto} : DV.augR v i (.ok (.int b) S) = (match (v[i]?).join with
  | some (.int a) => if i < v.length then .nx (v.set i (some (.int (a + b)))) S else .bad
  | _ => .bad) := by
  unfold DV.augR
  split <;> simp_all
theorem r_Table_len {ls : List Ln} (S : Sto) : runF fi_Table___len__ [tableD ls] S = .ok (.int (ls.length : Nat)) S := by
  refine runF_pure (S' := []) rfl rfl (by rw [cloL_cons, tableD_clo]; rfl) ?_ rfl
  rw [run_Table___len__]
  simp [s_Table___len__, tableD, linesD]
theorem me_lenP : meOk G_is_part "Table" "__len__" = some fi_Table___len__ := by kernel_rfl
theorem len_table {ls : List Ln} (hl : ls.length ≤ 100) (S : Sto) : callBO G_is_part "len" S [tableD ls] = .ok (.int (ls.length : Nat)) S := boLen_own rfl me_lenP (by decide +kernel) (r_Table_len S) (by omega)
theorem told_at {ls : List Ln} {k : Nat} {l : Ln} (hg : ls[k]? = some l) {S : Sto} : getF S (toldD ls) (.int k) = some l.d := by
  show getF S (.tup (ls.map Ln.d)) (.int k) = _
  rw [getF_tup, atI_ofNat, List.getElem?_map, hg]
  rfl
theorem at_told {ls : List Ln} {S : Sto} : attrV clsF S "told" (tableD ls) = some (.inl (toldD ls)) := by simp [tableD]
theorem at_lmost {l : Ln} {S : Sto} : attrV clsF S "most" l.d = some (.inl (optD l.f.b2)) := by simp [Ln.d]
theorem at_lleast {l : Ln} {S : Sto} : attrV clsF S "least" l.d = some (.inl (.int l.f.b1)) := by simp [Ln.d]
theorem at_llow {l : Ln} {S : Sto} : attrV clsF S "low" l.d = some (.inl (.int l.lo)) := by simp [Ln.d]
theorem at_lhigh {l : Ln} {S : Sto} : attrV clsF S "high" l.d = some (.inl (hiD l.hi)) := by simp [Ln.d]
theorem r_is_part {ls : List Ln} {p : LP} {l : Ln} (hl : ls.length ≤ 100) (hg : ls[p.k]? = some l) (hb : p.b = false → ∃ m, l.f.b2 = some m) (S : Sto) : runF fi_is_part [tableD ls, p.d] S = .ok (.bl (decide (1 ≤ p.wt))) S := by
  refine runF_pure (S' := []) rfl rfl (by rw [cloL_cons, tableD_clo]; rfl) ?_ rfl
  rw [run_is_part]
  have hk : p.k < ls.length := (List.getElem?_eq_some_iff.mp hg).1
  have lt := len_table hl ([] : Sto)
  have ta := told_at hg (S := ([] : Sto))
  have hk0 : ¬ ((p.k : Int) < 0) := by omega
  by_cases h1 : 1 ≤ p.wt
  · have h1' : ¬ (p.wt < 1) := by omega
    cases hw : p.b with
    | true => simp [s_is_part, LP.d, isInst, tyOfD, lt, hk, h1, h1', hw]
    | false =>
      obtain ⟨m, hm⟩ := hb hw
      simp [s_is_part, LP.d, isInst, tyOfD, lt, hk, h1, h1', hw, at_told, ta, at_lmost, hm, optD, lpW]
  · have h1' : p.wt < 1 := by omega
    simp [s_is_part, LP.d, isInst, tyOfD, lt, hk, h1, h1']
theorem r_is_part_no {ls : List Ln} {ps : List LP} (hl : ps.length ≤ 1000) (S : Sto) : runF fi_is_part [tableD ls, lotD ps] S = .ok (.bl false) S := by
  refine runF_pure (S' := []) rfl rfl (by rw [cloL_cons, tableD_clo, cloL_cons, lotD_clo]; rfl) ?_ rfl
  rw [run_is_part]
  by_cases h : ps.length = 3
  · match ps, h with
    | [a, b, c], _ => simp [s_is_part, lotD, isInst, tyOfD, LP.d]
  · have h' : ¬ ((ps.length : Int) = 3) := by omega
    simp [s_is_part, lotD, isInst, tyOfD, h']
theorem r_is_lot {ls : List Ln} {ps : List LP} (hl : ls.length ≤ 100) (hw : LotW ls ps) (hn : ps.length < 64) (S : Sto) : runF fi_is_lot [tableD ls, lotD ps] S = .ok (.bl (isLotB ps)) S := by
  refine runF_pure (S' := []) rfl rfl (by rw [cloL_cons, tableD_clo, cloL_cons, lotD_clo]; rfl) ?_ rfl
  rw [run_is_lot]
  have sz : ps.length ≤ sizeLine := by unfold sizeLine; omega
  generalize hX : s_is_lot [tableD ls, lotD ps] [] = X
  simp [s_is_lot, lotD, isInst, tyOfD, wipeD] at hX
  rw [loopC_map rfl LP.d (fun p => .bl (decide (1 ≤ p.wt))) ps (fun p hp => by
    obtain ⟨l, h1, h2, _⟩ := hw p hp
    refine turnR_none (by simp) ?_
    simp [r_is_part hl h1 h2]) sz] at hX
  have ba := bAll_map (S := ([] : Sto)) (fun p : LP => decide (1 ≤ p.wt)) ps
  have sk := setLen_keys (S := ([] : Sto)) (ps.map LP.key) (by simpa using hn)
  have kf := keys_full (ps.map LP.key)
  rw [List.map_map] at sk
  have sk' : setF "len" ([] : Sto) (.lst (ps.map fun p => keyT p.key)) = _ := sk
  have lt : callBO G_is_lot "len" [] [.tup (ps.map LP.d)] = .ok (.int (ps.length : Nat)) [] := by simp
  rw [← hX]
  unfold isLotB
  cases ha : ps.all (fun p => decide (1 ≤ p.wt)) with
  | false => simp [ba, ha]
  | true =>
    simp [ba, ha]
    rw [loopC_map rfl LP.d (fun p => keyT p.key) ps (fun p hp => by
      refine turnR_none (by simp) ?_
      simp [LP.d, LP.key, keyT]) sz]
    rw [List.length_map] at kf
    simp [sk', lt]
    simpa using kf
theorem r_is_lot_no {ls : List Ln} {ps : List LP} (hl : ps.length ≤ 1000) (S : Sto) : runF fi_is_lot [tableD ls, .tup [lotD ps]] S = .ok (.bl false) S := by
  refine runF_pure (S' := []) rfl rfl (by rw [cloL_cons, tableD_clo, cloL_cons]; show (true && ((lotD ps).clo && true && true)) = true; rw [lotD_clo]; rfl) ?_ rfl
  rw [run_is_lot]
  have hp := r_is_part_no (ls := ls) hl ([] : Sto)
  generalize hX : s_is_lot [tableD ls, .tup [lotD ps]] [] = X
  simp [s_is_lot, isInst, tyOfD, wipeD] at hX
  have e : [lotD ps] = [ps].map lotD := rfl
  rw [e, loopC_map rfl lotD (fun p => .bl false) [ps] (fun p hp' => by
    obtain rfl := List.mem_singleton.mp hp'
    refine turnR_none (by simp) ?_
    simp [hp]) (by unfold sizeLine; simp)] at hX
  have ba : bAll ([] : Sto) [.lst [.bl false]] = some (.bl false) := rfl
  simp [ba] at hX
  rw [← hX]
theorem r_is_lot_lst {ls : List Ln} {ps : List LP} (S : Sto) : runF fi_is_lot [tableD ls, .lst (ps.map LP.d)] S = .ok (.bl false) S := by
  refine runF_pure (S' := []) rfl rfl (by rw [cloL_cons, tableD_clo]; show (true && (cloL (ps.map LP.d) && true)) = true; rw [cloL_map _ LP.clo]; rfl) ?_ rfl
  rw [run_is_lot]
  simp [s_is_lot, isInst, tyOfD]
theorem LotW.pre {ls : List Ln} {ps qs : List LP} (h : LotW ls ps) (hq : ∀ q ∈ qs, q ∈ ps) : LotW ls qs := fun p hp => h p (hq p hp)
theorem r_worth {ls : List Ln} {ps : List LP} (h : LsOk ls) (hw : LotW ls ps) (S : Sto) : runF fi_worth [tableD ls, lotD ps] S = .ok (.int (worthI ls ps)) S := by
  refine runF_pure (S' := []) rfl rfl (by rw [cloL_cons, tableD_clo, cloL_cons, lotD_clo]; rfl) ?_ rfl
  rw [run_worth]
  generalize hX : s_worth [tableD ls, lotD ps] [] = X
  simp [s_worth, lotD] at hX
  generalize hL : loopF _ _ _ _ _ = L at hX
  obtain ⟨v', S', rfl, rfl, a3, a4, a5, a6, rfl⟩ := loopF_genP (fun p v S => S = [] ∧ ∃ a3 a4 a5 a6, v = [some (tableD ls), some (.tup (ps.map LP.d)), some (.int (worthI ls p)), a3, a4, a5, a6]) hL rfl ⟨rfl, none, none, none, none, rfl⟩ (fun p x q v S e r => by
    obtain ⟨rfl, a3, a4, a5, a6, rfl⟩ := r
    obtain ⟨l, h1, h2, _⟩ := hw x (by rw [← e]; simp)
    have hm := hw.mid x (by rw [← e]; simp)
    have hlo := h.ok l (List.mem_of_getElem? h1)
    obtain ⟨m1, m2⟩ := b_mid hlo.2.2
    have ta := told_at h1 (S := ([] : Sto))
    have ew : worthI ls (p ++ [x]) = worthI ls p + wor1 ls x := by unfold worthI; rw [List.map_append]; exact sum_snoc ..
    refine ⟨[some (tableD ls), some (.tup (ps.map LP.d)), some (.int (worthI ls (p ++ [x]))), some (.int x.k), some (.str (lpW x.b)), some (.int x.wt), some l.d], [], .inl ?_, rfl, _, _, _, _, rfl⟩
    rw [ew]
    unfold wor1
    rw [h1]
    cases hb : x.b with
    | true => simp [LP.d, hb, at_told, ta, at_lleast, mulOk_mid hm m1]
    | false =>
      obtain ⟨m, hm2⟩ := h2 hb
      have nm : Mid (-x.wt) := by show (-x.wt).natAbs < _; rw [Int.natAbs_neg]; exact hm
      simp [LP.d, hb, at_told, ta, at_lmost, hm2, optD, mulOk_mid nm (m2 m hm2), lpW, Int.neg_mul])
  simp at hX
  rw [← hX]
@[simp] theorem eq_int_str {S : Sto} {i : Int} {z : Str} : cmpF .Eq S (.int i) (.str z) = some false := rfl
theorem inL_n {l : Ln} {x : Nat} (h : l.hi = none) : inL l x = decide (l.lo ≤ x) := by unfold inL; rw [h]; simp
theorem inL_s {l : Ln} {x k : Nat} (h : l.hi = some k) : inL l x = (decide (l.lo ≤ x) && decide (x < k)) := by unfold inL; rw [h]
theorem r_covers {ls : List Ln} {ps : List LP} (hw : LotW ls ps) (x : Nat) (S : Sto) : runF fi_covers [tableD ls, lotD ps, .int x] S = .ok (.int (coverI ls ps x)) S := by
  refine runF_pure (S' := []) rfl rfl (by rw [cloL_cons, tableD_clo, cloL_cons, lotD_clo]; rfl) ?_ rfl
  rw [run_covers]
  generalize hX : s_covers [tableD ls, lotD ps, .int x] [] = X
  simp [s_covers, lotD] at hX
  generalize hL : loopF _ _ _ _ _ = L at hX
  obtain ⟨v', S', rfl, rfl, a4, a5, a6, a7, rfl⟩ := loopF_genP (fun p v S => S = [] ∧ ∃ a4 a5 a6 a7, v = [some (tableD ls), some (.tup (ps.map LP.d)), some (.int x), some (.int (coverI ls p x)), a4, a5, a6, a7]) hL rfl ⟨rfl, none, none, none, none, rfl⟩ (fun p y q v S e r => by
    obtain ⟨rfl, a4, a5, a6, a7, rfl⟩ := r
    obtain ⟨l, h1, h2, _⟩ := hw y (by rw [← e]; simp)
    have ta := told_at h1 (S := ([] : Sto))
    have ew : coverI ls (p ++ [y]) x = coverI ls p x + cov1 ls x y := by unfold coverI; rw [List.map_append]; exact sum_snoc ..
    refine ⟨[some (tableD ls), some (.tup (ps.map LP.d)), some (.int x), some (.int (coverI ls (p ++ [y]) x)), some (.int y.k), some (.str (lpW y.b)), some (.int y.wt), some l.d], [], .inl ?_, rfl, _, _, _, _, rfl⟩
    rw [ew]
    unfold cov1
    rw [h1]
    dsimp only
    cases hh : l.hi with
    | none =>
      rw [inL_n hh]
      by_cases c1 : l.lo ≤ x
      · cases hb : y.b <;> simp [LP.d, hb, at_told, ta, at_llow, at_lhigh, hh, c1, gv_OPEN, lpW]
      · cases hb : y.b <;> simp [LP.d, hb, at_told, ta, at_llow, at_lhigh, hh, c1, gv_OPEN, lpW]
    | some k =>
      rw [inL_s hh]
      by_cases c1 : l.lo ≤ x
      · by_cases c2 : x < k
        · cases hb : y.b <;> simp [LP.d, hb, at_told, ta, at_llow, at_lhigh, hh, c1, c2, gv_OPEN, lpW, hiD]
        · cases hb : y.b <;> simp [LP.d, hb, at_told, ta, at_llow, at_lhigh, hh, c1, c2, gv_OPEN, lpW, hiD]
      · cases hb : y.b <;> simp [LP.d, hb, at_told, ta, at_llow, at_lhigh, hh, c1, gv_OPEN, lpW])
  simp at hX
  rw [← hX]

end K74
end

section
set_option Elab.async false
set_option linter.all false
set_option maxRecDepth 100000
set_option maxHeartbeats 4000000
namespace K74
open PySem L2 DV SX
theorem r_Piece (lo : Nat) (hi : Option Nat) (c : Int) (S : Sto) : makeR "Piece" ci_Piece fi_Piece___init__ [.int lo, hiD hi, .int c] S = .ok (pieceD lo hi c) S := by
  have h : cloL [.int lo, hiD hi, .int c] = true := by cases hi <;> rfl
  refine makeR_rec (S' := [.ins "Piece" ["low", "high", "cover"] [.int lo, hiD hi, .int c]]) (fill_self rfl) rfl rfl h ?_ (fz_obj rfl h)
  show s_Piece___init__ [.ref 0, .int lo, hiD hi, .int c] [.ins "Piece" [] []] = _
  simp [s_Piece___init__, putA, fput]
@[simp] theorem zipR_lst {S : Sto} {xs ys : List D} : zipR (.ok [.lst xs, .lst ys] S) = .ok ⟨(xs.zip ys).map fun p => .tup [p.1, p.2], none, []⟩ S := rfl
def pieceL (ls : List Ln) (ps : List LP) (ms : List Nat) : List D := (segs ms).map fun s => pieceD s.1 s.2 (coverI ls ps s.1)
theorem r_pieces {ls : List Ln} {ps : List LP} {ss : List Strt} (hw : LotW ls ps) (hn : ls.length + ss.length ≤ 20) (S : Sto) : runF fi_pieces [tableD ls, lotD ps, .lst (ss.map strD)] S = .ok (.lst (pieceL ls ps (marksOf (allStr ls ss)))) S := by
  have hss : cloL (ss.map strD) = true := cloL_map _ (fun s => by obtain ⟨a, b⟩ := s; cases b <;> rfl) ss
  refine runF_pureZ (S' := [.dict (alK (metMarks (allStr ls ss))) (alV .bl (metMarks (allStr ls ss)))]) rfl rfl (by rw [cloL_cons, tableD_clo, cloL_cons, lotD_clo]; show (true && (true && (cloL (ss.map strD) && true))) = true; rw [hss]; rfl) ?_ (fz_clo (n := 7) (show cloL (pieceL ls ps (marksOf (allStr ls ss))) = true from cloL_map _ (fun s => pieceD_clo ..) _))
  rw [run_pieces]
  obtain ⟨mN, mM, mL, mP⟩ := marks_facts (allStr ls ss)
  have hal : (allStr ls ss).length ≤ 20 := by unfold allStr; simp; omega
  generalize hX : s_pieces [tableD ls, lotD ps, .lst (ss.map strD)] [] = X
  have ld : lotD ps = .tup (ps.map LP.d) := rfl
  simp [s_pieces, at_told, toldD, wipeD] at hX
  rw [loopC_map rfl Ln.d (fun l => strD l.strt) ls (fun l hl => by
    refine turnR_none (by simp) ?_
    simp [Ln.d, strD, Ln.strt]) (by unfold sizeLine; omega)] at hX
  have e1 : (ls.map fun l => strD l.strt) ++ ss.map strD = (allStr ls ss).map strD := by unfold allStr; simp
  simp at hX
  rw [e1, if_pos (show ls.length + ss.length ≤ sizeLine by unfold sizeLine; omega)] at hX
  simp at hX
  generalize hL : loopF _ _ _ _ _ = L at hX
  obtain ⟨v1, S1, rfl, rfl, a4, a5, rfl⟩ := loopF_genP (fun p v S => S = [.dict (alK (p.foldl addMark [(0, true)])) (alV .bl (p.foldl addMark [(0, true)]))] ∧ ∃ a4 a5, v = [some (tableD ls), some (lotD ps), some (.lst (ss.map strD)), some (.lst (ls.map fun l => strD l.strt)), some (.ref 0), none, a4, a5, none]) hL rfl ⟨rfl, none, none, rfl⟩ (fun p s q v S e r => by
    obtain ⟨rfl, a4, a5, rfl⟩ := r
    have hp : p.length ≤ 20 := by have := congrArg List.length e; simp at this; omega
    obtain ⟨_, _, ml⟩ := met_keys p [(0, true)] (by simp)
    generalize hm : p.foldl addMark [(0, true)] = m at ml
    have em : (p ++ [s]).foldl addMark [(0, true)] = addMark m s := by rw [List.foldl_append, hm]; rfl
    rw [em]
    have ml' : m.length ≤ 60 := by simp at ml; omega
    obtain ⟨lo, hi⟩ := s
    have p1 := putV_dict (S := [.dict (alK m) (alV .bl m)]) (n := 0) (i := .int lo) (k := .inl lo) (d := .bl true) rfl rfl (by unfold alK sizeLine; simp; omega)
    rw [dput_al] at p1
    have l1 := alput_len m lo true
    cases hi with
    | none =>
      refine ⟨[some (tableD ls), some (lotD ps), some (.lst (ss.map strD)), some (.lst (ls.map fun l => strD l.strt)), some (.ref 0), none, some (.int lo), some (hiD none), none], _, .inl ?_, rfl, _, _, rfl⟩
      rw [strD_put]
      simp [p1, gv_OPEN, addMark]
    | some k =>
      have p2 := putV_dict (S := [.dict (alK (alput m lo true)) (alV .bl (alput m lo true))]) (n := 0) (i := .int k) (k := .inl k) (d := .bl true) rfl rfl (by unfold alK sizeLine; simp; omega)
      rw [dput_al] at p2
      refine ⟨[some (tableD ls), some (lotD ps), some (.lst (ss.map strD)), some (.lst (ls.map fun l => strD l.strt)), some (.ref 0), none, some (.int lo), some (hiD (some k)), none], _, .inl ?_, rfl, _, _, rfl⟩
      rw [strD_put]
      have ek : hiD (some k) = .int k := rfl
      simp [p1, gv_OPEN, addMark]
      simp [ek, p2])
  clear hL
  obtain ⟨_, _, ml⟩ := met_keys (allStr ls ss) [(0, true)] (by simp)
  have hmm : metMarks (allStr ls ss) = (allStr ls ss).foldl addMark [(0, true)] := rfl
  rw [← hmm] at hX ml
  have bs := bSorted_al (S := [.dict (alK (metMarks (allStr ls ss))) (alV .bl (metMarks (allStr ls ss)))]) (n := 0) (m := metMarks (allStr ls ss)) rfl (by simp at ml; omega)
  have hms : sortN ((metMarks (allStr ls ss)).map (·.1)) = marksOf (allStr ls ss) := rfl
  rw [hms] at bs
  generalize marksOf (allStr ls ss) = ms at *
  generalize hdm : Ob.dict (alK (metMarks (allStr ls ss))) (alV .bl (metMarks (allStr ls ss))) = dm at hX bs ⊢
  have hml : ms.length ≤ 60 := by omega
  have szm : ms.length + 1 ≤ sizeLine := by unfold sizeLine; omega
  simp [bs, marksD, gv_OPEN, szm] at hX
  obtain ⟨m, mt, rfl⟩ : ∃ m mt, ms = m :: mt := by
    cases ms with
    | nil => simp at mP
    | cons m mt => exact ⟨m, mt, rfl⟩
  have ze := zip_edges m mt
  generalize hE : ((m :: mt).map fun k : Nat => D.int k) ++ [D.str "open"] = E at hX ze
  rw [List.drop_one] at ze
  simp only [ze, List.map_map, Function.comp_def] at hX
  rw [loopC_map rfl (fun s : Nat × Option Nat => D.tup [.int s.1, hiD s.2]) (fun s => pieceD s.1 s.2 (coverI ls ps s.1)) (segs (m :: mt)) (fun s hs => by
    refine turnR_put rfl ?_
    simp [r_covers hw, r_Piece]) (by rw [segs_len]; omega)] at hX
  simp at hX
  rw [← hX]
  rfl
theorem fnok_clash : fnOk G_accepts "shows_clash" = some fi_shows_clash := by kernel_rfl
theorem pieceL_cover (ls : List Ln) (ps : List LP) (ms : List Nat) : (segs ms).all (fun s => decide (coverI ls ps s.1 ≤ 0)) = ms.all fun x => decide (coverI ls ps x ≤ 0) := by
  conv => rhs; rw [← segs_fst ms]
  rw [List.all_map]
  rfl
theorem r_shows_clash {ls : List Ln} {ps : List LP} (h : LsOk ls) (hw : LotW ls ps) (hn : ps.length < 64) (c : D) (hc : c.clo = true) (S : Sto) : runF fi_shows_clash [tableD ls, c, lotD ps] S = .ok (.bl (clashB ls ps)) S := by
  refine runF_pure (S' := []) rfl rfl (by rw [cloL_cons, tableD_clo, cloL_cons, hc, cloL_cons, lotD_clo]; rfl) ?_ rfl
  rw [run_shows_clash]
  have h12 := h.le
  have e1 := r_is_lot (by omega) hw hn ([] : Sto)
  have e2 := r_worth h hw ([] : Sto)
  have e3 := r_pieces (ss := []) hw (by simp; omega) ([] : Sto)
  have e3 : runF fi_pieces [tableD ls, lotD ps, .lst []] [] = .ok (.lst (pieceL ls ps (marksOf (allStr ls [])))) [] := e3
  obtain ⟨mN, mM, mL, mP⟩ := marks_facts (allStr ls [])
  have hal : (allStr ls []).length ≤ 12 := by unfold allStr; simp; omega
  unfold clashB
  generalize marksOf (allStr ls []) = ms at *
  cases hb : isLotB ps with
  | false => simp [s_shows_clash, e1, hb]
  | true =>
    by_cases h1 : 1 ≤ worthI ls ps
    · have h1' : ¬ (worthI ls ps < 1) := by omega
      simp [s_shows_clash, e1, hb, e2, h1, h1', e3, pieceL, wipeD]
      rw [loopC_map rfl (fun s : Nat × Option Nat => pieceD s.1 s.2 (coverI ls ps s.1)) (fun s => .bl (decide (coverI ls ps s.1 ≤ 0))) (segs ms) (fun s hs => by
        refine turnR_none (by simp) ?_
        simp [pieceD]) (by rw [segs_len]; unfold sizeLine; omega)]
      have ba := bAll_map (S := ([] : Sto)) (fun s : Nat × Option Nat => decide (coverI ls ps s.1 ≤ 0)) (segs ms)
      rw [pieceL_cover] at ba
      simp [ba]
    · have h1' : worthI ls ps < 1 := by omega
      simp [s_shows_clash, e1, hb, e2, h1, h1']
theorem shapes_clash (S : Sto) : methK "get" ["possible", "clash", "count", "sum", "mean", "share"] [(.int 2), (.int 2), (.int 6), (.int 6), (.int 6), (.int 8)] [.str "clash", .int 0] = some (.int 2) := by
  simp [methK]
theorem r_accepts {ls : List Ln} {ps : List LP} (h : LsOk ls) (hw : LotW ls ps) (hn : ps.length < 64) (S : Sto) : runF fi_accepts [.tup [.str "clash", .str (textOf ls)], lotD ps] S = .ok (.bl (clashB ls ps)) S := by
  refine runF_pure (S' := []) rfl rfl (by rw [cloL_cons, cloL_cons, lotD_clo]; rfl) ?_ rfl
  show s_accepts [.tup [.str "clash", .str (textOf ls)], lotD ps] [] = _
  have e1 := r_text_table h ([] : Sto)
  have e2 := r_shows_clash h hw hn (.tup [.str "clash", .str (textOf ls)]) rfl ([] : Sto)
  simp [s_accepts, isInst, tyOfD, gv_SHAPES, shapes_clash ([] : Sto), e1, gv_SHOWS, fnok_clash, e2]
theorem r_accepts_no {ls : List Ln} {d : D} (h : LsOk ls) (hc : d.clo = true) (hn : runF fi_is_lot [tableD ls, d] [] = .ok (.bl false) []) (S : Sto) : runF fi_accepts [.tup [.str "clash", .str (textOf ls)], d] S = .ok (.bl false) S := by
  refine runF_pure (S' := []) rfl rfl (by rw [cloL_cons, cloL_cons, hc]; rfl) ?_ rfl
  show s_accepts [.tup [.str "clash", .str (textOf ls)], d] [] = _
  have e1 := r_text_table h ([] : Sto)
  have e2 : runF fi_shows_clash [tableD ls, .tup [.str "clash", .str (textOf ls)], d] [] = .ok (.bl false) [] := by
    refine runF_pure (S' := []) rfl rfl (by rw [cloL_cons, tableD_clo, cloL_cons, cloL_cons, hc]; rfl) ?_ rfl
    rw [run_shows_clash]
    simp [s_shows_clash, hn]
  simp [s_accepts, isInst, tyOfD, gv_SHAPES, shapes_clash ([] : Sto), e1, gv_SHOWS, fnok_clash, e2]

end K74
end

section
set_option Elab.async false
set_option linter.all false
set_option maxRecDepth 100000
set_option maxHeartbeats 4000000
namespace K74
open PySem L2 DV SX
set_option exponentiation.threshold 9000
def saidT (l : Ln) : D := .tup [.int l.lo, hiN l.hi, .int l.f.b1, optD l.f.b2]
def saidD (ls : List Ln) : D := .lst (ls.map saidT)
theorem saidT_clo (l : Ln) : (saidT l).clo = true := by unfold saidT; cases l.hi <;> cases l.f.b2 <;> rfl
theorem saidD_clo (ls : List Ln) : (saidD ls).clo = true := cloL_map _ saidT_clo ls
theorem said_at {ls : List Ln} {k : Nat} {l : Ln} (hg : ls[k]? = some l) {S : Sto} : getF S (saidD ls) (.int k) = some (saidT l) := by
  show getF S (.lst (ls.map saidT)) (.int k) = _
  rw [getF_lst, atI_ofNat, List.getElem?_map, hg]
  rfl
theorem said0 {l : Ln} {S : Sto} : getF S (saidT l) (.int 0) = some (.int l.lo) := by simp [saidT]
theorem said1 {l : Ln} {S : Sto} : getF S (saidT l) (.int 1) = some (hiN l.hi) := by simp [saidT]
theorem said2 {l : Ln} {S : Sto} : getF S (saidT l) (.int 2) = some (.int l.f.b1) := by simp [saidT]
theorem said3 {l : Ln} {S : Sto} : getF S (saidT l) (.int 3) = some (optD l.f.b2) := by simp [saidT]
theorem len_said {G : Gen} {ls : List Ln} {S : Sto} : callBO G "len" S [saidD ls] = .ok (.int (ls.length : Nat)) S := by
  show callBO G "len" S [.lst (ls.map saidT)] = _
  simp
theorem hiN_is {S : Sto} {hi : Option Nat} : cmpF .Is S (hiN hi) .non = some hi.isNone := by cases hi <;> rfl
theorem optD_is {S : Sto} {o : Option Int} : cmpF .Is S (optD o) .non = some o.isNone := by cases o <;> rfl
@[simp] theorem r_law_int (i : Int) (S : Sto) : runF fi__law_int [.int i] S = .ok (.bl true) S := by
  refine runF_pure (S' := []) rfl rfl rfl ?_ rfl
  show s__law_int [.int i] [] = _
  simp [s__law_int, isInst, tyOfD]
theorem r_law_is_lot {ls : List Ln} {ps : List LP} (hw : LotW ls ps) (hn : ps.length ≤ 1000) (S : Sto) : runF fi__law_is_lot [saidD ls, lotD ps] S = .ok (.bl (isLotB ps)) S := by
  have hc : cloL [saidD ls, lotD ps] = true := by rw [cloL_cons, saidD_clo, cloL_cons, lotD_clo]; rfl
  have main : ∃ S', s__law_is_lot [saidD ls, lotD ps] [] = .ok (.bl (isLotB ps)) S' := by
    generalize hX : s__law_is_lot [saidD ls, lotD ps] [] = X
    simp [s__law_is_lot, lotD, isInst, tyOfD] at hX
    generalize hL : loopF _ _ _ _ _ = L at hX
    rcases loopF_genR (fun p v S => isLotB p = true ∧ S = [.lst ((p.map LP.key).map keyT)] ∧ ∃ a, v = [some (saidD ls), some (.tup (ps.map LP.d)), some (.ref 0), a]) (fun d S => d = .bl false ∧ isLotB ps = false) hL rfl ⟨rfl, rfl, none, rfl⟩ (fun p x q v S e r => by
      obtain ⟨hp, rfl, a, rfl⟩ := r
      obtain ⟨l, h1, h2, _⟩ := hw x (by rw [← e]; simp)
      have hk : x.k < ls.length := (List.getElem?_eq_some_iff.mp h1).1
      have hsn := isLotB_snoc p x
      rw [hp, Bool.true_and] at hsn
      have no : isLotB (p ++ [x]) = false → isLotB ps = false := fun z => by
        cases hz : isLotB ps with
        | false => rfl
        | true =>
          have := isLotB_pre (p ++ [x]) q (by rw [List.append_assoc]; rw [← e] at hz; exact hz)
          rw [this] at z; cases z
      have hpl : p.length ≤ 1000 := by have := congrArg List.length e; simp at this; omega
      have ik : cmpF .In [Ob.lst ((p.map LP.key).map keyT)] (keyT x.key) (.ref 0) = _ := in_keys (n := 0) rfl
      have ek : keyT x.key = .tup [.int x.k, .str (lpW x.b)] := rfl
      rw [ek] at ik
      have nw := notin_words (S := [Ob.lst ((p.map LP.key).map keyT)]) (b := x.b)
      have sa := said_at h1 (S := [Ob.lst ((p.map LP.key).map keyT)])
      by_cases hwt : 1 ≤ x.wt
      · have hwt' : ¬ x.wt < 1 := by omega
        have c4 : x.b = false → l.f.b2.isNone = false := fun hb => by obtain ⟨m, hm⟩ := h2 hb; rw [hm]; rfl
        by_cases hin : x.key ∈ p.map LP.key
        · refine .inr ⟨.bl false, [Ob.lst ((p.map LP.key).map keyT)], ?_, rfl, no (by rw [hsn]; simp [hin])⟩
          have ik' : cmpF .In [Ob.lst ((p.map LP.key).map keyT)] (.tup [.int x.k, .str (lpW x.b)]) (.ref 0) = some true := by rw [ik]; simp [hin]
          clear ik
          generalize (p.map LP.key).map keyT = sn at *
          cases hb : x.b with
          | true =>
            rw [hb] at ik' nw
            simp [LP.d, isInst, tyOfD, hb, hwt, hwt', hk, len_said, sa, nw, said3, optD_is, ik', -lpW_least, -lpW_most, show (lpW true = Str.ofString "most") = False by simp]
          | false =>
            rw [hb] at ik' nw
            simp [LP.d, isInst, tyOfD, hb, hwt, hwt', hk, len_said, sa, nw, said3, optD_is, ik', c4 hb]
        · have ik' : cmpF .In [Ob.lst ((p.map LP.key).map keyT)] (.tup [.int x.k, .str (lpW x.b)]) (.ref 0) = some false := by rw [ik]; simp [hin]
          have ap := methL_append (xs := (p.map LP.key).map keyT) (d := .tup [.int x.k, .str (lpW x.b)]) (by simp; unfold sizeLine; omega)
          have e1 : (p.map LP.key).map keyT ++ [.tup [.int x.k, .str (lpW x.b)]] = ((p ++ [x]).map LP.key).map keyT := by simp [keyT, LP.key]
          rw [e1] at ap
          refine .inl ⟨[some (saidD ls), some (.tup (ps.map LP.d)), some (.ref 0), some x.d], [.lst (((p ++ [x]).map LP.key).map keyT)], .inl ?_, by rw [hsn]; simp [hin, hwt], rfl, _, rfl⟩
          clear ik
          generalize ((p ++ [x]).map LP.key).map keyT = sn' at *
          generalize (p.map LP.key).map keyT = sn at *
          cases hb : x.b with
          | true =>
            rw [hb] at ik' nw ap
            simp [LP.d, isInst, tyOfD, hb, hwt, hwt', hk, len_said, sa, nw, said3, optD_is, ik', atR_lstS (S := [.lst sn]) (n := 0) (xs0 := sn) rfl, atL_ok (S2 := [.lst sn]) (n := 0) (xs := sn) rfl, ap]
          | false =>
            rw [hb] at ik' nw ap
            simp [LP.d, isInst, tyOfD, hb, hwt, hwt', hk, len_said, sa, nw, said3, optD_is, ik', c4 hb, atR_lstS (S := [.lst sn]) (n := 0) (xs0 := sn) rfl, atL_ok (S2 := [.lst sn]) (n := 0) (xs := sn) rfl, ap]
      · have hwt' : x.wt < 1 := by omega
        refine .inr ⟨.bl false, [Ob.lst ((p.map LP.key).map keyT)], ?_, rfl, no (by rw [hsn]; simp [hwt])⟩
        generalize (p.map LP.key).map keyT = sn at *
        simp [LP.d, isInst, tyOfD, hwt, hwt', nw]) with ⟨v', S', rfl, q, _, _⟩ | ⟨d, S', rfl, rfl, q⟩
    · simp at hX
      exact ⟨S', by rw [← hX, q]⟩
    · simp at hX
      exact ⟨S', by rw [← hX, q]⟩
  obtain ⟨S', e⟩ := main
  exact runF_pure rfl rfl hc (by rw [run__law_is_lot]; exact e) rfl
theorem r_law_worth {ls : List Ln} {ps : List LP} (h : ∀ l ∈ ls, l.ok) (hw : LotW ls ps) (S : Sto) : runF fi__law_worth [saidD ls, lotD ps] S = .ok (.int (worthI ls ps)) S := by
  refine runF_pure (S' := []) rfl rfl (by rw [cloL_cons, saidD_clo, cloL_cons, lotD_clo]; rfl) ?_ rfl
  rw [run__law_worth]
  generalize hX : s__law_worth [saidD ls, lotD ps] [] = X
  simp [s__law_worth, lotD] at hX
  generalize hL : loopF _ _ _ _ _ = L at hX
  obtain ⟨v', S', rfl, rfl, a3, a4, a5, a6, rfl⟩ := loopF_genP (fun p v S => S = [] ∧ ∃ a3 a4 a5 a6, v = [some (saidD ls), some (.tup (ps.map LP.d)), some (.int (worthI ls p)), a3, a4, a5, a6]) hL rfl ⟨rfl, none, none, none, none, rfl⟩ (fun p x q v S e r => by
    obtain ⟨rfl, a3, a4, a5, a6, rfl⟩ := r
    obtain ⟨l, h1, h2, _⟩ := hw x (by rw [← e]; simp)
    have hm := hw.mid x (by rw [← e]; simp)
    have hlo := h l (List.mem_of_getElem? h1)
    obtain ⟨m1, m2⟩ := b_mid hlo.2.2
    have sa := said_at h1 (S := ([] : Sto))
    have ew : worthI ls (p ++ [x]) = worthI ls p + wor1 ls x := by unfold worthI; rw [List.map_append]; exact sum_snoc ..
    refine ⟨[some (saidD ls), some (.tup (ps.map LP.d)), some (.int (worthI ls (p ++ [x]))), some (.int x.k), some (.str (lpW x.b)), some (.int x.wt), some (.int (if x.b then l.f.b1 else -(l.f.b2.getD 0)))], [], .inl ?_, rfl, _, _, _, _, rfl⟩
    rw [ew]
    unfold wor1
    rw [h1]
    cases hb : x.b with
    | true => simp [LP.d, hb, sa, said2, mulOk_mid hm m1]
    | false =>
      obtain ⟨m, hm2⟩ := h2 hb
      have nm : Mid (-m) := by have := m2 m hm2; show (-m).natAbs < _; rw [Int.natAbs_neg]; exact this
      simp [LP.d, hb, sa, said3, hm2, optD, mulOk_mid hm nm, lpW, Int.mul_neg])
  simp at hX
  rw [← hX]
def lpInner (v : Slots) (S : Sto) : SRes := (forR v (itR (lk v 1 S)) (.many [10, 11, 12]) (fun v S =>
      (iteR v (andT (cmpR .LtE (subR (subR (lk v 0 S) fun S => (lk v 10 S)) fun S => (.ok (.int 0) S)) fun S => (subR (lk v 3 S) fun S => (lk v 5 S))) fun S => (orT (cmpR .Is (subR (subR (lk v 0 S) fun S => (lk v 10 S)) fun S => (.ok (.int 1) S)) fun S => (.ok .non S)) fun S => (cmpR .Lt (subR (lk v 3 S) fun S => (lk v 5 S)) fun S => (subR (subR (lk v 0 S) fun S => (lk v 10 S)) fun S => (.ok (.int 1) S))))) (fun S =>
        (setR v 9 (binR .Add (lk v 9 S) fun S => (ifR (cmpR .Eq (lk v 11 S) fun S => (.ok (.str "least") S)) (fun S => (lk v 12 S)) fun S => (binR .Sub (.ok (.int 0) S) fun S => (lk v 12 S))))).seq fun v S =>
        .nx v S)
      fun S => .nx v S).seq fun v S =>
      .nx v S))
def lpBody (v : Slots) (S : Sto) : SRes :=
    (setR v 9 (.ok (.int 0) S)).seq fun v S =>
    (lpInner v S).seq fun v S =>
    (expR v (meR G__law_pieces "append" (lk v 8 S) fun S => (consR (obR (lstR (consR (subR (lk v 3 S) fun S => (lk v 5 S)) fun S => consR (subR (lk v 3 S) fun S => (binR .Add (lk v 5 S) fun S => (.ok (.int 1) S))) fun S => consR (lk v 9 S) fun S => .ok [] S))) fun S => .ok [] S))).seq fun v S =>
    .nx v S
theorem pieces_eq (args : List D) (S : Sto) : s__law_pieces args S = (finR <|
  let v := begR 3 13 args
  (setR v 3 (obR (lstR (consR (.ok (.int 0) S) fun S => .ok [] S)))).seq fun v S =>
  (forR v (itR (lk v 0 S)) (.one 4) (fun v S =>
    (setR v 3 (binR .Add (binR .Add (lk v 3 S) fun S => (obR (lstR (consR (subR (lk v 4 S) fun S => (.ok (.int 0) S)) fun S => .ok [] S)))) fun S => (ifR (cmpR .Is (subR (lk v 4 S) fun S => (.ok (.int 1) S)) fun S => (.ok .non S)) (fun S => (obR (lstR (.ok [] S)))) fun S => (obR (lstR (consR (subR (lk v 4 S) fun S => (.ok (.int 1) S)) fun S => .ok [] S)))))).seq fun v S =>
    .nx v S)).seq fun v S =>
  (forR v (itR (lk v 2 S)) (.many [6, 7]) (fun v S =>
    (setR v 3 (binR .Add (binR .Add (lk v 3 S) fun S => (obR (lstR (consR (lk v 6 S) fun S => .ok [] S)))) fun S => (ifR (cmpR .Eq (lk v 7 S) fun S => (.ok (.str "open") S)) (fun S => (obR (lstR (.ok [] S)))) fun S => (obR (lstR (consR (lk v 7 S) fun S => .ok [] S)))))).seq fun v S =>
    .nx v S)).seq fun v S =>
  (setsR v [3, 8] (consR (binR .Add (setFR "sorted" (lk v 3 S)) fun S => (obR (lstR (consR (.ok .non S) fun S => .ok [] S)))) fun S => consR (allocR (lstR (.ok [] S))) fun S => .ok [] S)).seq fun v S =>
  (forR v (rng1 (consR (binR .Sub (boR G__law_pieces "len" (consR (lk v 3 S) fun S => .ok [] S)) fun S => (.ok (.int 1) S)) fun S => .ok [] S)) (.one 5) lpBody).seq fun v S =>
  (retR v (lk v 8 S)).seq fun v S =>
  .nx v S) := rfl

theorem lp_inner {ls : List Ln} {ps : List LP} {M : List D} {k x : Nat} {a2 a4 a6 a7 a8 b10 b11 b12 : Option D} {S : Sto} (hw : LotW ls ps) (hM : ∀ S, getF S (.lst M) (.int k) = some (.int x)) :
    ∃ c10 c11 c12, lpInner [some (saidD ls), some (lotD ps), a2, some (.lst M), a4, some (.int k), a6, a7, a8, some (.int 0), b10, b11, b12] S = .nx [some (saidD ls), some (lotD ps), a2, some (.lst M), a4, some (.int k), a6, a7, a8, some (.int (coverI ls ps x)), c10, c11, c12] S := by
  generalize hX : lpInner [some (saidD ls), some (lotD ps), a2, some (.lst M), a4, some (.int k), a6, a7, a8, some (.int 0), b10, b11, b12] S = X
  simp only [lpInner, lotD, lk_succ, lk_zero, itR_ok, itS_tup, opt_some, forR_ok] at hX
  obtain ⟨v', S', rfl, rfl, a3, a4, a5, rfl⟩ := loopF_genP (fun p v S' => S' = S ∧ ∃ c10 c11 c12, v = [some (saidD ls), some (lotD ps), a2, some (.lst M), a4, some (.int k), a6, a7, a8, some (.int (coverI ls p x)), c10, c11, c12]) hX rfl ⟨rfl, b10, b11, b12, rfl⟩ (fun p y q v S' e r => by
    obtain ⟨rfl, c10, c11, c12, rfl⟩ := r
    obtain ⟨l, h1, h2, _⟩ := hw y (by rw [← e]; simp)
    have sa := said_at h1 (S := S')
    have hM' := hM S'
    have ew : coverI ls (p ++ [y]) x = coverI ls p x + cov1 ls x y := by unfold coverI; rw [List.map_append]; exact sum_snoc ..
    refine ⟨[some (saidD ls), some (lotD ps), a2, some (.lst M), a4, some (.int k), a6, a7, a8, some (.int (coverI ls (p ++ [y]) x)), some (.int y.k), some (.str (lpW y.b)), some (.int y.wt)], S', .inl ?_, rfl, _, _, _, rfl⟩
    rw [ew]
    unfold cov1
    rw [h1]
    dsimp only
    cases hh : l.hi with
    | none =>
      rw [inL_n hh]
      by_cases c1 : l.lo ≤ x
      · cases hb : y.b <;> simp [-getF_lst, LP.d, hb, sa, said0, said1, hh, hM', c1, lpW, hiN]
      · cases hb : y.b <;> simp [-getF_lst, LP.d, hb, sa, said0, said1, hh, hM', c1, lpW, hiN]
    | some k2 =>
      rw [inL_s hh]
      by_cases c1 : l.lo ≤ x
      · by_cases c2 : x < k2
        · cases hb : y.b <;> simp [-getF_lst, LP.d, hb, sa, said0, said1, hh, hM', c1, c2, lpW, hiN]
        · cases hb : y.b <;> simp [-getF_lst, LP.d, hb, sa, said0, said1, hh, hM', c1, c2, lpW, hiN]
      · cases hb : y.b <;> simp [-getF_lst, LP.d, hb, sa, said0, said1, hh, hM', c1, lpW, hiN])
  exact ⟨a3, a4, a5, rfl⟩

end K74
end

section
set_option Elab.async false
set_option linter.all false
set_option maxRecDepth 100000
set_option maxHeartbeats 4000000
namespace K74
open PySem L2 DV SX
def lawPieceD (ls : List Ln) (ps : List LP) (s : Nat × Option Nat) : D := .lst [.int s.1, hiN s.2, .int (coverI ls ps s.1)]
theorem lawPieceD_clo (ls : List Ln) (ps : List LP) (s : Nat × Option Nat) : (lawPieceD ls ps s).clo = true := by unfold lawPieceD; cases s.2 <;> rfl
theorem r_law_pieces {ls : List Ln} {ps : List LP} {ss : List Strt} (hw : LotW ls ps) (hn : ls.length + ss.length ≤ 20) (S : Sto) : runF fi__law_pieces [saidD ls, lotD ps, .lst (ss.map strD)] S = .ok (.lst ((segs (marksOf (allStr ls ss))).map (lawPieceD ls ps))) S := by
  have hss : cloL (ss.map strD) = true := cloL_map _ (fun s => by obtain ⟨a, b⟩ := s; cases b <;> rfl) ss
  have hc : cloL [saidD ls, lotD ps, .lst (ss.map strD)] = true := by rw [cloL_cons, saidD_clo, cloL_cons, lotD_clo]; show (true && (true && (cloL (ss.map strD) && true))) = true; rw [hss]; rfl
  obtain ⟨mN, mM, mL, mP⟩ := marks_facts (allStr ls ss)
  have hal : (allStr ls ss).length ≤ 20 := by unfold allStr; simp; omega
  refine runF_pureZ (S' := [.lst ((segs (marksOf (allStr ls ss))).map (lawPieceD ls ps))]) rfl rfl hc ?_ (fz_refL (n := 6) (k := 0) rfl (cloL_map _ (lawPieceD_clo ls ps) _))
  rw [run__law_pieces]
  generalize hX : s__law_pieces [saidD ls, lotD ps, .lst (ss.map strD)] [] = X
  rw [pieces_eq] at hX
  simp [saidD] at hX
  generalize hL : loopF _ _ _ _ _ = L at hX
  obtain ⟨v1, S1, rfl, rfl, a4, rfl⟩ := loopF_genP (fun p v S => S = [] ∧ ∃ a4, v = [some (saidD ls), some (lotD ps), some (.lst (ss.map strD)), some (.lst ((rawM (p.map Ln.strt)).map fun k : Nat => .int k)), a4, none, none, none, none, none, none, none, none]) hL rfl ⟨rfl, none, rfl⟩ (fun p l q v S e r => by
    obtain ⟨rfl, a4, rfl⟩ := r
    have hp : p.length ≤ 20 := by have := congrArg List.length e; simp at this; omega
    have hr := rawM_len (p.map Ln.strt)
    rw [List.length_map] at hr
    have ew : (rawM ((p ++ [l]).map Ln.strt)).map (fun k : Nat => D.int k) = ((rawM (p.map Ln.strt)).map fun k : Nat => D.int k) ++ ((strM l.strt).map fun k : Nat => D.int k) := by
      rw [List.map_append, List.map_cons, List.map_nil, rawM_snoc, List.map_append]
    refine ⟨[some (saidD ls), some (lotD ps), some (.lst (ss.map strD)), some (.lst ((rawM ((p ++ [l]).map Ln.strt)).map fun k : Nat => .int k)), some (saidT l), none, none, none, none, none, none, none, none], [], .inl ?_, rfl, _, rfl⟩
    rw [ew]
    generalize hR : (rawM (p.map Ln.strt)).map (fun k : Nat => D.int k) = R
    have hRl : R.length ≤ 41 := by rw [← hR, List.length_map]; omega
    have z1 : R.length + 1 ≤ sizeLine := by unfold sizeLine; omega
    have z2 : R.length + 1 + 1 ≤ sizeLine := by unfold sizeLine; omega
    simp only [put_one, List.length_cons, List.length_nil]
    cases hh : l.hi with
    | none => simp [said0, said1, hiN_is, hh, strM, Ln.strt, z1]
    | some k => simp [said0, said1, hiN_is, hh, strM, Ln.strt, z1, z2, hiN])
  clear hL
  simp at hX
  generalize hL : loopF _ _ _ _ _ = L at hX
  obtain ⟨v1, S1, rfl, rfl, a6, a7, rfl⟩ := loopF_genP (fun p v S => S = [] ∧ ∃ a6 a7, v = [some (saidD ls), some (lotD ps), some (.lst (ss.map strD)), some (.lst ((rawM (allStr ls p)).map fun k : Nat => .int k)), a4, none, a6, a7, none, none, none, none, none]) hL rfl ⟨rfl, none, none, by simp [allStr]⟩ (fun p s q v S e r => by
    obtain ⟨rfl, a6, a7, rfl⟩ := r
    have hp : p.length + 1 + q.length = ss.length := by have := congrArg List.length e; simp at this; omega
    have hr := rawM_len (allStr ls p)
    have hla : (allStr ls p).length ≤ 20 := by unfold allStr; simp; omega
    have ew : (rawM (allStr ls (p ++ [s]))).map (fun k : Nat => D.int k) = ((rawM (allStr ls p)).map fun k : Nat => D.int k) ++ ((strM s).map fun k : Nat => D.int k) := by
      have : allStr ls (p ++ [s]) = allStr ls p ++ [s] := by unfold allStr; simp
      rw [this, rawM_snoc, List.map_append]
    obtain ⟨lo, hi⟩ := s
    refine ⟨[some (saidD ls), some (lotD ps), some (.lst (ss.map strD)), some (.lst ((rawM (allStr ls (p ++ [(lo, hi)]))).map fun k : Nat => .int k)), a4, none, some (.int lo), some (hiD hi), none, none, none, none, none], [], .inl ?_, rfl, _, _, rfl⟩
    rw [ew]
    generalize hR : (rawM (allStr ls p)).map (fun k : Nat => D.int k) = R
    have hRl : R.length ≤ 41 := by rw [← hR, List.length_map]; omega
    have z1 : R.length + 1 ≤ sizeLine := by unfold sizeLine; omega
    have z2 : R.length + 1 + 1 ≤ sizeLine := by unfold sizeLine; omega
    cases hi with
    | none => simp [strM, strD, z1]
    | some k => simp [strM, strD, z1, z2]; simp [hiD])
  clear hL
  have st := set_raw (S := ([] : Sto)) (allStr ls ss) hal
  generalize marksOf (allStr ls ss) = ms at *
  generalize (rawM (allStr ls ss)).map (fun k : Nat => D.int k) = R at *
  have z3 : ms.length + 1 ≤ sizeLine := by unfold sizeLine; omega
  have er := rng1_nat (S := ([.lst []] : Sto)) (i := ms.length) (by omega)
  simp [st, z3, er] at hX
  generalize hM : (ms.map fun k : Nat => D.int k) ++ [D.non] = M at hX
  generalize hL : loopF _ _ _ _ _ = L at hX
  have gM : ∀ (k : Nat) (h : k < ms.length) (S : Sto), getF S (.lst M) (.int k) = some (.int ms[k]) := fun k h S => by
    rw [getF_lst, atI_ofNat, ← hM, List.getElem?_append_left (by simpa using h), List.getElem?_map, List.getElem?_eq_getElem h]
    rfl
  have gM1 : ∀ (k : Nat) (h : k < ms.length) (S : Sto), getF S (.lst M) (.int (k + 1)) = some (hiN ms[k + 1]?) := fun k h S => by
    rw [show (k : Int) + 1 = ((k + 1 : Nat) : Int) by omega, getF_lst, atI_ofNat, ← hM]
    by_cases hk : k + 1 < ms.length
    · rw [List.getElem?_append_left (by simpa using hk), List.getElem?_map, List.getElem?_eq_getElem hk]; rfl
    · rw [List.getElem?_append_right (by simp; omega), List.getElem?_eq_none (by omega : ms.length ≤ k + 1)]
      have : k + 1 - (ms.map fun k : Nat => D.int k).length = 0 := by simp; omega
      rw [this]; rfl
  obtain ⟨v1, S1, rfl, rfl, b5, b9, b10, b11, b12, rfl⟩ := loopF_genP (fun p v S => S = [.lst (((segs ms).take p.length).map (lawPieceD ls ps))] ∧ ∃ b5 b9 b10 b11 b12, v = [some (saidD ls), some (lotD ps), some (.lst (ss.map strD)), some (.lst M), a4, b5, a6, a7, some (.ref 0), b9, b10, b11, b12]) hL rfl ⟨rfl, none, none, none, none, none, rfl⟩ (fun p k q v S e r => by
    obtain ⟨rfl, b5, b9, b10, b11, b12, rfl⟩ := r
    obtain ⟨ha, hpq⟩ := range_split e
    have hk : k < ms.length := by omega
    obtain ⟨c10, c11, c12, ei⟩ := lp_inner (ls := ls) (ps := ps) (M := M) (k := k) (x := ms[k]) (a2 := some (.lst (ss.map strD))) (a4 := a4) (a6 := a6) (a7 := a7) (a8 := some (.ref 0)) (b10 := b10) (b11 := b11) (b12 := b12) (S := [.lst (((segs ms).take p.length).map (lawPieceD ls ps))]) hw (gM k hk)
    have sl := segs_len ms
    have e1 : ((segs ms).take p.length).map (lawPieceD ls ps) ++ [.lst [.int ms[k], hiN ms[k + 1]?, .int (coverI ls ps ms[k])]] = ((segs ms).take (p ++ [k]).length).map (lawPieceD ls ps) := by
      have hk2 : p.length < (segs ms).length := by omega
      have hs := segs_at hk
      rw [← ha] at hk2 ⊢
      rw [List.length_append, List.length_singleton, ← ha, List.take_succ_eq_append_getElem hk2, List.map_append]
      have : (segs ms)[k] = (ms[k], ms[k + 1]?) := by rw [List.getElem?_eq_getElem hk2] at hs; simpa using hs
      rw [this]; rfl
    have ap := methL_append (xs := ((segs ms).take p.length).map (lawPieceD ls ps)) (d := .lst [.int ms[k], hiN ms[k + 1]?, .int (coverI ls ps ms[k])]) (by simp; unfold sizeLine; omega)
    rw [e1] at ap
    refine ⟨[some (saidD ls), some (lotD ps), some (.lst (ss.map strD)), some (.lst M), a4, some (.int k), a6, a7, some (.ref 0), some (.int (coverI ls ps ms[k])), c10, c11, c12], [.lst (((segs ms).take (p ++ [k]).length).map (lawPieceD ls ps))], .inl ?_, rfl, _, _, _, _, _, rfl⟩
    have g0 := gM k hk [.lst (((segs ms).take p.length).map (lawPieceD ls ps))]
    have g1 := gM1 k hk [.lst (((segs ms).take p.length).map (lawPieceD ls ps))]
    clear e1
    generalize ((segs ms).take (p ++ [k]).length).map (lawPieceD ls ps) = sn' at *
    generalize ((segs ms).take p.length).map (lawPieceD ls ps) = sn at *
    simp [lpBody, ei, -getF_lst, g0, g1, atR_lstS (S := [.lst sn]) (n := 0) (xs0 := sn) rfl, atL_ok (S2 := [.lst sn]) (n := 0) (xs := sn) rfl, ap])
  have tk : (segs ms).take (List.range ms.length).length = segs ms := by rw [List.length_range, ← segs_len ms, List.take_length]
  rw [tk] at hX
  simp at hX
  rw [← hX]

end K74
end

section
set_option Elab.async false
set_option linter.all false
set_option maxRecDepth 100000
set_option maxHeartbeats 4000000
namespace K74
open PySem L2 DV SX
set_option exponentiation.threshold 9000
def LotB (B : Nat) (ls : List Ln) (ps : List LP) : Prop := ∀ p ∈ ps, ∃ l, ls[p.k]? = some l ∧ (p.b = false → ∃ m, l.f.b2 = some m) ∧ p.wt.natAbs ≤ B
theorem LotB.w {B : Nat} {ls : List Ln} {ps : List LP} (h : LotB B ls ps) (hB : B ≤ 10 ^ 12) : LotW ls ps := fun p hp => by
  obtain ⟨l, h1, h2, h3⟩ := h p hp
  exact ⟨l, h1, h2, Nat.lt_of_le_of_lt (Nat.le_trans h3 hB) (by decide +kernel)⟩
theorem LotB.mono {B C : Nat} {ls : List Ln} {ps : List LP} (h : LotB B ls ps) (hB : B ≤ C) : LotB C ls ps := fun p hp => by
  obtain ⟨l, h1, h2, h3⟩ := h p hp
  exact ⟨l, h1, h2, Nat.le_trans h3 hB⟩
theorem LotB.put {B C : Nat} {ls : List Ln} {ps : List LP} {y : LP} (h : LotB B ls ps) (hB : B ≤ C) (a b : Nat) (hy : ∃ l, ls[y.k]? = some l ∧ (y.b = false → ∃ m, l.f.b2 = some m) ∧ y.wt.natAbs ≤ C) : LotB C ls (ps.take a ++ y :: ps.drop b) := fun p hp => by
  rcases List.mem_append.mp hp with q | q
  · exact h.mono hB p (List.mem_of_mem_take q)
  · rcases List.mem_cons.mp q with rfl | q
    · exact hy
    · exact h.mono hB p (List.mem_of_mem_drop q)
def lpPy (p : LP) : PyData := .tuple [.int p.k, .str (lpW p.b), .int p.wt]
theorem toPys_lp : ∀ xs : List LP, toPys (xs.map LP.d) = some (xs.map lpPy)
  | [] => rfl
  | x :: xs => by
    show (match toPy x.d, toPys (xs.map LP.d) with | some d, some ds => some (d :: ds) | _, _ => none) = _
    rw [toPys_lp xs]; rfl
theorem lay_lp : ∀ xs : List LP, PyData.canLayAll0 (xs.map lpPy) = true ∧ PyData.depthAll (xs.map lpPy) ≤ 1
  | [] => by simp [PyData.canLayAll0, PyData.depthAll]
  | x :: xs => by
    have ih := lay_lp xs
    have e1 : (lpPy x).canLay0 = true := by simp [lpPy, PyData.canLay0, PyData.canLayAll0, strOk_lpW]
    have e2 : (lpPy x).depth = 1 := by simp [lpPy, PyData.depth, PyData.depthAll]
    simp only [List.map_cons, PyData.canLayAll0, PyData.depthAll, e1, e2, ih.1]
    exact ⟨rfl, by omega⟩
theorem eq_emptyL {S : Sto} (ps : List LP) : cmpF .Eq S (lotD ps) (.tup []) = some ps.isEmpty := by
  refine cmpF_of ?_
  show deq (lotD ps) (.tup []) = _
  have e : deq (lotD ps) (.tup []) = (match toPy (lotD ps), toPy (.tup []) with
    | some d, some e => if SeqAt.shaped d && SeqAt.shaped e then some (PyData.eqv d e) else none
    | _, _ => none) := rfl
  rw [e]
  have e1 : toPy (lotD ps) = some (.tuple (ps.map lpPy)) := by
    show (toPys (ps.map LP.d)).map PyData.tuple = _
    rw [toPys_lp]; rfl
  have e2 : toPy (.tup []) = some (.tuple []) := rfl
  have e3 : SeqAt.shaped (.tuple []) = true := rfl
  have e4 : SeqAt.shaped (.tuple (ps.map lpPy)) = true := by
    obtain ⟨h1, h2⟩ := lay_lp ps
    unfold SeqAt.shaped
    simp [PyData.canLay0, h1, PyData.depth]
    omega
  rw [e1, e2]
  simp only [e4, e3, Bool.and_self, if_true]
  cases ps <;> simp [PyData.eqv, PyData.eqvAll]
theorem r_bent {n : Nat} {S : Sto} {w B : Nat} {ls : List Ln} {ps : List LP} (W : Wl (n + 10) S w) (hls : 1 ≤ ls.length) (hl2 : ls.length ≤ 100) (hpl : ps.length ≤ 100) (hB : B ≤ 1000000000) (h : LotB B ls ps) :
    ∃ (qs : List LP) (S' : Sto), LotB (2 * B + 10) ls qs ∧ qs.length ≤ ps.length + 1 ∧ Wl n S' w ∧ Fr w S S' ∧ runF fi__law_bent [.ref w, saidD ls, lotD ps] S = .ok (lotD qs) S' := by
  have sz : (1000 : Nat) ≤ sizeLine := by unfold sizeLine; omega
  have lenL : ∀ (G : Gen) (S : Sto), callBO G "len" S [lotD ps] = .ok (.int (ps.length : Nat)) S := fun G S => by
    show callBO G "len" S [.tup (ps.map LP.d)] = _
    simp
  have cutT : ∀ k : Nat, (ps.map LP.d).take k = (ps.take k).map LP.d := fun k => by rw [List.map_take]
  have cutF : ∀ k : Nat, (ps.map LP.d).drop k = (ps.drop k).map LP.d := fun k => by rw [List.map_drop]
  have slT : ∀ (k : Nat) (S : Sto), sliceV S (lotD ps) none (some (k : Int)) = some (.tup ((ps.take k).map LP.d)) := fun k S => by
    show sliceV S (.tup (ps.map LP.d)) none (some (k : Int)) = _
    rw [sliceV_tup, cutD_to, cutT]
  have slF : ∀ (k : Nat) (S : Sto), sliceV S (lotD ps) (some (k : Int)) none = some (.tup ((ps.drop k).map LP.d)) := fun k S => by
    show sliceV S (.tup (ps.map LP.d)) (some (k : Int)) none = _
    rw [sliceV_tup, cutD_from, cutF]
  have putD : ∀ (a b : Nat) (y : LP), (ps.take a).map LP.d ++ y.d :: (ps.drop b).map LP.d = (ps.take a ++ y :: ps.drop b).map LP.d := fun a b y => by simp
  have zA : ∀ k : Nat, ((ps.take k).map LP.d).length + 1 ≤ sizeLine := fun k => by simp; omega
  have zC : ∀ k j : Nat, ((ps.take k).map LP.d).length + 1 + ((ps.drop j).map LP.d).length ≤ sizeLine := fun k j => by simp; omega
  have zD : ∀ k j : Nat, ((ps.take k).map LP.d).length + ((ps.drop j).map LP.d).length ≤ sizeLine := fun k j => by simp; omega
  have gl : ∀ (k : Nat) (hk : k < ls.length), getF S (saidD ls) (.int k) = some (saidT ls[k]) := fun k hk => said_at (List.getElem?_eq_getElem hk)
  generalize hX : s__law_bent [.ref w, saidD ls, lotD ps] S = X
  suffices main : ∃ (qs : List LP) (S' : Sto), LotB (2 * B + 10) ls qs ∧ qs.length ≤ ps.length + 1 ∧ Wl n S' w ∧ Fr w S S' ∧ X = .ok (lotD qs) S' by
    obtain ⟨qs, S', a1, a2, a3, a4, a5⟩ := main
    exact ⟨qs, S', a1, a2, a3, a4, runF_raw rfl rfl (by rw [run__law_bent, hX]; exact a5) (fun _ e => by cases e)⟩
  obtain ⟨r, S1, hr, W1, F1, e1⟩ := r_draw (n := n + 9) (S := S) (w := w) (W.mono (by omega)) (many := (ps.length : Int) + 1) (by omega) (by omega)
  obtain ⟨y, S2, hy, W2, F2, e2⟩ := r_draw (n := n + 8) (S := S1) (w := w) (W1.mono (by omega)) (many := 5) (by omega) (by omega)
  have ee := eq_emptyL (S := S2) ps
  by_cases hfirst : y = 0 ∨ ps = []
  · obtain ⟨k, S3, hk, W3, F3, e3⟩ := r_draw (n := n + 7) (S := S2) (w := w) (W2.mono (by omega)) (many := (ls.length : Nat)) (by omega) (by omega)
    have hk' : k < ls.length := by omega
    have sa := said_at (List.getElem?_eq_getElem hk') (S := S3)
    obtain ⟨b, S4, hb, W4, F4, e4⟩ : ∃ (b : Bool) (S4 : Sto), (b = false → ∃ m, (ls[k]).f.b2 = some m) ∧ Wl (n + 6) S4 w ∧ Fr w S3 S4 ∧ ∀ v : Slots, v[0]? = some (some (.ref w)) → v[1]? = some (some (saidD ls)) → v[5]? = some (some (.int k)) → (ifR (cmpR .Is (subR (subR (lk v 1 S3) fun S => (lk v 5 S)) fun S => (.ok (.int 3) S)) fun S => (.ok .non S)) (fun S => (.ok (.str "least") S)) fun S => (fnR fi__law_pick (consR (lk v 0 S) fun S => consR (obR (lstR (consR (.ok (.str "least") S) fun S => consR (.ok (.str "most") S) fun S => .ok [] S))) fun S => .ok [] S))) = .ok (.str (lpW b)) S4 := by
      cases hm : (ls[k]).f.b2 with
      | none =>
        refine ⟨true, S3, (fun e => by cases e), W3.mono (by omega), .refl .., fun v h0 h1 h5 => ?_⟩
        have l0 : lk v 0 S3 = .ok (.ref w) S3 := by unfold lk; rw [h0]; rfl
        have l1 : lk v 1 S3 = .ok (saidD ls) S3 := by unfold lk; rw [h1]; rfl
        have l5 : lk v 5 S3 = .ok (.int k) S3 := by unfold lk; rw [h5]; rfl
        simp [l0, l1, l5, sa, said3, optD_is, hm, lpW]
      | some m =>
        obtain ⟨x, S4, hx, W4, F4, e4⟩ := r_pick (n := n + 6) (S := S3) (w := w) (xs := [.str "least", .str "most"]) (W3.mono (by omega)) (by simp) (by simp) rfl
        obtain ⟨b, rfl⟩ : ∃ b, x = .str (lpW b) := by
          simp at hx
          rcases hx with rfl | rfl
          · exact ⟨true, rfl⟩
          · exact ⟨false, rfl⟩
        refine ⟨b, S4, fun _ => ⟨m, rfl⟩, W4, F4, fun v h0 h1 h5 => ?_⟩
        have l0 : lk v 0 S3 = .ok (.ref w) S3 := by unfold lk; rw [h0]; rfl
        have l1 : lk v 1 S3 = .ok (saidD ls) S3 := by unfold lk; rw [h1]; rfl
        have l5 : lk v 5 S3 = .ok (.int k) S3 := by unfold lk; rw [h5]; rfl
        simp [l0, l1, l5, sa, said3, optD_is, hm, e4]
    obtain ⟨z, S5, hz, W5, F5, e5⟩ := r_draw (n := n + 5) (S := S4) (w := w) (W4.mono (by omega)) (many := 3) (by omega) (by omega)
    have htest : ∀ (a : D → Prop) , True := fun _ => trivial
    have hor : (orT (.ok (decide (y = 0)) S2) fun S => Res.opt S (some ps.isEmpty)) = .ok true S2 := by
      rcases hfirst with h | h
      · simp [h]
      · subst h
        by_cases hy0 : y = 0 <;> simp [hy0]
    have pd := putD r r ⟨k, b, 1 + (z : Int)⟩
    have e4' := fun v h0 h1 h5 => e4 v h0 h1 h5
    refine ⟨ps.take r ++ ⟨k, b, 1 + (z : Int)⟩ :: ps.drop r, S5, h.put (by omega) r r ⟨ls[k], List.getElem?_eq_getElem hk', hb, by show (1 + (z : Int)).natAbs ≤ _; omega⟩, by simp; omega, W5.mono (by omega), (((F1.trans F2).trans F3).trans F4).trans F5, ?_⟩
    rw [← hX]
    have ed : lotD (ps.take r ++ ⟨k, b, 1 + (z : Int)⟩ :: ps.drop r) = .tup ((ps.take r).map LP.d ++ .tup [.int k, .str (lpW b), .int (1 + (z : Int))] :: (ps.drop r).map LP.d) := by
      show D.tup _ = _
      rw [← pd]; rfl
    rw [ed]
    have e4'' := e4 [some (.ref w), some (saidD ls), some (lotD ps), some (.int r), some (.int y), some (.int k), none, none, none, none, none, none, none] rfl rfl rfl
    have zA := zA r
    have zC := zC r r
    have slT := slT r
    have slF := slF r
    simp only [s__law_bent]
    generalize (ps.take r).map LP.d = A at *
    generalize (ps.drop r).map LP.d = C at *
    rcases hfirst with h | h
    · subst h
      simp at e4''
      simp [lenL, e1, e2, len_said, e3, e4'', e5, slT, slF, zA, zC]
    · have : ps.isEmpty = true := by rw [h]; rfl
      rw [this] at ee
      by_cases hy0 : y = 0
      · subst hy0
        simp at e4''
        simp [lenL, e1, e2, len_said, e3, e4'', e5, slT, slF, zA, zC]
      · simp at e4''
        simp [lenL, e1, e2, hy0, ee, len_said, e3, e4'', e5, slT, slF, zA, zC]
  · have hy0 : ¬ y = 0 := fun e => hfirst (.inl e)
    have hne : ps ≠ [] := fun e => hfirst (.inr e)
    have hpos : 0 < ps.length := List.length_pos_iff.mpr hne
    have hem : ps.isEmpty = false := by simpa using hne
    rw [hem] at ee
    obtain ⟨q, hq, eq⟩ : ∃ q : Nat, q < ps.length ∧ bMin [.int r, .int ((ps.length : Int) - 1)] = some (.int (q : Nat)) := by
      by_cases hc : (ps.length : Int) - 1 < r
      · exact ⟨ps.length - 1, by omega, by rw [bMin_int, if_pos hc, show (ps.length : Int) - 1 = ((ps.length - 1 : Nat) : Int) by omega]⟩
      · exact ⟨r, by omega, by rw [bMin_int, if_neg hc]⟩
    have hp := h ps[q] (List.getElem_mem _)
    have hg : getF S2 (lotD ps) (.int q) = some (.tup [.int ps[q].k, .str (lpW ps[q].b), .int ps[q].wt]) := by
      show getF S2 (.tup (ps.map LP.d)) (.int q) = _
      rw [getF_natT (by simpa using hq)]
      simp [LP.d]
    generalize ps[q] = x at hp hg
    obtain ⟨l, x1, x2, x3⟩ := hp
    have er : (q : Int) + 1 = ((q + 1 : Nat) : Int) := by omega
    have slTq := slT q
    have slFq : ∀ S : Sto, sliceV S (lotD ps) (some ((q : Int) + 1)) none = some (.tup ((ps.drop (q + 1)).map LP.d)) := fun S => by rw [er]; exact slF (q + 1) S
    clear slF er
    have zAq := zA q
    have zCq := zC q (q + 1)
    have zDq := zD q (q + 1)
    have pdq := putD q (q + 1)
    simp only [s__law_bent] at hX
    have y5 : y < 5 := by omega
    rcases (show y = 1 ∨ y = 2 ∨ y = 3 ∨ y = 4 by omega) with hyy | hyy | hyy | hyy
    · subst hyy
      refine ⟨ps.take q ++ ps.drop (q + 1), S2, fun p hp => ?_, by simp; omega, W2.mono (by omega), F1.trans F2, ?_⟩
      · rcases List.mem_append.mp hp with t | t
        · exact h.mono (by omega) p (List.mem_of_mem_take t)
        · exact h.mono (by omega) p (List.mem_of_mem_drop t)
      · have ed : lotD (ps.take q ++ ps.drop (q + 1)) = .tup ((ps.take q).map LP.d ++ (ps.drop (q + 1)).map LP.d) := by
          show D.tup _ = _
          rw [List.map_append]
        rw [ed, ← hX]
        clear pdq cutT cutF
        generalize (ps.take q).map LP.d = A at *
        generalize (ps.drop (q + 1)).map LP.d = C at *
        simp [lenL, e1, e2, ee, eq, hg, slTq, slFq, zDq]
    · subst hyy
      obtain ⟨t, S3, ht, W3, F3, e3⟩ := r_pick (n := n + 7) (S := S2) (w := w) (xs := [.int 1, .int (-1), .int 5]) (W2.mono (by omega)) (by simp) (by simp) rfl
      obtain ⟨u, rfl, hu⟩ : ∃ u : Int, t = .int u ∧ u.natAbs ≤ 5 := by
        simp at ht
        rcases ht with rfl | rfl | rfl
        · exact ⟨1, rfl, by decide⟩
        · exact ⟨-1, rfl, by decide⟩
        · exact ⟨5, rfl, by decide⟩
      refine ⟨ps.take q ++ ⟨x.k, x.b, x.wt + u⟩ :: ps.drop (q + 1), S3, h.put (by omega) _ _ ⟨l, x1, x2, by show (x.wt + u).natAbs ≤ _; omega⟩, by simp; omega, W3.mono (by omega), (F1.trans F2).trans F3, ?_⟩
      have ed : lotD (ps.take q ++ ⟨x.k, x.b, x.wt + u⟩ :: ps.drop (q + 1)) = .tup ((ps.take q).map LP.d ++ .tup [.int x.k, .str (lpW x.b), .int (x.wt + u)] :: (ps.drop (q + 1)).map LP.d) := by
        show D.tup _ = _
        rw [← pdq]; rfl
      rw [ed, ← hX]
      clear pdq cutT cutF
      generalize (ps.take q).map LP.d = A at *
      generalize (ps.drop (q + 1)).map LP.d = C at *
      simp [lenL, e1, e2, ee, eq, hg, slTq, slFq, zAq, zCq, e3]
    · subst hyy
      obtain ⟨k, S3, hk, W3, F3, e3⟩ := r_draw (n := n + 7) (S := S2) (w := w) (W2.mono (by omega)) (many := (ls.length : Nat)) (by omega) (by omega)
      have hk' : k < ls.length := by omega
      refine ⟨ps.take q ++ ⟨k, true, x.wt⟩ :: ps.drop (q + 1), S3, h.put (by omega) _ _ ⟨ls[k], List.getElem?_eq_getElem hk', (fun e => by cases e), by show x.wt.natAbs ≤ _; omega⟩, by simp; omega, W3.mono (by omega), (F1.trans F2).trans F3, ?_⟩
      have ed : lotD (ps.take q ++ ⟨k, true, x.wt⟩ :: ps.drop (q + 1)) = .tup ((ps.take q).map LP.d ++ .tup [.int k, .str "least", .int x.wt] :: (ps.drop (q + 1)).map LP.d) := by
        show D.tup _ = _
        rw [← pdq]; rfl
      rw [ed, ← hX]
      clear pdq cutT cutF
      generalize (ps.take q).map LP.d = A at *
      generalize (ps.drop (q + 1)).map LP.d = C at *
      simp [lenL, e1, e2, ee, eq, hg, slTq, slFq, zAq, zCq, e3, len_said]
    · subst hyy
      refine ⟨ps.map fun p => ⟨p.k, p.b, 2 * p.wt⟩, S2, fun p hp => ?_, by simp, W2.mono (by omega), F1.trans F2, ?_⟩
      · obtain ⟨p0, hp0, rfl⟩ := List.mem_map.mp hp
        obtain ⟨l, q1, q2, q3⟩ := h p0 hp0
        exact ⟨l, q1, q2, by show (2 * p0.wt).natAbs ≤ _; omega⟩
      · rw [← hX]
        have ld : ∀ S : Sto, itS S (lotD ps) = some ⟨ps.map LP.d, none, []⟩ := fun _ => rfl
        simp [lenL, e1, e2, ee, eq, hg, wipeD, ld]
        rw [loopC_map rfl LP.d (fun p => LP.d ⟨p.k, p.b, 2 * p.wt⟩) ps (fun p hp => by
          obtain ⟨l, q1, q2, q3⟩ := h p hp
          have hm : mulOk 2 p.wt = true := mulOk_small (by decide) (by omega)
          refine turnR_put rfl ?_
          simp [hm, LP.d]) (by omega)]
        have bt : ∀ xs : List D, bTup S2 [.lst xs] = some (.tup xs) := fun _ => rfl
        simp [bt, lotD]

end K74
end

section
set_option Elab.async false
set_option linter.all false
set_option maxRecDepth 100000
set_option maxHeartbeats 4000000
namespace K74
open PySem L2 DV SX
set_option exponentiation.threshold 9000
def boolsS (a b : Bool) : Str := (match bRepr [.lst [.bl a, .bl b]] with | some (.str z) => z | _ => "")
theorem bRepr_bools (a b : Bool) : bRepr [.lst [.bl a, .bl b]] = some (.str (boolsS a b)) := by
  cases a <;> cases b <;> rfl
theorem sum_le {k : Nat} : ∀ {xs : List Nat}, (∀ x ∈ xs, x ≤ k) → xs.sum ≤ xs.length * k
  | [], _ => by simp
  | x :: xs, h => by
    have h1 := h x List.mem_cons_self
    have h2 := sum_le (k := k) (xs := xs) fun y hy => h y (List.mem_cons_of_mem _ hy)
    rw [List.sum_cons, List.length_cons, Nat.add_mul]
    omega
theorem join_fits {ls : List Ln} (h : LsOk ls) : ((ls.map Ln.text).map (·.length)).sum + (ls.map Ln.text).length * ("\n" : Str).length ≤ 16777216 := by
  have h1 := sum_le (k := 1300) (xs := (ls.map Ln.text).map (·.length)) fun x hx => by
    obtain ⟨z, hz, rfl⟩ := List.mem_map.mp hx
    obtain ⟨l, hl, rfl⟩ := List.mem_map.mp hz
    exact text_len (h.ok l hl)
  have h2 := h.le
  have h3 : ("\n" : Str).length ≤ 1 := lit_len (by decide)
  simp only [List.length_map] at h1 ⊢
  have h4 : ls.length * ("\n" : Str).length ≤ 12 * 1 := Nat.mul_le_mul h2 h3
  omega
theorem kw_acc (c d : D) (S : Sto) : kwR fi_accepts ["certificate", "claim"] (.ok [d, c] S) = runF fi_accepts [c, d] S := by rfl
theorem ne_same {S : Sto} {z : Str} : cmpF .NotEq S (.str z) (.str z) = some false := by simp
def rtLoop (v : Slots) (S : Sto) : SRes := (forR v (rng1 (consR (fnR fi__law_draw (consR (lk v 0 S) fun S => consR (.ok (.int 3) S) fun S => .ok [] S)) fun S => .ok [] S)) (.one 4) (fun v S =>
      (setR v 3 (fnR fi__law_bent (consR (lk v 0 S) fun S => consR (lk v 7 S) fun S => consR (lk v 3 S) fun S => .ok [] S))).seq fun v S =>
      .nx v S))
def rtDue (v : Slots) (S : Sto) : SRes := (iteR v (truR (lk v 6 S)) (fun S =>
      (setR v 6 (blR (cmpR .Eq (obR (lcR (compR (itR (fnR fi__law_pieces (consR (lk v 7 S) fun S => consR (lk v 3 S) fun S => consR (obR (lstR (.ok [] S))) fun S => .ok [] S))) (turnR (.one 9) (some fun v S => (cmpR .Gt (subR (lk v 9 S) fun S => (.ok (.int 2) S)) fun S => (.ok (.int 0) S))) (fun v S => (lk v 9 S)) (wipeD v [9]))))) fun S => (obR (lstR (.ok [] S)))))).seq fun v S =>
      .nx v S)
    fun S => .nx v S)
def rtTail (v : Slots) (S : Sto) : SRes :=
    (setR v 5 (tupR (consR (.ok (.str "clash") S) fun S => consR (meR G__law_right "join" (.ok (.str "
") S) fun S => (consR (lk v 2 S) fun S => .ok [] S)) fun S => .ok [] S))).seq fun v S =>
    (setR v 6 (andR (fnR fi__law_is_lot (consR (lk v 7 S) fun S => consR (lk v 3 S) fun S => .ok [] S)) fun S => (blR (cmpR .GtE (fnR fi__law_worth (consR (lk v 7 S) fun S => consR (lk v 3 S) fun S => .ok [] S)) fun S => (.ok (.int 1) S))))).seq fun v S =>
    (rtDue v S).seq fun v S =>
    (iteR v (cmpR .NotEq (bR (fun _ => bRepr) (consR (obR (lstR (consR (fnR fi_accepts (consR (lk v 5 S) fun S => consR (lk v 3 S) fun S => .ok [] S)) fun S => consR (kwR fi_accepts ["certificate", "claim"] (consR (lk v 3 S) fun S => consR (lk v 5 S) fun S => .ok [] S)) fun S => .ok [] S))) fun S => .ok [] S)) fun S => (bR (fun _ => bRepr) (consR (obR (lstR (consR (lk v 6 S) fun S => consR (lk v 6 S) fun S => .ok [] S))) fun S => .ok [] S))) (fun S =>
      (retR v (.ok (.bl false) S)).seq fun v S =>
      .nx v S)
    fun S => .nx v S).seq fun v S =>
    (iteR v (orT (truR (fnR fi_accepts (consR (lk v 5 S) fun S => consR (bR (bLst) (consR (lk v 3 S) fun S => .ok [] S)) fun S => .ok [] S))) fun S => (truR (fnR fi_accepts (consR (lk v 5 S) fun S => consR (tupR (consR (lk v 3 S) fun S => .ok [] S)) fun S => .ok [] S)))) (fun S =>
      (retR v (.ok (.bl false) S)).seq fun v S =>
      .nx v S)
    fun S => .nx v S).seq fun v S =>
    .nx v S
def rtBody (v : Slots) (S : Sto) : SRes :=
    (setR v 2 (fnR fi__law_lines (consR (lk v 0 S) fun S => consR (.ok (.int 4) S) fun S => consR (.ok (.int 4) S) fun S => .ok [] S))).seq fun v S =>
    (setsR v [7, 3] (consR (obR (lcR (compR (itR (lk v 2 S)) (turnR (.one 8) none (fun v S => (fnR fi__law_said (consR (lk v 8 S) fun S => .ok [] S))) (wipeD v [8]))))) fun S => consR (fnR fi_clash (consR (mkR "Table" ci_Table fi_Table___init__ (consR (bR (bTup) (consR (lk v 2 S) fun S => .ok [] S)) fun S => .ok [] S)) fun S => .ok [] S)) fun S => .ok [] S)).seq fun v S =>
    (setR v 3 (ifR (cmpR .Is (lk v 3 S) fun S => (.ok .non S)) (fun S => (tupR (.ok [] S))) fun S => (lk v 3 S))).seq fun v S =>
    (rtLoop v S).seq fun v S => rtTail v S
theorem right_eq (args : List D) (S : Sto) : s__law_right args S = (finR <|
  let v := begR 1 10 args
  (forR v (rng1 (consR (.ok (.int 6) S) fun S => .ok [] S)) (.one 1) rtBody).seq fun v S =>
  (retR v (.ok (.bl true) S)).seq fun v S =>
  .nx v S) := rfl

theorem rt_loop {n : Nat} {S : Sto} {w : Nat} {ls : List Ln} {ps : List LP} {a1 a2 a4 a5 a6 a8 a9 : Option D} (W : Wl (n + 31) S w) (hls : 1 ≤ ls.length) (hl2 : ls.length ≤ 12) (h : LotB 20 ls ps) (hl : ps.length ≤ 40) :
    ∃ (qs : List LP) (b4 : Option D) (S' : Sto), LotB 1000 ls qs ∧ qs.length ≤ 42 ∧ Wl n S' w ∧ Fr w S S' ∧ rtLoop [some (.ref w), a1, a2, some (lotD ps), a4, a5, a6, some (saidD ls), a8, a9] S = .nx [some (.ref w), a1, a2, some (lotD qs), b4, a5, a6, some (saidD ls), a8, a9] S' := by
  obtain ⟨r, S1, hr, W1, F1, e1⟩ := r_draw (n := n + 30) (S := S) (w := w) (W.mono (by omega)) (many := 3) (by decide) (by decide)
  have hr3 : r ≤ 2 := by omega
  generalize hX : rtLoop [some (.ref w), a1, a2, some (lotD ps), a4, a5, a6, some (saidD ls), a8, a9] S = X
  simp [rtLoop, e1, rng1_nat (show r < 2 ^ 60 by omega)] at hX
  generalize hL : loopF _ _ _ _ _ = L at hX
  obtain ⟨v1, S2, rfl, W2, F2, qs, b4, hqs, hlen, rfl⟩ := loopF_genP (fun p v S' => Wl (n + 10 * (r - p.length)) S' w ∧ Fr w S S' ∧ ∃ (qs : List LP) (b4 : Option D), LotB (20 * 3 ^ p.length) ls qs ∧ qs.length ≤ 40 + p.length ∧
      v = [some (.ref w), a1, a2, some (lotD qs), b4, a5, a6, some (saidD ls), a8, a9]) hL rfl
    ⟨W1.mono (by simp; omega), F1, ps, a4, h, by simpa using hl, rfl⟩ (fun p a q v S' e r1 => by
      obtain ⟨W', F', qs, b4, hqs, hlen, rfl⟩ := r1
      obtain ⟨ha, hpq⟩ := range_split e
      have hp1 : p.length ≤ 1 := by omega
      have hp3 : 3 ^ p.length ≤ 3 ^ 1 := Nat.pow_le_pow_right (by decide) hp1
      have hp0 : 0 < 3 ^ p.length := Nat.pow_pos (by decide)
      obtain ⟨qs2, S3, g1, g2, W3, F3, e3⟩ := r_bent (n := n + 10 * (r - (p.length + 1))) (S := S') (w := w) (B := 20 * 3 ^ p.length) (ls := ls) (ps := qs) (W'.mono (by omega)) hls (by omega) (by omega) (by omega) hqs
      refine ⟨[some (.ref w), a1, a2, some (lotD qs2), some (.int a), a5, a6, some (saidD ls), a8, a9], S3, .inl (by simp [e3]), by simpa using W3, F'.trans F3, qs2, some (.int a), g1.mono ?_, by simp; omega, rfl⟩
      simp only [List.length_append, List.length_cons, List.length_nil, Nat.zero_add, Nat.pow_succ]
      omega)
  simp only [List.length_range] at hqs hlen W2
  have h3 : 3 ^ r ≤ 3 ^ 2 := Nat.pow_le_pow_right (by decide) hr3
  exact ⟨qs, b4, S2, hqs.mono (by omega), by omega, W2.mono (by omega), F2, hX.symm⟩
def lpcPy (ls : List Ln) (ps : List LP) (s : Nat × Option Nat) : PyData := .list [.int s.1, (match s.2 with | none => .none | some h => .int h), .int (coverI ls ps s.1)]
theorem toPys_pc (ls : List Ln) (ps : List LP) : ∀ xs : List (Nat × Option Nat), toPys (xs.map (lawPieceD ls ps)) = some (xs.map (lpcPy ls ps))
  | [] => rfl
  | (a, b) :: xs => by
    show (match toPy (lawPieceD ls ps (a, b)), toPys (xs.map (lawPieceD ls ps)) with | some d, some ds => some (d :: ds) | _, _ => none) = _
    rw [toPys_pc ls ps xs]
    cases b <;> rfl
theorem lay_pc (ls : List Ln) (ps : List LP) : ∀ xs : List (Nat × Option Nat), PyData.canLayAll0 (xs.map (lpcPy ls ps)) = true ∧ PyData.depthAll (xs.map (lpcPy ls ps)) ≤ 1
  | [] => by simp [PyData.canLayAll0, PyData.depthAll]
  | (a, b) :: xs => by
    have ih := lay_pc ls ps xs
    have e1 : (lpcPy ls ps (a, b)).canLay0 = true := by cases b <;> simp [lpcPy, PyData.canLay0, PyData.canLayAll0]
    have e2 : (lpcPy ls ps (a, b)).depth = 1 := by cases b <;> simp [lpcPy, PyData.depth, PyData.depthAll]
    simp only [List.map_cons, PyData.canLayAll0, PyData.depthAll, e1, e2, ih.1]
    exact ⟨rfl, by omega⟩
theorem eq_emptyP {S : Sto} {ls : List Ln} {ps : List LP} (xs : List (Nat × Option Nat)) : cmpF .Eq S (.lst (xs.map (lawPieceD ls ps))) (.lst []) = some xs.isEmpty := by
  refine cmpF_of ?_
  show deq (.lst (xs.map (lawPieceD ls ps))) (.lst []) = _
  have e : deq (.lst (xs.map (lawPieceD ls ps))) (.lst []) = (match toPy (.lst (xs.map (lawPieceD ls ps))), toPy (.lst []) with
    | some d, some e => if SeqAt.shaped d && SeqAt.shaped e then some (PyData.eqv d e) else none
    | _, _ => none) := rfl
  rw [e]
  have e1 : toPy (.lst (xs.map (lawPieceD ls ps))) = some (.list (xs.map (lpcPy ls ps))) := by
    show (toPys (xs.map (lawPieceD ls ps))).map PyData.list = _
    rw [toPys_pc]; rfl
  have e2 : toPy (.lst []) = some (.list []) := rfl
  have e3 : SeqAt.shaped (.list []) = true := rfl
  have e4 : SeqAt.shaped (.list (xs.map (lpcPy ls ps))) = true := by
    obtain ⟨h1, h2⟩ := lay_pc ls ps xs
    unfold SeqAt.shaped
    simp [PyData.canLay0, h1, PyData.depth]
    omega
  rw [e1, e2]
  simp only [e4, e3, Bool.and_self, if_true]
  cases xs <;> simp [PyData.eqv, PyData.eqvAll]
def dueB (ls : List Ln) (ps : List LP) : Bool := isLotB ps && decide (1 ≤ worthI ls ps)
theorem rt_due {S : Sto} {ls : List Ln} {ps : List LP} {a0 a1 a2 a4 a5 : Option D} (h : LsOk ls) (hw : LotW ls ps) :
    rtDue [a0, a1, a2, some (lotD ps), a4, a5, some (.bl (dueB ls ps)), some (saidD ls), none, none] S = .nx [a0, a1, a2, some (lotD ps), a4, a5, some (.bl (clashB ls ps)), some (saidD ls), none, none] S := by
  have h12 := h.le
  have e3 := r_law_pieces (ls := ls) (ps := ps) (ss := []) hw (by simp; omega) S
  have e3 : runF fi__law_pieces [saidD ls, lotD ps, .lst []] S = .ok (.lst ((segs (marksOf (allStr ls []))).map (lawPieceD ls ps))) S := e3
  obtain ⟨mN, mM, mL, mP⟩ := marks_facts (allStr ls [])
  have hal : (allStr ls []).length ≤ 12 := by unfold allStr; simp; omega
  have ec : clashB ls ps = (dueB ls ps && (marksOf (allStr ls [])).all fun x => decide (coverI ls ps x ≤ 0)) := by unfold clashB dueB; rw [Bool.and_assoc]
  rw [ec, ← pieceL_cover]
  generalize marksOf (allStr ls []) = ms at *
  cases hd : dueB ls ps with
  | false => simp [rtDue]
  | true =>
    have sl := segs_len ms
    simp [rtDue, e3, wipeD]
    rw [loopC_fm rfl (lawPieceD ls ps) (fun s => if decide (0 < coverI ls ps s.1) then some (lawPieceD ls ps s) else none) (segs ms) [] (fun s hs => by
      refine turnR_test rfl ?_ fun _ => ?_
      · simp [lawPieceD]
      · simp) (by unfold sizeLine; simp; omega)]
    have ef : (segs ms).filterMap (fun s => if decide (0 < coverI ls ps s.1) then some (lawPieceD ls ps s) else none) = ((segs ms).filter fun s => decide (0 < coverI ls ps s.1)).map (lawPieceD ls ps) := by
      generalize segs ms = g
      clear sl e3
      induction g with
      | nil => rfl
      | cons t ts ih =>
        rw [List.filterMap_cons, List.filter_cons]
        cases decide (0 < coverI ls ps t.1)
        · simpa using ih
        · simpa using ih
    rw [List.nil_append, ef]
    simp [eq_emptyP]
    rw [Bool.eq_iff_iff]
    simp
theorem rt_tail {S : Sto} {ls : List Ln} {ps : List LP} {a0 a1 a4 a5 a6 : Option D} (h : LsOk ls) (hb : LotB 1000 ls ps) (hl : ps.length ≤ 42) :
    ∃ b5 b6 : Option D, rtTail [a0, a1, some (.lst (ls.map fun l => .str l.text)), some (lotD ps), a4, a5, a6, some (saidD ls), none, none] S = .nx [a0, a1, some (.lst (ls.map fun l => .str l.text)), some (lotD ps), a4, b5, b6, some (saidD ls), none, none] S := by
  have hw : LotW ls ps := hb.w (by decide)
  have ea := r_accepts h hw (by omega) S
  have ei := r_law_is_lot hw (by omega) S
  have ew := r_law_worth h.ok hw S
  have en := r_accepts_no h (d := .lst (ps.map LP.d)) (cloL_map _ LP.clo ps) (r_is_lot_lst ([] : Sto)) S
  have en2 := r_accepts_no h (d := .tup [lotD ps]) (by show ((lotD ps).clo && true) = true; rw [lotD_clo]; rfl) (r_is_lot_no (by omega) ([] : Sto)) S
  have ebl : bLst S [lotD ps] = some (.lst (ps.map LP.d)) := rfl
  have ej : methB "join" S (.str "\n") [.lst (ls.map fun l => .str l.text)] = some (.str (textOf ls)) := by
    have := methB_join (S := S) (z := "\n") (ys := ls.map Ln.text) (join_fits h)
    rw [List.map_map] at this
    exact this
  have ed := fun a5 => rt_due (S := S) (a0 := a0) (a1 := a1) (a2 := some (.lst (ls.map fun l => .str l.text))) (a4 := a4) (a5 := a5) h hw
  refine ⟨some (.tup [.str "clash", .str (textOf ls)]), some (.bl (clashB ls ps)), ?_⟩
  have edue : (andR (fnR fi__law_is_lot (.ok [saidD ls, lotD ps] S)) fun S => (blR (cmpR .GtE (fnR fi__law_worth (.ok [saidD ls, lotD ps] S)) fun S => (.ok (.int 1) S)))) = .ok (.bl (dueB ls ps)) S := by
    simp [ei, ew, dueB]
    cases isLotB ps <;> simp
  have edd := ed (some (.tup [.str "clash", .str (textOf ls)]))
  simp only [rtTail]
  simp [ej]
  simp at edue
  simp [edue, edd, ea, en, en2, kw_acc, bRepr_bools, ebl]
theorem r_law_right {n : Nat} {S : Sto} {w : Nat} (W : Wl (n + 7200) S w) : ∃ S', Wl n S' w ∧ Fr w S S' ∧ runF fi__law_right [.ref w] S = .ok (.bl true) S' := by
  generalize hX : s__law_right [.ref w] S = X
  have hX0 := hX
  have e6 : rng1 (Res.ok [D.int 6] S) = _ := rng1_nat (i := 6) (by decide)
  rw [right_eq] at hX
  simp only [consR_ok, consR2_ok, e6, begR, forR, st_ok] at hX
  generalize hL : loopF _ _ _ _ _ = L at hX
  have main : ∃ v' S', L = .nx v' S' ∧ Wl n S' w ∧ Fr w S S' := by
    obtain ⟨v1, S2, rfl, W2, F2, _⟩ := loopF_genP (fun p v S' => Wl (n + 1200 * (6 - p.length)) S' w ∧ Fr w S S' ∧ ∃ a1 a2 a3 a4 a5 a6 a7, v = [some (.ref w), a1, a2, a3, a4, a5, a6, a7, none, none]) hL rfl
      ⟨W.mono (by simp), .refl .., none, none, none, none, none, none, none, rfl⟩ (fun p a q v S' e r1 => by
        obtain ⟨W', F', a1, a2, a3, a4, a5, a6, a7, rfl⟩ := r1
        obtain ⟨ha, hpq⟩ := range_split e
        obtain ⟨ls, T1, hls, l1, l2, W1, F1, e1⟩ := r_lines (n := n + 1200 * (6 - (p.length + 1)) + 200) (S := S') (w := w) (many := 4) (most := 4) (W'.mono (by omega)) (by omega) (by omega) (by omega)
        have ho : LsOk ls := ⟨fun l hl => (hls l hl).1, fun q => by rw [q] at l1; simp at l1, by omega⟩
        have et := r_Table ho T1
        have ebt : bTup T1 [.lst (ls.map fun l => .str l.text)] = some (linesD ls) := rfl
        have hle := ho.le
        have hpos : 1 ≤ ls.length := by omega
        obtain ⟨m, ps, hps, hpl, em, em2⟩ : ∃ (m : D) (ps : List LP), LotB 20 ls ps ∧ ps.length ≤ 40 ∧ runF fi_clash [tableD ls] T1 = .ok m T1 ∧ ∀ v : Slots, v[3]? = some (some m) → (ifR (cmpR .Is (lk v 3 T1) fun S => (.ok .non S)) (fun S => (tupR (.ok [] S))) fun S => (lk v 3 S)) = .ok (lotD ps) T1 := by
          rcases r_clash (ls := ls) hle T1 with h | ⟨ps, h1, h2, h3, h4⟩
          · refine ⟨.non, [], (fun p hp => by cases hp), by simp, h, fun v hv => ?_⟩
            have l3 : lk v 3 T1 = .ok .non T1 := by unfold lk; rw [hv]; rfl
            simp [l3, lotD]
          · refine ⟨lotD ps, ps, fun p hp => ?_, by omega, h4, fun v hv => ?_⟩
            · obtain ⟨l, q1, q2, _⟩ := h1 p hp
              exact ⟨l, q1, q2, by rw [h3 p hp]; decide⟩
            · have l3 : ∀ S, lk v 3 S = .ok (lotD ps) S := fun S => by unfold lk; rw [hv]; rfl
              have isn : cmpF .Is T1 (lotD ps) .non = some false := rfl
              simp [l3, isn]
        obtain ⟨qs, b4, T2, g1, g2, W3, F3, e3⟩ := rt_loop (n := n + 1200 * (6 - (p.length + 1)) + 100) (S := T1) (ls := ls) (ps := ps) (a1 := some (.int a)) (a2 := some (.lst (ls.map fun l => .str l.text))) (a4 := a4) (a5 := a5) (a6 := a6) (a8 := none) (a9 := none) (W1.mono (by omega)) hpos (by omega) hps hpl
        obtain ⟨b5, b6, e4⟩ := rt_tail (S := T2) (a0 := some (.ref w)) (a1 := some (.int a)) (a4 := b4) (a5 := a5) (a6 := a6) ho g1 g2
        have e1' : runF fi__law_lines [.ref w, .int 4, .int 4] S' = _ := e1
        have es : ∀ w0 : Slots, w0.length = 10 → loopC (turnR (.one 8) none (fun v S => fnR fi__law_said (consR (lk v 8 S) fun S => .ok [] S)) w0) ⟨ls.map fun l => .str l.text, none, []⟩ (ls.map fun l => .str l.text) [] T1 = .ok (ls.map saidT) T1 := fun w0 hw0 =>
          loopC_map rfl (fun l : Ln => D.str l.text) saidT ls (fun l hl => by
            match w0, hw0 with
            | [x0, x1, x2, x3, x4, x5, x6, x7, x8, x9], _ =>
              refine turnR_none (by simp) ?_
              simp [r_law_said (ho.ok l hl)]
              rfl) (by unfold sizeLine; omega)
        have esd : ∀ xs, D.lst xs = .lst xs := fun _ => rfl
        have em3 := em2 [some (.ref w), some (.int a), some (.lst (ls.map fun l => .str l.text)), some m, a4, a5, a6, some (saidD ls), none, none] rfl
        simp at em3
        refine ⟨[some (.ref w), some (.int a), some (.lst (ls.map fun l => .str l.text)), some (lotD qs), b4, b5, b6, some (saidD ls), none, none], T2, .inl ?_, ?_, ?_, ?_⟩
        rotate_left
        · exact W3.mono (by simp)
        · exact (F'.trans F1).trans F3
        · exact ⟨_, _, _, _, _, _, _, rfl⟩
        · have es2 := es [some (.ref w), some (.int a), some (.lst (ls.map fun l => .str l.text)), a3, a4, a5, a6, a7, none, none] rfl
          have ssd : D.lst (ls.map saidT) = saidD ls := rfl
          simp [rtBody, e1', wipeD, es2, ebt, et, em, ssd, em3, e3, e4])
    exact ⟨v1, S2, rfl, W2.mono (by omega), F2⟩
  obtain ⟨v', S', rfl, W', F'⟩ := main
  refine ⟨S', W', F', ?_⟩
  refine runF_raw rfl rfl ?_ (fun _ e => by cases e)
  rw [run__law_right, hX0, ← hX]
  simp

end K74
end

section
set_option Elab.async false
set_option linter.all false
set_option maxRecDepth 100000
set_option maxHeartbeats 4000000
namespace K74
open PySem L2 DV SX
theorem cut_int (is : List Int) (lo hi : Option Int) : ∃ ys : List Int, cutD (is.map .int) lo hi = ys.map .int ∧ ys.length ≤ is.length := by
  refine ⟨(is.drop (HT.sIx is.length 0 lo)).take (HT.sIx is.length is.length hi - HT.sIx is.length 0 lo), ?_, ?_⟩
  · unfold cutD
    simp [List.map_take, List.map_drop]
  · simp; omega
theorem runF_new {f : FnI} {args : List D} {d : D} {S S' : Sto} (hl : args.length = f.ps.length) (hn : f.pur = false) (hf : f.frz = false) (h : f.run args S = .ok d S') : runF f args S = .ok d S' := by
  rw [runF_fill (by rw [fill_full hl]; exact hl), fill_full hl]
  unfold runP
  rw [hn, hf, h]
  rfl
theorem r_law_well {is : List Int} {spot : Nat} (hs : spot ≤ 2) (hl : is.length ≤ 63) (S : Sto) :
    ∃ S', Wl 1099511627776 S' S.length ∧ runF fi__law_well [.scr (is.map .int), .int spot] S = .ok (.ref S.length) S' := by
  generalize hX : s__law_well [.scr (is.map .int), .int spot] S = X
  have main : ∃ S', Wl 1099511627776 S' S.length ∧ X = .ok (.ref S.length) S' := by
    have m1 : mulOk 877 (spot : Int) = true := mulOk_small (by decide) (by omega)
    obtain ⟨y1, ey1, ly1⟩ := cut_int is none (some 4)
    obtain ⟨y2, ey2, ly2⟩ := cut_int is (some (spot : Int)) (some ((spot : Int) + 1))
    have s1 : sliceV S (.scr (is.map .int)) none (some 4) = some (.lst (y1.map .int)) := by rw [← ey1]; rfl
    have s2 : sliceV S (.scr (is.map .int)) (some (spot : Int)) (some ((spot : Int) + 1)) = some (.lst (y2.map .int)) := by rw [← ey2]; rfl
    have s3 : binop .Add (.lst (y1.map .int)) (.lst (y2.map .int)) = some (.lst ((y1 ++ y2).map .int)) := by
      rw [List.map_append]
      show (if _ then _ else _) = _
      rw [if_pos (by simp; unfold sizeLine; omega)]
    have s4 : itS S (.lst ((y1 ++ y2).map .int)) = some ⟨(y1 ++ y2).map .int, none, []⟩ := rfl
    clear ey1 ey2
    generalize hys : y1 ++ y2 = ys at s3 s4
    clear hys
    simp [s__law_well, m1, s1, s2, s3, s4] at hX
    generalize hL : loopF _ _ _ _ _ = L at hX
    obtain ⟨v1, S1, rfl, rfl, a, x, ha0, ha1, rfl⟩ := loopF_genP (fun p v S' => S' = S ∧ ∃ (a : Int) (x : Option D), 0 ≤ a ∧ a < 2147483648 ∧ v = [some (.scr (is.map .int)), some (.int spot), some (.int a), x, none]) hL rfl
      ⟨rfl, 66431 + 877 * (spot : Int), none, by omega, by omega, rfl⟩ (fun p i q v S' e r => by
        obtain ⟨rfl, a, x, ha0, ha1, rfl⟩ := r
        have m2 : mulOk a 46021 = true := mulOk_small (by omega) (by decide)
        have hr := fmod_pos (i := a * 46021 + i + 3) (j := 2147483579) (by decide)
        exact ⟨[some (.scr (is.map .int)), some (.int spot), some (.int ((a * 46021 + i + 3).fmod 2147483579)), some (.int i), none], S', .inl (by simp [m2, bInt]), rfl, _, _, hr.1, by omega, rfl⟩)
    have fin : ∀ o : Int, ∃ c : Int, 0 ≤ c ∧ (∀ S : Sto, (if (1000000000000000000 : Int) ≤ (if o < 0 then -o else o) then Res.ok (D.int (if o < 0 then -o else o)) S else .ok (.int 0) S) = .ok (.int c) S) := fun o => by
      by_cases h : (1000000000000000000 : Int) ≤ (if o < 0 then -o else o)
      · exact ⟨_, Int.le_trans (by decide) h, fun S => by rw [if_pos h]⟩
      · exact ⟨0, by decide, fun S => by rw [if_neg h]⟩
    have done : ∀ c : Int, 0 ≤ c → Wl 1099511627776 (S1 ++ [.lst [.int a, .int 0, .int c]]) S1.length := fun c hc =>
      ⟨a, 0, c, by simp, ha0, ha1, by decide, by decide, hc⟩
    have hlen : ∀ G : Gen, callBO G "len" S1 [.scr (is.map .int)] = .ok (.int (is.length : Nat)) S1 := fun G => by simp
    have hpow : binop .Pow (.int 10) (.int 18) = some (.int 1000000000000000000) := by
      show (if (0 : Int) ≤ 18 ∧ (18 : Int) ≤ 1000000 ∧ (10 : Int).natAbs < 2 ^ 64 then some (D.int ((10 : Int) ^ (18 : Int).toNat)) else none) = _
      rw [if_pos (by decide)]
      rfl
    simp only [seq_nx] at hX
    by_cases h : spot < is.length
    · have g : getF S1 (.scr (is.map .int)) (.int spot) = some (.int is[spot]) := by simp [getF, getV, items, atI_ofNat, h]
      obtain ⟨c, hc, ec⟩ := fin is[spot]
      refine ⟨_, done c hc, ?_⟩
      simp [hlen, h, g, bAbs, hpow] at hX
      rw [ec] at hX
      simp at hX
      exact hX.symm
    · refine ⟨_, done 0 (by decide), ?_⟩
      simp [hlen, h, bAbs, hpow] at hX
      exact hX.symm
  obtain ⟨S', W, e⟩ := main
  exact ⟨S', W, runF_new rfl rfl rfl (by rw [run__law_well, hX]; exact e)⟩

theorem turnR_putS {tg : Tg} {E : Slots → Sto → Res D} {w w' : Slots} {d y : D} {S S1 : Sto} (hp : tg.put d w = some w') (h : E w' S = .ok y S1) : turnR tg none E w d S = .ok (some y) S1 := by
  unfold turnR hdR
  simp only [hp, h]
theorem r_law {is : List Int} (hl : is.length ≤ 63) : ∃ S, s_law [.scr (is.map .int)] [] = .ok (.bl true) S := by
  generalize hX : s_law [.scr (is.map .int)] [] = X
  have hlen : ∀ G : Gen, callBO G "len" [] [.scr (is.map .int)] = .ok (.int (is.length : Nat)) [] := fun G => by simp
  obtain ⟨k, hk, ek⟩ : ∃ k : Nat, k ≤ 3 ∧ ∃ i : Int, bMin [.int (is.length : Nat), .int 3] = some (.int i) ∧ bMax [.int 2, .int i] = some (.int (k : Nat)) := by
    show ∃ k : Nat, k ≤ 3 ∧ ∃ i : Int, some (D.int (if (3 : Int) < is.length then 3 else is.length)) = some (.int i) ∧ some (D.int (if i > 2 then i else 2)) = _
    refine ⟨(if is.length ≤ 2 then 2 else 3), by split <;> omega, _, rfl, ?_⟩
    congr 2
    by_cases h : is.length ≤ 2
    · rw [if_pos h, if_neg (show ¬ (3 : Int) < is.length by omega), if_neg (by omega)]; rfl
    · rw [if_neg h]
      by_cases h3 : (3 : Int) < is.length
      · rw [if_pos h3]; rfl
      · rw [if_neg h3, if_pos (by omega)]; omega
  obtain ⟨i, ei, em⟩ := ek
  simp [s_law, hlen, ei, em, rng1_nat (show k < 2 ^ 60 by omega)] at hX
  generalize hL : loopC _ _ _ _ _ = L at hX
  obtain ⟨acc, S', rfl, hacc⟩ := loopC_genP (fun p acc S' => acc = p.map fun _ => D.bl true) hL rfl rfl (by simp; unfold sizeLine; omega) (fun p a q acc S e r => by
    obtain ⟨ha, hpq⟩ := range_split e
    obtain ⟨S1, W1, e1⟩ := r_law_well (is := is) (spot := a) (by omega) hl S
    obtain ⟨S2, W2, F2, e2⟩ := r_law_right (n := 0) (S := S1) (w := S.length) (W1.mono (by decide))
    refine ⟨some (.bl true), S2, turnR_putS (w' := [some (.scr (is.map .int)), some (.int a)]) rfl (by simp [e1, e2]), ?_⟩
    rw [r]; simp)
  have hall : bAll S' [.lst acc] = some (.bl true) := by
    rw [hacc, bAll_map (fun _ => true)]
    simp
  simp [hall] at hX
  exact ⟨_, hX.symm⟩

end K74
end

section
set_option Elab.async false
set_option linter.all false
set_option maxRecDepth 100000
set_option maxHeartbeats 0
namespace K74
open PySem L2 DV
theorem law_true : ∀ is : List Int, is.length ≤ 63 → (∀ i ∈ is, Builtin.Int.intBits i ≤ 1048576) → ∃ S, s_law [.scr (is.map .int)] [] = .ok (.bl true) S := fun _ h _ => r_law h
theorem law_run : ∀ is : List Int, is.length ≤ 63 → (∀ i ∈ is, Builtin.Int.intBits i ≤ 1048576) → ∃ S, bodyRun WW 60 (build WW 60 (baseOf clss globs frees) dl) dlaw [.scr (is.map .int)] [] = .ok (.bl true) S := fun is h1 h2 => by
  obtain ⟨S, h⟩ := law_true is h1 h2
  refine ⟨S, ?_⟩
  have e := law_eq [.scr (is.map .int)] []
  exact e.trans h
theorem lev_eq : (build WW 60 (baseOf clss globs frees) dl).lev = (build WW 60 (baseOf clss globs frees) dl).lev := rfl
theorem room_ok : Room ((build WW 60 (baseOf clss globs frees) dl).lev + 1) callerA := by
  have e : (build WW 60 (baseOf clss globs frees) dl).lev = 85 := by kernel_rfl
  rw [e]
  exact ⟨rfl, by decide, by decide⟩
end K74
end
set_option maxRecDepth 100000
set_option maxHeartbeats 0
set_option Elab.async false
open PySem PySem.W PySem.Calls PyProof.Rows
theorem PySem.Challenge.cw_unlikebins_k74_clashes_judged_holds : PySem.Challenge.rw_unlikebins_k74_clashes_judged.Holds := by
  w_on; o_law
  refine HandSHeadRun.head_any (r := OpenLaw.row PySem.Challenge.rw_unlikebins_k74_clashes_judged) (q := view (OpenLaw.row PySem.Challenge.rw_unlikebins_k74_clashes_judged).prog [83]) (H := K74.hk) (ob := K74.ob) (M := 6000) (loose := K74.loose) (d := HandSHeadRun.topDef (OpenLaw.row PySem.Challenge.rw_unlikebins_k74_clashes_judged).prog 83) (kwd := []) K74.ob_eq
    (by kernel_rfl) (fun s => by kernel_rfl) K74.run (by kernel_rfl) (by kernel_rfl) (by kernel_rfl) (by rfl) (by first | assumption | decide +kernel) (by decide +kernel) ⟨rfl, rfl, rfl, rfl, rfl, by decide +kernel⟩ ?hw ?hc
  case hw => w_witness2
  case hc =>
    exact DV.walk_law (l := PySem.Challenge.rw_unlikebins_k74_clashes_judged) (m := 63) (sl := K74.slo) (clss := K74.clss) (globs := K74.globs) (frees := K74.frees) (ds := K74.dl) (L := K74.dlaw) (W := DV.WW) (n := 60) (k := 5)
      rfl (by decide) (by kernel_rfl) K74.room_ok K74.f_all rfl (by kernel_rfl) rfl rfl K74.law_run
