import PyProof.Rows.All
import HandS.ForMost
import HandS.Exc
import HandS.TryOnly
import HandS.ExcOwn
import HandS.WordsExc
import HandS.CallSlots
import HandS.Lambda
import HandS.TupAny
import HandS.Wide
import HandS.Zip
import HandS.Comp
import HandS.Dict
import HandS.Small
import HandS.Text
import HandS.GenList
import PyProof.GenArm
import PyProof.GenQ
import HandS.AnyAll
import PyProof.TupleOfGen
import PyProof.SumAny
import PyProof.CollectWalk
import KE.SortData
import PyProof.ExcBaseAll.ValueError
import HandS.Style
import HandS.HeadHook4
import HandS.HeadWalk
import HandS.HeadHook2
import HandS.EndTab
import HandS.Head2
import HandS.Iter
import KE.KDictZip
import KE.KItemsList
import KE.DatumOrd
import HandS.FStr
import HandS.Flt
import HandS.Defaults
import KE.DataMinMax
import KE.GoesMore
import PyProof.Draws
import PySem.Challenge.RW_alertstack_k02_thresholds_that_fire
set_option Elab.async false
set_option linter.all false
set_option maxRecDepth 100000
set_option maxHeartbeats 4000000
/-! PyCore: plain data D for Python values, an abstract heap of the objects that change, what it is for the hand layer's heap to hold them, and the judgements over plain functions. -/
namespace PyD
open PySem PySem.Spec PyProof.Rows L2

inductive D where
  | non | bl (b : Bool) | int (i : Int) | str (x : Str) | tup (xs : List D) | lst (xs : List D) | dic (kvs : List (D × D)) | obj (n : Nat) | scr (ns : List Int) | lam (k : Nat)
  deriving Inhabited
namespace D
mutual
def beq : D → D → Bool
  | .non, .non => true
  | .bl a, .bl b => a == b
  | .int a, .int b => a == b
  | .str a, .str b => a == b
  | .tup a, .tup b => beqs a b
  | .lst a, .lst b => beqs a b
  | .dic a, .dic b => beqk a b
  | .obj a, .obj b => a == b
  | .scr a, .scr b => a == b
  | .lam a, .lam b => a == b
  | _, _ => false
def beqs : List D → List D → Bool
  | [], [] => true
  | a :: r, b :: t => beq a b && beqs r t
  | _, _ => false
def beqk : List (D × D) → List (D × D) → Bool
  | [], [] => true
  | a :: r, b :: t => beqp a b && beqk r t
  | _, _ => false
def beqp : D × D → D × D → Bool
  | (a, b), (c, d) => beq a c && beq b d
end
mutual
theorem beq_refl : ∀ a : D, beq a a = true
  | .non | .bl _ | .int _ | .str _ | .obj _ | .scr _ | .lam _ => by simp [beq]
  | .tup a | .lst a => by simp only [beq]; exact beqs_refl a
  | .dic a => by simp only [beq]; exact beqk_refl a
theorem beqs_refl : ∀ a : List D, beqs a a = true
  | [] => by simp [beqs]
  | a :: r => by simp only [beqs, beq_refl a, beqs_refl r, Bool.and_self]
theorem beqk_refl : ∀ a : List (D × D), beqk a a = true
  | [] => by simp [beqk]
  | a :: r => by simp only [beqk, beqp_refl a, beqk_refl r, Bool.and_self]
theorem beqp_refl : ∀ a : D × D, beqp a a = true
  | (a, b) => by simp only [beqp, beq_refl a, beq_refl b, Bool.and_self]
end
mutual
theorem beq_eq : ∀ a b : D, beq a b = true → a = b
  | .non, b, h => by cases b <;> simp_all [beq]
  | .bl _, b, h => by cases b <;> simp_all [beq]
  | .int _, b, h => by cases b <;> simp_all [beq]
  | .str _, b, h => by cases b <;> simp_all [beq]
  | .obj _, b, h => by cases b <;> simp_all [beq]
  | .scr _, b, h => by cases b <;> simp_all [beq]
  | .lam _, b, h => by cases b <;> simp_all [beq]
  | .tup a, b, h => by
    cases b <;> simp only [beq, Bool.false_eq_true] at h
    rw [beqs_eq a _ h]
  | .lst a, b, h => by
    cases b <;> simp only [beq, Bool.false_eq_true] at h
    rw [beqs_eq a _ h]
  | .dic a, b, h => by
    cases b <;> simp only [beq, Bool.false_eq_true] at h
    rw [beqk_eq a _ h]
theorem beqs_eq : ∀ a b : List D, beqs a b = true → a = b
  | [], b, h => by cases b <;> simp_all [beqs]
  | a :: r, b, h => by
    cases b with
    | nil => simp [beqs] at h
    | cons c t =>
      simp only [beqs, Bool.and_eq_true] at h
      rw [beq_eq a c h.1, beqs_eq r t h.2]
theorem beqk_eq : ∀ a b : List (D × D), beqk a b = true → a = b
  | [], b, h => by cases b <;> simp_all [beqk]
  | a :: r, b, h => by
    cases b with
    | nil => simp [beqk] at h
    | cons c t =>
      simp only [beqk, Bool.and_eq_true] at h
      rw [beqp_eq a c h.1, beqk_eq r t h.2]
theorem beqp_eq : ∀ a b : D × D, beqp a b = true → a = b
  | (a, b), (c, d), h => by
    simp only [beqp, Bool.and_eq_true] at h
    rw [beq_eq a c h.1, beq_eq b d h.2]
end
instance : DecidableEq D := fun a b => match h : beq a b with
  | true => .isTrue (beq_eq a b h)
  | false => .isFalse fun e => by subst e; rw [beq_refl] at h; cases h
end D
/-- what stands at an abstract place -/
inductive O where
  | lst (xs : List D) | dct (lk : Bool) (kvs : List (D × D)) | ins (c : Nat) (fs : List (Str × D))
  deriving Inhabited, DecidableEq
abbrev AH := List O
abbrev Env := List (Option D)

/-- a result: a value, an exception of the class numbered c, or nothing is known -/
inductive R (α : Type) where
  | ok (a : α) (h : AH) | ex (c : Nat) (h : AH) | bad
abbrev M (α : Type) := AH → R α
@[inline] def bnd {α β : Type} (m : M α) (f : α → M β) : M β := fun h => match m h with
  | .ok a h' => f a h'
  | .ex c h' => .ex c h'
  | .bad => .bad
@[inline] def ret {α : Type} (a : α) : M α := fun h => .ok a h
def stuck {α : Type} : M α := fun _ => .bad

/-- a key of a dict whose keys are ints and texts, as data -/
def kD : Key → D
  | .inl i => .int i
  | .inr x => .str x

/-- a text that the model lays: signs below the last, not too long -/
def sOk (x : Str) : Bool := PyData.strOk x && decide (x.length ≤ sizeLine)
/-- a dict stands at a: its keys as data; lk: it is known and may not change -/
def DictAt (H : Hp) (a : Addr) (lk : Bool) (kvs : List (D × V)) : Prop :=
  ∃ ks : List (Key × V), (if lk then ∃ o, H a = some (.frz o (.dK ks)) else H a = some (.dK ks)) ∧ kvs = ks.map fun p => (kD p.1, p.2)

/-- the written part, what a lambda's number stands for -/
structure KL where
  fr : PySem.W.Frag
  lm : Nat → Addr → Addr → Heap → Prop
  lq : Str
/-- the places of the abstract heap; those of a list that is being made -/
structure Pl where
  at_ : Nat → Addr
  hid : Addr → Prop
instance : CoeFun Pl fun _ => Nat → Addr := ⟨Pl.at_⟩
section
variable (K : KL) (N : Nat) (ι : Pl) (H : Hp)
def Out (a : Addr) : Prop := (∀ n, n < N → ι n ≠ a) ∧ ¬ ι.hid a
/-- the script's list, known and never changed -/
def ScrAt (a : Addr) (xs : List V) : Prop := (Rd H a (.lst xs) ∧ Out N ι a) ∨ SqL K.fr (fun _ => none) a xs
mutual
/-- the value stands for the datum -/
def RepV : D → V → Prop
  | .non, v => v = .non
  | .bl b, v => v = .bl b
  | .int i, v => v = .int i
  | .str x, v => v = .str x ∧ sOk x = true
  | .tup ds, v => ∃ a vs, v = .ref a ∧ SqT K.fr H a vs ∧ RepVs ds vs
  | .lst ds, v => ∃ a vs, v = .ref a ∧ H a = some (.lst vs) ∧ Out N ι a ∧ RepVs ds vs
  | .scr ns, v => ∃ a, v = .ref a ∧ ScrAt K N ι H a (ns.map V.int)
  | .dic kvs, v => ∃ a kv', v = .ref a ∧ DictAt H a true kv' ∧ Out N ι a ∧ RepKV kvs kv'
  | .obj n, v => n < N ∧ v = .ref (ι n)
  | .lam k, v => ∃ a c, v = .ref a ∧ H a = some (.ext (K.lm k a c)) ∧ Out N ι a ∧ H c = some (LamX.CodeO c K.lq) ∧ Out N ι c
def RepVs : List D → List V → Prop
  | [], vs => vs = []
  | d :: ds, vs => ∃ v r, vs = v :: r ∧ RepV d v ∧ RepVs ds r
def RepKV : List (D × D) → List (D × V) → Prop
  | [], vs => vs = []
  | p :: ps, vs => ∃ v r, vs = (p.1, v) :: r ∧ RepP p v ∧ RepKV ps r
def RepP : D × D → V → Prop
  | (_, d), v => RepV d v
end
def RepFs : List (Str × D) → List (Str × V) → Prop
  | [], vs => vs = []
  | p :: ps, vs => ∃ v r, vs = (p.1, v) :: r ∧ RepV K N ι H p.2 v ∧ RepFs ps r
end

/-- what is the same for a whole law: the written part, the classes by numbers -/
structure Pm where
  K : KL
  cls : Nat → Addr
  /-- the tables of code objects of the defs that make some, with the name of these -/
  tabs : List (Addr × Str)

/-- no table of code objects -/
def NTb (o : HO) : Prop := ∀ ps, o ≠ .tbl ps
/-- nothing stands there, a table at most -/
def Vac (H : Hp) (a : Addr) : Prop := ∀ o, H a = some o → ∃ ps, o = .tbl ps
theorem Vac.of {H : Hp} {a : Addr} (h : H a = none) : Vac H a := fun o e => by rw [h] at e; cases e
theorem Vac.no {H : Hp} {a : Addr} {o : HO} (h : Vac H a) (e : H a = some o) (t : NTb o) : False := by
  obtain ⟨ps, z⟩ := h o e
  exact t ps z
/-- from a heap to a later one: known places stay, what is not known to change stays -/
structure Ex0 (N : Nat) (ι : Pl) (H : Hp) (N' : Nat) (ι' : Pl) (H' : Hp) : Prop where
  le : N ≤ N'
  same : ∀ n, n < N → ι' n = ι n
  keep : ∀ a o, H a = some o → (∀ ps, o ≠ .tbl ps) → Out N ι a → H' a = some o
  there : ∀ a o, H a = some o → NTb o → ∃ o', H' a = some o' ∧ NTb o'
  new : ∀ n, N ≤ n → n < N' → Vac H (ι' n)
  hnew : ∀ a, ι'.hid a → ι.hid a ∨ Vac H a
/-- and what is being made further out stays -/
structure Ext (N : Nat) (ι : Pl) (H : Hp) (N' : Nat) (ι' : Pl) (H' : Hp) : Prop extends Ex0 N ι H N' ι' H' where
  hid : ∀ a, ι.hid a → ι'.hid a ∧ H' a = H a

theorem Ex0.refl {N : Nat} {ι : Pl} {H : Hp} : Ex0 N ι H N ι H :=
  ⟨Nat.le_refl _, fun _ _ => rfl, fun _ _ h _ _ => h, fun _ o h t => ⟨o, h, t⟩, fun n h1 h2 => absurd h2 (Nat.not_lt.mpr h1), fun _ => .inl⟩
theorem Ext.refl {N : Nat} {ι : Pl} {H : Hp} : Ext N ι H N ι H := ⟨Ex0.refl, fun _ h => ⟨h, rfl⟩⟩
theorem Ex0.out {N N' : Nat} {ι ι' : Pl} {H H' : Hp} (e : Ex0 N ι H N' ι' H') {a : Addr} {o : HO} (h : H a = some o) (t : NTb o) (ho : Out N ι a) : Out N' ι' a := by
  refine ⟨fun n hn => ?_, fun z => ?_⟩
  · by_cases q : n < N
    · rw [e.same n q]; exact ho.1 n q
    · intro z
      exact (e.new n (Nat.le_of_not_lt q) hn).no (by rw [z]; exact h) t
  · rcases e.hnew a z with z | z
    · exact ho.2 z
    · exact z.no h t
theorem Ex0.vac {N N' : Nat} {ι ι' : Pl} {H H' : Hp} (e : Ex0 N ι H N' ι' H') {a : Addr} (h : Vac H' a) : Vac H a := fun o q => by
  by_cases t : NTb o
  · obtain ⟨o', h', t'⟩ := e.there a o q t
    exact (h.no h' t').elim
  · unfold NTb at t
    exact Classical.byContradiction fun z => t fun ps e => z ⟨ps, e⟩
theorem Ex0.trans {N N1 N2 : Nat} {ι ι1 ι2 : Pl} {H H1 H2 : Hp} (e : Ex0 N ι H N1 ι1 H1) (f : Ex0 N1 ι1 H1 N2 ι2 H2) : Ex0 N ι H N2 ι2 H2 where
  le := Nat.le_trans e.le f.le
  same := fun n hn => (f.same n (Nat.lt_of_lt_of_le hn e.le)).trans (e.same n hn)
  keep := fun a o h t ho => f.keep a o (e.keep a o h t ho) t (e.out h t ho)
  there := fun a o h t => let ⟨o', h', t'⟩ := e.there a o h t; f.there a o' h' t'
  new := fun n h1 h2 => by
    by_cases q : n < N1
    · rw [f.same n q]; exact e.new n h1 q
    · exact e.vac (f.new n (Nat.le_of_not_lt q) h2)
  hnew := fun a h => by
    rcases f.hnew a h with z | z
    · exact e.hnew a z
    · exact .inr (e.vac z)
theorem Ext.trans {N N1 N2 : Nat} {ι ι1 ι2 : Pl} {H H1 H2 : Hp} (e : Ext N ι H N1 ι1 H1) (f : Ext N1 ι1 H1 N2 ι2 H2) : Ext N ι H N2 ι2 H2 :=
  ⟨e.toEx0.trans f.toEx0, fun a h => ⟨(f.hid a (e.hid a h).1).1, ((f.hid a (e.hid a h).1).2).trans (e.hid a h).2⟩⟩
instance {N : Nat} {ι : Pl} {H : Hp} {N' : Nat} {ι' : Pl} {H' : Hp} : Coe (Ext N ι H N' ι' H') (Ex0 N ι H N' ι' H') := ⟨Ext.toEx0⟩
/-- no place of the heap, none that is being made, is a tuple's -/
structure NoTup (N : Nat) (ι : Pl) (H : Hp) : Prop where
  vis : ∀ n, n < N → ∀ vs, ¬ Rd H (ι n) (.tup vs)
  hid : ∀ a, ι.hid a → ∀ vs, ¬ Rd H a (.tup vs)

section
variable {K : KL} {N N' : Nat} {ι ι' : Pl} {H H' : Hp}
theorem Ex0.tup (e : Ex0 N ι H N' ι' H') (hi : NoTup N ι H) {a : Addr} {vs : List V} (h : SqT K.fr H a vs) : SqT K.fr H' a vs := by
  rcases h with (h | ⟨o, h⟩) | h
  · exact .inl (.inl (e.keep a _ h (fun ps z => by cases z) ⟨fun n hn z => hi.vis n hn vs (.inl (by rw [z]; exact h)), fun z => hi.hid a z vs (.inl h)⟩))
  · exact .inl (.inr ⟨o, e.keep a _ h (fun ps z => by cases z) ⟨fun n hn z => hi.vis n hn vs (.inr ⟨o, by rw [z]; exact h⟩), fun z => hi.hid a z vs (.inr ⟨o, h⟩)⟩⟩)
  · exact .inr h
theorem Ex0.rd (e : Ex0 N ι H N' ι' H') {a : Addr} {vs : List V} (h : Rd H a (.lst vs)) (ho : Out N ι a) : Rd H' a (.lst vs) ∧ Out N' ι' a := by
  rcases h with h | ⟨o, h⟩
  · exact ⟨.inl (e.keep a _ h (fun ps z => by cases z) ho), e.out h (fun ps z => by cases z) ho⟩
  · exact ⟨.inr ⟨o, e.keep a _ h (fun ps z => by cases z) ho⟩, e.out h (fun ps z => by cases z) ho⟩
theorem Ex0.dict (e : Ex0 N ι H N' ι' H') {a : Addr} {kvs : List (D × V)} (h : DictAt H a true kvs) (ho : Out N ι a) : DictAt H' a true kvs ∧ Out N' ι' a := by
  obtain ⟨ks, h, r⟩ := h
  rw [if_pos rfl] at h
  obtain ⟨o, h⟩ := h
  exact ⟨⟨ks, by rw [if_pos rfl]; exact ⟨o, e.keep a _ h (fun ps z => by cases z) ho⟩, r⟩, e.out h (fun ps z => by cases z) ho⟩
mutual
theorem RepV.mono (e : Ex0 N ι H N' ι' H') (hi : NoTup N ι H) : ∀ (d : D) (v : V), RepV K N ι H d v → RepV K N' ι' H' d v
  | .non, _, h => by simp only [RepV] at *; exact h
  | .bl _, _, h => by simp only [RepV] at *; exact h
  | .int _, _, h => by simp only [RepV] at *; exact h
  | .str _, _, h => by simp only [RepV] at *; exact h
  | .tup ds, v, h => by
    simp only [RepV] at *
    obtain ⟨a, vs, e1, h1, h2⟩ := h
    exact ⟨a, vs, e1, e.tup hi h1, RepVs.mono e hi ds vs h2⟩
  | .lst ds, v, h => by
    simp only [RepV] at *
    obtain ⟨a, vs, e1, h1, h2, h3⟩ := h
    exact ⟨a, vs, e1, e.keep a _ h1 (fun ps z => by cases z) h2, e.out h1 (fun ps z => by cases z) h2, RepVs.mono e hi ds vs h3⟩
  | .scr ns, v, h => by
    simp only [RepV] at *
    obtain ⟨a, e1, h1⟩ := h
    exact ⟨a, e1, h1.elim (fun z => .inl (e.rd z.1 z.2)) .inr⟩
  | .dic kvs, v, h => by
    simp only [RepV] at *
    obtain ⟨a, kv', e1, h1, h2, h3⟩ := h
    exact ⟨a, kv', e1, (e.dict h1 h2).1, (e.dict h1 h2).2, RepKV.mono e hi kvs kv' h3⟩
  | .obj n, v, h => by
    simp only [RepV] at *
    obtain ⟨h1, h2⟩ := h
    exact ⟨Nat.lt_of_lt_of_le h1 e.le, by rw [e.same n h1]; exact h2⟩
  | .lam _, v, h => by
    simp only [RepV] at *
    obtain ⟨a, c, e1, h1, h2, h3, h4⟩ := h
    exact ⟨a, c, e1, e.keep a _ h1 (fun ps z => by cases z) h2, e.out h1 (fun ps z => by cases z) h2, e.keep c _ h3 LamX.codeO_ne h4, e.out h3 LamX.codeO_ne h4⟩
theorem RepVs.mono (e : Ex0 N ι H N' ι' H') (hi : NoTup N ι H) : ∀ (ds : List D) (vs : List V), RepVs K N ι H ds vs → RepVs K N' ι' H' ds vs
  | [], _, h => by simp only [RepVs] at *; exact h
  | d :: ds, vs, h => by
    simp only [RepVs] at *
    obtain ⟨v, r, e1, h1, h2⟩ := h
    exact ⟨v, r, e1, RepV.mono e hi d v h1, RepVs.mono e hi ds r h2⟩
theorem RepKV.mono (e : Ex0 N ι H N' ι' H') (hi : NoTup N ι H) : ∀ (ds : List (D × D)) (vs : List (D × V)), RepKV K N ι H ds vs → RepKV K N' ι' H' ds vs
  | [], _, h => by simp only [RepKV] at *; exact h
  | p :: ds, vs, h => by
    simp only [RepKV] at *
    obtain ⟨v, r, e1, h1, h2⟩ := h
    exact ⟨v, r, e1, RepP.mono e hi p v h1, RepKV.mono e hi ds r h2⟩
theorem RepP.mono (e : Ex0 N ι H N' ι' H') (hi : NoTup N ι H) : ∀ (p : D × D) (v : V), RepP K N ι H p v → RepP K N' ι' H' p v
  | (_, d), v, h => by
    simp only [RepP] at *
    exact RepV.mono e hi d v h
end
theorem RepFs.mono (e : Ex0 N ι H N' ι' H') (hi : NoTup N ι H) : ∀ (ds : List (Str × D)) (vs : List (Str × V)), RepFs K N ι H ds vs → RepFs K N' ι' H' ds vs
  | [], _, h => by simp only [RepFs] at *; exact h
  | p :: ds, vs, h => by
    simp only [RepFs] at *
    obtain ⟨v, r, e1, h1, h2⟩ := h
    exact ⟨v, r, e1, RepV.mono e hi p.2 v h1, RepFs.mono e hi ds r h2⟩
end

/-- the object at a is what the abstract place says -/
def ObjAt (P : Pm) (N : Nat) (ι : Pl) (H : Hp) (a : Addr) : O → Prop
  | .lst ds => ∃ vs, H a = some (.lst vs) ∧ RepVs P.K N ι H ds vs
  | .dct lk kvs => ∃ kv', DictAt H a lk kv' ∧ RepKV P.K N ι H kvs kv'
  | .ins c fs => ∃ dx fs', H a = some (.ins (P.cls c) dx fs') ∧ RepFs P.K N ι H fs fs'
/-- what an abstract place, or a thing that is being made, may be -/
def Plain : HO → Prop
  | .lst _ => True
  | .dK _ => True
  | .ins _ _ _ => True
  | .frz _ (.dK _) => True
  | _ => False
theorem Plain.tup {o : HO} (h : Plain o) : ∀ vs, o ≠ .tup vs := fun vs e => by subst e; exact h
theorem Plain.ftup {o : HO} (h : Plain o) : ∀ x vs, o ≠ .frz x (.tup vs) := fun x vs e => by subst e; exact h
theorem Plain.tbl {o : HO} (h : Plain o) : ∀ ps, o ≠ .tbl ps := fun ps e => by subst e; exact h
theorem Plain.ext {o : HO} (h : Plain o) : ∀ φ, o ≠ .ext φ := fun φ e => by subst e; exact h
/-- a table of code objects -/
abbrev TabAt (H : Hp) (p : Addr × Str) : Prop := LamX.TabS H p.1 p.2
/-- the abstract heap is held -/
structure HRep (P : Pm) (ι : Pl) (ah : AH) (H : Hp) : Prop where
  inj : ∀ m n, m < ah.length → n < ah.length → ι m = ι n → m = n
  at_ : ∀ n o, ah[n]? = some o → ObjAt P ah.length ι H (ι n) o
  hd : ∀ a, ι.hid a → (∃ ho, H a = some ho ∧ Plain ho) ∧ ∀ n, n < ah.length → ι n ≠ a
  tab : ∀ p ∈ P.tabs, TabAt H p
theorem ObjAt.some {P : Pm} {N : Nat} {ι : Pl} {H : Hp} {a : Addr} {o : O} (h : ObjAt P N ι H a o) : ∃ ho, H a = some ho ∧ Plain ho := by
  cases o with
  | lst ds => obtain ⟨vs, h, _⟩ := h; exact ⟨_, h, True.intro⟩
  | dct lk kvs =>
    obtain ⟨kv', ⟨ks, h, _⟩, _⟩ := h
    cases lk with
    | true => rw [if_pos rfl] at h; obtain ⟨o, h⟩ := h; exact ⟨_, h, True.intro⟩
    | false => rw [if_neg Bool.false_ne_true] at h; exact ⟨_, h, True.intro⟩
  | ins c fs => obtain ⟨dx, fs', h, _⟩ := h; exact ⟨_, h, True.intro⟩
theorem HRep.notup {P : Pm} {ι : Pl} {ah : AH} {H : Hp} (h : HRep P ι ah H) : NoTup ah.length ι H := by
  refine ⟨fun n hn vs z => ?_, fun a ha vs z => ?_⟩
  · obtain ⟨ho, h1, h2⟩ := (h.at_ n _ (List.getElem?_eq_getElem hn)).some
    rcases z with z | ⟨o, z⟩
    · rw [h1] at z; exact h2.tup vs (Option.some.inj z)
    · rw [h1] at z; exact h2.ftup _ _ (Option.some.inj z)
  · obtain ⟨⟨ho, h1, h2⟩, _⟩ := h.hd a ha
    rcases z with z | ⟨o, z⟩
    · rw [h1] at z; exact h2.tup vs (Option.some.inj z)
    · rw [h1] at z; exact h2.ftup _ _ (Option.some.inj z)
/-- a thing of another kind stands apart -/
theorem HRep.out {P : Pm} {ι : Pl} {ah : AH} {H : Hp} (h : HRep P ι ah H) {a : Addr} {o : HO} (e : H a = .some o) (n : ¬ Plain o) : Out ah.length ι a := by
  refine ⟨fun k hk z => ?_, fun z => ?_⟩
  · obtain ⟨ho, h1, h2⟩ := (h.at_ k _ (List.getElem?_eq_getElem hk)).some
    rw [z, e] at h1
    cases h1
    exact n h2
  · obtain ⟨⟨ho, h1, h2⟩, _⟩ := h.hd a z
    rw [e] at h1
    cases h1
    exact n h2
/-- the tables stay -/
theorem TabAt.keep {P : Pm} {ι : Pl} {ah : AH} {H H' : Hp} {N' : Nat} {ι' : Pl} (h : HRep P ι ah H) (x : Ex0 ah.length ι H N' ι' H') (ht : ∀ a ps, H a = .some (.tbl ps) → H' a = .some (.tbl ps)) {p : Addr × Str} (t : TabAt H p) : TabAt H' p := by
  obtain ⟨ps, h1, h2, h3⟩ := t
  refine ⟨ps, ht _ _ h1, h2, fun pos cv hc => ?_⟩
  obtain ⟨c, e1, e2⟩ := h3 pos cv hc
  exact ⟨c, e1, x.keep c _ e2 LamX.codeO_ne (h.out e2 (fun z => z))⟩
theorem DictAt.of {H H' : Hp} {a : Addr} {lk : Bool} {kvs : List (D × V)} (hs : H' a = H a) (h : DictAt H a lk kvs) : DictAt H' a lk kvs := by
  unfold DictAt at *
  rw [hs]; exact h
theorem DictAt.rd {H : Hp} {a : Addr} {lk : Bool} {kvs : List (D × V)} (h : DictAt H a lk kvs) : ∃ ks : List (Key × V), Rd H a (.dK ks) ∧ kvs = ks.map fun p => (kD p.1, p.2) := by
  obtain ⟨ks, h, e⟩ := h
  cases lk with
  | true => rw [if_pos rfl] at h; obtain ⟨o, h⟩ := h; exact ⟨ks, .inr ⟨o, h⟩, e⟩
  | false => rw [if_neg Bool.false_ne_true] at h; exact ⟨ks, .inl h, e⟩
theorem ObjAt.mono {P : Pm} {N N' : Nat} {ι ι' : Pl} {H H' : Hp} {a : Addr} (e : Ex0 N ι H N' ι' H') (hi : NoTup N ι H) (hs : H' a = H a) : ∀ {o : O}, ObjAt P N ι H a o → ObjAt P N' ι' H' a o
  | .lst ds, ⟨vs, h, r⟩ => ⟨vs, by rw [hs]; exact h, RepVs.mono e hi _ _ r⟩
  | .dct lk kvs, ⟨kv', h, r⟩ => ⟨kv', h.of hs, RepKV.mono e hi _ _ r⟩
  | .ins c fs, ⟨dx, fs', h, r⟩ => ⟨dx, fs', by rw [hs]; exact h, RepFs.mono e hi _ _ r⟩

/-- the frame's values -/
def EnvRep (P : Pm) (N : Nat) (ι : Pl) (H : Hp) (env : Env) (σ : L2.St) : Prop :=
  env.length = σ.length ∧ ∀ (i : Nat) (d : D), env[i]? = some (some d) → ∃ v, σ[i]? = some (some v) ∧ RepV P.K N ι H d v
theorem EnvRep.mono {P : Pm} {N N' : Nat} {ι ι' : Pl} {H H' : Hp} {env : Env} {σ : L2.St} (e : Ex0 N ι H N' ι' H') (hi : NoTup N ι H) (h : EnvRep P N ι H env σ) : EnvRep P N' ι' H' env σ :=
  ⟨h.1, fun i d q => let ⟨v, h1, h2⟩ := h.2 i d q; ⟨v, h1, RepV.mono e hi d v h2⟩⟩

abbrev WXT := Value → Option Addr → L2.St → Hp → Prop
/-- what is wanted behind a computation that may raise: the result's kind by Rp -/
def Fin {α β : Type} (Rp : Nat → Pl → Hp → α → β → Prop) (P : Pm) (W : WXT) (σ : L2.St) (ι : Pl) (N : Nat) (H : Hp) (r : R α) (Q : β → Hp → Prop) : Prop :=
  match r with
  | .ok d ah' => ∀ ι' H' v, Ext N ι H ah'.length ι' H' → HRep P ι' ah' H' → Rp ah'.length ι' H' d v → Q v H'
  | .ex c ah' => ∀ ι' H', Ext N ι H ah'.length ι' H' → HRep P ι' ah' H' → W (.ref (P.cls c)) none σ H'
  | .bad => False
abbrev rV (P : Pm) : Nat → Pl → Hp → D → V → Prop := fun N ι H d v => RepV P.K N ι H d v
abbrev rVs (P : Pm) : Nat → Pl → Hp → List D → List V → Prop := fun N ι H d v => RepVs P.K N ι H d v
abbrev rB : Nat → Pl → Hp → Bool → Bool → Prop := fun _ _ _ b c => c = b

/-- a step, then the rest: the rest starts where the step ended -/
theorem Fin.step {α β γ δ : Type} {Rp : Nat → Pl → Hp → α → β → Prop} {Rq : Nat → Pl → Hp → γ → δ → Prop} {P : Pm} {W : WXT} {σ : L2.St} {ι : Pl} {ah : AH} {H : Hp} {m : M α} {k : α → M γ} {Q : δ → Hp → Prop}
    (h : Fin Rq P W σ ι ah.length H (bnd m k ah) Q) :
    Fin Rp P W σ ι ah.length H (m ah) (fun v H1 => ∃ ι1 ah1 d, Ext ah.length ι H ah1.length ι1 H1 ∧ HRep P ι1 ah1 H1 ∧ Rp ah1.length ι1 H1 d v ∧ Fin Rq P W σ ι1 ah1.length H1 (k d ah1) Q) := by
  unfold bnd at h
  cases e : m ah with
  | ok d ah1 =>
    rw [e] at h
    intro ι1 H1 v x r p
    refine ⟨ι1, ah1, d, x, r, p, ?_⟩
    revert h
    show Fin Rq P W σ ι ah.length H (k d ah1) Q → _
    intro h
    cases e2 : k d ah1 with
    | ok d2 ah2 => rw [e2] at h; exact fun ι2 H2 v2 x2 r2 p2 => h ι2 H2 v2 (x.trans x2) r2 p2
    | ex c ah2 => rw [e2] at h; exact fun ι2 H2 x2 r2 => h ι2 H2 (x.trans x2) r2
    | bad => rw [e2] at h; exact h
  | ex c ah1 => rw [e] at h; exact h
  | bad => rw [e] at h; exact h
theorem Fin.imp {α β : Type} {Rp : Nat → Pl → Hp → α → β → Prop} {P : Pm} {W : WXT} {σ : L2.St} {ι : Pl} {N : Nat} {H : Hp} {r : R α} {Q Q' : β → Hp → Prop} (h : Fin Rp P W σ ι N H r Q) (hq : ∀ v H, Q v H → Q' v H) : Fin Rp P W σ ι N H r Q' := by
  cases r with
  | ok d ah' => exact fun ι' H' v x y z => hq _ _ (h ι' H' v x y z)
  | ex c ah' => exact h
  | bad => exact h

/-- the state of a frame -/
structure Sta (P : Pm) (ι : Pl) (ah : AH) (env : Env) (σ : L2.St) (H : Hp) : Prop where
  hp : HRep P ι ah H
  env : EnvRep P ah.length ι H env σ
theorem Sta.next {P : Pm} {ι ι' : Pl} {ah ah' : AH} {env : Env} {σ : L2.St} {H H' : Hp} (s : Sta P ι ah env σ H) (e : Ext ah.length ι H ah'.length ι' H') (h : HRep P ι' ah' H') : Sta P ι' ah' env σ H' := ⟨h, s.env.mono e.toEx0 s.hp.notup⟩

/-- the readings -/
def tD (P : Pm) (W : WXT) (f : Env → M D) : TE := fun σ H Q => ∃ ι ah env, Sta P ι ah env σ H ∧ Fin (rV P) P W σ ι ah.length H (f env ah) Q
def tDs (P : Pm) (W : WXT) (f : Env → M (List D)) : TA := fun σ H Q => ∃ ι ah env, Sta P ι ah env σ H ∧ Fin (rVs P) P W σ ι ah.length H (f env ah) Q
def tDB (P : Pm) (W : WXT) (f : Env → M Bool) : TT := fun σ H Q => ∃ ι ah env, Sta P ι ah env σ H ∧ Fin rB P W σ ι ah.length H (f env ah) Q
abbrev DE (X : Cx) (P : Pm) (W : WXT) (e : Expr) (f : Env → M D) : Prop := PE X e (tD P W f)
abbrev DA (X : Cx) (P : Pm) (W : WXT) (es : List Expr) (f : Env → M (List D)) : Prop := PA X es (tDs P W f)
abbrev DT (X : Cx) (P : Pm) (W : WXT) (e : Expr) (f : Env → M Bool) : Prop := PT X e (tDB P W f)

/-- a statement's end -/
inductive Fl where
  | nx (env : Env) | rt (d : D) | bk (env : Env) | ct (env : Env)
def EndS (P : Pm) (W : WXT) (σ : L2.St) (ι : Pl) (N : Nat) (H : Hp) (r : R Fl) (E : Ends) : Prop :=
  match r with
  | .ok (.nx env') ah' => ∀ ι' σ' H', Ext N ι H ah'.length ι' H' → Sta P ι' ah' env' σ' H' → E.nx σ' H'
  | .ok (.bk env') ah' => ∀ ι' σ' H', Ext N ι H ah'.length ι' H' → Sta P ι' ah' env' σ' H' → E.bk σ' H'
  | .ok (.ct env') ah' => ∀ ι' σ' H', Ext N ι H ah'.length ι' H' → Sta P ι' ah' env' σ' H' → E.ct σ' H'
  | .ok (.rt d) ah' => ∀ ι' H' v, Ext N ι H ah'.length ι' H' → HRep P ι' ah' H' → RepV P.K ah'.length ι' H' d v → E.rt v H'
  | .ex c ah' => ∀ ι' σ' H', Ext N ι H ah'.length ι' H' → HRep P ι' ah' H' → W (.ref (P.cls c)) none σ' H'
  | .bad => False
def tDS (P : Pm) (W : WXT) (f : Env → M Fl) : TS := fun E σ H => ∃ ι ah env, Sta P ι ah env σ H ∧ EndS P W σ ι ah.length H (f env ah) E
abbrev DS (X : Cx) (P : Pm) (W : WXT) (s : Stmt) (f : Env → M Fl) : Prop := PS X s (tDS P W f)
abbrev DSs (X : Cx) (P : Pm) (W : WXT) (s : List Stmt) (f : Env → M Fl) : Prop := PSs X s (tDS P W f)
end PyD

/-! PyExpr: expressions. -/
namespace PyD
open PySem PySem.Spec L2
open PyProof.Rows hiding St

section
variable {X : Cx} {P : Pm} {W : WXT}
theorem weakE {e : Expr} {t t' : TE} (h : PE X e t) (w : ∀ σ H Q, t' σ H Q → t σ H Q) : PE X e t' := ⟨fun pins s σ H Q I q => h.run pins s σ H Q I (w σ H Q q)⟩
theorem weakT {e : Expr} {t t' : TT} (h : PT X e t) (w : ∀ σ H Q, t' σ H Q → t σ H Q) : PT X e t' := ⟨fun pins s σ H Q I q => h.run pins s σ H Q I (w σ H Q q)⟩
theorem weakW {e : Expr} {t t' : TT} (h : PW X e t) (w : ∀ σ H Q, t' σ H Q → t σ H Q) : PW X e t' := ⟨fun wh pins s σ H Q I q => h.run wh pins s σ H Q I (w σ H Q q)⟩
theorem weakA {e : List Expr} {t t' : TA} (h : PA X e t) (w : ∀ σ H Q, t' σ H Q → t σ H Q) : PA X e t' := ⟨fun pos pins s σ H Q I q => h.run pos pins s σ H Q I (w σ H Q q)⟩
theorem weakS {e : Stmt} {t t' : TS} (h : PS X e t) (w : ∀ E σ H, t' E σ H → t E σ H) : PS X e t' := ⟨fun pins s σ H E I q => h.run pins s σ H E I (w E σ H q)⟩
theorem weakSs {e : List Stmt} {t t' : TS} (h : PSs X e t) (w : ∀ E σ H, t' E σ H → t E σ H) : PSs X e t' := ⟨fun pins s σ H E I q => h.run pins s σ H E I (w E σ H q)⟩

/-! ### names, constants -/
def eVar (i : Nat) : Env → M D := fun env h => match env[i]? with
  | some (some d) => .ok d h
  | _ => .bad
def eC (d : D) : Env → M D := fun _ h => .ok d h
theorem de_var {i : Nat} {x : Str} {pos : Pos} (h : PE X (.Name x pos) (tVar i)) : DE X P W (.Name x pos) (eVar i) := weakE h fun σ H Q ⟨ι, ah, env, st, q⟩ => by
  unfold eVar at q
  cases e : env[i]? with
  | none => rw [e] at q; exact q.elim
  | some o =>
    cases o with
    | none => rw [e] at q; exact q.elim
    | some d =>
      rw [e] at q
      obtain ⟨v, h1, h2⟩ := st.env.2 i d e
      exact ⟨v, h1, q ι H v Ext.refl st.hp h2⟩
theorem de_c {e : Expr} {v : V} {d : D} (h : PE X e (tC v)) (r : ∀ N ι H, RepV P.K N ι H d v) : DE X P W e (eC d) := weakE h fun σ H Q ⟨ι, ah, env, st, q⟩ => q ι H v Ext.refl st.hp (r _ _ _)
theorem de_int {i j pos} : DE X P W (.Constant (.int i) j pos) (eC (.int i)) := de_c pe_int fun _ _ _ => by simp only [RepV]
theorem de_bl {b j pos} : DE X P W (.Constant (.bool b) j pos) (eC (.bl b)) := de_c pe_bl fun _ _ _ => by simp only [RepV]
theorem de_non {j pos} : DE X P W (.Constant .none j pos) (eC .non) := de_c pe_non fun _ _ _ => by simp only [RepV]
theorem de_str {x j pos} (h : sOk x = true := by decide +kernel) : DE X P W (.Constant (.str x) j pos) (eC (.str x)) := de_c pe_str fun _ _ _ => by simp only [RepV]; exact ⟨trivial, h⟩

/-! ### what stays where a new object is laid, where one is written -/
theorem HRep.ext {ι : Pl} {ah : AH} {H H' : Hp} (h : HRep P ι ah H) (e : Ex0 ah.length ι H ah.length ι H') (hs : ∀ n, n < ah.length → H' (ι n) = H (ι n)) (hh : ∀ a, ι.hid a → H' a = H a ∨ ∃ ho, H' a = some ho ∧ Plain ho) (ht : ∀ a ps, H a = some (.tbl ps) → H' a = some (.tbl ps)) : HRep P ι ah H' :=
  ⟨h.inj, fun n o q => (h.at_ n o q).mono e h.notup (hs n (List.getElem?_eq_some_iff.mp q).1), fun a ha => ⟨(hh a ha).elim (fun z => by rw [z]; exact (h.hd a ha).1) id, (h.hd a ha).2⟩, fun p hp => (h.tab p hp).keep h e ht⟩
theorem HRep.ne {ι : Pl} {ah : AH} {H : Hp} (h : HRep P ι ah H) {p : Addr} (hp : H p = none) : ∀ n, n < ah.length → ι n ≠ p := fun n hn z => by
  obtain ⟨ho, h1, _⟩ := (h.at_ n _ (List.getElem?_eq_getElem hn)).some
  rw [z, hp] at h1; cases h1
theorem Ex0.fresh {N : Nat} {ι : Pl} {H : Hp} {p : Addr} {o : HO} (hp : H p = none) : Ex0 N ι H N ι (upd H p o) where
  le := Nat.le_refl _
  same := fun _ _ => rfl
  keep := fun a u h _ _ => by rw [upd_ne (ne_of_none h hp)]; exact h
  there := fun a u h t => ⟨u, by rw [upd_ne (ne_of_none h hp)]; exact h, t⟩
  new := fun n h1 h2 => absurd h2 (Nat.not_lt.mpr h1)
  hnew := fun _ => .inl
theorem HRep.hne {ι : Pl} {ah : AH} {H : Hp} (h : HRep P ι ah H) {p : Addr} (hp : H p = none) : ∀ a, ι.hid a → a ≠ p := fun a ha z => by
  obtain ⟨⟨ho, h1, _⟩, _⟩ := h.hd a ha
  rw [z, hp] at h1; cases h1
theorem Ext.fresh {ι : Pl} {ah : AH} {H : Hp} {p : Addr} {o : HO} (h : HRep P ι ah H) (hp : H p = none) : Ext ah.length ι H ah.length ι (upd H p o) :=
  ⟨Ex0.fresh hp, fun a ha => ⟨ha, upd_ne (h.hne hp a ha)⟩⟩
theorem HRep.fresh {ι : Pl} {ah : AH} {H : Hp} {p : Addr} {o : HO} (h : HRep P ι ah H) (hp : H p = none) : HRep P ι ah (upd H p o) :=
  h.ext (Ex0.fresh hp) (fun n hn => by rw [upd_ne (h.ne hp n hn)]) (fun a ha => .inl (upd_ne (h.hne hp a ha))) fun a ps e => by rw [upd_ne (ne_of_none e hp)]; exact e
/-- places with one more behind -/
def more (ι : Pl) (N : Nat) (p : Addr) : Pl := ⟨fun n => if n = N then p else ι n, ι.hid⟩
theorem more_at {ι : Pl} {N : Nat} {p : Addr} : more ι N p N = p := if_pos rfl
theorem more_lt {ι : Pl} {N : Nat} {p : Addr} {n : Nat} (h : n < N) : more ι N p n = ι n := if_neg (Nat.ne_of_lt h)
theorem Ex0.push {N : Nat} {ι : Pl} {H : Hp} {p : Addr} {o : HO} (hp : H p = none) : Ex0 N ι H (N + 1) (more ι N p) (upd H p o) where
  le := Nat.le_succ _
  same := fun _ h => more_lt h
  keep := fun a u h _ _ => by rw [upd_ne (ne_of_none h hp)]; exact h
  there := fun a u h t => ⟨u, by rw [upd_ne (ne_of_none h hp)]; exact h, t⟩
  new := fun n h1 h2 => by
    have : n = N := by omega
    subst this; rw [more_at]; exact .of hp
  hnew := fun _ h => .inl h
theorem Ext.push {ι : Pl} {ah : AH} {H : Hp} {p : Addr} {o : HO} (h : HRep P ι ah H) (hp : H p = none) : Ext ah.length ι H (ah.length + 1) (more ι ah.length p) (upd H p o) :=
  ⟨Ex0.push hp, fun a ha => ⟨ha, upd_ne (h.hne hp a ha)⟩⟩
theorem HRep.push {ι : Pl} {ah : AH} {H : Hp} {p : Addr} {o : HO} {u : O} (h : HRep P ι ah H) (hp : H p = none) (ob : ObjAt P (ah.length + 1) (more ι ah.length p) (upd H p o) p u) : HRep P (more ι ah.length p) (ah ++ [u]) (upd H p o) := by
  have len : (ah ++ [u]).length = ah.length + 1 := by simp
  refine ⟨fun m n hm hn e => ?_, fun n v q => ?_, fun a ha => ⟨by rw [upd_ne (h.hne hp a ha)]; exact (h.hd a ha).1, fun n hn => ?_⟩, fun p hp' => (h.tab p hp').keep h (Ex0.push hp) fun a ps e => by rw [upd_ne (ne_of_none e hp)]; exact e⟩
  rotate_left 2
  · rw [len] at hn
    by_cases h1 : n = ah.length
    · rw [h1, more_at]; exact (h.hne hp a ha).symm
    · rw [more_lt (by omega)]; exact (h.hd a ha).2 n (by omega)
  · rw [len] at hm hn
    by_cases h1 : m = ah.length
    · by_cases h2 : n = ah.length
      · rw [h1, h2]
      · rw [h1, more_at, more_lt (by omega)] at e
        exact absurd e.symm (h.ne hp n (by omega))
    · by_cases h2 : n = ah.length
      · rw [h2, more_at, more_lt (by omega)] at e
        exact absurd e (h.ne hp m (by omega))
      · rw [more_lt (by omega), more_lt (by omega)] at e
        exact h.inj m n (by omega) (by omega) e
  · rw [len]
    by_cases h1 : n < ah.length
    · rw [List.getElem?_append_left h1] at q
      rw [more_lt h1]
      exact (h.at_ n v q).mono (Ex0.push hp) h.notup (by rw [upd_ne (h.ne hp n h1)])
    · have h2 := (List.getElem?_eq_some_iff.mp q).1
      rw [len] at h2
      have h3 : n = ah.length := by omega
      subst h3
      rw [List.getElem?_append_right (Nat.le_refl _), Nat.sub_self] at q
      simp only [List.getElem?_cons_zero, Option.some.injEq] at q
      subst q
      rw [more_at]
      exact ob
theorem Ex0.write {ι : Pl} {ah : AH} {H : Hp} {n : Nat} {o : HO} (hn : n < ah.length) (ho : NTb o := by intro _ h; cases h) : Ex0 ah.length ι H ah.length ι (upd H (ι n) o) where
  le := Nat.le_refl _
  same := fun _ _ => rfl
  keep := fun a u h _ ho => by rw [upd_ne (fun z => ho.1 n hn z.symm)]; exact h
  there := fun a u h t => by
    by_cases q : a = ι n
    · exact ⟨o, by rw [q, upd_same], ho⟩
    · exact ⟨u, by rw [upd_ne q]; exact h, t⟩
  new := fun m h1 h2 => absurd h2 (Nat.not_lt.mpr h1)
  hnew := fun _ h => .inl h
theorem Ext.write {ι : Pl} {ah : AH} {H : Hp} {n : Nat} {o : HO} (h : HRep P ι ah H) (hn : n < ah.length) (ho : NTb o := by intro _ h; cases h) : Ext ah.length ι H ah.length ι (upd H (ι n) o) :=
  ⟨Ex0.write hn ho, fun a ha => ⟨ha, upd_ne ((h.hd a ha).2 n hn).symm⟩⟩
theorem HRep.write {ι : Pl} {ah : AH} {H : Hp} {n : Nat} {o : HO} {u : O} (h : HRep P ι ah H) (hn : n < ah.length) (ob : ObjAt P ah.length ι (upd H (ι n) o) (ι n) u) : HRep P ι (ah.set n u) (upd H (ι n) o) := by
  have ho : NTb o := by
    obtain ⟨o', h1, h2⟩ := ob.some
    rw [upd_same] at h1
    cases h1
    exact h2.tbl
  refine ⟨fun a b ha hb e => h.inj a b (by simpa using ha) (by simpa using hb) e, fun m v q => ?_, fun a ha => ⟨by rw [upd_ne ((h.hd a ha).2 n hn).symm]; exact (h.hd a ha).1, fun m hm => (h.hd a ha).2 m (by simpa using hm)⟩, fun p hp' => (h.tab p hp').keep h (Ex0.write hn ho) fun a ps e => by rw [upd_ne (fun z => (h.out e (fun z => z)).1 n hn z.symm)]; exact e⟩
  rw [List.length_set]
  have hm : m < ah.length := by simpa using (List.getElem?_eq_some_iff.mp q).1
  by_cases e : m = n
  · subst e
    rw [List.getElem?_set_self hm] at q
    cases q
    exact ob
  · rw [List.getElem?_set_ne (Ne.symm e)] at q
    exact (h.at_ m v q).mono (Ex0.write hn ho) h.notup (by rw [upd_ne (fun z => e (h.inj m n hm hn z))])
theorem RepVs.length {K : KL} {N : Nat} {ι : Pl} {H : Hp} : ∀ {ds : List D} {vs : List V}, RepVs K N ι H ds vs → vs.length = ds.length
  | [], _, h => by simp only [RepVs] at h; rw [h]; rfl
  | d :: ds, _, h => by
    simp only [RepVs] at h
    obtain ⟨v, r, e, _, h2⟩ := h
    rw [e, List.length_cons, List.length_cons, RepVs.length h2]
theorem RepVs.nil_iff {K : KL} {N : Nat} {ι : Pl} {H : Hp} {ds : List D} {vs : List V} (h : RepVs K N ι H ds vs) : vs = [] ↔ ds = [] := by
  rw [← List.length_eq_zero_iff, ← List.length_eq_zero_iff, h.length]
theorem RepVs.get {K : KL} {N : Nat} {ι : Pl} {H : Hp} : ∀ {ds : List D} {vs : List V} {i : Nat} {d : D}, RepVs K N ι H ds vs → ds[i]? = some d → ∃ v, vs[i]? = some v ∧ RepV K N ι H d v
  | [], _, _, _, _, q => by simp at q
  | d :: ds, _, i, d', h, q => by
    simp only [RepVs] at h
    obtain ⟨v, r, e, h1, h2⟩ := h
    subst e
    cases i with
    | zero => simp only [List.getElem?_cons_zero, Option.some.injEq] at q ⊢; subst q; exact ⟨v, rfl, h1⟩
    | succ i => rw [List.getElem?_cons_succ] at q ⊢; exact h2.get q
theorem RepVs.append {K : KL} {N : Nat} {ι : Pl} {H : Hp} : ∀ {ds es : List D} {vs ws : List V}, RepVs K N ι H ds vs → RepVs K N ι H es ws → RepVs K N ι H (ds ++ es) (vs ++ ws)
  | [], _, _, _, h, k => by simp only [RepVs] at h; subst h; exact k
  | d :: ds, es, _, ws, h, k => by
    simp only [RepVs] at h
    obtain ⟨v, r, e, h1, h2⟩ := h
    subst e
    simp only [List.cons_append, RepVs]
    exact ⟨v, r ++ ws, rfl, h1, h2.append k⟩
theorem RepVs.drop {K : KL} {N : Nat} {ι : Pl} {H : Hp} : ∀ {ds : List D} {vs : List V} (n : Nat), RepVs K N ι H ds vs → RepVs K N ι H (ds.drop n) (vs.drop n)
  | _, _, 0, h => h
  | [], _, _ + 1, h => by simp only [RepVs] at h; subst h; simp [RepVs]
  | d :: ds, _, n + 1, h => by
    simp only [RepVs] at h
    obtain ⟨v, r, e, h1, h2⟩ := h
    subst e
    exact h2.drop n
theorem RepVs.take {K : KL} {N : Nat} {ι : Pl} {H : Hp} : ∀ {ds : List D} {vs : List V} (n : Nat), RepVs K N ι H ds vs → RepVs K N ι H (ds.take n) (vs.take n)
  | _, _, 0, h => by simp [RepVs]
  | [], _, _ + 1, h => by simp only [RepVs] at h; subst h; simp [RepVs]
  | d :: ds, _, n + 1, h => by
    simp only [RepVs] at h
    obtain ⟨v, r, e, h1, h2⟩ := h
    subst e
    simp only [List.take_succ_cons, RepVs]
    exact ⟨v, _, rfl, h1, h2.take n⟩
theorem RepVs.set {K : KL} {N : Nat} {ι : Pl} {H : Hp} {d : D} {v : V} (hd : RepV K N ι H d v) : ∀ {ds : List D} {vs : List V} (n : Nat), RepVs K N ι H ds vs → RepVs K N ι H (ds.set n d) (vs.set n v)
  | [], _, _, h => by simp only [RepVs] at h; subst h; simp [RepVs]
  | e :: ds, _, 0, h => by
    simp only [RepVs] at h
    obtain ⟨w, r, z, h1, h2⟩ := h
    subst z
    simp only [List.set_cons_zero, RepVs]
    exact ⟨v, r, rfl, hd, h2⟩
  | e :: ds, _, n + 1, h => by
    simp only [RepVs] at h
    obtain ⟨w, r, z, h1, h2⟩ := h
    subst z
    simp only [List.set_cons_succ, RepVs]
    exact ⟨w, _, rfl, h1, h2.set hd n⟩
theorem RepVs.mem {K : KL} {N : Nat} {ι : Pl} {H : Hp} {ds : List D} {vs : List V} (h : RepVs K N ι H ds vs) {v : V} (hv : v ∈ vs) : ∃ d, d ∈ ds ∧ RepV K N ι H d v := by
  obtain ⟨i, hi, e⟩ := List.mem_iff_getElem.mp hv
  have hl := h.length
  have hd : i < ds.length := by omega
  obtain ⟨w, h1, h2⟩ := h.get (List.getElem?_eq_getElem hd)
  rw [List.getElem?_eq_getElem hi] at h1
  cases h1
  exact ⟨_, List.getElem_mem hd, e ▸ h2⟩
theorem RepVs.one {K : KL} {N : Nat} {ι : Pl} {H : Hp} {d : D} {v : V} (h : RepV K N ι H d v) : RepVs K N ι H [d] [v] := by
  simp only [RepVs]; exact ⟨v, [], rfl, h, rfl⟩

/-! ### operations of two values -/
/-- f of two values that stand for data gives what op says; nothing that is there changes -/
def DOp (X : Cx) (P : Pm) (f : Value → Value → Sem Value) (op : AH → D → D → Option D) : Prop :=
  ∀ (pins : List (Addr × Obj)) (s : Shared) (σ : L2.St) (H : Hp) (x y : V) (v u : Value) (Q : VK) (ι : Pl) (ah : AH) (a b d : D), Inv X pins σ H s → RelV x v → RelV y u → HRep P ι ah H →
    RepV P.K ah.length ι H a x → RepV P.K ah.length ι H b y → op ah a b = some d → (∀ H' z, Ext ah.length ι H ah.length ι H' → HRep P ι ah H' → RepV P.K ah.length ι H' d z → Q z H') →
    wpAny (model X.prog X.w) X.A (f v u) (EP X pins σ Q) X.xe s
theorem DOp.of {f : Value → Value → Sem Value} {r : R2} {op : AH → D → D → Option D} (ho : OpR X f r)
    (h : ∀ (H : Hp) (x y : V) (Q : VK) (ι : Pl) (ah : AH) (a b d : D), HRep P ι ah H → RepV P.K ah.length ι H a x → RepV P.K ah.length ι H b y → op ah a b = some d →
      (∀ H' z, Ext ah.length ι H ah.length ι H' → HRep P ι ah H' → RepV P.K ah.length ι H' d z → Q z H') → r x y H Q) : DOp X P f op :=
  fun pins s σ H x y v u Q ι ah a b d I rx ry hr ra rb e q => ho pins s σ H x y v u Q I rx ry (h H x y Q ι ah a b d hr ra rb e q)
/-- the first that says something -/
def orOp (f g : AH → D → D → Option D) : AH → D → D → Option D := fun h a b => match f h a b with
  | some d => some d
  | none => g h a b
theorem DOp.or {f : Value → Value → Sem Value} {op op' : AH → D → D → Option D} (h : DOp X P f op) (h' : DOp X P f op') : DOp X P f (orOp op op') :=
  fun pins s σ H x y v u Q ι ah a b d I rx ry hr ra rb e q => by
    unfold orOp at e
    cases z : op ah a b with
    | some d' => rw [z] at e; cases e; exact h pins s σ H x y v u Q ι ah a b d I rx ry hr ra rb z q
    | none => rw [z] at e; exact h' pins s σ H x y v u Q ι ah a b d I rx ry hr ra rb e q
def liftO (o : Option D) : M D := fun h => match o with
  | some d => .ok d h
  | none => .bad
def eOp (op : AH → D → D → Option D) (fa fb : Env → M D) : Env → M D := fun env => bnd (fa env) fun x => bnd (fb env) fun y h => match op h x y with
  | some d => .ok d h
  | none => .bad
theorem runOp {e e' : Expr} {f : Value → Value → Sem Value} {op : AH → D → D → Option D} {fa fb : Env → M D} (ho : DOp X P f op) (ha : DE X P W e fa) (hb : DE X P W e' fb) {pins : List (Addr × Obj)} {s : Shared} {σ : L2.St} {H : Hp} {Q : VK} (I : Inv X pins σ H s)
    (h : tD P W (eOp op fa fb) σ H Q) : wpAny (model X.prog X.w) X.A (eval e X.env) (fun v s₁ => wpAny (model X.prog X.w) X.A (eval e' X.env) (fun u s₂ => wpAny (model X.prog X.w) X.A (f v u) (EP X pins σ Q) X.xe s₂) X.xe s₁) X.xe s := by
  obtain ⟨ι, ah, env, st, q⟩ := h
  refine thn (ha.run pins s σ H _ I ⟨ι, ah, env, st, q.step (Rp := rV P)⟩) fun v s1 ⟨x, H1, I1, r1, ι1, ah1, d1, x1, hr1, p1, q1⟩ => ?_
  have st1 := st.next x1 hr1
  refine thn (hb.run pins s1 σ H1 _ I1 ⟨ι1, ah1, env, st1, q1.step (Rp := rV P)⟩) fun u s2 ⟨y, H2, I2, r2, ι2, ah2, d2, x2, hr2, p2, q2⟩ => ?_
  cases e : op ah2 d1 d2 with
  | none => rw [e] at q2; exact q2.elim
  | some d =>
    rw [e] at q2
    exact ho pins s2 σ H2 x y v u Q ι2 ah2 d1 d2 d I2 r1 r2 hr2 (p1.mono x2.toEx0 hr1.notup) p2 e fun H' z a b c => q2 ι2 H' z a b c
theorem de_bin {a b : Expr} {op : Operator} {pos : Pos} {o : AH → D → D → Option D} {fa fb : Env → M D} (ho : DOp X P (binaryOp op) o) (ha : DE X P W a fa) (hb : DE X P W b fb) : DE X P W (.BinOp a op b pos) (eOp o fa fb) :=
  ⟨fun pins s σ H Q I h => wpAny_BinOp (runOp ho ha hb I h)⟩
theorem de_cmp {a b : Expr} {op : CmpOp} {pos : Pos} {o : AH → D → D → Option D} {fa fb : Env → M D} (ho : DOp X P (compareOp op) o) (ha : DE X P W a fa) (hb : DE X P W b fb) (hm : behindInMarks op b = false := by first | exact nobehind _ (by decide) (by decide) | with_unfolding_all rfl) :
    DE X P W (.Compare a [op] [b] pos) (eOp o fa fb) :=
  ⟨fun pins s σ H Q I h => wpAny_Compare1 (runOp ho ha hb I h) hm⟩
/-- a test: the value must be a bool -/
def toB (m : M D) : M Bool := bnd m fun d h => match d with
  | .bl b => .ok b h
  | _ => .bad
theorem fin_toB {m : M D} {σ : L2.St} {ι : Pl} {ah : AH} {H : Hp} {Q : Bool → Hp → Prop} (h : Fin rB P W σ ι ah.length H (toB m ah) Q) : Fin (rV P) P W σ ι ah.length H (m ah) (fun v H1 => ∃ b, v = .bl b ∧ Q b H1) := by
  refine (h.step (Rp := rV P)).imp fun v H1 ⟨ι1, ah1, d, x1, hr, p, q⟩ => ?_
  cases d <;> first
    | exact False.elim q
    | (simp only [RepV] at p; exact ⟨_, p, q ι1 H1 _ Ext.refl hr rfl⟩)
theorem dt_cmp {a b : Expr} {op : CmpOp} {pos : Pos} {o : AH → D → D → Option D} {fa fb : Env → M D} (ho : DOp X P (compareOp op) o) (ha : DE X P W a fa) (hb : DE X P W b fb) (hm : behindInMarks op b = false := by first | exact nobehind _ (by decide) (by decide) | with_unfolding_all rfl) :
    DT X P W (.Compare a [op] [b] pos) (fun env => toB (eOp o fa fb env)) := by
  refine ⟨fun pins s σ H Q I h => ?_⟩
  obtain ⟨ι, ah, env, st, q⟩ := h
  refine wpAny_isTrue_Compare1 (thn (runOp ho ha hb I ⟨ι, ah, env, st, fin_toB q⟩) fun v s1 h1 => thn h1 fun u s2 h2 => thn h2 fun c s3 ⟨z, H3, I3, r3, k, e, q3⟩ => ?_) hm
  subst e
  cases r3
  exact wpAny_truthy_bool ⟨H3, I3, q3⟩
/-- any expression whose test is its value's truth, the value a bool -/
theorem dt_val {e : Expr} {f : Env → M D} (h : DE X P W e f) (he : ∀ whole, isTrue e X.env whole = (do let v ← whole; standAt e.pos; holding [v] (truthy v)) := by intro _; rfl) : DT X P W e (fun env => toB (f env)) :=
  weakT (pt_val h he) fun σ H Q ⟨ι, ah, env, st, q⟩ => ⟨ι, ah, env, st, fin_toB q⟩

/-! ### a op b op' c -/
def eChain (o o' : AH → D → D → Option D) (fa fb fc : Env → M D) : Env → M D := fun env => bnd (fa env) fun x => bnd (fb env) fun y h => match o h x y with
  | some (.bl true) => bnd (fc env) (fun z h => match o' h y z with
    | some d => .ok d h
    | none => .bad) h
  | some (.bl false) => .ok (.bl false) h
  | _ => .bad
/-- a step's value, the next value, what is wanted of both -/
theorem runTwo {e e' : Expr} {fa fb : Env → M D} {k : D → D → M D} {f : Value → Value → Sem Value} (ha : DE X P W e fa) (hb : DE X P W e' fb) {α : Type} {pins : List (Addr × Obj)} {s : Shared} {σ : L2.St} {H : Hp} {Q : VK} {env : Env} {ι : Pl} {ah : AH} (I : Inv X pins σ H s) (st : Sta P ι ah env σ H)
    (q : Fin (rV P) P W σ ι ah.length H (bnd (fa env) (fun x => bnd (fb env) (k x)) ah) Q) {G : Value → Value → Shared → Prop}
    (h : ∀ v u s2 x y H2 ι2 ah2 d1 d2, Inv X pins σ H2 s2 → RelV x v → RelV y u → Sta P ι2 ah2 env σ H2 → RepV P.K ah2.length ι2 H2 d1 x → RepV P.K ah2.length ι2 H2 d2 y → Fin (rV P) P W σ ι2 ah2.length H2 (k d1 d2 ah2) Q → G v u s2) :
    wpAny (model X.prog X.w) X.A (eval e X.env) (fun v s₁ => wpAny (model X.prog X.w) X.A (eval e' X.env) (fun u s₂ => G v u s₂) X.xe s₁) X.xe s := by
  refine thn (ha.run pins s σ H _ I ⟨ι, ah, env, st, q.step (Rp := rV P)⟩) fun v s1 ⟨x, H1, I1, r1, ι1, ah1, d1, x1, hr1, p1, q1⟩ => ?_
  have st1 := st.next x1 hr1
  refine thn (hb.run pins s1 σ H1 _ I1 ⟨ι1, ah1, env, st1, q1.step (Rp := rV P)⟩) fun u s2 ⟨y, H2, I2, r2, ι2, ah2, d2, x2, hr2, p2, q2⟩ => ?_
  exact h v u s2 x y H2 ι2 ah2 d1 d2 I2 r1 r2 (st1.next x2 hr2) (p1.mono x2.toEx0 hr1.notup) p2 q2
theorem de_chain {a b c : Expr} {op op' : CmpOp} {pos : Pos} {o o' : AH → D → D → Option D} {fa fb fc : Env → M D} (ho : DOp X P (compareOp op) o) (ho' : DOp X P (compareOp op') o') (ha : DE X P W a fa) (hb : DE X P W b fb) (hc : DE X P W c fc)
    (hm : lastMarks [op, op'] [b, c] = false := by with_unfolding_all rfl) : DE X P W (.Compare a [op, op'] [b, c] pos) (eChain o o' fa fb fc) := by
  refine ⟨fun pins s σ H Q I h => ?_⟩
  obtain ⟨ι, ah, env, st, q⟩ := h
  refine Compare_chain (thn (ha.run pins s σ H _ I ⟨ι, ah, env, st, q.step (Rp := rV P)⟩) fun v s1 ⟨x, H1, I1, r1, ι1, ah1, d1, x1, hr1, p1, q1⟩ => ?_) hm
  have st1 := st.next x1 hr1
  refine chain_link (thn (hb.run pins s1 σ H1 _ I1 ⟨ι1, ah1, env, st1, q1.step (Rp := rV P)⟩) fun u s2 ⟨y, H2, I2, r2, ι2, ah2, d2, x2, hr2, p2, q2⟩ => ?_)
  have st2 := st1.next x2 hr2
  have p1' := p1.mono x2.toEx0 hr1.notup
  cases e : o ah2 d1 d2 with
  | none => rw [e] at q2; exact q2.elim
  | some d =>
    rw [e] at q2
    refine thn (ho pins s2 σ H2 x y v u (fun z H3 => Ext ah2.length ι2 H2 ah2.length ι2 H3 ∧ HRep P ι2 ah2 H3 ∧ RepV P.K ah2.length ι2 H3 d z) ι2 ah2 d1 d2 d I2 r1 r2 hr2 p1' p2 e fun H' z a b c => ⟨a, b, c⟩) fun c3 s3 ⟨z, H3, I3, r3, x3, hr3, p3⟩ => ?_
    obtain ⟨k, rfl⟩ : ∃ k, d = .bl k := by
      cases d <;> first
        | exact ⟨_, rfl⟩
        | exact False.elim q2
    simp only [RepV] at p3
    subst p3
    cases r3
    refine wpAny_truthy_bool ?_
    cases k with
    | false => exact PyProof.Rows.ite_ff ⟨.bl false, H3, I3, rfl, q2 ι2 H3 _ x3 hr3 (by simp only [RepV])⟩
    | true =>
      have st3 := st2.next x3 hr3
      have q2' : Fin (rV P) P W σ ι2 ah2.length H3 (bnd (fc env) (fun z h => match o' h d2 z with
        | some d => R.ok d h
        | none => R.bad) ah2) Q := by
        have := q2
        generalize bnd (fc env) _ ah2 = r at this ⊢
        cases r with
        | ok d ah' => exact fun ι' H' v a b c => this ι' H' v (x3.trans a) b c
        | ex c ah' => exact fun ι' H' a b => this ι' H' (x3.trans a) b
        | bad => exact this
      refine PyProof.Rows.ite_tt (chain_last (thn (hc.run pins s3 σ H3 _ I3 ⟨ι2, ah2, env, st3, q2'.step (Rp := rV P)⟩) fun w' s4 ⟨z', H4, I4, r4, ι4, ah4, d4, x4, hr4, p4, q4⟩ => ?_))
      cases e' : o' ah4 d2 d4 with
      | none => rw [e'] at q4; exact q4.elim
      | some d' =>
        rw [e'] at q4
        exact ho' pins s4 σ H4 y z' u w' Q ι4 ah4 d2 d4 d' I4 r2 r4 hr4 ((p2.mono x3.toEx0 hr2.notup).mono x4.toEx0 hr3.notup) p4 e' fun H' z a b c => q4 ι4 H' z a b c
theorem dt_chain {a b c : Expr} {op op' : CmpOp} {pos : Pos} {o o' : AH → D → D → Option D} {fa fb fc : Env → M D} (ho : DOp X P (compareOp op) o) (ho' : DOp X P (compareOp op') o') (ha : DE X P W a fa) (hb : DE X P W b fb) (hc : DE X P W c fc)
    (hm : lastMarks [op, op'] [b, c] = false := by with_unfolding_all rfl) : DT X P W (.Compare a [op, op'] [b, c] pos) (fun env => toB (eChain o o' fa fb fc env)) := by
  refine ⟨fun pins s σ H Q I h => ?_⟩
  obtain ⟨ι, ah, env, st, q⟩ := h
  have q := fin_toB q
  refine PyProof.Rows.isTrue_chain (thn (ha.run pins s σ H _ I ⟨ι, ah, env, st, q.step (Rp := rV P)⟩) fun v s1 ⟨x, H1, I1, r1, ι1, ah1, d1, x1, hr1, p1, q1⟩ => ?_) hm
  have st1 := st.next x1 hr1
  refine PyProof.Rows.test_link (thn (hb.run pins s1 σ H1 _ I1 ⟨ι1, ah1, env, st1, q1.step (Rp := rV P)⟩) fun u s2 ⟨y, H2, I2, r2, ι2, ah2, d2, x2, hr2, p2, q2⟩ => ?_)
  have st2 := st1.next x2 hr2
  have p1' := p1.mono x2.toEx0 hr1.notup
  cases e : o ah2 d1 d2 with
  | none => rw [e] at q2; exact q2.elim
  | some d =>
    rw [e] at q2
    refine thn (ho pins s2 σ H2 x y v u (fun z H3 => Ext ah2.length ι2 H2 ah2.length ι2 H3 ∧ HRep P ι2 ah2 H3 ∧ RepV P.K ah2.length ι2 H3 d z) ι2 ah2 d1 d2 d I2 r1 r2 hr2 p1' p2 e fun H' z a b c => ⟨a, b, c⟩) fun c3 s3 ⟨z, H3, I3, r3, x3, hr3, p3⟩ => ?_
    obtain ⟨k, rfl⟩ : ∃ k, d = .bl k := by
      cases d <;> first
        | exact ⟨_, rfl⟩
        | exact False.elim q2
    simp only [RepV] at p3
    subst p3
    cases r3
    refine wpAny_truthy_bool ?_
    cases k with
    | false =>
      obtain ⟨k', e', q'⟩ := q2 ι2 H3 (.bl false) x3 hr3 (by simp only [rV, RepV])
      cases e'
      exact PyProof.Rows.ite_ff ⟨H3, I3, q'⟩
    | true =>
      have st3 := st2.next x3 hr3
      have q2' : Fin (rV P) P W σ ι2 ah2.length H3 (bnd (fc env) (fun z h => match o' h d2 z with
        | some d => R.ok d h
        | none => R.bad) ah2) (fun v H1 => ∃ b, v = .bl b ∧ Q b H1) := by
        have := q2
        generalize bnd (fc env) _ ah2 = r at this ⊢
        cases r with
        | ok d ah' => exact fun ι' H' v a b c => this ι' H' v (x3.trans a) b c
        | ex c ah' => exact fun ι' H' a b => this ι' H' (x3.trans a) b
        | bad => exact this
      refine PyProof.Rows.ite_tt (PyProof.Rows.test_last (thn (hc.run pins s3 σ H3 _ I3 ⟨ι2, ah2, env, st3, q2'.step (Rp := rV P)⟩) fun w' s4 ⟨z', H4, I4, r4, ι4, ah4, d4, x4, hr4, p4, q4⟩ => ?_))
      cases e' : o' ah4 d2 d4 with
      | none => rw [e'] at q4; exact q4.elim
      | some d' =>
        rw [e'] at q4
        refine thn (ho' pins s4 σ H4 y z' u w' _ ι4 ah4 d2 d4 d' I4 r2 r4 hr4 ((p2.mono x3.toEx0 hr2.notup).mono x4.toEx0 hr3.notup) p4 e' fun H' z a b c => q4 ι4 H' z a b c) fun d5 s5 ⟨z5, H5, I5, r5, k5, e5, q5⟩ => ?_
        subst e5
        cases r5
        exact wpAny_truthy_bool ⟨H5, I5, q5⟩

/-! ### and, or, not, if -/
abbrev DW (X : Cx) (P : Pm) (W : WXT) (e : Expr) (f : Env → M Bool) : Prop := PW X e (tDB P W f)
def bAnd (f g : Env → M Bool) : Env → M Bool := fun env => bnd (f env) fun b => if b then g env else ret false
def bOr (f g : Env → M Bool) : Env → M Bool := fun env => bnd (f env) fun b => if b then ret true else g env
def bNot (f : Env → M Bool) : Env → M Bool := fun env => bnd (f env) fun b => ret (!b)
variable {a b c : Expr} {rest : List Expr} {pos : Pos} {fa fb fc : Env → M D} {ga gb gc : Env → M Bool}
theorem dw_and1 (ha : DT X P W a ga) : DW X P W (.BoolOp .And [a] pos) ga := pw_and1 ha
theorem dw_or1 (ha : DT X P W a ga) : DW X P W (.BoolOp .Or [a] pos) ga := pw_or1 ha
theorem dw_and (ha : DT X P W a ga) (hb : DW X P W (.BoolOp .And (b :: rest) pos) gb) : DW X P W (.BoolOp .And (a :: b :: rest) pos) (bAnd ga gb) :=
  weakW (pw_and ha hb) fun σ H Q ⟨ι, ah, env, st, q⟩ => ⟨ι, ah, env, st, (q.step (Rp := rB)).imp fun v H1 ⟨ι1, ah1, d, x1, hr, p, q1⟩ => by
    cases p
    cases v with
    | true => exact ⟨ι1, ah1, env, st.next x1 hr, q1⟩
    | false => exact q1 ι1 H1 _ Ext.refl hr rfl⟩
theorem dw_or (ha : DT X P W a ga) (hb : DW X P W (.BoolOp .Or (b :: rest) pos) gb) : DW X P W (.BoolOp .Or (a :: b :: rest) pos) (bOr ga gb) :=
  weakW (pw_or ha hb) fun σ H Q ⟨ι, ah, env, st, q⟩ => ⟨ι, ah, env, st, (q.step (Rp := rB)).imp fun v H1 ⟨ι1, ah1, d, x1, hr, p, q1⟩ => by
    cases p
    cases v with
    | false => exact ⟨ι1, ah1, env, st.next x1 hr, q1⟩
    | true => exact q1 ι1 H1 _ Ext.refl hr rfl⟩
theorem dt_w (h : DW X P W a ga) : DT X P W a ga := h.pt
theorem dt_not (ha : DT X P W a ga) : DT X P W (.UnaryOp .Not a pos) (bNot ga) :=
  weakT (pt_not ha) fun σ H Q ⟨ι, ah, env, st, q⟩ => ⟨ι, ah, env, st, (q.step (Rp := rB)).imp fun v H1 ⟨ι1, ah1, d, x1, hr, p, q1⟩ => by
    cases p
    exact q1 ι1 H1 _ Ext.refl hr rfl⟩
def eAnd (f g : Env → M D) : Env → M D := fun env => bnd (toB (f env)) fun b => if b then g env else ret (.bl false)
def eOr (f g : Env → M D) : Env → M D := fun env => bnd (toB (f env)) fun b => if b then ret (.bl true) else g env
def eNot (f : Env → M D) : Env → M D := fun env => bnd (toB (f env)) fun b => ret (.bl (!b))
theorem step_toB {m : M D} {k : Bool → M D} {σ : L2.St} {ι : Pl} {ah : AH} {H : Hp} {Q : VK} (h : Fin (rV P) P W σ ι ah.length H (bnd (toB m) k ah) Q) :
    Fin (rV P) P W σ ι ah.length H (m ah) (fun v H1 => ∃ ι1 ah1 b, Ext ah.length ι H ah1.length ι1 H1 ∧ HRep P ι1 ah1 H1 ∧ v = .bl b ∧ Fin (rV P) P W σ ι1 ah1.length H1 (k b ah1) Q) := by
  have h1 := fin_toB (h.step (Rp := rB))
  exact h1.imp fun v H1 ⟨b, e, ι1, ah1, d, x, hr, p, q⟩ => ⟨ι1, ah1, d, x, hr, by rw [e, show b = d from p], q⟩
theorem de_one {op} (h : DE X P W a fa) : DE X P W (.BoolOp op [a] pos) fa := pe_one h
theorem de_and (ha : DE X P W a fa) (hb : DE X P W (.BoolOp .And (b :: rest) pos) fb) : DE X P W (.BoolOp .And (a :: b :: rest) pos) (eAnd fa fb) :=
  weakE (pe_and ha hb) fun σ H Q ⟨ι, ah, env, st, q⟩ => ⟨ι, ah, env, st, (step_toB q).imp fun v H1 ⟨ι1, ah1, d, x1, hr, p, q1⟩ => by
    refine ⟨d, p, ?_⟩
    cases d with
    | true => rw [if_pos rfl]; exact ⟨ι1, ah1, env, st.next x1 hr, q1⟩
    | false => rw [if_neg Bool.false_ne_true]; exact q1 ι1 H1 _ Ext.refl hr (by simp only [RepV])⟩
theorem de_or (ha : DE X P W a fa) (hb : DE X P W (.BoolOp .Or (b :: rest) pos) fb) : DE X P W (.BoolOp .Or (a :: b :: rest) pos) (eOr fa fb) :=
  weakE (pe_or ha hb) fun σ H Q ⟨ι, ah, env, st, q⟩ => ⟨ι, ah, env, st, (step_toB q).imp fun v H1 ⟨ι1, ah1, d, x1, hr, p, q1⟩ => by
    refine ⟨d, p, ?_⟩
    cases d with
    | false => rw [if_neg Bool.false_ne_true]; exact ⟨ι1, ah1, env, st.next x1 hr, q1⟩
    | true => rw [if_pos rfl]; exact q1 ι1 H1 _ Ext.refl hr (by simp only [RepV])⟩
theorem de_not (ha : DE X P W a fa) : DE X P W (.UnaryOp .Not a pos) (eNot fa) :=
  weakE (pe_not ha) fun σ H Q ⟨ι, ah, env, st, q⟩ => ⟨ι, ah, env, st, (step_toB q).imp fun v H1 ⟨ι1, ah1, d, x1, hr, p, q1⟩ =>
    ⟨d, p, q1 ι1 H1 _ Ext.refl hr (by simp only [RepV])⟩⟩
def eIf (g : Env → M Bool) (f1 f2 : Env → M D) : Env → M D := fun env => bnd (g env) fun b => if b then f1 env else f2 env
theorem de_if (hc : DT X P W c gc) (ha : DE X P W a fa) (hb : DE X P W b fb) : DE X P W (.IfExp c a b pos) (eIf gc fa fb) :=
  weakE (pe_ifExp hc ha hb) fun σ H Q ⟨ι, ah, env, st, q⟩ => ⟨ι, ah, env, st, (q.step (Rp := rB)).imp fun v H1 ⟨ι1, ah1, d, x1, hr, p, q1⟩ => by
    cases p
    cases v with
    | true => rw [if_pos rfl]; exact ⟨ι1, ah1, env, st.next x1 hr, q1⟩
    | false => rw [if_neg Bool.false_ne_true]; exact ⟨ι1, ah1, env, st.next x1 hr, q1⟩⟩

/-! ### argument lists, displays -/
def aNil : Env → M (List D) := fun _ => ret []
def aCons (f : Env → M D) (g : Env → M (List D)) : Env → M (List D) := fun env => bnd (f env) fun x => bnd (g env) fun xs => ret (x :: xs)
variable {e : Expr} {es : List Expr} {fe : Env → M D} {ges : Env → M (List D)}
theorem da_nil : DA X P W [] aNil := weakA pa_nil fun σ H Q ⟨ι, ah, env, st, q⟩ => q ι H [] Ext.refl st.hp (by simp only [rVs, RepVs])
theorem da_cons (ha : DE X P W e fe) (hr : DA X P W es ges) (hs : starEach (e :: es) X.env = (false, eval e X.env) :: starEach es X.env := by rfl) : DA X P W (e :: es) (aCons fe ges) :=
  weakA (pa_cons ha hr hs) fun σ H Q ⟨ι, ah, env, st, q⟩ => ⟨ι, ah, env, st, (q.step (Rp := rV P)).imp fun v H1 ⟨ι1, ah1, d, x1, hr1, p, q1⟩ =>
    ⟨ι1, ah1, env, st.next x1 hr1, (q1.step (Rp := rVs P)).imp fun vs H2 ⟨ι2, ah2, ds, x2, hr2, p2, q2⟩ => q2 ι2 H2 _ Ext.refl hr2 (by
      simp only [rVs, RepVs]
      exact ⟨v, vs, rfl, p.mono x2.toEx0 hr1.notup, p2⟩)⟩⟩
def eTup (g : Env → M (List D)) : Env → M D := fun env => bnd (g env) fun xs h => if xs.length ≤ sizeLine then .ok (.tup xs) h else .bad
/-- a list that is never changed -/
def eLst (g : Env → M (List D)) : Env → M D := fun env => bnd (g env) fun xs h => if xs.length ≤ sizeLine then .ok (.lst xs) h else .bad
/-- a list with a place of its own -/
def eLstO (g : Env → M (List D)) : Env → M D := fun env => bnd (g env) fun xs h => if xs.length ≤ sizeLine then .ok (.obj h.length) (h ++ [.lst xs]) else .bad
theorem rep_tup {ι : Pl} {N : Nat} {H : Hp} {p : Addr} {ds : List D} {vs : List V} (hi : NoTup N ι H) (hp : H p = none) (r : RepVs P.K N ι H ds vs) : RepV P.K N ι (upd H p (.tup vs)) (.tup ds) (.ref p) := by
  simp only [RepV]
  exact ⟨p, vs, rfl, SqT.of upd_same, r.mono (Ex0.fresh hp) hi⟩
theorem rep_lst {ι : Pl} {ah : AH} {H : Hp} {p : Addr} {ds : List D} {vs : List V} (h : HRep P ι ah H) (hp : H p = none) (r : RepVs P.K ah.length ι H ds vs) : RepV P.K ah.length ι (upd H p (.lst vs)) (.lst ds) (.ref p) := by
  simp only [RepV]
  exact ⟨p, vs, rfl, upd_same, ⟨h.ne hp, fun z => h.hne hp p z rfl⟩, r.mono (Ex0.fresh hp) h.notup⟩
theorem de_tup {k} (h : DA X P W es ges) : DE X P W (.Tuple es k pos) (eTup ges) :=
  weakE (pe_tup h) fun σ H Q ⟨ι, ah, env, st, q⟩ => ⟨ι, ah, env, st, (q.step (Rp := rVs P)).imp fun vs H1 ⟨ι1, ah1, ds, x1, hr1, p, q1⟩ => by
    by_cases z : ds.length ≤ sizeLine
    · rw [if_pos z] at q1
      exact ⟨by rw [p.length]; exact z, fun l hl => q1 ι1 _ _ (Ext.fresh hr1 hl) (hr1.fresh hl) (rep_tup hr1.notup hl p)⟩
    · rw [if_neg z] at q1; exact q1.elim⟩
theorem de_lst (h : DA X P W es ges) : DE X P W (.List es pos) (eLst ges) :=
  weakE (pe_lst h) fun σ H Q ⟨ι, ah, env, st, q⟩ => ⟨ι, ah, env, st, (q.step (Rp := rVs P)).imp fun vs H1 ⟨ι1, ah1, ds, x1, hr1, p, q1⟩ => by
    by_cases z : ds.length ≤ sizeLine
    · rw [if_pos z] at q1
      exact ⟨by rw [p.length]; exact z, fun l hl => q1 ι1 _ _ (Ext.fresh hr1 hl) (hr1.fresh hl) (rep_lst hr1 hl p)⟩
    · rw [if_neg z] at q1; exact q1.elim⟩
theorem rep_new {ι : Pl} {ah : AH} {H : Hp} {p : Addr} {o : HO} : RepV P.K (ah.length + 1) (more ι ah.length p) (upd H p o) (.obj ah.length) (.ref p) := by
  simp only [RepV]
  exact ⟨Nat.lt_succ_self _, by rw [more_at]⟩
theorem de_lstO (h : DA X P W es ges) : DE X P W (.List es pos) (eLstO ges) :=
  weakE (pe_lst h) fun σ H Q ⟨ι, ah, env, st, q⟩ => ⟨ι, ah, env, st, (q.step (Rp := rVs P)).imp fun vs H1 ⟨ι1, ah1, ds, x1, hr1, p, q1⟩ => by
    by_cases z : ds.length ≤ sizeLine
    · rw [if_pos z] at q1
      refine ⟨by rw [p.length]; exact z, fun l hl => q1 (more ι1 ah1.length l) _ _ ?_ (hr1.push hl ⟨vs, upd_same, p.mono (Ex0.push hl) hr1.notup⟩) ?_⟩
      · rw [List.length_append]; exact Ext.push hr1 hl
      · rw [List.length_append]; exact rep_new
    · rw [if_neg z] at q1; exact q1.elim⟩
end
end PyD

/-! PyOps: what operators do on data. -/
namespace PyD
open PySem PySem.Spec L2
open PyProof.Rows hiding St

/-! ### the data as the model's own data -/
mutual
def pyD (g : Nat → Option PyData) : D → Option PyData
  | .non => some .none
  | .bl b => some (.bool b)
  | .int i => some (.int i)
  | .str x => some (.str x)
  | .tup ds => (pyDs g ds).map .tuple
  | .lst ds => (pyDs g ds).map .list
  | .obj n => g n
  | .scr ns => some (.list (ns.map .int))
  | .dic _ => none
  | .lam _ => none
def pyDs (g : Nat → Option PyData) : List D → Option (List PyData)
  | [] => some []
  | d :: ds => match pyD g d, pyDs g ds with
    | some x, some xs => some (x :: xs)
    | _, _ => none
end
/-- lists among the objects, to the depth f -/
def pyO (ah : AH) : Nat → Nat → Option PyData
  | 0, _ => none
  | f + 1, n => match ah[n]? with
    | some (.lst ds) => (pyDs (pyO ah f) ds).map .list
    | _ => none
def py (ah : AH) (d : D) : Option PyData := pyD (pyO ah 4) d

section
variable {K : KL} {N : Nat} {ι : Pl} {H : Hp} {g : Nat → Option PyData}
theorem dp_ints : ∀ ns : List Int, DpAll K.fr H (ns.map V.int) (ns.map .int) ∧ PyData.canLayAll0 (ns.map .int) = true
  | [] => ⟨.nil, by simp [PyData.canLayAll0]⟩
  | n :: ns => ⟨.cons (.int n) (dp_ints ns).1, by simp only [List.map_cons, PyData.canLayAll0, PyData.canLay0, (dp_ints ns).2, Bool.and_self]⟩
theorem scr_sql {a : Addr} {xs : List V} (h : ScrAt K N ι H a xs) : SqL K.fr H a xs := by
  rcases h with h | (h | ⟨o, h⟩) | h
  · exact .inl h.1
  · cases h
  · cases h
  · exact .inr h
mutual
theorem dp_of (hg : ∀ n pd, g n = some pd → n < N → Dp K.fr H (.ref (ι n)) pd ∧ pd.canLay0 = true) : ∀ (d : D) (v : V) (pd : PyData), pyD g d = some pd → RepV K N ι H d v → Dp K.fr H v pd ∧ pd.canLay0 = true
  | .non, v, pd, e, r => by
    simp only [pyD, Option.some.injEq] at e; simp only [RepV] at r; subst e; subst r
    exact ⟨.non, by simp [PyData.canLay0]⟩
  | .bl b, v, pd, e, r => by
    simp only [pyD, Option.some.injEq] at e; simp only [RepV] at r; subst e; subst r
    exact ⟨.bl b, by simp [PyData.canLay0]⟩
  | .int b, v, pd, e, r => by
    simp only [pyD, Option.some.injEq] at e; simp only [RepV] at r; subst e; subst r
    exact ⟨.int b, by simp [PyData.canLay0]⟩
  | .str b, v, pd, e, r => by
    simp only [pyD, Option.some.injEq] at e; simp only [RepV] at r; subst e
    obtain ⟨r, z⟩ := r; subst r
    refine ⟨.str b, ?_⟩
    unfold sOk at z
    rw [Bool.and_eq_true] at z
    simpa [PyData.canLay0] using z.1
  | .tup ds, v, pd, e, r => by
    simp only [pyD, Option.map_eq_some_iff] at e
    simp only [RepV] at r
    obtain ⟨xs, e, rfl⟩ := e
    obtain ⟨a, vs, rfl, h1, h2⟩ := r
    have := dps_of hg ds vs xs e h2
    exact ⟨.tup h1 this.1, by simpa [PyData.canLay0] using this.2⟩
  | .lst ds, v, pd, e, r => by
    simp only [pyD, Option.map_eq_some_iff] at e
    simp only [RepV] at r
    obtain ⟨xs, e, rfl⟩ := e
    obtain ⟨a, vs, rfl, h1, _, h2⟩ := r
    have := dps_of hg ds vs xs e h2
    exact ⟨.lst (SqL.of h1) this.1, by simpa [PyData.canLay0] using this.2⟩
  | .obj n, v, pd, e, r => by
    simp only [pyD] at e
    simp only [RepV] at r
    obtain ⟨h1, rfl⟩ := r
    exact hg n pd e h1
  | .scr ns, v, pd, e, r => by
    simp only [pyD, Option.some.injEq] at e; simp only [RepV] at r; subst e
    obtain ⟨a, rfl, h⟩ := r
    exact ⟨.lst (scr_sql h) (dp_ints ns).1, by simpa [PyData.canLay0] using (dp_ints (K := K) (H := H) ns).2⟩
  | .dic _, v, pd, e, r => by simp [pyD] at e
  | .lam _, v, pd, e, r => by simp [pyD] at e
theorem dps_of (hg : ∀ n pd, g n = some pd → n < N → Dp K.fr H (.ref (ι n)) pd ∧ pd.canLay0 = true) : ∀ (ds : List D) (vs : List V) (pds : List PyData), pyDs g ds = some pds → RepVs K N ι H ds vs → DpAll K.fr H vs pds ∧ PyData.canLayAll0 pds = true
  | [], vs, pds, e, r => by
    simp only [pyDs, Option.some.injEq] at e; simp only [RepVs] at r; subst e; subst r
    exact ⟨.nil, by simp [PyData.canLayAll0]⟩
  | d :: ds, vs, pds, e, r => by
    simp only [pyDs] at e
    simp only [RepVs] at r
    obtain ⟨v, r', rfl, h1, h2⟩ := r
    cases e1 : pyD g d with
    | none => simp [e1] at e
    | some x =>
      cases e2 : pyDs g ds with
      | none => simp [e1, e2] at e
      | some xs =>
        simp only [e1, e2, Option.some.injEq] at e
        subst e
        have a := dp_of hg d v x e1 h1
        have b := dps_of hg ds r' xs e2 h2
        exact ⟨.cons a.1 b.1, by simp only [PyData.canLayAll0, a.2, b.2, Bool.and_self]⟩
end
theorem dp_obj {P : Pm} {ah : AH} (h : HRep P ι ah H) : ∀ (f n : Nat) (pd : PyData), pyO ah f n = some pd → n < ah.length → Dp P.K.fr H (.ref (ι n)) pd ∧ pd.canLay0 = true
  | 0, _, _, e, _ => by simp [pyO] at e
  | f + 1, n, pd, e, hn => by
    unfold pyO at e
    have ha := h.at_ n _ (List.getElem?_eq_getElem hn)
    rw [List.getElem?_eq_getElem hn] at e
    generalize ah[n] = o at e ha
    cases o with
    | dct _ => cases e
    | ins _ _ => cases e
    | lst ds =>
      simp only [Option.map_eq_some_iff] at e
      obtain ⟨xs, e, rfl⟩ := e
      obtain ⟨vs, h1, h2⟩ := ha
      have := dps_of (fun n pd e hn => dp_obj h f n pd e hn) ds vs xs e h2
      exact ⟨.lst (SqL.of h1) this.1, by simpa [PyData.canLay0] using this.2⟩
theorem dp_py {P : Pm} {ah : AH} (h : HRep P ι ah H) {d : D} {v : V} {pd : PyData} (e : py ah d = some pd) (r : RepV P.K ah.length ι H d v) : Dp P.K.fr H v pd ∧ pd.canLay0 = true :=
  dp_of (fun n pd e hn => dp_obj h 4 n pd e hn) d v pd e r
end


/-- a context in which the data rules hold -/
structure Ctx (X : Cx) (P : Pm) (W : WXT) : Prop where
  k : P.K.fr = X.K
  calm : X.calm = true
  nd : X.N.Nodup
  un : X.A.units + 200 < cLine
  tk : Takes X W

section
variable {X : Cx} {P : Pm} {W : WXT}
theorem doneE {H : Hp} {Q : VK} {ι : Pl} {ah : AH} {d : D} {z : V} (hr : HRep P ι ah H) (q : ∀ H' z, Ext ah.length ι H ah.length ι H' → HRep P ι ah H' → RepV P.K ah.length ι H' d z → Q z H') (r : RepV P.K ah.length ι H d z) : Q z H := q H z Ext.refl hr r

/-! ### arithmetic -/
def opAdd : AH → D → D → Option D := fun _ a b => match a, b with
  | .int i, .int j => some (.int (i + j))
  | .str x, .str y => if x.length + y.length ≤ sizeLine then some (.str (x ++ y)) else none
  | .lst x, .lst y => if x.length + y.length ≤ sizeLine then some (.lst (x ++ y)) else none
  | .tup x, .tup y => if x.length + y.length ≤ sizeLine then some (.tup (x ++ y)) else none
  | _, _ => none
theorem sOk_iff {x : Str} : sOk x = true ↔ PyData.strOk x = true ∧ x.length ≤ sizeLine := by unfold sOk; rw [Bool.and_eq_true, decide_eq_true_eq]
theorem length_append (x y : Str) : (x ++ y).length = x.length + y.length := by
  show (x.cps ++ y.cps).size = x.cps.size + y.cps.size
  exact Array.size_append
theorem strOk_append {x y : Str} (hx : PyData.strOk x = true) (hy : PyData.strOk y = true) : PyData.strOk (x ++ y) = true := by
  unfold PyData.strOk at *
  show ((x.cps ++ y.cps).all (· < 0x110000)) = true
  rw [Array.all_append, hx, hy]; rfl
theorem sOk_append {x y : Str} (hx : sOk x = true) (hy : sOk y = true) (hz : x.length + y.length ≤ sizeLine) : sOk (x ++ y) = true := by
  rw [sOk_iff] at *
  exact ⟨strOk_append hx.1 hy.1, by rw [length_append]; exact hz⟩
theorem do_add (c : Ctx X P W) : DOp X P (binaryOp .Add) opAdd := by
  obtain ⟨⟨K0, lm0, lq0⟩, cl0, tb0⟩ := P
  obtain rfl : K0 = X.K := c.k
  intro pins s σ H x y v u Q ι ah a b d I rx ry hr ra rb e q
  unfold opAdd at e
  split at e
  · simp only [RepV] at ra rb; subst ra; subst rb; cases e
    exact op_add pins s σ H _ _ v u Q I rx ry ⟨_, _, rfl, rfl, doneE hr q (by simp only [RepV])⟩
  · split at e
    · rename_i hz
      simp only [RepV] at ra rb
      obtain ⟨rfl, k1⟩ := ra
      obtain ⟨rfl, k2⟩ := rb
      cases e
      exact op_add_str pins s σ H _ _ v u Q I rx ry ⟨_, _, rfl, rfl, hz, doneE hr q (by simp only [RepV]; exact ⟨trivial, sOk_append k1 k2 hz⟩)⟩
    · cases e
  · split at e
    · rename_i hz
      simp only [RepV] at ra rb
      obtain ⟨l, xs, rfl, h1, o1, r1⟩ := ra
      obtain ⟨m, ys, rfl, h2, o2, r2⟩ := rb
      cases e
      exact op_cat pins s σ H _ _ v u Q I rx ry ⟨l, m, xs, ys, rfl, rfl, h1, h2, by rw [r1.length, r2.length]; exact hz, fun p hp => q _ _ (Ext.fresh hr hp) (hr.fresh hp) (rep_lst hr hp (r1.append r2))⟩
    · cases e
  · split at e
    · rename_i hz
      simp only [RepV] at ra rb
      obtain ⟨l, xs, rfl, h1, r1⟩ := ra
      obtain ⟨m, ys, rfl, h2, r2⟩ := rb
      cases e
      refine op_catA pins s σ H _ _ v u Q I rx ry ⟨l, m, xs, ys, rfl, rfl, h1, h2, by rw [r1.length, r2.length]; exact hz, fun z => ?_, fun _ z => ?_, fun _ _ p hp => q _ _ (Ext.fresh hr hp) (hr.fresh hp) (rep_tup hr.notup hp (r1.append r2))⟩
      · rw [r1.nil_iff] at z; subst z
        exact doneE hr q (by simp only [RepV, List.nil_append]; exact ⟨m, ys, rfl, h2, r2⟩)
      · rw [r2.nil_iff] at z; subst z
        exact doneE hr q (by simp only [RepV, List.append_nil]; exact ⟨l, xs, rfl, h1, r1⟩)
    · cases e
  · cases e
def opSub : AH → D → D → Option D := fun _ a b => match a, b with
  | .int i, .int j => some (.int (i - j))
  | _, _ => none
theorem do_sub (c : Ctx X P W) : DOp X P (binaryOp .Sub) opSub := by
  intro pins s σ H x y v u Q ι ah a b d I rx ry hr ra rb e q
  unfold opSub at e
  split at e
  · simp only [RepV] at ra rb; subst ra; subst rb; cases e
    exact op_sub pins s σ H _ _ v u Q I rx ry ⟨_, _, rfl, rfl, doneE hr q (by simp only [RepV])⟩
  · cases e
/-- a product's size: one factor below 2 ^ 64, or both below 2 ^ 400000 -/
def mulFits (i j : Int) : Bool := decide (i.natAbs < 2 ^ 64) || decide (j.natAbs < 2 ^ 64) || decide (i.natAbs.log2 + j.natAbs.log2 < 1000000)
def opMul : AH → D → D → Option D := fun _ a b => match a, b with
  | .int i, .int j => if mulFits i j then some (.int (i * j)) else none
  | .lst xs, .int k => if -(2 ^ 63) ≤ k ∧ k < 2 ^ 63 ∧ xs.length * k.toNat ≤ sizeLine then some (.lst (List.replicate k.toNat xs).flatten) else none
  | _, _ => none
theorem RepVs.rep {K : KL} {N : Nat} {ι : Pl} {H : Hp} {ds : List D} {vs : List V} (h : RepVs K N ι H ds vs) : ∀ k : Nat, RepVs K N ι H (List.replicate k ds).flatten (List.replicate k vs).flatten
  | 0 => by simp [RepVs]
  | k + 1 => by simp only [List.replicate_succ, List.flatten_cons]; exact h.append (h.rep k)
theorem do_mul (c : Ctx X P W) : DOp X P (binaryOp .Mult) opMul := by
  obtain ⟨⟨K0, lm0, lq0⟩, cl0, tb0⟩ := P
  obtain rfl : K0 = X.K := c.k
  intro pins s σ H x y v u Q ι ah a b d I rx ry hr ra rb e q
  unfold opMul at e
  split at e
  · rename_i i j
    split at e
    · rename_i hz
      simp only [RepV] at ra rb; subst ra; subst rb; cases e
      unfold mulFits at hz
      simp only [Bool.or_eq_true, decide_eq_true_eq] at hz
      rcases hz with (hz | hz) | hz
      · exact op_mul pins s σ H _ _ v u Q I rx ry ⟨_, _, rfl, rfl, .inl (by omega), doneE hr q (by simp only [RepV])⟩
      · exact op_mul pins s σ H _ _ v u Q I rx ry ⟨_, _, rfl, rfl, .inr (by omega), doneE hr q (by simp only [RepV])⟩
      · exact op_mulW pins s σ H _ _ v u Q I rx ry ⟨_, _, rfl, rfl, hz, doneE hr q (by simp only [RepV])⟩
    · cases e
  · split at e
    · rename_i hz
      obtain ⟨h1, h2, h3⟩ := hz
      simp only [RepV] at ra rb
      obtain ⟨l, xs, rfl, h4, o1, r1⟩ := ra
      subst rb
      cases e
      exact op_rep pins s σ H _ _ v u Q I rx ry ⟨l, _, xs, rfl, rfl, h4, h1, h2, by rw [r1.length]; exact h3, fun p hp => q _ _ (Ext.fresh hr hp) (hr.fresh hp) (rep_lst hr hp (r1.rep _))⟩
    · cases e
  · cases e
def opFdiv : AH → D → D → Option D := fun _ a b => match a, b with
  | .int i, .int j => if 0 < j ∧ j.natAbs.log2 < 9000 then some (.int (i / j)) else none
  | _, _ => none
theorem do_fdiv (c : Ctx X P W) : DOp X P (binaryOp .FloorDiv) opFdiv := by
  intro pins s σ H x y v u Q ι ah a b d I rx ry hr ra rb e q
  unfold opFdiv at e
  split at e
  · split at e
    · rename_i hz
      simp only [RepV] at ra rb; subst ra; subst rb; cases e
      exact op_fdivW pins s σ H _ _ v u Q I rx ry ⟨_, _, rfl, rfl, hz, doneE hr q (by simp only [RepV])⟩
    · cases e
  · cases e
def opMod : AH → D → D → Option D := fun _ a b => match a, b with
  | .int i, .int j => if 0 < j then some (.int (i % j)) else none
  | _, _ => none
theorem do_mod (c : Ctx X P W) : DOp X P (binaryOp .Mod) opMod := by
  intro pins s σ H x y v u Q ι ah a b d I rx ry hr ra rb e q
  unfold opMod at e
  split at e
  · split at e
    · rename_i hz
      simp only [RepV] at ra rb; subst ra; subst rb; cases e
      exact op_mod pins s σ H _ _ v u Q I rx ry ⟨_, _, rfl, rfl, hz, doneE hr q (by simp only [RepV])⟩
    · cases e
  · cases e
def opPow : AH → D → D → Option D := fun _ a b => match a, b with
  | .int i, .int j => if 0 ≤ j ∧ j ≤ 1000 ∧ i.natAbs < 2 ^ 64 then some (.int (i ^ j.toNat)) else none
  | _, _ => none
theorem do_pow (c : Ctx X P W) : DOp X P (binaryOp .Pow) opPow := by
  intro pins s σ H x y v u Q ι ah a b d I rx ry hr ra rb e q
  unfold opPow at e
  split at e
  · split at e
    · rename_i hz
      simp only [RepV] at ra rb; subst ra; subst rb; cases e
      exact op_pow pins s σ H _ _ v u Q I rx ry ⟨_, _, rfl, rfl, ⟨hz.1, by omega, hz.2.2⟩, doneE hr q (by simp only [RepV])⟩
    · cases e
  · cases e
/-! ### orders of ints -/
def opCmp (p : Int → Int → Bool) : AH → D → D → Option D := fun _ a b => match a, b with
  | .int i, .int j => some (.bl (p i j))
  | _, _ => none
theorem do_cmp {op : CmpOp} {p : Int → Int → Bool} (ho : OpR X (compareOp op) (rI0 fun i j => .bl (p i j))) : DOp X P (compareOp op) (opCmp p) := by
  intro pins s σ H x y v u Q ι ah a b d I rx ry hr ra rb e q
  unfold opCmp at e
  split at e
  · simp only [RepV] at ra rb; subst ra; subst rb; cases e
    exact ho pins s σ H _ _ v u Q I rx ry ⟨_, _, rfl, rfl, doneE hr q (by simp only [RepV])⟩
  · cases e
abbrev opLt : AH → D → D → Option D := opCmp fun i j => decide (i < j)
abbrev opLe : AH → D → D → Option D := opCmp fun i j => decide (i ≤ j)
abbrev opGt : AH → D → D → Option D := opCmp fun i j => decide (j < i)
abbrev opGe : AH → D → D → Option D := opCmp fun i j => decide (j ≤ i)
theorem do_lt (c : Ctx X P W) : DOp X P (compareOp .Lt) opLt := do_cmp op_lt
theorem do_le (c : Ctx X P W) : DOp X P (compareOp .LtE) opLe := do_cmp op_le
theorem do_gt (c : Ctx X P W) : DOp X P (compareOp .Gt) opGt := do_cmp op_gt
theorem do_ge (c : Ctx X P W) : DOp X P (compareOp .GtE) opGe := do_cmp op_ge
/-! ### == and != -/
def eqvIf (a b : PyData) : Option Bool := if min a.depth b.depth ≤ 60 then some (PyData.eqv a b) else none
def opEq : AH → D → D → Option D := fun ah a b => match py ah a, py ah b with
  | some x, some y => (eqvIf x y).map .bl
  | _, _ => none
def opNe : AH → D → D → Option D := fun ah a b => match py ah a, py ah b with
  | some x, some y => (eqvIf x y).map fun k => .bl (!k)
  | _, _ => none
theorem eq_core {pins : List (Addr × Obj)} {s : Shared} {σ : L2.St} {H : Hp} {x y : V} {v u : Value} {ι : Pl} {ah : AH} {a b : D} {pa pb : PyData} (c : Ctx X P W) (I : Inv X pins σ H s) (rx : RelV x v) (ry : RelV y u) (hr : HRep P ι ah H) (ra : RepV P.K ah.length ι H a x) (rb : RepV P.K ah.length ι H b y)
    (ea : py ah a = some pa) (eb : py ah b = some pb) : (∃ as, Reads s.heap v pa as) ∧ (∃ bs, Reads s.heap u pb bs) ∧ pa.canLay0 = true ∧ pb.canLay0 = true := by
  obtain ⟨h1, l1⟩ := dp_py hr ea ra
  obtain ⟨h2, l2⟩ := dp_py hr eb rb
  rw [c.k] at h1 h2
  exact ⟨Dp.reads I pa x v h1 rx, Dp.reads I pb y u h2 ry, l1, l2⟩
theorem do_eq (c : Ctx X P W) : DOp X P (compareOp .Eq) opEq := by
  intro pins s σ H x y v u Q ι ah a b d I rx ry hr ra rb e q
  unfold opEq at e
  split at e
  · rename_i pa pb ea eb
    obtain ⟨⟨as, r1⟩, ⟨bs, r2⟩, l1, l2⟩ := eq_core c I rx ry hr ra rb ea eb
    unfold eqvIf at e
    split at e
    · rename_i hz
      cases e
      have := c.un
      exact SeqAt.compareEq_reads r1 r2 l1 l2 (by omega) ⟨.bl _, H, I, rfl, doneE hr q (by simp only [RepV])⟩
    · cases e
  · cases e
theorem do_ne (c : Ctx X P W) : DOp X P (compareOp .NotEq) opNe := by
  intro pins s σ H x y v u Q ι ah a b d I rx ry hr ra rb e q
  unfold opNe at e
  split at e
  · rename_i pa pb ea eb
    obtain ⟨⟨as, r1⟩, ⟨bs, r2⟩, l1, l2⟩ := eq_core c I rx ry hr ra rb ea eb
    unfold eqvIf at e
    split at e
    · rename_i hz
      cases e
      have := c.un
      exact SeqAt.compareNe_reads r1 r2 l1 l2 (by omega) ⟨.bl _, H, I, rfl, doneE hr q (by simp only [RepV])⟩
    · cases e
  · cases e
/-! ### is None -/
def isNon : D → Bool
  | .non => true
  | _ => false
def opIs : AH → D → D → Option D := fun _ a b => match b with
  | .non => some (.bl (isNon a))
  | _ => none
def opIsNot : AH → D → D → Option D := fun _ a b => match b with
  | .non => some (.bl (!isNon a))
  | _ => none
theorem isN_rep {N : Nat} {ι : Pl} {H : Hp} {a : D} {x : V} (r : RepV P.K N ι H a x) : decide (x = .non) = isNon a := by
  cases a <;> simp only [RepV] at r <;> first
    | (subst r; rfl)
    | (obtain ⟨rfl, _⟩ := r; rfl)
    | (obtain ⟨_, rfl⟩ := r; rfl)
    | (obtain ⟨_, rfl, _⟩ := r; rfl)
    | (obtain ⟨_, _, rfl, _⟩ := r; rfl)
theorem do_is (c : Ctx X P W) : DOp X P (compareOp .Is) opIs := by
  intro pins s σ H x y v u Q ι ah a b d I rx ry hr ra rb e q
  unfold opIs at e
  split at e
  · simp only [RepV] at rb; subst rb; cases e
    exact op_isN pins s σ H _ _ v u Q I rx ry ⟨rfl, by rw [isN_rep ra]; exact doneE hr q (by simp only [RepV])⟩
  · cases e
theorem do_isNot (c : Ctx X P W) : DOp X P (compareOp .IsNot) opIsNot := by
  intro pins s σ H x y v u Q ι ah a b d I rx ry hr ra rb e q
  unfold opIsNot at e
  split at e
  · simp only [RepV] at rb; subst rb; cases e
    exact op_notN pins s σ H _ _ v u Q I rx ry ⟨rfl, by rw [isN_rep ra]; exact doneE hr q (by simp only [RepV])⟩
  · cases e
/-! ### in, not in -/
/-- what stands in the place of an object, a list or a dict -/
inductive Sq where
  | seq (isL : Bool) (xs : List D) | map (kvs : List (D × D)) | txt (x : Str) | no
def sqOf (ah : AH) : D → Sq
  | .tup xs => .seq false xs
  | .lst xs => .seq true xs
  | .scr ns => .seq true (ns.map .int)
  | .dic kvs => .map kvs
  | .str x => .txt x
  | .obj n => match ah[n]? with
    | some (.lst xs) => .seq true xs
    | some (.dct _ kvs) => .map kvs
    | _ => .no
  | _ => .no
def lookD (kvs : List (D × D)) (k : D) : Option D := (kvs.find? fun p => decide (p.1 = k)).map (·.2)
/-- a datum that may be a key here: an int, a text -/
def isKey : D → Bool
  | .int _ => true
  | .str _ => true
  | _ => false
def inSq (ah : AH) (x : D) : Sq → Option Bool
  | .seq _ xs => match py ah x, pyDs (pyO ah 4) xs with
    | some a, some bs => if min (PyData.depthAll bs) a.depth ≤ 60 then some (bs.any fun y => PyData.eqv y a) else none
    | _, _ => none
  | .map kvs => if isKey x then some (lookD kvs x).isSome else none
  | .txt y => match x with
    | .str x => some (!(Builtin.Str.occurrences y x 0 y.length 1).isEmpty)
    | _ => none
  | .no => none
def opIn : AH → D → D → Option D := fun ah a b => (inSq ah a (sqOf ah b)).map .bl
def opNotIn : AH → D → D → Option D := fun ah a b => (inSq ah a (sqOf ah b)).map fun k => .bl (!k)
/-- a sequence's place -/
def SeqAt' (K : KL) (H : Hp) (a : Addr) (isL : Bool) (vs : List V) : Prop := if isL then SqL K.fr H a vs else SqT K.fr H a vs
theorem rep_ints {K : KL} {N : Nat} {ι : Pl} {H : Hp} : ∀ ns : List Int, RepVs K N ι H (ns.map .int) (ns.map V.int)
  | [] => by simp [RepVs]
  | n :: ns => by simp only [List.map_cons, RepVs]; exact ⟨_, _, rfl, by simp only [RepV], rep_ints ns⟩
theorem sq_seq {ι : Pl} {ah : AH} {H : Hp} (hr : HRep P ι ah H) {b : D} {y : V} (rb : RepV P.K ah.length ι H b y) {isL : Bool} {xs : List D} (e : sqOf ah b = .seq isL xs) :
    ∃ p vs, y = .ref p ∧ SeqAt' P.K H p isL vs ∧ RepVs P.K ah.length ι H xs vs := by
  cases b <;> simp only [sqOf] at e <;> try (cases e; done)
  · cases e
    simp only [RepV] at rb
    obtain ⟨a, vs, rfl, h1, r⟩ := rb
    exact ⟨a, vs, rfl, h1, r⟩
  · cases e
    simp only [RepV] at rb
    obtain ⟨a, vs, rfl, h1, _, r⟩ := rb
    exact ⟨a, vs, rfl, SqL.of h1, r⟩
  · rename_i n
    simp only [RepV] at rb
    obtain ⟨hn, rfl⟩ := rb
    have ha := hr.at_ n _ (List.getElem?_eq_getElem hn)
    rw [List.getElem?_eq_getElem hn] at e
    generalize ah[n] = o at e ha
    cases o <;> simp only at e <;> try (cases e; done)
    cases e
    obtain ⟨vs, h1, h2⟩ := ha
    exact ⟨_, vs, rfl, SqL.of h1, h2⟩
  · cases e
    simp only [RepV] at rb
    obtain ⟨a, rfl, h⟩ := rb
    exact ⟨a, _, rfl, scr_sql h, rep_ints _⟩
theorem sq_map {ι : Pl} {ah : AH} {H : Hp} (hr : HRep P ι ah H) {b : D} {y : V} (rb : RepV P.K ah.length ι H b y) {kvs : List (D × D)} (e : sqOf ah b = .map kvs) :
    ∃ p lk kv', y = .ref p ∧ DictAt H p lk kv' ∧ RepKV P.K ah.length ι H kvs kv' := by
  cases b <;> simp only [sqOf] at e <;> try (cases e; done)
  · cases e
    simp only [RepV] at rb
    obtain ⟨a, vs, rfl, h1, _, r⟩ := rb
    exact ⟨a, true, vs, rfl, h1, r⟩
  · rename_i n
    simp only [RepV] at rb
    obtain ⟨hn, rfl⟩ := rb
    have ha := hr.at_ n _ (List.getElem?_eq_getElem hn)
    rw [List.getElem?_eq_getElem hn] at e
    generalize ah[n] = o at e ha
    cases o <;> simp only at e <;> try (cases e; done)
    cases e
    obtain ⟨vs, h1, h2⟩ := ha
    exact ⟨_, _, vs, rfl, h1, h2⟩
theorem sq_txt {N : Nat} {ι : Pl} {ah : AH} {H : Hp} {b : D} {y : V} (rb : RepV P.K N ι H b y) {x : Str} (e : sqOf ah b = .txt x) : y = .str x ∧ sOk x = true := by
  cases b <;> simp only [sqOf] at e <;> try (cases e; done)
  · cases e
    simp only [RepV] at rb
    exact rb
  · split at e <;> cases e
theorem kD_key {k : D} (h : isKey k = true) : ∃ k', k = kD k' := by
  cases k <;> simp only [isKey, Bool.false_eq_true] at h
  · exact ⟨.inl _, rfl⟩
  · exact ⟨.inr _, rfl⟩
theorem kD_inj {a b : Key} (e : kD a = kD b) : a = b := by
  cases a <;> cases b <;> simp only [kD, D.int.injEq, D.str.injEq, reduceCtorEq] at e <;> rw [e]
theorem rep_key {K : KL} {N : Nat} {ι : Pl} {H : Hp} {k : Key} {v : V} (r : RepV K N ι H (kD k) v) : v = kV k := by
  cases k <;> simp only [kD, RepV] at r
  · exact r
  · exact r.1
/-- a look-up by a key -/
theorem look_rep {K : KL} {N : Nat} {ι : Pl} {H : Hp} {k : Key} : ∀ {kvs : List (D × D)} {ks : List (Key × V)}, RepKV K N ι H kvs (ks.map fun p => (kD p.1, p.2)) →
    (lookD kvs (kD k) = none ∧ valV ks k = none) ∨ ∃ d v, lookD kvs (kD k) = some d ∧ valV ks k = some v ∧ RepV K N ι H d v
  | [], ks, h => by
    simp only [RepKV, List.map_eq_nil_iff] at h
    subst h
    exact .inl ⟨rfl, rfl⟩
  | p :: kvs, ks, h => by
    simp only [RepKV] at h
    obtain ⟨v, r, e, h1, h2⟩ := h
    cases ks with
    | nil => cases e
    | cons q ks =>
      simp only [List.map_cons, List.cons.injEq, Prod.mk.injEq] at e
      obtain ⟨⟨e1, e2⟩, e3⟩ := e
      subst e3
      subst e2
      obtain ⟨p1, p2⟩ := p
      obtain ⟨q1, q2⟩ := q
      simp only at e1 h1
      simp only [RepP] at h1
      subst e1
      by_cases z : q1 = k
      · subst z
        refine .inr ⟨p2, q2, ?_, ?_, h1⟩
        · unfold lookD; rw [List.find?_cons, decide_eq_true rfl]; rfl
        · rw [valV_pos rfl]
      · have z' : ¬ kD q1 = kD k := fun e => z (kD_inj e)
        have l : lookD ((kD q1, p2) :: kvs) (kD k) = lookD kvs (kD k) := by
          unfold lookD
          rw [List.find?_cons, decide_eq_false z']
        rw [l, valV_neg z]
        exact look_rep h2
theorem in_core {neg : Bool} {op : CmpOp} {pins : List (Addr × Obj)} {s : Shared} {σ : L2.St} {H : Hp} {x y : V} {v u : Value} {Q : VK} {ι : Pl} {ah : AH} {a b d : D} (c : Ctx X P W) (I : Inv X pins σ H s) (rx : RelV x v) (ry : RelV y u) (hr : HRep P ι ah H)
    (ra : RepV P.K ah.length ι H a x) (rb : RepV P.K ah.length ι H b y) {k : Bool} (e : inSq ah a (sqOf ah b) = some k) (hop : op = if neg then .NotIn else .In) (q : Q (.bl (if neg then !k else k)) H) :
    wpAny (model X.prog X.w) X.A (compareOp op v u) (EP X pins σ Q) X.xe s := by
  obtain ⟨⟨K0, lm0, lq0⟩, cl0, tb0⟩ := P
  obtain rfl : K0 = X.K := c.k
  have hu := c.un
  cases es : sqOf ah b with
  | no => rw [es] at e; cases e
  | seq isL xs =>
    rw [es] at e
    simp only [inSq] at e
    split at e
    · rename_i pa pbs ea eb
      split at e
      · rename_i hz
        cases e
        obtain ⟨p, vs, rfl, hs, r⟩ := sq_seq hr rb es
        obtain ⟨h1, l1⟩ := dp_py hr ea ra
        obtain ⟨h2, l2⟩ := dps_of (fun n pd e hn => dp_obj hr 4 n pd e hn) xs vs pbs eb r
        obtain ⟨as, r1⟩ := Dp.reads I pa x v h1 rx
        cases ry
        cases isL with
        | true =>
          obtain ⟨bs, r2⟩ := Dp.reads I (.list pbs) (.ref p) (.ref p) (.lst hs h2) rfl
          cases neg with
          | false => subst hop; exact SeqAt.in_list_reads r2 r1 l2 l1 (by omega) ⟨.bl _, H, I, rfl, q⟩
          | true => subst hop; exact SeqAt.notIn_list_reads r2 r1 l2 l1 (by omega) ⟨.bl _, H, I, rfl, q⟩
        | false =>
          obtain ⟨bs, r2⟩ := Dp.reads I (.tuple pbs) (.ref p) (.ref p) (.tup hs h2) rfl
          cases neg with
          | false => subst hop; exact SeqAt.in_tuple_reads r2 r1 l2 l1 (by omega) ⟨.bl _, H, I, rfl, q⟩
          | true => subst hop; exact SeqAt.notIn_tuple_reads r2 r1 l2 l1 (by omega) ⟨.bl _, H, I, rfl, q⟩
      · cases e
    · cases e
  | map kvs =>
    rw [es] at e
    simp only [inSq] at e
    split at e
    · rename_i hk
      cases e
      obtain ⟨k', rfl⟩ := kD_key hk
      have := rep_key ra
      subst this
      obtain ⟨p, lk, kv', rfl, h1, r⟩ := sq_map hr rb es
      obtain ⟨ks, hrd, rfl⟩ := h1.rd
      cases ry
      have g : DGet H p (kV k') (valV ks k') := .inl ⟨ks, k', hrd, rfl, rfl⟩
      have hs : (valV ks k').isSome = (lookD kvs (kD k')).isSome := by
        rcases look_rep (k := k') r with ⟨e1, e2⟩ | ⟨d, v, e1, e2, _⟩ <;> rw [e1, e2] <;> rfl
      cases neg with
      | false =>
        subst hop
        exact d_in (by omega) I g rx fun s' I' => ⟨.bl _, H, I', rfl, by rw [hs]; exact q⟩
      | true =>
        subst hop
        exact d_notIn (by omega) I g rx fun s' I' => ⟨.bl _, H, I', rfl, by rw [hs]; exact q⟩
    · cases e
  | txt z =>
    rw [es] at e
    simp only [inSq] at e
    split at e
    · obtain ⟨rfl, _⟩ := sq_txt rb es
      simp only [RepV] at ra
      obtain ⟨rfl, _⟩ := ra
      cases e
      cases neg with
      | false => subst hop; exact op_in_str pins s σ H _ _ v u Q I rx ry ⟨_, _, rfl, rfl, q⟩
      | true => subst hop; exact L2.op_notIn_str pins s σ H _ _ v u Q I rx ry ⟨_, _, rfl, rfl, q⟩
    · cases e
theorem do_in (c : Ctx X P W) : DOp X P (compareOp .In) opIn := by
  intro pins s σ H x y v u Q ι ah a b d I rx ry hr ra rb e q
  unfold opIn at e
  obtain ⟨k, e1, rfl⟩ := Option.map_eq_some_iff.mp e
  exact in_core (neg := false) (d := .non) c I rx ry hr ra rb e1 rfl (doneE hr q (by simp only [RepV]; rfl))
theorem do_notIn (c : Ctx X P W) : DOp X P (compareOp .NotIn) opNotIn := by
  intro pins s σ H x y v u Q ι ah a b d I rx ry hr ra rb e q
  unfold opNotIn at e
  obtain ⟨k, e1, rfl⟩ := Option.map_eq_some_iff.mp e
  exact in_core (neg := true) (d := .non) c I rx ry hr ra rb e1 rfl (doneE hr q (by simp only [RepV]; rfl))
/-! ### -x -/
def eNeg (f : Env → M D) : Env → M D := fun env => bnd (f env) fun x h => match x with
  | .int i => .ok (.int (-i)) h
  | _ => .bad
theorem de_neg {e : Expr} {f : Env → M D} {pos : Pos} (ha : DE X P W e f) : DE X P W (.UnaryOp .USub e pos) (eNeg f) :=
  weakE (pe_un un_neg ha) fun σ H Q ⟨ι, ah, env, st, q⟩ => ⟨ι, ah, env, st, (q.step (Rp := rV P)).imp fun v H1 ⟨ι1, ah1, d, x1, hr, p, q1⟩ => by
    cases d <;> first
      | exact False.elim q1
      | (simp only [rV, RepV] at p; exact ⟨_, p, q1 ι1 H1 _ Ext.refl hr (by simp only [RepV])⟩)⟩
end
end PyD

/-! PyStmt: statements, targets, loops, list comprehensions. -/
namespace PyD
open PySem PySem.Spec L2
open PyProof.Rows hiding St

section
variable {X : Cx} {P : Pm} {W : WXT}
/-! ### blocks -/
/-- from a later start -/
theorem EndS.later {σ : L2.St} {ι ι1 : Pl} {N N1 : Nat} {H H1 : Hp} {r : R Fl} {E : Ends} (x : Ext N ι H N1 ι1 H1) (h : EndS P W σ ι N H r E) {σ1 : L2.St} : EndS P W σ1 ι1 N1 H1 r E := by
  cases r with
  | ok f ah' =>
    cases f with
    | nx e => exact fun a b c d g => h a b c (x.trans d) g
    | rt d => exact fun a b c d g k => h a b c (x.trans d) g k
    | bk e => exact fun a b c d g => h a b c (x.trans d) g
    | ct e => exact fun a b c d g => h a b c (x.trans d) g
  | ex c ah' => exact fun a b c d g => h a b c (x.trans d) g
  | bad => exact h
theorem Fin.later {α β : Type} {Rp : Nat → Pl → Hp → α → β → Prop} {σ : L2.St} {ι ι1 : Pl} {N N1 : Nat} {H H1 : Hp} {r : R α} {Q : β → Hp → Prop} (x : Ext N ι H N1 ι1 H1) (h : Fin Rp P W σ ι N H r Q) : Fin Rp P W σ ι1 N1 H1 r Q := by
  cases r with
  | ok f ah' => exact fun a b c d g k => h a b c (x.trans d) g k
  | ex c ah' => exact fun a b d g => h a b (x.trans d) g
  | bad => exact h
/-- an expression, then the rest of a statement -/
theorem EndS.stepE {α β : Type} {Rp : Nat → Pl → Hp → α → β → Prop} {σ : L2.St} {ι : Pl} {ah : AH} {H : Hp} {m : M α} {k : α → M Fl} {E : Ends} (h : EndS P W σ ι ah.length H (bnd m k ah) E) :
    Fin Rp P W σ ι ah.length H (m ah) (fun v H1 => ∃ ι1 ah1 d, Ext ah.length ι H ah1.length ι1 H1 ∧ HRep P ι1 ah1 H1 ∧ Rp ah1.length ι1 H1 d v ∧ EndS P W σ ι1 ah1.length H1 (k d ah1) E) := by
  unfold bnd at h
  cases e : m ah with
  | ok d ah1 =>
    rw [e] at h
    exact fun ι1 H1 v x r p => ⟨ι1, ah1, d, x, r, p, EndS.later x h⟩
  | ex c ah1 => rw [e] at h; exact fun ι1 H1 x r => h ι1 σ H1 x r
  | bad => rw [e] at h; exact h
def sNil : Env → M Fl := fun env => ret (.nx env)
def sSeq (f g : Env → M Fl) : Env → M Fl := fun env => bnd (f env) fun r => match r with
  | .nx env' => g env'
  | r => ret r
theorem dss_nil : DSs X P W [] sNil := weakSs pss_nil fun E σ H ⟨ι, ah, env, st, q⟩ => q ι σ H Ext.refl st
/-- a statement, then a rest by its own way out -/
theorem EndS.seq {σ : L2.St} {ι : Pl} {ah : AH} {H : Hp} {m : M Fl} {k : Env → M Fl} {E : Ends} (h : EndS P W σ ι ah.length H (bnd m (fun r => match r with | .nx env' => k env' | r => ret r) ah) E) :
    EndS P W σ ι ah.length H (m ah) { E with nx := tDS P W k E } := by
  unfold bnd at h
  cases e : m ah with
  | ok f ah1 =>
    rw [e] at h
    cases f with
    | nx env1 => exact fun ι1 σ1 H1 x st => ⟨ι1, ah1, env1, st, EndS.later x h⟩
    | rt d => exact h
    | bk e => exact h
    | ct e => exact h
  | ex c ah1 => rw [e] at h; exact h
  | bad => rw [e] at h; exact h
theorem dss_cons {st : Stmt} {rest : List Stmt} {f g : Env → M Fl} (h1 : DS X P W st f) (h2 : DSs X P W rest g) : DSs X P W (st :: rest) (sSeq f g) :=
  weakSs (pss_cons h1 h2) fun E σ H ⟨ι, ah, env, st, q⟩ => ⟨ι, ah, env, st, q.seq⟩
theorem dss_one {st : Stmt} {f : Env → M Fl} (h1 : DS X P W st f) : DSs X P W [st] f := pss_one h1

/-! ### small statements -/
variable {e : Expr} {f g : Env → M D} {pos : Pos}
def sExpr (f : Env → M D) : Env → M Fl := fun env => bnd (f env) fun _ => ret (.nx env)
theorem ds_expr (he : DE X P W e f) (hs : swapsWith e none pos.line X.env = pure false := by rfl) : DS X P W (.Expr e pos) (sExpr f) :=
  weakS (ps_expr he hs) fun E σ H ⟨ι, ah, env, st, q⟩ => ⟨ι, ah, env, st, (q.stepE (Rp := rV P)).imp fun v H1 ⟨ι1, ah1, d, x1, hr, p, q1⟩ => q1 ι1 σ H1 Ext.refl (st.next x1 hr)⟩
def sRet (f : Env → M D) : Env → M Fl := fun env => bnd (f env) fun d => ret (.rt d)
theorem ds_ret (he : DE X P W e f) : DS X P W (.Return (some e) pos) (sRet f) :=
  weakS (ps_ret he) fun E σ H ⟨ι, ah, env, st, q⟩ => ⟨ι, ah, env, st, (q.stepE (Rp := rV P)).imp fun v H1 ⟨ι1, ah1, d, x1, hr, p, q1⟩ => q1 ι1 H1 v Ext.refl hr p⟩
def sRetN : Env → M Fl := fun _ => ret (.rt .non)
theorem ds_retN : DS X P W (.Return none pos) sRetN :=
  weakS ps_retN fun E σ H ⟨ι, ah, env, st, q⟩ => q ι H .non Ext.refl st.hp (by simp only [RepV])
def sBrk : Env → M Fl := fun env => ret (.bk env)
def sCnt : Env → M Fl := fun env => ret (.ct env)
theorem ds_break : DS X P W (.Break pos) sBrk := weakS ps_break fun E σ H ⟨ι, ah, env, st, q⟩ => q ι σ H Ext.refl st
theorem ds_continue : DS X P W (.Continue pos) sCnt := weakS ps_continue fun E σ H ⟨ι, ah, env, st, q⟩ => q ι σ H Ext.refl st
theorem ds_pass : DS X P W (.Pass pos) sNil := weakS ps_pass fun E σ H ⟨ι, ah, env, st, q⟩ => q ι σ H Ext.refl st
def sIf (c : Env → M Bool) (f g : Env → M Fl) : Env → M Fl := fun env => bnd (c env) fun b => if b then f env else g env
theorem ds_if {c : Expr} {a b : List Stmt} {gc : Env → M Bool} {fa fb : Env → M Fl} (hc : DT X P W c gc) (ha : DSs X P W a fa) (hb : DSs X P W b fb) : DS X P W (.If c a b pos) (sIf gc fa fb) :=
  weakS (ps_if hc ha hb) fun E σ H ⟨ι, ah, env, st, q⟩ => ⟨ι, ah, env, st, (q.stepE (Rp := rB)).imp fun v H1 ⟨ι1, ah1, d, x1, hr, p, q1⟩ => by
    cases p
    cases v with
    | true => rw [if_pos rfl]; exact ⟨ι1, ah1, env, st.next x1 hr, q1⟩
    | false => rw [if_neg Bool.false_ne_true]; exact ⟨ι1, ah1, env, st.next x1 hr, q1⟩⟩

/-! ### targets of names -/
inductive Pat where
  | nm (i : Nat) | tp (ps : List Pat)
mutual
def Pat.slots : Pat → List Nat
  | .nm i => [i]
  | .tp ps => slotsL ps
def slotsL : List Pat → List Nat
  | [] => []
  | p :: ps => p.slots ++ slotsL ps
end
mutual
def Pat.put : Pat → D → Env → Option Env
  | .nm i, d, env => some (env.set i (some d))
  | .tp ps, d, env => match d with
    | .tup ds => putL ps ds env
    | _ => none
def putL : List Pat → List D → Env → Option Env
  | [], ds, env => match ds with
    | [] => some env
    | _ :: _ => none
  | p :: ps, ds, env => match ds with
    | d :: ds => match p.put d env with
      | some env' => putL ps ds env'
      | none => none
    | [] => none
end
/-- the slots that stay as they were -/
def SameBut' (sl : List Nat) (σ σ' : L2.St) : Prop := σ'.length = σ.length ∧ ∀ i, i ∉ sl → σ'[i]? = σ[i]?
theorem SameBut'.refl {σ : L2.St} : SameBut' [] σ σ := ⟨rfl, fun _ _ => rfl⟩
theorem SameBut'.trans {a b : List Nat} {σ σ1 σ2 : L2.St} (h : SameBut' a σ σ1) (k : SameBut' b σ1 σ2) : SameBut' (a ++ b) σ σ2 :=
  ⟨k.1.trans h.1, fun i hi => (k.2 i fun z => hi (List.mem_append_right _ z)).trans (h.2 i fun z => hi (List.mem_append_left _ z))⟩
theorem wipe_get (σ : L2.St) (i : Nat) : ∀ vs : List Nat, (wipe σ vs)[i]? = if i ∈ vs then (if i < σ.length then some none else none) else σ[i]?
  | [] => by simp [wipe]
  | v :: vs => by
    unfold wipe
    have ih := wipe_get σ i vs
    by_cases h : v = i
    · subst h
      rw [if_pos List.mem_cons_self]
      by_cases hl : v < σ.length
      · rw [if_pos hl, List.getElem?_set_self (by rw [wipe_length]; exact hl)]
      · rw [if_neg hl, List.getElem?_eq_none (by simp only [List.length_set, wipe_length]; omega)]
    · rw [List.getElem?_set_ne h, ih]
      by_cases hm : i ∈ vs
      · rw [if_pos hm, if_pos (List.mem_cons_of_mem _ hm)]
      · rw [if_neg hm, if_neg (by simp only [List.mem_cons, not_or]; exact ⟨fun e => h e.symm, hm⟩)]
theorem SameBut'.wipe {sl own : List Nat} {σ σ' : L2.St} (h : SameBut' sl σ σ') (hs : ∀ i ∈ sl, i ∈ own) : wipe σ' own = wipe σ own := by
  refine List.ext_getElem? fun i => ?_
  rw [wipe_get, wipe_get, h.1]
  by_cases hm : i ∈ own
  · rw [if_pos hm, if_pos hm]
  · rw [if_neg hm, if_neg hm, h.2 i fun z => hm (hs i z)]
theorem EnvRep.set {N : Nat} {ι : Pl} {H : Hp} {env : Env} {σ : L2.St} {d : D} {v : V} (h : EnvRep P N ι H env σ) (r : RepV P.K N ι H d v) (i : Nat) : EnvRep P N ι H (env.set i (some d)) (σ.set i (some v)) := by
  refine ⟨by rw [List.length_set, List.length_set]; exact h.1, fun j d' q => ?_⟩
  by_cases e : i = j
  · subst e
    by_cases hl : i < env.length
    · rw [List.getElem?_set_self hl] at q
      cases q
      exact ⟨v, List.getElem?_set_self (by rw [← h.1]; exact hl), r⟩
    · rw [List.getElem?_eq_none (by simpa using hl)] at q; cases q
  · rw [List.getElem?_set_ne e] at q ⊢
    exact h.2 j d' q
def gP (P : Pm) (pat : Pat) : TG := fun v σ H Q => ∃ ι ah env d env', Sta P ι ah env σ H ∧ RepV P.K ah.length ι H d v ∧ pat.put d env = some env' ∧ ∀ σ', SameBut' pat.slots σ σ' → Sta P ι ah env' σ' H → Q σ' H
def gPs (P : Pm) (pats : List Pat) : TGs := fun vs σ H Q => ∃ ι ah env ds env', Sta P ι ah env σ H ∧ RepVs P.K ah.length ι H ds vs ∧ putL pats ds env = some env' ∧ ∀ σ', SameBut' (slotsL pats) σ σ' → Sta P ι ah env' σ' H → Q σ' H
theorem weakG {t t' : TG} {tg : Expr} (h : PG X tg t) (w : ∀ v σ H Q, t' v σ H Q → t v σ H Q) : PG X tg t' := ⟨fun pins s σ H v u Q I r q => h.run pins s σ H v u Q I r (w v σ H Q q)⟩
theorem weakGs {t t' : TGs} {tg : List Expr} (h : PGs X tg t) (w : ∀ v σ H Q, t' v σ H Q → t v σ H Q) : PGs X tg t' := ⟨fun pins s σ H v u Q I r q => h.run pins s σ H v u Q I r (w v σ H Q q)⟩
theorem dp_name {i : Nat} {tg : Expr} (h : PG X tg (gName i)) : PG X tg (gP P (.nm i)) := weakG h fun v σ H Q ⟨ι, ah, env, d, env', st, r, e, k⟩ => by
  simp only [Pat.put, Option.some.injEq] at e
  subst e
  refine k _ ⟨by rw [List.length_set], fun j hj => ?_⟩ ⟨st.hp, st.env.set r i⟩
  simp only [Pat.slots, List.mem_singleton] at hj
  exact List.getElem?_set_ne (fun e => hj e.symm)
theorem dps_nil : PGs X [] (gPs P []) := weakGs pgs_nil fun vs σ H Q ⟨ι, ah, env, ds, env', st, r, e, k⟩ => by
  cases ds with
  | nil =>
    simp only [putL, Option.some.injEq] at e
    simp only [RepVs] at r
    subst e
    exact ⟨r, k σ (by simp only [slotsL]; exact .refl) st⟩
  | cons d ds => simp [putL] at e
theorem dps_cons {p : Pat} {ps : List Pat} {tg : Expr} {tgs : List Expr} (h1 : PG X tg (gP P p)) (h2 : PGs X tgs (gPs P ps)) (hs : (assignEach (tg :: tgs) X.env).map (·.2) = assign tg X.env :: (assignEach tgs X.env).map (·.2) := by rfl) :
    PGs X (tg :: tgs) (gPs P (p :: ps)) := weakGs (pgs_cons h1 h2 hs) fun vs σ H Q ⟨ι, ah, env, ds, env', st, r, e, k⟩ => by
  cases ds with
  | nil => simp [putL] at e
  | cons d ds =>
    simp only [RepVs] at r
    obtain ⟨v, vr, rfl, h3, h4⟩ := r
    simp only [putL] at e
    cases e1 : p.put d env with
    | none => simp [e1] at e
    | some env1 =>
      simp only [e1] at e
      refine ⟨v, vr, rfl, ι, ah, env, d, env1, st, h3, e1, fun σ1 s1 st1 => ⟨ι, ah, env1, ds, env', st1, h4, e, fun σ2 s2 st2 => k σ2 ?_ st2⟩⟩
      simp only [slotsL]
      exact s1.trans s2
theorem dp_tup {ps : List Pat} {es : List Expr} {k : Nat} {n : Nat} (c : Ctx X P W) (h : PGs X es (gPs P ps))
    (hn : (assignEach es X.env).length = ps.length := by rfl) (hst : (assignEach es X.env).findIdx? (·.1) = none := by rfl) : PG X (.Tuple es k pos) (gP P (.tp ps)) := weakG (pg_tup (n := ps.length) c.calm h hn hst) fun v σ H Q ⟨ι, ah, env, d, env', st, r, e, k⟩ => by
  cases d <;> simp only [Pat.put, reduceCtorEq] at e
  rename_i ds
  simp only [RepV] at r
  obtain ⟨a, vs, rfl, h1, h2⟩ := r
  rw [c.k] at h1
  have hl : ∀ (ps : List Pat) (ds : List D) (env env' : Env), putL ps ds env = some env' → ds.length = ps.length := by
    intro ps
    induction ps with
    | nil => intro ds env env' q; cases ds <;> simp [putL] at q ⊢
    | cons p ps ih =>
      intro ds env env' q
      cases ds with
      | nil => simp [putL] at q
      | cons d ds =>
        simp only [putL] at q
        cases e1 : p.put d env with
        | none => simp [e1] at q
        | some env1 =>
          simp only [e1] at q
          rw [List.length_cons, List.length_cons, ih ds env1 env' q]
  refine ⟨a, vs, rfl, h1, by rw [h2.length]; exact hl _ _ _ _ e, ι, ah, env, ds, env', st, h2, e, fun σ' s' st' => k σ' ?_ st'⟩
  simp only [Pat.slots]
  exact s'
/-- pattern = e -/
def putM (pat : Pat) (d : D) (env : Env) : M Env := fun h => match pat.put d env with
  | some env' => .ok env' h
  | none => .bad
def sAsg (pat : Pat) (f : Env → M D) : Env → M Fl := fun env => bnd (f env) fun d h => match pat.put d env with
  | some env' => .ok (.nx env') h
  | none => .bad
theorem end_asg {pat : Pat} {σ : L2.St} {H : Hp} {E : Ends} (h : tDS P W (sAsg pat f) E σ H) : tAsg (tD P W f) (gP P pat) E σ H := by
  obtain ⟨ι, ah, env, st, q⟩ := h
  refine ⟨ι, ah, env, st, (q.stepE (Rp := rV P)).imp fun v H1 ⟨ι1, ah1, d, x1, hr, p, q1⟩ => ?_⟩
  cases e : pat.put d env with
  | none => rw [e] at q1; exact q1.elim
  | some env' =>
    rw [e] at q1
    exact ⟨ι1, ah1, env, d, env', st.next x1 hr, p, e, fun σ' _ st' => q1 ι1 σ' H1 Ext.refl st'⟩
theorem ds_asg {tg : Expr} {pat : Pat} (he : DE X P W e f) (hg : PG X tg (gP P pat)) (hs : swapsWithSole [tg] e pos.line X.env = pure false := by rfl) (hw : swappedStores [tg] e X.env = pure none := by rfl)
    (h1 : (assignEach [tg] X.env).map (·.2) = [assign tg X.env] := by rfl) : DS X P W (.Assign [tg] e pos) (sAsg pat f) := weakS (ps_asg he hg hs hw h1) fun E σ H h => end_asg h
/-- name = e -/
theorem ds_set {i : Nat} {x : Str} {pos' : Pos} (c : Ctx X P W) (hi : X.N[i]? = some x) (hx : Loc X.env.scope x) (he : DE X P W e f) (hs : swapsWith e (some (.Name x pos')) pos.line X.env = pure false := by rfl) (hf : X.fn x = true ∨ X.env.scope.names.lookup x = some .local := by first | exact .inl rfl | exact .inr rfl | assumption) :
    DS X P W (.Assign [.Name x pos'] e pos) (sAsg (.nm i) f) := weakS (ps_set c.nd hi hx he hs hf) fun E σ H h => by
  have := end_asg h
  obtain ⟨ι, ah, env, st, q⟩ := h
  refine ⟨ι, ah, env, st, (q.stepE (Rp := rV P)).imp fun v H1 ⟨ι1, ah1, d, x1, hr, p, q1⟩ => ?_⟩
  exact q1 ι1 _ H1 Ext.refl ⟨hr, (st.next x1 hr).env.set p i⟩
/-- a, b = x, y: stored from the right, the pair itself never a value -/
def sPar (i j : Nat) (g : Env → M (List D)) : Env → M Fl := fun env => bnd (g env) fun ds h => match ds with
  | [x, y] => .ok (.nx ((env.set i (some x)).set j (some y))) h
  | _ => .bad
theorem ds_par {i j : Nat} {x y : Str} {a b : Expr} {ga : Env → M (List D)} {px py pt : Pos} {kt k2 pt2} (c : Ctx X P W) (hi : X.N[i]? = some x) (hj : X.N[j]? = some y) (hij : i ≠ j)
    (hx : X.env.scope.names.lookup x = some .local) (hy : X.env.scope.names.lookup y = some .local) (ha : DA X P W [a, b] ga)
    (hw : swappedStores [.Tuple [.Name x px, .Name y py] kt pt] (.Tuple [a, b] k2 pt2) X.env = pure (some [x, y]))
    (hs : swapsWithSole [.Tuple [.Name x px, .Name y py] kt pt] (.Tuple [a, b] k2 pt2) pos.line X.env = pure false := by rfl) :
    DS X P W (.Assign [.Tuple [.Name x px, .Name y py] kt pt] (.Tuple [a, b] k2 pt2) pos) (sPar i j ga) := weakS (ps_par c.calm c.nd hi hj hij hx hy ha hw hs) fun E σ H ⟨ι, ah, env, st, q⟩ =>
  ⟨ι, ah, env, st, (q.stepE (Rp := rVs P)).imp fun vs H1 ⟨ι1, ah1, ds, x1, hr, p, q1⟩ => by
    match ds, p, q1 with
    | [], _, q1 => exact q1.elim
    | [_], _, q1 => exact q1.elim
    | _ :: _ :: _ :: _, _, q1 => exact q1.elim
    | [d1, d2], p, q1 =>
      simp only [rVs, RepVs] at p
      obtain ⟨v, r, rfl, p1, w, r2, rfl, p2, rfl⟩ := p
      exact ⟨v, w, rfl, q1 ι1 _ H1 Ext.refl ⟨hr, ((st.next x1 hr).env.set p1 i).set p2 j⟩⟩⟩

/-! ### while -/
def whileM (c : Env → M Bool) (b : Env → M Fl) : Nat → Env → M Fl
  | 0 => fun _ => stuck
  | n + 1 => fun env => bnd (c env) fun t => if t then bnd (b env) (fun r => match r with
    | .nx env' => whileM c b n env'
    | .ct env' => whileM c b n env'
    | .bk env' => ret (.nx env')
    | .rt d => ret (.rt d)) else ret (.nx env)
/-- so many turns at most -/
def sWhile (n : Nat) (c : Env → M Bool) (b : Env → M Fl) : Env → M Fl := whileM c b n
theorem ds_while {c : Expr} {body : List Stmt} {gc : Env → M Bool} {fb : Env → M Fl} (n : Nat) (hp : PassesOwn (model X.prog X.w) X.A X.env X.xe) (hc : DT X P W c gc) (hb : DSs X P W body fb) : DS X P W (.While c body [] pos) (sWhile n gc fb) :=
  weakS (ps_while hp hc hb) fun E σ H h => by
    refine ⟨fun m σ H => tDS P W (whileM gc fb m) E σ H, ⟨n, h⟩, ?_⟩
    intro m σ H ⟨ι, ah, env, st, q⟩
    cases m with
    | zero => exact q.elim
    | succ m =>
      refine ⟨ι, ah, env, st, (q.stepE (Rp := rB)).imp fun v H1 ⟨ι1, ah1, d, x1, hr, p, q1⟩ => ?_⟩
      cases p
      cases v with
      | false => rw [if_neg Bool.false_ne_true]; exact q1 ι1 σ H1 Ext.refl (st.next x1 hr)
      | true =>
        rw [if_pos rfl]
        refine ⟨tDS P W (whileM gc fb m) E, fun σ' H' z => ⟨m, Nat.lt_succ_self _, z⟩, ι1, ah1, env, st.next x1 hr, ?_⟩
        have q1 : EndS P W σ ι1 ah1.length H1 (bnd (fb env) _ ah1) E := q1
        unfold bnd at q1
        cases e : fb env ah1 with
        | ok f ah2 =>
          rw [e] at q1
          cases f with
          | nx env2 => exact fun ι2 σ2 H2 x2 st2 => ⟨ι2, ah2, env2, st2, EndS.later x2 q1⟩
          | ct env2 => exact fun ι2 σ2 H2 x2 st2 => ⟨ι2, ah2, env2, st2, EndS.later x2 q1⟩
          | rt d => exact q1
          | bk env2 => exact q1
        | ex c ah2 => rw [e] at q1; exact q1
        | bad => rw [e] at q1; exact q1

/-! ### what is walked -/
/-- the items as they will come, and what must stay while they come -/
structure Src where
  xs : List D
  ok : AH → Bool
structure ItOk (P : Pm) (N : Nat) (ι : Pl) (H : Hp) (src : Src) (J : It) : Prop where
  go : ∀ (i : Nat) (d : D) (ι2 : Pl) (ah2 : AH) (H2 : Hp), src.xs[i]? = some d → Ext N ι H ah2.length ι2 H2 → HRep P ι2 ah2 H2 → src.ok ah2 = true →
    J.go i H2 ∧ ∀ x H3, J.yld i H2 x H3 → Ext ah2.length ι2 H2 ah2.length ι2 H3 ∧ HRep P ι2 ah2 H3 ∧ RepV P.K ah2.length ι2 H3 d x
  stop : ∀ (ι2 : Pl) (ah2 : AH) (H2 : Hp), Ext N ι H ah2.length ι2 H2 → HRep P ι2 ah2 H2 → src.ok ah2 = true → J.stop src.xs.length H2
def tDI (P : Pm) (W : WXT) (f : Env → M Src) : TI := fun σ H Rr => ∃ ι ah env, Sta P ι ah env σ H ∧ Fin (fun N ι H src J => ItOk P N ι H src J) P W σ ι ah.length H (f env ah) Rr
abbrev DI (X : Cx) (P : Pm) (W : WXT) (tg iter : Expr) (f : Env → M Src) : Prop := PI X tg iter (tDI P W f)
theorem weakI {t t' : TI} {tg iter : Expr} (h : PI X tg iter t) (w : ∀ σ H Rr, t' σ H Rr → t σ H Rr) : PI X tg iter t' := ⟨fun pins s σ H Rr I q => h.run pins s σ H Rr I (w σ H Rr q)⟩
/-- a list or a tuple: one that may change must be as it was -/
def srcSeq (ah : AH) (d : D) : Option Src := match d with
  | .tup xs => some ⟨xs, fun _ => true⟩
  | .lst xs => some ⟨xs, fun _ => true⟩
  | .scr ns => some ⟨ns.map .int, fun _ => true⟩
  | .obj n => match ah[n]? with
    | some (.lst xs) => some ⟨xs, fun h => decide (h[n]? = some (.lst xs))⟩
    | _ => none
  | _ => none
def iSeq (f : Env → M D) : Env → M Src := fun env => bnd (f env) fun d h => match srcSeq h d with
  | some s => .ok s h
  | none => .bad
theorem SqL.inj' {H : Hp} {a : Addr} {xs ys : List V} (h : H a = some (.lst xs)) (h' : Rd H a (.lst ys)) : ys = xs := by
  rcases h' with h' | ⟨o, h'⟩
  · rw [h] at h'; cases h'; rfl
  · rw [h] at h'; cases h'
end
end PyD

/-! PyLoop: for, list comprehensions, what they walk. -/
namespace PyD
open PySem PySem.Spec L2
open PyProof.Rows hiding St

section
variable {X : Cx} {P : Pm} {W : WXT} {tg iter : Expr}
theorem pi_or {w1 w2 : TI} (h : PI X tg iter w1) (k : PI X tg iter w2) : PI X tg iter (fun σ H Rr => w1 σ H Rr ∨ w2 σ H Rr) :=
  ⟨fun pins s σ H Rr I q => q.elim (h.run pins s σ H Rr I) (k.run pins s σ H Rr I)⟩
theorem RepVs.getV {K : KL} {N : Nat} {ι : Pl} {H : Hp} {ds : List D} {vs : List V} {i : Nat} {d : D} {v : V} (h : RepVs K N ι H ds vs) (e : ds[i]? = some d) (e' : vs[i]? = some v) : RepV K N ι H d v := by
  obtain ⟨w, h1, h2⟩ := h.get e
  rw [h1] at e'; cases e'; exact h2
theorem it_tup {N : Nat} {ι : Pl} {ah : AH} {H : Hp} {a : Addr} {xs : List D} {vs : List V} (hr : HRep P ι ah H) (h : SqT P.K.fr H a vs) (r : RepVs P.K ah.length ι H xs vs) : ItOk P ah.length ι H ⟨xs, fun _ => true⟩ (Itt P.K.fr a) where
  go := fun i d ι2 ah2 H2 e x2 hr2 _ => by
    have h2 := x2.tup hr.notup h
    have r2 := r.mono x2.toEx0 hr.notup
    obtain ⟨v, e1, p⟩ := r2.get e
    refine ⟨⟨vs, v, h2, e1⟩, fun x H3 ⟨eH, y⟩ => ?_⟩
    subst eH
    exact ⟨Ext.refl, hr2, r2.getV e (y vs h2)⟩
  stop := fun ι2 ah2 H2 x2 hr2 _ => ⟨vs, x2.tup hr.notup h, by rw [r.length]; exact Nat.le_refl _⟩
theorem it_lst {N : Nat} {ι : Pl} {ah : AH} {H : Hp} {a : Addr} {xs : List D} {vs : List V} (hr : HRep P ι ah H) (h : H a = some (.lst vs)) (o : Out ah.length ι a) (r : RepVs P.K ah.length ι H xs vs) : ItOk P ah.length ι H ⟨xs, fun _ => true⟩ (Itl P.K.fr a) where
  go := fun i d ι2 ah2 H2 e x2 hr2 _ => by
    have h2 : SqL P.K.fr H2 a vs := SqL.of (x2.keep a _ h (fun ps z => by cases z) o)
    have r2 := r.mono x2.toEx0 hr.notup
    obtain ⟨v, e1, p⟩ := r2.get e
    refine ⟨⟨vs, v, h2, e1⟩, fun x H3 ⟨eH, y⟩ => ?_⟩
    subst eH
    exact ⟨Ext.refl, hr2, r2.getV e (y vs h2)⟩
  stop := fun ι2 ah2 H2 x2 hr2 _ => ⟨vs, SqL.of (x2.keep a _ h (fun ps z => by cases z) o), by rw [r.length]; exact Nat.le_refl _⟩
theorem it_scr {N : Nat} {ι : Pl} {ah : AH} {H : Hp} {a : Addr} {ns : List Int} (hr : HRep P ι ah H) (h : ScrAt P.K ah.length ι H a (ns.map V.int)) : ItOk P ah.length ι H ⟨ns.map .int, fun _ => true⟩ (Itl P.K.fr a) where
  go := fun i d ι2 ah2 H2 e x2 hr2 _ => by
    have h2 : SqL P.K.fr H2 a (ns.map V.int) := h.elim (fun z => .inl (x2.rd z.1 z.2).1) (fun z => scr_sql (N := ah2.length) (ι := ι2) (.inr z))
    have r2 := rep_ints (K := P.K) (N := ah2.length) (ι := ι2) (H := H2) ns
    obtain ⟨v, e1, p⟩ := r2.get e
    refine ⟨⟨_, v, h2, e1⟩, fun x H3 ⟨eH, y⟩ => ?_⟩
    subst eH
    exact ⟨Ext.refl, hr2, r2.getV e (y _ h2)⟩
  stop := fun ι2 ah2 H2 x2 hr2 _ => ⟨_, h.elim (fun z => .inl (x2.rd z.1 z.2).1) (fun z => scr_sql (N := ah2.length) (ι := ι2) (.inr z)), by simp⟩
theorem it_obj {ι : Pl} {ah : AH} {H : Hp} {n : Nat} {xs : List D} (hr : HRep P ι ah H) (hn : n < ah.length) : ItOk P ah.length ι H ⟨xs, fun h => decide (h[n]? = some (.lst xs))⟩ (Itl P.K.fr (ι n)) where
  go := fun i d ι2 ah2 H2 e x2 hr2 k => by
    have k := of_decide_eq_true k
    obtain ⟨vs, h2, r2⟩ := hr2.at_ n _ k
    rw [x2.same n hn] at h2
    obtain ⟨v, e1, p⟩ := r2.get e
    refine ⟨⟨vs, v, SqL.of h2, e1⟩, fun x H3 ⟨eH, y⟩ => ?_⟩
    subst eH
    exact ⟨Ext.refl, hr2, r2.getV e (y vs (SqL.of h2))⟩
  stop := fun ι2 ah2 H2 x2 hr2 k => by
    have k := of_decide_eq_true k
    obtain ⟨vs, h2, r2⟩ := hr2.at_ n _ k
    rw [x2.same n hn] at h2
    exact ⟨vs, SqL.of h2, by rw [r2.length]; exact Nat.le_refl _⟩
theorem di_seq (c : Ctx X P W) {f : Env → M D} (he : DE X P W iter f) : DI X P W tg iter (iSeq f) := by
  obtain ⟨⟨K0, lm0, lq0⟩, cl0, tb0⟩ := P
  obtain rfl : K0 = X.K := c.k
  refine weakI (pi_or (pi_list he) (pi_tup he)) fun σ H Rr ⟨ι, ah, env, st, q⟩ => ?_
  have q1 := q.step (Rp := rV ⟨⟨X.K, lm0, lq0⟩, cl0, tb0⟩)
  -- which of the two it is shows in the value
  cases e : f env ah with
  | bad => rw [e] at q1; exact q1.elim
  | ex c ah' =>
    refine .inl ⟨ι, ah, env, st, ?_⟩
    rw [e] at q1 ⊢
    exact q1
  | ok d ah1 =>
    have en : iSeq f env ah = (match srcSeq ah1 d with | some s => R.ok s ah1 | none => R.bad) := by unfold iSeq bnd; rw [e]; all_goals rfl
    rw [en] at q
    cases es : srcSeq ah1 d with
    | none => rw [es] at q; exact q.elim
    | some src =>
      rw [es] at q
      cases d <;> simp only [srcSeq, reduceCtorEq, Option.some.injEq] at es
      · subst es
        refine .inr ⟨ι, ah, env, st, ?_⟩
        rw [e]
        intro ι1 H1 v x1 hr1 p
        simp only [rV, RepV] at p
        obtain ⟨a, vs, rfl, h1, r⟩ := p
        exact ⟨a, rfl, ⟨vs, h1⟩, q ι1 H1 _ x1 hr1 (it_tup (N := 0) hr1 h1 r)⟩
      · subst es
        refine .inl ⟨ι, ah, env, st, ?_⟩
        rw [e]
        intro ι1 H1 v x1 hr1 p
        simp only [rV, RepV] at p
        obtain ⟨a, vs, rfl, h1, o, r⟩ := p
        exact ⟨a, rfl, ⟨vs, SqL.of h1⟩, q ι1 H1 _ x1 hr1 (it_lst (N := 0) hr1 h1 o r)⟩
      · rename_i n
        cases eo : ah1[n]? with
        | none => simp [eo] at es
        | some o =>
          cases o <;> simp only [eo, reduceCtorEq, Option.some.injEq] at es
          subst es
          refine .inl ⟨ι, ah, env, st, ?_⟩
          rw [e]
          intro ι1 H1 v x1 hr1 p
          simp only [rV, RepV] at p
          obtain ⟨hn, rfl⟩ := p
          obtain ⟨vs, h1, r⟩ := hr1.at_ n _ eo
          exact ⟨_, rfl, ⟨vs, SqL.of h1⟩, q ι1 H1 _ x1 hr1 (it_obj hr1 hn)⟩
      · subst es
        refine .inl ⟨ι, ah, env, st, ?_⟩
        rw [e]
        intro ι1 H1 v x1 hr1 p
        simp only [rV, RepV] at p
        obtain ⟨a, rfl, h⟩ := p
        exact ⟨a, rfl, ⟨_, scr_sql h⟩, q ι1 H1 _ x1 hr1 (it_scr (N := 0) hr1 h)⟩

/-! ### ranges -/
def fits62 (i : Int) : Bool := decide (-(2 ^ 62) ≤ i) && decide (i < 2 ^ 62)
def intsFrom (lo c : Int) : Nat → List D
  | 0 => []
  | n + 1 => .int lo :: intsFrom (lo + c) c n
theorem intsFrom_len (lo c : Int) : ∀ n, (intsFrom lo c n).length = n
  | 0 => rfl
  | n + 1 => by rw [intsFrom, List.length_cons, intsFrom_len]
theorem intsFrom_get (c : Int) : ∀ (n i : Nat) (lo : Int), i < n → (intsFrom lo c n)[i]? = some (.int (lo + i * c))
  | 0, i, lo, h => absurd h (Nat.not_lt_zero _)
  | n + 1, 0, lo, h => by simp [intsFrom]
  | n + 1, i + 1, lo, h => by
    rw [intsFrom, List.getElem?_cons_succ, intsFrom_get c n i (lo + c) (by omega)]
    have e : lo + c + (i : Int) * c = lo + ((i + 1 : Nat) : Int) * c := by
      have : ((i + 1 : Nat) : Int) * c = (i : Int) * c + c := by rw [Int.natCast_add, Int.add_mul]; simp
      rw [this]; omega
    rw [e]
def range1 : List D → Option (List D)
  | [.int j] => if fits62 j then some (intsFrom 0 1 j.toNat) else none
  | _ => none
def range2 : List D → Option (List D)
  | [.int i, .int j] => if fits62 i && fits62 j then some (intsFrom i 1 (j - i).toNat) else none
  | _ => none
def range3 : List D → Option (List D)
  | [.int i, .int j, .int c] => if decide (0 ≤ Builtin.Range.rangeSize i j c) && !decide (c = 0) && decide (c.natAbs < 1073741824) && Builtin.Range.small i j c then some (intsFrom i c (Builtin.Range.rangeSize i j c).toNat) else none
  | _ => none
def iRange (r : List D → Option (List D)) (g : Env → M (List D)) : Env → M Src := fun env => bnd (g env) fun ds h => match r ds with
  | some xs => .ok ⟨xs, fun _ => true⟩ h
  | none => .bad
theorem it_range {N : Nat} {ι : Pl} {H : Hp} {lo : Int} {n : Nat} : ItOk P N ι H ⟨intsFrom lo 1 n, fun _ => true⟩ (Itr lo n) where
  go := fun i d ι2 ah2 H2 e x2 hr2 _ => by
    have hi : i < n := by
      have := (List.getElem?_eq_some_iff.mp e).1
      rwa [intsFrom_len] at this
    refine ⟨hi, fun x H3 ⟨eH, y⟩ => ?_⟩
    subst eH
    rw [intsFrom_get 1 n i lo hi, Int.mul_one] at e
    cases e
    exact ⟨Ext.refl, hr2, by simp only [RepV]; exact y⟩
  stop := fun _ _ _ _ _ _ => by
    show n ≤ (intsFrom lo 1 n).length
    rw [intsFrom_len]
    exact Nat.le_refl _
theorem it_rangeC {N : Nat} {ι : Pl} {H : Hp} {lo c : Int} {n : Nat} : ItOk P N ι H ⟨intsFrom lo c n, fun _ => true⟩ (Itc lo c n) where
  go := fun i d ι2 ah2 H2 e x2 hr2 _ => by
    have hi : i < n := by
      have := (List.getElem?_eq_some_iff.mp e).1
      rwa [intsFrom_len] at this
    refine ⟨hi, fun x H3 ⟨eH, y⟩ => ?_⟩
    subst eH
    rw [intsFrom_get c n i lo hi] at e
    cases e
    exact ⟨Ext.refl, hr2, by simp only [RepV]; exact y⟩
  stop := fun _ _ _ _ _ _ => by
    show n ≤ (intsFrom lo c n).length
    rw [intsFrom_len]
    exact Nat.le_refl _
theorem fits62_iff {i : Int} : fits62 i = true ↔ -(2 ^ 62) ≤ i ∧ i < 2 ^ 62 := by unfold fits62; rw [Bool.and_eq_true, decide_eq_true_eq, decide_eq_true_eq]
theorem di_range1 {a : Expr} {ga : Env → M (List D)} {p pos : Pos} (hg : Gl X "range") (hm : X.mg "range" = none) (ha : DA X P W [a] ga) (hs : starEach [a] X.env = [(false, eval a X.env)] := by rfl) : DI X P W tg (.Call (.Name "range" p) [a] [] pos) (iRange range1 ga) :=
  weakI (pi_range1 hg hm ha hs) fun σ H Rr ⟨ι, ah, env, st, q⟩ => ⟨ι, ah, env, st, (q.step (Rp := rVs P)).imp fun vs H1 ⟨ι1, ah1, ds, x1, hr1, r1, q1⟩ => by
    cases e : range1 ds with
    | none => rw [e] at q1; exact q1.elim
    | some xs =>
      rw [e] at q1
      unfold range1 at e
      split at e
      · split at e
        · rename_i j hf
          cases e
          simp only [rVs, RepVs, RepV] at r1
          obtain ⟨v, r, rfl, rfl, rfl⟩ := r1
          rw [fits62_iff] at hf
          exact ⟨j, rfl, hf.1, hf.2, q1 ι1 H1 _ Ext.refl hr1 it_range⟩
        · cases e
      · cases e⟩
theorem di_range2 {a b : Expr} {ga : Env → M (List D)} {p pos : Pos} (hg : Gl X "range") (hm : X.mg "range" = none) (ha : DA X P W [a, b] ga) (hs : starEach [a, b] X.env = [(false, eval a X.env), (false, eval b X.env)] := by rfl) (hs2 : starEach [b] X.env = [(false, eval b X.env)] := by rfl) :
    DI X P W tg (.Call (.Name "range" p) [a, b] [] pos) (iRange range2 ga) :=
  weakI (pi_range2 hg hm ha hs hs2) fun σ H Rr ⟨ι, ah, env, st, q⟩ => ⟨ι, ah, env, st, (q.step (Rp := rVs P)).imp fun vs H1 ⟨ι1, ah1, ds, x1, hr1, r1, q1⟩ => by
    cases e : range2 ds with
    | none => rw [e] at q1; exact q1.elim
    | some xs =>
      rw [e] at q1
      unfold range2 at e
      split at e
      · split at e
        · rename_i i j hf
          cases e
          simp only [rVs, RepVs, RepV] at r1
          obtain ⟨v, r, rfl, rfl, w, r', rfl, rfl, rfl⟩ := r1
          rw [Bool.and_eq_true, fits62_iff, fits62_iff] at hf
          exact ⟨i, j, rfl, ⟨hf.1.1, hf.1.2, hf.2.1, hf.2.2⟩, q1 ι1 H1 _ Ext.refl hr1 it_range⟩
        · cases e
      · cases e⟩
theorem di_range3 {a b c : Expr} {ga : Env → M (List D)} {p pos : Pos} (hg : Gl X "range") (hm : X.mg "range" = none) (ha : DA X P W [a, b, c] ga)
    (hs : starEach [a, b, c] X.env = (false, eval a X.env) :: starEach [b, c] X.env := by rfl) (hpl : (backTo pos (starEach [b, c] X.env)).any (·.1) = false := by rfl) :
    DI X P W tg (.Call (.Name "range" p) [a, b, c] [] pos) (iRange range3 ga) :=
  weakI (pi_range3 hg hm ha hs hpl) fun σ H Rr ⟨ι, ah, env, st, q⟩ => ⟨ι, ah, env, st, (q.step (Rp := rVs P)).imp fun vs H1 ⟨ι1, ah1, ds, x1, hr1, r1, q1⟩ => by
    cases e : range3 ds with
    | none => rw [e] at q1; exact q1.elim
    | some xs =>
      rw [e] at q1
      unfold range3 at e
      split at e
      · split at e
        · rename_i i j k hf
          cases e
          simp only [rVs, RepVs, RepV] at r1
          obtain ⟨v, r, rfl, rfl, w, r', rfl, rfl, u, r'', rfl, rfl, rfl⟩ := r1
          simp only [Bool.and_eq_true, Bool.not_eq_true', decide_eq_true_eq, decide_eq_false_iff_not] at hf
          obtain ⟨⟨⟨h1, h2⟩, h3⟩, h4⟩ := hf
          exact ⟨i, j, k, _, rfl, ⟨h2, h3, h4, (Int.toNat_of_nonneg h1).symm⟩, q1 ι1 H1 _ Ext.refl hr1 it_rangeC⟩
        · cases e
      · cases e⟩

/-! ### zip, enumerate -/
/-- what is walked twice at once -/
def srcTwo (ah : AH) (a b : D) : Option (Bool × Src × Src) := match sqOf ah a, sqOf ah b, srcSeq ah a, srcSeq ah b with
  | .seq true _, .seq true _, some s, some t => some (true, s, t)
  | .seq false _, .seq false _, some s, some t => some (false, s, t)
  | _, _, _, _ => none
def zipD : List D → List D → List D
  | a :: r, b :: t => .tup [a, b] :: zipD r t
  | _, _ => []
theorem zipD_get : ∀ {xs ys : List D} {i : Nat} {d : D}, (zipD xs ys)[i]? = some d → ∃ a b, xs[i]? = some a ∧ ys[i]? = some b ∧ d = .tup [a, b]
  | [], _, _, _, e => by simp [zipD] at e
  | _ :: _, [], _, _, e => by simp [zipD] at e
  | a :: r, b :: t, 0, d, e => by simp [zipD] at e; exact ⟨a, b, rfl, rfl, e.symm⟩
  | a :: r, b :: t, i + 1, d, e => by
    simp only [zipD, List.getElem?_cons_succ] at e ⊢
    exact zipD_get e
theorem zipD_len : ∀ xs ys : List D, xs.length ≤ (zipD xs ys).length ∨ ys.length ≤ (zipD xs ys).length
  | [], _ => .inl (by simp)
  | _ :: _, [] => .inr (by simp)
  | a :: r, b :: t => by
    simp only [zipD, List.length_cons]
    rcases zipD_len r t with h | h
    · exact .inl (by omega)
    · exact .inr (by omega)
/-- the place of a sequence that is walked, told again where it stands later -/
structure SeqIs (P : Pm) (N : Nat) (ι : Pl) (H : Hp) (isL : Bool) (a : Addr) (s : Src) : Prop where
  run : ∀ (ι2 : Pl) (ah2 : AH) (H2 : Hp), Ext N ι H ah2.length ι2 H2 → HRep P ι2 ah2 H2 → s.ok ah2 = true → ∃ vs, SeqAt' P.K H2 a isL vs ∧ RepVs P.K ah2.length ι2 H2 s.xs vs
theorem seq_is {ι : Pl} {ah : AH} {H : Hp} (hr : HRep P ι ah H) {d : D} {v : V} (r : RepV P.K ah.length ι H d v) {isL : Bool} {xs : List D} {s : Src} (e : sqOf ah d = .seq isL xs) (es : srcSeq ah d = some s) :
    ∃ a, v = .ref a ∧ SeqIs P ah.length ι H isL a s ∧ s.ok ah = true := by
  cases d <;> simp only [srcSeq, reduceCtorEq, Option.some.injEq] at es
  · subst es
    simp only [sqOf, Sq.seq.injEq] at e
    obtain ⟨rfl, rfl⟩ := e
    simp only [RepV] at r
    obtain ⟨a, vs, rfl, h1, r⟩ := r
    exact ⟨a, rfl, ⟨fun ι2 ah2 H2 x2 _ _ => ⟨vs, x2.tup hr.notup h1, r.mono x2.toEx0 hr.notup⟩⟩, rfl⟩
  · subst es
    simp only [sqOf, Sq.seq.injEq] at e
    obtain ⟨rfl, rfl⟩ := e
    simp only [RepV] at r
    obtain ⟨a, vs, rfl, h1, o, r⟩ := r
    exact ⟨a, rfl, ⟨fun ι2 ah2 H2 x2 _ _ => ⟨vs, SqL.of (x2.keep a _ h1 (fun ps z => by cases z) o), r.mono x2.toEx0 hr.notup⟩⟩, rfl⟩
  · rename_i n
    cases eo : ah[n]? with
    | none => simp [eo] at es
    | some o =>
      cases o <;> simp only [eo, reduceCtorEq, Option.some.injEq] at es
      subst es
      simp only [sqOf, eo, Sq.seq.injEq] at e
      obtain ⟨rfl, rfl⟩ := e
      simp only [RepV] at r
      obtain ⟨hn, rfl⟩ := r
      refine ⟨_, rfl, ⟨fun ι2 ah2 H2 x2 hr2 k => ?_⟩, by simpa using eo⟩
      have k := of_decide_eq_true k
      obtain ⟨vs, h2, r2⟩ := hr2.at_ n _ k
      rw [x2.same n hn] at h2
      exact ⟨vs, SqL.of h2, r2⟩
  · subst es
    simp only [sqOf, Sq.seq.injEq] at e
    obtain ⟨rfl, rfl⟩ := e
    simp only [RepV] at r
    obtain ⟨a, rfl, h⟩ := r
    refine ⟨a, rfl, ⟨fun ι2 ah2 H2 x2 _ _ => ⟨_, ?_, rep_ints _⟩⟩, rfl⟩
    exact h.elim (fun z => .inl (x2.rd z.1 z.2).1) (fun z => scr_sql (K := P.K) (N := ah2.length) (ι := ι2) (.inr z))
def iZipD (g : Env → M (List D)) : Env → M Src := fun env => bnd (g env) fun ds h => match ds with
  | [a, b] => match srcTwo h a b with
    | some (_, s, t) => .ok ⟨zipD s.xs t.xs, fun h => s.ok h && t.ok h⟩ h
    | none => .bad
  | _ => .bad
theorem SqL.det {K : PySem.W.Frag} {H : Hp} {a : Addr} {xs : List V} (f : ∀ ys, SqL K H a ys → ys[0]? = xs[0]?) (h : SqL K H a xs) : True := trivial
theorem it_zipL {N : Nat} {ι : Pl} {H : Hp} {a b : Addr} {s t : Src} (h1 : SeqIs P N ι H true a s) (h2 : SeqIs P N ι H true b t) : ItOk P N ι H ⟨zipD s.xs t.xs, fun h => s.ok h && t.ok h⟩ (Itz P.K.fr a b) where
  go := fun i d ι2 ah2 H2 e x2 hr2 k => by
    rw [Bool.and_eq_true] at k
    obtain ⟨vs, a1, r1⟩ := h1.run ι2 ah2 H2 x2 hr2 k.1
    obtain ⟨ws, a2, r2⟩ := h2.run ι2 ah2 H2 x2 hr2 k.2
    obtain ⟨d1, d2, e1, e2, rfl⟩ := zipD_get e
    obtain ⟨v, f1, p1⟩ := r1.get e1
    obtain ⟨w, f2, p2⟩ := r2.get e2
    refine ⟨⟨vs, ws, v, w, a1, a2, f1, f2⟩, fun x H3 ⟨T, x', y', ex, hT, eH, y1, y2⟩ => ?_⟩
    subst ex eH
    have e3 := y1 vs a1
    have e4 := y2 ws a2
    rw [f1] at e3; rw [f2] at e4
    cases e3; cases e4
    exact ⟨Ext.fresh hr2 hT, hr2.fresh hT, rep_tup hr2.notup hT (by simp only [RepVs]; exact ⟨v, _, rfl, p1, w, _, rfl, p2, rfl⟩)⟩
  stop := fun ι2 ah2 H2 x2 hr2 k => by
    rw [Bool.and_eq_true] at k
    obtain ⟨vs, a1, r1⟩ := h1.run ι2 ah2 H2 x2 hr2 k.1
    obtain ⟨ws, a2, r2⟩ := h2.run ι2 ah2 H2 x2 hr2 k.2
    refine ⟨vs, ws, a1, a2, ?_⟩
    rw [r1.length, r2.length]
    exact zipD_len _ _
theorem it_zipT {N : Nat} {ι : Pl} {H : Hp} {a b : Addr} {s t : Src} (h1 : SeqIs P N ι H false a s) (h2 : SeqIs P N ι H false b t) : ItOk P N ι H ⟨zipD s.xs t.xs, fun h => s.ok h && t.ok h⟩ (RZ.ItzT P.K.fr a b) where
  go := fun i d ι2 ah2 H2 e x2 hr2 k => by
    rw [Bool.and_eq_true] at k
    obtain ⟨vs, a1, r1⟩ := h1.run ι2 ah2 H2 x2 hr2 k.1
    obtain ⟨ws, a2, r2⟩ := h2.run ι2 ah2 H2 x2 hr2 k.2
    obtain ⟨d1, d2, e1, e2, rfl⟩ := zipD_get e
    obtain ⟨v, f1, p1⟩ := r1.get e1
    obtain ⟨w, f2, p2⟩ := r2.get e2
    refine ⟨⟨vs, ws, v, w, a1, a2, f1, f2⟩, fun x H3 ⟨T, x', y', ex, hT, eH, y1, y2⟩ => ?_⟩
    subst ex eH
    have e3 := y1 vs a1
    have e4 := y2 ws a2
    rw [f1] at e3; rw [f2] at e4
    cases e3; cases e4
    exact ⟨Ext.fresh hr2 hT, hr2.fresh hT, rep_tup hr2.notup hT (by simp only [RepVs]; exact ⟨v, _, rfl, p1, w, _, rfl, p2, rfl⟩)⟩
  stop := fun ι2 ah2 H2 x2 hr2 k => by
    rw [Bool.and_eq_true] at k
    obtain ⟨vs, a1, r1⟩ := h1.run ι2 ah2 H2 x2 hr2 k.1
    obtain ⟨ws, a2, r2⟩ := h2.run ι2 ah2 H2 x2 hr2 k.2
    refine ⟨vs, ws, a1, a2, ?_⟩
    rw [r1.length, r2.length]
    exact zipD_len _ _
theorem di_zip {e e2 : Expr} {ga : Env → M (List D)} {p pos tpos : Pos} {elts : List Expr} {kk : Nat} (c : Ctx X P W) (hg : Gl X "zip") (hm : X.mg "zip" = none) (ha : DA X P W [e, e2] ga)
    (hs : starEach [e, e2] X.env = (false, eval e X.env) :: starEach [e2] X.env := by rfl) (hpl : (backTo pos (starEach [e2] X.env)).any (·.1) = false := by rfl) :
    DI X P W (.Tuple elts kk tpos) (.Call (.Name "zip" p) [e, e2] [] pos) (iZipD ga) := by
  obtain ⟨⟨K0, lm0, lq0⟩, cl0, tb0⟩ := P
  obtain rfl : K0 = X.K := c.k
  exact weakI (RZ.pi_zipA hg hm ha hs hpl) fun σ H Rr ⟨ι, ah, env, st, q⟩ => ⟨ι, ah, env, st, (q.step (Rp := rVs _)).imp fun vs H1 ⟨ι1, ah1, ds, x1, hr1, r1, q1⟩ => by
    match ds, r1, q1 with
    | [], _, q1 => exact q1.elim
    | [_], _, q1 => exact q1.elim
    | _ :: _ :: _ :: _, _, q1 => exact q1.elim
    | [d1, d2], r1, q1 =>
      simp only [rVs, RepVs] at r1
      obtain ⟨v, r, rfl, p1, w, r', rfl, p2, rfl⟩ := r1
      dsimp only at q1
      cases es : srcTwo ah1 d1 d2 with
      | none => rw [es] at q1; exact q1.elim
      | some z =>
        obtain ⟨k, s, t⟩ := z
        rw [es] at q1
        unfold srcTwo at es
        split at es
        · rename_i a1 a2 a3 a4
          cases es
          obtain ⟨a, rfl, s1, ok1⟩ := seq_is hr1 p1 a1 a3
          obtain ⟨b, rfl, s2, ok2⟩ := seq_is hr1 p2 a2 a4
          obtain ⟨vs, v1, _⟩ := s1.run ι1 ah1 H1 Ext.refl hr1 ok1
          obtain ⟨ws, v2, _⟩ := s2.run ι1 ah1 H1 Ext.refl hr1 ok2
          exact ⟨a, b, vs, ws, rfl, .inl ⟨v1, v2, q1 ι1 H1 _ Ext.refl hr1 (it_zipL s1 s2)⟩⟩
        · rename_i a1 a2 a3 a4
          cases es
          obtain ⟨a, rfl, s1, ok1⟩ := seq_is hr1 p1 a1 a3
          obtain ⟨b, rfl, s2, ok2⟩ := seq_is hr1 p2 a2 a4
          obtain ⟨vs, v1, _⟩ := s1.run ι1 ah1 H1 Ext.refl hr1 ok1
          obtain ⟨ws, v2, _⟩ := s2.run ι1 ah1 H1 Ext.refl hr1 ok2
          exact ⟨a, b, vs, ws, rfl, .inr ⟨v1, v2, q1 ι1 H1 _ Ext.refl hr1 (it_zipT s1 s2)⟩⟩
        · cases es⟩
def enumD : Nat → List D → List D
  | _, [] => []
  | n, a :: r => .tup [.int n, a] :: enumD (n + 1) r
theorem enumD_get : ∀ {xs : List D} {n i : Nat} {d : D}, (enumD n xs)[i]? = some d → ∃ a, xs[i]? = some a ∧ d = .tup [.int (n + i : Nat), a]
  | [], _, _, _, e => by simp [enumD] at e
  | a :: r, n, 0, d, e => by simp [enumD] at e; exact ⟨a, rfl, e.symm⟩
  | a :: r, n, i + 1, d, e => by
    simp only [enumD, List.getElem?_cons_succ] at e ⊢
    obtain ⟨b, h1, h2⟩ := enumD_get e
    exact ⟨b, h1, by rw [h2]; simp only [Nat.add_assoc, Nat.add_comm 1 i]⟩
theorem enumD_len : ∀ (xs : List D) (n : Nat), (enumD n xs).length = xs.length
  | [], _ => rfl
  | a :: r, n => by simp only [enumD, List.length_cons, enumD_len r]
def iEnumD (g : Env → M (List D)) : Env → M Src := fun env => bnd (g env) fun ds h => match ds with
  | [a] => match sqOf h a, srcSeq h a with
    | .seq true _, some s => .ok ⟨enumD 0 s.xs, s.ok⟩ h
    | _, _ => .bad
  | _ => .bad
theorem it_enum {N : Nat} {ι : Pl} {H : Hp} {a : Addr} {s : Src} (h1 : SeqIs P N ι H true a s) : ItOk P N ι H ⟨enumD 0 s.xs, s.ok⟩ (Ite P.K.fr a) where
  go := fun i d ι2 ah2 H2 e x2 hr2 k => by
    obtain ⟨vs, a1, r1⟩ := h1.run ι2 ah2 H2 x2 hr2 k
    obtain ⟨d1, e1, rfl⟩ := enumD_get e
    obtain ⟨v, f1, p1⟩ := r1.get e1
    refine ⟨⟨vs, v, a1, f1⟩, fun x H3 ⟨T, x', ex, hT, eH, y1⟩ => ?_⟩
    subst ex eH
    have e3 := y1 vs a1
    rw [f1] at e3
    cases e3
    exact ⟨Ext.fresh hr2 hT, hr2.fresh hT, rep_tup hr2.notup hT (by simp only [RepVs, RepV]; exact ⟨_, _, rfl, by rw [Nat.zero_add], v, _, rfl, p1, rfl⟩)⟩
  stop := fun ι2 ah2 H2 x2 hr2 k => by
    obtain ⟨vs, a1, r1⟩ := h1.run ι2 ah2 H2 x2 hr2 k
    refine ⟨vs, a1, ?_⟩
    rw [r1.length, enumD_len]
    exact Nat.le_refl _
theorem di_enum {e : Expr} {ga : Env → M (List D)} {p pos tpos : Pos} {elts : List Expr} {kk : Nat} (c : Ctx X P W) (hg : Gl X "enumerate") (hm : X.mg "enumerate" = none) (ha : DA X P W [e] ga)
    (hs : starEach [e] X.env = [(false, eval e X.env)] := by rfl) : DI X P W (.Tuple elts kk tpos) (.Call (.Name "enumerate" p) [e] [] pos) (iEnumD ga) := by
  obtain ⟨⟨K0, lm0, lq0⟩, cl0, tb0⟩ := P
  obtain rfl : K0 = X.K := c.k
  exact weakI (pi_enum hg hm ha hs) fun σ H Rr ⟨ι, ah, env, st, q⟩ => ⟨ι, ah, env, st, (q.step (Rp := rVs _)).imp fun vs H1 ⟨ι1, ah1, ds, x1, hr1, r1, q1⟩ => by
    match ds, r1, q1 with
    | [], _, q1 => exact q1.elim
    | _ :: _ :: _, _, q1 => exact q1.elim
    | [d1], r1, q1 =>
      simp only [rVs, RepVs] at r1
      obtain ⟨v, r, rfl, p1, rfl⟩ := r1
      dsimp only at q1
      split at q1
      · rename_i a1 a2
        obtain ⟨a, rfl, s1, ok1⟩ := seq_is hr1 p1 a1 a2
        obtain ⟨vs, v1, _⟩ := s1.run ι1 ah1 H1 Ext.refl hr1 ok1
        exact ⟨a, vs, rfl, v1, q1 ι1 H1 _ Ext.refl hr1 (it_enum s1)⟩
      · exact q1.elim⟩

/-! ### for -/
def forGo (pat : Pat) (ok : AH → Bool) (b : Env → M Fl) : List D → Env → M Fl
  | [], env => fun h => if ok h then .ok (.nx env) h else .bad
  | x :: xs, env => fun h => if ok h then match pat.put x env with
    | some env1 => bnd (b env1) (fun r => match r with
      | .nx env' => forGo pat ok b xs env'
      | .ct env' => forGo pat ok b xs env'
      | .bk env' => ret (.nx env')
      | .rt d => ret (.rt d)) h
    | none => .bad else .bad
def sFor (pat : Pat) (it : Env → M Src) (b : Env → M Fl) : Env → M Fl := fun env => bnd (it env) fun src => forGo pat src.ok b src.xs env
theorem ds_for {tgt it : Expr} {body : List Stmt} {pos : Pos} {pat : Pat} {f : Env → M Src} {fb : Env → M Fl} (c : Ctx X P W) (hp : PassesOwn (model X.prog X.w) X.A X.env X.xe) (hi : DI X P W tgt it f) (hg : PG X tgt (gP P pat)) (hb : DSs X P W body fb)
    (hs : ∀ x, foldedSetIterable it X.env x = pure x := by intro _; rfl) : DS X P W (.For tgt it body [] pos) (sFor pat f fb) :=
  weakS (ps_for hp c.calm hi hg hb hs) fun E σ H ⟨ι, ah, env, st, q⟩ => ⟨ι, ah, env, st, (q.stepE (Rp := fun N ι H src J => ItOk P N ι H src J)).imp fun J H1 ⟨ι1, ah1, src, x1, hr1, io, q1⟩ => by
    refine ⟨fun i m σ H => m = src.xs.length - i ∧ i ≤ src.xs.length ∧ ∃ ι2 ah2 env2, Ext ah1.length ι1 H1 ah2.length ι2 H ∧ Sta P ι2 ah2 env2 σ H ∧ EndS P W σ ι2 ah2.length H (forGo pat src.ok fb (src.xs.drop i) env2 ah2) E, ⟨_, rfl, Nat.zero_le _, ι1, ah1, env, Ext.refl, st.next x1 hr1, q1⟩, ?_⟩
    rintro i m σ2 H2 ⟨rfl, hi, ι2, ah2, env2, x2, st2, q2⟩
    by_cases hlt : i < src.xs.length
    · have ed : src.xs.drop i = src.xs[i] :: src.xs.drop (i + 1) := List.drop_eq_getElem_cons hlt
      rw [ed] at q2
      simp only [forGo] at q2
      split at q2
      · rename_i hok
        obtain ⟨hgo, hy⟩ := io.go i _ ι2 ah2 H2 (List.getElem?_eq_getElem hlt) x2 st2.hp hok
        refine .inr ⟨hgo, fun σ' H' => ∃ ι3 ah3 env3, Ext ah1.length ι1 H1 ah3.length ι3 H' ∧ Sta P ι3 ah3 env3 σ' H' ∧ EndS P W σ' ι3 ah3.length H' (forGo pat src.ok fb (src.xs.drop (i + 1)) env3 ah3) E, fun σ' H' z => ⟨_, by omega, rfl, hlt, z⟩, fun v H3 y => ?_⟩
        obtain ⟨x3, hr3, rv⟩ := hy v H3 y
        cases ep : pat.put src.xs[i] env2 with
        | none => rw [ep] at q2; exact q2.elim
        | some env3 =>
          rw [ep] at q2
          refine ⟨ι2, ah2, env2, _, env3, st2.next x3 hr3, rv, ep, fun σ3 _ st3 => ⟨ι2, ah2, env3, st3, ?_⟩⟩
          have q3 : EndS P W σ3 ι2 ah2.length H3 (bnd (fb env3) _ ah2) E := EndS.later x3 q2
          have x3' := x2.trans x3
          unfold bnd at q3
          cases e4 : fb env3 ah2 with
          | bad => rw [e4] at q3; exact q3
          | ex c ah4 => rw [e4] at q3; exact q3
          | ok r ah4 =>
            rw [e4] at q3
            cases r with
            | nx env4 => exact fun ι4 σ4 H4 x4 st4 => ⟨ι4, ah4, env4, x3'.trans x4, st4, EndS.later x4 q3⟩
            | ct env4 => exact fun ι4 σ4 H4 x4 st4 => ⟨ι4, ah4, env4, x3'.trans x4, st4, EndS.later x4 q3⟩
            | bk env4 => exact q3
            | rt d => exact q3
      · exact q2.elim
    · have e : i = src.xs.length := by omega
      subst e
      rw [List.drop_length] at q2
      simp only [forGo] at q2
      split at q2
      · rename_i hok
        exact .inl ⟨io.stop ι2 ah2 H2 x2 st2.hp hok, q2 ι2 σ2 H2 Ext.refl st2⟩
      · exact q2.elim⟩
end
end PyD

/-! PyComp: list comprehensions. -/
namespace PyD
open PySem PySem.Spec L2
open PyProof.Rows hiding St

/-- no exception may come out -/
def noEx {α : Type} (m : M α) : M α := fun h => match m h with
  | .ok a h' => .ok a h'
  | _ => .bad
abbrev W0 : WXT := fun _ _ _ _ => False
section
variable {P : Pm} {W : WXT}
theorem Fin.stepN {α β γ δ : Type} {Rp : Nat → Pl → Hp → α → β → Prop} {Rq : Nat → Pl → Hp → γ → δ → Prop} {σ σ' : L2.St} {W' : WXT} {ι : Pl} {ah : AH} {H : Hp} {m : M α} {k : α → M γ} {Q : δ → Hp → Prop}
    (h : Fin Rq P W σ ι ah.length H (bnd (noEx m) k ah) Q) :
    Fin Rp P W' σ' ι ah.length H (m ah) (fun v H1 => ∃ ι1 ah1 d, Ext ah.length ι H ah1.length ι1 H1 ∧ HRep P ι1 ah1 H1 ∧ Rp ah1.length ι1 H1 d v ∧ Fin Rq P W σ ι1 ah1.length H1 (k d ah1) Q) := by
  unfold bnd noEx at h
  cases e : m ah with
  | ok d ah1 =>
    rw [e] at h
    exact fun ι1 H1 v x r p => ⟨ι1, ah1, d, x, r, p, Fin.later x h⟩
  | ex c ah1 => rw [e] at h; exact h.elim
  | bad => rw [e] at h; exact h
/-- the same, the rest told from an earlier start -/
theorem Fin.stepB {α β γ δ : Type} {Rp : Nat → Pl → Hp → α → β → Prop} {Rq : Nat → Pl → Hp → γ → δ → Prop} {σ σ' : L2.St} {W' : WXT} {ι0 ι : Pl} {N0 : Nat} {ah : AH} {H0 H : Hp} {m : M α} {k : α → M γ} {Q : δ → Hp → Prop}
    (h : Fin Rq P W σ ι0 N0 H0 (bnd (noEx m) k ah) Q) :
    Fin Rp P W' σ' ι ah.length H (m ah) (fun v H1 => ∃ ι1 ah1 d, Ext ah.length ι H ah1.length ι1 H1 ∧ HRep P ι1 ah1 H1 ∧ Rp ah1.length ι1 H1 d v ∧ Fin Rq P W σ ι0 N0 H0 (k d ah1) Q) := by
  unfold bnd noEx at h
  cases e : m ah with
  | ok d ah1 =>
    rw [e] at h
    exact fun ι1 H1 v x r p => ⟨ι1, ah1, d, x, r, p, h⟩
  | ex c ah1 => rw [e] at h; exact h.elim
  | bad => rw [e] at h; exact h
theorem bnd_assoc {α β γ : Type} (m : M α) (f : α → M β) (g : β → M γ) : bnd (bnd m f) g = bnd m fun x => bnd (f x) g := by
  funext h
  unfold bnd
  cases m h <;> rfl
theorem bnd_congr {α β : Type} {m m' : M α} {k : α → M β} {h : AH} (e : m h = m' h) : bnd m k h = bnd m' k h := by
  unfold bnd
  rw [e]
theorem bnd_ret {α β : Type} (a : α) (k : α → M β) : bnd (ret a) k = k a := rfl
/-- slots emptied -/
def wipeE : Env → List Nat → Env
  | env, [] => env
  | env, v :: vs => (wipeE env vs).set v none
theorem wipeE_length (env : Env) : ∀ vs, (wipeE env vs).length = env.length
  | [] => rfl
  | v :: vs => by unfold wipeE; rw [List.length_set, wipeE_length env vs]
theorem EnvRep.none {N : Nat} {ι : Pl} {H : Hp} {env : Env} {σ : L2.St} (h : EnvRep P N ι H env σ) (i : Nat) : EnvRep P N ι H (env.set i none) (σ.set i none) := by
  refine ⟨by rw [List.length_set, List.length_set]; exact h.1, fun j d' q => ?_⟩
  by_cases e : i = j
  · subst e
    by_cases hl : i < env.length
    · rw [List.getElem?_set_self hl] at q; cases q
    · rw [List.getElem?_eq_none (by simpa using hl)] at q; cases q
  · rw [List.getElem?_set_ne e] at q ⊢
    exact h.2 j d' q
theorem EnvRep.wipe {N : Nat} {ι : Pl} {H : Hp} {env : Env} {σ : L2.St} (h : EnvRep P N ι H env σ) : ∀ vs, EnvRep P N ι H (wipeE env vs) (L2.wipe σ vs)
  | [] => h
  | v :: vs => (h.wipe vs).none v
theorem wipe_idem (σ : L2.St) (own : List Nat) : L2.wipe (L2.wipe σ own) own = L2.wipe σ own := by
  refine List.ext_getElem? fun i => ?_
  rw [wipe_get, wipe_get, wipe_length]
  by_cases hm : i ∈ own
  · rw [if_pos hm, if_pos hm]
  · rw [if_neg hm]
/-! ### a list that is being made -/
def Pl.hide (ι : Pl) (a : Addr) : Pl := ⟨ι.at_, fun b => ι.hid b ∨ b = a⟩
def Pl.show (ι : Pl) (ι0 : Pl) (a : Addr) : Pl := ⟨ι.at_, fun b => ι.hid b ∧ b ≠ a⟩
theorem Ext.hide {ι : Pl} {ah : AH} {H : Hp} {p : Addr} {o : HO} (h : HRep P ι ah H) (hp : H p = .none) : Ext ah.length ι H ah.length (ι.hide p) (upd H p o) where
  le := Nat.le_refl _
  same := fun _ _ => rfl
  keep := fun a u h _ _ => by rw [upd_ne (ne_of_none h hp)]; exact h
  there := fun a u h t => ⟨u, by rw [upd_ne (ne_of_none h hp)]; exact h, t⟩
  new := fun n h1 h2 => absurd h2 (Nat.not_lt.mpr h1)
  hnew := fun a z => z.elim .inl fun e => .inr (by rw [e]; exact .of hp)
  hid := fun a ha => ⟨.inl ha, upd_ne (h.hne hp a ha)⟩
theorem HRep.hide {ι : Pl} {ah : AH} {H : Hp} {p : Addr} {vs : List V} (h : HRep P ι ah H) (hp : H p = .none) : HRep P (ι.hide p) ah (upd H p (.lst vs)) where
  inj := h.inj
  at_ := fun n o q => (h.at_ n o q).mono (Ext.hide h hp).toEx0 h.notup (upd_ne (h.ne hp n (List.getElem?_eq_some_iff.mp q).1))
  hd := fun a ha => by
    rcases ha with ha | rfl
    · exact ⟨by rw [upd_ne (h.hne hp a ha)]; exact (h.hd a ha).1, (h.hd a ha).2⟩
    · exact ⟨⟨_, upd_same, True.intro⟩, h.ne hp⟩
  tab := fun p hp' => (h.tab p hp').keep h (Ext.hide h hp).toEx0 fun a ps e => by rw [upd_ne (ne_of_none e hp)]; exact e
/-- the list that is being made is written -/
theorem Ex0.put {N : Nat} {ι : Pl} {H : Hp} {p : Addr} {o : HO} (hp : ι.hid p) (ho : NTb o := by intro _ h; cases h) : Ex0 N ι H N ι (upd H p o) where
  le := Nat.le_refl _
  same := fun _ _ => rfl
  keep := fun a u h _ hout => by rw [upd_ne (fun z => hout.2 (by rw [z]; exact hp))]; exact h
  there := fun a u h t => by
    by_cases q : a = p
    · exact ⟨o, by rw [q, upd_same], ho⟩
    · exact ⟨u, by rw [upd_ne q]; exact h, t⟩
  new := fun n h1 h2 => absurd h2 (Nat.not_lt.mpr h1)
  hnew := fun _ => .inl
theorem Ext.put {N0 : Nat} {ι0 : Pl} {H0 : Hp} {N : Nat} {ι : Pl} {H : Hp} {p : Addr} {o : HO} (x : Ext N0 ι0 H0 N ι H) (hp : ι.hid p) (h0 : ¬ ι0.hid p) (ho : NTb o := by intro _ h; cases h) : Ext N0 ι0 H0 N ι (upd H p o) :=
  ⟨x.toEx0.trans (Ex0.put hp ho), fun a ha => ⟨(x.hid a ha).1, by rw [upd_ne (fun z => h0 (by rw [← z]; exact ha))]; exact (x.hid a ha).2⟩⟩
theorem HRep.put {ι : Pl} {ah : AH} {H : Hp} {p : Addr} {vs : List V} (h : HRep P ι ah H) (hp : ι.hid p) : HRep P ι ah (upd H p (.lst vs)) :=
  h.ext (Ex0.put hp) (fun n hn => upd_ne ((h.hd p hp).2 n hn)) (fun a ha => by
    by_cases q : a = p
    · subst q; exact .inr ⟨_, upd_same, True.intro⟩
    · exact .inl (upd_ne q)) fun a ps e => by rw [upd_ne (fun z => (h.out e (fun z => z)).2 (by rw [z]; exact hp))]; exact e
/-- it is made -/
def Pl.bare (ι : Pl) (a : Addr) : Pl := ⟨ι.at_, fun b => ι.hid b ∧ b ≠ a⟩
theorem Ex0.bare {N : Nat} {ι : Pl} {H : Hp} {p : Addr} : Ex0 N ι H N (ι.bare p) H where
  le := Nat.le_refl _
  same := fun _ _ => rfl
  keep := fun a u h _ _ => h
  there := fun a u h t => ⟨u, h, t⟩
  new := fun n h1 h2 => absurd h2 (Nat.not_lt.mpr h1)
  hnew := fun a z => .inl z.1
theorem Ext.bare {N0 : Nat} {ι0 : Pl} {H0 : Hp} {N : Nat} {ι : Pl} {H : Hp} {p : Addr} (x : Ext N0 ι0 H0 N ι H) (h0 : ¬ ι0.hid p) : Ext N0 ι0 H0 N (ι.bare p) H :=
  ⟨x.toEx0.trans Ex0.bare, fun a ha => ⟨⟨(x.hid a ha).1, fun z => h0 (by rw [← z]; exact ha)⟩, (x.hid a ha).2⟩⟩
theorem HRep.bare {ι : Pl} {ah : AH} {H : Hp} {p : Addr} (h : HRep P ι ah H) : HRep P (ι.bare p) ah H where
  inj := h.inj
  at_ := fun n o q => (h.at_ n o q).mono Ex0.bare h.notup rfl
  hd := fun a ha => h.hd a ha.1
  tab := h.tab

/-! ### the loop -/
def lcGo (pat : Pat) (gi : Env → M Bool) (ge : Env → M D) (ok : AH → Bool) (env : Env) : List D → M (List D)
  | [] => fun h => if ok h then .ok [] h else .bad
  | x :: xs => fun h => if ok h then match pat.put x env with
    | some env1 => bnd (noEx (gi env1)) (fun b => if b then bnd (noEx (ge env1)) (fun y => bnd (lcGo pat gi ge ok env xs) fun ys => ret (y :: ys)) else lcGo pat gi ge ok env xs) h
    | none => .bad else .bad
def eLcS (own : List Nat) (pat : Pat) (it : Env → M Src) (gi : Env → M Bool) (ge : Env → M D) : Env → M (List D) := fun env => bnd (it env) fun src h => if src.xs.length ≤ sizeLine then lcGo pat gi ge src.ok (wipeE env own) src.xs h else .bad
/-- [elt for target in iter if test], never changed -/
def eLc (own : List Nat) (pat : Pat) (it : Env → M Src) (gi : Env → M Bool) (ge : Env → M D) : Env → M D := fun env => bnd (eLcS own pat it gi ge env) fun ys => ret (.lst ys)
def bYes : Env → M Bool := fun _ => ret true
variable {X : Cx}
abbrev DTs (X : Cx) (P : Pm) (W : WXT) (ifs : List Expr) (f : Env → M Bool) : Prop := PTs X ifs (tDB P W f)
theorem dts_nil : DTs X P W [] bYes := ⟨fun pins s σ H Q I ⟨ι, ah, env, st, q⟩ => pts_nil.run pins s σ H Q I (q ι H true Ext.refl st.hp rfl)⟩
theorem dts_one {c : Expr} {f : Env → M Bool} (h : DT X P W c f) : DTs X P W [c] f := pts_one h
theorem Ctx.blk (c : Ctx X P W) (s : Shared) (H : Hp) (scope : Scope) (env : PySem.Env) (fp : List Addr) : Ctx (X.blk s H scope env fp) P W0 := ⟨c.k, c.calm, c.nd, c.un, fun _ _ x => by
  obtain ⟨_, _, _, _, _, _, _, _, _, _, _, _, _, _, _, _, z⟩ := x
  exact z.elim⟩
/-- what the block's judgements are asked for -/
theorem lc_sound {own : List Nat} {pat : Pat} {f : Env → M Src} {gi : Env → M Bool} {ge : Env → M D} {σ : L2.St} {H : Hp} {Q : VK} (hown : ∀ i ∈ pat.slots, i ∈ own)
    (h : tD P W (eLc own pat f gi ge) σ H Q) : tLc (tDI P W f) (gP P pat) (tDB P W0 gi) (tD P W0 ge) own σ H Q := by
  obtain ⟨ι, ah, env, st, q⟩ := h
  unfold eLc eLcS at q
  rw [bnd_assoc] at q
  refine ⟨ι, ah, env, st, (q.step (Rp := fun N ι H src J => ItOk P N ι H src J)).imp fun J H1 ⟨ι1, ah1, src, x1, hr1, io, q1⟩ D hD => ?_⟩
  by_cases hz : src.xs.length ≤ sizeLine
  case neg =>
    unfold bnd at q1
    dsimp only at q1
    rw [if_neg hz] at q1
    exact q1.elim
  have h0 : ¬ ι1.hid D := fun z => hr1.hne hD D z rfl
  have q1 : Fin (rV P) P W σ ι1 ah1.length H1 (bnd (lcGo pat gi ge src.ok (wipeE env own) src.xs) (fun ys => ret (.lst ([] ++ ys))) ah1) Q := by
    unfold bnd at q1 ⊢
    dsimp only at q1
    rw [if_pos hz] at q1
    exact q1
  refine ⟨fun i m H2 => m = src.xs.length - i ∧ i ≤ src.xs.length ∧ ∃ ι2 ah2 acc vs, Ext ah1.length ι1 H1 ah2.length ι2 H2 ∧ HRep P ι2 ah2 H2 ∧ ι2.hid D ∧ H2 D = some (.lst vs) ∧ vs.length ≤ i ∧ RepVs P.K ah2.length ι2 H2 acc vs ∧
      Fin (rV P) P W σ ι1 ah1.length H1 (bnd (lcGo pat gi ge src.ok (wipeE env own) (src.xs.drop i)) (fun ys => ret (.lst (acc ++ ys))) ah2) Q,
    ⟨_, rfl, Nat.zero_le _, ι1.hide D, ah1, [], [], Ext.hide hr1 hD, hr1.hide hD, .inr rfl, upd_same, Nat.le_refl _, by simp only [RepVs], q1⟩, ?_⟩
  rintro i m H2 ⟨rfl, hi, ι2, ah2, acc, vs, x2, hr2, hh, hl, hlen, ra, q2⟩
  have st2 : Sta P ι2 ah2 env σ H2 := (st.next x1 hr1).next x2 hr2
  have stw : Sta P ι2 ah2 (wipeE env own) (L2.wipe σ own) H2 := ⟨hr2, st2.env.wipe own⟩
  by_cases hlt : i < src.xs.length
  · have ed : src.xs.drop i = src.xs[i] :: src.xs.drop (i + 1) := List.drop_eq_getElem_cons hlt
    rw [ed] at q2
    by_cases hok : src.ok ah2 = true
    case neg => simp only [lcGo, bnd] at q2; rw [if_neg hok] at q2; exact q2.elim
    obtain ⟨hgo, hy⟩ := io.go i _ ι2 ah2 H2 (List.getElem?_eq_getElem hlt) x2 hr2 hok
    refine .inr ⟨hgo, fun H' => i + 1 ≤ src.xs.length ∧ ∃ ι3 ah3 acc vs, Ext ah1.length ι1 H1 ah3.length ι3 H' ∧ HRep P ι3 ah3 H' ∧ ι3.hid D ∧ H' D = some (.lst vs) ∧ vs.length ≤ i + 1 ∧ RepVs P.K ah3.length ι3 H' acc vs ∧
      Fin (rV P) P W σ ι1 ah1.length H1 (bnd (lcGo pat gi ge src.ok (wipeE env own) (src.xs.drop (i + 1))) (fun ys => ret (.lst (acc ++ ys))) ah3) Q, fun H' z => ⟨_, by omega, rfl, z⟩, fun v H3 y => ?_⟩
    obtain ⟨x3, hr3, rv⟩ := hy v H3 y
    cases ep : pat.put src.xs[i] (wipeE env own) with
    | none => simp only [lcGo, bnd] at q2; rw [if_pos hok, ep] at q2; exact q2.elim
    | some env3 =>
      have q3 : Fin (rV P) P W σ ι1 ah1.length H1 (bnd (noEx (gi env3)) (fun b => if b then bnd (noEx (ge env3)) (fun y => bnd (lcGo pat gi ge src.ok (wipeE env own) (src.xs.drop (i + 1))) fun ys => ret (.lst ((acc ++ [y]) ++ ys))) else bnd (lcGo pat gi ge src.ok (wipeE env own) (src.xs.drop (i + 1))) fun ys => ret (.lst (acc ++ ys))) ah2) Q := by
        refine Eq.mp (congrArg (fun r => Fin (rV P) P W σ ι1 ah1.length H1 r Q) ?_) q2
        rw [bnd_congr (m' := bnd (noEx (gi env3)) (fun b => if b then bnd (noEx (ge env3)) (fun y => bnd (lcGo pat gi ge src.ok (wipeE env own) (src.xs.drop (i + 1))) fun ys => ret (y :: ys)) else lcGo pat gi ge src.ok (wipeE env own) (src.xs.drop (i + 1)))) (by simp only [lcGo]; rw [if_pos hok, ep]), bnd_assoc]
        refine congrArg (fun F => bnd (noEx (gi env3)) F ah2) (funext fun b => ?_)
        cases b with
        | false => rfl
        | true =>
          simp only [if_true]
          rw [bnd_assoc]
          refine congrArg (fun F => bnd (noEx (ge env3)) F) (funext fun y => ?_)
          rw [bnd_assoc]
          refine congrArg (fun F => bnd _ F) (funext fun ys => ?_)
          rw [bnd_ret, List.append_assoc, List.singleton_append]
      refine ⟨ι2, ah2, wipeE env own, _, env3, ⟨hr3, (stw.next x3 hr3).env⟩, rv, ep, fun σ3 sb st3 => ⟨?_, ι2, ah2, env3, st3, ?_⟩⟩
      · have := sb.wipe hown
        rw [this, wipe_idem]
      have x13 := x2.trans x3
      have hh3 : H3 D = some (.lst vs) := by rw [(x3.hid D hh).2]; exact hl
      have ra3 := ra.mono x3.toEx0 hr2.notup
      refine (q3.stepB (Rp := rB)).imp fun b H4 ⟨ι4, ah4, b', x4, hr4, eb, q4⟩ => ?_
      cases eb
      have hh4 := (x4.hid D hh).1
      have hl4 : H4 D = some (.lst vs) := by rw [(x4.hid D hh).2]; exact hh3
      have ra4 := ra3.mono x4.toEx0 hr3.notup
      have x14 := x13.trans x4
      cases b with
      | false =>
        rw [if_neg Bool.false_ne_true] at q4 ⊢
        exact ⟨hlt, ι4, ah4, acc, vs, x14, hr4, hh4, hl4, by omega, ra4, q4⟩
      | true =>
        rw [if_pos rfl] at q4 ⊢
        refine ⟨ι4, ah4, env3, st3.next x4 hr4, (q4.stepB (Rp := rV P)).imp fun z H5 ⟨ι5, ah5, d5, x5, hr5, p5, q5⟩ => ?_⟩
        have hh5 := (x5.hid D hh4).1
        have hl5 : H5 D = some (.lst vs) := by rw [(x5.hid D hh4).2]; exact hl4
        have ra5 := ra4.mono x5.toEx0 hr4.notup
        refine ⟨vs, hl5, by omega, hlt, ι5, ah5, acc ++ [d5], vs ++ [z], (x14.trans x5).put hh5 h0, hr5.put hh5, hh5, upd_same, by simp; omega, ?_, q5⟩
        exact (ra5.append (RepVs.one p5)).mono (Ex0.put hh5) hr5.notup
  · have e : i = src.xs.length := by omega
    subst e
    rw [List.drop_length] at q2
    by_cases hok : src.ok ah2 = true
    case neg => simp only [lcGo, bnd] at q2; rw [if_neg hok] at q2; exact q2.elim
    refine .inl ⟨io.stop ι2 ah2 H2 x2 hr2 hok, ?_⟩
    have q3 : Fin (rV P) P W σ ι1 ah1.length H1 (.ok (.lst acc) ah2) Q := by
      refine Eq.mp (congrArg (fun r => Fin (rV P) P W σ ι1 ah1.length H1 r Q) ?_) q2
      unfold bnd
      simp only [lcGo]
      rw [if_pos hok]
      simp only [ret, List.append_nil]
    refine q3 (ι2.bare D) H2 _ (x2.bare h0) hr2.bare ?_
    simp only [rV, RepV]
    exact ⟨D, vs, rfl, hl, ⟨(hr2.hd D hh).2, fun z => z.2 rfl⟩, ra.mono Ex0.bare hr2.notup⟩
variable {elt tgt iter : Expr} {ifs : List Expr} {scope : Scope} {own : List (Str × Nat)} {pos spos py : Pos} {f : Env → M Src} {gi : Env → M Bool} {ge : Env → M D} {pat : Pat}
theorem de_lc (c : Ctx X P W) (hi : DI X P W tgt iter f) (ok : BlkOk X.N X.env.scope scope own) (hown : ∀ i ∈ pat.slots, i ∈ own.map (·.2))
    (hg : ∀ (s : Shared) (H : Hp) (C : Addr) (cl : List (Str × Addr)) (fp : List Addr), Ctx (X.blk s H scope (compEnvC scope cl C X.env) fp) P W0 → PG (X.blk s H scope (compEnvC scope cl C X.env) fp) tgt (gP P pat))
    (ht : ∀ (s : Shared) (H : Hp) (C : Addr) (cl : List (Str × Addr)) (fp : List Addr), Ctx (X.blk s H scope (compEnvC scope cl C X.env) fp) P W0 → DTs (X.blk s H scope (compEnvC scope cl C X.env) fp) P W0 ifs gi)
    (he : ∀ (s : Shared) (H : Hp) (C : Addr) (cl : List (Str × Addr)) (fp : List Addr), Ctx (X.blk s H scope (compEnvC scope cl C X.env) fp) P W0 → DE (X.blk s H scope (compEnvC scope cl C X.env) fp) P W0 elt ge)
    (hs : ∀ x, foldedSetIterable iter X.env x = pure x := by intro _; rfl) :
    DE X P W (.ListComp elt [⟨tgt, iter, ifs, 0⟩] scope pos) (eLc (own.map (·.2)) pat f gi ge) :=
  weakE (pe_lc c.calm c.nd hi ok (fun s H C cl fp => hg s H C cl fp (c.blk ..)) (fun s H C cl fp => ht s H C cl fp (c.blk ..)) (fun s H C cl fp => he s H C cl fp (c.blk ..)) hs) fun σ H Q h => lc_sound hown h
theorem ds_setLc {i : Nat} {y : Str} (c : Ctx X P W) (hy : X.N[i]? = some y) (hyl : X.env.scope.names.lookup y = some .local)
    (hsw : swapsWith (.ListComp elt [⟨tgt, iter, ifs, 0⟩] scope pos) (some (.Name y py)) spos.line X.env = pure true) (hi : DI X P W tgt iter f) (ok : BlkOk X.N X.env.scope scope own) (hown : ∀ i ∈ pat.slots, i ∈ own.map (·.2))
    (hg : ∀ (s : Shared) (H : Hp) (C : Addr) (cl : List (Str × Addr)) (fp : List Addr), Ctx (X.blk s H scope (compEnvC scope cl C X.env) fp) P W0 → PG (X.blk s H scope (compEnvC scope cl C X.env) fp) tgt (gP P pat))
    (ht : ∀ (s : Shared) (H : Hp) (C : Addr) (cl : List (Str × Addr)) (fp : List Addr), Ctx (X.blk s H scope (compEnvC scope cl C X.env) fp) P W0 → DTs (X.blk s H scope (compEnvC scope cl C X.env) fp) P W0 ifs gi)
    (he : ∀ (s : Shared) (H : Hp) (C : Addr) (cl : List (Str × Addr)) (fp : List Addr), Ctx (X.blk s H scope (compEnvC scope cl C X.env) fp) P W0 → DE (X.blk s H scope (compEnvC scope cl C X.env) fp) P W0 elt ge)
    (hs : ∀ x, foldedSetIterable iter X.env x = pure x := by intro _; rfl) :
    DS X P W (.Assign [.Name y py] (.ListComp elt [⟨tgt, iter, ifs, 0⟩] scope pos) spos) (sAsg (.nm i) (eLc (own.map (·.2)) pat f gi ge)) :=
  weakS (ps_setLc c.calm c.nd hy hyl hsw hi ok (fun s H C cl fp => hg s H C cl fp (c.blk ..)) (fun s H C cl fp => ht s H C cl fp (c.blk ..)) (fun s H C cl fp => he s H C cl fp (c.blk ..)) hs) fun E σ H ⟨ι, ah, env, st, q⟩ =>
    lc_sound hown ⟨ι, ah, env, st, (q.stepE (Rp := rV P)).imp fun v H1 ⟨ι1, ah1, d, x1, hr, p, q1⟩ => q1 ι1 _ H1 Ext.refl ⟨hr, (st.next x1 hr).env.set p i⟩⟩
end
end PyD

/-! PyHeap: subscripts, slices, stores, attributes. -/
namespace PyD
open PySem PySem.Spec L2
open PyProof.Rows hiding St

section
variable {X : Cx} {P : Pm} {W : WXT} {e a b : Expr} {fa fb fc : Env → M D} {pos : Pos}
theorem RepVs.at_ {K : KL} {N : Nat} {ι : Pl} {H : Hp} {ds : List D} {vs : List V} {i : Int} {d : D} (h : RepVs K N ι H ds vs) (e : atI ds i = some d) : ∃ v, atI vs i = some v ∧ RepV K N ι H d v := by
  unfold atI at e ⊢
  rw [h.length]
  cases hj : ixN ds.length i with
  | none => rw [hj] at e; cases e
  | some j =>
    rw [hj] at e
    exact h.get e
/-! ### a[b] -/
theorem ix_dct (hu : X.A.units + 1 < cLine) : IxR X (fun x y H Q => ∃ p v, x = .ref p ∧ DGet H p y (some v) ∧ Q v H) := by
  intro value slice pins s σ H x y v u Q I rx ry h hs
  obtain ⟨p, z, rfl, g, q⟩ := h
  cases rx
  exact tail_any (dict_typeIs I g) PySem.F.slot_dict_getitem.lookup (d_getItem hu I g ry fun w' s3 I3 rw' => ⟨z, H, I3, rw', q⟩) hs
def ixD (ah : AH) (x y : D) : Option D := match sqOf ah x with
  | .seq _ xs => match y with
    | .int i => atI xs i
    | _ => none
  | .map kvs => if isKey y then lookD kvs y else none
  | .txt z => match y with
    | .int i => (atI z.cps.toList i).map fun c => .str ⟨#[c]⟩
    | _ => none
  | .no => none
def eIx (fa fb : Env → M D) : Env → M D := eOp ixD fa fb
theorem sOk_one {z : Str} {c : Nat} (hz : sOk z = true) (hc : c ∈ z.cps.toList) : sOk ⟨#[c]⟩ = true := by
  rw [sOk_iff] at hz ⊢
  refine ⟨?_, by show 1 ≤ sizeLine; decide⟩
  have := hz.1
  unfold PyData.strOk at this ⊢
  rw [Array.all_eq_true'] at this
  have h := this c (Array.mem_toList_iff.mp hc)
  simpa using h
theorem atI_mem {α : Type} {xs : List α} {i : Int} {x : α} (h : atI xs i = some x) : x ∈ xs := by
  unfold atI at h
  cases hj : ixN xs.length i with
  | none => rw [hj] at h; cases h
  | some j => rw [hj] at h; exact List.mem_of_getElem? h
/-- a value and an index -/
theorem ix_core (c : Ctx X P W) {H : Hp} {ι : Pl} {ah : AH} {x y : V} {d1 d2 d : D} {Q : VK} (hr : HRep P ι ah H) (p1 : RepV P.K ah.length ι H d1 x) (p2 : RepV P.K ah.length ι H d2 y) (e : ixD ah d1 d2 = some d) (q : ∀ v, RepV P.K ah.length ι H d v → Q v H) :
    (rIx X.K x y H Q ∨ ∃ p v, x = .ref p ∧ DGet H p y (some v) ∧ Q v H) := by
  obtain ⟨⟨K0, lm0, lq0⟩, cl0, tb0⟩ := P
  obtain rfl : K0 = X.K := c.k
  unfold ixD at e
  cases es : sqOf ah d1 with
  | no => rw [es] at e; cases e
  | seq isL xs =>
    rw [es] at e
    cases d2 <;> simp only [reduceCtorEq] at e
    simp only [RepV] at p2
    subst p2
    obtain ⟨p, vs, rfl, hs, r⟩ := sq_seq hr p1 es
    obtain ⟨v, e1, rv⟩ := r.at_ e
    cases isL with
    | true => exact .inl (.inl ⟨p, vs, _, v, rfl, rfl, hs, e1, q v rv⟩)
    | false => exact .inl (.inr (.inl ⟨p, vs, _, v, rfl, rfl, hs, e1, q v rv⟩))
  | map kvs =>
    rw [es] at e
    dsimp only at e
    split at e
    · rename_i hk
      obtain ⟨k', rfl⟩ := kD_key hk
      have := rep_key p2
      subst this
      obtain ⟨p, lk, kv', rfl, h1, r⟩ := sq_map hr p1 es
      obtain ⟨ks, hrd, rfl⟩ := h1.rd
      rcases look_rep (k := k') r with ⟨e1, _⟩ | ⟨d', v, e1, e2, rv⟩
      · rw [e1] at e; cases e
      · rw [e1] at e; cases e
        exact .inr ⟨p, v, rfl, .inl ⟨ks, k', hrd, rfl, e2.symm⟩, q v rv⟩
    · cases e
  | txt z =>
    rw [es] at e
    cases d2 <;> simp only [reduceCtorEq] at e
    simp only [RepV] at p2
    subst p2
    obtain ⟨rfl, hz⟩ := sq_txt p1 es
    rw [Option.map_eq_some_iff] at e
    obtain ⟨c1, e1, rfl⟩ := e
    exact .inl (.inr (.inr ⟨z, _, c1, rfl, rfl, (sOk_iff.mp hz).2, e1, q _ (by simp only [RepV]; exact ⟨trivial, sOk_one hz (atI_mem e1)⟩)⟩))
theorem de_ix (c : Ctx X P W) (ha : DE X P W a fa) (hb : DE X P W b fb) (hs : PlainIx b := by intro _ _; rfl) : DE X P W (.Subscript a b pos) (eIx fa fb) :=
  weakE (pe_ix (ix_seq.or (ix_dct (by have := c.un; omega))) ha hb hs) fun σ H Q ⟨ι, ah, env, st, q⟩ => ⟨ι, ah, env, st, (q.step (Rp := rV P)).imp fun x H1 ⟨ι1, ah1, d1, x1, hr1, p1, q1⟩ =>
    ⟨ι1, ah1, env, st.next x1 hr1, (q1.step (Rp := rV P)).imp fun y H2 ⟨ι2, ah2, d2, x2, hr2, p2, q2⟩ => by
      cases e : ixD ah2 d1 d2 with
      | none => rw [e] at q2; exact q2.elim
      | some d =>
        rw [e] at q2
        exact ix_core c hr2 (p1.mono x2.toEx0 hr1.notup) p2 e fun v rv => q2 ι2 H2 v Ext.refl hr2 rv⟩⟩
/-! ### a[lo:hi] -/
def cutL {α : Type} (xs : List α) (lo hi : Option Int) : List α := (xs.drop (HT.sIx xs.length 0 lo)).take (HT.sIx xs.length xs.length hi - HT.sIx xs.length 0 lo)
theorem RepVs.cut {K : KL} {N : Nat} {ι : Pl} {H : Hp} {ds : List D} {vs : List V} (h : RepVs K N ι H ds vs) (lo hi : Option Int) : RepVs K N ι H (cutL ds lo hi) (cutV vs lo hi) := by
  unfold cutL cutV
  rw [h.length]
  exact (h.drop _).take _
def slD (ah : AH) (x : D) (lo hi : Option Int) : Option D := match sqOf ah x with
  | .seq true xs => some (.lst (cutL xs lo hi))
  | .seq false xs => some (.tup (cutL xs lo hi))
  | .txt z => some (.str (cutS z lo hi))
  | _ => none
/-- a bound of a slice -/
def eNoPart : Env → M (Option Int) := fun _ => ret none
def ePart (f : Env → M D) : Env → M (Option Int) := fun env => bnd (f env) fun x h => match x with
  | .int i => .ok (some i) h
  | _ => .bad
abbrev rO : Nat → Pl → Hp → Option Int → Option Int → Prop := fun _ _ _ b c => c = b
def tDO (P : Pm) (W : WXT) (f : Env → M (Option Int)) : TO := fun σ H Q => ∃ ι ah env, Sta P ι ah env σ H ∧ Fin rO P W σ ι ah.length H (f env ah) Q
abbrev DO (X : Cx) (P : Pm) (W : WXT) (e : Option Expr) (f : Env → M (Option Int)) : Prop := PO X e (tDO P W f)
theorem do_none : DO X P W none eNoPart := ⟨fun pins s σ H Q I ⟨ι, ah, env, st, q⟩ => po_none.run pins s σ H Q I (q ι H none Ext.refl st.hp rfl)⟩
theorem do_some (h : DE X P W e fa) : DO X P W (some e) (ePart fa) := ⟨fun pins s σ H Q I ⟨ι, ah, env, st, q⟩ => (po_some h).run pins s σ H Q I ⟨ι, ah, env, st, (q.step (Rp := rV P)).imp fun x H1 ⟨ι1, ah1, d1, x1, hr1, p1, q1⟩ => by
  cases d1 <;> first
    | exact False.elim q1
    | (simp only [rV, RepV] at p1; exact ⟨_, p1, q1 ι1 H1 _ Ext.refl hr1 rfl⟩)⟩⟩
def eSl (fa : Env → M D) (lo hi : Env → M (Option Int)) : Env → M D := fun env => bnd (fa env) fun x => bnd (lo env) fun l => bnd (hi env) fun u h => match slD h x l u with
  | some d => .ok d h
  | none => .bad
theorem strOk_cut {z : Str} {lo hi : Option Int} (h : PyData.strOk z = true) : PyData.strOk (cutS z lo hi) = true := by
  unfold PyData.strOk at *
  unfold cutS
  rw [Array.all_eq_true'] at *
  intro c hc
  exact h c (Array.mem_toList_iff.mp (List.mem_of_mem_drop (List.mem_of_mem_take (List.mem_toArray.mp hc))))
theorem sOk_cut {z : Str} {lo hi : Option Int} (h : sOk z = true) : sOk (cutS z lo hi) = true := by
  rw [sOk_iff] at *
  exact ⟨strOk_cut h.1, Nat.le_trans (cutS_length z lo hi) h.2⟩
theorem cut_all {α : Type} {xs : List α} {lo hi : Option Int} (h : HT.sIx xs.length 0 lo = 0 ∧ HT.sIx xs.length xs.length hi = xs.length) : cutL xs lo hi = xs := by
  unfold cutL
  rw [h.1, h.2, List.drop_zero, Nat.sub_zero, List.take_length]
theorem de_sl {lo hi : Option Expr} {gl gu : Env → M (Option Int)} {p2 : Pos} (c : Ctx X P W) (ha : DE X P W e fa) (hl : DO X P W lo gl) (hu : DO X P W hi gu) : DE X P W (.Subscript e (.Slice lo hi none p2) pos) (eSl fa gl gu) := by
  obtain ⟨⟨K0, lm0, lq0⟩, cl0, tb0⟩ := P
  obtain rfl : K0 = X.K := c.k
  exact weakE (pe_slice (sl_list.or (sl_tupA.or sl_str)) ha hl hu) fun σ H Q ⟨ι, ah, env, st, q⟩ => ⟨ι, ah, env, st, (q.step (Rp := rV _)).imp fun x H1 ⟨ι1, ah1, d1, x1, hr1, p1, q1⟩ =>
    ⟨ι1, ah1, env, st.next x1 hr1, (q1.step (Rp := rO)).imp fun l H2 ⟨ι2, ah2, l', x2, hr2, p2, q2⟩ => ⟨ι2, ah2, env, (st.next x1 hr1).next x2 hr2, (q2.step (Rp := rO)).imp fun u H3 ⟨ι3, ah3, u', x3, hr3, p3, q3⟩ => by
      cases p2; cases p3
      have p1 := (p1.mono x2.toEx0 hr1.notup).mono x3.toEx0 hr2.notup
      cases e : slD ah3 d1 l u with
      | none => rw [e] at q3; exact q3.elim
      | some d =>
        rw [e] at q3
        unfold slD at e
        split at e
        · rename_i xs es
          cases e
          obtain ⟨p, vs, rfl, hs, r⟩ := sq_seq hr3 p1 es
          exact .inl ⟨p, vs, rfl, hs, fun p' hp => q3 ι3 _ _ (Ext.fresh hr3 hp) (hr3.fresh hp) (rep_lst hr3 hp (r.cut l u))⟩
        · rename_i xs es
          cases e
          obtain ⟨p, vs, rfl, hs, r⟩ := sq_seq hr3 p1 es
          refine .inr (.inl ⟨p, vs, rfl, hs, fun z => ?_, fun z p' hp => q3 ι3 _ _ (Ext.fresh hr3 hp) (hr3.fresh hp) (rep_tup hr3.notup hp (r.cut l u))⟩)
          rw [r.length] at z
          rw [cut_all z] at q3
          exact q3 ι3 _ _ Ext.refl hr3 (by simp only [rV, RepV]; exact ⟨p, vs, rfl, hs, r⟩)
        · rename_i z es
          cases e
          obtain ⟨rfl, hz⟩ := sq_txt p1 es
          exact .inr (.inr ⟨z, rfl, (sOk_iff.mp hz).2, q3 ι3 _ _ Ext.refl hr3 (by simp only [rV, RepV]; exact ⟨trivial, sOk_cut hz⟩)⟩)
        · cases e⟩⟩⟩
/-! ### a[b] = c -/
def putD (kvs : List (D × D)) (k d : D) : List (D × D) := if (kvs.any fun p => decide (p.1 = k)) = true then kvs.map (fun p => if p.1 = k then (p.1, d) else p) else kvs ++ [(k, d)]
theorem RepKV.length {K : KL} {N : Nat} {ι : Pl} {H : Hp} : ∀ {kvs : List (D × D)} {vs : List (D × V)}, RepKV K N ι H kvs vs → vs.length = kvs.length
  | [], _, h => by simp only [RepKV] at h; rw [h]; rfl
  | p :: kvs, _, h => by
    simp only [RepKV] at h
    obtain ⟨v, r, e, _, h2⟩ := h
    rw [e, List.length_cons, List.length_cons, RepKV.length h2]
theorem RepKV.app {K : KL} {N : Nat} {ι : Pl} {H : Hp} {k d : D} {v : V} (rv : RepV K N ι H d v) : ∀ {kvs : List (D × D)} {vs : List (D × V)}, RepKV K N ι H kvs vs → RepKV K N ι H (kvs ++ [(k, d)]) (vs ++ [(k, v)])
  | [], _, h => by
    simp only [RepKV] at h
    subst h
    simp only [List.nil_append, RepKV, RepP]
    exact ⟨v, [], rfl, rv, rfl⟩
  | p :: kvs, _, h => by
    simp only [RepKV] at h
    obtain ⟨w, r, e, h1, h2⟩ := h
    subst e
    simp only [List.cons_append, RepKV]
    exact ⟨w, _, rfl, h1, RepKV.app rv h2⟩
theorem RepKV.keys {K : KL} {N : Nat} {ι : Pl} {H : Hp} : ∀ {kvs : List (D × D)} {vs : List (D × V)}, RepKV K N ι H kvs vs → vs.map (·.1) = kvs.map (·.1)
  | [], _, h => by simp only [RepKV] at h; rw [h]; rfl
  | p :: kvs, _, h => by
    simp only [RepKV] at h
    obtain ⟨v, r, e, _, h2⟩ := h
    rw [e, List.map_cons, List.map_cons, RepKV.keys h2]
theorem RepKV.upd {K : KL} {N : Nat} {ι : Pl} {H : Hp} {k : Key} {d : D} {v : V} (rv : RepV K N ι H d v) : ∀ {kvs : List (D × D)} {ks : List (Key × V)}, RepKV K N ι H kvs (ks.map fun p => (kD p.1, p.2)) →
    RepKV K N ι H (kvs.map fun p => if p.1 = kD k then (p.1, d) else p) ((ks.map fun p => if p.1 = k then (p.1, v) else p).map fun p => (kD p.1, p.2))
  | [], ks, h => by
    simp only [RepKV, List.map_eq_nil_iff] at h
    subst h
    simp [RepKV]
  | p :: kvs, ks, h => by
    simp only [RepKV] at h
    obtain ⟨w, r, e, h1, h2⟩ := h
    cases ks with
    | nil => cases e
    | cons q ks =>
      simp only [List.map_cons, List.cons.injEq, Prod.mk.injEq] at e
      obtain ⟨⟨e1, e2⟩, e3⟩ := e
      subst e3
      subst e2
      obtain ⟨p1, p2⟩ := p
      obtain ⟨q1, q2⟩ := q
      simp only at e1 h1
      subst e1
      simp only [RepP] at h1
      simp only [List.map_cons, RepKV]
      by_cases z : q1 = k
      · refine ⟨v, _, ?_, ?_, RepKV.upd rv h2⟩
        · subst z; simp
        · subst z; simp only [if_true, RepP]; exact rv
      · have z' : ¬ kD q1 = kD k := fun e => z (kD_inj e)
        refine ⟨q2, _, ?_, ?_, RepKV.upd rv h2⟩
        · rw [if_neg z, if_neg z']
        · rw [if_neg z']
          simp only [RepP]
          exact h1
theorem rep_put {K : KL} {N : Nat} {ι : Pl} {H : Hp} {k : Key} {d : D} {v : V} (rv : RepV K N ι H d v) {kvs : List (D × D)} {ks : List (Key × V)} (h : RepKV K N ι H kvs (ks.map fun p => (kD p.1, p.2))) :
    RepKV K N ι H (putD kvs (kD k) d) ((putK ks k v).map fun p => (kD p.1, p.2)) := by
  have ea : (kvs.any fun p => decide (p.1 = kD k)) = (ks.any fun p => decide (p.1 = k)) := by
    have hk := h.keys
    rw [List.map_map] at hk
    have e1 : (kvs.any fun p => decide (p.1 = kD k)) = ((kvs.map (·.1)).any fun p => decide (p = kD k)) := by rw [List.any_map]; rfl
    rw [e1, ← hk, List.any_map]
    congr 1
    funext p
    simp only [Function.comp]
    rw [Bool.eq_iff_iff, decide_eq_true_eq, decide_eq_true_eq]
    exact ⟨kD_inj, fun e => by rw [e]⟩
  unfold putD putK
  rw [ea]
  by_cases z : (ks.any fun p => decide (p.1 = k)) = true
  · rw [if_pos z, if_pos z]
    exact h.upd rv
  · rw [if_neg z, if_neg z, List.map_append]
    exact h.app rv
/-- the heap behind a[b] = c -/
def putIx (ah : AH) (x y v : D) : Option AH := match x with
  | .obj n => match ah[n]? with
    | some (.lst xs) => match y with
      | .int i => (ixN xs.length i).map fun j => ah.set n (.lst (xs.set j v))
      | _ => none
    | some (.dct false kvs) => if isKey y && decide (kvs.length < sizeLine) then some (ah.set n (.dct false (putD kvs y v))) else none
    | _ => none
  | _ => none
theorem set_all {X : Cx} (hu : X.A.units + 1 < cLine) : PSet X (fun o i v H Q => rSetL o i v H Q ∨ rSetD o i v H Q) := by
  intro pins s σ H o i v ov iv u Q I ro ri rv h
  rcases h with h | h
  · exact set_list pins s σ H o i v ov iv u Q I ro ri rv h
  · exact set_dict hu pins s σ H o i v ov iv u Q I ro ri rv h
theorem put_core {H : Hp} {ι : Pl} {ah ah' : AH} {x y v : V} {d1 d2 d : D} {Q : Hp → Prop} (hr : HRep P ι ah H) (p1 : RepV P.K ah.length ι H d1 x) (p2 : RepV P.K ah.length ι H d2 y) (p3 : RepV P.K ah.length ι H d v) (e : putIx ah d1 d2 d = some ah')
    (q : ∀ H', Ext ah.length ι H ah'.length ι H' → HRep P ι ah' H' → Q H') : rSetL x y v H Q ∨ rSetD x y v H Q := by
  unfold putIx at e
  split at e
  · rename_i n
    simp only [RepV] at p1
    obtain ⟨hn, rfl⟩ := p1
    split at e
    · rename_i xs eo
      obtain ⟨vs, h1, r⟩ := hr.at_ n _ eo
      split at e
      · rename_i i
        rw [Option.map_eq_some_iff] at e
        obtain ⟨j, ej, rfl⟩ := e
        simp only [RepV] at p2
        subst p2
        refine .inl ⟨_, vs, i, j, rfl, rfl, h1, by rw [r.length]; exact ej, q _ ?_ (hr.write hn ⟨_, upd_same, ?_⟩)⟩
        · rw [List.length_set]; exact Ext.write hr hn
        · exact (r.set p3 j).mono (Ex0.write hn) hr.notup
      · cases e
    · rename_i kvs eo
      split at e
      · rename_i hk
        rw [Bool.and_eq_true, decide_eq_true_eq] at hk
        cases e
        obtain ⟨k', rfl⟩ := kD_key hk.1
        have := rep_key p2
        subst this
        obtain ⟨kv', ⟨ks, h1, rfl⟩, r⟩ := hr.at_ n _ eo
        rw [if_neg Bool.false_ne_true] at h1
        have hl : ks.length < sizeLine := by have := r.length; rw [List.length_map] at this; omega
        refine .inr ⟨_, _, rfl, .inl ⟨ks, k', h1, rfl, hl, rfl⟩, q _ ?_ (hr.write hn ⟨_, ⟨putK ks k' v, ?_, rfl⟩, ?_⟩)⟩
        · rw [List.length_set]; exact Ext.write hr hn
        · rw [if_neg Bool.false_ne_true]; exact upd_same
        · exact RepKV.mono (Ex0.write hn) hr.notup _ _ (rep_put p3 r)
      · cases e
    · cases e
  · cases e
def sSub (fv fo fi : Env → M D) : Env → M Fl := fun env => bnd (fv env) fun v => bnd (fo env) fun o => bnd (fi env) fun i h => match putIx h o i v with
  | some h' => .ok (.nx env) h'
  | none => .bad
theorem ds_sub {o i value : Expr} {fv fo fi : Env → M D} {tpos : Pos} (c : Ctx X P W) (hv : DE X P W value fv) (ho : DE X P W o fo) (hi : DE X P W i fi)
    (ha : ∀ v, assign (.Subscript o i tpos) X.env v = (do
      let ov ← holding [v] (eval o X.env)
      let iv ← holding [v, ov] (eval i X.env)
      standAt tpos
      holding [v, ov, iv] (setItem ov iv v)
      release [v, ov, iv] []) := by intro _; rfl)
    (hs : swapsWithSole [.Subscript o i tpos] value pos.line X.env = pure false := by rfl) (hw : swappedStores [.Subscript o i tpos] value X.env = pure none := by rfl)
    (h1 : (assignEach [.Subscript o i tpos] X.env).map (·.2) = [assign (.Subscript o i tpos) X.env] := by rfl) : DS X P W (.Assign [.Subscript o i tpos] value pos) (sSub fv fo fi) :=
  weakS (ps_asg hv (pg_sub ho hi (set_all (by have := c.un; omega)) ha) hs hw h1) fun E σ H ⟨ι, ah, env, st, q⟩ => ⟨ι, ah, env, st, (q.stepE (Rp := rV P)).imp fun v H1 ⟨ι1, ah1, d1, x1, hr1, p1, q1⟩ =>
    ⟨ι1, ah1, env, st.next x1 hr1, (q1.stepE (Rp := rV P)).imp fun x H2 ⟨ι2, ah2, d2, x2, hr2, p2, q2⟩ => ⟨ι2, ah2, env, (st.next x1 hr1).next x2 hr2, (q2.stepE (Rp := rV P)).imp fun y H3 ⟨ι3, ah3, d3, x3, hr3, p3, q3⟩ => by
      cases e : putIx ah3 d2 d3 d1 with
      | none => rw [e] at q3; exact q3.elim
      | some ah' =>
        rw [e] at q3
        exact put_core hr3 (p2.mono x3.toEx0 hr2.notup) p3 ((p1.mono x2.toEx0 hr1.notup).mono x3.toEx0 hr2.notup) e fun H' x' hr' => q3 ι3 σ H' x' ((((st.next x1 hr1).next x2 hr2).next x3 hr3).next x' hr')⟩⟩⟩
/-! ### attributes -/
theorem RepFs.look {K : KL} {N : Nat} {ι : Pl} {H : Hp} {f : Str} {d : D} : ∀ {fs : List (Str × D)} {vs : List (Str × V)}, RepFs K N ι H fs vs → fs.lookup f = some d → ∃ v, vs.lookup f = some v ∧ RepV K N ι H d v
  | [], _, h, e => by cases e
  | (g, x) :: fs, _, h, e => by
    simp only [RepFs] at h
    obtain ⟨v, r, rfl, h1, h2⟩ := h
    rw [List.lookup_cons] at e ⊢
    cases z : (f == g) with
    | true => rw [z] at e; cases e; exact ⟨v, rfl, h1⟩
    | false => rw [z] at e; exact h2.look e
theorem RepFs.length {K : KL} {N : Nat} {ι : Pl} {H : Hp} : ∀ {fs : List (Str × D)} {vs : List (Str × V)}, RepFs K N ι H fs vs → vs.length = fs.length
  | [], _, h => by simp only [RepFs] at h; rw [h]; rfl
  | p :: fs, _, h => by
    simp only [RepFs] at h
    obtain ⟨v, r, e, _, h2⟩ := h
    rw [e, List.length_cons, List.length_cons, RepFs.length h2]
def putFD (f : Str) (v : D) : List (Str × D) → List (Str × D)
  | [] => [(f, v)]
  | (g, x) :: r => if g = f then (g, v) :: r else (g, x) :: putFD f v r
theorem RepFs.put {K : KL} {N : Nat} {ι : Pl} {H : Hp} {f : Str} {d : D} {v : V} (rv : RepV K N ι H d v) : ∀ {fs : List (Str × D)} {vs : List (Str × V)}, RepFs K N ι H fs vs → RepFs K N ι H (putFD f d fs) (putF f v vs)
  | [], _, h => by
    simp only [RepFs] at h
    subst h
    simp only [putFD, putF, RepFs]
    exact ⟨v, [], rfl, rv, rfl⟩
  | (g, x) :: fs, _, h => by
    simp only [RepFs] at h
    obtain ⟨w, r, rfl, h1, h2⟩ := h
    simp only [putFD, putF]
    by_cases z : g = f
    · rw [if_pos z, if_pos z]
      simp only [RepFs]
      exact ⟨v, r, rfl, rv, h2⟩
    · rw [if_neg z, if_neg z]
      simp only [RepFs]
      exact ⟨w, _, rfl, h1, RepFs.put rv h2⟩
def fldD (cs : List Nat) (f : Str) (ah : AH) (x : D) : Option D := match x with
  | .obj n => match ah[n]? with
    | some (.ins c fs) => if cs.contains c then fs.lookup f else none
    | _ => none
  | _ => none
def eFld (cs : List Nat) (f : Str) (fa : Env → M D) : Env → M D := fun env => bnd (fa env) fun x h => match fldD cs f h x with
  | some d => .ok d h
  | none => .bad
/-- an attribute of instances: no class of theirs has the name -/
def FldOk (X : Cx) (P : Pm) (cs : List Nat) (f : Str) : Prop := ∀ c ∈ cs, Cls X.K (P.cls c) ∧ NoAttr X.K (P.cls c) f
theorem de_fld {cs : List Nat} {f : Str} (hf : FldOk X P cs f) (ha : DE X P W e fa) (hb : attributeBase e f X.env (eval e X.env) = eval e X.env := by rfl) : DE X P W (.Attribute e f pos) (eFld cs f fa) :=
  weakE (pe_fld ha hb) fun σ H Q ⟨ι, ah, env, st, q⟩ => ⟨ι, ah, env, st, (q.step (Rp := rV P)).imp fun x H1 ⟨ι1, ah1, d1, x1, hr1, p1, q1⟩ => by
    cases e : fldD cs f ah1 d1 with
    | none => rw [e] at q1; exact q1.elim
    | some d =>
      rw [e] at q1
      unfold fldD at e
      split at e
      · rename_i n
        simp only [rV, RepV] at p1
        obtain ⟨hn, rfl⟩ := p1
        split at e
        · rename_i c fs eo
          split at e
          · rename_i hc
            obtain ⟨dx, fs', h1, r⟩ := hr1.at_ n _ eo
            obtain ⟨v, e1, rv⟩ := r.look e
            have := hf c (by simpa using hc)
            exact ⟨_, _, dx, fs', v, rfl, h1, this.1, this.2, e1, q1 ι1 H1 v Ext.refl hr1 rv⟩
          · cases e
        · cases e
      · cases e⟩
def putFld (cs : List Nat) (f : Str) (ah : AH) (x v : D) : Option AH := match x with
  | .obj n => match ah[n]? with
    | some (.ins c fs) => if cs.contains c && decide (fs.length < 1000) then some (ah.set n (.ins c (putFD f v fs))) else none
    | _ => none
  | _ => none
def sSetF (cs : List Nat) (f : Str) (fv fo : Env → M D) : Env → M Fl := fun env => bnd (fv env) fun v => bnd (fo env) fun o h => match putFld cs f h o v with
  | some h' => .ok (.nx env) h'
  | none => .bad
theorem ds_setF {cs : List Nat} {f : Str} {o value : Expr} {fv fo : Env → M D} {pos' : Pos} (hf : FldOk X P cs f) (hv : DE X P W value fv) (ho : DE X P W o fo) (hs : swapsWith value (some (.Attribute o f pos')) pos.line X.env = pure false := by rfl) :
    DS X P W (.Assign [.Attribute o f pos'] value pos) (sSetF cs f fv fo) :=
  weakS (ps_fld ho hv hs) fun E σ H ⟨ι, ah, env, st, q⟩ => ⟨ι, ah, env, st, (q.stepE (Rp := rV P)).imp fun v H1 ⟨ι1, ah1, d1, x1, hr1, p1, q1⟩ =>
    ⟨ι1, ah1, env, st.next x1 hr1, (q1.stepE (Rp := rV P)).imp fun x H2 ⟨ι2, ah2, d2, x2, hr2, p2, q2⟩ => by
      cases e : putFld cs f ah2 d2 d1 with
      | none => rw [e] at q2; exact q2.elim
      | some ah' =>
        rw [e] at q2
        have p1 := p1.mono x2.toEx0 hr1.notup
        unfold putFld at e
        split at e
        · rename_i n
          simp only [rV, RepV] at p2
          obtain ⟨hn, rfl⟩ := p2
          split at e
          · rename_i c fs eo
            split at e
            · rename_i hc
              rw [Bool.and_eq_true, decide_eq_true_eq] at hc
              cases e
              obtain ⟨dx, fs', h1, r⟩ := hr2.at_ n _ eo
              have := hf c (by simpa using hc.1)
              have hw := hr2.write (o := .ins (P.cls c) dx (putF f v fs')) (u := .ins c (putFD f d1 fs)) hn ⟨dx, _, upd_same, RepFs.mono (Ex0.write hn) hr2.notup _ _ (r.put p1)⟩
              refine ⟨_, _, dx, fs', rfl, h1, this.1, this.2, by rw [r.length]; exact hc.2, q2 ι2 σ _ ?_ (((st.next x1 hr1).next x2 hr2).next ?_ hw)⟩
              · rw [List.length_set]; exact Ext.write hr2 hn
              · rw [List.length_set]; exact Ext.write hr2 hn
            · cases e
          · cases e
        · cases e⟩⟩
end
end PyD

/-! PyGen: generator expressions, walked by a builtin that consumes them. -/
namespace PyD
open PySem PySem.Spec L2
open PyProof.Rows hiding St

/-! ### the context of the expression's own frame -/
abbrev gxEnv (X : Cx) (scope : Scope) (C : Addr) (code : Value) : PySem.Env := genEnv scope (cloFrom X.env.cells scope.names []) C code builtinsNs X.env
def gxCx (X : Cx) (A : Around) (s : Shared) (H : Hp) (scope : Scope) (code : Value) (fp : List Addr) (pn : List (Addr × Obj)) : Cx where
  prog := X.prog
  w := X.w
  K := X.K
  mg := X.mg
  base := X.base
  A := A.deeper (gxEnv X scope s.heap.objs.size code)
  N := X.N
  s_0 := s
  H_0 := H
  env := gxEnv X scope s.heap.objs.size code
  outer := X.stack
  stack := gxEnv X scope s.heap.objs.size code :: X.stack
  ex := fp
  fn := fun _ => false
  calm := true
  pn := pn
  xe := fun _ _ => False
section
variable {X : Cx} {pins : List (Addr × Obj)} {σ : L2.St} {H : Hp} {s : Shared}
theorem gx_start {A : Around} {scope : Scope} {own : List (Str × Nat)} {code : Value} {fp : List Addr} {s1 : Shared} {m : Str → Option Value} (I : L2.Inv X pins σ H s) (ok : BlkOk X.N X.env.scope scope own) (hN : X.N.Nodup) (hcell : ∀ y ∈ scope.names, y.2 ≠ .cell)
    (hfp : ∀ b ∈ fp, FpOk X pins H b ∧ b < s.heap.objs.size) (hd : A.handled = none) (hfr : A.frames = some X.stack) (hns : s1.heap.Ns s.heap.objs.size m) (kp : ∀ b o, s.heap.get? b = some o → s1.heap.get? b = some o) (os : s1.os = s.os) (hb : AllBare s1.gens) :
    L2.Inv (gxCx X A s H scope code fp []) [] (L2.wipe σ (own.map (·.2))) H s1 := by
  have hfree : ∀ y ∈ scope.names, y.2 = .free → ∃ c, X.env.cells.lookup y.1 = some c := fun y hy e => by
    rcases ok.free y hy e with k | k
    · exact I.ok.has _ (.inl k)
    · exact I.ok.has _ (.inr k)
  have cm : ∀ {y c}, (cloFrom X.env.cells scope.names []).lookup y = some c → X.env.cells.lookup y = some c := fun {y c} e => by
    rcases cloFrom_mem (PySem.mem_of_lookup e) with hm | ⟨h1, h2⟩
    · cases hm
    · obtain ⟨c1, hc⟩ := hfree _ h1 rfl
      have hc : X.env.cells.lookup y = some c1 := hc
      have e2 : c = c1 := by
        rw [h2, hc] <;> rfl
      rw [e2]
      exact hc
  have look : ∀ {y}, scope.names.lookup y = some .free → ∃ c, (cloFrom X.env.cells scope.names []).lookup y = some c := fun {y} hl => by
    have hy : (y, NameKind.free) ∈ scope.names := PySem.mem_of_lookup hl
    exact mem_lookup (cloFrom_has (cells := X.env.cells) (acc := []) hy)
  have e0 := I.env0
  have cellK : ∀ {c : Addr} {v : Option Value}, s.heap.IsCell c v → s1.heap.IsCell c v := fun {c v} ⟨o, ho, hdt⟩ => ⟨o, kp _ _ ho, hdt⟩
  refine ⟨⟨e0.mod, ok.kind, I.ok.glob, rfl, Nat.le_refl _, fun y z c e1 e2 => I.ok.inj y z c (cm e1) (cm e2), fun y hy => ?_, fun y c z _ => ?_, fun _ => hd, Around.frames_deeper hfr, .inr ⟨rfl, rfl⟩, fun b hb => ⟨Nat.ne_of_lt (hfp b hb).2, fun y c e z => (hfp b hb).1.2.2.2.2.1 y c (cm e) z⟩,
      e0.bs, e0.bsz, fun b o e hb => ?_, fun b hb z => ?_, e0.funs, e0.frf⟩,
    os, hb, Un.kept kp, ⟨_, hns, fun i y v e1 e2 e3 => ?_⟩, fun y c e => ?_, I.hok.fresh (Nat.le_refl _), fun y c e => I.freeC y c (cm e), fun q hq => absurd (show q ∈ ([] : List (Addr × Obj)) ++ [] from hq) (by simp), I.hok.kept kp, by rw [wipe_length]; exact I.len⟩
  · have hy : scope.names.lookup y = some .cell ∨ scope.names.lookup y = some .free := hy
    rcases hy with hy | hy
    · exact absurd rfl (hcell _ (PySem.mem_of_lookup hy))
    · exact look hy
  · have z : false = true := z
    cases z
  · rcases (hfp b hb).1.2.2.2.1 with z | z
    · exact I.ok.noex b o e z
    · exact absurd (Nat.lt_of_lt_of_le (Heap.lt_size e) (Nat.le_trans I.ok.bsz z)) (Nat.lt_irrefl _)
  · obtain ⟨_, f1, f2, _⟩ := (hfp b hb).1
    rcases List.mem_cons.mp (I.stkSub b z) with z | z
    · exact f1 z
    · exact f2 z
  · have e3 : Vis scope y := e3
    obtain ⟨e4, hni⟩ := wipe_some e2
    rcases e3 with k | k | k
    · rcases ok.own _ (PySem.mem_of_lookup k) (.inl rfl) with hm | hm
      · obtain ⟨p, hp, rfl⟩ := List.mem_map.mp hm
        have := nodup_ix hN e1 (ok.ix p hp)
        exact absurd (List.mem_map.mpr ⟨p, hp, this.symm⟩) hni
      · exact absurd (List.mem_of_getElem? e1) hm
    · exact absurd rfl (hcell _ (PySem.mem_of_lookup k))
    · obtain ⟨m', hn, hl⟩ := I.loc
      have hvis : Vis X.env.scope y := (ok.free _ (PySem.mem_of_lookup k) rfl).elim (fun k => .inr (.inl k)) (fun k => .inr (.inr k))
      obtain ⟨w', r, q⟩ := hl i y v e1 e4 hvis
      obtain ⟨c2, h2⟩ := look k
      refine ⟨w', r, .inr ⟨.inr k, c2, h2, ?_⟩⟩
      have c1 := cm h2
      rcases q with ⟨k', _⟩ | ⟨_, c3, e', z⟩
      · have k' : X.env.scope.names.lookup y = some .local := k'
        rcases ok.free _ (PySem.mem_of_lookup k) rfl with k2 | k2 <;> rw [show X.env.scope.names.lookup y = _ from k2] at k' <;> cases k'
      · rw [c1] at e'
        cases e'
        exact cellK z
  · obtain ⟨w', z⟩ := I.cell y c (cm e)
    exact ⟨w', cellK z⟩
/-- pins more, if they hold -/
theorem gx_pinned {A : Around} {scope : Scope} {code : Value} {fp : List Addr} {pn pins' : List (Addr × Obj)} {σ' : L2.St} {H' : Hp} {s1 : Shared} (I : L2.Inv (gxCx X A s H scope code fp []) [] σ' H' s1)
    (h : ∀ p ∈ pn ++ pins', s1.heap.get? p.1 = some p.2 ∧ H' p.1 = none ∧ p.1 ≠ s.heap.objs.size ∧ p.1 ∉ frs X.stack ∧ ∀ v, p.2.data ≠ .cell v) : L2.Inv (gxCx X A s H scope code fp pn) pins' σ' H' s1 :=
  ⟨⟨I.ok.mod, I.ok.kind, I.ok.glob, I.ok.blt, I.ok.above, I.ok.inj, I.ok.has, I.ok.cab, I.ok.hd, I.ok.frames, I.ok.stk, I.ok.exf, I.ok.bs, I.ok.bsz, I.ok.noex, I.ok.exfs, I.ok.funs, I.ok.frf⟩, I.os, I.bare, I.base, I.loc, I.cell, I.free, I.freeC, h, I.hok, I.len⟩
theorem over_gx {A : Around} {elt : Expr} {gs : List Comprehension} {scope : Scope} {pos : Pos} {it acc : Value} {env : PySem.Env} : A.over (.compLoop (.GeneratorExp elt gs scope pos) 0 it acc env) [] = A.deeper env := by
  first
    | rfl
    | (obtain ⟨hd, d, fr, gs, u⟩ := A; simp [Around.over, Around.deeper, marksOver, frameCount, unitsOf, envsOf, guardsOf, pushEnvs, pushGuards, Code.envs, Code.env?, Code.isFrame, Code.guards, Code.isGuard, Code.weight, Code.frames, Code.isCreation, Code.isCaller, Code.cUnits])
theorem over_gx0 {A : Around} {elt : Expr} {gs : List Comprehension} {scope : Scope} {pos : Pos} {it acc : Value} {env : PySem.Env} : A.over (.compStart (.GeneratorExp elt gs scope pos) 0 it acc env) [] = A.deeper env := by
  first
    | rfl
    | (obtain ⟨hd, d, fr, gs, u⟩ := A; simp [Around.over, Around.deeper, marksOver, frameCount, unitsOf, envsOf, guardsOf, pushEnvs, pushGuards, Code.envs, Code.env?, Code.isFrame, Code.guards, Code.isGuard, Code.weight, Code.frames, Code.isCreation, Code.isCaller, Code.cUnits])
end

/-! ### the mirror: all that comes out, till one stops it -/
def gxGo (stop : D → Bool) (pat : Pat) (gi : Env → M Bool) (ge : Env → M D) (ok : AH → Bool) (env : Env) : List D → M (List D)
  | [] => fun h => if ok h then .ok [] h else .bad
  | x :: xs => fun h => if ok h then match pat.put x env with
    | some env1 => bnd (noEx (gi env1)) (fun b => if b then bnd (noEx (ge env1)) (fun y => if stop y then ret [y] else bnd (gxGo stop pat gi ge ok env xs) fun ys => ret (y :: ys)) else gxGo stop pat gi ge ok env xs) h
    | none => .bad else .bad
def eGx (stop : D → Bool) (own : List Nat) (pat : Pat) (it : Env → M Src) (gi : Env → M Bool) (ge : Env → M D) : Env → M (List D) := fun env => bnd (it env) fun src h => if src.xs.length ≤ sizeLine then gxGo stop pat gi ge src.ok (wipeE env own) src.xs h else .bad

/-! ### the protocol -/
/-- while it sleeps: what is the consumer's may change, and tells what came -/
structure GxSlept (cs : List Addr) (Lk : List V → Heap → Prop) (v : Value) (s s' : Shared) : Prop where
  os : s'.os = s.os
  bare : AllBare s'.gens
  keep : ∀ b o, b ∉ cs → s.heap.get? b = some o → s'.heap.get? b = some o
  own : ∀ b ∈ cs, ∃ o, s'.heap.get? b = some o ∧ ∀ u, o.data ≠ .cell u
  link : ∀ ys x, RelV x v → Lk ys s.heap → Lk (ys ++ [x]) s'.heap
section
variable (X : Cx) (P : Pm) (s4 : Shared) (H4 : Hp) (fp : List Addr) (a : Addr) (g : Nat) (cs : List Addr) (Lk : List V → Heap → Prop) (stop : D → Bool) (N0 : Nat) (ι0 : Pl) (H0 : Hp) (DS : List D) (ah1 : AH)
/-- what the consumer may know of a state in which the generator sleeps or is done -/
structure GxFx (H : Hp) (s : Shared) : Prop where
  os : s.os = s4.os
  bare : AllBare s.gens
  un : Un (frs X.stack) fp H4 H s4.heap s.heap
  hok : HOk X.prog X.w H s.heap
  lim : s.heap.NoLimit
  gen : s.heap.IsGen a g
  cs : ∀ b ∈ cs, H b = none
def GxEnd (H : Hp) (s : Shared) (ys : List V) : Prop := GxFx X s4 H4 fp a g cs H s ∧ ∃ ι, Ext N0 ι0 H0 ah1.length ι H ∧ HRep P ι ah1 H ∧ RepVs P.K ah1.length ι H DS ys
def GxY : Protocol := fun n s₀ v s kap => ∃ ys x H j d, j + 1 + n = DS.length ∧ DS[j]? = some d ∧ RelV x v ∧ GxFx X s4 H4 fp a g cs H s ∧ Lk ys s.heap ∧ (∀ b ∈ cs, ∀ o, s₀.heap.get? b = some o → s.heap.get? b = some o) ∧ (∃ N ι, RepV P.K N ι H d x) ∧
  (stop d = true → GxEnd X P s4 H4 fp a g cs N0 ι0 H0 DS ah1 H s (ys ++ [x])) ∧ (stop d = false → ∀ s', GxSlept cs Lk v s s' → kap (.send .none) s')
def GxRe : GenEnd := fun n s₀ r s => r = .ok .next ∧ n = 0 ∧ (∀ b ∈ cs, ∀ o, s₀.heap.get? b = some o → s.heap.get? b = some o) ∧ ∃ ys H, Lk ys s.heap ∧ GxEnd X P s4 H4 fp a g cs N0 ι0 H0 DS ah1 H s ys
end

section
variable {X : Cx} {P : Pm} {W : WXT}
/-- the context's own pins, those of the consumer -/
theorem mem_pins {cs : List Addr} {h : Heap} {b : Addr} {o : Obj} (hb : b ∈ cs) (e : h.get? b = some o) : (b, o) ∈ pinsAt cs h := mem_pinsAt hb e
/-- what stands ahead of a turn -/
structure GxSt (G : Cx) (P : Pm) (σw : L2.St) (fp cs : List Addr) (tn : Nat → Heap → Prop) (Lk : List V → Heap → Prop) (N0 : Nat) (ι0 : Pl) (H0 : Hp) (i : Nat) (ι : Pl) (ah : AH) (H : Hp) (ys : List V) (ds : List D) (s : Shared) : Prop where
  inv : L2.Inv G (pinsAt cs s.heap) σw H s
  own : ∀ b ∈ cs, ∃ o, s.heap.get? b = some o ∧ ∀ u, o.data ≠ .cell u
  tn : tn i s.heap
  fpn : ∀ b ∈ fp, H b = none
  ext : Ext N0 ι0 H0 ah.length ι H
  hp : HRep P ι ah H
  link : Lk ys s.heap
  rep : RepVs P.K ah.length ι H ds ys
theorem GxSt.csn {G : Cx} {σw : L2.St} {fp cs : List Addr} {tn : Nat → Heap → Prop} {Lk : List V → Heap → Prop} {N0 : Nat} {ι0 : Pl} {H0 : Hp} {i : Nat} {ι : Pl} {ah : AH} {H : Hp} {ys : List V} {ds : List D} {s : Shared}
    (z : GxSt G P σw fp cs tn Lk N0 ι0 H0 i ι ah H ys ds s) : ∀ b ∈ cs, H b = none := fun b hb => by
  obtain ⟨o, e, _⟩ := z.own b hb
  exact (z.inv.pin (b, o) (List.mem_append_right _ (mem_pinsAt hb e))).2.1
/-- what is asked of the consumer's own things -/
structure GxApart (G : Cx) (fp cs : List Addr) (Lk : List V → Heap → Prop) (a : Addr) : Prop where
  young : ∀ b ∈ cs, G.s_0.heap.objs.size ≤ b ∧ b ≠ G.env.locals ∧ b ∉ fp ∧ b ≠ a ∧ ∀ x c, G.env.cells.lookup x = some c → c ≠ b
  link : ∀ ys (h h' : Heap), (∀ b ∈ cs, ∀ o, h.get? b = some o → h'.get? b = some o) → Lk ys h → Lk ys h'
/-- woken again -/
theorem gx_woken {G : Cx} {pins : List (Addr × Obj)} {σ : L2.St} {H : Hp} {s s' : Shared} {v : Value} {cs fp : List Addr} {Lk : List V → Heap → Prop} {a : Addr} (hpn : ∀ p ∈ G.pn, p.1 = a) (ap : GxApart G fp cs Lk a) (I : L2.Inv G pins σ H s) (hcs : ∀ b ∈ cs, H b = none) (hfs : ∀ b ∈ cs, b ∉ G.fs) (z : GxSlept cs Lk v s s') :
    L2.Inv G (pinsAt cs s'.heap) σ H s' := by
  have I0 : L2.Inv G [] σ H s := I.pins_of fun p hp => absurd hp (by simp)
  have nt : ∀ b u, H b = some u → b ∉ cs := fun b u q hb => by rw [hcs b hb] at q; cases q
  have I1 : L2.Inv G [] σ H s' := by
    refine I0.call' (ch := cs) z.os ⟨fun b o e _ _ hc => z.keep b o hc e, fun b o e _ _ hc => ⟨o.slots, z.keep b o hc e⟩, fun _ _ _ n _ => n, fun b o e hc => ⟨o, z.keep b o hc e⟩, fun _ _ q => q, fun _ _ _ q => q, fun b ps q => ⟨#[], by rw [q]; simp⟩⟩ (fun b u q => ?_) z.bare (fun b hb => ?_)
    · refine (I0.hok b u q).stay (fun c v hc y => z.keep c v ?_ y) (fun _ y => y) fun _ _ y => y
      rcases hc with y | y
      · rw [y]; exact nt b u q
      · exact nt c _ y
    · obtain ⟨h1, h2, h3, h4, h5⟩ := ap.young b hb
      refine ⟨.inr h1, h2, h5, fun p hp => ?_⟩
      rw [List.append_nil] at hp
      rw [hpn p hp]
      exact Ne.symm h4
  refine I1.pins_of fun p hp => ?_
  obtain ⟨hb, e⟩ := of_pinsAt hp
  obtain ⟨o, e', hc⟩ := z.own p.1 hb
  rw [e] at e'
  cases e'
  exact ⟨e, hcs p.1 hb, (ap.young p.1 hb).2.1, hfs p.1 hb, hc⟩

theorem take_snoc {α : Type} {l : List α} {j : Nat} {d : α} {r : List α} (e : l.drop j = d :: r) : j < l.length ∧ l[j]? = some d ∧ l.drop (j + 1) = r ∧ l.take (j + 1) = l.take j ++ [d] := by
  have h1 : j < l.length := by
    rcases Nat.lt_or_ge j l.length with h | h
    · exact h
    · rw [List.drop_eq_nil_of_le h] at e; cases e
  rw [List.drop_eq_getElem_cons h1] at e
  cases e
  exact ⟨h1, List.getElem?_eq_getElem h1, rfl, by rw [List.take_succ, List.getElem?_eq_getElem h1]; rfl⟩
theorem gx_loop {A : Around} {s4 : Shared} {H4 : Hp} {scope : Scope} {code : Value} {fp cs : List Addr} {a : Addr} {g : Nat} {go : Obj} {tn : Nat → Heap → Prop} {Lk : List V → Heap → Prop} {stop : D → Bool} {it : Addr} {J : It} {src : Src} {N0 : Nat} {ι0 : Pl} {H0 : Hp} {σ : L2.St} {env : Env} {DS : List D} {ah1 : AH}
    {elt tgt iter : Expr} {ifs : List Expr} {pos : Pos} {own : List Nat} {pat : Pat} {gi : Env → M Bool} {ge : Env → M D}
    (hgo : ∀ h : Heap, h.get? a = some go → h.IsGen a g) (T : Turn X.prog X.w X.K tgt J fp it tn) (io : ItOk P N0 ι0 H0 src J) (ap : GxApart (gxCx X A s4 H4 scope code fp [(a, go)]) fp cs Lk a) (haf : a ∉ fp) (hown : ∀ i ∈ pat.slots, i ∈ own)
    (pg : PG (gxCx X A s4 H4 scope code fp [(a, go)]) tgt (gP P pat)) (pt : DTs (gxCx X A s4 H4 scope code fp [(a, go)]) P W0 ifs gi) (pe : DE (gxCx X A s4 H4 scope code fp [(a, go)]) P W0 elt ge)
    (hco : scope.isCoroutine = false) (h0 : EnvRep P N0 ι0 H0 env σ) (hnt : NoTup N0 ι0 H0) :
    ∀ (k i j : Nat) (s₀ s : Shared) (ι : Pl) (ah : AH) (H : Hp) (ys : List V), src.xs.length - i = k → i ≤ src.xs.length → j ≤ DS.length →
      GxSt (gxCx X A s4 H4 scope code fp [(a, go)]) P (L2.wipe σ own) fp cs tn Lk N0 ι0 H0 i ι ah H ys (DS.take j) s → (∀ b ∈ cs, ∀ o, s₀.heap.get? b = some o → s.heap.get? b = some o) →
      gxGo stop pat gi ge src.ok (wipeE env own) (src.xs.drop i) ah = .ok (DS.drop j) ah1 →
      Seg (model X.prog X.w) A (GxRe X P s4 H4 fp a g cs Lk N0 ι0 H0 DS ah1) (GxY X P s4 H4 fp a g cs Lk stop N0 ι0 H0 DS ah1) (DS.length - j) s₀ (.compLoop (.GeneratorExp elt [⟨tgt, iter, ifs, 0⟩] scope pos) 0 (.ref it) .none (gxEnv X scope s4.heap.objs.size code))
        ((model X.prog X.w).den (.compLoop (.GeneratorExp elt [⟨tgt, iter, ifs, 0⟩] scope pos) 0 (.ref it) .none (gxEnv X scope s4.heap.objs.size code))) [] s := by
  have facts : ∀ {pins : List (Addr × Obj)} {σ' : L2.St} {H : Hp} {s : Shared}, L2.Inv (gxCx X A s4 H4 scope code fp [(a, go)]) pins σ' H s → (∀ b ∈ cs, H b = none) → GxFx X s4 H4 fp a g cs H s := fun {pins σ' H s} I hc =>
    ⟨I.os, I.bare, I.base, I.hok, I.nolimit, hgo _ (I.pin (a, go) (List.mem_append_left _ (List.mem_singleton.mpr rfl))).1, hc⟩
  intro k
  induction k with
  | zero =>
    intro i j s₀ s ι ah H ys hk hi hj z hs0 q
    have e : i = src.xs.length := by omega
    subst e
    rw [List.drop_length] at q
    simp only [gxGo] at q
    split at q
    case isFalse => cases q
    rename_i hok
    obtain ⟨hd, eh⟩ : [] = DS.drop j ∧ ah = ah1 := by injection q with q1 q2; exact ⟨q1, q2⟩
    subst eh
    have hd := hd.symm
    have fo : ∀ b ∈ fp, FpOk (gxCx X A s4 H4 scope code fp [(a, go)]) (pinsAt cs s.heap) H b := fun b hb => ⟨z.fpn b hb, (z.inv.ok.exf b hb).1, z.inv.ok.exfs b hb, .inl hb, fun x c e => (z.inv.ok.exf b hb).2 x c e, fun p hp => by
      rcases List.mem_append.mp hp with hp | hp
      · rw [List.mem_singleton.mp hp]; exact fun e => haf ((show a = b from e) ▸ hb)
      · intro e; exact (ap.young p.1 (of_pinsAt hp).1).2.2.1 (by rw [e]; exact hb)⟩
    show Seg _ A _ _ _ s₀ _ ((compTurn (.GeneratorExp elt [⟨tgt, iter, ifs, 0⟩] scope pos) 0 (.ref it) .none (gxEnv X scope s4.heap.objs.size code)).onRaise (leaving (gxEnv X scope s4.heap.objs.size code))) [] s
    rw [compTurn_gen, Sem.onRaise_eq_wrap]
    refine seg_bind_wrap (wpAny_standAt ?_)
    refine seg_bind_wrap ?_
    rw [over_gx]
    refine wpAny_mono (T.done (gxCx X A s4 H4 scope code fp [(a, go)]) rfl rfl rfl rfl src.xs.length _ s _ H (fun _ _ => False) z.inv fo z.tn (io.stop ι ah H z.ext z.hp hok)) (fun r s1 ⟨hr, I1⟩ => ?_) fun _ _ f => f.elim
    subst hr
    have same : ∀ b ∈ cs, ∀ o, s.heap.get? b = some o → s1.heap.get? b = some o := fun b hb o e => (I1.pin (b, o) (List.mem_append_right _ (mem_pinsAt hb e))).1
    have ej : DS.length - j = 0 := by
      have := congrArg List.length hd
      rw [List.length_drop] at this
      exact this
    have et : DS.take j = DS := by rw [List.take_of_length_le (by omega)]
    rw [et] at z
    exact seg_end (.ok .next) ⟨rfl, ej, fun b hb o e => same b hb o (hs0 b hb o e), ys, H, ap.link ys _ _ same z.link, facts I1 z.csn, ι, z.ext, z.hp, z.rep⟩
  | succ k ih =>
    intro i j s₀ s ι ah H ys hk hi hj z hs0 q
    have hlt : i < src.xs.length := by omega
    have ed : src.xs.drop i = src.xs[i] :: src.xs.drop (i + 1) := List.drop_eq_getElem_cons hlt
    rw [ed] at q
    by_cases hok : src.ok ah = true
    case neg => simp only [gxGo] at q; rw [if_neg hok] at q; cases q
    cases ep : pat.put src.xs[i] (wipeE env own) with
    | none => simp only [gxGo] at q; rw [if_pos hok, ep] at q; cases q
    | some env1 =>
    have q1 : bnd (noEx (gi env1)) (fun b => if b then bnd (noEx (ge env1)) (fun y => if stop y then ret [y] else bnd (gxGo stop pat gi ge src.ok (wipeE env own) (src.xs.drop (i + 1))) fun ys => ret (y :: ys)) else gxGo stop pat gi ge src.ok (wipeE env own) (src.xs.drop (i + 1))) ah = .ok (DS.drop j) ah1 := by
      simp only [gxGo] at q
      rw [if_pos hok, ep] at q
      exact q
    have fo : ∀ b ∈ fp, FpOk (gxCx X A s4 H4 scope code fp [(a, go)]) (pinsAt cs s.heap) H b := fun b hb => ⟨z.fpn b hb, (z.inv.ok.exf b hb).1, z.inv.ok.exfs b hb, .inl hb, fun x c e => (z.inv.ok.exf b hb).2 x c e, fun p hp => by
      rcases List.mem_append.mp hp with hp | hp
      · rw [List.mem_singleton.mp hp]; exact fun e => haf ((show a = b from e) ▸ hb)
      · intro e; exact (ap.young p.1 (of_pinsAt hp).1).2.2.1 (by rw [e]; exact hb)⟩
    obtain ⟨hgo', hy⟩ := io.go i _ ι ah H (List.getElem?_eq_getElem hlt) z.ext z.hp hok
    show Seg _ A _ _ _ s₀ _ ((compTurn (.GeneratorExp elt [⟨tgt, iter, ifs, 0⟩] scope pos) 0 (.ref it) .none (gxEnv X scope s4.heap.objs.size code)).onRaise (leaving (gxEnv X scope s4.heap.objs.size code))) [] s
    rw [compTurn_gen, Sem.onRaise_eq_wrap]
    refine seg_bind_wrap (wpAny_standAt ?_)
    refine seg_bind_wrap ?_
    rw [over_gx]
    refine wpAny_mono (T.item (gxCx X A s4 H4 scope code fp [(a, go)]) rfl rfl rfl rfl i _ s _ H (fun _ _ => False) z.inv fo z.tn hgo') (fun r s1 ⟨u, hr, h1⟩ => ?_) fun _ _ f => f.elim
    subst hr
    refine seg_bind_wrap ?_
    rw [over_gx]
    refine wpAny_mono h1 (fun _ s2 ⟨x, H2, I2, r2, y2, st2, n2⟩ => ?_) fun _ _ f => f.elim
    obtain ⟨x3, hr3, rv⟩ := hy x H2 y2
    have fo2 : ∀ b ∈ fp, FpOk (gxCx X A s4 H4 scope code fp [(a, go)]) (pinsAt cs s.heap) H2 b := fun b hb => ⟨n2 b hb, (fo b hb).2⟩
    have I2' := I2.pinned fo2 (T.obj _ _ st2)
    refine seg_bind_wrap ?_
    rw [over_gx]
    have stw : Sta P ι ah (wipeE env own) (L2.wipe σ own) H2 := ⟨hr3, ((h0.wipe own).mono z.ext.toEx0 hnt).mono x3.toEx0 z.hp.notup⟩
    refine wpAny_mono (pg.run _ s2 _ H2 x u (fun σ3 H3 => H3 = H2 ∧ L2.wipe σ3 own = L2.wipe σ own ∧ Sta P ι ah env1 σ3 H2) I2' r2 ⟨ι, ah, wipeE env own, _, env1, stw, rv, ep, fun σ3 sb st3 => ⟨rfl, ?_, st3⟩⟩) (fun _ s3 h3 => ?_) fun _ _ f => (show False from f).elim
    · rw [sb.wipe hown, wipe_idem]
    obtain ⟨σ3, H3, I3, rfl, hw3, st3⟩ := h3
    have xe2 : Ext N0 ι0 H0 ah.length ι H3 := z.ext.trans x3
    have q1F : Fin (rVs P) P W0 (σ := σ3) (ι := ι) (N := ah.length) (H := H3) (.ok (DS.drop j) ah1) (fun vs H' => ∃ ι', Ext ah.length ι H3 ah1.length ι' H' ∧ HRep P ι' ah1 H') := fun ι' H' v a b _ => ⟨ι', a, b⟩
    refine seg_bind_wrap ?_
    rw [over_gx]
    have qq : bnd (noEx (gi env1)) (fun b => if b then bnd (noEx (ge env1)) (fun y => if stop y then ret [y] else bnd (gxGo stop pat gi ge src.ok (wipeE env own) (src.xs.drop (i + 1))) fun ys => ret (y :: ys)) else gxGo stop pat gi ge src.ok (wipeE env own) (src.xs.drop (i + 1))) ah = .ok (DS.drop j) ah1 := q1
    -- the test
    cases et : gi env1 ah with
    | ex c h => unfold bnd noEx at qq; rw [et] at qq; cases qq
    | bad => unfold bnd noEx at qq; rw [et] at qq; cases qq
    | ok bv ah3 =>
    have qb : (if bv then bnd (noEx (ge env1)) (fun y => if stop y then ret [y] else bnd (gxGo stop pat gi ge src.ok (wipeE env own) (src.xs.drop (i + 1))) fun ys => ret (y :: ys)) else gxGo stop pat gi ge src.ok (wipeE env own) (src.xs.drop (i + 1))) ah3 = .ok (DS.drop j) ah1 := by
      unfold bnd noEx at qq
      rw [et] at qq
      exact qq
    refine wpAny_mono (pt.run _ s3 σ3 H3 (fun b H' => b = bv ∧ ∃ ι', Ext ah.length ι H3 ah3.length ι' H' ∧ HRep P ι' ah3 H') I3 ⟨ι, ah, env1, st3, by rw [et]; exact fun ι' H' v a b c => ⟨c, ι', a, b⟩⟩) (fun b s5 h5 => ?_) fun _ _ f => (show False from f).elim
    obtain ⟨H5, I5, rfl, ι5, x5, hr5⟩ := h5
    have st5 := st3.next x5 hr5
    have xe5 := xe2.trans x5
    have ra5 := (z.rep.mono x3.toEx0 z.hp.notup).mono x5.toEx0 hr3.notup
    -- the end of a turn that hands out nothing
    have cs5 : ∀ {s' : Shared} {H' : Hp}, L2.Inv (gxCx X A s4 H4 scope code fp [(a, go)]) (pinsAt cs s.heap ++ pinsAt fp s2.heap) σ3 H' s' → (∀ b ∈ cs, ∀ o, s.heap.get? b = some o → s'.heap.get? b = some o) ∧ (∀ b ∈ cs, H' b = none) ∧ (∀ b ∈ cs, ∃ o, s'.heap.get? b = some o ∧ ∀ u, o.data ≠ .cell u) ∧ tn (i + 1) s'.heap ∧ (∀ b ∈ fp, H' b = none) := fun {s' H'} I' => by
      have c1 : ∀ b ∈ cs, ∀ o, s.heap.get? b = some o → s'.heap.get? b = some o ∧ H' b = none := fun b hb o e =>
        let w := I'.pin (b, o) (List.mem_append_right _ (List.mem_append_left _ (mem_pinsAt hb e)))
        ⟨w.1, w.2.1⟩
      refine ⟨fun b hb o e => (c1 b hb o e).1, fun b hb => ?_, fun b hb => ?_, T.keep _ _ _ st2 fun b hb o e => (I'.pin (b, o) (List.mem_append_right _ (List.mem_append_right _ (mem_pinsAt hb e)))).1, fun b hb => ?_⟩
      · obtain ⟨o, e, _⟩ := z.own b hb; exact (c1 b hb o e).2
      · obtain ⟨o, e, hc⟩ := z.own b hb; exact ⟨o, (c1 b hb o e).1, hc⟩
      · obtain ⟨o, e, _⟩ := T.obj _ _ st2 b hb
        exact (I'.pin (b, o) (List.mem_append_right _ (List.mem_append_right _ (mem_pinsAt hb e)))).2.1
    have hlw : (L2.wipe σ own).length = σ3.length := by rw [← hw3, wipe_length]
    have wk : ∀ {H' : Hp} {s' : Shared} {pins : List (Addr × Obj)}, L2.Inv (gxCx X A s4 H4 scope code fp [(a, go)]) pins σ3 H' s' → L2.Inv (gxCx X A s4 H4 scope code fp [(a, go)]) pins (L2.wipe σ own) H' s' := fun {H' s' pins} I' => I'.weak hlw fun p v e => by
      rw [← hw3] at e
      exact (wipe_some e).1
    cases b with
    | false =>
      simp only [Bool.false_eq_true, if_false] at qb ⊢
      obtain ⟨c1, c2, c3, c4, c5⟩ := cs5 I5
      refine seg_again rfl (ih (i + 1) j s₀ s5 ι5 ah3 H5 ys (by omega) hlt hj ⟨(wk I5).pins_of fun p hp => ?_, c3, c4, c5, xe5, hr5, ap.link ys _ _ c1 z.link, ra5⟩ (fun b hb o e => c1 b hb o (hs0 b hb o e)) qb)
      obtain ⟨hb, e⟩ := of_pinsAt hp
      obtain ⟨o, e', hc⟩ := c3 p.1 hb
      rw [e] at e'; cases e'
      obtain ⟨o2, e2, hc2⟩ := z.own p.1 hb
      have w := z.inv.pin (p.1, o2) (List.mem_append_right _ (mem_pinsAt hb e2))
      exact ⟨e, c2 p.1 hb, w.2.2.1, w.2.2.2.1, hc⟩
    | true =>
      simp only [if_true] at qb ⊢
      have hyo : ∀ v, yieldOut (gxEnv X scope s4.heap.objs.size code) v = yieldValue v := fun v => by simp only [yieldOut, genEnv, hco, Bool.false_eq_true, if_false]
      simp only [hyo]
      rw [Sem.bind_eq_wrap', Sem.bind_eq_wrap', Sem.wrap_wrap, Sem.wrap_wrap]
      refine seg_wrap ?_
      rw [over_gx]
      cases ee : ge env1 ah3 with
      | ex c h => unfold bnd noEx at qb; rw [ee] at qb; cases qb
      | bad => unfold bnd noEx at qb; rw [ee] at qb; cases qb
      | ok d ah6 =>
      have qd : (if stop d then ret [d] else bnd (gxGo stop pat gi ge src.ok (wipeE env own) (src.xs.drop (i + 1))) fun ys => ret (d :: ys)) ah6 = .ok (DS.drop j) ah1 := by
        unfold bnd noEx at qb
        rw [ee] at qb
        exact qb
      refine wpAny_mono (pe.run _ s5 σ3 H5 (fun v H' => ∃ ι', Ext ah3.length ι5 H5 ah6.length ι' H' ∧ HRep P ι' ah6 H' ∧ RepV P.K ah6.length ι' H' d v) I5 ⟨ι5, ah3, env1, st5, by rw [ee]; exact fun ι' H' v a b c => ⟨ι', a, b, c⟩⟩) (fun v s6 h6 => ?_) fun _ _ f => (show False from f).elim
      obtain ⟨xv, H6, I6, r6, ι6, x6, hr6, p6⟩ := h6
      obtain ⟨c1, c2, c3, c4, c5⟩ := cs5 I6
      have xe6 := xe5.trans x6
      have ra6 := ra5.mono x6.toEx0 hr5.notup
      -- what is left
      have hd : ∃ r, DS.drop j = d :: r := by
        cases hst : stop d with
        | true => rw [hst, if_pos rfl] at qd; injection qd with e _; exact ⟨_, e.symm⟩
        | false =>
          rw [hst, if_neg Bool.false_ne_true] at qd
          unfold bnd at qd
          cases er : gxGo stop pat gi ge src.ok (wipeE env own) (src.xs.drop (i + 1)) ah6 with
          | ex c h => rw [er] at qd; cases qd
          | bad => rw [er] at qd; cases qd
          | ok r h => rw [er] at qd; injection qd with e _; exact ⟨r, e.symm⟩
      obtain ⟨r, hdr⟩ := hd
      obtain ⟨t1, t2, t3, t4⟩ := take_snoc hdr
      have en : DS.length - j = (DS.length - (j + 1)) + 1 := by omega
      rw [en]
      refine seg_at (seg_yield rfl rfl rfl ⟨ys, xv, H6, j, d, by omega, t2, r6, facts I6 c2, ap.link ys _ _ c1 z.link, fun b hb o e => c1 b hb o (hs0 b hb o e), ⟨_, _, p6⟩, fun hst => ?_, fun hst s' sl => ?_⟩)
      · rw [hst, if_pos rfl] at qd
        obtain ⟨e, eh⟩ : [d] = DS.drop j ∧ ah6 = ah1 := by injection qd with q1 q2; exact ⟨q1, q2⟩
        subst eh
        refine ⟨facts I6 c2, ι6, xe6, hr6, ?_⟩
        have : DS = DS.take j ++ [d] := by rw [e, List.take_append_drop]
        rw [this]
        exact ra6.append (RepVs.one p6)
      · rw [hst, if_neg Bool.false_ne_true] at qd
        have qn : gxGo stop pat gi ge src.ok (wipeE env own) (src.xs.drop (i + 1)) ah6 = .ok (DS.drop (j + 1)) ah1 := by
          unfold bnd at qd
          cases er : gxGo stop pat gi ge src.ok (wipeE env own) (src.xs.drop (i + 1)) ah6 with
          | ex c h => rw [er] at qd; cases qd
          | bad => rw [er] at qd; cases qd
          | ok r2 h =>
            rw [er] at qd
            obtain ⟨e, eh⟩ : d :: r2 = DS.drop j ∧ h = ah1 := by injection qd with q1 q2; exact ⟨q1, q2⟩
            rw [hdr] at e
            injection e with _ e
            rw [e, t3, eh]
        have I7 := gx_woken (a := a) (cs := cs) (fp := fp) (Lk := Lk) (s' := s') (fun p hp => by rw [List.mem_singleton.mp hp]) ap I6 c2 (fun b hb => by
          obtain ⟨o, e, _⟩ := z.own b hb
          exact (z.inv.pin (b, o) (List.mem_append_right _ (mem_pinsAt hb e))).2.2.2.1) sl
        refine seg_again rfl (ih (i + 1) (j + 1) s' s' ι6 ah6 H6 (ys ++ [xv]) (by omega) hlt t1 ⟨wk I7, sl.own, T.keep _ _ _ c4 fun b hb o e => sl.keep b o (fun hc => (ap.young b hc).2.2.1 hb) e, c5, xe6, hr6, sl.link ys xv r6 (ap.link ys _ _ c1 z.link), ?_⟩ (fun _ _ _ e => e) qn)
        rw [t4]
        exact ra6.append (RepVs.one p6)

/-- the same from its beginning -/
theorem gx_first {A : Around} {s4 : Shared} {H4 : Hp} {scope : Scope} {code : Value} {fp cs : List Addr} {a : Addr} {g : Nat} {go : Obj} {tn : Nat → Heap → Prop} {Lk : List V → Heap → Prop} {stop : D → Bool} {it : Addr} {J : It} {src : Src} {N0 : Nat} {ι0 : Pl} {H0 : Hp} {σ : L2.St} {env : Env} {DS : List D} {ah1 : AH}
    {elt tgt iter : Expr} {ifs : List Expr} {pos : Pos} {own : List Nat} {pat : Pat} {gi : Env → M Bool} {ge : Env → M D}
    (hgo : ∀ h : Heap, h.get? a = some go → h.IsGen a g) (T : Turn X.prog X.w X.K tgt J fp it tn) (io : ItOk P N0 ι0 H0 src J) (ap : GxApart (gxCx X A s4 H4 scope code fp [(a, go)]) fp cs Lk a) (haf : a ∉ fp) (hown : ∀ i ∈ pat.slots, i ∈ own)
    (pg : PG (gxCx X A s4 H4 scope code fp [(a, go)]) tgt (gP P pat)) (pt : DTs (gxCx X A s4 H4 scope code fp [(a, go)]) P W0 ifs gi) (pe : DE (gxCx X A s4 H4 scope code fp [(a, go)]) P W0 elt ge)
    (hco : scope.isCoroutine = false) (h0 : EnvRep P N0 ι0 H0 env σ) (hnt : NoTup N0 ι0 H0) {s : Shared} {ι : Pl} {ah : AH} {H : Hp} (s₀ : Shared)
    (z : GxSt (gxCx X A s4 H4 scope code fp [(a, go)]) P (L2.wipe σ own) fp cs tn Lk N0 ι0 H0 0 ι ah H [] [] s) (hs0 : ∀ b ∈ cs, ∀ o, s₀.heap.get? b = some o → s.heap.get? b = some o)
    (q : gxGo stop pat gi ge src.ok (wipeE env own) src.xs ah = .ok DS ah1) :
    Seg (model X.prog X.w) A (GxRe X P s4 H4 fp a g cs Lk N0 ι0 H0 DS ah1) (GxY X P s4 H4 fp a g cs Lk stop N0 ι0 H0 DS ah1) DS.length s₀ (.compStart (.GeneratorExp elt [⟨tgt, iter, ifs, 0⟩] scope pos) 0 (.ref it) .none (gxEnv X scope s4.heap.objs.size code))
        ((model X.prog X.w).den (.compStart (.GeneratorExp elt [⟨tgt, iter, ifs, 0⟩] scope pos) 0 (.ref it) .none (gxEnv X scope s4.heap.objs.size code))) [] s := by
  have loop := gx_loop (iter := iter) (pos := pos) hgo T io ap haf hown pg pt pe hco h0 hnt (stop := stop) (DS := DS) (ah1 := ah1) _ 0 0 s₀ s ι ah H [] rfl (Nat.zero_le _) (Nat.zero_le _) (by rw [List.take_zero]; exact z) hs0 (by rw [List.drop_zero, List.drop_zero]; exact q)
  rw [Nat.sub_zero] at loop
  show Seg _ A _ _ _ s₀ _ ((compStart (.GeneratorExp elt [⟨tgt, iter, ifs, 0⟩] scope pos) 0 (.ref it) .none (gxEnv X scope s4.heap.objs.size code)).onRaise (leaving (gxEnv X scope s4.heap.objs.size code))) [] s
  unfold compStart
  rw [Sem.onRaise_eq_wrap]
  show Seg _ A _ _ _ s₀ _ ((ask >>= _).wrap _ _ _ _) [] s
  refine seg_bind_wrap (wpAny_askSetting ?_)
  split
  · exact seg_again rfl loop
  · first
      | exact seg_bind_wrap (wpAny_rule (seg_bind_wrap (wpAny_standAt (seg_bind_wrap (T.self _ 0 s _ _ z.tn (seg_again rfl loop))))))
      | (refine seg_bind_wrap (wpAny_rule ?_); show Seg _ A _ _ _ s₀ _ ((standAt iter.pos >>= _).wrap _ _ _ _) [] s; exact seg_bind_wrap (wpAny_standAt (seg_bind_wrap (T.self _ 0 s _ _ z.tn (seg_again rfl loop)))))

/-! ### its next -/
section
variable (X : Cx) (P : Pm) (s4 : Shared) (H4 : Hp) (fp : List Addr) (a : Addr) (g : Nat) (cs : List Addr) (Lk : List V → Heap → Prop) (stop : D → Bool) (N0 : Nat) (ι0 : Pl) (H0 : Hp) (DS : List D) (ah1 : AH)
/-- the generator sleeps: so many are to come -/
structure GxAt (A : Around) (n : Nat) (s : Shared) : Prop where
  gen : s.heap.IsGen a g
  lim : s.heap.NoLimit
  go : ∃ gs, s.gens[g]? = some gs ∧ gs.Goes (model X.prog X.w) A (GxRe X P s4 H4 fp a g cs Lk N0 ι0 H0 DS ah1) (GxY X P s4 H4 fp a g cs Lk stop N0 ι0 H0 DS ah1) n (.send .none) (s.setGen g .running)
end
theorem GxFx.moved {s4 : Shared} {H4 : Hp} {fp : List Addr} {a : Addr} {g : Nat} {cs : List Addr} {H : Hp} {s s' : Shared} (z : GxFx X s4 H4 fp a g cs H s) (os : s'.os = s.os) (hb : AllBare s'.gens) (k : ∀ b o, s.heap.get? b = some o → s'.heap.get? b = some o) : GxFx X s4 H4 fp a g cs H s' :=
  ⟨os.trans z.os, hb, z.un.trans (Un.kept k), z.hok.kept k, z.lim.keeps k, z.gen.keeps k, z.cs⟩
theorem GxEnd.moved {s4 : Shared} {H4 : Hp} {fp : List Addr} {a : Addr} {g : Nat} {cs : List Addr} {N0 : Nat} {ι0 : Pl} {H0 : Hp} {DS : List D} {ah1 : AH} {ys : List V} {H : Hp} {s s' : Shared} (z : GxEnd X P s4 H4 fp a g cs N0 ι0 H0 DS ah1 H s ys) (os : s'.os = s.os) (hb : AllBare s'.gens)
    (k : ∀ b o, s.heap.get? b = some o → s'.heap.get? b = some o) : GxEnd X P s4 H4 fp a g cs N0 ι0 H0 DS ah1 H s' ys := ⟨z.1.moved os hb k, z.2⟩
theorem gx_next {s4 : Shared} {H4 : Hp} {fp : List Addr} {a : Addr} {g : Nat} {cs : List Addr} {Lk : List V → Heap → Prop} {stop : D → Bool} {N0 : Nat} {ι0 : Pl} {H0 : Hp} {DS : List D} {ah1 : AH} {A : Around} {n : Nat} {s : Shared} {Q : Option Value → Shared → Prop} {E : Value → Shared → Prop}
    (hl : ∀ ys (h h' : Heap), (∀ b ∈ cs, ∀ o, h.get? b = some o → h'.get? b = some o) → Lk ys h → Lk ys h')
    (hh : A.handled = none) (hroom : A.depth < recursionLimit) (z : GxAt X P s4 H4 fp a g cs Lk stop N0 ι0 H0 DS ah1 A.in1 n s)
    (hY : ∀ v s1 ys x H j d, j + 1 + (n - 1) = DS.length → DS[j]? = some d → RelV x v → GxFx X s4 H4 fp a g cs H s1 → Lk ys s1.heap → (∀ b ∈ cs, ∀ o, s.heap.get? b = some o → s1.heap.get? b = some o) → (∃ N ι, RepV P.K N ι H d x) →
      (stop d = true → GxEnd X P s4 H4 fp a g cs N0 ι0 H0 DS ah1 H s1 (ys ++ [x])) →
      (stop d = false → ∀ h' t', (∀ b o, b ∉ cs → s1.heap.get? b = some o → h'.get? b = some o) → (∀ b ∈ cs, ∃ o, h'.get? b = some o ∧ ∀ u, o.data ≠ .cell u) → (∀ ys x, RelV x v → Lk ys s1.heap → Lk (ys ++ [x]) h') → h'.IsGen a g → h'.NoLimit →
        ∃ m, n = m + 1 ∧ GxAt X P s4 H4 fp a g cs Lk stop N0 ι0 H0 DS ah1 A.in1 m { s1 with heap := h', toks := t' }) → Q (some v) s1)
    (hP : ∀ s1 ys H, n = 0 → (∀ b ∈ cs, ∀ o, s.heap.get? b = some o → s1.heap.get? b = some o) → Lk ys s1.heap → GxEnd X P s4 H4 fp a g cs N0 ι0 H0 DS ah1 H s1 ys → Q none s1) :
    wpAny (model X.prog X.w) A (pyNext (.ref a)) Q E s := by
  obtain ⟨hg, hlim, gs, hgs, hgo⟩ := z
  have hgl : g < s.gens.size := (Array.getElem?_eq_some_iff.mp hgs).1
  refine GenW.wpAny_gsz (n := g + 1) hgl (wpAny_pyNext_genexpQ (P := fun n s₀ s => n = 0 ∧ (∀ b ∈ cs, ∀ o, s₀.heap.get? b = some o → s.heap.get? b = some o) ∧ ∃ ys H, Lk ys s.heap ∧ GxEnd X P s4 H4 fp a g cs N0 ι0 H0 DS ah1 H s ys) hh hlim hroom hg hgs hgo (fun v s₁ gs' hbare hv hsz => ?_) (fun s₁ hp h' hk _ => ?_))
  · obtain ⟨ys, x, H, j, d, e1, e2, rx, fx, lk, same, rep, h1, h2⟩ := hv
    have hsz1 : g < s₁.gens.size := by
      have q : (s₁.setGen g gs').gens.size = s₁.gens.size := GenW.setGen_size _ _ _
      have hsz' : g + 1 ≤ (s₁.setGen g gs').gens.size := hsz
      omega
    have hb1 : AllBare (s₁.setGen g gs').gens := allBare_setGen fx.bare hbare
    refine hY v (s₁.setGen g gs') ys x H j d e1 e2 rx (fx.moved rfl hb1 fun _ _ e => e) lk same rep (fun hst => (h1 hst).moved rfl hb1 fun _ _ e => e) fun hst h' t' k1 k2 k3 k4 k5 => ?_
    have sl : GxSlept cs Lk v s₁ (({ s₁.setGen g gs' with heap := h', toks := t' } : Shared).setGen g .running) := ⟨rfl, allBare_setGen (s := { s₁.setGen g gs' with heap := h', toks := t' }) hb1 rfl, fun b o hb e => k1 b o hb e, k2, k3⟩
    have := h2 hst _ sl
    cases n with
    | zero => exact this.elim
    | succ m => exact ⟨m, rfl, k4, k5, gs', setGen_at hsz1, this⟩
  · obtain ⟨hn, same, ys, H, lk, en⟩ := hp
    have hb1 : AllBare (s₁.setGen g .finished).gens := allBare_setGen en.1.bare rfl
    exact hP _ ys H hn (fun b hb o e => hk b o (same b hb o e)) (hl ys _ _ (fun b _ o e => hk b o e) lk) (en.moved rfl hb1 hk)

/-! ### the expression -/
def NE {α : Type} (m : M α) : Prop := ∀ h c h', m h ≠ .ex c h'
theorem NE.bnd {α β : Type} {m : M α} {f : α → M β} (h : NE m) (k : ∀ a, NE (f a)) : NE (bnd m f) := fun ah c h' e => by
  unfold PyD.bnd at e
  cases e1 : m ah with
  | ex c h9 => exact h _ _ _ e1
  | bad => rw [e1] at e; cases e
  | ok y h2 => rw [e1] at e; exact k y _ _ _ e
theorem NE.no {α : Type} {m : M α} : NE (noEx m) := fun ah c h' e => by
  unfold noEx at e
  cases e1 : m ah <;> rw [e1] at e <;> cases e
theorem NE.ret {α : Type} {a : α} : NE (ret a) := fun ah c h' e => by cases e
theorem gxGo_noex {stop : D → Bool} {pat : Pat} {gi : Env → M Bool} {ge : Env → M D} {ok : AH → Bool} {env : Env} {c : Nat} {h' : AH} : ∀ (xs : List D) (h : AH), gxGo stop pat gi ge ok env xs h ≠ .ex c h' := fun xs h => by
  have : ∀ xs, NE (gxGo stop pat gi ge ok env xs) := by
    intro xs
    induction xs with
    | nil =>
      intro h c h' e
      simp only [gxGo] at e
      split at e <;> cases e
    | cons x xs ih =>
      intro h c h' e
      simp only [gxGo] at e
      split at e
      · split at e
        · refine NE.bnd NE.no (fun b => ?_) h c h' e
          cases b with
          | false => exact ih
          | true =>
            refine NE.bnd NE.no fun y => ?_
            by_cases z : stop y = true
            · rw [if_pos z]; exact NE.ret
            · rw [if_neg z]; exact NE.bnd ih fun ys => NE.ret
        · cases e
      · cases e
  exact this xs h c h'
theorem ItOk.later {N N1 : Nat} {ι ι1 : Pl} {H H1 : Hp} {src : Src} {J : It} (io : ItOk P N ι H src J) (x : Ext N ι H N1 ι1 H1) : ItOk P N1 ι1 H1 src J :=
  ⟨fun i d ι2 ah2 H2 e x2 => io.go i d ι2 ah2 H2 e (x.trans x2), fun ι2 ah2 H2 x2 => io.stop ι2 ah2 H2 (x.trans x2)⟩
/-- the table has grown by the new code object at c -/
theorem HRep.grown {ι : Pl} {ah : AH} {H : Hp} {P0 c : Addr} {q : Str} {ps : Array Value} {pos : Pos} (h : HRep P ι ah H) (hP : H P0 = some (.tbl ps)) (htr : TriplesOk ps.toList) (hc : H c = none) (hu : ∀ p ∈ P.tabs, p.1 = P0 → p.2 = q) :
    Ext ah.length ι H ah.length ι (upd (upd H P0 (.tbl (ps ++ #[rawInt pos.line, rawInt pos.col, .ref c]))) c (LamX.CodeO c q)) ∧ HRep P ι ah (upd (upd H P0 (.tbl (ps ++ #[rawInt pos.line, rawInt pos.col, .ref c]))) c (LamX.CodeO c q)) := by
  have ho := h.out hP (fun z => z)
  have nPc : P0 ≠ c := ne_of_none hP hc
  have at_ : ∀ b, b ≠ P0 → b ≠ c → upd (upd H P0 (.tbl (ps ++ #[rawInt pos.line, rawInt pos.col, .ref c]))) c (LamX.CodeO c q) b = H b := fun b h1 h2 => by rw [upd_ne h2, upd_ne h1]
  have x0 : Ex0 ah.length ι H ah.length ι (upd (upd H P0 (.tbl (ps ++ #[rawInt pos.line, rawInt pos.col, .ref c]))) c (LamX.CodeO c q)) := by
    refine ⟨Nat.le_refl _, fun _ _ => rfl, fun a o e t _ => ?_, fun a o e t => ?_, fun n h1 h2 => absurd h2 (Nat.not_lt.mpr h1), fun _ => .inl⟩
    · rw [at_ a (fun z => t ps (by rw [z, hP] at e; exact (Option.some.inj e).symm)) (ne_of_none e hc)]; exact e
    · exact ⟨o, by rw [at_ a (fun z => t ps (by rw [z, hP] at e; exact (Option.some.inj e).symm)) (ne_of_none e hc)]; exact e, t⟩
  have hid : ∀ a, ι.hid a → a ≠ P0 ∧ a ≠ c := fun a ha => ⟨fun z => ho.2 (by rw [← z]; exact ha), h.hne hc a ha⟩
  refine ⟨⟨x0, fun a ha => ⟨ha, at_ a (hid a ha).1 (hid a ha).2⟩⟩, ⟨h.inj, fun n o q => (h.at_ n o q).mono x0 h.notup (at_ _ (ho.1 n (List.getElem?_eq_some_iff.mp q).1) (h.ne hc n (List.getElem?_eq_some_iff.mp q).1)), fun a ha => ⟨by rw [at_ a (hid a ha).1 (hid a ha).2]; exact (h.hd a ha).1, (h.hd a ha).2⟩, fun p hp => ?_⟩⟩
  obtain ⟨qs, h1, h2, h3⟩ := h.tab p hp
  have code : ∀ b, H b = some (LamX.CodeO b p.2) → upd (upd H P0 (.tbl (ps ++ #[rawInt pos.line, rawInt pos.col, .ref c]))) c (LamX.CodeO c q) b = some (LamX.CodeO b p.2) := fun b e => by
    rw [at_ b (fun z => by rw [z, hP] at e; exact LamX.codeO_ne ps (Option.some.inj e).symm) (ne_of_none e hc)]; exact e
  by_cases e0 : p.1 = P0
  · rw [e0, hP] at h1
    cases h1
    have eL : (ps ++ #[rawInt pos.line, rawInt pos.col, .ref c]).toList = ps.toList ++ [rawInt pos.line, rawInt pos.col, .ref c] := by simp
    refine ⟨_, by rw [e0, upd_ne nPc, upd_same], by rw [eL]; exact PySem.TriplesOk_snoc _ _ _ _ htr, fun p' cv hcv => ?_⟩
    rw [eL] at hcv
    rcases LamX.among_app _ htr hcv with z | z
    · obtain ⟨b, e1, e2⟩ := h3 p' cv z
      exact ⟨b, e1, code b e2⟩
    · exact ⟨c, z, by rw [hu p hp e0]; exact upd_same⟩
  · refine ⟨qs, by rw [at_ _ e0 (ne_of_none h1 hc)]; exact h1, h2, fun p' cv hcv => ?_⟩
    obtain ⟨b, e1, e2⟩ := h3 p' cv hcv
    exact ⟨b, e1, code b e2⟩
/-- the consumer's own things, made behind the generator -/
structure GxOwn (cs : List Addr) (Lk : List V → Heap → Prop) (s5 s6 : Shared) : Prop where
  young : ∀ b ∈ cs, s5.heap.objs.size ≤ b
  own : ∀ b ∈ cs, ∃ o, s6.heap.get? b = some o ∧ ∀ u, o.data ≠ .cell u
  link : ∀ ys (h h' : Heap), (∀ b ∈ cs, ∀ o, h.get? b = some o → h'.get? b = some o) → Lk ys h → Lk ys h'
  first : Lk [] s6.heap
  keep : ∀ b o, s5.heap.get? b = some o → s6.heap.get? b = some o
  os : s6.os = s5.os
  gens : s6.gens = s5.gens
/-- what its end tells the one who walks it -/
theorem gx_back {pins : List (Addr × Obj)} {σ : L2.St} {s4 : Shared} {H4 : Hp} {fp : List Addr} {a : Addr} {g : Nat} {cs : List Addr} {H : Hp} {s : Shared} (I : L2.Inv X pins σ H4 s4) (hfp : ∀ b ∈ fp, FpOk X pins H4 b) (z : GxFx X s4 H4 fp a g cs H s) : L2.Inv X pins σ H s :=
  I.call' (ch := fp) z.os z.un z.hok z.bare fun b hb => ⟨(hfp b hb).2.2.2.1, (hfp b hb).2.1, (hfp b hb).2.2.2.2.1, (hfp b hb).2.2.2.2.2⟩
/-- what stands ready: all that will come out is DS -/
def GxReady (X : Cx) (P : Pm) (pins : List (Addr × Obj)) (σ : L2.St) (stop : D → Bool) (k : Nat) (N : Nat) (ι : Pl) (H : Hp) (DS : List D) (ah1 : AH) (a : Addr) (s5 : Shared) : Prop :=
  ∃ s4 H4 fp g ι0 N0, L2.Inv X pins σ H4 s4 ∧ (∀ b ∈ fp, FpOk X pins H4 b) ∧ Ext N ι H N0 ι0 H4 ∧ s5.heap.IsGen a g ∧ a < s5.heap.objs.size ∧ (∀ b o, s4.heap.get? b = some o → s5.heap.get? b = some o) ∧
    ∀ (A : Around) (cs : List Addr) (Lk : List V → Heap → Prop) (s6 : Shared), Room (k + 1) A → A.frames = some X.stack → GxOwn cs Lk s5 s6 → GxAt X P s4 H4 fp a g cs Lk stop N0 ι0 H4 DS ah1 A DS.length s6
theorem gx_eval {elt tgt iter : Expr} {ifs : List Expr} {scope : Scope} {own : List (Str × Nat)} {pos : Pos} {pat : Pat} {f : Env → M Src} {gi : Env → M Bool} {ge : Env → M D} {stop : D → Bool} {k : Nat} {cO P0 : Addr} {kk : List D → M D} {Q : VK} {Q' : Value → Shared → Prop} {E1 : Value → Shared → Prop}
    {pins : List (Addr × Obj)} {σ : L2.St} {H : Hp} {s : Shared} {ι : Pl} {ah : AH} {env : Env}
    (c : Ctx X P W) (hr : Room (k + 1) X.A) (TB : _root_.GxR.TabB X.base X.mg cO P0) (hcode : X.env.code = .ref cO) (hmem : (P0, X.env.qual ++ "<genexpr>") ∈ P.tabs) (hu : ∀ p ∈ P.tabs, p.1 = P0 → p.2 = X.env.qual ++ "<genexpr>")
    (hi : DI X P W tgt iter f) (ok : BlkOk X.N X.env.scope scope own) (hown : ∀ i ∈ pat.slots, i ∈ own.map (·.2)) (hcell : ∀ y ∈ scope.names, y.2 ≠ .cell) (hdot : scope.names.lookup (".0" : Str) = some NameKind.local) (hco : scope.isCoroutine = false)
    (hg : ∀ (A : Around) (s : Shared) (H : Hp) (code : Value) (fp : List Addr) (pn : List (Addr × Obj)), Room k (gxCx X A s H scope code fp pn).A → Ctx (gxCx X A s H scope code fp pn) P W0 → PG (gxCx X A s H scope code fp pn) tgt (gP P pat))
    (ht : ∀ (A : Around) (s : Shared) (H : Hp) (code : Value) (fp : List Addr) (pn : List (Addr × Obj)), Room k (gxCx X A s H scope code fp pn).A → Ctx (gxCx X A s H scope code fp pn) P W0 → DTs (gxCx X A s H scope code fp pn) P W0 ifs gi)
    (he : ∀ (A : Around) (s : Shared) (H : Hp) (code : Value) (fp : List Addr) (pn : List (Addr × Obj)), Room k (gxCx X A s H scope code fp pn).A → Ctx (gxCx X A s H scope code fp pn) P W0 → DE (gxCx X A s H scope code fp pn) P W0 elt ge)
    (hs : ∀ v, genFold iter X.env v = pure v) (I : L2.Inv X pins σ H s) (st : Sta P ι ah env σ H) (q : Fin (rV P) P W σ ι ah.length H (bnd (eGx stop (own.map (·.2)) pat f gi ge env) kk ah) Q)
    (hQ : ∀ a s5 N ι1 H1 DS ah1, GxReady X P pins σ stop k N ι1 H1 DS ah1 a s5 → Fin (rV P) P W σ ι1 N H1 (kk DS ah1) Q → Q' (.ref a) s5) :
    wpAny (model X.prog X.w) X.A (eval (.GeneratorExp elt [⟨tgt, iter, ifs, 0⟩] scope pos) X.env) Q' X.xe s := by
  have hfree : ∀ y ∈ scope.names, y.2 = .free → ∃ c, X.env.cells.lookup y.1 = some c := fun y hy e => by
    rcases ok.free y hy e with k | k
    · exact I.ok.has _ (.inl k)
    · exact I.ok.has _ (.inr k)
  unfold eGx at q
  rw [bnd_assoc] at q
  refine wpAny_GeneratorExp_make hco (closure_ok hfree) hcell hdot ok.kind (by have := hr.dp; omega) ?_ hs
  refine thn (hi.run pins s σ H (fun J H1 => ∃ ι1 ah1 src, Ext ah.length ι H ah1.length ι1 H1 ∧ HRep P ι1 ah1 H1 ∧ ItOk P ah1.length ι1 H1 src J ∧ Fin (rV P) P W σ ι1 ah1.length H1 (bnd (fun h => if src.xs.length ≤ sizeLine then gxGo stop pat gi ge src.ok (wipeE env (own.map (·.2))) src.xs h else .bad) kk ah1) Q) I ⟨ι, ah, env, st, q.step (Rp := fun N ι H src J => ItOk P N ι H src J)⟩) fun xv s1 h1 => ?_
  refine thn h1 fun itv s2 h2 => ?_
  obtain ⟨it, fp, tn, J, H2, e, I2, T, st2, f2, ι1, ah1, src, x1, hr1, io, q1⟩ := h2
  subst e
  by_cases hz : src.xs.length ≤ sizeLine
  case neg =>
    unfold bnd at q1
    dsimp only at q1
    rw [if_neg hz] at q1
    exact q1.elim
  cases eg : gxGo stop pat gi ge src.ok (wipeE env (own.map (·.2))) src.xs ah1 with
  | bad =>
    unfold bnd at q1
    dsimp only at q1
    rw [if_pos hz, eg] at q1
    exact q1.elim
  | ex c h => exact absurd eg (gxGo_noex _ _)
  | ok DS ahE =>
  have q2 : Fin (rV P) P W σ ι1 ah1.length H2 (kk DS ahE) Q := by
    unfold bnd at q1
    dsimp only at q1
    rw [if_pos hz, eg] at q1
    exact q1
  obtain ⟨ps, hP, htr, _⟩ := hr1.tab _ hmem
  replace hP : H2 P0 = some (.tbl ps) := hP
  have hPs : s2.heap.get? P0 = some { cls := .none, data := .fields ps } := I2.hok P0 _ hP
  have hPlt : P0 < s2.heap.objs.size := Heap.lt_size hPs
  refine ⟨I2.nolimit, ?_⟩
  have cd : PySem.W.CodeHd s2.heap cO P0 := TB.code.keeps I2.bk
  have hbP : ∀ b ∈ fp, b ≠ P0 := fun b hb z => by have := (f2 b hb).1; rw [z, hP] at this; cases this
  have fpE : ∀ b ∈ fp, b < s2.heap.objs.size := fun b hb => by
    obtain ⟨o, e, _⟩ := T.obj _ _ st2 b hb
    exact Heap.lt_size e
  have cont : ∀ (code : Value) (h3 : Heap) (tk : Nat) (H4 : Hp), Heap.ExtBut P0 s2.heap h3 → s2.heap.objs.size ≤ h3.objs.size → L2.Inv X pins σ H4 { s2 with heap := h3, toks := tk } → Ext ah1.length ι1 H2 ah1.length ι1 H4 → HRep P ι1 ah1 H4 → (∀ b ∈ fp, H4 b = none) →
      wpAny (model X.prog X.w) X.A (builtinsFor X.env.globals X.env.builtins) (fun bi s₄ => ∀ h', h'.Ns s₄.heap.objs.size (fun y => if y = ".0" then some (.ref it) else none) → Heap.SameBut s₄.heap.objs.size (s₄.heap.push { cls := .type "frame", data := .dict #[] }) h' →
          Q' (.ref h'.objs.size) { s₄ with
            gens := s₄.gens.push (.fresh (.compStart (.GeneratorExp elt [⟨tgt, iter, ifs, 0⟩] scope pos) 0 (.ref it) .none (genEnv scope (cloFrom X.env.cells scope.names []) s₄.heap.objs.size code bi X.env))),
            toks := s₄.toks + 1 + 1 + 1,
            heap := h'.push { cls := .type "generator", data := .fields #[.int s₄.gens.size 0, .str "<genexpr>" (s₄.toks + 1), .str (X.env.qual ++ "<genexpr>") (s₄.toks + 1 + 1)] } }) X.xe { s2 with heap := h3, toks := tk } := by
    intro code h3 tk H4 hx hsz I4 xg hrg hf4
    obtain ⟨bm, ob, e1, e2, e3, e4, e5, e6, e7, e8⟩ := TB.bm
    have keep3 : ∀ b u, b ≠ P0 → s2.heap.get? b = some u → h3.get? b = some u := fun b u hb e => hx b u hb e
    refine wpAny_builtinsFor (m := X.mg) (by rw [I2.ok.glob]; exact (I2.mod.glob.keeps I2.bk).extBut hx TB.gP) e1 e2 (keep3 _ _ e4 (I2.bk _ _ e5)) e6 e7 e8 ?_
    intro h' hns hsb
    have f4 : ∀ b ∈ fp, FpOk X pins H4 b ∧ b < ({ s2 with heap := h3, toks := tk } : Shared).heap.objs.size := fun b hb => ⟨⟨hf4 b hb, (f2 b hb).2⟩, Nat.lt_of_lt_of_le (fpE b hb) hsz⟩
    have hCl : h3.objs.size < h'.objs.size := hns.lt
    have k34 : ∀ b o, h3.get? b = some o → h'.get? b = some o := fun b o e => (hsb.2 b (Nat.ne_of_lt (Heap.lt_size e))).trans (Heap.get?_push_of_some _ e)
    generalize hgob : ({ cls := .type "generator", data := .fields #[.int s2.gens.size 0, .str "<genexpr>" (tk + 1), .str (X.env.qual ++ "<genexpr>") (tk + 1 + 1)] } : Obj) = go
    have hgen : ∀ h : Heap, h.get? h'.objs.size = some go → h.IsGen h'.objs.size s2.gens.size := fun h e => ⟨go, _, _, e, by rw [← hgob], by rw [← hgob], by rw [← hgob]⟩
    have hgd : ∀ v, go.data ≠ .cell v := fun v e => by rw [← hgob] at e; cases e
    have hpush : (h'.push go).get? h'.objs.size = some go := by rw [← hgob]; exact Heap.get?_push_size _ rfl
    have bare5 : AllBare (s2.gens.push (.fresh (.compStart (.GeneratorExp elt [⟨tgt, iter, ifs, 0⟩] scope pos) 0 (.ref it) .none (genEnv scope (cloFrom X.env.cells scope.names []) h3.objs.size code builtinsNs X.env)))) := AllBare.push I2.bare rfl
    refine hQ _ _ ah1.length ι1 H2 DS ahE ⟨{ s2 with heap := h3, toks := tk }, _, fp, s2.gens.size, ι1, ah1.length, I4, fun b hb => (f4 b hb).1, xg, hgen _ hpush, by show _ < (h'.push go).objs.size; rw [Heap.size_push]; exact Nat.lt_succ_self _, fun b o e => Heap.get?_push_of_some _ (k34 b o e), fun A cs Lk s6 hrA hfr own6 => ?_⟩ q2
    have IG0 : L2.Inv (gxCx X A { s2 with heap := h3, toks := tk } H4 scope code fp []) [] (L2.wipe σ (own.map (·.2))) H4 { s2 with heap := h', toks := tk } :=
      gx_start I4 ok c.nd hcell f4 hrA.hd hfr hns k34 rfl I2.bare
    have k6 : ∀ b o, h'.get? b = some o → s6.heap.get? b = some o := fun b o e => own6.keep b o (Heap.get?_push_of_some _ e)
    have b6 : AllBare (s6.setGen s2.gens.size .running).gens := allBare_setGen (by rw [own6.gens]; exact bare5) rfl
    have IG1 : L2.Inv (gxCx X A { s2 with heap := h3, toks := tk } H4 scope code fp []) [] (L2.wipe σ (own.map (·.2))) H4 (s6.setGen s2.gens.size .running) :=
      gx_start I4 ok c.nd hcell f4 hrA.hd hfr (hns.keeps k6) (fun b o e => k6 b o (k34 b o e)) own6.os b6
    have young : ∀ b, h'.objs.size ≤ b → H4 b = none ∧ b ≠ h3.objs.size ∧ b ∉ frs X.stack := fun b hb => by
      have hb3 : h3.objs.size < b := Nat.lt_of_lt_of_le hCl hb
      refine ⟨I4.hok.fresh (Nat.le_of_lt hb3), Nat.ne_of_gt hb3, fun z => ?_⟩
      rcases List.mem_cons.mp (I4.stkSub b z) with e | e
      · have h1 := I4.lt
        rw [← e] at h1
        exact absurd (Nat.lt_trans h1 hb3) (Nat.lt_irrefl _)
      · exact I4.nofs (Nat.le_of_lt hb3) e
    have csz : ∀ b ∈ cs, h'.objs.size < b := fun b hb => by
      have := own6.young b hb
      have h5 : (h'.push go).objs.size ≤ b := this
      rw [Heap.size_push] at h5
      exact h5
    have ea : s6.heap.get? h'.objs.size = some go := own6.keep _ _ hpush
    have IG : L2.Inv (gxCx X A { s2 with heap := h3, toks := tk } H4 scope code fp [(h'.objs.size, go)]) (pinsAt cs s6.heap) (L2.wipe σ (own.map (·.2))) H4 (s6.setGen s2.gens.size .running) := by
      refine gx_pinned IG1 fun p hp => ?_
      rcases List.mem_append.mp hp with z | z
      · rw [List.mem_singleton.mp z]
        obtain ⟨y1, y2, y3⟩ := young _ (Nat.le_refl _)
        exact ⟨ea, y1, y2, y3, hgd⟩
      · obtain ⟨hb, e⟩ := of_pinsAt z
        obtain ⟨y1, y2, y3⟩ := young p.1 (Nat.le_of_lt (csz _ hb))
        obtain ⟨o, e2, hc⟩ := own6.own p.1 hb
        rw [e] at e2; cases e2
        exact ⟨e, y1, y2, y3, hc⟩
    have hafp : h'.objs.size ∉ fp := fun z => absurd (Nat.lt_trans (f4 _ z).2 hCl) (Nat.lt_irrefl _)
    have ap : GxApart (gxCx X A { s2 with heap := h3, toks := tk } H4 scope code fp [(h'.objs.size, go)]) fp cs Lk h'.objs.size := by
      refine ⟨fun b hb => ?_, own6.link⟩
      have hb1 := csz b hb
      refine ⟨Nat.le_of_lt (Nat.lt_trans hCl hb1), Nat.ne_of_gt (Nat.lt_trans hCl hb1), fun z => ?_, Nat.ne_of_gt hb1, fun x cc e z => ?_⟩
      · exact absurd (Nat.lt_trans (Nat.lt_trans (f4 _ z).2 hCl) hb1) (Nat.lt_irrefl _)
      · obtain ⟨v, w⟩ := IG0.cell x cc e
        have hl : cc < h'.objs.size := w.lt
        rw [z] at hl
        exact absurd (Nat.lt_trans hl hb1) (Nat.lt_irrefl _)
    have rk : Room k (A.deeper (gxEnv X scope h3.objs.size code)) := hrA.deeper _
    have cG : Ctx (gxCx X A { s2 with heap := h3, toks := tk } H4 scope code fp [(h'.objs.size, go)]) P W0 := ⟨c.k, rfl, c.nd, by have := rk.un; show (A.deeper (gxEnv X scope h3.objs.size code)).units + 200 < _; omega, fun _ _ x => by
      obtain ⟨_, _, _, _, _, _, _, _, _, _, _, _, _, _, _, _, z⟩ := x
      exact z.elim⟩
    have l5 : s6.heap.NoLimit := (I4.nolimit.keeps k34).keeps k6
    refine ⟨hgen _ ea, l5, .fresh (.compStart (.GeneratorExp elt [⟨tgt, iter, ifs, 0⟩] scope pos) 0 (.ref it) .none (genEnv scope (cloFrom X.env.cells scope.names []) h3.objs.size code builtinsNs X.env)), by rw [own6.gens]; exact Array.getElem?_push_size .., ?_⟩
    refine ⟨rfl, ?_⟩
    refine gx_first (s4 := { s2 with heap := h3, toks := tk }) (H4 := H4) (σ := σ) (env := env) (ah := ah1) (ι := ι1) (H := H4) (own := List.map (fun x : Str × Nat => x.2) own) hgen T (io.later xg) ap hafp hown (hg A _ _ code fp _ rk cG) (ht A _ _ code fp _ rk cG) (he A _ _ code fp _ rk cG) hco
      (((st.next x1 hr1).next xg hrg).env) hrg.notup _ ⟨IG, own6.own, ?_, fun b hb => (f4 b hb).1.1, Ext.refl, hrg, own6.first, by simp only [RepVs]⟩ (fun _ _ _ e => e) eg
    exact T.keep _ _ _ st2 fun b hb o e => k6 b o (k34 b o (keep3 b o (hbP b hb) e))
  cases hf : codeAmong pos ps.toList with
  | none =>
    refine wpAny_genexprCodeX hcode (cd.code hPs htr) (cd.tab hPs) hf fun c' h3 tk hx hge hlt hco' hrec htab' _ => ?_
    obtain ⟨c2, oc, vs, t, e2, hoc, hd, hv⟩ := hrec
    cases e2
    have hn : H2 c' = none := I2.hok.fresh hge
    obtain ⟨xg, hrg⟩ := hr1.grown (pos := pos) hP htr hn hu
    refine cont _ h3 tk _ hx (Nat.le_trans hge (Nat.le_of_lt hlt)) (LamX.inv_table (t' := tk) I2 hP (fun b o hb e => hx b o hb e) htab'.2 hge ⟨oc, vs, t, hoc, hd, hv⟩) xg hrg fun b hb => ?_
    rw [upd_ne (Nat.ne_of_lt (Nat.lt_of_lt_of_le (fpE b hb) hge)), upd_ne (hbP b hb)]
    exact (f2 b hb).1
  | some cv =>
    refine wpAny_genexprCode_hit hcode (cd.code hPs htr) hf ?_
    exact cont cv s2.heap s2.toks H2 (Heap.ExtBut.refl _ _) (Nat.le_refl _) I2 Ext.refl hr1 fun b hb => (f2 b hb).1
end
end PyD

/-! PyTupG: tuple of a generator, down to the collecting of its items. -/
namespace PyD
open PySem PySem.Spec L2
open PyProof.Rows hiding St
section
variable {X : Cx} {a : Addr}
theorem code_tuple_gx {A : Around} {E : Value → Shared → Prop} {s5 : Shared} {Q₁ : Value → Shared → Prop} (hgen : ∃ g, s5.heap.IsGen a g) (hcol : ∀ {Q : List Value → Shared → Prop} {E : Value → Shared → Prop}, (∀ us s', Q₁ (.ref s'.heap.objs.size) { s' with heap := s'.heap.push { cls := .type "tuple", data := .seq us.toArray } } → us.length ≤ sizeLine → Q us s') → wpAny (model X.prog X.w) A.in1 (collect (.ref a)) Q E s5) :
    codeAny (model X.prog X.w) A (.call (.builtin "tuple.__new__") ⟨[.type "tuple", .ref a], []⟩) (wants Q₁ E) s5 := by
  obtain ⟨g, hgen⟩ := hgen
  refine codeAny_of_tree ?_
  show wpAny _ A.in1 (do checkBuiltinCall "tuple.__new__" ⟨[.type "tuple", .ref a], []⟩; again (.builtin "tuple.__new__" ⟨[.type "tuple", .ref a], []⟩)) _ _ s5
  refine wpAny_bind (wpAny_of_eq (F.newCall_tuple_1 _) (wpAny_pure ⟨plainId_quiet F.plain_tuple_new _, codeAny_builtin F.entry_tuple_new ?_⟩))
  rw [Around.under_plainId F.plain_tuple_new _]
  have hsub := sub_tuple_self
  have hinit := init_tuple_lookup
  have hmh := madeHere_tuple
  have hTI := hgen.typeIs
  wp_walk using wpAny_typeOf hTI, hcol
  intro us s' hq hl
  show wpAny _ _ (Builtin.Tuple.tupleExact us.toArray >>= fun v => PySem.ret v) _ _ _
  unfold Builtin.Tuple.tupleExact
  exact wpAny_bind (wpAny_newObj_type (wpAny_pure hq) (by show us.toArray.size ≤ sizeLine; simpa using hl))
end
end PyD

/-! PyUse: what builtins make of a generator. -/
namespace PyD
open PySem PySem.Spec L2
open PyProof.Rows hiding St

section
variable {X : Cx} {P : Pm} {W : WXT} {s4 : Shared} {H4 : Hp} {fp : List Addr} {a : Addr} {g : Nat} {cs : List Addr} {Lk : List V → Heap → Prop} {stop : D → Bool} {N0 : Nat} {ι0 : Pl} {H0 : Hp} {DS : List D} {ah1 : AH}
abbrev Lk0 : List V → Heap → Prop := fun _ _ => True
theorem room_in {k : Nat} {A : Around} (r : Room (k + 1) A) : Room k A.in1 := ⟨r.hd, by have := r.dp; show A.depth + 3 * k + 5 < _; omega, by have := r.un; show A.units + 1 + 16 * k + 200 < _; omega⟩
theorem own0 {s5 : Shared} : GxOwn [] Lk0 s5 s5 := ⟨fun _ h => absurd h (by simp), fun _ h => absurd h (by simp), fun _ _ _ _ _ => True.intro, True.intro, fun _ _ e => e, rfl, rfl⟩
/-! ### any, all -/
def blD : D → Option Bool
  | .bl b => some b
  | _ => none
def stopT : D → Bool
  | .bl true => true
  | _ => false
def stopF : D → Bool
  | .bl false => true
  | _ => false
def blsD : List D → Option (List Bool)
  | [] => some []
  | d :: ds => match blD d, blsD ds with
    | some b, some bs => some (b :: bs)
    | _, _ => none
theorem blsD_get : ∀ {ds : List D} {bs : List Bool} {j : Nat} {d : D}, blsD ds = some bs → ds[j]? = some d → ∃ b, d = .bl b ∧ bs[j]? = some b
  | [], _, _, _, _, e => by simp at e
  | x :: ds, bs, j, d, h, e => by
    simp only [blsD] at h
    split at h
    · rename_i b bs' h1 h2
      cases h
      cases j with
      | zero =>
        simp only [List.getElem?_cons_zero, Option.some.injEq] at e ⊢
        subst e
        cases x <;> simp only [blD, reduceCtorEq, Option.some.injEq] at h1
        subst h1
        exact ⟨_, rfl, rfl⟩
      | succ j =>
        rw [List.getElem?_cons_succ] at e ⊢
        exact blsD_get h2 e
    · cases h
theorem blsD_len : ∀ {ds : List D} {bs : List Bool}, blsD ds = some bs → bs.length = ds.length
  | [], _, h => by simp only [blsD, Option.some.injEq] at h; subst h; rfl
  | x :: ds, bs, h => by
    simp only [blsD] at h
    split at h
    · rename_i b bs' h1 h2
      cases h
      rw [List.length_cons, List.length_cons, blsD_len h2]
    · cases h
theorem any_gx {bs : List Bool} {A : Around} {R : Result → Shared → Prop} (hbs : blsD DS = some bs) (hh : A.handled = none) (hroom : A.depth < recursionLimit)
    (hR : ∀ H ys s', GxEnd X P s4 H4 fp a g [] N0 ι0 H0 DS ah1 H s' ys → R (.ok (.ret (.bool (bs.any _root_.id)))) s') : ∀ (n : Nat) (s : Shared), (∀ i, i < DS.length - n → bs[i]? = some false) → GxAt X P s4 H4 fp a g [] Lk0 stopT N0 ι0 H0 DS ah1 A.in1.in1 n s → n ≤ DS.length → codeAny (model X.prog X.w) A (.builtin "any.loop" ⟨[.ref a], []⟩) R s := by
  have hlen := blsD_len hbs
  have allF : (∀ i, i < DS.length → bs[i]? = some false) → bs.any _root_.id = false := fun h => by
    rw [List.any_eq_false]
    intro x hx
    obtain ⟨i, hi, e⟩ := List.getElem_of_mem hx
    have := h i (by omega)
    rw [List.getElem?_eq_getElem hi, e] at this
    cases this
    simp
  intro n
  induction n using Nat.strongRecOn with
  | ind n ih =>
    intro s hF z hn
    refine codeAny_builtin F.entry_any_loop ?_
    rw [Around.under_plainId F.plain_any_loop _]
    show wpAny _ A.in1 (pyNext (.ref a) >>= _) _ _ s
    refine wpAny_bind (gx_next (A := A.in1) (fun _ _ _ _ _ => True.intro) hh hroom z (fun v s1 ys x H j d e1 e2 rx fx lk same rep h1 h2 => ?_) (fun s1 ys H hn same lk en => ?_))
    · obtain ⟨b, rfl, eb⟩ := blsD_get hbs e2
      obtain ⟨N, ι, rep⟩ := rep
      simp only [RepV] at rep
      subst rep
      cases rx
      refine wpAny_bind (wpAny_holding (wpAny_truthy_bool ?_))
      refine wpAny_bind (wpAny_letGo ?_)
      cases b with
      | true =>
        simp only [if_true]
        refine wpAny_bind (wpAny_rule (wpAny_pure ?_))
        have := hR _ _ _ (h1 rfl)
        have et : bs.any _root_.id = true := List.any_eq_true.mpr ⟨true, List.mem_of_getElem? eb, rfl⟩
        rw [et] at this
        exact this
      | false =>
        simp only [Bool.false_eq_true, if_false]
        obtain ⟨m, em, z'⟩ := h2 rfl s1.heap s1.toks (fun _ _ _ e => e) (fun _ h => absurd h (by simp)) (fun _ _ _ _ => True.intro) fx.gen fx.lim
        refine wpAny_pure ⟨plainId_quiet F.plain_any_loop _, ih m (by omega) _ (fun i hi => ?_) z' (by omega)⟩
        by_cases hij : i = j
        · rw [hij]; exact eb
        · exact hF i (by omega)
    · refine wpAny_bind (wpAny_rule (wpAny_pure ?_))
      have := hR _ _ _ en
      rw [allF fun i hi => hF i (by omega)] at this
      exact this
theorem all_gx {bs : List Bool} {A : Around} {R : Result → Shared → Prop} (hbs : blsD DS = some bs) (hh : A.handled = none) (hroom : A.depth < recursionLimit)
    (hR : ∀ H ys s', GxEnd X P s4 H4 fp a g [] N0 ι0 H0 DS ah1 H s' ys → R (.ok (.ret (.bool (bs.all _root_.id)))) s') : ∀ (n : Nat) (s : Shared), (∀ i, i < DS.length - n → bs[i]? = some true) → GxAt X P s4 H4 fp a g [] Lk0 stopF N0 ι0 H0 DS ah1 A.in1.in1 n s → n ≤ DS.length → codeAny (model X.prog X.w) A (.builtin "all.loop" ⟨[.ref a], []⟩) R s := by
  have hlen := blsD_len hbs
  have allT : (∀ i, i < DS.length → bs[i]? = some true) → bs.all _root_.id = true := fun h => by
    rw [List.all_eq_true]
    intro x hx
    obtain ⟨i, hi, e⟩ := List.getElem_of_mem hx
    have := h i (by omega)
    rw [List.getElem?_eq_getElem hi, e] at this
    cases this
    rfl
  intro n
  induction n using Nat.strongRecOn with
  | ind n ih =>
    intro s hF z hn
    refine codeAny_builtin F.entry_all_loop ?_
    rw [Around.under_plainId F.plain_all_loop _]
    show wpAny _ A.in1 (pyNext (.ref a) >>= _) _ _ s
    refine wpAny_bind (gx_next (A := A.in1) (fun _ _ _ _ _ => True.intro) hh hroom z (fun v s1 ys x H j d e1 e2 rx fx lk same rep h1 h2 => ?_) (fun s1 ys H hn same lk en => ?_))
    · obtain ⟨b, rfl, eb⟩ := blsD_get hbs e2
      obtain ⟨N, ι, rep⟩ := rep
      simp only [RepV] at rep
      subst rep
      cases rx
      refine wpAny_bind (wpAny_holding (wpAny_truthy_bool ?_))
      refine wpAny_bind (wpAny_letGo ?_)
      cases b with
      | false =>
        simp only [Bool.false_eq_true, if_false]
        refine wpAny_bind (wpAny_rule (wpAny_pure ?_))
        have := hR _ _ _ (h1 rfl)
        have et : bs.all _root_.id = false := List.all_eq_false.mpr ⟨false, List.mem_of_getElem? eb, by simp⟩
        rw [et] at this
        exact this
      | true =>
        simp only [if_true]
        obtain ⟨m, em, z'⟩ := h2 rfl s1.heap s1.toks (fun _ _ _ e => e) (fun _ h => absurd h (by simp)) (fun _ _ _ _ => True.intro) fx.gen fx.lim
        refine wpAny_pure ⟨plainId_quiet F.plain_all_loop _, ih m (by omega) _ (fun i hi => ?_) z' (by omega)⟩
        by_cases hij : i = j
        · rw [hij]; exact eb
        · exact hF i (by omega)
    · refine wpAny_bind (wpAny_rule (wpAny_pure ?_))
      have := hR _ _ _ en
      rw [allT fun i hi => hF i (by omega)] at this
      exact this
/-! ### sum -/
def intsD : List D → Option (List Int)
  | [] => some []
  | d :: ds => match d, intsD ds with
    | .int i, some is => some (i :: is)
    | _, _ => none
theorem intsD_get : ∀ {ds : List D} {is : List Int} {j : Nat} {d : D}, intsD ds = some is → ds[j]? = some d → ∃ i, d = .int i ∧ is[j]? = some i
  | [], _, _, _, _, e => by simp at e
  | x :: ds, is, j, d, h, e => by
    simp only [intsD] at h
    split at h
    · rename_i b bs' h2
      cases h
      cases j with
      | zero =>
        simp only [List.getElem?_cons_zero, Option.some.injEq] at e ⊢
        subst e
        exact ⟨_, rfl, rfl⟩
      | succ j =>
        rw [List.getElem?_cons_succ] at e ⊢
        exact intsD_get h2 e
    · cases h
theorem intsD_len : ∀ {ds : List D} {is : List Int}, intsD ds = some is → is.length = ds.length
  | [], _, h => by simp only [intsD, Option.some.injEq] at h; subst h; rfl
  | x :: ds, is, h => by
    simp only [intsD] at h
    split at h
    · rename_i b bs' h2
      cases h
      rw [List.length_cons, List.length_cons, intsD_len h2]
    · cases h
theorem sum_take {l : List Int} {j : Nat} {i : Int} (h : l[j]? = some i) : (l.take (j + 1)).sum = (l.take j).sum + i := by
  rw [List.take_succ, h]
  simp [List.sum_append]
theorem sum_gx {is : List Int} {A : Around} {R : Result → Shared → Prop} {S : Addr} (hbs : intsD DS = some is) (hh : A.handled = none) (hroom : A.depth < recursionLimit) (hSa : S ≠ a) (hSc : S ≠ cStatics)
    (hR : ∀ H ys s' t', GxEnd X P s4 H4 fp a g [S] N0 ι0 H0 DS ah1 H s' ys → R (.ok (.ret (.int is.sum t'))) s') : ∀ (n : Nat) (s : Shared) (tA : Tok) (c : Nat) (st : Int), (st = 0 ∨ st = 2) →
      s.heap.get? S = some { cls := .type "list", dict := none, data := .seq #[.int (is.take (DS.length - n)).sum tA] c, slots := #[] } → GxAt X P s4 H4 fp a g [S] Lk0 (fun _ => false) N0 ι0 H0 DS ah1 A.in1.in1 n s → n ≤ DS.length →
      codeAny (model X.prog X.w) A (.builtin "sum.loop" ⟨[.ref a, .ref S, rawInt st, rawInt 0], []⟩) R s := by
  have hlen := intsD_len hbs
  intro n
  induction n using Nat.strongRecOn with
  | ind n ih =>
    intro s tA c st hst2 hS z hn
    refine codeAny_builtin F.entry_sum_loop ?_
    rw [Around.under_plainId F.plain_sum_loop _]
    show wpAny _ A.in1 (seqItems? (.ref S) >>= _) _ _ s
    refine wpAny_bind (wpAny_seqItems hS rfl ?_)
    show wpAny _ A.in1 (tryCatch (pyNext (.ref a)) _ >>= _) _ _ s
    refine wpAny_bind (wpAny_tryCatch (gx_next (A := A.in1) (fun _ _ _ _ _ => True.intro) hh hroom z (fun v s1 ys x H j d e1 e2 rx fx lk same rep h1 h2 => ?_) (fun s1 ys H hn same lk en => ?_)))
    · obtain ⟨i, rfl, eb⟩ := intsD_get hbs e2
      obtain ⟨N, ι, rep⟩ := rep
      simp only [RepV] at rep
      subst rep
      obtain ⟨t, rfl⟩ := rx
      have hS' := same S (List.mem_singleton.mpr rfl) _ hS
      have nat : ∀ (h' : Heap) (tk : Nat) (tB : Tok) (c' : Nat), (∀ b o, b ≠ S → s1.heap.get? b = some o → h'.get? b = some o) → h'.get? S = some { cls := .type "list", dict := none, data := .seq #[.int ((is.take (DS.length - n)).sum + i) tB] c', slots := #[] } →
          ∀ st', (st' = 0 ∨ st' = 2) → codeAny (model X.prog X.w) A (.builtin "sum.loop" ⟨[.ref a, .ref S, rawInt st', rawInt 0], []⟩) R { s1 with heap := h', toks := tk } := fun h' tk tB c' kp hS2 st' hst' => by
        obtain ⟨m, em, z'⟩ := h2 rfl h' tk (fun b o hb e => kp b o (fun q => hb (by rw [q]; exact List.mem_singleton.mpr rfl)) e) (fun b hb => by rw [List.mem_singleton.mp hb]; exact ⟨_, hS2, fun v q => by cases q⟩) (fun _ _ _ _ => True.intro)
          (by obtain ⟨o, nm, qn, ho, r⟩ := fx.gen; exact ⟨o, nm, qn, kp a o (Ne.symm hSa) ho, r⟩) (by obtain ⟨mc, hns, hnn⟩ := fx.lim; exact ⟨mc, hns.at' fun o e => kp _ o (Ne.symm hSc) e, hnn⟩)
        have ej : DS.length - n = j := by omega
        have ej2 : DS.length - m = j + 1 := by omega
        exact ih m (by omega) _ tB c' st' hst' (by rw [ej2, sum_take eb, ← ej]; exact hS2) z' (by omega)
      rcases hst2 with rfl | rfl
      · show wpAny _ A.in1 (if (_ : Bool) = true then (mkInt ((is.take (DS.length - n)).sum + i) >>= _) else _) _ _ _
        split
        · refine wpAny_bind (wpAny_mkInt ?_)
          show wpAny _ A.in1 (updateSeq S (fun _ => #[.int ((is.take (DS.length - n)).sum + i) s1.toks]) >>= _) _ _ _
          refine wpAny_bind ?_
          refine wpAny_updateSeq hS' rfl (wpAny_pure ⟨plainId_quiet F.plain_sum_loop _, nat _ _ _ _ (fun b o hb e => (Heap.get?_update_other _ _ (Ne.symm hb)).trans e) (Heap.get?_update_self _ hS' rfl) 0 (.inl rfl)⟩)
        · refine wpAny_bind (wpAny_rule ?_)
          refine wpAny_bind (wpAny_attempt (wpAny_holding (wpAny_add_int ?_)))
          show wpAny _ A.in1 (updateSeq S (fun _ => #[.int ((is.take (DS.length - n)).sum + i) s1.toks]) >>= _) _ _ _
          refine wpAny_bind (wpAny_updateSeq hS' rfl ?_)
          have hS₂ := Heap.get?_update_self (Obj.mapSeq fun _ => #[Value.int ((is.take (DS.length - n)).sum + i) s1.toks]) hS' rfl
          refine wpAny_bind (wpAny_letGo ?_)
          refine wpAny_bind (wpAny_updateSeq hS₂ rfl (wpAny_pure ⟨plainId_quiet F.plain_sum_loop _, nat _ _ _ _ (fun b o hb e => (Heap.get?_update_other _ _ (Ne.symm hb)).trans ((Heap.get?_update_other _ _ (Ne.symm hb)).trans e)) (Heap.get?_update_self _ hS₂ rfl) 2 (.inr rfl)⟩))
      · show wpAny _ A.in1 ((holding [Value.int i t] (binaryOp .Add (.int (is.take (DS.length - n)).sum tA) (.int i t))).attempt >>= _) _ _ _
        refine wpAny_bind (wpAny_attempt (wpAny_holding (wpAny_add_int ?_)))
        show wpAny _ A.in1 (updateSeq S (fun _ => #[.int ((is.take (DS.length - n)).sum + i) s1.toks]) >>= _) _ _ _
        refine wpAny_bind (wpAny_updateSeq hS' rfl ?_)
        have hS₂ := Heap.get?_update_self (Obj.mapSeq fun _ => #[Value.int ((is.take (DS.length - n)).sum + i) s1.toks]) hS' rfl
        refine wpAny_bind (wpAny_letGo ?_)
        refine wpAny_bind (wpAny_updateSeq hS₂ rfl (wpAny_pure ⟨plainId_quiet F.plain_sum_loop _, nat _ _ _ _ (fun b o hb e => (Heap.get?_update_other _ _ (Ne.symm hb)).trans ((Heap.get?_update_other _ _ (Ne.symm hb)).trans e)) (Heap.get?_update_self _ hS₂ rfl) 2 (.inr rfl)⟩))
    · refine wpAny_pure ?_
      have := hR _ _ _ tA en
      have e : (is.take (DS.length - n)).sum = is.sum := by rw [List.take_of_length_le (by omega)]
      rw [← e] at this
      exact this
/-! ### the items of a list -/
def LkL (S : Addr) : List V → Heap → Prop := fun ys h => ∃ acc c, h.get? S = some (lstObj acc c) ∧ Vals ys acc.toList
theorem extend_gx {A : Around} {R : Result → Shared → Prop} {S : Addr} {res : Value} (hh : A.handled = none) (hroom : A.depth < recursionLimit) (hSa : S ≠ a) (hSc : S ≠ cStatics) (hsz : DS.length ≤ sizeLine)
    (hR : ∀ H ys s' acc c, GxEnd X P s4 H4 fp a g [S] N0 ι0 H0 DS ah1 H s' ys → s'.heap.get? S = some (lstObj acc c) → Vals ys acc.toList → R (.ok (.ret res)) s') : ∀ (n : Nat) (s : Shared) (acc : Array Value) (c : Nat),
      s.heap.get? S = some (lstObj acc c) → acc.size + n = DS.length → GxAt X P s4 H4 fp a g [S] (LkL S) (fun _ => false) N0 ι0 H0 DS ah1 A.in1.in1 n s →
      codeAny (model X.prog X.w) A (.builtin "list.extend.loop" ⟨[.ref S, .ref a, res], []⟩) R s := by
  have hl : ∀ ys (h h' : Heap), (∀ b ∈ [S], ∀ o, h.get? b = some o → h'.get? b = some o) → LkL S ys h → LkL S ys h' := fun ys h h' k ⟨acc, c, e, r⟩ => ⟨acc, c, k S (List.mem_singleton.mpr rfl) _ e, r⟩
  intro n
  induction n using Nat.strongRecOn with
  | ind n ih =>
    intro s acc c hS hn z
    refine codeAny_builtin F.entry_extend_loop ?_
    rw [Around.under_plainId F.plain_extend_loop _]
    show wpAny _ A.in1 (pyNext (.ref a) >>= _) _ _ s
    refine wpAny_bind (gx_next (A := A.in1) hl hh hroom z (fun v s1 ys x H j d e1 e2 rx fx lk same rep h1 h2 => ?_) (fun s1 ys H hn same lk en => ?_))
    · have hS' := same S (List.mem_singleton.mpr rfl) _ hS
      show wpAny _ A.in1 (updateSeq S (·.push v) >>= _) _ _ _
      refine wpAny_bind ?_
      have kp : ∀ b o, b ≠ S → s1.heap.get? b = some o → (s1.heap.update S (Obj.mapSeq (·.push v))).get? b = some o := fun b o hb e => (Heap.get?_update_other _ _ (Ne.symm hb)).trans e
      have hS2 : (s1.heap.update S (Obj.mapSeq (·.push v))).get? S = some (lstObj (acc.push v) _) := Heap.get?_update_self _ hS' rfl
      obtain ⟨m, em, z'⟩ := h2 rfl (s1.heap.update S (Obj.mapSeq (·.push v))) s1.toks (fun b o hb e => kp b o (fun q => hb (by rw [q]; exact List.mem_singleton.mpr rfl)) e) (fun b hb => by rw [List.mem_singleton.mp hb]; exact ⟨_, hS2, fun v q => by cases q⟩)
        (fun ys x rx ⟨acc', c', e, r⟩ => by rw [hS'] at e; cases e; exact ⟨_, _, hS2, by rw [Array.toList_push]; exact r.append (.cons rx .nil)⟩)
        (by obtain ⟨o, nm, qn, ho, r⟩ := fx.gen; exact ⟨o, nm, qn, kp a o (Ne.symm hSa) ho, r⟩) (by obtain ⟨mc, hns, hnn⟩ := fx.lim; exact ⟨mc, hns.at' fun o e => kp _ o (Ne.symm hSc) e, hnn⟩)
      refine wpAny_updateSeq hS' rfl (wpAny_pure ⟨plainId_quiet F.plain_extend_loop _, ih m (by omega) _ _ _ hS2 (by rw [Array.size_push]; omega) z'⟩) (by omega) (by show (acc.push v).size ≤ sizeLine + 1; rw [Array.size_push]; omega)
    · obtain ⟨acc', c', e, r⟩ := lk
      exact wpAny_pure (hR H ys _ acc' c' en e r)
theorem collect_gx {pins : List (Addr × Obj)} {σ : L2.St} {N : Nat} {ι : Pl} {H1 : Hp} {k : Nat} {s5 : Shared} {A : Around} {Q : List Value → Shared → Prop} {E : Value → Shared → Prop} (rd : GxReady X P pins σ (fun _ => false) k N ι H1 DS ah1 a s5) (hr : Room (k + 1) A.in1.in1) (hfr : A.frames = some X.stack) (hsz : DS.length ≤ sizeLine)
    (hQ : ∀ H ι' s' ys us, L2.Inv X pins σ H s' → Ext N ι H1 ah1.length ι' H → HRep P ι' ah1 H → RepVs P.K ah1.length ι' H DS ys → Vals ys us → Q us s') : wpAny (model X.prog X.w) A (collect (.ref a)) Q E s5 := by
  obtain ⟨s4, H4, fp, g, ι0, N0, I4, hfp, x, hgen, hlt, hk, wake⟩ := rd
  have lim5 : s5.heap.NoLimit := I4.nolimit.keeps hk
  have hcl : cStatics < s5.heap.objs.size := let ⟨_, hn, _⟩ := lim5; hn.lt
  have hSa : s5.heap.objs.size ≠ a := Nat.ne_of_gt hlt
  have hSc : s5.heap.objs.size ≠ cStatics := Nat.ne_of_gt hcl
  unfold collect
  refine wpAny_bind (wpAny_runValue (codeAny_builtin F.entry_proto_collect ?_))
  rw [Around.under_plainId F.plain_proto_collect _]
  show wpAny _ A.in1 (newList [] >>= fun l => again (.builtin "list.__iadd__" ⟨[l, .ref a], []⟩)) _ _ s5
  refine wpAny_bind (wpAny_newObj_type ?_)
  refine wpAny_pure ⟨plainId_quiet F.plain_list_iadd _, codeAny_builtin F.entry_list_iadd ?_⟩
  rw [Around.under_plainId F.plain_list_iadd _]
  have k1 : ∀ b o, s5.heap.get? b = some o → (s5.heap.push { cls := .type "list", data := .seq ([] : List Value).toArray }).get? b = some o := fun b o e => Heap.get?_push_of_some _ e
  show wpAny _ A.in1 (Builtin.List.listExtendWith (.ref s5.heap.objs.size) (.ref a) (.ref s5.heap.objs.size)) _ _ _
  unfold Builtin.List.listExtendWith
  refine wpAny_bind (wpAny_typeOf (Heap.IsGen.typeIs (s := { s5 with heap := _ }) (hgen.keeps k1)) ?_)
  have h1 : Builtin.List.listSameRef (.ref s5.heap.objs.size) (.ref a) = false := by simp [Builtin.List.listSameRef, hSa]
  have h2 : (Value.type "generator" == Value.type "list") = false := by decide
  have h3 : (Value.type "generator" == Value.type "tuple") = false := by decide
  simp only [h1, h2, h3, Bool.or_false, Bool.false_eq_true, if_false]
  refine wpAny_bind (wpAny_pyIter_gen (s := { s5 with heap := _ }) (hgen.keeps k1) ?_)
  refine wpAny_bind (wpAny_holding ?_)
  unfold Builtin.List.listLengthHint
  refine wpAny_bind (wpAny_specialOf (Heap.IsGen.typeIs (s := { s5 with heap := _ }) (hgen.keeps k1)) F.gen_no_len ?_)
  show wpAny _ A.in1 (specialOf (Value.ref a) (Str.ofString "__length_hint__") >>= _) _ _ _
  refine wpAny_bind (wpAny_specialOf (Heap.IsGen.typeIs (s := { s5 with heap := _ }) (hgen.keeps k1)) F.gen_no_hint ?_)
  refine wpAny_pure ?_
  show wpAny _ A.in1 (rule "list.extend.makes-room" >>= fun _ => Builtin.List.listTouch (.ref s5.heap.objs.size) >>= fun _ =>
    again (.builtin "list.extend.loop" ⟨[.ref s5.heap.objs.size, .ref a, .ref s5.heap.objs.size], []⟩)) _ _ _
  refine wpAny_bind (wpAny_rule ?_)
  have hS₁ : (s5.heap.push { cls := .type "list", data := .seq ([] : List Value).toArray }).get? s5.heap.objs.size = some { cls := .type "list", data := .seq ([] : List Value).toArray } := Heap.get?_push_size _ rfl
  refine wpAny_bind ?_
  show wpAny _ A.in1 (updateSeq s5.heap.objs.size (·.push .none) >>= fun _ => updateSeq s5.heap.objs.size (·.pop)) _ _ _
  refine wpAny_bind (wpAny_updateSeq hS₁ rfl ?_)
  have hS₂ := Heap.get?_update_self (Obj.mapSeq (·.push Value.none)) hS₁ rfl
  refine wpAny_updateSeq (hz := by seq_fits) hS₂ rfl ?_
  have hS₃ := Heap.get?_update_self (Obj.mapSeq (·.pop)) hS₂ rfl
  have oth : ∀ b o, s5.heap.get? b = some o →
      (((s5.heap.push { cls := .type "list", data := .seq ([] : List Value).toArray }).update s5.heap.objs.size (Obj.mapSeq (·.push Value.none))).update s5.heap.objs.size (Obj.mapSeq (·.pop))).get? b = some o :=
    fun b o e => (Heap.get?_update_other _ _ (Nat.ne_of_gt (Heap.lt_size e))).trans ((Heap.get?_update_other _ _ (Nat.ne_of_gt (Heap.lt_size e))).trans (k1 b o e))
  have w := wake A.in1.in1 [s5.heap.objs.size] (LkL s5.heap.objs.size) { s5 with heap := ((s5.heap.push { cls := .type "list", data := .seq ([] : List Value).toArray }).update s5.heap.objs.size (Obj.mapSeq (·.push Value.none))).update s5.heap.objs.size (Obj.mapSeq (·.pop)) } hr hfr
    ⟨fun b hb => by rw [List.mem_singleton.mp hb]; exact Nat.le_refl _, fun b hb => by rw [List.mem_singleton.mp hb]; exact ⟨_, hS₃, fun v q => by cases q⟩, fun ys h h' k ⟨acc, c, e, r⟩ => ⟨acc, c, k _ (List.mem_singleton.mpr rfl) _ e, r⟩, ⟨_, _, hS₃, .nil⟩, oth, rfl, rfl⟩
  refine wpAny_pure ⟨plainId_quiet F.plain_extend_loop _, extend_gx (X := X) (P := P) (A := A) (s4 := s4) (H4 := H4) (show A.handled = none from hr.hd) (by have hd := hr.dp; have e : A.in1.in1.depth = A.depth := rfl; rw [e] at hd; show A.depth < _; omega) hSa hSc hsz (fun H ys s' acc c en e r => ?_) DS.length _ #[] _ hS₃ (Nat.zero_add _) w⟩
  show wpAny _ A (load s5.heap.objs.size >>= _) _ _ s'
  refine wpAny_bind (wpAny_load e ?_)
  obtain ⟨fx, ι', x', hr', rp⟩ := en
  exact wpAny_pure (hQ H ι' s' ys acc.toList (gx_back I4 hfp fx) (x.trans x') hr' rp r)
/-! ### what is read off the end -/
theorem gx_fin {pins : List (Addr × Obj)} {σ : L2.St} {N : Nat} {ι : Pl} {H1 : Hp} {d : D} {v : V} {u : Value} {Q : VK} {H : Hp} {s' : Shared} {ys : List V} (I : L2.Inv X pins σ H4 s4) (hfp : ∀ b ∈ fp, FpOk X pins H4 b) (x : Ext N ι H1 N0 ι0 H4) (q : Fin (rV P) P W σ ι N H1 (.ok d ah1) Q)
    (en : GxEnd X P s4 H4 fp a g cs N0 ι0 H4 DS ah1 H s' ys) (rv : RelV v u) (rep : ∀ N ι H, RepV P.K N ι H d v) : EP X pins σ Q u s' := by
  obtain ⟨fx, ι', x', hr, _⟩ := en
  exact ⟨v, H, gx_back I hfp fx, rv, q ι' H v (x.trans x') hr (rep _ _ _)⟩
variable {elt tgt iter : Expr} {ifs : List Expr} {scope : Scope} {own : List (Str × Nat)} {gpos p pos : Pos} {pat : Pat} {f : Env → M Src} {gi : Env → M Bool} {ge : Env → M D} {k : Nat} {cO P0 : Addr}
/-- what a generator expression is made of, judged in its own frame -/
structure GxParts (X : Cx) (P : Pm) (W : WXT) (k : Nat) (cO P0 : Addr) (elt tgt iter : Expr) (ifs : List Expr) (scope : Scope) (own : List (Str × Nat)) (pat : Pat) (f : Env → M Src) (gi : Env → M Bool) (ge : Env → M D) : Prop where
  c : Ctx X P W
  hr : Room (k + 6) X.A
  TB : _root_.GxR.TabB X.base X.mg cO P0
  hcode : X.env.code = .ref cO
  hmem : (P0, X.env.qual ++ "<genexpr>") ∈ P.tabs
  hu : ∀ p ∈ P.tabs, p.1 = P0 → p.2 = X.env.qual ++ "<genexpr>"
  hi : DI X P W tgt iter f
  ok : BlkOk X.N X.env.scope scope own
  hown : ∀ i ∈ pat.slots, i ∈ own.map (·.2)
  hcell : ∀ y ∈ scope.names, y.2 ≠ .cell
  hdot : scope.names.lookup (".0" : Str) = some NameKind.local
  hco : scope.isCoroutine = false
  hg : ∀ (A : Around) (s : Shared) (H : Hp) (code : Value) (fp : List Addr) (pn : List (Addr × Obj)), Room k (gxCx X A s H scope code fp pn).A → Ctx (gxCx X A s H scope code fp pn) P W0 → PG (gxCx X A s H scope code fp pn) tgt (gP P pat)
  ht : ∀ (A : Around) (s : Shared) (H : Hp) (code : Value) (fp : List Addr) (pn : List (Addr × Obj)), Room k (gxCx X A s H scope code fp pn).A → Ctx (gxCx X A s H scope code fp pn) P W0 → DTs (gxCx X A s H scope code fp pn) P W0 ifs gi
  he : ∀ (A : Around) (s : Shared) (H : Hp) (code : Value) (fp : List Addr) (pn : List (Addr × Obj)), Room k (gxCx X A s H scope code fp pn).A → Ctx (gxCx X A s H scope code fp pn) P W0 → DE (gxCx X A s H scope code fp pn) P W0 elt ge
  hs : ∀ v, genFold iter X.env v = pure v
theorem GxParts.eval (G : GxParts X P W k cO P0 elt tgt iter ifs scope own pat f gi ge) {kk : List D → M D} {Q : VK} {Q' : Value → Shared → Prop} {pins : List (Addr × Obj)} {σ : L2.St} {H : Hp} {s : Shared} (I : L2.Inv X pins σ H s)
    (q : tD P W (fun env => bnd (eGx stop (own.map (·.2)) pat f gi ge env) kk) σ H Q)
    (hQ : ∀ a s5 N ι1 H1 DS ah1, GxReady X P pins σ stop k N ι1 H1 DS ah1 a s5 → Fin (rV P) P W σ ι1 N H1 (kk DS ah1) Q → Q' (.ref a) s5) :
    wpAny (model X.prog X.w) X.A (PySem.eval (.GeneratorExp elt [⟨tgt, iter, ifs, 0⟩] scope gpos) X.env) Q' X.xe s := by
  obtain ⟨ι, ah, env, st, q⟩ := q
  exact gx_eval (E1 := fun _ _ => False) G.c (room_lt G.hr) G.TB G.hcode G.hmem G.hu G.hi G.ok G.hown G.hcell G.hdot G.hco G.hg G.ht G.he G.hs I st q hQ
where room_lt {k : Nat} {A : Around} (r : Room (k + 6) A) : Room (k + 1) A := r.mono (by omega)
def kAny (ds : List D) : M D := match blsD ds with
  | some bs => ret (.bl (bs.any _root_.id))
  | none => stuck
def kAll (ds : List D) : M D := match blsD ds with
  | some bs => ret (.bl (bs.all _root_.id))
  | none => stuck
theorem de_anyG (G : GxParts X P W k cO P0 elt tgt iter ifs scope own pat f gi ge) (hg : Gl X "any") (hm : X.mg "any" = none)
    (he : starEach [.GeneratorExp elt [⟨tgt, iter, ifs, 0⟩] scope gpos] X.env = (false, PySem.eval (.GeneratorExp elt [⟨tgt, iter, ifs, 0⟩] scope gpos) X.env) :: starEach [] X.env := by rfl) :
    DE X P W (.Call (.Name "any" p) [.GeneratorExp elt [⟨tgt, iter, ifs, 0⟩] scope gpos] [] pos) (fun env => bnd (eGx stopT (own.map (·.2)) pat f gi ge env) kAny) := by
  refine ⟨fun pins s σ H Q I h => ?_⟩
  refine wpAny_Call_Name_kw (ld_blt I hg hm PyProof.Rows.boot_any ?_)
  refine PyProof.Rows.callWith_builtin1 ?_ he (by rfl)
  rw [he]
  show wpAny _ _ (spliced ((false, PySem.eval (.GeneratorExp elt [⟨tgt, iter, ifs, 0⟩] scope gpos) X.env) :: backTo pos (starEach [] X.env))) _ _ s
  refine Calls.spliced_cons (G.eval I h fun a s5 N ι1 H1 DS ah1 rd q => ?_)
  refine Calls.spliced_nil ?_
  obtain ⟨s4, H4, fp, g, ι0, N0, I4, hfp, x, hgen, hlt, hk, wake⟩ := rd
  unfold kAny at q
  cases hbs : blsD DS with
  | none => rw [hbs] at q; exact q.elim
  | some bs =>
    rw [hbs] at q
    have hr := G.hr
    refine call_function_tree F.kind_any F.plain_any F.entry_any (F.args_any1 _) ?_
    unfold Builtin.«any»
    refine wpAny_bind (m := oneArg "any" _) (wpAny_pure ?_)
    refine wpAny_bind (wpAny_pyIter_gen hgen ?_)
    refine wpAny_pure ⟨plainId_quiet F.plain_any_loop _, any_gx (s4 := s4) (H4 := H4) hbs hr.hd (by have := hr.dp; omega) (fun H ys s' en => ?_) DS.length s5 (fun i hi => absurd hi (by omega)) (wake _ [] Lk0 s5 ?_ ?_ own0) (Nat.le_refl _)⟩
    · exact gx_fin (v := .bl _) I4 hfp x q en rfl fun _ _ _ => by simp only [RepV]
    · exact room_in (k := k + 1) (room_in (k := k + 2) (hr.mono (by omega)))
    · exact I4.ok.frames
theorem de_allG (G : GxParts X P W k cO P0 elt tgt iter ifs scope own pat f gi ge) (hg : Gl X "all") (hm : X.mg "all" = none) (hb : bootBuiltins "all" = some (.builtin "all"))
    (he : starEach [.GeneratorExp elt [⟨tgt, iter, ifs, 0⟩] scope gpos] X.env = (false, PySem.eval (.GeneratorExp elt [⟨tgt, iter, ifs, 0⟩] scope gpos) X.env) :: starEach [] X.env := by rfl) :
    DE X P W (.Call (.Name "all" p) [.GeneratorExp elt [⟨tgt, iter, ifs, 0⟩] scope gpos] [] pos) (fun env => bnd (eGx stopF (own.map (·.2)) pat f gi ge env) kAll) := by
  refine ⟨fun pins s σ H Q I h => ?_⟩
  refine wpAny_Call_Name_kw (ld_blt I hg hm hb ?_)
  refine PyProof.Rows.callWith_builtin1 ?_ he (by rfl)
  rw [he]
  show wpAny _ _ (spliced ((false, PySem.eval (.GeneratorExp elt [⟨tgt, iter, ifs, 0⟩] scope gpos) X.env) :: backTo pos (starEach [] X.env))) _ _ s
  refine Calls.spliced_cons (G.eval I h fun a s5 N ι1 H1 DS ah1 rd q => ?_)
  refine Calls.spliced_nil ?_
  obtain ⟨s4, H4, fp, g, ι0, N0, I4, hfp, x, hgen, hlt, hk, wake⟩ := rd
  unfold kAll at q
  cases hbs : blsD DS with
  | none => rw [hbs] at q; exact q.elim
  | some bs =>
    rw [hbs] at q
    have hr := G.hr
    refine call_function_tree F.kind_all F.plain_all F.entry_all (F.args_all1 _) ?_
    unfold Builtin.«all»
    refine wpAny_bind (m := oneArg "all" _) (wpAny_pure ?_)
    refine wpAny_bind (wpAny_pyIter_gen hgen ?_)
    refine wpAny_pure ⟨plainId_quiet F.plain_all_loop _, all_gx (s4 := s4) (H4 := H4) hbs hr.hd (by have := hr.dp; omega) (fun H ys s' en => ?_) DS.length s5 (fun i hi => absurd hi (by omega)) (wake _ [] Lk0 s5 ?_ ?_ own0) (Nat.le_refl _)⟩
    · exact gx_fin (v := .bl _) I4 hfp x q en rfl fun _ _ _ => by simp only [RepV]
    · exact room_in (k := k + 1) (room_in (k := k + 2) (hr.mono (by omega)))
    · exact I4.ok.frames

def kSum (ds : List D) : M D := match intsD ds with
  | some is => ret (.int is.sum)
  | none => stuck
theorem de_sumG (G : GxParts X P W k cO P0 elt tgt iter ifs scope own pat f gi ge) (hg : Gl X "sum") (hm : X.mg "sum" = none) (hb : bootBuiltins "sum" = some (.builtin "sum"))
    (he : starEach [.GeneratorExp elt [⟨tgt, iter, ifs, 0⟩] scope gpos] X.env = (false, PySem.eval (.GeneratorExp elt [⟨tgt, iter, ifs, 0⟩] scope gpos) X.env) :: starEach [] X.env := by rfl) :
    DE X P W (.Call (.Name "sum" p) [.GeneratorExp elt [⟨tgt, iter, ifs, 0⟩] scope gpos] [] pos) (fun env => bnd (eGx (fun _ => false) (own.map (·.2)) pat f gi ge env) kSum) := by
  refine ⟨fun pins s σ H Q I h => ?_⟩
  refine wpAny_Call_Name_kw (ld_blt I hg hm hb ?_)
  refine PyProof.Rows.callWith_builtin1 ?_ he (by rfl)
  rw [he]
  show wpAny _ _ (spliced ((false, PySem.eval (.GeneratorExp elt [⟨tgt, iter, ifs, 0⟩] scope gpos) X.env) :: backTo pos (starEach [] X.env))) _ _ s
  refine Calls.spliced_cons (G.eval I h fun a s5 N ι1 H1 DS ah1 rd q => ?_)
  refine Calls.spliced_nil ?_
  obtain ⟨s4, H4, fp, g, ι0, N0, I4, hfp, x, hgen, hlt, hk, wake⟩ := rd
  unfold kSum at q
  cases hbs : intsD DS with
  | none => rw [hbs] at q; exact q.elim
  | some is =>
    rw [hbs] at q
    have hr := G.hr
    have lim5 : s5.heap.NoLimit := I4.nolimit.keeps hk
    have hcl : cStatics < s5.heap.objs.size := let ⟨_, hn, _⟩ := lim5; hn.lt
    have hSa : s5.heap.objs.size ≠ a := Nat.ne_of_gt hlt
    have hSc : s5.heap.objs.size ≠ cStatics := Nat.ne_of_gt hcl
    refine call_function_tree F.kind_sum F.plain_sum F.entry_sum (F.args_sum1 _) ?_
    unfold Builtin.«sum»
    simp only [List.length_cons, List.length_nil]
    rw [if_neg (by decide)]
    refine wpAny_bind (wpAny_of_eq (show Builtin.Builtins.bindParams "sum" ["start"] 0 { } = pure [none] from rfl) ?_)
    refine wpAny_bind (wpAny_pyIter_gen hgen ?_)
    refine wpAny_bind (wpAny_mkInt ?_)
    refine wpAny_bind (wpAny_pure ?_)
    simp only [List.forIn_cons, List.forIn_nil]
    refine wpAny_bind (wpAny_bind (wpAny_bind (wpAny_isInstance (T := "int") (b := false) (typeIs_int _ _ _) PySem.sub_int_str ?_)))
    simp only [Bool.false_eq_true, if_false]
    refine wpAny_pure (wpAny_bind (wpAny_bind (wpAny_isInstance (T := "int") (b := false) (typeIs_int _ _ _) PySem.sub_int_bytes ?_)))
    simp only [Bool.false_eq_true, if_false]
    refine wpAny_pure (wpAny_bind (wpAny_bind (wpAny_isInstance (T := "int") (b := false) (typeIs_int _ _ _) PySem.sub_int_bytearray ?_)))
    simp only [Bool.false_eq_true, if_false]
    refine wpAny_pure (wpAny_pure ?_)
    refine wpAny_bind (wpAny_newObj_type ?_)
    refine wpAny_pure ⟨plainId_quiet F.plain_sum_loop _, sum_gx (s4 := s4) (H4 := H4) (S := s5.heap.objs.size) hbs hr.hd (by have := hr.dp; omega) hSa hSc (fun H ys s' t' en => ?_) DS.length _ s5.toks 0 0 (.inl rfl) ?_ (wake _ [s5.heap.objs.size] Lk0 _ ?_ ?_ ?_) (Nat.le_refl _)⟩
    · exact gx_fin (v := .int _) I4 hfp x q en ⟨_, rfl⟩ fun _ _ _ => by simp only [RepV]
    · rw [Nat.sub_self]; exact Heap.get?_push_size _ rfl
    · exact room_in (k := k + 1) (room_in (k := k + 2) (hr.mono (by omega)))
    · exact I4.ok.frames
    · exact ⟨fun b hb => by rw [List.mem_singleton.mp hb]; exact Nat.le_refl _, fun b hb => by rw [List.mem_singleton.mp hb]; exact ⟨_, Heap.get?_push_size _ rfl, fun v q => by cases q⟩, fun _ _ _ _ _ => True.intro, True.intro, fun b o e => Heap.get?_push_of_some _ e, rfl, rfl⟩
def kTup (ds : List D) : M D := fun h => if ds.length ≤ sizeLine then .ok (.tup ds) h else .bad
theorem de_tupG (G : GxParts X P W k cO P0 elt tgt iter ifs scope own pat f gi ge) (hg : Gl X "tuple") (hm : X.mg "tuple" = none) (hb : bootBuiltins "tuple" = some (.type "tuple"))
    (he : starEach [.GeneratorExp elt [⟨tgt, iter, ifs, 0⟩] scope gpos] X.env = (false, PySem.eval (.GeneratorExp elt [⟨tgt, iter, ifs, 0⟩] scope gpos) X.env) :: starEach [] X.env := by rfl) :
    DE X P W (.Call (.Name "tuple" p) [.GeneratorExp elt [⟨tgt, iter, ifs, 0⟩] scope gpos] [] pos) (fun env => bnd (eGx (fun _ => false) (own.map (·.2)) pat f gi ge env) kTup) := by
  refine ⟨fun pins s σ H Q I h => ?_⟩
  refine wpAny_Call_Name_kw (ld_blt I hg hm hb ?_)
  refine PyProof.Rows.callWith_type1 ?_ he (by rfl)
  rw [he]
  show wpAny _ _ (spliced ((false, PySem.eval (.GeneratorExp elt [⟨tgt, iter, ifs, 0⟩] scope gpos) X.env) :: backTo pos (starEach [] X.env))) _ _ s
  refine Calls.spliced_cons (G.eval I h fun a s5 N ι1 H1 DS ah1 rd q => ?_)
  refine Calls.spliced_nil ?_
  unfold kTup at q
  split at q
  case isFalse => exact q.elim
  rename_i hsz
  have hr := G.hr
  have hgen : ∃ g, s5.heap.IsGen a g := let ⟨_, _, _, g, _, _, _, _, _, h, _⟩ := rd; ⟨g, h⟩
  have hfr : X.A.frames = some X.stack := let ⟨_, _, _, _, _, _, I4, _⟩ := rd; I4.ok.frames
  refine callType_codes (Q₁ := fun obj s₁ => s₁.TypeIs obj "tuple" ∧ EP X pins σ Q obj s₁) F.called_tuple (F.typeCall_tuple_1 _) F.entry_object_init (code_tuple_gx hgen fun {Q1 E1} hq => ?_) fun obj s₁ h₁ => ?_
  · refine collect_gx (X := X) (P := P) (A := X.A.in1.in1) rd (room_in (k := k + 1) (room_in (k := k + 2) (room_in (k := k + 3) (room_in (k := k + 4) (hr.mono (by omega)))))) hfr hsz fun H ι' s' ys us I' x hr' rp r => hq us s' ⟨⟨_, Heap.get?_push_size _ rfl, rfl⟩, ?_⟩ (by rw [← r.length, rp.length]; exact hsz)
    have hn : H s'.heap.objs.size = none := I'.hok.fresh (Nat.le_refl _)
    refine ⟨.ref s'.heap.objs.size, upd H s'.heap.objs.size (.tup ys), I'.laid (t' := s'.toks) (fun b o e => Heap.get?_push_of_some _ e) (Nat.le_refl _) ⟨by rw [rp.length]; exact hsz, us, r, IsTup.new _ _⟩, rfl, q ι' _ _ (x.trans (Ext.fresh hr' hn)) (hr'.fresh hn) (rep_tup hr'.notup hn rp)⟩
  · exact ⟨h₁.1, F.args_object_init_2 obj _, object_init_meets F.called_tuple.init.lookup F.called_tuple.made (by decide) X.prog X.w X.A.in1 _ s₁ ⟨h₁.1, rfl, h₁.2⟩⟩
end
end PyD

/-! PySort: sorted(..). -/
namespace PyD
open PySem PySem.Spec L2
open PyProof.Rows hiding St

/-! ### an order that can be reckoned with -/
def insD {α : Type} (le : α → α → Bool) (a : α) : List α → List α
  | [] => [a]
  | b :: r => if le a b then a :: b :: r else b :: insD le a r
def isort {α : Type} (le : α → α → Bool) : List α → List α
  | [] => []
  | a :: r => insD le a (isort le r)
theorem insD_split {α : Type} {le : α → α → Bool} {a : α} : ∀ {l₁ l₂ : List α}, (∀ b, b ∈ l₁ → (!le a b) = true) → (∀ b, b ∈ l₂ → le a b = true) → insD le a (l₁ ++ l₂) = l₁ ++ a :: l₂
  | [], [], _, _ => rfl
  | [], b :: r, _, h => by
    simp only [List.nil_append, insD]
    rw [if_pos (h b List.mem_cons_self)]
  | b :: r, l₂, h, k => by
    simp only [List.cons_append, insD]
    have hb := h b List.mem_cons_self
    simp only [Bool.not_eq_true'] at hb
    rw [if_neg (by rw [hb]; exact Bool.false_ne_true), insD_split (fun c hc => h c (List.mem_cons_of_mem _ hc)) k]
theorem isort_eq {α : Type} {le : α → α → Bool} (trans : ∀ a b c, le a b = true → le b c = true → le a c = true) (total : ∀ a b, (le a b || le b a) = true) : ∀ l : List α, l.mergeSort le = isort le l
  | [] => by simp [isort]
  | a :: l => by
    obtain ⟨l₁, l₂, h1, h2, h3⟩ := List.mergeSort_cons trans total a l
    have hs := List.pairwise_mergeSort trans total (a :: l)
    rw [h1] at hs ⊢
    simp only [isort]
    rw [← isort_eq trans total l, h2]
    refine (insD_split (fun b hb => h3 b hb) fun b hb => ?_).symm
    have := (List.pairwise_append.mp hs).2.1
    exact (List.pairwise_cons.mp this).1 b hb
def encD (ah : AH) (d : D) : PyData := (py ah d).getD .none
def leD (ah : AH) (a b : D) : Bool := !PySem.W.dataLt (encD ah b) (encD ah a)
def sortD (ah : AH) (ds : List D) : List D := isort (leD ah) ds
theorem sortD_eq (ah : AH) (ds : List D) : ds.mergeSort (PySem.W.dataLe false (encD ah)) = sortD ah ds := by
  have t := PySem.W.sortLe_total (PyProof.Rows.listOrd PyProof.Rows.itemOrd) false fun b => PySem.W.keyToks (encD ah b)
  exact isort_eq (le := PySem.W.dataLe false (encD ah)) t.trans (fun a b => by rw [Bool.or_eq_true]; exact t.total a b) ds
def isTupNE : PyData → Bool
  | .tuple (_ :: _) => true
  | _ => false
def notTup : PyData → Bool
  | .tuple _ => false
  | .none => false
  | _ => true
/-- what may be sorted: alike, all of them tuples or none of them -/
def sortOk (ah : AH) (ds : List D) : Bool := (ds.all fun d => (py ah d).isSome && decide ((encD ah d).depth ≤ 60)) && (ds.all fun a => ds.all fun b => PySem.W.alike (encD ah a) (encD ah b)) && ((ds.all fun d => isTupNE (encD ah d)) || (ds.all fun d => notTup (encD ah d))) && decide (ds.length ≤ sizeLine)
section
variable {X : Cx} {P : Pm} {W : WXT}
theorem each_reads {pins : List (Addr × Obj)} {σ : L2.St} {H : Hp} {s : Shared} {ι : Pl} {ah : AH} (c : Ctx X P W) (I : L2.Inv X pins σ H s) (hr : HRep P ι ah H) : ∀ {ds : List D} {ys : List V} {us : List Value}, (∀ d ∈ ds, (py ah d).isSome = true) → RepVs P.K ah.length ι H ds ys → Vals ys us →
    PySem.W.EachIs (fun v d => ∃ x, RelV x v ∧ RepV P.K ah.length ι H d x) us ds ∧ PySem.W.EachIs (fun v d => ∃ as, Reads s.heap v (encD ah d) as) us ds
  | [], ys, us, _, r, v => by
    simp only [RepVs] at r
    subst r
    cases v
    exact ⟨.nil, .nil⟩
  | d :: ds, ys, us, h, r, v => by
    simp only [RepVs] at r
    obtain ⟨y, r', rfl, h1, h2⟩ := r
    cases v with
    | cons v1 v2 =>
      obtain ⟨a1, a2⟩ := each_reads c I hr (fun d hd => h d (List.mem_cons_of_mem _ hd)) h2 v2
      refine ⟨.cons ⟨y, v1, h1⟩ a1, .cons ?_ a2⟩
      obtain ⟨pd, e⟩ := Option.isSome_iff_exists.mp (h d List.mem_cons_self)
      obtain ⟨h3, _⟩ := dp_py hr e h1
      rw [c.k] at h3
      unfold encD
      rw [e]
      exact Dp.reads I pd y _ h3 v1
theorem each_back {N : Nat} {ι : Pl} {H : Hp} : ∀ {ds : List D} {us : List Value}, PySem.W.EachIs (fun v d => ∃ x, RelV x v ∧ RepV P.K N ι H d x) us ds → ∃ ys, RepVs P.K N ι H ds ys ∧ Vals ys us
  | [], _, .nil => ⟨[], by simp only [RepVs], .nil⟩
  | d :: ds, _, .cons ⟨x, h1, h2⟩ t => by
    obtain ⟨ys, h3, h4⟩ := each_back t
    exact ⟨x :: ys, by simp only [RepVs]; exact ⟨x, ys, rfl, h2, h3⟩, .cons h1 h4⟩
/-- the items come; a new list of them is sorted -/
theorem sort_core {pins : List (Addr × Obj)} {σ : L2.St} {H : Hp} {s : Shared} {ι : Pl} {ah : AH} {ds : List D} {ys : List V} {us : List Value} {A : Around} {E : Value → Shared → Prop} {Rf : PySem.Fin → Shared → Prop} (c : Ctx X P W) (I : L2.Inv X pins σ H s) (hr : HRep P ι ah H)
    (rp : RepVs P.K ah.length ι H ds ys) (r : Vals ys us) (ok : sortOk ah ds = true) (hu : A.units + 70 < cLine)
    (hQ : ∀ l s' zs, H l = none → L2.Inv X pins σ (upd H l (.lst zs)) s' → RepVs P.K ah.length ι H (sortD ah ds) zs → Rf (.done (.ret (.ref l))) s') :
    wpAny (model X.prog X.w) A (do let l ← newList us; let _ ← holding [l] (call (.builtin "list.sort") [l] []); PySem.ret l) Rf E s := by
  unfold sortOk at ok
  simp only [Bool.and_eq_true, decide_eq_true_eq] at ok
  obtain ⟨⟨⟨o1, o2⟩, o3⟩, o4⟩ := ok
  rw [List.all_eq_true] at o1 o2
  simp only [Bool.and_eq_true, decide_eq_true_eq] at o1
  obtain ⟨e1, e2⟩ := each_reads c I hr (fun d hd => (o1 d hd).1) rp r
  have hal : PySem.W.AllAlike (ds.map (encD ah)) := by
    intro d hd d' hd'
    obtain ⟨b, hb, rfl⟩ := List.mem_map.mp hd
    obtain ⟨b', hb', rfl⟩ := List.mem_map.mp hd'
    exact List.all_eq_true.mp (o2 b hb) b' hb'
  have hk : PySem.W.Sortable (ds.map (encD ah)) := by
    rw [Bool.or_eq_true, List.all_eq_true, List.all_eq_true] at o3
    rcases o3 with o3 | o3
    · refine .inl fun d hd => ?_
      obtain ⟨b, hb, rfl⟩ := List.mem_map.mp hd
      have := o3 b hb
      unfold isTupNE at this
      split at this
      · rename_i x r e; exact ⟨x, r, e⟩
      · cases this
    · refine .inr fun d hd => ?_
      obtain ⟨b, hb, rfl⟩ := List.mem_map.mp hd
      have := o3 b hb
      unfold notTup at this
      split at this
      · cases this
      · cases this
      · rename_i h1 h2; exact ⟨h2, h1⟩
  have hlu : us.length = ds.length := e1.length
  refine wpAny_bind (wpAny_newList ?_ (by rw [hlu]; exact o4))
  have ho : (s.heap.push (PyProof.Rows.seqObj "list" us.toArray 0)).get? s.heap.objs.size = some (PyProof.Rows.seqObj "list" us.toArray 0) := Heap.get?_push_size _ rfl
  have e3 : PySem.W.EachIs (fun v d => ∃ as, Reads (PySem.W.sortingHeap (s.heap.push (PyProof.Rows.seqObj "list" us.toArray 0)) s.heap.objs.size us) v (encD ah d) as) us ds :=
    e2.mono fun _ _ ⟨as, z⟩ => ⟨as, PyProof.Rows.Reads.keeps (fun b o e => PySem.W.sortingHeap_old (Nat.ne_of_lt (Heap.lt_size e)) (Heap.get?_push_of_some _ e)) z⟩
  show wpAny _ _ _ _ _ { s with heap := s.heap.push (PyProof.Rows.seqObj "list" us.toArray 0) }
  refine wpAny_bind (wpAny_holding (wpAny_call_entry PyProof.Rows.slot_list_sort ⟨_, ho, rfl⟩ PyProof.Rows.entry_list_sort (PySem.W.list_sort_vals (κ := PySem.W.dataKind _ (ds.map (encD ah))) ho (PySem.W.SortsAt.data (s := { s with heap := PySem.W.sortingHeap (s.heap.push (PyProof.Rows.seqObj "list" us.toArray 0)) s.heap.objs.size us }) (PySem.W.each_map (R := fun v d => ∃ as, Reads (PySem.W.sortingHeap (s.heap.push (PyProof.Rows.seqObj "list" us.toArray 0)) s.heap.objs.size us) v d as) (encD ah) e3) hal hk (PySem.W.bound_map fun b hb => ?_)) (by rw [hlu]; exact o4) ⟨.none, rfl, ?_⟩) (PyProof.Rows.args_list_sort _)))
  · have := (o1 b hb).2
    show A.units + 1 + _ < _
    omega
  · have out := PySem.W.sortVals_data (h' := PySem.W.sortingHeap (s.heap.push (PyProof.Rows.seqObj "list" us.toArray 0)) s.heap.objs.size us) false e1 e3 hal
    rw [sortD_eq] at out
    generalize hou : PySem.W.sortVals (PySem.W.dataKind (PySem.W.sortingHeap (s.heap.push (PyProof.Rows.seqObj "list" us.toArray 0)) s.heap.objs.size us) (ds.map (encD ah))) false us us = ou at out ⊢
    obtain ⟨zs, z1, z2⟩ := each_back out
    have hn : H s.heap.objs.size = none := I.hok.fresh (Nat.le_refl _)
    obtain ⟨ep, hat⟩ := PyProof.Rows.sortedHeap_at (out := ou.toArray) ho
    refine wpAny_pure (hQ s.heap.objs.size _ zs hn (I.laid (t' := s.toks) (fun b o e => ?_) (Nat.le_refl _) ?_) z1)
    · exact (PyProof.Rows.sortedHeap_old (Nat.ne_of_lt (Heap.lt_size e)) (by rw [Heap.size_push]; exact Nat.lt_succ_of_lt (Heap.lt_size e))).trans (Heap.get?_push_of_some _ e)
    · refine ⟨?_, ou, ep, z2, hat⟩
      have l1 : zs.length = ou.length := z2.length
      have l2 : ou.length = us.length := by rw [← hou]; exact PySem.W.sortVals_length false rfl
      rw [l1, l2, hlu]; exact o4
end
end PyD

/-! PyCall: calls of builtins, of defs, of methods; new objects; raise. -/
namespace PyD
open PySem PySem.Spec L2
open PyProof.Rows hiding St

section
variable {X : Cx} {P : Pm} {W : WXT}
/-! ### a builtin called with values -/
abbrev OpL := AH → List D → Option D
def CallD (X : Cx) (P : Pm) (f : Value) (op : OpL) : Prop :=
  ∀ (pins : List (Addr × Obj)) (s : Shared) (σ : L2.St) (H : Hp) (xs : List V) (us : List Value) (Q : VK) (ι : Pl) (ah : AH) (ds : List D) (d : D), L2.Inv X pins σ H s → Vals xs us → HRep P ι ah H → RepVs P.K ah.length ι H ds xs → op ah ds = some d →
    (∀ H' z, Ext ah.length ι H ah.length ι H' → HRep P ι ah H' → RepV P.K ah.length ι H' d z → Q z H') → wpAny (model X.prog X.w) X.A (call f us) (EP X pins σ Q) X.xe s
theorem CallD.of {f : Value} {r : List V → Hp → VK → Prop} {op : OpL} (h : CallR X f r)
    (w : ∀ (H : Hp) (xs : List V) (Q : VK) (ι : Pl) (ah : AH) (ds : List D) (d : D), HRep P ι ah H → RepVs P.K ah.length ι H ds xs → op ah ds = some d → (∀ H' z, Ext ah.length ι H ah.length ι H' → HRep P ι ah H' → RepV P.K ah.length ι H' d z → Q z H') → r xs H Q) : CallD X P f op :=
  fun pins s σ H xs us Q ι ah ds d I r hr rp e q => h pins s σ H xs us Q I r (w H xs Q ι ah ds d hr rp e q)
def orL (f g : OpL) : OpL := fun h ds => match f h ds with
  | some d => some d
  | none => g h ds
theorem CallD.or {f : Value} {op op' : OpL} (h : CallD X P f op) (h' : CallD X P f op') : CallD X P f (orL op op') := fun pins s σ H xs us Q ι ah ds d I r hr rp e q => by
  unfold orL at e
  cases z : op ah ds with
  | some d' => rw [z] at e; cases e; exact h pins s σ H xs us Q ι ah ds d I r hr rp z q
  | none => rw [z] at e; exact h' pins s σ H xs us Q ι ah ds d I r hr rp e q
def eCall (op : OpL) (g : Env → M (List D)) : Env → M D := fun env => bnd (g env) fun ds h => match op h ds with
  | some d => .ok d h
  | none => .bad
variable {e : Expr} {es : List Expr} {g : Env → M (List D)} {x : Str} {p pos : Pos}
theorem de_callB {id : String} {op : OpL} (hc : CallD X P (.builtin id) op) (hg : Gl X x) (hm : X.mg x = none) (hv : bootBuiltins x = some (.builtin id)) (ha : DA X P W (e :: es) g) (hn : x ≠ "__name__" := by decide) (hdb : (x == ("__debug__" : Str)) = false := by decide)
    (he : starEach (e :: es) X.env = (false, eval e X.env) :: starEach es X.env := by rfl) (hpl : (backTo pos (starEach es X.env)).any (·.1) = false := by rfl) : DE X P W (.Call (.Name x p) (e :: es) [] pos) (eCall op g) := by
  refine ⟨fun pins s σ H Q I ⟨ι, ah, env, st, q⟩ => ?_⟩
  refine wpAny_Call_Name_kw (ld_blt I hg hm hv ?_ hn hdb)
  refine PyProof.Rows.callWith_builtin1 (thn (ha.run pos pins s σ H _ I ⟨ι, ah, env, st, q.step (Rp := rVs P)⟩) fun us s1 ⟨vs, H1, I1, r1, ι1, ah1, ds, x1, hr1, rp1, q1⟩ => ?_) he hpl
  cases eo : op ah1 ds with
  | none => rw [eo] at q1; exact q1.elim
  | some d =>
    rw [eo] at q1
    exact hc pins s1 σ H1 vs us Q ι1 ah1 ds d I1 r1 hr1 rp1 eo fun H' z a b c => q1 ι1 H' z a b c
theorem de_callT {T : String} {op : OpL} (hc : CallD X P (.type T) op) (hg : Gl X x) (hm : X.mg x = none) (hv : bootBuiltins x = some (.type T)) (ha : DA X P W (e :: es) g) (hn : x ≠ "__name__" := by decide) (hdb : (x == ("__debug__" : Str)) = false := by decide)
    (he : starEach (e :: es) X.env = (false, eval e X.env) :: starEach es X.env := by rfl) (hpl : (backTo pos (starEach es X.env)).any (·.1) = false := by rfl) : DE X P W (.Call (.Name x p) (e :: es) [] pos) (eCall op g) := by
  refine ⟨fun pins s σ H Q I ⟨ι, ah, env, st, q⟩ => ?_⟩
  refine wpAny_Call_Name_kw (ld_blt I hg hm hv ?_ hn hdb)
  refine PyProof.Rows.callWith_type1 (thn (ha.run pos pins s σ H _ I ⟨ι, ah, env, st, q.step (Rp := rVs P)⟩) fun us s1 ⟨vs, H1, I1, r1, ι1, ah1, ds, x1, hr1, rp1, q1⟩ => ?_) he hpl
  cases eo : op ah1 ds with
  | none => rw [eo] at q1; exact q1.elim
  | some d =>
    rw [eo] at q1
    exact hc pins s1 σ H1 vs us Q ι1 ah1 ds d I1 r1 hr1 rp1 eo fun H' z a b c => q1 ι1 H' z a b c
/-- the one value -/
theorem rep1 {K : KL} {N : Nat} {ι : Pl} {H : Hp} {d : D} {xs : List V} (r : RepVs K N ι H [d] xs) : ∃ v, xs = [v] ∧ RepV K N ι H d v := by
  simp only [RepVs] at r
  obtain ⟨v, t, rfl, h, rfl⟩ := r
  exact ⟨v, rfl, h⟩
theorem rep2 {K : KL} {N : Nat} {ι : Pl} {H : Hp} {d e : D} {xs : List V} (r : RepVs K N ι H [d, e] xs) : ∃ v w, xs = [v, w] ∧ RepV K N ι H d v ∧ RepV K N ι H e w := by
  simp only [RepVs] at r
  obtain ⟨v, t, rfl, h, w, t', rfl, h', rfl⟩ := r
  exact ⟨v, w, rfl, h, h'⟩
/-- ints alone -/
theorem rep_intsD {K : KL} {N : Nat} {ι : Pl} {H : Hp} : ∀ {ds : List D} {is : List Int} {vs : List V}, intsD ds = some is → RepVs K N ι H ds vs → vs = is.map V.int
  | [], is, vs, h, r => by
    simp only [intsD, Option.some.injEq] at h
    simp only [RepVs] at r
    subst h; exact r
  | d :: ds, is, vs, h, r => by
    simp only [intsD] at h
    split at h
    · rename_i i is' h2
      cases h
      simp only [RepVs, RepV] at r
      obtain ⟨v, t, rfl, rfl, r2⟩ := r
      rw [rep_intsD h2 r2]; rfl
    · cases h
def opAbs : OpL := fun _ ds => match ds with
  | [.int i] => some (.int (if i < 0 then -i else i))
  | _ => none
theorem cd_abs (c : Ctx X P W) : CallD X P (.builtin "abs") opAbs := CallD.of call_abs fun H xs Q ι ah ds d hr rp e q => by
  unfold opAbs at e
  split at e
  · cases e
    obtain ⟨v, rfl, h⟩ := rep1 rp
    simp only [RepV] at h
    subst h
    exact ⟨_, rfl, q H _ Ext.refl hr (by simp only [RepV])⟩
  · cases e
def opInt : OpL := fun _ ds => match ds with
  | [.int i] => some (.int i)
  | [.bl b] => some (.int (if b then 1 else 0))
  | _ => none
theorem cd_int (c : Ctx X P W) : CallD X P (.type "int") opInt := CallD.of call_int1 fun H xs Q ι ah ds d hr rp e q => by
  unfold opInt at e
  split at e
  · cases e
    obtain ⟨v, rfl, h⟩ := rep1 rp
    simp only [RepV] at h
    subst h
    exact .inl ⟨_, rfl, q H _ Ext.refl hr (by simp only [RepV])⟩
  · cases e
    obtain ⟨v, rfl, h⟩ := rep1 rp
    simp only [RepV] at h
    subst h
    exact .inr ⟨_, rfl, q H _ Ext.refl hr (by simp only [RepV])⟩
  · cases e
def opMax2 : OpL := fun _ ds => match ds with
  | [.int i, .int j] => some (.int (if j > i then j else i))
  | _ => none
theorem cd_max2 (c : Ctx X P W) : CallD X P (.builtin "max") opMax2 := CallD.of (call_max2 c.calm) fun H xs Q ι ah ds d hr rp e q => by
  unfold opMax2 at e
  split at e
  · cases e
    obtain ⟨v, w, rfl, h, h'⟩ := rep2 rp
    simp only [RepV] at h h'
    subst h h'
    exact ⟨_, _, rfl, q H _ Ext.refl hr (by simp only [RepV])⟩
  · cases e
def opMin2 : OpL := fun _ ds => match ds with
  | [.int i, .int j] => some (.int (if j < i then j else i))
  | _ => none
theorem cd_min2 (c : Ctx X P W) : CallD X P (.builtin "min") opMin2 := CallD.of (call_min2 c.calm) fun H xs Q ι ah ds d hr rp e q => by
  unfold opMin2 at e
  split at e
  · cases e
    obtain ⟨v, w, rfl, h, h'⟩ := rep2 rp
    simp only [RepV] at h h'
    subst h h'
    exact ⟨_, _, rfl, q H _ Ext.refl hr (by simp only [RepV])⟩
  · cases e
def opLen : OpL := fun ah ds => match ds with
  | [d] => match sqOf ah d with
    | .seq _ xs => some (.int xs.length)
    | .txt z => some (.int z.length)
    | _ => none
  | _ => none
theorem cd_len (c : Ctx X P W) : CallD X P (.builtin "len") opLen := by
  obtain ⟨⟨K0, lm0, lq0⟩, cl0, tb0⟩ := P
  obtain rfl : K0 = X.K := c.k
  exact CallD.of (call_len_seq.or call_len_str) fun H xs Q ι ah ds d hr rp e q => by
    unfold opLen at e
    split at e
    · rename_i d1
      obtain ⟨v, rfl, h⟩ := rep1 rp
      split at e
      · rename_i isL ys es
        cases e
        obtain ⟨a, vs, rfl, hs, r⟩ := sq_seq hr h es
        refine .inl ⟨a, vs, rfl, ?_, q H _ Ext.refl hr (by simp only [RepV]; rw [r.length])⟩
        cases isL with
        | true => exact .inl hs
        | false => exact .inr hs
      · rename_i z es
        cases e
        obtain ⟨rfl, hz⟩ := sq_txt h es
        exact .inr ⟨z, rfl, (sOk_iff.mp hz).2, q H _ Ext.refl hr (by simp only [RepV])⟩
      · cases e
    · cases e
def opTuple : OpL := fun ah ds => match ds with
  | [d] => match sqOf ah d with
    | .seq _ xs => some (.tup xs)
    | _ => none
  | _ => none
theorem cd_tuple (c : Ctx X P W) : CallD X P (.type "tuple") opTuple := by
  obtain ⟨⟨K0, lm0, lq0⟩, cl0, tb0⟩ := P
  obtain rfl : K0 = X.K := c.k
  exact CallD.of call_tuple_of fun H xs Q ι ah ds d hr rp e q => by
    unfold opTuple at e
    split at e
    · obtain ⟨v, rfl, h⟩ := rep1 rp
      split at e
      · rename_i isL ys es
        cases e
        obtain ⟨a, vs, rfl, hs, r⟩ := sq_seq hr h es
        refine ⟨a, vs, rfl, ?_⟩
        cases isL with
        | true => exact .inl ⟨hs, fun l hl => q _ _ (Ext.fresh hr hl) (hr.fresh hl) (rep_tup hr.notup hl r)⟩
        | false => exact .inr ⟨hs, q H _ Ext.refl hr (by simp only [RepV]; exact ⟨a, vs, rfl, hs, r⟩)⟩
      · cases e
    · cases e
def opList : OpL := fun ah ds => match ds with
  | [d] => match sqOf ah d with
    | .seq _ xs => some (.lst xs)
    | _ => none
  | _ => none
theorem cd_list (c : Ctx X P W) : CallD X P (.type "list") opList := by
  obtain ⟨⟨K0, lm0, lq0⟩, cl0, tb0⟩ := P
  obtain rfl : K0 = X.K := c.k
  exact CallD.of call_list_of fun H xs Q ι ah ds d hr rp e q => by
    unfold opList at e
    split at e
    · obtain ⟨v, rfl, h⟩ := rep1 rp
      split at e
      · rename_i isL ys es
        cases e
        obtain ⟨a, vs, rfl, hs, r⟩ := sq_seq hr h es
        refine ⟨a, vs, rfl, ?_, fun l hl => q _ _ (Ext.fresh hr hl) (hr.fresh hl) (rep_lst hr hl r)⟩
        cases isL with
        | true => exact .inl hs
        | false => exact .inr hs
      · cases e
    · cases e
def opSum : OpL := fun ah ds => match ds with
  | [d] => match sqOf ah d with
    | .seq _ xs => (intsD xs).map fun is => .int is.sum
    | _ => none
  | _ => none
theorem cd_sum (c : Ctx X P W) : CallD X P (.builtin "sum") opSum := by
  obtain ⟨⟨K0, lm0, lq0⟩, cl0, tb0⟩ := P
  obtain rfl : K0 = X.K := c.k
  intro pins s σ H xs us Q ι ah ds d I r hr rp e q
  unfold opSum at e
  split at e
  · obtain ⟨v, rfl, h⟩ := rep1 rp
    split at e
    · rename_i isL ys es
      rw [Option.map_eq_some_iff] at e
      obtain ⟨is, ei, rfl⟩ := e
      obtain ⟨a, vs, rfl, hs, rr⟩ := sq_seq hr h es
      have hv := rep_intsD ei rr
      subst hv
      rw [Vals.ref1 r]
      cases isL with
      | true =>
        obtain ⟨its, rv, hl, _⟩ := I.list hs
        exact sum_raw (I.ok.hd c.calm) hl.isList rv.ints fun h' tk t' hk => ⟨.int _, H, I.kept hk, ⟨_, rfl⟩, q H _ Ext.refl hr (by simp only [RepV])⟩
      | false =>
        obtain ⟨its, rv, hl, _⟩ := I.tuple hs
        obtain ⟨zs, hx⟩ := rv.ints.allInts.items
        have hn : numsOf its = is := rv.ints.numsOf
        rw [hx] at hl
        have hn2 : (intItems zs).toList = its := by rw [← hx]
        rw [← hn2] at hn
        rw [nums_intItems] at hn
        refine PySem.W.ktm_sumG (I.ok.hd c.calm) hl fun h' tk t' hk => ⟨.int is.sum, H, I.kept hk, ⟨t', ?_⟩, q H _ Ext.refl hr (by simp only [RepV])⟩
        rw [preSum_eq, List.take_of_length_le (by simp), hn]
    · cases e
  · cases e
theorem max_mem {is : List Int} {m : Int} (h : m ∈ is) (k : ∀ y, y ∈ is → y ≤ m) : is.foldl max (is.headD 0) = m := by
  have key : ∀ (l : List Int) (a : Int), (a = m ∨ m ∈ l) → a ≤ m → (∀ y ∈ l, y ≤ m) → l.foldl max a = m := by
    intro l
    induction l with
    | nil => intro a h1 h2 _; exact h1.elim _root_.id fun z => absurd z (by simp)
    | cons b l ih =>
      intro a h1 h2 h3
      simp only [List.foldl_cons]
      have hb := h3 b List.mem_cons_self
      refine ih (max a b) ?_ (by omega) fun y hy => h3 y (List.mem_cons_of_mem _ hy)
      rcases h1 with h1 | h1
      · left; omega
      · rcases List.mem_cons.mp h1 with h1 | h1
        · left; omega
        · exact .inr h1
  cases is with
  | nil => cases h
  | cons a l => exact key (a :: l) a (.inr h) (k a List.mem_cons_self) k
theorem min_mem {is : List Int} {m : Int} (h : m ∈ is) (k : ∀ y, y ∈ is → m ≤ y) : is.foldl min (is.headD 0) = m := by
  have key : ∀ (l : List Int) (a : Int), (a = m ∨ m ∈ l) → m ≤ a → (∀ y ∈ l, m ≤ y) → l.foldl min a = m := by
    intro l
    induction l with
    | nil => intro a h1 h2 _; exact h1.elim _root_.id fun z => absurd z (by simp)
    | cons b l ih =>
      intro a h1 h2 h3
      simp only [List.foldl_cons]
      have hb := h3 b List.mem_cons_self
      refine ih (min a b) ?_ (by omega) fun y hy => h3 y (List.mem_cons_of_mem _ hy)
      rcases h1 with h1 | h1
      · left; omega
      · rcases List.mem_cons.mp h1 with h1 | h1
        · left; omega
        · exact .inr h1
  cases is with
  | nil => cases h
  | cons a l => exact key (a :: l) a (.inr h) (k a List.mem_cons_self) k
theorem max_tup0 {prog : Program} {w : World} {A : Around} {E : Value → Shared → Prop} {s : Shared} {t : Addr} {xs : Array (Int × Tok)} {Q : Value → Shared → Prop} (hh : A.handled = none) (ht : s.heap.IsTuple t (intItems xs)) (hne : 0 < xs.size)
    (h : ∀ v h' tk, (intItems xs)[argBest (fun i j => decide (numAt xs i > numAt xs j)) (xs.size - 1)]? = some v → (∀ b o, s.heap.get? b = some o → h'.get? b = some o) → Q v { s with heap := h', toks := tk }) :
    wpAny (model prog w) A (call (.builtin "max") [.ref t]) Q E s := by
  obtain ⟨o, ho, hc, n, hd⟩ := id ht
  have off : t ≠ s.heap.objs.size := Nat.ne_of_lt (Heap.lt_size ho)
  refine call_max_walk (wpAny_pyIter_tuple ht ?_)
  refine ⟨s.heap.objs.size, _, _, _, _, _, _, rfl, Walks.tuple (A := A.in1) hh s.heap.objs.size t off (intItems xs), ⟨⟨_, Heap.get?_push_size _ rfl, rfl, rfl⟩, ht.at fun o e => Heap.get?_push_of_some _ e⟩, fun b hb => ?_, by simpa [intItems] using hne, CmpOf.ints_gt (numAt xs) (fun _ _ => intItems_at), fun v h' tk hP hk => ?_⟩
  · rcases List.mem_cons.mp hb with rfl | hb
    · exact Heap.lt_size (Heap.get?_push_size _ rfl)
    · obtain rfl := List.mem_singleton.mp hb
      exact Heap.lt_size (Heap.get?_push_of_some _ ho)
  · exact h v h' tk (by simpa [intItems] using hP) fun b o e => hk b o (fun hb => absurd (Heap.lt_size e) ((List.mem_singleton.mp hb) ▸ Nat.lt_irrefl _)) (Heap.get?_push_of_some _ e)
theorem max_tup {prog : Program} {w : World} {A : Around} {E : Value → Shared → Prop} {s : Shared} {t : Addr} {its : List Value} {ns : List Int} {Q : Value → Shared → Prop} (hh : A.handled = none) (hl : s.heap.IsTuple t its.toArray) (hi : IntsAre its ns) (hne : 0 < ns.length)
    (h : ∀ h' tk M t', (∀ b o, s.heap.get? b = some o → h'.get? b = some o) → M ∈ ns → (∀ a, a ∈ ns → a ≤ M) → Q (.int M t') { s with heap := h', toks := tk }) : wpAny (model prog w) A (call (.builtin "max") [.ref t]) Q E s := by
  obtain ⟨xs, e⟩ := hi.allInts.items
  have hn : numsOf (intItems xs).toList = ns := by rw [← e]; exact hi.numsOf
  rw [nums_intItems] at hn
  subst hn
  rw [e] at hl
  have hsz : 0 < xs.size := by simpa using hne
  refine max_tup0 hh hl hsz fun v h' tk hv hk => ?_
  obtain ⟨t, rfl⟩ := intItems_at hv
  obtain ⟨h1, h2⟩ := argBest_gt (numAt xs) (xs.size - 1)
  refine h h' tk _ t hk ?_ fun a ha => ?_
  · rw [numAt_eq]; exact PySem.getD_mem (by rw [List.length_map, Array.length_toList]; omega)
  · obtain ⟨j, hj, rfl⟩ := mem_getD ha
    rw [List.length_map, Array.length_toList] at hj
    rw [← numAt_eq]; exact h2 j (by omega)
def opMaxL : OpL := fun ah ds => match ds with
  | [d] => match sqOf ah d with
    | .seq _ xs => match intsD xs with
      | some (i :: is) => some (.int ((i :: is).foldl max i))
      | _ => none
    | _ => none
  | _ => none
theorem cd_maxL (c : Ctx X P W) : CallD X P (.builtin "max") opMaxL := by
  obtain ⟨⟨K0, lm0, lq0⟩, cl0, tb0⟩ := P
  obtain rfl : K0 = X.K := c.k
  intro pins s σ H xs us Q ι ah ds d I r hr rp e q
  unfold opMaxL at e
  split at e
  · obtain ⟨v, rfl, h⟩ := rep1 rp
    split at e
    · rename_i isL ys es
      split at e
      · rename_i i is ei
        cases e
        obtain ⟨a, vs, rfl, hs, rr⟩ := sq_seq hr h es
        have hv := rep_intsD ei rr
        subst hv
        rw [Vals.ref1 r]
        have fin : ∀ M, M ∈ i :: is → (∀ a, a ∈ i :: is → a ≤ M) → Q (.int M) H := fun M h1 h2 => by
          have := max_mem h1 h2
          exact q H _ Ext.refl hr (by simp only [RepV]; rw [← this]; rfl)
        cases isL with
        | true =>
          obtain ⟨its, rv, hl, _⟩ := I.list hs
          exact max_raw (I.ok.hd c.calm) hl.isList rv.ints (Nat.succ_pos _) fun h' tk M t' hk h1 h2 => ⟨.int M, H, I.kept hk, ⟨_, rfl⟩, fin M h1 h2⟩
        | false =>
          obtain ⟨its, rv, hl, _⟩ := I.tuple hs
          exact max_tup (I.ok.hd c.calm) hl rv.ints (Nat.succ_pos _) fun h' tk M t' hk h1 h2 => ⟨.int M, H, I.kept hk, ⟨_, rfl⟩, fin M h1 h2⟩
      · cases e
    · cases e
  · cases e
theorem min_tup0 {prog : Program} {w : World} {A : Around} {E : Value → Shared → Prop} {s : Shared} {t : Addr} {xs : Array (Int × Tok)} {Q : Value → Shared → Prop} (hh : A.handled = none) (ht : s.heap.IsTuple t (intItems xs)) (hne : 0 < xs.size)
    (h : ∀ v h' tk, (intItems xs)[argBest (fun i j => decide (numAt xs i < numAt xs j)) (xs.size - 1)]? = some v → (∀ b o, s.heap.get? b = some o → h'.get? b = some o) → Q v { s with heap := h', toks := tk }) :
    wpAny (model prog w) A (call (.builtin "min") [.ref t]) Q E s := by
  obtain ⟨o, ho, hc, n, hd⟩ := id ht
  have off : t ≠ s.heap.objs.size := Nat.ne_of_lt (Heap.lt_size ho)
  refine call_min_walk (wpAny_pyIter_tuple ht ?_)
  refine ⟨s.heap.objs.size, _, _, _, _, _, _, rfl, Walks.tuple (A := A.in1) hh s.heap.objs.size t off (intItems xs), ⟨⟨_, Heap.get?_push_size _ rfl, rfl, rfl⟩, ht.at fun o e => Heap.get?_push_of_some _ e⟩, fun b hb => ?_, by simpa [intItems] using hne, CmpOf.ints_lt (numAt xs) (fun _ _ => intItems_at), fun v h' tk hP hk => ?_⟩
  · rcases List.mem_cons.mp hb with rfl | hb
    · exact Heap.lt_size (Heap.get?_push_size _ rfl)
    · obtain rfl := List.mem_singleton.mp hb
      exact Heap.lt_size (Heap.get?_push_of_some _ ho)
  · exact h v h' tk (by simpa [intItems] using hP) fun b o e => hk b o (fun hb => absurd (Heap.lt_size e) ((List.mem_singleton.mp hb) ▸ Nat.lt_irrefl _)) (Heap.get?_push_of_some _ e)
theorem min_tup {prog : Program} {w : World} {A : Around} {E : Value → Shared → Prop} {s : Shared} {t : Addr} {its : List Value} {ns : List Int} {Q : Value → Shared → Prop} (hh : A.handled = none) (hl : s.heap.IsTuple t its.toArray) (hi : IntsAre its ns) (hne : 0 < ns.length)
    (h : ∀ h' tk M t', (∀ b o, s.heap.get? b = some o → h'.get? b = some o) → M ∈ ns → (∀ a, a ∈ ns → M ≤ a) → Q (.int M t') { s with heap := h', toks := tk }) : wpAny (model prog w) A (call (.builtin "min") [.ref t]) Q E s := by
  obtain ⟨xs, e⟩ := hi.allInts.items
  have hn : numsOf (intItems xs).toList = ns := by rw [← e]; exact hi.numsOf
  rw [nums_intItems] at hn
  subst hn
  rw [e] at hl
  have hsz : 0 < xs.size := by simpa using hne
  refine min_tup0 hh hl hsz fun v h' tk hv hk => ?_
  obtain ⟨t, rfl⟩ := intItems_at hv
  obtain ⟨h1, h2⟩ := argBest_lt (numAt xs) (xs.size - 1)
  refine h h' tk _ t hk ?_ fun a ha => ?_
  · rw [numAt_eq]; exact PySem.getD_mem (by rw [List.length_map, Array.length_toList]; omega)
  · obtain ⟨j, hj, rfl⟩ := mem_getD ha
    rw [List.length_map, Array.length_toList] at hj
    rw [← numAt_eq]; exact h2 j (by omega)
def opMinL : OpL := fun ah ds => match ds with
  | [d] => match sqOf ah d with
    | .seq _ xs => match intsD xs with
      | some (i :: is) => some (.int ((i :: is).foldl min i))
      | _ => none
    | _ => none
  | _ => none
theorem cd_minL (c : Ctx X P W) : CallD X P (.builtin "min") opMinL := by
  obtain ⟨⟨K0, lm0, lq0⟩, cl0, tb0⟩ := P
  obtain rfl : K0 = X.K := c.k
  intro pins s σ H xs us Q ι ah ds d I r hr rp e q
  unfold opMinL at e
  split at e
  · obtain ⟨v, rfl, h⟩ := rep1 rp
    split at e
    · rename_i isL ys es
      split at e
      · rename_i i is ei
        cases e
        obtain ⟨a, vs, rfl, hs, rr⟩ := sq_seq hr h es
        have hv := rep_intsD ei rr
        subst hv
        rw [Vals.ref1 r]
        have fin : ∀ M, M ∈ i :: is → (∀ a, a ∈ i :: is → M ≤ a) → Q (.int M) H := fun M h1 h2 => by
          have := min_mem h1 h2
          exact q H _ Ext.refl hr (by simp only [RepV]; rw [← this]; rfl)
        cases isL with
        | true =>
          obtain ⟨its, rv, hl, _⟩ := I.list hs
          exact min_raw (I.ok.hd c.calm) hl.isList rv.ints (Nat.succ_pos _) fun h' tk M t' hk h1 h2 => ⟨.int M, H, I.kept hk, ⟨_, rfl⟩, fin M h1 h2⟩
        | false =>
          obtain ⟨its, rv, hl, _⟩ := I.tuple hs
          exact min_tup (I.ok.hd c.calm) hl rv.ints (Nat.succ_pos _) fun h' tk M t' hk h1 h2 => ⟨.int M, H, I.kept hk, ⟨_, rfl⟩, fin M h1 h2⟩
      · cases e
    · cases e
  · cases e
def opSorted : OpL := fun ah ds => match ds with
  | [d] => match sqOf ah d with
    | .seq true xs => if sortOk ah xs then some (.lst (sortD ah xs)) else none
    | _ => none
  | _ => none
theorem cd_sorted (c : Ctx X P W) : CallD X P (.builtin "sorted") opSorted := by
  obtain ⟨⟨K0, lm0, lq0⟩, cl0, tb0⟩ := P
  obtain rfl : K0 = X.K := c.k
  intro pins s σ H xs us Q ι ah ds d I r hr rp e q
  unfold opSorted at e
  split at e
  · obtain ⟨v, rfl, h⟩ := rep1 rp
    split at e
    · rename_i ys es
      split at e
      · rename_i ok
        cases e
        obtain ⟨a, vs, rfl, hs, rr⟩ := sq_seq hr h es
        rw [Vals.ref1 r]
        obtain ⟨its, rv, hl, hz⟩ := I.list hs
        refine call_function_tree PyProof.Rows.kind_sorted PyProof.Rows.plain_sorted PyProof.Rows.entry_sorted (PyProof.Rows.args_sorted1 _) ?_
        unfold Builtin.«sorted»
        refine wpAny_bind (wpAny_of_eq (a := ()) rfl ?_)
        refine wpAny_bind (PyProof.Rows.collect_list hl.isList ?_ (by rw [← rv.length]; exact hz))
        have hu := c.un
        refine sort_core (H := H) (ys := vs) c (I.kept fun b o e => ?_) hr rr rv ok (by show X.A.units + 1 + 70 < _; omega) fun l s' zs hn I' rz => ?_
        · exact (Heap.get?_update_other _ _ (Nat.ne_of_gt (Heap.lt_size e))).trans (Heap.get?_push_of_some _ e)
        · exact ⟨.ref l, _, I', rfl, q _ _ (Ext.fresh hr hn) (hr.fresh hn) (rep_lst hr hn rz)⟩
      · cases e
    · cases e
  · cases e

/-! ### lists that change -/
def isLstO (ah : AH) (d : D) : Bool := match d with
  | .obj n => match ah[n]? with
    | some (.lst _) => true
    | _ => false
  | _ => false
def appD (ah : AH) (o x : D) : Option AH := match o with
  | .obj n => match ah[n]? with
    | some (.lst xs) => if xs.length < sizeLine then some (ah.set n (.lst (xs ++ [x]))) else none
    | _ => none
  | _ => none
def eAppend (fo fx : Env → M D) : Env → M D := fun env => bnd (fo env) fun o h => if isLstO h o then bnd (fx env) (fun x h => match appD h o x with
  | some h' => .ok .non h'
  | none => .bad) h else .bad
theorem de_append {o : Expr} {apos cpos : Pos} {fo fx : Env → M D} (c : Ctx X P W) (ho : DE X P W o fo) (hx : DE X P W e fx)
    (hbase : attributeBase o "append" X.env (eval o X.env) = eval o X.env := by rfl)
    (hfew : ((backTo cpos (starEach [e] X.env)).all (fun x => !x.1) && (backToKw cpos (keywordEach [] X.env)).all (fun x => x.1.isSome)
      && decide (([e] : List Expr).length + ([] : List Keyword).length + (if ([] : List Keyword).isEmpty then 0 else 1) < 30)) = true := by rfl)
    (hline : (apos.endLine == cpos.line) = true := by rfl) (hs : starEach [e] X.env = (false, eval e X.env) :: starEach [] X.env := by rfl) :
    DE X P W (.Call (.Attribute o "append" apos) [e] [] cpos) (eAppend fo fx) := by
  obtain ⟨⟨K0, lm0, lq0⟩, cl0, tb0⟩ := P
  obtain rfl : K0 = X.K := c.k
  exact weakE (pe_bm PySem.F.plainAttrs_list PySem.F.slot_list_append PySem.F.type_list_append mt_append ho (pa_cons hx pa_nil hs) hbase hfew hline hs) fun σ H Q ⟨ι, ah, env, st, q⟩ => ⟨ι, ah, env, st, (q.step (Rp := rV _)).imp fun v H1 ⟨ι1, ah1, d1, x1, hr1, p1, q1⟩ => by
    split at q1
    case isFalse => exact q1.elim
    rename_i hl
    have hl' : ∃ n xs, d1 = .obj n ∧ ah1[n]? = some (.lst xs) := by
      unfold isLstO at hl
      split at hl
      · split at hl
        · rename_i e; exact ⟨_, _, rfl, e⟩
        · cases hl
      · cases hl
    obtain ⟨n, xs, rfl, eo⟩ := hl'
    simp only [rV, RepV] at p1
    obtain ⟨hn, rfl⟩ := p1
    obtain ⟨vs, h1, r1⟩ := hr1.at_ n _ eo
    refine ⟨.inl ⟨rfl, vs, SqL.of h1⟩, ι1, ah1, env, st.next x1 hr1, (q1.step (Rp := rV _)).imp fun w H2 ⟨ι2, ah2, d2, x2, hr2, p2, q2⟩ => ?_⟩
    unfold appD at q2
    dsimp only at q2
    cases eo2 : ah2[n]? with
    | none => rw [eo2] at q2; exact q2.elim
    | some u =>
      rw [eo2] at q2
      cases u <;> simp only at q2 <;> try exact q2.elim
      rename_i ys
      obtain ⟨ws, h2, r2⟩ := hr2.at_ n _ eo2
      rw [x2.same n hn] at h2
      by_cases hz : ys.length < sizeLine
      · rw [if_pos hz] at q2
        have hn2 : n < ah2.length := (List.getElem?_eq_some_iff.mp eo2).1
        refine ⟨_, ws, w, rfl, rfl, h2, by rw [r2.length]; exact hz, q2 ι2 _ _ ?_ ?_ (by simp only [rV, RepV])⟩
        · rw [List.length_set, ← x2.same n hn]; exact Ext.write hr2 hn2
        · rw [← x2.same n hn]
          exact hr2.write hn2 ⟨ws ++ [w], upd_same, (r2.append (RepVs.one p2)).mono (Ex0.write hn2) hr2.notup⟩
      · rw [if_neg hz] at q2; exact q2.elim⟩

/-! ### defs -/
/-- what is wanted of exceptions, whatever the slots hold -/
abbrev WI (E : XK) : WXT := fun cls d _ H => E cls d H
theorem passI {E : XK} (tk : Takes X (WI E)) : Passes (L2.CX X.prog X.w) X E := fun pins σ H s e s' I c => L2.passAt tk σ pins H s e s' I c
/-- a def's promise -/
def spD (P : Pm) (g : List D → M D) (n : Nat) : Sp := fun vs H Q E => vs.length = n ∧ ∃ ι ah ds, HRep P ι ah H ∧ RepVs P.K ah.length ι H ds vs ∧ Fin (rV P) P (WI E) [] ι ah.length H (g ds ah) Q
theorem Fin.slots {α β : Type} {Rp : Nat → Pl → Hp → α → β → Prop} {E : XK} {σ σ' : L2.St} {ι : Pl} {N : Nat} {H : Hp} {r : R α} {Q : β → Hp → Prop} (h : Fin Rp P (WI E) σ ι N H r Q) : Fin Rp P (WI E) σ' ι N H r Q := by
  cases r with
  | ok d ah' => exact h
  | ex c ah' => exact h
  | bad => exact h
abbrev FnD (X : Cx) (P : Pm) (k : Nat) (f : Addr) (fd : FuncData) (ps : List Str) (gf : List D → M D) : Prop := FnOk X.prog X.w X.K X.mg X.base (L2.CX X.prog X.w) k f fd ps (spD P gf ps.length)
def eFun (gf : List D → M D) (g : Env → M (List D)) : Env → M D := fun env => bnd (g env) gf
/-- the arguments are as many as asked for -/
def arity (n : Nat) (gf : List D → M D) : List D → M D := fun ds h => if ds.length = n then gf ds h else .bad
variable {E : XK} {k : Nat} {f : Addr} {fd : FuncData} {ps : List Str} {gf : List D → M D}
theorem sp_of {vs : List V} {H : Hp} {Q : VK} {σ : L2.St} {ι : Pl} {ah : AH} {ds : List D} {n : Nat} (hr : HRep P ι ah H) (r : RepVs P.K ah.length ι H ds vs) (q : Fin (rV P) P (WI E) σ ι ah.length H (arity n gf ds ah) Q) : spD P gf n vs H Q E := by
  unfold arity at q
  by_cases h : ds.length = n
  · rw [if_pos h] at q
    exact ⟨by rw [r.length]; exact h, ι, ah, ds, hr, r, q.slots⟩
  · rw [if_neg h] at q; exact q.elim
theorem de_fun (F : FnD X P k f fd ps gf) (hr : Room k X.A) (c : Ctx X P (WI E)) (hg : Gl X x) (hm : X.mg x = some (.ref f)) (hk : PySem.W.keepIn X.K (.ref f) = true) (hb : Binds X.K fd ps []) (ha : DA X P (WI E) (e :: es) g)
    (hdb : (x == ("__debug__" : Str)) = false := by decide) (he : starEach (e :: es) X.env = (false, eval e X.env) :: starEach es X.env := by rfl) (hpl : (backTo pos (starEach es X.env)).any (·.1) = false := by rfl) :
    DE X P (WI E) (.Call (.Name x p) (e :: es) [] pos) (eFun (arity ps.length gf) g) :=
  weakE (pe_call F hr hg hm hk hb .nil (passI c.tk) ha hdb he hpl) fun σ H Q ⟨ι, ah, env, st, q⟩ => ⟨ι, ah, env, st, (q.step (Rp := rVs P)).imp fun vs H1 ⟨ι1, ah1, ds, x1, hr1, rp, q1⟩ => by
    rw [List.append_nil]
    exact sp_of hr1 rp q1⟩
theorem de_fun0 (F : FnD X P k f fd ps gf) (hr : Room k X.A) (c : Ctx X P (WI E)) (hg : Gl X x) (hm : X.mg x = some (.ref f)) (hk : PySem.W.keepIn X.K (.ref f) = true) (hb : Binds X.K fd ps [])
    (hdb : (x == ("__debug__" : Str)) = false := by decide) : DE X P (WI E) (.Call (.Name x p) [] [] pos) (eFun (arity ps.length gf) aNil) :=
  weakE (pe_call0 F hr hg hm hk hb .nil (passI c.tk) hdb) fun σ H Q ⟨ι, ah, env, st, q⟩ => by
    show spD P gf ps.length [] H Q E
    exact sp_of (ds := []) st.hp (by simp only [RepVs]) (σ := σ) q
/-! ### methods -/
def isInsO (c : Nat) (m : Str) (ah : AH) (d : D) : Bool := match d with
  | .obj n => match ah[n]? with
    | some (.ins c' fs) => decide (c' = c) && (fs.lookup m).isNone
    | _ => false
  | _ => false
theorem isIns_at {c : Nat} {m : Str} {ah : AH} {d : D} (h : isInsO c m ah d = true) : ∃ n fs, d = .obj n ∧ ah[n]? = some (.ins c fs) ∧ fs.lookup m = none := by
  unfold isInsO at h
  split at h
  · split at h
    · rename_i e
      rw [Bool.and_eq_true, decide_eq_true_eq] at h
      obtain ⟨rfl, h⟩ := h
      exact ⟨_, _, rfl, e, by simpa using h⟩
    · cases h
  · cases h
theorem RepFs.none {K : KL} {N : Nat} {ι : Pl} {H : Hp} {f : Str} : ∀ {fs : List (Str × D)} {vs : List (Str × V)}, RepFs K N ι H fs vs → fs.lookup f = none → vs.lookup f = none
  | [], _, h, e => by simp only [RepFs] at h; rw [h]; rfl
  | (g, x) :: fs, _, h, e => by
    simp only [RepFs] at h
    obtain ⟨v, r, rfl, h1, h2⟩ := h
    rw [List.lookup_cons] at e ⊢
    cases z : (f == g) with
    | true => rw [z] at e; cases e
    | false => rw [z] at e; exact h2.none e
def eMeth (c : Nat) (m : Str) (gf : List D → M D) (fo : Env → M D) (g : Env → M (List D)) : Env → M D := fun env => bnd (fo env) fun o h => if isInsO c m h o then bnd (g env) (fun ds => gf (o :: ds)) h else .bad
theorem de_meth {o : Expr} {m : Str} {apos : Pos} {pl : Sem Bool} {fo : Env → M D} {cn : Nat} (ho : DE X P (WI E) o fo) (hc : Cls X.K (P.cls cn)) (hm : Meth X.K (P.cls cn) m f) (F : FnD X P k f fd ps gf) (hr : Room k X.A) (c : Ctx X P (WI E)) (hb : Binds X.K fd ps []) (ha : DA X P (WI E) (e :: es) g)
    (hst : starEach (e :: es) X.env = (false, eval e X.env) :: starEach es X.env := by rfl) (hpl : (backTo pos (starEach es X.env)).any (·.1) = false := by rfl)
    (ht : eval (.Call (.Attribute o m apos) (e :: es) [] pos) X.env = (do
      let ov ← eval o X.env
      standAt apos.atName
      let (f, first) ← holding [ov] (getMethod ov m pl)
      callWith pos f first (backTo pos (starEach (e :: es) X.env)) (backToKw pos (keywordEach [] X.env))) := by rfl) :
    DE X P (WI E) (.Call (.Attribute o m apos) (e :: es) [] pos) (eMeth cn m (arity ps.length gf) fo g) :=
  weakE (pe_meth ho hc hm F hr hb .nil (passI c.tk) ha hst hpl ht) fun σ H Q ⟨ι, ah, env, st, q⟩ => ⟨ι, ah, env, st, (q.step (Rp := rV P)).imp fun v H1 ⟨ι1, ah1, d1, x1, hr1, p1, q1⟩ => by
    split at q1
    case isFalse => exact q1.elim
    rename_i hi
    obtain ⟨n, fs, rfl, eo, en⟩ := isIns_at hi
    simp only [rV, RepV] at p1
    obtain ⟨hn, rfl⟩ := p1
    obtain ⟨dx, fs', h1, r1⟩ := hr1.at_ n _ eo
    refine ⟨_, dx, fs', rfl, h1, r1.none en, ι1, ah1, env, st.next x1 hr1, (q1.step (Rp := rVs P)).imp fun vs H2 ⟨ι2, ah2, ds, x2, hr2, rp, q2⟩ => ?_⟩
    rw [List.append_nil]
    refine sp_of (ds := .obj n :: ds) hr2 ?_ q2
    simp only [RepVs, RepV]
    exact ⟨_, vs, rfl, ⟨Nat.lt_of_lt_of_le hn x2.le, by rw [x2.same n hn]⟩, rp⟩⟩
theorem de_meth0 {o : Expr} {m : Str} {apos : Pos} {pl : Sem Bool} {fo : Env → M D} {cn : Nat} (ho : DE X P (WI E) o fo) (hc : Cls X.K (P.cls cn)) (hm : Meth X.K (P.cls cn) m f) (F : FnD X P k f fd ps gf) (hr : Room k X.A) (c : Ctx X P (WI E)) (hb : Binds X.K fd ps [])
    (ht : eval (.Call (.Attribute o m apos) [] [] pos) X.env = (do
      let ov ← eval o X.env
      standAt apos.atName
      let (f, first) ← holding [ov] (getMethod ov m pl)
      callWith pos f first (backTo pos (starEach [] X.env)) (backToKw pos (keywordEach [] X.env))) := by rfl) :
    DE X P (WI E) (.Call (.Attribute o m apos) [] [] pos) (eMeth cn m (arity ps.length gf) fo aNil) :=
  weakE (pe_meth0 ho hc hm F hr hb .nil (passI c.tk) ht) fun σ H Q ⟨ι, ah, env, st, q⟩ => ⟨ι, ah, env, st, (q.step (Rp := rV P)).imp fun v H1 ⟨ι1, ah1, d1, x1, hr1, p1, q1⟩ => by
    split at q1
    case isFalse => exact q1.elim
    rename_i hi
    obtain ⟨n, fs, rfl, eo, en⟩ := isIns_at hi
    simp only [rV, RepV] at p1
    obtain ⟨hn, rfl⟩ := p1
    obtain ⟨dx, fs', h1, r1⟩ := hr1.at_ n _ eo
    refine ⟨_, dx, fs', rfl, h1, r1.none en, ?_⟩
    refine sp_of (ds := [.obj n]) hr1 ?_ (σ := σ) q1
    simp only [RepVs, RepV]
    exact ⟨_, [], rfl, ⟨hn, rfl⟩, rfl⟩⟩
/-! ### new objects -/
def eMake (c : Nat) (gf : List D → M D) (g : Env → M (List D)) : Env → M D := fun env => bnd (g env) fun ds h => bnd (gf (.obj h.length :: ds)) (fun r h' => match r with
  | .non => .ok (.obj h.length) h'
  | _ => .bad) (h ++ [.ins c []])
theorem make_core {ι : Pl} {ah : AH} {H : Hp} {ds : List D} {vs : List V} {cn : Nat} {Q : VK} {n : Nat} {σ : L2.St} (hr : HRep P ι ah H) (rp : RepVs P.K ah.length ι H ds vs) {a dx : Addr} (ha : H a = none) (hdx : H dx = none) (hne : dx ≠ a)
    (q : Fin (rV P) P (WI E) σ ι ah.length H (bnd (arity n gf (.obj ah.length :: ds)) (fun r h' => match r with
      | .non => .ok (.obj ah.length) h'
      | _ => .bad) (ah ++ [.ins cn []])) Q) : spD P gf n (.ref a :: vs) (upd (upd H dx (.own a)) a (.ins (P.cls cn) dx [])) (fun v H2 => v = .non ∧ Q (.ref a) H2) E := by
  have h1 : upd H dx (.own a) a = none := by rw [upd_ne (Ne.symm hne)]; exact ha
  have hr1 := hr.fresh (o := .own a) hdx
  have x1 : Ext ah.length ι H ah.length ι (upd H dx (.own a)) := Ext.fresh hr hdx
  have x2 := Ext.push (o := .ins (P.cls cn) dx []) hr1 h1
  have hr2 := hr1.push (o := .ins (P.cls cn) dx []) (u := .ins cn []) h1 ⟨dx, [], upd_same, by simp only [RepFs]⟩
  have len : (ah ++ [O.ins cn []]).length = ah.length + 1 := by simp
  have rp2 : RepVs P.K (ah ++ [O.ins cn []]).length (more ι ah.length a) (upd (upd H dx (.own a)) a (.ins (P.cls cn) dx [])) (.obj ah.length :: ds) (.ref a :: vs) := by
    rw [len]
    simp only [RepVs]
    exact ⟨_, vs, rfl, rep_new, (rp.mono x1.toEx0 hr.notup).mono x2.toEx0 hr1.notup⟩
  have xx : Ext ah.length ι H (ah ++ [O.ins cn []]).length (more ι ah.length a) (upd (upd H dx (.own a)) a (.ins (P.cls cn) dx [])) := by rw [len]; exact x1.trans x2
  refine sp_of (σ := σ) hr2 rp2 ?_
  have q' := Fin.later xx q
  refine (q'.step (Rp := rV P)).imp fun v H3 ⟨ι3, ah3, d3, x3, hr3, p3, q3⟩ => ?_
  cases d3 <;> first
    | exact False.elim q3
    | skip
  simp only [rV, RepV] at p3
  refine ⟨p3, q3 ι3 H3 _ Ext.refl hr3 ?_⟩
  have hl : ah.length < (ah ++ [O.ins cn []]).length := by rw [len]; exact Nat.lt_succ_self _
  simp only [rV, RepV]
  refine ⟨Nat.lt_of_lt_of_le hl x3.le, ?_⟩
  rw [x3.same _ hl, more_at]
theorem de_make {cn : Nat} (Mk' : Mk X.K (P.cls cn) f) (F : FnD X P k f fd ps gf) (hr : Room (k + 1) X.A) (c : Ctx X P (WI E)) (hg : Gl X x) (hm : X.mg x = some (.ref (P.cls cn))) (hb : Binds X.K fd ps []) (ha : DA X P (WI E) (e :: es) g)
    (hdb : (x == ("__debug__" : Str)) = false := by decide) (he : starEach (e :: es) X.env = (false, eval e X.env) :: starEach es X.env := by rfl) (hpl : (backTo pos (starEach es X.env)).any (·.1) = false := by rfl) :
    DE X P (WI E) (.Call (.Name x p) (e :: es) [] pos) (eMake cn (arity ps.length gf) g) :=
  weakE (pe_make Mk' F hr hg hm hb .nil (passI c.tk) ha hdb he hpl) fun σ H Q ⟨ι, ah, env, st, q⟩ => ⟨ι, ah, env, st, (q.step (Rp := rVs P)).imp fun vs H1 ⟨ι1, ah1, ds, x1, hr1, rp, q1⟩ a dx ha hdx hne => by
    rw [List.append_nil]
    exact make_core hr1 rp ha hdx hne q1⟩
theorem de_make0 {cn : Nat} (Mk' : Mk X.K (P.cls cn) f) (F : FnD X P k f fd ps gf) (hr : Room (k + 1) X.A) (c : Ctx X P (WI E)) (hg : Gl X x) (hm : X.mg x = some (.ref (P.cls cn))) (hb : Binds X.K fd ps [])
    (hdb : (x == ("__debug__" : Str)) = false := by decide) : DE X P (WI E) (.Call (.Name x p) [] [] pos) (eMake cn (arity ps.length gf) aNil) :=
  weakE (pe_make0 Mk' F hr hg hm hb .nil (passI c.tk) hdb) fun σ H Q ⟨ι, ah, env, st, q⟩ a dx ha hdx hne => by
    exact make_core (ds := []) (vs := []) st.hp (by simp only [RepVs]) ha hdx hne (σ := σ) q
/-! ### raise -/
def sRaise (c : Nat) : Env → M Fl := fun _ h => .ex c h
/-- an own class of exceptions, below ValueError -/
structure ExcK (K : PySem.W.Frag) (mg : Str → Option Value) (x : Str) (C : Addr) : Prop where
  exc : PySem.W.excIn K C [.type "ValueError", .type "Exception", .type "BaseException", .type "object"] "ValueError.__new__" = true
  mg : mg x = some (.ref C)
  kp : PySem.W.keepIn K (.ref C) = true
  sub : PySem.W.subIn K (.ref C) (.type "BaseException") = some true
  ty : PySem.W.typeIn K (.ref C) = some (.type "type")
theorem ds_raise {cn : Nat} {m : Str} {j} {p2 pos' : Pos} (c : Ctx X P W) (h : ExcK X.K X.mg x (P.cls cn)) (hg : Gl X x) (hdb : (x == ("__debug__" : Str)) = false := by decide) :
    DS X P W (.Raise (some (.Call (.Name x p) [.Constant (.str m) j p2] [] pos)) none pos') (sRaise cn) :=
  weakS (L2.ps_raise c.calm c.tk (pmk_own PySem.F.excBase_ValueError h.exc h.mg h.kp (raises_own h.sub h.ty) hg hdb)) fun E σ H ⟨ι, ah, env, st, q⟩ => q ι σ H Ext.refl st.hp

/-! ### bodies -/
def startE (n : Nat) (ds : List D) : Env := ds.map some ++ List.replicate (n - ds.length) none
def runB (n : Nat) (fb : Env → M Fl) : List D → M D := fun ds h => match fb (startE n ds) h with
  | .ok (.rt d) h' => .ok d h'
  | .ok (.nx _) h' => .ok .non h'
  | .ex c h' => .ex c h'
  | _ => .bad
theorem start_rep {N : Nat} {ι : Pl} {H : Hp} {Ns : List Str} {ds : List D} {vs : List V} (r : RepVs P.K N ι H ds vs) : EnvRep P N ι H (startE Ns.length ds) (L2.start Ns vs) := by
  have hl := r.length
  unfold startE L2.start
  refine ⟨by simp [hl], fun i d e => ?_⟩
  by_cases hi : i < ds.length
  · rw [List.getElem?_append_left (by simpa using hi), List.getElem?_map] at e
    rw [List.getElem?_append_left (by simpa [hl] using hi), List.getElem?_map]
    cases e1 : ds[i]? with
    | none => rw [e1] at e; cases e
    | some d' =>
      rw [e1] at e
      cases e
      obtain ⟨v, h1, h2⟩ := r.get e1
      exact ⟨v, by rw [h1]; rfl, h2⟩
  · rw [List.getElem?_append_right (by simpa using hi), List.getElem?_replicate] at e
    split at e <;> cases e
theorem fn_body {prog : Program} {w : World} {K : PySem.W.Frag} {mg : Str → Option Value} {base : Heap} {x qual : Str} {st : Stmt} {f : Addr} {fd : FuncData} {N ps : List Str} {k : Nat} {fb : Env → M Fl} (F : L2.Fun K x qual st f fd) (S : FnScope N ps (defScope st)) (hK : P.K.fr = K)
    (hbody : ∀ (cdv : Value) (A : Around) (outer : List PySem.Env) (s : Shared) (H : Hp) (E : XK), PySem.W.codeIn K cdv qual = true → fd.code = cdv → Room k (cxOf (L2.CX prog w) prog w K mg base N qual (defScope st) f cdv A outer s H E).A → Ctx (cxOf (L2.CX prog w) prog w K mg base N qual (defScope st) f cdv A outer s H E) P (WI E) →
      PassesOwn (model prog w) (cxOf (L2.CX prog w) prog w K mg base N qual (defScope st) f cdv A outer s H E).A (cxOf (L2.CX prog w) prog w K mg base N qual (defScope st) f cdv A outer s H E).env (cxOf (L2.CX prog w) prog w K mg base N qual (defScope st) f cdv A outer s H E).xe →
      DSs (cxOf (L2.CX prog w) prog w K mg base N qual (defScope st) f cdv A outer s H E) P (WI E) (defBody st) fb) :
    FnOk prog w K mg base (L2.CX prog w) (k + 1) f fd ps (spD P (runB N.length fb) ps.length) := by
  obtain ⟨oc, od, kV, doc, pm, an, cdv, ct, osl, rfl, lk, hcd⟩ := F.ex
  refine fn_of lk hcd S (fun vs H Q E h => h.1) fun A outer s H vs Q E hr hsp => ?_
  have cc : Ctx (cxOf (L2.CX prog w) prog w K mg base N qual (defScope st) f cdv A outer s H E) P (WI E) := ⟨hK, rfl, S.nd, by have := hr.un; show (A.deeper (envOfC qual (defScope st) s.heap.objs.size f cdv)).units + 200 < _; omega, takes_of (X := cxOf (L2.CX prog w) prog w K mg base N qual (defScope st) f cdv A outer s H E) rfl rfl rfl rfl⟩
  refine ⟨_, hbody cdv A outer s H E hcd rfl hr cc ?_, ?_⟩
  · exact passes_of (X := cxOf (L2.CX prog w) prog w K mg base N qual (defScope st) f cdv A outer s H E) rfl
  · obtain ⟨_, ι, ah, ds, hrp, rp, q⟩ := hsp
    refine ⟨ι, ah, startE N.length ds, ⟨hrp, start_rep rp⟩, ?_⟩
    unfold runB at q
    cases e : fb (startE N.length ds) ah with
    | bad => rw [e] at q; exact q.elim
    | ex c ah' => rw [e] at q; exact fun ι' σ' H' a b => q ι' H' a b
    | ok r ah' =>
      rw [e] at q
      cases r with
      | nx env' => exact fun ι' σ' H' a b => q ι' H' _ a b.hp (by simp only [rV, RepV])
      | rt d => exact q
      | bk env' => exact q.elim
      | ct env' => exact q.elim
end
end PyD

/-! PyLam: told(lambda: ..). -/
namespace PyD
open PySem PySem.Spec L2
open PyProof.Rows hiding St

section
variable {X : Cx} {P : Pm} {W : WXT}
/-- behind the making of a lambda -/
theorem lam_step {ι : Pl} {ah : AH} {H H1 : Hp} (h : HRep P ι ah H) (e : LamX.ExtN H H1) (t : LamX.Tabs P.tabs H1) : Ext ah.length ι H ah.length ι H1 ∧ HRep P ι ah H1 := by
  have vis : ∀ n, n < ah.length → H1 (ι n) = H (ι n) := fun n hn => by
    obtain ⟨ho, h1, h2⟩ := (h.at_ n _ (List.getElem?_eq_getElem hn)).some
    rw [h1]; exact e _ _ h1 h2.tbl
  have hid : ∀ a, ι.hid a → H1 a = H a := fun a ha => by
    obtain ⟨⟨ho, h1, h2⟩, _⟩ := h.hd a ha
    rw [h1]; exact e _ _ h1 h2.tbl
  have x0 : Ex0 ah.length ι H ah.length ι H1 := ⟨Nat.le_refl _, fun _ _ => rfl, fun a o q t _ => e a o q t, fun a o q t => ⟨o, e a o q t, t⟩, fun n h1 h2 => absurd h2 (Nat.not_lt.mpr h1), fun _ => .inl⟩
  exact ⟨⟨x0, fun a ha => ⟨ha, hid a ha⟩⟩, ⟨h.inj, fun n o q => (h.at_ n o q).mono x0 h.notup (vis n (List.getElem?_eq_some_iff.mp q).1), fun a ha => ⟨by rw [hid a ha]; exact (h.hd a ha).1, (h.hd a ha).2⟩, t⟩⟩
/-- told: the value, or the text that names the error -/
def eTold (cs : List Nat) (r : Str) (f : Env → M D) : Env → M D := fun env h => match f env h with
  | .ok d h' => .ok d h'
  | .ex c h' => if cs.contains c then .ok (.str r) h' else .bad
  | .bad => .bad
variable {CS : Addr}
/-- the classes that the handler takes -/
def Caught (K : PySem.W.Frag) (P : Pm) (CS : Addr) (cs : List Nat) : Prop := ∀ c ∈ cs, PySem.W.exmOne K (.ref (P.cls c)) (.ref CS) = some true
theorem told_read {cs : List Nat} {r : Str} {f : Env → M D} {σ : L2.St} {H : Hp} {Q : VK} (hc : Caught X.K P CS cs) (hs : sOk r = true) (h : tD P W (eTold cs r f) σ H Q) :
    LamX.tLam P.tabs (LamX.TTold X.K CS r) (fun E => tD P (WI E) f) σ H Q := by
  obtain ⟨ι, ah, env, st, q⟩ := h
  refine ⟨st.hp.tab, fun H1 e t => ?_⟩
  obtain ⟨x, hr⟩ := lam_step st.hp e t
  refine ⟨ι, ah, env, st.next x hr, ?_⟩
  unfold eTold at q
  cases ef : f env ah with
  | bad => rw [ef] at q; exact q.elim
  | ok d ah' => rw [ef] at q; exact fun ι' H' v a b c => q ι' H' v (x.trans a) b c
  | ex c ah' =>
    rw [ef] at q
    dsimp only at q
    by_cases z : cs.contains c = true
    · rw [if_pos z] at q
      exact fun ι' H' a b => ⟨true, hc c (by simpa using z), fun _ => q ι' H' _ (x.trans a) b (by simp only [rV, RepV]; exact ⟨trivial, hs⟩), fun k => by cases k⟩
    · rw [if_neg z] at q; exact q.elim
theorem Ctx.lam (c : Ctx X P W) {k : Nat} {A : Around} {outer : List PySem.Env} {s : Shared} {H : Hp} {E : XK} {scope : Scope} {f c' : Addr} (hr : Room k (A.deeper (LamX.lamEnv X scope s.heap.objs.size f c'))) : Ctx (LamX.lamCx X A outer s H E scope f c') P (WI E) :=
  ⟨c.k, rfl, c.nd, by have := hr.un; show (A.deeper (LamX.lamEnv X scope s.heap.objs.size f c')).units + 200 < _; omega, takes_of (X := LamX.lamCx X A outer s H E scope f c') rfl rfl rfl rfl⟩
/-- x(lambda: body), x's body: try: return a(), but for the error -/
theorem de_told {x a e : Str} {g c P0 : Addr} {k : Nat} {pg : Arguments} {bg : List Stmt} {sg : Scope} {dV kV doc pm cdv ct oc : Value} {an od : Option Addr} {osl : Array (Option Value)} {Ng : List Str}
    {params : Arguments} {body : Expr} {scope : Scope} {fe : Env → M D} {p lpos pos : Pos} {cs : List Nat} {r : Str} (cc : Ctx X P W) (hg : Gl X x) (hm : X.mg x = some (.ref g)) (hk : PySem.W.keepIn X.K (.ref g) = true)
    (lk : X.K.lookup g = some ⟨oc, od, .func (PySem.W.fnOf x x pg bg sg dV kV doc pm an cdv ct), osl⟩) (hcg : PySem.W.codeIn X.K cdv x = true) (hb : L2.Binds X.K (PySem.W.fnOf x x pg bg sg dV kV doc pm an cdv ct) [a] []) (Sg : FnScope Ng [a] sg) (hNg : Ng[0]? = some a) (hva : Vis sg a)
    (hG : LamX.GivesTo X Ng x sg g cdv bg a (X.env.qual ++ "<lambda>") (LamX.TTold X.K CS r)) (hcs : Caught X.K P CS cs) (hs : sOk r = true)
    (TB : LamX.TabB X.base X.mg c P0) (hcode : X.env.code = .ref c) (hmT : (P0, X.env.qual ++ "<lambda>") ∈ P.tabs) (hu : ∀ p ∈ P.tabs, p.1 = P0 → p.2 = X.env.qual ++ "<lambda>") (hr : Room (k + 2) X.A) (L : LamX.LamS X.env.scope scope) (hdef : defaultsOf params X.env = ([], []))
    (hbind : ∀ (q : Str) (cl : List (Str × Addr)) (pm cv ctv : Value), bindArgs (PySem.W.kla_fn "<lambda>" q params body scope cl pm cv ctv) ⟨[], []⟩ = pure [])
    (hbody : ∀ (A : Around) (outer : List PySem.Env) (s : Shared) (H : Hp) (E : XK) (f c' : Addr), Room k (LamX.lamCx X A outer s H E scope f c').A → Ctx (LamX.lamCx X A outer s H E scope f c') P (WI E) → DE (LamX.lamCx X A outer s H E scope f c') P (WI E) body fe)
    (hdb : (x == ("__debug__" : Str)) = false := by decide) (hd : (a == ("__debug__" : Str)) = false := by decide) (hcd : (a == ("__classdict__" : Str)) = false := by decide) :
    DE X P W (.Call (.Name x p) [.Lambda params body scope lpos] [] pos) (eTold cs r fe) :=
  weakE (LamX.pe_lamcall (T := P.tabs) (TT := LamX.TTold X.K CS r) (t := fun E => tD P (WI E) fe) hg hm hk lk hcg hb Sg hNg hva hG TB hcode hmT hu hr L hdef hbind (fun A outer s H E f c' hr2 => hbody A outer s H E f c' hr2 (cc.lam hr2)) hdb hd hcd) fun σ H Q h => told_read hcs hs h
end
end PyD

/-! PyBad: lambdas in a list, each told by its error. -/
namespace PyD
open PySem PySem.Spec L2
open PyProof.Rows hiding St

/-- a lambda as it is written -/
structure LamW where
  params : Arguments
  body : Expr
  scope : Scope
/-- the lambdas of a def, by numbers: each closed over the frame's cells -/
def lmOf (X : Cx) (tab : Nat → LamW) (k : Nat) (a c : Addr) : Heap → Prop := fun h => ∃ pm ctv, h.get? a = some (PySem.W.kla_obj "<lambda>" (X.env.qual ++ "<lambda>") (tab k).params (tab k).body (tab k).scope (cloFrom X.env.cells (tab k).scope.names []) pm c ctv)
structure LamsOf (X : Cx) (P : Pm) (tab : Nat → LamW) (cO P0 : Addr) : Prop where
  lm : P.K.lm = lmOf X tab
  lq : P.K.lq = X.env.qual ++ "<lambda>"
  TB : LamX.TabB X.base X.mg cO P0
  hcode : X.env.code = .ref cO
  hm : (P0, X.env.qual ++ "<lambda>") ∈ P.tabs
  hu : ∀ p ∈ P.tabs, p.1 = P0 → p.2 = X.env.qual ++ "<lambda>"
section
variable {X : Cx} {P : Pm} {W : WXT} {tab : Nat → LamW} {cO P0 : Addr}
theorem HRep.ext_fresh {ι : Pl} {ah : AH} {H : Hp} {p : Addr} {φ : Heap → Prop} (h : HRep P ι ah H) (hp : H p = none) : Ext ah.length ι H ah.length ι (upd H p (.ext φ)) ∧ HRep P ι ah (upd H p (.ext φ)) ∧ Out ah.length ι p :=
  ⟨Ext.fresh h hp, h.fresh hp, h.ne hp, fun z => h.hne hp p z rfl⟩
theorem de_lamV {k : Nat} {pos : Pos} (c : Ctx X P W) (L : LamsOf X P tab cO P0) (S : LamX.LamS X.env.scope (tab k).scope) (hdef : defaultsOf (tab k).params X.env = ([], []) := by rfl) : DE X P W (.Lambda (tab k).params (tab k).body (tab k).scope pos) (eC (.lam k)) := by
  refine ⟨fun pins s σ H Q I ⟨ι, ah, env, st, q⟩ => ?_⟩
  have q : ∀ ι' H' v, Ext ah.length ι H ah.length ι' H' → HRep P ι' ah H' → RepV P.K ah.length ι' H' (.lam k) v → Q v H' := q
  have hfree := S.has I.ok
  obtain ⟨ps, hP, ht, hall⟩ := st.hp.tab _ L.hm
  replace hP : H P0 = some (.tbl ps) := hP
  have hP' : s.heap.get? P0 = some { cls := .none, data := .fields ps } := I.hok P0 _ hP
  have bP : s.heap.BuiltinsAt X.mg P0 := L.TB.bm.keeps I.bk
  refine PySem.W.kla_eval hdef ?_
  -- the function's object is laid and known
  have fin : ∀ (h' : Heap) (tk : Tok) (c' : Addr) (pm ctv : Value) (H1 : Hp), L2.Inv X pins σ H1 { s with heap := h', toks := tk } → Ext ah.length ι H ah.length ι H1 → HRep P ι ah H1 → H1 c' = some (LamX.CodeO c' (X.env.qual ++ "<lambda>")) →
      EP X pins σ Q (.ref h'.objs.size) { s with heap := h'.push (PySem.W.kla_obj "<lambda>" (X.env.qual ++ "<lambda>") (tab k).params (tab k).body (tab k).scope (cloFrom X.env.cells (tab k).scope.names []) pm c' ctv), toks := tk } := by
    intro h' tk c' pm ctv H1 I1 x1 hr1 hc
    have hn : H1 h'.objs.size = none := I1.hok.fresh (Nat.le_refl _)
    have hg : (h'.push (PySem.W.kla_obj "<lambda>" (X.env.qual ++ "<lambda>") (tab k).params (tab k).body (tab k).scope (cloFrom X.env.cells (tab k).scope.names []) pm c' ctv)).get? h'.objs.size = some (PySem.W.kla_obj "<lambda>" (X.env.qual ++ "<lambda>") (tab k).params (tab k).body (tab k).scope (cloFrom X.env.cells (tab k).scope.names []) pm c' ctv) := Heap.get?_push_size _ rfl
    obtain ⟨x2, hr2, o2⟩ := hr1.ext_fresh (φ := P.K.lm k h'.objs.size c') hn
    refine ⟨.ref h'.objs.size, _, I1.laid (t' := tk) (o := .ext (P.K.lm k h'.objs.size c')) (fun b o e => Heap.get?_push_of_some _ e) (Nat.le_refl _) ⟨?_, ⟨_, hg⟩, fun h1 h2 p1 kp => ?_⟩, rfl, q ι _ _ (x1.trans x2) hr2 ?_⟩
    · rw [L.lm]; exact ⟨pm, ctv, hg⟩
    · rw [L.lm] at p1 ⊢
      obtain ⟨pm', ctv', e⟩ := p1
      exact ⟨pm', ctv', kp _ e⟩
    · simp only [RepV]
      refine ⟨_, c', rfl, upd_same, o2, ?_, ?_⟩
      · rw [L.lq, upd_ne (ne_of_none hc hn)]; exact hc
      · exact (hr2.out (a := c') (o := LamX.CodeO c' (X.env.qual ++ "<lambda>")) (by rw [upd_ne (ne_of_none hc hn)]; exact hc) (fun z => z))
  cases hf : codeAmong pos ps.toList with
  | none =>
    refine PySem.W.kla_makeFunction (mg := X.mg) (c := cO) (P := P0) (ps := ps) (closure_ok hfree) I.ok.glob (I.mod.glob.keeps I.bk) L.hcode (L.TB.code.keeps I.bk) hP' ht hf L.TB.gP bP fun c' ctv h' tk hx hge hlt hrec htb => ?_
    obtain ⟨c2, oc, vs, t, e2, hoc, hd, hv⟩ := hrec
    cases e2
    have hn : H c' = none := I.hok.fresh hge
    obtain ⟨xg, hrg⟩ := st.hp.grown (pos := pos) hP ht hn L.hu
    exact fin h' tk c' _ ctv _ (LamX.inv_table (t' := tk) I hP (fun b o hb e => hx b o hb e) htb hge ⟨oc, vs, t, hoc, hd, hv⟩) xg hrg upd_same
  | some cv =>
    obtain ⟨c', e, hco⟩ := hall pos cv hf
    subst e
    refine PySem.W.kla_makeFunctionHit (mg := X.mg) (c := cO) (P := P0) (ps := ps) (closure_ok hfree) I.ok.glob (I.mod.glob.keeps I.bk) L.hcode (L.TB.code.keeps I.bk) hP' ht hf bP fun ctv h' tk hx hsz => ?_
    exact fin h' tk c' _ ctv H (I.kept fun b o e => hx b o e) Ext.refl st.hp hco

/-- x(), in the def that got a lambda that is known -/
theorem act2 {CXg : CXT} {Eg : XK} {Ng : List Str} {qg : Str} {sg : Scope} {g f c' : Addr} {cdg : Value} {n k i : Nat} {a : Str} {pn : List (Addr × Obj)} {xe : Value → Shared → Prop} {W : WX} {E : XK} {tb : TE} {p1 p2 : Pos} {pins : List (Addr × Obj)} {σ : L2.St} {H : Hp} {s : Shared}
    (I : L2.Inv X pins σ H s) (L : LamX.LamS X.env.scope (tab n).scope)
    (hbind : ∀ (q : Str) (cl : List (Str × Addr)) (pm cv ctv : Value), bindArgs (PySem.W.kla_fn "<lambda>" q (tab n).params (tab n).body (tab n).scope cl pm cv ctv) ⟨[], []⟩ = pure [])
    (tk : Takes ((cxOf CXg X.prog X.w X.K X.mg X.base Ng qg sg g cdg X.A X.stack s H Eg).tr pn xe) W) (hW : ∀ cls d σ' H', E cls d H' → W cls d σ' H') (hr : Room (k + 1) (X.A.deeper (envOfC qg sg s.heap.objs.size g cdg)))
    (hbody : ∀ (A : Around) (outer : List PySem.Env) (s : Shared) (H : Hp), Room k (A.deeper (LamX.lamEnv X (tab n).scope s.heap.objs.size f c')) → PE (LamX.lamCx X A outer s H E (tab n).scope f c') (tab n).body tb)
    (hN : Ng[i]? = some a) (hv : Vis sg a) (hd : (a == ("__debug__" : Str)) = false := by decide) (hcd : (a == ("__classdict__" : Str)) = false := by decide) :
    PE ((cxOf CXg X.prog X.w X.K X.mg X.base Ng qg sg g cdg X.A X.stack s H Eg).tr pn xe) (.Call (.Name a p1) [] [] p2)
      (fun σZ HZ Q => σZ[i]? = some (some (.ref f)) ∧ HZ c' = some (LamX.CodeO c' (X.env.qual ++ "<lambda>")) ∧ HZ f = some (.ext (lmOf X tab n f c')) ∧ tb σ HZ Q) := by
  refine ⟨fun pinsZ sZ σZ HZ Q IZ ⟨z1, z2, z3, z4⟩ => ?_⟩
  refine wpAny_Call_Name_kw (thn ((pe_var (pos := p1) (i := i) hN hv hd hcd).run pinsZ sZ σZ HZ (fun v H1 => v = .ref f ∧ H1 = HZ) IZ ⟨.ref f, z1, rfl, rfl⟩) fun u s1 ⟨v, H1, I1, r1, ev, eH⟩ => ?_)
  subst ev
  rw [eH] at I1
  obtain rfl : u = Value.ref f := r1
  obtain ⟨⟨pm, ctv, of1⟩, _, _⟩ := I1.hok f _ z3
  obtain ⟨⟨oc, vs, t, hoc, hdc, hvc⟩, _, _⟩ := I1.hok c' _ z2
  refine PySem.W.callWith_F0 ⟨_, _, _, _, of1⟩ ?_
  have un : Un (frs X.stack) [] H HZ s.heap s1.heap := I1.base
  have body : codeAny (model X.prog X.w) (X.A.deeper (envOfC qg sg s.heap.objs.size g cdg)) (.call (.ref f) ⟨[], []⟩) (CR (L2.CX X.prog X.w) (envOfC qg sg s.heap.objs.size g cdg :: X.stack) X.prog X.w HZ s1 Q E) s1 := by
    refine PySem.W.kla_callFunE hr.depth of1 rfl L.co L.gen rfl ⟨c', oc, vs, t, rfl, hoc, hdc, hvc⟩ ?_
    rw [hbind]
    refine wpAny_pure (wpAny_newFunctionEnv (fun y hy => (L.own y hy).2) (fun y hy => absurd hy (by simp)) (fun h₁ hns hsb => ⟨I1.nolimit.fresh _ hsb, ?_⟩) L.kind)
    show codeAny _ _ (.expr (tab n).body (LamX.lamEnv X (tab n).scope s1.heap.objs.size f c')) _ _
    have J : L2.Inv (LamX.lamCx X (X.A.deeper (envOfC qg sg s.heap.objs.size g cdg)) (envOfC qg sg s.heap.objs.size g cdg :: X.stack) s1 HZ E (tab n).scope f c') [] σ HZ { s1 with heap := h₁, toks := s1.toks + ([] : List (Str × Value)).length } :=
      LamX.lam_start2 I L I1.env0 hr.hd un hns fun b o e => hsb.extBut b o (Nat.ne_of_lt (Heap.lt_size e)) (Heap.get?_push_of_some _ e)
    exact PySem.W.kla_codeExpr (wpAny_mono ((hbody _ _ s1 HZ (hr.deeper _)).run [] _ _ HZ Q J z4) (fun v s' ⟨w', H', J', rv, q⟩ => ⟨w', H', J'.os, J'.bare, J'.base, J'.hok, rv, q⟩) fun e s' hq => hq)
  refine wpAny_call (codeAny_mono body fun r s' hq => ?_)
  cases r with
  | error e => exact (passes_call tk hW) pinsZ σZ HZ s1 e s' I1 hq
  | ok fl =>
    cases fl <;> first
      | exact I1.after hq
      | exact False.elim hq
/-- told(f), f a lambda of the def's own, amid a comprehension of the def's -/
def tToldV (P : Pm) (j : Nat) (σ : L2.St) (env0 : Env) (cs : List Nat) (r : Str) (nl : Nat) (lf : Nat → Env → M D) : TE := fun σB H Q => ∃ ι ah n v, HRep P ι ah H ∧ EnvRep P ah.length ι H env0 σ ∧ n < nl ∧ RepV P.K ah.length ι H (.lam n) v ∧ σB[j]? = some (some v) ∧
  Fin (rV P) P W0 σ ι ah.length H (eTold cs r (lf n) env0 ah) Q
theorem pe_toldV {B : Cx} {x a fv : Str} {g CS : Addr} {k j nl : Nat} {pg : Arguments} {bg : List Stmt} {sg : Scope} {dV kV doc pm cdv ct oc : Value} {an od : Option Addr} {osl : Array (Option Value)} {Ng : List Str} {pins : List (Addr × Obj)} {σ : L2.St}
    {lf : Nat → Env → M D} {env0 : Env} {p pf pos : Pos} {cs : List Nat} {r : Str} (cc : Ctx X P W) (L : LamsOf X P tab cO P0)
    (hB : B.prog = X.prog ∧ B.w = X.w ∧ B.K = X.K ∧ B.mg = X.mg ∧ B.base = X.base ∧ B.A = X.A ∧ B.stack = X.stack ∧ B.N = X.N) (hX : ∀ (pins' : List (Addr × Obj)) (σ' : L2.St) (H' : Hp) (s' : Shared), L2.Inv B pins' σ' H' s' → L2.Inv X pins σ H' s')
    (hg : Gl B x) (hm : X.mg x = some (.ref g)) (hk : PySem.W.keepIn X.K (.ref g) = true)
    (lk : X.K.lookup g = some ⟨oc, od, .func (PySem.W.fnOf x x pg bg sg dV kV doc pm an cdv ct), osl⟩) (hcg : PySem.W.codeIn X.K cdv x = true) (hb : L2.Binds X.K (PySem.W.fnOf x x pg bg sg dV kV doc pm an cdv ct) [a] []) (Sg : FnScope Ng [a] sg) (hNg : Ng[0]? = some a) (hva : Vis sg a)
    (hG : LamX.GivesTo X Ng x sg g cdv bg a (X.env.qual ++ "<lambda>") (LamX.TTold X.K CS r)) (hcs : Caught X.K P CS cs) (hs : sOk r = true) (hr : Room (k + 2) X.A)
    (hS : ∀ n, n < nl → LamX.LamS X.env.scope (tab n).scope)
    (hbind : ∀ n, n < nl → ∀ (q : Str) (cl : List (Str × Addr)) (pm cv ctv : Value), bindArgs (PySem.W.kla_fn "<lambda>" q (tab n).params (tab n).body (tab n).scope cl pm cv ctv) ⟨[], []⟩ = pure [])
    (hbody : ∀ n, n < nl → ∀ (A : Around) (outer : List PySem.Env) (s : Shared) (H : Hp) (E : XK) (f c' : Addr), Room k (LamX.lamCx X A outer s H E (tab n).scope f c').A → Ctx (LamX.lamCx X A outer s H E (tab n).scope f c') P (WI E) → DE (LamX.lamCx X A outer s H E (tab n).scope f c') P (WI E) (tab n).body (lf n))
    (hj : PE B (.Name fv pf) (tVar j)) (hst : starEach [.Name fv pf] B.env = (false, eval (.Name fv pf) B.env) :: starEach [] B.env := by rfl)
    (hdb : (x == ("__debug__" : Str)) = false := by decide) (hd : (a == ("__debug__" : Str)) = false := by decide) (hcd : (a == ("__classdict__" : Str)) = false := by decide) :
    PE B (.Call (.Name x p) [.Name fv pf] [] pos) (tToldV P j σ env0 cs r nl lf) := by
  refine ⟨fun pinsB s σB H Q I ⟨ι, ah, n, v, hrp, er, hn, rl, hv, q⟩ => ?_⟩
  obtain ⟨Bprog, Bw, BK, Bmg, Bbase, BA, BN, Bs, BH, Benv, Bout, Bst, Bex, Bfn, Bcalm, Bpn, Bxe⟩ := B
  obtain ⟨e1, e2, e3, e4, e5, e6, e7, e8⟩ := hB
  dsimp only at e1 e2 e3 e4 e5 e6 e7 e8
  subst e1 e2 e3 e4 e5 e6 e7 e8
  simp only [RepV] at rl
  obtain ⟨f, c', rfl, hf, of, hc', oc'⟩ := rl
  rw [L.lm] at hf
  rw [L.lq] at hc'
  refine wpAny_Call_Name_kw (ld_glob I hg hm ?_ hdb)
  refine PySem.W.callWith_K (h₀ := X.base) I.ok.mod.kin hk ?_ (by exact hst) (by rfl)
  rw [hst]
  refine Calls.spliced_cons (thn (hj.run pinsB s σB H (fun u H1 => u = .ref f ∧ H1 = H) I ⟨_, hv, rfl, rfl⟩) fun u s1 ⟨z, H1, I1, r1, ez, eH⟩ => ?_)
  subst ez
  subst eH
  obtain rfl : u = Value.ref f := r1
  refine Calls.spliced_nil ⟨I1.kIn, ?_⟩
  have IX := hX _ _ _ _ I1
  have rc : codeAny (model X.prog X.w) X.A (.call (.ref g) ⟨[.ref f], []⟩) (CR C8.CX0 X.stack X.prog X.w H1 s1 Q C8.E0) s1 := by
    refine LamX.run_ofS (N := Ng) (ps := [a]) (us := [.ref f]) (vs := [.ref f]) lk hcg Sg hr IX.env0 (hb s1 [.ref f] IX.kIn rfl) (.cons rfl .nil) rfl fun hr' => ?_
    have fq : Fin (rV P) P (WI fun cls _ H' => ∃ b, PySem.W.exmOne X.K cls (.ref CS) = some b ∧ (b = true → Q (.str r) H') ∧ (b = false → False)) σ ι ah.length H1 (lf n env0 ah) Q := by
      unfold eTold at q
      cases ef : lf n env0 ah with
      | bad => rw [ef] at q; exact q.elim
      | ok d ah' => rw [ef] at q; exact q
      | ex cn ah' =>
        rw [ef] at q
        dsimp only at q
        by_cases z : cs.contains cn = true
        · rw [if_pos z] at q
          exact fun ι' H' a b => ⟨true, hcs cn (by simpa using z), fun _ => q ι' H' _ a b (by simp only [rV, RepV]; exact ⟨trivial, hs⟩), fun k => by cases k⟩
        · rw [if_neg z] at q; exact q.elim
    obtain ⟨t', ht', hq'⟩ := hG f c' s1 H1 Q (fun E H' Q' => H' f = some (.ext (lmOf X tab n f c')) ∧ tD P (WI E) (lf n) σ H' Q') (fun W pn xe E p1 p2 tk hW => act2 (i := 0) IX (hS n hn) (hbind n hn) tk hW hr' (fun A outer s H hr2 => hbody n hn A outer s H E f c' hr2 (cc.lam hr2)) hNg hva hd hcd) hc' ⟨hf, ι, ah, env0, ⟨hrp, er⟩, fq⟩
    exact ⟨t', ht'.nox, hq'⟩
  refine wpAny_call (codeAny_mono rc fun rr s2 hq => ?_)
  cases rr with
  | error e => exact (show False from hq).elim
  | ok fl =>
    cases fl <;> first
      | exact I1.after hq
      | exact False.elim hq

/-! ### [.. for f in bad if told(f) != name]: nothing, where each is told by that name -/
def badGo (cs : List Nat) (nl : Nat) (lf : Nat → Env → M D) (ok : AH → Bool) (env : Env) : List D → AH → Option AH
  | [], h => if ok h then some h else none
  | d :: ds, h => if ok h then match d with
    | .lam n => if n < nl then match lf n env h with
      | .ex c h' => if cs.contains c then badGo cs nl lf ok env ds h' else none
      | _ => none else none
    | _ => none else none
def eBad (f : Env → M Src) (cs : List Nat) (nl : Nat) (lf : Nat → Env → M D) : Env → M D := fun env => bnd (f env) fun src h => match badGo cs nl lf src.ok env src.xs h with
  | some h' => .ok (.lst []) h'
  | none => .bad
theorem pe_bad {elt tgt iter : Expr} {test : Expr} {scope : Scope} {own : List (Str × Nat)} {pos : Pos} {f : Env → M Src} {cs : List Nat} {r : Str} {nl j : Nat} {lf : Nat → Env → M D} (c : Ctx X P W) (hi : DI X P W tgt iter f) (ok : BlkOk X.N X.env.scope scope own) (hown : j ∈ own.map (·.2)) (hj : j < X.N.length) (hrs : sOk r = true)
    (hg : ∀ (s : Shared) (H : Hp) (C : Addr) (cl : List (Str × Addr)) (fp : List Addr), Ctx (X.blk s H scope (compEnvC scope cl C X.env) fp) P W0 → PG (X.blk s H scope (compEnvC scope cl C X.env) fp) tgt (gP P (.nm j)))
    (ht : ∀ (pins : List (Addr × Obj)) (σ : L2.St) (env0 : Env) (s : Shared) (H : Hp) (C : Addr) (cl : List (Str × Addr)) (fp : List Addr), Ctx (X.blk s H scope (compEnvC scope cl C X.env) fp) P W0 →
      (∀ (pins' : List (Addr × Obj)) (σ' : L2.St) (H' : Hp) (s' : Shared), L2.Inv (X.blk s H scope (compEnvC scope cl C X.env) fp) pins' σ' H' s' → L2.Inv X pins σ H' s') →
      PTs (X.blk s H scope (compEnvC scope cl C X.env) fp) [test] (fun σB H Q => tToldV P j σ env0 cs r nl lf σB H fun v H' => ∃ b, v = .str b ∧ Q (!decide (b = r)) H'))
    (hs : ∀ x, foldedSetIterable iter X.env x = pure x := by intro _; rfl) :
    PE X (.ListComp elt [⟨tgt, iter, [test], 0⟩] scope pos) (tD P W (eBad f cs nl lf)) := by
  refine ⟨fun pins s σ H Q I ⟨ι, ah, env, st, q⟩ => ?_⟩
  have hN := c.nd
  have hfree : ∀ y ∈ scope.names, y.2 = .free → ∃ c, X.env.cells.lookup y.1 = some c := fun y hy e => by
    rcases ok.free y hy e with k | k
    · exact I.ok.has _ (.inl k)
    · exact I.ok.has _ (.inr k)
  rw [eval_ListComp]
  refine wpAny_comprehension_free (use := none) rfl hs (closure_ok hfree) ok.kind (fun y hy e => by rw [ok.uniq y hy, e])
    (thn (hi.run pins s σ H _ I ⟨ι, ah, env, st, q.step (Rp := fun N ι H src J => ItOk P N ι H src J)⟩) fun xv s1 hx => thn hx fun itv s2 h2 => ?_)
  obtain ⟨it, fp, tn, J, H2, e, I2, T, st2, f2, ι1, ah1, src, x1, hr1, io, q1⟩ := h2
  subst e
  cases eb : badGo cs nl lf src.ok env src.xs ah1 with
  | none => rw [eb] at q1; exact q1.elim
  | some ahE =>
  rw [eb] at q1
  refine wpAny_newObj_type (newEnv_comp ?_) (by show 0 ≤ sizeLine; decide)
  generalize hD : s2.heap.objs.size = Dn
  have hDn : H2 Dn = none := I2.hok.fresh (Nat.le_of_eq hD)
  generalize hs3 : ({ s2 with heap := s2.heap.push { cls := .type "list", data := .seq ([] : List Value).toArray } } : Shared) = s3
  have I3 : L2.Inv X pins σ (upd H2 Dn (.lst [])) s3 := by
    rw [← hs3]
    exact I2.laid (t' := s2.toks) (fun b o e => Heap.get?_push_of_some _ e) (Nat.le_of_eq hD) ⟨Nat.zero_le _, [], 0, .nil, by rw [← hD]; exact Heap.get?_push_size _ rfl⟩
  have h3 : s3.heap = s2.heap.push { cls := .type "list", data := .seq ([] : List Value).toArray } := by rw [← hs3]
  have sz : ∀ b ∈ fp, b < s2.heap.objs.size := fun b hb => by
    obtain ⟨o, e, _⟩ := T.obj _ _ st2 b hb
    exact Heap.lt_size e
  have f3 : ∀ b ∈ fp, FpOk X pins (upd H2 Dn (.lst [])) b ∧ b < s3.heap.objs.size := fun b hb =>
    ⟨⟨by rw [upd_ne (by rw [← hD]; exact Nat.ne_of_lt (sz b hb))]; exact (f2 b hb).1, (f2 b hb).2⟩, by rw [h3, Heap.size_push]; exact Nat.lt_succ_of_lt (sz b hb)⟩
  have st3 : tn 0 s3.heap := T.keep _ _ _ st2 fun b _ o e => by rw [h3]; exact Heap.get?_push_of_some _ e
  have I4 := block_start I3 ok hN f3
  have hr3 := hr1.fresh (o := .lst []) hDn
  have x3 := Ext.fresh (o := .lst []) hr1 hDn
  have oD : Out ah1.length ι1 Dn := ⟨hr1.ne hDn, fun z => hr1.hne hDn Dn z rfl⟩
  -- back in the def's own context
  have back : ∀ {pins' : List (Addr × Obj)} {σ' : L2.St} {H' : Hp} {s' : Shared}, L2.Inv (X.blk s3 (upd H2 Dn (.lst [])) scope (compEnvC scope (cellsFrom (s3.heap.objs.size + 1) scope.names (cloFrom X.env.cells scope.names [])) s3.heap.objs.size X.env) fp) pins' σ' H' s' → L2.Inv X pins σ H' s' := fun {pins' σ' H' s'} I' =>
    I3.call' (ch := fp) I'.os I'.base I'.hok I'.bare fun b hb => ⟨(f3 b hb).1.2.2.2.1, (f3 b hb).1.2.1, (f3 b hb).1.2.2.2.2.1, (f3 b hb).1.2.2.2.2.2⟩
  have pg := hg s3 (upd H2 Dn (.lst [])) s3.heap.objs.size (cellsFrom (s3.heap.objs.size + 1) scope.names (cloFrom X.env.cells scope.names [])) fp (c.blk ..)
  have pt := ht pins σ env s3 (upd H2 Dn (.lst [])) s3.heap.objs.size (cellsFrom (s3.heap.objs.size + 1) scope.names (cloFrom X.env.cells scope.names [])) fp (c.blk ..) (fun _ _ _ _ I' => back I')
  show codeAny _ _ (.compStart (.ListComp elt [⟨tgt, iter, [test], 0⟩] scope pos) 0 (.ref it) (.ref Dn) (compEnvC scope (cellsFrom (s3.heap.objs.size + 1) scope.names (cloFrom X.env.cells scope.names [])) s3.heap.objs.size X.env)) (compPost (model X.prog X.w) X.A X.xe none (EP X pins σ Q) (.ref Dn) s3.heap.objs.size) { s3 with heap := pushCells (s3.heap.push { cls := .type "dict", data := .dict #[] }) scope.names }
  have nfp : ∀ b ∈ fp, (upd H2 Dn (.lst [])) b = none := fun b hb => (f3 b hb).1.1
  generalize hce : compEnvC scope (cellsFrom (s3.heap.objs.size + 1) scope.names (cloFrom X.env.cells scope.names [])) s3.heap.objs.size X.env = ce at I4 pg pt back ⊢
  have cL : ce.locals = s3.heap.objs.size := by subst hce; rfl
  generalize hH3 : upd H2 Dn (.lst []) = H3 at I3 I4 pg pt back nfp f3 hr3 x3
  have hlD : H3 Dn = some (.lst []) := by rw [← hH3]; exact upd_same
  generalize hs4 : ({ s3 with heap := pushCells (s3.heap.push { cls := .type "dict", data := .dict #[] }) scope.names } : Shared) = s4 at I4 ⊢
  have st4 : tn 0 s4.heap := T.keep _ _ _ st3 fun b _ o e => by rw [← hs4]; exact pushCells_keeps _ _ _ _ (Heap.get?_push_of_some _ e)
  have stat : ∀ {σ' : L2.St} {H' : Hp} {s' : Shared}, L2.Inv (X.blk s3 H3 scope ce fp) [] σ' H' s' → (∀ b ∈ fp, H' b = none) → ∀ b ∈ fp, FpOk (X.blk s3 H3 scope ce fp) [] H' b := fun {σ' H' s'} I' hn b hb =>
    ⟨hn b hb, (I'.ok.exf b hb).1, I'.ok.exfs b hb, .inl hb, fun x c e => (I'.ok.exf b hb).2 x c e, fun p hp => absurd (show p ∈ ([] : List (Addr × Obj)) ++ [] from hp) (by simp)⟩
  have env3 : EnvRep P ah1.length ι1 H3 env σ := ((st.next x1 hr1).next x3 hr3).env
  have loop : codeAny (model X.prog X.w) X.A (.compLoop (.ListComp elt [⟨tgt, iter, [test], 0⟩] scope pos) 0 (.ref it) (.ref Dn) ce) (compPost (model X.prog X.w) X.A X.xe none (EP X pins σ Q) (.ref Dn) s3.heap.objs.size) s4 := by
    refine compLoop_any (fun n s' => ∃ i H' ι3 ah3, n = src.xs.length - i ∧ i ≤ src.xs.length ∧ L2.Inv (X.blk s3 H3 scope ce fp) [] (L2.wipe σ (own.map (·.2))) H' s' ∧ tn i s'.heap ∧ (∀ b ∈ fp, H' b = none) ∧ Ext ah1.length ι1 H3 ah3.length ι3 H' ∧ HRep P ι3 ah3 H' ∧ badGo cs nl lf src.ok env (src.xs.drop i) ah3 = some ahE) ?_ src.xs.length ⟨0, H3, ι1, ah1, rfl, Nat.zero_le _, I4, st4, nfp, Ext.refl, hr3, eb⟩
    rintro n s5 ⟨i, H5, ι5, ah5, en, hil, I5, st5, n5, x5, hr5, eb5⟩
    have ioL := io.later x3
    by_cases hlt : i < src.xs.length
    · rw [List.drop_eq_getElem_cons hlt] at eb5
      simp only [badGo] at eb5
      split at eb5
      case isFalse => cases eb5
      rename_i hok
      split at eb5
      case h_2 => cases eb5
      rename_i d ln el
      split at eb5
      case isFalse => cases eb5
      rename_i hln
      split at eb5
      case h_2 => cases eb5
      rename_i cn ah6 elf
      split at eb5
      case isFalse => cases eb5
      rename_i hcn
      obtain ⟨hgo, hy⟩ := ioL.go i _ ι5 ah5 H5 (List.getElem?_eq_getElem hlt) x5 hr5 hok
      have ti := T.item (X.blk s3 H3 scope ce fp) rfl rfl rfl c.calm i [] s5 _ H5 (fun _ _ => False) I5 (stat I5 n5) st5 hgo
      refine thnF ti fun rr s6 ⟨u, hrr, h6⟩ => ?_
      subst hrr
      refine thnF h6 fun _ s7 ⟨x, H7, I7, r7, y7, st7, n7⟩ => ?_
      obtain ⟨x7, hr7, rv7⟩ := hy x H7 y7
      rw [el] at rv7
      have I7' := I7.pinned (stat I7 n7) (T.obj _ _ st7)
      have er7 : EnvRep P ah5.length ι5 H7 env σ := (env3.mono x5.toEx0 hr3.notup).mono x7.toEx0 hr5.notup
      have stw : Sta P ι5 ah5 (wipeE env (own.map (·.2))) (L2.wipe σ (own.map (·.2))) H7 := ⟨hr7, er7.wipe _⟩
      refine thnF (pg.run _ s7 _ H7 x u (fun σ8 H8 => H8 = H7 ∧ L2.wipe σ8 (own.map (·.2)) = L2.wipe σ (own.map (·.2)) ∧ ∃ v, σ8[j]? = some (some v) ∧ RepV P.K ah5.length ι5 H7 (.lam ln) v) I7' r7 ⟨ι5, ah5, _, .lam ln, _, stw, rv7, rfl, fun σ' sb st' => ⟨rfl, ?_, ?_⟩⟩) fun _ s8 ⟨σ8, H8, I8, e8, hw8, v8, hv8, rv8⟩ => ?_
      · have hown' : ∀ i ∈ (Pat.nm j).slots, i ∈ own.map (·.2) := fun i hi => by
          simp only [Pat.slots, List.mem_singleton] at hi
          rw [hi]; exact hown
        rw [sb.wipe hown', wipe_idem]
      · obtain ⟨v', h1, h2⟩ := st'.env.2 j (.lam ln) (List.getElem?_set_self (by rw [wipeE_length, er7.1, I5.len.symm.trans (wipe_length _ _) |>.symm]; exact hj))
        exact ⟨v', h1, h2⟩
      subst e8
      refine thnF (pt.run _ s8 σ8 H8 (fun b H' => b = false ∧ ∃ ι', Ext ah5.length ι5 H8 ah6.length ι' H' ∧ HRep P ι' ah6 H') I8 ⟨ι5, ah5, ln, v8, hr7, er7, hln, rv8, hv8, ?_⟩) fun b s9 ⟨H9, I9, eb9, ι9, x9, hr9⟩ => ?_
      · unfold eTold
        rw [elf]
        dsimp only
        rw [if_pos hcn]
        intro ι' H' v a b rv
        simp only [rV, RepV] at rv
        exact ⟨r, rv.1, by simp, ι', a, b⟩
      subst eb9
      simp only [Bool.false_eq_true, if_false]
      have pin' : ∀ b ∈ fp, ∀ o, s7.heap.get? b = some o → s9.heap.get? b = some o ∧ H9 b = none := fun b hb o e =>
        let z := I9.pin (b, o) (List.mem_append_right _ (List.mem_append_right _ (mem_pinsAt hb e)))
        ⟨z.1, z.2.1⟩
      have hl : (L2.wipe σ (own.map (·.2))).length = σ8.length := by rw [← hw8, wipe_length]
      refine ⟨src.xs.length - (i + 1), by omega, i + 1, H9, ι9, ah6, rfl, hlt, (I9.unpinned (pins := [])).weak hl (fun p v e => ?_), T.keep _ _ _ st7 fun b hb o e => (pin' b hb o e).1, fun b hb => ?_, x5.trans (x7.trans x9), hr9, eb5⟩
      · rw [← hw8] at e
        exact (wipe_some e).1
      · obtain ⟨o, e, _⟩ := T.obj _ _ st7 b hb
        exact (pin' b hb o e).2
    · have ei : i = src.xs.length := by omega
      subst ei
      rw [List.drop_length] at eb5
      simp only [badGo] at eb5
      split at eb5
      case isFalse => cases eb5
      rename_i hok
      cases eb5
      have td := T.done (X.blk s3 H3 scope ce fp) rfl rfl rfl c.calm src.xs.length [] s5 _ H5 (fun _ _ => False) I5 (stat I5 n5) st5 (ioL.stop ι5 _ H5 x5 hr5 hok)
      refine thnF td fun rr s6 ⟨hrr, I6⟩ => ?_
      subst hrr
      have I7 := back I6
      have nC : H5 s3.heap.objs.size = none := by
        have z : H5 ce.locals = none := I6.free
        rw [cL] at z
        exact z
      obtain ⟨m, hn, _⟩ := I6.loc
      have hn : s6.heap.Ns ce.locals m := hn
      rw [cL] at hn
      refine ⟨m, hn, fun h'' sb => ?_⟩
      obtain ⟨g0, g1, g2, g3, g4, g5⟩ := I3.fpOk (Nat.le_refl _) nC
      refine ⟨.ref Dn, H5, I7.turned (t' := s6.toks) (fun b o hb e => (sb.2 b hb).trans e) g0 g1 g3 g4 g5, rfl, q1 ι5 H5 _ (x3.trans x5) hr5 ?_⟩
      simp only [rV, RepV, RepVs]
      exact ⟨Dn, [], rfl, x5.keep Dn _ hlD (fun ps z => by cases z) oD, x5.out hlD (fun ps z => by cases z) oD, rfl⟩
  exact codeAny_compStart_list loop (T.self X.A 0 _ _ _ st4 loop)
end
end PyD

/-! PyPlain: a def without parameters whose run from nothing is known. -/
namespace PyD
open PySem PySem.Spec L2
open PyProof.Rows hiding St

def saysB (b : Bool) : R Fl → Bool
  | .ok (.rt (.bl c)) _ => b == c
  | _ => false
theorem fn_plain {P : Pm} {prog : Program} {w : World} {K : PySem.W.Frag} {mg : Str → Option Value} {base : Heap} {x qual : Str} {st : Stmt} {f : Addr} {fd : FuncData} {N : List Str} {k : Nat} {fb : Env → M Fl} {b : Bool} {tab : Nat → LamW} (F : L2.Fun K x qual st f fd) (S : FnScope N [] (defScope st)) (hK : P.K.fr = K)
    (hrun : saysB b (fb (startE N.length []) []) = true)
    (hbody : ∀ (cdv : Value) (A : Around) (outer : List PySem.Env) (s : Shared) (H : Hp) (E : XK) (P' : Pm), PySem.W.codeIn K cdv qual = true → fd.code = cdv → Room k (cxOf (L2.CX prog w) prog w K mg base N qual (defScope st) f cdv A outer s H E).A →
      P' = ⟨⟨K, lmOf (cxOf (L2.CX prog w) prog w K mg base N qual (defScope st) f cdv A outer s H E) tab, (cxOf (L2.CX prog w) prog w K mg base N qual (defScope st) f cdv A outer s H E).env.qual ++ "<lambda>"⟩, P.cls, P.tabs⟩ →
      Ctx (cxOf (L2.CX prog w) prog w K mg base N qual (defScope st) f cdv A outer s H E) P' (WI E) →
      PassesOwn (model prog w) (cxOf (L2.CX prog w) prog w K mg base N qual (defScope st) f cdv A outer s H E).A (cxOf (L2.CX prog w) prog w K mg base N qual (defScope st) f cdv A outer s H E).env (cxOf (L2.CX prog w) prog w K mg base N qual (defScope st) f cdv A outer s H E).xe →
      DSs (cxOf (L2.CX prog w) prog w K mg base N qual (defScope st) f cdv A outer s H E) P' (WI E) (defBody st) fb) :
    FnOk prog w K mg base (L2.CX prog w) (k + 1) f fd [] (spD P (fun _ h => .ok (.bl b) h) 0) := by
  obtain ⟨oc, od, kV, doc, pm, an, cdv, ct, osl, rfl, lk, hcd⟩ := F.ex
  refine fn_of lk hcd S (fun vs H Q E h => h.1) fun A outer s H vs Q E hr hsp => ?_
  generalize hP' : (⟨⟨K, lmOf (cxOf (L2.CX prog w) prog w K mg base N qual (defScope st) f cdv A outer s H E) tab, (cxOf (L2.CX prog w) prog w K mg base N qual (defScope st) f cdv A outer s H E).env.qual ++ "<lambda>"⟩, P.cls, P.tabs⟩ : Pm) = P'
  have cc : Ctx (cxOf (L2.CX prog w) prog w K mg base N qual (defScope st) f cdv A outer s H E) P' (WI E) := ⟨by subst hP'; rfl, rfl, S.nd, by have := hr.un; show (A.deeper (envOfC qual (defScope st) s.heap.objs.size f cdv)).units + 200 < _; omega, takes_of (X := cxOf (L2.CX prog w) prog w K mg base N qual (defScope st) f cdv A outer s H E) rfl rfl rfl rfl⟩
  refine ⟨_, hbody cdv A outer s H E P' hcd rfl hr hP'.symm cc ?_, ?_⟩
  · exact passes_of (X := cxOf (L2.CX prog w) prog w K mg base N qual (defScope st) f cdv A outer s H E) rfl
  · obtain ⟨lv, ι, ah, ds, hrp, rp, q⟩ := hsp
    have ht : P'.tabs = P.tabs := by subst hP'; rfl
    cases vs with
    | cons a r => cases lv
    | nil =>
    refine ⟨⟨ι.at_, fun _ => False⟩, [], startE N.length [], ⟨⟨fun m n h => absurd h (Nat.not_lt_zero _), fun n o e => by simp at e, fun a z => z.elim, by rw [ht]; exact hrp.tab⟩, start_rep (by simp only [RepVs])⟩, ?_⟩
    cases e : fb (startE N.length []) [] with
    | bad => rw [e] at hrun; cases hrun
    | ex c ah' => rw [e] at hrun; cases hrun
    | ok r ah' =>
      rw [e] at hrun
      cases r with
      | nx env' => cases hrun
      | bk env' => cases hrun
      | ct env' => cases hrun
      | rt d =>
        cases d <;> try (cases hrun)
        rename_i bb
        simp only [saysB, beq_iff_eq] at hrun
        subst hrun
        intro ι2 H2 v x2 hr2 rv
        obtain ⟨x, hr'⟩ := lam_step hrp (fun a o e t => x2.keep a o e t ⟨fun n h => absurd h (Nat.not_lt_zero _), fun z => z⟩) (by have z := hr2.tab; rw [ht] at z; exact z)
        refine q ι H2 v x hr' ?_
        simp only [rV, RepV] at rv ⊢
        exact rv
end PyD

/-! PyDisp: {k: v, ..}; a, b, c = x, y, z; sorted(.. for ..). -/
namespace PyD
open PySem PySem.Spec L2
open PyProof.Rows hiding St

section
variable {X : Cx} {P : Pm} {W : WXT}
/-! ### dict displays -/
abbrev rPs (P : Pm) : Nat → Pl → Hp → List (D × D) → List (V × V) → Prop := fun N ι H ds vs => RepVs P.K N ι H (ds.map (·.1)) (vs.map (·.1)) ∧ RepVs P.K N ι H (ds.map (·.2)) (vs.map (·.2))
def tDP (P : Pm) (W : WXT) (g : Env → M (List (D × D))) (σ : L2.St) (H : Hp) (Q : List (V × V) → Hp → Prop) : Prop := ∃ ι ah env, Sta P ι ah env σ H ∧ Fin (rPs P) P W σ ι ah.length H (g env ah) Q
def DPs (X : Cx) (P : Pm) (W : WXT) (pos : Pos) (keys : List (Option Expr)) (values : List Expr) (g : Env → M (List (D × D))) : Prop := ∃ trs, PPs X pos keys values trs ∧ ∀ σ H Q, tDP P W g σ H Q → tPairs trs σ H Q
def pNil : Env → M (List (D × D)) := fun _ => ret []
def pCons (fk fv : Env → M D) (g : Env → M (List (D × D))) : Env → M (List (D × D)) := fun env => bnd (fk env) fun k => bnd (fv env) fun v => bnd (g env) fun r => ret ((k, v) :: r)
theorem dps_nil' {pos : Pos} : DPs X P W pos [] [] pNil := ⟨[], pps_nil, fun σ H Q ⟨ι, ah, env, st, q⟩ => q ι H [] Ext.refl st.hp ⟨by simp only [List.map_nil, RepVs], by simp only [List.map_nil, RepVs]⟩⟩
theorem dps_cons' {pos : Pos} {k v : Expr} {ks : List (Option Expr)} {vs : List Expr} {fk fv : Env → M D} {g : Env → M (List (D × D))} (hk : DE X P W k fk) (hv : DE X P W v fv) (hr : DPs X P W pos ks vs g) : DPs X P W pos (some k :: ks) (v :: vs) (pCons fk fv g) := by
  obtain ⟨trs, h, hq⟩ := hr
  refine ⟨_, pps_cons hk hv h, fun σ H Q ⟨ι, ah, env, st, q⟩ => ?_⟩
  exact ⟨ι, ah, env, st, (q.step (Rp := rV P)).imp fun x H1 ⟨ι1, ah1, d, x1, hr1, p, q1⟩ => ⟨ι1, ah1, env, st.next x1 hr1, (q1.step (Rp := rV P)).imp fun y H2 ⟨ι2, ah2, d2, x2, hr2, p2, q2⟩ =>
    hq _ _ _ ⟨ι2, ah2, env, (st.next x1 hr1).next x2 hr2, (q2.step (Rp := rPs P)).imp fun ps H3 ⟨ι3, ah3, ds, x3, hr3, p3, q3⟩ => q3 ι3 H3 _ Ext.refl hr3 (by
      refine ⟨?_, ?_⟩
      · rw [List.map_cons, List.map_cons]; simp only [RepVs]
        exact ⟨x, _, rfl, (p.mono x2.toEx0 hr1.notup).mono x3.toEx0 hr2.notup, p3.1⟩
      · rw [List.map_cons, List.map_cons]; simp only [RepVs]
        exact ⟨y, _, rfl, p2.mono x3.toEx0 hr2.notup, p3.2⟩)⟩⟩⟩
def mergeD (kvs : List (D × D)) : List (D × D) := kvs.foldl (fun a p => putD a p.1 p.2) []
def eDisp (g : Env → M (List (D × D))) : Env → M D := fun env h => match g env (h ++ [.dct false []]) with
  | .ok kvs h1 => if h1[h.length]? = some (.dct false []) ∧ kvs.length ≤ 15 ∧ (kvs.all fun p => isKey p.1) = true then .ok (.obj h.length) (h1.set h.length (.dct false (mergeD kvs))) else .bad
  | .ex c h1 => .ex c h1
  | .bad => .bad
theorem merge_rep {N : Nat} {ι : Pl} {H : Hp} : ∀ {kvs : List (D × D)} {ps : List (V × V)} {acc : List (D × D)} {ks : List (Key × V)}, (kvs.all fun p => isKey p.1) = true → rPs P N ι H kvs ps → RepKV P.K N ι H acc (ks.map fun p => (kD p.1, p.2)) →
    ∃ kk : List (Key × V), ps = kk.map (fun kv => (kV kv.1, kv.2)) ∧ RepKV P.K N ι H (kvs.foldl (fun a p => putD a p.1 p.2) acc) ((mergeK ks kk).map fun p => (kD p.1, p.2))
  | [], ps, acc, ks, _, h, r => by
    have h1 := h.1
    simp only [List.map_nil, RepVs, List.map_eq_nil_iff] at h1
    subst h1
    exact ⟨[], rfl, r⟩
  | (k, d) :: kvs, ps, acc, ks, ha, h, r => by
    rw [List.all_cons, Bool.and_eq_true] at ha
    obtain ⟨h1, h2⟩ := h
    simp only [List.map_cons, RepVs] at h1 h2
    obtain ⟨x, r1, e1, rx, rr1⟩ := h1
    obtain ⟨y, r2, e2, ry, rr2⟩ := h2
    cases ps with
    | nil => simp at e1
    | cons p ps =>
      obtain ⟨px, py⟩ := p
      simp only [List.map_cons, List.cons.injEq] at e1 e2
      obtain ⟨rfl, rfl⟩ := e1
      obtain ⟨rfl, rfl⟩ := e2
      obtain ⟨k', rfl⟩ := kD_key ha.1
      have := rep_key rx
      subst this
      obtain ⟨kk, e, r'⟩ := merge_rep (acc := putD acc (kD k') d) (ks := putK ks k' py) ha.2 ⟨rr1, rr2⟩ (rep_put ry r)
      exact ⟨(k', py) :: kk, by rw [e]; rfl, r'⟩
theorem de_disp {pos : Pos} {keys : List (Option Expr)} {values : List Expr} {g : Env → M (List (D × D))} (h : DPs X P W pos keys values g) (hall : keys.all (·.isSome) = true := by rfl) (hl : keys.length = values.length := by rfl) (h0 : keys ≠ [] := by intro z; cases z) (h15 : keys.length ≤ 15 := by decide) :
    DE X P W (.Dict keys values pos) (eDisp g) := by
  obtain ⟨trs, hp, hq⟩ := h
  refine weakE (pe_disp hp hall hl h0 h15) fun σ H Q ⟨ι, ah, env, st, q⟩ p hpn => ?_
  have hr1 : HRep P (more ι ah.length p) (ah ++ [.dct false []]) (upd H p (.dK [])) := st.hp.push hpn ⟨[], ⟨[], by rw [if_neg Bool.false_ne_true]; exact upd_same, rfl⟩, by simp only [RepKV]⟩
  have x1 := Ext.push (o := .dK []) st.hp hpn
  have hlen : (ah ++ [O.dct false []]).length = ah.length + 1 := by simp
  rw [← hlen] at x1
  refine hq _ _ _ ⟨_, _, env, st.next x1 hr1, ?_⟩
  unfold eDisp at q
  cases e : g env (ah ++ [.dct false []]) with
  | bad => rw [e] at q; exact q.elim
  | ex c ah1 => rw [e] at q; exact fun ι2 H2 x2 hr2 => q ι2 H2 (x1.trans x2) hr2
  | ok kvs ah1 =>
    rw [e] at q
    dsimp only at q
    split at q
    case isFalse => exact q.elim
    rename_i hc
    obtain ⟨c1, c2, c3⟩ := hc
    intro ι2 H2 ps x2 hr2 rp
    have ip : ι2 ah.length = p := by rw [x2.same _ (by rw [hlen]; exact Nat.lt_succ_self _), more_at]
    have hn : ah.length < ah1.length := (List.getElem?_eq_some_iff.mp c1).1
    obtain ⟨kv', ⟨ks, hk, rfl⟩, rk⟩ := hr2.at_ _ _ c1
    rw [if_neg Bool.false_ne_true, ip] at hk
    have hks : ks = [] := by
      have := rk.length
      simp at this
      exact this
    subst hks
    obtain ⟨kk, ek, rkk⟩ := merge_rep (acc := []) (ks := []) c3 rp (by simp only [List.map_nil, RepKV])
    have lk : kk.length = kvs.length := by
      have h1 := rp.1.length
      rw [ek] at h1
      simp at h1
      omega
    refine ⟨hk, kk, ek, by omega, ?_⟩
    have := hr2.write (o := .dK (mergeK [] kk)) (u := .dct false (mergeD kvs)) hn ⟨_, ⟨mergeK [] kk, by rw [if_neg Bool.false_ne_true]; exact upd_same, rfl⟩, RepKV.mono (Ex0.write hn) hr2.notup _ _ rkk⟩
    have xw := Ext.write (o := .dK (mergeK [] kk)) hr2 hn
    rw [ip] at this xw
    refine q ι2 _ _ ?_ this ?_
    · rw [List.length_set]; exact (x1.trans x2).trans xw
    · simp only [rV, RepV]
      rw [List.length_set]
      exact ⟨hn, by rw [ip]⟩
/-! ### three at once -/
def sPar3 (i j l : Nat) (g : Env → M (List D)) : Env → M Fl := fun env => bnd (g env) fun ds h => match ds with
  | [x, y, z] => .ok (.nx (((env.set i (some x)).set j (some y)).set l (some z))) h
  | _ => .bad
theorem ds_par3 {i j l : Nat} {x y z : Str} {a b d : Expr} {ga : Env → M (List D)} {pos px py pz pt : Pos} {kt k2 pt2} (c : Ctx X P W) (hi : X.N[i]? = some x) (hj : X.N[j]? = some y) (hl : X.N[l]? = some z) (hij : i ≠ j) (hil : i ≠ l) (hjl : j ≠ l)
    (hx : X.env.scope.names.lookup x = some .local) (hy : X.env.scope.names.lookup y = some .local) (hz : X.env.scope.names.lookup z = some .local) (ha : DA X P W [a, b, d] ga)
    (hw : swappedStores [.Tuple [.Name x px, .Name y py, .Name z pz] kt pt] (.Tuple [a, b, d] k2 pt2) X.env = pure (some [x, y, z]))
    (hs : swapsWithSole [.Tuple [.Name x px, .Name y py, .Name z pz] kt pt] (.Tuple [a, b, d] k2 pt2) pos.line X.env = pure false := by rfl) :
    DS X P W (.Assign [.Tuple [.Name x px, .Name y py, .Name z pz] kt pt] (.Tuple [a, b, d] k2 pt2) pos) (sPar3 i j l ga) := weakS (ps_par3 c.calm c.nd hi hj hl hij hil hjl hx hy hz ha hw hs) fun E σ H ⟨ι, ah, env, st, q⟩ =>
  ⟨ι, ah, env, st, (q.stepE (Rp := rVs P)).imp fun vs H1 ⟨ι1, ah1, ds, x1, hr, p, q1⟩ => by
    match ds, p, q1 with
    | [], _, q1 => exact q1.elim
    | [_], _, q1 => exact q1.elim
    | [_, _], _, q1 => exact q1.elim
    | _ :: _ :: _ :: _ :: _, _, q1 => exact q1.elim
    | [d1, d2, d3], p, q1 =>
      simp only [rVs, RepVs] at p
      obtain ⟨v, r, rfl, p1, w, r2, rfl, p2, u, r3, rfl, p3, rfl⟩ := p
      exact ⟨v, w, u, rfl, q1 ι1 _ H1 Ext.refl ⟨hr, (((st.next x1 hr).env.set p1 i).set p2 j).set p3 l⟩⟩⟩
/-! ### sorted(.. for ..) -/
def kSorted (ds : List D) : M D := fun ah => if sortOk ah ds = true ∧ ds.length ≤ sizeLine then .ok (.lst (sortD ah ds)) ah else .bad
variable {k : Nat} {cO P0 : Addr} {elt tgt iter : Expr} {ifs : List Expr} {scope : Scope} {own : List (Str × Nat)} {pat : Pat} {f : Env → M Src} {gi : Env → M Bool} {ge : Env → M D}
theorem de_sortedG {p gpos pos : Pos} (G : GxParts X P W k cO P0 elt tgt iter ifs scope own pat f gi ge) (hg : Gl X "sorted") (hm : X.mg "sorted" = none) (hb : bootBuiltins "sorted" = some (.builtin "sorted"))
    (he : starEach [.GeneratorExp elt [⟨tgt, iter, ifs, 0⟩] scope gpos] X.env = (false, PySem.eval (.GeneratorExp elt [⟨tgt, iter, ifs, 0⟩] scope gpos) X.env) :: starEach [] X.env := by rfl) :
    DE X P W (.Call (.Name "sorted" p) [.GeneratorExp elt [⟨tgt, iter, ifs, 0⟩] scope gpos] [] pos) (fun env => bnd (eGx (fun _ => false) (own.map (·.2)) pat f gi ge env) kSorted) := by
  refine ⟨fun pins s σ H Q I h => ?_⟩
  refine wpAny_Call_Name_kw (ld_blt I hg hm hb ?_)
  refine PyProof.Rows.callWith_builtin1 ?_ he (by rfl)
  rw [he]
  show wpAny _ _ (spliced ((false, PySem.eval (.GeneratorExp elt [⟨tgt, iter, ifs, 0⟩] scope gpos) X.env) :: backTo pos (starEach [] X.env))) _ _ s
  refine Calls.spliced_cons (G.eval I h fun a s5 N ι1 H1 DS ah1 rd q => ?_)
  refine Calls.spliced_nil ?_
  unfold kSorted at q
  split at q
  case isFalse => exact q.elim
  rename_i hok
  obtain ⟨hok, hsz⟩ := hok
  have hr := G.hr
  have hfr : X.A.frames = some X.stack := let ⟨_, _, _, _, _, _, I4, _⟩ := rd; I4.ok.frames
  refine call_function_tree PyProof.Rows.kind_sorted PyProof.Rows.plain_sorted PyProof.Rows.entry_sorted (PyProof.Rows.args_sorted1 _) ?_
  unfold Builtin.«sorted»
  refine wpAny_bind (wpAny_of_eq (a := ()) rfl ?_)
  refine wpAny_bind (collect_gx (X := X) (P := P) (A := X.A.in1) rd (room_in (k := k + 1) (room_in (k := k + 2) (room_in (k := k + 3) (hr.mono (by omega))))) hfr hsz fun H ι' s' ys us I' x hr' rp r => ?_)
  have hu := G.c.un
  refine sort_core (H := H) (ys := ys) G.c I' hr' rp r hok (by show X.A.units + 1 + 70 < _; omega) fun l s'' zs hn I'' rz => ?_
  exact ⟨.ref l, _, I'', rfl, q ι' _ _ (x.trans (Ext.fresh hr' hn)) (hr'.fresh hn) (rep_lst hr' hn rz)⟩
end
end PyD

/-! PyHead: what the head tells, by places of lists; the end of a law. -/
namespace PyD
open PySem PySem.Spec L2
open PyProof.Rows hiding St

/-- the name of what the def makes -/
def qn (q s : Str) : Str := (envOfC q (default : Scope) 0 0 .none).qual ++ s
/-- facts, defs, tables -/
structure Txt (fa : List He.Fa) (fn : List He.DefD) (tf : List (He.Defn × Str)) (gt : List (Str × List He.Dv)) (K : PySem.W.Frag) (mg : Str → Option Value) (base : Heap) (fdt : Nat → FuncData) : Prop where
  ok : ∀ (i : Nat) (f : He.Fa), fa[i]? = some f → f.ok K = true
  fn : ∀ (i : Nat) (d : He.DefD), fn[i]? = some d → FunD K d.name d.qual d.params d.body d.scope (d.dvs K) (d.kws K) (He.fAd K d.at_) (fdt i)
  glo : ∀ (i : Nat) (x : Str), fa[i]? = some (.glo x) → mg x = some (.ref (He.ga K x))
  free : ∀ (i : Nat) (x : Str), fa[i]? = some (.free x) → mg x = none
  int : ∀ (i : Nat) (x : Str) (z : Int), fa[i]? = some (.int x z) → ∃ t, mg x = some (.int z t)
  str : ∀ (i : Nat) (x : Str) (z : Str), fa[i]? = some (.str x z) → ∃ t, mg x = some (.str z t)
  tab : ∀ p ∈ tf, LamX.TabB base mg (He.cT K p.1).1 (He.cT K p.1).2
  nd : ((tf.map fun p => (He.cT K p.1).2).Nodup)
  tup : ∀ (i : Nat) (p : Str × List He.Dv), gt[i]? = some p → ∀ H : Hp, SqT K H (He.ga K p.1) (p.2.map (He.Dv.v K))
section
variable {fa : List He.Fa} {fn : List He.DefD} {tf : List (He.Defn × Str)} {gt : List (Str × List He.Dv)} {K : PySem.W.Frag} {mg : Str → Option Value} {base : Heap} {fdt : Nat → FuncData}
theorem Txt.fun_ (T : Txt fa fn tf gt K mg base fdt) (i : Nat) {x qual : Str} {at_ : He.Defn} {st : Stmt} (h : fn[i]? = some ⟨at_, x, qual, defArgs st, defBody st, defScope st, [], []⟩) : L2.Fun K x qual st (He.fAd K at_) (fdt i) := by
  have F := T.fn i _ h
  obtain ⟨oc, od, dV, kV, doc, pm, an, cdv, ct, osl, e, lk, hcd, hd, hk⟩ := F.ex
  have hd' : dV = .none := by
    rcases hd with ⟨_, z⟩ | ⟨z, _⟩
    · exact z
    · exact absurd rfl z
  subst hd'
  exact ⟨⟨oc, od, kV, doc, pm, an, cdv, ct, osl, e, lk, hcd⟩, F.kp⟩
theorem fun_code {x qual : Str} {at_ : He.Defn} {st : Stmt} {fd : FuncData} {cdv : Value} (F : L2.Fun K x qual st (He.fAd K at_) fd) (h : fd.code = cdv) : cdv = .ref (He.cT K at_).1 := by
  obtain ⟨oc, od, kV, doc, pm, an, cdv', ct, osl, e, lk, hcd⟩ := F.ex
  obtain ⟨c, hc⟩ := He.codeIn_ref hcd
  have e1 : fd.code = .ref c := by rw [e]; exact hc
  rw [← h, e1]
  exact congrArg _ (He.codeOf_eq lk e1).symm
theorem tab_uniq {l : List (Addr × Str)} (nd : (l.map (·.1)).Nodup) {a : Addr} {q : Str} (h : (a, q) ∈ l) : ∀ p ∈ l, p.1 = a → p.2 = q := by
  induction l with
  | nil => cases h
  | cons x r ih =>
    rw [List.map_cons, List.nodup_cons] at nd
    intro p hp e
    rcases List.mem_cons.mp h with z | z
    · rcases List.mem_cons.mp hp with y | y
      · rw [y, ← z]
      · exact absurd (List.mem_map.mpr ⟨p, y, by rw [e, ← z]⟩) nd.1
    · rcases List.mem_cons.mp hp with y | y
      · exact absurd (List.mem_map.mpr ⟨(a, q), z, by rw [← e, y]⟩) nd.1
      · exact ih nd.2 z p y e
/-- the tables of a law, by addresses -/
def tabsF (tf : List (He.Defn × Str)) (K : PySem.W.Frag) : List (Addr × Str) := tf.map fun p => ((He.cT K p.1).2, p.2)
theorem tabsF_nd (T : Txt fa fn tf gt K mg base fdt) : ((tabsF tf K).map (·.1)).Nodup := by
  have := T.nd
  unfold tabsF
  rw [List.map_map]
  exact this
theorem tabsF_mem {K : PySem.W.Frag} {i : Nat} {p : He.Defn × Str} (h : tf[i]? = some p) : ((He.cT K p.1).2, p.2) ∈ tabsF tf K := List.mem_map.mpr ⟨p, List.mem_of_getElem? h, rfl⟩
theorem Txt.tabG (T : Txt fa fn tf gt K mg base fdt) (i : Nat) {p : He.Defn × Str} (h : tf[i]? = some p) : _root_.GxR.TabB base mg (He.cT K p.1).1 (He.cT K p.1).2 :=
  let z := T.tab p (List.mem_of_getElem? h)
  ⟨z.code, z.bm, z.gP⟩
theorem Txt.tabL (T : Txt fa fn tf gt K mg base fdt) (i : Nat) {p : He.Defn × Str} (h : tf[i]? = some p) : LamX.TabB base mg (He.cT K p.1).1 (He.cT K p.1).2 := T.tab p (List.mem_of_getElem? h)
theorem Txt.tabU (T : Txt fa fn tf gt K mg base fdt) (i : Nat) {p : He.Defn × Str} (h : tf[i]? = some p) : ∀ t ∈ tabsF tf K, t.1 = (He.cT K p.1).2 → t.2 = p.2 := tab_uniq (tabsF_nd T) (tabsF_mem h)
theorem Txt.exc (T : Txt fa fn tf gt K mg base fdt) (i j : Nat) {x : Str} (h : fa[i]? = some (.exc x)) (hj : fa[j]? = some (.glo x)) : ExcK K mg x (He.ga K x) :=
  let z := He.exc_ok (T.ok i _ h)
  ⟨z.1, T.glo j x hj, z.2.1, z.2.2.1, z.2.2.2⟩
theorem Txt.cls (T : Txt fa fn tf gt K mg base fdt) (i : Nat) {x : Str} (h : fa[i]? = some (.cls x)) : Cls K (He.ga K x) := He.cls_ok (T.ok i _ h)
theorem Txt.noat (T : Txt fa fn tf gt K mg base fdt) (i : Nat) {x f : Str} (h : fa[i]? = some (.noat x f)) : NoAttr K (He.ga K x) f := He.noat_ok (T.ok i _ h)
theorem Txt.meth (T : Txt fa fn tf gt K mg base fdt) (i : Nat) {x m : Str} (h : fa[i]? = some (.meth x m)) : Meth K (He.ga K x) m (He.fAd K (x, some m)) := He.meth_ok (T.ok i _ h)
theorem Txt.mkr (T : Txt fa fn tf gt K mg base fdt) (i : Nat) {x : Str} (h : fa[i]? = some (.mkr x)) : Mk K (He.ga K x) (He.fAd K (x, some "__init__")) := He.mkr_ok (T.ok i _ h)
theorem Txt.exm (T : Txt fa fn tf gt K mg base fdt) (i : Nat) {x y : Str} {b : Bool} (h : fa[i]? = some (.exm x y b)) : PySem.W.exmOne K (.ref (He.ga K x)) (.ref (He.ga K y)) = some b := He.exm_ok (T.ok i _ h)
theorem Txt.kp (T : Txt fa fn tf gt K mg base fdt) (i : Nat) {x : Str} (h : fa[i]? = some (.keep x)) : PySem.W.keepIn K (.ref (He.ga K x)) = true := He.keep_ok (T.ok i _ h)

/-! ### the end -/
/-- what is told behind the top -/
def exB (tf : List (He.Defn × Str)) (gt : List (Str × List He.Dv)) (K : PySem.W.Frag) : Bool := decide ((tf.map fun p => (He.cT K p.1).2).Nodup) && gt.all fun p => He.tupB K p.1 p.2
abbrev hk (fa : List He.Fa) (fn : List He.DefD) (tf : List (He.Defn × Str)) (gt : List (Str × List He.Dv)) : PySem.W.Hook := He.hookX 6 fa fn [] (tf.map (·.1)) (exB tf gt)
def obH (fa : List He.Fa) (fn : List He.DefD) (tf : List (He.Defn × Str)) (gt : List (Str × List He.Dv)) (s : PySem.W.SharedT) : He.AlX := He.obsX 6 fa fn [] (tf.map (·.1)) (exB tf gt) (HandSHeadRun.getT s)
theorem obH_eq (s : PySem.W.SharedT) : obH fa fn tf gt s = (hk fa fn tf gt).obs s.abs := He.obsX_eq (HandSHeadRun.getT_eq s)
/-- the parameters of a run -/
abbrev pm0 (K : PySem.W.Frag) (lm : Nat → Addr → Addr → Heap → Prop) (lq : Str) (cl : Nat → Addr) (tb : List (Addr × Str)) : Pm := ⟨⟨K, lm, lq⟩, cl, tb⟩
theorem law_at {l : PySem.W.OpenLaw} {w : World} {h : Heap} {mg : Str → Option Value} {k n i : Nat} {x : Str} {d : He.DefD} {fadr : Addr} {cl : PySem.W.Frag → Nat → Addr} {run : List D → M D} (hi : fn[i]? = some d) (hp : d.at_ = (("law" : Str), (none : Option Str))) (hn : d.dfl = [] ∧ d.kwd = [])
    (hx : ∀ (s : Shared) (u : Value) (fd : FuncData) (K : PySem.W.Frag), FunD K d.name d.qual d.params d.body d.scope [] [] fadr fd → BindsTo s fd ⟨[u], []⟩ [(x, u)])
    (Y : ∃ K : PySem.W.Frag, K.In h ∧ He.SaysX fa fn [] (tf.map (·.1)) (exB tf gt) w h K) (G : h.Ns mainGlobals mg) (hm : mg ("law" : Str) = some (.ref fadr))
    (hl : ∃ j : Nat, fa[j]? = some (He.Fa.glo "law"))
    (hok : ∀ (K : PySem.W.Frag) (base : Heap) (fdt : Nat → FuncData) (lm : Nat → Addr → Addr → Heap → Prop) (lq : Str), Txt fa fn tf gt K mg base fdt → FnOk l.prog w K mg base (L2.CX l.prog w) k (He.fAd K (("law" : Str), (none : Option Str))) (fdt i) [x] (spD (pm0 K lm lq (cl K) (tabsF tf K)) run 1))
    (plain : ∀ ns : List Int, ns.length ≤ n → (∀ z ∈ ns, Builtin.Int.intBits z ≤ 1048576) → ∃ h, run [.scr ns] [] = .ok (.bl true) h) :
    ∃ K : PySem.W.Frag, K.In h ∧ LamX.LawAtS l w K (L2.CX l.prog w) k n x mg fadr h := by
  obtain ⟨K, KX, S⟩ := Y
  have SD : He.SaysD fa fn K := congrArg (fun z : He.AlT => z.1) S.t
  have hb := (Bool.and_eq_true _ _).mp (show (decide ((tf.map fun p => (He.cT K p.1).2).Nodup) && gt.all fun p => He.tupB K p.1 p.2) = true from S.more)
  have hnd : ((tf.map fun p => (He.cT K p.1).2).Nodup) := of_decide_eq_true hb.1
  have hgt : ∀ (i : Nat) (p : Str × List He.Dv), gt[i]? = some p → ∀ H : Hp, SqT K H (He.ga K p.1) (p.2.map (He.Dv.v K)) := fun i p e H => He.tupB_ok (List.all_eq_true.mp hb.2 p (List.mem_of_getElem? e)) H
  have hok' : ∀ (i : Nat) (f : He.Fa), fa[i]? = some f → f.ok K = true := fun i f e => SD.fact i e
  obtain ⟨fdt, hf⟩ : ∃ fdt : Nat → FuncData, ∀ (i : Nat) (d : He.DefD), fn[i]? = some d → FunD K d.name d.qual d.params d.body d.scope (d.dvs K) (d.kws K) (He.fAd K d.at_) (fdt i) := by
    have : ∀ i : Nat, ∃ fd : FuncData, ∀ d : He.DefD, fn[i]? = some d → FunD K d.name d.qual d.params d.body d.scope (d.dvs K) (d.kws K) (He.fAd K d.at_) fd := fun j => by
      cases e : fn[j]? with
      | none =>
        obtain ⟨fd, _⟩ := SD.def_ i hi
        exact ⟨fd, fun d z => by cases z⟩
      | some d =>
        obtain ⟨fd, F⟩ := SD.def_ j e
        exact ⟨fd, fun d' z => by cases z; exact F⟩
    exact ⟨fun i => Classical.choose (this i), fun i => Classical.choose_spec (this i)⟩
  have T : ∀ base : Heap, K.In base → base.Ns mainGlobals mg → (∀ p ∈ tf.map (fun p => He.cT K p.1), LamX.TabB base mg p.1 p.2) → Txt fa fn tf gt K mg base fdt := fun base KB GB TB =>
    ⟨hok', hf, fun i x e => He.glo_ok KB GB (hok' i _ e), fun i x e => He.free_ok KB GB (hok' i _ e), fun i x z e => He.int_ok KB GB (hok' i _ e), fun i x z e => He.str_ok KB GB (hok' i _ e), fun p hp => TB _ (List.mem_map.mpr ⟨p, hp, rfl⟩), hnd, hgt⟩
  have ea : fadr = He.fAd K (("law" : Str), (none : Option Str)) := by
    obtain ⟨j, hj⟩ := hl
    have := hm.symm.trans (He.glo_ok KX G (hok' j _ hj))
    cases this
    rfl
  refine ⟨K, KX, fdt i, tf.map (fun p => He.cT K p.1), spD (pm0 K (fun _ _ _ _ => True) "" (cl K) (tabsF tf K)) run 1, ?_, ?_, ?_, ?_, ?_, ?_⟩
  · intro p hp
    obtain ⟨q, hq, rfl⟩ := List.mem_map.mp hp
    exact S.empty q.1 (List.mem_map.mpr ⟨q, hq, rfl⟩)
  · intro p hp
    obtain ⟨q, hq, rfl⟩ := List.mem_map.mp hp
    exact S.out q.1 (List.mem_map.mpr ⟨q, hq, rfl⟩)
  · intro p hp
    obtain ⟨q, hq, rfl⟩ := List.mem_map.mp hp
    exact PySem.W.codeHd_of_K KX (S.hd q.1 (List.mem_map.mpr ⟨q, hq, rfl⟩))
  · intro s u
    have F := hf i d hi
    rw [hp, ← ea] at F
    unfold He.DefD.dvs He.DefD.kws at F
    rw [hn.1, hn.2] at F
    exact hx s u _ K F
  · intro H a ns hl hb hT hS
    obtain ⟨h', e⟩ := plain ns hl hb
    refine ⟨rfl, ⟨fun _ => 0, fun _ => False⟩, [], [.scr ns], ⟨fun m n z => absurd z (Nat.not_lt_zero _), fun n o z => by simp at z, fun b z => z.elim, fun p hp => ?_⟩, ?_, ?_⟩
    · obtain ⟨q, hq, rfl⟩ := List.mem_map.mp hp
      exact LamX.TabS.nil (hT _ (List.mem_map.mpr ⟨q, hq, rfl⟩))
    · simp only [RepVs, RepV]
      refine ⟨.ref a, [], rfl, ⟨a, rfl, ?_⟩, rfl⟩
      rcases hS with z | z
      · exact .inl ⟨z, fun n hn => absurd hn (Nat.not_lt_zero _), fun z => z⟩
      · exact .inr (.inr z)
    · rw [e]
      intro ι' H' v _ _ rv
      simp only [rV, RepV] at rv
      exact rv
  · intro base KB GB TB
    have := hok K base fdt (fun _ _ _ _ => True) "" (T base KB GB TB)
    rw [← ea] at this
    exact this
end

section
variable {X : Cx} {P : Pm} {W : WXT}
theorem de_gint {x : Str} {z : Int} {pos : Pos} (hg : Gl X x) (h : ∃ t, X.mg x = some (.int z t)) (hd : (x == ("__debug__" : Str)) = false := by decide) : DE X P W (.Name x pos) (eC (.int z)) := by
  obtain ⟨t, h⟩ := h
  exact de_c (pe_glob (v := .int z) hg h ⟨t, rfl⟩ hd) fun _ _ _ => by simp only [RepV]
/-- a tuple of the module -/
def dvD : He.Dv → D
  | .bl b => .bl b
  | .int i => .int i
  | .str x => .str x
  | _ => .non
def dvOk : He.Dv → Bool
  | .non => true
  | .bl _ => true
  | .int _ => true
  | .str x => sOk x
  | _ => false
theorem rep_dvs {K0 : PySem.W.Frag} {K : KL} {N : Nat} {ι : Pl} {H : Hp} : ∀ {vs : List He.Dv}, vs.all dvOk = true → RepVs K N ι H (vs.map dvD) (vs.map (He.Dv.v K0))
  | [], _ => by simp [RepVs]
  | v :: vs, h => by
    simp only [List.all_cons, Bool.and_eq_true] at h
    simp only [List.map_cons, RepVs]
    refine ⟨_, _, rfl, ?_, rep_dvs h.2⟩
    cases v <;> simp only [dvOk, Bool.false_eq_true, false_and] at h <;> simp only [dvD, He.Dv.v, RepV]
    exact ⟨trivial, h.1⟩
theorem de_gtup {x : Str} {vs : List He.Dv} {pos : Pos} (c : Ctx X P W) (hg : Gl X x) (h : X.mg x = some (.ref (He.ga X.K x))) (t : ∀ H : Hp, SqT X.K H (He.ga X.K x) (vs.map (He.Dv.v X.K))) (ok : vs.all dvOk = true := by decide +kernel) (hd : (x == ("__debug__" : Str)) = false := by decide) : DE X P W (.Name x pos) (eC (.tup (vs.map dvD))) := by
  obtain ⟨⟨K0, lm0, lq0⟩, cl0, tb0⟩ := P
  obtain rfl : K0 = X.K := c.k
  exact de_c (pe_glob (v := .ref (He.ga X.K x)) hg h rfl hd) fun N ι H => by
    simp only [RepV]
    exact ⟨_, _, rfl, t H, rep_dvs ok⟩
theorem fld_nil {f : Str} : FldOk X P [] f := fun c h => by cases h
theorem fld_cons {f : Str} {c : Nat} {cs : List Nat} (h1 : Cls X.K (P.cls c)) (h2 : NoAttr X.K (P.cls c) f) (r : FldOk X P cs f) : FldOk X P (c :: cs) f := fun d hd => by
  rcases List.mem_cons.mp hd with z | z
  · rw [z]; exact ⟨h1, h2⟩
  · exact r d z
theorem cau_nil {K : PySem.W.Frag} {CS : Addr} : Caught K P CS [] := fun c h => by cases h
theorem cau_cons {K : PySem.W.Frag} {CS : Addr} {c : Nat} {cs : List Nat} (h1 : PySem.W.exmOne K (.ref (P.cls c)) (.ref CS) = some true) (r : Caught K P CS cs) : Caught K P CS (c :: cs) := fun d hd => by
  rcases List.mem_cons.mp hd with z | z
  · rw [z]; exact h1
  · exact r d z
variable {CS : Addr}
theorem de_toldF {x a e : Str} {g c P0 : Addr} {k : Nat} {st : Stmt} {fd : FuncData} {Ng : List Str} {j : Nat} {p1 p2 p3 p4 p5 p6 p7 p8 : Pos}
    {params : Arguments} {body : Expr} {scope : Scope} {fe : Env → M D} {p lpos pos : Pos} {cs : List Nat} {r : Str} (cc : Ctx X P W) (hg : Gl X x) (hm : X.mg x = some (.ref g)) (F : L2.Fun X.K x x st g fd)
    (hbg : defBody st = [.Try [.Return (some (.Call (.Name a p1) [] [] p2)) p3] [.ExceptHandler (some (.Name e p4)) none [.Return (some (.Constant (.str r) j p5)) p6] p7] [] [] p8])
    (hb : L2.Binds X.K fd [a] []) (Sg : FnScope Ng [a] (defScope st)) (hNg : Ng[0]? = some a) (hva : Vis (defScope st) a) (hge : (defScope st).names.lookup e = some .globalImplicit) (hme : X.mg e = some (.ref CS)) (hcs : Caught X.K P CS cs) (hs : sOk r = true)
    (TB : LamX.TabB X.base X.mg c P0) (hcode : X.env.code = .ref c) (hmT : (P0, X.env.qual ++ "<lambda>") ∈ P.tabs) (hu : ∀ p ∈ P.tabs, p.1 = P0 → p.2 = X.env.qual ++ "<lambda>") (hr : Room (k + 2) X.A) (L : LamX.LamS X.env.scope scope) (hdef : defaultsOf params X.env = ([], []))
    (hbind : ∀ (q : Str) (cl : List (Str × Addr)) (pm cv ctv : Value), bindArgs (PySem.W.kla_fn "<lambda>" q params body scope cl pm cv ctv) ⟨[], []⟩ = pure [])
    (hbody : ∀ (A : Around) (outer : List PySem.Env) (s : Shared) (H : Hp) (E : XK) (f c' : Addr), Room k (LamX.lamCx X A outer s H E scope f c').A → Ctx (LamX.lamCx X A outer s H E scope f c') P (WI E) → DE (LamX.lamCx X A outer s H E scope f c') P (WI E) body fe)
    (h0 : ∀ f : Addr, (L2.start Ng [V.ref f])[0]? = some (some (V.ref f)) := by intro _; rfl) (hde : (e == ("__debug__" : Str)) = false := by decide)
    (hdb : (x == ("__debug__" : Str)) = false := by decide) (hd : (a == ("__debug__" : Str)) = false := by decide) (hcd : (a == ("__classdict__" : Str)) = false := by decide) :
    DE X P W (.Call (.Name x p) [.Lambda params body scope lpos] [] pos) (eTold cs r fe) := by
  obtain ⟨oc, od, kV, doc, pm, an, cdv, ct, osl, rfl, lk, hcg⟩ := F.ex
  refine de_told (e := e) (P0 := P0) (c := c) (k := k) (CS := CS) cc hg hm F.kp lk hcg hb Sg hNg hva ?_ hcs hs TB hcode hmT hu hr L hdef hbind hbody hdb hd hcd
  rw [hbg]
  exact LamX.told_gives hge hme hde h0
/-! ### told(f), f a lambda of a list -/
theorem told_cmp {P : Pm} {j : Nat} {σ : L2.St} {env0 : Env} {cs : List Nat} {r : Str} {nl : Nat} {lf : Nat → Env → M D} {σB : L2.St} {H : Hp} {Q Q' : VK} (h : tToldV P j σ env0 cs r nl lf σB H Q) (hq : ∀ v H, Q v H → Q' v H) : tToldV P j σ env0 cs r nl lf σB H Q' := by
  obtain ⟨ι, ah, n, v, a, b, c, d, e, f⟩ := h
  exact ⟨ι, ah, n, v, a, b, c, d, e, f.imp hq⟩
theorem pts_told {B : Cx} {P : Pm} {j : Nat} {σ : L2.St} {env0 : Env} {cs : List Nat} {r : Str} {nl : Nat} {lf : Nat → Env → M D} {e : Expr} {jj : Nat} {ps pos : Pos} (h : PE B e (tToldV P j σ env0 cs r nl lf)) :
    PTs B [.Compare e [.NotEq] [.Constant (.str r) jj ps] pos] (fun σB H Q => tToldV P j σ env0 cs r nl lf σB H fun v H' => ∃ b, v = .str b ∧ Q (!decide (b = r)) H') := by
  have := pts_one (pt_cmpR (pos := pos) op_ne h (pe_str (X := B) (x := r) (j := jj) (pos := ps)) (nomark _))
  refine ⟨fun pins s σ H Q I q => this.run pins s σ H Q I ?_⟩
  exact told_cmp q fun v H ⟨b, e, q⟩ => by
    subst e
    refine ⟨rfl, _, rfl, ?_⟩
    have : decide (V.str b = V.str r) = decide (b = r) := by rw [Bool.eq_iff_iff]; simp
    rw [this]; exact q
end
abbrev bT (f : Env → M D) : Env → M Bool := fun env => toB (f env)
abbrev EN : XK := fun _ _ _ => False
theorem blk_room {X : Cx} {k : Nat} {s : Shared} {H : Hp} {scope : Scope} {env : PySem.Env} {fp : List Addr} {P : Pm} {W : WXT} (h : Room k X.A) (_ : Ctx (X.blk s H scope env fp) P W) : Room k (X.blk s H scope env fp).A := h
theorem fn_bad {P : Pm} {prog : Program} {w : World} {K : PySem.W.Frag} {mg : Str → Option Value} {base : Heap} {k : Nat} {f : Addr} {fd : FuncData} {ps : List Str} : FnOk prog w K mg base (L2.CX prog w) k f fd ps (spD P (fun _ => stuck) ps.length) :=
  ⟨fun vs H Q E h => h.1, fun A outer s H args us vs Q E hr e0 hb r hsp => by
    obtain ⟨_, ι, ah, ds, _, _, q⟩ := hsp
    exact q.elim⟩
theorem fn_if {P : Pm} {prog : Program} {w : World} {K : PySem.W.Frag} {mg : Str → Option Value} {base : Heap} {k : Nat} {f : Addr} {fd : FuncData} {ps : List Str} {g : List D → M D} {b : Bool} (h : b = true → FnOk prog w K mg base (L2.CX prog w) k f fd ps (spD P g ps.length)) :
    FnOk prog w K mg base (L2.CX prog w) k f fd ps (spD P (fun ds h => if b then g ds h else .bad) ps.length) := by
  cases b with
  | true => exact h rfl
  | false => exact fn_bad
theorem cx_false {P : Program} {w : World} {H : Hp} {s : Shared} {e : Value} {s' : Shared} (z : L2.CX P w [] H s (fun _ _ _ => False) e s') : False := by
  obtain ⟨_, _, _, _, _, _, _, _, _, _, _, z⟩ := z
  exact z.2
end PyD

/-! PyWp: what a run ends in; equations of the combinators to be used from the outside in. -/
namespace PyD
open PySem PySem.Spec L2
open PyProof.Rows hiding St

def Wp {α : Type} (m : M α) (h : AH) (Q : α → AH → Prop) (E : Nat → AH → Prop) : Prop := match m h with
  | .ok a h' => Q a h'
  | .ex c h' => E c h'
  | .bad => False
section
variable {α β : Type} {h : AH} {env : Env} {E : Nat → AH → Prop}
theorem wp_bnd {m : M α} {f : α → M β} {Q : β → AH → Prop} : Wp (bnd m f) h Q E = Wp m h (fun a h' => Wp (f a) h' Q E) E := by
  unfold Wp bnd; cases m h <;> rfl
theorem wp_ret {a : α} {Q : α → AH → Prop} : Wp (ret a) h Q E = Q a h := rfl
theorem wp_ok {a : α} {Q : α → AH → Prop} {g : AH → AH} : Wp (fun h => .ok a (g h)) h Q E = Q a (g h) := rfl
theorem wp_stuck {Q : α → AH → Prop} : Wp stuck h Q E = False := rfl
theorem Wp.imp {m : M α} {Q Q' : α → AH → Prop} {E' : Nat → AH → Prop} (w : Wp m h Q E) (q : ∀ a h, Q a h → Q' a h) (e : ∀ c h, E c h → E' c h) : Wp m h Q' E' := by
  unfold Wp at *; cases z : m h <;> rw [z] at w <;> first | exact q _ _ w | exact e _ _ w | exact w
theorem Wp.impQ {m : M α} {Q Q' : α → AH → Prop} (w : Wp m h Q E) (q : ∀ a h, Q a h → Q' a h) : Wp m h Q' E := w.imp q fun _ _ z => z
theorem wp_of {m : M α} {Q : α → AH → Prop} {a : α} {h' : AH} (e : m h = .ok a h') (q : Q a h') : Wp m h Q E := by unfold Wp; rw [e]; exact q
theorem wp_ex {m : M α} {Q : α → AH → Prop} {c : Nat} {h' : AH} (e : m h = .ex c h') (q : E c h') : Wp m h Q E := by unfold Wp; rw [e]; exact q
theorem Wp.get {m : M α} {Q : α → AH → Prop} (w : Wp m h Q fun _ _ => False) : ∃ a h', m h = .ok a h' ∧ Q a h' := by
  unfold Wp at w; cases z : m h <;> rw [z] at w <;> first | exact ⟨_, _, rfl, w⟩ | exact w.elim
/-! expressions -/
variable {Q : D → AH → Prop} {QB : Bool → AH → Prop} {QL : List D → AH → Prop} {QF : Fl → AH → Prop} {QS : Src → AH → Prop}
theorem wp_eC {d : D} : Wp (eC d env) h Q E = Q d h := rfl
theorem wp_eVar {i : Nat} : Wp (eVar i env) h Q E = match env[i]? with
    | some (some d) => Q d h
    | _ => False := by
  unfold Wp eVar
  split <;> split at * <;> simp_all
theorem wp_eOp {o : AH → D → D → Option D} {f g : Env → M D} : Wp (eOp o f g env) h Q E = Wp (f env) h (fun x h1 => Wp (g env) h1 (fun y h2 => match o h2 x y with
    | some d => Q d h2
    | none => False) E) E := by
  unfold eOp
  rw [wp_bnd]
  congr 1; funext x h1
  rw [wp_bnd]
  congr 1; funext y h2
  unfold Wp; (try dsimp only); cases o h2 x y <;> rfl
theorem wp_toB {m : M D} : Wp (toB m) h QB E = Wp m h (fun d h1 => match d with
    | .bl b => QB b h1
    | _ => False) E := by
  unfold toB
  rw [wp_bnd]
  congr 1; funext d h1
  unfold Wp; (try dsimp only); cases d <;> rfl
theorem wp_bNot {f : Env → M Bool} : Wp (bNot f env) h QB E = Wp (f env) h (fun b h1 => QB (!b) h1) E := by
  unfold bNot; rw [wp_bnd]; rfl
theorem wp_bAnd {f g : Env → M Bool} : Wp (bAnd f g env) h QB E = Wp (f env) h (fun b h1 => if b = true then Wp (g env) h1 QB E else QB false h1) E := by
  unfold bAnd; rw [wp_bnd]; congr 1; funext b h1; cases b <;> rfl
theorem wp_bOr {f g : Env → M Bool} : Wp (bOr f g env) h QB E = Wp (f env) h (fun b h1 => if b = true then QB true h1 else Wp (g env) h1 QB E) E := by
  unfold bOr; rw [wp_bnd]; congr 1; funext b h1; cases b <;> rfl
theorem wp_eIf {g : Env → M Bool} {f1 f2 : Env → M D} : Wp (eIf g f1 f2 env) h Q E = Wp (g env) h (fun b h1 => if b = true then Wp (f1 env) h1 Q E else Wp (f2 env) h1 Q E) E := by
  unfold eIf; rw [wp_bnd]; congr 1; funext b h1; cases b <;> rfl
theorem wp_eAnd {f g : Env → M D} : Wp (eAnd f g env) h Q E = Wp (toB (f env)) h (fun b h1 => if b = true then Wp (g env) h1 Q E else Q (.bl false) h1) E := by
  unfold eAnd; rw [wp_bnd]; congr 1; funext b h1; cases b <;> rfl
theorem wp_eOr {f g : Env → M D} : Wp (eOr f g env) h Q E = Wp (toB (f env)) h (fun b h1 => if b = true then Q (.bl true) h1 else Wp (g env) h1 Q E) E := by
  unfold eOr; rw [wp_bnd]; congr 1; funext b h1; cases b <;> rfl
theorem wp_eNot {f : Env → M D} : Wp (eNot f env) h Q E = Wp (toB (f env)) h (fun b h1 => Q (.bl (!b)) h1) E := by
  unfold eNot; rw [wp_bnd]; rfl
theorem wp_aNil : Wp (aNil env) h QL E = QL [] h := rfl
theorem wp_aCons {f : Env → M D} {g : Env → M (List D)} : Wp (aCons f g env) h QL E = Wp (f env) h (fun x h1 => Wp (g env) h1 (fun xs h2 => QL (x :: xs) h2) E) E := by
  unfold aCons; rw [wp_bnd]; congr 1; funext x h1; rw [wp_bnd]; rfl
theorem wp_eTup {g : Env → M (List D)} : Wp (eTup g env) h Q E = Wp (g env) h (fun xs h1 => xs.length ≤ sizeLine ∧ Q (.tup xs) h1) E := by
  unfold eTup; rw [wp_bnd]; congr 1; funext x h1
  unfold Wp; dsimp only
  by_cases z : x.length ≤ sizeLine
  · rw [if_pos z]; simp only [z, true_and]
  · rw [if_neg z]; simp only [z, false_and]
theorem wp_eLst {g : Env → M (List D)} : Wp (eLst g env) h Q E = Wp (g env) h (fun xs h1 => xs.length ≤ sizeLine ∧ Q (.lst xs) h1) E := by
  unfold eLst; rw [wp_bnd]; congr 1; funext x h1
  unfold Wp; dsimp only
  by_cases z : x.length ≤ sizeLine
  · rw [if_pos z]; simp only [z, true_and]
  · rw [if_neg z]; simp only [z, false_and]
theorem wp_eLstO {g : Env → M (List D)} : Wp (eLstO g env) h Q E = Wp (g env) h (fun xs h1 => xs.length ≤ sizeLine ∧ Q (.obj h1.length) (h1 ++ [.lst xs])) E := by
  unfold eLstO; rw [wp_bnd]; congr 1; funext x h1
  unfold Wp; dsimp only
  by_cases z : x.length ≤ sizeLine
  · rw [if_pos z]; simp only [z, true_and]
  · rw [if_neg z]; simp only [z, false_and]
theorem wp_eIx {f g : Env → M D} : Wp (eIx f g env) h Q E = Wp (f env) h (fun x h1 => Wp (g env) h1 (fun y h2 => match ixD h2 x y with
    | some d => Q d h2
    | none => False) E) E := wp_eOp
theorem wp_eFld {cs : List Nat} {f : Str} {fa : Env → M D} : Wp (eFld cs f fa env) h Q E = Wp (fa env) h (fun x h1 => match fldD cs f h1 x with
    | some d => Q d h1
    | none => False) E := by
  unfold eFld; rw [wp_bnd]; congr 1; funext x h1
  unfold Wp; (try dsimp only); cases fldD cs f h1 x <;> rfl
theorem wp_eNeg {f : Env → M D} : Wp (eNeg f env) h Q E = Wp (f env) h (fun x h1 => match x with
    | .int i => Q (.int (-i)) h1
    | _ => False) E := by
  unfold eNeg; rw [wp_bnd]; congr 1; funext x h1
  unfold Wp; (try dsimp only); cases x <;> rfl
theorem wp_eCall {op : OpL} {g : Env → M (List D)} : Wp (eCall op g env) h Q E = Wp (g env) h (fun ds h1 => match op h1 ds with
    | some d => Q d h1
    | none => False) E := by
  unfold eCall; rw [wp_bnd]; congr 1; funext x h1
  unfold Wp; (try dsimp only); cases op h1 x <;> rfl
theorem wp_eFun {gf : List D → M D} {g : Env → M (List D)} : Wp (eFun gf g env) h Q E = Wp (g env) h (fun ds h1 => Wp (gf ds) h1 Q E) E := wp_bnd
theorem wp_arity {n : Nat} {gf : List D → M D} {ds : List D} : Wp (arity n gf ds) h Q E = (ds.length = n ∧ Wp (gf ds) h Q E) := by
  unfold arity Wp
  split <;> rename_i e <;> split at e <;> simp_all
theorem wp_eMeth {c : Nat} {m : Str} {gf : List D → M D} {fo : Env → M D} {g : Env → M (List D)} : Wp (eMeth c m gf fo g env) h Q E = Wp (fo env) h (fun o h1 => isInsO c m h1 o = true ∧ Wp (g env) h1 (fun ds h2 => Wp (gf (o :: ds)) h2 Q E) E) E := by
  unfold eMeth; rw [wp_bnd]; congr 1; funext o h1
  by_cases z : isInsO c m h1 o = true
  · simp only [z, true_and]
    rw [← wp_bnd]; unfold Wp; simp only [z, if_true]
  · simp only [z, false_and]
    unfold Wp; dsimp only; simp only [z, Bool.false_eq_true, if_false, false_and]
theorem wp_eChain {o o' : AH → D → D → Option D} {fa fb fc : Env → M D} : Wp (eChain o o' fa fb fc env) h Q E = Wp (fa env) h (fun x h1 => Wp (fb env) h1 (fun y h2 => match o h2 x y with
    | some (.bl true) => Wp (fc env) h2 (fun z h3 => match o' h3 y z with
      | some d => Q d h3
      | none => False) E
    | some (.bl false) => Q (.bl false) h2
    | _ => False) E) E := by
  unfold eChain
  rw [wp_bnd]
  congr 1; funext x h1
  rw [wp_bnd]
  congr 1; funext y h2
  unfold Wp; dsimp only
  cases o h2 x y with
  | none => rfl
  | some d =>
    cases d <;> try rfl
    rename_i b
    cases b
    · rfl
    · dsimp only
      unfold bnd
      dsimp only
      cases fc env h2 with
      | ok z h3 => dsimp only; cases o' h3 y z <;> rfl
      | ex c h3 => rfl
      | bad => rfl
/-! statements -/
theorem wp_sNil : Wp (sNil env) h QF E = QF (.nx env) h := rfl
theorem wp_sSeq {f g : Env → M Fl} : Wp (sSeq f g env) h QF E = Wp (f env) h (fun r h1 => match r with
    | .nx env' => Wp (g env') h1 QF E
    | r => QF r h1) E := by
  unfold sSeq; rw [wp_bnd]; congr 1; funext r h1; cases r <;> rfl
theorem wp_sExpr {f : Env → M D} : Wp (sExpr f env) h QF E = Wp (f env) h (fun _ h1 => QF (.nx env) h1) E := by unfold sExpr; rw [wp_bnd]; rfl
theorem wp_sRet {f : Env → M D} : Wp (sRet f env) h QF E = Wp (f env) h (fun d h1 => QF (.rt d) h1) E := by unfold sRet; rw [wp_bnd]; rfl
theorem wp_sIf {c : Env → M Bool} {f g : Env → M Fl} : Wp (sIf c f g env) h QF E = Wp (c env) h (fun b h1 => if b = true then Wp (f env) h1 QF E else Wp (g env) h1 QF E) E := by
  unfold sIf; rw [wp_bnd]; congr 1; funext b h1; cases b <;> rfl
theorem wp_sAsg {pat : Pat} {f : Env → M D} : Wp (sAsg pat f env) h QF E = Wp (f env) h (fun d h1 => match pat.put d env with
    | some env' => QF (.nx env') h1
    | none => False) E := by
  unfold sAsg; rw [wp_bnd]; congr 1; funext d h1
  unfold Wp; (try dsimp only); cases pat.put d env <;> rfl
theorem wp_sPar {i j : Nat} {g : Env → M (List D)} : Wp (sPar i j g env) h QF E = Wp (g env) h (fun ds h1 => match ds with
    | [x, y] => QF (.nx ((env.set i (some x)).set j (some y))) h1
    | _ => False) E := by
  unfold sPar; rw [wp_bnd]; congr 1; funext ds h1
  match ds with
  | [] => rfl
  | [_] => rfl
  | [_, _] => rfl
  | _ :: _ :: _ :: _ => rfl
theorem wp_sPar3 {i j l : Nat} {g : Env → M (List D)} : Wp (sPar3 i j l g env) h QF E = Wp (g env) h (fun ds h1 => match ds with
    | [x, y, z] => QF (.nx (((env.set i (some x)).set j (some y)).set l (some z))) h1
    | _ => False) E := by
  unfold sPar3; rw [wp_bnd]; congr 1; funext ds h1
  match ds with
  | [] => rfl
  | [_] => rfl
  | [_, _] => rfl
  | [_, _, _] => rfl
  | _ :: _ :: _ :: _ :: _ => rfl
theorem wp_sRaise {c : Nat} : Wp (sRaise c env) h QF E = E c h := rfl
theorem wp_sSub {fv fo fi : Env → M D} : Wp (sSub fv fo fi env) h QF E = Wp (fv env) h (fun v h1 => Wp (fo env) h1 (fun o h2 => Wp (fi env) h2 (fun i h3 => match putIx h3 o i v with
    | some h' => QF (.nx env) h'
    | none => False) E) E) E := by
  unfold sSub; rw [wp_bnd]; congr 1; funext v h1; rw [wp_bnd]; congr 1; funext o h2; rw [wp_bnd]; congr 1; funext i h3
  unfold Wp; (try dsimp only); cases putIx h3 o i v <;> rfl
theorem wp_sSetF {cs : List Nat} {f : Str} {fv fo : Env → M D} : Wp (sSetF cs f fv fo env) h QF E = Wp (fv env) h (fun v h1 => Wp (fo env) h1 (fun o h2 => match putFld cs f h2 o v with
    | some h' => QF (.nx env) h'
    | none => False) E) E := by
  unfold sSetF; rw [wp_bnd]; congr 1; funext v h1; rw [wp_bnd]; congr 1; funext o h2
  unfold Wp; (try dsimp only); cases putFld cs f h2 o v <;> rfl
theorem wp_runB {n : Nat} {fb : Env → M Fl} {ds : List D} : Wp (runB n fb ds) h Q E = Wp (fb (startE n ds)) h (fun r h1 => match r with
    | .rt d => Q d h1
    | .nx _ => Q .non h1
    | _ => False) E := by
  unfold runB Wp
  dsimp only
  cases fb (startE n ds) h with
  | ok r h1 => cases r <;> rfl
  | ex c h1 => rfl
  | bad => rfl

theorem Wp.eq {m : M α} {v : α} {g : AH} (w : Wp m h (fun d h' => d = v ∧ h' = g) fun _ _ => False) : m h = .ok v g := by
  obtain ⟨a, h', e, rfl, rfl⟩ := w.get
  exact e
theorem wp_eq {m : M α} {Q : α → AH → Prop} {v : α} {g : AH} (e : m h = .ok v g) : Wp m h Q E = Q v g := by unfold Wp; rw [e]
theorem wp_exq {m : M α} {Q : α → AH → Prop} {c : Nat} {g : AH} (e : m h = .ex c g) : Wp m h Q E = E c g := by unfold Wp; rw [e]
theorem Wp.exq {m : M α} {c : Nat} {g : AH} (w : Wp m h (fun _ _ => False) (fun d h' => d = c ∧ h' = g)) : m h = .ex c g := by
  unfold Wp at w
  cases e : m h with
  | ok a h' => rw [e] at w; exact w.elim
  | ex d h' => rw [e] at w; rw [w.1, w.2]
  | bad => rw [e] at w; exact w.elim
/-! loops over what is known -/
theorem wp_iSeq {f : Env → M D} : Wp (iSeq f env) h QS E = Wp (f env) h (fun d h1 => match srcSeq h1 d with
    | some s => QS s h1
    | none => False) E := by
  unfold iSeq; rw [wp_bnd]; congr 1; funext d h1
  unfold Wp; dsimp only; cases srcSeq h1 d <;> rfl
theorem wp_iRange {r : List D → Option (List D)} {g : Env → M (List D)} : Wp (iRange r g env) h QS E = Wp (g env) h (fun ds h1 => match r ds with
    | some xs => QS ⟨xs, fun _ => true⟩ h1
    | none => False) E := by
  unfold iRange; rw [wp_bnd]; congr 1; funext d h1
  unfold Wp; dsimp only; cases r d <;> rfl
theorem wp_eLc {own : List Nat} {pat : Pat} {it : Env → M Src} {gi : Env → M Bool} {ge : Env → M D} : Wp (eLc own pat it gi ge env) h Q E = Wp (it env) h (fun src h1 => src.xs.length ≤ sizeLine ∧ Wp (lcGo pat gi ge src.ok (wipeE env own) src.xs) h1 (fun ys h2 => Q (.lst ys) h2) E) E := by
  unfold eLc eLcS; rw [wp_bnd, wp_bnd]; congr 1; funext src h1
  unfold Wp; dsimp only
  by_cases z : src.xs.length ≤ sizeLine
  · rw [if_pos z]; simp only [z, true_and]; rfl
  · rw [if_neg z]; simp only [z, false_and]
theorem wp_eGx {stop : D → Bool} {own : List Nat} {pat : Pat} {it : Env → M Src} {gi : Env → M Bool} {ge : Env → M D} : Wp (eGx stop own pat it gi ge env) h QL E = Wp (it env) h (fun src h1 => src.xs.length ≤ sizeLine ∧ Wp (gxGo stop pat gi ge src.ok (wipeE env own) src.xs) h1 QL E) E := by
  unfold eGx; rw [wp_bnd]; congr 1; funext src h1
  unfold Wp; dsimp only
  by_cases z : src.xs.length ≤ sizeLine
  · rw [if_pos z]; simp only [z, true_and]
  · rw [if_neg z]; simp only [z, false_and]
theorem noEx_ok {m : M α} {v : α} {g : AH} (e : m h = .ok v g) : noEx m h = .ok v g := by unfold noEx; rw [e]
variable {γ : Type}
theorem lcGo_map {pat : Pat} {gi : Env → M Bool} {ge : Env → M D} {ok : AH → Bool} (f : γ → D) (p : γ → Bool) (g : γ → D) (hok : ok h = true) : ∀ {xs : List γ}, (∀ x ∈ xs, ∃ env1, pat.put (f x) env = some env1 ∧ gi env1 h = .ok (p x) h ∧ (p x = true → ge env1 h = .ok (g x) h)) →
    lcGo pat gi ge ok env (xs.map f) h = .ok ((xs.filter p).map g) h
  | [], _ => by simp [lcGo, hok]
  | x :: xs, H => by
    obtain ⟨env1, e1, e2, e3⟩ := H x List.mem_cons_self
    have ih := lcGo_map (pat := pat) (gi := gi) (ge := ge) (ok := ok) f p g hok (xs := xs) fun y hy => H y (List.mem_cons_of_mem _ hy)
    simp only [List.map_cons, lcGo, hok, if_true, e1]
    unfold bnd
    rw [noEx_ok e2]
    dsimp only
    cases z : p x with
    | false => simp only [Bool.false_eq_true, if_false, List.filter_cons, z]; exact ih
    | true =>
      simp only [if_true, List.filter_cons, z, List.map_cons]
      rw [noEx_ok (e3 z)]
      dsimp only
      rw [ih]; rfl
theorem gxGo_map {pat : Pat} {gi : Env → M Bool} {ge : Env → M D} {ok : AH → Bool} (f : γ → D) (p : γ → Bool) (g : γ → D) (hok : ok h = true) : ∀ {xs : List γ}, (∀ x ∈ xs, ∃ env1, pat.put (f x) env = some env1 ∧ gi env1 h = .ok (p x) h ∧ (p x = true → ge env1 h = .ok (g x) h)) →
    gxGo (fun _ => false) pat gi ge ok env (xs.map f) h = .ok ((xs.filter p).map g) h
  | [], _ => by simp [gxGo, hok]
  | x :: xs, H => by
    obtain ⟨env1, e1, e2, e3⟩ := H x List.mem_cons_self
    have ih := gxGo_map (pat := pat) (gi := gi) (ge := ge) (ok := ok) f p g hok (xs := xs) fun y hy => H y (List.mem_cons_of_mem _ hy)
    simp only [List.map_cons, gxGo, hok, if_true, e1]
    unfold bnd
    rw [noEx_ok e2]
    dsimp only
    cases z : p x with
    | false => simp only [Bool.false_eq_true, if_false, List.filter_cons, z]; exact ih
    | true =>
      simp only [if_true, List.filter_cons, z, List.map_cons]
      rw [noEx_ok (e3 z)]
      dsimp only
      simp only [Bool.false_eq_true, if_false]
      rw [ih]; rfl
end
end PyD

/-! PyZipL: list(zip(a, b)), a and b lists. -/
namespace PyD
open PySem PySem.Spec L2
open PyProof.Rows hiding St

/-- new pairs one behind another -/
def laidK : List (V × V) → List V → Hp → (List V → Hp → Prop) → Prop
  | [], acc, H, R => R acc H
  | p :: r, acc, H, R => ∀ T, H T = none → laidK r (acc ++ [.ref T]) (upd H T (.tup [p.1, p.2])) R
/-- the zip: not begun, or one of its tuples is out -/
def ZFree (h : Heap) (z TI TO : Addr) : Prop := IsZip h z TI TO .none
def ZHeld (H : Hp) (h : Heap) (z TI TO : Addr) : Prop := ∃ T f vs, IsZipHeld h z TI TO T f ∧ H T = some (.tup vs)
section
variable {X : Cx} {pins : List (Addr × Obj)} {σ : L2.St} {z TI TO i1 i2 l1 l2 S : Addr} {A : Around} {res : Value} {xs ys : List V} {R : Result → Shared → Prop} {K : List V → Hp → Prop}
theorem sq_upd {K0 : PySem.W.Frag} {H : Hp} {a T : Addr} {o : HO} {xs : List V} (h : SqL K0 H a xs) (n : H T = none) : SqL K0 (upd H T o) a xs := by
  rcases h with (h | ⟨u, h⟩) | h
  · exact .inl (.inl (by rw [upd_ne (ne_of_none h n)]; exact h))
  · exact .inl (.inr ⟨u, by rw [upd_ne (ne_of_none h n)]; exact h⟩)
  · exact .inr h
theorem zl_loop (hh : A.handled = none) (D : ZipApart z TI TO i1 i2 l1 l2) (d0 : S ≠ z ∧ S ≠ TI ∧ S ≠ TO ∧ S ≠ i1 ∧ S ≠ i2 ∧ S ≠ l1 ∧ S ≠ l2)
    (hR : ∀ s' H' out acc c, L2.Inv X pins σ H' s' → FpOk X pins H' S → s'.heap.get? S = some { cls := .type "list", data := .seq acc c } → Vals out acc.toList → K out H' → R (.ok (.ret res)) s') :
    ∀ (ps : List (V × V)) (i : Nat) (s : Shared) (H : Hp) (acc : Array Value) (c : Nat) (out : List V), (∀ j p, ps[j]? = some p → xs[i + j]? = some p.1 ∧ ys[i + j]? = some p.2) → (xs.length ≤ i + ps.length ∨ ys.length ≤ i + ps.length) → i + ps.length < sizeLine →
      L2.Inv X pins σ H s → SqL X.K H l1 xs → SqL X.K H l2 ys → (∀ b ∈ [z, TI, TO, i1, i2, S], FpOk X pins H b) → IsPair s.heap TI (.ref i1) (.ref i2) → s.heap.IsListIter i1 l1 i → s.heap.IsListIter i2 l2 i → (∃ a b, IsPair s.heap TO a b) → (ZFree s.heap z TI TO ∨ ZHeld H s.heap z TI TO) →
      s.heap.get? S = some { cls := .type "list", data := .seq acc c } → Vals out acc.toList → acc.size = i → laidK ps out H K → codeAny (model X.prog X.w) A (.builtin "list.extend.loop" ⟨[.ref S, .ref z, res], []⟩) R s
  | [], i, s, H, acc, c, out, hp, he, hz, I, q1, q2, hf, pTI, h1, h2, ⟨a, b, pTO⟩, zs, eS, rv, _, k => by
    obtain ⟨its1, r1, p1, _⟩ := I.list q1
    obtain ⟨its2, r2, p2, _⟩ := I.list q2
    have n1 := r1.length
    have n2 := r2.length
    have hend : its1.toArray[i]? = none ∨ its2.toArray[i]? = none := by
      rcases he with e | e
      · exact .inl (by simp; simp at e; omega)
      · exact .inr (by simp; simp at e; omega)
    have fin : ∀ h', (∀ b o, b ≠ z → b ≠ TO → b ≠ i1 → b ≠ i2 → s.heap.get? b = some o → h'.get? b = some o) → R (.ok (.ret res)) { s with heap := h' } := fun h' hk =>
      hR _ H out acc c (I.turnedL (t' := s.toks) (ch := [z, TI, TO, i1, i2]) (fun b o nb e => hk b o (fun y => nb (by simp [y])) (fun y => nb (by simp [y])) (fun y => nb (by simp [y])) (fun y => nb (by simp [y])) e) fun b hb => hf b (by simp at hb ⊢; rcases hb with y | y | y | y | y <;> simp [y]))
        (hf S (by simp)) (hk S _ d0.1 d0.2.2.1 d0.2.2.2.1 d0.2.2.2.2.1 eS) rv k
    refine codeAny_builtin PySem.F.entry_extend_loop ?_
    rw [Around.under_plainId PySem.F.plain_extend_loop _]
    show wpAny _ A.in1 (pyNext (.ref z) >>= _) _ _ s
    rcases zs with zf | ⟨T, f, vs, zh, hT⟩
    · exact wpAny_bind (wpAny_pyNext_zip_end (A := A.in1) hh D zf pTI pTO h1 h2 p1.isList p2.isList hend fun h' hk => wpAny_pure (fin h' hk))
    · obtain ⟨_, _, _, ⟨oT, eT, _⟩⟩ := I.hok T _ hT
      exact wpAny_bind (wpAny_pyNext_zip_end_held (A := A.in1) hh D zh eT pTI h1 h2 p1.isList p2.isList hend fun h' hk => wpAny_pure (fin h' fun b o c1 _ c3 c4 e => hk b o c1 c3 c4 e))
  | (x, y) :: ps, i, s, H, acc, c, out, hp, he, hz, I, q1, q2, hf, pTI, h1, h2, ⟨a, b, pTO⟩, zs, eS, rv, hac, k => by
    obtain ⟨its1, r1, p1, _⟩ := I.list q1
    obtain ⟨its2, r2, p2, _⟩ := I.list q2
    obtain ⟨hx, hy⟩ := hp 0 (x, y) rfl
    obtain ⟨u1, e1, w1⟩ := r1.get hx
    obtain ⟨u2, e2, w2⟩ := r2.get hy
    have hSl : S < s.heap.objs.size := Heap.lt_size eS
    have next : ∀ h', (∀ b o, b ≠ z → b ≠ TO → b ≠ i1 → b ≠ i2 → s.heap.get? b = some o → h'.get? b = some o) → h'.IsListIter i1 l1 (i + 1) → h'.IsListIter i2 l2 (i + 1) → IsPair h' s.heap.objs.size u1 u2 → (∃ a b, IsPair h' TO a b) →
        (∃ T f, IsZipHeld h' z TI TO T f ∧ ∃ vs, upd H s.heap.objs.size (.tup [x, y]) T = some (.tup vs)) →
        wpAny (model X.prog X.w) A.in1 (updateSeq S (·.push (.ref s.heap.objs.size)) >>= fun _ => again (.builtin "list.extend.loop" ⟨[.ref S, .ref z, res], []⟩)) (fun fin s' => match fin with | .done f => R (.ok f) s' | .again c' => c'.quiet = true ∧ codeAny (model X.prog X.w) A c' R s') (fun e s' => R (.error e) s') { s with heap := h' } := fun h' hk j1 j2 pT ⟨a', b', pTO'⟩ zh => by
      have eS' := hk S _ d0.1 d0.2.2.1 d0.2.2.2.1 d0.2.2.2.2.1 eS
      have up : ∀ b o, b ≠ S → h'.get? b = some o → (h'.update S (Obj.mapSeq (·.push (Value.ref s.heap.objs.size)))).get? b = some o := fun b o hb e => (Heap.get?_update_other _ _ (Ne.symm hb)).trans e
      have hTS : s.heap.objs.size ≠ S := Nat.ne_of_gt hSl
      have pT' := up _ _ hTS pT
      have new : ObjOk X.prog X.w (upd H s.heap.objs.size (.tup [x, y])) (h'.update S (Obj.mapSeq (·.push (Value.ref s.heap.objs.size)))) s.heap.objs.size (.tup [x, y]) :=
        ⟨by show 2 ≤ sizeLine; decide, [u1, u2], .cons w1 (.cons w2 .nil), ⟨_, pT', rfl, _, rfl⟩⟩
      have hn : H s.heap.objs.size = none := I.hok.fresh (Nat.le_refl _)
      have I1 : L2.Inv X pins σ (upd H s.heap.objs.size (.tup [x, y])) { s with heap := h'.update S (Obj.mapSeq (·.push (Value.ref s.heap.objs.size))) } :=
        I.turnedNew (t' := s.toks) (ch := [z, TI, TO, i1, i2, S]) (fun b o nb e => up b o (fun q => nb (by simp [q])) (hk b o (fun q => nb (by simp [q])) (fun q => nb (by simp [q])) (fun q => nb (by simp [q])) (fun q => nb (by simp [q])) e)) hf (Nat.le_refl _) new
      refine wpAny_bind ?_
      refine wpAny_updateSeq eS' rfl (wpAny_pure ⟨plainId_quiet PySem.F.plain_extend_loop _, ?_⟩) (by have := hz; rw [hac]; simp at this; omega) (by show (acc.push _).size ≤ sizeLine + 1; rw [Array.size_push, hac]; simp at hz; omega)
      obtain ⟨T, f, zh1, vs, zh2⟩ := zh
      refine zl_loop hh D d0 hR ps (i + 1) _ _ (acc.push (.ref s.heap.objs.size)) _ (out ++ [.ref s.heap.objs.size]) (fun j p e => ?_) (by simp at he ⊢; omega) (by simp at hz; omega) I1 (sq_upd q1 hn) (sq_upd q2 hn) (fun b hb => ?_) ?_ ?_ ?_ ⟨a', b', up _ _ d0.2.2.1.symm pTO'⟩ (.inr ⟨T, f, vs, up _ _ d0.1.symm zh1, zh2⟩) (Heap.get?_update_self _ eS' rfl) ?_ (by rw [Array.size_push, hac]) (k _ hn)
      · have := hp (j + 1) p (by simpa using e)
        rw [show i + 1 + j = i + (j + 1) by omega]
        exact this
      · have hb' := hf b hb
        have lt : b < s.heap.objs.size := by
          obtain ⟨o1, g1, _⟩ := h1
          obtain ⟨o2, g2, _⟩ := h2
          have gz : z < s.heap.objs.size ∧ TO < s.heap.objs.size := by
            rcases zs with zf | ⟨T', f', vs', zh', hT'⟩
            · exact ⟨Heap.lt_size zf, Heap.lt_size pTO⟩
            · exact ⟨Heap.lt_size zh', Heap.lt_size pTO⟩
          simp at hb
          rcases hb with q | q | q | q | q | q
          · rw [q]; exact gz.1
          · rw [q]; exact Heap.lt_size pTI
          · rw [q]; exact gz.2
          · rw [q]; exact Heap.lt_size g1
          · rw [q]; exact Heap.lt_size g2
          · rw [q]; exact hSl
        exact ⟨by rw [upd_ne (Nat.ne_of_lt lt)]; exact hb'.1, hb'.2⟩
      · exact up _ _ d0.2.1.symm (hk TI _ D.TIz D.TITO D.TIi1 D.TIi2 pTI)
      · exact j1.at fun o e => up i1 o d0.2.2.2.1.symm e
      · exact j2.at fun o e => up i2 o d0.2.2.2.2.1.symm e
      · rw [Array.toList_push]
        exact rv.append (.cons rfl .nil)
    refine codeAny_builtin PySem.F.entry_extend_loop ?_
    rw [Around.under_plainId PySem.F.plain_extend_loop _]
    show wpAny _ A.in1 (pyNext (.ref z) >>= _) _ _ s
    rcases zs with zf | ⟨T, f, vs, zh, hT⟩
    · exact wpAny_bind (wpAny_pyNext_zip_item (A := A.in1) D zf pTI pTO h1 h2 p1.isList p2.isList (x := u1) (y := u2) (by simpa using e1) (by simpa using e2) fun h' g1 g2 g3 g4 g5 _ hk => next h' hk g3 g4 g5 ⟨_, _, g2⟩ ⟨_, false, g1, _, upd_same⟩)
    · obtain ⟨_, _, _, ⟨oT, eT, _⟩⟩ := I.hok T _ hT
      exact wpAny_bind (wpAny_pyNext_zip_item_held (A := A.in1) D zh eT pTI h1 h2 p1.isList p2.isList (x := u1) (y := u2) (by simpa using e1) (by simpa using e2) fun h' g1 g3 g4 g5 _ hk => next h' (fun b o c1 _ c3 c4 e => hk b o c1 c3 c4 e) g3 g4 g5 ⟨a, b, hk TO _ D.TOz D.TOi1 D.TOi2 pTO⟩ ⟨T, true, g1, vs, by rw [upd_ne (ne_of_none hT (I.hok.fresh (Nat.le_refl _)))]; exact hT⟩)
/-- a young thing of ours is told from now on -/
theorem inv_track {H : Hp} {s : Shared} {ob : HO} (I : L2.Inv X pins σ H s) (hf : FpOk X pins H S) (new : ObjOk X.prog X.w (upd H S ob) s.heap S ob) : L2.Inv X pins σ (upd H S ob) s := by
  obtain ⟨hn, f2, f3, f4, f5, f6⟩ := hf
  refine I.step (h' := s.heap) (g' := s.gens) (t' := s.toks) (d' := s.drawn) (ch := [S]) (fun b hb => ?_) (fun b o _ _ _ e _ => e) (fun b o _ _ _ e _ => ⟨o.slots, e⟩) (fun b o hb _ n => ?_) (fun b o _ e => ⟨o, e⟩) (fun b xs e => ?_) (fun b o u e => ?_) (fun b ps e => ⟨#[], ?_⟩) (fun m hm => hm) (fun b u e => ?_) I.bare
  · rw [List.mem_singleton.mp hb]
    exact ⟨f4, f2, f5, f6⟩
  · rw [upd_ne (fun q => hb (List.mem_singleton.mpr q))]; exact n
  · rw [upd_ne (ne_of_none e hn)]; exact e
  · rw [upd_ne (ne_of_none e hn)]; exact e
  · rw [upd_ne (ne_of_none e hn), e]; simp
  · by_cases hb : b = S
    · subst hb
      rw [upd_same] at e
      cases e
      exact new
    · rw [upd_ne hb] at e
      exact (I.hok b u e).stay (fun _ _ _ q => q) (fun c q => by rw [upd_ne (ne_of_none q hn)]; exact q) fun c xs q => by rw [upd_ne (ne_of_none q hn)]; exact q
theorem zip_no_len : typeLookup (.type "zip") "__len__" = pure none := am_miss_of_fast (by decide +kernel)
theorem zip_no_hint : typeLookup (.type "zip") "__length_hint__" = pure none := am_miss_of_fast (by decide +kernel)
/-- list(z), z a zip just made of the lists at l1 and l2 -/
theorem call_listzip {E : Value → Shared → Prop} {s : Shared} {H : Hp} {Q : Value → Shared → Prop} (hh : A.handled = none) (D : ZipApart z TI TO i1 i2 l1 l2) (I : L2.Inv X pins σ H s) (q1 : SqL X.K H l1 xs) (q2 : SqL X.K H l2 ys) (hz : min xs.length ys.length < sizeLine)
    (hf : ∀ b ∈ [z, TI, TO, i1, i2], FpOk X pins H b) (hl : l1 < s.heap.objs.size ∧ l2 < s.heap.objs.size) (zf : IsZip s.heap z TI TO .none) (pTI : IsPair s.heap TI (.ref i1) (.ref i2)) (pTO : ∃ a b, IsPair s.heap TO a b) (h1 : s.heap.IsListIter i1 l1 0) (h2 : s.heap.IsListIter i2 l2 0)
    (hQ : ∀ S s' H' out acc c, L2.Inv X pins σ H' s' → FpOk X pins H' S → s'.heap.get? S = some { cls := .type "list", data := .seq acc c } → Vals out acc.toList → K out H' → Q (.ref S) s') (k : laidK (xs.zip ys) [] H K) :
    wpAny (model X.prog X.w) A (call (.type "list") [.ref z]) Q E s := by
  have hS0 : s.heap.objs.size ≠ z := Nat.ne_of_gt (Heap.lt_size zf)
  refine callType_codes (Q₁ := fun obj s₁ => obj = .ref s.heap.objs.size ∧ s₁ = { s with heap := s.heap.push { cls := .type "list", data := .seq #[] } }) PySem.F.called_list (PySem.F.typeCall_list_1 _) PySem.F.entry_list_init (code_list_new _ ⟨rfl, rfl⟩) fun obj s₁ h₁ => ?_
  obtain ⟨rfl, rfl⟩ := h₁
  have hS : (s.heap.push { cls := .type "list", data := .seq #[] }).get? s.heap.objs.size = some { cls := .type "list", data := .seq #[] } := Heap.get?_push_size _ rfl
  refine ⟨⟨_, hS, rfl⟩, PySem.F.args_list_init_2 _ _, ?_⟩
  have up : ∀ (h : Heap) (f : Obj → Obj), (∀ b o, s.heap.get? b = some o → h.get? b = some o) → ∀ b o, s.heap.get? b = some o → (h.update s.heap.objs.size f).get? b = some o := fun h f q b o e =>
    (Heap.get?_update_other _ _ (Nat.ne_of_gt (Heap.lt_size e))).trans (q b o e)
  have k1 : ∀ b o, s.heap.get? b = some o → (s.heap.push { cls := .type "list", data := .seq #[] }).get? b = some o := fun b o e => Heap.get?_push_of_some _ e
  have zty : ∀ (h : Heap), (∀ b o, s.heap.get? b = some o → h.get? b = some o) → Shared.TypeIs { s with heap := h } (.ref z) "zip" := fun h q => ⟨_, q z _ zf, rfl⟩
  show wpAny _ A.in1.in1 (do let old ← Builtin.List.listItems (.ref s.heap.objs.size); Builtin.List.listUpdate (.ref s.heap.objs.size) (fun _ => #[]); letGo old.toList.reverse; Builtin.List.listExtendWith (.ref s.heap.objs.size) (.ref z) .none) _ _ _
  refine wpAny_bind ?_
  unfold Builtin.List.listItems
  refine wpAny_bind (wpAny_seqItems hS rfl (wpAny_pure ?_))
  show wpAny _ A.in1.in1 (updateSeq s.heap.objs.size (fun _ => #[]) >>= fun _ => letGo (#[] : Array Value).toList.reverse >>= fun _ => Builtin.List.listExtendWith (.ref s.heap.objs.size) (.ref z) .none) _ _ _
  refine wpAny_bind (wpAny_updateSeq hS rfl ?_)
  have hS2 := Heap.get?_update_self (Obj.mapSeq (fun _ => (#[] : Array Value))) hS rfl
  have k2 := up _ (Obj.mapSeq (fun _ => (#[] : Array Value))) k1
  refine wpAny_bind (wpAny_letGo ?_)
  unfold Builtin.List.listExtendWith
  refine wpAny_bind (wpAny_typeOf (zty _ k2) ?_)
  have n1 : Builtin.List.listSameRef (.ref s.heap.objs.size) (.ref z) = false := by simp [Builtin.List.listSameRef, hS0]
  have n2 : (Value.type "zip" == Value.type "list") = false := by decide
  have n3 : (Value.type "zip" == Value.type "tuple") = false := by decide
  simp only [n1, n2, n3, Bool.or_false, Bool.false_eq_true, if_false]
  refine wpAny_bind (wpAny_pyIter_zip (s := { s with heap := _ }) (k2 z _ zf) ?_)
  refine wpAny_bind (wpAny_holding ?_)
  unfold Builtin.List.listLengthHint
  refine wpAny_bind (wpAny_specialOf (zty _ k2) zip_no_len ?_)
  show wpAny _ A.in1.in1 (specialOf (Value.ref z) (Str.ofString "__length_hint__") >>= _) _ _ _
  refine wpAny_bind (wpAny_specialOf (zty _ k2) zip_no_hint ?_)
  refine wpAny_pure ?_
  show wpAny _ A.in1.in1 (rule "list.extend.makes-room" >>= fun _ => Builtin.List.listTouch (.ref s.heap.objs.size) >>= fun _ => again (.builtin "list.extend.loop" ⟨[.ref s.heap.objs.size, .ref z, .none], []⟩)) _ _ _
  refine wpAny_bind (wpAny_rule ?_)
  refine wpAny_bind ?_
  show wpAny _ A.in1.in1 (updateSeq s.heap.objs.size (·.push .none) >>= fun _ => updateSeq s.heap.objs.size (·.pop)) _ _ _
  refine wpAny_bind (wpAny_updateSeq hS2 rfl ?_)
  have hS3 := Heap.get?_update_self (Obj.mapSeq (·.push Value.none)) hS2 rfl
  refine wpAny_updateSeq (hz := by seq_fits) hS3 rfl ?_
  have hS4 := Heap.get?_update_self (Obj.mapSeq (·.pop)) hS3 rfl
  have k4 := up _ (Obj.mapSeq (·.pop)) (up _ (Obj.mapSeq (·.push Value.none)) k2)
  refine wpAny_pure ⟨plainId_quiet PySem.F.plain_extend_loop _, ?_⟩
  have lz := Heap.lt_size zf
  have lTI := Heap.lt_size pTI
  obtain ⟨a, b, pTO⟩ := pTO
  have lTO := Heap.lt_size pTO
  have li1 : i1 < s.heap.objs.size := let ⟨_, e, _⟩ := h1; Heap.lt_size e
  have li2 : i2 < s.heap.objs.size := let ⟨_, e, _⟩ := h2; Heap.lt_size e
  refine zl_loop (A := A.in1) (R := _) hh D ⟨Nat.ne_of_gt lz, Nat.ne_of_gt lTI, Nat.ne_of_gt lTO, Nat.ne_of_gt li1, Nat.ne_of_gt li2, Nat.ne_of_gt hl.1, Nat.ne_of_gt hl.2⟩ (fun s' H' out acc c I' f' e' rv' k' => ⟨rfl, hQ _ s' H' out acc c I' f' e' rv' k'⟩) (xs.zip ys) 0 _ H #[] _ [] (fun j p e => ?_) ?_ ?_
    (I.kept (t' := s.toks) k4) q1 q2 (fun b hb => ?_) (k4 _ _ pTI) (h1.at fun o e => k4 _ o e) (h2.at fun o e => k4 _ o e) ⟨a, b, k4 _ _ pTO⟩ (.inl (k4 _ _ zf)) hS4 .nil rfl k
  · rw [Nat.zero_add]
    rw [List.getElem?_zip_eq_some] at e
    exact e
  · rw [List.length_zip]; omega
  · rw [List.length_zip]; omega
  · simp only [List.mem_cons, List.not_mem_nil, or_false] at hb
    rcases hb with q | q | q | q | q | q
    · rw [q]; exact hf z (by simp)
    · rw [q]; exact hf TI (by simp)
    · rw [q]; exact hf TO (by simp)
    · rw [q]; exact hf i1 (by simp)
    · rw [q]; exact hf i2 (by simp)
    · rw [q]; exact I.fpOk (Nat.le_refl _) (I.hok.fresh (Nat.le_refl _))
end
section
variable {X : Cx} {P : Pm} {W : WXT}
theorem laid_mono {R R' : List V → Hp → Prop} (h : ∀ a H, R a H → R' a H) : ∀ (ps : List (V × V)) (acc : List V) (H : Hp), laidK ps acc H R → laidK ps acc H R'
  | [], acc, H, k => h acc H k
  | p :: ps, acc, H, k => fun T hT => laid_mono h ps _ _ (k T hT)
/-- pairs of data -/
def pairD (xs ys : List D) : List D := List.zipWith (fun a b => .tup [a, b]) xs ys
theorem laid_ok {ι : Pl} {ah : AH} : ∀ {xs ys : List D} {vs ws : List V} {H : Hp} {ac : List D} {acc : List V}, HRep P ι ah H → RepVs P.K ah.length ι H xs vs → RepVs P.K ah.length ι H ys ws → RepVs P.K ah.length ι H ac acc →
    laidK (vs.zip ws) acc H (fun out H2 => Ext ah.length ι H ah.length ι H2 ∧ HRep P ι ah H2 ∧ RepVs P.K ah.length ι H2 (ac ++ pairD xs ys) out)
  | [], ys, vs, ws, H, ac, acc, hr, r1, r2, ra => by
    simp only [RepVs] at r1
    subst r1
    exact ⟨Ext.refl, hr, by simpa [pairD] using ra⟩
  | x :: xs, [], vs, ws, H, ac, acc, hr, r1, r2, ra => by
    simp only [RepVs] at r2
    subst r2
    rw [List.zip_nil_right]
    exact ⟨Ext.refl, hr, by simpa [pairD] using ra⟩
  | x :: xs, y :: ys, vs, ws, H, ac, acc, hr, r1, r2, ra => by
    simp only [RepVs] at r1 r2
    obtain ⟨v, vr, rfl, a1, a2⟩ := r1
    obtain ⟨w, wr, rfl, b1, b2⟩ := r2
    intro T hT
    have e := Ext.fresh (o := .tup [v, w]) hr hT
    have hr' := hr.fresh (o := .tup [v, w]) hT
    have m : ∀ {ds us}, RepVs P.K ah.length ι H ds us → RepVs P.K ah.length ι (upd H T (.tup [v, w])) ds us := fun z => RepVs.mono e.toEx0 hr.notup _ _ z
    have pr : RepVs P.K ah.length ι H [x, y] [v, w] := by
      simp only [RepVs]
      exact ⟨v, [w], rfl, a1, w, [], rfl, b1, rfl⟩
    have one : RepV P.K ah.length ι (upd H T (.tup [v, w])) (.tup [x, y]) (.ref T) := rep_tup hr.notup hT pr
    have := laid_ok (ac := ac ++ [.tup [x, y]]) (acc := acc ++ [.ref T]) hr' (m a2) (m b2) ((m ra).append (RepVs.one one))
    refine laid_mono (fun a H2 ⟨e2, h2, r2⟩ => ⟨e.trans e2, h2, ?_⟩) _ _ _ this
    simpa [pairD] using r2
def eLzip (g : Env → M (List D)) : Env → M D := fun env => bnd (g env) fun ds h => match ds with
  | [x, y] => match sqOf h x, sqOf h y with
    | .seq true xs, .seq true ys => if min xs.length ys.length < sizeLine then .ok (.lst (pairD xs ys)) h else .bad
    | _, _ => .bad
  | _ => .bad
variable {e1 e2 : Expr} {g : Env → M (List D)} {p p2 pos pos2 : Pos}
theorem de_listZip (c : Ctx X P W) (hg : Gl X "list") (hm : X.mg "list" = none) (hg2 : Gl X "zip") (hm2 : X.mg "zip" = none) (ha : DA X P W [e1, e2] g) (hv : bootBuiltins "list" = some (.type "list") := by rfl)
    (hs : starEach [.Call (.Name "zip" p2) [e1, e2] [] pos2] X.env = (false, eval (.Call (.Name "zip" p2) [e1, e2] [] pos2) X.env) :: starEach [] X.env := by rfl)
    (hs2 : starEach [e1, e2] X.env = (false, eval e1 X.env) :: starEach [e2] X.env := by rfl) (hpl : (backTo pos2 (starEach [e2] X.env)).any (·.1) = false := by rfl) :
    DE X P W (.Call (.Name "list" p) [.Call (.Name "zip" p2) [e1, e2] [] pos2] [] pos) (eLzip g) := by
  obtain ⟨⟨K0, lm0, lq0⟩, cl0, tb0⟩ := P
  obtain rfl : K0 = X.K := c.k
  refine ⟨fun pins s σ H Q I ⟨ι, ah, env, st, q⟩ => ?_⟩
  refine wpAny_Call_Name_kw (ld_blt I hg hm hv ?_)
  refine PyProof.Rows.callWith_type1 ?_ hs rfl
  rw [hs]
  show wpAny _ _ (spliced ((false, eval (.Call (.Name "zip" p2) [e1, e2] [] pos2) X.env) :: backTo pos (starEach [] X.env))) _ _ s
  refine Calls.spliced_cons ?_
  refine wpAny_Call_Name_kw (ld_blt I hg2 hm2 PyProof.Rows.boot_zip ?_)
  refine PyProof.Rows.callWith_type1 (thn (ha.run pos2 pins s σ H _ I ⟨ι, ah, env, st, q.step (Rp := rVs _)⟩) fun us s1 ⟨vs, H1, I1, r1, ι1, ah1, ds, x1, hr1, rp1, q1⟩ => ?_) hs2 hpl
  match ds, rp1, q1 with
  | [], _, q1 => exact q1.elim
  | [_], _, q1 => exact q1.elim
  | _ :: _ :: _ :: _, _, q1 => exact q1.elim
  | [x, y], rp1, q1 =>
    obtain ⟨v, w, rfl, pv, pw⟩ := rep2 rp1
    dsimp only at q1
    split at q1
    case h_2 => exact q1.elim
    rename_i xs ys ex ey
    split at q1
    case isFalse => exact q1.elim
    rename_i hz
    obtain ⟨a, vs, rfl, hsa, ra⟩ := sq_seq hr1 pv ex
    obtain ⟨b, ws, rfl, hsb, rb⟩ := sq_seq hr1 pw ey
    cases r1 with
    | cons z1 rr =>
      cases rr with
      | cons z2 rr =>
        cases rr
        cases z1
        cases z2
        obtain ⟨its, rv, t1, _⟩ := I1.list hsa
        obtain ⟨its2, rv2, t2, _⟩ := I1.list hsb
        have la : a < s1.heap.objs.size := t1.lt
        have lb : b < s1.heap.objs.size := t2.lt
        refine call_zip_2 t1.isList t2.isList fun h' gz gTI gTO g1 g2 hsz hk => ?_
        refine Calls.spliced_nil ?_
        have I2 : L2.Inv X pins σ H1 { s1 with heap := h' } := I1.kept (t' := s1.toks) hk
        refine call_listzip (xs := vs) (ys := ws) (H := H1) (I.ok.hd c.calm) (PySem.W.ktu_apart s1.heap.objs.size a b la lb) I2 hsa hsb (by rw [ra.length, rb.length]; exact hz) (fun d hd => ?_) ⟨Nat.lt_of_lt_of_le la (by rw [hsz]; exact Nat.le_add_right _ _), Nat.lt_of_lt_of_le lb (by rw [hsz]; exact Nat.le_add_right _ _)⟩ gz gTI ⟨_, _, gTO⟩ g1 g2
          (fun S s' H' out acc cc I' f' e' rv' k' => ?_) (laid_ok (xs := xs) (ys := ys) (ac := []) hr1 ra rb (by simp only [RepVs]))
        · have hle : s1.heap.objs.size ≤ d := by
            simp only [List.mem_cons, List.not_mem_nil, or_false] at hd
            rcases hd with y | y | y | y | y <;> rw [y] <;> first | exact Nat.le_refl _ | exact Nat.le_add_right _ _
          exact I1.fpOk hle (I1.hok.fresh hle)
        · obtain ⟨x2, h2, r2⟩ := k'
          have hlen : out.length ≤ sizeLine := by
            rw [r2.length]
            simp only [List.nil_append, pairD, List.length_zipWith]
            omega
          have IT := inv_track (ob := .lst out) I' f' ⟨hlen, acc.toList, cc, rv', by rw [e']⟩
          refine ⟨.ref S, _, IT, rfl, ?_⟩
          exact q1 ι1 _ _ (x2.trans (Ext.fresh h2 f'.1)) (h2.fresh f'.1) (rep_lst h2 f'.1 r2)
end
end PyD

/-! PyMore: name += e, d.get(k, x), tuples of the module. -/
namespace PyD
open PySem PySem.Spec L2
open PyProof.Rows hiding St

section
variable {X : Cx} {P : Pm} {W : WXT} {e o a b : Expr} {f fo fk fx : Env → M D} {pos : Pos}
/-! ### name += e -/
def augD (ah : AH) (x y : D) : Option (D × AH) := match x with
  | .int i => match y with
    | .int j => some (.int (i + j), ah)
    | _ => none
  | .str i => match y with
    | .str j => if sOk (i ++ j) then some (.str (i ++ j), ah) else none
    | _ => none
  | .obj n => match ah[n]? with
    | some (.lst xs) => match y with
      | .lst ys => if xs.length + ys.length ≤ sizeLine then some (.obj n, ah.set n (.lst (xs ++ ys))) else none
      | _ => none
    | _ => none
  | _ => none
def sAug (i : Nat) (f : Env → M D) : Env → M Fl := fun env => match env[i]? with
  | some (some x) => bnd (f env) fun y h => match augD h x y with
    | some (d, h') => .ok (.nx (env.set i (some d))) h'
    | none => .bad
  | _ => stuck
theorem ip_both : PIp X .Add (fun x y H Q => ipI (fun i j => i + j) x y H Q ∨ rExt2 x y H Q ∨ ∃ i j, x = .str i ∧ y = .str j ∧ i.length + j.length ≤ sizeLine ∧ Q (.str (i ++ j)) H) := by
  intro pins s σ H x y v u Q I r1 r2 h
  rcases h with h | h | h
  · exact ip_add pins s σ H x y v u Q I r1 r2 h
  · exact iop_ext pins s σ H x y v u Q I r1 r2 h
  · exact iop_add_str pins s σ H x y v u Q I r1 r2 h
theorem ds_aug {i : Nat} {x : Str} {pos' : Pos} (c : Ctx X P W) (hi : X.N[i]? = some x) (hx : Loc X.env.scope x) (he : DE X P W e f) (hf : X.fn x = true ∨ X.env.scope.names.lookup x = some .local := by first | exact .inl rfl | exact .inr rfl | assumption) :
    DS X P W (.AugAssign (.Name x pos') .Add e pos) (sAug i f) := weakS (ps_aug c.nd hi hx he ip_both hf) fun E σ H ⟨ι, ah, env, st, q⟩ => by
  unfold sAug at q
  cases e0 : env[i]? with
  | none => rw [e0] at q; exact q.elim
  | some o =>
    cases o with
    | none => rw [e0] at q; exact q.elim
    | some d =>
      rw [e0] at q
      obtain ⟨v, h1, h2⟩ := st.env.2 i d e0
      refine ⟨v, h1, ι, ah, env, st, (q.stepE (Rp := rV P)).imp fun y H1 ⟨ι1, ah1, d1, x1, hr1, p1, q1⟩ => ?_⟩
      have p0 := h2.mono x1.toEx0 st.hp.notup
      cases ea : augD ah1 d d1 with
      | none => rw [ea] at q1; exact q1.elim
      | some r =>
        rw [ea] at q1
        unfold augD at ea
        split at ea
        · split at ea
          · cases ea
            simp only [rV, RepV] at p0 p1
            subst p0 p1
            exact .inl ⟨_, _, rfl, rfl, q1 ι1 _ _ Ext.refl ⟨hr1, (st.next x1 hr1).env.set (by simp only [RepV]) i⟩⟩
          · cases ea
        · split at ea
          · split at ea
            · rename_i hz
              cases ea
              simp only [rV, RepV] at p0 p1
              obtain ⟨rfl, _⟩ := p0
              obtain ⟨rfl, _⟩ := p1
              exact .inr (.inr ⟨_, _, rfl, rfl, by rw [← length_append]; exact (sOk_iff.mp hz).2, q1 ι1 _ _ Ext.refl ⟨hr1, (st.next x1 hr1).env.set (by simp only [RepV]; exact ⟨trivial, hz⟩) i⟩⟩)
            · cases ea
          · cases ea
        · rename_i n _
          simp only [RepV] at p0
          obtain ⟨hn, rfl⟩ := p0
          split at ea
          · rename_i xs eo
            obtain ⟨vs, a1, r1⟩ := hr1.at_ n _ eo
            split at ea
            · rename_i ys
              split at ea
              · rename_i hz
                cases ea
                simp only [rV, RepV] at p1
                obtain ⟨b, ws, rfl, b1, b2, r2⟩ := p1
                have hw := hr1.write (o := .lst (vs ++ ws)) (u := .lst (xs ++ ys)) hn ⟨vs ++ ws, upd_same, RepVs.mono (Ex0.write hn) hr1.notup _ _ (r1.append r2)⟩
                have hx' := Ext.write (o := .lst (vs ++ ws)) hr1 hn
                refine .inr (.inl ⟨_, _, vs, ws, rfl, rfl, a1, b1, by rw [r1.length, r2.length]; exact hz, q1 ι1 _ _ ?_ ?_⟩)
                · rw [List.length_set]; exact hx'
                · have st1 := (st.next x1 hr1).next (ah' := ah1.set n (.lst (xs ++ ys))) (by rw [List.length_set]; exact hx') hw
                  refine ⟨hw, st1.env.set ?_ i⟩
                  simp only [RepV]
                  exact ⟨by rw [List.length_set]; exact hn, trivial⟩
              · cases ea
            · cases ea
          · cases ea
        · cases ea
/-! ### d.get(k, x) -/
def getD2 (ah : AH) (o k x : D) : Option D := match sqOf ah o with
  | .map kvs => if isKey k then some ((lookD kvs k).getD x) else none
  | _ => none
def isMapO (ah : AH) (d : D) : Bool := match sqOf ah d with
  | .map _ => true
  | _ => false
def eGet2 (fo fk fx : Env → M D) : Env → M D := fun env => bnd (fo env) fun o h => if isMapO h o then bnd (fk env) (fun k => bnd (fx env) fun x h => match getD2 h o k x with
  | some d => .ok d h
  | none => .bad) h else .bad
theorem de_get2 {apos cpos : Pos} (c : Ctx X P W) (ho : DE X P W o fo) (hk : DE X P W a fk) (hx : DE X P W b fx) (m : M2 X o "get" apos a b cpos) : DE X P W (.Call (.Attribute o "get" apos) [a, b] [] cpos) (eGet2 fo fk fx) := by
  obtain ⟨⟨K0, lm0, lq0⟩, cl0, tb0⟩ := P
  obtain rfl : K0 = X.K := c.k
  exact weakE (pe_dget2 (by have := c.un; omega) ho hk hx m) fun σ H Q ⟨ι, ah, env, st, q⟩ => ⟨ι, ah, env, st, (q.step (Rp := rV _)).imp fun v H1 ⟨ι1, ah1, d1, x1, hr1, p1, q1⟩ => by
    split at q1
    case isFalse => exact q1.elim
    rename_i hm
    have : ∃ kvs, sqOf ah1 d1 = .map kvs := by
      unfold isMapO at hm
      split at hm
      · rename_i kvs e; exact ⟨kvs, e⟩
      · cases hm
    obtain ⟨kvs, es⟩ := this
    obtain ⟨p, lk, kv', rfl, h1, r⟩ := sq_map hr1 p1 es
    obtain ⟨ks, hrd, rfl⟩ := h1.rd
    refine ⟨p, rfl, .inl ⟨ks, hrd⟩, ι1, ah1, env, st.next x1 hr1, (q1.step (Rp := rV _)).imp fun y H2 ⟨ι2, ah2, d2, x2, hr2, p2, q2⟩ => ⟨ι2, ah2, env, (st.next x1 hr1).next x2 hr2, (q2.step (Rp := rV _)).imp fun z H3 ⟨ι3, ah3, d3, x3, hr3, p3, q3⟩ => ?_⟩⟩
    have p1' := (p1.mono x2.toEx0 hr1.notup).mono x3.toEx0 hr2.notup
    cases e : getD2 ah3 d1 d2 d3 with
    | none => rw [e] at q3; exact q3.elim
    | some d =>
      rw [e] at q3
      unfold getD2 at e
      split at e
      · rename_i kvs' es'
        split at e
        · rename_i hkey
          cases e
          obtain ⟨k', rfl⟩ := kD_key hkey
          have := rep_key p2
          subst this
          obtain ⟨p', lk', kv2, e', h2, r2⟩ := sq_map hr3 p1' es'
          cases e'
          obtain ⟨ks2, hrd2, rfl⟩ := h2.rd
          rcases look_rep (k := k') r2 with ⟨e1, e2⟩ | ⟨d', v', e1, e2, rv⟩
          · rw [e1] at q3
            exact ⟨none, .inl ⟨ks2, k', hrd2, rfl, e2.symm⟩, q3 ι3 H3 z Ext.refl hr3 p3⟩
          · rw [e1] at q3
            exact ⟨some v', .inl ⟨ks2, k', hrd2, rfl, e2.symm⟩, q3 ι3 H3 v' Ext.refl hr3 rv⟩
        · cases e
      · cases e⟩
end
end PyD

/-! PyLib: lemmas for the mathematics of the laws. -/
namespace PyD
open PySem PySem.Spec L2
open PyProof.Rows hiding St
section
variable {h : AH} {env : Env} {k : Nat} {a b m v : Int} {t : AH}
def dice (a b m : Int) : O := .lst [.int a, .int b, .int m]
theorem py_int (ah : AH) (i : Int) : py ah (.int i) = some (.int i) := by simp [py, pyD]
theorem eqv_int (i j : Int) : eqvIf (.int i) (.int j) = some (i == j) := by simp [eqvIf, PyData.depth, PyData.eqv]
theorem opEq_int (ah : AH) (i j : Int) : opEq ah (.int i) (.int j) = some (.bl (i == j)) := by simp [opEq, py_int, eqv_int]
theorem ixd0 : ixD (dice a b m :: t) (.obj 0) (.int 0) = some (.int a) := rfl
theorem ixd1 : ixD (dice a b m :: t) (.obj 0) (.int 1) = some (.int b) := rfl
theorem ixd2 : ixD (dice a b m :: t) (.obj 0) (.int 2) = some (.int m) := rfl
theorem put0 : putIx (dice a b m :: t) (.obj 0) (.int 0) (.int v) = some (dice v b m :: t) := rfl
theorem put1 : putIx (dice a b m :: t) (.obj 0) (.int 1) (.int v) = some (dice a v m :: t) := rfl
theorem put2 : putIx (dice a b m :: t) (.obj 0) (.int 2) (.int v) = some (dice a b v :: t) := rfl
theorem opAdd_int (ah : AH) (i j : Int) : opAdd ah (.int i) (.int j) = some (.int (i + j)) := rfl
theorem opSub_int (ah : AH) (i j : Int) : opSub ah (.int i) (.int j) = some (.int (i - j)) := rfl
theorem opCmp_int (p : Int → Int → Bool) (ah : AH) (i j : Int) : opCmp p ah (.int i) (.int j) = some (.bl (p i j)) := rfl
theorem opMul_lit (ah : AH) (i : Int) (j : Int) (h : j.natAbs < 2 ^ 64) : opMul ah (.int i) (.int j) = some (.int (i * j)) := by
  have z : mulFits i j = true := by unfold mulFits; simp [h]
  simp only [opMul, z, if_true]
theorem opMod_pos (ah : AH) (i j : Int) (h : 0 < j) : opMod ah (.int i) (.int j) = some (.int (i % j)) := by simp only [opMod]; rw [if_pos h]
theorem opFdiv_pos (ah : AH) (i j : Int) (h : 0 < j) (h2 : j < 2 ^ 64) : opFdiv ah (.int i) (.int j) = some (.int (i / j)) := by
  simp only [opFdiv]; rw [if_pos]
  refine ⟨h, ?_⟩
  have h3 : j.natAbs < 2 ^ 64 := by omega
  have h4 : j.natAbs ≠ 0 := by omega
  have := (Nat.log2_lt h4).mpr h3
  omega
theorem opInt_int (ah : AH) (i : Int) : opInt ah [.int i] = some (.int i) := rfl
theorem put_nm (i : Nat) (d : D) (env : Env) : (Pat.nm i).put d env = some (env.set i (some d)) := rfl
theorem filter_tt {α : Type} (l : List α) : l.filter (fun _ => true) = l := List.filter_eq_self.mpr fun _ _ => rfl
theorem src_lst {h : AH} {xs : List D} : srcSeq h (.lst xs) = some ⟨xs, fun _ => true⟩ := rfl
theorem opMul_l (ah : AH) (i j : Int) (h : i.natAbs < 2 ^ 64) : opMul ah (.int i) (.int j) = some (.int (i * j)) := by
  have z : mulFits i j = true := by unfold mulFits; simp [h]
  simp only [opMul, z, if_true]
theorem put_tp2 {i j : Nat} {x y : D} {env : Env} : (Pat.tp [.nm i, .nm j]).put (.tup [x, y]) env = some ((env.set i (some x)).set j (some y)) := rfl
theorem put_tp3 {i j l : Nat} {x y z : D} {env : Env} : (Pat.tp [.nm i, .nm j, .nm l]).put (.tup [x, y, z]) env = some (((env.set i (some x)).set j (some y)).set l (some z)) := rfl
theorem opMax2_int (ah : AH) (i j : Int) : opMax2 ah [.int i, .int j] = some (.int (max i j)) := by
  simp only [opMax2]
  congr 2
  split <;> omega
theorem opMin2_int (ah : AH) (i j : Int) : opMin2 ah [.int i, .int j] = some (.int (min i j)) := by
  simp only [opMin2]
  congr 2
  split <;> omega
theorem opNe_same {ah : AH} {a b : D} {pd : PyData} (h1 : py ah a = some pd) (h2 : py ah b = some pd) (hd : pd.depth ≤ 60) (hr : PyData.eqv pd pd = true) : opNe ah a b = some (.bl false) := by
  have : min pd.depth pd.depth ≤ 60 := by omega
  simp only [opNe, h1, h2, eqvIf, this, if_true, hr, Option.map, Bool.not_true]
theorem opEq_same {ah : AH} {a b : D} {pd : PyData} (h1 : py ah a = some pd) (h2 : py ah b = some pd) (hd : pd.depth ≤ 60) (hr : PyData.eqv pd pd = true) : opEq ah a b = some (.bl true) := by
  have : min pd.depth pd.depth ≤ 60 := by omega
  simp only [opEq, h1, h2, eqvIf, this, if_true, hr, Option.map]
theorem opNe_int {ah : AH} {i j : Int} : opNe ah (.int i) (.int j) = some (.bl (!(i == j))) := by simp [opNe, py_int, eqv_int]
theorem opNe_int_same {ah : AH} {i : Int} : opNe ah (.int i) (.int i) = some (.bl false) := by simp [opNe_int]
theorem opNe_t2_same {ah : AH} {i j : Int} : opNe ah (.tup [.int i, .int j]) (.tup [.int i, .int j]) = some (.bl false) :=
  opNe_same (pd := .tuple [.int i, .int j]) (by simp [py, pyD, pyDs]) (by simp [py, pyD, pyDs]) (by simp [PyData.depth, PyData.depthAll]) (by simp [PyData.eqv, PyData.eqvAll])
theorem opNe_bl_same {ah : AH} {b : Bool} : opNe ah (.bl b) (.bl b) = some (.bl false) :=
  opNe_same (pd := .bool b) (by simp [py, pyD]) (by simp [py, pyD]) (by simp [PyData.depth]) (by simp [PyData.eqv])
theorem opNe_non_same {ah : AH} : opNe ah .non .non = some (.bl false) :=
  opNe_same (pd := .none) (by simp [py, pyD]) (by simp [py, pyD]) (by simp [PyData.depth]) (by simp [PyData.eqv])
theorem pyDs_map {γ : Type} {gg : Nat → Option PyData} {f : γ → D} {p : γ → PyData} (h : ∀ c, pyD gg (f c) = some (p c)) : ∀ cs : List γ, pyDs gg (cs.map f) = some (cs.map p)
  | [] => rfl
  | c :: cs => by simp only [List.map_cons, pyDs, h c, pyDs_map h cs]
theorem depth_map {γ : Type} {p : γ → PyData} {n : Nat} (h : ∀ c, (p c).depth ≤ n) : ∀ cs : List γ, PyData.depthAll (cs.map p) ≤ n
  | [] => by simp [PyData.depthAll]
  | c :: cs => by
    have := h c
    have := depth_map h cs
    simp only [List.map_cons, PyData.depthAll]
    omega
theorem eqv_map {γ : Type} {p : γ → PyData} (h : ∀ c, PyData.eqv (p c) (p c) = true) : ∀ cs : List γ, PyData.eqvAll (cs.map p) (cs.map p) = true
  | [] => rfl
  | c :: cs => by simp only [List.map_cons, PyData.eqvAll, h c, eqv_map h cs, Bool.and_self]
theorem opNe_list {γ : Type} {ah : AH} {a b : D} {f : γ → D} {p : γ → PyData} {n : Nat} {cs : List γ} (h : ∀ gg c, pyD gg (f c) = some (p c)) (hd : ∀ c, (p c).depth ≤ 10) (hr : ∀ c, PyData.eqv (p c) (p c) = true)
    (ha : a = .lst (cs.map f) ∨ ∃ n, a = .obj n ∧ ah[n]? = some (.lst (cs.map f))) (hb : b = .lst (cs.map f) ∨ ∃ n, b = .obj n ∧ ah[n]? = some (.lst (cs.map f))) : opNe ah a b = some (.bl false) := by
  have key : ∀ a : D, (a = .lst (cs.map f) ∨ ∃ n, a = .obj n ∧ ah[n]? = some (.lst (cs.map f))) → py ah a = some (.list (cs.map p)) := fun a ha => by
    rcases ha with e | ⟨n, e, e2⟩
    · subst e
      simp only [py, pyD, pyDs_map (h _)]
      rfl
    · subst e
      simp only [py, pyD, pyO, e2, pyDs_map (h _)]
      rfl
  refine opNe_same (key a ha) (key b hb) ?_ ?_
  · have := depth_map hd cs
    simp only [PyData.depth]
    omega
  · simp only [PyData.eqv, eqv_map hr]
theorem wp_kTup {ds : List D} {h : AH} {Q : D → AH → Prop} {E : Nat → AH → Prop} : Wp (kTup ds) h Q E = (ds.length ≤ sizeLine ∧ Q (.tup ds) h) := by
  unfold Wp kTup
  try dsimp only
  by_cases z : ds.length ≤ sizeLine
  · rw [if_pos z]; simp only [z, true_and]
  · rw [if_neg z]; simp only [z, false_and]
theorem mem_insD {α : Type} {le : α → α → Bool} {a b : α} : ∀ {l : List α}, b ∈ insD le a l → b = a ∨ b ∈ l
  | [], h => by simp only [insD, List.mem_singleton] at h; exact .inl h
  | c :: r, h => by
    simp only [insD] at h
    split at h
    · rcases List.mem_cons.mp h with z | z
      · exact .inl z
      · exact .inr z
    · rcases List.mem_cons.mp h with z | z
      · exact .inr (by rw [z]; exact List.mem_cons_self)
      · rcases mem_insD z with y | y
        · exact .inl y
        · exact .inr (List.mem_cons_of_mem _ y)
theorem mem_isort {α : Type} {le : α → α → Bool} {b : α} : ∀ {l : List α}, b ∈ isort le l → b ∈ l
  | [], h => by cases h
  | a :: r, h => by
    simp only [isort] at h
    rcases mem_insD h with z | z
    · rw [z]; exact List.mem_cons_self
    · exact List.mem_cons_of_mem _ (mem_isort z)
theorem len_insD {α : Type} {le : α → α → Bool} {a : α} : ∀ {l : List α}, (insD le a l).length = l.length + 1
  | [] => rfl
  | c :: r => by
    simp only [insD]
    split
    · rfl
    · simp only [List.length_cons, len_insD]
theorem len_isort {α : Type} {le : α → α → Bool} : ∀ {l : List α}, (isort le l).length = l.length
  | [] => rfl
  | a :: r => by simp only [isort, len_insD, len_isort, List.length_cons]
theorem all_map {β : Type} {f : β → D} : ∀ {L : List D}, (∀ d ∈ L, ∃ q, d = f q) → ∃ qs : List β, L = qs.map f
  | [], _ => ⟨[], rfl⟩
  | d :: L, h => by
    obtain ⟨q, e⟩ := h d List.mem_cons_self
    obtain ⟨qs, e2⟩ := all_map (L := L) fun d hd => h d (List.mem_cons_of_mem _ hd)
    exact ⟨q :: qs, by rw [e, e2]; rfl⟩
theorem cutL_map {α β : Type} (f : α → β) (xs : List α) (lo hi : Option Int) : cutL (xs.map f) lo hi = (cutL xs lo hi).map f := by
  unfold cutL
  rw [List.length_map, List.map_take, List.map_drop]
theorem cutL_len {α : Type} (xs : List α) (lo hi : Option Int) : (cutL xs lo hi).length ≤ xs.length := by
  unfold cutL
  rw [List.length_take, List.length_drop]
  omega
theorem wp_kSorted {ds : List D} {h : AH} {Q : D → AH → Prop} {E : Nat → AH → Prop} : Wp (kSorted ds) h Q E = ((sortOk h ds = true ∧ ds.length ≤ sizeLine) ∧ Q (.lst (sortD h ds)) h) := by
  unfold Wp kSorted
  try dsimp only
  by_cases z : sortOk h ds = true ∧ ds.length ≤ sizeLine
  · rw [if_pos z]; simp only [z, true_and, and_self]
  · rw [if_neg z]; simp only [z, false_and]
theorem wp_eSl {f : Env → M D} {lo hi : Env → M (Option Int)} {env : Env} {h : AH} {Q : D → AH → Prop} {E : Nat → AH → Prop} : Wp (eSl f lo hi env) h Q E = Wp (f env) h (fun x h1 => Wp (lo env) h1 (fun a h2 => Wp (hi env) h2 (fun b h3 => match slD h3 x a b with
    | some d => Q d h3
    | none => False) E) E) E := by
  unfold eSl
  rw [wp_bnd]; congr 1; funext x h1; rw [wp_bnd]; congr 1; funext y h2; rw [wp_bnd]; congr 1; funext z h3
  unfold Wp; dsimp only; cases slD h3 x y z <;> rfl
theorem wp_eNoPart {env : Env} {h : AH} {Q : Option Int → AH → Prop} {E : Nat → AH → Prop} : Wp (eNoPart env) h Q E = Q none h := rfl
theorem wp_ePart {f : Env → M D} {env : Env} {h : AH} {Q : Option Int → AH → Prop} {E : Nat → AH → Prop} : Wp (ePart f env) h Q E = Wp (f env) h (fun x h1 => match x with
    | .int i => Q (some i) h1
    | _ => False) E := by
  unfold ePart
  rw [wp_bnd]; congr 1; funext x h1
  unfold Wp; dsimp only; cases x <;> rfl
abbrev Pr := Int × Int
def pD (q : Pr) : D := .tup [.int q.1, .int q.2]
theorem sorted_pairs (ah : AH) (ps : List Pr) : ∃ qs : List Pr, sortD ah (ps.map pD) = qs.map pD ∧ qs.length = ps.length := by
  obtain ⟨qs, e⟩ := all_map (f := pD) (L := sortD ah (ps.map pD)) fun d hd => by
    obtain ⟨q, _, e⟩ := List.mem_map.mp (mem_isort hd)
    exact ⟨q, e.symm⟩
  refine ⟨qs, e, ?_⟩
  have := congrArg List.length e
  rw [sortD, len_isort, List.length_map, List.length_map] at this
  exact this.symm
theorem py_pD (ah : AH) (q : Pr) : py ah (pD q) = some (.tuple [.int q.1, .int q.2]) := by simp [py, pD, pyD, pyDs]
theorem sortOk_pairs (ah : AH) (ps : List Pr) (h : ps.length ≤ 1000) : sortOk ah (ps.map pD) = true := by
  unfold sortOk
  simp only [Bool.and_eq_true, Bool.or_eq_true, List.all_eq_true, decide_eq_true_eq, List.length_map]
  have e : ∀ q, encD ah (pD q) = .tuple [.int q.1, .int q.2] := fun q => by unfold encD; rw [py_pD]; rfl
  refine ⟨⟨⟨fun d hd => ?_, fun a ha b hb => ?_⟩, .inl fun d hd => ?_⟩, by rw [sizeLine_eq]; omega⟩
  · obtain ⟨q, _, rfl⟩ := List.mem_map.mp hd
    rw [e, py_pD]
    exact ⟨rfl, by simp [PyData.depth, PyData.depthAll]⟩
  · obtain ⟨q, _, rfl⟩ := List.mem_map.mp ha
    obtain ⟨q', _, rfl⟩ := List.mem_map.mp hb
    rw [e, e]
    simp [PySem.W.alike, PySem.W.alikeAll]
  · obtain ⟨q, _, rfl⟩ := List.mem_map.mp hd
    rw [e]; rfl
theorem atI_0 {α β : Type} (f : α → β) (a : α) (r : List α) : atI ((a :: r).map f) 0 = some (f a) := by
  unfold atI ixN
  simp
theorem atI_last {α β : Type} (f : α → β) (d : α) : ∀ (l : List α), l ≠ [] → atI (l.map f) (-1) = some (f (l.getLastD d)) := fun l hl => by
  have hp : 0 < l.length := List.length_pos_iff.mpr hl
  have e : ixN (l.map f).length (-1) = some (l.length - 1) := by
    unfold ixN
    rw [List.length_map, if_neg (by omega), if_pos (by omega)]
    congr 1; omega
  unfold atI
  rw [e]
  simp only [Option.bind_some, List.getElem?_map]
  rw [← List.getLast?_eq_getElem?, List.getLastD_eq_getLast?]
  cases h : l.getLast? with
  | none => rw [List.getLast?_eq_none_iff] at h; exact absurd h hl
  | some v => rfl
theorem wp_forNil {pat : Pat} {ok : AH → Bool} {b : Env → M Fl} {env : Env} {Q : Fl → AH → Prop} {E : Nat → AH → Prop} (hok : ok h = true) : Wp (forGo pat ok b [] env) h Q E = Q (.nx env) h := by
  unfold Wp forGo
  rw [if_pos hok]
theorem forGo_nil {pat : Pat} {ok : AH → Bool} {b : Env → M Fl} {env : Env} (hok : ok h = true) : forGo pat ok b [] env h = .ok (.nx env) h := by
  unfold forGo; rw [if_pos hok]
theorem forGo_cons {pat : Pat} {ok : AH → Bool} {b : Env → M Fl} {env env1 env2 : Env} {x : D} {xs : List D} {h1 : AH} (hok : ok h = true) (hp : pat.put x env = some env1) (hb : b env1 h = .ok (.nx env2) h1) : forGo pat ok b (x :: xs) env h = forGo pat ok b xs env2 h1 := by
  conv => lhs; unfold forGo
  rw [if_pos hok, hp]
  dsimp only
  unfold bnd
  rw [hb]
theorem gxGo_stop {pat : Pat} {gi : Env → M Bool} {ge : Env → M D} {ok : AH → Bool} {env : Env} {γ : Type} (f : γ → D) (hok : ok h = true) : ∀ {xs : List γ}, (∀ x ∈ xs, ∃ env1, pat.put (f x) env = some env1 ∧ gi env1 h = .ok true h ∧ ge env1 h = .ok (.bl false) h) →
    gxGo stopT pat gi ge ok env (xs.map f) h = .ok (xs.map fun _ => .bl false) h
  | [], _ => by simp [gxGo, hok]
  | x :: xs, H => by
    obtain ⟨env1, e1, e2, e3⟩ := H x List.mem_cons_self
    have ih := gxGo_stop (pat := pat) (gi := gi) (ge := ge) (ok := ok) (env := env) f hok (xs := xs) fun y hy => H y (List.mem_cons_of_mem _ hy)
    simp only [List.map_cons, gxGo, hok, if_true, e1]
    unfold bnd
    rw [noEx_ok e2]
    dsimp only
    simp only [if_true]
    rw [noEx_ok e3]
    dsimp only
    have : stopT (.bl false) = false := rfl
    simp only [this, Bool.false_eq_true, if_false]
    rw [ih]; rfl
theorem blsD_false {γ : Type} : ∀ xs : List γ, blsD (xs.map fun _ => D.bl false) = some (xs.map fun _ => false)
  | [] => rfl
  | x :: xs => by simp only [List.map_cons, blsD, blsD_false xs]; rfl
theorem any_false {γ : Type} : ∀ xs : List γ, (xs.map fun _ => false).any _root_.id = false
  | [] => rfl
  | x :: xs => by simp only [List.map_cons, List.any_cons, any_false xs]; rfl
theorem opLen_lst {xs : List D} : opLen h [.lst xs] = some (.int xs.length) := rfl
theorem leD_int (i j : Int) : leD h (.int i) (.int j) = decide (i ≤ j) := by
  unfold leD encD
  rw [py_int, py_int]
  simp only [Option.getD_some]
  rw [PySem.W.dataLt_int]
  by_cases z : i ≤ j
  · simp only [z, decide_true, Bool.not_eq_true', decide_eq_false_iff_not]; omega
  · simp only [z, decide_false, Bool.not_eq_false', decide_eq_true_eq]; omega
def leI (i j : Int) : Bool := decide (i ≤ j)
theorem insD_map (i : Int) : ∀ l : List Int, insD (leD h) (.int i) (l.map D.int) = (insD leI i l).map D.int
  | [] => rfl
  | j :: l => by
    simp only [List.map_cons, insD, leD_int]
    unfold leI
    by_cases z : i ≤ j
    · simp only [z, decide_true, if_true, List.map_cons]
    · simp only [z, decide_false, Bool.false_eq_true, if_false, List.map_cons]
      rw [insD_map i l]; rfl
theorem sortD_ints : ∀ l : List Int, sortD h (l.map D.int) = (isort leI l).map D.int
  | [] => rfl
  | i :: l => by
    have ih := sortD_ints l
    unfold sortD at ih ⊢
    simp only [List.map_cons, isort]
    rw [ih, insD_map]
theorem sortOk_ints (l : List Int) (hz : l.length ≤ 1000) : sortOk h (l.map D.int) = true := by
  unfold sortOk
  simp only [Bool.and_eq_true, Bool.or_eq_true, List.all_eq_true, decide_eq_true_eq, List.length_map]
  have e : ∀ i, encD h (.int i) = .int i := fun i => by unfold encD; rw [py_int]; rfl
  refine ⟨⟨⟨fun d hd => ?_, fun a ha b hb => ?_⟩, .inr fun d hd => ?_⟩, by rw [sizeLine_eq]; omega⟩
  · obtain ⟨q, _, rfl⟩ := List.mem_map.mp hd
    rw [e, py_int]
    exact ⟨rfl, by simp [PyData.depth]⟩
  · obtain ⟨q, _, rfl⟩ := List.mem_map.mp ha
    obtain ⟨q', _, rfl⟩ := List.mem_map.mp hb
    rw [e, e]
    simp [PySem.W.alike]
  · obtain ⟨q, _, rfl⟩ := List.mem_map.mp hd
    rw [e]; rfl
theorem insD_perm (i : Int) : ∀ l : List Int, (insD leI i l).Perm (i :: l)
  | [] => .refl _
  | j :: l => by
    simp only [insD]
    split
    · exact .refl _
    · exact ((insD_perm i l).cons j).trans (.swap i j l)
theorem isort_perm : ∀ l : List Int, (isort leI l).Perm l
  | [] => .refl _
  | i :: l => by
    simp only [isort]
    exact (insD_perm i _).trans ((isort_perm l).cons i)
theorem insD_sorted (i : Int) : ∀ l : List Int, l.Pairwise (· ≤ ·) → (insD leI i l).Pairwise (· ≤ ·)
  | [], _ => by simp [insD]
  | j :: l, hp => by
    rw [List.pairwise_cons] at hp
    simp only [insD]
    unfold leI
    by_cases z : i ≤ j
    · simp only [z, decide_true, if_true]
      rw [List.pairwise_cons]
      refine ⟨fun y hy => ?_, List.pairwise_cons.mpr hp⟩
      rcases List.mem_cons.mp hy with e | e
      · rw [e]; exact z
      · have := hp.1 y e; omega
    · simp only [z, decide_false, Bool.false_eq_true, if_false]
      rw [List.pairwise_cons]
      refine ⟨fun y hy => ?_, insD_sorted i l hp.2⟩
      rcases List.mem_cons.mp ((insD_perm i l).mem_iff.mp hy) with e | e
      · rw [e]; omega
      · exact hp.1 y e
theorem isort_sorted : ∀ l : List Int, (isort leI l).Pairwise (· ≤ ·)
  | [] => .nil
  | i :: l => insD_sorted i _ (isort_sorted l)
theorem py_ints (l : List Int) : py h (.lst (l.map D.int)) = some (.list (l.map PyData.int)) := by
  simp only [py, pyD, pyDs_map (f := D.int) (p := PyData.int) (fun c => by simp [pyD])]
  rfl
theorem opEq_ints_nil (l : List Int) : opEq h (.lst (l.map D.int)) (.lst []) = some (.bl l.isEmpty) := by
  have e2 : py h (.lst []) = some (.list []) := rfl
  have hd : min (PyData.list (l.map PyData.int)).depth (PyData.list []).depth ≤ 60 := by simp [PyData.depth, PyData.depthAll]
  simp only [opEq, py_ints, e2, eqvIf, hd, if_true, Option.map]
  cases l <;> rfl
theorem opNe_ints_nil (l : List Int) : opNe h (.lst (l.map D.int)) (.lst []) = some (.bl (!l.isEmpty)) := by
  have e2 : py h (.lst []) = some (.list []) := rfl
  have hd : min (PyData.list (l.map PyData.int)).depth (PyData.list []).depth ≤ 60 := by simp [PyData.depth, PyData.depthAll]
  simp only [opNe, py_ints, e2, eqvIf, hd, if_true, Option.map]
  cases l <;> rfl
theorem atI_nat {α : Type} {xs : List α} {i : Nat} (hi : i < xs.length) : atI xs (i : Int) = xs[i]? := by
  unfold atI ixN
  rw [if_pos (by omega), if_pos (by omega)]
  rfl
theorem put_pD {i j : Nat} {q : Pr} {env : Env} : (Pat.tp [.nm i, .nm j]).put (pD q) env = some ((env.set i (some (.int q.1))).set j (some (.int q.2))) := rfl
theorem wp_eAppend {fo fx : Env → M D} {env : Env} {h : AH} {Q : D → AH → Prop} {E : Nat → AH → Prop} : Wp (eAppend fo fx env) h Q E = Wp (fo env) h (fun o h1 => isLstO h1 o = true ∧ Wp (fx env) h1 (fun y h2 => match appD h2 o y with
    | some h' => Q .non h'
    | none => False) E) E := by
  unfold eAppend
  rw [wp_bnd]; congr 1; funext o h1
  by_cases z : isLstO h1 o = true
  · simp only [z, true_and]
    unfold Wp
    dsimp only
    rw [if_pos z]
    unfold bnd
    cases fx env h1 with
    | ok y h2 => dsimp only; cases appD h2 o y <;> rfl
    | ex c h2 => rfl
    | bad => rfl
  · unfold Wp; dsimp only; rw [if_neg z]
    simp only [z, Bool.false_eq_true, false_and]
theorem wp_eTold {cs : List Nat} {r : Str} {f : Env → M D} {env : Env} {h : AH} {Q : D → AH → Prop} {E : Nat → AH → Prop} : Wp (eTold cs r f env) h Q E = Wp (f env) h Q (fun c h1 => cs.contains c = true ∧ Q (.str r) h1) := by
  unfold eTold Wp
  dsimp only
  cases f env h with
  | ok d h1 => rfl
  | bad => rfl
  | ex c h1 =>
    dsimp only
    by_cases z : cs.contains c = true
    · rw [if_pos z]; simp only [z, true_and]
    · rw [if_neg z]; simp only [z, Bool.false_eq_true, false_and]
theorem opInt_bl {h : AH} (b : Bool) : opInt h [.bl b] = some (.int (if b = true then 1 else 0)) := rfl
theorem get_set {env : Env} {i j : Nat} {d : Option D} (hi : i < env.length) : (env.set i d)[j]? = if i = j then some d else env[j]? := by
  rw [List.getElem?_set]
  by_cases z : i = j
  · rw [if_pos z, if_pos hi, if_pos z]
  · rw [if_neg z, if_neg z]
theorem wp_forCons {pat : Pat} {ok : AH → Bool} {f : Env → M Fl} {env env1 : Env} {x : D} {xs : List D} {h : AH} {Q : Fl → AH → Prop} {E : Nat → AH → Prop} (hok : ok h = true) (hp : pat.put x env = some env1) : Wp (forGo pat ok f (x :: xs) env) h Q E = Wp (f env1) h (fun r h1 => match r with
    | .nx env' => Wp (forGo pat ok f xs env') h1 Q E
    | .ct env' => Wp (forGo pat ok f xs env') h1 Q E
    | .bk env' => Q (.nx env') h1
    | .rt d => Q (.rt d) h1) E := by
  have e : forGo pat ok f (x :: xs) env h = bnd (f env1) (fun r => match r with
      | .nx env' => forGo pat ok f xs env'
      | .ct env' => forGo pat ok f xs env'
      | .bk env' => ret (.nx env')
      | .rt d => ret (.rt d)) h := by
    (conv => lhs; unfold forGo)
    rw [if_pos hok, hp]
    all_goals first | rfl | (dsimp only)
  have : Wp (forGo pat ok f (x :: xs) env) h Q E = Wp (bnd (f env1) (fun r => match r with
      | .nx env' => forGo pat ok f xs env'
      | .ct env' => forGo pat ok f xs env'
      | .bk env' => ret (.nx env')
      | .rt d => ret (.rt d))) h Q E := by unfold Wp; rw [e]
  rw [this, wp_bnd]
  congr 1; funext r h1; cases r <;> rfl
theorem wp_sFor {pat : Pat} {it : Env → M Src} {f : Env → M Fl} {env : Env} {h : AH} {Q : Fl → AH → Prop} {E : Nat → AH → Prop} : Wp (sFor pat it f env) h Q E = Wp (it env) h (fun src h1 => Wp (forGo pat src.ok f src.xs env) h1 Q E) E := by
  unfold sFor; rw [wp_bnd]
theorem wp_eMake {c : Nat} {gf : List D → M D} {f : Env → M (List D)} {env : Env} {h : AH} {Q : D → AH → Prop} {E : Nat → AH → Prop} : Wp (eMake c gf f env) h Q E = Wp (f env) h (fun ds h1 => Wp (gf (.obj h1.length :: ds)) (h1 ++ [.ins c []]) (fun r h2 => match r with
    | .non => Q (.obj h1.length) h2
    | _ => False) E) E := by
  unfold eMake
  rw [wp_bnd]; congr 1; funext ds h1
  unfold Wp; dsimp only; unfold bnd
  cases gf (.obj h1.length :: ds) (h1 ++ [.ins c []]) with
  | ok r h2 => dsimp only; cases r <;> rfl
  | ex c h2 => rfl
  | bad => rfl
theorem wp_eDisp {f : Env → M (List (D × D))} {env : Env} {h : AH} {Q : D → AH → Prop} {E : Nat → AH → Prop} : Wp (eDisp f env) h Q E = Wp (f env) (h ++ [.dct false []]) (fun kvs h1 => (h1[h.length]? = some (.dct false []) ∧ kvs.length ≤ 15 ∧ (kvs.all fun p => isKey p.1) = true) ∧ Q (.obj h.length) (h1.set h.length (.dct false (mergeD kvs)))) E := by
  unfold eDisp Wp
  dsimp only
  cases f env (h ++ [.dct false []]) with
  | ok kvs h1 =>
    dsimp only
    by_cases z : h1[h.length]? = some (.dct false []) ∧ kvs.length ≤ 15 ∧ (kvs.all fun p => isKey p.1) = true
    · rw [if_pos z, eq_true z, true_and]
    · rw [if_neg z, eq_false z, false_and]
  | ex c h1 => rfl
  | bad => rfl
theorem wp_pNil {env : Env} {h : AH} {Q : List (D × D) → AH → Prop} {E : Nat → AH → Prop} : Wp (pNil env) h Q E = Q [] h := rfl
theorem wp_pCons {fk fv : Env → M D} {f : Env → M (List (D × D))} {env : Env} {h : AH} {Q : List (D × D) → AH → Prop} {E : Nat → AH → Prop} : Wp (pCons fk fv f env) h Q E = Wp (fk env) h (fun x h1 => Wp (fv env) h1 (fun y h2 => Wp (f env) h2 (fun r h3 => Q ((x, y) :: r) h3) E) E) E := by
  unfold pCons
  rw [wp_bnd]; congr 1; funext x h1; rw [wp_bnd]; congr 1; funext y h2; rw [wp_bnd]; rfl
theorem opSum_t2 {h : AH} (i j : Int) : opSum h [.tup [.int i, .int j]] = some (.int (i + j)) := by
  simp [opSum, sqOf, intsD]
theorem ix_t2 {h : AH} (i j : Int) : ixD h (.tup [.int i, .int j]) (.int 0) = some (.int i) := rfl
theorem ix_lst {h : AH} {xs : List D} {i : Int} : ixD h (.lst xs) (.int i) = atI xs i := rfl
theorem opList_tup {h : AH} {xs : List D} : opList h [.tup xs] = some (.lst xs) := rfl
theorem wipe1 {i : Nat} : wipeE env [i] = env.set i none := rfl
theorem wipe2 {i j : Nat} : wipeE env [i, j] = (env.set j none).set i none := rfl
theorem opSorted_lst {h : AH} {xs : List D} (ok : sortOk h xs = true) : opSorted h [.lst xs] = some (.lst (sortD h xs)) := by
  simp only [opSorted, sqOf, ok, if_true]
theorem opAdd_lst {h : AH} {xs ys : List D} (hz : xs.length + ys.length ≤ sizeLine) : opAdd h (.lst xs) (.lst ys) = some (.lst (xs ++ ys)) := by
  simp only [opAdd, hz, if_true]
theorem wp_whileS {c : Env → M Bool} {f : Env → M Fl} {n : Nat} {h : AH} {Q : Fl → AH → Prop} {E : Nat → AH → Prop} : Wp (whileM c f (n + 1) env) h Q E = Wp (c env) h (fun t h1 => if t = true then Wp (f env) h1 (fun r h2 => match r with
    | .nx env' => Wp (whileM c f n env') h2 Q E
    | .ct env' => Wp (whileM c f n env') h2 Q E
    | .bk env' => Q (.nx env') h2
    | .rt d => Q (.rt d) h2) E else Q (.nx env) h1) E := by
  have e : whileM c f (n + 1) env = bnd (c env) fun t => if t then bnd (f env) (fun r => match r with
    | .nx env' => whileM c f n env'
    | .ct env' => whileM c f n env'
    | .bk env' => ret (.nx env')
    | .rt d => ret (.rt d)) else ret (.nx env) := rfl
  rw [e, wp_bnd]
  congr 1; funext t h1
  cases t with
  | false => rfl
  | true =>
    simp only [if_true]
    rw [wp_bnd]
    congr 1; funext r h2; cases r <;> rfl
theorem wp_noEx {α : Type} {f : M α} {h : AH} {Q : α → AH → Prop} {E : Nat → AH → Prop} (w : Wp f h Q (fun _ _ => False)) : Wp (noEx f) h Q E := by
  unfold Wp noEx at *
  cases e : f h <;> rw [e] at w <;> first | exact w | exact w.elim
theorem wp_lcAll {pat : Pat} {gi : Env → M Bool} {ge : Env → M D} {ok : AH → Bool} (I : AH → Prop) (P : D → Prop) (hok : ∀ h, I h → ok h = true) : ∀ (xs : List D), (∀ x ∈ xs, ∃ env1, pat.put x env = some env1 ∧ ∀ h, I h → gi env1 h = .ok true h ∧ Wp (ge env1) h (fun d h' => P d ∧ I h') (fun _ _ => False)) → ∀ (h : AH), I h → Wp (lcGo pat gi ge ok env xs) h (fun ys h' => ys.length = xs.length ∧ (∀ y ∈ ys, P y) ∧ I h') (fun _ _ => False)
  | [], _, h, i => by
    unfold Wp lcGo
    rw [if_pos (hok h i)]
    exact ⟨rfl, (fun y hy => by cases hy), i⟩
  | x :: xs, H, h, i => by
    obtain ⟨env1, e1, e2⟩ := H x List.mem_cons_self
    have ih := wp_lcAll I P hok xs fun y hy => H y (List.mem_cons_of_mem _ hy)
    have key : Wp (bnd (noEx (gi env1)) (fun t => if t then bnd (noEx (ge env1)) (fun y => bnd (lcGo pat gi ge ok env xs) fun ys => ret (y :: ys)) else lcGo pat gi ge ok env xs)) h (fun ys h' => ys.length = (x :: xs).length ∧ (∀ y ∈ ys, P y) ∧ I h') (fun _ _ => False) := by
      rw [wp_bnd, wp_eq (noEx_ok (e2 h i).1)]
      simp only [if_true]
      rw [wp_bnd]
      refine Wp.impQ (wp_noEx (e2 h i).2) ?_
      rintro y h2 ⟨py, i2⟩
      rw [wp_bnd]
      refine Wp.impQ (ih h2 i2) ?_
      rintro ys h3 ⟨l3, p3, i3⟩
      rw [wp_ret]
      refine ⟨by simp [l3], fun z hz => ?_, i3⟩
      rcases List.mem_cons.mp hz with e | e
      · rw [e]; exact py
      · exact p3 z e
    unfold Wp at key ⊢
    unfold lcGo
    rw [if_pos (hok h i), e1]
    exact key
theorem all_mapP {β : Type} {f : β → D} {p : β → Prop} : ∀ {L : List D}, (∀ d ∈ L, ∃ q, d = f q ∧ p q) → ∃ qs : List β, L = qs.map f ∧ ∀ q ∈ qs, p q
  | [], _ => ⟨[], rfl, fun q hq => by cases hq⟩
  | d :: L, h => by
    obtain ⟨q, e, hp⟩ := h d List.mem_cons_self
    obtain ⟨qs, e2, hps⟩ := all_mapP (L := L) fun d hd => h d (List.mem_cons_of_mem _ hd)
    refine ⟨q :: qs, by rw [e, e2]; rfl, fun z hz => ?_⟩
    rcases List.mem_cons.mp hz with y | y
    · rw [y]; exact hp
    · exact hps z y
theorem range1_ok {n : Int} (hn : 0 ≤ n ∧ n ≤ 1000) : range1 [.int n] = some (intsFrom 0 1 n.toNat) := by
  simp only [range1]
  rw [if_pos]
  unfold fits62
  simp; omega
theorem intsD_ints : ∀ s : List Int, intsD (s.map D.int) = some s
  | [] => rfl
  | i :: s => by simp only [List.map_cons, intsD, intsD_ints s]
theorem foldl_max : ∀ (s : List Int) (v w : Int), (∀ x ∈ s, x ≤ v) → w ≤ v → (w = v ∨ v ∈ s) → s.foldl max w = v
  | [], v, w, _, _, h => by
    rcases h with h | h
    · exact h
    · cases h
  | x :: s, v, w, h1, h2, h3 => by
    simp only [List.foldl_cons]
    have hx := h1 x List.mem_cons_self
    refine foldl_max s v (max w x) (fun y hy => h1 y (List.mem_cons_of_mem _ hy)) (by omega) ?_
    rcases h3 with h | h
    · exact .inl (by omega)
    · rcases List.mem_cons.mp h with y | y
      · exact .inl (by omega)
      · exact .inr y
theorem opMaxL_ok {h : AH} {s : List Int} {v : Int} (h1 : ∀ x ∈ s, x ≤ v) (h2 : v ∈ s) : opMaxL h [.lst (s.map D.int)] = some (.int v) := by
  cases s with
  | nil => cases h2
  | cons i is =>
    simp only [opMaxL, sqOf, intsD_ints]
    rw [foldl_max (i :: is) v i h1 (h1 i List.mem_cons_self) (.inr h2)]
theorem sne {i j : Nat} {d e : Option D} (hj : i ≠ j) (e1 : env[j]? = some e) : (env.set i d)[j]? = some e := by rw [List.getElem?_set_ne hj]; exact e1
end
end PyD

/-! PyEqv: a datum against itself; loops and comprehensions while the heap grows. -/
namespace PyD
open PySem PySem.Spec L2
open PyProof.Rows hiding St
mutual
def okD : Nat → D → Bool
  | _, .non => true
  | _, .bl _ => true
  | _, .int _ => true
  | _, .str _ => true
  | n, .tup ds => decide (0 < n) && okDs (n - 1) ds
  | n, .lst ds => decide (0 < n) && okDs (n - 1) ds
  | _, _ => false
def okDs : Nat → List D → Bool
  | _, [] => true
  | n, d :: ds => okD n d && okDs n ds
end
mutual
theorem pyd_ok : ∀ (d : D) (n : Nat), okD n d = true → ∃ pd : PyData, (∀ g, pyD g d = some pd) ∧ pd.depth ≤ n + 1 ∧ PyData.eqv pd pd = true
  | .non, n, _ => ⟨.none, fun _ => rfl, by simp [PyData.depth], by simp [PyData.eqv]⟩
  | .bl b, n, _ => ⟨.bool b, fun _ => rfl, by simp [PyData.depth], by simp [PyData.eqv]⟩
  | .int b, n, _ => ⟨.int b, fun _ => rfl, by simp [PyData.depth], by simp [PyData.eqv]⟩
  | .str b, n, _ => ⟨.str b, fun _ => rfl, by simp [PyData.depth], by simp [PyData.eqv]⟩
  | .tup ds, n, h => by
    simp only [okD, Bool.and_eq_true, decide_eq_true_eq] at h
    obtain ⟨ps, h1, h2, h3⟩ := pyds_ok ds (n - 1) h.2
    exact ⟨.tuple ps, fun g => by simp only [pyD, h1 g]; rfl, by simp only [PyData.depth]; omega, by simp only [PyData.eqv, h3]⟩
  | .lst ds, n, h => by
    simp only [okD, Bool.and_eq_true, decide_eq_true_eq] at h
    obtain ⟨ps, h1, h2, h3⟩ := pyds_ok ds (n - 1) h.2
    exact ⟨.list ps, fun g => by simp only [pyD, h1 g]; rfl, by simp only [PyData.depth]; omega, by simp only [PyData.eqv, h3]⟩
  | .dic _, _, h => by simp [okD] at h
  | .obj _, _, h => by simp [okD] at h
  | .scr _, _, h => by simp [okD] at h
  | .lam _, _, h => by simp [okD] at h
theorem pyds_ok : ∀ (ds : List D) (n : Nat), okDs n ds = true → ∃ ps : List PyData, (∀ g, pyDs g ds = some ps) ∧ PyData.depthAll ps ≤ n + 1 ∧ PyData.eqvAll ps ps = true
  | [], n, _ => ⟨[], fun _ => rfl, by simp [PyData.depthAll], rfl⟩
  | d :: ds, n, h => by
    simp only [okDs, Bool.and_eq_true] at h
    obtain ⟨p, a1, a2, a3⟩ := pyd_ok d n h.1
    obtain ⟨ps, b1, b2, b3⟩ := pyds_ok ds n h.2
    refine ⟨p :: ps, fun g => by simp only [pyDs, a1 g, b1 g], ?_, ?_⟩
    · simp only [PyData.depthAll]
      omega
    · simp only [PyData.eqvAll, a3, b3, Bool.and_self]
end
section
variable {h : AH} {env : Env} {E : Nat → AH → Prop}
theorem opNe_refl {d : D} (k : okD 50 d = true) : opNe h d d = some (.bl false) := by
  obtain ⟨pd, h1, h2, h3⟩ := pyd_ok d 50 k
  exact opNe_same (h1 _) (h1 _) (by omega) h3
theorem opEq_refl {d : D} (k : okD 50 d = true) : opEq h d d = some (.bl true) := by
  obtain ⟨pd, h1, h2, h3⟩ := pyd_ok d 50 k
  exact opEq_same (h1 _) (h1 _) (by omega) h3
theorem okDs_map {γ : Type} {f : γ → D} {n : Nat} : ∀ {xs : List γ}, (∀ x ∈ xs, okD n (f x) = true) → okDs n (xs.map f) = true
  | [], _ => rfl
  | x :: xs, k => by simp only [List.map_cons, okDs, k x List.mem_cons_self, okDs_map fun y hy => k y (List.mem_cons_of_mem _ hy), Bool.and_self]
theorem okDs_ints {n : Nat} (xs : List Int) : okDs n (xs.map D.int) = true := okDs_map fun _ _ => by simp [okD]
/-- is it this list: plain, or one that may change -/
def isL (h : AH) (d : D) (xs : List D) : Prop := d = .lst xs ∨ ∃ n, d = .obj n ∧ h[n]? = some (.lst xs)
theorem py_isL {d : D} {xs : List D} {ps : List PyData} (k : isL h d xs) (e : ∀ g, pyDs g xs = some ps) : py h d = some (.list ps) := by
  rcases k with rfl | ⟨n, rfl, z⟩
  · simp only [py, pyD, e]; rfl
  · simp only [py, pyD, pyO, z, e]; rfl
theorem opNe_nilG {d : D} {xs : List D} (k : isL h d xs) (o : okDs 50 xs = true) : opNe h d (.lst []) = some (.bl (!xs.isEmpty)) := by
  obtain ⟨ps, h1, h2, h3⟩ := pyds_ok xs 50 o
  have e2 : py h (.lst []) = some (.list []) := rfl
  have hd : min (PyData.list ps).depth (PyData.list []).depth ≤ 60 := by simp [PyData.depth, PyData.depthAll]
  simp only [opNe, py_isL k h1, e2, eqvIf, hd, if_true, Option.map]
  have hl := h1 fun _ => none
  cases xs with
  | nil => cases hl; rfl
  | cons x r =>
    simp only [pyDs] at hl
    split at hl
    · cases hl; rfl
    · cases hl
theorem opEq_nilG {d : D} {xs : List D} (k : isL h d xs) (o : okDs 50 xs = true) : opEq h d (.lst []) = some (.bl xs.isEmpty) := by
  obtain ⟨ps, h1, h2, h3⟩ := pyds_ok xs 50 o
  have e2 : py h (.lst []) = some (.list []) := rfl
  have hd : min (PyData.list ps).depth (PyData.list []).depth ≤ 60 := by simp [PyData.depth, PyData.depthAll]
  simp only [opEq, py_isL k h1, e2, eqvIf, hd, if_true, Option.map]
  have hl := h1 fun _ => none
  cases xs with
  | nil => cases hl; rfl
  | cons x r =>
    simp only [pyDs] at hl
    split at hl
    · cases hl; rfl
    · cases hl
variable {γ : Type}
/-- a loop by what holds behind the items that are through -/
theorem wp_forInv {pat : Pat} {ok : AH → Bool} {b : Env → M Fl} (f : γ → D) (I : List γ → Env → AH → Prop) (hok : ∀ xs env h, I xs env h → ok h = true) : ∀ (post pre : List γ) (env : Env) (h : AH),
    (∀ p x q env h, p ++ x :: q = pre ++ post → I p env h → ∃ env1, pat.put (f x) env = some env1 ∧ Wp (b env1) h (fun r h' => ∃ env', (r = .nx env' ∨ r = .ct env') ∧ I (p ++ [x]) env' h') E) → I pre env h →
    Wp (forGo pat ok b (post.map f) env) h (fun r h' => ∃ env', r = .nx env' ∧ I (pre ++ post) env' h') E
  | [], pre, env, h, _, i => by
    rw [List.map_nil, wp_forNil (hok _ _ _ i), List.append_nil]
    exact ⟨env, rfl, i⟩
  | x :: post, pre, env, h, H, i => by
    obtain ⟨env1, e1, w⟩ := H pre x post env h rfl i
    rw [List.map_cons, wp_forCons (hok _ _ _ i) e1]
    refine w.impQ ?_
    rintro r h' ⟨env', rr, i'⟩
    have ih := wp_forInv (pat := pat) (ok := ok) (b := b) f I hok post (pre ++ [x]) env' h' (fun p y q env h e => H p y q env h (by rw [e]; simp)) i'
    rw [List.append_assoc] at ih
    rcases rr with rfl | rfl <;> exact ih
/-- .. all items -/
theorem wp_forAll {pat : Pat} {b : Env → M Fl} (f : γ → D) (xs : List γ) (I : List γ → Env → AH → Prop) (st : ∀ p x q env h, p ++ x :: q = xs → I p env h → ∃ env1, pat.put (f x) env = some env1 ∧ Wp (b env1) h (fun r h' => ∃ env', (r = .nx env' ∨ r = .ct env') ∧ I (p ++ [x]) env' h') E) (i : I [] env h) :
    Wp (forGo pat (fun _ => true) b (xs.map f) env) h (fun r h' => ∃ env', r = .nx env' ∧ I xs env' h') E := by
  have := wp_forInv (pat := pat) (ok := fun _ => true) (b := b) (E := E) f I (fun _ _ _ _ => rfl) xs [] env h (fun p x q env h e => st p x q env h (by simpa using e)) i
  simpa using this
/-- a comprehension while the heap grows -/
theorem lc_grow {pat : Pat} {gi : Env → M Bool} {ge : Env → M D} (f : γ → D) (p : γ → Bool) (g : γ → D) : ∀ (xs : List γ) (h : AH), (∀ x ∈ xs, ∃ env1, pat.put (f x) env = some env1 ∧ ∀ u, gi env1 (h ++ u) = .ok (p x) (h ++ u) ∧ (p x = true → Wp (ge env1) (h ++ u) (fun d h' => d = g x ∧ ∃ u', h' = h ++ u ++ u') (fun _ _ => False))) →
    Wp (lcGo pat gi ge (fun _ => true) env (xs.map f)) h (fun ys h' => ys = (xs.filter p).map g ∧ ∃ u, h' = h ++ u) (fun _ _ => False)
  | [], h, _ => by
    show ([] : List D) = _ ∧ _
    exact ⟨rfl, [], by simp⟩
  | x :: xs, h, H => by
    obtain ⟨env1, e1, e2⟩ := H x List.mem_cons_self
    have e20 := e2 []
    rw [List.append_nil] at e20
    have key : Wp (bnd (noEx (gi env1)) (fun t => if t then bnd (noEx (ge env1)) (fun y => bnd (lcGo pat gi ge (fun _ => true) env (xs.map f)) fun ys => ret (y :: ys)) else lcGo pat gi ge (fun _ => true) env (xs.map f))) h (fun ys h' => ys = ((x :: xs).filter p).map g ∧ ∃ u, h' = h ++ u) (fun _ _ => False) := by
      rw [wp_bnd, wp_eq (noEx_ok e20.1)]
      cases z : p x with
      | false =>
        simp only [Bool.false_eq_true, if_false, List.filter_cons, z]
        exact lc_grow f p g xs h fun y hy => H y (List.mem_cons_of_mem _ hy)
      | true =>
        simp only [if_true, List.filter_cons, z, List.map_cons]
        rw [wp_bnd]
        refine Wp.impQ (wp_noEx (e20.2 z)) ?_
        rintro y h2 ⟨rfl, u, rfl⟩
        rw [wp_bnd]
        have ih := lc_grow f p g xs (h ++ u) fun y hy => by
          obtain ⟨env2, a1, a2⟩ := H y (List.mem_cons_of_mem _ hy)
          exact ⟨env2, a1, fun v => by rw [List.append_assoc]; exact a2 (u ++ v)⟩
        refine ih.impQ ?_
        rintro ys h3 ⟨rfl, v, rfl⟩
        rw [wp_ret]
        exact ⟨rfl, u ++ v, by rw [List.append_assoc]⟩
    unfold Wp at key ⊢
    rw [List.map_cons]
    unfold lcGo
    rw [if_pos rfl, e1]
    exact key
theorem wp_eGet2 {fo fk fx : Env → M D} {Q : D → AH → Prop} : Wp (eGet2 fo fk fx env) h Q E = Wp (fo env) h (fun o h1 => isMapO h1 o = true ∧ Wp (fk env) h1 (fun k h2 => Wp (fx env) h2 (fun x h3 => match getD2 h3 o k x with
    | some d => Q d h3
    | none => False) E) E) E := by
  unfold eGet2
  rw [wp_bnd]; congr 1; funext o h1
  by_cases z : isMapO h1 o = true
  · simp only [z, true_and]
    unfold Wp
    dsimp only
    rw [if_pos z]
    unfold bnd
    cases fk env h1 with
    | ok k h2 =>
      dsimp only
      cases fx env h2 with
      | ok x h3 => dsimp only; cases getD2 h3 o k x <;> rfl
      | ex c h3 => rfl
      | bad => rfl
    | ex c h2 => rfl
    | bad => rfl
  · unfold Wp; dsimp only; rw [if_neg z]
    simp only [z, Bool.false_eq_true, false_and]
theorem wp_sAug {i : Nat} {f : Env → M D} {QF : Fl → AH → Prop} : Wp (sAug i f env) h QF E = match env[i]? with
    | some (some x) => Wp (f env) h (fun y h1 => match augD h1 x y with
      | some (d, h') => QF (.nx (env.set i (some d))) h'
      | none => False) E
    | _ => False := by
  unfold sAug
  cases env[i]? with
  | none => rfl
  | some o =>
    cases o with
    | none => rfl
    | some x =>
      dsimp only
      rw [wp_bnd]; congr 1; funext y h1
      unfold Wp; dsimp only; cases augD h1 x y with
      | none => rfl
      | some r => cases r; rfl
theorem wp_eLzip {g : Env → M (List D)} {Q : D → AH → Prop} {xs ys : List D} (hz : min xs.length ys.length < sizeLine) (w : Wp (g env) h (fun ds h' => ds = [.lst xs, .lst ys] ∧ Q (.lst (pairD xs ys)) h') E) : Wp (eLzip g env) h Q E := by
  unfold eLzip
  rw [wp_bnd]
  refine w.impQ ?_
  rintro _ h' ⟨rfl, q⟩
  unfold Wp
  simp only [sqOf, hz, if_true]
  exact q
end
end PyD

/-! PyText: str(n), int(text), f-strings, split, max and min of three. -/
namespace PyD
open PySem PySem.Spec L2
open PyProof.Rows hiding St

section
variable {X : Cx} {P : Pm} {W : WXT} {e o a b : Expr} {f fo fk fx : Env → M D} {pos : Pos}
/-- an int's text -/
def strI (i : Int) : Str := toString i
def opStr : OpL := fun _ ds => match ds with
  | [.int i] => if decide (i.natAbs.log2 < 1920) && sOk (strI i) then some (.str (strI i)) else none
  | _ => none
theorem cd_str (c : Ctx X P W) : CallD X P (.type "str") opStr := CallD.of call_str_int fun H xs Q ι ah ds d hr rp e q => by
  unfold opStr at e
  split at e
  · split at e
    · rename_i i hz
      cases e
      rw [Bool.and_eq_true, decide_eq_true_eq] at hz
      obtain ⟨v, rfl, h⟩ := rep1 rp
      simp only [RepV] at h
      subst h
      exact ⟨i, rfl, hz.1, q H _ Ext.refl hr (by simp only [RepV]; exact ⟨rfl, hz.2⟩)⟩
    · cases e
  · cases e
/-- int(text) -/
def opIntS : OpL := fun _ ds => match ds with
  | [.str x] => if x.length ≤ 640 then (PySem.intText? x).map .int else none
  | _ => none
theorem cd_intS (c : Ctx X P W) : CallD X P (.type "int") opIntS := CallD.of call_int_str fun H xs Q ι ah ds d hr rp e q => by
  unfold opIntS at e
  split at e
  · split at e
    · rename_i x hz
      rw [Option.map_eq_some_iff] at e
      obtain ⟨n, e1, rfl⟩ := e
      obtain ⟨v, rfl, h⟩ := rep1 rp
      simp only [RepV] at h
      obtain ⟨rfl, _⟩ := h
      exact ⟨x, n, rfl, e1, hz, q H _ Ext.refl hr (by simp only [RepV])⟩
    · cases e
  · cases e
theorem cd_int2 (c : Ctx X P W) : CallD X P (.type "int") (orL opInt opIntS) := (cd_int c).or (cd_intS c)
/-- max, min of three ints -/
def opMax3 : OpL := fun _ ds => match ds with
  | [.int i, .int j, .int k] => some (.int (max (max i j) k))
  | _ => none
def opMin3 : OpL := fun _ ds => match ds with
  | [.int i, .int j, .int k] => some (.int (min (min i j) k))
  | _ => none
theorem nuMax2_int (i j : Int) : nuMax2 (.int i) (.int j) = some (.int (max i j)) := by
  have : nuLt (.int i) (.int j) = some (decide (i < j)) := rfl
  unfold nuMax2
  rw [this]
  by_cases z : i < j
  · simp only [z, decide_true, Option.map, if_true]; congr 2; omega
  · simp only [z, decide_false, Option.map, Bool.false_eq_true, if_false]; congr 2; omega
theorem nuMin2_int (i j : Int) : nuMin2 (.int i) (.int j) = some (.int (min i j)) := by
  have : nuLt (.int j) (.int i) = some (decide (j < i)) := rfl
  unfold nuMin2
  rw [this]
  by_cases z : j < i
  · simp only [z, decide_true, Option.map, if_true]; congr 2; omega
  · simp only [z, decide_false, Option.map, Bool.false_eq_true, if_false]; congr 2; omega
theorem rep3 {K : KL} {N : Nat} {ι : Pl} {H : Hp} {d e f : D} {xs : List V} (r : RepVs K N ι H [d, e, f] xs) : ∃ v w u, xs = [v, w, u] ∧ RepV K N ι H d v ∧ RepV K N ι H e w ∧ RepV K N ι H f u := by
  simp only [RepVs] at r
  obtain ⟨v, t, rfl, h, w, t', rfl, h', u, t2, rfl, h2, rfl⟩ := r
  exact ⟨v, w, u, rfl, h, h', h2⟩
theorem cd_max3 (c : Ctx X P W) : CallD X P (.builtin "max") opMax3 := CallD.of (call_max3Nu c.calm) fun H xs Q ι ah ds d hr rp e q => by
  unfold opMax3 at e
  split at e
  · cases e
    obtain ⟨v, w, u, rfl, h, h', h2⟩ := rep3 rp
    simp only [RepV] at h h' h2
    subst h h' h2
    exact ⟨_, _, _, _, rfl, by unfold nuMax3; rw [nuMax2_int, Option.bind_some, nuMax2_int], q H _ Ext.refl hr (by simp only [RepV])⟩
  · cases e
theorem cd_min3 (c : Ctx X P W) : CallD X P (.builtin "min") opMin3 := CallD.of (call_min3Nu c.calm) fun H xs Q ι ah ds d hr rp e q => by
  unfold opMin3 at e
  split at e
  · cases e
    obtain ⟨v, w, u, rfl, h, h', h2⟩ := rep3 rp
    simp only [RepV] at h h' h2
    subst h h' h2
    exact ⟨_, _, _, _, rfl, by unfold nuMin3; rw [nuMin2_int, Option.bind_some, nuMin2_int], q H _ Ext.refl hr (by simp only [RepV])⟩
  · cases e
/-! ### a sign in a text -/
def opInC : AH → D → D → Option D := fun _ x y => match x, y with
  | .str x, .str z => match x.cps.toList with
    | [c] => some (.bl (decide (c ∈ z.cps.toList)))
    | _ => none
  | _, _ => none
theorem do_inC : DOp X P (compareOp .In) opInC := DOp.of op_in_sign fun H x y Q ι ah a b d hr ra rb e q => by
  unfold opInC at e
  split at e
  · rename_i xx zz
    split at e
    · rename_i cc hc
      cases e
      simp only [RepV] at ra rb
      obtain ⟨rfl, _⟩ := ra
      obtain ⟨rfl, _⟩ := rb
      refine ⟨cc, zz, ?_, rfl, q H _ Ext.refl hr (by simp only [RepV])⟩
      obtain ⟨⟨l⟩⟩ := xx
      simp only at hc
      rw [hc]
    · cases e
  · cases e
/-! ### for c in text -/
def charsD (x : Str) : List D := x.cps.toList.map fun c => .str ⟨#[c]⟩
def iStrD (f : Env → M D) : Env → M Src := fun env => bnd (f env) fun d h => match d with
  | .str x => .ok ⟨charsD x, fun _ => true⟩ h
  | _ => .bad
theorem it_str {N : Nat} {ι : Pl} {ah : AH} {H : Hp} {x : Str} (hx : sOk x = true) : ItOk P ah.length ι H ⟨charsD x, fun _ => true⟩ (Its x) where
  go := fun i d ι2 ah2 H2 e x2 hr2 _ => by
    unfold charsD at e
    rw [List.getElem?_map, Option.map_eq_some_iff] at e
    obtain ⟨c, e1, rfl⟩ := e
    rw [Array.getElem?_toList] at e1
    refine ⟨(Array.getElem?_eq_some_iff.mp e1).1, fun v H3 ⟨eH, c', e2, ev⟩ => ?_⟩
    subst eH ev
    rw [e1] at e2
    cases e2
    refine ⟨Ext.refl, hr2, ?_⟩
    simp only [RepV]
    refine ⟨trivial, ?_⟩
    rw [sOk_iff] at hx ⊢
    obtain ⟨h1, h2⟩ := hx
    refine ⟨?_, by show 1 ≤ sizeLine; decide⟩
    unfold PyData.strOk at *
    rw [Array.all_eq_true] at h1
    obtain ⟨hl, rfl⟩ := Array.getElem?_eq_some_iff.mp e1
    simpa using h1 i hl
  stop := fun ι2 ah2 H2 x2 hr2 _ => by
    show x.cps.size ≤ (charsD x).length
    simp [charsD]
theorem di_str {tg : Expr} (he : DE X P W e f) : DI X P W tg e (iStrD f) :=
  weakI (pi_str he) fun σ H Rr ⟨ι, ah, env, st, q⟩ => ⟨ι, ah, env, st, (q.step (Rp := rV P)).imp fun v H1 ⟨ι1, ah1, d, x1, hr, p, q1⟩ => by
    cases d <;> first
      | exact False.elim q1
      | (simp only [rV, RepV] at p
         obtain ⟨rfl, hx⟩ := p
         exact ⟨_, rfl, q1 ι1 H1 _ Ext.refl hr (it_str (N := 0) hx)⟩)⟩
/-! ### s.split(t) -/
def opSplit (x y : D) : Option D := match x, y with
  | .str x, .str y => if (y.length == 0) = false ∧ x.length + 2 ≤ sizeLine ∧ ((Txt.split x y).all fun z => sOk z) = true then some (.lst ((Txt.split x y).map .str)) else none
  | _, _ => none
def isStrD : D → Bool
  | .str _ => true
  | _ => false
def eSplit (fo fx : Env → M D) : Env → M D := fun env => bnd (fo env) fun o h => if isStrD o then bnd (fx env) (fun x h => match opSplit o x with
  | some d => .ok d h
  | none => .bad) h else .bad
theorem rep_strs {K : KL} {N : Nat} {ι : Pl} {H : Hp} : ∀ {ys : List Str}, (ys.all fun z => sOk z) = true → RepVs K N ι H (ys.map .str) (ys.map V.str)
  | [], _ => by simp [RepVs]
  | y :: ys, h => by
    simp only [List.all_cons, Bool.and_eq_true] at h
    simp only [List.map_cons, RepVs]
    exact ⟨_, _, rfl, by simp only [RepV]; exact ⟨trivial, h.1⟩, rep_strs h.2⟩
theorem de_split {apos pos : Pos} (ho : DE X P W o fo) (he : DE X P W e fx) (hs : starEach [e] X.env = [(false, eval e X.env)] := by rfl) (hbase : attributeBase o "split" X.env (eval o X.env) = eval o X.env := by rfl) (hline : (apos.endLine == pos.line) = true := by rfl) :
    DE X P W (.Call (.Attribute o "split" apos) [e] [] pos) (eSplit fo fx) :=
  weakE (pe_split ho he hs hbase hline) fun σ H Q ⟨ι, ah, env, st, q⟩ => ⟨ι, ah, env, st, (q.step (Rp := rV _)).imp fun v H1 ⟨ι1, ah1, d1, x1, hr1, p1, q1⟩ => by
    split at q1
    case isFalse => exact q1.elim
    rename_i hm
    cases d1 <;> simp only [isStrD, Bool.false_eq_true] at hm
    rename_i x
    simp only [rV, RepV] at p1
    obtain ⟨rfl, hx⟩ := p1
    refine ⟨⟨x, rfl⟩, ι1, ah1, env, st.next x1 hr1, (q1.step (Rp := rV _)).imp fun w H2 ⟨ι2, ah2, d2, x2, hr2, p2, q2⟩ => ?_⟩
    cases e : opSplit (.str x) d2 with
    | none => rw [e] at q2; exact q2.elim
    | some d =>
      rw [e] at q2
      unfold opSplit at e
      split at e
      · rename_i xx yy ex
        obtain rfl : x = xx := by injection ex
        split at e
        · rename_i hz
          cases e
          simp only [rV, RepV] at p2
          obtain ⟨rfl, hy⟩ := p2
          exact ⟨x, yy, rfl, rfl, hz.1, hz.2.1, fun p hp => q2 ι2 _ _ (Ext.fresh hr2 hp) (hr2.fresh hp) (rep_lst hr2 hp (rep_strs hz.2.2))⟩
        · cases e
      · cases e⟩
/-! ### f-strings -/
def txtOf : D → Option Str
  | .str x => if x.length ≤ sizeLine then some x else none
  | .int i => if i.natAbs.log2 < 1920 then some (strI i) else none
  | _ => none
/-- {e} -/
def eFmt (f : Env → M D) : Env → M Str := fun env => bnd (f env) fun d h => match txtOf d with
  | some y => .ok y h
  | none => .bad
def jNil : Str → Env → M Str := fun acc _ => ret acc
def jCons (f : Env → M Str) (k : Str → Env → M Str) : Str → Env → M Str := fun acc env => bnd (f env) fun y h => if (acc ++ y).length ≤ sizeLine then k (acc ++ y) env h else .bad
def eJoin (k : Str → Env → M Str) : Env → M D := fun env => bnd (k Str.empty env) fun out h => if sOk out then .ok (.str out) h else .bad
abbrev rS : Nat → Pl → Hp → Str → V → Prop := fun _ _ _ y v => v = .str y
def DJ1 (X : Cx) (P : Pm) (W : WXT) (e : Expr) (f : Env → M Str) : Prop := PE X e (fun σ H Q => ∃ ι ah env, Sta P ι ah env σ H ∧ Fin rS P W σ ι ah.length H (f env ah) Q)
theorem dj_str {x : Str} {j : Nat} {p : Pos} : DJ1 X P W (.Constant (.str x) j p) (fun _ => ret x) := weakE pe_str fun σ H Q ⟨ι, ah, env, st, q⟩ => q ι H (.str x) Ext.refl st.hp rfl
theorem dj_fmt {p : Pos} (he : DE X P W e f) : DJ1 X P W (.FormattedValue e (-1) none p) (eFmt f) := weakE (pe_fmt he) fun σ H Q ⟨ι, ah, env, st, q⟩ => ⟨ι, ah, env, st, (q.step (Rp := rV P)).imp fun v H1 ⟨ι1, ah1, d, x1, hr, p, q1⟩ => by
  cases e : txtOf d with
  | none => rw [e] at q1; exact q1.elim
  | some y =>
    rw [e] at q1
    unfold txtOf at e
    split at e
    · split at e
      · rename_i x hz
        cases e
        simp only [rV, RepV] at p
        obtain ⟨rfl, _⟩ := p
        exact .inl ⟨_, rfl, hz, q1 ι1 H1 _ Ext.refl hr rfl⟩
      · cases e
    · split at e
      · rename_i i hz
        cases e
        simp only [rV, RepV] at p
        subst p
        exact .inr ⟨i, rfl, hz, q1 ι1 H1 _ Ext.refl hr rfl⟩
      · cases e
    · cases e⟩
structure DJ (X : Cx) (P : Pm) (W : WXT) (es : List Expr) (k : Str → Env → M Str) : Prop where
  ex : ∃ ts, PJ X es ts ∧ ∀ (acc : Str) (σ : L2.St) (H : Hp) (Q : Str → Hp → Prop) (ι : Pl) (ah : AH) (env : Env), Sta P ι ah env σ H → Fin (fun _ _ _ y z => z = y) P W σ ι ah.length H (k acc env ah) Q → tJs ts acc σ H Q
theorem dj_nil : DJ X P W [] jNil := ⟨[], .nil, fun acc σ H Q ι ah env st q => q ι H acc Ext.refl st.hp rfl⟩
theorem dj_cons {es : List Expr} {g : Env → M Str} {k : Str → Env → M Str} (h1 : DJ1 X P W e g) (h2 : DJ X P W es k) : DJ X P W (e :: es) (jCons g k) := by
  obtain ⟨ts, p, w⟩ := h2.ex
  refine ⟨_ :: ts, .cons h1 p, fun acc σ H Q ι ah env st q => ?_⟩
  refine ⟨ι, ah, env, st, (q.step (Rp := rS)).imp fun v H1 ⟨ι1, ah1, y, x1, hr, pv, q1⟩ => ?_⟩
  split at q1
  · rename_i hz
    exact ⟨y, pv, hz, w (acc ++ y) σ H1 Q ι1 ah1 env (st.next x1 hr) q1⟩
  · exact q1.elim
theorem de_join {e1 e2 : Expr} {es : List Expr} {k : Str → Env → M Str} (h : DJ X P W (e1 :: e2 :: es) k) : DE X P W (.JoinedStr (e1 :: e2 :: es) pos) (eJoin k) := by
  obtain ⟨ts, p, w⟩ := h.ex
  refine weakE (pe_joined p) fun σ H Q ⟨ι, ah, env, st, q⟩ => ?_
  refine w Str.empty σ H _ ι ah env st ((q.step (Rp := fun _ _ _ y z => z = y)).imp fun out H1 ⟨ι1, ah1, y, x1, hr, pv, q1⟩ => ?_)
  cases pv
  split at q1
  · rename_i hz
    exact q1 ι1 H1 _ Ext.refl hr (by simp only [rV, RepV]; exact ⟨trivial, hz⟩)
  · exact q1.elim
def eJoin1 (f : Env → M D) : Env → M D := fun env => bnd (eFmt f env) fun out h => if sOk out then .ok (.str out) h else .bad
theorem de_join1 (h : DJ1 X P W e (eFmt f)) : DE X P W (.JoinedStr [e] pos) (eJoin1 f) :=
  weakE (pe_joined1 h) fun σ H Q ⟨ι, ah, env, st, q⟩ => ⟨ι, ah, env, st, (q.step (Rp := rS)).imp fun v H1 ⟨ι1, ah1, y, x1, hr, pv, q1⟩ => by
    cases pv
    split at q1
    · rename_i hz
      exact q1 ι1 H1 _ Ext.refl hr (by simp only [rV, RepV]; exact ⟨trivial, hz⟩)
    · exact q1.elim⟩
/-! ### a list that changes + a list -/
def lstOf (ah : AH) (d : D) : Option (List D) := match d with
  | .lst xs => some xs
  | .obj n => match ah[n]? with
    | some (.lst xs) => some xs
    | _ => none
  | _ => none
theorem lstOf_rep {ι : Pl} {ah : AH} {H : Hp} {d : D} {v : V} {xs : List D} (hr : HRep P ι ah H) (r : RepV P.K ah.length ι H d v) (e : lstOf ah d = some xs) : ∃ p vs, v = .ref p ∧ H p = some (.lst vs) ∧ RepVs P.K ah.length ι H xs vs := by
  unfold lstOf at e
  split at e
  · cases e
    simp only [RepV] at r
    obtain ⟨l, xs, rfl, h1, o1, r1⟩ := r
    exact ⟨l, xs, rfl, h1, r1⟩
  · rename_i n
    split at e
    · rename_i xs' eo
      cases e
      simp only [RepV] at r
      obtain ⟨hn, rfl⟩ := r
      obtain ⟨vs, a1, r1⟩ := hr.at_ n _ eo
      exact ⟨_, vs, rfl, a1, r1⟩
    · cases e
  · cases e
def opAddO : AH → D → D → Option D := fun ah a b => match lstOf ah a, lstOf ah b with
  | some x, some y => if x.length + y.length ≤ sizeLine then some (.lst (x ++ y)) else none
  | _, _ => none
theorem do_addO (c : Ctx X P W) : DOp X P (binaryOp .Add) opAddO := by
  obtain ⟨⟨K0, lm0, lq0⟩, cl0, tb0⟩ := P
  obtain rfl : K0 = X.K := c.k
  intro pins s σ H x y v u Q ι ah a b d I rx ry hr ra rb e q
  unfold opAddO at e
  split at e
  · rename_i xs ys ea eb
    split at e
    · rename_i hz
      cases e
      obtain ⟨l, us, rfl, h1, r1⟩ := lstOf_rep hr ra ea
      obtain ⟨m, vs, rfl, h2, r2⟩ := lstOf_rep hr rb eb
      exact op_cat pins s σ H _ _ v u Q I rx ry ⟨l, m, us, vs, rfl, rfl, h1, h2, by rw [r1.length, r2.length]; exact hz, fun p hp => q _ _ (Ext.fresh hr hp) (hr.fresh hp) (rep_lst hr hp (r1.append r2))⟩
    · cases e
  · cases e
theorem do_addB (c : Ctx X P W) : DOp X P (binaryOp .Add) (orOp opAdd opAddO) := (do_add c).or (do_addO c)
end
end PyD

/-! PyDef: defaults of defs. -/
namespace PyD
open PySem PySem.Spec L2
open PyProof.Rows hiding St

section
variable {X : Cx} {P : Pm} {e : Expr} {es : List Expr} {g : Env → M (List D)} {x : Str} {p pos : Pos} {E : XK} {k : Nat} {f : Addr} {fd : FuncData} {ps : List Str} {gf : List D → M D} {dvs : List V} {dsV : List Value} {dd : List D}
/-- these are appended -/
def aDef (g : Env → M (List D)) (dd : List D) : Env → M (List D) := fun env => bnd (g env) fun ds => ret (ds ++ dd)
theorem da_def (hd : ∀ N ι H, RepVs P.K N ι H dd dvs) {σ : L2.St} {ι : Pl} {ah : AH} {H : Hp} {env : Env} {W : WXT} {kk : List D → M D} {Q : VK} (q : Fin (rV P) P W σ ι ah.length H (bnd (aDef g dd env) kk ah) Q) :
    Fin (rVs P) P W σ ι ah.length H (g env ah) (fun vs H1 => ∃ ι1 ah1 ds, Ext ah.length ι H ah1.length ι1 H1 ∧ HRep P ι1 ah1 H1 ∧ RepVs P.K ah1.length ι1 H1 (ds ++ dd) (vs ++ dvs) ∧ Fin (rV P) P W σ ι1 ah1.length H1 (kk (ds ++ dd) ah1) Q) := by
  have e : bnd (aDef g dd env) kk = bnd (g env) fun ds => kk (ds ++ dd) := by
    funext h
    unfold aDef bnd ret
    cases g env h <;> rfl
  rw [e] at q
  exact (q.step (Rp := rVs P)).imp fun vs H1 ⟨ι1, ah1, ds, x1, hr, rp, q1⟩ => ⟨ι1, ah1, ds, x1, hr, rp.append (hd _ _ _), q1⟩
theorem de_funD (F : FnD X P k f fd ps gf) (hr : Room k X.A) (c : Ctx X P (WI E)) (hg : Gl X x) (hm : X.mg x = some (.ref f)) (hk : PySem.W.keepIn X.K (.ref f) = true) (hb : Binds X.K fd ps dsV) (hv : Vals dvs dsV) (hd : ∀ N ι H, RepVs P.K N ι H dd dvs) (ha : DA X P (WI E) (e :: es) g)
    (hdb : (x == ("__debug__" : Str)) = false := by decide) (he : starEach (e :: es) X.env = (false, eval e X.env) :: starEach es X.env := by rfl) (hpl : (backTo pos (starEach es X.env)).any (·.1) = false := by rfl) :
    DE X P (WI E) (.Call (.Name x p) (e :: es) [] pos) (eFun (arity ps.length gf) (aDef g dd)) :=
  weakE (pe_call F hr hg hm hk hb hv (passI c.tk) ha hdb he hpl) fun σ H Q ⟨ι, ah, env, st, q⟩ => ⟨ι, ah, env, st, (da_def hd q).imp fun vs H1 ⟨ι1, ah1, ds, x1, hr1, rp, q1⟩ => sp_of hr1 rp q1⟩
theorem de_makeD {cn : Nat} (Mk' : Mk X.K (P.cls cn) f) (F : FnD X P k f fd ps gf) (hr : Room (k + 1) X.A) (c : Ctx X P (WI E)) (hg : Gl X x) (hm : X.mg x = some (.ref (P.cls cn))) (hb : Binds X.K fd ps dsV) (hv : Vals dvs dsV) (hd : ∀ N ι H, RepVs P.K N ι H dd dvs) (ha : DA X P (WI E) (e :: es) g)
    (hdb : (x == ("__debug__" : Str)) = false := by decide) (he : starEach (e :: es) X.env = (false, eval e X.env) :: starEach es X.env := by rfl) (hpl : (backTo pos (starEach es X.env)).any (·.1) = false := by rfl) :
    DE X P (WI E) (.Call (.Name x p) (e :: es) [] pos) (eMake cn (arity ps.length gf) (aDef g dd)) :=
  weakE (pe_make Mk' F hr hg hm hb hv (passI c.tk) ha hdb he hpl) fun σ H Q ⟨ι, ah, env, st, q⟩ => ⟨ι, ah, env, st, by
    have e : eMake cn (arity ps.length gf) (aDef g dd) env = bnd (aDef g dd env) fun ds h => (bnd (arity ps.length gf (.obj h.length :: ds)) fun r h2 => match r with
      | .non => .ok (.obj h.length) h2
      | _ => .bad) (h ++ [.ins cn []]) := rfl
    rw [e] at q
    exact (da_def hd q).imp fun vs H1 ⟨ι1, ah1, ds, x1, hr1, rp, q1⟩ a dx ha hdx hne => make_core hr1 rp ha hdx hne q1⟩
/-- a def with defaults -/
abbrev FunE (K : PySem.W.Frag) (x qual : Str) (st : Stmt) (dvs : List V) (f : Addr) (fd : FuncData) : Prop := FunD K x qual (defArgs st) (defBody st) (defScope st) dvs [] f fd
theorem fn_bodyD {prog : Program} {w : World} {K : PySem.W.Frag} {mg : Str → Option Value} {base : Heap} {qual : Str} {st : Stmt} {N : List Str} {fb : Env → M Fl} (F : FunE K x qual st dvs f fd) (S : FnScope N ps (defScope st)) (hK : P.K.fr = K)
    (hbody : ∀ (cdv : Value) (A : Around) (outer : List PySem.Env) (s : Shared) (H : Hp) (E : XK), PySem.W.codeIn K cdv qual = true → fd.code = cdv → Room k (cxOf (L2.CX prog w) prog w K mg base N qual (defScope st) f cdv A outer s H E).A → Ctx (cxOf (L2.CX prog w) prog w K mg base N qual (defScope st) f cdv A outer s H E) P (WI E) →
      PassesOwn (model prog w) (cxOf (L2.CX prog w) prog w K mg base N qual (defScope st) f cdv A outer s H E).A (cxOf (L2.CX prog w) prog w K mg base N qual (defScope st) f cdv A outer s H E).env (cxOf (L2.CX prog w) prog w K mg base N qual (defScope st) f cdv A outer s H E).xe →
      DSs (cxOf (L2.CX prog w) prog w K mg base N qual (defScope st) f cdv A outer s H E) P (WI E) (defBody st) fb) :
    FnOk prog w K mg base (L2.CX prog w) (k + 1) f fd ps (spD P (runB N.length fb) ps.length) := by
  obtain ⟨oc, od, dV, kV, doc, pm, an, cdv, ct, osl, rfl, lk, hcd, _, _⟩ := F.ex
  refine fn_of lk hcd S (fun vs H Q E h => h.1) fun A outer s H vs Q E hr hsp => ?_
  have cc : Ctx (cxOf (L2.CX prog w) prog w K mg base N qual (defScope st) f cdv A outer s H E) P (WI E) := ⟨hK, rfl, S.nd, by have := hr.un; show (A.deeper (envOfC qual (defScope st) s.heap.objs.size f cdv)).units + 200 < _; omega, takes_of (X := cxOf (L2.CX prog w) prog w K mg base N qual (defScope st) f cdv A outer s H E) rfl rfl rfl rfl⟩
  refine ⟨_, hbody cdv A outer s H E hcd rfl hr cc ?_, ?_⟩
  · exact passes_of (X := cxOf (L2.CX prog w) prog w K mg base N qual (defScope st) f cdv A outer s H E) rfl
  · obtain ⟨_, ι, ah, ds, hrp, rp, q⟩ := hsp
    refine ⟨ι, ah, startE N.length ds, ⟨hrp, start_rep rp⟩, ?_⟩
    unfold runB at q
    cases e : fb (startE N.length ds) ah with
    | bad => rw [e] at q; exact q.elim
    | ex c ah' => rw [e] at q; exact fun ι' σ' H' a b => q ι' H' a b
    | ok r ah' =>
      rw [e] at q
      cases r with
      | nx env' => exact fun ι' σ' H' a b => q ι' H' _ a b.hp (by simp only [rV, RepV])
      | rt d => exact q
      | bk env' => exact q.elim
      | ct env' => exact q.elim
theorem fun_codeD {qual : Str} {at_ : He.Defn} {st : Stmt} {cdv : Value} {K : PySem.W.Frag} (F : FunE K x qual st dvs (He.fAd K at_) fd) (h : fd.code = cdv) : cdv = .ref (He.cT K at_).1 := by
  obtain ⟨oc, od, dV, kV, doc, pm, an, cdv', ct, osl, e, lk, hcd, _, _⟩ := F.ex
  obtain ⟨c, hc⟩ := He.codeIn_ref hcd
  have e1 : fd.code = .ref c := by rw [e]; exact hc
  rw [← h, e1]
  exact congrArg _ (He.codeOf_eq lk e1).symm
theorem binds_all {K : PySem.W.Frag} {qual : Str} {st : Stmt} (F : FunE K x qual st dvs f fd) (hd : dvs ≠ [])
    (h : ∀ (T : Addr) (kV doc pm : Value) (an : Option Addr) (cdv ct : Value) (us its : List Value), us.length = ps.length → its.length = dvs.length →
      ∃ k, bindArgs (PySem.W.fnOf x qual (defArgs st) (defBody st) (defScope st) (.ref T) kV doc pm an cdv ct) ⟨us, []⟩ = seqItems? (.ref T) >>= k ∧ k (some its.toArray) = pure (ps.zip (us ++ its.drop dvs.length))) : Binds K fd ps [] := by
  obtain ⟨ds, h1, h2⟩ := F.binds1 (ps := ps) ps.length dvs.length hd (by omega) h
  rw [List.drop_length] at h1
  cases h1
  exact h2
end
end PyD

/-! PyMin: min and max of a list of data (tuples of ints and texts ..), and what is chosen as a test. -/
namespace PyD
open PySem PySem.Spec L2
open PyProof.Rows hiding St

def minDt (ah : AH) (d : D) (ds : List D) : D := ds.foldl (fun a y => if PySem.W.dataLt (encD ah y) (encD ah a) then y else a) d
def maxDt (ah : AH) (d : D) (ds : List D) : D := ds.foldl (fun a y => if PySem.W.dataLt (encD ah a) (encD ah y) then y else a) d
def notNoneD (ah : AH) (d : D) : Bool := match encD ah d with
  | .none => false
  | _ => true
def opMinDt : OpL := fun ah ds => match ds with
  | [d] => match sqOf ah d with
    | .seq true (y :: ys) => if sortOk ah (y :: ys) && (y :: ys).all (notNoneD ah) then some (minDt ah y ys) else none
    | _ => none
  | _ => none
def opMaxDt : OpL := fun ah ds => match ds with
  | [d] => match sqOf ah d with
    | .seq true (y :: ys) => if sortOk ah (y :: ys) && (y :: ys).all (notNoneD ah) then some (maxDt ah y ys) else none
    | _ => none
  | _ => none
section
variable {X : Cx} {P : Pm} {W : WXT}
theorem getD_enc (ah : AH) (ds : List D) (i : Nat) : (ds.map (encD ah)).getD i .none = encD ah (ds.getD i .non) := by
  rw [List.getD_eq_getElem?_getD, List.getD_eq_getElem?_getD, List.getElem?_map]
  cases ds[i]? <;> rfl
theorem min_ix (ah : AH) (y : D) (ys : List D) : (y :: ys).getD (argBest (fun i j => PySem.W.dataLt ((encD ah y :: ys.map (encD ah)).getD i .none) ((encD ah y :: ys.map (encD ah)).getD j .none)) ys.length) .non = minDt ah y ys := by
  have := (PySem.W.argBest_fold (fun a b => PySem.W.dataLt (encD ah a) (encD ah b)) D.non y ys ys.length (Nat.le_refl _)).2
  rw [List.take_length] at this
  have e : (fun i j => PySem.W.dataLt ((encD ah y :: ys.map (encD ah)).getD i .none) ((encD ah y :: ys.map (encD ah)).getD j .none)) = (fun i j => PySem.W.dataLt (encD ah ((y :: ys).getD i D.non)) (encD ah ((y :: ys).getD j D.non))) := by
    funext i j
    have e1 := getD_enc ah (y :: ys) i
    have e2 := getD_enc ah (y :: ys) j
    rw [List.map_cons] at e1 e2
    rw [e1, e2]
  rw [e]
  exact this
theorem max_ix (ah : AH) (y : D) (ys : List D) : (y :: ys).getD (argBest (fun i j => PySem.W.dataLt ((encD ah y :: ys.map (encD ah)).getD j .none) ((encD ah y :: ys.map (encD ah)).getD i .none)) ys.length) .non = maxDt ah y ys := by
  have := (PySem.W.argBest_fold (fun a b => PySem.W.dataLt (encD ah b) (encD ah a)) D.non y ys ys.length (Nat.le_refl _)).2
  rw [List.take_length] at this
  have e : (fun i j => PySem.W.dataLt ((encD ah y :: ys.map (encD ah)).getD j .none) ((encD ah y :: ys.map (encD ah)).getD i .none)) = (fun i j => PySem.W.dataLt (encD ah ((y :: ys).getD j D.non)) (encD ah ((y :: ys).getD i D.non))) := by
    funext i j
    have e1 := getD_enc ah (y :: ys) i
    have e2 := getD_enc ah (y :: ys) j
    rw [List.map_cons] at e1 e2
    rw [e1, e2]
  rw [e]
  exact this
section
variable {prog : Program} {w : World} {A : Around} {E : Value → Shared → Prop} {s : Shared}
theorem min_list_ix {l : Addr} {vs : Array Value} {x : PyData} {xs : List PyData} {as : List Addr} {Q : Value → Shared → Prop} (hh : A.handled = none) (hl : s.heap.IsList l vs) (hr : PySem.ReadsAll s.heap vs.toList (x :: xs) as) (ha : PySem.W.AlikeAll (x :: xs)) (hu : A.units + 1 + PyData.depthAll (x :: xs) < cLine)
    (h : ∀ v h' tk, vs[argBest (fun i j => PySem.W.dataLt ((x :: xs).getD i .none) ((x :: xs).getD j .none)) xs.length]? = some v → (∀ b o, s.heap.get? b = some o → h'.get? b = some o) → Q v { s with heap := h', toks := tk }) :
    wpAny (model prog w) A (call (.builtin "min") [.ref l]) Q E s := by
  have hn : vs.size = xs.length + 1 := PySem.W.readsAll_len hr
  refine PySem.call_min_walkH (PySem.W.iter_listW (A := A.in1) hh hl fun s₂ e W st hfp hw hk => ?_)
  refine ⟨_, _, _, _, _, _, _, s.heap, _, rfl, W, st, hfp, by omega, hw, hk, PySem.W.cmpIn_lt (A := A.in1) hr ha (by show A.units + 1 + _ < _; exact hu), fun v s' hP m => ?_⟩
  obtain ⟨h', tk, rfl, hk'⟩ := PySem.W.moved_old e rfl m
  have e1 : vs.size - 1 = xs.length := by omega
  rw [e1] at hP
  exact h v h' tk hP hk'
theorem max_list_ix {l : Addr} {vs : Array Value} {x : PyData} {xs : List PyData} {as : List Addr} {Q : Value → Shared → Prop} (hh : A.handled = none) (hl : s.heap.IsList l vs) (hr : PySem.ReadsAll s.heap vs.toList (x :: xs) as) (ha : PySem.W.AlikeAll (x :: xs)) (hu : A.units + 1 + PyData.depthAll (x :: xs) < cLine)
    (h : ∀ v h' tk, vs[argBest (fun i j => PySem.W.dataLt ((x :: xs).getD j .none) ((x :: xs).getD i .none)) xs.length]? = some v → (∀ b o, s.heap.get? b = some o → h'.get? b = some o) → Q v { s with heap := h', toks := tk }) :
    wpAny (model prog w) A (call (.builtin "max") [.ref l]) Q E s := by
  have hn : vs.size = xs.length + 1 := PySem.W.readsAll_len hr
  refine PySem.call_max_walkH (PySem.W.iter_listW (A := A.in1) hh hl fun s₂ e W st hfp hw hk => ?_)
  refine ⟨_, _, _, _, _, _, _, s.heap, _, rfl, W, st, hfp, by omega, hw, hk, PySem.W.cmpIn_gt (A := A.in1) hr ha (by show A.units + 1 + _ < _; exact hu), fun v s' hP m => ?_⟩
  obtain ⟨h', tk, rfl, hk'⟩ := PySem.W.moved_old e rfl m
  have e1 : vs.size - 1 = xs.length := by omega
  rw [e1] at hP
  exact h v h' tk hP hk'
end
theorem each_readsAll {h : Heap} {ah : AH} : ∀ {us : List Value} {ds : List D}, PySem.W.EachIs (fun v d => ∃ as, Reads h v (encD ah d) as) us ds → ∃ as, PySem.ReadsAll h us (ds.map (encD ah)) as
  | _, _, .nil => ⟨_, PySem.ReadsAll.nil⟩
  | _, _, .cons ⟨a, h1⟩ t => by
    obtain ⟨as, h2⟩ := each_readsAll t
    exact ⟨_, PySem.ReadsAll.cons h1 h2⟩
theorem depthAll_le {l : List PyData} {n : Nat} (h : ∀ d ∈ l, d.depth ≤ n) : PyData.depthAll l ≤ n := by
  induction l with
  | nil => exact Nat.zero_le _
  | cons x xs ih => 
    show max x.depth (PyData.depthAll xs) ≤ n
    exact Nat.max_le.mpr ⟨h x List.mem_cons_self, ih fun d hd => h d (List.mem_cons_of_mem _ hd)⟩
theorem mm_core {pins : List (Addr × Obj)} {σ : L2.St} {H : Hp} {s : Shared} {ι : Pl} {ah : AH} {y : D} {ys : List D} {vs : List V} {us : List Value} (c : Ctx X P W) (I : L2.Inv X pins σ H s) (hr : HRep P ι ah H)
    (rp : RepVs P.K ah.length ι H (y :: ys) vs) (r : Vals vs us) (ok : (sortOk ah (y :: ys) && (y :: ys).all (notNoneD ah)) = true) :
    (∃ as, PySem.ReadsAll s.heap us (encD ah y :: ys.map (encD ah)) as) ∧ PySem.W.AlikeAll (encD ah y :: ys.map (encD ah)) ∧ PyData.depthAll (encD ah y :: ys.map (encD ah)) ≤ 60 := by
  rw [Bool.and_eq_true] at ok
  obtain ⟨ok, nn⟩ := ok
  unfold sortOk at ok
  simp only [Bool.and_eq_true, decide_eq_true_eq] at ok
  obtain ⟨⟨⟨o1, o2⟩, _⟩, _⟩ := ok
  rw [List.all_eq_true] at o1 o2 nn
  simp only [Bool.and_eq_true, decide_eq_true_eq] at o1
  obtain ⟨e1, e2⟩ := each_reads c I hr (fun d hd => (o1 d hd).1) rp r
  rw [← List.map_cons]
  refine ⟨each_readsAll e2, ⟨fun d hd d' hd' => ?_, fun d hd => ?_⟩, depthAll_le fun d hd => ?_⟩
  · obtain ⟨b, hb, rfl⟩ := List.mem_map.mp hd
    obtain ⟨b', hb', rfl⟩ := List.mem_map.mp hd'
    exact List.all_eq_true.mp (o2 b hb) b' hb'
  · obtain ⟨b, hb, rfl⟩ := List.mem_map.mp hd
    have := nn b hb
    unfold notNoneD at this
    intro z
    rw [z] at this
    cases this
  · obtain ⟨b, hb, rfl⟩ := List.mem_map.mp hd
    exact (o1 b hb).2
theorem cd_minDt (c : Ctx X P W) : CallD X P (.builtin "min") opMinDt := by
  obtain ⟨⟨K0, lm0, lq0⟩, cl0, tb0⟩ := P
  obtain rfl : K0 = X.K := c.k
  intro pins s σ H xs us Q ι ah ds d I r hr rp e q
  unfold opMinDt at e
  split at e
  · obtain ⟨v, rfl, h⟩ := rep1 rp
    split at e
    · rename_i y ys es
      split at e
      · rename_i ok
        cases e
        obtain ⟨a, vs, rfl, hs, rr⟩ := sq_seq hr h es
        rw [Vals.ref1 r]
        obtain ⟨its, rv, hl, _⟩ := I.list hs
        obtain ⟨⟨as, h1⟩, h2, h3⟩ := mm_core c I hr rr rv ok
        refine min_list_ix (vs := its.toArray) (I.ok.hd c.calm) hl.isList (by simpa using h1) h2 (by have := c.un; omega) fun v h' tk hv hk => ?_
        rw [List.getElem?_toArray, List.length_map] at hv
        have hi := min_ix ah y ys
        generalize argBest (fun i j => PySem.W.dataLt ((encD ah y :: ys.map (encD ah)).getD i .none) ((encD ah y :: ys.map (encD ah)).getD j .none)) ys.length = i at hv hi
        obtain ⟨x, hx⟩ : ∃ x, vs[i]? = some x := by
          have z := (List.getElem?_eq_some_iff.mp hv).1
          have z2 := rv.length
          exact ⟨_, List.getElem?_eq_getElem (by omega)⟩
        obtain ⟨x', hx', rx⟩ := rv.get hx
        rw [hx'] at hv
        cases hv
        have e3 : (y :: ys)[i]? = some ((y :: ys).getD i .non) := by
          have hl1 : i < (y :: ys).length := by
            have z := (List.getElem?_eq_some_iff.mp hx).1
            have z2 := rr.length
            omega
          rw [List.getD_eq_getElem?_getD, List.getElem?_eq_getElem hl1]; rfl
        exact ⟨x, H, I.kept hk, rx, q H _ Ext.refl hr (by rw [← hi]; exact rr.getV e3 hx)⟩
      · cases e
    · cases e
  · cases e
theorem cd_maxDt (c : Ctx X P W) : CallD X P (.builtin "max") opMaxDt := by
  obtain ⟨⟨K0, lm0, lq0⟩, cl0, tb0⟩ := P
  obtain rfl : K0 = X.K := c.k
  intro pins s σ H xs us Q ι ah ds d I r hr rp e q
  unfold opMaxDt at e
  split at e
  · obtain ⟨v, rfl, h⟩ := rep1 rp
    split at e
    · rename_i y ys es
      split at e
      · rename_i ok
        cases e
        obtain ⟨a, vs, rfl, hs, rr⟩ := sq_seq hr h es
        rw [Vals.ref1 r]
        obtain ⟨its, rv, hl, _⟩ := I.list hs
        obtain ⟨⟨as, h1⟩, h2, h3⟩ := mm_core c I hr rr rv ok
        refine max_list_ix (vs := its.toArray) (I.ok.hd c.calm) hl.isList (by simpa using h1) h2 (by have := c.un; omega) fun v h' tk hv hk => ?_
        rw [List.getElem?_toArray, List.length_map] at hv
        have hi := max_ix ah y ys
        generalize argBest (fun i j => PySem.W.dataLt ((encD ah y :: ys.map (encD ah)).getD j .none) ((encD ah y :: ys.map (encD ah)).getD i .none)) ys.length = i at hv hi
        obtain ⟨x, hx⟩ : ∃ x, vs[i]? = some x := by
          have z := (List.getElem?_eq_some_iff.mp hv).1
          have z2 := rv.length
          exact ⟨_, List.getElem?_eq_getElem (by omega)⟩
        obtain ⟨x', hx', rx⟩ := rv.get hx
        rw [hx'] at hv
        cases hv
        have e3 : (y :: ys)[i]? = some ((y :: ys).getD i .non) := by
          have hl1 : i < (y :: ys).length := by
            have z := (List.getElem?_eq_some_iff.mp hx).1
            have z2 := rr.length
            omega
          rw [List.getD_eq_getElem?_getD, List.getElem?_eq_getElem hl1]; rfl
        exact ⟨x, H, I.kept hk, rx, q H _ Ext.refl hr (by rw [← hi]; exact rr.getV e3 hx)⟩
      · cases e
    · cases e
  · cases e
/-! ### a if c else b, as a test -/
def bIf (c a b : Env → M Bool) : Env → M Bool := fun env => bnd (c env) fun t => if t then a env else b env
variable {e o a b : Expr} {gc ga gb : Env → M Bool} {pos : Pos}
theorem dt_if {cc : Expr} (hc : DT X P W cc gc) (ha : DT X P W a ga) (hb : DT X P W b gb) : DT X P W (.IfExp cc a b pos) (bIf gc ga gb) := by
  refine ⟨fun pins s σ H Q I h => ?_⟩
  obtain ⟨ι, ah, env, st, q⟩ := h
  refine PyProof.Rows.isTrue_IfExp (thn (hc.run pins s σ H _ I ⟨ι, ah, env, st, q.step (Rp := rB)⟩) fun t s1 ⟨H1, I1, ι1, ah1, d, x1, hr, p, q1⟩ => ?_)
  cases p
  cases t with
  | true => exact ha.run pins s1 σ H1 Q I1 ⟨ι1, ah1, env, st.next x1 hr, q1⟩
  | false => exact hb.run pins s1 σ H1 Q I1 ⟨ι1, ah1, env, st.next x1 hr, q1⟩
end
end PyD

/-! PyEnumT: enumerate of a tuple. -/
namespace PyD
open PySem PySem.Spec L2
open PyProof.Rows hiding St
open PySem.AutoSeq1 (wpAny_loadPart')

theorem meets_enum_newT (l : Addr) (items : Array Value) (n : Nat) (dct : Option Addr) (sl : Array (Option Value)) :
    Meets (Builtin.«enumerate.__new__» ⟨[.type "enumerate", .ref l], []⟩) (fun _ R s => s.heap.get? l = some { cls := .type "tuple", dict := dct, data := .seq items n, slots := sl } ∧
      R (.ok (.ret (.ref (s.heap.push { cls := .type "tuple_iterator", data := .fields #[.ref l, .int 0 0] }).objs.size)))
        { s with heap := (s.heap.push { cls := .type "tuple_iterator", data := .fields #[.ref l, .int 0 0] }).push { cls := .type "enumerate", data := .fields #[.none, .bool false, .ref s.heap.objs.size, rawInt 0, .none, .none] } }) :=
  .of_wp fun prog w A R s h => by
    obtain ⟨hp, g, d, tk, os⟩ := s; obtain ⟨hl, h⟩ := h
    have hsub := sub_enumerate
    have hL : Heap.IsTuple (Shared.heap ⟨hp, g, d, tk, os⟩) l items := ⟨_, hl, rfl, n, rfl⟩
    wp_walk using wpAny_loadPart' hl
    refine wpAny_stack_any fun st => wpAny_pure ?_
    split
    · rename_i c _ _ _ _ _
      cases (c == Value.type "enumerate")
      · wp_walk using wpAny_loadPart' hl, wpAny_pyIter_tuple hL
        exact ⟨_, rfl, h⟩
      · wp_walk using wpAny_loadPart' hl, wpAny_pyIter_tuple hL
        exact ⟨_, rfl, h⟩
    · wp_walk using wpAny_loadPart' hl, wpAny_pyIter_tuple hL
      exact ⟨_, rfl, h⟩
section
variable {prog : Program} {w : World} {A : Around} {E : Value → Shared → Prop} {s : Shared}
theorem call_enumerate_tuple {l : Addr} {items : Array Value} {Q : Value → Shared → Prop} (hL : s.heap.IsTuple l items)
    (h : ∀ h', IsEnum h' (s.heap.objs.size + 1) s.heap.objs.size 0 .none → h'.IsTupleIter s.heap.objs.size l 0 → h'.objs.size = s.heap.objs.size + 2 →
      (∀ b o, s.heap.get? b = some o → h'.get? b = some o) → Q (.ref (s.heap.objs.size + 1)) { s with heap := h' }) :
    wpAny (model prog w) A (call (.type "enumerate") [.ref l]) Q E s := by
  obtain ⟨⟨c, dct, dt, sl⟩, hl, hc, n, hd⟩ := hL
  replace hc : c = .type "tuple" := hc
  replace hd : dt = .seq items n := hd
  subst hc hd
  refine callType_new F.called_enumerate (by decide) (F.typeCall_enumerate_1 _) (F.newCall_enumerate_1 _) (fun obj => F.args_object_init_2 obj _) F.entry_enumerate_new
    (meets_enum_newT l items n dct sl) ⟨hl, ?_⟩
  have hz : (s.heap.push { cls := .type "tuple_iterator", data := .fields #[.ref l, .int 0 0] }).objs.size = s.heap.objs.size + 1 := Heap.size_push ..
  show _ ∧ _
  rw [hz]
  have he : IsEnum ((s.heap.push { cls := .type "tuple_iterator", data := .fields #[.ref l, .int 0 0] }).push
      { cls := .type "enumerate", data := .fields #[.none, .bool false, .ref s.heap.objs.size, rawInt 0, .none, .none] }) (s.heap.objs.size + 1) s.heap.objs.size 0 .none := by
    have := Heap.get?_push_size (s.heap.push { cls := .type "tuple_iterator", data := .fields #[.ref l, .int 0 0] })
      (o := { cls := .type "enumerate", data := .fields #[.none, .bool false, .ref s.heap.objs.size, rawInt 0, .none, .none] }) rfl
    rw [hz] at this; exact this
  refine ⟨⟨_, he, rfl⟩, h _ he ⟨_, Heap.get?_push_of_some _ (Heap.get?_push_size _ rfl), rfl, rfl⟩ (by rw [Heap.size_push, hz]) fun b o x => Heap.get?_push_of_some _ (Heap.get?_push_of_some _ x)⟩
end
section
variable {prog : Program} {w : World} {A : Around} {E : Value → Shared → Prop} {s : Shared}
theorem wpAny_pyNext_enum_end_tup {e it l : Addr} {i : Nat} {items : Array Value} {old : Value} {Q : Option Value → Shared → Prop} (hh : A.handled = none)
    (he : IsEnum s.heap e it i old) (hit : s.heap.IsTupleIter it l i) (hl : s.heap.IsTuple l items) (hx : items[i]? = none)
    (hQ : ∀ h', Heap.ExtBut it s.heap h' → Q none { s with heap := h' }) : wpAny (model prog w) A (pyNext (.ref e)) Q E s := by
  have hT : s.TypeIs (.ref e) "enumerate" := ⟨_, he, rfl⟩
  unfold pyNext
  refine wpAny_bind (wpAny_attempt (wpAny_callSpecial?_slot (name := Str.ofString "__next__") hT F.slot_enumerate_next
    (wpAny_call_entry F.slot_enumerate_next hT F.entry_enumerate_next ?_ (F.args_enumerate_next_1 _))))
  show wpAny _ _ (field (.ref e) 2 >>= _) _ _ _
  refine wpAny_bind (wpAny_field he rfl (x := .ref it) rfl ?_)
  refine wpAny_bind (wpAny_nextOf_tuple_end hh hit hl hx fun h' x he' hx' => ?_)
  obtain ⟨o, ho, hc⟩ := hx'
  refine wpAny_bind (wpAny_isInstance (T := "StopIteration") (b := true) ⟨o, ho, hc⟩ isSubtype_stop ?_)
  exact wpAny_pure (hQ _ he')
end
/-- the tuple at a, each item in a new pair -/
def Iet (K : PySem.W.Frag) (a : Addr) : It :=
  ⟨fun i H => ∃ (xs : List V) (x : V), SqT K H a xs ∧ xs[i]? = some x, fun i H v H' => ∃ T x, v = .ref T ∧ H T = none ∧ H' = upd H T (.tup [.int (i : Nat), x]) ∧ ∀ xs, SqT K H a xs → xs[i]? = some x, fun i H => ∃ xs : List V, SqT K H a xs ∧ xs.length ≤ i⟩
theorem turn_enumT {P : Program} {w : World} {K : PySem.W.Frag} {elts : List Expr} {kk : Nat} {tpos : Pos} (a e it : Addr) (hae : a ≠ it) (hae2 : a ≠ e) :
    Turn P w K (.Tuple elts kk tpos) (Iet K a) [e, it] e (fun i h => (∃ old, IsEnum h e it ((i : Nat) : Int) old) ∧ h.IsTupleIter it a i ∧ e ≠ it) where
  mem := by simp
  obj := fun i h st b hb => by
    obtain ⟨⟨old, he⟩, ⟨o, ho, hc, hd⟩, _⟩ := st
    have e' : b = e ∨ b = it := by simpa using hb
    rcases e' with z | z
    · rw [z]; exact ⟨_, he, fun v q => nomatch q⟩
    · rw [z]; exact ⟨o, ho, fun v q => by rw [hd] at q; cases q⟩
  keep := fun i h h' st k => let ⟨⟨old, he⟩, hi, hne⟩ := st; ⟨⟨old, k e (by simp) _ he⟩, hi.at fun o q => k it (by simp) o q, hne⟩
  item := by
    intro X hP hw hK hc i pins s σ H E I hf st hg
    subst hP hw hK
    obtain ⟨⟨old, he⟩, hit, hne⟩ := st
    obtain ⟨xs, x, hq, hx⟩ := hg
    obtain ⟨its, rv, p, hz⟩ := I.tuple hq
    obtain ⟨u, hu, ru⟩ := rv.get hx
    have hel : e < s.heap.objs.size := Heap.lt_size he
    have hil : it < s.heap.objs.size := by obtain ⟨_, q, _⟩ := hit; exact Heap.lt_size q
    have hlt : i < its.length := (List.getElem?_eq_some_iff.mp hu).1
    refine wpAny_pyNext_enum_itemD (Draws.tuple (A := X.A.in1) (I.ok.hd hc) it a hae its.toArray) he ⟨hit, p⟩ (by simpa using hlt) hne (by simp; exact ⟨hne, fun z => hae2 z.symm⟩) fun x1 h' tk hP ho hst hT hsz hk => ?_
    have ex1 : u = x1 := by
      have : its[i]? = some x1 := by simpa using hP
      rw [hu] at this; cases this; rfl
    subst ex1
    obtain ⟨hit', hp'⟩ := hst
    refine ⟨_, rfl, wpAny_letOwnedTupleGo_enum (s := { s with heap := h', toks := tk + 1 }) ho fun h'' he' sb => ?_⟩
    have hT2 : h''.get? s.heap.objs.size = some { cls := .type "tuple", data := .seq #[.int i tk, u] } := (sb.2 _ (Nat.ne_of_gt hel)).trans hT
    have new : ObjOk X.prog X.w (upd H s.heap.objs.size (.tup [.int (i : Nat), x])) h'' s.heap.objs.size (.tup [.int (i : Nat), x]) :=
      ⟨by show 2 ≤ sizeLine; decide, [.int i tk, u], .cons ⟨_, rfl⟩ (.cons ru .nil), ⟨_, hT2, rfl, _, rfl⟩⟩
    have I1 : Inv X pins σ (upd H s.heap.objs.size (.tup [.int (i : Nat), x])) { s with heap := h'', toks := tk + 1 } :=
      I.turnedNew (ch := [e, it]) (fun b ob hb q => (sb.2 b (fun z => hb (by simp [z]))).trans (hk b ob (fun z => hb (by simp [z])) (fun z => hb (by simp [z])) q)) hf (Nat.le_refl _) new
    refine ⟨.ref s.heap.objs.size, _, I1, rfl, ⟨_, x, rfl, I.hok.fresh (Nat.le_refl _), rfl, fun ys hy => by rw [I.tuple_inj hy hq]; exact hx⟩, ⟨⟨u, ?_⟩, hit'.at fun o q => (sb.2 it (Ne.symm hne)).trans q, hne⟩, fun b hb => ?_⟩
    · have e1 : ((i + 1 : Nat) : Int) = (i : Int) + 1 := by omega
      rw [e1]; exact he'
    · have hb' : b < s.heap.objs.size := by
        have e' : b = e ∨ b = it := by simpa using hb
        rcases e' with z | z
        · rw [z]; exact hel
        · rw [z]; exact hil
      rw [upd_ne (Nat.ne_of_lt hb')]
      exact (hf b hb).1
  done := by
    intro X hP hw hK hc i pins s σ H E I hf st hg
    subst hP hw hK
    obtain ⟨⟨old, he⟩, hit, hne⟩ := st
    obtain ⟨xs, hq, hx⟩ := hg
    obtain ⟨its, rv, p, hz⟩ := I.tuple hq
    obtain ⟨f0, f1, f2, f3, f4, f5⟩ := hf it (by simp)
    have hl := rv.length
    refine wpAny_pyNext_enum_end_tup (I.ok.hd hc) he hit p (by simp; omega) fun h' eb => ⟨rfl, I.turned (t' := s.toks) (fun b o hb q => eb b o hb q) f0 f1 f3 f4 f5⟩
  self := fun A i s Q E st h => let ⟨⟨_, he⟩, _⟩ := st; wpAny_pyIter_enum he h
def iEnumT (K : PySem.W.Frag) (ta : TA) : TI := fun σ H R => ta σ H fun vs H1 => ∃ a xs, vs = [.ref a] ∧ SqT K H1 a xs ∧ R (Iet K a) H1
theorem pi_enumT {X : Cx} {e : Expr} {ta : TA} {p pos tpos : Pos} {elts : List Expr} {kk : Nat} (hg : Gl X "enumerate") (hm : X.mg "enumerate" = none) (ha : PA X [e] ta) (hs : starEach [e] X.env = [(false, eval e X.env)] := by rfl) :
    PI X (.Tuple elts kk tpos) (.Call (.Name "enumerate" p) [e] [] pos) (iEnumT X.K ta) := by
  refine ⟨fun pins s σ H R I h => ?_⟩
  refine Call_ (ld_blt I hg hm boot_enumerate (PyProof.Rows.callWith_type1 (thn (ha.run pos pins s σ H _ I h) fun us s1 ⟨vs, H1, I1, r1, q1⟩ => ?_) hs rfl))
  obtain ⟨a, xs, ex, hq, q⟩ := q1
  subst ex
  cases r1 with
  | cons r rr =>
    cases rr
    cases r
    obtain ⟨its, rv, p', hz⟩ := I1.tuple hq
    have hal : a < s1.heap.objs.size := by obtain ⟨o, ho, _⟩ := p'; exact Heap.lt_size ho
    refine call_enumerate_tuple p' fun h' he hit hsz hk => wpAny_pyIter_enum he ?_
    have I2 : Inv X pins σ H1 { s1 with heap := h' } := I1.kept (t' := s1.toks) hk
    refine ⟨s1.heap.objs.size + 1, [s1.heap.objs.size + 1, s1.heap.objs.size], _, _, H1, rfl, I2, turn_enumT a (s1.heap.objs.size + 1) s1.heap.objs.size (Nat.ne_of_lt hal) (Nat.ne_of_lt (Nat.lt_succ_of_lt hal)), ⟨⟨.none, he⟩, hit, Nat.succ_ne_self _⟩, fun b hb => ?_, q⟩
    have e' : b = s1.heap.objs.size + 1 ∨ b = s1.heap.objs.size := by simpa using hb
    have hle : s1.heap.objs.size ≤ b := by
      rcases e' with z | z
      · rw [z]; exact Nat.le_add_right _ _
      · rw [z]; exact Nat.le_refl _
    exact I1.fpOk hle (I1.hok.fresh hle)
section
variable {X : Cx} {P : Pm} {W : WXT}
/-- enumerate(a list or a tuple) -/
def enumA : List D → M Src := fun ds h => match ds with
  | [a] => match sqOf h a, srcSeq h a with
    | .seq _ _, some s => .ok ⟨enumD 0 s.xs, s.ok⟩ h
    | _, _ => .bad
  | _ => .bad
def iEnumA (g : Env → M (List D)) : Env → M Src := fun env => bnd (g env) enumA
theorem it_enumT {N : Nat} {ι : Pl} {H : Hp} {a : Addr} {s : Src} (h1 : SeqIs P N ι H false a s) : ItOk P N ι H ⟨enumD 0 s.xs, s.ok⟩ (Iet P.K.fr a) where
  go := fun i d ι2 ah2 H2 e x2 hr2 k => by
    obtain ⟨vs, a1, r1⟩ := h1.run ι2 ah2 H2 x2 hr2 k
    obtain ⟨d1, e1, rfl⟩ := enumD_get e
    obtain ⟨v, f1, p1⟩ := r1.get e1
    refine ⟨⟨vs, v, a1, f1⟩, fun x H3 ⟨T, x', ex, hT, eH, y1⟩ => ?_⟩
    subst ex eH
    have e3 := y1 vs a1
    rw [f1] at e3
    cases e3
    exact ⟨Ext.fresh hr2 hT, hr2.fresh hT, rep_tup hr2.notup hT (by simp only [RepVs, RepV]; exact ⟨_, _, rfl, by rw [Nat.zero_add], v, _, rfl, p1, rfl⟩)⟩
  stop := fun ι2 ah2 H2 x2 hr2 k => by
    obtain ⟨vs, a1, r1⟩ := h1.run ι2 ah2 H2 x2 hr2 k
    refine ⟨vs, a1, ?_⟩
    rw [r1.length, enumD_len]
    exact Nat.le_refl _
theorem di_enumA {e : Expr} {ga : Env → M (List D)} {p pos tpos : Pos} {elts : List Expr} {kk : Nat} (c : Ctx X P W) (hg : Gl X "enumerate") (hm : X.mg "enumerate" = none) (ha : DA X P W [e] ga)
    (hs : starEach [e] X.env = [(false, eval e X.env)] := by rfl) : DI X P W (.Tuple elts kk tpos) (.Call (.Name "enumerate" p) [e] [] pos) (iEnumA ga) := by
  obtain ⟨⟨K0, lm0, lq0⟩, cl0, tb0⟩ := P
  obtain rfl : K0 = X.K := c.k
  refine weakI (pi_or (pi_enum hg hm ha hs) (pi_enumT hg hm ha hs)) fun σ H Rr ⟨ι, ah, env, st, q⟩ => ?_
  have q1 := q.step (Rp := rVs ⟨⟨X.K, lm0, lq0⟩, cl0, tb0⟩)
  cases e : ga env ah with
  | bad => rw [e] at q1; exact q1.elim
  | ex cc ah' =>
    refine .inl ⟨ι, ah, env, st, ?_⟩
    rw [e] at q1 ⊢
    exact q1
  | ok ds ah1 =>
    have en : iEnumA ga env ah = enumA ds ah1 := by unfold iEnumA bnd; rw [e]
    rw [en] at q
    match ds, e, q with
    | [], _, q => exact q.elim
    | _ :: _ :: _, _, q => exact q.elim
    | [d1], e, q =>
      dsimp only [enumA] at q
      split at q
      · rename_i isL ys s a1 a2
        cases isL with
        | true =>
          refine .inl ⟨ι, ah, env, st, ?_⟩
          rw [e]
          intro ι1 H1 v x1 hr1 r1
          simp only [rVs, RepVs] at r1
          obtain ⟨v, r, rfl, p1, rfl⟩ := r1
          obtain ⟨a, rfl, s1, ok1⟩ := seq_is hr1 p1 a1 a2
          obtain ⟨vs, v1, _⟩ := s1.run ι1 ah1 H1 Ext.refl hr1 ok1
          exact ⟨a, vs, rfl, v1, q ι1 H1 _ x1 hr1 (it_enum s1)⟩
        | false =>
          refine .inr ⟨ι, ah, env, st, ?_⟩
          rw [e]
          intro ι1 H1 v x1 hr1 r1
          simp only [rVs, RepVs] at r1
          obtain ⟨v, r, rfl, p1, rfl⟩ := r1
          obtain ⟨a, rfl, s1, ok1⟩ := seq_is hr1 p1 a1 a2
          obtain ⟨vs, v1, _⟩ := s1.run ι1 ah1 H1 Ext.refl hr1 ok1
          exact ⟨a, vs, rfl, v1, q ι1 H1 _ x1 hr1 (it_enumT s1)⟩
      · exact q.elim
end
end PyD

/-! PyLib2: more lemmas for the mathematics of the laws. -/
namespace PyD
open PySem PySem.Spec L2
open PyProof.Rows hiding St
section
variable {h u : AH} {env : Env} {E : Nat → AH → Prop}
abbrev Rise (rows : List Pr) : Prop := rows.Pairwise fun r s => r.1 < s.1
theorem adj {rows : List Pr} (hr : Rise rows) : ∀ p ∈ rows.zip rows.tail, p.1.1 < p.2.1 := by
  induction rows with
  | nil => intro p hp; cases hp
  | cons a l ih =>
    cases l with
    | nil => intro p hp; cases hp
    | cons b l =>
      unfold Rise at hr ih
      rw [List.pairwise_cons] at hr
      intro p hp
      simp only [List.tail_cons, List.zip_cons_cons, List.mem_cons] at hp
      rcases hp with rfl | hp
      · exact hr.1 b List.mem_cons_self
      · exact ih hr.2 p hp
theorem zipD_map {β γ : Type} (f : β → D) (g : γ → D) : ∀ (xs : List β) (ys : List γ), zipD (xs.map f) (ys.map g) = (xs.zip ys).map fun p => .tup [f p.1, g p.2]
  | [], _ => rfl
  | _ :: _, [] => rfl
  | x :: xs, y :: ys => by simp only [List.map_cons, zipD, List.zip_cons_cons, zipD_map f g xs ys]
theorem pairD_map {β γ : Type} (f : β → D) (g : γ → D) : ∀ (xs : List β) (ys : List γ), pairD (xs.map f) (ys.map g) = (xs.zip ys).map fun p => .tup [f p.1, g p.2]
  | [], _ => rfl
  | _ :: _, [] => rfl
  | x :: xs, y :: ys => by
    have := pairD_map f g xs ys
    simp only [pairD] at this ⊢
    simp only [List.map_cons, List.zipWith_cons_cons, List.zip_cons_cons, this]
theorem cut_tail {α : Type} (xs : List α) : cutL xs (some 1) none = xs.tail := by
  unfold cutL
  rw [HT.sIx_none]
  have : HT.sIx xs.length 0 (some 1) = min 1 xs.length := HT.sIx_nat _ _ 1
  rw [this]
  cases xs with
  | nil => rfl
  | cons x r => simp
theorem wp_iZipD {g : Env → M (List D)} {Q : Src → AH → Prop} {E : Nat → AH → Prop} {xs ys : List D} (w : Wp (g env) h (fun ds h' => ds = [.lst xs, .lst ys] ∧ Q ⟨zipD xs ys, fun _ => true⟩ h') E) : Wp (iZipD g env) h Q E := by
  unfold iZipD
  rw [wp_bnd]
  refine w.impQ ?_
  rintro _ h' ⟨rfl, q⟩
  exact q
def mxI (vs : List Int) : Int := vs.foldl max (vs.headD 0)
def mnI (vs : List Int) : Int := vs.foldl min (vs.headD 0)
theorem opMaxL_ne {vs : List Int} (hv : vs ≠ []) : opMaxL h [.lst (vs.map D.int)] = some (.int (mxI vs)) := by
  cases vs with
  | nil => exact absurd rfl hv
  | cons i is => simp only [opMaxL, sqOf, intsD_ints]; rfl
theorem opMinL_ne {vs : List Int} (hv : vs ≠ []) : opMinL h [.lst (vs.map D.int)] = some (.int (mnI vs)) := by
  cases vs with
  | nil => exact absurd rfl hv
  | cons i is => simp only [opMinL, sqOf, intsD_ints]; rfl
theorem opSum_ints (vs : List Int) : opSum h [.lst (vs.map D.int)] = some (.int vs.sum) := by
  simp only [opSum, sqOf, intsD_ints, Option.map]
theorem set_last {x y : O} : (h ++ [x]).set h.length y = h ++ [y] := by simp
theorem get_last {y : O} : (h ++ [y])[h.length]? = some y := by simp
theorem last_ok {vs : List Int} (hv : vs ≠ []) : ixD h (.lst (vs.map D.int)) (.int (-1)) = some (.int (vs.getLastD 0)) := atI_last D.int 0 vs hv
theorem ite_cond {c : Prop} [Decidable c] {a b : D} : (if c then (some a : Option D) else some b) = some (if c then a else b) := by split <;> rfl
theorem sq_last {lk : Bool} {kvs : List (D × D)} : sqOf (h ++ [O.dct lk kvs]) (.obj h.length) = .map kvs := by simp only [sqOf, get_last]
theorem sorted_head {vs : List Int} (hv : vs ≠ []) : ∃ s t, isort leI vs = s :: t ∧ s = mnI vs ∧ (s :: t).getLastD 0 = mxI vs := by
  have pm := isort_perm vs
  have so := isort_sorted vs
  cases e : isort leI vs with
  | nil => rw [e] at pm; exact absurd pm.symm.eq_nil hv
  | cons s t =>
    rw [e] at pm so
    refine ⟨s, t, rfl, ?_, ?_⟩
    · refine (min_mem (pm.mem_iff.mp List.mem_cons_self) fun y hy => ?_).symm
      have hy' := pm.mem_iff.mpr hy
      rcases List.mem_cons.mp hy' with z | z
      · omega
      · exact (List.pairwise_cons.mp so).1 y z
    · have hl : (s :: t).getLastD 0 = (s :: t).getLast (by simp) := by
        rw [List.getLastD_eq_getLast?, List.getLast?_eq_some_getLast (by simp)]; rfl
      rw [hl]
      refine (max_mem (pm.mem_iff.mp (List.getLast_mem _)) fun y hy => ?_).symm
      have hy' := pm.mem_iff.mpr hy
      have key : ∀ (l : List Int) (ne : l ≠ []), l.Pairwise (· ≤ ·) → ∀ y ∈ l, y ≤ l.getLast ne := by
        intro l
        induction l with
        | nil => intro ne; exact absurd rfl ne
        | cons a l ih =>
          intro ne hp y hy
          cases l with
          | nil => simp at hy; simp [hy]
          | cons b l =>
            rw [List.pairwise_cons] at hp
            rw [List.getLast_cons (by simp)]
            rcases List.mem_cons.mp hy with q | q
            · have := hp.1 _ (List.getLast_mem (l := b :: l) (by simp))
              omega
            · exact ih (by simp) hp.2 y q
      exact key _ _ so y hy'
theorem get_mid {x : O} : (h ++ [x] ++ u)[h.length]? = some x := by simp
theorem set_mid {x y : O} : (h ++ [x] ++ u).set h.length y = h ++ [y] ++ u := by simp
theorem isl_mid {xs : List D} : isLstO (h ++ [.lst xs] ++ u) (.obj h.length) = true := by
  simp only [isLstO, get_mid]
theorem app_mid {xs : List D} {x : D} (hz : xs.length < sizeLine) : appD (h ++ [.lst xs] ++ u) (.obj h.length) x = some (h ++ [.lst (xs ++ [x])] ++ u) := by
  simp only [appD, get_mid, hz, if_true, set_mid]
theorem app_mid2 {u2 : AH} {xs : List D} {x : D} (hz : xs.length < sizeLine) : appD (h ++ [.lst xs] ++ u ++ u2) (.obj h.length) x = some (h ++ [.lst (xs ++ [x])] ++ u ++ u2) := by
  have := app_mid (h := h) (u := u ++ u2) (x := x) hz
  rw [← List.append_assoc, ← List.append_assoc] at this
  exact this
theorem sq_mid {xs : List D} : sqOf (h ++ [.lst xs] ++ u) (.obj h.length) = .seq true xs := by
  simp only [sqOf, get_mid]
theorem tup_mid {xs : List D} : opTuple (h ++ [.lst xs] ++ u) [.obj h.length] = some (.tup xs) := by
  simp only [opTuple, sq_mid]
theorem and_chain {a b c d : Int} {Q : Bool → AH → Prop} : (if decide (a < b) = true then Q (decide (c ≤ d)) h else Q false h) = Q (decide (a < b) && decide (c ≤ d)) h := by
  by_cases z : a < b <;> simp [z]
theorem intsFrom_range (a : Int) : ∀ n : Nat, intsFrom a 1 n = (List.range n).map fun i : Nat => D.int (a + i) := fun n => by
  induction n generalizing a with
  | zero => rfl
  | succ n ih =>
    rw [List.range_succ_eq_map, List.map_cons, List.map_map]
    simp only [intsFrom]
    rw [ih]
    congr 1
    · simp
    · apply List.map_congr_left
      intro i _
      simp only [Function.comp]
      congr 1
      rw [Int.natCast_succ]; omega
theorem range1_map {n : Int} (hn : 0 ≤ n ∧ n ≤ 1000) : range1 [.int n] = some ((List.range n.toNat).map fun i : Nat => D.int i) := by
  rw [range1_ok hn, intsFrom_range]
  simp
theorem src_tup {xs : List D} : srcSeq h (.tup xs) = some ⟨xs, fun _ => true⟩ := rfl
theorem sorted_eq : ∀ {a b : List Int}, a.Pairwise (· ≤ ·) → b.Pairwise (· ≤ ·) → a.Perm b → a = b
  | [], b, _, _, p => (p.symm.eq_nil).symm
  | x :: a, [], _, _, p => absurd p.eq_nil (by simp)
  | x :: a, y :: b, ha, hb, p => by
    have hx : x ≤ y := by
      have : y ∈ x :: a := p.mem_iff.mpr List.mem_cons_self
      rcases List.mem_cons.mp this with z | z
      · omega
      · exact (List.pairwise_cons.mp ha).1 y z
    have hy : y ≤ x := by
      have : x ∈ y :: b := p.mem_iff.mp List.mem_cons_self
      rcases List.mem_cons.mp this with z | z
      · omega
      · exact (List.pairwise_cons.mp hb).1 x z
    have e : x = y := by omega
    subst e
    rw [sorted_eq (List.pairwise_cons.mp ha).2 (List.pairwise_cons.mp hb).2 (List.Perm.cons_inv p)]
theorem isortI_eq {a b : List Int} (p : a.Perm b) : isort leI a = isort leI b := sorted_eq (isort_sorted a) (isort_sorted b) ((isort_perm a).trans (p.trans (isort_perm b).symm))
theorem head_min {α : Type} {le : α → α → Bool} (tot : ∀ a b, le a b = true ∨ le b a = true) (tr : ∀ a b c, le a b = true → le b c = true → le a c = true) : ∀ (l : List α) (s : α) (r : List α), isort le l = s :: r → s ∈ l ∧ ∀ x ∈ l, le s x = true
  | [], s, r, e => by cases e
  | a :: l, s, r, e => by
    simp only [isort] at e
    cases q : isort le l with
    | nil =>
      rw [q] at e
      simp only [insD] at e
      cases e
      have hl : l = [] := by
        have := congrArg List.length q
        rw [len_isort] at this
        exact List.length_eq_zero_iff.mp this
      subst hl
      refine ⟨List.mem_cons_self, fun x hx => ?_⟩
      rw [List.mem_singleton.mp hx]
      exact (tot a a).elim _root_.id _root_.id
    | cons b t =>
      obtain ⟨h1, h2⟩ := head_min tot tr l b t q
      rw [q] at e
      simp only [insD] at e
      by_cases z : le a b = true
      · rw [if_pos z] at e
        cases e
        refine ⟨List.mem_cons_self, fun x hx => ?_⟩
        rcases List.mem_cons.mp hx with y | y
        · rw [y]; exact (tot a a).elim _root_.id _root_.id
        · exact tr _ _ _ z (h2 x y)
      · rw [if_neg z] at e
        cases e
        have z' := (tot a _).resolve_left z
        refine ⟨List.mem_cons_of_mem _ h1, fun x hx => ?_⟩
        rcases List.mem_cons.mp hx with y | y
        · rw [y]; exact z'
        · exact h2 x y
abbrev Tr := Int × Int × Int
def trD (q : Tr) : D := .tup [.int q.1, .int q.2.1, .int q.2.2]
def ltT (x y : Tr) : Prop := x.1 < y.1 ∨ (x.1 = y.1 ∧ (x.2.1 < y.2.1 ∨ (x.2.1 = y.2.1 ∧ x.2.2 < y.2.2)))
instance (x y : Tr) : Decidable (ltT x y) := by unfold ltT; exact inferInstance
def leT (x y : Tr) : Bool := !decide (ltT y x)
theorem py_tD (ah : AH) (q : Tr) : py ah (trD q) = some (.tuple [.int q.1, .int q.2.1, .int q.2.2]) := by simp [py, trD, pyD, pyDs]
theorem leD_tD (x y : Tr) : leD h (trD x) (trD y) = leT x y := by
  unfold leD encD
  rw [py_tD, py_tD]
  simp only [Option.getD_some]
  unfold leT
  congr 1
  have : PySem.W.dataLt (.tuple [.int y.1, .int y.2.1, .int y.2.2]) (.tuple [.int x.1, .int x.2.1, .int x.2.2]) = decide ([y.1, y.2.1, y.2.2] < [x.1, x.2.1, x.2.2]) := by
    rw [PySem.W.dataLt_tuple]
    exact PySem.W.dataLt_ints [y.1, y.2.1, y.2.2] [x.1, x.2.1, x.2.2]
  rw [this]
  rw [Bool.eq_iff_iff, decide_eq_true_eq, decide_eq_true_eq]
  unfold ltT
  simp [List.cons_lt_cons_iff]
theorem insD_tD (x : Tr) : ∀ l : List Tr, insD (leD h) (trD x) (l.map trD) = (insD leT x l).map trD
  | [] => rfl
  | y :: l => by
    simp only [List.map_cons, insD, leD_tD]
    by_cases z : leT x y = true
    · simp only [z, if_true, List.map_cons]
    · simp only [z, if_false, List.map_cons, insD_tD x l]
      simp
theorem sortD_tD : ∀ l : List Tr, sortD h (l.map trD) = (isort leT l).map trD
  | [] => rfl
  | i :: l => by
    have ih := sortD_tD l
    unfold sortD at ih ⊢
    simp only [List.map_cons, isort]
    rw [ih, insD_tD]
theorem sortOk_tD (l : List Tr) (hz : l.length ≤ 1000) : sortOk h (l.map trD) = true := by
  unfold sortOk
  simp only [Bool.and_eq_true, Bool.or_eq_true, List.all_eq_true, decide_eq_true_eq, List.length_map]
  have e : ∀ q, encD h (trD q) = .tuple [.int q.1, .int q.2.1, .int q.2.2] := fun q => by unfold encD; rw [py_tD]; rfl
  refine ⟨⟨⟨fun d hd => ?_, fun a ha b hb => ?_⟩, .inl fun d hd => ?_⟩, by rw [sizeLine_eq]; omega⟩
  · obtain ⟨q, _, rfl⟩ := List.mem_map.mp hd
    rw [e, py_tD]
    exact ⟨rfl, by simp [PyData.depth, PyData.depthAll]⟩
  · obtain ⟨q, _, rfl⟩ := List.mem_map.mp ha
    obtain ⟨q', _, rfl⟩ := List.mem_map.mp hb
    rw [e, e]
    simp [PySem.W.alike, PySem.W.alikeAll]
  · obtain ⟨q, _, rfl⟩ := List.mem_map.mp hd
    rw [e]; rfl
theorem leT_iff (x1 x2 x3 y1 y2 y3 : Int) : leT (x1, x2, x3) (y1, y2, y3) = true ↔ (x1 < y1 ∨ (x1 = y1 ∧ (x2 < y2 ∨ (x2 = y2 ∧ x3 ≤ y3)))) := by
  unfold leT
  rw [Bool.not_eq_true', decide_eq_false_iff_not]
  show ¬ (y1 < x1 ∨ (y1 = x1 ∧ (y2 < x2 ∨ (y2 = x2 ∧ y3 < x3)))) ↔ _
  constructor <;> intro h <;> omega
theorem leT_tot (x y : Tr) : leT x y = true ∨ leT y x = true := by
  obtain ⟨x1, x2, x3⟩ := x
  obtain ⟨y1, y2, y3⟩ := y
  rw [leT_iff, leT_iff]
  omega
theorem leT_tr (x y z : Tr) (h1 : leT x y = true) (h2 : leT y z = true) : leT x z = true := by
  obtain ⟨x1, x2, x3⟩ := x
  obtain ⟨y1, y2, y3⟩ := y
  obtain ⟨z1, z2, z3⟩ := z
  rw [leT_iff] at *
  omega
theorem leT_anti (x y : Tr) (h1 : leT x y = true) (h2 : leT y x = true) : x = y := by
  obtain ⟨x1, x2, x3⟩ := x
  obtain ⟨y1, y2, y3⟩ := y
  rw [leT_iff] at *
  have : x1 = y1 ∧ x2 = y2 ∧ x3 = y3 := by omega
  rw [this.1, this.2.1, this.2.2]
theorem foldl_set_get {f : Nat → Option D} : ∀ (js : List Nat) (env : Env) (i : Nat), (∀ j ∈ js, j < env.length) → (js.foldl (fun e j => e.set j (f j)) env)[i]? = if i ∈ js then some (f i) else env[i]?
  | [], env, i, _ => by simp
  | j :: js, env, i, hj => by
    rw [List.foldl_cons, foldl_set_get js (env.set j (f j)) i (fun x hx => by rw [List.length_set]; exact hj x (List.mem_cons_of_mem _ hx))]
    by_cases z : i ∈ js
    · rw [if_pos z, if_pos (List.mem_cons_of_mem _ z)]
    · rw [if_neg z]
      by_cases y : i = j
      · subst y
        rw [if_pos List.mem_cons_self, List.getElem?_set_self (hj i List.mem_cons_self)]
      · rw [if_neg (by simp [z, y]), List.getElem?_set_ne (fun q => y q.symm)]
theorem env_of {env env' : Env} (js : List Nat) (hl : env'.length = env.length) (hj : ∀ j ∈ js, j < env.length) (ag : ∀ i, i ∉ js → env'[i]? = env[i]?) : env' = js.foldl (fun e j => e.set j (env'[j]?.getD none)) env := by
  apply List.ext_getElem?
  intro i
  rw [foldl_set_get js env i hj]
  by_cases z : i ∈ js
  · rw [if_pos z]
    have := hj i z
    rw [← hl] at this
    rw [List.getElem?_eq_getElem this]; rfl
  · rw [if_neg z, ag i z]
theorem wp_exs2 {f : M Fl} {F : Option D → Option D → Fl} {Q : Fl → AH → Prop} {E : Nat → AH → Prop} (e : ∃ x y, f h = .ok (F x y) h) (q : ∀ x y, Q (F x y) h) : Wp f h Q E := by
  obtain ⟨x, y, e⟩ := e
  rw [wp_eq e]
  exact q x y
theorem okDs_app {n : Nat} : ∀ (x y : List D), okDs n x = true → okDs n y = true → okDs n (x ++ y) = true
  | [], _, _, hy => hy
  | d :: x, y, hx, hy => by
    simp only [okDs, Bool.and_eq_true] at hx
    simp only [List.cons_append, okDs, hx.1, okDs_app x y hx.2 hy, Bool.and_self]
theorem flat_len {α β : Type} {f : α → List β} {c : Nat} (hf : ∀ x, (f x).length ≤ c) : ∀ p : List α, (p.flatMap f).length ≤ p.length * c
  | [] => by simp
  | x :: p => by
    have h1 := hf x
    have h2 := flat_len hf p
    rw [List.flatMap_cons, List.length_append, List.length_cons, Nat.add_mul]
    omega
/-! sorting, and the least one, through what the items stand for -/
theorem insD_of {γ : Type} {f : γ → D} {le : γ → γ → Bool} (hle : ∀ x y, leD h (f x) (f y) = le x y) (x : γ) : ∀ l : List γ, insD (leD h) (f x) (l.map f) = (insD le x l).map f
  | [] => rfl
  | y :: l => by
    simp only [List.map_cons, insD, hle]
    cases z : le x y with
    | true => simp
    | false => simp [insD_of hle x l]
theorem sortD_of {γ : Type} {f : γ → D} {le : γ → γ → Bool} (hle : ∀ x y, leD h (f x) (f y) = le x y) : ∀ l : List γ, sortD h (l.map f) = (isort le l).map f
  | [] => rfl
  | i :: l => by
    have ih := sortD_of hle l
    unfold sortD at ih ⊢
    simp only [List.map_cons, isort]
    rw [ih, insD_of hle]
def minBy {γ : Type} (le : γ → γ → Bool) (x : γ) (l : List γ) : γ := l.foldl (fun a y => if le a y then a else y) x
theorem minDt_of {γ : Type} {f : γ → D} {le : γ → γ → Bool} (hle : ∀ x y, leD h (f x) (f y) = le x y) : ∀ (l : List γ) (x : γ), minDt h (f x) (l.map f) = f (minBy le x l)
  | [], x => rfl
  | y :: l, x => by
    have ih := fun z => minDt_of hle l z
    unfold minDt minBy at *
    simp only [List.map_cons, List.foldl_cons]
    have := hle x y
    unfold leD at this
    cases z : le x y with
    | true =>
      rw [z, Bool.not_eq_true'] at this
      simp only [this, if_true, Bool.false_eq_true, if_false]
      exact ih x
    | false =>
      rw [z, Bool.not_eq_false'] at this
      simp only [this, if_true, Bool.false_eq_true, if_false]
      exact ih y
theorem minBy_spec {γ : Type} {le : γ → γ → Bool} (tot : ∀ a b, le a b = true ∨ le b a = true) (tr : ∀ a b c, le a b = true → le b c = true → le a c = true) : ∀ (l : List γ) (x : γ), minBy le x l ∈ x :: l ∧ ∀ y ∈ x :: l, le (minBy le x l) y = true
  | [], x => ⟨List.mem_cons_self, fun y hy => by rw [List.mem_singleton.mp hy]; exact (tot x x).elim _root_.id _root_.id⟩
  | z :: l, x => by
    unfold minBy
    rw [List.foldl_cons]
    by_cases q : le x z = true
    · rw [if_pos q]
      obtain ⟨h1, h2⟩ := minBy_spec tot tr l x
      unfold minBy at h1 h2
      refine ⟨?_, fun y hy => ?_⟩
      · rcases List.mem_cons.mp h1 with e | e
        · rw [e]; exact List.mem_cons_self
        · exact List.mem_cons_of_mem _ (List.mem_cons_of_mem _ e)
      · rcases List.mem_cons.mp hy with e | e
        · rw [e]; exact h2 x List.mem_cons_self
        · rcases List.mem_cons.mp e with e | e
          · rw [e]; exact tr _ _ _ (h2 x List.mem_cons_self) q
          · exact h2 y (List.mem_cons_of_mem _ e)
    · rw [if_neg q]
      have q' := (tot x z).resolve_left q
      obtain ⟨h1, h2⟩ := minBy_spec tot tr l z
      unfold minBy at h1 h2
      refine ⟨List.mem_cons_of_mem _ h1, fun y hy => ?_⟩
      rcases List.mem_cons.mp hy with e | e
      · rw [e]; exact tr _ _ _ (h2 z List.mem_cons_self) q'
      · exact h2 y e
/-- the first of the sorted, and the least one, are the same -/
theorem minBy_head {γ : Type} {le : γ → γ → Bool} (tot : ∀ a b, le a b = true ∨ le b a = true) (tr : ∀ a b c, le a b = true → le b c = true → le a c = true) (anti : ∀ a b, le a b = true → le b a = true → a = b) (l : List γ) (x s : γ) (r : List γ) (e : isort le (x :: l) = s :: r) : s = minBy le x l := by
  obtain ⟨h1, h2⟩ := head_min tot tr (x :: l) s r e
  obtain ⟨h3, h4⟩ := minBy_spec tot tr l x
  exact anti _ _ (h2 _ h3) (h4 _ h1)
def leP (x y : Pr) : Bool := decide (x.1 < y.1 ∨ (x.1 = y.1 ∧ x.2 ≤ y.2))
theorem leD_pD (x y : Pr) : leD h (pD x) (pD y) = leP x y := by
  unfold leD encD
  rw [py_pD, py_pD]
  simp only [Option.getD_some]
  have : PySem.W.dataLt (.tuple [.int y.1, .int y.2]) (.tuple [.int x.1, .int x.2]) = decide ([y.1, y.2] < [x.1, x.2]) := by
    rw [PySem.W.dataLt_tuple]
    exact PySem.W.dataLt_ints [y.1, y.2] [x.1, x.2]
  rw [this]
  unfold leP
  rw [Bool.eq_iff_iff, Bool.not_eq_true', decide_eq_false_iff_not, decide_eq_true_eq]
  simp only [List.cons_lt_cons_iff, List.not_lt_nil, and_false, or_false]
  constructor
  · intro h
    omega
  · intro h
    omega
theorem leP_tot (x y : Pr) : leP x y = true ∨ leP y x = true := by
  unfold leP
  rw [decide_eq_true_eq, decide_eq_true_eq]
  omega
theorem leP_tr (x y z : Pr) (h1 : leP x y = true) (h2 : leP y z = true) : leP x z = true := by
  unfold leP at *
  rw [decide_eq_true_eq] at *
  omega
theorem leP_anti (x y : Pr) (h1 : leP x y = true) (h2 : leP y x = true) : x = y := by
  unfold leP at *
  rw [decide_eq_true_eq] at *
  obtain ⟨x1, x2⟩ := x
  obtain ⟨y1, y2⟩ := y
  dsimp only at *
  have : x1 = y1 ∧ x2 = y2 := by omega
  rw [this.1, this.2]
theorem wp_iEnumD {g : Env → M (List D)} {Q : Src → AH → Prop} {xs : List D} (w : Wp (g env) h (fun ds h' => ds = [.lst xs] ∧ Q ⟨enumD 0 xs, fun _ => true⟩ h') E) : Wp (iEnumD g env) h Q E := by
  unfold iEnumD
  rw [wp_bnd]
  refine w.impQ ?_
  rintro _ h' ⟨rfl, q⟩
  exact q
theorem wp_iEnumA {g : Env → M (List D)} {Q : Src → AH → Prop} {xs : List D} (w : Wp (g env) h (fun ds h' => ds = [.lst xs] ∧ Q ⟨enumD 0 xs, fun _ => true⟩ h') E) : Wp (iEnumA g env) h Q E := by
  unfold iEnumA
  rw [wp_bnd]
  refine w.impQ ?_
  rintro _ h' ⟨rfl, q⟩
  exact q
/-! texts -/
theorem wp_eJoin {f : Str → Env → M Str} {Q : D → AH → Prop} : Wp (eJoin f env) h Q E = Wp (f Str.empty env) h (fun out h1 => sOk out = true ∧ Q (.str out) h1) E := by
  unfold eJoin
  rw [wp_bnd]; congr 1; funext out h1
  unfold Wp; dsimp only
  by_cases z : sOk out = true
  · rw [if_pos z]; simp only [z, true_and]
  · rw [if_neg z]; simp only [z, Bool.false_eq_true, false_and]
theorem wp_jCons {f : Env → M Str} {g : Str → Env → M Str} {x : Str} {Q : Str → AH → Prop} : Wp (jCons f g x env) h Q E = Wp (f env) h (fun y h1 => (x ++ y).length ≤ sizeLine ∧ Wp (g (x ++ y) env) h1 Q E) E := by
  unfold jCons
  rw [wp_bnd]; congr 1; funext out h1
  by_cases z : (x ++ out).length ≤ sizeLine
  · simp only [z, true_and]; unfold Wp; simp only [z, if_true]
  · simp only [z, false_and]; unfold Wp; simp only [z, if_false]
theorem wp_jNil {x : Str} {Q : Str → AH → Prop} : Wp (jNil x env) h Q E = Q x h := rfl
theorem wp_jRet {x : Str} {Q : Str → AH → Prop} : Wp ((fun _ => ret x : Env → M Str) env) h Q E = Q x h := rfl
theorem wp_eFmt {f : Env → M D} {Q : Str → AH → Prop} : Wp (eFmt f env) h Q E = Wp (f env) h (fun d h1 => match txtOf d with
    | some y => Q y h1
    | none => False) E := by
  unfold eFmt
  rw [wp_bnd]; congr 1; funext d h1
  unfold Wp; dsimp only; cases txtOf d <;> rfl
theorem wp_eSplit {fo fx : Env → M D} {Q : D → AH → Prop} : Wp (eSplit fo fx env) h Q E = Wp (fo env) h (fun o h1 => isStrD o = true ∧ Wp (fx env) h1 (fun x h2 => match opSplit o x with
    | some d => Q d h2
    | none => False) E) E := by
  unfold eSplit
  rw [wp_bnd]; congr 1; funext o h1
  by_cases z : isStrD o = true
  · simp only [z, true_and]
    unfold Wp
    dsimp only
    rw [if_pos trivial]
    unfold bnd
    cases fx env h1 with
    | ok y h2 => dsimp only; cases opSplit o y <;> rfl
    | ex c h2 => rfl
    | bad => rfl
  · unfold Wp; simp only [z, Bool.false_eq_true, if_false, false_and]
theorem small_str : ((List.range 100).all fun i => sOk (strI (i : Int)) && decide ((strI (i : Int)).length ≤ 2) && decide ((i : Int).natAbs.log2 < 1920)) = true := by decide +kernel
theorem strI_small {i : Int} (h0 : 0 ≤ i) (h1 : i < 100) : sOk (strI i) = true ∧ (strI i).length ≤ 2 ∧ i.natAbs.log2 < 1920 := by
  have := List.all_eq_true.mp small_str i.toNat (List.mem_range.mpr (by omega))
  rw [show ((i.toNat : Nat) : Int) = i by omega] at this
  simp only [Bool.and_eq_true, decide_eq_true_eq] at this
  exact ⟨this.1.1, this.1.2, this.2⟩
theorem opStr_small {i : Int} (h0 : 0 ≤ i) (h1 : i < 100) : opStr h [.int i] = some (.str (strI i)) := by
  obtain ⟨e1, _, e2⟩ := strI_small h0 h1
  simp only [opStr, e1, e2, decide_true, Bool.and_self, if_true]
theorem txt_small {i : Int} (h0 : 0 ≤ i) (h1 : i < 100) : txtOf (.int i) = some (strI i) := by
  obtain ⟨_, _, e2⟩ := strI_small h0 h1
  simp only [txtOf, e2, if_true]
theorem opAdd_str {x y : Str} (hz : x.length + y.length ≤ sizeLine) : opAdd h (.str x) (.str y) = some (.str (x ++ y)) := by simp only [opAdd, hz, if_true]
theorem empty_app (x : Str) : Str.empty ++ x = x := by
  obtain ⟨⟨l⟩⟩ := x
  show (⟨(#[] : Array Nat) ++ ⟨l⟩⟩ : Str) = _
  simp
theorem app_empty (x : Str) : x ++ Str.empty = x := by
  obtain ⟨⟨l⟩⟩ := x
  show (⟨(⟨l⟩ : Array Nat) ++ #[]⟩ : Str) = _
  simp
/-! any(..), all(..) over what is known -/
theorem gxGo_any {γ : Type} {pat : Pat} {gi : Env → M Bool} {ge : Env → M D} {ok : AH → Bool} (f : γ → D) (p : γ → Bool) (hok : ok h = true) : ∀ {xs : List γ}, (∀ x ∈ xs, ∃ env1, pat.put (f x) env = some env1 ∧ gi env1 h = .ok true h ∧ ge env1 h = .ok (.bl (p x)) h) →
    ∃ bs : List Bool, gxGo stopT pat gi ge ok env (xs.map f) h = .ok (bs.map .bl) h ∧ bs.any _root_.id = xs.any p
  | [], _ => ⟨[], by simp [gxGo, hok], rfl⟩
  | x :: xs, H => by
    obtain ⟨env1, e1, e2, e3⟩ := H x List.mem_cons_self
    obtain ⟨bs, i1, i2⟩ := gxGo_any (pat := pat) (gi := gi) (ge := ge) (ok := ok) f p hok (xs := xs) fun y hy => H y (List.mem_cons_of_mem _ hy)
    simp only [List.map_cons, gxGo, hok, if_true, e1]
    unfold bnd
    rw [noEx_ok e2]
    dsimp only
    simp only [if_true]
    rw [noEx_ok e3]
    dsimp only
    cases z : p x with
    | true =>
      have : stopT (.bl true) = true := rfl
      simp only [this, if_true]
      exact ⟨[true], rfl, by simp [z]⟩
    | false =>
      have : stopT (.bl false) = false := rfl
      simp only [this, Bool.false_eq_true, if_false]
      rw [i1]
      exact ⟨false :: bs, rfl, by simp [z, i2]⟩
theorem gxGo_all {γ : Type} {pat : Pat} {gi : Env → M Bool} {ge : Env → M D} {ok : AH → Bool} (f : γ → D) (p : γ → Bool) (hok : ok h = true) : ∀ {xs : List γ}, (∀ x ∈ xs, ∃ env1, pat.put (f x) env = some env1 ∧ gi env1 h = .ok true h ∧ ge env1 h = .ok (.bl (p x)) h) →
    ∃ bs : List Bool, gxGo stopF pat gi ge ok env (xs.map f) h = .ok (bs.map .bl) h ∧ bs.all _root_.id = xs.all p
  | [], _ => ⟨[], by simp [gxGo, hok], rfl⟩
  | x :: xs, H => by
    obtain ⟨env1, e1, e2, e3⟩ := H x List.mem_cons_self
    obtain ⟨bs, i1, i2⟩ := gxGo_all (pat := pat) (gi := gi) (ge := ge) (ok := ok) f p hok (xs := xs) fun y hy => H y (List.mem_cons_of_mem _ hy)
    simp only [List.map_cons, gxGo, hok, if_true, e1]
    unfold bnd
    rw [noEx_ok e2]
    dsimp only
    simp only [if_true]
    rw [noEx_ok e3]
    dsimp only
    cases z : p x with
    | false =>
      have : stopF (.bl false) = true := rfl
      simp only [this, if_true]
      exact ⟨[false], rfl, by simp [z]⟩
    | true =>
      have : stopF (.bl true) = false := rfl
      simp only [this, Bool.false_eq_true, if_false]
      rw [i1]
      exact ⟨true :: bs, rfl, by simp [z, i2]⟩
theorem blsD_bls : ∀ bs : List Bool, blsD (bs.map .bl) = some bs
  | [] => rfl
  | b :: bs => by simp only [List.map_cons, blsD, blsD_bls bs]; rfl
theorem kAny_bls (bs : List Bool) : kAny (bs.map .bl) = ret (.bl (bs.any _root_.id)) := by unfold kAny; rw [blsD_bls]
theorem kAll_bls (bs : List Bool) : kAll (bs.map .bl) = ret (.bl (bs.all _root_.id)) := by unfold kAll; rw [blsD_bls]
theorem opEq_str (x y : Str) : opEq h (.str x) (.str y) = some (.bl (x == y)) := by
  simp [opEq, py, pyD, eqvIf, PyData.depth, PyData.eqv]
theorem opNe_str (x y : Str) : opNe h (.str x) (.str y) = some (.bl (!(x == y))) := by
  simp [opNe, py, pyD, eqvIf, PyData.depth, PyData.eqv]
theorem pyDs_strs (g : Nat → Option PyData) : ∀ l : List Str, pyDs g (l.map D.str) = some (l.map PyData.str)
  | [] => rfl
  | x :: l => by simp only [List.map_cons, pyDs, pyD, pyDs_strs g l]
theorem any_strs (x : Str) : ∀ l : List Str, (l.map PyData.str).any (fun y => PyData.eqv y (.str x)) = l.contains x
  | [] => rfl
  | y :: l => by
    rw [List.map_cons, List.any_cons, any_strs x l, List.contains_cons]
    congr 1
    simp [PyData.eqv, Bool.beq_comm, BEq.comm]
theorem depth_strs : ∀ l : List Str, PyData.depthAll (l.map PyData.str) ≤ 1
  | [] => by simp [PyData.depthAll]
  | x :: l => by
    have := depth_strs l
    simp only [List.map_cons, PyData.depthAll, PyData.depth]
    omega
theorem in_strs {d : D} {l : Bool} {x : Str} {xs : List Str} (e : sqOf h d = .seq l (xs.map .str)) : opIn h (.str x) d = some (.bl (xs.contains x)) := by
  have hd := depth_strs xs
  have h2 : min (PyData.depthAll (xs.map PyData.str)) (PyData.str x).depth ≤ 60 := by omega
  have hp : py h (.str x) = some (.str x) := rfl
  simp only [opIn, e, inSq, hp, pyDs_strs, h2, if_true, any_strs, Option.map]
theorem notIn_strs {d : D} {l : Bool} {x : Str} {xs : List Str} (e : sqOf h d = .seq l (xs.map .str)) : opNotIn h (.str x) d = some (.bl (!xs.contains x)) := by
  have hd := depth_strs xs
  have h2 : min (PyData.depthAll (xs.map PyData.str)) (PyData.str x).depth ≤ 60 := by omega
  have hp : py h (.str x) = some (.str x) := rfl
  simp only [opNotIn, e, inSq, hp, pyDs_strs, h2, if_true, any_strs, Option.map]
theorem cutL_ab {α : Type} (xs : List α) (i j : Nat) : cutL xs (some (i : Int)) (some (j : Int)) = (xs.drop i).take (j - i) := by
  unfold cutL
  have e1 : HT.sIx xs.length 0 (some (i : Int)) = min i xs.length := HT.sIx_nat _ _ i
  have e2 : HT.sIx xs.length xs.length (some (j : Int)) = min j xs.length := HT.sIx_nat _ _ j
  rw [e1, e2]
  apply List.ext_getElem?
  intro n
  rw [List.getElem?_take, List.getElem?_take, List.getElem?_drop, List.getElem?_drop]
  by_cases z : i ≤ xs.length
  · rw [Nat.min_eq_left z]
    by_cases y : n < min j xs.length - i
    · rw [if_pos y, if_pos (by omega)]
    · rw [if_neg y]
      by_cases w : n < j - i
      · rw [if_pos w, List.getElem?_eq_none (by omega)]
      · rw [if_neg w]
  · rw [Nat.min_eq_right (show xs.length ≤ i by omega)]
    have a1 : xs[i + n]? = none := List.getElem?_eq_none (by omega)
    have a2 : xs[xs.length + n]? = none := List.getElem?_eq_none (by omega)
    rw [a1, a2]
    simp
theorem cutL_a {α : Type} (xs : List α) (i : Nat) : cutL xs (some (i : Int)) none = xs.drop i := by
  unfold cutL
  have e1 : HT.sIx xs.length 0 (some (i : Int)) = min i xs.length := HT.sIx_nat _ _ i
  rw [HT.sIx_none, e1]
  by_cases z : i ≤ xs.length
  · rw [Nat.min_eq_left z, List.take_of_length_le (by rw [List.length_drop]; omega)]
  · rw [Nat.min_eq_right (by omega), List.drop_of_length_le (by omega), List.drop_of_length_le (by omega)]
    simp
/-! split of what was joined -/
theorem mid_inj {c : Nat} : ∀ {p q : List Nat} {x y : List Nat}, c ∉ p → c ∉ q → p ++ c :: x = q ++ c :: y → p = q ∧ x = y
  | [], [], x, y, _, _, e => by simpa using e
  | [], b :: q, x, y, _, hq, e => by
    simp only [List.nil_append, List.cons_append, List.cons.injEq] at e
    exact absurd (by rw [e.1]; exact List.mem_cons_self) hq
  | a :: p, [], x, y, hp, _, e => by
    simp only [List.nil_append, List.cons_append, List.cons.injEq] at e
    exact absurd (by rw [e.1]; exact List.mem_cons_self) hp
  | a :: p, b :: q, x, y, hp, hq, e => by
    simp only [List.cons_append, List.cons.injEq] at e
    obtain ⟨h1, h2⟩ := mid_inj (fun z => hp (List.mem_cons_of_mem _ z)) (fun z => hq (List.mem_cons_of_mem _ z)) e.2
    exact ⟨by rw [e.1, h1], h2⟩
theorem toL_app (x y : Str) : (x ++ y).cps.toList = x.cps.toList ++ y.cps.toList := by
  show (x.cps ++ y.cps).toList = _
  simp
theorem str_ext {x y : Str} (e : x.cps.toList = y.cps.toList) : x = y := by
  obtain ⟨⟨l⟩⟩ := x
  obtain ⟨⟨m⟩⟩ := y
  simp only at e
  rw [e]
theorem join_cons (y p q : Str) (r : List Str) : Str.join y (p :: q :: r) = p ++ y ++ Str.join y (q :: r) := rfl
theorem join_inj {c : Nat} : ∀ (l l' : List Str), l ≠ [] → l' ≠ [] → (∀ w ∈ l, c ∉ w.cps.toList) → (∀ w ∈ l', c ∉ w.cps.toList) → Str.join ⟨#[c]⟩ l = Str.join ⟨#[c]⟩ l' → l = l'
  | [], _, h, _, _, _, _ => absurd rfl h
  | _ :: _, [], _, h, _, _, _ => absurd rfl h
  | [p], [p'], _, _, _, _, e => by
    have : p = p' := e
    rw [this]
  | [p], p' :: q' :: r', _, _, h1, _, e => by
    rw [join_cons] at e
    have e2 : p = p' ++ ⟨#[c]⟩ ++ Str.join ⟨#[c]⟩ (q' :: r') := e
    have := h1 p List.mem_cons_self
    rw [e2] at this
    simp [toL_app] at this
  | p :: q :: r, [p'], _, _, _, h2, e => by
    rw [join_cons] at e
    have e2 : p ++ ⟨#[c]⟩ ++ Str.join ⟨#[c]⟩ (q :: r) = p' := e
    have := h2 p' List.mem_cons_self
    rw [← e2] at this
    simp [toL_app] at this
  | p :: q :: r, p' :: q' :: r', _, _, h1, h2, e => by
    rw [join_cons, join_cons] at e
    have e2 := congrArg (fun x : Str => x.cps.toList) e
    simp only [toL_app, List.append_assoc] at e2
    obtain ⟨a1, a2⟩ := mid_inj (h1 p List.mem_cons_self) (h2 p' List.mem_cons_self) e2
    have ih := join_inj (q :: r) (q' :: r') (by simp) (by simp) (fun w hw => h1 w (List.mem_cons_of_mem _ hw)) (fun w hw => h2 w (List.mem_cons_of_mem _ hw)) (str_ext a2)
    rw [str_ext a1, ih]
theorem split_of {c : Nat} {x : Str} {ws : List Str} (h0 : ws ≠ []) (h1 : ∀ w ∈ ws, c ∉ w.cps.toList) (e : Str.join ⟨#[c]⟩ ws = x) : Txt.split x ⟨#[c]⟩ = ws := by
  refine join_inj _ _ ?_ h0 ?_ h1 ?_
  · intro z
    have := PyProof.Rows.split_pos x ⟨#[c]⟩
    rw [z] at this
    simp at this
  · intro w hw
    exact StrLaws.split_free x c w hw
  · rw [StrLaws.join_split, e]
end
end PyD

/-! K02 -/
namespace PyD.K02
open PySem PySem.Spec L2 PyD
open PyProof.Rows hiding St
open PyD (Env Pat)
/-- def 0 -/
def b_0 (cal : Nat → List D → M D) : Env → M Fl :=
  sSeq (sIf (bOr (bT (eOp opNotIn (eVar 1) (eC (.tup [.str "above", .str "below", .str "outside"])))) (bOr (bT (eOp opGt (eVar 2) (eVar 3))) (bT (eOp opLt (eCall opMin2 (aCons (eVar 4) (aCons (eVar 5) (aNil)))) (eC (.int 0)))))) (sRaise 1) (sNil)) (
    sSeq (sIf (bOr (bAnd (bT (eOp opNe (eVar 1) (eC (.str "outside")))) (bT (eOp opNe (eVar 2) (eVar 3)))) (bAnd (bT (eOp opEq (eVar 1) (eC (.str "outside")))) (bT (eOp opLt (eOp opSub (eVar 3) (eVar 2)) (eOp opMul (eC (.int 2)) (eVar 5)))))) (sRaise 1) (sNil)) (
    sSeq (sSetF [2] "kind" (eVar 1) (eVar 0)) (
    sSeq (sSetF [2] "low" (eVar 2) (eVar 0)) (
    sSeq (sSetF [2] "high" (eVar 3) (eVar 0)) (
    sSeq (sSetF [2] "minutes" (eVar 4) (eVar 0)) (
    sSetF [2] "back" (eVar 5) (eVar 0)))))))
/-- def 1 -/
def b_1 (cal : Nat → List D → M D) : Env → M Fl :=
  sSeq (sIf (bT (eOp opEq (eFld [2] "kind" (eVar 0)) (eC (.str "above")))) (sRet (eOp opGt (eVar 1) (eFld [2] "high" (eVar 0)))) (sNil)) (
    sRet (eIf (bT (eOp opEq (eFld [2] "kind" (eVar 0)) (eC (.str "below")))) (eOp opLt (eVar 1) (eFld [2] "low" (eVar 0))) (eNot (eChain opLe opLe (eFld [2] "low" (eVar 0)) (eVar 1) (eFld [2] "high" (eVar 0))))))
/-- def 2 -/
def b_2 (cal : Nat → List D → M D) : Env → M Fl :=
  sSeq (sIf (bT (eOp opEq (eFld [2] "kind" (eVar 0)) (eC (.str "above")))) (sRet (eOp opLe (eVar 1) (eOp opSub (eFld [2] "high" (eVar 0)) (eFld [2] "back" (eVar 0))))) (sNil)) (
    sSeq (sIf (bT (eOp opEq (eFld [2] "kind" (eVar 0)) (eC (.str "below")))) (sRet (eOp opGe (eVar 1) (eOp opAdd (eFld [2] "low" (eVar 0)) (eFld [2] "back" (eVar 0))))) (sNil)) (
    sRet (eChain opLe opLe (eOp opAdd (eFld [2] "low" (eVar 0)) (eFld [2] "back" (eVar 0))) (eVar 1) (eOp opSub (eFld [2] "high" (eVar 0)) (eFld [2] "back" (eVar 0))))))
/-- def 3 -/
def b_3 (cal : Nat → List D → M D) : Env → M Fl :=
  sSeq (sIf (bNot (bT (eMeth 2 "is_beyond" (arity 2 (cal 1)) (eVar 0) (aCons (eVar 1) (aNil))))) (sRet (eC (.int 0))) (sNil)) (
    sSeq (sIf (bT (eOp opEq (eFld [2] "kind" (eVar 0)) (eC (.str "outside")))) (sRet (eCall opMax2 (aCons (eOp opSub (eFld [2] "low" (eVar 0)) (eVar 1)) (aCons (eOp opSub (eVar 1) (eFld [2] "high" (eVar 0))) (aNil))))) (sNil)) (
    sRet (eIf (bT (eOp opEq (eFld [2] "kind" (eVar 0)) (eC (.str "above")))) (eOp opSub (eVar 1) (eFld [2] "high" (eVar 0))) (eOp opSub (eFld [2] "low" (eVar 0)) (eVar 1)))))
/-- def 4 -/
def b_4 (cal : Nat → List D → M D) : Env → M Fl :=
  sSeq (sExpr (eFun (arity 1 (cal 7)) (aCons (eVar 1) (aNil)))) (
    sSeq (sPar3 2 3 4 (aCons (eLstO (aNil)) (aCons (eC .non) (aCons (eC .non) (aNil))))) (
    sSeq (sFor (.tp [.nm 5, .nm 6]) (iSeq (eVar 1)) (sSeq (sIf (bAnd (bT (eOp opIs (eVar 3) (eC .non))) (bT (eMeth 2 "is_beyond" (arity 2 (cal 1)) (eVar 0) (aCons (eVar 6) (aNil))))) (sAsg (.nm 3) (eVar 5)) (sNil)) (
      sIf (bAnd (bT (eOp opIsNot (eVar 3) (eC .non))) (bT (eOp opIs (eVar 4) (eC .non)))) (sIf (bNot (bT (eMeth 2 "is_beyond" (arity 2 (cal 1)) (eVar 0) (aCons (eVar 6) (aNil))))) (sSeq (sExpr (eAppend (eVar 2) (eTup (aCons (eVar 3) (aCons (eC .non) (aCons (eVar 5) (aNil))))))) (
          sAsg (.nm 3) (eC .non))) (sIf (bT (eOp opGe (eOp opSub (eVar 5) (eVar 3)) (eFld [2] "minutes" (eVar 0)))) (sAsg (.nm 4) (eVar 5)) (sNil))) (sIf (bAnd (bT (eOp opIsNot (eVar 4) (eC .non))) (bT (eMeth 2 "is_clear" (arity 2 (cal 2)) (eVar 0) (aCons (eVar 6) (aNil))))) (sSeq (sExpr (eAppend (eVar 2) (eTup (aCons (eVar 3) (aCons (eVar 4) (aCons (eVar 5) (aNil))))))) (
          sSeq (sAsg (.nm 3) (eC .non)) (
          sAsg (.nm 4) (eC .non)))) (sNil))))) (
    sRet (eCall opTuple (aCons (eOp (orOp opAdd opAddO) (eVar 2) (eIf (bT (eOp opIsNot (eVar 3) (eC .non))) (eLst (aCons (eTup (aCons (eVar 3) (aCons (eVar 4) (aCons (eC .non) (aNil))))) (aNil))) (eLst (aNil)))) (aNil))))))
/-- def 5 -/
def b_5 (cal : Nat → List D → M D) : Env → M Fl :=
  sSeq (sAsg (.nm 3) (eMeth 2 "runs_of" (arity 2 (cal 4)) (eVar 0) (aCons (fun env => bnd (eGx (fun _ => false) ([(("row" : Str), 4)].map (·.2)) (.nm 4) (iSeq (eVar 1)) (bT (eOp opLe (eIx (eVar 4) (eC (.int 0))) (eVar 2))) (eVar 4) env) kTup) (aNil)))) (
    sSeq (sIf (bOr (bT (eOp opEq (eVar 3) (eTup (aNil)))) (bT (eOp opIsNot (eIx (eIx (eVar 3) (eNeg (eC (.int 1)))) (eC (.int 2))) (eC .non)))) (sRet (eC (.str "ok"))) (sNil)) (
    sRet (eIf (bT (eOp opIsNot (eIx (eIx (eVar 3) (eNeg (eC (.int 1)))) (eC (.int 1))) (eC .non))) (eC (.str "firing")) (eC (.str "pending")))))
/-- def 6 -/
def b_6 (cal : Nat → List D → M D) : Env → M Fl :=
  sSeq (sAsg (.nm 1) (eOp opAdd (eOp opAdd (eOp opAdd (eFld [2] "kind" (eVar 0)) (eC (.str " "))) (eCall opStr (aCons (eFld [2] "low" (eVar 0)) (aNil)))) (eIf (bT (eOp opEq (eFld [2] "kind" (eVar 0)) (eC (.str "outside")))) (eOp opAdd (eC (.str " ")) (eCall opStr (aCons (eFld [2] "high" (eVar 0)) (aNil)))) (eC (.str ""))))) (
    sSeq (sAug 1 (eIf (bT (eOp opGt (eFld [2] "minutes" (eVar 0)) (eC (.int 0)))) (eJoin (jCons (fun _ => ret (" for " : Str)) (jCons (eFmt (eFld [2] "minutes" (eVar 0))) (jNil)))) (eC (.str "")))) (
    sRet (eOp opAdd (eVar 1) (eIf (bT (eOp opGt (eFld [2] "back" (eVar 0)) (eC (.int 0)))) (eJoin (jCons (fun _ => ret (" back " : Str)) (jCons (eFmt (eFld [2] "back" (eVar 0))) (jNil)))) (eC (.str ""))))))
/-- def 7 -/
def b_7 (cal : Nat → List D → M D) : Env → M Fl :=
  sIf (bT (fun env => bnd (eGx stopT ([(("one" : Str), 1), (("two" : Str), 2)].map (·.2)) (.tp [.nm 1, .nm 2]) (iZipD (aCons (eVar 0) (aCons (eSl (eVar 0) (ePart (eC (.int 1))) (eNoPart)) (aNil)))) (bYes) (eOp opLe (eIx (eVar 2) (eC (.int 0))) (eIx (eVar 1) (eC (.int 0)))) env) kAny)) (sRaise 1) (sNil)
/-- def 8 -/
def b_8 (cal : Nat → List D → M D) : Env → M Fl :=
  sSeq (sAsg (.nm 1) (eSplit (eVar 0) (eC (.str " ")))) (
    sSeq (sIf (bT (eOp opNotIn (eIx (eVar 1) (eC (.int 0))) (eC (.tup [.str "above", .str "below", .str "outside"])))) (sRaise 1) (sNil)) (
    sSeq (sAsg (.nm 2) (eIf (bT (eOp opEq (eIx (eVar 1) (eC (.int 0))) (eC (.str "outside")))) (eC (.int 2)) (eC (.int 1)))) (
    sSeq (sPar 3 4 (aCons (eSl (eVar 1) (ePart (eC (.int 1))) (ePart (eOp opAdd (eC (.int 1)) (eVar 2)))) (aCons (eSl (eVar 1) (ePart (eOp opAdd (eC (.int 1)) (eVar 2))) (eNoPart)) (aNil)))) (
    sSeq (sIf (bOr (bT (eOp opLt (eCall opLen (aCons (eVar 3) (aNil))) (eVar 2))) (bT (fun env => bnd (eGx stopT ([(("word" : Str), 10)].map (·.2)) (.nm 10) (iSeq (eVar 3)) (bYes) (eNot (eFun (arity 1 (cal 9)) (aCons (eVar 10) (aNil)))) env) kAny))) (sRaise 1) (sNil)) (
    sSeq (sAsg (.nm 5) (eDisp (pCons (eC (.str "for")) (eC (.int 0)) (pCons (eC (.str "back")) (eC (.int 0)) (pNil))))) (
    sSeq (sAsg (.nm 6) (eLstO (aNil))) (
    sSeq (sFor (.nm 7) (iRange range3 (aCons (eC (.int 0)) (aCons (eCall opLen (aCons (eVar 4) (aNil))) (aCons (eC (.int 2)) (aNil))))) (sSeq (sAsg (.nm 8) (eIx (eVar 4) (eVar 7))) (
      sSeq (sAsg (.nm 9) (eIf (bT (eOp opLt (eOp opAdd (eVar 7) (eC (.int 1))) (eCall opLen (aCons (eVar 4) (aNil))))) (eIx (eVar 4) (eOp opAdd (eVar 7) (eC (.int 1)))) (eC (.str "")))) (
      sSeq (sIf (bOr (bT (eOp opNotIn (eVar 8) (eVar 5))) (bOr (bT (eOp opIn (eVar 8) (eVar 6))) (bOr (bNot (bT (eFun (arity 1 (cal 9)) (aCons (eVar 9) (aNil))))) (bAnd (bT (eOp opEq (eVar 8) (eC (.str "for")))) (bT (eOp opNe (eVar 6) (eLst (aNil)))))))) (sRaise 1) (sNil)) (
      sSeq (sExpr (eAppend (eVar 6) (eVar 8))) (
      sSub (eCall (orL opInt opIntS) (aCons (eVar 9) (aNil))) (eVar 5) (eVar 8))))))) (
    sRet (eMake 2 (arity 6 (cal 0)) (aCons (eIx (eVar 1) (eC (.int 0))) (aCons (eCall (orL opInt opIntS) (aCons (eIx (eVar 3) (eC (.int 0))) (aNil))) (aCons (eCall (orL opInt opIntS) (aCons (eIx (eVar 3) (eNeg (eC (.int 1)))) (aNil))) (aCons (eIx (eVar 5) (eC (.str "for"))) (aCons (eIx (eVar 5) (eC (.str "back"))) (aNil)))))))))))))))
/-- def 9 -/
def b_9 (cal : Nat → List D → M D) : Env → M Fl :=
  sSeq (sAsg (.nm 1) (eIf (bT (eOp opEq (eSl (eVar 0) (eNoPart) (ePart (eC (.int 1)))) (eC (.str "-")))) (eSl (eVar 0) (ePart (eC (.int 1))) (eNoPart)) (eVar 0))) (
    sRet (eAnd (eChain opLe opLe (eC (.int 1)) (eCall opLen (aCons (eVar 1) (aNil))) (eC (.int 9))) (fun env => bnd (eGx stopF ([(("sign" : Str), 2)].map (·.2)) (.nm 2) (iStrD (eVar 1)) (bYes) (eOp opInC (eVar 2) (eC (.str "0123456789"))) env) kAll)))
/-- def 10 -/
def b_10 (cal : Nat → List D → M D) : Env → M Fl :=
  sSeq (sIf (bAnd (bT (eOp opGt (eCall opLen (aCons (eVar 1) (aNil))) (eC (.int 0)))) (bT (eOp opLt (eVar 2) (eIx (eIx (eVar 1) (eNeg (eC (.int 1)))) (eC (.int 0)))))) (sRaise 1) (sNil)) (
    sSeq (sAsg (.nm 3) (eC (.int 0))) (
    sSeq (sFor (.tp [.nm 4, .nm 5, .nm 6]) (iSeq (eMeth 2 "runs_of" (arity 2 (cal 4)) (eVar 0) (aCons (eVar 1) (aNil)))) (sIf (bT (eOp opIsNot (eVar 5) (eC .non))) (sAug 3 (eOp opSub (eIf (bT (eOp opIsNot (eVar 6) (eC .non))) (eVar 6) (eVar 2)) (eVar 5))) (sNil))) (
    sRet (eVar 3))))
/-- def 11 -/
def b_11 (cal : Nat → List D → M D) : Env → M Fl :=
  sSeq (sIf (bOr (bT (eOp opEq (eCall opLen (aCons (eVar 0) (aNil))) (eC (.int 0)))) (bOr (bT (eOp opNotIn (eVar 1) (eTup (aCons (eC (.str "above")) (aCons (eC (.str "below")) (aNil)))))) (bT (eOp opLt (eVar 2) (eC (.int 0)))))) (sRaise 1) (sNil)) (
    sSeq (sAsg (.nm 3) (fun env => bnd (eGx (fun _ => false) ([(("stamp" : Str), 4), (("value" : Str), 5)].map (·.2)) (.tp [.nm 4, .nm 5]) (iSeq (eVar 0)) (bYes) (eVar 5) env) kSorted)) (
    sSeq (sIf (bT (eOp opEq (eVar 1) (eC (.str "above")))) (sRet (eIf (bT (eOp opLt (eVar 2) (eCall opLen (aCons (eVar 3) (aNil))))) (eIx (eVar 3) (eCall opMax2 (aCons (eC (.int 0)) (aCons (eOp opSub (eOp opSub (eCall opLen (aCons (eVar 3) (aNil))) (eC (.int 1))) (eVar 2)) (aNil))))) (eOp opSub (eIx (eVar 3) (eC (.int 0))) (eC (.int 1))))) (sNil)) (
    sRet (eIf (bT (eOp opLt (eVar 2) (eCall opLen (aCons (eVar 3) (aNil))))) (eIx (eVar 3) (eCall opMin2 (aCons (eVar 2) (aCons (eOp opSub (eCall opLen (aCons (eVar 3) (aNil))) (eC (.int 1))) (aNil))))) (eOp opAdd (eIx (eVar 3) (eNeg (eC (.int 1)))) (eC (.int 1)))))))
/-- def 12 -/
def b_12 (cal : Nat → List D → M D) : Env → M Fl :=
  sSeq (sAsg (.nm 2) (eLstO (aNil))) (
    sSeq (sFor (.tp [.nm 3, .nm 4]) (iEnumA (aCons (eVar 0) (aNil))) (sSeq (sAsg (.nm 5) (eLc ([(("run" : Str), 6)].map (·.2)) (.nm 6) (iSeq (eMeth 2 "runs_of" (arity 2 (cal 4)) (eVar 4) (aCons (eVar 1) (aNil)))) (bT (eOp opIsNot (eIx (eVar 6) (eC (.int 1))) (eC .non))) (eIx (eVar 6) (eC (.int 1))))) (
      sAug 2 (eIf (bT (eOp opNe (eVar 5) (eLst (aNil)))) (eLst (aCons (eTup (aCons (eIx (eVar 5) (eC (.int 0))) (aCons (eVar 3) (aNil)))) (aNil))) (eLst (aNil)))))) (
    sRet (eIf (bT (eOp opNe (eVar 2) (eLst (aNil)))) (eTup (aCons (eIx (eCall opMinDt (aCons (eVar 2) (aNil))) (eC (.int 1))) (aCons (eIx (eCall opMinDt (aCons (eVar 2) (aNil))) (eC (.int 0))) (aNil)))) (eC .non))))
/-- def 13 -/
def b_13 (cal : Nat → List D → M D) : Env → M Fl :=
  sSeq (sIf (bT (eChain opLt opLt (eOp opSub (eC (.int 0)) (eC (.int 10))) (eVar 0) (eC (.int 10)))) (sRet (eLstO (aCons (eCall opAbs (aCons (eVar 0) (aNil))) (aCons (eC (.int 0)) (aCons (eC (.int 2)) (aNil)))))) (sNil)) (
    sRet (eLstO (aCons (eVar 0) (aCons (eOp opAdd (eC (.int 1)) (eOp opMod (eCall opInt (aCons (eVar 0) (aNil))) (eC (.int 1009)))) (aCons (eCall opInt (aCons (eOp opGe (eVar 0) (eOp opPow (eC (.int 10)) (eC (.int 18)))) (aNil))) (aNil))))))
/-- def 14 -/
def b_14 (cal : Nat → List D → M D) : Env → M Fl :=
  sSeq (sIf (bOr (bT (eOp opEq (eIx (eVar 0) (eC (.int 2))) (eC (.int 2)))) (bAnd (bT (eOp opEq (eIx (eVar 0) (eC (.int 2))) (eC (.int 1)))) (bT (eOp opGt (eIx (eVar 0) (eC (.int 0))) (eC (.int 0)))))) (sSeq (sAsg (.nm 2) (eOp opMod (eCall opInt (aCons (eIx (eVar 0) (eC (.int 0))) (aNil))) (eVar 1))) (
      sSeq (sSub (eOp opFdiv (eIx (eVar 0) (eC (.int 0))) (eVar 1)) (eVar 0) (eC (.int 0))) (
      sRet (eVar 2)))) (sNil)) (
    sSeq (sSub (eC (.int 0)) (eVar 0) (eC (.int 2))) (
    sSeq (sIf (bT (eOp opGt (eVar 1) (eC (.int 100000000)))) (sRet (eOp opMod (eCall opInt (aCons (eOp opAdd (eOp opMul (eFun (arity 2 (cal 14)) (aCons (eVar 0) (aCons (eOp opAdd (eOp opFdiv (eVar 1) (eC (.int 100000000))) (eC (.int 1))) (aNil)))) (eC (.int 100000000))) (eFun (arity 2 (cal 14)) (aCons (eVar 0) (aCons (eC (.int 100000000)) (aNil))))) (aNil))) (eVar 1))) (sNil)) (
    sSeq (sSub (eOp opMod (eCall opInt (aCons (eOp opAdd (eOp opAdd (eOp opMul (eIx (eVar 0) (eC (.int 0))) (eC (.int 48271))) (eOp opMul (eIx (eVar 0) (eC (.int 1))) (eC (.int 69621)))) (eC (.int 11))) (aNil))) (eC (.int 2147483647))) (eVar 0) (eC (.int 0))) (
    sSeq (sSub (eOp opAdd (eIx (eVar 0) (eC (.int 1))) (eC (.int 1))) (eVar 0) (eC (.int 1))) (
    sRet (eOp opMod (eCall opInt (aCons (eOp opFdiv (eIx (eVar 0) (eC (.int 0))) (eC (.int 7))) (aNil))) (eVar 1)))))))
/-- def 15 -/
def b_15 (cal : Nat → List D → M D) : Env → M Fl :=
  sSeq (sAsg (.nm 2) (eSl (eVar 0) (eNoPart) (ePart (eVar 1)))) (
    sSeq (sIf (bT (eOp opEq (eVar 2) (eLst (aNil)))) (sAsg (.nm 2) (eLst (aCons (eC (.int 0)) (aNil)))) (sNil)) (
    sRet (eLc ([(("cell" : Str), 3)].map (·.2)) (.nm 3) (iSeq (eVar 2)) (bYes) (eFun (arity 1 (cal 13)) (aCons (eVar 3) (aNil))))))
/-- def 17 -/
def b_17 (cal : Nat → List D → M D) : Env → M Fl :=
  sSeq (sAsg (.tp [.nm 1, .nm 2, .nm 3, .nm 4]) (eTup (aCons (eIx (eLst (aCons (eC (.str "above")) (aCons (eC (.str "below")) (aCons (eC (.str "outside")) (aNil))))) (eFun (arity 2 (cal 14)) (aCons (eVar 0) (aCons (eC (.int 3)) (aNil))))) (aCons (eFun (arity 2 (cal 14)) (aCons (eVar 0) (aCons (eC (.int 20)) (aNil)))) (aCons (eFun (arity 2 (cal 14)) (aCons (eVar 0) (aCons (eC (.int 8)) (aNil)))) (aCons (eFun (arity 2 (cal 14)) (aCons (eVar 0) (aCons (eC (.int 4)) (aNil)))) (aNil))))))) (
    sSeq (sAsg (.nm 5) (eIf (bT (eOp opEq (eVar 1) (eC (.str "outside")))) (eOp opAdd (eOp opAdd (eVar 2) (eOp opMul (eC (.int 2)) (eVar 4))) (eFun (arity 2 (cal 14)) (aCons (eVar 0) (aCons (eC (.int 9)) (aNil))))) (eVar 2))) (
    sRet (eTup (aCons (eVar 1) (aCons (eVar 2) (aCons (eVar 5) (aCons (eVar 3) (aCons (eVar 4) (aNil)))))))))
/-- def 18 -/
def b_18 (cal : Nat → List D → M D) : Env → M Fl :=
  sRet (eIf (bT (eOp opEq (eIx (eVar 0) (eC (.int 0))) (eC (.str "above")))) (eOp opGt (eVar 1) (eIx (eVar 0) (eC (.int 2)))) (eIf (bT (eOp opEq (eIx (eVar 0) (eC (.int 0))) (eC (.str "below")))) (eOp opLt (eVar 1) (eIx (eVar 0) (eC (.int 1)))) (eOr (eOp opLt (eVar 1) (eIx (eVar 0) (eC (.int 1)))) (eOp opGt (eVar 1) (eIx (eVar 0) (eC (.int 2)))))))
/-- def 19 -/
def b_19 (cal : Nat → List D → M D) : Env → M Fl :=
  sSeq (sAsg (.tp [.nm 2, .nm 3, .nm 4, .nm 5, .nm 6]) (eVar 0)) (
    sRet (eIf (bT (eOp opEq (eVar 2) (eC (.str "above")))) (eOp opLe (eOp opAdd (eVar 1) (eVar 6)) (eVar 4)) (eIf (bT (eOp opEq (eVar 2) (eC (.str "below")))) (eOp opGe (eOp opSub (eVar 1) (eVar 6)) (eVar 3)) (eAnd (eOp opGe (eOp opSub (eVar 1) (eVar 6)) (eVar 3)) (eOp opLe (eOp opAdd (eVar 1) (eVar 6)) (eVar 4))))))
/-- def 20 -/
def b_20 (cal : Nat → List D → M D) : Env → M Fl :=
  sSeq (sAsg (.tp [.nm 2, .nm 3, .nm 4, .nm 5]) (eTup (aCons (eLst (aNil)) (aCons (eC (.str "ok")) (aCons (eC .non) (aCons (eC .non) (aNil))))))) (
    sSeq (sFor (.tp [.nm 6, .nm 7]) (iSeq (eVar 1)) (sSeq (sAsg (.nm 8) (eFun (arity 2 (cal 18)) (aCons (eVar 0) (aCons (eVar 7) (aNil))))) (
      sSeq (sIf (bAnd (bT (eOp opEq (eVar 3) (eC (.str "ok")))) (bT (eVar 8))) (sPar 3 4 (aCons (eC (.str "pending")) (aCons (eVar 6) (aNil)))) (sNil)) (
      sIf (bT (eOp opEq (eVar 3) (eC (.str "pending")))) (sIf (bNot (bT (eVar 8))) (sSeq (sAsg (.nm 2) (eOp opAdd (eVar 2) (eLst (aCons (eTup (aCons (eVar 4) (aCons (eC .non) (aCons (eVar 6) (aNil))))) (aNil))))) (
          sAsg (.nm 3) (eC (.str "ok")))) (sIf (bT (eOp opGe (eOp opSub (eVar 6) (eVar 4)) (eIx (eVar 0) (eC (.int 3))))) (sPar 3 5 (aCons (eC (.str "firing")) (aCons (eVar 6) (aNil)))) (sNil))) (sIf (bAnd (bT (eOp opEq (eVar 3) (eC (.str "firing")))) (bT (eFun (arity 2 (cal 19)) (aCons (eVar 0) (aCons (eVar 7) (aNil)))))) (sSeq (sAsg (.nm 2) (eOp opAdd (eVar 2) (eLst (aCons (eTup (aCons (eVar 4) (aCons (eVar 5) (aCons (eVar 6) (aNil))))) (aNil))))) (
          sAsg (.nm 3) (eC (.str "ok")))) (sNil)))))) (
    sRet (eOp opAdd (eVar 2) (eIf (bT (eOp opNe (eVar 3) (eC (.str "ok")))) (eLst (aCons (eTup (aCons (eVar 4) (aCons (eIf (bT (eOp opEq (eVar 3) (eC (.str "firing")))) (eVar 5) (eC .non)) (aCons (eC .non) (aNil))))) (aNil))) (eLst (aNil))))))
/-- def 21 -/
def b_21 (cal : Nat → List D → M D) : Env → M Fl :=
  sRet (eOp opAdd (eOp opAdd (eOp opAdd (eOp opAdd (eOp opAdd (eIx (eVar 0) (eC (.int 0))) (eC (.str " "))) (eCall opStr (aCons (eIx (eVar 0) (eC (.int 1))) (aNil)))) (eIf (bT (eOp opEq (eIx (eVar 0) (eC (.int 0))) (eC (.str "outside")))) (eOp opAdd (eC (.str " ")) (eCall opStr (aCons (eIx (eVar 0) (eC (.int 2))) (aNil)))) (eC (.str "")))) (eIf (bT (eOp opGt (eIx (eVar 0) (eC (.int 3))) (eC (.int 0)))) (eOp opAdd (eC (.str " for ")) (eCall opStr (aCons (eIx (eVar 0) (eC (.int 3))) (aNil)))) (eC (.str "")))) (eIf (bT (eOp opGt (eIx (eVar 0) (eC (.int 4))) (eC (.int 0)))) (eOp opAdd (eC (.str " back ")) (eCall opStr (aCons (eIx (eVar 0) (eC (.int 4))) (aNil)))) (eC (.str ""))))
def lf_plain (cal : Nat → List D → M D) : Nat → Env → M D := fun n => match n with
  | 0 => eMake 2 (arity 6 (cal 0)) (aDef (aCons (eC (.str "odd")) (aCons (eC (.int 1)) (aCons (eC (.int 1)) (aNil)))) [.int 0, .int 0])
  | 1 => eMake 2 (arity 6 (cal 0)) (aDef (aCons (eC (.str "above")) (aCons (eC (.int 2)) (aCons (eC (.int 1)) (aNil)))) [.int 0, .int 0])
  | 2 => eMake 2 (arity 6 (cal 0)) (aDef (aCons (eC (.str "above")) (aCons (eC (.int 1)) (aCons (eC (.int 2)) (aNil)))) [.int 0, .int 0])
  | 3 => eMake 2 (arity 6 (cal 0)) (aDef (aCons (eC (.str "above")) (aCons (eC (.int 1)) (aCons (eC (.int 1)) (aCons (eNeg (eC (.int 1))) (aNil))))) [.int 0])
  | 4 => eMake 2 (arity 6 (cal 0)) (aCons (eC (.str "above")) (aCons (eC (.int 1)) (aCons (eC (.int 1)) (aCons (eC (.int 0)) (aCons (eNeg (eC (.int 1))) (aNil))))))
  | 5 => eMake 2 (arity 6 (cal 0)) (aCons (eC (.str "outside")) (aCons (eC (.int 1)) (aCons (eC (.int 2)) (aCons (eC (.int 0)) (aCons (eC (.int 1)) (aNil))))))
  | 6 => eMeth 2 "runs_of" (arity 2 (cal 4)) (eVar 0) (aCons (eVar 2) (aNil))
  | 7 => eMeth 2 "state_at" (arity 3 (cal 5)) (eVar 0) (aCons (eVar 2) (aCons (eC (.int 5)) (aNil)))
  | 8 => eFun (arity 1 (cal 7)) (aCons (eVar 2) (aNil))
  | 9 => eFun (arity 3 (cal 10)) (aCons (eVar 0) (aCons (eVar 1) (aCons (eC (.int 11)) (aNil))))
  | 10 => eFun (arity 3 (cal 10)) (aCons (eVar 0) (aCons (eVar 2) (aCons (eC (.int 11)) (aNil))))
  | 11 => eFun (arity 3 (cal 11)) (aCons (eTup (aNil)) (aCons (eC (.str "above")) (aCons (eC (.int 1)) (aNil))))
  | 12 => eFun (arity 3 (cal 11)) (aCons (eVar 1) (aCons (eC (.str "odd")) (aCons (eC (.int 1)) (aNil))))
  | 13 => eFun (arity 3 (cal 11)) (aCons (eVar 1) (aCons (eC (.str "above")) (aCons (eNeg (eC (.int 1))) (aNil))))
  | 14 => eFun (arity 2 (cal 12)) (aCons (eTup (aCons (eVar 0) (aNil))) (aCons (eVar 2) (aNil)))
  | _ => fun _ => stuck
/-- def 22 -/
def b_22 (cal : Nat → List D → M D) : Env → M Fl :=
  sSeq (sAsg (.tp [.nm 0, .nm 1]) (eTup (aCons (eFun (arity 1 (cal 8)) (aCons (eC (.str "above 90 for 5 back 10")) (aNil))) (aCons (eTup (aCons (eTup (aCons (eC (.int 0)) (aCons (eC (.int 95)) (aNil)))) (aCons (eTup (aCons (eC (.int 3)) (aCons (eC (.int 99)) (aNil)))) (aCons (eTup (aCons (eC (.int 5)) (aCons (eC (.int 91)) (aNil)))) (aCons (eTup (aCons (eC (.int 7)) (aCons (eC (.int 85)) (aNil)))) (aCons (eTup (aCons (eC (.int 9)) (aCons (eC (.int 80)) (aNil)))) (aCons (eTup (aCons (eC (.int 11)) (aCons (eC (.int 95)) (aNil)))) (aCons (eTup (aCons (eC (.int 12)) (aCons (eC (.int 70)) (aNil)))) (aNil))))))))) (aNil))))) (
    sSeq (sAsg (.nm 2) (eTup (aCons (eTup (aCons (eC (.int 1)) (aCons (eC (.int 5)) (aNil)))) (aCons (eTup (aCons (eC (.int 1)) (aCons (eC (.int 6)) (aNil)))) (aNil))))) (
    sSeq (sAsg (.nm 3) (eLst (aCons (eMeth 2 "runs_of" (arity 2 (cal 4)) (eVar 0) (aCons (eVar 1) (aNil))) (aCons (eMeth 2 "state_at" (arity 3 (cal 5)) (eVar 0) (aCons (eVar 1) (aCons (eC (.int 4)) (aNil)))) (aCons (eMeth 2 "state_at" (arity 3 (cal 5)) (eVar 0) (aCons (eVar 1) (aCons (eC (.int 8)) (aNil)))) (aCons (eMeth 2 "threshold_text" (arity 1 (cal 6)) (eVar 0) aNil) (aCons (eMeth 2 "how_far" (arity 2 (cal 3)) (eVar 0) (aCons (eC (.int 95)) (aNil))) (aNil)))))))) (
    sSeq (sAsg (.nm 3) (eOp opAdd (eVar 3) (eLst (aCons (eMeth 2 "is_beyond" (arity 2 (cal 1)) (eFun (arity 1 (cal 8)) (aCons (eC (.str "outside 1 9")) (aNil))) (aCons (eC (.int 0)) (aNil))) (aCons (eFun (arity 3 (cal 10)) (aCons (eVar 0) (aCons (eVar 1) (aCons (eC (.int 20)) (aNil))))) (aCons (eFun (arity 3 (cal 11)) (aCons (eVar 1) (aCons (eC (.str "above")) (aCons (eC (.int 2)) (aNil))))) (aCons (eFun (arity 3 (cal 11)) (aCons (eVar 1) (aCons (eC (.str "below")) (aCons (eC (.int 1)) (aNil))))) (aNil)))))))) (
    sSeq (sAsg (.nm 3) (eOp opAdd (eVar 3) (eLst (aCons (eFun (arity 2 (cal 12)) (aCons (eTup (aCons (eVar 0) (aCons (eFun (arity 1 (cal 8)) (aCons (eC (.str "above 98")) (aNil))) (aNil)))) (aCons (eVar 1) (aNil)))) (aCons (eMeth 2 "is_clear" (arity 2 (cal 2)) (eFun (arity 1 (cal 8)) (aCons (eC (.str "below 5 back 2")) (aNil))) (aCons (eC (.int 6)) (aNil))) (aCons (eFun (arity 1 (cal 7)) (aCons (eVar 1) (aNil))) (aCons (eFun (arity 1 (cal 9)) (aCons (eC (.str "-5")) (aNil))) (aNil)))))))) (
    sSeq (sAsg (.nm 3) (eOp opAdd (eVar 3) (eLst (aCons (eFun (arity 1 (cal 9)) (aCons (eC (.str "x")) (aNil))) (aNil))))) (
    sSeq (sAsg (.nm 4) (eLst (aCons (eC (.lam 0)) (aCons (eC (.lam 1)) (aCons (eC (.lam 2)) (aCons (eC (.lam 3)) (aNil))))))) (
    sSeq (sAsg (.nm 4) (eOp opAdd (eVar 4) (eLst (aCons (eC (.lam 4)) (aCons (eC (.lam 5)) (aCons (eC (.lam 6)) (aNil))))))) (
    sSeq (sAsg (.nm 4) (eOp opAdd (eVar 4) (eLst (aCons (eC (.lam 7)) (aCons (eC (.lam 8)) (aCons (eC (.lam 9)) (aCons (eC (.lam 10)) (aNil)))))))) (
    sSeq (sAsg (.nm 4) (eOp opAdd (eVar 4) (eLst (aCons (eC (.lam 11)) (aCons (eC (.lam 12)) (aCons (eC (.lam 13)) (aCons (eC (.lam 14)) (aNil)))))))) (
    sSeq (sIf (bT (eOp opNe (eBad (iSeq (eVar 4)) [1] 15 (lf_plain cal)) (eLst (aNil)))) (sRet (eC (.bl false))) (sNil)) (
    sSeq (sIf (bT (eOp opNe (eC (.tup [.str "above", .str "below", .str "outside"])) (eTup (aCons (eC (.str "above")) (aCons (eC (.str "below")) (aCons (eC (.str "outside")) (aNil))))))) (sRet (eC (.bl false))) (sNil)) (
    sRet (eOp opEq (eVar 3) (eLst (aCons (eTup (aCons (eTup (aCons (eC (.int 0)) (aCons (eC (.int 5)) (aCons (eC (.int 9)) (aNil))))) (aCons (eTup (aCons (eC (.int 11)) (aCons (eC .non) (aCons (eC (.int 12)) (aNil))))) (aNil)))) (aCons (eC (.str "pending")) (aCons (eC (.str "firing")) (aCons (eC (.str "above 90 for 5 back 10")) (aCons (eC (.int 5)) (aCons (eC (.bl true)) (aCons (eC (.int 4)) (aCons (eC (.int 95)) (aCons (eC (.int 80)) (aCons (eTup (aCons (eC (.int 1)) (aCons (eC (.int 3)) (aNil)))) (aCons (eC (.bl false)) (aCons (eC .non) (aCons (eC (.bl true)) (aCons (eC (.bl false)) (aNil)))))))))))))))))))))))))))))
def c_0 (cal : Nat → List D → M D) : Env → M Fl :=
  sAsg (.tp [.nm 2, .nm 3, .nm 4]) (eTup (aCons (eFun (arity 1 (cal 17)) (aCons (eVar 1) (aNil))) (aCons (eLst (aNil)) (aCons (eC (.int 0)) (aNil)))))
def c_1 (cal : Nat → List D → M D) : Env → M Fl :=
  sAsg (.nm 4) (eOp opAdd (eOp opAdd (eVar 4) (eC (.int 1))) (eFun (arity 2 (cal 14)) (aCons (eVar 1) (aCons (eC (.int 4)) (aNil)))))
def c_2 (cal : Nat → List D → M D) : Env → M Fl :=
  sAsg (.nm 3) (eOp opAdd (eVar 3) (eLst (aCons (eTup (aCons (eVar 4) (aCons (eOp opSub (eFun (arity 2 (cal 14)) (aCons (eVar 1) (aCons (eC (.int 34)) (aNil)))) (eC (.int 4))) (aNil)))) (aNil))))
def c_3 (cal : Nat → List D → M D) : Env → M Fl :=
  sFor (.nm 5) (iRange range1 (aCons (eFun (arity 2 (cal 14)) (aCons (eVar 1) (aCons (eC (.int 14)) (aNil)))) (aNil))) (sSeq (c_1 cal) (
        c_2 cal))
def c_4 (cal : Nat → List D → M D) : Env → M Fl :=
  sPar 6 7 (aCons (eMake 2 (arity 6 (cal 0)) (aCons (eIx (eVar 2) (eC (.int 0))) (aCons (eIx (eVar 2) (eC (.int 1))) (aCons (eIx (eVar 2) (eC (.int 2))) (aCons (eIx (eVar 2) (eC (.int 3))) (aCons (eIx (eVar 2) (eC (.int 4))) (aNil))))))) (aCons (eFun (arity 2 (cal 20)) (aCons (eVar 2) (aCons (eVar 3) (aNil)))) (aNil)))
def c_5 (cal : Nat → List D → M D) : Env → M Fl :=
  sAsg (.nm 8) (eFun (arity 1 (cal 8)) (aCons (eFun (arity 1 (cal 21)) (aCons (eVar 2) (aNil))) (aNil)))
def c_6 (cal : Nat → List D → M D) : Env → M Fl :=
  sRet (eC (.bl false))
def c_7 (cal : Nat → List D → M D) : Env → M Fl :=
  sIf (bT (eOp opNe (eMeth 2 "threshold_text" (arity 1 (cal 6)) (eVar 6) aNil) (eFun (arity 1 (cal 21)) (aCons (eVar 2) (aNil))))) (c_6 cal) (sNil)
def c_8 (cal : Nat → List D → M D) : Env → M Fl :=
  sRet (eC (.bl false))
def c_9 (cal : Nat → List D → M D) : Env → M Fl :=
  sIf (bOr (bT (eOp opNe (eTup (aCons (eFld [2] "kind" (eVar 8)) (aCons (eFld [2] "low" (eVar 8)) (aCons (eFld [2] "high" (eVar 8)) (aCons (eFld [2] "minutes" (eVar 8)) (aCons (eFld [2] "back" (eVar 8)) (aNil))))))) (eVar 2))) (bT (eOp opNe (eCall opList (aCons (eMeth 2 "runs_of" (arity 2 (cal 4)) (eVar 6) (aCons (eVar 3) (aNil))) (aNil))) (eVar 7)))) (c_8 cal) (sNil)
def c_10 (cal : Nat → List D → M D) : Env → M Fl :=
  sAsg (.nm 10) (eIf (bT (eOp opEq (eIx (eVar 2) (eC (.int 0))) (eC (.str "above")))) (eCall opMax2 (aCons (eC (.int 0)) (aCons (eOp opSub (eVar 9) (eIx (eVar 2) (eC (.int 2)))) (aNil)))) (eIf (bT (eOp opEq (eIx (eVar 2) (eC (.int 0))) (eC (.str "below")))) (eCall opMax2 (aCons (eC (.int 0)) (aCons (eOp opSub (eIx (eVar 2) (eC (.int 1))) (eVar 9)) (aNil)))) (eCall opMax3 (aCons (eC (.int 0)) (aCons (eOp opSub (eIx (eVar 2) (eC (.int 1))) (eVar 9)) (aCons (eOp opSub (eVar 9) (eIx (eVar 2) (eC (.int 2)))) (aNil)))))))
def c_11 (cal : Nat → List D → M D) : Env → M Fl :=
  sRet (eC (.bl false))
def c_12 (cal : Nat → List D → M D) : Env → M Fl :=
  sIf (bT (eOp opNe (eTup (aCons (eMeth 2 "is_beyond" (arity 2 (cal 1)) (eVar 6) (aCons (eVar 9) (aNil))) (aCons (eMeth 2 "is_clear" (arity 2 (cal 2)) (eVar 6) (aCons (eVar 9) (aNil))) (aCons (eMeth 2 "how_far" (arity 2 (cal 3)) (eVar 6) (aCons (eVar 9) (aNil))) (aNil))))) (eTup (aCons (eFun (arity 2 (cal 18)) (aCons (eVar 2) (aCons (eVar 9) (aNil)))) (aCons (eFun (arity 2 (cal 19)) (aCons (eVar 2) (aCons (eVar 9) (aNil)))) (aCons (eVar 10) (aNil))))))) (c_11 cal) (sNil)
def c_13 (cal : Nat → List D → M D) : Env → M Fl :=
  sFor (.nm 9) (iRange range3 (aCons (eNeg (eC (.int 4))) (aCons (eC (.int 34)) (aCons (eC (.int 3)) (aNil))))) (sSeq (c_10 cal) (
        c_12 cal))
def c_14 (cal : Nat → List D → M D) : Env → M Fl :=
  sAsg (.nm 12) (eFun (arity 2 (cal 20)) (aCons (eVar 2) (aCons (eLc ([(("one" : Str), 26)].map (·.2)) (.nm 26) (iSeq (eVar 3)) (bT (eOp opLe (eIx (eVar 26) (eC (.int 0))) (eVar 11))) (eVar 26)) (aNil))))
def c_15 (cal : Nat → List D → M D) : Env → M Fl :=
  sAsg (.nm 13) (eIf (bOr (bT (eOp opEq (eVar 12) (eLst (aNil)))) (bT (eOp opIsNot (eIx (eIx (eVar 12) (eNeg (eC (.int 1)))) (eC (.int 2))) (eC .non)))) (eC (.str "ok")) (eIf (bT (eOp opIs (eIx (eIx (eVar 12) (eNeg (eC (.int 1)))) (eC (.int 1))) (eC .non))) (eC (.str "pending")) (eC (.str "firing"))))
def c_16 (cal : Nat → List D → M D) : Env → M Fl :=
  sRet (eC (.bl false))
def c_17 (cal : Nat → List D → M D) : Env → M Fl :=
  sIf (bT (eOp opNe (eMeth 2 "state_at" (arity 3 (cal 5)) (eVar 6) (aCons (eVar 3) (aCons (eVar 11) (aNil)))) (eVar 13))) (c_16 cal) (sNil)
def c_18 (cal : Nat → List D → M D) : Env → M Fl :=
  sFor (.nm 11) (iSeq (eLc ([(("k" : Str), 5)].map (·.2)) (.nm 5) (iRange range1 (aCons (eC (.int 4)) (aNil))) (bYes) (eFun (arity 2 (cal 14)) (aCons (eVar 1) (aCons (eC (.int 50)) (aNil)))))) (sSeq (c_14 cal) (
        sSeq (c_15 cal) (
        c_17 cal)))
def c_19 (cal : Nat → List D → M D) : Env → M Fl :=
  sAsg (.nm 14) (eOp opAdd (eVar 4) (eFun (arity 2 (cal 14)) (aCons (eVar 1) (aCons (eC (.int 9)) (aNil)))))
def c_20 (cal : Nat → List D → M D) : Env → M Fl :=
  sAsg (.nm 15) (eCall opSum (aCons (eLc ([(("since" : Str), 27), (("begin" : Str), 28), (("end" : Str), 29)].map (·.2)) (.tp [.nm 27, .nm 28, .nm 29]) (iSeq (eVar 7)) (bT (eOp opIsNot (eVar 28) (eC .non))) (eOp opSub (eIf (bT (eOp opIsNot (eVar 29) (eC .non))) (eVar 29) (eVar 14)) (eVar 28))) (aNil)))
def c_21 (cal : Nat → List D → M D) : Env → M Fl :=
  sRet (eC (.bl false))
def c_22 (cal : Nat → List D → M D) : Env → M Fl :=
  sIf (bT (eOp opNe (eFun (arity 3 (cal 10)) (aCons (eVar 6) (aCons (eVar 3) (aCons (eVar 14) (aNil))))) (eVar 15))) (c_21 cal) (sNil)
def c_23 (cal : Nat → List D → M D) : Env → M Fl :=
  sAsg (.tp [.nm 16, .nm 17, .nm 18]) (eTup (aCons (eLc ([(("stamp" : Str), 11), (("value" : Str), 9)].map (·.2)) (.tp [.nm 11, .nm 9]) (iSeq (eVar 3)) (bYes) (eVar 9)) (aCons (eFun (arity 2 (cal 14)) (aCons (eVar 1) (aCons (eC (.int 9)) (aNil)))) (aCons (eIx (eLst (aCons (eC (.str "above")) (aCons (eC (.str "below")) (aNil)))) (eFun (arity 2 (cal 14)) (aCons (eVar 1) (aCons (eC (.int 2)) (aNil))))) (aNil)))))
def c_24 (cal : Nat → List D → M D) : Env → M Fl :=
  sAsg (.nm 19) (eCall opSorted (aCons (eOp opAdd (eVar 16) (eLst (aCons (eOp opSub (eCall opMinL (aCons (eVar 16) (aNil))) (eC (.int 1))) (aCons (eOp opAdd (eCall opMaxL (aCons (eVar 16) (aNil))) (eC (.int 1))) (aNil))))) (aNil)))
def c_25 (cal : Nat → List D → M D) : Env → M Fl :=
  sAsg (.nm 20) (eLc ([(("bound" : Str), 30)].map (·.2)) (.nm 30) (iSeq (eVar 19)) (bT (eOp opLe (eCall opLen (aCons (eLc ([(("value" : Str), 9)].map (·.2)) (.nm 9) (iSeq (eVar 16)) (bIf (bT (eOp opEq (eVar 18) (eC (.str "above")))) (bT (eOp opGt (eVar 9) (eVar 30))) (bT (eOp opLt (eVar 9) (eVar 30)))) (eC (.int 1))) (aNil))) (eVar 17))) (eVar 30))
def c_26 (cal : Nat → List D → M D) : Env → M Fl :=
  sRet (eC (.bl false))
def c_27 (cal : Nat → List D → M D) : Env → M Fl :=
  sIf (bT (eOp opNe (eFun (arity 3 (cal 11)) (aCons (eVar 3) (aCons (eVar 18) (aCons (eVar 17) (aNil))))) (eIf (bT (eOp opEq (eVar 18) (eC (.str "above")))) (eCall opMinL (aCons (eVar 20) (aNil))) (eCall opMaxL (aCons (eVar 20) (aNil)))))) (c_26 cal) (sNil)
def c_28 (cal : Nat → List D → M D) : Env → M Fl :=
  sIf (bT (eOp opNe (eVar 3) (eLst (aNil)))) (sSeq (c_24 cal) (
        sSeq (c_25 cal) (
        c_27 cal))) (sNil)
def c_29 (cal : Nat → List D → M D) : Env → M Fl :=
  sAsg (.nm 21) (eOp opAdd (eLst (aCons (eVar 2) (aNil))) (eLc ([(("k" : Str), 5)].map (·.2)) (.nm 5) (iRange range1 (aCons (eFun (arity 2 (cal 14)) (aCons (eVar 1) (aCons (eC (.int 3)) (aNil)))) (aNil))) (bYes) (eFun (arity 1 (cal 17)) (aCons (eVar 1) (aNil)))))
def c_30 (cal : Nat → List D → M D) : Env → M Fl :=
  sAsg (.nm 22) (eLc ([(("one" : Str), 26)].map (·.2)) (.nm 26) (iSeq (eVar 21)) (bYes) (eIx (eOp opAdd (eLc ([(("run" : Str), 31)].map (·.2)) (.nm 31) (iSeq (eFun (arity 2 (cal 20)) (aCons (eVar 26) (aCons (eVar 3) (aNil))))) (bT (eOp opIsNot (eIx (eVar 31) (eC (.int 1))) (eC .non))) (eIx (eVar 31) (eC (.int 1)))) (eLst (aCons (eC .non) (aNil)))) (eC (.int 0))))
def c_31 (cal : Nat → List D → M D) : Env → M Fl :=
  sAsg (.nm 23) (eCall opSorted (aCons (eLc ([(("k" : Str), 5), (("stamp" : Str), 11)].map (·.2)) (.tp [.nm 5, .nm 11]) (iEnumD (aCons (eVar 22) (aNil))) (bT (eOp opIsNot (eVar 11) (eC .non))) (eTup (aCons (eVar 11) (aCons (eVar 5) (aNil))))) (aNil)))
def c_32 (cal : Nat → List D → M D) : Env → M Fl :=
  sRet (eC (.bl false))
def c_33 (cal : Nat → List D → M D) : Env → M Fl :=
  sIf (bT (eOp opNe (eFun (arity 2 (cal 12)) (aCons (eLc ([(("one" : Str), 26)].map (·.2)) (.nm 26) (iSeq (eVar 21)) (bYes) (eMake 2 (arity 6 (cal 0)) (aCons (eIx (eVar 26) (eC (.int 0))) (aCons (eIx (eVar 26) (eC (.int 1))) (aCons (eIx (eVar 26) (eC (.int 2))) (aCons (eIx (eVar 26) (eC (.int 3))) (aCons (eIx (eVar 26) (eC (.int 4))) (aNil)))))))) (aCons (eVar 3) (aNil)))) (eIf (bT (eOp opNe (eVar 23) (eLst (aNil)))) (eTup (aCons (eIx (eIx (eVar 23) (eC (.int 0))) (eC (.int 1))) (aCons (eIx (eIx (eVar 23) (eC (.int 0))) (eC (.int 0))) (aNil)))) (eC .non)))) (c_32 cal) (sNil)
def c_34 (cal : Nat → List D → M D) : Env → M Fl :=
  sAsg (.nm 24) (eLst (aCons (eC (.str "")) (aCons (eC (.str "odd 5")) (aCons (eC (.str "above")) (aCons (eC (.str "above x")) (aCons (eC (.str "above 5 for")) (aCons (eC (.str "above 5 back 1 for 2")) (aCons (eC (.str "above 5 for 1 for 2")) (aCons (eC (.str "outside 5")) (aCons (eC (.str "outside 9 5")) (aCons (eC (.str "above 5 odd 1")) (aNil))))))))))))
def c_35 (cal : Nat → List D → M D) : Env → M Fl :=
  sAsg (.nm 24) (eOp opAdd (eVar 24) (eLst (aCons (eC (.str "below 5 back -1")) (aCons (eC (.str "outside 1 2 back 3")) (aNil)))))
def c_36 (cal : Nat → List D → M D) : Env → M Fl :=
  sAsg (.nm 25) (eIx (eVar 24) (eFun (arity 2 (cal 14)) (aCons (eVar 1) (aCons (eC (.int 12)) (aNil)))))
def c_37 (cal : Nat → List D → M D) : Env → M Fl :=
  sRet (eC (.bl false))
def c_38 (cal : Nat → List D → M D) : Env → M Fl :=
  sIf (bT (eOp opNe (eTold [1] "ThresholdError" (eFun (arity 1 (cal 8)) (aCons (eVar 25) (aNil)))) (eC (.str "ThresholdError")))) (c_37 cal) (sNil)
def c_39 (cal : Nat → List D → M D) : Env → M Fl :=
  sFor (.nm 1) (iSeq (eFun (arity 2 (cal 15)) (aCons (eVar 0) (aCons (eC (.int 1)) (aNil))))) (sSeq (c_0 cal) (
      sSeq (c_3 cal) (
      sSeq (c_4 cal) (
      sSeq (c_5 cal) (
      sSeq (c_7 cal) (
      sSeq (c_9 cal) (
      sSeq (c_13 cal) (
      sSeq (c_18 cal) (
      sSeq (c_19 cal) (
      sSeq (c_20 cal) (
      sSeq (c_22 cal) (
      sSeq (c_23 cal) (
      sSeq (c_28 cal) (
      sSeq (c_29 cal) (
      sSeq (c_30 cal) (
      sSeq (c_31 cal) (
      sSeq (c_33 cal) (
      sSeq (c_34 cal) (
      sSeq (c_35 cal) (
      sSeq (c_36 cal) (
      c_38 cal)))))))))))))))))))))
def c_40 (cal : Nat → List D → M D) : Env → M Fl :=
  sRet (eFun (arity 0 (cal 22)) aNil)
/-- def 23 -/
def b_23 (cal : Nat → List D → M D) : Env → M Fl :=
  sSeq (c_39 cal) (
    c_40 cal)
def step (cal : Nat → List D → M D) : Nat → List D → M D := fun i => match i with
  | 0 => runB 6 (b_0 cal)
  | 1 => runB 2 (b_1 cal)
  | 2 => runB 2 (b_2 cal)
  | 3 => runB 2 (b_3 cal)
  | 4 => runB 7 (b_4 cal)
  | 5 => runB 5 (b_5 cal)
  | 6 => runB 2 (b_6 cal)
  | 7 => runB 3 (b_7 cal)
  | 8 => runB 11 (b_8 cal)
  | 9 => runB 3 (b_9 cal)
  | 10 => runB 7 (b_10 cal)
  | 11 => runB 6 (b_11 cal)
  | 12 => runB 7 (b_12 cal)
  | 13 => runB 1 (b_13 cal)
  | 14 => runB 3 (b_14 cal)
  | 15 => runB 4 (b_15 cal)
  | 16 => fun _ => stuck
  | 17 => runB 6 (b_17 cal)
  | 18 => runB 2 (b_18 cal)
  | 19 => runB 7 (b_19 cal)
  | 20 => runB 9 (b_20 cal)
  | 21 => runB 1 (b_21 cal)
  | 22 => fun _ h => if saysB true (b_22 cal (startE 6 []) []) then .ok (.bl true) h else .bad
  | 23 => runB 32 (b_23 cal)
  | _ => fun _ => stuck
def run : Nat → Nat → List D → M D
  | 0 => fun _ _ => stuck
  | j + 1 => step (run j)
end PyD.K02

namespace PyD.K02
open PySem PySem.Spec L2 PyD
open PyProof.Rows hiding St
open PyD (Env Pat)
section
variable {h : AH} {env : Env}
theorem roll_ok {k : Nat} {t : AH} {a b m many : Int} (h0 : 0 < many) (h1 : many ≤ 100000000) :
    Wp (run (k+1) 14 [.obj 0, .int many]) (dice a b m :: t) (fun d h' => ∃ r a' b' m', d = .int r ∧ 0 ≤ r ∧ r < many ∧ h' = dice a' b' m' :: t) (fun _ _ => False) := by
  show Wp (runB 3 (b_14 (run k)) _) _ _ _
  have e0 : startE 3 [D.obj 0, D.int many] = [some (.obj 0), some (.int many), none] := rfl
  have hM : ∀ ah i, opMod ah (.int i) (.int many) = some (.int (i % many)) := fun ah i => opMod_pos ah i many h0
  have hF : ∀ ah i, opFdiv ah (.int i) (.int many) = some (.int (i / many)) := fun ah i => opFdiv_pos ah i many h0 (by omega)
  have hg : decide (100000000 < many) = false := decide_eq_false (by omega)
  have mm : ∀ x : Int, 0 ≤ x % many ∧ x % many < many := fun x => ⟨Int.emod_nonneg x (by omega), Int.emod_lt_of_pos x h0⟩
  simp only [wp_runB, b_14, wp_sSeq, wp_sIf, wp_bOr, wp_bAnd, bT, wp_toB, wp_eOp, wp_eIx, wp_eVar, wp_eC, wp_eCall, wp_aCons, wp_aNil, wp_sSub, wp_sRet, wp_sAsg, wp_sNil, e0, List.getElem?_cons_zero, List.getElem?_cons_succ, opEq_int, opInt_int,
    ixd0, ixd1, ixd2, put0, put1, put2, put_nm, List.set_cons_zero, List.set_cons_succ, opAdd_int, opSub_int, opCmp_int, hM, hF, hg, opMul_lit _ _ 48271 (by decide), opMul_lit _ _ 69621 (by decide), opMod_pos _ _ 2147483647 (by decide), opFdiv_pos _ _ 7 (by decide) (by decide), Bool.false_eq_true, if_false]
  by_cases c1 : (m == 2) = true
  · simp only [c1, if_true]
    exact ⟨_, _, _, _, rfl, (mm _).1, (mm _).2, rfl⟩
  · simp only [c1, if_false, Bool.false_eq_true]
    by_cases c2 : (m == 1) = true
    · simp only [c2, if_true]
      by_cases c3 : 0 < a
      · simp only [c3, decide_true, if_true]
        exact ⟨_, _, _, _, rfl, (mm _).1, (mm _).2, rfl⟩
      · simp only [c3, decide_false, if_false, Bool.false_eq_true]
        exact ⟨_, _, _, _, rfl, (mm _).1, (mm _).2, rfl⟩
    · simp only [c2, if_false, Bool.false_eq_true]
      exact ⟨_, _, _, _, rfl, (mm _).1, (mm _).2, rfl⟩
theorem dice_ok {k : Nat} (c : Int) : ∃ a b m, run (k+1) 13 [.int c] h = .ok (.obj h.length) (h ++ [dice a b m]) := by
  have key : Wp (run (k+1) 13 [.int c]) h (fun d h' => ∃ a b m, d = .obj h.length ∧ h' = h ++ [dice a b m]) (fun _ _ => False) := by
    show Wp (runB 1 (b_13 (run k)) _) _ _ _
    have e0 : startE 1 [D.int c] = [some (.int c)] := rfl
    have z3 : 3 ≤ sizeLine := by decide
    have oi : ∀ b : Bool, opInt h [.bl b] = some (.int (if b = true then 1 else 0)) := fun b => rfl
    obtain ⟨j, hj⟩ : ∃ j, opAbs h [.int c] = some (.int j) := ⟨_, rfl⟩
    have hp : opPow h (.int 10) (.int 18) = some (.int (10 ^ 18)) := by simp only [opPow]; rw [if_pos (by decide)]; rfl
    simp only [wp_runB, wp_sSeq, wp_sIf, bT, wp_toB, wp_eOp, wp_eVar, wp_eC, wp_sRaise, wp_sNil, wp_sAsg, wp_sPar, wp_sPar3, wp_sRet, wp_sExpr, wp_sSub, wp_sSetF, wp_eLc, wp_iSeq, wp_iRange, wp_eFld, wp_eIx, wp_eTup, wp_eLst, wp_eIf, wp_eAnd, wp_eOr, wp_eNot, wp_bNot, wp_bAnd, wp_bOr, wp_aCons, wp_aNil, wp_eCall, wp_eFun, wp_eMeth, wp_arity, wp_eNeg, wp_eChain, List.getElem?_cons_zero, List.getElem?_cons_succ, List.set_cons_zero, List.set_cons_succ, List.length_cons, List.length_nil, put_nm, opCmp_int, opAdd_int, opSub_int, opEq_int, opInt_int, decide_true, decide_false, Bool.false_eq_true, if_false, if_true, true_and, and_true, List.map_cons, List.map_nil, Nat.zero_add, Nat.reduceAdd, b_13, e0, wp_eLstO, z3, hj, opMod_pos _ _ 1009 (by decide), oi, hp]
    by_cases z1 : 0 - 10 < c
    · by_cases z2 : c < 10
      · simp only [z1, z2, decide_true, if_true]
        exact ⟨_, _, _, rfl⟩
      · simp only [z1, z2, decide_true, decide_false, Bool.false_eq_true, if_false]
        exact ⟨_, _, _, rfl⟩
    · simp only [z1, decide_false, Bool.false_eq_true, if_false]
      exact ⟨_, _, _, rfl⟩
  obtain ⟨d, h', e, a, b, m, rfl, rfl⟩ := key.get
  exact ⟨a, b, m, e⟩
theorem rounds_ok {k : Nat} (ns : List Int) : ∃ a b m, run (k+2) 15 [.scr ns, .int 1] [] = .ok (.lst [.obj 0]) [dice a b m] := by
  have e0 : startE 4 [D.scr ns, D.int 1] = [some (.scr ns), some (.int 1), none, none] := rfl
  have z1 : 1 ≤ sizeLine := by decide
  have fin : ∀ c : Int, ∀ env : Env, env.length = 4 → ∃ a b m, lcGo (.nm 3) bYes (eFun (arity 1 (run (k+1) 13)) (aCons (eVar 3) aNil)) (fun _ => true) env [.int c] [] = .ok [.obj 0] [dice a b m] := fun c env he => by
    obtain ⟨a, b, m, e⟩ := dice_ok (h := []) (k := k) c
    refine ⟨a, b, m, ?_⟩
    have e3 : (env.set 3 (some (D.int c)))[3]? = some (some (D.int c)) := List.getElem?_set_self (by omega)
    simp only [lcGo, if_true, put_nm]
    have : eFun (arity 1 (run (k+1) 13)) (aCons (eVar 3) aNil) (env.set 3 (some (D.int c))) [] = .ok (.obj 0) [dice a b m] := by
      refine Wp.eq ?_
      simp only [wp_runB, wp_sSeq, wp_sIf, bT, wp_toB, wp_eOp, wp_eVar, wp_eC, wp_sRaise, wp_sNil, wp_sAsg, wp_sPar, wp_sPar3, wp_sRet, wp_sExpr, wp_sSub, wp_sSetF, wp_eLc, wp_iSeq, wp_iRange, wp_eFld, wp_eIx, wp_eTup, wp_eLst, wp_eIf, wp_eAnd, wp_eOr, wp_eNot, wp_bNot, wp_bAnd, wp_bOr, wp_aCons, wp_aNil, wp_eCall, wp_eFun, wp_eMeth, wp_arity, wp_eNeg, wp_eChain, List.getElem?_cons_zero, List.getElem?_cons_succ, List.set_cons_zero, List.set_cons_succ, List.length_cons, List.length_nil, put_nm, opCmp_int, opAdd_int, opSub_int, opEq_int, opInt_int, decide_true, decide_false, Bool.false_eq_true, if_false, if_true, true_and, and_true, List.map_cons, List.map_nil, Nat.zero_add, Nat.reduceAdd, e3, wp_eq e]
      simp
    unfold bnd
    rw [show noEx (bYes (env.set 3 (some (D.int c)))) [] = .ok true [] from rfl]
    dsimp only
    simp only [if_true]
    rw [noEx_ok this]
    rfl
  have cut : cutL (ns.map D.int) none (some 1) = (ns.take 1).map D.int := by
    rw [cutL_map]
    congr 1
    unfold cutL
    rw [HT.sIx_none]
    have : HT.sIx ns.length ns.length (some 1) = min 1 ns.length := HT.sIx_nat _ _ 1
    rw [this]
    simp
  cases ns with
  | nil =>
    obtain ⟨a, b, m, e⟩ := fin 0 [some (.scr []), some (.int 1), some (.lst [.int 0]), none] rfl
    refine ⟨a, b, m, Wp.eq ?_⟩
    have st : run (k+2) 15 = runB 4 (b_15 (run (k+1))) := rfl
    rw [st]
    have q := opEq_ints_nil (h := []) []
    have z0 : 0 ≤ sizeLine := by decide
    simp only [List.map_nil] at q cut
    simp only [wp_runB, wp_sSeq, wp_sIf, bT, wp_toB, wp_eOp, wp_eVar, wp_eC, wp_sRaise, wp_sNil, wp_sAsg, wp_sPar, wp_sPar3, wp_sRet, wp_sExpr, wp_sSub, wp_sSetF, wp_eLc, wp_iSeq, wp_iRange, wp_eFld, wp_eIx, wp_eTup, wp_eLst, wp_eIf, wp_eAnd, wp_eOr, wp_eNot, wp_bNot, wp_bAnd, wp_bOr, wp_aCons, wp_aNil, wp_eCall, wp_eFun, wp_eMeth, wp_arity, wp_eNeg, wp_eChain, List.getElem?_cons_zero, List.getElem?_cons_succ, List.set_cons_zero, List.set_cons_succ, List.length_cons, List.length_nil, put_nm, opCmp_int, opAdd_int, opSub_int, opEq_int, opInt_int, decide_true, decide_false, Bool.false_eq_true, if_false, if_true, true_and, and_true, List.map_cons, List.map_nil, Nat.zero_add, Nat.reduceAdd, b_15, e0, wp_eSl, wp_eNoPart, wp_ePart, slD, sqOf, cut, z0, q, List.isEmpty_nil, List.take_nil, z1, src_lst, wipeE]
    rw [wp_eq e]
    simp
  | cons c r =>
    obtain ⟨a, b, m, e⟩ := fin c [some (.scr (c :: r)), some (.int 1), some (.lst [.int c]), none] rfl
    refine ⟨a, b, m, Wp.eq ?_⟩
    have st : run (k+2) 15 = runB 4 (b_15 (run (k+1))) := rfl
    rw [st]
    have q := opEq_ints_nil (h := []) [c]
    have z0 : 0 ≤ sizeLine := by decide
    simp only [List.map_cons, List.map_nil, List.take_succ_cons, List.take_zero] at q cut
    simp only [wp_runB, wp_sSeq, wp_sIf, bT, wp_toB, wp_eOp, wp_eVar, wp_eC, wp_sRaise, wp_sNil, wp_sAsg, wp_sPar, wp_sPar3, wp_sRet, wp_sExpr, wp_sSub, wp_sSetF, wp_eLc, wp_iSeq, wp_iRange, wp_eFld, wp_eIx, wp_eTup, wp_eLst, wp_eIf, wp_eAnd, wp_eOr, wp_eNot, wp_bNot, wp_bAnd, wp_bOr, wp_aCons, wp_aNil, wp_eCall, wp_eFun, wp_eMeth, wp_arity, wp_eNeg, wp_eChain, List.getElem?_cons_zero, List.getElem?_cons_succ, List.set_cons_zero, List.set_cons_succ, List.length_cons, List.length_nil, put_nm, opCmp_int, opAdd_int, opSub_int, opEq_int, opInt_int, decide_true, decide_false, Bool.false_eq_true, if_false, if_true, true_and, and_true, List.map_cons, List.map_nil, Nat.zero_add, Nat.reduceAdd, b_15, e0, wp_eSl, wp_eNoPart, wp_ePart, slD, sqOf, cut, z0, q, List.isEmpty_cons, z1, src_lst, wipeE]
    rw [wp_eq e]
    simp
theorem lc_rolls {i : Nat} {many : Int} {t : AH} (e1 : ∀ d, (env.set i d)[1]? = some (some (.obj 0))) (hm : 0 < many ∧ many ≤ 100000000) (xs : List D) (x1 x2 x3 : Int) :
    Wp (lcGo (.nm i) bYes (eFun (arity 2 (run (k+1) 14)) (aCons (eVar 1) (aCons (eC (.int many)) aNil))) (fun _ => true) env xs) (dice x1 x2 x3 :: t) (fun ys h' => ∃ zs : List Int, ys = zs.map D.int ∧ zs.length = xs.length ∧ (∀ z ∈ zs, 0 ≤ z ∧ z < many) ∧ ∃ a' b' m', h' = dice a' b' m' :: t) (fun _ _ => False) := by
  refine Wp.impQ (wp_lcAll (fun h => ∃ a' b' m', h = dice a' b' m' :: t) (fun d => ∃ z : Int, d = .int z ∧ 0 ≤ z ∧ z < many) (fun _ _ => rfl) xs (fun x hx => ⟨env.set i (some x), put_nm _ _ _, fun h ⟨a', b', m', e⟩ => ⟨rfl, ?_⟩⟩) _ ⟨x1, x2, x3, rfl⟩) ?_
  · subst e
    simp only [wp_runB, wp_sSeq, wp_sIf, bT, wp_toB, wp_eOp, wp_eVar, wp_eC, wp_sRaise, wp_sNil, wp_sAsg, wp_sPar, wp_sPar3, wp_sRet, wp_sExpr, wp_sSub, wp_sSetF, wp_eLc, wp_iSeq, wp_iRange, wp_eFld, wp_eIx, wp_eTup, wp_eLst, wp_eIf, wp_eAnd, wp_eOr, wp_eNot, wp_bNot, wp_bAnd, wp_bOr, wp_aCons, wp_aNil, wp_eCall, wp_eFun, wp_eMeth, wp_arity, wp_eNeg, wp_eChain, List.getElem?_cons_zero, List.getElem?_cons_succ, List.set_cons_zero, List.set_cons_succ, List.length_cons, List.length_nil, put_nm, opCmp_int, opAdd_int, opSub_int, opEq_int, opInt_int, decide_true, decide_false, Bool.false_eq_true, if_false, if_true, true_and, and_true, List.map_cons, List.map_nil, Nat.zero_add, Nat.reduceAdd, e1]
    refine Wp.impQ (roll_ok hm.1 hm.2) ?_
    rintro _ _ ⟨r, a1, b1, m1, rfl, h1, h2, rfl⟩
    exact ⟨⟨r, rfl, h1, h2⟩, a1, b1, m1, rfl⟩
  · rintro ys h' ⟨hl, hp, a', b', m', e⟩
    obtain ⟨zs, rfl, hz⟩ := all_mapP hp
    rw [List.length_map] at hl
    exact ⟨zs, rfl, hl, hz, a', b', m', e⟩
end
end PyD.K02

namespace PyD.K02
open PySem PySem.Spec L2 PyD
open PyProof.Rows hiding St
open PyD (Env Pat)
section
variable {h u t : AH} {env : Env} {k : Nat} {a b m : Int}
inductive Kd | ab | be | ou
deriving DecidableEq
structure Rw where
  k : Kd
  lo : Int
  hi : Int
  mi : Int
  ba : Int
def kS : Kd → Str
  | .ab => "above"
  | .be => "below"
  | .ou => "outside"
structure OkW (r : Rw) : Prop where
  lo : 0 ≤ r.lo ∧ r.lo < 20
  mi : 0 ≤ r.mi ∧ r.mi < 8
  ba : 0 ≤ r.ba ∧ r.ba < 4
  hi : r.k ≠ .ou → r.hi = r.lo
  ou : r.k = .ou → r.lo + 2 * r.ba ≤ r.hi ∧ r.hi < r.lo + 2 * r.ba + 9
theorem OkW.le {r : Rw} (o : OkW r) : r.lo ≤ r.hi := by
  by_cases z : r.k = .ou
  · have := o.ou z; have := o.ba; omega
  · have := o.hi z; omega
def rwD (r : Rw) : D := .tup [.str (kS r.k), .int r.lo, .int r.hi, .int r.mi, .int r.ba]
def rwO (r : Rw) : O := .ins 2 [("kind", .str (kS r.k)), ("low", .int r.lo), ("high", .int r.hi), ("minutes", .int r.mi), ("back", .int r.ba)]
def badV (r : Rw) (v : Int) : Bool := match r.k with
  | .ab => decide (r.hi < v)
  | .be => decide (v < r.lo)
  | .ou => decide (v < r.lo) || decide (r.hi < v)
def clrV (r : Rw) (v : Int) : Bool := match r.k with
  | .ab => decide (v + r.ba ≤ r.hi)
  | .be => decide (r.lo ≤ v - r.ba)
  | .ou => decide (r.lo ≤ v - r.ba) && decide (v + r.ba ≤ r.hi)
def farV (r : Rw) (v : Int) : Int := match r.k with
  | .ab => max 0 (v - r.hi)
  | .be => max 0 (r.lo - v)
  | .ou => max (max 0 (r.lo - v)) (v - r.hi)
variable {n : Nat} {r : Rw}
theorem fl_kind (e : h[n]? = some (rwO r)) : fldD [2] "kind" h (.obj n) = some (.str (kS r.k)) := by simp only [fldD, e]; rfl
theorem fl_low (e : h[n]? = some (rwO r)) : fldD [2] "low" h (.obj n) = some (.int r.lo) := by simp only [fldD, e]; rfl
theorem fl_high (e : h[n]? = some (rwO r)) : fldD [2] "high" h (.obj n) = some (.int r.hi) := by simp only [fldD, e]; rfl
theorem fl_min (e : h[n]? = some (rwO r)) : fldD [2] "minutes" h (.obj n) = some (.int r.mi) := by simp only [fldD, e]; rfl
theorem fl_back (e : h[n]? = some (rwO r)) : fldD [2] "back" h (.obj n) = some (.int r.ba) := by simp only [fldD, e]; rfl
theorem ins_ok {m : Str} (e : h[n]? = some (rwO r)) (hm : ([("kind" : Str), "low", "high", "minutes", "back"].all fun x => !(m == x)) = true) : isInsO 2 m h (.obj n) = true := by
  simp only [List.all_cons, List.all_nil, Bool.and_true, Bool.and_eq_true, Bool.not_eq_true'] at hm
  obtain ⟨h1, h2, h3, h4, h5⟩ := hm
  simp only [isInsO, e, rwO, decide_true, Bool.true_and, List.lookup, h1, h2, h3, h4, h5]
  rfl
theorem eq_ab (x : Kd) : opEq h (.str (kS x)) (.str "above") = some (.bl (decide (x = .ab))) := by cases x <;> rfl
theorem eq_be (x : Kd) : opEq h (.str (kS x)) (.str "below") = some (.bl (decide (x = .be))) := by cases x <;> rfl
theorem eq_ou (x : Kd) : opEq h (.str (kS x)) (.str "outside") = some (.bl (decide (x = .ou))) := by cases x <;> rfl
theorem ne_ou (x : Kd) : opNe h (.str (kS x)) (.str "outside") = some (.bl (!decide (x = .ou))) := by cases x <;> rfl
theorem beyond_ok {v : Int} (e : h[n]? = some (rwO r)) : run (k+1) 1 [.obj n, .int v] h = .ok (.bl (badV r v)) h := by
  refine Wp.eq ?_
  show Wp (runB 2 (b_1 (run k)) _) _ _ _
  have e0 : startE 2 [D.obj n, D.int v] = [some (.obj n), some (.int v)] := rfl
  simp only [wp_runB, wp_sSeq, wp_sIf, bT, wp_toB, wp_eOp, wp_eVar, wp_eC, wp_sRaise, wp_sNil, wp_sAsg, wp_sPar, wp_sPar3, wp_sRet, wp_sExpr, wp_sSub, wp_sSetF, wp_eLc, wp_iSeq, wp_iRange, wp_eFld, wp_eIx, wp_eTup, wp_eLst, wp_eIf, wp_eAnd, wp_eOr, wp_eNot, wp_bNot, wp_bAnd, wp_bOr, wp_aCons, wp_aNil, wp_eCall, wp_eFun, wp_eMeth, wp_arity, wp_eNeg, wp_eChain, List.getElem?_cons_zero, List.getElem?_cons_succ, List.set_cons_zero, List.set_cons_succ, List.length_cons, List.length_nil, put_nm, opCmp_int, opAdd_int, opSub_int, opEq_int, opInt_int, decide_true, decide_false, Bool.false_eq_true, if_false, if_true, true_and, and_true, List.map_cons, List.map_nil, Nat.zero_add, Nat.reduceAdd, b_1, e0, fl_kind e, fl_high e, fl_low e, eq_ab, eq_be, wp_eChain]
  unfold badV
  cases hk : r.k
  · simp
  · simp
  · simp
    by_cases z : r.lo ≤ v
    · have z2 : ¬ v < r.lo := by omega
      simp [z, z2]
      by_cases y : v ≤ r.hi
      · have : ¬ r.hi < v := by omega
        simp [y, this]
      · have : r.hi < v := by omega
        simp [y, this]
    · have z2 : v < r.lo := by omega
      simp [z, z2]
theorem clear_ok {v : Int} (e : h[n]? = some (rwO r)) : run (k+1) 2 [.obj n, .int v] h = .ok (.bl (clrV r v)) h := by
  refine Wp.eq ?_
  show Wp (runB 2 (b_2 (run k)) _) _ _ _
  have e0 : startE 2 [D.obj n, D.int v] = [some (.obj n), some (.int v)] := rfl
  simp only [wp_runB, wp_sSeq, wp_sIf, bT, wp_toB, wp_eOp, wp_eVar, wp_eC, wp_sRaise, wp_sNil, wp_sAsg, wp_sPar, wp_sPar3, wp_sRet, wp_sExpr, wp_sSub, wp_sSetF, wp_eLc, wp_iSeq, wp_iRange, wp_eFld, wp_eIx, wp_eTup, wp_eLst, wp_eIf, wp_eAnd, wp_eOr, wp_eNot, wp_bNot, wp_bAnd, wp_bOr, wp_aCons, wp_aNil, wp_eCall, wp_eFun, wp_eMeth, wp_arity, wp_eNeg, wp_eChain, List.getElem?_cons_zero, List.getElem?_cons_succ, List.set_cons_zero, List.set_cons_succ, List.length_cons, List.length_nil, put_nm, opCmp_int, opAdd_int, opSub_int, opEq_int, opInt_int, decide_true, decide_false, Bool.false_eq_true, if_false, if_true, true_and, and_true, List.map_cons, List.map_nil, Nat.zero_add, Nat.reduceAdd, b_2, e0, fl_kind e, fl_high e, fl_low e, fl_back e, eq_ab, eq_be, wp_eChain]
  unfold clrV
  cases hk : r.k
  · simp; omega
  · simp; omega
  · simp
    by_cases z : r.lo + r.ba ≤ v
    · have z2 : r.lo ≤ v - r.ba := by omega
      simp [z, z2]; omega
    · have z2 : ¬ r.lo ≤ v - r.ba := by omega
      simp [z, z2]
theorem far_ok {v : Int} (o : OkW r) (e : h[n]? = some (rwO r)) : run (k+2) 3 [.obj n, .int v] h = .ok (.int (farV r v)) h := by
  refine Wp.eq ?_
  show Wp (runB 2 (b_3 (run (k+1))) _) _ _ _
  have e0 : startE 2 [D.obj n, D.int v] = [some (.obj n), some (.int v)] := rfl
  simp only [wp_runB, wp_sSeq, wp_sIf, bT, wp_toB, wp_eOp, wp_eVar, wp_eC, wp_sRaise, wp_sNil, wp_sAsg, wp_sPar, wp_sPar3, wp_sRet, wp_sExpr, wp_sSub, wp_sSetF, wp_eLc, wp_iSeq, wp_iRange, wp_eFld, wp_eIx, wp_eTup, wp_eLst, wp_eIf, wp_eAnd, wp_eOr, wp_eNot, wp_bNot, wp_bAnd, wp_bOr, wp_aCons, wp_aNil, wp_eCall, wp_eFun, wp_eMeth, wp_arity, wp_eNeg, wp_eChain, List.getElem?_cons_zero, List.getElem?_cons_succ, List.set_cons_zero, List.set_cons_succ, List.length_cons, List.length_nil, put_nm, opCmp_int, opAdd_int, opSub_int, opEq_int, opInt_int, decide_true, decide_false, Bool.false_eq_true, if_false, if_true, true_and, and_true, List.map_cons, List.map_nil, Nat.zero_add, Nat.reduceAdd, b_3, e0, fl_kind e, fl_high e, fl_low e, eq_ab, eq_ou, wp_eMeth, ins_ok e (m := "is_beyond") (by decide +kernel), wp_arity, wp_eq (beyond_ok (k := k) (v := v) e), wp_eCall, opMax2_int]
  unfold badV farV
  cases hk : r.k
  · simp
    split <;> omega
  · simp
    split <;> omega
  · have hle := o.le
    simp
    split <;> omega
end
end PyD.K02

namespace PyD.K02
open PySem PySem.Spec L2 PyD
open PyProof.Rows hiding St
open PyD (Env Pat)
section
variable {h u t : AH} {env : Env} {k : Nat} {a b m : Int}
variable {n : Nat} {r : Rw}
/-! the law's own, of a row -/
theorem ix_rw0 : ixD h (rwD r) (.int 0) = some (.str (kS r.k)) := rfl
theorem ix_rw1 : ixD h (rwD r) (.int 1) = some (.int r.lo) := rfl
theorem ix_rw2 : ixD h (rwD r) (.int 2) = some (.int r.hi) := rfl
theorem ix_rw3 : ixD h (rwD r) (.int 3) = some (.int r.mi) := rfl
theorem ix_rw4 : ixD h (rwD r) (.int 4) = some (.int r.ba) := rfl
theorem lbad_ok {v : Int} : run (k+1) 18 [rwD r, .int v] h = .ok (.bl (badV r v)) h := by
  refine Wp.eq ?_
  show Wp (runB 2 (b_18 (run k)) _) _ _ _
  have e0 : startE 2 [rwD r, D.int v] = [some (rwD r), some (.int v)] := rfl
  simp only [wp_runB, wp_sSeq, wp_sIf, bT, wp_toB, wp_eOp, wp_eVar, wp_eC, wp_sRaise, wp_sNil, wp_sAsg, wp_sPar, wp_sPar3, wp_sRet, wp_sExpr, wp_sSub, wp_sSetF, wp_eLc, wp_iSeq, wp_iRange, wp_eFld, wp_eIx, wp_eTup, wp_eLst, wp_eIf, wp_eAnd, wp_eOr, wp_eNot, wp_bNot, wp_bAnd, wp_bOr, wp_aCons, wp_aNil, wp_eCall, wp_eFun, wp_eMeth, wp_arity, wp_eNeg, wp_eChain, List.getElem?_cons_zero, List.getElem?_cons_succ, List.set_cons_zero, List.set_cons_succ, List.length_cons, List.length_nil, put_nm, opCmp_int, opAdd_int, opSub_int, opEq_int, opInt_int, decide_true, decide_false, Bool.false_eq_true, if_false, if_true, true_and, and_true, List.map_cons, List.map_nil, Nat.zero_add, Nat.reduceAdd, b_18, e0, ix_rw0, ix_rw1, ix_rw2, eq_ab, eq_be]
  unfold badV
  cases hk : r.k
  · simp
  · simp
  · by_cases z : v < r.lo <;> simp [z]
theorem put_tp5 {i1 i2 i3 i4 i5 : Nat} {x y z w v : D} {env : Env} : (Pat.tp [.nm i1, .nm i2, .nm i3, .nm i4, .nm i5]).put (.tup [x, y, z, w, v]) env = some (((((env.set i1 (some x)).set i2 (some y)).set i3 (some z)).set i4 (some w)).set i5 (some v)) := rfl
theorem put_tp4 {i1 i2 i3 i4 : Nat} {x y z w : D} {env : Env} : (Pat.tp [.nm i1, .nm i2, .nm i3, .nm i4]).put (.tup [x, y, z, w]) env = some ((((env.set i1 (some x)).set i2 (some y)).set i3 (some z)).set i4 (some w)) := rfl
theorem lclear_ok {v : Int} : run (k+1) 19 [rwD r, .int v] h = .ok (.bl (clrV r v)) h := by
  refine Wp.eq ?_
  show Wp (runB 7 (b_19 (run k)) _) _ _ _
  have e0 : startE 7 [rwD r, D.int v] = [some (.tup [.str (kS r.k), .int r.lo, .int r.hi, .int r.mi, .int r.ba]), some (.int v), none, none, none, none, none] := rfl
  simp only [wp_runB, wp_sSeq, wp_sIf, bT, wp_toB, wp_eOp, wp_eVar, wp_eC, wp_sRaise, wp_sNil, wp_sAsg, wp_sPar, wp_sPar3, wp_sRet, wp_sExpr, wp_sSub, wp_sSetF, wp_eLc, wp_iSeq, wp_iRange, wp_eFld, wp_eIx, wp_eTup, wp_eLst, wp_eIf, wp_eAnd, wp_eOr, wp_eNot, wp_bNot, wp_bAnd, wp_bOr, wp_aCons, wp_aNil, wp_eCall, wp_eFun, wp_eMeth, wp_arity, wp_eNeg, wp_eChain, List.getElem?_cons_zero, List.getElem?_cons_succ, List.set_cons_zero, List.set_cons_succ, List.length_cons, List.length_nil, put_nm, opCmp_int, opAdd_int, opSub_int, opEq_int, opInt_int, decide_true, decide_false, Bool.false_eq_true, if_false, if_true, true_and, and_true, List.map_cons, List.map_nil, Nat.zero_add, Nat.reduceAdd, b_19, e0, put_tp5, eq_ab, eq_be]
  unfold clrV
  cases hk : r.k
  · simp
  · simp
  · by_cases z : r.lo ≤ v - r.ba <;> simp [z]
/-! a row drawn -/
theorem row_ok : Wp (run (k+2) 17 [.obj 0]) (dice a b m :: t) (fun d h' => ∃ (r : Rw) (a' b' m' : Int), d = rwD r ∧ OkW r ∧ h' = dice a' b' m' :: t) (fun _ _ => False) := by
  show Wp (runB 6 (b_17 (run (k+1))) _) _ _ _
  have e0 : startE 6 [D.obj 0] = [some (.obj 0), none, none, none, none, none] := rfl
  have z3 : 3 ≤ sizeLine := by decide
  have z4 : 4 ≤ sizeLine := by decide
  have z5 : 5 ≤ sizeLine := by decide
  simp only [wp_runB, wp_sSeq, wp_sIf, bT, wp_toB, wp_eOp, wp_eVar, wp_eC, wp_sRaise, wp_sNil, wp_sAsg, wp_sPar, wp_sPar3, wp_sRet, wp_sExpr, wp_sSub, wp_sSetF, wp_eLc, wp_iSeq, wp_iRange, wp_eFld, wp_eIx, wp_eTup, wp_eLst, wp_eIf, wp_eAnd, wp_eOr, wp_eNot, wp_bNot, wp_bAnd, wp_bOr, wp_aCons, wp_aNil, wp_eCall, wp_eFun, wp_eMeth, wp_arity, wp_eNeg, wp_eChain, List.getElem?_cons_zero, List.getElem?_cons_succ, List.set_cons_zero, List.set_cons_succ, List.length_cons, List.length_nil, put_nm, opCmp_int, opAdd_int, opSub_int, opEq_int, opInt_int, decide_true, decide_false, Bool.false_eq_true, if_false, if_true, true_and, and_true, List.map_cons, List.map_nil, Nat.zero_add, Nat.reduceAdd, b_17, e0, z3, z4, z5, wp_eFun, wp_arity]
  refine Wp.impQ (roll_ok (by decide) (by decide)) ?_
  rintro _ _ ⟨r1, a1, b1, m1, rfl, p1, q1, rfl⟩
  obtain ⟨x, hx, hx2⟩ : ∃ x : Kd, ixD (dice a1 b1 m1 :: t) (.lst [.str "above", .str "below", .str "outside"]) (.int r1) = some (.str (kS x)) ∧ True := by
    have : r1 = 0 ∨ r1 = 1 ∨ r1 = 2 := by omega
    rcases this with e | e | e <;> subst e
    · exact ⟨.ab, rfl, trivial⟩
    · exact ⟨.be, rfl, trivial⟩
    · exact ⟨.ou, rfl, trivial⟩
  simp only [hx]
  refine Wp.impQ (roll_ok (by decide) (by decide)) ?_
  rintro _ _ ⟨r2, a2, b2, m2, rfl, p2, q2, rfl⟩
  refine Wp.impQ (roll_ok (by decide) (by decide)) ?_
  rintro _ _ ⟨r3, a3, b3, m3, rfl, p3, q3, rfl⟩
  refine Wp.impQ (roll_ok (by decide) (by decide)) ?_
  rintro _ _ ⟨r4, a4, b4, m4, rfl, p4, q4, rfl⟩
  simp only [wp_runB, wp_sSeq, wp_sIf, bT, wp_toB, wp_eOp, wp_eVar, wp_eC, wp_sRaise, wp_sNil, wp_sAsg, wp_sPar, wp_sPar3, wp_sRet, wp_sExpr, wp_sSub, wp_sSetF, wp_eLc, wp_iSeq, wp_iRange, wp_eFld, wp_eIx, wp_eTup, wp_eLst, wp_eIf, wp_eAnd, wp_eOr, wp_eNot, wp_bNot, wp_bAnd, wp_bOr, wp_aCons, wp_aNil, wp_eCall, wp_eFun, wp_eMeth, wp_arity, wp_eNeg, wp_eChain, List.getElem?_cons_zero, List.getElem?_cons_succ, List.set_cons_zero, List.set_cons_succ, List.length_cons, List.length_nil, put_nm, opCmp_int, opAdd_int, opSub_int, opEq_int, opInt_int, decide_true, decide_false, Bool.false_eq_true, if_false, if_true, true_and, and_true, List.map_cons, List.map_nil, Nat.zero_add, Nat.reduceAdd, put_tp4, eq_ou]
  by_cases hz : x = .ou
  · subst hz
    simp only [decide_true, if_true]
    simp only [wp_runB, wp_sSeq, wp_sIf, bT, wp_toB, wp_eOp, wp_eVar, wp_eC, wp_sRaise, wp_sNil, wp_sAsg, wp_sPar, wp_sPar3, wp_sRet, wp_sExpr, wp_sSub, wp_sSetF, wp_eLc, wp_iSeq, wp_iRange, wp_eFld, wp_eIx, wp_eTup, wp_eLst, wp_eIf, wp_eAnd, wp_eOr, wp_eNot, wp_bNot, wp_bAnd, wp_bOr, wp_aCons, wp_aNil, wp_eCall, wp_eFun, wp_eMeth, wp_arity, wp_eNeg, wp_eChain, List.getElem?_cons_zero, List.getElem?_cons_succ, List.set_cons_zero, List.set_cons_succ, List.length_cons, List.length_nil, put_nm, opCmp_int, opAdd_int, opSub_int, opEq_int, opInt_int, decide_true, decide_false, Bool.false_eq_true, if_false, if_true, true_and, and_true, List.map_cons, List.map_nil, Nat.zero_add, Nat.reduceAdd, opMul_l _ 2 _ (by decide)]
    refine Wp.impQ (roll_ok (by decide) (by decide)) ?_
    rintro _ _ ⟨r5, a5, b5, m5, rfl, p5, q5, rfl⟩
    try simp only [wp_runB, wp_sSeq, wp_sIf, bT, wp_toB, wp_eOp, wp_eVar, wp_eC, wp_sRaise, wp_sNil, wp_sAsg, wp_sPar, wp_sPar3, wp_sRet, wp_sExpr, wp_sSub, wp_sSetF, wp_eLc, wp_iSeq, wp_iRange, wp_eFld, wp_eIx, wp_eTup, wp_eLst, wp_eIf, wp_eAnd, wp_eOr, wp_eNot, wp_bNot, wp_bAnd, wp_bOr, wp_aCons, wp_aNil, wp_eCall, wp_eFun, wp_eMeth, wp_arity, wp_eNeg, wp_eChain, List.getElem?_cons_zero, List.getElem?_cons_succ, List.set_cons_zero, List.set_cons_succ, List.length_cons, List.length_nil, put_nm, opCmp_int, opAdd_int, opSub_int, opEq_int, opInt_int, decide_true, decide_false, Bool.false_eq_true, if_false, if_true, true_and, and_true, List.map_cons, List.map_nil, Nat.zero_add, Nat.reduceAdd, z5]
    exact ⟨⟨.ou, r2, r2 + 2 * r4 + r5, r3, r4⟩, a5, b5, m5, rfl, ⟨⟨p2, q2⟩, ⟨p3, q3⟩, ⟨p4, q4⟩, fun z => absurd rfl z, fun _ => ⟨by dsimp only; omega, by dsimp only; omega⟩⟩, rfl⟩
  · simp only [hz, decide_false, Bool.false_eq_true, if_false]
    try simp only [wp_runB, wp_sSeq, wp_sIf, bT, wp_toB, wp_eOp, wp_eVar, wp_eC, wp_sRaise, wp_sNil, wp_sAsg, wp_sPar, wp_sPar3, wp_sRet, wp_sExpr, wp_sSub, wp_sSetF, wp_eLc, wp_iSeq, wp_iRange, wp_eFld, wp_eIx, wp_eTup, wp_eLst, wp_eIf, wp_eAnd, wp_eOr, wp_eNot, wp_bNot, wp_bAnd, wp_bOr, wp_aCons, wp_aNil, wp_eCall, wp_eFun, wp_eMeth, wp_arity, wp_eNeg, wp_eChain, List.getElem?_cons_zero, List.getElem?_cons_succ, List.set_cons_zero, List.set_cons_succ, List.length_cons, List.length_nil, put_nm, opCmp_int, opAdd_int, opSub_int, opEq_int, opInt_int, decide_true, decide_false, Bool.false_eq_true, if_false, if_true, true_and, and_true, List.map_cons, List.map_nil, Nat.zero_add, Nat.reduceAdd, z5]
    exact ⟨⟨x, r2, r2, r3, r4⟩, a4, b4, m4, rfl, ⟨⟨p2, q2⟩, ⟨p3, q3⟩, ⟨p4, q4⟩, fun _ => rfl, fun z => absurd z hz⟩, rfl⟩
/-! a threshold made -/
theorem in3 (x : Kd) : opNotIn h (.str (kS x)) (.tup [.str "above", .str "below", .str "outside"]) = some (.bl false) := by cases x <;> rfl
theorem make_core {lo hi mi ba : Int} {x : Kd} (h1 : lo ≤ hi) (h2 : 0 ≤ mi) (h3 : 0 ≤ ba) (h4 : x ≠ .ou → lo = hi) (h5 : x = .ou → 2 * ba ≤ hi - lo) : run (k+1) 0 [.obj h.length, .str (kS x), .int lo, .int hi, .int mi, .int ba] (h ++ [.ins 2 []]) = .ok .non (h ++ [rwO ⟨x, lo, hi, mi, ba⟩]) := by
  refine Wp.eq ?_
  show Wp (runB 6 (b_0 (run k)) _) _ _ _
  have e0 : startE 6 [D.obj h.length, .str (kS x), .int lo, .int hi, .int mi, .int ba] = [some (.obj h.length), some (.str (kS x)), some (.int lo), some (.int hi), some (.int mi), some (.int ba)] := rfl
  have n1 : ¬ hi < lo := by omega
  have n2 : ¬ min mi ba < 0 := by omega
  have pf : ∀ (f : Str) (v : D) (fs fs' : List (Str × D)), fs.length < 1000 → putFD f v fs = fs' → putFld [2] f (h ++ [.ins 2 fs]) (.obj h.length) v = some (h ++ [.ins 2 fs']) := fun f v fs fs' hl he => by
    simp only [putFld, get_last, List.contains_cons, hl, set_last, he]
    rfl
  have f1 := pf "kind" (.str (kS x)) [] [("kind", .str (kS x))] (by decide) rfl
  have f2 := pf "low" (.int lo) [("kind", .str (kS x))] [("kind", .str (kS x)), ("low", .int lo)] (by simp) rfl
  have f3 := pf "high" (.int hi) [("kind", .str (kS x)), ("low", .int lo)] [("kind", .str (kS x)), ("low", .int lo), ("high", .int hi)] (by simp) rfl
  have f4 := pf "minutes" (.int mi) [("kind", .str (kS x)), ("low", .int lo), ("high", .int hi)] [("kind", .str (kS x)), ("low", .int lo), ("high", .int hi), ("minutes", .int mi)] (by simp) rfl
  have f5 := pf "back" (.int ba) [("kind", .str (kS x)), ("low", .int lo), ("high", .int hi), ("minutes", .int mi)] [("kind", .str (kS x)), ("low", .int lo), ("high", .int hi), ("minutes", .int mi), ("back", .int ba)] (by simp) rfl
  simp only [wp_runB, wp_sSeq, wp_sIf, bT, wp_toB, wp_eOp, wp_eVar, wp_eC, wp_sRaise, wp_sNil, wp_sAsg, wp_sPar, wp_sPar3, wp_sRet, wp_sExpr, wp_sSub, wp_sSetF, wp_eLc, wp_iSeq, wp_iRange, wp_eFld, wp_eIx, wp_eTup, wp_eLst, wp_eIf, wp_eAnd, wp_eOr, wp_eNot, wp_bNot, wp_bAnd, wp_bOr, wp_aCons, wp_aNil, wp_eCall, wp_eFun, wp_eMeth, wp_arity, wp_eNeg, wp_eChain, List.getElem?_cons_zero, List.getElem?_cons_succ, List.set_cons_zero, List.set_cons_succ, List.length_cons, List.length_nil, put_nm, opCmp_int, opAdd_int, opSub_int, opEq_int, opInt_int, decide_true, decide_false, Bool.false_eq_true, if_false, if_true, true_and, and_true, List.map_cons, List.map_nil, Nat.zero_add, Nat.reduceAdd, b_0, e0, in3, n1, n2, wp_eCall, opMin2_int, ne_ou, eq_ou, opNe_int, opMul_l _ 2 _ (by decide)]
  by_cases hz : x = .ou
  · have n3 : ¬ hi - lo < 2 * ba := by have := h5 hz; omega
    simp only [hz, decide_true, Bool.not_true, Bool.false_eq_true, if_false, if_true, n3, decide_false]
    subst hz
    simp only [f1, f2, f3, f4, f5]
    all_goals first | trivial | exact ⟨rfl, trivial⟩ | exact ⟨rfl, rfl⟩
  · have n3 : lo = hi := h4 hz
    simp only [hz, decide_false, Bool.not_false, if_true, n3, BEq.rfl, Bool.not_true, Bool.false_eq_true, if_false]
    subst n3
    simp only [f1, f2, f3, f4, f5]
    all_goals first | trivial | exact ⟨rfl, trivial⟩ | exact ⟨rfl, rfl⟩
theorem make_ok {r : Rw} (o : OkW r) : run (k+1) 0 [.obj h.length, .str (kS r.k), .int r.lo, .int r.hi, .int r.mi, .int r.ba] (h ++ [.ins 2 []]) = .ok .non (h ++ [rwO r]) :=
  make_core o.le o.mi.1 o.ba.1 (fun z => (o.hi z).symm) (fun z => by have := (o.ou z).1; omega)
end
end PyD.K02

namespace PyD.K02
open PySem PySem.Spec L2 PyD
open PyProof.Rows hiding St
open PyD (Env Pat)
section
variable {h u t : AH} {env : Env} {k : Nat} {a b m : Int}
variable {n : Nat} {r : Rw}
def sq (l : Bool) (xs : List D) : D := if l then .lst xs else .tup xs
theorem src_sq {l : Bool} {xs : List D} : srcSeq h (sq l xs) = some ⟨xs, fun _ => true⟩ := by cases l <;> rfl
theorem wp_iZipT {g : Env → M (List D)} {Q : Src → AH → Prop} {E : Nat → AH → Prop} {xs ys : List D} (w : Wp (g env) h (fun ds h' => ds = [.tup xs, .tup ys] ∧ Q ⟨zipD xs ys, fun _ => true⟩ h') E) : Wp (iZipD g env) h Q E := by
  unfold iZipD
  rw [wp_bnd]
  refine w.impQ ?_
  rintro _ h' ⟨rfl, q⟩
  exact q
theorem check_ok {l : Bool} {rows : List Pr} (hr : Rise rows) (hn : rows.length ≤ 100) : run (k+1) 7 [sq l (rows.map pD)] h = .ok .non h := by
  refine Wp.eq ?_
  show Wp (runB 3 (b_7 (run k)) _) _ _ _
  have e0 : startE 3 [sq l (rows.map pD)] = [some (sq l (rows.map pD)), none, none] := rfl
  have hz : ((rows.zip rows.tail).map fun p : Pr × Pr => D.tup [pD p.1, pD p.2]).length ≤ sizeLine := by rw [List.length_map, List.length_zip, sizeLine_eq]; omega
  simp only [wp_runB, wp_sSeq, wp_sIf, bT, wp_toB, wp_eOp, wp_eVar, wp_eC, wp_sRaise, wp_sNil, wp_sAsg, wp_sPar, wp_sPar3, wp_sRet, wp_sExpr, wp_sSub, wp_sSetF, wp_eLc, wp_iSeq, wp_iRange, wp_eFld, wp_eIx, wp_eTup, wp_eLst, wp_eIf, wp_eAnd, wp_eOr, wp_eNot, wp_bNot, wp_bAnd, wp_bOr, wp_aCons, wp_aNil, wp_eCall, wp_eFun, wp_eMeth, wp_arity, wp_eNeg, wp_eChain, List.getElem?_cons_zero, List.getElem?_cons_succ, List.set_cons_zero, List.set_cons_succ, List.length_cons, List.length_nil, put_nm, opCmp_int, opAdd_int, opSub_int, opEq_int, opInt_int, decide_true, decide_false, Bool.false_eq_true, if_false, if_true, true_and, and_true, List.map_cons, List.map_nil, Nat.zero_add, Nat.reduceAdd, b_7, e0, wp_bnd, wp_eGx]
  cases l
  · refine wp_iZipT (xs := rows.map pD) (ys := rows.tail.map pD) ?_
    simp only [sq, Bool.false_eq_true, if_false]
    simp only [wp_runB, wp_sSeq, wp_sIf, bT, wp_toB, wp_eOp, wp_eVar, wp_eC, wp_sRaise, wp_sNil, wp_sAsg, wp_sPar, wp_sPar3, wp_sRet, wp_sExpr, wp_sSub, wp_sSetF, wp_eLc, wp_iSeq, wp_iRange, wp_eFld, wp_eIx, wp_eTup, wp_eLst, wp_eIf, wp_eAnd, wp_eOr, wp_eNot, wp_bNot, wp_bAnd, wp_bOr, wp_aCons, wp_aNil, wp_eCall, wp_eFun, wp_eMeth, wp_arity, wp_eNeg, wp_eChain, List.getElem?_cons_zero, List.getElem?_cons_succ, List.set_cons_zero, List.set_cons_succ, List.length_cons, List.length_nil, put_nm, opCmp_int, opAdd_int, opSub_int, opEq_int, opInt_int, decide_true, decide_false, Bool.false_eq_true, if_false, if_true, true_and, and_true, List.map_cons, List.map_nil, Nat.zero_add, Nat.reduceAdd, wp_eSl, wp_eNoPart, wp_ePart, slD, sqOf, cut_tail, ← List.map_tail, zipD_map]
    refine ⟨hz, ?_⟩
    rw [wp_eq (gxGo_stop (γ := Pr × Pr) (fun p => D.tup [pD p.1, pD p.2]) rfl (xs := rows.zip rows.tail) (fun p hp => ?_))]
    · simp only [kAny, blsD_false, any_false, wp_ret, Bool.false_eq_true, if_false, and_self]
    · have := adj hr p hp
      refine ⟨[some (.tup (rows.map pD)), some (pD p.1), some (pD p.2)], rfl, rfl, Wp.eq ?_⟩
      have n1 : ¬ p.2.1 ≤ p.1.1 := by omega
      have i1 : ixD h (pD p.1) (.int 0) = some (.int p.1.1) := rfl
      have i2 : ixD h (pD p.2) (.int 0) = some (.int p.2.1) := rfl
      simp only [wp_runB, wp_sSeq, wp_sIf, bT, wp_toB, wp_eOp, wp_eVar, wp_eC, wp_sRaise, wp_sNil, wp_sAsg, wp_sPar, wp_sPar3, wp_sRet, wp_sExpr, wp_sSub, wp_sSetF, wp_eLc, wp_iSeq, wp_iRange, wp_eFld, wp_eIx, wp_eTup, wp_eLst, wp_eIf, wp_eAnd, wp_eOr, wp_eNot, wp_bNot, wp_bAnd, wp_bOr, wp_aCons, wp_aNil, wp_eCall, wp_eFun, wp_eMeth, wp_arity, wp_eNeg, wp_eChain, List.getElem?_cons_zero, List.getElem?_cons_succ, List.set_cons_zero, List.set_cons_succ, List.length_cons, List.length_nil, put_nm, opCmp_int, opAdd_int, opSub_int, opEq_int, opInt_int, decide_true, decide_false, Bool.false_eq_true, if_false, if_true, true_and, and_true, List.map_cons, List.map_nil, Nat.zero_add, Nat.reduceAdd, i1, i2, n1]
      all_goals first | trivial | exact ⟨rfl, trivial⟩ | exact ⟨rfl, rfl⟩
  · refine wp_iZipD (xs := rows.map pD) (ys := rows.tail.map pD) ?_
    simp only [sq, if_true]
    simp only [wp_runB, wp_sSeq, wp_sIf, bT, wp_toB, wp_eOp, wp_eVar, wp_eC, wp_sRaise, wp_sNil, wp_sAsg, wp_sPar, wp_sPar3, wp_sRet, wp_sExpr, wp_sSub, wp_sSetF, wp_eLc, wp_iSeq, wp_iRange, wp_eFld, wp_eIx, wp_eTup, wp_eLst, wp_eIf, wp_eAnd, wp_eOr, wp_eNot, wp_bNot, wp_bAnd, wp_bOr, wp_aCons, wp_aNil, wp_eCall, wp_eFun, wp_eMeth, wp_arity, wp_eNeg, wp_eChain, List.getElem?_cons_zero, List.getElem?_cons_succ, List.set_cons_zero, List.set_cons_succ, List.length_cons, List.length_nil, put_nm, opCmp_int, opAdd_int, opSub_int, opEq_int, opInt_int, decide_true, decide_false, Bool.false_eq_true, if_false, if_true, true_and, and_true, List.map_cons, List.map_nil, Nat.zero_add, Nat.reduceAdd, wp_eSl, wp_eNoPart, wp_ePart, slD, sqOf, cut_tail, ← List.map_tail, zipD_map]
    refine ⟨hz, ?_⟩
    rw [wp_eq (gxGo_stop (γ := Pr × Pr) (fun p => D.tup [pD p.1, pD p.2]) rfl (xs := rows.zip rows.tail) (fun p hp => ?_))]
    · simp only [kAny, blsD_false, any_false, wp_ret, Bool.false_eq_true, if_false, and_self]
    · have := adj hr p hp
      refine ⟨[some (.lst (rows.map pD)), some (pD p.1), some (pD p.2)], rfl, rfl, Wp.eq ?_⟩
      have n1 : ¬ p.2.1 ≤ p.1.1 := by omega
      have i1 : ixD h (pD p.1) (.int 0) = some (.int p.1.1) := rfl
      have i2 : ixD h (pD p.2) (.int 0) = some (.int p.2.1) := rfl
      simp only [wp_runB, wp_sSeq, wp_sIf, bT, wp_toB, wp_eOp, wp_eVar, wp_eC, wp_sRaise, wp_sNil, wp_sAsg, wp_sPar, wp_sPar3, wp_sRet, wp_sExpr, wp_sSub, wp_sSetF, wp_eLc, wp_iSeq, wp_iRange, wp_eFld, wp_eIx, wp_eTup, wp_eLst, wp_eIf, wp_eAnd, wp_eOr, wp_eNot, wp_bNot, wp_bAnd, wp_bOr, wp_aCons, wp_aNil, wp_eCall, wp_eFun, wp_eMeth, wp_arity, wp_eNeg, wp_eChain, List.getElem?_cons_zero, List.getElem?_cons_succ, List.set_cons_zero, List.set_cons_succ, List.length_cons, List.length_nil, put_nm, opCmp_int, opAdd_int, opSub_int, opEq_int, opInt_int, decide_true, decide_false, Bool.false_eq_true, if_false, if_true, true_and, and_true, List.map_cons, List.map_nil, Nat.zero_add, Nat.reduceAdd, i1, i2, n1]
      all_goals first | trivial | exact ⟨rfl, trivial⟩ | exact ⟨rfl, rfl⟩
/-! runs -/
inductive Ste | ok | pe (s : Int) | fi (s f : Int)
abbrev Run := Int × Option Int × Option Int
def oD : Option Int → D
  | none => .non
  | some i => .int i
def runD (q : Run) : D := .tup [.int q.1, oD q.2.1, oD q.2.2]
def st0 (r : Rw) (s : Ste) (q : Pr) : Ste := match s with
  | .ok => if badV r q.2 = true then .pe q.1 else .ok
  | s => s
def st1 (r : Rw) (q : Pr) : Ste → List Run × Ste
  | .ok => ([], .ok)
  | .pe s => if badV r q.2 = true then (if r.mi ≤ q.1 - s then ([], .fi s q.1) else ([], .pe s)) else ([(s, none, some q.1)], .ok)
  | .fi s f => if clrV r q.2 = true then ([(s, some f, some q.1)], .ok) else ([], .fi s f)
def stp (r : Rw) (s : List Run × Ste) (q : Pr) : List Run × Ste := (s.1 ++ (st1 r q (st0 r s.2 q)).1, (st1 r q (st0 r s.2 q)).2)
def acc (r : Rw) (rows : List Pr) : List Run × Ste := rows.foldl (stp r) ([], .ok)
def tailR : Ste → List Run
  | .ok => []
  | .pe s => [(s, none, none)]
  | .fi s f => [(s, some f, none)]
def runs (r : Rw) (rows : List Pr) : List Run := (acc r rows).1 ++ tailR (acc r rows).2
theorem st1_len (q : Pr) (s : Ste) : (st1 r q s).1.length ≤ 1 := by
  cases s <;> simp only [st1]
  · simp
  · split
    · split <;> simp
    · simp
  · split <;> simp
theorem acc_len (r : Rw) : ∀ (rows : List Pr) (s : List Run × Ste), (rows.foldl (stp r) s).1.length ≤ s.1.length + rows.length
  | [], s => by simp
  | q :: rows, s => by
    rw [List.foldl_cons]
    have := acc_len r rows (stp r s q)
    have h2 : (stp r s q).1.length ≤ s.1.length + 1 := by
      unfold stp
      have := st1_len (r := r) q (st0 r s.2 q)
      rw [List.length_append]; omega
    simp only [List.length_cons]
    omega
theorem tail_len (s : Ste) : (tailR s).length ≤ 1 := by cases s <;> simp [tailR]
theorem runs_len (r : Rw) (rows : List Pr) : (runs r rows).length ≤ rows.length + 1 := by
  have h1 := acc_len r rows ([], .ok)
  have h2 := tail_len (acc r rows).2
  unfold runs
  rw [List.length_append]
  simp only [List.length_nil, Nat.zero_add] at h1
  unfold acc at *
  omega
def siD : Ste → D
  | .ok => .non
  | .pe s => .int s
  | .fi s _ => .int s
def fiD : Ste → D
  | .fi _ f => .int f
  | _ => .non
end
end PyD.K02

namespace PyD.K02
open PySem PySem.Spec L2 PyD
open PyProof.Rows hiding St
open PyD (Env Pat)
section
variable {h u t : AH} {env : Env} {k : Nat} {a b m : Int}
variable {n : Nat} {r : Rw}
theorem get_app {x : O} (e : h[n]? = some x) (u : AH) : (h ++ u)[n]? = some x := by
  rw [List.getElem?_append_left (List.getElem?_eq_some_iff.mp e).1]; exact e
theorem is_nn : opIs h .non .non = some (.bl true) := rfl
theorem is_in {i : Int} : opIs h (.int i) .non = some (.bl false) := rfl
theorem isn_nn : opIsNot h .non .non = some (.bl false) := rfl
theorem isn_in {i : Int} : opIsNot h (.int i) .non = some (.bl true) := rfl
theorem app_obj {xs : List D} {x : D} (hz : xs.length < sizeLine) : appD (h ++ [.lst xs]) (.obj h.length) x = some (h ++ [.lst (xs ++ [x])]) := by
  have := app_mid (h := h) (u := []) (xs := xs) (x := x) hz
  simpa using this
theorem isl_obj {xs : List D} : isLstO (h ++ [.lst xs]) (.obj h.length) = true := by
  have := isl_mid (h := h) (u := []) (xs := xs)
  simpa using this
theorem runs_ok {l : Bool} {rows : List Pr} (hr : Rise rows) (hn : rows.length ≤ 100) (e : h[n]? = some (rwO r)) :
    Wp (run (k+2) 4 [.obj n, sq l (rows.map pD)]) h (fun d h' => d = .tup ((runs r rows).map runD) ∧ ∃ u, h' = h ++ u) (fun _ _ => False) := by
  show Wp (runB 7 (b_4 (run (k+1))) _) _ _ _
  have e0 : startE 7 [D.obj n, sq l (rows.map pD)] = [some (.obj n), some (sq l (rows.map pD)), none, none, none, none, none] := rfl
  have z0 : 0 ≤ sizeLine := by decide
  have z1 : 1 ≤ sizeLine := by decide
  have z3 : 3 ≤ sizeLine := by decide
  simp only [wp_runB, wp_sSeq, wp_sIf, bT, wp_toB, wp_eOp, wp_eVar, wp_eC, wp_sRaise, wp_sNil, wp_sAsg, wp_sPar, wp_sPar3, wp_sRet, wp_sExpr, wp_sSub, wp_sSetF, wp_eLc, wp_iSeq, wp_iRange, wp_eFld, wp_eIx, wp_eTup, wp_eLst, wp_eIf, wp_eAnd, wp_eOr, wp_eNot, wp_bNot, wp_bAnd, wp_bOr, wp_aCons, wp_aNil, wp_eCall, wp_eFun, wp_eMeth, wp_arity, wp_eNeg, wp_eChain, List.getElem?_cons_zero, List.getElem?_cons_succ, List.set_cons_zero, List.set_cons_succ, List.length_cons, List.length_nil, put_nm, opCmp_int, opAdd_int, opSub_int, opEq_int, opInt_int, decide_true, decide_false, Bool.false_eq_true, if_false, if_true, true_and, and_true, List.map_cons, List.map_nil, Nat.zero_add, Nat.reduceAdd, b_4, e0, wp_eFun, wp_arity, wp_eq (check_ok (k := k) (h := h) (l := l) hr hn), wp_eLstO, z0, wp_sFor, src_sq]
  refine Wp.impQ (wp_forAll (γ := Pr) pD rows (fun p env' h' => h' = h ++ [.lst ((acc r p).1.map runD)] ∧ ∃ x5 x6, env' = [some (.obj n), some (sq l (rows.map pD)), some (.obj h.length), some (siD (acc r p).2), some (fiD (acc r p).2), x5, x6]) ?_ ⟨rfl, _, _, rfl⟩) ?_
  · rintro p q s env' h' hp ⟨rfl, x5, x6, rfl⟩
    refine ⟨_, put_pD, ?_⟩
    have hlen : ((acc r p).1.map runD).length < sizeLine := by
      have h1 := acc_len r p ([], .ok)
      have : p.length ≤ rows.length := by rw [← hp]; simp
      rw [List.length_map, sizeLine_eq]
      unfold acc
      simp at h1
      omega
    have fold : acc r (p ++ [q]) = stp r (acc r p) q := by unfold acc; rw [List.foldl_append]; rfl
    rw [fold]
    generalize acc r p = st at *
    obtain ⟨F, st⟩ := st
    have e' := get_app e [.lst (F.map runD)]
    have ib := fun m hm => ins_ok (m := m) e' hm
    dsimp only at hlen ⊢
    unfold stp
    dsimp only
    cases st with
    | ok =>
      simp only [siD, fiD, st0]
      simp only [wp_runB, wp_sSeq, wp_sIf, bT, wp_toB, wp_eOp, wp_eVar, wp_eC, wp_sRaise, wp_sNil, wp_sAsg, wp_sPar, wp_sPar3, wp_sRet, wp_sExpr, wp_sSub, wp_sSetF, wp_eLc, wp_iSeq, wp_iRange, wp_eFld, wp_eIx, wp_eTup, wp_eLst, wp_eIf, wp_eAnd, wp_eOr, wp_eNot, wp_bNot, wp_bAnd, wp_bOr, wp_aCons, wp_aNil, wp_eCall, wp_eFun, wp_eMeth, wp_arity, wp_eNeg, wp_eChain, List.getElem?_cons_zero, List.getElem?_cons_succ, List.set_cons_zero, List.set_cons_succ, List.length_cons, List.length_nil, put_nm, opCmp_int, opAdd_int, opSub_int, opEq_int, opInt_int, decide_true, decide_false, Bool.false_eq_true, if_false, if_true, true_and, and_true, List.map_cons, List.map_nil, Nat.zero_add, Nat.reduceAdd, is_nn, isn_nn, is_in, isn_in, wp_eMeth, ib "is_beyond" (by decide +kernel), wp_arity, wp_eq (beyond_ok (k := k) (v := q.2) e')]
      cases hb : badV r q.2 with
      | false =>
        trace_state
        exact ⟨_, .inl rfl, by simp [st1], _, _, by simp [st1, siD, fiD]; exact ⟨rfl, rfl⟩⟩
      | true =>
        try simp only [if_true]
        simp only [wp_runB, wp_sSeq, wp_sIf, bT, wp_toB, wp_eOp, wp_eVar, wp_eC, wp_sRaise, wp_sNil, wp_sAsg, wp_sPar, wp_sPar3, wp_sRet, wp_sExpr, wp_sSub, wp_sSetF, wp_eLc, wp_iSeq, wp_iRange, wp_eFld, wp_eIx, wp_eTup, wp_eLst, wp_eIf, wp_eAnd, wp_eOr, wp_eNot, wp_bNot, wp_bAnd, wp_bOr, wp_aCons, wp_aNil, wp_eCall, wp_eFun, wp_eMeth, wp_arity, wp_eNeg, wp_eChain, List.getElem?_cons_zero, List.getElem?_cons_succ, List.set_cons_zero, List.set_cons_succ, List.length_cons, List.length_nil, put_nm, opCmp_int, opAdd_int, opSub_int, opEq_int, opInt_int, decide_true, decide_false, Bool.false_eq_true, if_false, if_true, true_and, and_true, List.map_cons, List.map_nil, Nat.zero_add, Nat.reduceAdd, is_nn, isn_nn, is_in, isn_in, wp_eMeth, ib "is_beyond" (by decide +kernel), wp_arity, wp_eq (beyond_ok (k := k) (v := q.2) e'), hb, Bool.not_true, fl_min e', st1]
        by_cases z : r.mi ≤ q.1 - q.1
        · simp only [z, decide_true, if_true]
          exact ⟨_, .inl rfl, by simp, _, _, by simp [siD, fiD]; exact ⟨rfl, rfl⟩⟩
        · simp only [z, decide_false, Bool.false_eq_true, if_false]
          exact ⟨_, .inl rfl, by simp, _, _, by simp [siD, fiD]; exact ⟨rfl, rfl⟩⟩
    | pe s0 =>
      simp only [siD, fiD, st0]
      simp only [wp_runB, wp_sSeq, wp_sIf, bT, wp_toB, wp_eOp, wp_eVar, wp_eC, wp_sRaise, wp_sNil, wp_sAsg, wp_sPar, wp_sPar3, wp_sRet, wp_sExpr, wp_sSub, wp_sSetF, wp_eLc, wp_iSeq, wp_iRange, wp_eFld, wp_eIx, wp_eTup, wp_eLst, wp_eIf, wp_eAnd, wp_eOr, wp_eNot, wp_bNot, wp_bAnd, wp_bOr, wp_aCons, wp_aNil, wp_eCall, wp_eFun, wp_eMeth, wp_arity, wp_eNeg, wp_eChain, List.getElem?_cons_zero, List.getElem?_cons_succ, List.set_cons_zero, List.set_cons_succ, List.length_cons, List.length_nil, put_nm, opCmp_int, opAdd_int, opSub_int, opEq_int, opInt_int, decide_true, decide_false, Bool.false_eq_true, if_false, if_true, true_and, and_true, List.map_cons, List.map_nil, Nat.zero_add, Nat.reduceAdd, is_nn, isn_nn, is_in, isn_in, wp_eMeth, ib "is_beyond" (by decide +kernel), wp_arity, wp_eq (beyond_ok (k := k) (v := q.2) e'), fl_min e', st1]
      cases hb : badV r q.2 with
      | false =>
        simp only [Bool.false_eq_true, if_false, Bool.not_false, if_true]
        simp only [wp_runB, wp_sSeq, wp_sIf, bT, wp_toB, wp_eOp, wp_eVar, wp_eC, wp_sRaise, wp_sNil, wp_sAsg, wp_sPar, wp_sPar3, wp_sRet, wp_sExpr, wp_sSub, wp_sSetF, wp_eLc, wp_iSeq, wp_iRange, wp_eFld, wp_eIx, wp_eTup, wp_eLst, wp_eIf, wp_eAnd, wp_eOr, wp_eNot, wp_bNot, wp_bAnd, wp_bOr, wp_aCons, wp_aNil, wp_eCall, wp_eFun, wp_eMeth, wp_arity, wp_eNeg, wp_eChain, List.getElem?_cons_zero, List.getElem?_cons_succ, List.set_cons_zero, List.set_cons_succ, List.length_cons, List.length_nil, put_nm, opCmp_int, opAdd_int, opSub_int, opEq_int, opInt_int, decide_true, decide_false, Bool.false_eq_true, if_false, if_true, true_and, and_true, List.map_cons, List.map_nil, Nat.zero_add, Nat.reduceAdd, wp_eAppend, isl_obj, app_obj hlen, z3]
        exact ⟨_, .inl rfl, by simp [runD, oD], _, _, by simp [siD, fiD]; exact ⟨rfl, rfl⟩⟩
      | true =>
        simp only [Bool.not_true, Bool.false_eq_true, if_false, if_true]
        by_cases z : r.mi ≤ q.1 - s0
        · simp only [z, decide_true, if_true]
          exact ⟨_, .inl rfl, by simp, _, _, by simp [siD, fiD]; exact ⟨rfl, rfl⟩⟩
        · simp only [z, decide_false, Bool.false_eq_true, if_false]
          exact ⟨_, .inl rfl, by simp, _, _, by simp [siD, fiD]; exact ⟨rfl, rfl⟩⟩
    | fi s0 f0 =>
      simp only [siD, fiD, st0]
      simp only [wp_runB, wp_sSeq, wp_sIf, bT, wp_toB, wp_eOp, wp_eVar, wp_eC, wp_sRaise, wp_sNil, wp_sAsg, wp_sPar, wp_sPar3, wp_sRet, wp_sExpr, wp_sSub, wp_sSetF, wp_eLc, wp_iSeq, wp_iRange, wp_eFld, wp_eIx, wp_eTup, wp_eLst, wp_eIf, wp_eAnd, wp_eOr, wp_eNot, wp_bNot, wp_bAnd, wp_bOr, wp_aCons, wp_aNil, wp_eCall, wp_eFun, wp_eMeth, wp_arity, wp_eNeg, wp_eChain, List.getElem?_cons_zero, List.getElem?_cons_succ, List.set_cons_zero, List.set_cons_succ, List.length_cons, List.length_nil, put_nm, opCmp_int, opAdd_int, opSub_int, opEq_int, opInt_int, decide_true, decide_false, Bool.false_eq_true, if_false, if_true, true_and, and_true, List.map_cons, List.map_nil, Nat.zero_add, Nat.reduceAdd, is_nn, isn_nn, is_in, isn_in, wp_eMeth, ib "is_clear" (by decide +kernel), wp_arity, wp_eq (clear_ok (k := k) (v := q.2) e'), st1]
      cases hb : clrV r q.2 with
      | false =>
        simp only [Bool.false_eq_true, if_false]
        exact ⟨_, .inl rfl, by simp, _, _, by simp [siD, fiD]; exact ⟨rfl, rfl⟩⟩
      | true =>
        try simp only [if_true]
        simp only [wp_runB, wp_sSeq, wp_sIf, bT, wp_toB, wp_eOp, wp_eVar, wp_eC, wp_sRaise, wp_sNil, wp_sAsg, wp_sPar, wp_sPar3, wp_sRet, wp_sExpr, wp_sSub, wp_sSetF, wp_eLc, wp_iSeq, wp_iRange, wp_eFld, wp_eIx, wp_eTup, wp_eLst, wp_eIf, wp_eAnd, wp_eOr, wp_eNot, wp_bNot, wp_bAnd, wp_bOr, wp_aCons, wp_aNil, wp_eCall, wp_eFun, wp_eMeth, wp_arity, wp_eNeg, wp_eChain, List.getElem?_cons_zero, List.getElem?_cons_succ, List.set_cons_zero, List.set_cons_succ, List.length_cons, List.length_nil, put_nm, opCmp_int, opAdd_int, opSub_int, opEq_int, opInt_int, decide_true, decide_false, Bool.false_eq_true, if_false, if_true, true_and, and_true, List.map_cons, List.map_nil, Nat.zero_add, Nat.reduceAdd, wp_eAppend, isl_obj, app_obj hlen, z3]
        exact ⟨_, .inl rfl, by simp [runD, oD], _, _, by simp [siD, fiD]; exact ⟨rfl, rfl⟩⟩
  · rintro _ h' ⟨env', rfl, rfl, x5, x6, rfl⟩
    have hlen : ((acc r rows).1.map runD).length + 1 ≤ sizeLine := by
      have h1 := acc_len r rows ([], .ok)
      rw [List.length_map, sizeLine_eq]
      unfold acc
      simp at h1
      omega
    have hl0 : ((acc r rows).1.map runD).length ≤ sizeLine := by omega
    have lo : ∀ xs : List D, lstOf (h ++ [.lst xs]) (.obj h.length) = some xs := fun xs => by simp only [lstOf, get_last]
    have ad : ∀ ys : List D, ((acc r rows).1.map runD).length + ys.length ≤ sizeLine → orOp opAdd opAddO (h ++ [.lst ((acc r rows).1.map runD)]) (.obj h.length) (.lst ys) = some (.lst ((acc r rows).1.map runD ++ ys)) := fun ys hy => by
      have : opAdd (h ++ [.lst ((acc r rows).1.map runD)]) (.obj h.length) (.lst ys) = none := rfl
      have l2 : lstOf (h ++ [.lst ((acc r rows).1.map runD)]) (.lst ys) = some ys := rfl
      simp only [orOp, this, opAddO, lo, l2, hy, if_true]
    unfold runs
    generalize acc r rows = st at *
    obtain ⟨F, st⟩ := st
    dsimp only at *
    have ot : ∀ ys : List D, opTuple (h ++ [.lst (F.map runD)]) [.lst ys] = some (.tup ys) := fun ys => rfl
    cases st with
    | ok =>
      simp only [siD, fiD, tailR]
      simp only [wp_runB, wp_sSeq, wp_sIf, bT, wp_toB, wp_eOp, wp_eVar, wp_eC, wp_sRaise, wp_sNil, wp_sAsg, wp_sPar, wp_sPar3, wp_sRet, wp_sExpr, wp_sSub, wp_sSetF, wp_eLc, wp_iSeq, wp_iRange, wp_eFld, wp_eIx, wp_eTup, wp_eLst, wp_eIf, wp_eAnd, wp_eOr, wp_eNot, wp_bNot, wp_bAnd, wp_bOr, wp_aCons, wp_aNil, wp_eCall, wp_eFun, wp_eMeth, wp_arity, wp_eNeg, wp_eChain, List.getElem?_cons_zero, List.getElem?_cons_succ, List.set_cons_zero, List.set_cons_succ, List.length_cons, List.length_nil, put_nm, opCmp_int, opAdd_int, opSub_int, opEq_int, opInt_int, decide_true, decide_false, Bool.false_eq_true, if_false, if_true, true_and, and_true, List.map_cons, List.map_nil, Nat.zero_add, Nat.reduceAdd, isn_nn, z0, ad [] (by simpa using hl0), wp_eCall, ot]
      exact ⟨by simp, _, rfl⟩
    | pe s0 =>
      simp only [siD, fiD, tailR]
      simp only [wp_runB, wp_sSeq, wp_sIf, bT, wp_toB, wp_eOp, wp_eVar, wp_eC, wp_sRaise, wp_sNil, wp_sAsg, wp_sPar, wp_sPar3, wp_sRet, wp_sExpr, wp_sSub, wp_sSetF, wp_eLc, wp_iSeq, wp_iRange, wp_eFld, wp_eIx, wp_eTup, wp_eLst, wp_eIf, wp_eAnd, wp_eOr, wp_eNot, wp_bNot, wp_bAnd, wp_bOr, wp_aCons, wp_aNil, wp_eCall, wp_eFun, wp_eMeth, wp_arity, wp_eNeg, wp_eChain, List.getElem?_cons_zero, List.getElem?_cons_succ, List.set_cons_zero, List.set_cons_succ, List.length_cons, List.length_nil, put_nm, opCmp_int, opAdd_int, opSub_int, opEq_int, opInt_int, decide_true, decide_false, Bool.false_eq_true, if_false, if_true, true_and, and_true, List.map_cons, List.map_nil, Nat.zero_add, Nat.reduceAdd, isn_in, z1, z3, ad [_] (by simpa using hlen), wp_eCall, ot]
      exact ⟨by simp [runD, oD], _, rfl⟩
    | fi s0 f0 =>
      simp only [siD, fiD, tailR]
      simp only [wp_runB, wp_sSeq, wp_sIf, bT, wp_toB, wp_eOp, wp_eVar, wp_eC, wp_sRaise, wp_sNil, wp_sAsg, wp_sPar, wp_sPar3, wp_sRet, wp_sExpr, wp_sSub, wp_sSetF, wp_eLc, wp_iSeq, wp_iRange, wp_eFld, wp_eIx, wp_eTup, wp_eLst, wp_eIf, wp_eAnd, wp_eOr, wp_eNot, wp_bNot, wp_bAnd, wp_bOr, wp_aCons, wp_aNil, wp_eCall, wp_eFun, wp_eMeth, wp_arity, wp_eNeg, wp_eChain, List.getElem?_cons_zero, List.getElem?_cons_succ, List.set_cons_zero, List.set_cons_succ, List.length_cons, List.length_nil, put_nm, opCmp_int, opAdd_int, opSub_int, opEq_int, opInt_int, decide_true, decide_false, Bool.false_eq_true, if_false, if_true, true_and, and_true, List.map_cons, List.map_nil, Nat.zero_add, Nat.reduceAdd, isn_in, z1, z3, ad [_] (by simpa using hlen), wp_eCall, ot]
      exact ⟨by simp [runD, oD], _, rfl⟩
end
end PyD.K02

namespace PyD.K02
open PySem PySem.Spec L2 PyD
open PyProof.Rows hiding St
open PyD (Env Pat)
section
variable {h u t : AH} {env : Env} {k : Nat} {a b m : Int}
variable {n : Nat} {r : Rw}
def stS : Ste → Str
  | .ok => "ok"
  | .pe _ => "pending"
  | .fi _ _ => "firing"
def okS : Ste → D → D → Prop
  | .ok, _, _ => True
  | .pe s, x, _ => x = .int s
  | .fi s f, x, y => x = .int s ∧ y = .int f
theorem sq_oo : opEq h (.str "ok") (.str "ok") = some (.bl true) := rfl
theorem sq_po : opEq h (.str "pending") (.str "ok") = some (.bl false) := rfl
theorem sq_fo : opEq h (.str "firing") (.str "ok") = some (.bl false) := rfl
theorem sq_op : opEq h (.str "ok") (.str "pending") = some (.bl false) := rfl
theorem sq_pp : opEq h (.str "pending") (.str "pending") = some (.bl true) := rfl
theorem sq_fp : opEq h (.str "firing") (.str "pending") = some (.bl false) := rfl
theorem sq_of : opEq h (.str "ok") (.str "firing") = some (.bl false) := rfl
theorem sq_pf : opEq h (.str "pending") (.str "firing") = some (.bl false) := rfl
theorem sq_ff : opEq h (.str "firing") (.str "firing") = some (.bl true) := rfl
theorem sn_oo : opNe h (.str "ok") (.str "ok") = some (.bl false) := rfl
theorem sn_po : opNe h (.str "pending") (.str "ok") = some (.bl true) := rfl
theorem sn_fo : opNe h (.str "firing") (.str "ok") = some (.bl true) := rfl
theorem lruns_ok {rows : List Pr} (hn : rows.length ≤ 100) :
    run (k+2) 20 [rwD r, .lst (rows.map pD)] h = .ok (.lst ((runs r rows).map runD)) h := by
  refine Wp.eq ?_
  show Wp (runB 9 (b_20 (run (k+1))) _) _ _ _
  have e0 : startE 9 [rwD r, .lst (rows.map pD)] = [some (rwD r), some (.lst (rows.map pD)), none, none, none, none, none, none, none] := rfl
  have z0 : 0 ≤ sizeLine := by decide
  have z1 : 1 ≤ sizeLine := by decide
  have z3 : 3 ≤ sizeLine := by decide
  have z4 : 4 ≤ sizeLine := by decide
  simp only [wp_runB, wp_sSeq, wp_sIf, bT, wp_toB, wp_eOp, wp_eVar, wp_eC, wp_sRaise, wp_sNil, wp_sAsg, wp_sPar, wp_sPar3, wp_sRet, wp_sExpr, wp_sSub, wp_sSetF, wp_eLc, wp_iSeq, wp_iRange, wp_eFld, wp_eIx, wp_eTup, wp_eLst, wp_eIf, wp_eAnd, wp_eOr, wp_eNot, wp_bNot, wp_bAnd, wp_bOr, wp_aCons, wp_aNil, wp_eCall, wp_eFun, wp_eMeth, wp_arity, wp_eNeg, wp_eChain, List.getElem?_cons_zero, List.getElem?_cons_succ, List.set_cons_zero, List.set_cons_succ, List.length_cons, List.length_nil, put_nm, opCmp_int, opAdd_int, opSub_int, opEq_int, opInt_int, decide_true, decide_false, Bool.false_eq_true, if_false, if_true, true_and, and_true, List.map_cons, List.map_nil, Nat.zero_add, Nat.reduceAdd, b_20, e0, z0, z4, put_tp4, wp_sFor, src_lst]
  refine Wp.impQ (wp_forAll (γ := Pr) pD rows (fun p env' h' => h' = h ∧ ∃ x4 x5 x6 x7 x8, env' = [some (rwD r), some (.lst (rows.map pD)), some (.lst ((acc r p).1.map runD)), some (.str (stS (acc r p).2)), some x4, some x5, x6, x7, x8] ∧ okS (acc r p).2 x4 x5) ?_ ⟨rfl, _, _, _, _, _, rfl, trivial⟩) ?_
  · rintro p q s env' h' hp ⟨rfl, x4, x5, x6, x7, x8, rfl, ho⟩
    refine ⟨_, put_pD, ?_⟩
    have hlen : ((acc r p).1.map runD).length + 1 ≤ sizeLine := by
      have h1 := acc_len r p ([], .ok)
      have : p.length ≤ rows.length := by rw [← hp]; simp
      rw [List.length_map, sizeLine_eq]
      unfold acc
      simp at h1
      omega
    have fold : acc r (p ++ [q]) = stp r (acc r p) q := by unfold acc; rw [List.foldl_append]; rfl
    rw [fold]
    generalize acc r p = st at *
    obtain ⟨F, st⟩ := st
    dsimp only at hlen ho ⊢
    have ad : ∀ d, opAdd h' (.lst (F.map runD)) (.lst [runD d]) = some (.lst ((F ++ [d]).map runD)) := fun d => by
      rw [opAdd_lst (by simpa using hlen)]; simp
    unfold stp
    dsimp only
    cases st with
    | ok =>
      simp only [stS, st0]
      simp only [wp_runB, wp_sSeq, wp_sIf, bT, wp_toB, wp_eOp, wp_eVar, wp_eC, wp_sRaise, wp_sNil, wp_sAsg, wp_sPar, wp_sPar3, wp_sRet, wp_sExpr, wp_sSub, wp_sSetF, wp_eLc, wp_iSeq, wp_iRange, wp_eFld, wp_eIx, wp_eTup, wp_eLst, wp_eIf, wp_eAnd, wp_eOr, wp_eNot, wp_bNot, wp_bAnd, wp_bOr, wp_aCons, wp_aNil, wp_eCall, wp_eFun, wp_eMeth, wp_arity, wp_eNeg, wp_eChain, List.getElem?_cons_zero, List.getElem?_cons_succ, List.set_cons_zero, List.set_cons_succ, List.length_cons, List.length_nil, put_nm, opCmp_int, opAdd_int, opSub_int, opEq_int, opInt_int, decide_true, decide_false, Bool.false_eq_true, if_false, if_true, true_and, and_true, List.map_cons, List.map_nil, Nat.zero_add, Nat.reduceAdd, wp_eFun, wp_arity, wp_eq (lbad_ok (k := k) (r := r) (v := q.2)), sq_oo, sq_pp, ix_rw3]
      cases hb : badV r q.2 with
      | false =>
        try simp only [Bool.false_eq_true, if_false]
        simp only [wp_runB, wp_sSeq, wp_sIf, bT, wp_toB, wp_eOp, wp_eVar, wp_eC, wp_sRaise, wp_sNil, wp_sAsg, wp_sPar, wp_sPar3, wp_sRet, wp_sExpr, wp_sSub, wp_sSetF, wp_eLc, wp_iSeq, wp_iRange, wp_eFld, wp_eIx, wp_eTup, wp_eLst, wp_eIf, wp_eAnd, wp_eOr, wp_eNot, wp_bNot, wp_bAnd, wp_bOr, wp_aCons, wp_aNil, wp_eCall, wp_eFun, wp_eMeth, wp_arity, wp_eNeg, wp_eChain, List.getElem?_cons_zero, List.getElem?_cons_succ, List.set_cons_zero, List.set_cons_succ, List.length_cons, List.length_nil, put_nm, opCmp_int, opAdd_int, opSub_int, opEq_int, opInt_int, decide_true, decide_false, Bool.false_eq_true, if_false, if_true, true_and, and_true, List.map_cons, List.map_nil, Nat.zero_add, Nat.reduceAdd, sq_op, sq_of, sq_oo]
        exact ⟨_, .inl rfl, _, _, _, _, _, by simp [st1, stS]; first | exact ⟨rfl, rfl, rfl, rfl, rfl⟩ | exact ⟨rfl, rfl, rfl, rfl⟩ | exact ⟨rfl, rfl, rfl⟩ | exact ⟨rfl, rfl⟩ | rfl, trivial⟩
      | true =>
        try simp only [if_true]
        simp only [wp_runB, wp_sSeq, wp_sIf, bT, wp_toB, wp_eOp, wp_eVar, wp_eC, wp_sRaise, wp_sNil, wp_sAsg, wp_sPar, wp_sPar3, wp_sRet, wp_sExpr, wp_sSub, wp_sSetF, wp_eLc, wp_iSeq, wp_iRange, wp_eFld, wp_eIx, wp_eTup, wp_eLst, wp_eIf, wp_eAnd, wp_eOr, wp_eNot, wp_bNot, wp_bAnd, wp_bOr, wp_aCons, wp_aNil, wp_eCall, wp_eFun, wp_eMeth, wp_arity, wp_eNeg, wp_eChain, List.getElem?_cons_zero, List.getElem?_cons_succ, List.set_cons_zero, List.set_cons_succ, List.length_cons, List.length_nil, put_nm, opCmp_int, opAdd_int, opSub_int, opEq_int, opInt_int, decide_true, decide_false, Bool.false_eq_true, if_false, if_true, true_and, and_true, List.map_cons, List.map_nil, Nat.zero_add, Nat.reduceAdd, sq_pp, sq_oo, hb, Bool.not_true, ix_rw3, st1]
        by_cases z : r.mi ≤ q.1 - q.1
        · simp only [z, decide_true, if_true]
          exact ⟨_, .inl rfl, _, _, _, _, _, by simp [stS]; first | exact ⟨rfl, rfl, rfl, rfl, rfl⟩ | exact ⟨rfl, rfl, rfl, rfl⟩ | exact ⟨rfl, rfl, rfl⟩ | exact ⟨rfl, rfl⟩ | rfl, rfl, rfl⟩
        · simp only [z, decide_false, Bool.false_eq_true, if_false]
          exact ⟨_, .inl rfl, _, _, _, _, _, by simp [stS]; first | exact ⟨rfl, rfl, rfl, rfl, rfl⟩ | exact ⟨rfl, rfl, rfl, rfl⟩ | exact ⟨rfl, rfl, rfl⟩ | exact ⟨rfl, rfl⟩ | rfl, rfl⟩
    | pe s0 =>
      simp only [okS] at ho
      subst ho
      simp only [stS, st0]
      simp only [wp_runB, wp_sSeq, wp_sIf, bT, wp_toB, wp_eOp, wp_eVar, wp_eC, wp_sRaise, wp_sNil, wp_sAsg, wp_sPar, wp_sPar3, wp_sRet, wp_sExpr, wp_sSub, wp_sSetF, wp_eLc, wp_iSeq, wp_iRange, wp_eFld, wp_eIx, wp_eTup, wp_eLst, wp_eIf, wp_eAnd, wp_eOr, wp_eNot, wp_bNot, wp_bAnd, wp_bOr, wp_aCons, wp_aNil, wp_eCall, wp_eFun, wp_eMeth, wp_arity, wp_eNeg, wp_eChain, List.getElem?_cons_zero, List.getElem?_cons_succ, List.set_cons_zero, List.set_cons_succ, List.length_cons, List.length_nil, put_nm, opCmp_int, opAdd_int, opSub_int, opEq_int, opInt_int, decide_true, decide_false, Bool.false_eq_true, if_false, if_true, true_and, and_true, List.map_cons, List.map_nil, Nat.zero_add, Nat.reduceAdd, wp_eFun, wp_arity, wp_eq (lbad_ok (k := k) (r := r) (v := q.2)), sq_po, sq_pp, ix_rw3, st1]
      cases hb : badV r q.2 with
      | false =>
        try simp only [Bool.false_eq_true, if_false, Bool.not_false, if_true]
        have ad' : opAdd h' (.lst (F.map runD)) (.lst [.tup [.int s0, .non, .int q.1]]) = some (.lst ((F ++ [(s0, none, some q.1)]).map runD)) := ad (s0, none, some q.1)
        simp only [wp_runB, wp_sSeq, wp_sIf, bT, wp_toB, wp_eOp, wp_eVar, wp_eC, wp_sRaise, wp_sNil, wp_sAsg, wp_sPar, wp_sPar3, wp_sRet, wp_sExpr, wp_sSub, wp_sSetF, wp_eLc, wp_iSeq, wp_iRange, wp_eFld, wp_eIx, wp_eTup, wp_eLst, wp_eIf, wp_eAnd, wp_eOr, wp_eNot, wp_bNot, wp_bAnd, wp_bOr, wp_aCons, wp_aNil, wp_eCall, wp_eFun, wp_eMeth, wp_arity, wp_eNeg, wp_eChain, List.getElem?_cons_zero, List.getElem?_cons_succ, List.set_cons_zero, List.set_cons_succ, List.length_cons, List.length_nil, put_nm, opCmp_int, opAdd_int, opSub_int, opEq_int, opInt_int, decide_true, decide_false, Bool.false_eq_true, if_false, if_true, true_and, and_true, List.map_cons, List.map_nil, Nat.zero_add, Nat.reduceAdd, z3, z1, ad']
        exact ⟨_, .inl rfl, _, _, _, _, _, by simp [stS]; first | exact ⟨rfl, rfl, rfl, rfl, rfl⟩ | exact ⟨rfl, rfl, rfl, rfl⟩ | exact ⟨rfl, rfl, rfl⟩ | exact ⟨rfl, rfl⟩ | rfl, trivial⟩
      | true =>
        try simp only [Bool.not_true, Bool.false_eq_true, if_false, if_true]
        by_cases z : r.mi ≤ q.1 - s0
        · simp only [z, decide_true, if_true]
          exact ⟨_, .inl rfl, _, _, _, _, _, by simp [stS]; first | exact ⟨rfl, rfl, rfl, rfl, rfl⟩ | exact ⟨rfl, rfl, rfl, rfl⟩ | exact ⟨rfl, rfl, rfl⟩ | exact ⟨rfl, rfl⟩ | rfl, rfl, rfl⟩
        · simp only [z, decide_false, Bool.false_eq_true, if_false]
          exact ⟨_, .inl rfl, _, _, _, _, _, by simp [stS]; first | exact ⟨rfl, rfl, rfl, rfl, rfl⟩ | exact ⟨rfl, rfl, rfl, rfl⟩ | exact ⟨rfl, rfl, rfl⟩ | exact ⟨rfl, rfl⟩ | rfl, rfl⟩
    | fi s0 f0 =>
      simp only [okS] at ho
      obtain ⟨rfl, rfl⟩ := ho
      simp only [stS, st0]
      simp only [wp_runB, wp_sSeq, wp_sIf, bT, wp_toB, wp_eOp, wp_eVar, wp_eC, wp_sRaise, wp_sNil, wp_sAsg, wp_sPar, wp_sPar3, wp_sRet, wp_sExpr, wp_sSub, wp_sSetF, wp_eLc, wp_iSeq, wp_iRange, wp_eFld, wp_eIx, wp_eTup, wp_eLst, wp_eIf, wp_eAnd, wp_eOr, wp_eNot, wp_bNot, wp_bAnd, wp_bOr, wp_aCons, wp_aNil, wp_eCall, wp_eFun, wp_eMeth, wp_arity, wp_eNeg, wp_eChain, List.getElem?_cons_zero, List.getElem?_cons_succ, List.set_cons_zero, List.set_cons_succ, List.length_cons, List.length_nil, put_nm, opCmp_int, opAdd_int, opSub_int, opEq_int, opInt_int, decide_true, decide_false, Bool.false_eq_true, if_false, if_true, true_and, and_true, List.map_cons, List.map_nil, Nat.zero_add, Nat.reduceAdd, wp_eFun, wp_arity, wp_eq (lbad_ok (k := k) (r := r) (v := q.2)), sq_fo, sq_fp, sq_ff, wp_eq (lclear_ok (k := k) (r := r) (v := q.2)), st1]
      cases hb : clrV r q.2 with
      | false =>
        try simp only [Bool.false_eq_true, if_false]
        exact ⟨_, .inl rfl, _, _, _, _, _, by simp [stS]; first | exact ⟨rfl, rfl, rfl, rfl, rfl⟩ | exact ⟨rfl, rfl, rfl, rfl⟩ | exact ⟨rfl, rfl, rfl⟩ | exact ⟨rfl, rfl⟩ | rfl, rfl, rfl⟩
      | true =>
        try simp only [if_true]
        have ad' : opAdd h' (.lst (F.map runD)) (.lst [.tup [.int s0, .int f0, .int q.1]]) = some (.lst ((F ++ [(s0, some f0, some q.1)]).map runD)) := ad (s0, some f0, some q.1)
        simp only [wp_runB, wp_sSeq, wp_sIf, bT, wp_toB, wp_eOp, wp_eVar, wp_eC, wp_sRaise, wp_sNil, wp_sAsg, wp_sPar, wp_sPar3, wp_sRet, wp_sExpr, wp_sSub, wp_sSetF, wp_eLc, wp_iSeq, wp_iRange, wp_eFld, wp_eIx, wp_eTup, wp_eLst, wp_eIf, wp_eAnd, wp_eOr, wp_eNot, wp_bNot, wp_bAnd, wp_bOr, wp_aCons, wp_aNil, wp_eCall, wp_eFun, wp_eMeth, wp_arity, wp_eNeg, wp_eChain, List.getElem?_cons_zero, List.getElem?_cons_succ, List.set_cons_zero, List.set_cons_succ, List.length_cons, List.length_nil, put_nm, opCmp_int, opAdd_int, opSub_int, opEq_int, opInt_int, decide_true, decide_false, Bool.false_eq_true, if_false, if_true, true_and, and_true, List.map_cons, List.map_nil, Nat.zero_add, Nat.reduceAdd, z3, z1, ad']
        exact ⟨_, .inl rfl, _, _, _, _, _, by simp [stS]; first | exact ⟨rfl, rfl, rfl, rfl, rfl⟩ | exact ⟨rfl, rfl, rfl, rfl⟩ | exact ⟨rfl, rfl, rfl⟩ | exact ⟨rfl, rfl⟩ | rfl, trivial⟩
  · rintro _ h' ⟨env', rfl, rfl, x4, x5, x6, x7, x8, rfl, ho⟩
    have hlen : ((acc r rows).1.map runD).length + 1 ≤ sizeLine := by
      have h1 := acc_len r rows ([], .ok)
      rw [List.length_map, sizeLine_eq]
      unfold acc
      simp at h1
      omega
    unfold runs
    generalize acc r rows = st at *
    obtain ⟨F, st⟩ := st
    dsimp only at *
    have ad : ∀ ys : List D, ys.length ≤ 1 → opAdd h' (.lst (F.map runD)) (.lst ys) = some (.lst (F.map runD ++ ys)) := fun ys hy => opAdd_lst (by omega)
    cases st with
    | ok =>
      simp only [stS, tailR]
      simp only [wp_runB, wp_sSeq, wp_sIf, bT, wp_toB, wp_eOp, wp_eVar, wp_eC, wp_sRaise, wp_sNil, wp_sAsg, wp_sPar, wp_sPar3, wp_sRet, wp_sExpr, wp_sSub, wp_sSetF, wp_eLc, wp_iSeq, wp_iRange, wp_eFld, wp_eIx, wp_eTup, wp_eLst, wp_eIf, wp_eAnd, wp_eOr, wp_eNot, wp_bNot, wp_bAnd, wp_bOr, wp_aCons, wp_aNil, wp_eCall, wp_eFun, wp_eMeth, wp_arity, wp_eNeg, wp_eChain, List.getElem?_cons_zero, List.getElem?_cons_succ, List.set_cons_zero, List.set_cons_succ, List.length_cons, List.length_nil, put_nm, opCmp_int, opAdd_int, opSub_int, opEq_int, opInt_int, decide_true, decide_false, Bool.false_eq_true, if_false, if_true, true_and, and_true, List.map_cons, List.map_nil, Nat.zero_add, Nat.reduceAdd, sn_oo, z0, ad [] (by simp)]
      simp
    | pe s0 =>
      simp only [okS] at ho
      subst ho
      simp only [stS, tailR]
      simp only [wp_runB, wp_sSeq, wp_sIf, bT, wp_toB, wp_eOp, wp_eVar, wp_eC, wp_sRaise, wp_sNil, wp_sAsg, wp_sPar, wp_sPar3, wp_sRet, wp_sExpr, wp_sSub, wp_sSetF, wp_eLc, wp_iSeq, wp_iRange, wp_eFld, wp_eIx, wp_eTup, wp_eLst, wp_eIf, wp_eAnd, wp_eOr, wp_eNot, wp_bNot, wp_bAnd, wp_bOr, wp_aCons, wp_aNil, wp_eCall, wp_eFun, wp_eMeth, wp_arity, wp_eNeg, wp_eChain, List.getElem?_cons_zero, List.getElem?_cons_succ, List.set_cons_zero, List.set_cons_succ, List.length_cons, List.length_nil, put_nm, opCmp_int, opAdd_int, opSub_int, opEq_int, opInt_int, decide_true, decide_false, Bool.false_eq_true, if_false, if_true, true_and, and_true, List.map_cons, List.map_nil, Nat.zero_add, Nat.reduceAdd, sn_po, sq_pf, z1, z3, ad [_] (by simp)]
      simp [runD, oD]
    | fi s0 f0 =>
      simp only [okS] at ho
      obtain ⟨rfl, rfl⟩ := ho
      simp only [stS, tailR]
      simp only [wp_runB, wp_sSeq, wp_sIf, bT, wp_toB, wp_eOp, wp_eVar, wp_eC, wp_sRaise, wp_sNil, wp_sAsg, wp_sPar, wp_sPar3, wp_sRet, wp_sExpr, wp_sSub, wp_sSetF, wp_eLc, wp_iSeq, wp_iRange, wp_eFld, wp_eIx, wp_eTup, wp_eLst, wp_eIf, wp_eAnd, wp_eOr, wp_eNot, wp_bNot, wp_bAnd, wp_bOr, wp_aCons, wp_aNil, wp_eCall, wp_eFun, wp_eMeth, wp_arity, wp_eNeg, wp_eChain, List.getElem?_cons_zero, List.getElem?_cons_succ, List.set_cons_zero, List.set_cons_succ, List.length_cons, List.length_nil, put_nm, opCmp_int, opAdd_int, opSub_int, opEq_int, opInt_int, decide_true, decide_false, Bool.false_eq_true, if_false, if_true, true_and, and_true, List.map_cons, List.map_nil, Nat.zero_add, Nat.reduceAdd, sn_fo, sq_ff, z1, z3, ad [_] (by simp)]
      simp [runD, oD]
end
end PyD.K02

namespace PyD.K02
open PySem PySem.Spec L2 PyD
open PyProof.Rows hiding St
open PyD (Env Pat)
section
variable {h u t : AH} {env : Env} {k : Nat} {a b m : Int}
variable {n : Nat} {r : Rw}
def partS (c : Prop) [Decidable c] (x : Str) (i : Int) : Str := if c then x ++ strI i else ""
def txtR (r : Rw) : Str := ((((kS r.k ++ (" " : Str)) ++ strI r.lo) ++ partS (r.k = .ou) " " r.hi) ++ partS (0 < r.mi) " for " r.mi) ++ partS (0 < r.ba) " back " r.ba
theorem kS_len (x : Kd) : (kS x).length ≤ 7 := by cases x <;> decide
theorem kS_ok (x : Kd) : sOk (kS x) = true := by cases x <;> decide +kernel
theorem part_len {c : Prop} [Decidable c] {x : Str} {i : Int} (hx : x.length ≤ 10) (h0 : 0 ≤ i) (h1 : i < 100) : (partS c x i).length ≤ 12 := by
  have := (strI_small h0 h1).2.1
  unfold partS
  split
  · rw [length_append]; omega
  · decide
theorem part_ok {c : Prop} [Decidable c] {x : Str} {i : Int} (hx : x.length ≤ 10) (ox : sOk x = true) (h0 : 0 ≤ i) (h1 : i < 100) : sOk (partS c x i) = true := by
  have := strI_small h0 h1
  unfold partS
  split
  · exact sOk_append ox this.1 (by rw [sizeLine_eq]; omega)
  · decide +kernel
theorem OkW.hi_lt (o : OkW r) : 0 ≤ r.hi ∧ r.hi < 100 := by
  by_cases z : r.k = .ou
  · have := o.ou z; have := o.lo; have := o.ba; omega
  · have := o.hi z; have := o.lo; omega
theorem ltext_ok (o : OkW r) : run (k+1) 21 [rwD r] h = .ok (.str (txtR r)) h := by
  refine Wp.eq ?_
  show Wp (runB 1 (b_21 (run k)) _) _ _ _
  have e0 : startE 1 [rwD r] = [some (rwD r)] := rfl
  have l0 := kS_len r.k
  have l1 := strI_small (i := r.lo) o.lo.1 (by have := o.lo; omega)
  have l2 := strI_small o.hi_lt.1 o.hi_lt.2
  have l3 := strI_small (i := r.mi) o.mi.1 (by have := o.mi; omega)
  have l4 := strI_small (i := r.ba) o.ba.1 (by have := o.ba; omega)
  have s1 : (" " : Str).length = 1 := rfl
  have s2 : (" for " : Str).length = 5 := rfl
  have s3 : (" back " : Str).length = 6 := rfl
  have a1 : opAdd h (.str (kS r.k)) (.str " ") = some (.str (kS r.k ++ (" " : Str))) := opAdd_str (by rw [sizeLine_eq]; omega)
  have a2 : opAdd h (.str (kS r.k ++ (" " : Str))) (.str (strI r.lo)) = some (.str ((kS r.k ++ (" " : Str)) ++ strI r.lo)) := opAdd_str (by rw [sizeLine_eq, length_append]; omega)
  have a3 : opAdd h (.str " ") (.str (strI r.hi)) = some (.str ((" " : Str) ++ strI r.hi)) := opAdd_str (by rw [sizeLine_eq]; omega)
  have a4 : opAdd h (.str " for ") (.str (strI r.mi)) = some (.str ((" for " : Str) ++ strI r.mi)) := opAdd_str (by rw [sizeLine_eq]; omega)
  have a5 : opAdd h (.str " back ") (.str (strI r.ba)) = some (.str ((" back " : Str) ++ strI r.ba)) := opAdd_str (by rw [sizeLine_eq]; omega)
  have p1 := part_len (c := r.k = .ou) (x := " ") (by rw [s1]; omega) o.hi_lt.1 o.hi_lt.2
  have p2 := part_len (c := 0 < r.mi) (x := " for ") (by rw [s2]; omega) (i := r.mi) o.mi.1 (by have := o.mi; omega)
  have p3 := part_len (c := 0 < r.ba) (x := " back ") (by rw [s3]; omega) (i := r.ba) o.ba.1 (by have := o.ba; omega)
  have b1 : opAdd h (.str ((kS r.k ++ (" " : Str)) ++ strI r.lo)) (.str (partS (r.k = .ou) " " r.hi)) = some (.str (((kS r.k ++ (" " : Str)) ++ strI r.lo) ++ partS (r.k = .ou) " " r.hi)) := opAdd_str (by rw [sizeLine_eq]; simp only [length_append]; omega)
  have b2 : opAdd h (.str (((kS r.k ++ (" " : Str)) ++ strI r.lo) ++ partS (r.k = .ou) " " r.hi)) (.str (partS (0 < r.mi) " for " r.mi)) = some (.str ((((kS r.k ++ (" " : Str)) ++ strI r.lo) ++ partS (r.k = .ou) " " r.hi) ++ partS (0 < r.mi) " for " r.mi)) := opAdd_str (by rw [sizeLine_eq]; simp only [length_append]; omega)
  have b3 : opAdd h (.str ((((kS r.k ++ (" " : Str)) ++ strI r.lo) ++ partS (r.k = .ou) " " r.hi) ++ partS (0 < r.mi) " for " r.mi)) (.str (partS (0 < r.ba) " back " r.ba)) = some (.str (txtR r)) := opAdd_str (by rw [sizeLine_eq]; simp only [length_append]; omega)
  simp only [wp_runB, wp_sSeq, wp_sIf, bT, wp_toB, wp_eOp, wp_eVar, wp_eC, wp_sRaise, wp_sNil, wp_sAsg, wp_sPar, wp_sPar3, wp_sRet, wp_sExpr, wp_sSub, wp_sSetF, wp_eLc, wp_iSeq, wp_iRange, wp_eFld, wp_eIx, wp_eTup, wp_eLst, wp_eIf, wp_eAnd, wp_eOr, wp_eNot, wp_bNot, wp_bAnd, wp_bOr, wp_aCons, wp_aNil, wp_eCall, wp_eFun, wp_eMeth, wp_arity, wp_eNeg, wp_eChain, List.getElem?_cons_zero, List.getElem?_cons_succ, List.set_cons_zero, List.set_cons_succ, List.length_cons, List.length_nil, put_nm, opCmp_int, opAdd_int, opSub_int, opEq_int, opInt_int, decide_true, decide_false, Bool.false_eq_true, if_false, if_true, true_and, and_true, List.map_cons, List.map_nil, Nat.zero_add, Nat.reduceAdd, b_21, e0, ix_rw0, ix_rw1, ix_rw2, ix_rw3, ix_rw4, a1, wp_eCall, opStr_small (i := r.lo) o.lo.1 (by have := o.lo; omega), opStr_small o.hi_lt.1 o.hi_lt.2, opStr_small (i := r.mi) o.mi.1 (by have := o.mi; omega), opStr_small (i := r.ba) o.ba.1 (by have := o.ba; omega), a2, eq_ou]
  unfold partS at b1 b2 b3
  by_cases z1 : r.k = .ou <;> by_cases z2 : 0 < r.mi <;> by_cases z3 : 0 < r.ba <;> simp only [z1, z2, z3, if_true, if_false, decide_true, decide_false, Bool.false_eq_true, a3, a4, a5] at b1 b2 b3 ⊢ <;> simp only [b1, b2, b3]
theorem jFor (x : Str) : ((Str.empty ++ x) : Str) = x := empty_app x
theorem text_ok (o : OkW r) (e : h[n]? = some (rwO r)) : run (k+1) 6 [.obj n] h = .ok (.str (txtR r)) h := by
  refine Wp.eq ?_
  show Wp (runB 2 (b_6 (run k)) _) _ _ _
  have e0 : startE 2 [D.obj n] = [some (.obj n), none] := rfl
  have l0 := kS_len r.k
  have l1 := strI_small (i := r.lo) o.lo.1 (by have := o.lo; omega)
  have l2 := strI_small o.hi_lt.1 o.hi_lt.2
  have l3 := strI_small (i := r.mi) o.mi.1 (by have := o.mi; omega)
  have l4 := strI_small (i := r.ba) o.ba.1 (by have := o.ba; omega)
  have s1 : (" " : Str).length = 1 := rfl
  have s2 : (" for " : Str).length = 5 := rfl
  have s3 : (" back " : Str).length = 6 := rfl
  have a1 : opAdd h (.str (kS r.k)) (.str " ") = some (.str (kS r.k ++ (" " : Str))) := opAdd_str (by rw [sizeLine_eq]; omega)
  have a2 : opAdd h (.str (kS r.k ++ (" " : Str))) (.str (strI r.lo)) = some (.str ((kS r.k ++ (" " : Str)) ++ strI r.lo)) := opAdd_str (by rw [sizeLine_eq, length_append]; omega)
  have a3 : opAdd h (.str " ") (.str (strI r.hi)) = some (.str ((" " : Str) ++ strI r.hi)) := opAdd_str (by rw [sizeLine_eq]; omega)
  have p1 := part_len (c := r.k = .ou) (x := " ") (by rw [s1]; omega) o.hi_lt.1 o.hi_lt.2
  have p2 := part_len (c := 0 < r.mi) (x := " for ") (by rw [s2]; omega) (i := r.mi) o.mi.1 (by have := o.mi; omega)
  have p3 := part_len (c := 0 < r.ba) (x := " back ") (by rw [s3]; omega) (i := r.ba) o.ba.1 (by have := o.ba; omega)
  have q1 := part_ok (c := r.k = .ou) (x := " ") (by rw [s1]; omega) (by decide +kernel) o.hi_lt.1 o.hi_lt.2
  have q2 := part_ok (c := 0 < r.mi) (x := " for ") (by rw [s2]; omega) (by decide +kernel) (i := r.mi) o.mi.1 (by have := o.mi; omega)
  have q3 := part_ok (c := 0 < r.ba) (x := " back ") (by rw [s3]; omega) (by decide +kernel) (i := r.ba) o.ba.1 (by have := o.ba; omega)
  have k0 : sOk (kS r.k ++ (" " : Str)) = true := sOk_append (kS_ok _) (by decide +kernel) (by rw [sizeLine_eq]; omega)
  have k1 : sOk ((kS r.k ++ (" " : Str)) ++ strI r.lo) = true := sOk_append k0 l1.1 (by rw [sizeLine_eq, length_append]; omega)
  have k2 : sOk (((kS r.k ++ (" " : Str)) ++ strI r.lo) ++ partS (r.k = .ou) " " r.hi) = true := sOk_append k1 q1 (by rw [sizeLine_eq]; simp only [length_append]; omega)
  have k3 : sOk ((((kS r.k ++ (" " : Str)) ++ strI r.lo) ++ partS (r.k = .ou) " " r.hi) ++ partS (0 < r.mi) " for " r.mi) = true := sOk_append k2 q2 (by rw [sizeLine_eq]; simp only [length_append]; omega)
  have o4 : sOk ((" for " : Str) ++ strI r.mi) = true := sOk_append (by decide +kernel) l3.1 (by rw [sizeLine_eq]; omega)
  have o5 : sOk ((" back " : Str) ++ strI r.ba) = true := sOk_append (by decide +kernel) l4.1 (by rw [sizeLine_eq]; omega)
  have n4 : ((" for " : Str) ++ strI r.mi).length ≤ sizeLine := (sOk_iff.mp o4).2
  have n5 : ((" back " : Str) ++ strI r.ba).length ≤ sizeLine := (sOk_iff.mp o5).2
  have n6 : (" for " : Str).length ≤ sizeLine := by rw [s2]; decide
  have n7 : (" back " : Str).length ≤ sizeLine := by rw [s3]; decide
  have b1 : opAdd h (.str ((kS r.k ++ (" " : Str)) ++ strI r.lo)) (.str (partS (r.k = .ou) " " r.hi)) = some (.str (((kS r.k ++ (" " : Str)) ++ strI r.lo) ++ partS (r.k = .ou) " " r.hi)) := opAdd_str (by rw [sizeLine_eq]; simp only [length_append]; omega)
  have b2 : augD h (.str (((kS r.k ++ (" " : Str)) ++ strI r.lo) ++ partS (r.k = .ou) " " r.hi)) (.str (partS (0 < r.mi) " for " r.mi)) = some (.str ((((kS r.k ++ (" " : Str)) ++ strI r.lo) ++ partS (r.k = .ou) " " r.hi) ++ partS (0 < r.mi) " for " r.mi), h) := by simp only [augD, k3, if_true]
  have b3 : opAdd h (.str ((((kS r.k ++ (" " : Str)) ++ strI r.lo) ++ partS (r.k = .ou) " " r.hi) ++ partS (0 < r.mi) " for " r.mi)) (.str (partS (0 < r.ba) " back " r.ba)) = some (.str (txtR r)) := opAdd_str (by rw [sizeLine_eq]; simp only [length_append]; omega)
  simp only [wp_runB, wp_sSeq, wp_sIf, bT, wp_toB, wp_eOp, wp_eVar, wp_eC, wp_sRaise, wp_sNil, wp_sAsg, wp_sPar, wp_sPar3, wp_sRet, wp_sExpr, wp_sSub, wp_sSetF, wp_eLc, wp_iSeq, wp_iRange, wp_eFld, wp_eIx, wp_eTup, wp_eLst, wp_eIf, wp_eAnd, wp_eOr, wp_eNot, wp_bNot, wp_bAnd, wp_bOr, wp_aCons, wp_aNil, wp_eCall, wp_eFun, wp_eMeth, wp_arity, wp_eNeg, wp_eChain, List.getElem?_cons_zero, List.getElem?_cons_succ, List.set_cons_zero, List.set_cons_succ, List.length_cons, List.length_nil, put_nm, opCmp_int, opAdd_int, opSub_int, opEq_int, opInt_int, decide_true, decide_false, Bool.false_eq_true, if_false, if_true, true_and, and_true, List.map_cons, List.map_nil, Nat.zero_add, Nat.reduceAdd, b_6, e0, fl_kind e, fl_low e, fl_high e, fl_min e, fl_back e, a1, wp_eCall, opStr_small (i := r.lo) o.lo.1 (by have := o.lo; omega), opStr_small o.hi_lt.1 o.hi_lt.2, a2, eq_ou, wp_sAug, wp_eJoin, wp_jCons, wp_jNil, wp_ret, wp_eFmt, txt_small (i := r.mi) o.mi.1 (by have := o.mi; omega), txt_small (i := r.ba) o.ba.1 (by have := o.ba; omega), empty_app, n4, n5, n6, n7, o4, o5]
  unfold partS at b1 b2 b3
  by_cases z1 : r.k = .ou <;> by_cases z2 : 0 < r.mi <;> by_cases z3 : 0 < r.ba <;> simp only [z1, z2, z3, if_true, if_false, decide_true, decide_false, Bool.false_eq_true, a3] at b1 b2 b3 ⊢ <;> simp only [wp_runB, wp_sSeq, wp_sIf, bT, wp_toB, wp_eOp, wp_eVar, wp_eC, wp_sRaise, wp_sNil, wp_sAsg, wp_sPar, wp_sPar3, wp_sRet, wp_sExpr, wp_sSub, wp_sSetF, wp_eLc, wp_iSeq, wp_iRange, wp_eFld, wp_eIx, wp_eTup, wp_eLst, wp_eIf, wp_eAnd, wp_eOr, wp_eNot, wp_bNot, wp_bAnd, wp_bOr, wp_aCons, wp_aNil, wp_eCall, wp_eFun, wp_eMeth, wp_arity, wp_eNeg, wp_eChain, List.getElem?_cons_zero, List.getElem?_cons_succ, List.set_cons_zero, List.set_cons_succ, List.length_cons, List.length_nil, put_nm, opCmp_int, opAdd_int, opSub_int, opEq_int, opInt_int, decide_true, decide_false, Bool.false_eq_true, if_false, if_true, true_and, and_true, List.map_cons, List.map_nil, Nat.zero_add, Nat.reduceAdd, b1, b2, b3, fl_min e, fl_back e, z2, z3, wp_eJoin, wp_jCons, wp_jNil, wp_ret, wp_eFmt, txt_small (i := r.mi) o.mi.1 (by have := o.mi; omega), txt_small (i := r.ba) o.ba.1 (by have := o.ba; omega), empty_app, n4, n5, n6, n7, o4, o5] <;> (try exact ⟨rfl, rfl⟩)
end
end PyD.K02

namespace PyD.K02
open PySem PySem.Spec L2 PyD
open PyProof.Rows hiding St
open PyD (Env Pat)
section
variable {h u t : AH} {env : Env} {k : Nat} {a b m : Int}
/-! is_number -/
def numB (w : Str) : Str := if (cutS w none (some 1) == ("-" : Str)) = true then cutS w (some 1) none else w
def digs : List Nat := ("0123456789" : Str).cps.toList
def numOk (w : Str) : Bool := decide (1 ≤ (numB w).length) && (decide ((numB w).length ≤ 9) && (numB w).cps.toList.all fun c => decide (c ∈ digs))
theorem isnum_ok {w : Str} : run (k+1) 9 [.str w] h = .ok (.bl (numOk w)) h := by
  refine Wp.eq ?_
  show Wp (runB 3 (b_9 (run k)) _) _ _ _
  have e0 : startE 3 [D.str w] = [some (.str w), none, none] := rfl
  have key : Wp ((sRet (eAnd (eChain opLe opLe (eC (.int 1)) (eCall opLen (aCons (eVar 1) (aNil))) (eC (.int 9))) (fun env => bnd (eGx stopF ([(("sign" : Str), 2)].map (·.2)) (.nm 2) (iStrD (eVar 1)) (bYes) (eOp opInC (eVar 2) (eC (.str "0123456789"))) env) kAll))) [some (.str w), some (.str (numB w)), none]) h (fun r h1 => match r with
      | .rt d => d = .bl (numOk w) ∧ h1 = h
      | .nx _ => False
      | _ => False) (fun _ _ => False) := by
    have ol : opLen h [.str (numB w)] = some (.int (numB w).length) := rfl
    simp only [wp_runB, wp_sSeq, wp_sIf, bT, wp_toB, wp_eOp, wp_eVar, wp_eC, wp_sRaise, wp_sNil, wp_sAsg, wp_sPar, wp_sPar3, wp_sRet, wp_sExpr, wp_sSub, wp_sSetF, wp_eLc, wp_iSeq, wp_iRange, wp_eFld, wp_eIx, wp_eTup, wp_eLst, wp_eIf, wp_eAnd, wp_eOr, wp_eNot, wp_bNot, wp_bAnd, wp_bOr, wp_aCons, wp_aNil, wp_eCall, wp_eFun, wp_eMeth, wp_arity, wp_eNeg, wp_eChain, List.getElem?_cons_zero, List.getElem?_cons_succ, List.set_cons_zero, List.set_cons_succ, List.length_cons, List.length_nil, put_nm, opCmp_int, opAdd_int, opSub_int, opEq_int, opInt_int, decide_true, decide_false, Bool.false_eq_true, if_false, if_true, true_and, and_true, List.map_cons, List.map_nil, Nat.zero_add, Nat.reduceAdd, wp_eChain, wp_eCall, ol]
    unfold numOk
    by_cases z1 : 1 ≤ (numB w).length
    · have y1 : (1 : Int) ≤ ((numB w).length : Int) := by omega
      simp only [y1, decide_true, z1, Bool.true_and]
      by_cases z2 : (numB w).length ≤ 9
      · have y2 : ((numB w).length : Int) ≤ 9 := by omega
        simp only [y2, decide_true, z2, Bool.true_and, if_true, wp_bnd, wp_eGx]
        have is : ∀ {Q : Src → AH → Prop} {E}, Wp (iStrD (eVar 1) [some (.str w), some (.str (numB w)), none]) h Q E = Q ⟨charsD (numB w), fun _ => true⟩ h := fun {Q E} => rfl
        rw [is]
        have hz : (charsD (numB w)).length ≤ sizeLine := by
          have : (charsD (numB w)).length = (numB w).length := by unfold charsD; rw [List.length_map, Array.length_toList]; rfl
          rw [this, sizeLine_eq]; omega
        refine ⟨hz, ?_⟩
        obtain ⟨bs, g1, g2⟩ := gxGo_all (h := h) (env := wipeE [some (.str w), some (.str (numB w)), none] [2]) (pat := .nm 2) (gi := bYes) (ge := eOp opInC (eVar 2) (eC (.str "0123456789"))) (ok := fun _ => true) (fun c : Nat => D.str ⟨#[c]⟩) (fun c => decide (c ∈ digs)) rfl (xs := (numB w).cps.toList) (fun c hc => ⟨_, put_nm _ _ _, rfl, rfl⟩)
        unfold charsD
        dsimp only
        rw [wp_eq g1, kAll_bls, wp_ret, g2]
        exact ⟨rfl, rfl⟩
      · have y2 : ¬ ((numB w).length : Int) ≤ 9 := by omega
        simp only [y2, decide_false, z2, Bool.false_and, Bool.false_eq_true, if_false]
        all_goals first | trivial | exact ⟨rfl, trivial⟩ | exact ⟨rfl, rfl⟩
    · have y1 : ¬ (1 : Int) ≤ ((numB w).length : Int) := by omega
      simp only [y1, decide_false, z1, Bool.false_and, Bool.false_eq_true, if_false]
      all_goals first | trivial | exact ⟨rfl, trivial⟩ | exact ⟨rfl, rfl⟩
  rw [wp_runB, e0]
  unfold b_9
  rw [wp_sSeq]
  have p1 : sAsg (.nm 1) (eIf (bT (eOp opEq (eSl (eVar 0) (eNoPart) (ePart (eC (.int 1)))) (eC (.str "-")))) (eSl (eVar 0) (ePart (eC (.int 1))) (eNoPart)) (eVar 0)) [some (D.str w), none, none] h = .ok (.nx [some (.str w), some (.str (numB w)), none]) h := by
    refine Wp.eq ?_
    simp only [wp_runB, wp_sSeq, wp_sIf, bT, wp_toB, wp_eOp, wp_eVar, wp_eC, wp_sRaise, wp_sNil, wp_sAsg, wp_sPar, wp_sPar3, wp_sRet, wp_sExpr, wp_sSub, wp_sSetF, wp_eLc, wp_iSeq, wp_iRange, wp_eFld, wp_eIx, wp_eTup, wp_eLst, wp_eIf, wp_eAnd, wp_eOr, wp_eNot, wp_bNot, wp_bAnd, wp_bOr, wp_aCons, wp_aNil, wp_eCall, wp_eFun, wp_eMeth, wp_arity, wp_eNeg, wp_eChain, List.getElem?_cons_zero, List.getElem?_cons_succ, List.set_cons_zero, List.set_cons_succ, List.length_cons, List.length_nil, put_nm, opCmp_int, opAdd_int, opSub_int, opEq_int, opInt_int, decide_true, decide_false, Bool.false_eq_true, if_false, if_true, true_and, and_true, List.map_cons, List.map_nil, Nat.zero_add, Nat.reduceAdd, wp_eSl, wp_eNoPart, wp_ePart, slD, sqOf, opEq_str]
    unfold numB
    split <;> rfl
  rw [wp_eq p1]
  dsimp only
  refine key.impQ ?_
  rintro (_ | _ | _ | _) h1 q <;> first | exact q | exact q.elim
end
end PyD.K02

namespace PyD.K02
open PySem PySem.Spec L2 PyD
open PyProof.Rows hiding St
open PyD (Env Pat)
section
variable {h u t : AH} {env : Env} {k : Nat} {a b m : Int}
/-! read_threshold, as plain reckoning -/
def numV (w : Str) : Option Int := if w.length ≤ 640 then intText? w else none
def rdStep (s : List Str × Int × Int) (q : Str × Str) : Option (Option (List Str × Int × Int)) :=
  if (!(q.1 == ("for" : Str) || q.1 == ("back" : Str)) || (s.1.contains q.1 || (!numOk q.2 || ((q.1 == ("for" : Str)) && !s.1.isEmpty)))) = true then some none
  else match numV q.2 with
    | some i => some (some (s.1 ++ [q.1], if (q.1 == ("for" : Str)) = true then i else s.2.1, if (q.1 == ("back" : Str)) = true then i else s.2.2))
    | none => none
def rdAll : List (Str × Str) → List Str × Int × Int → Option (Option (List Str × Int × Int))
  | [], s => some (some s)
  | q :: r, s => match rdStep s q with
    | none => none
    | some none => some none
    | some (some s') => rdAll r s'
def chunk : List Str → List (Str × Str)
  | [] => []
  | [a] => [(a, "")]
  | a :: b :: r => (a, b) :: chunk r
def kdOf (w : Str) : Option Kd := if (w == ("above" : Str)) = true then some .ab else if (w == ("below" : Str)) = true then some .be else if (w == ("outside" : Str)) = true then some .ou else none
def mkOk (x : Kd) (lo hi mi ba : Int) : Bool := decide (lo ≤ hi) && decide (0 ≤ min mi ba) && (if x = .ou then decide (2 * ba ≤ hi - lo) else decide (lo = hi))
def manyOf (x : Kd) : Nat := if x = .ou then 2 else 1
def readW (x : Kd) (tl : List Str) : Option (Option Rw) :=
  if (decide ((tl.take (manyOf x)).length < manyOf x) || (tl.take (manyOf x)).any fun w => !numOk w) = true then some none
  else match rdAll (chunk (tl.drop (manyOf x))) ([], 0, 0) with
    | none => none
    | some none => some none
    | some (some s) => match numV ((tl.take (manyOf x)).headD ""), numV ((tl.take (manyOf x)).getLastD "") with
      | some lo, some hi => if mkOk x lo hi s.2.1 s.2.2 = true then some (some ⟨x, lo, hi, s.2.1, s.2.2⟩) else some none
      | _, _ => none
def readT (x : Str) : Option (Option Rw) :=
  if x.length ≤ 1000 ∧ ((Txt.split x " ").all fun z => sOk z) = true ∧ (Txt.split x " ").length ≤ 100 then match Txt.split x " " with
    | [] => none
    | w :: tl => match kdOf w with
      | none => some none
      | some kd => readW kd tl
  else none
theorem rdAll_ok {q : Str × Str} {r : List (Str × Str)} {s : List Str × Int × Int} {e} (he : rdAll (q :: r) s = some e) : ∃ e', rdStep s q = some e' ∧ ((e' = none ∧ e = none) ∨ ∃ s', e' = some s' ∧ rdAll r s' = some e) := by
  unfold rdAll at he
  split at he
  · cases he
  · rename_i z; cases he; exact ⟨none, z, .inl ⟨rfl, rfl⟩⟩
  · rename_i s' z; exact ⟨some s', z, .inr ⟨s', rfl, he⟩⟩
theorem chunk_len : ∀ l : List Str, (chunk l).length = (l.length + 1) / 2
  | [] => rfl
  | [a] => by simp [chunk]
  | a :: b :: r => by
    simp only [chunk, List.length_cons, chunk_len r]; omega
theorem chunk_get : ∀ (l : List Str) (i : Nat) (q : Str × Str), (chunk l)[i]? = some q → l[2 * i]? = some q.1 ∧ (if 2 * i + 1 < l.length then l[2 * i + 1]? = some q.2 else q.2 = "")
  | [], i, q, e => by simp [chunk] at e
  | [a], i, q, e => by
    cases i with
    | zero => simp [chunk] at e; subst e; simp
    | succ i => simp [chunk] at e
  | a :: b :: r, i, q, e => by
    cases i with
    | zero => simp [chunk] at e; subst e; simp
    | succ i =>
      simp only [chunk, List.getElem?_cons_succ] at e
      have := chunk_get r i q e
      rw [show 2 * (i + 1) = 2 * i + 1 + 1 by omega, show 2 * i + 1 + 1 + 1 = 2 * i + 1 + 1 + 1 from rfl]
      simp only [List.getElem?_cons_succ, List.length_cons]
      refine ⟨this.1, ?_⟩
      have h2 := this.2
      by_cases z : 2 * i + 1 < r.length
      · rw [if_pos z] at h2; rw [if_pos (by omega)]; exact h2
      · rw [if_neg z] at h2; rw [if_neg (by omega)]; exact h2
def dcO (f b : Int) : O := .dct false [(.str "for", .int f), (.str "back", .int b)]
def rH (h : AH) (s : List Str × Int × Int) : AH := h ++ [dcO s.2.1 s.2.2, .lst (s.1.map .str)]
theorem rH_d (s : List Str × Int × Int) : (rH h s)[h.length]? = some (dcO s.2.1 s.2.2) := by simp [rH]
theorem rH_l (s : List Str × Int × Int) : (rH h s)[h.length + 1]? = some (.lst (s.1.map .str)) := by simp [rH]
theorem rH_put {s : List Str × Int × Int} {nm : Str} {i : Int} (hn : (nm == ("for" : Str) || nm == ("back" : Str)) = true) :
    putIx (rH h s) (.obj h.length) (.str nm) (.int i) = some (rH h (s.1, if (nm == ("for" : Str)) = true then i else s.2.1, if (nm == ("back" : Str)) = true then i else s.2.2)) := by
  rw [Bool.or_eq_true, beq_iff_eq, beq_iff_eq] at hn
  have hz : (decide ([((D.str "for"), D.int s.2.1), (D.str "back", D.int s.2.2)].length < sizeLine)) = true := by rw [sizeLine_eq]; rfl
  rcases hn with e | e <;> subst e
  · simp only [putIx, rH_d, dcO, hz, isKey, Bool.and_self, if_true]
    have : putD [((D.str "for"), D.int s.2.1), (D.str "back", D.int s.2.2)] (.str "for") (.int i) = [((D.str "for"), D.int i), (D.str "back", D.int s.2.2)] := by kernel_rfl
    rw [this]
    simp [rH, dcO]
    intro z
    exact absurd z (by decide)
  · simp only [putIx, rH_d, dcO, hz, isKey, Bool.and_self, if_true]
    have : putD [((D.str "for"), D.int s.2.1), (D.str "back", D.int s.2.2)] (.str "back") (.int i) = [((D.str "for"), D.int s.2.1), (D.str "back", D.int i)] := by kernel_rfl
    rw [this]
    simp [rH, dcO]
    intro z
    exact absurd z (by decide)
theorem look_two {a b : D} (nm : Str) : (lookD [((D.str "for"), a), (D.str "back", b)] (.str nm)).isSome = (nm == ("for" : Str) || nm == ("back" : Str)) := by
  unfold lookD
  simp only [List.find?_cons, List.find?_nil, D.str.injEq]
  by_cases z1 : ("for" : Str) = nm
  · subst z1; rfl
  · by_cases z2 : ("back" : Str) = nm
    · subst z2; rfl
    · have y1 : (nm == ("for" : Str)) = false := by rw [beq_eq_false_iff_ne]; exact fun q => z1 q.symm
      have y2 : (nm == ("back" : Str)) = false := by rw [beq_eq_false_iff_ne]; exact fun q => z2 q.symm
      simp [z1, z2, y1, y2]
theorem rH_notin {s : List Str × Int × Int} {nm : Str} : opNotIn (rH h s) (.str nm) (.obj h.length) = some (.bl (!(nm == ("for" : Str) || nm == ("back" : Str)))) := by
  simp only [opNotIn, sqOf, rH_d, dcO, inSq, isKey, if_true, Option.map, look_two]
theorem rH_in {s : List Str × Int × Int} {nm : Str} : opIn (rH h s) (.str nm) (.obj (h.length + 1)) = some (.bl (s.1.contains nm)) :=
  in_strs (l := true) (by simp only [sqOf, rH_l])
theorem rH_ne {s : List Str × Int × Int} : opNe (rH h s) (.obj (h.length + 1)) (.lst []) = some (.bl (!s.1.isEmpty)) := by
  have := opNe_nilG (h := rH h s) (d := .obj (h.length + 1)) (xs := s.1.map .str) (.inr ⟨_, rfl, rH_l s⟩) (okDs_map fun _ _ => by simp [okD])
  rw [this]
  cases s.1 <;> rfl
theorem rH_isl {s : List Str × Int × Int} : isLstO (rH h s) (.obj (h.length + 1)) = true := by simp only [isLstO, rH_l]
theorem rH_app {s : List Str × Int × Int} {nm : Str} (hz : s.1.length < sizeLine) : appD (rH h s) (.obj (h.length + 1)) (.str nm) = some (rH h (s.1 ++ [nm], s.2)) := by
  simp only [appD, rH_l, List.length_map, hz, if_true]
  simp [rH]
end
end PyD.K02

namespace PyD.K02
open PySem PySem.Spec L2 PyD
open PyProof.Rows hiding St
open PyD (Env Pat)
section
variable {h u t : AH} {env : Env} {k : Nat} {a b m : Int}
theorem range3_all : ((List.range 101).all fun n => decide (range3 [.int 0, .int n, .int 2] = some ((List.range ((n + 1) / 2)).map fun i : Nat => D.int (2 * (i : Int))))) = true := by decide +kernel
theorem range3_two {n : Nat} (hn : n ≤ 100) : range3 [.int 0, .int n, .int 2] = some ((List.range ((n + 1) / 2)).map fun i : Nat => D.int (2 * (i : Int))) :=
  of_decide_eq_true (List.all_eq_true.mp range3_all n (List.mem_range.mpr (by omega)))
theorem ix_strs {xs : List Str} {i : Nat} {w : Str} (e : xs[i]? = some w) : ixD h (.lst (xs.map .str)) (.int (i : Int)) = some (.str w) := by
  show atI (xs.map D.str) (i : Int) = _
  have hi := (List.getElem?_eq_some_iff.mp e).1
  rw [atI_nat (by rw [List.length_map]; exact hi), List.getElem?_map, e]; rfl
def body8 (cal : Nat → List D → M D) : Env → M Fl := sSeq (sAsg (.nm 8) (eIx (eVar 4) (eVar 7))) (
      sSeq (sAsg (.nm 9) (eIf (bT (eOp opLt (eOp opAdd (eVar 7) (eC (.int 1))) (eCall opLen (aCons (eVar 4) (aNil))))) (eIx (eVar 4) (eOp opAdd (eVar 7) (eC (.int 1)))) (eC (.str "")))) (
      sSeq (sIf (bOr (bT (eOp opNotIn (eVar 8) (eVar 5))) (bOr (bT (eOp opIn (eVar 8) (eVar 6))) (bOr (bNot (bT (eFun (arity 1 (cal 9)) (aCons (eVar 9) (aNil))))) (bAnd (bT (eOp opEq (eVar 8) (eC (.str "for")))) (bT (eOp opNe (eVar 6) (eLst (aNil)))))))) (sRaise 1) (sNil)) (
      sSeq (sExpr (eAppend (eVar 6) (eVar 8))) (
      sSub (eCall (orL opInt opIntS) (aCons (eVar 9) (aNil))) (eVar 5) (eVar 8)))))
def rEnv (x0 x1 x2 x3 : Option D) (rest : List Str) (n : Nat) (x7 x8 x9 x10 : Option D) : Env := [x0, x1, x2, x3, some (.lst (rest.map .str)), some (.obj n), some (.obj (n + 1)), x7, x8, x9, x10]
theorem body8_ok {x0 x1 x2 x3 x8 x9 x10 : Option D} {rest : List Str} {i : Nat} {q : Str × Str} {s : List Str × Int × Int} {e} (hs : s.1.length ≤ 200) (hq : (chunk rest)[i]? = some q) (hr : rest.length ≤ 100) (he : rdStep s q = some e) :
    Wp (body8 (run (k+1)) (rEnv x0 x1 x2 x3 rest h.length (some (.int (2 * (i : Int)))) x8 x9 x10)) (rH h s) (fun r h' => ∃ s', e = some s' ∧ r = .nx (rEnv x0 x1 x2 x3 rest h.length (some (.int (2 * (i : Int)))) (some (.str q.1)) (some (.str q.2)) x10) ∧ h' = rH h s') (fun c h' => c = 1 ∧ e = none ∧ ∃ u, h' = h ++ u) := by
  obtain ⟨g1, g2⟩ := chunk_get rest i q hq
  unfold body8
  rw [wp_sSeq]
  have p1 : sAsg (.nm 8) (eIx (eVar 4) (eVar 7)) (rEnv x0 x1 x2 x3 rest h.length (some (.int (2 * (i : Int)))) x8 x9 x10) (rH h s) = .ok (.nx (rEnv x0 x1 x2 x3 rest h.length (some (.int (2 * (i : Int)))) (some (.str q.1)) x9 x10)) (rH h s) := by
    refine Wp.eq ?_
    have := ix_strs (h := rH h s) g1
    rw [show ((2 * i : Nat) : Int) = 2 * (i : Int) by omega] at this
    unfold rEnv
    simp only [wp_runB, wp_sSeq, wp_sIf, bT, wp_toB, wp_eOp, wp_eVar, wp_eC, wp_sRaise, wp_sNil, wp_sAsg, wp_sPar, wp_sPar3, wp_sRet, wp_sExpr, wp_sSub, wp_sSetF, wp_eLc, wp_iSeq, wp_iRange, wp_eFld, wp_eIx, wp_eTup, wp_eLst, wp_eIf, wp_eAnd, wp_eOr, wp_eNot, wp_bNot, wp_bAnd, wp_bOr, wp_aCons, wp_aNil, wp_eCall, wp_eFun, wp_eMeth, wp_arity, wp_eNeg, wp_eChain, List.getElem?_cons_zero, List.getElem?_cons_succ, List.set_cons_zero, List.set_cons_succ, List.length_cons, List.length_nil, put_nm, opCmp_int, opAdd_int, opSub_int, opEq_int, opInt_int, decide_true, decide_false, Bool.false_eq_true, if_false, if_true, true_and, and_true, List.map_cons, List.map_nil, Nat.zero_add, Nat.reduceAdd, this]
  rw [wp_eq p1]
  dsimp only
  rw [wp_sSeq]
  have p2 : sAsg (.nm 9) (eIf (bT (eOp opLt (eOp opAdd (eVar 7) (eC (.int 1))) (eCall opLen (aCons (eVar 4) (aNil))))) (eIx (eVar 4) (eOp opAdd (eVar 7) (eC (.int 1)))) (eC (.str ""))) (rEnv x0 x1 x2 x3 rest h.length (some (.int (2 * (i : Int)))) (some (.str q.1)) x9 x10) (rH h s) = .ok (.nx (rEnv x0 x1 x2 x3 rest h.length (some (.int (2 * (i : Int)))) (some (.str q.1)) (some (.str q.2)) x10)) (rH h s) := by
    refine Wp.eq ?_
    unfold rEnv
    have ol : opLen (rH h s) [.lst (rest.map .str)] = some (.int rest.length) := by rw [opLen_lst, List.length_map]
    simp only [wp_runB, wp_sSeq, wp_sIf, bT, wp_toB, wp_eOp, wp_eVar, wp_eC, wp_sRaise, wp_sNil, wp_sAsg, wp_sPar, wp_sPar3, wp_sRet, wp_sExpr, wp_sSub, wp_sSetF, wp_eLc, wp_iSeq, wp_iRange, wp_eFld, wp_eIx, wp_eTup, wp_eLst, wp_eIf, wp_eAnd, wp_eOr, wp_eNot, wp_bNot, wp_bAnd, wp_bOr, wp_aCons, wp_aNil, wp_eCall, wp_eFun, wp_eMeth, wp_arity, wp_eNeg, wp_eChain, List.getElem?_cons_zero, List.getElem?_cons_succ, List.set_cons_zero, List.set_cons_succ, List.length_cons, List.length_nil, put_nm, opCmp_int, opAdd_int, opSub_int, opEq_int, opInt_int, decide_true, decide_false, Bool.false_eq_true, if_false, if_true, true_and, and_true, List.map_cons, List.map_nil, Nat.zero_add, Nat.reduceAdd, wp_eCall, ol]
    by_cases z : 2 * i + 1 < rest.length
    · have y : 2 * (i : Int) + 1 < rest.length := by omega
      rw [if_pos z] at g2
      have := ix_strs (h := rH h s) g2
      rw [show ((2 * i + 1 : Nat) : Int) = 2 * (i : Int) + 1 by omega] at this
      simp only [y, decide_true, if_true, this]
      all_goals first | trivial | exact ⟨rfl, trivial⟩ | exact ⟨rfl, rfl⟩
    · have y : ¬ 2 * (i : Int) + 1 < rest.length := by omega
      rw [if_neg z] at g2
      simp only [y, decide_false, Bool.false_eq_true, if_false, g2]
      all_goals first | trivial | exact ⟨rfl, trivial⟩ | exact ⟨rfl, rfl⟩
  rw [wp_eq p2]
  dsimp only
  have in2 : ∀ {w : Str} {i : Int}, numV w = some i → orL opInt opIntS (rH h (s.1 ++ [q.1], s.2)) [.str w] = some (.int i) := fun {w i} hw => by
    have o1 : opInt (rH h (s.1 ++ [q.1], s.2)) [.str w] = none := rfl
    unfold numV at hw
    split at hw
    · rename_i hz
      simp only [orL, o1, opIntS, hz, if_true, hw, Option.map]
    · cases hw
  have hsz : s.1.length < sizeLine := by rw [sizeLine_eq]; omega
  unfold rdStep at he
  unfold rEnv
  simp only [wp_runB, wp_sSeq, wp_sIf, bT, wp_toB, wp_eOp, wp_eVar, wp_eC, wp_sRaise, wp_sNil, wp_sAsg, wp_sPar, wp_sPar3, wp_sRet, wp_sExpr, wp_sSub, wp_sSetF, wp_eLc, wp_iSeq, wp_iRange, wp_eFld, wp_eIx, wp_eTup, wp_eLst, wp_eIf, wp_eAnd, wp_eOr, wp_eNot, wp_bNot, wp_bAnd, wp_bOr, wp_aCons, wp_aNil, wp_eCall, wp_eFun, wp_eMeth, wp_arity, wp_eNeg, wp_eChain, List.getElem?_cons_zero, List.getElem?_cons_succ, List.set_cons_zero, List.set_cons_succ, List.length_cons, List.length_nil, put_nm, opCmp_int, opAdd_int, opSub_int, opEq_int, opInt_int, decide_true, decide_false, Bool.false_eq_true, if_false, if_true, true_and, and_true, List.map_cons, List.map_nil, Nat.zero_add, Nat.reduceAdd, rH_notin, rH_in, wp_eFun, wp_arity, wp_eq (isnum_ok (k := k) (w := q.2)), opEq_str, rH_ne, wp_eAppend, rH_isl, rH_app hsz]
  cases c1 : (q.1 == ("for" : Str) || q.1 == ("back" : Str)) with
  | false =>
    rw [c1] at he
    simp only [Bool.not_false, Bool.true_or, if_true] at he
    cases he
    simp only [Bool.not_false, if_true]
    first | exact ⟨rfl, _, rfl⟩ | exact ⟨trivial, _, rfl⟩
  | true =>
    rw [c1] at he
    simp only [Bool.not_true, Bool.false_or, Bool.false_eq_true, if_false] at he ⊢
    cases c2 : s.1.contains q.1 with
    | true =>
      rw [c2] at he
      simp only [Bool.true_or, if_true] at he
      cases he
      simp only [if_true]
      first | exact ⟨rfl, _, rfl⟩ | exact ⟨trivial, _, rfl⟩
    | false =>
      rw [c2] at he
      simp only [Bool.false_or, Bool.false_eq_true, if_false] at he ⊢
      cases c3 : numOk q.2 with
      | false =>
        rw [c3] at he
        simp only [Bool.not_false, Bool.true_or, if_true] at he
        cases he
        simp only [Bool.not_false, if_true]
        first | exact ⟨rfl, _, rfl⟩ | exact ⟨trivial, _, rfl⟩
      | true =>
        rw [c3] at he
        simp only [Bool.not_true, Bool.false_or, Bool.false_eq_true, if_false] at he ⊢
        have fin : (∃ i, numV q.2 = some i ∧ e = some (s.1 ++ [q.1], if (q.1 == ("for" : Str)) = true then i else s.2.1, if (q.1 == ("back" : Str)) = true then i else s.2.2)) →
            (match orL opInt opIntS (rH h (s.1 ++ [q.1], s.2)) [.str q.2] with
              | some d => match putIx (rH h (s.1 ++ [q.1], s.2)) (.obj h.length) (.str q.1) d with
                | some h' => ∃ s', e = some s' ∧ h' = rH h s'
                | none => False
              | none => False) := fun ⟨i, hi, ee⟩ => by
          rw [in2 hi]
          dsimp only
          rw [rH_put c1]
          exact ⟨_, ee, rfl⟩
        have num : (match numV q.2 with
          | some i => some (some (s.1 ++ [q.1], if (q.1 == ("for" : Str)) = true then i else s.2.1, if (q.1 == ("back" : Str)) = true then i else s.2.2))
          | none => none) = some e → ∃ i, numV q.2 = some i ∧ e = some (s.1 ++ [q.1], if (q.1 == ("for" : Str)) = true then i else s.2.1, if (q.1 == ("back" : Str)) = true then i else s.2.2) := fun hh => by
          cases hv : numV q.2 with
          | none => rw [hv] at hh; cases hh
          | some i => rw [hv] at hh; cases hh; exact ⟨i, rfl, rfl⟩
        cases c4 : (q.1 == ("for" : Str)) with
        | false =>
          rw [c4] at he fin num
          simp only [Bool.false_and, Bool.false_eq_true, if_false] at he fin num ⊢
          exact fin (num he)
        | true =>
          rw [c4] at he fin num
          simp only [Bool.true_and, if_true] at he fin num ⊢
          refine ⟨by decide, ?_⟩
          cases c5 : s.1.isEmpty with
          | false =>
            rw [c5] at he
            simp only [Bool.not_false, if_true] at he ⊢
            cases he
            first | exact ⟨rfl, _, rfl⟩ | exact ⟨trivial, _, rfl⟩
          | true =>
            rw [c5] at he
            simp only [Bool.not_true, Bool.false_eq_true, if_false] at he ⊢
            exact fin (num he)
/-- the loop over what is behind the bounds -/
theorem loop8_ok {x0 x1 x2 x3 x10 : Option D} {rest : List Str} (hr : rest.length ≤ 100) : ∀ (ps : List (Str × Str)) (i : Nat) (s : List Str × Int × Int) (x7 x8 x9 : Option D) {e}, s.1.length ≤ i → i ≤ 100 → (chunk rest).drop i = ps → rdAll ps s = some e →
    Wp (forGo (.nm 7) (fun _ => true) (body8 (run (k+1))) ((List.range' i ps.length).map fun j : Nat => D.int (2 * (j : Int))) (rEnv x0 x1 x2 x3 rest h.length x7 x8 x9 x10)) (rH h s) (fun r h' => ∃ s' y7 y8 y9, e = some s' ∧ r = .nx (rEnv x0 x1 x2 x3 rest h.length y7 y8 y9 x10) ∧ h' = rH h s') (fun c h' => c = 1 ∧ e = none ∧ ∃ u, h' = h ++ u)
  | [], i, s, x7, x8, x9, e, hs, hi, hd, he => by
    cases he
    rw [List.length_nil, List.range'_zero, List.map_nil, wp_forNil rfl]
    exact ⟨s, x7, x8, x9, rfl, rfl, rfl⟩
  | q :: ps, i, s, x7, x8, x9, e, hs, hi, hd, he => by
    have hlt : i < (chunk rest).length := by
      apply Decidable.byContradiction
      intro z
      rw [List.drop_of_length_le (by omega)] at hd
      cases hd
    have hcl := chunk_len rest
    have hq : (chunk rest)[i]? = some q := by
      have := congrArg List.head? hd
      rw [List.head?_drop] at this
      exact this
    have hd' : (chunk rest).drop (i + 1) = ps := by
      rw [← List.tail_drop, hd]; rfl
    rw [List.length_cons, List.range'_succ, List.map_cons, wp_forCons rfl (put_nm _ _ _)]
    obtain ⟨e', h1, h2⟩ := rdAll_ok he
    have b := body8_ok (h := h) (k := k) (x0 := x0) (x1 := x1) (x2 := x2) (x3 := x3) (x8 := x8) (x9 := x9) (x10 := x10) (rest := rest) (i := i) (s := s) (by omega) hq hr h1
    refine b.imp ?_ ?_
    · rintro _ _ ⟨s', rfl, rfl, rfl⟩
      rcases h2 with ⟨z, _⟩ | ⟨s2, z, h3⟩
      · cases z
      · cases z
        have hs' : s'.1.length ≤ i + 1 := by
          unfold rdStep at h1
          split at h1
          · cases h1
          · split at h1
            · cases h1; simp; omega
            · cases h1
        exact loop8_ok hr ps (i + 1) s' _ _ _ hs' (by omega) hd' h3
    · rintro c h' ⟨rfl, rfl, u, rfl⟩
      rcases h2 with ⟨_, z⟩ | ⟨s2, z, _⟩
      · exact ⟨rfl, z, u, rfl⟩
      · cases z
end
end PyD.K02

namespace PyD.K02
open PySem PySem.Spec L2 PyD
open PyProof.Rows hiding St
open PyD (Env Pat)
section
variable {h u t : AH} {env : Env} {k : Nat} {a b m : Int}
theorem make_bad {lo hi mi ba : Int} {x : Kd} (hb : mkOk x lo hi mi ba = false) : run (k+1) 0 [.obj h.length, .str (kS x), .int lo, .int hi, .int mi, .int ba] (h ++ [.ins 2 []]) = .ex 1 (h ++ [.ins 2 []]) := by
  refine Wp.exq ?_
  show Wp (runB 6 (b_0 (run k)) _) _ _ _
  have e0 : startE 6 [D.obj h.length, .str (kS x), .int lo, .int hi, .int mi, .int ba] = [some (.obj h.length), some (.str (kS x)), some (.int lo), some (.int hi), some (.int mi), some (.int ba)] := rfl
  simp only [wp_runB, wp_sSeq, wp_sIf, bT, wp_toB, wp_eOp, wp_eVar, wp_eC, wp_sRaise, wp_sNil, wp_sAsg, wp_sPar, wp_sPar3, wp_sRet, wp_sExpr, wp_sSub, wp_sSetF, wp_eLc, wp_iSeq, wp_iRange, wp_eFld, wp_eIx, wp_eTup, wp_eLst, wp_eIf, wp_eAnd, wp_eOr, wp_eNot, wp_bNot, wp_bAnd, wp_bOr, wp_aCons, wp_aNil, wp_eCall, wp_eFun, wp_eMeth, wp_arity, wp_eNeg, wp_eChain, List.getElem?_cons_zero, List.getElem?_cons_succ, List.set_cons_zero, List.set_cons_succ, List.length_cons, List.length_nil, put_nm, opCmp_int, opAdd_int, opSub_int, opEq_int, opInt_int, decide_true, decide_false, Bool.false_eq_true, if_false, if_true, true_and, and_true, List.map_cons, List.map_nil, Nat.zero_add, Nat.reduceAdd, b_0, e0, in3, wp_eCall, opMin2_int, ne_ou, eq_ou, opNe_int, opMul_l _ 2 _ (by decide)]
  unfold mkOk at hb
  by_cases z1 : hi < lo
  · simp only [z1, decide_true, if_true]
    all_goals first | trivial | exact ⟨rfl, trivial⟩ | exact ⟨rfl, rfl⟩
  · have y1 : lo ≤ hi := by omega
    simp only [z1, y1, decide_false, decide_true, Bool.true_and, Bool.false_eq_true, if_false] at hb ⊢
    by_cases z2 : min mi ba < 0
    · simp only [z2, decide_true, if_true]
      all_goals first | trivial | exact ⟨rfl, trivial⟩ | exact ⟨rfl, rfl⟩
    · have y2 : 0 ≤ min mi ba := by omega
      simp only [z2, y2, decide_false, decide_true, Bool.true_and, Bool.false_eq_true, if_false] at hb ⊢
      by_cases z3 : x = .ou
      · simp only [z3, if_true, decide_eq_false_iff_not] at hb
        have y3 : hi - lo < 2 * ba := by omega
        simp only [z3, decide_true, Bool.not_true, Bool.false_eq_true, if_false, if_true, y3]
        all_goals first | trivial | exact ⟨rfl, trivial⟩ | exact ⟨rfl, rfl⟩
      · simp only [z3, if_false, decide_eq_false_iff_not] at hb
        have y3 : (lo == hi) = false := by rw [beq_eq_false_iff_ne]; exact hb
        simp only [z3, decide_false, Bool.not_false, if_true, y3]
        all_goals first | trivial | exact ⟨rfl, trivial⟩ | exact ⟨rfl, rfl⟩
theorem make_good {lo hi mi ba : Int} {x : Kd} (hb : mkOk x lo hi mi ba = true) : run (k+1) 0 [.obj h.length, .str (kS x), .int lo, .int hi, .int mi, .int ba] (h ++ [.ins 2 []]) = .ok .non (h ++ [rwO ⟨x, lo, hi, mi, ba⟩]) := by
  unfold mkOk at hb
  simp only [Bool.and_eq_true, decide_eq_true_eq] at hb
  obtain ⟨⟨h1, h2⟩, h3⟩ := hb
  refine make_core h1 (by omega) (by omega) (fun z => ?_) (fun z => ?_)
  · rw [if_neg z, decide_eq_true_eq] at h3; exact h3
  · rw [if_pos z, decide_eq_true_eq] at h3; exact h3
theorem kd_in (w : Str) : (["above", "below", "outside"] : List Str).contains w = (kdOf w).isSome := by
  unfold kdOf
  simp only [List.contains_cons, List.contains_nil, Bool.or_false]
  cases c1 : (w == ("above" : Str)) <;> cases c2 : (w == ("below" : Str)) <;> cases c3 : (w == ("outside" : Str)) <;> rfl
theorem kd_S {w : Str} {x : Kd} (e : kdOf w = some x) : w = kS x := by
  unfold kdOf at e
  split at e
  · rename_i z; cases e; exact eq_of_beq z
  · split at e
    · rename_i z; cases e; exact eq_of_beq z
    · split at e
      · rename_i z; cases e; exact eq_of_beq z
      · cases e
theorem merge2 {a b : D} : mergeD [(.str "for", a), (.str "back", b)] = [(.str "for", a), (.str "back", b)] := by kernel_rfl
theorem look_for {a b : D} : lookD [(.str "for", a), (.str "back", b)] (.str "for") = some a := by kernel_rfl
theorem look_back {a b : D} : lookD [(.str "for", a), (.str "back", b)] (.str "back") = some b := by kernel_rfl
theorem rH_for {s : List Str × Int × Int} : ixD (rH h s) (.obj h.length) (.str "for") = some (.int s.2.1) := by
  simp only [ixD, sqOf, rH_d, dcO, isKey, if_true, look_for]
theorem rH_back {s : List Str × Int × Int} : ixD (rH h s) (.obj h.length) (.str "back") = some (.int s.2.2) := by
  simp only [ixD, sqOf, rH_d, dcO, isKey, if_true, look_back]
theorem rH_len (s : List Str × Int × Int) : (rH h s).length = h.length + 2 := by simp [rH]
def mI (x : Kd) : Int := (manyOf x : Nat)
theorem mI_if (x : Kd) {Q : D → Prop} : (if (decide (x = .ou)) = true then Q (.int 2) else Q (.int 1)) = Q (.int (mI x)) := by
  cases x <;> rfl
theorem sl_one {w : Str} {tl : List Str} (x : Kd) : slD h (.lst ((w :: tl).map .str)) (some 1) (some (1 + mI x)) = some (.lst ((tl.take (manyOf x)).map .str)) := by
  simp only [slD, sqOf]
  have := cutL_ab ((w :: tl).map D.str) 1 (1 + manyOf x)
  rw [show ((1 : Nat) : Int) = 1 from rfl, show ((1 + manyOf x : Nat) : Int) = 1 + mI x by unfold mI; omega] at this
  rw [this, List.map_cons, List.drop_one, List.tail_cons, show 1 + manyOf x - 1 = manyOf x by omega, List.map_take]
theorem sl_two {w : Str} {tl : List Str} (x : Kd) : slD h (.lst ((w :: tl).map .str)) (some (1 + mI x)) none = some (.lst ((tl.drop (manyOf x)).map .str)) := by
  simp only [slD, sqOf]
  have := cutL_a ((w :: tl).map D.str) (1 + manyOf x)
  rw [show ((1 + manyOf x : Nat) : Int) = 1 + mI x by unfold mI; omega] at this
  rw [this, List.map_cons, show 1 + manyOf x = manyOf x + 1 by omega, List.drop_succ_cons, List.map_drop]
theorem bounds_ok {a0 a1 : Option D} {x : Kd} {tl rest : List Str} (ht : tl.length ≤ 100) :
    Wp ((bOr (bT (eOp opLt (eCall opLen (aCons (eVar 3) (aNil))) (eVar 2))) (bT (fun env => bnd (eGx stopT ([(("word" : Str), 10)].map (·.2)) (.nm 10) (iSeq (eVar 3)) (bYes) (eNot (eFun (arity 1 (run (k+1) 9)) (aCons (eVar 10) (aNil)))) env) kAny))) [a0, a1, some (.int (mI x)), some (.lst ((tl.take (manyOf x)).map .str)), some (.lst (rest.map .str)), none, none, none, none, none, none]) h
      (fun b h' => b = (decide ((tl.take (manyOf x)).length < manyOf x) || (tl.take (manyOf x)).any fun w => !numOk w) ∧ h' = h) (fun _ _ => False) := by
  have ol : opLen h [.lst ((tl.take (manyOf x)).map .str)] = some (.int (tl.take (manyOf x)).length) := by rw [opLen_lst, List.length_map]
  simp only [wp_runB, wp_sSeq, wp_sIf, bT, wp_toB, wp_eOp, wp_eVar, wp_eC, wp_sRaise, wp_sNil, wp_sAsg, wp_sPar, wp_sPar3, wp_sRet, wp_sExpr, wp_sSub, wp_sSetF, wp_eLc, wp_iSeq, wp_iRange, wp_eFld, wp_eIx, wp_eTup, wp_eLst, wp_eIf, wp_eAnd, wp_eOr, wp_eNot, wp_bNot, wp_bAnd, wp_bOr, wp_aCons, wp_aNil, wp_eCall, wp_eFun, wp_eMeth, wp_arity, wp_eNeg, wp_eChain, List.getElem?_cons_zero, List.getElem?_cons_succ, List.set_cons_zero, List.set_cons_succ, List.length_cons, List.length_nil, put_nm, opCmp_int, opAdd_int, opSub_int, opEq_int, opInt_int, decide_true, decide_false, Bool.false_eq_true, if_false, if_true, true_and, and_true, List.map_cons, List.map_nil, Nat.zero_add, Nat.reduceAdd, wp_eCall, ol]
  by_cases z : (tl.take (manyOf x)).length < manyOf x
  · have y : (((tl.take (manyOf x)).length : Nat) : Int) < mI x := by unfold mI; omega
    simp only [y, z, decide_true, if_true, Bool.true_or, and_self]
  · have y : ¬ (((tl.take (manyOf x)).length : Nat) : Int) < mI x := by unfold mI; omega
    simp only [y, z, decide_false, Bool.false_eq_true, if_false, Bool.false_or, wp_bnd, wp_eGx]
    simp only [wp_runB, wp_sSeq, wp_sIf, bT, wp_toB, wp_eOp, wp_eVar, wp_eC, wp_sRaise, wp_sNil, wp_sAsg, wp_sPar, wp_sPar3, wp_sRet, wp_sExpr, wp_sSub, wp_sSetF, wp_eLc, wp_iSeq, wp_iRange, wp_eFld, wp_eIx, wp_eTup, wp_eLst, wp_eIf, wp_eAnd, wp_eOr, wp_eNot, wp_bNot, wp_bAnd, wp_bOr, wp_aCons, wp_aNil, wp_eCall, wp_eFun, wp_eMeth, wp_arity, wp_eNeg, wp_eChain, List.getElem?_cons_zero, List.getElem?_cons_succ, List.set_cons_zero, List.set_cons_succ, List.length_cons, List.length_nil, put_nm, opCmp_int, opAdd_int, opSub_int, opEq_int, opInt_int, decide_true, decide_false, Bool.false_eq_true, if_false, if_true, true_and, and_true, List.map_cons, List.map_nil, Nat.zero_add, Nat.reduceAdd, src_lst, wipe1]
    refine ⟨by rw [List.length_map, List.length_take, sizeLine_eq]; omega, ?_⟩
    obtain ⟨bs, g1, g2⟩ := gxGo_any (h := h) (env := [a0, a1, some (.int (mI x)), some (.lst ((tl.take (manyOf x)).map .str)), some (.lst (rest.map .str)), none, none, none, none, none, none]) (pat := .nm 10) (gi := bYes) (ge := eNot (eFun (arity 1 (run (k+1) 9)) (aCons (eVar 10) (aNil)))) (ok := fun _ => true) D.str (fun w => !numOk w) rfl (xs := tl.take (manyOf x)) (fun w hw => ⟨_, put_nm _ _ _, rfl, Wp.eq (by
      simp only [wp_runB, wp_sSeq, wp_sIf, bT, wp_toB, wp_eOp, wp_eVar, wp_eC, wp_sRaise, wp_sNil, wp_sAsg, wp_sPar, wp_sPar3, wp_sRet, wp_sExpr, wp_sSub, wp_sSetF, wp_eLc, wp_iSeq, wp_iRange, wp_eFld, wp_eIx, wp_eTup, wp_eLst, wp_eIf, wp_eAnd, wp_eOr, wp_eNot, wp_bNot, wp_bAnd, wp_bOr, wp_aCons, wp_aNil, wp_eCall, wp_eFun, wp_eMeth, wp_arity, wp_eNeg, wp_eChain, List.getElem?_cons_zero, List.getElem?_cons_succ, List.set_cons_zero, List.set_cons_succ, List.length_cons, List.length_nil, put_nm, opCmp_int, opAdd_int, opSub_int, opEq_int, opInt_int, decide_true, decide_false, Bool.false_eq_true, if_false, if_true, true_and, and_true, List.map_cons, List.map_nil, Nat.zero_add, Nat.reduceAdd, wp_eFun, wp_arity, wp_eq (isnum_ok (k := k) (w := w))]
      all_goals first | trivial | exact ⟨rfl, trivial⟩ | exact ⟨rfl, rfl⟩)⟩)
    rw [wp_eq g1, kAny_bls, wp_ret, g2]
    exact ⟨rfl, rfl⟩
end
end PyD.K02

namespace PyD.K02
open PySem PySem.Spec L2 PyD
open PyProof.Rows hiding St
open PyD (Env Pat)
section
variable {h u t : AH} {env : Env} {k : Nat} {a b m : Int}
def top8 (cal : Nat → List D → M D) : Env → M Fl :=
  sSeq (sFor (.nm 7) (iRange range3 (aCons (eC (.int 0)) (aCons (eCall opLen (aCons (eVar 4) (aNil))) (aCons (eC (.int 2)) (aNil))))) (body8 cal)) (
    sRet (eMake 2 (arity 6 (cal 0)) (aCons (eIx (eVar 1) (eC (.int 0))) (aCons (eCall (orL opInt opIntS) (aCons (eIx (eVar 3) (eC (.int 0))) (aNil))) (aCons (eCall (orL opInt opIntS) (aCons (eIx (eVar 3) (eNeg (eC (.int 1)))) (aNil))) (aCons (eIx (eVar 5) (eC (.str "for"))) (aCons (eIx (eVar 5) (eC (.str "back"))) (aNil))))))))
theorem b8_eq (cal : Nat → List D → M D) : b_8 cal = sSeq (sAsg (.nm 1) (eSplit (eVar 0) (eC (.str " ")))) (
    sSeq (sIf (bT (eOp opNotIn (eIx (eVar 1) (eC (.int 0))) (eC (.tup [.str "above", .str "below", .str "outside"])))) (sRaise 1) (sNil)) (
    sSeq (sAsg (.nm 2) (eIf (bT (eOp opEq (eIx (eVar 1) (eC (.int 0))) (eC (.str "outside")))) (eC (.int 2)) (eC (.int 1)))) (
    sSeq (sPar 3 4 (aCons (eSl (eVar 1) (ePart (eC (.int 1))) (ePart (eOp opAdd (eC (.int 1)) (eVar 2)))) (aCons (eSl (eVar 1) (ePart (eOp opAdd (eC (.int 1)) (eVar 2))) (eNoPart)) (aNil)))) (
    sSeq (sIf (bOr (bT (eOp opLt (eCall opLen (aCons (eVar 3) (aNil))) (eVar 2))) (bT (fun env => bnd (eGx stopT ([(("word" : Str), 10)].map (·.2)) (.nm 10) (iSeq (eVar 3)) (bYes) (eNot (eFun (arity 1 (cal 9)) (aCons (eVar 10) (aNil)))) env) kAny))) (sRaise 1) (sNil)) (
    sSeq (sAsg (.nm 5) (eDisp (pCons (eC (.str "for")) (eC (.int 0)) (pCons (eC (.str "back")) (eC (.int 0)) (pNil))))) (
    sSeq (sAsg (.nm 6) (eLstO (aNil))) (top8 cal))))))) := rfl
theorem at_head {xs : List Str} (hx : xs ≠ []) : atI (xs.map D.str) 0 = some (.str (xs.headD "")) := by
  cases xs with
  | nil => exact absurd rfl hx
  | cons x r => exact atI_0 D.str x r
theorem at_end {xs : List Str} (hx : xs ≠ []) : atI (xs.map D.str) (-1) = some (.str (xs.getLastD "")) := atI_last D.str "" xs hx
theorem top8_ok {x0 : Option D} {x : Kd} {tl : List Str} {w : Str} {res} (hw : w = kS x) (ht : tl.length ≤ 100) (hb : (tl.take (manyOf x)).length = manyOf x)
    (hres : (match rdAll (chunk (tl.drop (manyOf x))) ([], 0, 0) with
    | none => none
    | some none => some none
    | some (some s) => match numV ((tl.take (manyOf x)).headD ""), numV ((tl.take (manyOf x)).getLastD "") with
      | some lo, some hi => if mkOk x lo hi s.2.1 s.2.2 = true then some (some (Rw.mk x lo hi s.2.1 s.2.2)) else some none
      | _, _ => none) = some res) :
    Wp (top8 (run (k+2)) (rEnv x0 (some (.lst ((w :: tl).map .str))) (some (.int (mI x))) (some (.lst ((tl.take (manyOf x)).map .str))) (tl.drop (manyOf x)) h.length none none none none)) (rH h ([], 0, 0))
      (fun r h' => ∃ q u, res = some q ∧ r = .rt (.obj (h.length + u.length)) ∧ h' = h ++ u ++ [rwO q]) (fun c h' => c = 1 ∧ res = none ∧ ∃ u, h' = h ++ u) := by
  have hrl : (tl.drop (manyOf x)).length ≤ 100 := by rw [List.length_drop]; omega
  unfold top8
  rw [wp_sSeq, wp_sFor]
  have hcl := chunk_len (tl.drop (manyOf x))
  have it : ∀ {Q : Src → AH → Prop} {E}, Wp (iRange range3 (aCons (eC (.int 0)) (aCons (eCall opLen (aCons (eVar 4) (aNil))) (aCons (eC (.int 2)) (aNil)))) (rEnv x0 (some (.lst ((w :: tl).map .str))) (some (.int (mI x))) (some (.lst ((tl.take (manyOf x)).map .str))) (tl.drop (manyOf x)) h.length none none none none)) (rH h ([], 0, 0)) Q E = Q ⟨(List.range' 0 (chunk (tl.drop (manyOf x))).length).map fun j : Nat => D.int (2 * (j : Int)), fun _ => true⟩ (rH h ([], 0, 0)) := fun {Q E} => by
    have ol : opLen (rH h ([], 0, 0)) [.lst ((tl.drop (manyOf x)).map .str)] = some (.int (tl.drop (manyOf x)).length) := by rw [opLen_lst, List.length_map]
    unfold rEnv
    simp only [wp_runB, wp_sSeq, wp_sIf, bT, wp_toB, wp_eOp, wp_eVar, wp_eC, wp_sRaise, wp_sNil, wp_sAsg, wp_sPar, wp_sPar3, wp_sRet, wp_sExpr, wp_sSub, wp_sSetF, wp_eLc, wp_iSeq, wp_iRange, wp_eFld, wp_eIx, wp_eTup, wp_eLst, wp_eIf, wp_eAnd, wp_eOr, wp_eNot, wp_bNot, wp_bAnd, wp_bOr, wp_aCons, wp_aNil, wp_eCall, wp_eFun, wp_eMeth, wp_arity, wp_eNeg, wp_eChain, List.getElem?_cons_zero, List.getElem?_cons_succ, List.set_cons_zero, List.set_cons_succ, List.length_cons, List.length_nil, put_nm, opCmp_int, opAdd_int, opSub_int, opEq_int, opInt_int, decide_true, decide_false, Bool.false_eq_true, if_false, if_true, true_and, and_true, List.map_cons, List.map_nil, Nat.zero_add, Nat.reduceAdd, wp_eCall, ol, range3_two hrl, hcl, List.range_eq_range']
  rw [it]
  cases hA : rdAll (chunk (tl.drop (manyOf x))) ([], 0, 0) with
  | none => rw [hA] at hres; cases hres
  | some e =>
    have L := loop8_ok (h := h) (k := k+1) (x0 := x0) (x1 := some (.lst ((w :: tl).map .str))) (x2 := some (.int (mI x))) (x3 := some (.lst ((tl.take (manyOf x)).map .str))) (x10 := none) hrl (chunk (tl.drop (manyOf x))) 0 ([], 0, 0) none none none (by simp) (by omega) rfl hA
    refine L.imp ?_ ?_
    · rintro _ _ ⟨s, y7, y8, y9, rfl, rfl, rfl⟩
      rw [hA] at hres
      dsimp only at hres ⊢
      have hne : tl.take (manyOf x) ≠ [] := by
        intro z
        rw [z] at hb
        cases x <;> cases hb
      cases h1 : numV ((tl.take (manyOf x)).headD "") with
      | none => rw [h1] at hres; cases hres
      | some lo =>
        cases h2 : numV ((tl.take (manyOf x)).getLastD "") with
        | none => rw [h1, h2] at hres; cases hres
        | some hi =>
          rw [h1, h2] at hres
          dsimp only at hres
          have inn : ∀ {w : Str} {i : Int}, numV w = some i → orL opInt opIntS (rH h s) [.str w] = some (.int i) := fun {w i} hw => by
            have o1 : opInt (rH h s) [.str w] = none := rfl
            unfold numV at hw
            split at hw
            · rename_i hz
              simp only [orL, o1, opIntS, hz, if_true, hw, Option.map]
            · cases hw
          have i0 : ixD (rH h s) (.lst (D.str w :: tl.map .str)) (.int 0) = some (.str w) := atI_0 D.str w tl
          have i1 : ixD (rH h s) (.lst ((tl.take (manyOf x)).map .str)) (.int 0) = some (.str ((tl.take (manyOf x)).headD "")) := at_head hne
          have i2 : ixD (rH h s) (.lst ((tl.take (manyOf x)).map .str)) (.int (-1)) = some (.str ((tl.take (manyOf x)).getLastD "")) := at_end hne
          unfold rEnv
          simp only [wp_runB, wp_sSeq, wp_sIf, bT, wp_toB, wp_eOp, wp_eVar, wp_eC, wp_sRaise, wp_sNil, wp_sAsg, wp_sPar, wp_sPar3, wp_sRet, wp_sExpr, wp_sSub, wp_sSetF, wp_eLc, wp_iSeq, wp_iRange, wp_eFld, wp_eIx, wp_eTup, wp_eLst, wp_eIf, wp_eAnd, wp_eOr, wp_eNot, wp_bNot, wp_bAnd, wp_bOr, wp_aCons, wp_aNil, wp_eCall, wp_eFun, wp_eMeth, wp_arity, wp_eNeg, wp_eChain, List.getElem?_cons_zero, List.getElem?_cons_succ, List.set_cons_zero, List.set_cons_succ, List.length_cons, List.length_nil, put_nm, opCmp_int, opAdd_int, opSub_int, opEq_int, opInt_int, decide_true, decide_false, Bool.false_eq_true, if_false, if_true, true_and, and_true, List.map_cons, List.map_nil, Nat.zero_add, Nat.reduceAdd, wp_eMake, i0, i1, i2, wp_eCall, wp_eNeg, inn h1, inn h2, rH_for, rH_back, wp_arity]
          subst hw
          by_cases c : mkOk x lo hi s.2.1 s.2.2 = true
          · rw [if_pos c] at hres
            cases hres
            rw [wp_eq (make_good (h := rH h s) (k := k+1) c)]
            exact ⟨_, [dcO s.2.1 s.2.2, .lst (s.1.map .str)], rfl, by rw [rH_len]; rfl, by unfold rH; simp⟩
          · rw [if_neg c] at hres
            cases hres
            rw [wp_exq (make_bad (h := rH h s) (k := k+1) (by simpa using c))]
            exact ⟨rfl, rfl, [dcO s.2.1 s.2.2, .lst (s.1.map .str), .ins 2 []], by unfold rH; simp⟩
    · rintro c h' ⟨rfl, rfl, u, rfl⟩
      rw [hA] at hres
      cases hres
      exact ⟨rfl, rfl, u, rfl⟩
theorem read_ok {x : Str} {res} (hr : readT x = some res) : Wp (run (k+3) 8 [.str x]) h (fun d h' => ∃ q u, res = some q ∧ d = .obj (h.length + u.length) ∧ h' = h ++ u ++ [rwO q]) (fun c h' => c = 1 ∧ res = none ∧ ∃ u, h' = h ++ u) := by
  show Wp (runB 11 (b_8 (run (k+2))) _) _ _ _
  have e0 : startE 11 [D.str x] = [some (.str x), none, none, none, none, none, none, none, none, none, none] := rfl
  unfold readT at hr
  split at hr
  case isFalse => cases hr
  rename_i hg
  obtain ⟨g1, g2, g3⟩ := hg
  rw [wp_runB, b8_eq, e0, wp_sSeq]
  have p1 : sAsg (.nm 1) (eSplit (eVar 0) (eC (.str " "))) [some (D.str x), none, none, none, none, none, none, none, none, none, none] h = .ok (.nx [some (.str x), some (.lst ((Txt.split x " ").map .str)), none, none, none, none, none, none, none, none, none]) h := by
    refine Wp.eq ?_
    have os : opSplit (.str x) (.str " ") = some (.lst ((Txt.split x " ").map .str)) := by
      have : ((" " : Str).length == 0) = false ∧ x.length + 2 ≤ sizeLine ∧ ((Txt.split x " ").all fun z => sOk z) = true := ⟨by decide, by rw [sizeLine_eq]; omega, g2⟩
      simp only [opSplit]; rw [if_pos this]
    simp only [wp_runB, wp_sSeq, wp_sIf, bT, wp_toB, wp_eOp, wp_eVar, wp_eC, wp_sRaise, wp_sNil, wp_sAsg, wp_sPar, wp_sPar3, wp_sRet, wp_sExpr, wp_sSub, wp_sSetF, wp_eLc, wp_iSeq, wp_iRange, wp_eFld, wp_eIx, wp_eTup, wp_eLst, wp_eIf, wp_eAnd, wp_eOr, wp_eNot, wp_bNot, wp_bAnd, wp_bOr, wp_aCons, wp_aNil, wp_eCall, wp_eFun, wp_eMeth, wp_arity, wp_eNeg, wp_eChain, List.getElem?_cons_zero, List.getElem?_cons_succ, List.set_cons_zero, List.set_cons_succ, List.length_cons, List.length_nil, put_nm, opCmp_int, opAdd_int, opSub_int, opEq_int, opInt_int, decide_true, decide_false, Bool.false_eq_true, if_false, if_true, true_and, and_true, List.map_cons, List.map_nil, Nat.zero_add, Nat.reduceAdd, wp_eSplit, isStrD, os]
    all_goals simp
  rw [wp_eq p1]
  dsimp only
  generalize hws : Txt.split x " " = ws at *
  cases ws with
  | nil => cases hr
  | cons w tl =>
    dsimp only at hr
    have i0 : ixD h (.lst (D.str w :: tl.map .str)) (.int 0) = some (.str w) := atI_0 D.str w tl
    have ni : opNotIn h (.str w) (.tup [.str "above", .str "below", .str "outside"]) = some (.bl (!(kdOf w).isSome)) := by
      have := notIn_strs (h := h) (d := .tup [.str "above", .str "below", .str "outside"]) (l := false) (x := w) (xs := ["above", "below", "outside"]) rfl
      rw [this, kd_in]
    rw [wp_sSeq]
    cases hk : kdOf w with
    | none =>
      rw [hk] at hr
      cases hr
      simp only [wp_runB, wp_sSeq, wp_sIf, bT, wp_toB, wp_eOp, wp_eVar, wp_eC, wp_sRaise, wp_sNil, wp_sAsg, wp_sPar, wp_sPar3, wp_sRet, wp_sExpr, wp_sSub, wp_sSetF, wp_eLc, wp_iSeq, wp_iRange, wp_eFld, wp_eIx, wp_eTup, wp_eLst, wp_eIf, wp_eAnd, wp_eOr, wp_eNot, wp_bNot, wp_bAnd, wp_bOr, wp_aCons, wp_aNil, wp_eCall, wp_eFun, wp_eMeth, wp_arity, wp_eNeg, wp_eChain, List.getElem?_cons_zero, List.getElem?_cons_succ, List.set_cons_zero, List.set_cons_succ, List.length_cons, List.length_nil, put_nm, opCmp_int, opAdd_int, opSub_int, opEq_int, opInt_int, decide_true, decide_false, Bool.false_eq_true, if_false, if_true, true_and, and_true, List.map_cons, List.map_nil, Nat.zero_add, Nat.reduceAdd, i0, ni, hk, Option.isSome, Bool.not_false]
      exact ⟨[], by simp⟩
    | some kd =>
      rw [hk] at hr
      have hw := kd_S hk
      have eo : opEq h (.str w) (.str "outside") = some (.bl (decide (kd = .ou))) := by rw [hw]; exact eq_ou kd
      have st1 : ∀ {Q : Fl → AH → Prop} {E}, Wp (sIf (bT (eOp opNotIn (eIx (eVar 1) (eC (.int 0))) (eC (.tup [.str "above", .str "below", .str "outside"])))) (sRaise 1) (sNil) [some (D.str x), some (.lst ((w :: tl).map .str)), none, none, none, none, none, none, none, none, none]) h Q E = Q (.nx [some (D.str x), some (.lst ((w :: tl).map .str)), none, none, none, none, none, none, none, none, none]) h := fun {Q E} => by
        simp only [wp_runB, wp_sSeq, wp_sIf, bT, wp_toB, wp_eOp, wp_eVar, wp_eC, wp_sRaise, wp_sNil, wp_sAsg, wp_sPar, wp_sPar3, wp_sRet, wp_sExpr, wp_sSub, wp_sSetF, wp_eLc, wp_iSeq, wp_iRange, wp_eFld, wp_eIx, wp_eTup, wp_eLst, wp_eIf, wp_eAnd, wp_eOr, wp_eNot, wp_bNot, wp_bAnd, wp_bOr, wp_aCons, wp_aNil, wp_eCall, wp_eFun, wp_eMeth, wp_arity, wp_eNeg, wp_eChain, List.getElem?_cons_zero, List.getElem?_cons_succ, List.set_cons_zero, List.set_cons_succ, List.length_cons, List.length_nil, put_nm, opCmp_int, opAdd_int, opSub_int, opEq_int, opInt_int, decide_true, decide_false, Bool.false_eq_true, if_false, if_true, true_and, and_true, List.map_cons, List.map_nil, Nat.zero_add, Nat.reduceAdd, i0, ni, hk, Option.isSome, Bool.not_true]
      rw [st1]
      dsimp only
      rw [wp_sSeq]
      have st2 : ∀ {Q : Fl → AH → Prop} {E}, Wp (sAsg (.nm 2) (eIf (bT (eOp opEq (eIx (eVar 1) (eC (.int 0))) (eC (.str "outside")))) (eC (.int 2)) (eC (.int 1))) [some (D.str x), some (.lst ((w :: tl).map .str)), none, none, none, none, none, none, none, none, none]) h Q E = Q (.nx [some (D.str x), some (.lst ((w :: tl).map .str)), some (.int (mI kd)), none, none, none, none, none, none, none, none]) h := fun {Q E} => by
        simp only [wp_runB, wp_sSeq, wp_sIf, bT, wp_toB, wp_eOp, wp_eVar, wp_eC, wp_sRaise, wp_sNil, wp_sAsg, wp_sPar, wp_sPar3, wp_sRet, wp_sExpr, wp_sSub, wp_sSetF, wp_eLc, wp_iSeq, wp_iRange, wp_eFld, wp_eIx, wp_eTup, wp_eLst, wp_eIf, wp_eAnd, wp_eOr, wp_eNot, wp_bNot, wp_bAnd, wp_bOr, wp_aCons, wp_aNil, wp_eCall, wp_eFun, wp_eMeth, wp_arity, wp_eNeg, wp_eChain, List.getElem?_cons_zero, List.getElem?_cons_succ, List.set_cons_zero, List.set_cons_succ, List.length_cons, List.length_nil, put_nm, opCmp_int, opAdd_int, opSub_int, opEq_int, opInt_int, decide_true, decide_false, Bool.false_eq_true, if_false, if_true, true_and, and_true, List.map_cons, List.map_nil, Nat.zero_add, Nat.reduceAdd, i0, eo]
        cases kd <;> rfl
      rw [st2]
      dsimp only
      rw [wp_sSeq]
      have st3 : ∀ {Q : Fl → AH → Prop} {E}, Wp (sPar 3 4 (aCons (eSl (eVar 1) (ePart (eC (.int 1))) (ePart (eOp opAdd (eC (.int 1)) (eVar 2)))) (aCons (eSl (eVar 1) (ePart (eOp opAdd (eC (.int 1)) (eVar 2))) (eNoPart)) (aNil))) [some (D.str x), some (.lst ((w :: tl).map .str)), some (.int (mI kd)), none, none, none, none, none, none, none, none]) h Q E = Q (.nx [some (D.str x), some (.lst ((w :: tl).map .str)), some (.int (mI kd)), some (.lst ((tl.take (manyOf kd)).map .str)), some (.lst ((tl.drop (manyOf kd)).map .str)), none, none, none, none, none, none]) h := fun {Q E} => by
        have s1 := sl_one (h := h) (w := w) (tl := tl) kd
        have s2 := sl_two (h := h) (w := w) (tl := tl) kd
        simp only [wp_sPar, wp_aCons, wp_aNil, wp_eSl, wp_ePart, wp_eNoPart, wp_eC, wp_eOp, wp_eVar, List.getElem?_cons_zero, List.getElem?_cons_succ, opAdd_int, s1, s2, List.set_cons_zero, List.set_cons_succ]
      rw [st3]
      dsimp only
      have htl : tl.length ≤ 100 := by simp at g3; omega
      rw [wp_sSeq, wp_sIf]
      refine Wp.impQ (bounds_ok (k := k+1) (h := h) (a0 := some (.str x)) (a1 := some (.lst ((w :: tl).map .str))) (x := kd) (tl := tl) (rest := tl.drop (manyOf kd)) htl |>.imp (fun _ _ q => q) (fun _ _ q => q.elim)) ?_
      rintro bb h1 ⟨hbb, rfl⟩
      dsimp only at hr
      unfold readW at hr
      cases hc : (decide ((tl.take (manyOf kd)).length < manyOf kd) || (tl.take (manyOf kd)).any fun w => !numOk w) with
      | true =>
        rw [if_pos hc] at hr
        cases hr
        rw [hc] at hbb
        subst hbb
        simp only [if_true, wp_sRaise]
        exact ⟨trivial, trivial, [], by simp⟩
      | false =>
        rw [if_neg (by rw [hc]; exact Bool.false_ne_true)] at hr
        rw [hc] at hbb
        subst hbb
        simp only [Bool.false_eq_true, if_false, wp_sNil]
        rw [Bool.or_eq_false_iff, decide_eq_false_iff_not] at hc
        have hb : (tl.take (manyOf kd)).length = manyOf kd := by have := List.length_take_le (manyOf kd) tl; omega
        rw [wp_sSeq, wp_sAsg, wp_eDisp]
        have z0 : 0 ≤ sizeLine := by decide
        have kk : (([(D.str "for", D.int 0), (D.str "back", D.int 0)]).all fun p => isKey p.1) = true := rfl
        simp only [wp_pCons, wp_pNil, wp_eC, get_last, set_last, merge2, kk, List.length_cons, List.length_nil, put_nm, List.set_cons_zero, List.set_cons_succ]
        refine ⟨⟨trivial, by omega, trivial⟩, ?_⟩
        rw [wp_sSeq, wp_sAsg, wp_eLstO, wp_aNil]
        refine ⟨z0, ?_⟩
        have T := top8_ok (h := h1) (k := k) (x0 := some (.str x)) (x := kd) (tl := tl) (w := w) hw htl hb hr
        have eH : rH h1 ([], 0, 0) = h1 ++ [.dct false [(.str "for", .int 0), (.str "back", .int 0)]] ++ [.lst []] := by unfold rH dcO; simp
        rw [eH] at T
        simp only [put_nm, List.length_append, List.length_cons, List.length_nil, List.set_cons_zero, List.set_cons_succ]
        refine Wp.imp T ?_ ?_
        · rintro _ h' ⟨q, u, rfl, rfl, rfl⟩
          exact ⟨q, u, rfl, rfl, rfl⟩
        · rintro c h' q
          exact q
end
end PyD.K02

namespace PyD.K02
open PySem PySem.Spec L2 PyD
open PyProof.Rows hiding St
open PyD (Env Pat)
section
variable {h u t : AH} {env : Env} {k : Nat} {a b m : Int}
/-! what a threshold tells is read again; wild texts are refused -/
theorem num_all : ((List.range 60).all fun i => numOk (strI (i : Int)) && (decide (numV (strI (i : Int)) = some (i : Int)) && decide (32 ∉ (strI (i : Int)).cps.toList))) = true := by decide +kernel
theorem num_small {i : Int} (h0 : 0 ≤ i) (h1 : i < 60) : numOk (strI i) = true ∧ numV (strI i) = some i ∧ 32 ∉ (strI i).cps.toList := by
  have := List.all_eq_true.mp num_all i.toNat (List.mem_range.mpr (by omega))
  rw [show ((i.toNat : Nat) : Int) = i by omega] at this
  simp only [Bool.and_eq_true, decide_eq_true_eq] at this
  exact ⟨this.1, this.2.1, this.2.2⟩
variable {r : Rw}
theorem OkW.hi_60 (o : OkW r) : 0 ≤ r.hi ∧ r.hi < 60 := by
  by_cases z : r.k = .ou
  · have := o.ou z; have := o.lo; have := o.ba; omega
  · have := o.hi z; have := o.lo; omega
def w1 (r : Rw) : List Str := if 0 < r.ba then ["back", strI r.ba] else []
def w2 (r : Rw) : List Str := if 0 < r.mi then "for" :: strI r.mi :: w1 r else w1 r
def w3 (r : Rw) : List Str := if r.k = .ou then strI r.hi :: w2 r else w2 r
def wsR (r : Rw) : List Str := kS r.k :: strI r.lo :: w3 r
theorem wsR_join (r : Rw) : Str.join (" " : Str) (wsR r) = txtR r := by
  have f1 : (" for " : Str).cps.toList = (" " : Str).cps.toList ++ (("for" : Str).cps.toList ++ (" " : Str).cps.toList) := rfl
  have f2 : (" back " : Str).cps.toList = (" " : Str).cps.toList ++ (("back" : Str).cps.toList ++ (" " : Str).cps.toList) := rfl
  have f3 : ("" : Str).cps.toList = [] := rfl
  have one : ∀ x : Str, Str.join (" " : Str) [x] = x := fun _ => rfl
  apply str_ext
  unfold wsR w3 w2 w1 txtR partS
  by_cases z1 : r.k = .ou <;> by_cases z2 : 0 < r.mi <;> by_cases z3 : 0 < r.ba <;> simp only [z1, z2, z3, if_true, if_false, join_cons, one, toL_app, f1, f2, f3, List.append_assoc, List.append_nil]
theorem wsR_free (o : OkW r) : ∀ w ∈ wsR r, 32 ∉ w.cps.toList := by
  have a1 := (num_small (i := r.lo) o.lo.1 (by have := o.lo; omega)).2.2
  have a2 := (num_small o.hi_60.1 o.hi_60.2).2.2
  have a3 := (num_small (i := r.mi) o.mi.1 (by have := o.mi; omega)).2.2
  have a4 := (num_small (i := r.ba) o.ba.1 (by have := o.ba; omega)).2.2
  have a5 : 32 ∉ (kS r.k).cps.toList := by cases r.k <;> decide
  have a6 : 32 ∉ ("for" : Str).cps.toList := by decide
  have a7 : 32 ∉ ("back" : Str).cps.toList := by decide
  have b1 : ∀ w ∈ w1 r, 32 ∉ w.cps.toList := by
    unfold w1
    split
    · simp only [List.forall_mem_cons]; exact ⟨a7, a4, by simp⟩
    · simp
  have b2 : ∀ w ∈ w2 r, 32 ∉ w.cps.toList := by
    unfold w2
    split
    · simp only [List.forall_mem_cons]; exact ⟨a6, a3, b1⟩
    · exact b1
  have b3 : ∀ w ∈ w3 r, 32 ∉ w.cps.toList := by
    unfold w3
    split
    · simp only [List.forall_mem_cons]; exact ⟨a2, b2⟩
    · exact b2
  unfold wsR
  simp only [List.forall_mem_cons]
  exact ⟨a5, a1, b3⟩
theorem split_R (o : OkW r) : Txt.split (txtR r) " " = wsR r := split_of (c := 32) (by simp [wsR]) (wsR_free o) (wsR_join r)
theorem txtR_len (o : OkW r) : (txtR r).length ≤ 1000 := by
  have l0 := kS_len r.k
  have l1 := strI_small (i := r.lo) o.lo.1 (by have := o.lo; omega)
  have s1 : (" " : Str).length = 1 := rfl
  have s2 : (" for " : Str).length = 5 := rfl
  have s3 : (" back " : Str).length = 6 := rfl
  have p1 := part_len (c := r.k = .ou) (x := " ") (by rw [s1]; omega) o.hi_lt.1 o.hi_lt.2
  have p2 := part_len (c := 0 < r.mi) (x := " for ") (by rw [s2]; omega) (i := r.mi) o.mi.1 (by have := o.mi; omega)
  have p3 := part_len (c := 0 < r.ba) (x := " back ") (by rw [s3]; omega) (i := r.ba) o.ba.1 (by have := o.ba; omega)
  unfold txtR
  simp only [length_append]
  omega
theorem wsR_ok (o : OkW r) : ((wsR r).all fun z => sOk z) = true ∧ (wsR r).length ≤ 100 := by
  have a0 := kS_ok r.k
  have a1 := (strI_small (i := r.lo) o.lo.1 (by have := o.lo; omega)).1
  have a2 := (strI_small o.hi_lt.1 o.hi_lt.2).1
  have a3 := (strI_small (i := r.mi) o.mi.1 (by have := o.mi; omega)).1
  have a4 := (strI_small (i := r.ba) o.ba.1 (by have := o.ba; omega)).1
  have a5 : sOk "for" = true := by decide +kernel
  have a6 : sOk "back" = true := by decide +kernel
  have b1 : ((w1 r).all fun z => sOk z) = true ∧ (w1 r).length ≤ 2 := by
    unfold w1
    split <;> simp [a4, a6]
  have b2 : ((w2 r).all fun z => sOk z) = true ∧ (w2 r).length ≤ 4 := by
    unfold w2
    split
    · rw [List.all_cons, List.all_cons, a5, a3, b1.1]; simp; omega
    · exact ⟨b1.1, by omega⟩
  have b3 : ((w3 r).all fun z => sOk z) = true ∧ (w3 r).length ≤ 5 := by
    unfold w3
    split
    · rw [List.all_cons, a2, b2.1]; simp; omega
    · exact ⟨b2.1, by omega⟩
  unfold wsR
  rw [List.all_cons, List.all_cons, a0, a1, b3.1]
  simp; omega
theorem kd_kS (x : Kd) : kdOf (kS x) = some x := by cases x <;> rfl
theorem rd_w2 (o : OkW r) : ∃ seen, rdAll (chunk (w2 r)) ([], 0, 0) = some (some (seen, r.mi, r.ba)) := by
  have n3 := num_small (i := r.mi) o.mi.1 (by have := o.mi; omega)
  have n4 := num_small (i := r.ba) o.ba.1 (by have := o.ba; omega)
  have c1 : (("for" : Str) == ("for" : Str)) = true := by decide
  have c2 : (("back" : Str) == ("back" : Str)) = true := by decide
  have c3 : (("for" : Str) == ("back" : Str)) = false := by decide
  have c4 : (("back" : Str) == ("for" : Str)) = false := by decide
  have m := o.mi
  have b := o.ba
  unfold w2 w1
  by_cases z2 : 0 < r.mi <;> by_cases z3 : 0 < r.ba <;> simp only [z2, z3, if_true, if_false, chunk, rdAll, rdStep, c1, c2, c3, c4, n3.1, n3.2.1, n4.1, n4.2.1, Bool.true_or, Bool.or_true, Bool.not_true, Bool.false_or, List.contains_nil, List.contains_cons, Bool.or_false, Bool.false_and, Bool.and_false, Bool.true_and, List.isEmpty_nil, List.nil_append, List.isEmpty_cons, Bool.not_false, Bool.false_eq_true]
  · exact ⟨_, rfl⟩
  · have : r.ba = 0 := by omega
    rw [this]; exact ⟨_, rfl⟩
  · have : r.mi = 0 := by omega
    rw [this]; exact ⟨_, rfl⟩
  · have h1 : r.ba = 0 := by omega
    have h2 : r.mi = 0 := by omega
    rw [h1, h2]; exact ⟨_, rfl⟩
theorem readT_R (o : OkW r) : readT (txtR r) = some (some r) := by
  obtain ⟨g1, g2⟩ := wsR_ok o
  have g0 := txtR_len o
  unfold readT
  rw [split_R o, if_pos ⟨g0, g1, g2⟩]
  unfold wsR
  dsimp only
  rw [kd_kS]
  dsimp only
  have n1 := num_small (i := r.lo) o.lo.1 (by have := o.lo; omega)
  have n2 := num_small o.hi_60.1 o.hi_60.2
  obtain ⟨seen, hs⟩ := rd_w2 o
  have mk : mkOk r.k r.lo r.hi r.mi r.ba = true := by
    unfold mkOk
    have := o.le
    have := o.mi
    have := o.ba
    by_cases z : r.k = .ou
    · have := o.ou z
      simp [z]; omega
    · have := o.hi z
      simp [z]; omega
  unfold readW w3 manyOf
  by_cases z : r.k = .ou
  · simp only [z, if_true, List.take_succ_cons, List.take_zero, List.drop_succ_cons, List.drop_zero, List.any_cons, List.any_nil, n1.1, n2.1, Bool.not_true, Bool.or_false, List.length_cons, List.length_nil, List.headD_cons, List.getLastD_cons, List.getLastD_nil, hs]
    simp only [Nat.zero_add, Nat.reduceAdd, Nat.lt_irrefl, decide_false, Bool.false_eq_true, if_false, n1.2.1, n2.2.1]
    rw [z] at mk
    rw [if_pos mk, ← z]
  · have hh := o.hi z
    simp only [z, if_false, List.take_succ_cons, List.take_zero, List.drop_succ_cons, List.drop_zero, List.any_cons, List.any_nil, n1.1, Bool.not_true, Bool.or_false, List.length_cons, List.length_nil, List.headD_cons, List.getLastD_cons, List.getLastD_nil, hs]
    simp only [Nat.zero_add, Nat.reduceAdd, Nat.lt_irrefl, decide_false, Bool.false_eq_true, if_false, n1.2.1]
    rw [← hh, if_pos (by rw [hh] at mk ⊢; exact hh ▸ mk)]
    have : (⟨r.k, r.hi, r.hi, r.mi, r.ba⟩ : Rw) = r := by
      cases r
      dsimp only at hh ⊢
      rw [hh]
    rw [this]
def wildL : List Str := ["", "odd 5", "above", "above x", "above 5 for", "above 5 back 1 for 2", "above 5 for 1 for 2", "outside 5", "outside 9 5", "above 5 odd 1", "below 5 back -1", "outside 1 2 back 3"]
theorem wild_none : (wildL.all fun x => match readT x with
    | some none => true
    | _ => false) = true := by decide +kernel
theorem wild_ok {x : Str} (hx : x ∈ wildL) : readT x = some none := by
  have := List.all_eq_true.mp wild_none x hx
  split at this
  · assumption
  · cases this
end
end PyD.K02

namespace PyD.K02
open PySem PySem.Spec L2 PyD
open PyProof.Rows hiding St
open PyD (Env Pat)
section
variable {h u t : AH} {env : Env} {k : Nat} {a b m : Int}
variable {n : Nat} {r : Rw}
theorem okD_run (q : Run) (n : Nat) (hn : 0 < n) : okD n (runD q) = true := by
  obtain ⟨s, f, c⟩ := q
  have : ∀ x : Option Int, okD (n - 1) (oD x) = true := fun x => by cases x <;> simp [oD, okD]
  simp only [runD, okD, okDs, this, Bool.and_true, decide_eq_true_eq]
  exact hn
theorem okDs_runs (R : List Run) (n : Nat) (hn : 0 < n) : okDs n (R.map runD) = true := okDs_map fun q _ => okD_run q n hn
theorem opEq_nilT {xs : List D} (o : okDs 50 xs = true) : opEq h (.tup xs) (.tup []) = some (.bl xs.isEmpty) := by
  obtain ⟨ps, h1, h2, h3⟩ := pyds_ok xs 50 o
  have e1 : py h (.tup xs) = some (.tuple ps) := by simp only [py, pyD, h1]; rfl
  have e2 : py h (.tup []) = some (.tuple []) := rfl
  have hd : min (PyData.tuple ps).depth (PyData.tuple []).depth ≤ 60 := by simp [PyData.depth, PyData.depthAll]
  simp only [opEq, e1, e2, eqvIf, hd, if_true, Option.map]
  have hl := h1 fun _ => none
  cases xs with
  | nil => cases hl; rfl
  | cons x r =>
    simp only [pyDs] at hl
    split at hl
    · cases hl; rfl
    · cases hl
theorem isn_o (x : Option Int) : opIsNot h (oD x) .non = some (.bl x.isSome) := by cases x <;> rfl
theorem is_o (x : Option Int) : opIs h (oD x) .non = some (.bl (!x.isSome)) := by cases x <;> rfl
theorem ix_run1 (q : Run) : ixD h (runD q) (.int 1) = some (oD q.2.1) := rfl
theorem ix_run2 (q : Run) : ixD h (runD q) (.int 2) = some (oD q.2.2) := rfl
def stF (R : List Run) : Str := if R.isEmpty = true then "ok" else if (R.getLastD (0, none, none)).2.2.isSome = true then "ok" else if (R.getLastD (0, none, none)).2.1.isSome = true then "firing" else "pending"
theorem rise_filter {rows : List Pr} (hr : Rise rows) (p : Pr → Bool) : Rise (rows.filter p) := List.Pairwise.filter _ hr
def upto (stamp : Int) (rows : List Pr) : List Pr := rows.filter fun q => decide (q.1 ≤ stamp)
theorem upto_len (stamp : Int) (rows : List Pr) : (upto stamp rows).length ≤ rows.length := List.length_filter_le _ _
theorem state_ok {rows : List Pr} {stamp : Int} (hr : Rise rows) (hn : rows.length ≤ 100) (e : h[n]? = some (rwO r)) :
    Wp (run (k+3) 5 [.obj n, .lst (rows.map pD), .int stamp]) h (fun d h' => d = .str (stF (runs r (upto stamp rows))) ∧ ∃ u, h' = h ++ u) (fun _ _ => False) := by
  show Wp (runB 5 (b_5 (run (k+2))) _) _ _ _
  have e0 : startE 5 [D.obj n, .lst (rows.map pD), .int stamp] = [some (.obj n), some (.lst (rows.map pD)), some (.int stamp), none, none] := rfl
  have hl := upto_len stamp rows
  simp only [wp_runB, wp_sSeq, wp_sIf, bT, wp_toB, wp_eOp, wp_eVar, wp_eC, wp_sRaise, wp_sNil, wp_sAsg, wp_sPar, wp_sPar3, wp_sRet, wp_sExpr, wp_sSub, wp_sSetF, wp_eLc, wp_iSeq, wp_iRange, wp_eFld, wp_eIx, wp_eTup, wp_eLst, wp_eIf, wp_eAnd, wp_eOr, wp_eNot, wp_bNot, wp_bAnd, wp_bOr, wp_aCons, wp_aNil, wp_eCall, wp_eFun, wp_eMeth, wp_arity, wp_eNeg, wp_eChain, List.getElem?_cons_zero, List.getElem?_cons_succ, List.set_cons_zero, List.set_cons_succ, List.length_cons, List.length_nil, put_nm, opCmp_int, opAdd_int, opSub_int, opEq_int, opInt_int, decide_true, decide_false, Bool.false_eq_true, if_false, if_true, true_and, and_true, List.map_cons, List.map_nil, Nat.zero_add, Nat.reduceAdd, b_5, e0, wp_eMeth, ins_ok e (m := "runs_of") (by decide +kernel), wp_bnd, wp_eGx, src_lst]
  refine ⟨by rw [List.length_map, sizeLine_eq]; omega, ?_⟩
  rw [wp_eq (gxGo_map (γ := Pr) pD (fun q => decide (q.1 ≤ stamp)) pD rfl (fun q _ => ⟨_, put_nm _ _ _, Wp.eq ?_, fun _ => Wp.eq ?_⟩))]
  · rw [wp_kTup]
    refine ⟨by rw [List.length_map, sizeLine_eq]; unfold upto at hl; omega, ?_⟩
    refine Wp.impQ (runs_ok (k := k) (l := false) (rise_filter hr _) (by unfold upto at hl; omega) e) ?_
    rintro _ _ ⟨rfl, u, rfl⟩
    refine ⟨by decide, ?_⟩
    have ee : runs r (rows.filter fun q => decide (q.1 ≤ stamp)) = runs r (upto stamp rows) := rfl
    rw [ee]
    generalize runs r (upto stamp rows) = R
    have il : R ≠ [] → ixD (h ++ u) (.tup (R.map runD)) (.int (-1)) = some (runD (R.getLastD (0, none, none))) := fun z => atI_last runD _ R z
    simp only [wp_runB, wp_sSeq, wp_sIf, bT, wp_toB, wp_eOp, wp_eVar, wp_eC, wp_sRaise, wp_sNil, wp_sAsg, wp_sPar, wp_sPar3, wp_sRet, wp_sExpr, wp_sSub, wp_sSetF, wp_eLc, wp_iSeq, wp_iRange, wp_eFld, wp_eIx, wp_eTup, wp_eLst, wp_eIf, wp_eAnd, wp_eOr, wp_eNot, wp_bNot, wp_bAnd, wp_bOr, wp_aCons, wp_aNil, wp_eCall, wp_eFun, wp_eMeth, wp_arity, wp_eNeg, wp_eChain, List.getElem?_cons_zero, List.getElem?_cons_succ, List.set_cons_zero, List.set_cons_succ, List.length_cons, List.length_nil, put_nm, opCmp_int, opAdd_int, opSub_int, opEq_int, opInt_int, decide_true, decide_false, Bool.false_eq_true, if_false, if_true, true_and, and_true, List.map_cons, List.map_nil, Nat.zero_add, Nat.reduceAdd, opEq_nilT (okDs_runs R 50 (by omega)), List.isEmpty_map, wp_eNeg]
    cases R with
    | nil =>
      simp only [List.isEmpty_nil, if_true, stF]
      exact ⟨trivial, u, rfl⟩
    | cons x R =>
      have il := il (by simp)
      unfold stF
      generalize (x :: R).getLastD (0, none, none) = q at *
      rw [List.map_cons] at il
      simp only [List.isEmpty_cons, Bool.false_eq_true, if_false]
      simp only [wp_runB, wp_sSeq, wp_sIf, bT, wp_toB, wp_eOp, wp_eVar, wp_eC, wp_sRaise, wp_sNil, wp_sAsg, wp_sPar, wp_sPar3, wp_sRet, wp_sExpr, wp_sSub, wp_sSetF, wp_eLc, wp_iSeq, wp_iRange, wp_eFld, wp_eIx, wp_eTup, wp_eLst, wp_eIf, wp_eAnd, wp_eOr, wp_eNot, wp_bNot, wp_bAnd, wp_bOr, wp_aCons, wp_aNil, wp_eCall, wp_eFun, wp_eMeth, wp_arity, wp_eNeg, wp_eChain, List.getElem?_cons_zero, List.getElem?_cons_succ, List.set_cons_zero, List.set_cons_succ, List.length_cons, List.length_nil, put_nm, opCmp_int, opAdd_int, opSub_int, opEq_int, opInt_int, decide_true, decide_false, Bool.false_eq_true, if_false, if_true, true_and, and_true, List.map_cons, List.map_nil, Nat.zero_add, Nat.reduceAdd, il, ix_run2, isn_o, wp_eNeg]
      cases c1 : q.2.2.isSome with
      | true =>
        simp only [if_true]
        exact ⟨trivial, u, rfl⟩
      | false =>
        simp only [Bool.false_eq_true, if_false]
        simp only [wp_runB, wp_sSeq, wp_sIf, bT, wp_toB, wp_eOp, wp_eVar, wp_eC, wp_sRaise, wp_sNil, wp_sAsg, wp_sPar, wp_sPar3, wp_sRet, wp_sExpr, wp_sSub, wp_sSetF, wp_eLc, wp_iSeq, wp_iRange, wp_eFld, wp_eIx, wp_eTup, wp_eLst, wp_eIf, wp_eAnd, wp_eOr, wp_eNot, wp_bNot, wp_bAnd, wp_bOr, wp_aCons, wp_aNil, wp_eCall, wp_eFun, wp_eMeth, wp_arity, wp_eNeg, wp_eChain, List.getElem?_cons_zero, List.getElem?_cons_succ, List.set_cons_zero, List.set_cons_succ, List.length_cons, List.length_nil, put_nm, opCmp_int, opAdd_int, opSub_int, opEq_int, opInt_int, decide_true, decide_false, Bool.false_eq_true, if_false, if_true, true_and, and_true, List.map_cons, List.map_nil, Nat.zero_add, Nat.reduceAdd, il, ix_run1, isn_o, wp_eNeg]
        cases c2 : q.2.1.isSome with
        | true => simp only [if_true]; exact ⟨trivial, u, rfl⟩
        | false => simp only [Bool.false_eq_true, if_false]; exact ⟨trivial, u, rfl⟩
  · have i0 : ixD h (pD q) (.int 0) = some (.int q.1) := rfl
    simp only [wp_runB, wp_sSeq, wp_sIf, bT, wp_toB, wp_eOp, wp_eVar, wp_eC, wp_sRaise, wp_sNil, wp_sAsg, wp_sPar, wp_sPar3, wp_sRet, wp_sExpr, wp_sSub, wp_sSetF, wp_eLc, wp_iSeq, wp_iRange, wp_eFld, wp_eIx, wp_eTup, wp_eLst, wp_eIf, wp_eAnd, wp_eOr, wp_eNot, wp_bNot, wp_bAnd, wp_bOr, wp_aCons, wp_aNil, wp_eCall, wp_eFun, wp_eMeth, wp_arity, wp_eNeg, wp_eChain, List.getElem?_cons_zero, List.getElem?_cons_succ, List.set_cons_zero, List.set_cons_succ, List.length_cons, List.length_nil, put_nm, opCmp_int, opAdd_int, opSub_int, opEq_int, opInt_int, decide_true, decide_false, Bool.false_eq_true, if_false, if_true, true_and, and_true, List.map_cons, List.map_nil, Nat.zero_add, Nat.reduceAdd, i0]
    all_goals first | trivial | exact ⟨rfl, trivial⟩ | exact ⟨rfl, rfl⟩
  · simp only [wp_runB, wp_sSeq, wp_sIf, bT, wp_toB, wp_eOp, wp_eVar, wp_eC, wp_sRaise, wp_sNil, wp_sAsg, wp_sPar, wp_sPar3, wp_sRet, wp_sExpr, wp_sSub, wp_sSetF, wp_eLc, wp_iSeq, wp_iRange, wp_eFld, wp_eIx, wp_eTup, wp_eLst, wp_eIf, wp_eAnd, wp_eOr, wp_eNot, wp_bNot, wp_bAnd, wp_bOr, wp_aCons, wp_aNil, wp_eCall, wp_eFun, wp_eMeth, wp_arity, wp_eNeg, wp_eChain, List.getElem?_cons_zero, List.getElem?_cons_succ, List.set_cons_zero, List.set_cons_succ, List.length_cons, List.length_nil, put_nm, opCmp_int, opAdd_int, opSub_int, opEq_int, opInt_int, decide_true, decide_false, Bool.false_eq_true, if_false, if_true, true_and, and_true, List.map_cons, List.map_nil, Nat.zero_add, Nat.reduceAdd]
    all_goals first | trivial | exact ⟨rfl, trivial⟩ | exact ⟨rfl, rfl⟩
/-! minutes fired -/
def fp (q : Run) : Bool := q.2.1.isSome
def fg (last : Int) (q : Run) : Int := q.2.2.getD last - q.2.1.getD 0
def firedF (last : Int) (R : List Run) : Int := ((R.filter fp).map (fg last)).sum
theorem put_run {i j l : Nat} {q : Run} {env : Env} : (Pat.tp [.nm i, .nm j, .nm l]).put (runD q) env = some (((env.set i (some (.int q.1))).set j (some (oD q.2.1))).set l (some (oD q.2.2))) := rfl
theorem fg_ok {q : Run} {last : Int} (hq : fp q = true) {Q : D → Prop} : (if (q.2.2.isSome) = true then (match opSub h (oD q.2.2) (oD q.2.1) with | some d => Q d | none => False) else (match opSub h (.int last) (oD q.2.1) with | some d => Q d | none => False)) = Q (.int (fg last q)) := by
  obtain ⟨s, f, c⟩ := q
  cases f with
  | none => cases hq
  | some f => cases c <;> rfl
theorem minutes_ok {rows : List Pr} {last : Int} (hr : Rise rows) (hn : rows.length ≤ 100) (hla : ∀ q ∈ rows, q.1 ≤ last) (e : h[n]? = some (rwO r)) :
    Wp (run (k+3) 10 [.obj n, .lst (rows.map pD), .int last]) h (fun d h' => d = .int (firedF last (runs r rows)) ∧ ∃ u, h' = h ++ u) (fun _ _ => False) := by
  show Wp (runB 7 (b_10 (run (k+2))) _) _ _ _
  have e0 : startE 7 [D.obj n, .lst (rows.map pD), .int last] = [some (.obj n), some (.lst (rows.map pD)), some (.int last), none, none, none, none] := rfl
  have ol : opLen h [.lst (rows.map pD)] = some (.int rows.length) := by rw [opLen_lst, List.length_map]
  rw [wp_runB, e0]
  unfold b_10
  rw [wp_sSeq]
  have p1 : ∀ {Q : Fl → AH → Prop} {E}, Wp (sIf (bAnd (bT (eOp opGt (eCall opLen (aCons (eVar 1) (aNil))) (eC (.int 0)))) (bT (eOp opLt (eVar 2) (eIx (eIx (eVar 1) (eNeg (eC (.int 1)))) (eC (.int 0)))))) (sRaise 1) (sNil) [some (.obj n), some (.lst (rows.map pD)), some (.int last), none, none, none, none]) h Q E = Q (.nx [some (.obj n), some (.lst (rows.map pD)), some (.int last), none, none, none, none]) h := fun {Q E} => by
    simp only [wp_runB, wp_sSeq, wp_sIf, bT, wp_toB, wp_eOp, wp_eVar, wp_eC, wp_sRaise, wp_sNil, wp_sAsg, wp_sPar, wp_sPar3, wp_sRet, wp_sExpr, wp_sSub, wp_sSetF, wp_eLc, wp_iSeq, wp_iRange, wp_eFld, wp_eIx, wp_eTup, wp_eLst, wp_eIf, wp_eAnd, wp_eOr, wp_eNot, wp_bNot, wp_bAnd, wp_bOr, wp_aCons, wp_aNil, wp_eCall, wp_eFun, wp_eMeth, wp_arity, wp_eNeg, wp_eChain, List.getElem?_cons_zero, List.getElem?_cons_succ, List.set_cons_zero, List.set_cons_succ, List.length_cons, List.length_nil, put_nm, opCmp_int, opAdd_int, opSub_int, opEq_int, opInt_int, decide_true, decide_false, Bool.false_eq_true, if_false, if_true, true_and, and_true, List.map_cons, List.map_nil, Nat.zero_add, Nat.reduceAdd, wp_eCall, ol, wp_eNeg]
    cases rows with
    | nil => rfl
    | cons x rows =>
      have il : ixD h (.lst ((x :: rows).map pD)) (.int (-1)) = some (pD ((x :: rows).getLastD (0, 0))) := atI_last pD _ _ (by simp)
      rw [List.map_cons] at il
      have hm : (x :: rows).getLastD (0, 0) ∈ x :: rows := by
        rw [List.getLastD_eq_getLast?, List.getLast?_eq_some_getLast (by simp)]
        exact List.getLast_mem _
      have hm2 := hla _ hm
      generalize (x :: rows).getLastD (0, 0) = q at *
      have i0 : ixD h (pD q) (.int 0) = some (.int q.1) := rfl
      have y : ¬ last < q.1 := by omega
      simp only [wp_runB, wp_sSeq, wp_sIf, bT, wp_toB, wp_eOp, wp_eVar, wp_eC, wp_sRaise, wp_sNil, wp_sAsg, wp_sPar, wp_sPar3, wp_sRet, wp_sExpr, wp_sSub, wp_sSetF, wp_eLc, wp_iSeq, wp_iRange, wp_eFld, wp_eIx, wp_eTup, wp_eLst, wp_eIf, wp_eAnd, wp_eOr, wp_eNot, wp_bNot, wp_bAnd, wp_bOr, wp_aCons, wp_aNil, wp_eCall, wp_eFun, wp_eMeth, wp_arity, wp_eNeg, wp_eChain, List.getElem?_cons_zero, List.getElem?_cons_succ, List.set_cons_zero, List.set_cons_succ, List.length_cons, List.length_nil, put_nm, opCmp_int, opAdd_int, opSub_int, opEq_int, opInt_int, decide_true, decide_false, Bool.false_eq_true, if_false, if_true, true_and, and_true, List.map_cons, List.map_nil, Nat.zero_add, Nat.reduceAdd, il, i0, y]
      simp
  rw [p1]
  dsimp only
  simp only [wp_runB, wp_sSeq, wp_sIf, bT, wp_toB, wp_eOp, wp_eVar, wp_eC, wp_sRaise, wp_sNil, wp_sAsg, wp_sPar, wp_sPar3, wp_sRet, wp_sExpr, wp_sSub, wp_sSetF, wp_eLc, wp_iSeq, wp_iRange, wp_eFld, wp_eIx, wp_eTup, wp_eLst, wp_eIf, wp_eAnd, wp_eOr, wp_eNot, wp_bNot, wp_bAnd, wp_bOr, wp_aCons, wp_aNil, wp_eCall, wp_eFun, wp_eMeth, wp_arity, wp_eNeg, wp_eChain, List.getElem?_cons_zero, List.getElem?_cons_succ, List.set_cons_zero, List.set_cons_succ, List.length_cons, List.length_nil, put_nm, opCmp_int, opAdd_int, opSub_int, opEq_int, opInt_int, decide_true, decide_false, Bool.false_eq_true, if_false, if_true, true_and, and_true, List.map_cons, List.map_nil, Nat.zero_add, Nat.reduceAdd, wp_sFor, wp_eMeth, ins_ok e (m := "runs_of") (by decide +kernel), wp_arity]
  refine Wp.impQ (runs_ok (k := k) (l := true) hr hn e) ?_
  rintro _ _ ⟨rfl, u, rfl⟩
  simp only [src_tup]
  generalize runs r rows = R
  refine Wp.impQ (wp_forAll (γ := Run) runD R (fun p env' h' => h' = h ++ u ∧ ∃ x4 x5 x6, env' = [some (.obj n), some (.lst (rows.map pD)), some (.int last), some (.int (firedF last p)), x4, x5, x6]) ?_ ⟨rfl, _, _, _, rfl⟩) ?_
  · rintro p q s env' h' hp ⟨rfl, x4, x5, x6, rfl⟩
    refine ⟨_, put_run, ?_⟩
    simp only [wp_runB, wp_sSeq, wp_sIf, bT, wp_toB, wp_eOp, wp_eVar, wp_eC, wp_sRaise, wp_sNil, wp_sAsg, wp_sPar, wp_sPar3, wp_sRet, wp_sExpr, wp_sSub, wp_sSetF, wp_eLc, wp_iSeq, wp_iRange, wp_eFld, wp_eIx, wp_eTup, wp_eLst, wp_eIf, wp_eAnd, wp_eOr, wp_eNot, wp_bNot, wp_bAnd, wp_bOr, wp_aCons, wp_aNil, wp_eCall, wp_eFun, wp_eMeth, wp_arity, wp_eNeg, wp_eChain, List.getElem?_cons_zero, List.getElem?_cons_succ, List.set_cons_zero, List.set_cons_succ, List.length_cons, List.length_nil, put_nm, opCmp_int, opAdd_int, opSub_int, opEq_int, opInt_int, decide_true, decide_false, Bool.false_eq_true, if_false, if_true, true_and, and_true, List.map_cons, List.map_nil, Nat.zero_add, Nat.reduceAdd, isn_o]
    have ap : firedF last (p ++ [q]) = firedF last p + (if fp q = true then fg last q else 0) := by
      unfold firedF
      rw [List.filter_append, List.map_append, List.sum_append]
      congr 1
      cases c : fp q <;> simp [c]
    rw [ap]
    by_cases c : fp q = true
    · have c' : q.2.1.isSome = true := c
      rw [if_pos c', if_pos c, wp_sAug]
      obtain ⟨s0, f0, c0⟩ := q
      cases f0 with
      | none => cases c
      | some f0 =>
        cases c0 with
        | none =>
          simp only [wp_runB, wp_sSeq, wp_sIf, bT, wp_toB, wp_eOp, wp_eVar, wp_eC, wp_sRaise, wp_sNil, wp_sAsg, wp_sPar, wp_sPar3, wp_sRet, wp_sExpr, wp_sSub, wp_sSetF, wp_eLc, wp_iSeq, wp_iRange, wp_eFld, wp_eIx, wp_eTup, wp_eLst, wp_eIf, wp_eAnd, wp_eOr, wp_eNot, wp_bNot, wp_bAnd, wp_bOr, wp_aCons, wp_aNil, wp_eCall, wp_eFun, wp_eMeth, wp_arity, wp_eNeg, wp_eChain, List.getElem?_cons_zero, List.getElem?_cons_succ, List.set_cons_zero, List.set_cons_succ, List.length_cons, List.length_nil, put_nm, opCmp_int, opAdd_int, opSub_int, opEq_int, opInt_int, decide_true, decide_false, Bool.false_eq_true, if_false, if_true, true_and, and_true, List.map_cons, List.map_nil, Nat.zero_add, Nat.reduceAdd, oD, isn_nn, isn_in, augD]
          exact ⟨_, .inl rfl, _, _, _, rfl⟩
        | some c0 =>
          simp only [wp_runB, wp_sSeq, wp_sIf, bT, wp_toB, wp_eOp, wp_eVar, wp_eC, wp_sRaise, wp_sNil, wp_sAsg, wp_sPar, wp_sPar3, wp_sRet, wp_sExpr, wp_sSub, wp_sSetF, wp_eLc, wp_iSeq, wp_iRange, wp_eFld, wp_eIx, wp_eTup, wp_eLst, wp_eIf, wp_eAnd, wp_eOr, wp_eNot, wp_bNot, wp_bAnd, wp_bOr, wp_aCons, wp_aNil, wp_eCall, wp_eFun, wp_eMeth, wp_arity, wp_eNeg, wp_eChain, List.getElem?_cons_zero, List.getElem?_cons_succ, List.set_cons_zero, List.set_cons_succ, List.length_cons, List.length_nil, put_nm, opCmp_int, opAdd_int, opSub_int, opEq_int, opInt_int, decide_true, decide_false, Bool.false_eq_true, if_false, if_true, true_and, and_true, List.map_cons, List.map_nil, Nat.zero_add, Nat.reduceAdd, oD, isn_nn, isn_in, augD]
          exact ⟨_, .inl rfl, _, _, _, rfl⟩
    · have c' : ¬ q.2.1.isSome = true := c
      rw [if_neg c', if_neg c]
      rw [Int.add_zero]
      exact ⟨_, .inl rfl, _, _, _, rfl⟩
  · rintro _ h' ⟨env', rfl, rfl, x4, x5, x6, rfl⟩
    simp only [wp_runB, wp_sSeq, wp_sIf, bT, wp_toB, wp_eOp, wp_eVar, wp_eC, wp_sRaise, wp_sNil, wp_sAsg, wp_sPar, wp_sPar3, wp_sRet, wp_sExpr, wp_sSub, wp_sSetF, wp_eLc, wp_iSeq, wp_iRange, wp_eFld, wp_eIx, wp_eTup, wp_eLst, wp_eIf, wp_eAnd, wp_eOr, wp_eNot, wp_bNot, wp_bAnd, wp_bOr, wp_aCons, wp_aNil, wp_eCall, wp_eFun, wp_eMeth, wp_arity, wp_eNeg, wp_eChain, List.getElem?_cons_zero, List.getElem?_cons_succ, List.set_cons_zero, List.set_cons_succ, List.length_cons, List.length_nil, put_nm, opCmp_int, opAdd_int, opSub_int, opEq_int, opInt_int, decide_true, decide_false, Bool.false_eq_true, if_false, if_true, true_and, and_true, List.map_cons, List.map_nil, Nat.zero_add, Nat.reduceAdd]
    exact ⟨u, rfl⟩
end
end PyD.K02

namespace PyD.K02
open PySem PySem.Spec L2 PyD
open PyProof.Rows hiding St
open PyD (Env Pat)
section
variable {h u t : AH} {env : Env} {k : Nat} {a b m : Int}
/-! bounds that let no more than so many -/
theorem mn_spec {vs : List Int} (hv : vs ≠ []) : mnI vs ∈ vs ∧ ∀ x ∈ vs, mnI vs ≤ x := by
  obtain ⟨s, t, e, hs, _⟩ := sorted_head hv
  obtain ⟨h1, h2⟩ := head_min (le := leI) (fun a b => by unfold leI; rw [decide_eq_true_eq, decide_eq_true_eq]; omega) (fun a b c => by unfold leI; simp only [decide_eq_true_eq]; omega) vs s t e
  rw [hs] at h1 h2
  exact ⟨h1, fun x hx => by have := h2 x hx; unfold leI at this; exact of_decide_eq_true this⟩
theorem sorted_le {s : List Int} (hs : s.Pairwise (· ≤ ·)) {i j : Nat} {x y : Int} (hij : i ≤ j) (hx : s[i]? = some x) (hy : s[j]? = some y) : x ≤ y := by
  by_cases z : i = j
  · subst z; rw [hx] at hy; cases hy; omega
  · obtain ⟨hi, rfl⟩ := List.getElem?_eq_some_iff.mp hx
    obtain ⟨hj, rfl⟩ := List.getElem?_eq_some_iff.mp hy
    exact List.pairwise_iff_getElem.mp hs i j hi hj (by omega)
theorem mx_spec {vs : List Int} (hv : vs ≠ []) : mxI vs ∈ vs ∧ ∀ x ∈ vs, x ≤ mxI vs := by
  obtain ⟨s, t, e, _, hm⟩ := sorted_head hv
  have hp := isort_perm vs
  have hso := isort_sorted vs
  rw [e] at hp hso
  have hl : (s :: t).getLastD 0 = (s :: t).getLast (by simp) := by rw [List.getLastD_eq_getLast?, List.getLast?_eq_some_getLast (by simp)]; rfl
  have hlast : (s :: t)[t.length]? = some (mxI vs) := by
    rw [← hm, hl, List.getLast_eq_getElem]
    simp
  refine ⟨hp.mem_iff.mp (List.mem_of_getElem? hlast), fun x hx => ?_⟩
  obtain ⟨i, hi⟩ := List.getElem?_of_mem (hp.mem_iff.mpr hx)
  have : i < (s :: t).length := (List.getElem?_eq_some_iff.mp hi).1
  exact sorted_le hso (by simp at this; omega) hi hlast
def cntU (b : Int) (vs : List Int) : Nat := (vs.filter fun v => decide (b < v)).length
def cntD (b : Int) (vs : List Int) : Nat := (vs.filter fun v => decide (v < b)).length
theorem cntU_perm {b : Int} {vs ws : List Int} (p : vs.Perm ws) : cntU b vs = cntU b ws := (p.filter _).length_eq
theorem cntD_perm {b : Int} {vs ws : List Int} (p : vs.Perm ws) : cntD b vs = cntD b ws := (p.filter _).length_eq
theorem split_at {s : List Int} (i : Nat) : s = s.take i ++ s.drop i := (List.take_append_drop i s).symm
theorem mem_take_le {s : List Int} (hs : s.Pairwise (· ≤ ·)) {i : Nat} {x : Int} (hx : s[i]? = some x) : ∀ y ∈ s.take (i + 1), y ≤ x := fun y hy => by
  obtain ⟨j, hj⟩ := List.getElem?_of_mem hy
  rw [List.getElem?_take] at hj
  split at hj
  · exact sorted_le hs (by omega) hj hx
  · cases hj
theorem mem_drop_ge {s : List Int} (hs : s.Pairwise (· ≤ ·)) {i : Nat} {x : Int} (hx : s[i]? = some x) : ∀ y ∈ s.drop i, x ≤ y := fun y hy => by
  obtain ⟨j, hj⟩ := List.getElem?_of_mem hy
  rw [List.getElem?_drop] at hj
  exact sorted_le hs (by omega) hx hj
theorem cntU_le {s : List Int} (hs : s.Pairwise (· ≤ ·)) {i : Nat} {x : Int} (hx : s[i]? = some x) : cntU x s + i + 1 ≤ s.length := by
  have hi := (List.getElem?_eq_some_iff.mp hx).1
  unfold cntU
  conv => lhs; rw [split_at (s := s) (i + 1), List.filter_append, List.length_append]
  have h1 : (s.take (i + 1)).filter (fun v => decide (x < v)) = [] := List.filter_eq_nil_iff.mpr fun y hy => by
    have := mem_take_le hs hx y hy
    simp; omega
  have h2 : ((s.drop (i + 1)).filter (fun v => decide (x < v))).length ≤ s.length - (i + 1) := by
    have := List.length_filter_le (fun v => decide (x < v)) (s.drop (i + 1))
    rw [List.length_drop] at this
    exact this
  rw [h1, List.length_nil]
  omega
theorem cntU_ge {s : List Int} (hs : s.Pairwise (· ≤ ·)) {i : Nat} {x b : Int} (hx : s[i]? = some x) (hb : b < x) : s.length - i ≤ cntU b s := by
  unfold cntU
  conv => rhs; rw [split_at (s := s) i, List.filter_append, List.length_append]
  have h1 : (s.drop i).filter (fun v => decide (b < v)) = s.drop i := List.filter_eq_self.mpr fun y hy => by
    have := mem_drop_ge hs hx y hy
    simp; omega
  rw [h1, List.length_drop]
  omega
theorem cntD_le {s : List Int} (hs : s.Pairwise (· ≤ ·)) {i : Nat} {x : Int} (hx : s[i]? = some x) : cntD x s ≤ i := by
  have hi := (List.getElem?_eq_some_iff.mp hx).1
  unfold cntD
  conv => lhs; rw [split_at (s := s) i, List.filter_append, List.length_append]
  have h1 : (s.drop i).filter (fun v => decide (v < x)) = [] := List.filter_eq_nil_iff.mpr fun y hy => by
    have := mem_drop_ge hs hx y hy
    simp; omega
  have h2 : ((s.take i).filter (fun v => decide (v < x))).length ≤ i := by
    have := List.length_filter_le (fun v => decide (v < x)) (s.take i)
    rw [List.length_take] at this
    omega
  rw [h1, List.length_nil]
  omega
theorem cntD_ge {s : List Int} (hs : s.Pairwise (· ≤ ·)) {i : Nat} {x b : Int} (hx : s[i]? = some x) (hb : x < b) : i + 1 ≤ cntD b s := by
  have hi := (List.getElem?_eq_some_iff.mp hx).1
  unfold cntD
  conv => rhs; rw [split_at (s := s) (i + 1), List.filter_append, List.length_append]
  have h1 : (s.take (i + 1)).filter (fun v => decide (v < b)) = s.take (i + 1) := List.filter_eq_self.mpr fun y hy => by
    have := mem_take_le hs hx y hy
    simp; omega
  rw [h1, List.length_take]
  omega
def bU (most : Int) (vs : List Int) : Int := if most < vs.length then (isort leI vs).getD ((vs.length : Int) - 1 - most).toNat 0 else mnI vs - 1
def bD (most : Int) (vs : List Int) : Int := if most < vs.length then (isort leI vs).getD most.toNat 0 else mxI vs + 1
def ables (vs : List Int) : List Int := isort leI (vs ++ [mnI vs - 1, mxI vs + 1])
theorem mem_ables {vs : List Int} {x : Int} : x ∈ ables vs ↔ x ∈ vs ∨ x = mnI vs - 1 ∨ x = mxI vs + 1 := by
  unfold ables
  rw [(isort_perm _).mem_iff]
  simp
theorem getD_some {s : List Int} {i : Nat} (hi : i < s.length) : s[i]? = some (s.getD i 0) := by
  rw [List.getD_eq_getElem?_getD, List.getElem?_eq_getElem hi]; rfl
theorem bU_ok {most : Int} {vs : List Int} (hv : vs ≠ []) (h0 : 0 ≤ most) : (bU most vs ∈ ables vs ∧ (cntU (bU most vs) vs : Int) ≤ most) ∧ ∀ b ∈ ables vs, (cntU b vs : Int) ≤ most → bU most vs ≤ b := by
  have hp := isort_perm vs
  have hs := isort_sorted vs
  have hl : (isort leI vs).length = vs.length := hp.length_eq
  obtain ⟨m1, m2⟩ := mn_spec hv
  obtain ⟨n1, n2⟩ := mx_spec hv
  unfold bU
  by_cases z : most < vs.length
  · rw [if_pos z]
    have hi : ((vs.length : Int) - 1 - most).toNat < (isort leI vs).length := by omega
    have hx := getD_some hi
    refine ⟨⟨mem_ables.mpr (.inl (hp.mem_iff.mp (List.mem_of_getElem? hx))), ?_⟩, fun b hb hc => ?_⟩
    · rw [← cntU_perm hp]
      have := cntU_le hs hx
      omega
    · apply Decidable.byContradiction
      intro q
      rw [← cntU_perm hp] at hc
      have := cntU_ge hs hx (show b < _ by omega)
      omega
  · rw [if_neg z]
    refine ⟨⟨mem_ables.mpr (.inr (.inl rfl)), ?_⟩, fun b hb _ => ?_⟩
    · have := List.length_filter_le (fun v => decide (mnI vs - 1 < v)) vs
      unfold cntU
      omega
    · rcases mem_ables.mp hb with q | q | q
      · have := m2 b q; omega
      · omega
      · have := m2 _ n1; omega
theorem bD_ok {most : Int} {vs : List Int} (hv : vs ≠ []) (h0 : 0 ≤ most) : (bD most vs ∈ ables vs ∧ (cntD (bD most vs) vs : Int) ≤ most) ∧ ∀ b ∈ ables vs, (cntD b vs : Int) ≤ most → b ≤ bD most vs := by
  have hp := isort_perm vs
  have hs := isort_sorted vs
  have hl : (isort leI vs).length = vs.length := hp.length_eq
  obtain ⟨m1, m2⟩ := mn_spec hv
  obtain ⟨n1, n2⟩ := mx_spec hv
  unfold bD
  by_cases z : most < vs.length
  · rw [if_pos z]
    have hi : most.toNat < (isort leI vs).length := by omega
    have hx := getD_some hi
    refine ⟨⟨mem_ables.mpr (.inl (hp.mem_iff.mp (List.mem_of_getElem? hx))), ?_⟩, fun b hb hc => ?_⟩
    · rw [← cntD_perm hp]
      have := cntD_le hs hx
      omega
    · apply Decidable.byContradiction
      intro q
      rw [← cntD_perm hp] at hc
      have := cntD_ge hs hx (show _ < b by omega)
      omega
  · rw [if_neg z]
    refine ⟨⟨mem_ables.mpr (.inr (.inr rfl)), ?_⟩, fun b hb _ => ?_⟩
    · have := List.length_filter_le (fun v => decide (v < mxI vs + 1)) vs
      unfold cntD
      omega
    · rcases mem_ables.mp hb with q | q | q
      · have := n2 b q; omega
      · have := m2 _ n1; omega
      · omega
end
end PyD.K02

namespace PyD.K02
open PySem PySem.Spec L2 PyD
open PyProof.Rows hiding St
open PyD (Env Pat)
section
variable {h u t : AH} {env : Env} {k : Nat} {a b m : Int}
def bF (x : Kd) (most : Int) (vs : List Int) : Int := if x = .ab then bU most vs else bD most vs
theorem in2k {x : Kd} (hx : x ≠ .ou) : opNotIn h (.str (kS x)) (.tup [.str "above", .str "below"]) = some (.bl false) := by
  cases x
  · rfl
  · rfl
  · exact absurd rfl hx
theorem bound_ok {rows : List Pr} {x : Kd} {most : Int} (hx : x ≠ .ou) (hne : rows ≠ []) (h0 : 0 ≤ most) (hn : rows.length ≤ 100) :
    run (k+1) 11 [.lst (rows.map pD), .str (kS x), .int most] h = .ok (.int (bF x most (rows.map (·.2)))) h := by
  refine Wp.eq ?_
  show Wp (runB 6 (b_11 (run k)) _) _ _ _
  have e0 : startE 6 [D.lst (rows.map pD), .str (kS x), .int most] = [some (.lst (rows.map pD)), some (.str (kS x)), some (.int most), none, none, none] := rfl
  have ol : opLen h [.lst (rows.map pD)] = some (.int rows.length) := by rw [opLen_lst, List.length_map]
  have hp : 0 < rows.length := List.length_pos_iff.mpr hne
  have n0 : (((rows.length : Nat) : Int) == 0) = false := by rw [beq_eq_false_iff_ne]; omega
  have n1 : ¬ most < 0 := by omega
  have z2 : 2 ≤ sizeLine := by decide
  have mp : (rows.filter fun _ => true).map (fun q : Pr => D.int q.2) = (rows.map (·.2)).map D.int := by rw [filter_tt, List.map_map]; rfl
  simp only [wp_runB, wp_sSeq, wp_sIf, bT, wp_toB, wp_eOp, wp_eVar, wp_eC, wp_sRaise, wp_sNil, wp_sAsg, wp_sPar, wp_sPar3, wp_sRet, wp_sExpr, wp_sSub, wp_sSetF, wp_eLc, wp_iSeq, wp_iRange, wp_eFld, wp_eIx, wp_eTup, wp_eLst, wp_eIf, wp_eAnd, wp_eOr, wp_eNot, wp_bNot, wp_bAnd, wp_bOr, wp_aCons, wp_aNil, wp_eCall, wp_eFun, wp_eMeth, wp_arity, wp_eNeg, wp_eChain, List.getElem?_cons_zero, List.getElem?_cons_succ, List.set_cons_zero, List.set_cons_succ, List.length_cons, List.length_nil, put_nm, opCmp_int, opAdd_int, opSub_int, opEq_int, opInt_int, decide_true, decide_false, Bool.false_eq_true, if_false, if_true, true_and, and_true, List.map_cons, List.map_nil, Nat.zero_add, Nat.reduceAdd, b_11, e0, wp_eCall, ol, n0, z2, in2k hx, n1, wp_bnd, wp_eGx, src_lst]
  refine ⟨by rw [List.length_map, sizeLine_eq]; omega, ?_⟩
  rw [wp_eq (gxGo_map (γ := Pr) pD (fun _ => true) (fun q => D.int q.2) rfl (fun q _ => ⟨_, put_pD, rfl, fun _ => Wp.eq ?_⟩))]
  · have hvn : rows.map (·.2) ≠ [] := by simpa using hne
    have hvl : (rows.map fun q : Pr => q.2).length = rows.length := List.length_map _
    rw [mp, wp_kSorted, sortD_ints]
    refine ⟨⟨sortOk_ints _ (by omega), by rw [List.length_map, sizeLine_eq]; omega⟩, ?_⟩
    generalize (rows.map fun q : Pr => q.2) = vs at *
    have hsl : (isort leI vs).length = vs.length := (isort_perm vs).length_eq
    have ols : opLen h [.lst ((isort leI vs).map D.int)] = some (.int rows.length) := by rw [opLen_lst, List.length_map, hsl, hvl]
    obtain ⟨s, t, es, hs1, hs2⟩ := sorted_head hvn
    have i0 : ixD h (.lst ((isort leI vs).map D.int)) (.int 0) = some (.int (mnI vs)) := by
      rw [es, ← hs1]; exact atI_0 D.int s t
    have i1 : ixD h (.lst ((isort leI vs).map D.int)) (.int (-1)) = some (.int (mxI vs)) := by
      rw [← hs2, es]; exact atI_last D.int 0 (s :: t) (by simp)
    have ij : ∀ j : Nat, j < rows.length → ixD h (.lst ((isort leI vs).map D.int)) (.int (j : Int)) = some (.int ((isort leI vs).getD j 0)) := fun j hj => by
      show atI ((isort leI vs).map D.int) (j : Int) = _
      rw [atI_nat (by rw [List.length_map]; omega), List.getElem?_map, getD_some (by omega)]; rfl
    unfold bF bU bD
    rw [hvl]
    cases x with
    | ou => exact absurd rfl hx
    | ab =>
      simp only [wp_runB, wp_sSeq, wp_sIf, bT, wp_toB, wp_eOp, wp_eVar, wp_eC, wp_sRaise, wp_sNil, wp_sAsg, wp_sPar, wp_sPar3, wp_sRet, wp_sExpr, wp_sSub, wp_sSetF, wp_eLc, wp_iSeq, wp_iRange, wp_eFld, wp_eIx, wp_eTup, wp_eLst, wp_eIf, wp_eAnd, wp_eOr, wp_eNot, wp_bNot, wp_bAnd, wp_bOr, wp_aCons, wp_aNil, wp_eCall, wp_eFun, wp_eMeth, wp_arity, wp_eNeg, wp_eChain, List.getElem?_cons_zero, List.getElem?_cons_succ, List.set_cons_zero, List.set_cons_succ, List.length_cons, List.length_nil, put_nm, opCmp_int, opAdd_int, opSub_int, opEq_int, opInt_int, decide_true, decide_false, Bool.false_eq_true, if_false, if_true, true_and, and_true, List.map_cons, List.map_nil, Nat.zero_add, Nat.reduceAdd, eq_ab, wp_eCall, ols, opMax2_int]
      by_cases z : most < rows.length
      · have e1 : max 0 ((rows.length : Int) - 1 - most) = (((rows.length : Int) - 1 - most).toNat : Int) := by omega
        simp only [z, decide_true, if_true, e1, ij _ (show ((rows.length : Int) - 1 - most).toNat < rows.length by omega)]
        all_goals first | trivial | exact ⟨rfl, trivial⟩ | exact ⟨rfl, rfl⟩
      · simp only [z, decide_false, Bool.false_eq_true, if_false]
        simp only [wp_runB, wp_sSeq, wp_sIf, bT, wp_toB, wp_eOp, wp_eVar, wp_eC, wp_sRaise, wp_sNil, wp_sAsg, wp_sPar, wp_sPar3, wp_sRet, wp_sExpr, wp_sSub, wp_sSetF, wp_eLc, wp_iSeq, wp_iRange, wp_eFld, wp_eIx, wp_eTup, wp_eLst, wp_eIf, wp_eAnd, wp_eOr, wp_eNot, wp_bNot, wp_bAnd, wp_bOr, wp_aCons, wp_aNil, wp_eCall, wp_eFun, wp_eMeth, wp_arity, wp_eNeg, wp_eChain, List.getElem?_cons_zero, List.getElem?_cons_succ, List.set_cons_zero, List.set_cons_succ, List.length_cons, List.length_nil, put_nm, opCmp_int, opAdd_int, opSub_int, opEq_int, opInt_int, decide_true, decide_false, Bool.false_eq_true, if_false, if_true, true_and, and_true, List.map_cons, List.map_nil, Nat.zero_add, Nat.reduceAdd, i0]
        all_goals first | trivial | exact ⟨rfl, trivial⟩ | exact ⟨rfl, rfl⟩
    | be =>
      have q1 : (decide (Kd.be = Kd.ab)) = false := rfl
      have q2 : ¬ (Kd.be = Kd.ab) := by intro q; cases q
      simp only [wp_runB, wp_sSeq, wp_sIf, bT, wp_toB, wp_eOp, wp_eVar, wp_eC, wp_sRaise, wp_sNil, wp_sAsg, wp_sPar, wp_sPar3, wp_sRet, wp_sExpr, wp_sSub, wp_sSetF, wp_eLc, wp_iSeq, wp_iRange, wp_eFld, wp_eIx, wp_eTup, wp_eLst, wp_eIf, wp_eAnd, wp_eOr, wp_eNot, wp_bNot, wp_bAnd, wp_bOr, wp_aCons, wp_aNil, wp_eCall, wp_eFun, wp_eMeth, wp_arity, wp_eNeg, wp_eChain, List.getElem?_cons_zero, List.getElem?_cons_succ, List.set_cons_zero, List.set_cons_succ, List.length_cons, List.length_nil, put_nm, opCmp_int, opAdd_int, opSub_int, opEq_int, opInt_int, decide_true, decide_false, Bool.false_eq_true, if_false, if_true, true_and, and_true, List.map_cons, List.map_nil, Nat.zero_add, Nat.reduceAdd, eq_ab, q1, wp_eCall, ols, opMin2_int, wp_eNeg]
      rw [if_neg q2]
      by_cases z : most < rows.length
      · have e1 : min most ((rows.length : Int) - 1) = (most.toNat : Int) := by omega
        simp only [z, decide_true, if_true, e1, ij _ (show most.toNat < rows.length by omega)]
        all_goals first | trivial | exact ⟨rfl, trivial⟩ | exact ⟨rfl, rfl⟩
      · simp only [z, decide_false, Bool.false_eq_true, if_false]
        simp only [wp_runB, wp_sSeq, wp_sIf, bT, wp_toB, wp_eOp, wp_eVar, wp_eC, wp_sRaise, wp_sNil, wp_sAsg, wp_sPar, wp_sPar3, wp_sRet, wp_sExpr, wp_sSub, wp_sSetF, wp_eLc, wp_iSeq, wp_iRange, wp_eFld, wp_eIx, wp_eTup, wp_eLst, wp_eIf, wp_eAnd, wp_eOr, wp_eNot, wp_bNot, wp_bAnd, wp_bOr, wp_aCons, wp_aNil, wp_eCall, wp_eFun, wp_eMeth, wp_arity, wp_eNeg, wp_eChain, List.getElem?_cons_zero, List.getElem?_cons_succ, List.set_cons_zero, List.set_cons_succ, List.length_cons, List.length_nil, put_nm, opCmp_int, opAdd_int, opSub_int, opEq_int, opInt_int, decide_true, decide_false, Bool.false_eq_true, if_false, if_true, true_and, and_true, List.map_cons, List.map_nil, Nat.zero_add, Nat.reduceAdd, i1, wp_eNeg]
        all_goals first | trivial | exact ⟨rfl, trivial⟩ | exact ⟨rfl, rfl⟩
  · simp only [wp_runB, wp_sSeq, wp_sIf, bT, wp_toB, wp_eOp, wp_eVar, wp_eC, wp_sRaise, wp_sNil, wp_sAsg, wp_sPar, wp_sPar3, wp_sRet, wp_sExpr, wp_sSub, wp_sSetF, wp_eLc, wp_iSeq, wp_iRange, wp_eFld, wp_eIx, wp_eTup, wp_eLst, wp_eIf, wp_eAnd, wp_eOr, wp_eNot, wp_bNot, wp_bAnd, wp_bOr, wp_aCons, wp_aNil, wp_eCall, wp_eFun, wp_eMeth, wp_arity, wp_eNeg, wp_eChain, List.getElem?_cons_zero, List.getElem?_cons_succ, List.set_cons_zero, List.set_cons_succ, List.length_cons, List.length_nil, put_nm, opCmp_int, opAdd_int, opSub_int, opEq_int, opInt_int, decide_true, decide_false, Bool.false_eq_true, if_false, if_true, true_and, and_true, List.map_cons, List.map_nil, Nat.zero_add, Nat.reduceAdd]
    all_goals first | trivial | exact ⟨rfl, trivial⟩ | exact ⟨rfl, rfl⟩
/-- env' is env but at js -/
def Fr (js : List Nat) (env env' : Env) : Prop := env'.length = env.length ∧ ∀ i, i ∉ js → env'[i]? = env[i]?
theorem Fr.rfl' {js : List Nat} : Fr js env env := ⟨rfl, fun _ _ => rfl⟩
theorem Fr.set {js : List Nat} {env' : Env} {i : Nat} {d : Option D} (f : Fr js env env') (hi : i ∈ js) : Fr js env (env'.set i d) := by
  refine ⟨by rw [List.length_set]; exact f.1, fun j hj => ?_⟩
  rw [List.getElem?_set_ne (fun q => hj (by rw [← q]; exact hi))]
  exact f.2 j hj
theorem Fr.trans {js ks : List Nat} {e1 e2 e3 : Env} (f : Fr js e1 e2) (g : Fr ks e2 e3) : Fr (js ++ ks) e1 e3 :=
  ⟨g.1.trans f.1, fun i hi => (g.2 i fun z => hi (List.mem_append_right _ z)).trans (f.2 i fun z => hi (List.mem_append_left _ z))⟩
theorem Fr.get {js : List Nat} {e1 e2 : Env} {i : Nat} {d : Option (Option D)} (f : Fr js e1 e2) (e : e1[i]? = d) (hi : i ∉ js := by decide) : e2[i]? = d := (f.2 i hi).trans e
theorem cmpK {x : Kd} (hx : x ≠ .ou) {b v : Int} {Q : Bool → Prop} : (if (decide (x = .ab)) = true then Q (decide (b < v)) else Q (decide (v < b))) = Q (if x = .ab then decide (b < v) else decide (v < b)) := by
  cases x
  · rfl
  · rfl
  · exact absurd rfl hx
def cntK (x : Kd) (b : Int) (vs : List Int) : Nat := (vs.filter fun v => if x = .ab then decide (b < v) else decide (v < b)).length
def fitsK (x : Kd) (most : Int) (vs : List Int) : List Int := (ables vs).filter fun b => decide ((cntK x b vs : Int) ≤ most)
theorem fits_ab {most : Int} {vs : List Int} (hv : vs ≠ []) (h0 : 0 ≤ most) : opMinL h [.lst ((fitsK .ab most vs).map D.int)] = some (.int (bU most vs)) := by
  obtain ⟨⟨h1, h2⟩, h3⟩ := bU_ok hv h0
  have hc : ∀ b, cntK .ab b vs = cntU b vs := fun b => rfl
  have hm : bU most vs ∈ fitsK .ab most vs := by unfold fitsK; rw [List.mem_filter, hc]; exact ⟨h1, by simpa using h2⟩
  have hne : fitsK .ab most vs ≠ [] := List.ne_nil_of_mem hm
  rw [opMinL_ne hne]
  obtain ⟨m1, m2⟩ := mn_spec hne
  have a1 := m2 _ hm
  have a2 : bU most vs ≤ mnI (fitsK .ab most vs) := by
    have hmem : ∀ z, z ∈ fitsK .ab most vs → bU most vs ≤ z := fun z hz => by
      unfold fitsK at hz
      rw [List.mem_filter, hc] at hz
      exact h3 _ hz.1 (by simpa using hz.2)
    exact hmem _ m1
  congr 2; omega
theorem fits_be {most : Int} {vs : List Int} (hv : vs ≠ []) (h0 : 0 ≤ most) : opMaxL h [.lst ((fitsK .be most vs).map D.int)] = some (.int (bD most vs)) := by
  obtain ⟨⟨h1, h2⟩, h3⟩ := bD_ok hv h0
  have hc : ∀ b, cntK .be b vs = cntD b vs := fun b => rfl
  have hm : bD most vs ∈ fitsK .be most vs := by unfold fitsK; rw [List.mem_filter, hc]; exact ⟨h1, by simpa using h2⟩
  refine opMaxL_ok (fun b hb => ?_) hm
  unfold fitsK at hb
  rw [List.mem_filter, hc] at hb
  exact h3 _ hb.1 (by simpa using hb.2)
end
end PyD.K02

namespace PyD.K02
open PySem PySem.Spec L2 PyD
open PyProof.Rows hiding St
open PyD (Env Pat)
section
variable {h u t : AH} {env : Env} {k : Nat} {a b m : Int}
variable {n : Nat} {r : Rw}
theorem enumD_map {γ : Type} (f : γ → D) : ∀ (xs : List γ) (n : Nat), enumD n (xs.map f) = (xs.zipIdx n).map fun q => .tup [.int (q.2 : Nat), f q.1]
  | [], _ => rfl
  | x :: xs, n => by simp only [List.map_cons, enumD, List.zipIdx_cons, enumD_map f xs (n + 1)]
def begs (R : List Run) : List Int := R.filterMap fun q => q.2.1
theorem begs_map : ∀ R : List Run, ((R.filter fun q => q.2.1.isSome).map fun q => oD q.2.1) = (begs R).map D.int
  | [] => rfl
  | q :: R => by
    have ih := begs_map R
    unfold begs at ih ⊢
    obtain ⟨s, f, c⟩ := q
    cases f with
    | none => simp only [List.filter_cons, Option.isSome_none, Bool.false_eq_true, if_false, List.filterMap_cons]; exact ih
    | some f => simp only [List.filter_cons, Option.isSome_some, if_true, List.filterMap_cons, List.map_cons, ih]; rfl
theorem begs_len (R : List Run) : (begs R).length ≤ R.length := List.length_filterMap_le _ _
def fstL (rows : List Pr) (l : List ((Nat × Rw) × Nat)) : List Pr := l.filterMap fun q => (begs (runs q.1.2 rows)).head?.map fun f => (f, (q.2 : Int))
theorem fstL_len (rows : List Pr) (l : List ((Nat × Rw) × Nat)) : (fstL rows l).length ≤ l.length := List.length_filterMap_le _ _
def bestP : List Pr → Option Pr
  | [] => none
  | x :: l => some (minBy leP x l)
def bestD : Option Pr → D
  | none => .non
  | some q => .tup [.int q.2, .int q.1]
theorem notNone_pD (ps : List Pr) : ((ps.map pD).all (notNoneD h)) = true := by
  rw [List.all_eq_true]
  intro d hd
  obtain ⟨q, _, rfl⟩ := List.mem_map.mp hd
  unfold notNoneD encD
  rw [py_pD]; rfl
theorem min_pD {d : D} {x : Pr} {l : List Pr} (hl : (x :: l).length ≤ 1000) (e : sqOf h d = .seq true ((x :: l).map pD)) : opMinDt h [d] = some (pD (minBy leP x l)) := by
  have ok : (sortOk h (pD x :: l.map pD) && (pD x :: l.map pD).all (notNoneD h)) = true := by
    have h1 := sortOk_pairs h (x :: l) hl
    have h2 := notNone_pD (h := h) (x :: l)
    rw [List.map_cons] at h1 h2
    rw [h1, h2]; rfl
  rw [List.map_cons] at e
  simp only [opMinDt, e, ok, if_true, minDt_of leD_pD]
theorem first_ok {ths : List (Nat × Rw)} {rows : List Pr} (hr : Rise rows) (hn : rows.length ≤ 100) (ht : ths.length ≤ 100) (he : ∀ p ∈ ths, h[p.1]? = some (rwO p.2)) :
    Wp (run (k+3) 12 [.lst (ths.map fun p => .obj p.1), .lst (rows.map pD)]) h (fun d h' => d = bestD (bestP (fstL rows (ths.zipIdx 0))) ∧ ∃ u, h' = h ++ u) (fun _ _ => False) := by
  show Wp (runB 7 (b_12 (run (k+2))) _) _ _ _
  have e0 : startE 7 [D.lst (ths.map fun p => .obj p.1), .lst (rows.map pD)] = [some (.lst (ths.map fun p => .obj p.1)), some (.lst (rows.map pD)), none, none, none, none, none] := rfl
  have z0 : 0 ≤ sizeLine := by decide
  have z1 : 1 ≤ sizeLine := by decide
  have z2 : 2 ≤ sizeLine := by decide
  simp only [wp_runB, wp_sSeq, wp_sIf, bT, wp_toB, wp_eOp, wp_eVar, wp_eC, wp_sRaise, wp_sNil, wp_sAsg, wp_sPar, wp_sPar3, wp_sRet, wp_sExpr, wp_sSub, wp_sSetF, wp_eLc, wp_iSeq, wp_iRange, wp_eFld, wp_eIx, wp_eTup, wp_eLst, wp_eIf, wp_eAnd, wp_eOr, wp_eNot, wp_bNot, wp_bAnd, wp_bOr, wp_aCons, wp_aNil, wp_eCall, wp_eFun, wp_eMeth, wp_arity, wp_eNeg, wp_eChain, List.getElem?_cons_zero, List.getElem?_cons_succ, List.set_cons_zero, List.set_cons_succ, List.length_cons, List.length_nil, put_nm, opCmp_int, opAdd_int, opSub_int, opEq_int, opInt_int, decide_true, decide_false, Bool.false_eq_true, if_false, if_true, true_and, and_true, List.map_cons, List.map_nil, Nat.zero_add, Nat.reduceAdd, b_12, e0, wp_eLstO, z0, wp_sFor]
  refine wp_iEnumA (xs := ths.map fun p => .obj p.1) ?_
  simp only [wp_runB, wp_sSeq, wp_sIf, bT, wp_toB, wp_eOp, wp_eVar, wp_eC, wp_sRaise, wp_sNil, wp_sAsg, wp_sPar, wp_sPar3, wp_sRet, wp_sExpr, wp_sSub, wp_sSetF, wp_eLc, wp_iSeq, wp_iRange, wp_eFld, wp_eIx, wp_eTup, wp_eLst, wp_eIf, wp_eAnd, wp_eOr, wp_eNot, wp_bNot, wp_bAnd, wp_bOr, wp_aCons, wp_aNil, wp_eCall, wp_eFun, wp_eMeth, wp_arity, wp_eNeg, wp_eChain, List.getElem?_cons_zero, List.getElem?_cons_succ, List.set_cons_zero, List.set_cons_succ, List.length_cons, List.length_nil, put_nm, opCmp_int, opAdd_int, opSub_int, opEq_int, opInt_int, decide_true, decide_false, Bool.false_eq_true, if_false, if_true, true_and, and_true, List.map_cons, List.map_nil, Nat.zero_add, Nat.reduceAdd, enumD_map]
  have hzl : (ths.zipIdx 0).length = ths.length := List.length_zipIdx
  refine Wp.impQ (wp_forAll (γ := (Nat × Rw) × Nat) (fun q => D.tup [.int (q.2 : Nat), .obj q.1.1]) (ths.zipIdx 0) (fun p env' h' => (∃ u, h' = h ++ [.lst ((fstL rows p).map pD)] ++ u) ∧ ∃ x3 x4 x5 x6, env' = [some (.lst (ths.map fun p => .obj p.1)), some (.lst (rows.map pD)), some (.obj h.length), x3, x4, x5, x6]) ?_ ⟨⟨[], by simp [fstL]⟩, _, _, _, _, rfl⟩) ?_
  · rintro p q s env' h' hp ⟨⟨u, rfl⟩, x3, x4, x5, x6, rfl⟩
    refine ⟨_, put_tp2, ?_⟩
    have hq : q.1 ∈ ths := by
      have : q ∈ ths.zipIdx 0 := by rw [← hp]; simp
      exact List.fst_mem_of_mem_zipIdx this
    have e1 := he q.1 hq
    have e2 := get_app (get_app e1 [.lst ((fstL rows p).map pD)]) u
    simp only [wp_runB, wp_sSeq, wp_sIf, bT, wp_toB, wp_eOp, wp_eVar, wp_eC, wp_sRaise, wp_sNil, wp_sAsg, wp_sPar, wp_sPar3, wp_sRet, wp_sExpr, wp_sSub, wp_sSetF, wp_eLc, wp_iSeq, wp_iRange, wp_eFld, wp_eIx, wp_eTup, wp_eLst, wp_eIf, wp_eAnd, wp_eOr, wp_eNot, wp_bNot, wp_bAnd, wp_bOr, wp_aCons, wp_aNil, wp_eCall, wp_eFun, wp_eMeth, wp_arity, wp_eNeg, wp_eChain, List.getElem?_cons_zero, List.getElem?_cons_succ, List.set_cons_zero, List.set_cons_succ, List.length_cons, List.length_nil, put_nm, opCmp_int, opAdd_int, opSub_int, opEq_int, opInt_int, decide_true, decide_false, Bool.false_eq_true, if_false, if_true, true_and, and_true, List.map_cons, List.map_nil, Nat.zero_add, Nat.reduceAdd, wp_eMeth, ins_ok e2 (m := "runs_of") (by decide +kernel), wp_arity, wipe1]
    refine Wp.impQ (runs_ok (k := k) (l := true) hr hn e2) ?_
    rintro _ _ ⟨rfl, u2, rfl⟩
    have hrl := runs_len q.1.2 rows
    simp only [src_tup]
    refine ⟨by rw [List.length_map, sizeLine_eq]; omega, ?_⟩
    rw [wp_eq (lcGo_map (γ := Run) runD (fun q => q.2.1.isSome) (fun q => oD q.2.1) rfl (fun q _ => ⟨_, put_nm _ _ _, Wp.eq ?_, fun _ => Wp.eq ?_⟩))]
    · have hbl := begs_len (runs q.1.2 rows)
      rw [begs_map]
      have hap : fstL rows (p ++ [q]) = fstL rows p ++ (match (begs (runs q.1.2 rows)).head? with
        | none => []
        | some f => [(f, (q.2 : Int))]) := by
        unfold fstL
        rw [List.filterMap_append]
        congr 1
        simp only [List.filterMap_cons, List.filterMap_nil]
        cases (begs (runs q.1.2 rows)).head? <;> rfl
      rw [hap]
      have hfl := fstL_len rows p
      have hpl : p.length ≤ ths.length := by
        have : p.length ≤ (ths.zipIdx 0).length := by rw [← hp]; simp
        omega
      have ag : ∀ ys : List D, ys.length ≤ 1 → augD (h ++ [.lst ((fstL rows p).map pD)] ++ u ++ u2) (.obj h.length) (.lst ys) = some (.obj h.length, h ++ [.lst ((fstL rows p).map pD ++ ys)] ++ (u ++ u2)) := fun ys hy => by
        have g : (h ++ [O.lst ((fstL rows p).map pD)] ++ u ++ u2)[h.length]? = some (.lst ((fstL rows p).map pD)) := by simp
        have hz : ((fstL rows p).map pD).length + ys.length ≤ sizeLine := by rw [List.length_map, sizeLine_eq]; omega
        simp only [augD, g, hz, if_true]
        simp
      generalize begs (runs q.1.2 rows) = B at *
      simp only [wp_runB, wp_sSeq, wp_sIf, bT, wp_toB, wp_eOp, wp_eVar, wp_eC, wp_sRaise, wp_sNil, wp_sAsg, wp_sPar, wp_sPar3, wp_sRet, wp_sExpr, wp_sSub, wp_sSetF, wp_eLc, wp_iSeq, wp_iRange, wp_eFld, wp_eIx, wp_eTup, wp_eLst, wp_eIf, wp_eAnd, wp_eOr, wp_eNot, wp_bNot, wp_bAnd, wp_bOr, wp_aCons, wp_aNil, wp_eCall, wp_eFun, wp_eMeth, wp_arity, wp_eNeg, wp_eChain, List.getElem?_cons_zero, List.getElem?_cons_succ, List.set_cons_zero, List.set_cons_succ, List.length_cons, List.length_nil, put_nm, opCmp_int, opAdd_int, opSub_int, opEq_int, opInt_int, decide_true, decide_false, Bool.false_eq_true, if_false, if_true, true_and, and_true, List.map_cons, List.map_nil, Nat.zero_add, Nat.reduceAdd, wp_sAug, opNe_ints_nil]
      cases B with
      | nil =>
        simp only [wp_runB, wp_sSeq, wp_sIf, bT, wp_toB, wp_eOp, wp_eVar, wp_eC, wp_sRaise, wp_sNil, wp_sAsg, wp_sPar, wp_sPar3, wp_sRet, wp_sExpr, wp_sSub, wp_sSetF, wp_eLc, wp_iSeq, wp_iRange, wp_eFld, wp_eIx, wp_eTup, wp_eLst, wp_eIf, wp_eAnd, wp_eOr, wp_eNot, wp_bNot, wp_bAnd, wp_bOr, wp_aCons, wp_aNil, wp_eCall, wp_eFun, wp_eMeth, wp_arity, wp_eNeg, wp_eChain, List.getElem?_cons_zero, List.getElem?_cons_succ, List.set_cons_zero, List.set_cons_succ, List.length_cons, List.length_nil, put_nm, opCmp_int, opAdd_int, opSub_int, opEq_int, opInt_int, decide_true, decide_false, Bool.false_eq_true, if_false, if_true, true_and, and_true, List.map_cons, List.map_nil, Nat.zero_add, Nat.reduceAdd, z0, ag [] (by simp), List.isEmpty_nil, Bool.not_true]
        exact ⟨_, .inl rfl, ⟨u ++ u2, by simp⟩, _, _, _, _, rfl⟩
      | cons b B =>
        have i0 : ∀ hh : AH, ixD hh (.lst (D.int b :: B.map D.int)) (.int 0) = some (.int b) := fun hh => atI_0 D.int b B
        simp only [wp_runB, wp_sSeq, wp_sIf, bT, wp_toB, wp_eOp, wp_eVar, wp_eC, wp_sRaise, wp_sNil, wp_sAsg, wp_sPar, wp_sPar3, wp_sRet, wp_sExpr, wp_sSub, wp_sSetF, wp_eLc, wp_iSeq, wp_iRange, wp_eFld, wp_eIx, wp_eTup, wp_eLst, wp_eIf, wp_eAnd, wp_eOr, wp_eNot, wp_bNot, wp_bAnd, wp_bOr, wp_aCons, wp_aNil, wp_eCall, wp_eFun, wp_eMeth, wp_arity, wp_eNeg, wp_eChain, List.getElem?_cons_zero, List.getElem?_cons_succ, List.set_cons_zero, List.set_cons_succ, List.length_cons, List.length_nil, put_nm, opCmp_int, opAdd_int, opSub_int, opEq_int, opInt_int, decide_true, decide_false, Bool.false_eq_true, if_false, if_true, true_and, and_true, List.map_cons, List.map_nil, Nat.zero_add, Nat.reduceAdd, z0, z1, z2, List.isEmpty_cons, Bool.not_false, i0, ag [_] (by simp)]
        refine ⟨_, .inl rfl, ⟨u ++ u2, ?_⟩, _, _, _, _, rfl⟩
        simp [pD]
    · simp only [wp_runB, wp_sSeq, wp_sIf, bT, wp_toB, wp_eOp, wp_eVar, wp_eC, wp_sRaise, wp_sNil, wp_sAsg, wp_sPar, wp_sPar3, wp_sRet, wp_sExpr, wp_sSub, wp_sSetF, wp_eLc, wp_iSeq, wp_iRange, wp_eFld, wp_eIx, wp_eTup, wp_eLst, wp_eIf, wp_eAnd, wp_eOr, wp_eNot, wp_bNot, wp_bAnd, wp_bOr, wp_aCons, wp_aNil, wp_eCall, wp_eFun, wp_eMeth, wp_arity, wp_eNeg, wp_eChain, List.getElem?_cons_zero, List.getElem?_cons_succ, List.set_cons_zero, List.set_cons_succ, List.length_cons, List.length_nil, put_nm, opCmp_int, opAdd_int, opSub_int, opEq_int, opInt_int, decide_true, decide_false, Bool.false_eq_true, if_false, if_true, true_and, and_true, List.map_cons, List.map_nil, Nat.zero_add, Nat.reduceAdd, ix_run1, isn_o]
      all_goals first | trivial | exact ⟨rfl, trivial⟩ | exact ⟨rfl, rfl⟩
    · simp only [wp_runB, wp_sSeq, wp_sIf, bT, wp_toB, wp_eOp, wp_eVar, wp_eC, wp_sRaise, wp_sNil, wp_sAsg, wp_sPar, wp_sPar3, wp_sRet, wp_sExpr, wp_sSub, wp_sSetF, wp_eLc, wp_iSeq, wp_iRange, wp_eFld, wp_eIx, wp_eTup, wp_eLst, wp_eIf, wp_eAnd, wp_eOr, wp_eNot, wp_bNot, wp_bAnd, wp_bOr, wp_aCons, wp_aNil, wp_eCall, wp_eFun, wp_eMeth, wp_arity, wp_eNeg, wp_eChain, List.getElem?_cons_zero, List.getElem?_cons_succ, List.set_cons_zero, List.set_cons_succ, List.length_cons, List.length_nil, put_nm, opCmp_int, opAdd_int, opSub_int, opEq_int, opInt_int, decide_true, decide_false, Bool.false_eq_true, if_false, if_true, true_and, and_true, List.map_cons, List.map_nil, Nat.zero_add, Nat.reduceAdd, ix_run1]
      all_goals first | trivial | exact ⟨rfl, trivial⟩ | exact ⟨rfl, rfl⟩
  · rintro _ h' ⟨env', rfl, ⟨u, rfl⟩, x3, x4, x5, x6, rfl⟩
    have hfl := fstL_len rows (ths.zipIdx 0)
    generalize fstL rows (ths.zipIdx 0) = F at *
    have g : (h ++ [O.lst (F.map pD)] ++ u)[h.length]? = some (.lst (F.map pD)) := by simp
    have ne := opNe_nilG (h := h ++ [O.lst (F.map pD)] ++ u) (d := .obj h.length) (xs := F.map pD) (.inr ⟨_, rfl, g⟩) (okDs_map fun q _ => by simp [pD, okD, okDs])
    simp only [wp_runB, wp_sSeq, wp_sIf, bT, wp_toB, wp_eOp, wp_eVar, wp_eC, wp_sRaise, wp_sNil, wp_sAsg, wp_sPar, wp_sPar3, wp_sRet, wp_sExpr, wp_sSub, wp_sSetF, wp_eLc, wp_iSeq, wp_iRange, wp_eFld, wp_eIx, wp_eTup, wp_eLst, wp_eIf, wp_eAnd, wp_eOr, wp_eNot, wp_bNot, wp_bAnd, wp_bOr, wp_aCons, wp_aNil, wp_eCall, wp_eFun, wp_eMeth, wp_arity, wp_eNeg, wp_eChain, List.getElem?_cons_zero, List.getElem?_cons_succ, List.set_cons_zero, List.set_cons_succ, List.length_cons, List.length_nil, put_nm, opCmp_int, opAdd_int, opSub_int, opEq_int, opInt_int, decide_true, decide_false, Bool.false_eq_true, if_false, if_true, true_and, and_true, List.map_cons, List.map_nil, Nat.zero_add, Nat.reduceAdd, ne]
    cases F with
    | nil =>
      simp only [List.map_nil, List.isEmpty_nil, Bool.not_true, Bool.false_eq_true, if_false]
      exact ⟨rfl, _, by rw [List.append_assoc]⟩
    | cons x F =>
      have mm := min_pD (h := h ++ [O.lst ((x :: F).map pD)] ++ u) (d := .obj h.length) (x := x) (l := F) (by simp at hfl ⊢; omega) (by simp only [sqOf, g])
      rw [List.map_cons] at mm
      have i0 : ∀ hh q, ixD hh (pD q) (.int 0) = some (.int q.1) := fun _ _ => rfl
      have i1 : ∀ hh q, ixD hh (pD q) (.int 1) = some (.int q.2) := fun _ _ => rfl
      simp only [wp_runB, wp_sSeq, wp_sIf, bT, wp_toB, wp_eOp, wp_eVar, wp_eC, wp_sRaise, wp_sNil, wp_sAsg, wp_sPar, wp_sPar3, wp_sRet, wp_sExpr, wp_sSub, wp_sSetF, wp_eLc, wp_iSeq, wp_iRange, wp_eFld, wp_eIx, wp_eTup, wp_eLst, wp_eIf, wp_eAnd, wp_eOr, wp_eNot, wp_bNot, wp_bAnd, wp_bOr, wp_aCons, wp_aNil, wp_eCall, wp_eFun, wp_eMeth, wp_arity, wp_eNeg, wp_eChain, List.getElem?_cons_zero, List.getElem?_cons_succ, List.set_cons_zero, List.set_cons_succ, List.length_cons, List.length_nil, put_nm, opCmp_int, opAdd_int, opSub_int, opEq_int, opInt_int, decide_true, decide_false, Bool.false_eq_true, if_false, if_true, true_and, and_true, List.map_cons, List.map_nil, Nat.zero_add, Nat.reduceAdd, List.isEmpty_cons, Bool.not_false, wp_eCall, mm, i0, i1, z2]
      exact ⟨rfl, _, by rw [List.append_assoc]⟩
end
end PyD.K02

namespace PyD.K02
open PySem PySem.Spec L2 PyD
open PyProof.Rows hiding St
open PyD (Env Pat)
section
variable {h u t : AH} {env : Env} {k : Nat} {a b m : Int}
variable {r : Rw}
structure OkR (rows : List Pr) (now : Int) : Prop where
  rise : Rise rows
  le : ∀ q ∈ rows, q.1 ≤ now
  len : rows.length ≤ 14
theorem c0_ok (hl : env.length = 32) (e1 : env[1]? = some (some (.obj 0))) : Wp (c_0 (run (k+2)) env) (dice a b m :: t) (fun f h' => ∃ r a' b' m', f = .nx (((env.set 2 (some (rwD r))).set 3 (some (.lst []))).set 4 (some (.int 0))) ∧ OkW r ∧ h' = dice a' b' m' :: t) (fun _ _ => False) := by
  have z0 : 0 ≤ sizeLine := by decide
  have z3 : 3 ≤ sizeLine := by decide
  simp only [wp_runB, wp_sSeq, wp_sIf, bT, wp_toB, wp_eOp, wp_eVar, wp_eC, wp_sRaise, wp_sNil, wp_sAsg, wp_sPar, wp_sPar3, wp_sRet, wp_sExpr, wp_sSub, wp_sSetF, wp_eLc, wp_iSeq, wp_iRange, wp_eFld, wp_eIx, wp_eTup, wp_eLst, wp_eIf, wp_eAnd, wp_eOr, wp_eNot, wp_bNot, wp_bAnd, wp_bOr, wp_aCons, wp_aNil, wp_eCall, wp_eFun, wp_eMeth, wp_arity, wp_eNeg, wp_eChain, List.getElem?_cons_zero, List.getElem?_cons_succ, List.set_cons_zero, List.set_cons_succ, List.length_cons, List.length_nil, put_nm, opCmp_int, opAdd_int, opSub_int, opEq_int, opInt_int, decide_true, decide_false, Bool.false_eq_true, if_false, if_true, true_and, and_true, List.map_cons, List.map_nil, Nat.zero_add, Nat.reduceAdd, c_0, e1, wp_eFun, wp_arity]
  refine Wp.impQ (row_ok (k := k)) ?_
  rintro _ _ ⟨r, a1, b1, m1, rfl, ok, rfl⟩
  simp only [wp_runB, wp_sSeq, wp_sIf, bT, wp_toB, wp_eOp, wp_eVar, wp_eC, wp_sRaise, wp_sNil, wp_sAsg, wp_sPar, wp_sPar3, wp_sRet, wp_sExpr, wp_sSub, wp_sSetF, wp_eLc, wp_iSeq, wp_iRange, wp_eFld, wp_eIx, wp_eTup, wp_eLst, wp_eIf, wp_eAnd, wp_eOr, wp_eNot, wp_bNot, wp_bAnd, wp_bOr, wp_aCons, wp_aNil, wp_eCall, wp_eFun, wp_eMeth, wp_arity, wp_eNeg, wp_eChain, List.getElem?_cons_zero, List.getElem?_cons_succ, List.set_cons_zero, List.set_cons_succ, List.length_cons, List.length_nil, put_nm, opCmp_int, opAdd_int, opSub_int, opEq_int, opInt_int, decide_true, decide_false, Bool.false_eq_true, if_false, if_true, true_and, and_true, List.map_cons, List.map_nil, Nat.zero_add, Nat.reduceAdd, z0, z3, put_tp3]
  exact ⟨r, a1, b1, m1, rfl, ok, rfl⟩
theorem c3_ok (hl : env.length = 32) (e1 : env[1]? = some (some (.obj 0))) (e3 : env[3]? = some (some (.lst []))) (e4 : env[4]? = some (some (.int 0))) : Wp (c_3 (run (k+1)) env) (dice a b m :: t) (fun f h' => ∃ rows now a' b' m' env', f = .nx env' ∧ h' = dice a' b' m' :: t ∧ OkR rows now ∧ env'[3]? = some (some (.lst (rows.map pD))) ∧ env'[4]? = some (some (.int now)) ∧ Fr [3, 4, 5] env env') (fun _ _ => False) := by
  have z1 : 1 ≤ sizeLine := by decide
  have z2 : 2 ≤ sizeLine := by decide
  simp only [wp_runB, wp_sSeq, wp_sIf, bT, wp_toB, wp_eOp, wp_eVar, wp_eC, wp_sRaise, wp_sNil, wp_sAsg, wp_sPar, wp_sPar3, wp_sRet, wp_sExpr, wp_sSub, wp_sSetF, wp_eLc, wp_iSeq, wp_iRange, wp_eFld, wp_eIx, wp_eTup, wp_eLst, wp_eIf, wp_eAnd, wp_eOr, wp_eNot, wp_bNot, wp_bAnd, wp_bOr, wp_aCons, wp_aNil, wp_eCall, wp_eFun, wp_eMeth, wp_arity, wp_eNeg, wp_eChain, List.getElem?_cons_zero, List.getElem?_cons_succ, List.set_cons_zero, List.set_cons_succ, List.length_cons, List.length_nil, put_nm, opCmp_int, opAdd_int, opSub_int, opEq_int, opInt_int, decide_true, decide_false, Bool.false_eq_true, if_false, if_true, true_and, and_true, List.map_cons, List.map_nil, Nat.zero_add, Nat.reduceAdd, c_3, wp_sFor, e1, wp_eFun, wp_arity]
  refine Wp.impQ (roll_ok (by decide) (by decide)) ?_
  rintro _ _ ⟨r1, a1, b1, m1, rfl, p1, q1, rfl⟩
  simp only [range1_map (n := r1) (show 0 ≤ r1 ∧ r1 ≤ 1000 by omega)]
  have hL : (List.range r1.toNat).length ≤ 14 := by rw [List.length_range]; omega
  generalize List.range r1.toNat = L at *
  refine Wp.impQ (wp_forAll (γ := Nat) (fun i : Nat => D.int i) L (fun p env' h' => ∃ (rows : List Pr) (now a' b' m' : Int), h' = dice a' b' m' :: t ∧ Rise rows ∧ (∀ q ∈ rows, q.1 ≤ now) ∧ rows.length = p.length ∧ env'[3]? = some (some (.lst (rows.map pD))) ∧ env'[4]? = some (some (.int now)) ∧ Fr [3, 4, 5] env env') ?_ ⟨[], 0, a1, b1, m1, rfl, .nil, by simp, rfl, e3, e4, Fr.rfl'⟩) ?_
  · rintro p x s env' h' hp ⟨rows, now, a2, b2, m2, rfl, g1, g2, g3, g4, g5, fr⟩
    refine ⟨_, put_nm _ _ _, ?_⟩
    have hl' : env'.length = 32 := fr.1.trans hl
    have g6 := fr.get e1
    have hpl : p.length + 1 ≤ L.length := by rw [← hp]; simp
    simp only [wp_runB, wp_sSeq, wp_sIf, bT, wp_toB, wp_eOp, wp_eVar, wp_eC, wp_sRaise, wp_sNil, wp_sAsg, wp_sPar, wp_sPar3, wp_sRet, wp_sExpr, wp_sSub, wp_sSetF, wp_eLc, wp_iSeq, wp_iRange, wp_eFld, wp_eIx, wp_eTup, wp_eLst, wp_eIf, wp_eAnd, wp_eOr, wp_eNot, wp_bNot, wp_bAnd, wp_bOr, wp_aCons, wp_aNil, wp_eCall, wp_eFun, wp_eMeth, wp_arity, wp_eNeg, wp_eChain, List.getElem?_cons_zero, List.getElem?_cons_succ, List.set_cons_zero, List.set_cons_succ, List.length_cons, List.length_nil, put_nm, opCmp_int, opAdd_int, opSub_int, opEq_int, opInt_int, decide_true, decide_false, Bool.false_eq_true, if_false, if_true, true_and, and_true, List.map_cons, List.map_nil, Nat.zero_add, Nat.reduceAdd, c_1, c_2, get_set, List.length_set, hl', Nat.reduceLT, Nat.reduceEqDiff, g5, g6, wp_eFun, wp_arity]
    refine Wp.impQ (roll_ok (by decide) (by decide)) ?_
    rintro _ _ ⟨r2, a3, b3, m3, rfl, p2, q2, rfl⟩
    simp only [wp_runB, wp_sSeq, wp_sIf, bT, wp_toB, wp_eOp, wp_eVar, wp_eC, wp_sRaise, wp_sNil, wp_sAsg, wp_sPar, wp_sPar3, wp_sRet, wp_sExpr, wp_sSub, wp_sSetF, wp_eLc, wp_iSeq, wp_iRange, wp_eFld, wp_eIx, wp_eTup, wp_eLst, wp_eIf, wp_eAnd, wp_eOr, wp_eNot, wp_bNot, wp_bAnd, wp_bOr, wp_aCons, wp_aNil, wp_eCall, wp_eFun, wp_eMeth, wp_arity, wp_eNeg, wp_eChain, List.getElem?_cons_zero, List.getElem?_cons_succ, List.set_cons_zero, List.set_cons_succ, List.length_cons, List.length_nil, put_nm, opCmp_int, opAdd_int, opSub_int, opEq_int, opInt_int, decide_true, decide_false, Bool.false_eq_true, if_false, if_true, true_and, and_true, List.map_cons, List.map_nil, Nat.zero_add, Nat.reduceAdd, get_set, List.length_set, hl', Nat.reduceLT, Nat.reduceEqDiff, g4, g6, wp_eFun, wp_arity]
    refine Wp.impQ (roll_ok (by decide) (by decide)) ?_
    rintro _ _ ⟨r3, a4, b4, m4, rfl, p3, q3, rfl⟩
    have ad : opAdd (dice a4 b4 m4 :: t) (.lst (rows.map pD)) (.lst [.tup [.int (now + 1 + r2), .int (r3 - 4)]]) = some (.lst ((rows ++ [(now + 1 + r2, r3 - 4)]).map pD)) := by
      rw [opAdd_lst (by rw [List.length_map, sizeLine_eq]; simp; omega), List.map_append]; rfl
    simp only [wp_runB, wp_sSeq, wp_sIf, bT, wp_toB, wp_eOp, wp_eVar, wp_eC, wp_sRaise, wp_sNil, wp_sAsg, wp_sPar, wp_sPar3, wp_sRet, wp_sExpr, wp_sSub, wp_sSetF, wp_eLc, wp_iSeq, wp_iRange, wp_eFld, wp_eIx, wp_eTup, wp_eLst, wp_eIf, wp_eAnd, wp_eOr, wp_eNot, wp_bNot, wp_bAnd, wp_bOr, wp_aCons, wp_aNil, wp_eCall, wp_eFun, wp_eMeth, wp_arity, wp_eNeg, wp_eChain, List.getElem?_cons_zero, List.getElem?_cons_succ, List.set_cons_zero, List.set_cons_succ, List.length_cons, List.length_nil, put_nm, opCmp_int, opAdd_int, opSub_int, opEq_int, opInt_int, decide_true, decide_false, Bool.false_eq_true, if_false, if_true, true_and, and_true, List.map_cons, List.map_nil, Nat.zero_add, Nat.reduceAdd, z1, z2, ad]
    refine ⟨_, .inl rfl, rows ++ [(now + 1 + r2, r3 - 4)], now + 1 + r2, a4, b4, m4, rfl, ?_, ?_, by simp [g3], by rw [List.getElem?_set_self (by simp [hl'])], by rw [List.getElem?_set_ne (by decide), List.getElem?_set_self (by simp [hl'])], ((fr.set (by decide)).set (by decide)).set (by decide)⟩
    · unfold Rise
      rw [List.pairwise_append]
      refine ⟨g1, by simp, fun x hx y hy => ?_⟩
      rw [List.mem_singleton.mp hy]
      have := g2 x hx
      dsimp only; omega
    · intro q hq
      rcases List.mem_append.mp hq with y | y
      · have := g2 q y; omega
      · rw [List.mem_singleton.mp y]; dsimp only; omega
  · rintro _ h' ⟨env', rfl, rows, now, a2, b2, m2, rfl, g1, g2, g3, g4, g5, fr⟩
    exact ⟨rows, now, a2, b2, m2, env', rfl, rfl, ⟨g1, g2, by omega⟩, g4, g5, fr⟩
theorem c4_ok {rows : List Pr} (o : OkW r) (hn : rows.length ≤ 100) (hl : env.length = 32) (e2 : env[2]? = some (some (rwD r))) (e3 : env[3]? = some (some (.lst (rows.map pD)))) :
    c_4 (run (k+2)) env h = .ok (.nx ((env.set 6 (some (.obj h.length))).set 7 (some (.lst ((runs r rows).map runD))))) (h ++ [rwO r]) := by
  refine Wp.eq ?_
  simp only [wp_runB, wp_sSeq, wp_sIf, bT, wp_toB, wp_eOp, wp_eVar, wp_eC, wp_sRaise, wp_sNil, wp_sAsg, wp_sPar, wp_sPar3, wp_sRet, wp_sExpr, wp_sSub, wp_sSetF, wp_eLc, wp_iSeq, wp_iRange, wp_eFld, wp_eIx, wp_eTup, wp_eLst, wp_eIf, wp_eAnd, wp_eOr, wp_eNot, wp_bNot, wp_bAnd, wp_bOr, wp_aCons, wp_aNil, wp_eCall, wp_eFun, wp_eMeth, wp_arity, wp_eNeg, wp_eChain, List.getElem?_cons_zero, List.getElem?_cons_succ, List.set_cons_zero, List.set_cons_succ, List.length_cons, List.length_nil, put_nm, opCmp_int, opAdd_int, opSub_int, opEq_int, opInt_int, decide_true, decide_false, Bool.false_eq_true, if_false, if_true, true_and, and_true, List.map_cons, List.map_nil, Nat.zero_add, Nat.reduceAdd, c_4, e2, ix_rw0, ix_rw1, ix_rw2, ix_rw3, ix_rw4, wp_eMake, wp_arity, wp_eq (make_ok (k := k+1) o), wp_eFun, e3, wp_eq (lruns_ok (k := k) (r := r) hn)]
  all_goals first | trivial | exact ⟨rfl, trivial⟩ | exact ⟨rfl, rfl⟩
theorem c5_ok (o : OkW r) (hl : env.length = 32) (e2 : env[2]? = some (some (rwD r))) : Wp (c_5 (run (k+3)) env) h (fun f h' => ∃ u : AH, f = .nx (env.set 8 (some (.obj (h.length + u.length)))) ∧ h' = h ++ u ++ [rwO r]) (fun _ _ => False) := by
  simp only [wp_runB, wp_sSeq, wp_sIf, bT, wp_toB, wp_eOp, wp_eVar, wp_eC, wp_sRaise, wp_sNil, wp_sAsg, wp_sPar, wp_sPar3, wp_sRet, wp_sExpr, wp_sSub, wp_sSetF, wp_eLc, wp_iSeq, wp_iRange, wp_eFld, wp_eIx, wp_eTup, wp_eLst, wp_eIf, wp_eAnd, wp_eOr, wp_eNot, wp_bNot, wp_bAnd, wp_bOr, wp_aCons, wp_aNil, wp_eCall, wp_eFun, wp_eMeth, wp_arity, wp_eNeg, wp_eChain, List.getElem?_cons_zero, List.getElem?_cons_succ, List.set_cons_zero, List.set_cons_succ, List.length_cons, List.length_nil, put_nm, opCmp_int, opAdd_int, opSub_int, opEq_int, opInt_int, decide_true, decide_false, Bool.false_eq_true, if_false, if_true, true_and, and_true, List.map_cons, List.map_nil, Nat.zero_add, Nat.reduceAdd, c_5, e2, wp_eFun, wp_arity, wp_eq (ltext_ok (k := k+2) o)]
  refine Wp.imp (read_ok (k := k) (readT_R o)) ?_ ?_
  · rintro _ _ ⟨q, u, e, rfl, rfl⟩
    cases e
    exact ⟨u, rfl, rfl⟩
  · rintro c h' ⟨_, e, _⟩
    cases e
theorem c7_ok {n : Nat} (o : OkW r) (hl : env.length = 32) (e2 : env[2]? = some (some (rwD r))) (e6 : env[6]? = some (some (.obj n))) (e : h[n]? = some (rwO r)) : c_7 (run (k+1)) env h = .ok (.nx env) h := by
  refine Wp.eq ?_
  simp only [wp_runB, wp_sSeq, wp_sIf, bT, wp_toB, wp_eOp, wp_eVar, wp_eC, wp_sRaise, wp_sNil, wp_sAsg, wp_sPar, wp_sPar3, wp_sRet, wp_sExpr, wp_sSub, wp_sSetF, wp_eLc, wp_iSeq, wp_iRange, wp_eFld, wp_eIx, wp_eTup, wp_eLst, wp_eIf, wp_eAnd, wp_eOr, wp_eNot, wp_bNot, wp_bAnd, wp_bOr, wp_aCons, wp_aNil, wp_eCall, wp_eFun, wp_eMeth, wp_arity, wp_eNeg, wp_eChain, List.getElem?_cons_zero, List.getElem?_cons_succ, List.set_cons_zero, List.set_cons_succ, List.length_cons, List.length_nil, put_nm, opCmp_int, opAdd_int, opSub_int, opEq_int, opInt_int, decide_true, decide_false, Bool.false_eq_true, if_false, if_true, true_and, and_true, List.map_cons, List.map_nil, Nat.zero_add, Nat.reduceAdd, c_7, e2, e6, wp_eMeth, ins_ok e (m := "threshold_text") (by decide +kernel), wp_arity, wp_eFun, wp_eq (text_ok (k := k) o e), wp_eq (ltext_ok (k := k) o), opNe_str, BEq.rfl, Bool.not_true]
  all_goals first | trivial | exact ⟨rfl, trivial⟩ | exact ⟨rfl, rfl⟩
theorem okD_rw (n : Nat) (hn : 0 < n) : okD n (rwD r) = true := by simp [rwD, okD, okDs, hn]
theorem c9_ok {n n2 : Nat} {rows : List Pr} (ok : Rise rows) (hn : rows.length ≤ 100) (hl : env.length = 32) (e2 : env[2]? = some (some (rwD r))) (e3 : env[3]? = some (some (.lst (rows.map pD)))) (e6 : env[6]? = some (some (.obj n))) (e7 : env[7]? = some (some (.lst ((runs r rows).map runD)))) (e8 : env[8]? = some (some (.obj n2))) (e : h[n]? = some (rwO r)) (ee : h[n2]? = some (rwO r)) :
    Wp (c_9 (run (k+2)) env) h (fun f h' => f = .nx env ∧ ∃ u, h' = h ++ u) (fun _ _ => False) := by
  have z5 : 5 ≤ sizeLine := by decide
  have r1 : opNe h (.tup [.str (kS r.k), .int r.lo, .int r.hi, .int r.mi, .int r.ba]) (rwD r) = some (.bl false) := opNe_refl (okD_rw 50 (by omega))
  simp only [wp_runB, wp_sSeq, wp_sIf, bT, wp_toB, wp_eOp, wp_eVar, wp_eC, wp_sRaise, wp_sNil, wp_sAsg, wp_sPar, wp_sPar3, wp_sRet, wp_sExpr, wp_sSub, wp_sSetF, wp_eLc, wp_iSeq, wp_iRange, wp_eFld, wp_eIx, wp_eTup, wp_eLst, wp_eIf, wp_eAnd, wp_eOr, wp_eNot, wp_bNot, wp_bAnd, wp_bOr, wp_aCons, wp_aNil, wp_eCall, wp_eFun, wp_eMeth, wp_arity, wp_eNeg, wp_eChain, List.getElem?_cons_zero, List.getElem?_cons_succ, List.set_cons_zero, List.set_cons_succ, List.length_cons, List.length_nil, put_nm, opCmp_int, opAdd_int, opSub_int, opEq_int, opInt_int, decide_true, decide_false, Bool.false_eq_true, if_false, if_true, true_and, and_true, List.map_cons, List.map_nil, Nat.zero_add, Nat.reduceAdd, c_9, e2, e8, fl_kind ee, fl_low ee, fl_high ee, fl_min ee, fl_back ee, z5, r1, e3, e6, e7, wp_eMeth, ins_ok e (m := "runs_of") (by decide +kernel), wp_arity, wp_eCall]
  refine Wp.impQ (runs_ok (k := k) (l := true) ok hn e) ?_
  rintro _ _ ⟨rfl, u, rfl⟩
  have r2 : opNe (h ++ u) (.lst ((runs r rows).map runD)) (.lst ((runs r rows).map runD)) = some (.bl false) := opNe_refl (by
    simp only [okD, okDs_runs _ 49 (by omega)]; rfl)
  simp only [wp_runB, wp_sSeq, wp_sIf, bT, wp_toB, wp_eOp, wp_eVar, wp_eC, wp_sRaise, wp_sNil, wp_sAsg, wp_sPar, wp_sPar3, wp_sRet, wp_sExpr, wp_sSub, wp_sSetF, wp_eLc, wp_iSeq, wp_iRange, wp_eFld, wp_eIx, wp_eTup, wp_eLst, wp_eIf, wp_eAnd, wp_eOr, wp_eNot, wp_bNot, wp_bAnd, wp_bOr, wp_aCons, wp_aNil, wp_eCall, wp_eFun, wp_eMeth, wp_arity, wp_eNeg, wp_eChain, List.getElem?_cons_zero, List.getElem?_cons_succ, List.set_cons_zero, List.set_cons_succ, List.length_cons, List.length_nil, put_nm, opCmp_int, opAdd_int, opSub_int, opEq_int, opInt_int, decide_true, decide_false, Bool.false_eq_true, if_false, if_true, true_and, and_true, List.map_cons, List.map_nil, Nat.zero_add, Nat.reduceAdd, opList_tup, r2]
  exact ⟨u, rfl⟩
end
end PyD.K02

namespace PyD.K02
open PySem PySem.Spec L2 PyD
open PyProof.Rows hiding St
open PyD (Env Pat)
section
variable {h u t : AH} {env : Env} {k : Nat} {a b m : Int}
variable {r : Rw} {n : Nat}
theorem range_v : range3 [.int (-4), .int 34, .int 3] = some ((List.range 13).map fun i : Nat => D.int (3 * (i : Int) - 4)) := by decide +kernel
theorem max3_ok (x y z : Int) : opMax3 h [.int x, .int y, .int z] = some (.int (max (max x y) z)) := rfl
theorem c13_ok (o : OkW r) (hl : env.length = 32) (e2 : env[2]? = some (some (rwD r))) (e6 : env[6]? = some (some (.obj n))) (e : h[n]? = some (rwO r)) :
    Wp (c_13 (run (k+2)) env) h (fun f h' => ∃ env', f = .nx env' ∧ h' = h ∧ Fr [9, 10] env env') (fun _ _ => False) := by
  have z3 : 3 ≤ sizeLine := by decide
  simp only [wp_runB, wp_sSeq, wp_sIf, bT, wp_toB, wp_eOp, wp_eVar, wp_eC, wp_sRaise, wp_sNil, wp_sAsg, wp_sPar, wp_sPar3, wp_sRet, wp_sExpr, wp_sSub, wp_sSetF, wp_eLc, wp_iSeq, wp_iRange, wp_eFld, wp_eIx, wp_eTup, wp_eLst, wp_eIf, wp_eAnd, wp_eOr, wp_eNot, wp_bNot, wp_bAnd, wp_bOr, wp_aCons, wp_aNil, wp_eCall, wp_eFun, wp_eMeth, wp_arity, wp_eNeg, wp_eChain, List.getElem?_cons_zero, List.getElem?_cons_succ, List.set_cons_zero, List.set_cons_succ, List.length_cons, List.length_nil, put_nm, opCmp_int, opAdd_int, opSub_int, opEq_int, opInt_int, decide_true, decide_false, Bool.false_eq_true, if_false, if_true, true_and, and_true, List.map_cons, List.map_nil, Nat.zero_add, Nat.reduceAdd, c_13, wp_sFor, wp_eNeg, range_v]
  refine Wp.impQ (wp_forAll (γ := Nat) (fun i : Nat => D.int (3 * (i : Int) - 4)) (List.range 13) (fun p env' h' => h' = h ∧ Fr [9, 10] env env') ?_ ⟨rfl, Fr.rfl'⟩) ?_
  · rintro p x s env' h' hp ⟨rfl, fr⟩
    refine ⟨_, put_nm _ _ _, ?_⟩
    generalize (3 * (x : Int) - 4) = v
    have hl' : env'.length = 32 := fr.1.trans hl
    have g2 := fr.get e2
    have g6 := fr.get e6
    rw [wp_sSeq]
    have p1 : c_10 (run (k+2)) (env'.set 9 (some (.int v))) h' = .ok (.nx ((env'.set 9 (some (.int v))).set 10 (some (.int (farV r v))))) h' := by
      refine Wp.eq ?_
      unfold farV
      simp only [wp_runB, wp_sSeq, wp_sIf, bT, wp_toB, wp_eOp, wp_eVar, wp_eC, wp_sRaise, wp_sNil, wp_sAsg, wp_sPar, wp_sPar3, wp_sRet, wp_sExpr, wp_sSub, wp_sSetF, wp_eLc, wp_iSeq, wp_iRange, wp_eFld, wp_eIx, wp_eTup, wp_eLst, wp_eIf, wp_eAnd, wp_eOr, wp_eNot, wp_bNot, wp_bAnd, wp_bOr, wp_aCons, wp_aNil, wp_eCall, wp_eFun, wp_eMeth, wp_arity, wp_eNeg, wp_eChain, List.getElem?_cons_zero, List.getElem?_cons_succ, List.set_cons_zero, List.set_cons_succ, List.length_cons, List.length_nil, put_nm, opCmp_int, opAdd_int, opSub_int, opEq_int, opInt_int, decide_true, decide_false, Bool.false_eq_true, if_false, if_true, true_and, and_true, List.map_cons, List.map_nil, Nat.zero_add, Nat.reduceAdd, c_10, get_set, List.length_set, hl', Nat.reduceLT, Nat.reduceEqDiff, g2, ix_rw0, ix_rw1, ix_rw2, eq_ab, eq_be, wp_eCall, opMax2_int, max3_ok]
      cases hk : r.k <;> simp
    rw [wp_eq p1]
    dsimp only
    have nr : opNe h' (.tup [.bl (badV r v), .bl (clrV r v), .int (farV r v)]) (.tup [.bl (badV r v), .bl (clrV r v), .int (farV r v)]) = some (.bl false) := opNe_refl (by simp [okD, okDs])
    simp only [wp_runB, wp_sSeq, wp_sIf, bT, wp_toB, wp_eOp, wp_eVar, wp_eC, wp_sRaise, wp_sNil, wp_sAsg, wp_sPar, wp_sPar3, wp_sRet, wp_sExpr, wp_sSub, wp_sSetF, wp_eLc, wp_iSeq, wp_iRange, wp_eFld, wp_eIx, wp_eTup, wp_eLst, wp_eIf, wp_eAnd, wp_eOr, wp_eNot, wp_bNot, wp_bAnd, wp_bOr, wp_aCons, wp_aNil, wp_eCall, wp_eFun, wp_eMeth, wp_arity, wp_eNeg, wp_eChain, List.getElem?_cons_zero, List.getElem?_cons_succ, List.set_cons_zero, List.set_cons_succ, List.length_cons, List.length_nil, put_nm, opCmp_int, opAdd_int, opSub_int, opEq_int, opInt_int, decide_true, decide_false, Bool.false_eq_true, if_false, if_true, true_and, and_true, List.map_cons, List.map_nil, Nat.zero_add, Nat.reduceAdd, c_12, get_set, List.length_set, hl', Nat.reduceLT, Nat.reduceEqDiff, g2, g6, wp_eMeth, ins_ok e (m := "is_beyond") (by decide +kernel), ins_ok e (m := "is_clear") (by decide +kernel), ins_ok e (m := "how_far") (by decide +kernel), wp_arity, wp_eq (beyond_ok (k := k+1) (v := v) e), wp_eq (clear_ok (k := k+1) (v := v) e), wp_eq (far_ok (k := k) (v := v) o e), wp_eFun, wp_eq (lbad_ok (k := k+1) (r := r) (v := v)), wp_eq (lclear_ok (k := k+1) (r := r) (v := v)), z3, nr]
    exact ⟨_, .inl rfl, (fr.set (by decide)).set (by decide)⟩
  · rintro _ h' ⟨env', rfl, rfl, fr⟩
    exact ⟨env', rfl, rfl, fr⟩
theorem c18_ok {rows : List Pr} (hr : Rise rows) (hn : rows.length ≤ 100) (hl : env.length = 32) (e1 : env[1]? = some (some (.obj 0))) (e2 : env[2]? = some (some (rwD r))) (e3 : env[3]? = some (some (.lst (rows.map pD)))) (e6 : env[6]? = some (some (.obj (n + 1)))) (e : t[n]? = some (rwO r)) :
    Wp (c_18 (run (k+3)) env) (dice a b m :: t) (fun f h' => ∃ env' u a' b' m', f = .nx env' ∧ h' = dice a' b' m' :: (t ++ u) ∧ Fr [11, 12, 13] env env') (fun _ _ => False) := by
  simp only [wp_runB, wp_sSeq, wp_sIf, bT, wp_toB, wp_eOp, wp_eVar, wp_eC, wp_sRaise, wp_sNil, wp_sAsg, wp_sPar, wp_sPar3, wp_sRet, wp_sExpr, wp_sSub, wp_sSetF, wp_eLc, wp_iSeq, wp_iRange, wp_eFld, wp_eIx, wp_eTup, wp_eLst, wp_eIf, wp_eAnd, wp_eOr, wp_eNot, wp_bNot, wp_bAnd, wp_bOr, wp_aCons, wp_aNil, wp_eCall, wp_eFun, wp_eMeth, wp_arity, wp_eNeg, wp_eChain, List.getElem?_cons_zero, List.getElem?_cons_succ, List.set_cons_zero, List.set_cons_succ, List.length_cons, List.length_nil, put_nm, opCmp_int, opAdd_int, opSub_int, opEq_int, opInt_int, decide_true, decide_false, Bool.false_eq_true, if_false, if_true, true_and, and_true, List.map_cons, List.map_nil, Nat.zero_add, Nat.reduceAdd, c_18, wp_sFor, range1_map (n := 4) (by omega), wipe1]
  refine ⟨by simp [sizeLine_eq], ?_⟩
  refine Wp.impQ (wp_lcAll (env := env.set 5 none) (fun h => ∃ a' b' m', h = dice a' b' m' :: t) (fun d => ∃ i : Int, d = .int i ∧ True) (fun _ _ => rfl) _ (fun x hx => ?_) _ ⟨a, b, m, rfl⟩) ?_
  · obtain ⟨i, _, rfl⟩ := List.mem_map.mp hx
    refine ⟨(env.set 5 none).set 5 (some (.int i)), put_nm _ _ _, fun h ⟨a', b', m', e⟩ => ⟨rfl, ?_⟩⟩
    subst e
    simp only [wp_runB, wp_sSeq, wp_sIf, bT, wp_toB, wp_eOp, wp_eVar, wp_eC, wp_sRaise, wp_sNil, wp_sAsg, wp_sPar, wp_sPar3, wp_sRet, wp_sExpr, wp_sSub, wp_sSetF, wp_eLc, wp_iSeq, wp_iRange, wp_eFld, wp_eIx, wp_eTup, wp_eLst, wp_eIf, wp_eAnd, wp_eOr, wp_eNot, wp_bNot, wp_bAnd, wp_bOr, wp_aCons, wp_aNil, wp_eCall, wp_eFun, wp_eMeth, wp_arity, wp_eNeg, wp_eChain, List.getElem?_cons_zero, List.getElem?_cons_succ, List.set_cons_zero, List.set_cons_succ, List.length_cons, List.length_nil, put_nm, opCmp_int, opAdd_int, opSub_int, opEq_int, opInt_int, decide_true, decide_false, Bool.false_eq_true, if_false, if_true, true_and, and_true, List.map_cons, List.map_nil, Nat.zero_add, Nat.reduceAdd, get_set, List.length_set, hl, Nat.reduceLT, Nat.reduceEqDiff, e1, wp_eFun, wp_arity]
    refine Wp.impQ (roll_ok (by decide) (by decide)) ?_
    rintro _ _ ⟨r2, a2, b2, m2, rfl, h3, h4, rfl⟩
    exact ⟨⟨r2, rfl⟩, a2, b2, m2, rfl⟩
  · rintro ys h' ⟨hly, hp, a2, b2, m2, rfl⟩
    obtain ⟨sp, rfl, _⟩ := all_mapP hp
    simp only [wp_runB, wp_sSeq, wp_sIf, bT, wp_toB, wp_eOp, wp_eVar, wp_eC, wp_sRaise, wp_sNil, wp_sAsg, wp_sPar, wp_sPar3, wp_sRet, wp_sExpr, wp_sSub, wp_sSetF, wp_eLc, wp_iSeq, wp_iRange, wp_eFld, wp_eIx, wp_eTup, wp_eLst, wp_eIf, wp_eAnd, wp_eOr, wp_eNot, wp_bNot, wp_bAnd, wp_bOr, wp_aCons, wp_aNil, wp_eCall, wp_eFun, wp_eMeth, wp_arity, wp_eNeg, wp_eChain, List.getElem?_cons_zero, List.getElem?_cons_succ, List.set_cons_zero, List.set_cons_succ, List.length_cons, List.length_nil, put_nm, opCmp_int, opAdd_int, opSub_int, opEq_int, opInt_int, decide_true, decide_false, Bool.false_eq_true, if_false, if_true, true_and, and_true, List.map_cons, List.map_nil, Nat.zero_add, Nat.reduceAdd, src_lst]
    have eH : (dice a2 b2 m2 :: t)[n + 1]? = some (rwO r) := by rw [List.getElem?_cons_succ]; exact e
    generalize hH : dice a2 b2 m2 :: t = H at *
    refine Wp.impQ (wp_forAll (γ := Int) D.int sp (fun p env' h' => (∃ u, h' = H ++ u) ∧ Fr [11, 12, 13] env env') ?_ ⟨⟨[], by simp⟩, Fr.rfl'⟩) ?_
    · rintro p v s env' h' hp2 ⟨⟨u, rfl⟩, fr⟩
      refine ⟨_, put_nm _ _ _, ?_⟩
      have hl' : env'.length = 32 := fr.1.trans hl
      have g2 := fr.get e2
      have g3 := fr.get e3
      have g6 := fr.get e6
      have hul := upto_len v rows
      rw [wp_sSeq]
      have p1 : c_14 (run (k+3)) (env'.set 11 (some (.int v))) (H ++ u) = .ok (.nx ((env'.set 11 (some (.int v))).set 12 (some (.lst ((runs r (upto v rows)).map runD))))) (H ++ u) := by
        refine Wp.eq ?_
        simp only [wp_runB, wp_sSeq, wp_sIf, bT, wp_toB, wp_eOp, wp_eVar, wp_eC, wp_sRaise, wp_sNil, wp_sAsg, wp_sPar, wp_sPar3, wp_sRet, wp_sExpr, wp_sSub, wp_sSetF, wp_eLc, wp_iSeq, wp_iRange, wp_eFld, wp_eIx, wp_eTup, wp_eLst, wp_eIf, wp_eAnd, wp_eOr, wp_eNot, wp_bNot, wp_bAnd, wp_bOr, wp_aCons, wp_aNil, wp_eCall, wp_eFun, wp_eMeth, wp_arity, wp_eNeg, wp_eChain, List.getElem?_cons_zero, List.getElem?_cons_succ, List.set_cons_zero, List.set_cons_succ, List.length_cons, List.length_nil, put_nm, opCmp_int, opAdd_int, opSub_int, opEq_int, opInt_int, decide_true, decide_false, Bool.false_eq_true, if_false, if_true, true_and, and_true, List.map_cons, List.map_nil, Nat.zero_add, Nat.reduceAdd, c_14, get_set, List.length_set, hl', Nat.reduceLT, Nat.reduceEqDiff, g2, g3, wp_eFun, wp_arity, src_lst, wipe1]
        refine ⟨by rw [List.length_map, sizeLine_eq]; omega, ?_⟩
        rw [wp_eq (lcGo_map (γ := Pr) pD (fun q => decide (q.1 ≤ v)) pD rfl (fun q _ => ⟨_, put_nm _ _ _, Wp.eq ?_, fun _ => Wp.eq ?_⟩))]
        · have L := lruns_ok (k := k+1) (r := r) (h := H ++ u) (rows := upto v rows) (by omega)
          unfold upto at L
          rw [wp_eq L]
          exact ⟨rfl, rfl⟩
        · have i0 : ixD (H ++ u) (pD q) (.int 0) = some (.int q.1) := rfl
          simp only [wp_runB, wp_sSeq, wp_sIf, bT, wp_toB, wp_eOp, wp_eVar, wp_eC, wp_sRaise, wp_sNil, wp_sAsg, wp_sPar, wp_sPar3, wp_sRet, wp_sExpr, wp_sSub, wp_sSetF, wp_eLc, wp_iSeq, wp_iRange, wp_eFld, wp_eIx, wp_eTup, wp_eLst, wp_eIf, wp_eAnd, wp_eOr, wp_eNot, wp_bNot, wp_bAnd, wp_bOr, wp_aCons, wp_aNil, wp_eCall, wp_eFun, wp_eMeth, wp_arity, wp_eNeg, wp_eChain, List.getElem?_cons_zero, List.getElem?_cons_succ, List.set_cons_zero, List.set_cons_succ, List.length_cons, List.length_nil, put_nm, opCmp_int, opAdd_int, opSub_int, opEq_int, opInt_int, decide_true, decide_false, Bool.false_eq_true, if_false, if_true, true_and, and_true, List.map_cons, List.map_nil, Nat.zero_add, Nat.reduceAdd, get_set, List.length_set, hl', Nat.reduceLT, Nat.reduceEqDiff, i0]
          all_goals first | trivial | exact ⟨rfl, trivial⟩ | exact ⟨rfl, rfl⟩
        · simp only [wp_runB, wp_sSeq, wp_sIf, bT, wp_toB, wp_eOp, wp_eVar, wp_eC, wp_sRaise, wp_sNil, wp_sAsg, wp_sPar, wp_sPar3, wp_sRet, wp_sExpr, wp_sSub, wp_sSetF, wp_eLc, wp_iSeq, wp_iRange, wp_eFld, wp_eIx, wp_eTup, wp_eLst, wp_eIf, wp_eAnd, wp_eOr, wp_eNot, wp_bNot, wp_bAnd, wp_bOr, wp_aCons, wp_aNil, wp_eCall, wp_eFun, wp_eMeth, wp_arity, wp_eNeg, wp_eChain, List.getElem?_cons_zero, List.getElem?_cons_succ, List.set_cons_zero, List.set_cons_succ, List.length_cons, List.length_nil, put_nm, opCmp_int, opAdd_int, opSub_int, opEq_int, opInt_int, decide_true, decide_false, Bool.false_eq_true, if_false, if_true, true_and, and_true, List.map_cons, List.map_nil, Nat.zero_add, Nat.reduceAdd, get_set, List.length_set, hl', Nat.reduceLT, Nat.reduceEqDiff]
          all_goals first | trivial | exact ⟨rfl, trivial⟩ | exact ⟨rfl, rfl⟩
      rw [wp_eq p1]
      dsimp only
      rw [wp_sSeq]
      have p2 : c_15 (run (k+3)) ((env'.set 11 (some (.int v))).set 12 (some (.lst ((runs r (upto v rows)).map runD)))) (H ++ u) = .ok (.nx (((env'.set 11 (some (.int v))).set 12 (some (.lst ((runs r (upto v rows)).map runD)))).set 13 (some (.str (stF (runs r (upto v rows))))))) (H ++ u) := by
        refine Wp.eq ?_
        generalize runs r (upto v rows) = R
        have en := opEq_nilG (h := H ++ u) (d := .lst (R.map runD)) (xs := R.map runD) (.inl rfl) (okDs_runs R 50 (by omega))
        have il : R ≠ [] → ixD (H ++ u) (.lst (R.map runD)) (.int (-1)) = some (runD (R.getLastD (0, none, none))) := fun z => atI_last runD _ R z
        have z0 : 0 ≤ sizeLine := by decide
        simp only [wp_runB, wp_sSeq, wp_sIf, bT, wp_toB, wp_eOp, wp_eVar, wp_eC, wp_sRaise, wp_sNil, wp_sAsg, wp_sPar, wp_sPar3, wp_sRet, wp_sExpr, wp_sSub, wp_sSetF, wp_eLc, wp_iSeq, wp_iRange, wp_eFld, wp_eIx, wp_eTup, wp_eLst, wp_eIf, wp_eAnd, wp_eOr, wp_eNot, wp_bNot, wp_bAnd, wp_bOr, wp_aCons, wp_aNil, wp_eCall, wp_eFun, wp_eMeth, wp_arity, wp_eNeg, wp_eChain, List.getElem?_cons_zero, List.getElem?_cons_succ, List.set_cons_zero, List.set_cons_succ, List.length_cons, List.length_nil, put_nm, opCmp_int, opAdd_int, opSub_int, opEq_int, opInt_int, decide_true, decide_false, Bool.false_eq_true, if_false, if_true, true_and, and_true, List.map_cons, List.map_nil, Nat.zero_add, Nat.reduceAdd, c_15, get_set, List.length_set, hl', Nat.reduceLT, Nat.reduceEqDiff, z0, en, List.isEmpty_map, wp_eNeg]
        unfold stF
        cases R with
        | nil =>
          simp only [List.isEmpty_nil, if_true]
          all_goals first | trivial | exact ⟨rfl, trivial⟩ | exact ⟨rfl, rfl⟩
        | cons x R =>
          have il := il (by simp)
          generalize (x :: R).getLastD (0, none, none) = q at *
          rw [List.map_cons] at il
          simp only [List.isEmpty_cons, Bool.false_eq_true, if_false]
          simp only [wp_runB, wp_sSeq, wp_sIf, bT, wp_toB, wp_eOp, wp_eVar, wp_eC, wp_sRaise, wp_sNil, wp_sAsg, wp_sPar, wp_sPar3, wp_sRet, wp_sExpr, wp_sSub, wp_sSetF, wp_eLc, wp_iSeq, wp_iRange, wp_eFld, wp_eIx, wp_eTup, wp_eLst, wp_eIf, wp_eAnd, wp_eOr, wp_eNot, wp_bNot, wp_bAnd, wp_bOr, wp_aCons, wp_aNil, wp_eCall, wp_eFun, wp_eMeth, wp_arity, wp_eNeg, wp_eChain, List.getElem?_cons_zero, List.getElem?_cons_succ, List.set_cons_zero, List.set_cons_succ, List.length_cons, List.length_nil, put_nm, opCmp_int, opAdd_int, opSub_int, opEq_int, opInt_int, decide_true, decide_false, Bool.false_eq_true, if_false, if_true, true_and, and_true, List.map_cons, List.map_nil, Nat.zero_add, Nat.reduceAdd, get_set, List.length_set, hl', Nat.reduceLT, Nat.reduceEqDiff, il, ix_run2, isn_o, wp_eNeg]
          cases c1 : q.2.2.isSome with
          | true =>
            simp only [if_true]
            all_goals first | trivial | exact ⟨rfl, trivial⟩ | exact ⟨rfl, rfl⟩
          | false =>
            simp only [Bool.false_eq_true, if_false]
            simp only [wp_runB, wp_sSeq, wp_sIf, bT, wp_toB, wp_eOp, wp_eVar, wp_eC, wp_sRaise, wp_sNil, wp_sAsg, wp_sPar, wp_sPar3, wp_sRet, wp_sExpr, wp_sSub, wp_sSetF, wp_eLc, wp_iSeq, wp_iRange, wp_eFld, wp_eIx, wp_eTup, wp_eLst, wp_eIf, wp_eAnd, wp_eOr, wp_eNot, wp_bNot, wp_bAnd, wp_bOr, wp_aCons, wp_aNil, wp_eCall, wp_eFun, wp_eMeth, wp_arity, wp_eNeg, wp_eChain, List.getElem?_cons_zero, List.getElem?_cons_succ, List.set_cons_zero, List.set_cons_succ, List.length_cons, List.length_nil, put_nm, opCmp_int, opAdd_int, opSub_int, opEq_int, opInt_int, decide_true, decide_false, Bool.false_eq_true, if_false, if_true, true_and, and_true, List.map_cons, List.map_nil, Nat.zero_add, Nat.reduceAdd, get_set, List.length_set, hl', Nat.reduceLT, Nat.reduceEqDiff, il, ix_run1, is_o, wp_eNeg]
            cases c2 : q.2.1.isSome with
            | true =>
              simp only [Bool.not_true, Bool.false_eq_true, if_false, if_true]
              all_goals first | trivial | exact ⟨rfl, trivial⟩ | exact ⟨rfl, rfl⟩
            | false =>
              simp only [Bool.not_false, Bool.false_eq_true, if_false, if_true]
              all_goals first | trivial | exact ⟨rfl, trivial⟩ | exact ⟨rfl, rfl⟩
      rw [wp_eq p2]
      dsimp only
      have e' := get_app eH u
      simp only [wp_runB, wp_sSeq, wp_sIf, bT, wp_toB, wp_eOp, wp_eVar, wp_eC, wp_sRaise, wp_sNil, wp_sAsg, wp_sPar, wp_sPar3, wp_sRet, wp_sExpr, wp_sSub, wp_sSetF, wp_eLc, wp_iSeq, wp_iRange, wp_eFld, wp_eIx, wp_eTup, wp_eLst, wp_eIf, wp_eAnd, wp_eOr, wp_eNot, wp_bNot, wp_bAnd, wp_bOr, wp_aCons, wp_aNil, wp_eCall, wp_eFun, wp_eMeth, wp_arity, wp_eNeg, wp_eChain, List.getElem?_cons_zero, List.getElem?_cons_succ, List.set_cons_zero, List.set_cons_succ, List.length_cons, List.length_nil, put_nm, opCmp_int, opAdd_int, opSub_int, opEq_int, opInt_int, decide_true, decide_false, Bool.false_eq_true, if_false, if_true, true_and, and_true, List.map_cons, List.map_nil, Nat.zero_add, Nat.reduceAdd, c_17, get_set, List.length_set, hl', Nat.reduceLT, Nat.reduceEqDiff, g3, g6, wp_eMeth, ins_ok e' (m := "state_at") (by decide +kernel), wp_arity]
      refine Wp.impQ (state_ok (k := k) (stamp := v) hr hn e') ?_
      rintro _ _ ⟨rfl, u2, rfl⟩
      simp only [wp_runB, wp_sSeq, wp_sIf, bT, wp_toB, wp_eOp, wp_eVar, wp_eC, wp_sRaise, wp_sNil, wp_sAsg, wp_sPar, wp_sPar3, wp_sRet, wp_sExpr, wp_sSub, wp_sSetF, wp_eLc, wp_iSeq, wp_iRange, wp_eFld, wp_eIx, wp_eTup, wp_eLst, wp_eIf, wp_eAnd, wp_eOr, wp_eNot, wp_bNot, wp_bAnd, wp_bOr, wp_aCons, wp_aNil, wp_eCall, wp_eFun, wp_eMeth, wp_arity, wp_eNeg, wp_eChain, List.getElem?_cons_zero, List.getElem?_cons_succ, List.set_cons_zero, List.set_cons_succ, List.length_cons, List.length_nil, put_nm, opCmp_int, opAdd_int, opSub_int, opEq_int, opInt_int, decide_true, decide_false, Bool.false_eq_true, if_false, if_true, true_and, and_true, List.map_cons, List.map_nil, Nat.zero_add, Nat.reduceAdd, get_set, List.length_set, hl', Nat.reduceLT, Nat.reduceEqDiff, opNe_str, BEq.rfl, Bool.not_true]
      exact ⟨_, .inl rfl, ⟨u ++ u2, by rw [List.append_assoc]⟩, ((fr.set (by decide)).set (by decide)).set (by decide)⟩
    · rintro _ h' ⟨env', rfl, ⟨u, rfl⟩, fr⟩
      subst hH
      exact ⟨env', u, a2, b2, m2, rfl, rfl, fr⟩
theorem c19_ok {now : Int} (hl : env.length = 32) (e1 : env[1]? = some (some (.obj 0))) (e4 : env[4]? = some (some (.int now))) : Wp (c_19 (run (k+1)) env) (dice a b m :: t) (fun f h' => ∃ la a' b' m', f = .nx (env.set 14 (some (.int la))) ∧ now ≤ la ∧ h' = dice a' b' m' :: t) (fun _ _ => False) := by
  simp only [wp_runB, wp_sSeq, wp_sIf, bT, wp_toB, wp_eOp, wp_eVar, wp_eC, wp_sRaise, wp_sNil, wp_sAsg, wp_sPar, wp_sPar3, wp_sRet, wp_sExpr, wp_sSub, wp_sSetF, wp_eLc, wp_iSeq, wp_iRange, wp_eFld, wp_eIx, wp_eTup, wp_eLst, wp_eIf, wp_eAnd, wp_eOr, wp_eNot, wp_bNot, wp_bAnd, wp_bOr, wp_aCons, wp_aNil, wp_eCall, wp_eFun, wp_eMeth, wp_arity, wp_eNeg, wp_eChain, List.getElem?_cons_zero, List.getElem?_cons_succ, List.set_cons_zero, List.set_cons_succ, List.length_cons, List.length_nil, put_nm, opCmp_int, opAdd_int, opSub_int, opEq_int, opInt_int, decide_true, decide_false, Bool.false_eq_true, if_false, if_true, true_and, and_true, List.map_cons, List.map_nil, Nat.zero_add, Nat.reduceAdd, c_19, e1, e4, wp_eFun, wp_arity]
  refine Wp.impQ (roll_ok (by decide) (by decide)) ?_
  rintro _ _ ⟨r1, a1, b1, m1, rfl, h1, h2, rfl⟩
  try simp only [wp_runB, wp_sSeq, wp_sIf, bT, wp_toB, wp_eOp, wp_eVar, wp_eC, wp_sRaise, wp_sNil, wp_sAsg, wp_sPar, wp_sPar3, wp_sRet, wp_sExpr, wp_sSub, wp_sSetF, wp_eLc, wp_iSeq, wp_iRange, wp_eFld, wp_eIx, wp_eTup, wp_eLst, wp_eIf, wp_eAnd, wp_eOr, wp_eNot, wp_bNot, wp_bAnd, wp_bOr, wp_aCons, wp_aNil, wp_eCall, wp_eFun, wp_eMeth, wp_arity, wp_eNeg, wp_eChain, List.getElem?_cons_zero, List.getElem?_cons_succ, List.set_cons_zero, List.set_cons_succ, List.length_cons, List.length_nil, put_nm, opCmp_int, opAdd_int, opSub_int, opEq_int, opInt_int, decide_true, decide_false, Bool.false_eq_true, if_false, if_true, true_and, and_true, List.map_cons, List.map_nil, Nat.zero_add, Nat.reduceAdd]
  exact ⟨_, a1, b1, m1, rfl, by omega, rfl⟩
theorem c20_ok {R : List Run} {la : Int} (hn : R.length ≤ 1000) (hl : env.length = 32) (e7 : env[7]? = some (some (.lst (R.map runD)))) (e14 : env[14]? = some (some (.int la))) : c_20 (run k) env h = .ok (.nx (env.set 15 (some (.int (firedF la R))))) h := by
  refine Wp.eq ?_
  simp only [wp_runB, wp_sSeq, wp_sIf, bT, wp_toB, wp_eOp, wp_eVar, wp_eC, wp_sRaise, wp_sNil, wp_sAsg, wp_sPar, wp_sPar3, wp_sRet, wp_sExpr, wp_sSub, wp_sSetF, wp_eLc, wp_iSeq, wp_iRange, wp_eFld, wp_eIx, wp_eTup, wp_eLst, wp_eIf, wp_eAnd, wp_eOr, wp_eNot, wp_bNot, wp_bAnd, wp_bOr, wp_aCons, wp_aNil, wp_eCall, wp_eFun, wp_eMeth, wp_arity, wp_eNeg, wp_eChain, List.getElem?_cons_zero, List.getElem?_cons_succ, List.set_cons_zero, List.set_cons_succ, List.length_cons, List.length_nil, put_nm, opCmp_int, opAdd_int, opSub_int, opEq_int, opInt_int, decide_true, decide_false, Bool.false_eq_true, if_false, if_true, true_and, and_true, List.map_cons, List.map_nil, Nat.zero_add, Nat.reduceAdd, c_20, e7, src_lst]
  refine ⟨by rw [List.length_map, sizeLine_eq]; omega, ?_⟩
  rw [wp_eq (lcGo_map (γ := Run) runD fp (fun q => .int (fg la q)) rfl (fun q _ => ⟨_, put_run, Wp.eq ?_, fun hq => Wp.eq ?_⟩))]
  · have os := opSum_ints (h := h) ((R.filter fp).map (fg la))
    rw [List.map_map] at os
    have e : ((R.filter fp).map fun q => D.int (fg la q)) = ((R.filter fp).map (D.int ∘ fg la)) := rfl
    rw [e]
    simp only [wp_runB, wp_sSeq, wp_sIf, bT, wp_toB, wp_eOp, wp_eVar, wp_eC, wp_sRaise, wp_sNil, wp_sAsg, wp_sPar, wp_sPar3, wp_sRet, wp_sExpr, wp_sSub, wp_sSetF, wp_eLc, wp_iSeq, wp_iRange, wp_eFld, wp_eIx, wp_eTup, wp_eLst, wp_eIf, wp_eAnd, wp_eOr, wp_eNot, wp_bNot, wp_bAnd, wp_bOr, wp_aCons, wp_aNil, wp_eCall, wp_eFun, wp_eMeth, wp_arity, wp_eNeg, wp_eChain, List.getElem?_cons_zero, List.getElem?_cons_succ, List.set_cons_zero, List.set_cons_succ, List.length_cons, List.length_nil, put_nm, opCmp_int, opAdd_int, opSub_int, opEq_int, opInt_int, decide_true, decide_false, Bool.false_eq_true, if_false, if_true, true_and, and_true, List.map_cons, List.map_nil, Nat.zero_add, Nat.reduceAdd, wp_eCall, os]
    unfold firedF
    all_goals first | trivial | exact ⟨rfl, trivial⟩ | exact ⟨rfl, rfl⟩
  · simp only [wp_runB, wp_sSeq, wp_sIf, bT, wp_toB, wp_eOp, wp_eVar, wp_eC, wp_sRaise, wp_sNil, wp_sAsg, wp_sPar, wp_sPar3, wp_sRet, wp_sExpr, wp_sSub, wp_sSetF, wp_eLc, wp_iSeq, wp_iRange, wp_eFld, wp_eIx, wp_eTup, wp_eLst, wp_eIf, wp_eAnd, wp_eOr, wp_eNot, wp_bNot, wp_bAnd, wp_bOr, wp_aCons, wp_aNil, wp_eCall, wp_eFun, wp_eMeth, wp_arity, wp_eNeg, wp_eChain, List.getElem?_cons_zero, List.getElem?_cons_succ, List.set_cons_zero, List.set_cons_succ, List.length_cons, List.length_nil, put_nm, opCmp_int, opAdd_int, opSub_int, opEq_int, opInt_int, decide_true, decide_false, Bool.false_eq_true, if_false, if_true, true_and, and_true, List.map_cons, List.map_nil, Nat.zero_add, Nat.reduceAdd, wipeE, List.foldl_cons, List.foldl_nil, get_set, List.length_set, hl, Nat.reduceLT, Nat.reduceEqDiff, isn_o]
    unfold fp
    all_goals first | trivial | exact ⟨rfl, trivial⟩ | exact ⟨rfl, rfl⟩
  · obtain ⟨s0, f0, c0⟩ := q
    cases f0 with
    | none => cases hq
    | some f0 =>
      cases c0 with
      | none =>
        simp only [wp_runB, wp_sSeq, wp_sIf, bT, wp_toB, wp_eOp, wp_eVar, wp_eC, wp_sRaise, wp_sNil, wp_sAsg, wp_sPar, wp_sPar3, wp_sRet, wp_sExpr, wp_sSub, wp_sSetF, wp_eLc, wp_iSeq, wp_iRange, wp_eFld, wp_eIx, wp_eTup, wp_eLst, wp_eIf, wp_eAnd, wp_eOr, wp_eNot, wp_bNot, wp_bAnd, wp_bOr, wp_aCons, wp_aNil, wp_eCall, wp_eFun, wp_eMeth, wp_arity, wp_eNeg, wp_eChain, List.getElem?_cons_zero, List.getElem?_cons_succ, List.set_cons_zero, List.set_cons_succ, List.length_cons, List.length_nil, put_nm, opCmp_int, opAdd_int, opSub_int, opEq_int, opInt_int, decide_true, decide_false, Bool.false_eq_true, if_false, if_true, true_and, and_true, List.map_cons, List.map_nil, Nat.zero_add, Nat.reduceAdd, wipeE, List.foldl_cons, List.foldl_nil, get_set, List.length_set, hl, Nat.reduceLT, Nat.reduceEqDiff, oD, isn_nn, isn_in, e14]
        all_goals first | trivial | exact ⟨rfl, trivial⟩ | exact ⟨rfl, rfl⟩
      | some c0 =>
        simp only [wp_runB, wp_sSeq, wp_sIf, bT, wp_toB, wp_eOp, wp_eVar, wp_eC, wp_sRaise, wp_sNil, wp_sAsg, wp_sPar, wp_sPar3, wp_sRet, wp_sExpr, wp_sSub, wp_sSetF, wp_eLc, wp_iSeq, wp_iRange, wp_eFld, wp_eIx, wp_eTup, wp_eLst, wp_eIf, wp_eAnd, wp_eOr, wp_eNot, wp_bNot, wp_bAnd, wp_bOr, wp_aCons, wp_aNil, wp_eCall, wp_eFun, wp_eMeth, wp_arity, wp_eNeg, wp_eChain, List.getElem?_cons_zero, List.getElem?_cons_succ, List.set_cons_zero, List.set_cons_succ, List.length_cons, List.length_nil, put_nm, opCmp_int, opAdd_int, opSub_int, opEq_int, opInt_int, decide_true, decide_false, Bool.false_eq_true, if_false, if_true, true_and, and_true, List.map_cons, List.map_nil, Nat.zero_add, Nat.reduceAdd, wipeE, List.foldl_cons, List.foldl_nil, get_set, List.length_set, hl, Nat.reduceLT, Nat.reduceEqDiff, oD, isn_nn, isn_in]
        all_goals first | trivial | exact ⟨rfl, trivial⟩ | exact ⟨rfl, rfl⟩
theorem c22_ok {rows : List Pr} {la : Int} (hr : Rise rows) (hn : rows.length ≤ 100) (hla : ∀ q ∈ rows, q.1 ≤ la) (hl : env.length = 32) (e3 : env[3]? = some (some (.lst (rows.map pD)))) (e6 : env[6]? = some (some (.obj n))) (e14 : env[14]? = some (some (.int la))) (e15 : env[15]? = some (some (.int (firedF la (runs r rows))))) (e : h[n]? = some (rwO r)) :
    Wp (c_22 (run (k+3)) env) h (fun f h' => f = .nx env ∧ ∃ u, h' = h ++ u) (fun _ _ => False) := by
  simp only [wp_runB, wp_sSeq, wp_sIf, bT, wp_toB, wp_eOp, wp_eVar, wp_eC, wp_sRaise, wp_sNil, wp_sAsg, wp_sPar, wp_sPar3, wp_sRet, wp_sExpr, wp_sSub, wp_sSetF, wp_eLc, wp_iSeq, wp_iRange, wp_eFld, wp_eIx, wp_eTup, wp_eLst, wp_eIf, wp_eAnd, wp_eOr, wp_eNot, wp_bNot, wp_bAnd, wp_bOr, wp_aCons, wp_aNil, wp_eCall, wp_eFun, wp_eMeth, wp_arity, wp_eNeg, wp_eChain, List.getElem?_cons_zero, List.getElem?_cons_succ, List.set_cons_zero, List.set_cons_succ, List.length_cons, List.length_nil, put_nm, opCmp_int, opAdd_int, opSub_int, opEq_int, opInt_int, decide_true, decide_false, Bool.false_eq_true, if_false, if_true, true_and, and_true, List.map_cons, List.map_nil, Nat.zero_add, Nat.reduceAdd, c_22, e3, e6, e14, wp_eFun, wp_arity]
  refine Wp.impQ (minutes_ok (k := k) hr hn hla e) ?_
  rintro _ _ ⟨rfl, u, rfl⟩
  simp only [wp_runB, wp_sSeq, wp_sIf, bT, wp_toB, wp_eOp, wp_eVar, wp_eC, wp_sRaise, wp_sNil, wp_sAsg, wp_sPar, wp_sPar3, wp_sRet, wp_sExpr, wp_sSub, wp_sSetF, wp_eLc, wp_iSeq, wp_iRange, wp_eFld, wp_eIx, wp_eTup, wp_eLst, wp_eIf, wp_eAnd, wp_eOr, wp_eNot, wp_bNot, wp_bAnd, wp_bOr, wp_aCons, wp_aNil, wp_eCall, wp_eFun, wp_eMeth, wp_arity, wp_eNeg, wp_eChain, List.getElem?_cons_zero, List.getElem?_cons_succ, List.set_cons_zero, List.set_cons_succ, List.length_cons, List.length_nil, put_nm, opCmp_int, opAdd_int, opSub_int, opEq_int, opInt_int, decide_true, decide_false, Bool.false_eq_true, if_false, if_true, true_and, and_true, List.map_cons, List.map_nil, Nat.zero_add, Nat.reduceAdd, e15, opNe_int_same]
  exact ⟨u, rfl⟩
end
end PyD.K02

namespace PyD.K02
open PySem PySem.Spec L2 PyD
open PyProof.Rows hiding St
open PyD (Env Pat)
section
variable {h u t : AH} {env : Env} {k : Nat} {a b m : Int}
variable {r : Rw} {n : Nat}
theorem wp_bIf {c f g : Env → M Bool} {Q : Bool → AH → Prop} {E : Nat → AH → Prop} : Wp (bIf c f g env) h Q E = Wp (c env) h (fun t h1 => if t = true then Wp (f env) h1 Q E else Wp (g env) h1 Q E) E := by
  unfold bIf; rw [wp_bnd]; congr 1; funext t h1; cases t <;> rfl
theorem c23_ok {rows : List Pr} (hn : rows.length ≤ 100) (hl : env.length = 32) (e1 : env[1]? = some (some (.obj 0))) (e3 : env[3]? = some (some (.lst (rows.map pD)))) : Wp (c_23 (run (k+1)) env) (dice a b m :: t) (fun f h' => ∃ (most : Int) (x : Kd) (a' b' m' : Int), f = .nx (((env.set 16 (some (.lst ((rows.map (·.2)).map D.int)))).set 17 (some (.int most))).set 18 (some (.str (kS x)))) ∧ 0 ≤ most ∧ x ≠ .ou ∧ h' = dice a' b' m' :: t) (fun _ _ => False) := by
  have z2 : 2 ≤ sizeLine := by decide
  have z3 : 3 ≤ sizeLine := by decide
  have mp : (rows.filter fun _ => true).map (fun q : Pr => D.int q.2) = (rows.map (·.2)).map D.int := by rw [filter_tt, List.map_map]; rfl
  simp only [wp_runB, wp_sSeq, wp_sIf, bT, wp_toB, wp_eOp, wp_eVar, wp_eC, wp_sRaise, wp_sNil, wp_sAsg, wp_sPar, wp_sPar3, wp_sRet, wp_sExpr, wp_sSub, wp_sSetF, wp_eLc, wp_iSeq, wp_iRange, wp_eFld, wp_eIx, wp_eTup, wp_eLst, wp_eIf, wp_eAnd, wp_eOr, wp_eNot, wp_bNot, wp_bAnd, wp_bOr, wp_aCons, wp_aNil, wp_eCall, wp_eFun, wp_eMeth, wp_arity, wp_eNeg, wp_eChain, List.getElem?_cons_zero, List.getElem?_cons_succ, List.set_cons_zero, List.set_cons_succ, List.length_cons, List.length_nil, put_nm, opCmp_int, opAdd_int, opSub_int, opEq_int, opInt_int, decide_true, decide_false, Bool.false_eq_true, if_false, if_true, true_and, and_true, List.map_cons, List.map_nil, Nat.zero_add, Nat.reduceAdd, c_23, e3, src_lst, wipe2]
  refine ⟨by rw [List.length_map, sizeLine_eq]; omega, ?_⟩
  rw [wp_eq (lcGo_map (γ := Pr) pD (fun _ => true) (fun q => D.int q.2) rfl (fun q _ => ⟨_, put_pD, rfl, fun _ => Wp.eq ?_⟩))]
  · rw [mp]
    simp only [wp_runB, wp_sSeq, wp_sIf, bT, wp_toB, wp_eOp, wp_eVar, wp_eC, wp_sRaise, wp_sNil, wp_sAsg, wp_sPar, wp_sPar3, wp_sRet, wp_sExpr, wp_sSub, wp_sSetF, wp_eLc, wp_iSeq, wp_iRange, wp_eFld, wp_eIx, wp_eTup, wp_eLst, wp_eIf, wp_eAnd, wp_eOr, wp_eNot, wp_bNot, wp_bAnd, wp_bOr, wp_aCons, wp_aNil, wp_eCall, wp_eFun, wp_eMeth, wp_arity, wp_eNeg, wp_eChain, List.getElem?_cons_zero, List.getElem?_cons_succ, List.set_cons_zero, List.set_cons_succ, List.length_cons, List.length_nil, put_nm, opCmp_int, opAdd_int, opSub_int, opEq_int, opInt_int, decide_true, decide_false, Bool.false_eq_true, if_false, if_true, true_and, and_true, List.map_cons, List.map_nil, Nat.zero_add, Nat.reduceAdd, e1, wp_eFun, wp_arity]
    refine Wp.impQ (roll_ok (by decide) (by decide)) ?_
    rintro _ _ ⟨r1, a1, b1, m1, rfl, p1, q1, rfl⟩
    simp only [wp_runB, wp_sSeq, wp_sIf, bT, wp_toB, wp_eOp, wp_eVar, wp_eC, wp_sRaise, wp_sNil, wp_sAsg, wp_sPar, wp_sPar3, wp_sRet, wp_sExpr, wp_sSub, wp_sSetF, wp_eLc, wp_iSeq, wp_iRange, wp_eFld, wp_eIx, wp_eTup, wp_eLst, wp_eIf, wp_eAnd, wp_eOr, wp_eNot, wp_bNot, wp_bAnd, wp_bOr, wp_aCons, wp_aNil, wp_eCall, wp_eFun, wp_eMeth, wp_arity, wp_eNeg, wp_eChain, List.getElem?_cons_zero, List.getElem?_cons_succ, List.set_cons_zero, List.set_cons_succ, List.length_cons, List.length_nil, put_nm, opCmp_int, opAdd_int, opSub_int, opEq_int, opInt_int, decide_true, decide_false, Bool.false_eq_true, if_false, if_true, true_and, and_true, List.map_cons, List.map_nil, Nat.zero_add, Nat.reduceAdd, e1, wp_eFun, wp_arity, z2]
    refine Wp.impQ (roll_ok (by decide) (by decide)) ?_
    rintro _ _ ⟨r2, a2, b2, m2, rfl, p2, q2, rfl⟩
    have : r2 = 0 ∨ r2 = 1 := by omega
    rcases this with z | z <;> subst z
    · have i0 : ixD (dice a2 b2 m2 :: t) (.lst [.str "above", .str "below"]) (.int 0) = some (.str (kS .ab)) := rfl
      simp only [wp_runB, wp_sSeq, wp_sIf, bT, wp_toB, wp_eOp, wp_eVar, wp_eC, wp_sRaise, wp_sNil, wp_sAsg, wp_sPar, wp_sPar3, wp_sRet, wp_sExpr, wp_sSub, wp_sSetF, wp_eLc, wp_iSeq, wp_iRange, wp_eFld, wp_eIx, wp_eTup, wp_eLst, wp_eIf, wp_eAnd, wp_eOr, wp_eNot, wp_bNot, wp_bAnd, wp_bOr, wp_aCons, wp_aNil, wp_eCall, wp_eFun, wp_eMeth, wp_arity, wp_eNeg, wp_eChain, List.getElem?_cons_zero, List.getElem?_cons_succ, List.set_cons_zero, List.set_cons_succ, List.length_cons, List.length_nil, put_nm, opCmp_int, opAdd_int, opSub_int, opEq_int, opInt_int, decide_true, decide_false, Bool.false_eq_true, if_false, if_true, true_and, and_true, List.map_cons, List.map_nil, Nat.zero_add, Nat.reduceAdd, i0, z3, put_tp3]
      exact ⟨r1, .ab, a2, b2, m2, rfl, p1, (by intro q; cases q), rfl⟩
    · have i0 : ixD (dice a2 b2 m2 :: t) (.lst [.str "above", .str "below"]) (.int 1) = some (.str (kS .be)) := rfl
      simp only [wp_runB, wp_sSeq, wp_sIf, bT, wp_toB, wp_eOp, wp_eVar, wp_eC, wp_sRaise, wp_sNil, wp_sAsg, wp_sPar, wp_sPar3, wp_sRet, wp_sExpr, wp_sSub, wp_sSetF, wp_eLc, wp_iSeq, wp_iRange, wp_eFld, wp_eIx, wp_eTup, wp_eLst, wp_eIf, wp_eAnd, wp_eOr, wp_eNot, wp_bNot, wp_bAnd, wp_bOr, wp_aCons, wp_aNil, wp_eCall, wp_eFun, wp_eMeth, wp_arity, wp_eNeg, wp_eChain, List.getElem?_cons_zero, List.getElem?_cons_succ, List.set_cons_zero, List.set_cons_succ, List.length_cons, List.length_nil, put_nm, opCmp_int, opAdd_int, opSub_int, opEq_int, opInt_int, decide_true, decide_false, Bool.false_eq_true, if_false, if_true, true_and, and_true, List.map_cons, List.map_nil, Nat.zero_add, Nat.reduceAdd, i0, z3, put_tp3]
      exact ⟨r1, .be, a2, b2, m2, rfl, p1, (by intro q; cases q), rfl⟩
  · simp only [wp_runB, wp_sSeq, wp_sIf, bT, wp_toB, wp_eOp, wp_eVar, wp_eC, wp_sRaise, wp_sNil, wp_sAsg, wp_sPar, wp_sPar3, wp_sRet, wp_sExpr, wp_sSub, wp_sSetF, wp_eLc, wp_iSeq, wp_iRange, wp_eFld, wp_eIx, wp_eTup, wp_eLst, wp_eIf, wp_eAnd, wp_eOr, wp_eNot, wp_bNot, wp_bAnd, wp_bOr, wp_aCons, wp_aNil, wp_eCall, wp_eFun, wp_eMeth, wp_arity, wp_eNeg, wp_eChain, List.getElem?_cons_zero, List.getElem?_cons_succ, List.set_cons_zero, List.set_cons_succ, List.length_cons, List.length_nil, put_nm, opCmp_int, opAdd_int, opSub_int, opEq_int, opInt_int, decide_true, decide_false, Bool.false_eq_true, if_false, if_true, true_and, and_true, List.map_cons, List.map_nil, Nat.zero_add, Nat.reduceAdd, get_set, List.length_set, hl, Nat.reduceLT, Nat.reduceEqDiff]
    all_goals first | trivial | exact ⟨rfl, trivial⟩ | exact ⟨rfl, rfl⟩
theorem c24_ok {vs : List Int} (hv : vs ≠ []) (hn : vs.length ≤ 100) (e16 : env[16]? = some (some (.lst (vs.map D.int)))) : c_24 (run k) env h = .ok (.nx (env.set 19 (some (.lst ((ables vs).map D.int))))) h := by
  refine Wp.eq ?_
  have z2 : 2 ≤ sizeLine := by decide
  have ad : opAdd h (.lst (vs.map D.int)) (.lst [.int (mnI vs - 1), .int (mxI vs + 1)]) = some (.lst ((vs ++ [mnI vs - 1, mxI vs + 1]).map D.int)) := by
    rw [opAdd_lst (by rw [List.length_map, sizeLine_eq]; simp; omega), List.map_append]; rfl
  have so := opSorted_lst (h := h) (sortOk_ints (h := h) (vs ++ [mnI vs - 1, mxI vs + 1]) (by simp; omega))
  rw [sortD_ints] at so
  simp only [wp_runB, wp_sSeq, wp_sIf, bT, wp_toB, wp_eOp, wp_eVar, wp_eC, wp_sRaise, wp_sNil, wp_sAsg, wp_sPar, wp_sPar3, wp_sRet, wp_sExpr, wp_sSub, wp_sSetF, wp_eLc, wp_iSeq, wp_iRange, wp_eFld, wp_eIx, wp_eTup, wp_eLst, wp_eIf, wp_eAnd, wp_eOr, wp_eNot, wp_bNot, wp_bAnd, wp_bOr, wp_aCons, wp_aNil, wp_eCall, wp_eFun, wp_eMeth, wp_arity, wp_eNeg, wp_eChain, List.getElem?_cons_zero, List.getElem?_cons_succ, List.set_cons_zero, List.set_cons_succ, List.length_cons, List.length_nil, put_nm, opCmp_int, opAdd_int, opSub_int, opEq_int, opInt_int, decide_true, decide_false, Bool.false_eq_true, if_false, if_true, true_and, and_true, List.map_cons, List.map_nil, Nat.zero_add, Nat.reduceAdd, c_24, e16, wp_eCall, opMinL_ne hv, opMaxL_ne hv, z2, ad, so]
  unfold ables
  all_goals first | trivial | exact ⟨rfl, trivial⟩ | exact ⟨rfl, rfl⟩
theorem ables_len (vs : List Int) : (ables vs).length = vs.length + 2 := by unfold ables; rw [len_isort]; simp
theorem c25_ok {vs : List Int} {most : Int} {x : Kd} (hx : x ≠ .ou) (hn : vs.length ≤ 100) (hl : env.length = 32) (e16 : env[16]? = some (some (.lst (vs.map D.int)))) (e17 : env[17]? = some (some (.int most))) (e18 : env[18]? = some (some (.str (kS x)))) (e19 : env[19]? = some (some (.lst ((ables vs).map D.int)))) :
    c_25 (run k) env h = .ok (.nx (env.set 20 (some (.lst ((fitsK x most vs).map D.int))))) h := by
  refine Wp.eq ?_
  have al := ables_len vs
  simp only [wp_runB, wp_sSeq, wp_sIf, bT, wp_toB, wp_eOp, wp_eVar, wp_eC, wp_sRaise, wp_sNil, wp_sAsg, wp_sPar, wp_sPar3, wp_sRet, wp_sExpr, wp_sSub, wp_sSetF, wp_eLc, wp_iSeq, wp_iRange, wp_eFld, wp_eIx, wp_eTup, wp_eLst, wp_eIf, wp_eAnd, wp_eOr, wp_eNot, wp_bNot, wp_bAnd, wp_bOr, wp_aCons, wp_aNil, wp_eCall, wp_eFun, wp_eMeth, wp_arity, wp_eNeg, wp_eChain, List.getElem?_cons_zero, List.getElem?_cons_succ, List.set_cons_zero, List.set_cons_succ, List.length_cons, List.length_nil, put_nm, opCmp_int, opAdd_int, opSub_int, opEq_int, opInt_int, decide_true, decide_false, Bool.false_eq_true, if_false, if_true, true_and, and_true, List.map_cons, List.map_nil, Nat.zero_add, Nat.reduceAdd, c_25, e19, src_lst, wipe1]
  refine ⟨by rw [List.length_map, sizeLine_eq]; omega, ?_⟩
  rw [wp_eq (lcGo_map (γ := Int) D.int (fun b => decide ((cntK x b vs : Int) ≤ most)) D.int rfl (fun bb _ => ⟨_, put_nm _ _ _, Wp.eq ?_, fun _ => Wp.eq ?_⟩))]
  · unfold fitsK
    all_goals first | trivial | exact ⟨rfl, trivial⟩ | exact ⟨rfl, rfl⟩
  · simp only [wp_runB, wp_sSeq, wp_sIf, bT, wp_toB, wp_eOp, wp_eVar, wp_eC, wp_sRaise, wp_sNil, wp_sAsg, wp_sPar, wp_sPar3, wp_sRet, wp_sExpr, wp_sSub, wp_sSetF, wp_eLc, wp_iSeq, wp_iRange, wp_eFld, wp_eIx, wp_eTup, wp_eLst, wp_eIf, wp_eAnd, wp_eOr, wp_eNot, wp_bNot, wp_bAnd, wp_bOr, wp_aCons, wp_aNil, wp_eCall, wp_eFun, wp_eMeth, wp_arity, wp_eNeg, wp_eChain, List.getElem?_cons_zero, List.getElem?_cons_succ, List.set_cons_zero, List.set_cons_succ, List.length_cons, List.length_nil, put_nm, opCmp_int, opAdd_int, opSub_int, opEq_int, opInt_int, decide_true, decide_false, Bool.false_eq_true, if_false, if_true, true_and, and_true, List.map_cons, List.map_nil, Nat.zero_add, Nat.reduceAdd, get_set, List.length_set, hl, Nat.reduceLT, Nat.reduceEqDiff, e16, src_lst, wipe1]
    refine ⟨by rw [List.length_map, sizeLine_eq]; omega, ?_⟩
    rw [wp_eq (lcGo_map (γ := Int) D.int (fun v => if x = .ab then decide (bb < v) else decide (v < bb)) (fun _ => D.int 1) rfl (fun v _ => ⟨_, put_nm _ _ _, Wp.eq ?_, fun _ => Wp.eq ?_⟩))]
    · have ol : ∀ L : List Int, opLen h [.lst (L.map fun _ => D.int 1)] = some (.int L.length) := fun L => by rw [opLen_lst, List.length_map]
      simp only [wp_runB, wp_sSeq, wp_sIf, bT, wp_toB, wp_eOp, wp_eVar, wp_eC, wp_sRaise, wp_sNil, wp_sAsg, wp_sPar, wp_sPar3, wp_sRet, wp_sExpr, wp_sSub, wp_sSetF, wp_eLc, wp_iSeq, wp_iRange, wp_eFld, wp_eIx, wp_eTup, wp_eLst, wp_eIf, wp_eAnd, wp_eOr, wp_eNot, wp_bNot, wp_bAnd, wp_bOr, wp_aCons, wp_aNil, wp_eCall, wp_eFun, wp_eMeth, wp_arity, wp_eNeg, wp_eChain, List.getElem?_cons_zero, List.getElem?_cons_succ, List.set_cons_zero, List.set_cons_succ, List.length_cons, List.length_nil, put_nm, opCmp_int, opAdd_int, opSub_int, opEq_int, opInt_int, decide_true, decide_false, Bool.false_eq_true, if_false, if_true, true_and, and_true, List.map_cons, List.map_nil, Nat.zero_add, Nat.reduceAdd, wp_eCall, ol, get_set, List.length_set, hl, Nat.reduceLT, Nat.reduceEqDiff, e17]
      unfold cntK
      all_goals first | trivial | exact ⟨rfl, trivial⟩ | exact ⟨rfl, rfl⟩
    · rw [wp_bIf]
      simp only [wp_runB, wp_sSeq, wp_sIf, bT, wp_toB, wp_eOp, wp_eVar, wp_eC, wp_sRaise, wp_sNil, wp_sAsg, wp_sPar, wp_sPar3, wp_sRet, wp_sExpr, wp_sSub, wp_sSetF, wp_eLc, wp_iSeq, wp_iRange, wp_eFld, wp_eIx, wp_eTup, wp_eLst, wp_eIf, wp_eAnd, wp_eOr, wp_eNot, wp_bNot, wp_bAnd, wp_bOr, wp_aCons, wp_aNil, wp_eCall, wp_eFun, wp_eMeth, wp_arity, wp_eNeg, wp_eChain, List.getElem?_cons_zero, List.getElem?_cons_succ, List.set_cons_zero, List.set_cons_succ, List.length_cons, List.length_nil, put_nm, opCmp_int, opAdd_int, opSub_int, opEq_int, opInt_int, decide_true, decide_false, Bool.false_eq_true, if_false, if_true, true_and, and_true, List.map_cons, List.map_nil, Nat.zero_add, Nat.reduceAdd, get_set, List.length_set, hl, Nat.reduceLT, Nat.reduceEqDiff, e18, eq_ab]
      cases x with
      | ab => simp
      | be => simp
      | ou => exact absurd rfl hx
    · simp only [wp_runB, wp_sSeq, wp_sIf, bT, wp_toB, wp_eOp, wp_eVar, wp_eC, wp_sRaise, wp_sNil, wp_sAsg, wp_sPar, wp_sPar3, wp_sRet, wp_sExpr, wp_sSub, wp_sSetF, wp_eLc, wp_iSeq, wp_iRange, wp_eFld, wp_eIx, wp_eTup, wp_eLst, wp_eIf, wp_eAnd, wp_eOr, wp_eNot, wp_bNot, wp_bAnd, wp_bOr, wp_aCons, wp_aNil, wp_eCall, wp_eFun, wp_eMeth, wp_arity, wp_eNeg, wp_eChain, List.getElem?_cons_zero, List.getElem?_cons_succ, List.set_cons_zero, List.set_cons_succ, List.length_cons, List.length_nil, put_nm, opCmp_int, opAdd_int, opSub_int, opEq_int, opInt_int, decide_true, decide_false, Bool.false_eq_true, if_false, if_true, true_and, and_true, List.map_cons, List.map_nil, Nat.zero_add, Nat.reduceAdd]
      all_goals first | trivial | exact ⟨rfl, trivial⟩ | exact ⟨rfl, rfl⟩
  · simp only [wp_runB, wp_sSeq, wp_sIf, bT, wp_toB, wp_eOp, wp_eVar, wp_eC, wp_sRaise, wp_sNil, wp_sAsg, wp_sPar, wp_sPar3, wp_sRet, wp_sExpr, wp_sSub, wp_sSetF, wp_eLc, wp_iSeq, wp_iRange, wp_eFld, wp_eIx, wp_eTup, wp_eLst, wp_eIf, wp_eAnd, wp_eOr, wp_eNot, wp_bNot, wp_bAnd, wp_bOr, wp_aCons, wp_aNil, wp_eCall, wp_eFun, wp_eMeth, wp_arity, wp_eNeg, wp_eChain, List.getElem?_cons_zero, List.getElem?_cons_succ, List.set_cons_zero, List.set_cons_succ, List.length_cons, List.length_nil, put_nm, opCmp_int, opAdd_int, opSub_int, opEq_int, opInt_int, decide_true, decide_false, Bool.false_eq_true, if_false, if_true, true_and, and_true, List.map_cons, List.map_nil, Nat.zero_add, Nat.reduceAdd, get_set, List.length_set, hl, Nat.reduceLT, Nat.reduceEqDiff]
    all_goals first | trivial | exact ⟨rfl, trivial⟩ | exact ⟨rfl, rfl⟩
theorem c27_ok {rows : List Pr} {most : Int} {x : Kd} (hx : x ≠ .ou) (hne : rows ≠ []) (h0 : 0 ≤ most) (hn : rows.length ≤ 100) (e3 : env[3]? = some (some (.lst (rows.map pD)))) (e17 : env[17]? = some (some (.int most))) (e18 : env[18]? = some (some (.str (kS x)))) (e20 : env[20]? = some (some (.lst ((fitsK x most (rows.map (·.2))).map D.int)))) :
    c_27 (run (k+1)) env h = .ok (.nx env) h := by
  refine Wp.eq ?_
  have hv : rows.map (·.2) ≠ [] := by simpa using hne
  simp only [wp_runB, wp_sSeq, wp_sIf, bT, wp_toB, wp_eOp, wp_eVar, wp_eC, wp_sRaise, wp_sNil, wp_sAsg, wp_sPar, wp_sPar3, wp_sRet, wp_sExpr, wp_sSub, wp_sSetF, wp_eLc, wp_iSeq, wp_iRange, wp_eFld, wp_eIx, wp_eTup, wp_eLst, wp_eIf, wp_eAnd, wp_eOr, wp_eNot, wp_bNot, wp_bAnd, wp_bOr, wp_aCons, wp_aNil, wp_eCall, wp_eFun, wp_eMeth, wp_arity, wp_eNeg, wp_eChain, List.getElem?_cons_zero, List.getElem?_cons_succ, List.set_cons_zero, List.set_cons_succ, List.length_cons, List.length_nil, put_nm, opCmp_int, opAdd_int, opSub_int, opEq_int, opInt_int, decide_true, decide_false, Bool.false_eq_true, if_false, if_true, true_and, and_true, List.map_cons, List.map_nil, Nat.zero_add, Nat.reduceAdd, c_27, e3, e17, e18, e20, wp_eFun, wp_arity, wp_eq (bound_ok (k := k) (h := h) hx hne h0 hn), eq_ab, wp_eCall]
  unfold bF
  cases x with
  | ou => exact absurd rfl hx
  | ab =>
    have f := fits_ab (h := h) (most := most) hv h0
    simp only [wp_runB, wp_sSeq, wp_sIf, bT, wp_toB, wp_eOp, wp_eVar, wp_eC, wp_sRaise, wp_sNil, wp_sAsg, wp_sPar, wp_sPar3, wp_sRet, wp_sExpr, wp_sSub, wp_sSetF, wp_eLc, wp_iSeq, wp_iRange, wp_eFld, wp_eIx, wp_eTup, wp_eLst, wp_eIf, wp_eAnd, wp_eOr, wp_eNot, wp_bNot, wp_bAnd, wp_bOr, wp_aCons, wp_aNil, wp_eCall, wp_eFun, wp_eMeth, wp_arity, wp_eNeg, wp_eChain, List.getElem?_cons_zero, List.getElem?_cons_succ, List.set_cons_zero, List.set_cons_succ, List.length_cons, List.length_nil, put_nm, opCmp_int, opAdd_int, opSub_int, opEq_int, opInt_int, decide_true, decide_false, Bool.false_eq_true, if_false, if_true, true_and, and_true, List.map_cons, List.map_nil, Nat.zero_add, Nat.reduceAdd, f, opNe_int_same]
    all_goals first | trivial | exact ⟨rfl, trivial⟩ | exact ⟨rfl, rfl⟩
  | be =>
    have f := fits_be (h := h) (most := most) hv h0
    have q1 : (decide (Kd.be = Kd.ab)) = false := rfl
    have q2 : ¬ (Kd.be = Kd.ab) := by intro q; cases q
    rw [if_neg q2]
    simp only [wp_runB, wp_sSeq, wp_sIf, bT, wp_toB, wp_eOp, wp_eVar, wp_eC, wp_sRaise, wp_sNil, wp_sAsg, wp_sPar, wp_sPar3, wp_sRet, wp_sExpr, wp_sSub, wp_sSetF, wp_eLc, wp_iSeq, wp_iRange, wp_eFld, wp_eIx, wp_eTup, wp_eLst, wp_eIf, wp_eAnd, wp_eOr, wp_eNot, wp_bNot, wp_bAnd, wp_bOr, wp_aCons, wp_aNil, wp_eCall, wp_eFun, wp_eMeth, wp_arity, wp_eNeg, wp_eChain, List.getElem?_cons_zero, List.getElem?_cons_succ, List.set_cons_zero, List.set_cons_succ, List.length_cons, List.length_nil, put_nm, opCmp_int, opAdd_int, opSub_int, opEq_int, opInt_int, decide_true, decide_false, Bool.false_eq_true, if_false, if_true, true_and, and_true, List.map_cons, List.map_nil, Nat.zero_add, Nat.reduceAdd, q1, f, opNe_int_same]
    all_goals first | trivial | exact ⟨rfl, trivial⟩ | exact ⟨rfl, rfl⟩
theorem c28_ok {rows : List Pr} {most : Int} {x : Kd} (hx : x ≠ .ou) (h0 : 0 ≤ most) (hn : rows.length ≤ 100) (hl : env.length = 32) (e3 : env[3]? = some (some (.lst (rows.map pD)))) (e16 : env[16]? = some (some (.lst ((rows.map (·.2)).map D.int)))) (e17 : env[17]? = some (some (.int most))) (e18 : env[18]? = some (some (.str (kS x)))) :
    ∃ env', c_28 (run (k+1)) env h = .ok (.nx env') h ∧ Fr [19, 20] env env' := by
  have ne := opNe_nilG (h := h) (d := .lst (rows.map pD)) (xs := rows.map pD) (.inl rfl) (okDs_map fun q _ => by simp [pD, okD, okDs])
  have z0 : 0 ≤ sizeLine := by decide
  by_cases hne : rows = []
  · subst hne
    refine ⟨env, Wp.eq ?_, Fr.rfl'⟩
    simp only [wp_runB, wp_sSeq, wp_sIf, bT, wp_toB, wp_eOp, wp_eVar, wp_eC, wp_sRaise, wp_sNil, wp_sAsg, wp_sPar, wp_sPar3, wp_sRet, wp_sExpr, wp_sSub, wp_sSetF, wp_eLc, wp_iSeq, wp_iRange, wp_eFld, wp_eIx, wp_eTup, wp_eLst, wp_eIf, wp_eAnd, wp_eOr, wp_eNot, wp_bNot, wp_bAnd, wp_bOr, wp_aCons, wp_aNil, wp_eCall, wp_eFun, wp_eMeth, wp_arity, wp_eNeg, wp_eChain, List.getElem?_cons_zero, List.getElem?_cons_succ, List.set_cons_zero, List.set_cons_succ, List.length_cons, List.length_nil, put_nm, opCmp_int, opAdd_int, opSub_int, opEq_int, opInt_int, decide_true, decide_false, Bool.false_eq_true, if_false, if_true, true_and, and_true, List.map_cons, List.map_nil, Nat.zero_add, Nat.reduceAdd, c_28, e3, z0, ne, List.isEmpty_nil, Bool.not_true]
    all_goals first | trivial | exact ⟨rfl, trivial⟩ | exact ⟨rfl, rfl⟩
  · refine ⟨(env.set 19 (some (.lst ((ables (rows.map (·.2))).map D.int)))).set 20 (some (.lst ((fitsK x most (rows.map (·.2))).map D.int))), Wp.eq ?_, ((Fr.rfl'.set (by decide)).set (by decide))⟩
    have hv : rows.map (·.2) ≠ [] := by simpa using hne
    have hvl : (rows.map fun q : Pr => q.2).length ≤ 100 := by rw [List.length_map]; exact hn
    have he : ((rows.map pD).isEmpty) = false := by cases rows with
      | nil => exact absurd rfl hne
      | cons _ _ => rfl
    unfold c_28
    rw [wp_sIf]
    have p0 : ∀ {Q : Bool → AH → Prop} {E}, Wp (bT (eOp opNe (eVar 3) (eLst aNil)) env) h Q E = Q true h := fun {Q E} => by
      simp only [wp_runB, wp_sSeq, wp_sIf, bT, wp_toB, wp_eOp, wp_eVar, wp_eC, wp_sRaise, wp_sNil, wp_sAsg, wp_sPar, wp_sPar3, wp_sRet, wp_sExpr, wp_sSub, wp_sSetF, wp_eLc, wp_iSeq, wp_iRange, wp_eFld, wp_eIx, wp_eTup, wp_eLst, wp_eIf, wp_eAnd, wp_eOr, wp_eNot, wp_bNot, wp_bAnd, wp_bOr, wp_aCons, wp_aNil, wp_eCall, wp_eFun, wp_eMeth, wp_arity, wp_eNeg, wp_eChain, List.getElem?_cons_zero, List.getElem?_cons_succ, List.set_cons_zero, List.set_cons_succ, List.length_cons, List.length_nil, put_nm, opCmp_int, opAdd_int, opSub_int, opEq_int, opInt_int, decide_true, decide_false, Bool.false_eq_true, if_false, if_true, true_and, and_true, List.map_cons, List.map_nil, Nat.zero_add, Nat.reduceAdd, e3, z0, ne, he, Bool.not_false]
    rw [p0]
    simp only [if_true]
    rw [wp_sSeq, wp_eq (c24_ok (k := k+1) hv hvl e16)]
    dsimp only
    rw [wp_sSeq, wp_eq (c25_ok (k := k+1) (most := most) (x := x) (vs := rows.map (·.2)) hx hvl (by simp [hl]) (by simp only [get_set, List.length_set, hl, Nat.reduceLT, Nat.reduceEqDiff, if_false, e16]) (by simp only [get_set, List.length_set, hl, Nat.reduceLT, Nat.reduceEqDiff, if_false, e17]) (by simp only [get_set, List.length_set, hl, Nat.reduceLT, Nat.reduceEqDiff, if_false, e18]) (by simp [hl]))]
    dsimp only
    rw [wp_eq (c27_ok (k := k) (rows := rows) (most := most) (x := x) hx hne h0 hn (by simp only [get_set, List.length_set, hl, Nat.reduceLT, Nat.reduceEqDiff, if_false, e3]) (by simp only [get_set, List.length_set, hl, Nat.reduceLT, Nat.reduceEqDiff, if_false, e17]) (by simp only [get_set, List.length_set, hl, Nat.reduceLT, Nat.reduceEqDiff, if_false, e18]) (List.getElem?_set_self (by simp [hl])))]
    exact ⟨rfl, rfl⟩
end
end PyD.K02

namespace PyD.K02
open PySem PySem.Spec L2 PyD
open PyProof.Rows hiding St
open PyD (Env Pat)
section
variable {h u t : AH} {env : Env} {k : Nat} {a b m : Int}
variable {r : Rw} {n : Nat}
theorem c29_ok (o : OkW r) (hl : env.length = 32) (e1 : env[1]? = some (some (.obj 0))) (e2 : env[2]? = some (some (rwD r))) : Wp (c_29 (run (k+2)) env) (dice a b m :: t) (fun f h' => ∃ (os : List Rw) (a' b' m' : Int), f = .nx (env.set 21 (some (.lst (os.map rwD)))) ∧ (∀ q ∈ os, OkW q) ∧ os.length ≤ 10 ∧ h' = dice a' b' m' :: t) (fun _ _ => False) := by
  have z1 : 1 ≤ sizeLine := by decide
  simp only [wp_runB, wp_sSeq, wp_sIf, bT, wp_toB, wp_eOp, wp_eVar, wp_eC, wp_sRaise, wp_sNil, wp_sAsg, wp_sPar, wp_sPar3, wp_sRet, wp_sExpr, wp_sSub, wp_sSetF, wp_eLc, wp_iSeq, wp_iRange, wp_eFld, wp_eIx, wp_eTup, wp_eLst, wp_eIf, wp_eAnd, wp_eOr, wp_eNot, wp_bNot, wp_bAnd, wp_bOr, wp_aCons, wp_aNil, wp_eCall, wp_eFun, wp_eMeth, wp_arity, wp_eNeg, wp_eChain, List.getElem?_cons_zero, List.getElem?_cons_succ, List.set_cons_zero, List.set_cons_succ, List.length_cons, List.length_nil, put_nm, opCmp_int, opAdd_int, opSub_int, opEq_int, opInt_int, decide_true, decide_false, Bool.false_eq_true, if_false, if_true, true_and, and_true, List.map_cons, List.map_nil, Nat.zero_add, Nat.reduceAdd, c_29, e1, e2, wp_eFun, wp_arity, z1]
  refine Wp.impQ (roll_ok (by decide) (by decide)) ?_
  rintro _ _ ⟨r1, a1, b1, m1, rfl, p1, q1, rfl⟩
  simp only [range1_map (n := r1) (show 0 ≤ r1 ∧ r1 ≤ 1000 by omega), wipe1]
  have hL : (List.range r1.toNat).length ≤ 3 := by rw [List.length_range]; omega
  refine ⟨by rw [List.length_map, sizeLine_eq]; omega, ?_⟩
  refine Wp.impQ (wp_lcAll (env := env.set 5 none) (fun h => ∃ a' b' m', h = dice a' b' m' :: t) (fun d => ∃ q : Rw, d = rwD q ∧ OkW q) (fun _ _ => rfl) _ (fun x hx => ?_) _ ⟨a1, b1, m1, rfl⟩) ?_
  · obtain ⟨i, _, rfl⟩ := List.mem_map.mp hx
    refine ⟨(env.set 5 none).set 5 (some (.int i)), put_nm _ _ _, fun h ⟨a', b', m', e⟩ => ⟨rfl, ?_⟩⟩
    subst e
    simp only [wp_runB, wp_sSeq, wp_sIf, bT, wp_toB, wp_eOp, wp_eVar, wp_eC, wp_sRaise, wp_sNil, wp_sAsg, wp_sPar, wp_sPar3, wp_sRet, wp_sExpr, wp_sSub, wp_sSetF, wp_eLc, wp_iSeq, wp_iRange, wp_eFld, wp_eIx, wp_eTup, wp_eLst, wp_eIf, wp_eAnd, wp_eOr, wp_eNot, wp_bNot, wp_bAnd, wp_bOr, wp_aCons, wp_aNil, wp_eCall, wp_eFun, wp_eMeth, wp_arity, wp_eNeg, wp_eChain, List.getElem?_cons_zero, List.getElem?_cons_succ, List.set_cons_zero, List.set_cons_succ, List.length_cons, List.length_nil, put_nm, opCmp_int, opAdd_int, opSub_int, opEq_int, opInt_int, decide_true, decide_false, Bool.false_eq_true, if_false, if_true, true_and, and_true, List.map_cons, List.map_nil, Nat.zero_add, Nat.reduceAdd, get_set, List.length_set, hl, Nat.reduceLT, Nat.reduceEqDiff, e1, wp_eFun, wp_arity]
    refine Wp.impQ (row_ok (k := k)) ?_
    rintro _ _ ⟨q, a2, b2, m2, rfl, oq, rfl⟩
    exact ⟨⟨q, rfl, oq⟩, a2, b2, m2, rfl⟩
  · rintro ys h' ⟨hly, hp, a2, b2, m2, rfl⟩
    obtain ⟨os, rfl, hos⟩ := all_mapP hp
    rw [List.length_map, List.length_map] at hly
    have ad : opAdd (dice a2 b2 m2 :: t) (.lst [rwD r]) (.lst (os.map rwD)) = some (.lst ((r :: os).map rwD)) := by
      rw [opAdd_lst (by rw [List.length_map, sizeLine_eq]; simp; omega)]; rfl
    simp only [wp_runB, wp_sSeq, wp_sIf, bT, wp_toB, wp_eOp, wp_eVar, wp_eC, wp_sRaise, wp_sNil, wp_sAsg, wp_sPar, wp_sPar3, wp_sRet, wp_sExpr, wp_sSub, wp_sSetF, wp_eLc, wp_iSeq, wp_iRange, wp_eFld, wp_eIx, wp_eTup, wp_eLst, wp_eIf, wp_eAnd, wp_eOr, wp_eNot, wp_bNot, wp_bAnd, wp_bOr, wp_aCons, wp_aNil, wp_eCall, wp_eFun, wp_eMeth, wp_arity, wp_eNeg, wp_eChain, List.getElem?_cons_zero, List.getElem?_cons_succ, List.set_cons_zero, List.set_cons_succ, List.length_cons, List.length_nil, put_nm, opCmp_int, opAdd_int, opSub_int, opEq_int, opInt_int, decide_true, decide_false, Bool.false_eq_true, if_false, if_true, true_and, and_true, List.map_cons, List.map_nil, Nat.zero_add, Nat.reduceAdd, ad]
    refine ⟨r :: os, a2, b2, m2, rfl, fun q hq => ?_, by simp; omega, rfl⟩
    rcases List.mem_cons.mp hq with y | y
    · rw [y]; exact o
    · exact hos q y
def firD (rows : List Pr) (q : Rw) : D := oD (begs (runs q rows)).head?
theorem c30_ok {os : List Rw} {rows : List Pr} (hn : rows.length ≤ 100) (ho : os.length ≤ 100) (hl : env.length = 32) (e21 : env[21]? = some (some (.lst (os.map rwD)))) (e3 : env[3]? = some (some (.lst (rows.map pD)))) : c_30 (run (k+2)) env h = .ok (.nx (env.set 22 (some (.lst (os.map (firD rows)))))) h := by
  refine Wp.eq ?_
  have z1 : 1 ≤ sizeLine := by decide
  simp only [wp_runB, wp_sSeq, wp_sIf, bT, wp_toB, wp_eOp, wp_eVar, wp_eC, wp_sRaise, wp_sNil, wp_sAsg, wp_sPar, wp_sPar3, wp_sRet, wp_sExpr, wp_sSub, wp_sSetF, wp_eLc, wp_iSeq, wp_iRange, wp_eFld, wp_eIx, wp_eTup, wp_eLst, wp_eIf, wp_eAnd, wp_eOr, wp_eNot, wp_bNot, wp_bAnd, wp_bOr, wp_aCons, wp_aNil, wp_eCall, wp_eFun, wp_eMeth, wp_arity, wp_eNeg, wp_eChain, List.getElem?_cons_zero, List.getElem?_cons_succ, List.set_cons_zero, List.set_cons_succ, List.length_cons, List.length_nil, put_nm, opCmp_int, opAdd_int, opSub_int, opEq_int, opInt_int, decide_true, decide_false, Bool.false_eq_true, if_false, if_true, true_and, and_true, List.map_cons, List.map_nil, Nat.zero_add, Nat.reduceAdd, c_30, e21, src_lst, wipe1]
  refine ⟨by rw [List.length_map, sizeLine_eq]; omega, ?_⟩
  rw [wp_eq (lcGo_map (γ := Rw) rwD (fun _ => true) (firD rows) rfl (fun q _ => ⟨_, put_nm _ _ _, rfl, fun _ => Wp.eq ?_⟩))]
  · rw [filter_tt]
    all_goals first | trivial | exact ⟨rfl, trivial⟩ | exact ⟨rfl, rfl⟩
  · have hrl := runs_len q rows
    simp only [wp_runB, wp_sSeq, wp_sIf, bT, wp_toB, wp_eOp, wp_eVar, wp_eC, wp_sRaise, wp_sNil, wp_sAsg, wp_sPar, wp_sPar3, wp_sRet, wp_sExpr, wp_sSub, wp_sSetF, wp_eLc, wp_iSeq, wp_iRange, wp_eFld, wp_eIx, wp_eTup, wp_eLst, wp_eIf, wp_eAnd, wp_eOr, wp_eNot, wp_bNot, wp_bAnd, wp_bOr, wp_aCons, wp_aNil, wp_eCall, wp_eFun, wp_eMeth, wp_arity, wp_eNeg, wp_eChain, List.getElem?_cons_zero, List.getElem?_cons_succ, List.set_cons_zero, List.set_cons_succ, List.length_cons, List.length_nil, put_nm, opCmp_int, opAdd_int, opSub_int, opEq_int, opInt_int, decide_true, decide_false, Bool.false_eq_true, if_false, if_true, true_and, and_true, List.map_cons, List.map_nil, Nat.zero_add, Nat.reduceAdd, get_set, List.length_set, hl, Nat.reduceLT, Nat.reduceEqDiff, e3, wp_eFun, wp_arity, wp_eq (lruns_ok (k := k) (r := q) (h := h) hn), src_lst, wipe1]
    refine ⟨by rw [List.length_map, sizeLine_eq]; omega, ?_⟩
    rw [wp_eq (lcGo_map (γ := Run) runD (fun q => q.2.1.isSome) (fun q => oD q.2.1) rfl (fun q _ => ⟨_, put_nm _ _ _, Wp.eq ?_, fun _ => Wp.eq ?_⟩))]
    · rw [begs_map]
      have hbl := begs_len (runs q rows)
      unfold firD
      generalize begs (runs q rows) = B at *
      have ad : opAdd h (.lst (B.map D.int)) (.lst [.non]) = some (.lst (B.map D.int ++ [.non])) := opAdd_lst (by rw [List.length_map, sizeLine_eq]; simp; omega)
      have i0 : ixD h (.lst (B.map D.int ++ [.non])) (.int 0) = some (oD B.head?) := by
        cases B with
        | nil => rfl
        | cons x B =>
          have z := atI_0 (fun d : D => d) (D.int x) (B.map D.int ++ [.non])
          rw [List.map_id'] at z
          exact z
      simp only [wp_runB, wp_sSeq, wp_sIf, bT, wp_toB, wp_eOp, wp_eVar, wp_eC, wp_sRaise, wp_sNil, wp_sAsg, wp_sPar, wp_sPar3, wp_sRet, wp_sExpr, wp_sSub, wp_sSetF, wp_eLc, wp_iSeq, wp_iRange, wp_eFld, wp_eIx, wp_eTup, wp_eLst, wp_eIf, wp_eAnd, wp_eOr, wp_eNot, wp_bNot, wp_bAnd, wp_bOr, wp_aCons, wp_aNil, wp_eCall, wp_eFun, wp_eMeth, wp_arity, wp_eNeg, wp_eChain, List.getElem?_cons_zero, List.getElem?_cons_succ, List.set_cons_zero, List.set_cons_succ, List.length_cons, List.length_nil, put_nm, opCmp_int, opAdd_int, opSub_int, opEq_int, opInt_int, decide_true, decide_false, Bool.false_eq_true, if_false, if_true, true_and, and_true, List.map_cons, List.map_nil, Nat.zero_add, Nat.reduceAdd, z1, ad, i0]
      all_goals first | trivial | exact ⟨rfl, trivial⟩ | exact ⟨rfl, rfl⟩
    · simp only [wp_runB, wp_sSeq, wp_sIf, bT, wp_toB, wp_eOp, wp_eVar, wp_eC, wp_sRaise, wp_sNil, wp_sAsg, wp_sPar, wp_sPar3, wp_sRet, wp_sExpr, wp_sSub, wp_sSetF, wp_eLc, wp_iSeq, wp_iRange, wp_eFld, wp_eIx, wp_eTup, wp_eLst, wp_eIf, wp_eAnd, wp_eOr, wp_eNot, wp_bNot, wp_bAnd, wp_bOr, wp_aCons, wp_aNil, wp_eCall, wp_eFun, wp_eMeth, wp_arity, wp_eNeg, wp_eChain, List.getElem?_cons_zero, List.getElem?_cons_succ, List.set_cons_zero, List.set_cons_succ, List.length_cons, List.length_nil, put_nm, opCmp_int, opAdd_int, opSub_int, opEq_int, opInt_int, decide_true, decide_false, Bool.false_eq_true, if_false, if_true, true_and, and_true, List.map_cons, List.map_nil, Nat.zero_add, Nat.reduceAdd, get_set, List.length_set, hl, Nat.reduceLT, Nat.reduceEqDiff, ix_run1, isn_o]
      all_goals first | trivial | exact ⟨rfl, trivial⟩ | exact ⟨rfl, rfl⟩
    · simp only [wp_runB, wp_sSeq, wp_sIf, bT, wp_toB, wp_eOp, wp_eVar, wp_eC, wp_sRaise, wp_sNil, wp_sAsg, wp_sPar, wp_sPar3, wp_sRet, wp_sExpr, wp_sSub, wp_sSetF, wp_eLc, wp_iSeq, wp_iRange, wp_eFld, wp_eIx, wp_eTup, wp_eLst, wp_eIf, wp_eAnd, wp_eOr, wp_eNot, wp_bNot, wp_bAnd, wp_bOr, wp_aCons, wp_aNil, wp_eCall, wp_eFun, wp_eMeth, wp_arity, wp_eNeg, wp_eChain, List.getElem?_cons_zero, List.getElem?_cons_succ, List.set_cons_zero, List.set_cons_succ, List.length_cons, List.length_nil, put_nm, opCmp_int, opAdd_int, opSub_int, opEq_int, opInt_int, decide_true, decide_false, Bool.false_eq_true, if_false, if_true, true_and, and_true, List.map_cons, List.map_nil, Nat.zero_add, Nat.reduceAdd, get_set, List.length_set, hl, Nat.reduceLT, Nat.reduceEqDiff, ix_run1]
      all_goals first | trivial | exact ⟨rfl, trivial⟩ | exact ⟨rfl, rfl⟩
def fstO (rows : List Pr) (l : List (Rw × Nat)) : List Pr := l.filterMap fun q => (begs (runs q.1 rows)).head?.map fun f => (f, (q.2 : Int))
theorem fstO_map (rows : List Pr) : ∀ l : List (Rw × Nat), ((l.filter fun q => (begs (runs q.1 rows)).head?.isSome).map fun q => D.tup [firD rows q.1, .int (q.2 : Nat)]) = (fstO rows l).map pD
  | [] => rfl
  | q :: l => by
    have ih := fstO_map rows l
    unfold fstO firD at ih ⊢
    cases c : (begs (runs q.1 rows)).head? with
    | none => simp only [List.filter_cons, c, Option.isSome_none, Bool.false_eq_true, if_false, List.filterMap_cons, Option.map_none]; exact ih
    | some f => simp only [List.filter_cons, c, Option.isSome_some, if_true, List.filterMap_cons, Option.map_some, List.map_cons, ih]; rfl
theorem c31_ok {os : List Rw} {rows : List Pr} (ho : os.length ≤ 100) (hl : env.length = 32) (e22 : env[22]? = some (some (.lst (os.map (firD rows))))) : c_31 (run k) env h = .ok (.nx (env.set 23 (some (.lst ((isort leP (fstO rows (os.zipIdx 0))).map pD))))) h := by
  refine Wp.eq ?_
  have z2 : 2 ≤ sizeLine := by decide
  have hzl : (os.zipIdx 0).length = os.length := List.length_zipIdx
  simp only [wp_runB, wp_sSeq, wp_sIf, bT, wp_toB, wp_eOp, wp_eVar, wp_eC, wp_sRaise, wp_sNil, wp_sAsg, wp_sPar, wp_sPar3, wp_sRet, wp_sExpr, wp_sSub, wp_sSetF, wp_eLc, wp_iSeq, wp_iRange, wp_eFld, wp_eIx, wp_eTup, wp_eLst, wp_eIf, wp_eAnd, wp_eOr, wp_eNot, wp_bNot, wp_bAnd, wp_bOr, wp_aCons, wp_aNil, wp_eCall, wp_eFun, wp_eMeth, wp_arity, wp_eNeg, wp_eChain, List.getElem?_cons_zero, List.getElem?_cons_succ, List.set_cons_zero, List.set_cons_succ, List.length_cons, List.length_nil, put_nm, opCmp_int, opAdd_int, opSub_int, opEq_int, opInt_int, decide_true, decide_false, Bool.false_eq_true, if_false, if_true, true_and, and_true, List.map_cons, List.map_nil, Nat.zero_add, Nat.reduceAdd, c_31]
  refine wp_iEnumD (xs := os.map (firD rows)) ?_
  simp only [wp_runB, wp_sSeq, wp_sIf, bT, wp_toB, wp_eOp, wp_eVar, wp_eC, wp_sRaise, wp_sNil, wp_sAsg, wp_sPar, wp_sPar3, wp_sRet, wp_sExpr, wp_sSub, wp_sSetF, wp_eLc, wp_iSeq, wp_iRange, wp_eFld, wp_eIx, wp_eTup, wp_eLst, wp_eIf, wp_eAnd, wp_eOr, wp_eNot, wp_bNot, wp_bAnd, wp_bOr, wp_aCons, wp_aNil, wp_eCall, wp_eFun, wp_eMeth, wp_arity, wp_eNeg, wp_eChain, List.getElem?_cons_zero, List.getElem?_cons_succ, List.set_cons_zero, List.set_cons_succ, List.length_cons, List.length_nil, put_nm, opCmp_int, opAdd_int, opSub_int, opEq_int, opInt_int, decide_true, decide_false, Bool.false_eq_true, if_false, if_true, true_and, and_true, List.map_cons, List.map_nil, Nat.zero_add, Nat.reduceAdd, e22, enumD_map, wipe2]
  refine ⟨by rw [List.length_map, sizeLine_eq]; omega, ?_⟩
  rw [wp_eq (lcGo_map (γ := Rw × Nat) (fun q => D.tup [.int (q.2 : Nat), firD rows q.1]) (fun q => (begs (runs q.1 rows)).head?.isSome) (fun q => D.tup [firD rows q.1, .int (q.2 : Nat)]) rfl (fun q _ => ⟨_, put_tp2, Wp.eq ?_, fun _ => Wp.eq ?_⟩))]
  · rw [fstO_map]
    have hfl : (fstO rows (os.zipIdx 0)).length ≤ (os.zipIdx 0).length := List.length_filterMap_le _ _
    have so := opSorted_lst (h := h) (sortOk_pairs h (fstO rows (os.zipIdx 0)) (by omega))
    rw [sortD_of leD_pD] at so
    simp only [wp_runB, wp_sSeq, wp_sIf, bT, wp_toB, wp_eOp, wp_eVar, wp_eC, wp_sRaise, wp_sNil, wp_sAsg, wp_sPar, wp_sPar3, wp_sRet, wp_sExpr, wp_sSub, wp_sSetF, wp_eLc, wp_iSeq, wp_iRange, wp_eFld, wp_eIx, wp_eTup, wp_eLst, wp_eIf, wp_eAnd, wp_eOr, wp_eNot, wp_bNot, wp_bAnd, wp_bOr, wp_aCons, wp_aNil, wp_eCall, wp_eFun, wp_eMeth, wp_arity, wp_eNeg, wp_eChain, List.getElem?_cons_zero, List.getElem?_cons_succ, List.set_cons_zero, List.set_cons_succ, List.length_cons, List.length_nil, put_nm, opCmp_int, opAdd_int, opSub_int, opEq_int, opInt_int, decide_true, decide_false, Bool.false_eq_true, if_false, if_true, true_and, and_true, List.map_cons, List.map_nil, Nat.zero_add, Nat.reduceAdd, wp_eCall, so]
    all_goals first | trivial | exact ⟨rfl, trivial⟩ | exact ⟨rfl, rfl⟩
  · unfold firD
    simp only [wp_runB, wp_sSeq, wp_sIf, bT, wp_toB, wp_eOp, wp_eVar, wp_eC, wp_sRaise, wp_sNil, wp_sAsg, wp_sPar, wp_sPar3, wp_sRet, wp_sExpr, wp_sSub, wp_sSetF, wp_eLc, wp_iSeq, wp_iRange, wp_eFld, wp_eIx, wp_eTup, wp_eLst, wp_eIf, wp_eAnd, wp_eOr, wp_eNot, wp_bNot, wp_bAnd, wp_bOr, wp_aCons, wp_aNil, wp_eCall, wp_eFun, wp_eMeth, wp_arity, wp_eNeg, wp_eChain, List.getElem?_cons_zero, List.getElem?_cons_succ, List.set_cons_zero, List.set_cons_succ, List.length_cons, List.length_nil, put_nm, opCmp_int, opAdd_int, opSub_int, opEq_int, opInt_int, decide_true, decide_false, Bool.false_eq_true, if_false, if_true, true_and, and_true, List.map_cons, List.map_nil, Nat.zero_add, Nat.reduceAdd, get_set, List.length_set, hl, Nat.reduceLT, Nat.reduceEqDiff, isn_o]
    all_goals first | trivial | exact ⟨rfl, trivial⟩ | exact ⟨rfl, rfl⟩
  · simp only [wp_runB, wp_sSeq, wp_sIf, bT, wp_toB, wp_eOp, wp_eVar, wp_eC, wp_sRaise, wp_sNil, wp_sAsg, wp_sPar, wp_sPar3, wp_sRet, wp_sExpr, wp_sSub, wp_sSetF, wp_eLc, wp_iSeq, wp_iRange, wp_eFld, wp_eIx, wp_eTup, wp_eLst, wp_eIf, wp_eAnd, wp_eOr, wp_eNot, wp_bNot, wp_bAnd, wp_bOr, wp_aCons, wp_aNil, wp_eCall, wp_eFun, wp_eMeth, wp_arity, wp_eNeg, wp_eChain, List.getElem?_cons_zero, List.getElem?_cons_succ, List.set_cons_zero, List.set_cons_succ, List.length_cons, List.length_nil, put_nm, opCmp_int, opAdd_int, opSub_int, opEq_int, opInt_int, decide_true, decide_false, Bool.false_eq_true, if_false, if_true, true_and, and_true, List.map_cons, List.map_nil, Nat.zero_add, Nat.reduceAdd, get_set, List.length_set, hl, Nat.reduceLT, Nat.reduceEqDiff, z2]
    all_goals first | trivial | exact ⟨rfl, trivial⟩ | exact ⟨rfl, rfl⟩
theorem zip_two (rows : List Pr) (l : List (Nat × Rw)) : ∀ n : Nat, fstL rows (l.zipIdx n) = fstO rows ((l.map (·.2)).zipIdx n) := by
  induction l with
  | nil => intro n; rfl
  | cons p l ih =>
    intro n
    have := ih (n + 1)
    unfold fstL fstO at *
    simp only [List.map_cons, List.zipIdx_cons, List.filterMap_cons]
    cases (begs (runs p.2 rows)).head? with
    | none => simpa using this
    | some f => simp [this]
def thsOf : Nat → List Rw → List (Nat × Rw)
  | _, [] => []
  | n, q :: os => (n, q) :: thsOf (n + 1) os
theorem thsOf_snd : ∀ (os : List Rw) (n : Nat), (thsOf n os).map (·.2) = os
  | [], _ => rfl
  | q :: os, n => by simp only [thsOf, List.map_cons, thsOf_snd os]
theorem thsOf_len (os : List Rw) (n : Nat) : (thsOf n os).length = os.length := by
  have := congrArg List.length (thsOf_snd os n)
  rwa [List.length_map] at this
theorem thsOf_at : ∀ (os : List Rw) (H : AH), ∀ p ∈ thsOf H.length os, (H ++ os.map rwO)[p.1]? = some (rwO p.2)
  | [], H, p, hp => by cases hp
  | q :: os, H, p, hp => by
    have e : H ++ (q :: os).map rwO = (H ++ [rwO q]) ++ os.map rwO := by simp
    rw [e]
    rcases List.mem_cons.mp hp with z | z
    · rw [z]
      exact get_app get_last _
    · have := thsOf_at os (H ++ [rwO q]) p
      rw [List.length_append, List.length_singleton] at this
      exact this z
theorem lc_make {env0 : Env} {ge : Env → M D} (hge : ∀ (q : Rw) (H : AH), OkW q → ge (env0.set 26 (some (rwD q))) H = .ok (.obj H.length) (H ++ [rwO q])) : ∀ (os : List Rw) (H : AH), (∀ q ∈ os, OkW q) →
    lcGo (.nm 26) bYes ge (fun _ => true) env0 (os.map rwD) H = .ok ((thsOf H.length os).map fun p => .obj p.1) (H ++ os.map rwO)
  | [], H, _ => by simp [lcGo, thsOf]
  | q :: os, H, ho => by
    have ih := lc_make hge os (H ++ [rwO q]) fun p hp => ho p (List.mem_cons_of_mem _ hp)
    have e1 := hge q H (ho q List.mem_cons_self)
    simp only [List.map_cons, lcGo, if_true, put_nm]
    unfold bnd
    have by1 : noEx (bYes (env0.set 26 (some (rwD q)))) H = .ok true H := rfl
    rw [by1]
    dsimp only
    simp only [if_true]
    rw [noEx_ok e1]
    dsimp only
    rw [ih]
    simp [thsOf, ret]
theorem c33_ok {os : List Rw} {rows : List Pr} (hr : Rise rows) (hn : rows.length ≤ 100) (ho : os.length ≤ 100) (hos : ∀ q ∈ os, OkW q) (hl : env.length = 32) (e3 : env[3]? = some (some (.lst (rows.map pD)))) (e21 : env[21]? = some (some (.lst (os.map rwD)))) (e23 : env[23]? = some (some (.lst ((isort leP (fstO rows (os.zipIdx 0))).map pD)))) :
    Wp (c_33 (run (k+3)) env) h (fun f h' => f = .nx env ∧ ∃ u, h' = h ++ u) (fun _ _ => False) := by
  have z0 : 0 ≤ sizeLine := by decide
  have z2 : 2 ≤ sizeLine := by decide
  simp only [wp_runB, wp_sSeq, wp_sIf, bT, wp_toB, wp_eOp, wp_eVar, wp_eC, wp_sRaise, wp_sNil, wp_sAsg, wp_sPar, wp_sPar3, wp_sRet, wp_sExpr, wp_sSub, wp_sSetF, wp_eLc, wp_iSeq, wp_iRange, wp_eFld, wp_eIx, wp_eTup, wp_eLst, wp_eIf, wp_eAnd, wp_eOr, wp_eNot, wp_bNot, wp_bAnd, wp_bOr, wp_aCons, wp_aNil, wp_eCall, wp_eFun, wp_eMeth, wp_arity, wp_eNeg, wp_eChain, List.getElem?_cons_zero, List.getElem?_cons_succ, List.set_cons_zero, List.set_cons_succ, List.length_cons, List.length_nil, put_nm, opCmp_int, opAdd_int, opSub_int, opEq_int, opInt_int, decide_true, decide_false, Bool.false_eq_true, if_false, if_true, true_and, and_true, List.map_cons, List.map_nil, Nat.zero_add, Nat.reduceAdd, c_33, e21, src_lst, wipe1]
  refine ⟨by rw [List.length_map, sizeLine_eq]; omega, ?_⟩
  rw [wp_eq (lc_make (fun q H oq => Wp.eq ?_) os h hos)]
  · simp only [wp_runB, wp_sSeq, wp_sIf, bT, wp_toB, wp_eOp, wp_eVar, wp_eC, wp_sRaise, wp_sNil, wp_sAsg, wp_sPar, wp_sPar3, wp_sRet, wp_sExpr, wp_sSub, wp_sSetF, wp_eLc, wp_iSeq, wp_iRange, wp_eFld, wp_eIx, wp_eTup, wp_eLst, wp_eIf, wp_eAnd, wp_eOr, wp_eNot, wp_bNot, wp_bAnd, wp_bOr, wp_aCons, wp_aNil, wp_eCall, wp_eFun, wp_eMeth, wp_arity, wp_eNeg, wp_eChain, List.getElem?_cons_zero, List.getElem?_cons_succ, List.set_cons_zero, List.set_cons_succ, List.length_cons, List.length_nil, put_nm, opCmp_int, opAdd_int, opSub_int, opEq_int, opInt_int, decide_true, decide_false, Bool.false_eq_true, if_false, if_true, true_and, and_true, List.map_cons, List.map_nil, Nat.zero_add, Nat.reduceAdd, e3, wp_eFun, wp_arity]
    have F := first_ok (k := k) (ths := thsOf h.length os) (rows := rows) (h := h ++ os.map rwO) hr hn (by rw [thsOf_len]; exact ho) (thsOf_at os h)
    refine Wp.impQ F ?_
    rintro _ _ ⟨rfl, u, rfl⟩
    rw [zip_two, thsOf_snd]
    have hzl : (os.zipIdx 0).length = os.length := List.length_zipIdx
    have hfl : (fstO rows (os.zipIdx 0)).length ≤ (os.zipIdx 0).length := List.length_filterMap_le _ _
    generalize fstO rows (os.zipIdx 0) = F at *
    have ne := opNe_nilG (h := h ++ os.map rwO ++ u) (d := .lst ((isort leP F).map pD)) (xs := (isort leP F).map pD) (.inl rfl) (okDs_map fun q _ => by simp [pD, okD, okDs])
    simp only [wp_runB, wp_sSeq, wp_sIf, bT, wp_toB, wp_eOp, wp_eVar, wp_eC, wp_sRaise, wp_sNil, wp_sAsg, wp_sPar, wp_sPar3, wp_sRet, wp_sExpr, wp_sSub, wp_sSetF, wp_eLc, wp_iSeq, wp_iRange, wp_eFld, wp_eIx, wp_eTup, wp_eLst, wp_eIf, wp_eAnd, wp_eOr, wp_eNot, wp_bNot, wp_bAnd, wp_bOr, wp_aCons, wp_aNil, wp_eCall, wp_eFun, wp_eMeth, wp_arity, wp_eNeg, wp_eChain, List.getElem?_cons_zero, List.getElem?_cons_succ, List.set_cons_zero, List.set_cons_succ, List.length_cons, List.length_nil, put_nm, opCmp_int, opAdd_int, opSub_int, opEq_int, opInt_int, decide_true, decide_false, Bool.false_eq_true, if_false, if_true, true_and, and_true, List.map_cons, List.map_nil, Nat.zero_add, Nat.reduceAdd, e23, z0, ne]
    have okb : okD 50 (bestD (bestP F)) = true := by
      cases bestP F with
      | none => rfl
      | some q => simp [bestD, okD, okDs]
    have rf := opNe_refl (h := h ++ os.map rwO ++ u) okb
    cases F with
    | nil =>
      simp only [isort, List.map_nil, List.isEmpty_nil, Bool.not_true, Bool.false_eq_true, if_false]
      have : opNe (h ++ os.map rwO ++ u) (bestD (bestP [])) .non = some (.bl false) := rf
      simp only [this, Bool.false_eq_true, if_false]
      exact ⟨_, List.append_assoc _ _ _⟩
    | cons x F =>
      cases es : isort leP (x :: F) with
      | nil =>
        have := congrArg List.length es
        rw [len_isort] at this
        simp at this
      | cons s rest =>
        have hs := minBy_head leP_tot leP_tr leP_anti F x s rest es
        have i0 : ∀ hh : AH, ixD hh (.lst (pD s :: rest.map pD)) (.int 0) = some (pD s) := fun hh => atI_0 pD s rest
        have j0 : ∀ (hh : AH) q, ixD hh (pD q) (.int 0) = some (.int q.1) := fun _ _ => rfl
        have j1 : ∀ (hh : AH) q, ixD hh (pD q) (.int 1) = some (.int q.2) := fun _ _ => rfl
        have : opNe (h ++ os.map rwO ++ u) (bestD (bestP (x :: F))) (.tup [.int s.2, .int s.1]) = some (.bl false) := by
          have e : bestD (bestP (x :: F)) = .tup [.int s.2, .int s.1] := by
            show bestD (some (minBy leP x F)) = _
            rw [← hs]; rfl
          rw [← e]; exact rf
        simp only [wp_runB, wp_sSeq, wp_sIf, bT, wp_toB, wp_eOp, wp_eVar, wp_eC, wp_sRaise, wp_sNil, wp_sAsg, wp_sPar, wp_sPar3, wp_sRet, wp_sExpr, wp_sSub, wp_sSetF, wp_eLc, wp_iSeq, wp_iRange, wp_eFld, wp_eIx, wp_eTup, wp_eLst, wp_eIf, wp_eAnd, wp_eOr, wp_eNot, wp_bNot, wp_bAnd, wp_bOr, wp_aCons, wp_aNil, wp_eCall, wp_eFun, wp_eMeth, wp_arity, wp_eNeg, wp_eChain, List.getElem?_cons_zero, List.getElem?_cons_succ, List.set_cons_zero, List.set_cons_succ, List.length_cons, List.length_nil, put_nm, opCmp_int, opAdd_int, opSub_int, opEq_int, opInt_int, decide_true, decide_false, Bool.false_eq_true, if_false, if_true, true_and, and_true, List.map_cons, List.map_nil, Nat.zero_add, Nat.reduceAdd, List.isEmpty_cons, Bool.not_false, e23, es, i0, j0, j1, z2, this]
        exact ⟨_, List.append_assoc _ _ _⟩
  · simp only [wp_runB, wp_sSeq, wp_sIf, bT, wp_toB, wp_eOp, wp_eVar, wp_eC, wp_sRaise, wp_sNil, wp_sAsg, wp_sPar, wp_sPar3, wp_sRet, wp_sExpr, wp_sSub, wp_sSetF, wp_eLc, wp_iSeq, wp_iRange, wp_eFld, wp_eIx, wp_eTup, wp_eLst, wp_eIf, wp_eAnd, wp_eOr, wp_eNot, wp_bNot, wp_bAnd, wp_bOr, wp_aCons, wp_aNil, wp_eCall, wp_eFun, wp_eMeth, wp_arity, wp_eNeg, wp_eChain, List.getElem?_cons_zero, List.getElem?_cons_succ, List.set_cons_zero, List.set_cons_succ, List.length_cons, List.length_nil, put_nm, opCmp_int, opAdd_int, opSub_int, opEq_int, opInt_int, decide_true, decide_false, Bool.false_eq_true, if_false, if_true, true_and, and_true, List.map_cons, List.map_nil, Nat.zero_add, Nat.reduceAdd, get_set, List.length_set, hl, Nat.reduceLT, Nat.reduceEqDiff, ix_rw0, ix_rw1, ix_rw2, ix_rw3, ix_rw4, wp_eMake, wp_arity, wp_eq (make_ok (k := k+2) (h := H) oq)]
    all_goals first | trivial | exact ⟨rfl, trivial⟩ | exact ⟨rfl, rfl⟩
theorem c34_ok : c_34 (run k) env h = .ok (.nx (env.set 24 (some (.lst ([("" : Str), "odd 5", "above", "above x", "above 5 for", "above 5 back 1 for 2", "above 5 for 1 for 2", "outside 5", "outside 9 5", "above 5 odd 1"].map D.str))))) h := by
  refine Wp.eq ?_
  have z : 10 ≤ sizeLine := by decide
  simp only [wp_runB, wp_sSeq, wp_sIf, bT, wp_toB, wp_eOp, wp_eVar, wp_eC, wp_sRaise, wp_sNil, wp_sAsg, wp_sPar, wp_sPar3, wp_sRet, wp_sExpr, wp_sSub, wp_sSetF, wp_eLc, wp_iSeq, wp_iRange, wp_eFld, wp_eIx, wp_eTup, wp_eLst, wp_eIf, wp_eAnd, wp_eOr, wp_eNot, wp_bNot, wp_bAnd, wp_bOr, wp_aCons, wp_aNil, wp_eCall, wp_eFun, wp_eMeth, wp_arity, wp_eNeg, wp_eChain, List.getElem?_cons_zero, List.getElem?_cons_succ, List.set_cons_zero, List.set_cons_succ, List.length_cons, List.length_nil, put_nm, opCmp_int, opAdd_int, opSub_int, opEq_int, opInt_int, decide_true, decide_false, Bool.false_eq_true, if_false, if_true, true_and, and_true, List.map_cons, List.map_nil, Nat.zero_add, Nat.reduceAdd, c_34, z]
  all_goals first | trivial | exact ⟨rfl, trivial⟩ | exact ⟨rfl, rfl⟩
theorem c35_ok (hl : env.length = 32) (e24 : env[24]? = some (some (.lst ([("" : Str), "odd 5", "above", "above x", "above 5 for", "above 5 back 1 for 2", "above 5 for 1 for 2", "outside 5", "outside 9 5", "above 5 odd 1"].map D.str)))) : c_35 (run k) env h = .ok (.nx (env.set 24 (some (.lst (wildL.map .str))))) h := by
  refine Wp.eq ?_
  have z : 2 ≤ sizeLine := by decide
  have ad : opAdd h (.lst ([("" : Str), "odd 5", "above", "above x", "above 5 for", "above 5 back 1 for 2", "above 5 for 1 for 2", "outside 5", "outside 9 5", "above 5 odd 1"].map D.str)) (.lst [.str "below 5 back -1", .str "outside 1 2 back 3"]) = some (.lst (wildL.map .str)) := by
    rw [opAdd_lst (by rw [sizeLine_eq]; decide)]; rfl
  simp only [List.map_cons, List.map_nil] at ad e24
  simp only [wp_runB, wp_sSeq, wp_sIf, bT, wp_toB, wp_eOp, wp_eVar, wp_eC, wp_sRaise, wp_sNil, wp_sAsg, wp_sPar, wp_sPar3, wp_sRet, wp_sExpr, wp_sSub, wp_sSetF, wp_eLc, wp_iSeq, wp_iRange, wp_eFld, wp_eIx, wp_eTup, wp_eLst, wp_eIf, wp_eAnd, wp_eOr, wp_eNot, wp_bNot, wp_bAnd, wp_bOr, wp_aCons, wp_aNil, wp_eCall, wp_eFun, wp_eMeth, wp_arity, wp_eNeg, wp_eChain, List.getElem?_cons_zero, List.getElem?_cons_succ, List.set_cons_zero, List.set_cons_succ, List.length_cons, List.length_nil, put_nm, opCmp_int, opAdd_int, opSub_int, opEq_int, opInt_int, decide_true, decide_false, Bool.false_eq_true, if_false, if_true, true_and, and_true, List.map_cons, List.map_nil, Nat.zero_add, Nat.reduceAdd, c_35, z, e24, ad]
  all_goals first | trivial | (unfold wildL; simp only [wp_runB, wp_sSeq, wp_sIf, bT, wp_toB, wp_eOp, wp_eVar, wp_eC, wp_sRaise, wp_sNil, wp_sAsg, wp_sPar, wp_sPar3, wp_sRet, wp_sExpr, wp_sSub, wp_sSetF, wp_eLc, wp_iSeq, wp_iRange, wp_eFld, wp_eIx, wp_eTup, wp_eLst, wp_eIf, wp_eAnd, wp_eOr, wp_eNot, wp_bNot, wp_bAnd, wp_bOr, wp_aCons, wp_aNil, wp_eCall, wp_eFun, wp_eMeth, wp_arity, wp_eNeg, wp_eChain, List.getElem?_cons_zero, List.getElem?_cons_succ, List.set_cons_zero, List.set_cons_succ, List.length_cons, List.length_nil, put_nm, opCmp_int, opAdd_int, opSub_int, opEq_int, opInt_int, decide_true, decide_false, Bool.false_eq_true, if_false, if_true, true_and, and_true, List.map_cons, List.map_nil, Nat.zero_add, Nat.reduceAdd]; all_goals first | trivial | exact ⟨rfl, trivial⟩ | exact ⟨rfl, rfl⟩)
theorem c36_ok (hl : env.length = 32) (e1 : env[1]? = some (some (.obj 0))) (e24 : env[24]? = some (some (.lst (wildL.map .str)))) : Wp (c_36 (run (k+1)) env) (dice a b m :: t) (fun f h' => ∃ x a' b' m', f = .nx (env.set 25 (some (.str x))) ∧ x ∈ wildL ∧ h' = dice a' b' m' :: t) (fun _ _ => False) := by
  simp only [wp_runB, wp_sSeq, wp_sIf, bT, wp_toB, wp_eOp, wp_eVar, wp_eC, wp_sRaise, wp_sNil, wp_sAsg, wp_sPar, wp_sPar3, wp_sRet, wp_sExpr, wp_sSub, wp_sSetF, wp_eLc, wp_iSeq, wp_iRange, wp_eFld, wp_eIx, wp_eTup, wp_eLst, wp_eIf, wp_eAnd, wp_eOr, wp_eNot, wp_bNot, wp_bAnd, wp_bOr, wp_aCons, wp_aNil, wp_eCall, wp_eFun, wp_eMeth, wp_arity, wp_eNeg, wp_eChain, List.getElem?_cons_zero, List.getElem?_cons_succ, List.set_cons_zero, List.set_cons_succ, List.length_cons, List.length_nil, put_nm, opCmp_int, opAdd_int, opSub_int, opEq_int, opInt_int, decide_true, decide_false, Bool.false_eq_true, if_false, if_true, true_and, and_true, List.map_cons, List.map_nil, Nat.zero_add, Nat.reduceAdd, c_36, e1, e24, wp_eFun, wp_arity]
  refine Wp.impQ (roll_ok (by decide) (by decide)) ?_
  rintro _ _ ⟨r1, a1, b1, m1, rfl, h1, h2, rfl⟩
  have hw : wildL.length = 12 := rfl
  obtain ⟨x, hx⟩ : ∃ x, wildL[r1.toNat]? = some x := ⟨_, List.getElem?_eq_getElem (by omega)⟩
  have i0 := ix_strs (h := dice a1 b1 m1 :: t) hx
  rw [show ((r1.toNat : Nat) : Int) = r1 by omega] at i0
  simp only [i0]
  exact ⟨x, a1, b1, m1, rfl, List.mem_of_getElem? hx, rfl⟩
theorem c38_ok {x : Str} (hx : x ∈ wildL) (e25 : env[25]? = some (some (.str x))) : Wp (c_38 (run (k+3)) env) h (fun f h' => f = .nx env) (fun _ _ => False) := by
  unfold c_38
  rw [wp_sIf]
  have key : Wp (bT (eOp opNe (eTold [1] "ThresholdError" (eFun (arity 1 (run (k+3) 8)) (aCons (eVar 25) (aNil)))) (eC (.str "ThresholdError"))) env) h (fun bb _ => bb = false) (fun _ _ => False) := by
    simp only [wp_runB, wp_sSeq, wp_sIf, bT, wp_toB, wp_eOp, wp_eVar, wp_eC, wp_sRaise, wp_sNil, wp_sAsg, wp_sPar, wp_sPar3, wp_sRet, wp_sExpr, wp_sSub, wp_sSetF, wp_eLc, wp_iSeq, wp_iRange, wp_eFld, wp_eIx, wp_eTup, wp_eLst, wp_eIf, wp_eAnd, wp_eOr, wp_eNot, wp_bNot, wp_bAnd, wp_bOr, wp_aCons, wp_aNil, wp_eCall, wp_eFun, wp_eMeth, wp_arity, wp_eNeg, wp_eChain, List.getElem?_cons_zero, List.getElem?_cons_succ, List.set_cons_zero, List.set_cons_succ, List.length_cons, List.length_nil, put_nm, opCmp_int, opAdd_int, opSub_int, opEq_int, opInt_int, decide_true, decide_false, Bool.false_eq_true, if_false, if_true, true_and, and_true, List.map_cons, List.map_nil, Nat.zero_add, Nat.reduceAdd, wp_eTold, e25, wp_eFun, wp_arity]
    refine Wp.imp (read_ok (k := k) (wild_ok hx)) ?_ ?_
    · rintro _ _ ⟨q, u, e, _⟩
      cases e
    · rintro c h' ⟨rfl, _, u, rfl⟩
      refine ⟨rfl, ?_⟩
      simp only [wp_runB, wp_sSeq, wp_sIf, bT, wp_toB, wp_eOp, wp_eVar, wp_eC, wp_sRaise, wp_sNil, wp_sAsg, wp_sPar, wp_sPar3, wp_sRet, wp_sExpr, wp_sSub, wp_sSetF, wp_eLc, wp_iSeq, wp_iRange, wp_eFld, wp_eIx, wp_eTup, wp_eLst, wp_eIf, wp_eAnd, wp_eOr, wp_eNot, wp_bNot, wp_bAnd, wp_bOr, wp_aCons, wp_aNil, wp_eCall, wp_eFun, wp_eMeth, wp_arity, wp_eNeg, wp_eChain, List.getElem?_cons_zero, List.getElem?_cons_succ, List.set_cons_zero, List.set_cons_succ, List.length_cons, List.length_nil, put_nm, opCmp_int, opAdd_int, opSub_int, opEq_int, opInt_int, decide_true, decide_false, Bool.false_eq_true, if_false, if_true, true_and, and_true, List.map_cons, List.map_nil, Nat.zero_add, Nat.reduceAdd, opNe_str, BEq.rfl, Bool.not_true]
  refine Wp.impQ key ?_
  rintro _ h' rfl
  simp only [Bool.false_eq_true, if_false, wp_sNil]
end
end PyD.K02

namespace PyD.K02
open PySem PySem.Spec L2 PyD
open PyProof.Rows hiding St
open PyD (Env Pat)
section
variable {h u t : AH} {env : Env} {k : Nat} {a b m : Int}
variable {r : Rw} {n : Nat}
def qE (cal : Nat → List D → M D) : Env → M Fl := sSeq (c_29 cal) (sSeq (c_30 cal) (sSeq (c_31 cal) (sSeq (c_33 cal) (sSeq (c_34 cal) (sSeq (c_35 cal) (sSeq (c_36 cal) (c_38 cal)))))))
def qD (cal : Nat → List D → M D) : Env → M Fl := sSeq (c_19 cal) (sSeq (c_20 cal) (sSeq (c_22 cal) (sSeq (c_23 cal) (sSeq (c_28 cal) (qE cal)))))
def qC (cal : Nat → List D → M D) : Env → M Fl := sSeq (c_7 cal) (sSeq (c_9 cal) (sSeq (c_13 cal) (sSeq (c_18 cal) (qD cal))))
def qA (cal : Nat → List D → M D) : Env → M Fl := sSeq (c_0 cal) (sSeq (c_3 cal) (sSeq (c_4 cal) (sSeq (c_5 cal) (qC cal))))
theorem c39_eq (cal : Nat → List D → M D) : c_39 cal = sFor (.nm 1) (iSeq (eFun (arity 2 (cal 15)) (aCons (eVar 0) (aCons (eC (.int 1)) aNil)))) (qA cal) := rfl
def endN (f : Fl) : Prop := ∃ env' : Env, f = .nx env'
theorem qE_ok {rows : List Pr} (o : OkW r) (hr : Rise rows) (hn : rows.length ≤ 14) (hl : env.length = 32) (e1 : env[1]? = some (some (.obj 0))) (e2 : env[2]? = some (some (rwD r))) (e3 : env[3]? = some (some (.lst (rows.map pD)))) : Wp (qE (run (k+4)) env) (dice a b m :: t) (fun f _ => endN f) (fun _ _ => False) := by
  unfold qE
  rw [wp_sSeq]
  refine Wp.impQ (c29_ok (k := k+2) o hl e1 e2) ?_
  rintro _ _ ⟨os, a1, b1, m1, rfl, hos, ho, rfl⟩
  dsimp only
  rw [wp_sSeq, wp_eq (c30_ok (k := k+2) (os := os) (rows := rows) (by omega) (by omega) (by simp [hl]) (by simp [hl]) (by simp only [get_set, List.length_set, hl, Nat.reduceLT, Nat.reduceEqDiff, if_false, e3]))]
  dsimp only
  rw [wp_sSeq, wp_eq (c31_ok (k := k+4) (os := os) (rows := rows) (by omega) (by simp [hl]) (List.getElem?_set_self (by simp [hl])))]
  dsimp only
  rw [wp_sSeq]
  refine Wp.impQ (c33_ok (k := k+1) (os := os) (rows := rows) hr (by omega) (by omega) hos (by simp [hl]) (by simp only [get_set, List.length_set, hl, Nat.reduceLT, Nat.reduceEqDiff, if_false, e3]) (by simp [hl]) (List.getElem?_set_self (by simp [hl]))) ?_
  rintro _ _ ⟨rfl, u, rfl⟩
  dsimp only
  rw [wp_sSeq, wp_eq c34_ok]
  dsimp only
  rw [wp_sSeq, wp_eq (c35_ok (k := k+4) (by simp [hl]) (List.getElem?_set_self (by simp [hl])))]
  dsimp only
  rw [wp_sSeq]
  refine Wp.impQ (c36_ok (k := k+3) (t := t ++ u) (by simp [hl]) (by simp only [get_set, List.length_set, hl, Nat.reduceLT, Nat.reduceEqDiff, if_false, e1]) (List.getElem?_set_self (by simp [hl]))) ?_
  rintro _ _ ⟨x, a2, b2, m2, rfl, hx, rfl⟩
  dsimp only
  refine Wp.impQ (c38_ok (k := k+1) hx (List.getElem?_set_self (by simp [hl]))) ?_
  rintro _ h' rfl
  exact ⟨_, rfl⟩
theorem qD_ok {rows : List Pr} {now : Int} (o : OkW r) (ok : OkR rows now) (hl : env.length = 32) (e1 : env[1]? = some (some (.obj 0))) (e2 : env[2]? = some (some (rwD r))) (e3 : env[3]? = some (some (.lst (rows.map pD)))) (e4 : env[4]? = some (some (.int now))) (e6 : env[6]? = some (some (.obj (n + 1)))) (e7 : env[7]? = some (some (.lst ((runs r rows).map runD)))) (eT : t[n]? = some (rwO r)) :
    Wp (qD (run (k+4)) env) (dice a b m :: t) (fun f _ => endN f) (fun _ _ => False) := by
  have hn := ok.len
  have hrl := runs_len r rows
  unfold qD
  rw [wp_sSeq]
  refine Wp.impQ (c19_ok (k := k+3) hl e1 e4) ?_
  rintro _ _ ⟨la, a1, b1, m1, rfl, hla, rfl⟩
  dsimp only
  rw [wp_sSeq, wp_eq (c20_ok (k := k+4) (R := runs r rows) (la := la) (by omega) (by simp [hl]) (by simp only [get_set, List.length_set, hl, Nat.reduceLT, Nat.reduceEqDiff, if_false, e7]) (List.getElem?_set_self (by simp [hl])))]
  dsimp only
  rw [wp_sSeq]
  have eH : (dice a1 b1 m1 :: t)[n + 1]? = some (rwO r) := by rw [List.getElem?_cons_succ]; exact eT
  refine Wp.impQ (c22_ok (k := k+1) (n := n + 1) (rows := rows) (la := la) ok.rise (by omega) (fun q hq => by have := ok.le q hq; omega) (by simp [hl]) (by simp only [get_set, List.length_set, hl, Nat.reduceLT, Nat.reduceEqDiff, if_false, e3]) (by simp only [get_set, List.length_set, hl, Nat.reduceLT, Nat.reduceEqDiff, if_false, e6]) (by simp [hl]) (List.getElem?_set_self (by simp [hl])) eH) ?_
  rintro _ _ ⟨rfl, u, rfl⟩
  dsimp only
  rw [wp_sSeq]
  refine Wp.impQ (c23_ok (k := k+3) (rows := rows) (t := t ++ u) (by omega) (by simp [hl]) (by simp only [get_set, List.length_set, hl, Nat.reduceLT, Nat.reduceEqDiff, if_false, e1]) (by simp only [get_set, List.length_set, hl, Nat.reduceLT, Nat.reduceEqDiff, if_false, e3])) ?_
  rintro _ _ ⟨most, x, a2, b2, m2, rfl, h0, hx, rfl⟩
  dsimp only
  rw [wp_sSeq]
  obtain ⟨env', p, fr⟩ := c28_ok (k := k+3) (h := dice a2 b2 m2 :: (t ++ u)) (rows := rows) (most := most) (x := x) (env := (((((env.set 14 (some (.int la))).set 15 (some (.int (firedF la (runs r rows))))).set 16 (some (.lst ((rows.map (·.2)).map D.int)))).set 17 (some (.int most))).set 18 (some (.str (kS x))))) hx h0 (by omega) (by simp [hl]) (by simp only [get_set, List.length_set, hl, Nat.reduceLT, Nat.reduceEqDiff, if_false, e3]) (by
    rw [List.getElem?_set_ne (by decide), List.getElem?_set_ne (by decide), List.getElem?_set_self (by simp [hl])]) (by simp [hl]) (by simp [hl])
  rw [wp_eq p]
  dsimp only
  have fr' : Fr [14, 15, 16, 17, 18, 19, 20] env env' := by
    have f0 : Fr [14, 15, 16, 17, 18] env (((((env.set 14 (some (.int la))).set 15 (some (.int (firedF la (runs r rows))))).set 16 (some (.lst ((rows.map (·.2)).map D.int)))).set 17 (some (.int most))).set 18 (some (.str (kS x)))) := ((((Fr.rfl'.set (by decide)).set (by decide)).set (by decide)).set (by decide)).set (by decide)
    exact f0.trans fr
  exact qE_ok (k := k) (t := t ++ u) o ok.rise hn (fr'.1.trans hl) (fr'.get e1) (fr'.get e2) (fr'.get e3)
theorem qC_ok {rows : List Pr} {now : Int} {n2 : Nat} (o : OkW r) (ok : OkR rows now) (hl : env.length = 32) (e1 : env[1]? = some (some (.obj 0))) (e2 : env[2]? = some (some (rwD r))) (e3 : env[3]? = some (some (.lst (rows.map pD)))) (e4 : env[4]? = some (some (.int now))) (e6 : env[6]? = some (some (.obj (n + 1)))) (e7 : env[7]? = some (some (.lst ((runs r rows).map runD)))) (e8 : env[8]? = some (some (.obj n2))) (eT : t[n]? = some (rwO r)) (eA : (dice a b m :: t)[n2]? = some (rwO r)) :
    Wp (qC (run (k+4)) env) (dice a b m :: t) (fun f _ => endN f) (fun _ _ => False) := by
  have hn := ok.len
  have eH : (dice a b m :: t)[n + 1]? = some (rwO r) := by rw [List.getElem?_cons_succ]; exact eT
  unfold qC
  rw [wp_sSeq, wp_eq (c7_ok (k := k+3) o hl e2 e6 eH)]
  dsimp only
  rw [wp_sSeq]
  refine Wp.impQ (c9_ok (k := k+2) ok.rise (by omega) hl e2 e3 e6 e7 e8 eH eA) ?_
  rintro _ _ ⟨rfl, u, rfl⟩
  dsimp only
  rw [wp_sSeq]
  refine Wp.impQ (c13_ok (k := k+2) (n := n + 1) o hl e2 e6 (get_app eH u)) ?_
  rintro _ _ ⟨env1, rfl, rfl, f1⟩
  dsimp only
  rw [wp_sSeq]
  refine Wp.impQ (c18_ok (k := k+1) (n := n) (t := t ++ u) ok.rise (by omega) (f1.1.trans hl) (f1.get e1) (f1.get e2) (f1.get e3) (f1.get e6) (get_app eT u)) ?_
  rintro _ _ ⟨env2, u2, a2, b2, m2, rfl, rfl, f2⟩
  dsimp only
  have f3 := f1.trans f2
  exact qD_ok (k := k) (n := n) (t := t ++ u ++ u2) o ok (f3.1.trans hl) (f3.get e1) (f3.get e2) (f3.get e3) (f3.get e4) (f3.get e6) (f3.get e7) (get_app (get_app eT u) u2)
theorem qA_ok (hl : env.length = 32) (e1 : env[1]? = some (some (.obj 0))) : Wp (qA (run (k+4)) env) (dice a b m :: t) (fun f _ => endN f) (fun _ _ => False) := by
  unfold qA
  rw [wp_sSeq]
  refine Wp.impQ (c0_ok (k := k+2) hl e1) ?_
  rintro _ _ ⟨r, a1, b1, m1, rfl, o, rfl⟩
  dsimp only
  rw [wp_sSeq]
  refine Wp.impQ (c3_ok (k := k+3) (by simp [hl]) (by simp only [get_set, List.length_set, hl, Nat.reduceLT, Nat.reduceEqDiff, if_false, e1]) (by simp [hl]) (by simp [hl])) ?_
  rintro _ _ ⟨rows, now, a2, b2, m2, env1, rfl, rfl, ok, g3, g4, f1⟩
  dsimp only
  have hn := ok.len
  have hl1 : env1.length = 32 := by rw [f1.1]; simp [hl]
  have g1 : env1[1]? = some (some (.obj 0)) := f1.get (by simp only [get_set, List.length_set, hl, Nat.reduceLT, Nat.reduceEqDiff, if_false, e1])
  have g2 : env1[2]? = some (some (rwD r)) := f1.get (by simp [hl])
  rw [wp_sSeq, wp_eq (c4_ok (k := k+2) (rows := rows) o (by omega) hl1 g2 g3)]
  dsimp only
  rw [wp_sSeq]
  refine Wp.impQ (c5_ok (k := k+1) (r := r) o (by simp [hl1]) (by simp only [get_set, List.length_set, hl1, Nat.reduceLT, Nat.reduceEqDiff, if_false, g2])) ?_
  rintro _ _ ⟨u, rfl, rfl⟩
  dsimp only
  have hlen : (dice a2 b2 m2 :: t).length = t.length + 1 := rfl
  have eT : (t ++ [rwO r] ++ u ++ [rwO r])[t.length]? = some (rwO r) := get_app (get_app get_last u) _
  have eA : (dice a2 b2 m2 :: (t ++ [rwO r] ++ u ++ [rwO r]))[((dice a2 b2 m2 :: t) ++ [rwO r]).length + u.length]? = some (rwO r) := by
    have : ((dice a2 b2 m2 :: t) ++ [rwO r]).length + u.length = (dice a2 b2 m2 :: t ++ [rwO r] ++ u).length := by simp; omega
    rw [this]
    exact get_last (h := dice a2 b2 m2 :: t ++ [rwO r] ++ u)
  exact qC_ok (k := k) (n := t.length) (t := t ++ [rwO r] ++ u ++ [rwO r]) (rows := rows) (now := now) o ok (by simp [hl1]) (by simp only [get_set, List.length_set, hl1, Nat.reduceLT, Nat.reduceEqDiff, if_false, g1]) (by simp only [get_set, List.length_set, hl1, Nat.reduceLT, Nat.reduceEqDiff, if_false, g2]) (by simp only [get_set, List.length_set, hl1, Nat.reduceLT, Nat.reduceEqDiff, if_false, g3]) (by simp only [get_set, List.length_set, hl1, Nat.reduceLT, Nat.reduceEqDiff, if_false, g4]) (by simp [hl1]) (by simp [hl1]) (List.getElem?_set_self (by simp [hl1])) eT eA
set_option maxHeartbeats 0 in
theorem plain10 : saysB true (b_22 (run 10) (startE 6 []) []) = true := by decide +kernel
theorem plain_at : run 11 22 [] h = .ok (.bl true) h := by
  show (if saysB true (b_22 (run 10) (startE 6 []) []) then R.ok (D.bl true) h else R.bad) = _
  rw [plain10]; rfl
theorem law_true : ∀ ns : List Int, ns.length ≤ 63 → (∀ z ∈ ns, Builtin.Int.intBits z ≤ 1048576) → ∃ h, run 12 23 [.scr ns] [] = .ok (.bl true) h := fun ns _ _ => by
  have key : Wp (run 12 23 [.scr ns]) [] (fun d _ => d = .bl true) (fun _ _ => False) := by
    show Wp (runB 32 (b_23 (run 11)) [.scr ns]) _ _ _
    obtain ⟨a, b, m, e⟩ := rounds_ok (k := 9) ns
    rw [wp_runB]
    unfold b_23
    rw [wp_sSeq, c39_eq, wp_sFor]
    have s0 : (startE 32 [D.scr ns])[0]? = some (some (.scr ns)) := rfl
    simp only [wp_runB, wp_sSeq, wp_sIf, bT, wp_toB, wp_eOp, wp_eVar, wp_eC, wp_sRaise, wp_sNil, wp_sAsg, wp_sPar, wp_sPar3, wp_sRet, wp_sExpr, wp_sSub, wp_sSetF, wp_eLc, wp_iSeq, wp_iRange, wp_eFld, wp_eIx, wp_eTup, wp_eLst, wp_eIf, wp_eAnd, wp_eOr, wp_eNot, wp_bNot, wp_bAnd, wp_bOr, wp_aCons, wp_aNil, wp_eCall, wp_eFun, wp_eMeth, wp_arity, wp_eNeg, wp_eChain, List.getElem?_cons_zero, List.getElem?_cons_succ, List.set_cons_zero, List.set_cons_succ, List.length_cons, List.length_nil, put_nm, opCmp_int, opAdd_int, opSub_int, opEq_int, opInt_int, decide_true, decide_false, Bool.false_eq_true, if_false, if_true, true_and, and_true, List.map_cons, List.map_nil, Nat.zero_add, Nat.reduceAdd, s0, wp_eFun, wp_arity, wp_eq e, src_lst]
    have p := qA_ok (a := a) (b := b) (m := m) (t := []) (k := 7) (env := (startE 32 [D.scr ns]).set 1 (some (.obj 0))) rfl rfl
    rw [wp_forCons rfl (put_nm 1 (.obj 0) _)]
    refine Wp.impQ p ?_
    rintro _ h' ⟨env', rfl⟩
    dsimp only
    rw [wp_forNil rfl]
    have q := plain_at (h := h')
    simp only [wp_runB, wp_sSeq, wp_sIf, bT, wp_toB, wp_eOp, wp_eVar, wp_eC, wp_sRaise, wp_sNil, wp_sAsg, wp_sPar, wp_sPar3, wp_sRet, wp_sExpr, wp_sSub, wp_sSetF, wp_eLc, wp_iSeq, wp_iRange, wp_eFld, wp_eIx, wp_eTup, wp_eLst, wp_eIf, wp_eAnd, wp_eOr, wp_eNot, wp_bNot, wp_bAnd, wp_bOr, wp_aCons, wp_aNil, wp_eCall, wp_eFun, wp_eMeth, wp_arity, wp_eNeg, wp_eChain, List.getElem?_cons_zero, List.getElem?_cons_succ, List.set_cons_zero, List.set_cons_succ, List.length_cons, List.length_nil, put_nm, opCmp_int, opAdd_int, opSub_int, opEq_int, opInt_int, decide_true, decide_false, Bool.false_eq_true, if_false, if_true, true_and, and_true, List.map_cons, List.map_nil, Nat.zero_add, Nat.reduceAdd, c_40, wp_eFun, wp_arity, wp_eq q]
  obtain ⟨d, h', e, rfl⟩ := key.get
  exact ⟨h', e⟩
end
end PyD.K02

/-! K02 -/
namespace PyD.K02
open PySem PySem.Spec L2 PyD
open PyProof.Rows hiding St
open PyD (Env Pat)
def top (i : Nat) : Stmt := PySem.Challenge.pw_alertstack_k02_thresholds_that_fire.main.body.getD i (.Pass ⟨0, 0, 0, 0⟩)
abbrev d_0 : Stmt := inClass (top 5) 0
abbrev d_1 : Stmt := inClass (top 5) 1
abbrev d_2 : Stmt := inClass (top 5) 2
abbrev d_3 : Stmt := inClass (top 5) 3
abbrev d_4 : Stmt := inClass (top 5) 4
abbrev d_5 : Stmt := inClass (top 5) 5
abbrev d_6 : Stmt := inClass (top 5) 6
abbrev d_7 : Stmt := top 6
abbrev d_8 : Stmt := top 7
abbrev d_9 : Stmt := top 8
abbrev d_10 : Stmt := top 9
abbrev d_11 : Stmt := top 10
abbrev d_12 : Stmt := top 11
abbrev d_13 : Stmt := top 13
abbrev d_14 : Stmt := top 14
abbrev d_15 : Stmt := top 15
abbrev d_16 : Stmt := top 16
abbrev d_17 : Stmt := top 17
abbrev d_18 : Stmt := top 18
abbrev d_19 : Stmt := top 19
abbrev d_20 : Stmt := top 20
abbrev d_21 : Stmt := top 21
abbrev d_22 : Stmt := top 22
abbrev d_23 : Stmt := top 23
def fa : List He.Fa := [.glo "KINDS_OF_THRESHOLD", .free "min", .exc "ThresholdError", .glo "ThresholdError", .cls "Threshold", .noat "Threshold" "kind", .noat "Threshold" "low", .noat "Threshold" "high", .noat "Threshold" "minutes", .noat "Threshold" "back", .meth "Threshold" "is_beyond", .free "max", .glo "check_rising", .keep "check_rising", .meth "Threshold" "is_clear", .free "tuple", .meth "Threshold" "runs_of", .free "str", .free "any", .free "zip", .free "len", .glo "is_number", .keep "is_number", .free "range", .free "int", .mkr "Threshold", .glo "Threshold", .free "all", .free "sorted", .free "enumerate", .free "abs", .glo "_law_roll", .keep "_law_roll", .glo "_law_dice", .keep "_law_dice", .glo "_law_bad", .keep "_law_bad", .glo "_law_clear", .keep "_law_clear", .glo "read_threshold", .keep "read_threshold", .meth "Threshold" "state_at", .meth "Threshold" "threshold_text", .meth "Threshold" "how_far", .glo "minutes_fired", .keep "minutes_fired", .glo "bound_for", .keep "bound_for", .glo "first_of", .keep "first_of", .exm "ThresholdError" "ThresholdError" true, .glo "_law_rounds", .keep "_law_rounds", .glo "_law_row", .keep "_law_row", .glo "_law_runs", .keep "_law_runs", .glo "_law_text", .keep "_law_text", .free "list", .free "sum", .glo "_law_told", .glo "_law_plain", .keep "_law_plain", .glo "AlertFault", .glo "law"]
def fn : List He.DefD := [⟨(("Threshold" : Str), some ("__init__" : Str)), "__init__", "Threshold.__init__", defArgs d_0, defBody d_0, defScope d_0, [.int 0, .int 0], []⟩,
  ⟨(("Threshold" : Str), some ("is_beyond" : Str)), "is_beyond", "Threshold.is_beyond", defArgs d_1, defBody d_1, defScope d_1, [], []⟩,
  ⟨(("Threshold" : Str), some ("is_clear" : Str)), "is_clear", "Threshold.is_clear", defArgs d_2, defBody d_2, defScope d_2, [], []⟩,
  ⟨(("Threshold" : Str), some ("how_far" : Str)), "how_far", "Threshold.how_far", defArgs d_3, defBody d_3, defScope d_3, [], []⟩,
  ⟨(("Threshold" : Str), some ("runs_of" : Str)), "runs_of", "Threshold.runs_of", defArgs d_4, defBody d_4, defScope d_4, [], []⟩,
  ⟨(("Threshold" : Str), some ("state_at" : Str)), "state_at", "Threshold.state_at", defArgs d_5, defBody d_5, defScope d_5, [], []⟩,
  ⟨(("Threshold" : Str), some ("threshold_text" : Str)), "threshold_text", "Threshold.threshold_text", defArgs d_6, defBody d_6, defScope d_6, [], []⟩,
  ⟨(("check_rising" : Str), (none : Option Str)), "check_rising", "check_rising", defArgs d_7, defBody d_7, defScope d_7, [], []⟩,
  ⟨(("read_threshold" : Str), (none : Option Str)), "read_threshold", "read_threshold", defArgs d_8, defBody d_8, defScope d_8, [], []⟩,
  ⟨(("is_number" : Str), (none : Option Str)), "is_number", "is_number", defArgs d_9, defBody d_9, defScope d_9, [], []⟩,
  ⟨(("minutes_fired" : Str), (none : Option Str)), "minutes_fired", "minutes_fired", defArgs d_10, defBody d_10, defScope d_10, [], []⟩,
  ⟨(("bound_for" : Str), (none : Option Str)), "bound_for", "bound_for", defArgs d_11, defBody d_11, defScope d_11, [], []⟩,
  ⟨(("first_of" : Str), (none : Option Str)), "first_of", "first_of", defArgs d_12, defBody d_12, defScope d_12, [], []⟩,
  ⟨(("_law_dice" : Str), (none : Option Str)), "_law_dice", "_law_dice", defArgs d_13, defBody d_13, defScope d_13, [], []⟩,
  ⟨(("_law_roll" : Str), (none : Option Str)), "_law_roll", "_law_roll", defArgs d_14, defBody d_14, defScope d_14, [], []⟩,
  ⟨(("_law_rounds" : Str), (none : Option Str)), "_law_rounds", "_law_rounds", defArgs d_15, defBody d_15, defScope d_15, [], []⟩,
  ⟨(("_law_told" : Str), (none : Option Str)), "_law_told", "_law_told", defArgs d_16, defBody d_16, defScope d_16, [], []⟩,
  ⟨(("_law_row" : Str), (none : Option Str)), "_law_row", "_law_row", defArgs d_17, defBody d_17, defScope d_17, [], []⟩,
  ⟨(("_law_bad" : Str), (none : Option Str)), "_law_bad", "_law_bad", defArgs d_18, defBody d_18, defScope d_18, [], []⟩,
  ⟨(("_law_clear" : Str), (none : Option Str)), "_law_clear", "_law_clear", defArgs d_19, defBody d_19, defScope d_19, [], []⟩,
  ⟨(("_law_runs" : Str), (none : Option Str)), "_law_runs", "_law_runs", defArgs d_20, defBody d_20, defScope d_20, [], []⟩,
  ⟨(("_law_text" : Str), (none : Option Str)), "_law_text", "_law_text", defArgs d_21, defBody d_21, defScope d_21, [], []⟩,
  ⟨(("_law_plain" : Str), (none : Option Str)), "_law_plain", "_law_plain", defArgs d_22, defBody d_22, defScope d_22, [], []⟩,
  ⟨(("law" : Str), (none : Option Str)), "law", "law", defArgs d_23, defBody d_23, defScope d_23, [], []⟩]
def tf : List (He.Defn × Str) := [((("Threshold" : Str), some ("state_at" : Str)), qn "Threshold.state_at" "<genexpr>"), ((("check_rising" : Str), (none : Option Str)), qn "check_rising" "<genexpr>"), ((("read_threshold" : Str), (none : Option Str)), qn "read_threshold" "<genexpr>"), ((("is_number" : Str), (none : Option Str)), qn "is_number" "<genexpr>"), ((("bound_for" : Str), (none : Option Str)), qn "bound_for" "<genexpr>"), ((("_law_plain" : Str), (none : Option Str)), qn "_law_plain" "<lambda>"), ((("law" : Str), (none : Option Str)), qn "law" "<lambda>")]
def gt : List (Str × List He.Dv) := [("KINDS_OF_THRESHOLD", [.str "above", .str "below", .str "outside"])]
def cl (K : PySem.W.Frag) : Nat → Addr := fun i => match i with
  | 0 => He.ga K "AlertFault"
  | 1 => He.ga K "ThresholdError"
  | 2 => He.ga K "Threshold"
  | _ => 0
def psOf : Nat → List Str := fun i => match i with
  | 0 => ["self", "kind", "low", "high", "minutes", "back"]
  | 1 => ["self", "value"]
  | 2 => ["self", "value"]
  | 3 => ["self", "value"]
  | 4 => ["self", "rows"]
  | 5 => ["self", "rows", "stamp"]
  | 6 => ["self"]
  | 7 => ["rows"]
  | 8 => ["text"]
  | 9 => ["word"]
  | 10 => ["threshold", "rows", "last"]
  | 11 => ["rows", "kind", "most"]
  | 12 => ["thresholds", "rows"]
  | 13 => ["cell"]
  | 14 => ["dice", "many"]
  | 15 => ["script", "most"]
  | 16 => ["what"]
  | 17 => ["dice"]
  | 18 => ["row", "value"]
  | 19 => ["row", "value"]
  | 20 => ["row", "rows"]
  | 21 => ["row"]
  | 22 => []
  | 23 => ["script"]
  | _ => []
def adOf (K : PySem.W.Frag) : Nat → Addr := fun i => match i with
  | 0 => He.fAd K (("Threshold" : Str), some ("__init__" : Str))
  | 1 => He.fAd K (("Threshold" : Str), some ("is_beyond" : Str))
  | 2 => He.fAd K (("Threshold" : Str), some ("is_clear" : Str))
  | 3 => He.fAd K (("Threshold" : Str), some ("how_far" : Str))
  | 4 => He.fAd K (("Threshold" : Str), some ("runs_of" : Str))
  | 5 => He.fAd K (("Threshold" : Str), some ("state_at" : Str))
  | 6 => He.fAd K (("Threshold" : Str), some ("threshold_text" : Str))
  | 7 => He.fAd K (("check_rising" : Str), (none : Option Str))
  | 8 => He.fAd K (("read_threshold" : Str), (none : Option Str))
  | 9 => He.fAd K (("is_number" : Str), (none : Option Str))
  | 10 => He.fAd K (("minutes_fired" : Str), (none : Option Str))
  | 11 => He.fAd K (("bound_for" : Str), (none : Option Str))
  | 12 => He.fAd K (("first_of" : Str), (none : Option Str))
  | 13 => He.fAd K (("_law_dice" : Str), (none : Option Str))
  | 14 => He.fAd K (("_law_roll" : Str), (none : Option Str))
  | 15 => He.fAd K (("_law_rounds" : Str), (none : Option Str))
  | 16 => He.fAd K (("_law_told" : Str), (none : Option Str))
  | 17 => He.fAd K (("_law_row" : Str), (none : Option Str))
  | 18 => He.fAd K (("_law_bad" : Str), (none : Option Str))
  | 19 => He.fAd K (("_law_clear" : Str), (none : Option Str))
  | 20 => He.fAd K (("_law_runs" : Str), (none : Option Str))
  | 21 => He.fAd K (("_law_text" : Str), (none : Option Str))
  | 22 => He.fAd K (("_law_plain" : Str), (none : Option Str))
  | 23 => He.fAd K (("law" : Str), (none : Option Str))
  | _ => 0
section
variable {prog : Program} {w : World} {K : PySem.W.Frag} {mg : Str → Option Value} {base : Heap} {fdt : Nat → FuncData}
abbrev TX (K : PySem.W.Frag) (mg : Str → Option Value) (base : Heap) (fdt : Nat → FuncData) : Prop := Txt fa fn tf gt K mg base fdt
theorem fn_0 (T : TX K mg base fdt) : FunE K "__init__" "Threshold.__init__" d_0 (([.int 0, .int 0] : List He.Dv).map (He.Dv.v K)) (He.fAd K (("Threshold" : Str), some ("__init__" : Str))) (fdt 0) := T.fn 0 _ rfl
theorem bd_0 (T : TX K mg base fdt) : L2.Binds K (fdt 0) ["self", "kind", "low", "high", "minutes", "back"] [] := binds_all (fn_0 T) (by simp) fun _ _ _ _ _ _ _ us its h1 h2 => match us, its, h1, h2 with | [_, _, _, _, _, _], [_, _], _, _ => ⟨_, rfl, rfl⟩
theorem bs_0_4 (T : TX K mg base fdt) : ∃ ds, Vals (([.int 0, .int 0] : List He.Dv).map (He.Dv.v K)) ds ∧ L2.Binds K (fdt 0) ["self", "kind", "low", "high", "minutes", "back"] ds := (fn_0 T).binds1 (ps := ["self", "kind", "low", "high", "minutes", "back"]) 4 0 (by simp) rfl fun _ _ _ _ _ _ _ us its h1 h2 => match us, its, h1, h2 with | [_, _, _, _], [_, _], _, _ => ⟨_, rfl, rfl⟩
theorem bs_0_5 (T : TX K mg base fdt) : ∃ ds, Vals (([.int 0] : List He.Dv).map (He.Dv.v K)) ds ∧ L2.Binds K (fdt 0) ["self", "kind", "low", "high", "minutes", "back"] ds := (fn_0 T).binds1 (ps := ["self", "kind", "low", "high", "minutes", "back"]) 5 1 (by simp) rfl fun _ _ _ _ _ _ _ us its h1 h2 => match us, its, h1, h2 with | [_, _, _, _, _], [_, _], _, _ => ⟨_, rfl, rfl⟩
theorem sc_0 : FnScope ["self", "kind", "low", "high", "minutes", "back"] ["self", "kind", "low", "high", "minutes", "back"] (defScope d_0) := ⟨rfl, rfl, rfl, by decide +kernel, rfl, by decide +kernel, by decide +kernel⟩
theorem fn_1 (T : TX K mg base fdt) : L2.Fun K "is_beyond" "Threshold.is_beyond" d_1 (He.fAd K (("Threshold" : Str), some ("is_beyond" : Str))) (fdt 1) := T.fun_ 1 rfl
theorem bd_1 (T : TX K mg base fdt) : L2.Binds K (fdt 1) ["self", "value"] [] := (fn_1 T).binds (ps := ["self", "value"]) fun _ _ _ _ _ _ us hl => match us, hl with | [_, _], _ => rfl
theorem sc_1 : FnScope ["self", "value"] ["self", "value"] (defScope d_1) := ⟨rfl, rfl, rfl, by decide +kernel, rfl, by decide +kernel, by decide +kernel⟩
theorem fn_2 (T : TX K mg base fdt) : L2.Fun K "is_clear" "Threshold.is_clear" d_2 (He.fAd K (("Threshold" : Str), some ("is_clear" : Str))) (fdt 2) := T.fun_ 2 rfl
theorem bd_2 (T : TX K mg base fdt) : L2.Binds K (fdt 2) ["self", "value"] [] := (fn_2 T).binds (ps := ["self", "value"]) fun _ _ _ _ _ _ us hl => match us, hl with | [_, _], _ => rfl
theorem sc_2 : FnScope ["self", "value"] ["self", "value"] (defScope d_2) := ⟨rfl, rfl, rfl, by decide +kernel, rfl, by decide +kernel, by decide +kernel⟩
theorem fn_3 (T : TX K mg base fdt) : L2.Fun K "how_far" "Threshold.how_far" d_3 (He.fAd K (("Threshold" : Str), some ("how_far" : Str))) (fdt 3) := T.fun_ 3 rfl
theorem bd_3 (T : TX K mg base fdt) : L2.Binds K (fdt 3) ["self", "value"] [] := (fn_3 T).binds (ps := ["self", "value"]) fun _ _ _ _ _ _ us hl => match us, hl with | [_, _], _ => rfl
theorem sc_3 : FnScope ["self", "value"] ["self", "value"] (defScope d_3) := ⟨rfl, rfl, rfl, by decide +kernel, rfl, by decide +kernel, by decide +kernel⟩
theorem fn_4 (T : TX K mg base fdt) : L2.Fun K "runs_of" "Threshold.runs_of" d_4 (He.fAd K (("Threshold" : Str), some ("runs_of" : Str))) (fdt 4) := T.fun_ 4 rfl
theorem bd_4 (T : TX K mg base fdt) : L2.Binds K (fdt 4) ["self", "rows"] [] := (fn_4 T).binds (ps := ["self", "rows"]) fun _ _ _ _ _ _ us hl => match us, hl with | [_, _], _ => rfl
theorem sc_4 : FnScope ["self", "rows", "found", "since", "fired", "stamp", "value"] ["self", "rows"] (defScope d_4) := ⟨rfl, rfl, rfl, by decide +kernel, rfl, by decide +kernel, by decide +kernel⟩
theorem fn_5 (T : TX K mg base fdt) : L2.Fun K "state_at" "Threshold.state_at" d_5 (He.fAd K (("Threshold" : Str), some ("state_at" : Str))) (fdt 5) := T.fun_ 5 rfl
theorem bd_5 (T : TX K mg base fdt) : L2.Binds K (fdt 5) ["self", "rows", "stamp"] [] := (fn_5 T).binds (ps := ["self", "rows", "stamp"]) fun _ _ _ _ _ _ us hl => match us, hl with | [_, _, _], _ => rfl
theorem sc_5 : FnScope ["self", "rows", "stamp", "told", "row"] ["self", "rows", "stamp"] (defScope d_5) := ⟨rfl, rfl, rfl, by decide +kernel, rfl, by decide +kernel, by decide +kernel⟩
theorem fn_6 (T : TX K mg base fdt) : L2.Fun K "threshold_text" "Threshold.threshold_text" d_6 (He.fAd K (("Threshold" : Str), some ("threshold_text" : Str))) (fdt 6) := T.fun_ 6 rfl
theorem bd_6 (T : TX K mg base fdt) : L2.Binds K (fdt 6) ["self"] [] := (fn_6 T).binds (ps := ["self"]) fun _ _ _ _ _ _ us hl => match us, hl with | [_], _ => rfl
theorem sc_6 : FnScope ["self", "found"] ["self"] (defScope d_6) := ⟨rfl, rfl, rfl, by decide +kernel, rfl, by decide +kernel, by decide +kernel⟩
theorem fn_7 (T : TX K mg base fdt) : L2.Fun K "check_rising" "check_rising" d_7 (He.fAd K (("check_rising" : Str), (none : Option Str))) (fdt 7) := T.fun_ 7 rfl
theorem bd_7 (T : TX K mg base fdt) : L2.Binds K (fdt 7) ["rows"] [] := (fn_7 T).binds (ps := ["rows"]) fun _ _ _ _ _ _ us hl => match us, hl with | [_], _ => rfl
theorem sc_7 : FnScope ["rows", "one", "two"] ["rows"] (defScope d_7) := ⟨rfl, rfl, rfl, by decide +kernel, rfl, by decide +kernel, by decide +kernel⟩
theorem fn_8 (T : TX K mg base fdt) : L2.Fun K "read_threshold" "read_threshold" d_8 (He.fAd K (("read_threshold" : Str), (none : Option Str))) (fdt 8) := T.fun_ 8 rfl
theorem bd_8 (T : TX K mg base fdt) : L2.Binds K (fdt 8) ["text"] [] := (fn_8 T).binds (ps := ["text"]) fun _ _ _ _ _ _ us hl => match us, hl with | [_], _ => rfl
theorem sc_8 : FnScope ["text", "words", "many", "bounds", "rest", "told", "seen", "place", "name", "value", "word"] ["text"] (defScope d_8) := ⟨rfl, rfl, rfl, by decide +kernel, rfl, by decide +kernel, by decide +kernel⟩
theorem fn_9 (T : TX K mg base fdt) : L2.Fun K "is_number" "is_number" d_9 (He.fAd K (("is_number" : Str), (none : Option Str))) (fdt 9) := T.fun_ 9 rfl
theorem bd_9 (T : TX K mg base fdt) : L2.Binds K (fdt 9) ["word"] [] := (fn_9 T).binds (ps := ["word"]) fun _ _ _ _ _ _ us hl => match us, hl with | [_], _ => rfl
theorem sc_9 : FnScope ["word", "body", "sign"] ["word"] (defScope d_9) := ⟨rfl, rfl, rfl, by decide +kernel, rfl, by decide +kernel, by decide +kernel⟩
theorem fn_10 (T : TX K mg base fdt) : L2.Fun K "minutes_fired" "minutes_fired" d_10 (He.fAd K (("minutes_fired" : Str), (none : Option Str))) (fdt 10) := T.fun_ 10 rfl
theorem bd_10 (T : TX K mg base fdt) : L2.Binds K (fdt 10) ["threshold", "rows", "last"] [] := (fn_10 T).binds (ps := ["threshold", "rows", "last"]) fun _ _ _ _ _ _ us hl => match us, hl with | [_, _, _], _ => rfl
theorem sc_10 : FnScope ["threshold", "rows", "last", "found", "since", "fired", "cleared"] ["threshold", "rows", "last"] (defScope d_10) := ⟨rfl, rfl, rfl, by decide +kernel, rfl, by decide +kernel, by decide +kernel⟩
theorem fn_11 (T : TX K mg base fdt) : L2.Fun K "bound_for" "bound_for" d_11 (He.fAd K (("bound_for" : Str), (none : Option Str))) (fdt 11) := T.fun_ 11 rfl
theorem bd_11 (T : TX K mg base fdt) : L2.Binds K (fdt 11) ["rows", "kind", "most"] [] := (fn_11 T).binds (ps := ["rows", "kind", "most"]) fun _ _ _ _ _ _ us hl => match us, hl with | [_, _, _], _ => rfl
theorem sc_11 : FnScope ["rows", "kind", "most", "values", "stamp", "value"] ["rows", "kind", "most"] (defScope d_11) := ⟨rfl, rfl, rfl, by decide +kernel, rfl, by decide +kernel, by decide +kernel⟩
theorem fn_12 (T : TX K mg base fdt) : L2.Fun K "first_of" "first_of" d_12 (He.fAd K (("first_of" : Str), (none : Option Str))) (fdt 12) := T.fun_ 12 rfl
theorem bd_12 (T : TX K mg base fdt) : L2.Binds K (fdt 12) ["thresholds", "rows"] [] := (fn_12 T).binds (ps := ["thresholds", "rows"]) fun _ _ _ _ _ _ us hl => match us, hl with | [_, _], _ => rfl
theorem sc_12 : FnScope ["thresholds", "rows", "found", "place", "threshold", "fired", "run"] ["thresholds", "rows"] (defScope d_12) := ⟨rfl, rfl, rfl, by decide +kernel, rfl, by decide +kernel, by decide +kernel⟩
theorem fn_13 (T : TX K mg base fdt) : L2.Fun K "_law_dice" "_law_dice" d_13 (He.fAd K (("_law_dice" : Str), (none : Option Str))) (fdt 13) := T.fun_ 13 rfl
theorem bd_13 (T : TX K mg base fdt) : L2.Binds K (fdt 13) ["cell"] [] := (fn_13 T).binds (ps := ["cell"]) fun _ _ _ _ _ _ us hl => match us, hl with | [_], _ => rfl
theorem sc_13 : FnScope ["cell"] ["cell"] (defScope d_13) := ⟨rfl, rfl, rfl, by decide +kernel, rfl, by decide +kernel, by decide +kernel⟩
theorem fn_14 (T : TX K mg base fdt) : L2.Fun K "_law_roll" "_law_roll" d_14 (He.fAd K (("_law_roll" : Str), (none : Option Str))) (fdt 14) := T.fun_ 14 rfl
theorem bd_14 (T : TX K mg base fdt) : L2.Binds K (fdt 14) ["dice", "many"] [] := (fn_14 T).binds (ps := ["dice", "many"]) fun _ _ _ _ _ _ us hl => match us, hl with | [_, _], _ => rfl
theorem sc_14 : FnScope ["dice", "many", "found"] ["dice", "many"] (defScope d_14) := ⟨rfl, rfl, rfl, by decide +kernel, rfl, by decide +kernel, by decide +kernel⟩
theorem fn_15 (T : TX K mg base fdt) : L2.Fun K "_law_rounds" "_law_rounds" d_15 (He.fAd K (("_law_rounds" : Str), (none : Option Str))) (fdt 15) := T.fun_ 15 rfl
theorem bd_15 (T : TX K mg base fdt) : L2.Binds K (fdt 15) ["script", "most"] [] := (fn_15 T).binds (ps := ["script", "most"]) fun _ _ _ _ _ _ us hl => match us, hl with | [_, _], _ => rfl
theorem sc_15 : FnScope ["script", "most", "cells", "cell"] ["script", "most"] (defScope d_15) := ⟨rfl, rfl, rfl, by decide +kernel, rfl, by decide +kernel, by decide +kernel⟩
theorem fn_16 (T : TX K mg base fdt) : L2.Fun K "_law_told" "_law_told" d_16 (He.fAd K (("_law_told" : Str), (none : Option Str))) (fdt 16) := T.fun_ 16 rfl
theorem bd_16 (T : TX K mg base fdt) : L2.Binds K (fdt 16) ["what"] [] := (fn_16 T).binds (ps := ["what"]) fun _ _ _ _ _ _ us hl => match us, hl with | [_], _ => rfl
theorem sc_16 : FnScope ["what"] ["what"] (defScope d_16) := ⟨rfl, rfl, rfl, by decide +kernel, rfl, by decide +kernel, by decide +kernel⟩
theorem fn_17 (T : TX K mg base fdt) : L2.Fun K "_law_row" "_law_row" d_17 (He.fAd K (("_law_row" : Str), (none : Option Str))) (fdt 17) := T.fun_ 17 rfl
theorem bd_17 (T : TX K mg base fdt) : L2.Binds K (fdt 17) ["dice"] [] := (fn_17 T).binds (ps := ["dice"]) fun _ _ _ _ _ _ us hl => match us, hl with | [_], _ => rfl
theorem sc_17 : FnScope ["dice", "kind", "low", "minutes", "back", "high"] ["dice"] (defScope d_17) := ⟨rfl, rfl, rfl, by decide +kernel, rfl, by decide +kernel, by decide +kernel⟩
theorem fn_18 (T : TX K mg base fdt) : L2.Fun K "_law_bad" "_law_bad" d_18 (He.fAd K (("_law_bad" : Str), (none : Option Str))) (fdt 18) := T.fun_ 18 rfl
theorem bd_18 (T : TX K mg base fdt) : L2.Binds K (fdt 18) ["row", "value"] [] := (fn_18 T).binds (ps := ["row", "value"]) fun _ _ _ _ _ _ us hl => match us, hl with | [_, _], _ => rfl
theorem sc_18 : FnScope ["row", "value"] ["row", "value"] (defScope d_18) := ⟨rfl, rfl, rfl, by decide +kernel, rfl, by decide +kernel, by decide +kernel⟩
theorem fn_19 (T : TX K mg base fdt) : L2.Fun K "_law_clear" "_law_clear" d_19 (He.fAd K (("_law_clear" : Str), (none : Option Str))) (fdt 19) := T.fun_ 19 rfl
theorem bd_19 (T : TX K mg base fdt) : L2.Binds K (fdt 19) ["row", "value"] [] := (fn_19 T).binds (ps := ["row", "value"]) fun _ _ _ _ _ _ us hl => match us, hl with | [_, _], _ => rfl
theorem sc_19 : FnScope ["row", "value", "kind", "low", "high", "minutes", "back"] ["row", "value"] (defScope d_19) := ⟨rfl, rfl, rfl, by decide +kernel, rfl, by decide +kernel, by decide +kernel⟩
theorem fn_20 (T : TX K mg base fdt) : L2.Fun K "_law_runs" "_law_runs" d_20 (He.fAd K (("_law_runs" : Str), (none : Option Str))) (fdt 20) := T.fun_ 20 rfl
theorem bd_20 (T : TX K mg base fdt) : L2.Binds K (fdt 20) ["row", "rows"] [] := (fn_20 T).binds (ps := ["row", "rows"]) fun _ _ _ _ _ _ us hl => match us, hl with | [_, _], _ => rfl
theorem sc_20 : FnScope ["row", "rows", "found", "state", "since", "fired", "stamp", "value", "bad"] ["row", "rows"] (defScope d_20) := ⟨rfl, rfl, rfl, by decide +kernel, rfl, by decide +kernel, by decide +kernel⟩
theorem fn_21 (T : TX K mg base fdt) : L2.Fun K "_law_text" "_law_text" d_21 (He.fAd K (("_law_text" : Str), (none : Option Str))) (fdt 21) := T.fun_ 21 rfl
theorem bd_21 (T : TX K mg base fdt) : L2.Binds K (fdt 21) ["row"] [] := (fn_21 T).binds (ps := ["row"]) fun _ _ _ _ _ _ us hl => match us, hl with | [_], _ => rfl
theorem sc_21 : FnScope ["row"] ["row"] (defScope d_21) := ⟨rfl, rfl, rfl, by decide +kernel, rfl, by decide +kernel, by decide +kernel⟩
theorem fn_22 (T : TX K mg base fdt) : L2.Fun K "_law_plain" "_law_plain" d_22 (He.fAd K (("_law_plain" : Str), (none : Option Str))) (fdt 22) := T.fun_ 22 rfl
theorem bd_22 (T : TX K mg base fdt) : L2.Binds K (fdt 22) [] [] := (fn_22 T).binds (ps := []) fun _ _ _ _ _ _ us hl => match us, hl with | [], _ => rfl
theorem sc_22 : FnScope ["mine", "rows", "twice", "told", "bad", "f"] [] (defScope d_22) := ⟨rfl, rfl, rfl, by decide +kernel, rfl, by decide +kernel, by decide +kernel⟩
theorem fn_23 (T : TX K mg base fdt) : L2.Fun K "law" "law" d_23 (He.fAd K (("law" : Str), (none : Option Str))) (fdt 23) := T.fun_ 23 rfl
theorem bd_23 (T : TX K mg base fdt) : L2.Binds K (fdt 23) ["script"] [] := (fn_23 T).binds (ps := ["script"]) fun _ _ _ _ _ _ us hl => match us, hl with | [_], _ => rfl
theorem sc_23 : FnScope [("script" : Str), ("dice" : Str), ("row" : Str), ("rows" : Str), ("now" : Str), ("k" : Str), ("mine" : Str), ("runs" : Str), ("again" : Str), ("value" : Str), ("far" : Str), ("stamp" : Str), ("told" : Str), ("state" : Str), ("last" : Str), ("fired" : Str), ("values" : Str), ("most" : Str), ("kind" : Str), ("able" : Str), ("fits" : Str), ("others" : Str), ("firsts" : Str), ("best" : Str), ("wild" : Str), ("pick" : Str), ("one" : Str), ("since" : Str), ("begin" : Str), ("end" : Str), ("bound" : Str), ("run" : Str)] ["script"] (defScope d_23) := ⟨rfl, rfl, rfl, by decide +kernel, rfl, by decide +kernel, by decide +kernel⟩
/-- the defs at a level -/
abbrev AllOk (prog : Program) (w : World) (K : PySem.W.Frag) (mg : Str → Option Value) (base : Heap) (fdt : Nat → FuncData) (j : Nat) : Prop := ∀ (lm : Nat → Addr → Addr → Heap → Prop) (lq : Str) (i : Nat), i < 24 → FnOk prog w K mg base (L2.CX prog w) (16 * j + 1) (adOf K i) (fdt i) (psOf i) (spD (pm0 K lm lq (cl K) (tabsF tf K)) (run j i) (psOf i).length)
variable {j : Nat} {lm : Nat → Addr → Addr → Heap → Prop} {lq : Str}
theorem ok_0 (T : TX K mg base fdt) (hA : AllOk prog w K mg base fdt j) : FnOk prog w K mg base (L2.CX prog w) (16 * j + 16 + 1) (He.fAd K (("Threshold" : Str), some ("__init__" : Str))) (fdt 0) ["self", "kind", "low", "high", "minutes", "back"] (spD (pm0 K lm lq (cl K) (tabsF tf K)) (runB 6 (b_0 (run j))) 6) := by
  refine fn_bodyD (fn_0 T) sc_0 rfl fun cdv A outer s H E hci hcv hr c hp => ?_
  have hcd := fun_codeD (fn_0 T) hcv
  exact dss_cons (ds_if (dt_w (dw_or (dt_cmp (do_notIn c) (de_var (pv 1)) (de_gtup c (by rfl) (T.glo 0 _ rfl) (T.tup 0 _ rfl))) (dw_or (dt_cmp (do_gt c) (de_var (pv 2)) (de_var (pv 3))) (dw_or1 (dt_cmp (do_lt c) (de_callB (cd_min2 c) (by rfl) (T.free 1 _ rfl) (by rfl) (da_cons (de_var (pv 4)) (da_cons (de_var (pv 5)) (da_nil)))) (de_int)))))) (dss_one (ds_raise (cn := 1) c (T.exc 2 3 rfl rfl) (by rfl))) (dss_nil)) (
    dss_cons (ds_if (dt_w (dw_or (dt_w (dw_and (dt_cmp (do_ne c) (de_var (pv 1)) (de_str)) (dw_and1 (dt_cmp (do_ne c) (de_var (pv 2)) (de_var (pv 3)))))) (dw_or1 (dt_w (dw_and (dt_cmp (do_eq c) (de_var (pv 1)) (de_str)) (dw_and1 (dt_cmp (do_lt c) (de_bin (do_sub c) (de_var (pv 3)) (de_var (pv 2))) (de_bin (do_mul c) (de_int) (de_var (pv 5)))))))))) (dss_one (ds_raise (cn := 1) c (T.exc 2 3 rfl rfl) (by rfl))) (dss_nil)) (
    dss_cons (ds_setF (fld_cons (T.cls 4 rfl) (T.noat 5 rfl) (fld_nil)) (de_var (pv 1)) (de_var (pv 0))) (
    dss_cons (ds_setF (fld_cons (T.cls 4 rfl) (T.noat 6 rfl) (fld_nil)) (de_var (pv 2)) (de_var (pv 0))) (
    dss_cons (ds_setF (fld_cons (T.cls 4 rfl) (T.noat 7 rfl) (fld_nil)) (de_var (pv 3)) (de_var (pv 0))) (
    dss_cons (ds_setF (fld_cons (T.cls 4 rfl) (T.noat 8 rfl) (fld_nil)) (de_var (pv 4)) (de_var (pv 0))) (
    dss_one (ds_setF (fld_cons (T.cls 4 rfl) (T.noat 9 rfl) (fld_nil)) (de_var (pv 5)) (de_var (pv 0)))))))))
theorem ok_1 (T : TX K mg base fdt) (hA : AllOk prog w K mg base fdt j) : FnOk prog w K mg base (L2.CX prog w) (16 * j + 16 + 1) (He.fAd K (("Threshold" : Str), some ("is_beyond" : Str))) (fdt 1) ["self", "value"] (spD (pm0 K lm lq (cl K) (tabsF tf K)) (runB 2 (b_1 (run j))) 2) := by
  refine fn_body (fn_1 T) sc_1 rfl fun cdv A outer s H E hci hcv hr c hp => ?_
  have hcd := fun_code (fn_1 T) hcv
  exact dss_cons (ds_if (dt_cmp (do_eq c) (de_fld (fld_cons (T.cls 4 rfl) (T.noat 5 rfl) (fld_nil)) (de_var (pv 0))) (de_str)) (dss_one (ds_ret (de_cmp (do_gt c) (de_var (pv 1)) (de_fld (fld_cons (T.cls 4 rfl) (T.noat 7 rfl) (fld_nil)) (de_var (pv 0)))))) (dss_nil)) (
    dss_one (ds_ret (de_if (dt_cmp (do_eq c) (de_fld (fld_cons (T.cls 4 rfl) (T.noat 5 rfl) (fld_nil)) (de_var (pv 0))) (de_str)) (de_cmp (do_lt c) (de_var (pv 1)) (de_fld (fld_cons (T.cls 4 rfl) (T.noat 6 rfl) (fld_nil)) (de_var (pv 0)))) (de_not (de_chain (do_le c) (do_le c) (de_fld (fld_cons (T.cls 4 rfl) (T.noat 6 rfl) (fld_nil)) (de_var (pv 0))) (de_var (pv 1)) (de_fld (fld_cons (T.cls 4 rfl) (T.noat 7 rfl) (fld_nil)) (de_var (pv 0))))))))
theorem ok_2 (T : TX K mg base fdt) (hA : AllOk prog w K mg base fdt j) : FnOk prog w K mg base (L2.CX prog w) (16 * j + 16 + 1) (He.fAd K (("Threshold" : Str), some ("is_clear" : Str))) (fdt 2) ["self", "value"] (spD (pm0 K lm lq (cl K) (tabsF tf K)) (runB 2 (b_2 (run j))) 2) := by
  refine fn_body (fn_2 T) sc_2 rfl fun cdv A outer s H E hci hcv hr c hp => ?_
  have hcd := fun_code (fn_2 T) hcv
  exact dss_cons (ds_if (dt_cmp (do_eq c) (de_fld (fld_cons (T.cls 4 rfl) (T.noat 5 rfl) (fld_nil)) (de_var (pv 0))) (de_str)) (dss_one (ds_ret (de_cmp (do_le c) (de_var (pv 1)) (de_bin (do_sub c) (de_fld (fld_cons (T.cls 4 rfl) (T.noat 7 rfl) (fld_nil)) (de_var (pv 0))) (de_fld (fld_cons (T.cls 4 rfl) (T.noat 9 rfl) (fld_nil)) (de_var (pv 0))))))) (dss_nil)) (
    dss_cons (ds_if (dt_cmp (do_eq c) (de_fld (fld_cons (T.cls 4 rfl) (T.noat 5 rfl) (fld_nil)) (de_var (pv 0))) (de_str)) (dss_one (ds_ret (de_cmp (do_ge c) (de_var (pv 1)) (de_bin (do_add c) (de_fld (fld_cons (T.cls 4 rfl) (T.noat 6 rfl) (fld_nil)) (de_var (pv 0))) (de_fld (fld_cons (T.cls 4 rfl) (T.noat 9 rfl) (fld_nil)) (de_var (pv 0))))))) (dss_nil)) (
    dss_one (ds_ret (de_chain (do_le c) (do_le c) (de_bin (do_add c) (de_fld (fld_cons (T.cls 4 rfl) (T.noat 6 rfl) (fld_nil)) (de_var (pv 0))) (de_fld (fld_cons (T.cls 4 rfl) (T.noat 9 rfl) (fld_nil)) (de_var (pv 0)))) (de_var (pv 1)) (de_bin (do_sub c) (de_fld (fld_cons (T.cls 4 rfl) (T.noat 7 rfl) (fld_nil)) (de_var (pv 0))) (de_fld (fld_cons (T.cls 4 rfl) (T.noat 9 rfl) (fld_nil)) (de_var (pv 0))))))))
theorem ok_3 (T : TX K mg base fdt) (hA : AllOk prog w K mg base fdt j) : FnOk prog w K mg base (L2.CX prog w) (16 * j + 16 + 1) (He.fAd K (("Threshold" : Str), some ("how_far" : Str))) (fdt 3) ["self", "value"] (spD (pm0 K lm lq (cl K) (tabsF tf K)) (runB 2 (b_3 (run j))) 2) := by
  refine fn_body (fn_3 T) sc_3 rfl fun cdv A outer s H E hci hcv hr c hp => ?_
  have hcd := fun_code (fn_3 T) hcv
  exact dss_cons (ds_if (dt_not (dt_val (de_meth (cn := 2) (de_var (pv 0)) (T.cls 4 rfl) (T.meth 10 rfl) (hA lm lq 1 (by decide)) (hr.mono (by omega)) c (bd_1 T) (da_cons (de_var (pv 1)) (da_nil))))) (dss_one (ds_ret (de_int))) (dss_nil)) (
    dss_cons (ds_if (dt_cmp (do_eq c) (de_fld (fld_cons (T.cls 4 rfl) (T.noat 5 rfl) (fld_nil)) (de_var (pv 0))) (de_str)) (dss_one (ds_ret (de_callB (cd_max2 c) (by rfl) (T.free 11 _ rfl) (by rfl) (da_cons (de_bin (do_sub c) (de_fld (fld_cons (T.cls 4 rfl) (T.noat 6 rfl) (fld_nil)) (de_var (pv 0))) (de_var (pv 1))) (da_cons (de_bin (do_sub c) (de_var (pv 1)) (de_fld (fld_cons (T.cls 4 rfl) (T.noat 7 rfl) (fld_nil)) (de_var (pv 0)))) (da_nil)))))) (dss_nil)) (
    dss_one (ds_ret (de_if (dt_cmp (do_eq c) (de_fld (fld_cons (T.cls 4 rfl) (T.noat 5 rfl) (fld_nil)) (de_var (pv 0))) (de_str)) (de_bin (do_sub c) (de_var (pv 1)) (de_fld (fld_cons (T.cls 4 rfl) (T.noat 7 rfl) (fld_nil)) (de_var (pv 0)))) (de_bin (do_sub c) (de_fld (fld_cons (T.cls 4 rfl) (T.noat 6 rfl) (fld_nil)) (de_var (pv 0))) (de_var (pv 1)))))))
theorem ok_4 (T : TX K mg base fdt) (hA : AllOk prog w K mg base fdt j) : FnOk prog w K mg base (L2.CX prog w) (16 * j + 16 + 1) (He.fAd K (("Threshold" : Str), some ("runs_of" : Str))) (fdt 4) ["self", "rows"] (spD (pm0 K lm lq (cl K) (tabsF tf K)) (runB 7 (b_4 (run j))) 2) := by
  refine fn_body (fn_4 T) sc_4 rfl fun cdv A outer s H E hci hcv hr c hp => ?_
  have hcd := fun_code (fn_4 T) hcv
  exact dss_cons (ds_expr (de_fun (hA lm lq 7 (by decide)) (hr.mono (by omega)) c (by rfl) (T.glo 12 _ rfl) (T.kp 13 rfl) (bd_7 T) (da_cons (de_var (pv 1)) (da_nil)))) (
    dss_cons (ds_par3 (i := 2) (j := 3) (l := 4) c rfl rfl rfl (by decide) (by decide) (by decide) rfl rfl rfl (da_cons (de_lstO (da_nil)) (da_cons (de_non) (da_cons (de_non) (da_nil)))) (by rfl)) (
    dss_cons (ds_for c hp (di_seq c (de_var (pv 1))) (dp_tup (n := 2) c (dps_cons (dp_name (pg_name c.nd rfl (by first | exact Or.inl rfl | exact Or.inr rfl))) (dps_cons (dp_name (pg_name c.nd rfl (by first | exact Or.inl rfl | exact Or.inr rfl))) (dps_nil)))) (dss_cons (ds_if (dt_w (dw_and (dt_cmp (do_is c) (de_var (pv 3)) (de_non)) (dw_and1 (dt_val (de_meth (cn := 2) (de_var (pv 0)) (T.cls 4 rfl) (T.meth 10 rfl) (hA lm lq 1 (by decide)) (hr.mono (by omega)) c (bd_1 T) (da_cons (de_var (pv 6)) (da_nil))))))) (dss_one (ds_set (i := 3) c (by rfl) (by first | exact Or.inl rfl | exact Or.inr rfl) (de_var (pv 5)))) (dss_nil)) (
      dss_one (ds_if (dt_w (dw_and (dt_cmp (do_isNot c) (de_var (pv 3)) (de_non)) (dw_and1 (dt_cmp (do_is c) (de_var (pv 4)) (de_non))))) (dss_one (ds_if (dt_not (dt_val (de_meth (cn := 2) (de_var (pv 0)) (T.cls 4 rfl) (T.meth 10 rfl) (hA lm lq 1 (by decide)) (hr.mono (by omega)) c (bd_1 T) (da_cons (de_var (pv 6)) (da_nil))))) (dss_cons (ds_expr (de_append c (de_var (pv 2)) (de_tup (da_cons (de_var (pv 3)) (da_cons (de_non) (da_cons (de_var (pv 5)) (da_nil))))))) (
          dss_one (ds_set (i := 3) c (by rfl) (by first | exact Or.inl rfl | exact Or.inr rfl) (de_non)))) (dss_one (ds_if (dt_cmp (do_ge c) (de_bin (do_sub c) (de_var (pv 5)) (de_var (pv 3))) (de_fld (fld_cons (T.cls 4 rfl) (T.noat 8 rfl) (fld_nil)) (de_var (pv 0)))) (dss_one (ds_set (i := 4) c (by rfl) (by first | exact Or.inl rfl | exact Or.inr rfl) (de_var (pv 5)))) (dss_nil))))) (dss_one (ds_if (dt_w (dw_and (dt_cmp (do_isNot c) (de_var (pv 4)) (de_non)) (dw_and1 (dt_val (de_meth (cn := 2) (de_var (pv 0)) (T.cls 4 rfl) (T.meth 14 rfl) (hA lm lq 2 (by decide)) (hr.mono (by omega)) c (bd_2 T) (da_cons (de_var (pv 6)) (da_nil))))))) (dss_cons (ds_expr (de_append c (de_var (pv 2)) (de_tup (da_cons (de_var (pv 3)) (da_cons (de_var (pv 4)) (da_cons (de_var (pv 5)) (da_nil))))))) (
          dss_cons (ds_set (i := 3) c (by rfl) (by first | exact Or.inl rfl | exact Or.inr rfl) (de_non)) (
          dss_one (ds_set (i := 4) c (by rfl) (by first | exact Or.inl rfl | exact Or.inr rfl) (de_non))))) (dss_nil))))))) (
    dss_one (ds_ret (de_callT (cd_tuple c) (by rfl) (T.free 15 _ rfl) (by rfl) (da_cons (de_bin (do_addB c) (de_var (pv 2)) (de_if (dt_cmp (do_isNot c) (de_var (pv 3)) (de_non)) (de_lst (da_cons (de_tup (da_cons (de_var (pv 3)) (da_cons (de_var (pv 4)) (da_cons (de_non) (da_nil))))) (da_nil))) (de_lst (da_nil)))) (da_nil)))))))
theorem ok_5 (T : TX K mg base fdt) (hA : AllOk prog w K mg base fdt j) : FnOk prog w K mg base (L2.CX prog w) (16 * j + 16 + 1) (He.fAd K (("Threshold" : Str), some ("state_at" : Str))) (fdt 5) ["self", "rows", "stamp"] (spD (pm0 K lm lq (cl K) (tabsF tf K)) (runB 5 (b_5 (run j))) 3) := by
  refine fn_body (fn_5 T) sc_5 rfl fun cdv A outer s H E hci hcv hr c hp => ?_
  have hcd := fun_code (fn_5 T) hcv
  exact dss_cons (ds_set (i := 3) c (by rfl) (by first | exact Or.inl rfl | exact Or.inr rfl) (de_meth (cn := 2) (de_var (pv 0)) (T.cls 4 rfl) (T.meth 16 rfl) (hA lm lq 4 (by decide)) (hr.mono (by omega)) c (bd_4 T) (da_cons (de_tupG (k := 16 * j + 10) (own := [(("row" : Str), 4)]) (pat := .nm 4) (⟨c, hr.mono (by omega), T.tabG 0 rfl, hcd, tabsF_mem (i := 0) (p := ((("Threshold" : Str), some ("state_at" : Str)), qn "Threshold.state_at" "<genexpr>")) rfl, T.tabU 0 rfl, di_seq c (de_var (pv 1)), blkOk_by (by kernel_rfl), by decide, by decide +kernel, by rfl, by rfl, fun A s H code fp pn hr c => dp_name (pg_name c.nd rfl (by first | exact Or.inl rfl | exact Or.inr rfl)), fun A s H code fp pn hr c => dts_one (dt_cmp (do_le c) (de_ix c (de_var (pv 4)) (de_int)) (de_var (pv 2))), fun A s H code fp pn hr c => de_var (pv 4), by intro _; rfl⟩) (by rfl) (T.free 15 _ rfl) (by rfl)) (da_nil)))) (
    dss_cons (ds_if (dt_w (dw_or (dt_cmp (do_eq c) (de_var (pv 3)) (de_tup (da_nil))) (dw_or1 (dt_cmp (do_isNot c) (de_ix c (de_ix c (de_var (pv 3)) (de_neg (de_int))) (de_int)) (de_non))))) (dss_one (ds_ret (de_str))) (dss_nil)) (
    dss_one (ds_ret (de_if (dt_cmp (do_isNot c) (de_ix c (de_ix c (de_var (pv 3)) (de_neg (de_int))) (de_int)) (de_non)) (de_str) (de_str)))))
theorem ok_6 (T : TX K mg base fdt) (hA : AllOk prog w K mg base fdt j) : FnOk prog w K mg base (L2.CX prog w) (16 * j + 16 + 1) (He.fAd K (("Threshold" : Str), some ("threshold_text" : Str))) (fdt 6) ["self"] (spD (pm0 K lm lq (cl K) (tabsF tf K)) (runB 2 (b_6 (run j))) 1) := by
  refine fn_body (fn_6 T) sc_6 rfl fun cdv A outer s H E hci hcv hr c hp => ?_
  have hcd := fun_code (fn_6 T) hcv
  exact dss_cons (ds_set (i := 1) c (by rfl) (by first | exact Or.inl rfl | exact Or.inr rfl) (de_bin (do_add c) (de_bin (do_add c) (de_bin (do_add c) (de_fld (fld_cons (T.cls 4 rfl) (T.noat 5 rfl) (fld_nil)) (de_var (pv 0))) (de_str)) (de_callT (cd_str c) (by rfl) (T.free 17 _ rfl) (by rfl) (da_cons (de_fld (fld_cons (T.cls 4 rfl) (T.noat 6 rfl) (fld_nil)) (de_var (pv 0))) (da_nil)))) (de_if (dt_cmp (do_eq c) (de_fld (fld_cons (T.cls 4 rfl) (T.noat 5 rfl) (fld_nil)) (de_var (pv 0))) (de_str)) (de_bin (do_add c) (de_str) (de_callT (cd_str c) (by rfl) (T.free 17 _ rfl) (by rfl) (da_cons (de_fld (fld_cons (T.cls 4 rfl) (T.noat 7 rfl) (fld_nil)) (de_var (pv 0))) (da_nil)))) (de_str)))) (
    dss_cons (ds_aug (i := 1) c (by rfl) (by first | exact Or.inl rfl | exact Or.inr rfl) (de_if (dt_cmp (do_gt c) (de_fld (fld_cons (T.cls 4 rfl) (T.noat 8 rfl) (fld_nil)) (de_var (pv 0))) (de_int)) (de_join (dj_cons (dj_str) (dj_cons (dj_fmt (de_fld (fld_cons (T.cls 4 rfl) (T.noat 8 rfl) (fld_nil)) (de_var (pv 0)))) (dj_nil)))) (de_str))) (
    dss_one (ds_ret (de_bin (do_add c) (de_var (pv 1)) (de_if (dt_cmp (do_gt c) (de_fld (fld_cons (T.cls 4 rfl) (T.noat 9 rfl) (fld_nil)) (de_var (pv 0))) (de_int)) (de_join (dj_cons (dj_str) (dj_cons (dj_fmt (de_fld (fld_cons (T.cls 4 rfl) (T.noat 9 rfl) (fld_nil)) (de_var (pv 0)))) (dj_nil)))) (de_str))))))
theorem ok_7 (T : TX K mg base fdt) (hA : AllOk prog w K mg base fdt j) : FnOk prog w K mg base (L2.CX prog w) (16 * j + 16 + 1) (He.fAd K (("check_rising" : Str), (none : Option Str))) (fdt 7) ["rows"] (spD (pm0 K lm lq (cl K) (tabsF tf K)) (runB 3 (b_7 (run j))) 1) := by
  refine fn_body (fn_7 T) sc_7 rfl fun cdv A outer s H E hci hcv hr c hp => ?_
  have hcd := fun_code (fn_7 T) hcv
  exact dss_one (ds_if (dt_val (de_anyG (k := 16 * j + 10) (own := [(("one" : Str), 1), (("two" : Str), 2)]) (pat := .tp [.nm 1, .nm 2]) (⟨c, hr.mono (by omega), T.tabG 1 rfl, hcd, tabsF_mem (i := 1) (p := ((("check_rising" : Str), (none : Option Str)), qn "check_rising" "<genexpr>")) rfl, T.tabU 1 rfl, di_zip c (by rfl) (T.free 19 _ rfl) (da_cons (de_var (pv 0)) (da_cons (de_sl c (de_var (pv 0)) (do_some (de_int)) (do_none)) (da_nil))), blkOk_by (by kernel_rfl), by decide, by decide +kernel, by rfl, by rfl, fun A s H code fp pn hr c => dp_tup (n := 2) c (dps_cons (dp_name (pg_name c.nd rfl (by first | exact Or.inl rfl | exact Or.inr rfl))) (dps_cons (dp_name (pg_name c.nd rfl (by first | exact Or.inl rfl | exact Or.inr rfl))) (dps_nil))), fun A s H code fp pn hr c => dts_nil, fun A s H code fp pn hr c => de_cmp (do_le c) (de_ix c (de_var (pv 2)) (de_int)) (de_ix c (de_var (pv 1)) (de_int)), by intro _; rfl⟩) (by rfl) (T.free 18 _ rfl))) (dss_one (ds_raise (cn := 1) c (T.exc 2 3 rfl rfl) (by rfl))) (dss_nil))
theorem ok_8 (T : TX K mg base fdt) (hA : AllOk prog w K mg base fdt j) : FnOk prog w K mg base (L2.CX prog w) (16 * j + 16 + 1) (He.fAd K (("read_threshold" : Str), (none : Option Str))) (fdt 8) ["text"] (spD (pm0 K lm lq (cl K) (tabsF tf K)) (runB 11 (b_8 (run j))) 1) := by
  refine fn_body (fn_8 T) sc_8 rfl fun cdv A outer s H E hci hcv hr c hp => ?_
  have hcd := fun_code (fn_8 T) hcv
  exact dss_cons (ds_set (i := 1) c (by rfl) (by first | exact Or.inl rfl | exact Or.inr rfl) (de_split (de_var (pv 0)) (de_str))) (
    dss_cons (ds_if (dt_cmp (do_notIn c) (de_ix c (de_var (pv 1)) (de_int)) (de_gtup c (by rfl) (T.glo 0 _ rfl) (T.tup 0 _ rfl))) (dss_one (ds_raise (cn := 1) c (T.exc 2 3 rfl rfl) (by rfl))) (dss_nil)) (
    dss_cons (ds_set (i := 2) c (by rfl) (by first | exact Or.inl rfl | exact Or.inr rfl) (de_if (dt_cmp (do_eq c) (de_ix c (de_var (pv 1)) (de_int)) (de_str)) (de_int) (de_int))) (
    dss_cons (ds_par (i := 3) (j := 4) c rfl rfl (by decide) rfl rfl (da_cons (de_sl c (de_var (pv 1)) (do_some (de_int)) (do_some (de_bin (do_add c) (de_int) (de_var (pv 2))))) (da_cons (de_sl c (de_var (pv 1)) (do_some (de_bin (do_add c) (de_int) (de_var (pv 2)))) (do_none)) (da_nil))) (by rfl)) (
    dss_cons (ds_if (dt_w (dw_or (dt_cmp (do_lt c) (de_callB (cd_len c) (by rfl) (T.free 20 _ rfl) (by rfl) (da_cons (de_var (pv 3)) (da_nil))) (de_var (pv 2))) (dw_or1 (dt_val (de_anyG (k := 16 * j + 10) (own := [(("word" : Str), 10)]) (pat := .nm 10) (⟨c, hr.mono (by omega), T.tabG 2 rfl, hcd, tabsF_mem (i := 2) (p := ((("read_threshold" : Str), (none : Option Str)), qn "read_threshold" "<genexpr>")) rfl, T.tabU 2 rfl, di_seq c (de_var (pv 3)), blkOk_by (by kernel_rfl), by decide, by decide +kernel, by rfl, by rfl, fun A s H code fp pn hr c => dp_name (pg_name c.nd rfl (by first | exact Or.inl rfl | exact Or.inr rfl)), fun A s H code fp pn hr c => dts_nil, fun A s H code fp pn hr c => de_not (de_fun (E := EN) (hA lm lq 9 (by decide)) (hr.mono (by omega)) c (by rfl) (T.glo 21 _ rfl) (T.kp 22 rfl) (bd_9 T) (da_cons (de_var (pv 10)) (da_nil))), by intro _; rfl⟩) (by rfl) (T.free 18 _ rfl)))))) (dss_one (ds_raise (cn := 1) c (T.exc 2 3 rfl rfl) (by rfl))) (dss_nil)) (
    dss_cons (ds_set (i := 5) c (by rfl) (by first | exact Or.inl rfl | exact Or.inr rfl) (de_disp (dps_cons' (de_str) (de_int) (dps_cons' (de_str) (de_int) (dps_nil'))))) (
    dss_cons (ds_set (i := 6) c (by rfl) (by first | exact Or.inl rfl | exact Or.inr rfl) (de_lstO (da_nil))) (
    dss_cons (ds_for c hp (di_range3 (by rfl) (T.free 23 _ rfl) (da_cons (de_int) (da_cons (de_callB (cd_len c) (by rfl) (T.free 20 _ rfl) (by rfl) (da_cons (de_var (pv 4)) (da_nil))) (da_cons (de_int) (da_nil))))) (dp_name (pg_name c.nd rfl (by first | exact Or.inl rfl | exact Or.inr rfl))) (dss_cons (ds_set (i := 8) c (by rfl) (by first | exact Or.inl rfl | exact Or.inr rfl) (de_ix c (de_var (pv 4)) (de_var (pv 7)))) (
      dss_cons (ds_set (i := 9) c (by rfl) (by first | exact Or.inl rfl | exact Or.inr rfl) (de_if (dt_cmp (do_lt c) (de_bin (do_add c) (de_var (pv 7)) (de_int)) (de_callB (cd_len c) (by rfl) (T.free 20 _ rfl) (by rfl) (da_cons (de_var (pv 4)) (da_nil)))) (de_ix c (de_var (pv 4)) (de_bin (do_add c) (de_var (pv 7)) (de_int))) (de_str))) (
      dss_cons (ds_if (dt_w (dw_or (dt_cmp (do_notIn c) (de_var (pv 8)) (de_var (pv 5))) (dw_or (dt_cmp (do_in c) (de_var (pv 8)) (de_var (pv 6))) (dw_or (dt_not (dt_val (de_fun (hA lm lq 9 (by decide)) (hr.mono (by omega)) c (by rfl) (T.glo 21 _ rfl) (T.kp 22 rfl) (bd_9 T) (da_cons (de_var (pv 9)) (da_nil))))) (dw_or1 (dt_w (dw_and (dt_cmp (do_eq c) (de_var (pv 8)) (de_str)) (dw_and1 (dt_cmp (do_ne c) (de_var (pv 6)) (de_lst (da_nil))))))))))) (dss_one (ds_raise (cn := 1) c (T.exc 2 3 rfl rfl) (by rfl))) (dss_nil)) (
      dss_cons (ds_expr (de_append c (de_var (pv 6)) (de_var (pv 8)))) (
      dss_one (ds_sub c (de_callT (cd_int2 c) (by rfl) (T.free 24 _ rfl) (by rfl) (da_cons (de_var (pv 9)) (da_nil))) (de_var (pv 5)) (de_var (pv 8))))))))) (
    dss_one (ds_ret (de_make (cn := 2) (T.mkr 25 rfl) (hA lm lq 0 (by decide)) (hr.mono (by omega)) c (by rfl) (T.glo 26 _ rfl) (bd_0 T) (da_cons (de_ix c (de_var (pv 1)) (de_int)) (da_cons (de_callT (cd_int2 c) (by rfl) (T.free 24 _ rfl) (by rfl) (da_cons (de_ix c (de_var (pv 3)) (de_int)) (da_nil))) (da_cons (de_callT (cd_int2 c) (by rfl) (T.free 24 _ rfl) (by rfl) (da_cons (de_ix c (de_var (pv 3)) (de_neg (de_int))) (da_nil))) (da_cons (de_ix c (de_var (pv 5)) (de_str)) (da_cons (de_ix c (de_var (pv 5)) (de_str)) (da_nil))))))))))))))))
theorem ok_9 (T : TX K mg base fdt) (hA : AllOk prog w K mg base fdt j) : FnOk prog w K mg base (L2.CX prog w) (16 * j + 16 + 1) (He.fAd K (("is_number" : Str), (none : Option Str))) (fdt 9) ["word"] (spD (pm0 K lm lq (cl K) (tabsF tf K)) (runB 3 (b_9 (run j))) 1) := by
  refine fn_body (fn_9 T) sc_9 rfl fun cdv A outer s H E hci hcv hr c hp => ?_
  have hcd := fun_code (fn_9 T) hcv
  exact dss_cons (ds_set (i := 1) c (by rfl) (by first | exact Or.inl rfl | exact Or.inr rfl) (de_if (dt_cmp (do_eq c) (de_sl c (de_var (pv 0)) (do_none) (do_some (de_int))) (de_str)) (de_sl c (de_var (pv 0)) (do_some (de_int)) (do_none)) (de_var (pv 0)))) (
    dss_one (ds_ret (de_and (de_chain (do_le c) (do_le c) (de_int) (de_callB (cd_len c) (by rfl) (T.free 20 _ rfl) (by rfl) (da_cons (de_var (pv 1)) (da_nil))) (de_int)) (de_one (de_allG (k := 16 * j + 10) (own := [(("sign" : Str), 2)]) (pat := .nm 2) (⟨c, hr.mono (by omega), T.tabG 3 rfl, hcd, tabsF_mem (i := 3) (p := ((("is_number" : Str), (none : Option Str)), qn "is_number" "<genexpr>")) rfl, T.tabU 3 rfl, di_str (de_var (pv 1)), blkOk_by (by kernel_rfl), by decide, by decide +kernel, by rfl, by rfl, fun A s H code fp pn hr c => dp_name (pg_name c.nd rfl (by first | exact Or.inl rfl | exact Or.inr rfl)), fun A s H code fp pn hr c => dts_nil, fun A s H code fp pn hr c => de_cmp (do_inC) (de_var (pv 2)) (de_str), by intro _; rfl⟩) (by rfl) (T.free 27 _ rfl) (by rfl))))))
theorem ok_10 (T : TX K mg base fdt) (hA : AllOk prog w K mg base fdt j) : FnOk prog w K mg base (L2.CX prog w) (16 * j + 16 + 1) (He.fAd K (("minutes_fired" : Str), (none : Option Str))) (fdt 10) ["threshold", "rows", "last"] (spD (pm0 K lm lq (cl K) (tabsF tf K)) (runB 7 (b_10 (run j))) 3) := by
  refine fn_body (fn_10 T) sc_10 rfl fun cdv A outer s H E hci hcv hr c hp => ?_
  have hcd := fun_code (fn_10 T) hcv
  exact dss_cons (ds_if (dt_w (dw_and (dt_cmp (do_gt c) (de_callB (cd_len c) (by rfl) (T.free 20 _ rfl) (by rfl) (da_cons (de_var (pv 1)) (da_nil))) (de_int)) (dw_and1 (dt_cmp (do_lt c) (de_var (pv 2)) (de_ix c (de_ix c (de_var (pv 1)) (de_neg (de_int))) (de_int)))))) (dss_one (ds_raise (cn := 1) c (T.exc 2 3 rfl rfl) (by rfl))) (dss_nil)) (
    dss_cons (ds_set (i := 3) c (by rfl) (by first | exact Or.inl rfl | exact Or.inr rfl) (de_int)) (
    dss_cons (ds_for c hp (di_seq c (de_meth (cn := 2) (de_var (pv 0)) (T.cls 4 rfl) (T.meth 16 rfl) (hA lm lq 4 (by decide)) (hr.mono (by omega)) c (bd_4 T) (da_cons (de_var (pv 1)) (da_nil)))) (dp_tup (n := 3) c (dps_cons (dp_name (pg_name c.nd rfl (by first | exact Or.inl rfl | exact Or.inr rfl))) (dps_cons (dp_name (pg_name c.nd rfl (by first | exact Or.inl rfl | exact Or.inr rfl))) (dps_cons (dp_name (pg_name c.nd rfl (by first | exact Or.inl rfl | exact Or.inr rfl))) (dps_nil))))) (dss_one (ds_if (dt_cmp (do_isNot c) (de_var (pv 5)) (de_non)) (dss_one (ds_aug (i := 3) c (by rfl) (by first | exact Or.inl rfl | exact Or.inr rfl) (de_bin (do_sub c) (de_if (dt_cmp (do_isNot c) (de_var (pv 6)) (de_non)) (de_var (pv 6)) (de_var (pv 2))) (de_var (pv 5))))) (dss_nil)))) (
    dss_one (ds_ret (de_var (pv 3))))))
theorem ok_11 (T : TX K mg base fdt) (hA : AllOk prog w K mg base fdt j) : FnOk prog w K mg base (L2.CX prog w) (16 * j + 16 + 1) (He.fAd K (("bound_for" : Str), (none : Option Str))) (fdt 11) ["rows", "kind", "most"] (spD (pm0 K lm lq (cl K) (tabsF tf K)) (runB 6 (b_11 (run j))) 3) := by
  refine fn_body (fn_11 T) sc_11 rfl fun cdv A outer s H E hci hcv hr c hp => ?_
  have hcd := fun_code (fn_11 T) hcv
  exact dss_cons (ds_if (dt_w (dw_or (dt_cmp (do_eq c) (de_callB (cd_len c) (by rfl) (T.free 20 _ rfl) (by rfl) (da_cons (de_var (pv 0)) (da_nil))) (de_int)) (dw_or (dt_cmp (do_notIn c) (de_var (pv 1)) (de_tup (da_cons (de_str) (da_cons (de_str) (da_nil))))) (dw_or1 (dt_cmp (do_lt c) (de_var (pv 2)) (de_int)))))) (dss_one (ds_raise (cn := 1) c (T.exc 2 3 rfl rfl) (by rfl))) (dss_nil)) (
    dss_cons (ds_set (i := 3) c (by rfl) (by first | exact Or.inl rfl | exact Or.inr rfl) (de_sortedG (k := 16 * j + 10) (own := [(("stamp" : Str), 4), (("value" : Str), 5)]) (pat := .tp [.nm 4, .nm 5]) (⟨c, hr.mono (by omega), T.tabG 4 rfl, hcd, tabsF_mem (i := 4) (p := ((("bound_for" : Str), (none : Option Str)), qn "bound_for" "<genexpr>")) rfl, T.tabU 4 rfl, di_seq c (de_var (pv 0)), blkOk_by (by kernel_rfl), by decide, by decide +kernel, by rfl, by rfl, fun A s H code fp pn hr c => dp_tup (n := 2) c (dps_cons (dp_name (pg_name c.nd rfl (by first | exact Or.inl rfl | exact Or.inr rfl))) (dps_cons (dp_name (pg_name c.nd rfl (by first | exact Or.inl rfl | exact Or.inr rfl))) (dps_nil))), fun A s H code fp pn hr c => dts_nil, fun A s H code fp pn hr c => de_var (pv 5), by intro _; rfl⟩) (by rfl) (T.free 28 _ rfl) (by rfl))) (
    dss_cons (ds_if (dt_cmp (do_eq c) (de_var (pv 1)) (de_str)) (dss_one (ds_ret (de_if (dt_cmp (do_lt c) (de_var (pv 2)) (de_callB (cd_len c) (by rfl) (T.free 20 _ rfl) (by rfl) (da_cons (de_var (pv 3)) (da_nil)))) (de_ix c (de_var (pv 3)) (de_callB (cd_max2 c) (by rfl) (T.free 11 _ rfl) (by rfl) (da_cons (de_int) (da_cons (de_bin (do_sub c) (de_bin (do_sub c) (de_callB (cd_len c) (by rfl) (T.free 20 _ rfl) (by rfl) (da_cons (de_var (pv 3)) (da_nil))) (de_int)) (de_var (pv 2))) (da_nil))))) (de_bin (do_sub c) (de_ix c (de_var (pv 3)) (de_int)) (de_int))))) (dss_nil)) (
    dss_one (ds_ret (de_if (dt_cmp (do_lt c) (de_var (pv 2)) (de_callB (cd_len c) (by rfl) (T.free 20 _ rfl) (by rfl) (da_cons (de_var (pv 3)) (da_nil)))) (de_ix c (de_var (pv 3)) (de_callB (cd_min2 c) (by rfl) (T.free 1 _ rfl) (by rfl) (da_cons (de_var (pv 2)) (da_cons (de_bin (do_sub c) (de_callB (cd_len c) (by rfl) (T.free 20 _ rfl) (by rfl) (da_cons (de_var (pv 3)) (da_nil))) (de_int)) (da_nil))))) (de_bin (do_add c) (de_ix c (de_var (pv 3)) (de_neg (de_int))) (de_int)))))))
theorem ok_12 (T : TX K mg base fdt) (hA : AllOk prog w K mg base fdt j) : FnOk prog w K mg base (L2.CX prog w) (16 * j + 16 + 1) (He.fAd K (("first_of" : Str), (none : Option Str))) (fdt 12) ["thresholds", "rows"] (spD (pm0 K lm lq (cl K) (tabsF tf K)) (runB 7 (b_12 (run j))) 2) := by
  refine fn_body (fn_12 T) sc_12 rfl fun cdv A outer s H E hci hcv hr c hp => ?_
  have hcd := fun_code (fn_12 T) hcv
  exact dss_cons (ds_set (i := 2) c (by rfl) (by first | exact Or.inl rfl | exact Or.inr rfl) (de_lstO (da_nil))) (
    dss_cons (ds_for c hp (di_enumA c (by rfl) (T.free 29 _ rfl) (da_cons (de_var (pv 0)) (da_nil))) (dp_tup (n := 2) c (dps_cons (dp_name (pg_name c.nd rfl (by first | exact Or.inl rfl | exact Or.inr rfl))) (dps_cons (dp_name (pg_name c.nd rfl (by first | exact Or.inl rfl | exact Or.inr rfl))) (dps_nil)))) (dss_cons (ds_setLc (i := 5) c (by rfl) (by rfl) (sw_true rfl rfl rfl (by kernel_rfl)) (own := [(("run" : Str), 6)]) (pat := .nm 6) (di_seq c (de_meth (cn := 2) (de_var (pv 4)) (T.cls 4 rfl) (T.meth 16 rfl) (hA lm lq 4 (by decide)) (hr.mono (by omega)) c (bd_4 T) (da_cons (de_var (pv 1)) (da_nil)))) (blkOk_by (by kernel_rfl)) (by decide) (fun s H C cl fp c => have hr := blk_room hr c; dp_name (pg_name c.nd rfl (by first | exact Or.inl rfl | exact Or.inr rfl))) (fun s H C cl fp c => have hr := blk_room hr c; dts_one (dt_cmp (do_isNot c) (de_ix c (de_var (pv 6)) (de_int)) (de_non))) (fun s H C cl fp c => have hr := blk_room hr c; de_ix c (de_var (pv 6)) (de_int))) (
      dss_one (ds_aug (i := 2) c (by rfl) (by first | exact Or.inl rfl | exact Or.inr rfl) (de_if (dt_cmp (do_ne c) (de_var (pv 5)) (de_lst (da_nil))) (de_lst (da_cons (de_tup (da_cons (de_ix c (de_var (pv 5)) (de_int)) (da_cons (de_var (pv 3)) (da_nil)))) (da_nil))) (de_lst (da_nil))))))) (
    dss_one (ds_ret (de_if (dt_cmp (do_ne c) (de_var (pv 2)) (de_lst (da_nil))) (de_tup (da_cons (de_ix c (de_callB (cd_minDt c) (by rfl) (T.free 1 _ rfl) (by rfl) (da_cons (de_var (pv 2)) (da_nil))) (de_int)) (da_cons (de_ix c (de_callB (cd_minDt c) (by rfl) (T.free 1 _ rfl) (by rfl) (da_cons (de_var (pv 2)) (da_nil))) (de_int)) (da_nil)))) (de_non)))))
theorem ok_13 (T : TX K mg base fdt) (hA : AllOk prog w K mg base fdt j) : FnOk prog w K mg base (L2.CX prog w) (16 * j + 16 + 1) (He.fAd K (("_law_dice" : Str), (none : Option Str))) (fdt 13) ["cell"] (spD (pm0 K lm lq (cl K) (tabsF tf K)) (runB 1 (b_13 (run j))) 1) := by
  refine fn_body (fn_13 T) sc_13 rfl fun cdv A outer s H E hci hcv hr c hp => ?_
  have hcd := fun_code (fn_13 T) hcv
  exact dss_cons (ds_if (dt_chain (do_lt c) (do_lt c) (de_bin (do_sub c) (de_int) (de_int)) (de_var (pv 0)) (de_int)) (dss_one (ds_ret (de_lstO (da_cons (de_callB (cd_abs c) (by rfl) (T.free 30 _ rfl) (by rfl) (da_cons (de_var (pv 0)) (da_nil))) (da_cons (de_int) (da_cons (de_int) (da_nil))))))) (dss_nil)) (
    dss_one (ds_ret (de_lstO (da_cons (de_var (pv 0)) (da_cons (de_bin (do_add c) (de_int) (de_bin (do_mod c) (de_callT (cd_int c) (by rfl) (T.free 24 _ rfl) (by rfl) (da_cons (de_var (pv 0)) (da_nil))) (de_int))) (da_cons (de_callT (cd_int c) (by rfl) (T.free 24 _ rfl) (by rfl) (da_cons (de_cmp (do_ge c) (de_var (pv 0)) (de_bin (do_pow c) (de_int) (de_int))) (da_nil))) (da_nil)))))))
theorem ok_14 (T : TX K mg base fdt) (hA : AllOk prog w K mg base fdt j) : FnOk prog w K mg base (L2.CX prog w) (16 * j + 16 + 1) (He.fAd K (("_law_roll" : Str), (none : Option Str))) (fdt 14) ["dice", "many"] (spD (pm0 K lm lq (cl K) (tabsF tf K)) (runB 3 (b_14 (run j))) 2) := by
  refine fn_body (fn_14 T) sc_14 rfl fun cdv A outer s H E hci hcv hr c hp => ?_
  have hcd := fun_code (fn_14 T) hcv
  exact dss_cons (ds_if (dt_w (dw_or (dt_cmp (do_eq c) (de_ix c (de_var (pv 0)) (de_int)) (de_int)) (dw_or1 (dt_w (dw_and (dt_cmp (do_eq c) (de_ix c (de_var (pv 0)) (de_int)) (de_int)) (dw_and1 (dt_cmp (do_gt c) (de_ix c (de_var (pv 0)) (de_int)) (de_int)))))))) (dss_cons (ds_set (i := 2) c (by rfl) (by first | exact Or.inl rfl | exact Or.inr rfl) (de_bin (do_mod c) (de_callT (cd_int c) (by rfl) (T.free 24 _ rfl) (by rfl) (da_cons (de_ix c (de_var (pv 0)) (de_int)) (da_nil))) (de_var (pv 1)))) (
      dss_cons (ds_sub c (de_bin (do_fdiv c) (de_ix c (de_var (pv 0)) (de_int)) (de_var (pv 1))) (de_var (pv 0)) (de_int)) (
      dss_one (ds_ret (de_var (pv 2)))))) (dss_nil)) (
    dss_cons (ds_sub c (de_int) (de_var (pv 0)) (de_int)) (
    dss_cons (ds_if (dt_cmp (do_gt c) (de_var (pv 1)) (de_int)) (dss_one (ds_ret (de_bin (do_mod c) (de_callT (cd_int c) (by rfl) (T.free 24 _ rfl) (by rfl) (da_cons (de_bin (do_add c) (de_bin (do_mul c) (de_fun (hA lm lq 14 (by decide)) (hr.mono (by omega)) c (by rfl) (T.glo 31 _ rfl) (T.kp 32 rfl) (bd_14 T) (da_cons (de_var (pv 0)) (da_cons (de_bin (do_add c) (de_bin (do_fdiv c) (de_var (pv 1)) (de_int)) (de_int)) (da_nil)))) (de_int)) (de_fun (hA lm lq 14 (by decide)) (hr.mono (by omega)) c (by rfl) (T.glo 31 _ rfl) (T.kp 32 rfl) (bd_14 T) (da_cons (de_var (pv 0)) (da_cons (de_int) (da_nil))))) (da_nil))) (de_var (pv 1))))) (dss_nil)) (
    dss_cons (ds_sub c (de_bin (do_mod c) (de_callT (cd_int c) (by rfl) (T.free 24 _ rfl) (by rfl) (da_cons (de_bin (do_add c) (de_bin (do_add c) (de_bin (do_mul c) (de_ix c (de_var (pv 0)) (de_int)) (de_int)) (de_bin (do_mul c) (de_ix c (de_var (pv 0)) (de_int)) (de_int))) (de_int)) (da_nil))) (de_int)) (de_var (pv 0)) (de_int)) (
    dss_cons (ds_sub c (de_bin (do_add c) (de_ix c (de_var (pv 0)) (de_int)) (de_int)) (de_var (pv 0)) (de_int)) (
    dss_one (ds_ret (de_bin (do_mod c) (de_callT (cd_int c) (by rfl) (T.free 24 _ rfl) (by rfl) (da_cons (de_bin (do_fdiv c) (de_ix c (de_var (pv 0)) (de_int)) (de_int)) (da_nil))) (de_var (pv 1)))))))))
theorem ok_15 (T : TX K mg base fdt) (hA : AllOk prog w K mg base fdt j) : FnOk prog w K mg base (L2.CX prog w) (16 * j + 16 + 1) (He.fAd K (("_law_rounds" : Str), (none : Option Str))) (fdt 15) ["script", "most"] (spD (pm0 K lm lq (cl K) (tabsF tf K)) (runB 4 (b_15 (run j))) 2) := by
  refine fn_body (fn_15 T) sc_15 rfl fun cdv A outer s H E hci hcv hr c hp => ?_
  have hcd := fun_code (fn_15 T) hcv
  exact dss_cons (ds_set (i := 2) c (by rfl) (by first | exact Or.inl rfl | exact Or.inr rfl) (de_sl c (de_var (pv 0)) (do_none) (do_some (de_var (pv 1))))) (
    dss_cons (ds_if (dt_cmp (do_eq c) (de_var (pv 2)) (de_lst (da_nil))) (dss_one (ds_set (i := 2) c (by rfl) (by first | exact Or.inl rfl | exact Or.inr rfl) (de_lst (da_cons (de_int) (da_nil))))) (dss_nil)) (
    dss_one (ds_ret (de_lc c (own := [(("cell" : Str), 3)]) (pat := .nm 3) (di_seq c (de_var (pv 2))) (blkOk_by (by kernel_rfl)) (by decide) (fun s H C cl fp c => have hr := blk_room hr c; dp_name (pg_name c.nd rfl (by first | exact Or.inl rfl | exact Or.inr rfl))) (fun s H C cl fp c => have hr := blk_room hr c; dts_nil) (fun s H C cl fp c => have hr := blk_room hr c; de_fun (E := EN) (hA lm lq 13 (by decide)) (hr.mono (by omega)) c (by rfl) (T.glo 33 _ rfl) (T.kp 34 rfl) (bd_13 T) (da_cons (de_var (pv 3)) (da_nil)))))))
theorem ok_17 (T : TX K mg base fdt) (hA : AllOk prog w K mg base fdt j) : FnOk prog w K mg base (L2.CX prog w) (16 * j + 16 + 1) (He.fAd K (("_law_row" : Str), (none : Option Str))) (fdt 17) ["dice"] (spD (pm0 K lm lq (cl K) (tabsF tf K)) (runB 6 (b_17 (run j))) 1) := by
  refine fn_body (fn_17 T) sc_17 rfl fun cdv A outer s H E hci hcv hr c hp => ?_
  have hcd := fun_code (fn_17 T) hcv
  exact dss_cons (ds_asg (de_tup (da_cons (de_ix c (de_lst (da_cons (de_str) (da_cons (de_str) (da_cons (de_str) (da_nil))))) (de_fun (hA lm lq 14 (by decide)) (hr.mono (by omega)) c (by rfl) (T.glo 31 _ rfl) (T.kp 32 rfl) (bd_14 T) (da_cons (de_var (pv 0)) (da_cons (de_int) (da_nil))))) (da_cons (de_fun (hA lm lq 14 (by decide)) (hr.mono (by omega)) c (by rfl) (T.glo 31 _ rfl) (T.kp 32 rfl) (bd_14 T) (da_cons (de_var (pv 0)) (da_cons (de_int) (da_nil)))) (da_cons (de_fun (hA lm lq 14 (by decide)) (hr.mono (by omega)) c (by rfl) (T.glo 31 _ rfl) (T.kp 32 rfl) (bd_14 T) (da_cons (de_var (pv 0)) (da_cons (de_int) (da_nil)))) (da_cons (de_fun (hA lm lq 14 (by decide)) (hr.mono (by omega)) c (by rfl) (T.glo 31 _ rfl) (T.kp 32 rfl) (bd_14 T) (da_cons (de_var (pv 0)) (da_cons (de_int) (da_nil)))) (da_nil)))))) (dp_tup (n := 4) c (dps_cons (dp_name (pg_name c.nd rfl (by first | exact Or.inl rfl | exact Or.inr rfl))) (dps_cons (dp_name (pg_name c.nd rfl (by first | exact Or.inl rfl | exact Or.inr rfl))) (dps_cons (dp_name (pg_name c.nd rfl (by first | exact Or.inl rfl | exact Or.inr rfl))) (dps_cons (dp_name (pg_name c.nd rfl (by first | exact Or.inl rfl | exact Or.inr rfl))) (dps_nil))))))) (
    dss_cons (ds_set (i := 5) c (by rfl) (by first | exact Or.inl rfl | exact Or.inr rfl) (de_if (dt_cmp (do_eq c) (de_var (pv 1)) (de_str)) (de_bin (do_add c) (de_bin (do_add c) (de_var (pv 2)) (de_bin (do_mul c) (de_int) (de_var (pv 4)))) (de_fun (hA lm lq 14 (by decide)) (hr.mono (by omega)) c (by rfl) (T.glo 31 _ rfl) (T.kp 32 rfl) (bd_14 T) (da_cons (de_var (pv 0)) (da_cons (de_int) (da_nil))))) (de_var (pv 2)))) (
    dss_one (ds_ret (de_tup (da_cons (de_var (pv 1)) (da_cons (de_var (pv 2)) (da_cons (de_var (pv 5)) (da_cons (de_var (pv 3)) (da_cons (de_var (pv 4)) (da_nil))))))))))
theorem ok_18 (T : TX K mg base fdt) (hA : AllOk prog w K mg base fdt j) : FnOk prog w K mg base (L2.CX prog w) (16 * j + 16 + 1) (He.fAd K (("_law_bad" : Str), (none : Option Str))) (fdt 18) ["row", "value"] (spD (pm0 K lm lq (cl K) (tabsF tf K)) (runB 2 (b_18 (run j))) 2) := by
  refine fn_body (fn_18 T) sc_18 rfl fun cdv A outer s H E hci hcv hr c hp => ?_
  have hcd := fun_code (fn_18 T) hcv
  exact dss_one (ds_ret (de_if (dt_cmp (do_eq c) (de_ix c (de_var (pv 0)) (de_int)) (de_str)) (de_cmp (do_gt c) (de_var (pv 1)) (de_ix c (de_var (pv 0)) (de_int))) (de_if (dt_cmp (do_eq c) (de_ix c (de_var (pv 0)) (de_int)) (de_str)) (de_cmp (do_lt c) (de_var (pv 1)) (de_ix c (de_var (pv 0)) (de_int))) (de_or (de_cmp (do_lt c) (de_var (pv 1)) (de_ix c (de_var (pv 0)) (de_int))) (de_one (de_cmp (do_gt c) (de_var (pv 1)) (de_ix c (de_var (pv 0)) (de_int))))))))
theorem ok_19 (T : TX K mg base fdt) (hA : AllOk prog w K mg base fdt j) : FnOk prog w K mg base (L2.CX prog w) (16 * j + 16 + 1) (He.fAd K (("_law_clear" : Str), (none : Option Str))) (fdt 19) ["row", "value"] (spD (pm0 K lm lq (cl K) (tabsF tf K)) (runB 7 (b_19 (run j))) 2) := by
  refine fn_body (fn_19 T) sc_19 rfl fun cdv A outer s H E hci hcv hr c hp => ?_
  have hcd := fun_code (fn_19 T) hcv
  exact dss_cons (ds_asg (de_var (pv 0)) (dp_tup (n := 5) c (dps_cons (dp_name (pg_name c.nd rfl (by first | exact Or.inl rfl | exact Or.inr rfl))) (dps_cons (dp_name (pg_name c.nd rfl (by first | exact Or.inl rfl | exact Or.inr rfl))) (dps_cons (dp_name (pg_name c.nd rfl (by first | exact Or.inl rfl | exact Or.inr rfl))) (dps_cons (dp_name (pg_name c.nd rfl (by first | exact Or.inl rfl | exact Or.inr rfl))) (dps_cons (dp_name (pg_name c.nd rfl (by first | exact Or.inl rfl | exact Or.inr rfl))) (dps_nil)))))))) (
    dss_one (ds_ret (de_if (dt_cmp (do_eq c) (de_var (pv 2)) (de_str)) (de_cmp (do_le c) (de_bin (do_add c) (de_var (pv 1)) (de_var (pv 6))) (de_var (pv 4))) (de_if (dt_cmp (do_eq c) (de_var (pv 2)) (de_str)) (de_cmp (do_ge c) (de_bin (do_sub c) (de_var (pv 1)) (de_var (pv 6))) (de_var (pv 3))) (de_and (de_cmp (do_ge c) (de_bin (do_sub c) (de_var (pv 1)) (de_var (pv 6))) (de_var (pv 3))) (de_one (de_cmp (do_le c) (de_bin (do_add c) (de_var (pv 1)) (de_var (pv 6))) (de_var (pv 4)))))))))
theorem ok_20 (T : TX K mg base fdt) (hA : AllOk prog w K mg base fdt j) : FnOk prog w K mg base (L2.CX prog w) (16 * j + 16 + 1) (He.fAd K (("_law_runs" : Str), (none : Option Str))) (fdt 20) ["row", "rows"] (spD (pm0 K lm lq (cl K) (tabsF tf K)) (runB 9 (b_20 (run j))) 2) := by
  refine fn_body (fn_20 T) sc_20 rfl fun cdv A outer s H E hci hcv hr c hp => ?_
  have hcd := fun_code (fn_20 T) hcv
  exact dss_cons (ds_asg (de_tup (da_cons (de_lst (da_nil)) (da_cons (de_str) (da_cons (de_non) (da_cons (de_non) (da_nil)))))) (dp_tup (n := 4) c (dps_cons (dp_name (pg_name c.nd rfl (by first | exact Or.inl rfl | exact Or.inr rfl))) (dps_cons (dp_name (pg_name c.nd rfl (by first | exact Or.inl rfl | exact Or.inr rfl))) (dps_cons (dp_name (pg_name c.nd rfl (by first | exact Or.inl rfl | exact Or.inr rfl))) (dps_cons (dp_name (pg_name c.nd rfl (by first | exact Or.inl rfl | exact Or.inr rfl))) (dps_nil))))))) (
    dss_cons (ds_for c hp (di_seq c (de_var (pv 1))) (dp_tup (n := 2) c (dps_cons (dp_name (pg_name c.nd rfl (by first | exact Or.inl rfl | exact Or.inr rfl))) (dps_cons (dp_name (pg_name c.nd rfl (by first | exact Or.inl rfl | exact Or.inr rfl))) (dps_nil)))) (dss_cons (ds_set (i := 8) c (by rfl) (by first | exact Or.inl rfl | exact Or.inr rfl) (de_fun (hA lm lq 18 (by decide)) (hr.mono (by omega)) c (by rfl) (T.glo 35 _ rfl) (T.kp 36 rfl) (bd_18 T) (da_cons (de_var (pv 0)) (da_cons (de_var (pv 7)) (da_nil))))) (
      dss_cons (ds_if (dt_w (dw_and (dt_cmp (do_eq c) (de_var (pv 3)) (de_str)) (dw_and1 (dt_val (de_var (pv 8)))))) (dss_one (ds_par (i := 3) (j := 4) c rfl rfl (by decide) rfl rfl (da_cons (de_str) (da_cons (de_var (pv 6)) (da_nil))) (by rfl))) (dss_nil)) (
      dss_one (ds_if (dt_cmp (do_eq c) (de_var (pv 3)) (de_str)) (dss_one (ds_if (dt_not (dt_val (de_var (pv 8)))) (dss_cons (ds_set (i := 2) c (by rfl) (by first | exact Or.inl rfl | exact Or.inr rfl) (de_bin (do_add c) (de_var (pv 2)) (de_lst (da_cons (de_tup (da_cons (de_var (pv 4)) (da_cons (de_non) (da_cons (de_var (pv 6)) (da_nil))))) (da_nil))))) (
          dss_one (ds_set (i := 3) c (by rfl) (by first | exact Or.inl rfl | exact Or.inr rfl) (de_str)))) (dss_one (ds_if (dt_cmp (do_ge c) (de_bin (do_sub c) (de_var (pv 6)) (de_var (pv 4))) (de_ix c (de_var (pv 0)) (de_int))) (dss_one (ds_par (i := 3) (j := 5) c rfl rfl (by decide) rfl rfl (da_cons (de_str) (da_cons (de_var (pv 6)) (da_nil))) (by rfl))) (dss_nil))))) (dss_one (ds_if (dt_w (dw_and (dt_cmp (do_eq c) (de_var (pv 3)) (de_str)) (dw_and1 (dt_val (de_fun (hA lm lq 19 (by decide)) (hr.mono (by omega)) c (by rfl) (T.glo 37 _ rfl) (T.kp 38 rfl) (bd_19 T) (da_cons (de_var (pv 0)) (da_cons (de_var (pv 7)) (da_nil)))))))) (dss_cons (ds_set (i := 2) c (by rfl) (by first | exact Or.inl rfl | exact Or.inr rfl) (de_bin (do_add c) (de_var (pv 2)) (de_lst (da_cons (de_tup (da_cons (de_var (pv 4)) (da_cons (de_var (pv 5)) (da_cons (de_var (pv 6)) (da_nil))))) (da_nil))))) (
          dss_one (ds_set (i := 3) c (by rfl) (by first | exact Or.inl rfl | exact Or.inr rfl) (de_str)))) (dss_nil)))))))) (
    dss_one (ds_ret (de_bin (do_add c) (de_var (pv 2)) (de_if (dt_cmp (do_ne c) (de_var (pv 3)) (de_str)) (de_lst (da_cons (de_tup (da_cons (de_var (pv 4)) (da_cons (de_if (dt_cmp (do_eq c) (de_var (pv 3)) (de_str)) (de_var (pv 5)) (de_non)) (da_cons (de_non) (da_nil))))) (da_nil))) (de_lst (da_nil)))))))
theorem ok_21 (T : TX K mg base fdt) (hA : AllOk prog w K mg base fdt j) : FnOk prog w K mg base (L2.CX prog w) (16 * j + 16 + 1) (He.fAd K (("_law_text" : Str), (none : Option Str))) (fdt 21) ["row"] (spD (pm0 K lm lq (cl K) (tabsF tf K)) (runB 1 (b_21 (run j))) 1) := by
  refine fn_body (fn_21 T) sc_21 rfl fun cdv A outer s H E hci hcv hr c hp => ?_
  have hcd := fun_code (fn_21 T) hcv
  exact dss_one (ds_ret (de_bin (do_add c) (de_bin (do_add c) (de_bin (do_add c) (de_bin (do_add c) (de_bin (do_add c) (de_ix c (de_var (pv 0)) (de_int)) (de_str)) (de_callT (cd_str c) (by rfl) (T.free 17 _ rfl) (by rfl) (da_cons (de_ix c (de_var (pv 0)) (de_int)) (da_nil)))) (de_if (dt_cmp (do_eq c) (de_ix c (de_var (pv 0)) (de_int)) (de_str)) (de_bin (do_add c) (de_str) (de_callT (cd_str c) (by rfl) (T.free 17 _ rfl) (by rfl) (da_cons (de_ix c (de_var (pv 0)) (de_int)) (da_nil)))) (de_str))) (de_if (dt_cmp (do_gt c) (de_ix c (de_var (pv 0)) (de_int)) (de_int)) (de_bin (do_add c) (de_str) (de_callT (cd_str c) (by rfl) (T.free 17 _ rfl) (by rfl) (da_cons (de_ix c (de_var (pv 0)) (de_int)) (da_nil)))) (de_str))) (de_if (dt_cmp (do_gt c) (de_ix c (de_var (pv 0)) (de_int)) (de_int)) (de_bin (do_add c) (de_str) (de_callT (cd_str c) (by rfl) (T.free 17 _ rfl) (by rfl) (da_cons (de_ix c (de_var (pv 0)) (de_int)) (da_nil)))) (de_str))))
theorem ok_23 (T : TX K mg base fdt) (hA : AllOk prog w K mg base fdt j) : FnOk prog w K mg base (L2.CX prog w) (16 * j + 16 + 1) (He.fAd K (("law" : Str), (none : Option Str))) (fdt 23) ["script"] (spD (pm0 K lm lq (cl K) (tabsF tf K)) (runB 32 (b_23 (run j))) 1) := by
  refine fn_body (fn_23 T) sc_23 rfl fun cdv A outer s H E hci hcv hr c hp => ?_
  have hcd := fun_code (fn_23 T) hcv
  exact dss_cons (ds_for c hp (di_seq c (de_fun (hA lm lq 15 (by decide)) (hr.mono (by omega)) c (by rfl) (T.glo 51 _ rfl) (T.kp 52 rfl) (bd_15 T) (da_cons (de_var (pv 0)) (da_cons (de_int) (da_nil))))) (dp_name (pg_name c.nd rfl (by first | exact Or.inl rfl | exact Or.inr rfl))) (dss_cons (ds_asg (de_tup (da_cons (de_fun (hA lm lq 17 (by decide)) (hr.mono (by omega)) c (by rfl) (T.glo 53 _ rfl) (T.kp 54 rfl) (bd_17 T) (da_cons (de_var (pv 1)) (da_nil))) (da_cons (de_lst (da_nil)) (da_cons (de_int) (da_nil))))) (dp_tup (n := 3) c (dps_cons (dp_name (pg_name c.nd rfl (by first | exact Or.inl rfl | exact Or.inr rfl))) (dps_cons (dp_name (pg_name c.nd rfl (by first | exact Or.inl rfl | exact Or.inr rfl))) (dps_cons (dp_name (pg_name c.nd rfl (by first | exact Or.inl rfl | exact Or.inr rfl))) (dps_nil)))))) (
      dss_cons (ds_for c hp (di_range1 (by rfl) (T.free 23 _ rfl) (da_cons (de_fun (hA lm lq 14 (by decide)) (hr.mono (by omega)) c (by rfl) (T.glo 31 _ rfl) (T.kp 32 rfl) (bd_14 T) (da_cons (de_var (pv 1)) (da_cons (de_int) (da_nil)))) (da_nil))) (dp_name (pg_name c.nd rfl (by first | exact Or.inl rfl | exact Or.inr rfl))) (dss_cons (ds_set (i := 4) c (by rfl) (by first | exact Or.inl rfl | exact Or.inr rfl) (de_bin (do_add c) (de_bin (do_add c) (de_var (pv 4)) (de_int)) (de_fun (hA lm lq 14 (by decide)) (hr.mono (by omega)) c (by rfl) (T.glo 31 _ rfl) (T.kp 32 rfl) (bd_14 T) (da_cons (de_var (pv 1)) (da_cons (de_int) (da_nil)))))) (
        dss_one (ds_set (i := 3) c (by rfl) (by first | exact Or.inl rfl | exact Or.inr rfl) (de_bin (do_add c) (de_var (pv 3)) (de_lst (da_cons (de_tup (da_cons (de_var (pv 4)) (da_cons (de_bin (do_sub c) (de_fun (hA lm lq 14 (by decide)) (hr.mono (by omega)) c (by rfl) (T.glo 31 _ rfl) (T.kp 32 rfl) (bd_14 T) (da_cons (de_var (pv 1)) (da_cons (de_int) (da_nil)))) (de_int)) (da_nil)))) (da_nil)))))))) (
      dss_cons (ds_par (i := 6) (j := 7) c rfl rfl (by decide) rfl rfl (da_cons (de_make (cn := 2) (T.mkr 25 rfl) (hA lm lq 0 (by decide)) (hr.mono (by omega)) c (by rfl) (T.glo 26 _ rfl) (bd_0 T) (da_cons (de_ix c (de_var (pv 2)) (de_int)) (da_cons (de_ix c (de_var (pv 2)) (de_int)) (da_cons (de_ix c (de_var (pv 2)) (de_int)) (da_cons (de_ix c (de_var (pv 2)) (de_int)) (da_cons (de_ix c (de_var (pv 2)) (de_int)) (da_nil))))))) (da_cons (de_fun (hA lm lq 20 (by decide)) (hr.mono (by omega)) c (by rfl) (T.glo 55 _ rfl) (T.kp 56 rfl) (bd_20 T) (da_cons (de_var (pv 2)) (da_cons (de_var (pv 3)) (da_nil)))) (da_nil))) (by rfl)) (
      dss_cons (ds_set (i := 8) c (by rfl) (by first | exact Or.inl rfl | exact Or.inr rfl) (de_fun (hA lm lq 8 (by decide)) (hr.mono (by omega)) c (by rfl) (T.glo 39 _ rfl) (T.kp 40 rfl) (bd_8 T) (da_cons (de_fun (hA lm lq 21 (by decide)) (hr.mono (by omega)) c (by rfl) (T.glo 57 _ rfl) (T.kp 58 rfl) (bd_21 T) (da_cons (de_var (pv 2)) (da_nil))) (da_nil)))) (
      dss_cons (ds_if (dt_cmp (do_ne c) (de_meth0 (cn := 2) (de_var (pv 6)) (T.cls 4 rfl) (T.meth 42 rfl) (hA lm lq 6 (by decide)) (hr.mono (by omega)) c (bd_6 T)) (de_fun (hA lm lq 21 (by decide)) (hr.mono (by omega)) c (by rfl) (T.glo 57 _ rfl) (T.kp 58 rfl) (bd_21 T) (da_cons (de_var (pv 2)) (da_nil)))) (dss_one (ds_ret (de_bl))) (dss_nil)) (
      dss_cons (ds_if (dt_w (dw_or (dt_cmp (do_ne c) (de_tup (da_cons (de_fld (fld_cons (T.cls 4 rfl) (T.noat 5 rfl) (fld_nil)) (de_var (pv 8))) (da_cons (de_fld (fld_cons (T.cls 4 rfl) (T.noat 6 rfl) (fld_nil)) (de_var (pv 8))) (da_cons (de_fld (fld_cons (T.cls 4 rfl) (T.noat 7 rfl) (fld_nil)) (de_var (pv 8))) (da_cons (de_fld (fld_cons (T.cls 4 rfl) (T.noat 8 rfl) (fld_nil)) (de_var (pv 8))) (da_cons (de_fld (fld_cons (T.cls 4 rfl) (T.noat 9 rfl) (fld_nil)) (de_var (pv 8))) (da_nil))))))) (de_var (pv 2))) (dw_or1 (dt_cmp (do_ne c) (de_callT (cd_list c) (by rfl) (T.free 59 _ rfl) (by rfl) (da_cons (de_meth (cn := 2) (de_var (pv 6)) (T.cls 4 rfl) (T.meth 16 rfl) (hA lm lq 4 (by decide)) (hr.mono (by omega)) c (bd_4 T) (da_cons (de_var (pv 3)) (da_nil))) (da_nil))) (de_var (pv 7)))))) (dss_one (ds_ret (de_bl))) (dss_nil)) (
      dss_cons (ds_for c hp (di_range3 (by rfl) (T.free 23 _ rfl) (da_cons (de_neg (de_int)) (da_cons (de_int) (da_cons (de_int) (da_nil))))) (dp_name (pg_name c.nd rfl (by first | exact Or.inl rfl | exact Or.inr rfl))) (dss_cons (ds_set (i := 10) c (by rfl) (by first | exact Or.inl rfl | exact Or.inr rfl) (de_if (dt_cmp (do_eq c) (de_ix c (de_var (pv 2)) (de_int)) (de_str)) (de_callB (cd_max2 c) (by rfl) (T.free 11 _ rfl) (by rfl) (da_cons (de_int) (da_cons (de_bin (do_sub c) (de_var (pv 9)) (de_ix c (de_var (pv 2)) (de_int))) (da_nil)))) (de_if (dt_cmp (do_eq c) (de_ix c (de_var (pv 2)) (de_int)) (de_str)) (de_callB (cd_max2 c) (by rfl) (T.free 11 _ rfl) (by rfl) (da_cons (de_int) (da_cons (de_bin (do_sub c) (de_ix c (de_var (pv 2)) (de_int)) (de_var (pv 9))) (da_nil)))) (de_callB (cd_max3 c) (by rfl) (T.free 11 _ rfl) (by rfl) (da_cons (de_int) (da_cons (de_bin (do_sub c) (de_ix c (de_var (pv 2)) (de_int)) (de_var (pv 9))) (da_cons (de_bin (do_sub c) (de_var (pv 9)) (de_ix c (de_var (pv 2)) (de_int))) (da_nil)))))))) (
        dss_one (ds_if (dt_cmp (do_ne c) (de_tup (da_cons (de_meth (cn := 2) (de_var (pv 6)) (T.cls 4 rfl) (T.meth 10 rfl) (hA lm lq 1 (by decide)) (hr.mono (by omega)) c (bd_1 T) (da_cons (de_var (pv 9)) (da_nil))) (da_cons (de_meth (cn := 2) (de_var (pv 6)) (T.cls 4 rfl) (T.meth 14 rfl) (hA lm lq 2 (by decide)) (hr.mono (by omega)) c (bd_2 T) (da_cons (de_var (pv 9)) (da_nil))) (da_cons (de_meth (cn := 2) (de_var (pv 6)) (T.cls 4 rfl) (T.meth 43 rfl) (hA lm lq 3 (by decide)) (hr.mono (by omega)) c (bd_3 T) (da_cons (de_var (pv 9)) (da_nil))) (da_nil))))) (de_tup (da_cons (de_fun (hA lm lq 18 (by decide)) (hr.mono (by omega)) c (by rfl) (T.glo 35 _ rfl) (T.kp 36 rfl) (bd_18 T) (da_cons (de_var (pv 2)) (da_cons (de_var (pv 9)) (da_nil)))) (da_cons (de_fun (hA lm lq 19 (by decide)) (hr.mono (by omega)) c (by rfl) (T.glo 37 _ rfl) (T.kp 38 rfl) (bd_19 T) (da_cons (de_var (pv 2)) (da_cons (de_var (pv 9)) (da_nil)))) (da_cons (de_var (pv 10)) (da_nil)))))) (dss_one (ds_ret (de_bl))) (dss_nil))))) (
      dss_cons (ds_for c hp (di_seq c (de_lc c (own := [(("k" : Str), 5)]) (pat := .nm 5) (di_range1 (by rfl) (T.free 23 _ rfl) (da_cons (de_int) (da_nil))) (blkOk_by (by kernel_rfl)) (by decide) (fun s H C cl fp c => have hr := blk_room hr c; dp_name (pg_name c.nd rfl (by first | exact Or.inl rfl | exact Or.inr rfl))) (fun s H C cl fp c => have hr := blk_room hr c; dts_nil) (fun s H C cl fp c => have hr := blk_room hr c; de_fun (E := EN) (hA lm lq 14 (by decide)) (hr.mono (by omega)) c (by rfl) (T.glo 31 _ rfl) (T.kp 32 rfl) (bd_14 T) (da_cons (de_var (pv 1)) (da_cons (de_int) (da_nil)))))) (dp_name (pg_name c.nd rfl (by first | exact Or.inl rfl | exact Or.inr rfl))) (dss_cons (ds_set (i := 12) c (by rfl) (by first | exact Or.inl rfl | exact Or.inr rfl) (de_fun (hA lm lq 20 (by decide)) (hr.mono (by omega)) c (by rfl) (T.glo 55 _ rfl) (T.kp 56 rfl) (bd_20 T) (da_cons (de_var (pv 2)) (da_cons (de_lc c (own := [(("one" : Str), 26)]) (pat := .nm 26) (di_seq c (de_var (pv 3))) (blkOk_by (by kernel_rfl)) (by decide) (fun s H C cl fp c => have hr := blk_room hr c; dp_name (pg_name c.nd rfl (by first | exact Or.inl rfl | exact Or.inr rfl))) (fun s H C cl fp c => have hr := blk_room hr c; dts_one (dt_cmp (do_le c) (de_ix c (de_var (pv 26)) (de_int)) (de_var (pv 11)))) (fun s H C cl fp c => have hr := blk_room hr c; de_var (pv 26))) (da_nil))))) (
        dss_cons (ds_set (i := 13) c (by rfl) (by first | exact Or.inl rfl | exact Or.inr rfl) (de_if (dt_w (dw_or (dt_cmp (do_eq c) (de_var (pv 12)) (de_lst (da_nil))) (dw_or1 (dt_cmp (do_isNot c) (de_ix c (de_ix c (de_var (pv 12)) (de_neg (de_int))) (de_int)) (de_non))))) (de_str) (de_if (dt_cmp (do_is c) (de_ix c (de_ix c (de_var (pv 12)) (de_neg (de_int))) (de_int)) (de_non)) (de_str) (de_str)))) (
        dss_one (ds_if (dt_cmp (do_ne c) (de_meth (cn := 2) (de_var (pv 6)) (T.cls 4 rfl) (T.meth 41 rfl) (hA lm lq 5 (by decide)) (hr.mono (by omega)) c (bd_5 T) (da_cons (de_var (pv 3)) (da_cons (de_var (pv 11)) (da_nil)))) (de_var (pv 13))) (dss_one (ds_ret (de_bl))) (dss_nil)))))) (
      dss_cons (ds_set (i := 14) c (by rfl) (by first | exact Or.inl rfl | exact Or.inr rfl) (de_bin (do_add c) (de_var (pv 4)) (de_fun (hA lm lq 14 (by decide)) (hr.mono (by omega)) c (by rfl) (T.glo 31 _ rfl) (T.kp 32 rfl) (bd_14 T) (da_cons (de_var (pv 1)) (da_cons (de_int) (da_nil)))))) (
      dss_cons (ds_set (i := 15) c (by rfl) (by first | exact Or.inl rfl | exact Or.inr rfl) (de_callB (cd_sum c) (by rfl) (T.free 60 _ rfl) (by rfl) (da_cons (de_lc c (own := [(("since" : Str), 27), (("begin" : Str), 28), (("end" : Str), 29)]) (pat := .tp [.nm 27, .nm 28, .nm 29]) (di_seq c (de_var (pv 7))) (blkOk_by (by kernel_rfl)) (by decide) (fun s H C cl fp c => have hr := blk_room hr c; dp_tup (n := 3) c (dps_cons (dp_name (pg_name c.nd rfl (by first | exact Or.inl rfl | exact Or.inr rfl))) (dps_cons (dp_name (pg_name c.nd rfl (by first | exact Or.inl rfl | exact Or.inr rfl))) (dps_cons (dp_name (pg_name c.nd rfl (by first | exact Or.inl rfl | exact Or.inr rfl))) (dps_nil))))) (fun s H C cl fp c => have hr := blk_room hr c; dts_one (dt_cmp (do_isNot c) (de_var (pv 28)) (de_non))) (fun s H C cl fp c => have hr := blk_room hr c; de_bin (do_sub c) (de_if (dt_cmp (do_isNot c) (de_var (pv 29)) (de_non)) (de_var (pv 29)) (de_var (pv 14))) (de_var (pv 28)))) (da_nil)))) (
      dss_cons (ds_if (dt_cmp (do_ne c) (de_fun (hA lm lq 10 (by decide)) (hr.mono (by omega)) c (by rfl) (T.glo 44 _ rfl) (T.kp 45 rfl) (bd_10 T) (da_cons (de_var (pv 6)) (da_cons (de_var (pv 3)) (da_cons (de_var (pv 14)) (da_nil))))) (de_var (pv 15))) (dss_one (ds_ret (de_bl))) (dss_nil)) (
      dss_cons (ds_asg (de_tup (da_cons (de_lc c (own := [(("stamp" : Str), 11), (("value" : Str), 9)]) (pat := .tp [.nm 11, .nm 9]) (di_seq c (de_var (pv 3))) (blkOk_by (by kernel_rfl)) (by decide) (fun s H C cl fp c => have hr := blk_room hr c; dp_tup (n := 2) c (dps_cons (dp_name (pg_name c.nd rfl (by first | exact Or.inl rfl | exact Or.inr rfl))) (dps_cons (dp_name (pg_name c.nd rfl (by first | exact Or.inl rfl | exact Or.inr rfl))) (dps_nil)))) (fun s H C cl fp c => have hr := blk_room hr c; dts_nil) (fun s H C cl fp c => have hr := blk_room hr c; de_var (pv 9))) (da_cons (de_fun (hA lm lq 14 (by decide)) (hr.mono (by omega)) c (by rfl) (T.glo 31 _ rfl) (T.kp 32 rfl) (bd_14 T) (da_cons (de_var (pv 1)) (da_cons (de_int) (da_nil)))) (da_cons (de_ix c (de_lst (da_cons (de_str) (da_cons (de_str) (da_nil)))) (de_fun (hA lm lq 14 (by decide)) (hr.mono (by omega)) c (by rfl) (T.glo 31 _ rfl) (T.kp 32 rfl) (bd_14 T) (da_cons (de_var (pv 1)) (da_cons (de_int) (da_nil))))) (da_nil))))) (dp_tup (n := 3) c (dps_cons (dp_name (pg_name c.nd rfl (by first | exact Or.inl rfl | exact Or.inr rfl))) (dps_cons (dp_name (pg_name c.nd rfl (by first | exact Or.inl rfl | exact Or.inr rfl))) (dps_cons (dp_name (pg_name c.nd rfl (by first | exact Or.inl rfl | exact Or.inr rfl))) (dps_nil)))))) (
      dss_cons (ds_if (dt_cmp (do_ne c) (de_var (pv 3)) (de_lst (da_nil))) (dss_cons (ds_set (i := 19) c (by rfl) (by first | exact Or.inl rfl | exact Or.inr rfl) (de_callB (cd_sorted c) (by rfl) (T.free 28 _ rfl) (by rfl) (da_cons (de_bin (do_add c) (de_var (pv 16)) (de_lst (da_cons (de_bin (do_sub c) (de_callB (cd_minL c) (by rfl) (T.free 1 _ rfl) (by rfl) (da_cons (de_var (pv 16)) (da_nil))) (de_int)) (da_cons (de_bin (do_add c) (de_callB (cd_maxL c) (by rfl) (T.free 11 _ rfl) (by rfl) (da_cons (de_var (pv 16)) (da_nil))) (de_int)) (da_nil))))) (da_nil)))) (
        dss_cons (ds_setLc (i := 20) c (by rfl) (by rfl) (sw_true rfl rfl rfl (by kernel_rfl)) (own := [(("bound" : Str), 30)]) (pat := .nm 30) (di_seq c (de_var (pv 19))) (blkOk_by (by kernel_rfl)) (by decide) (fun s H C cl fp c => have hr := blk_room hr c; dp_name (pg_name c.nd rfl (by first | exact Or.inl rfl | exact Or.inr rfl))) (fun s H C cl fp c => have hr := blk_room hr c; dts_one (dt_cmp (do_le c) (de_callB (cd_len c) (by rfl) (T.free 20 _ rfl) (by rfl) (da_cons (de_lc c (own := [(("value" : Str), 9)]) (pat := .nm 9) (di_seq c (de_var (pv 16))) (blkOk_by (by kernel_rfl)) (by decide) (fun s H C cl fp c => have hr := blk_room hr c; dp_name (pg_name c.nd rfl (by first | exact Or.inl rfl | exact Or.inr rfl))) (fun s H C cl fp c => have hr := blk_room hr c; dts_one (dt_if (dt_cmp (do_eq c) (de_var (pv 18)) (de_str)) (dt_cmp (do_gt c) (de_var (pv 9)) (de_var (pv 30))) (dt_cmp (do_lt c) (de_var (pv 9)) (de_var (pv 30))))) (fun s H C cl fp c => have hr := blk_room hr c; de_int)) (da_nil))) (de_var (pv 17)))) (fun s H C cl fp c => have hr := blk_room hr c; de_var (pv 30))) (
        dss_one (ds_if (dt_cmp (do_ne c) (de_fun (hA lm lq 11 (by decide)) (hr.mono (by omega)) c (by rfl) (T.glo 46 _ rfl) (T.kp 47 rfl) (bd_11 T) (da_cons (de_var (pv 3)) (da_cons (de_var (pv 18)) (da_cons (de_var (pv 17)) (da_nil))))) (de_if (dt_cmp (do_eq c) (de_var (pv 18)) (de_str)) (de_callB (cd_minL c) (by rfl) (T.free 1 _ rfl) (by rfl) (da_cons (de_var (pv 20)) (da_nil))) (de_callB (cd_maxL c) (by rfl) (T.free 11 _ rfl) (by rfl) (da_cons (de_var (pv 20)) (da_nil))))) (dss_one (ds_ret (de_bl))) (dss_nil))))) (dss_nil)) (
      dss_cons (ds_set (i := 21) c (by rfl) (by first | exact Or.inl rfl | exact Or.inr rfl) (de_bin (do_add c) (de_lst (da_cons (de_var (pv 2)) (da_nil))) (de_lc c (own := [(("k" : Str), 5)]) (pat := .nm 5) (di_range1 (by rfl) (T.free 23 _ rfl) (da_cons (de_fun (hA lm lq 14 (by decide)) (hr.mono (by omega)) c (by rfl) (T.glo 31 _ rfl) (T.kp 32 rfl) (bd_14 T) (da_cons (de_var (pv 1)) (da_cons (de_int) (da_nil)))) (da_nil))) (blkOk_by (by kernel_rfl)) (by decide) (fun s H C cl fp c => have hr := blk_room hr c; dp_name (pg_name c.nd rfl (by first | exact Or.inl rfl | exact Or.inr rfl))) (fun s H C cl fp c => have hr := blk_room hr c; dts_nil) (fun s H C cl fp c => have hr := blk_room hr c; de_fun (E := EN) (hA lm lq 17 (by decide)) (hr.mono (by omega)) c (by rfl) (T.glo 53 _ rfl) (T.kp 54 rfl) (bd_17 T) (da_cons (de_var (pv 1)) (da_nil)))))) (
      dss_cons (ds_setLc (i := 22) c (by rfl) (by rfl) (sw_true rfl rfl rfl (by kernel_rfl)) (own := [(("one" : Str), 26)]) (pat := .nm 26) (di_seq c (de_var (pv 21))) (blkOk_by (by kernel_rfl)) (by decide) (fun s H C cl fp c => have hr := blk_room hr c; dp_name (pg_name c.nd rfl (by first | exact Or.inl rfl | exact Or.inr rfl))) (fun s H C cl fp c => have hr := blk_room hr c; dts_nil) (fun s H C cl fp c => have hr := blk_room hr c; de_ix c (de_bin (do_add c) (de_lc c (own := [(("run" : Str), 31)]) (pat := .nm 31) (di_seq c (de_fun (E := EN) (hA lm lq 20 (by decide)) (hr.mono (by omega)) c (by rfl) (T.glo 55 _ rfl) (T.kp 56 rfl) (bd_20 T) (da_cons (de_var (pv 26)) (da_cons (de_var (pv 3)) (da_nil))))) (blkOk_by (by kernel_rfl)) (by decide) (fun s H C cl fp c => have hr := blk_room hr c; dp_name (pg_name c.nd rfl (by first | exact Or.inl rfl | exact Or.inr rfl))) (fun s H C cl fp c => have hr := blk_room hr c; dts_one (dt_cmp (do_isNot c) (de_ix c (de_var (pv 31)) (de_int)) (de_non))) (fun s H C cl fp c => have hr := blk_room hr c; de_ix c (de_var (pv 31)) (de_int))) (de_lst (da_cons (de_non) (da_nil)))) (de_int))) (
      dss_cons (ds_set (i := 23) c (by rfl) (by first | exact Or.inl rfl | exact Or.inr rfl) (de_callB (cd_sorted c) (by rfl) (T.free 28 _ rfl) (by rfl) (da_cons (de_lc c (own := [(("k" : Str), 5), (("stamp" : Str), 11)]) (pat := .tp [.nm 5, .nm 11]) (di_enum c (by rfl) (T.free 29 _ rfl) (da_cons (de_var (pv 22)) (da_nil))) (blkOk_by (by kernel_rfl)) (by decide) (fun s H C cl fp c => have hr := blk_room hr c; dp_tup (n := 2) c (dps_cons (dp_name (pg_name c.nd rfl (by first | exact Or.inl rfl | exact Or.inr rfl))) (dps_cons (dp_name (pg_name c.nd rfl (by first | exact Or.inl rfl | exact Or.inr rfl))) (dps_nil)))) (fun s H C cl fp c => have hr := blk_room hr c; dts_one (dt_cmp (do_isNot c) (de_var (pv 11)) (de_non))) (fun s H C cl fp c => have hr := blk_room hr c; de_tup (da_cons (de_var (pv 11)) (da_cons (de_var (pv 5)) (da_nil))))) (da_nil)))) (
      dss_cons (ds_if (dt_cmp (do_ne c) (de_fun (hA lm lq 12 (by decide)) (hr.mono (by omega)) c (by rfl) (T.glo 48 _ rfl) (T.kp 49 rfl) (bd_12 T) (da_cons (de_lc c (own := [(("one" : Str), 26)]) (pat := .nm 26) (di_seq c (de_var (pv 21))) (blkOk_by (by kernel_rfl)) (by decide) (fun s H C cl fp c => have hr := blk_room hr c; dp_name (pg_name c.nd rfl (by first | exact Or.inl rfl | exact Or.inr rfl))) (fun s H C cl fp c => have hr := blk_room hr c; dts_nil) (fun s H C cl fp c => have hr := blk_room hr c; de_make (cn := 2) (T.mkr 25 rfl) (E := EN) (hA lm lq 0 (by decide)) (hr.mono (by omega)) c (by rfl) (T.glo 26 _ rfl) (bd_0 T) (da_cons (de_ix c (de_var (pv 26)) (de_int)) (da_cons (de_ix c (de_var (pv 26)) (de_int)) (da_cons (de_ix c (de_var (pv 26)) (de_int)) (da_cons (de_ix c (de_var (pv 26)) (de_int)) (da_cons (de_ix c (de_var (pv 26)) (de_int)) (da_nil)))))))) (da_cons (de_var (pv 3)) (da_nil)))) (de_if (dt_cmp (do_ne c) (de_var (pv 23)) (de_lst (da_nil))) (de_tup (da_cons (de_ix c (de_ix c (de_var (pv 23)) (de_int)) (de_int)) (da_cons (de_ix c (de_ix c (de_var (pv 23)) (de_int)) (de_int)) (da_nil)))) (de_non))) (dss_one (ds_ret (de_bl))) (dss_nil)) (
      dss_cons (ds_set (i := 24) c (by rfl) (by first | exact Or.inl rfl | exact Or.inr rfl) (de_lst (da_cons (de_str) (da_cons (de_str) (da_cons (de_str) (da_cons (de_str) (da_cons (de_str) (da_cons (de_str) (da_cons (de_str) (da_cons (de_str) (da_cons (de_str) (da_cons (de_str) (da_nil))))))))))))) (
      dss_cons (ds_set (i := 24) c (by rfl) (by first | exact Or.inl rfl | exact Or.inr rfl) (de_bin (do_add c) (de_var (pv 24)) (de_lst (da_cons (de_str) (da_cons (de_str) (da_nil)))))) (
      dss_cons (ds_set (i := 25) c (by rfl) (by first | exact Or.inl rfl | exact Or.inr rfl) (de_ix c (de_var (pv 24)) (de_fun (hA lm lq 14 (by decide)) (hr.mono (by omega)) c (by rfl) (T.glo 31 _ rfl) (T.kp 32 rfl) (bd_14 T) (da_cons (de_var (pv 1)) (da_cons (de_int) (da_nil)))))) (
      dss_one (ds_if (dt_cmp (do_ne c) (de_toldF (k := 16 * j + 14) c (by rfl) (T.glo 61 _ rfl) (fn_16 T) (by rfl) (bd_16 T) sc_16 (by rfl) (by exact Or.inl rfl) (by rfl) (T.glo 3 _ rfl) (cau_cons (T.exm 50 rfl) (cau_nil)) (by decide +kernel) (T.tabL 6 rfl) hcd (tabsF_mem (i := 6) (p := ((("law" : Str), (none : Option Str)), qn "law" "<lambda>")) rfl) (T.tabU 6 rfl) (hr.mono (by omega)) (LamX.lamS_by (by kernel_rfl)) (by rfl) (fun _ _ _ _ _ => by rfl) (fun A outer s H E f c' hr c => de_fun (hA lm lq 8 (by decide)) (hr.mono (by omega)) c (by rfl) (T.glo 39 _ rfl) (T.kp 40 rfl) (bd_8 T) (da_cons (de_var (pv 25)) (da_nil)))) (de_str)) (dss_one (ds_ret (de_bl))) (dss_nil)))))))))))))))))))))))) (
    dss_one (ds_ret (de_fun0 (hA lm lq 22 (by decide)) (hr.mono (by omega)) c (by rfl) (T.glo 62 _ rfl) (T.kp 63 rfl) (bd_22 T))))
def lamsE : Expr → List LamW
  | .List es _ => es.filterMap fun e => match e with
    | .Lambda p b s _ => some ⟨p, b, s⟩
    | _ => none
  | .BinOp _ _ (.List es _) _ => es.filterMap fun e => match e with
    | .Lambda p b s _ => some ⟨p, b, s⟩
    | _ => none
  | _ => []
def lamsS : Stmt → List LamW
  | .Assign _ e _ => lamsE e
  | _ => []
def lams : List LamW := (defBody d_22).flatMap lamsS
def lamTab : Nat → LamW := fun n => lams.getD n ⟨⟨[], [], none, [], [], none, []⟩, .Constant .none 0 ⟨0, 0, 0, 0⟩, ⟨.function, [], false, false, []⟩⟩
theorem lams_ok : (List.range 15).all (fun n => LamX.lamSB (defScope d_22) (lamTab n).scope) = true := by decide +kernel
section
variable {cdv : Value} {A : Around} {outer : List PySem.Env} {s : Shared} {H : Hp} {E : XK}
abbrev XP (prog : Program) (w : World) (K : PySem.W.Frag) (mg : Str → Option Value) (base : Heap) (cdv : Value) (A : Around) (outer : List PySem.Env) (s : Shared) (H : Hp) (E : XK) : Cx := cxOf (L2.CX prog w) prog w K mg base (["mine", "rows", "twice", "told", "bad", "f"] : List Str) "_law_plain" (defScope d_22) (He.fAd K (("_law_plain" : Str), (none : Option Str))) cdv A outer s H E
abbrev PP (K : PySem.W.Frag) (lm : Nat → Addr → Addr → Heap → Prop) : Pm := pm0 K lm (qn "_law_plain" "<lambda>") (cl K) (tabsF tf K)
theorem lam_0 (T : TX K mg base fdt) (hA : AllOk prog w K mg base fdt j) (lq : Str := qn "_law_plain" "<lambda>") (A2 : Around) (outer2 : List PySem.Env) (s2 : Shared) (H2 : Hp) (E2 : XK) (f c' : Addr) (hr : Room (16 * j + 14) (LamX.lamCx (XP prog w K mg base cdv A outer s H E) A2 outer2 s2 H2 E2 (lamTab 0).scope f c').A) (c : Ctx (LamX.lamCx (XP prog w K mg base cdv A outer s H E) A2 outer2 s2 H2 E2 (lamTab 0).scope f c') (pm0 K lm lq (cl K) (tabsF tf K)) (WI E2)) :
    DE (LamX.lamCx (XP prog w K mg base cdv A outer s H E) A2 outer2 s2 H2 E2 (lamTab 0).scope f c') (pm0 K lm lq (cl K) (tabsF tf K)) (WI E2) (lamTab 0).body (lf_plain (run j) 0) :=
  de_makeD (cn := 2) (T.mkr 25 rfl) (hA lm lq 0 (by decide)) (hr.mono (by omega)) c (by rfl) (T.glo 26 _ rfl) (bs_0_4 T).choose_spec.2 (bs_0_4 T).choose_spec.1 (fun _ _ _ => rep_dvs (K0 := K) (vs := [.int 0, .int 0]) (by decide)) (da_cons (de_str) (da_cons (de_int) (da_cons (de_int) (da_nil))))
theorem lam_1 (T : TX K mg base fdt) (hA : AllOk prog w K mg base fdt j) (lq : Str := qn "_law_plain" "<lambda>") (A2 : Around) (outer2 : List PySem.Env) (s2 : Shared) (H2 : Hp) (E2 : XK) (f c' : Addr) (hr : Room (16 * j + 14) (LamX.lamCx (XP prog w K mg base cdv A outer s H E) A2 outer2 s2 H2 E2 (lamTab 1).scope f c').A) (c : Ctx (LamX.lamCx (XP prog w K mg base cdv A outer s H E) A2 outer2 s2 H2 E2 (lamTab 1).scope f c') (pm0 K lm lq (cl K) (tabsF tf K)) (WI E2)) :
    DE (LamX.lamCx (XP prog w K mg base cdv A outer s H E) A2 outer2 s2 H2 E2 (lamTab 1).scope f c') (pm0 K lm lq (cl K) (tabsF tf K)) (WI E2) (lamTab 1).body (lf_plain (run j) 1) :=
  de_makeD (cn := 2) (T.mkr 25 rfl) (hA lm lq 0 (by decide)) (hr.mono (by omega)) c (by rfl) (T.glo 26 _ rfl) (bs_0_4 T).choose_spec.2 (bs_0_4 T).choose_spec.1 (fun _ _ _ => rep_dvs (K0 := K) (vs := [.int 0, .int 0]) (by decide)) (da_cons (de_str) (da_cons (de_int) (da_cons (de_int) (da_nil))))
theorem lam_2 (T : TX K mg base fdt) (hA : AllOk prog w K mg base fdt j) (lq : Str := qn "_law_plain" "<lambda>") (A2 : Around) (outer2 : List PySem.Env) (s2 : Shared) (H2 : Hp) (E2 : XK) (f c' : Addr) (hr : Room (16 * j + 14) (LamX.lamCx (XP prog w K mg base cdv A outer s H E) A2 outer2 s2 H2 E2 (lamTab 2).scope f c').A) (c : Ctx (LamX.lamCx (XP prog w K mg base cdv A outer s H E) A2 outer2 s2 H2 E2 (lamTab 2).scope f c') (pm0 K lm lq (cl K) (tabsF tf K)) (WI E2)) :
    DE (LamX.lamCx (XP prog w K mg base cdv A outer s H E) A2 outer2 s2 H2 E2 (lamTab 2).scope f c') (pm0 K lm lq (cl K) (tabsF tf K)) (WI E2) (lamTab 2).body (lf_plain (run j) 2) :=
  de_makeD (cn := 2) (T.mkr 25 rfl) (hA lm lq 0 (by decide)) (hr.mono (by omega)) c (by rfl) (T.glo 26 _ rfl) (bs_0_4 T).choose_spec.2 (bs_0_4 T).choose_spec.1 (fun _ _ _ => rep_dvs (K0 := K) (vs := [.int 0, .int 0]) (by decide)) (da_cons (de_str) (da_cons (de_int) (da_cons (de_int) (da_nil))))
theorem lam_3 (T : TX K mg base fdt) (hA : AllOk prog w K mg base fdt j) (lq : Str := qn "_law_plain" "<lambda>") (A2 : Around) (outer2 : List PySem.Env) (s2 : Shared) (H2 : Hp) (E2 : XK) (f c' : Addr) (hr : Room (16 * j + 14) (LamX.lamCx (XP prog w K mg base cdv A outer s H E) A2 outer2 s2 H2 E2 (lamTab 3).scope f c').A) (c : Ctx (LamX.lamCx (XP prog w K mg base cdv A outer s H E) A2 outer2 s2 H2 E2 (lamTab 3).scope f c') (pm0 K lm lq (cl K) (tabsF tf K)) (WI E2)) :
    DE (LamX.lamCx (XP prog w K mg base cdv A outer s H E) A2 outer2 s2 H2 E2 (lamTab 3).scope f c') (pm0 K lm lq (cl K) (tabsF tf K)) (WI E2) (lamTab 3).body (lf_plain (run j) 3) :=
  de_makeD (cn := 2) (T.mkr 25 rfl) (hA lm lq 0 (by decide)) (hr.mono (by omega)) c (by rfl) (T.glo 26 _ rfl) (bs_0_5 T).choose_spec.2 (bs_0_5 T).choose_spec.1 (fun _ _ _ => rep_dvs (K0 := K) (vs := [.int 0]) (by decide)) (da_cons (de_str) (da_cons (de_int) (da_cons (de_int) (da_cons (de_neg (de_int)) (da_nil)))))
theorem lam_4 (T : TX K mg base fdt) (hA : AllOk prog w K mg base fdt j) (lq : Str := qn "_law_plain" "<lambda>") (A2 : Around) (outer2 : List PySem.Env) (s2 : Shared) (H2 : Hp) (E2 : XK) (f c' : Addr) (hr : Room (16 * j + 14) (LamX.lamCx (XP prog w K mg base cdv A outer s H E) A2 outer2 s2 H2 E2 (lamTab 4).scope f c').A) (c : Ctx (LamX.lamCx (XP prog w K mg base cdv A outer s H E) A2 outer2 s2 H2 E2 (lamTab 4).scope f c') (pm0 K lm lq (cl K) (tabsF tf K)) (WI E2)) :
    DE (LamX.lamCx (XP prog w K mg base cdv A outer s H E) A2 outer2 s2 H2 E2 (lamTab 4).scope f c') (pm0 K lm lq (cl K) (tabsF tf K)) (WI E2) (lamTab 4).body (lf_plain (run j) 4) :=
  de_make (cn := 2) (T.mkr 25 rfl) (hA lm lq 0 (by decide)) (hr.mono (by omega)) c (by rfl) (T.glo 26 _ rfl) (bd_0 T) (da_cons (de_str) (da_cons (de_int) (da_cons (de_int) (da_cons (de_int) (da_cons (de_neg (de_int)) (da_nil))))))
theorem lam_5 (T : TX K mg base fdt) (hA : AllOk prog w K mg base fdt j) (lq : Str := qn "_law_plain" "<lambda>") (A2 : Around) (outer2 : List PySem.Env) (s2 : Shared) (H2 : Hp) (E2 : XK) (f c' : Addr) (hr : Room (16 * j + 14) (LamX.lamCx (XP prog w K mg base cdv A outer s H E) A2 outer2 s2 H2 E2 (lamTab 5).scope f c').A) (c : Ctx (LamX.lamCx (XP prog w K mg base cdv A outer s H E) A2 outer2 s2 H2 E2 (lamTab 5).scope f c') (pm0 K lm lq (cl K) (tabsF tf K)) (WI E2)) :
    DE (LamX.lamCx (XP prog w K mg base cdv A outer s H E) A2 outer2 s2 H2 E2 (lamTab 5).scope f c') (pm0 K lm lq (cl K) (tabsF tf K)) (WI E2) (lamTab 5).body (lf_plain (run j) 5) :=
  de_make (cn := 2) (T.mkr 25 rfl) (hA lm lq 0 (by decide)) (hr.mono (by omega)) c (by rfl) (T.glo 26 _ rfl) (bd_0 T) (da_cons (de_str) (da_cons (de_int) (da_cons (de_int) (da_cons (de_int) (da_cons (de_int) (da_nil))))))
theorem lam_6 (T : TX K mg base fdt) (hA : AllOk prog w K mg base fdt j) (lq : Str := qn "_law_plain" "<lambda>") (A2 : Around) (outer2 : List PySem.Env) (s2 : Shared) (H2 : Hp) (E2 : XK) (f c' : Addr) (hr : Room (16 * j + 14) (LamX.lamCx (XP prog w K mg base cdv A outer s H E) A2 outer2 s2 H2 E2 (lamTab 6).scope f c').A) (c : Ctx (LamX.lamCx (XP prog w K mg base cdv A outer s H E) A2 outer2 s2 H2 E2 (lamTab 6).scope f c') (pm0 K lm lq (cl K) (tabsF tf K)) (WI E2)) :
    DE (LamX.lamCx (XP prog w K mg base cdv A outer s H E) A2 outer2 s2 H2 E2 (lamTab 6).scope f c') (pm0 K lm lq (cl K) (tabsF tf K)) (WI E2) (lamTab 6).body (lf_plain (run j) 6) :=
  de_meth (cn := 2) (de_var (pv 0)) (T.cls 4 rfl) (T.meth 16 rfl) (hA lm lq 4 (by decide)) (hr.mono (by omega)) c (bd_4 T) (da_cons (de_var (pv 2)) (da_nil))
theorem lam_7 (T : TX K mg base fdt) (hA : AllOk prog w K mg base fdt j) (lq : Str := qn "_law_plain" "<lambda>") (A2 : Around) (outer2 : List PySem.Env) (s2 : Shared) (H2 : Hp) (E2 : XK) (f c' : Addr) (hr : Room (16 * j + 14) (LamX.lamCx (XP prog w K mg base cdv A outer s H E) A2 outer2 s2 H2 E2 (lamTab 7).scope f c').A) (c : Ctx (LamX.lamCx (XP prog w K mg base cdv A outer s H E) A2 outer2 s2 H2 E2 (lamTab 7).scope f c') (pm0 K lm lq (cl K) (tabsF tf K)) (WI E2)) :
    DE (LamX.lamCx (XP prog w K mg base cdv A outer s H E) A2 outer2 s2 H2 E2 (lamTab 7).scope f c') (pm0 K lm lq (cl K) (tabsF tf K)) (WI E2) (lamTab 7).body (lf_plain (run j) 7) :=
  de_meth (cn := 2) (de_var (pv 0)) (T.cls 4 rfl) (T.meth 41 rfl) (hA lm lq 5 (by decide)) (hr.mono (by omega)) c (bd_5 T) (da_cons (de_var (pv 2)) (da_cons (de_int) (da_nil)))
theorem lam_8 (T : TX K mg base fdt) (hA : AllOk prog w K mg base fdt j) (lq : Str := qn "_law_plain" "<lambda>") (A2 : Around) (outer2 : List PySem.Env) (s2 : Shared) (H2 : Hp) (E2 : XK) (f c' : Addr) (hr : Room (16 * j + 14) (LamX.lamCx (XP prog w K mg base cdv A outer s H E) A2 outer2 s2 H2 E2 (lamTab 8).scope f c').A) (c : Ctx (LamX.lamCx (XP prog w K mg base cdv A outer s H E) A2 outer2 s2 H2 E2 (lamTab 8).scope f c') (pm0 K lm lq (cl K) (tabsF tf K)) (WI E2)) :
    DE (LamX.lamCx (XP prog w K mg base cdv A outer s H E) A2 outer2 s2 H2 E2 (lamTab 8).scope f c') (pm0 K lm lq (cl K) (tabsF tf K)) (WI E2) (lamTab 8).body (lf_plain (run j) 8) :=
  de_fun (hA lm lq 7 (by decide)) (hr.mono (by omega)) c (by rfl) (T.glo 12 _ rfl) (T.kp 13 rfl) (bd_7 T) (da_cons (de_var (pv 2)) (da_nil))
theorem lam_9 (T : TX K mg base fdt) (hA : AllOk prog w K mg base fdt j) (lq : Str := qn "_law_plain" "<lambda>") (A2 : Around) (outer2 : List PySem.Env) (s2 : Shared) (H2 : Hp) (E2 : XK) (f c' : Addr) (hr : Room (16 * j + 14) (LamX.lamCx (XP prog w K mg base cdv A outer s H E) A2 outer2 s2 H2 E2 (lamTab 9).scope f c').A) (c : Ctx (LamX.lamCx (XP prog w K mg base cdv A outer s H E) A2 outer2 s2 H2 E2 (lamTab 9).scope f c') (pm0 K lm lq (cl K) (tabsF tf K)) (WI E2)) :
    DE (LamX.lamCx (XP prog w K mg base cdv A outer s H E) A2 outer2 s2 H2 E2 (lamTab 9).scope f c') (pm0 K lm lq (cl K) (tabsF tf K)) (WI E2) (lamTab 9).body (lf_plain (run j) 9) :=
  de_fun (hA lm lq 10 (by decide)) (hr.mono (by omega)) c (by rfl) (T.glo 44 _ rfl) (T.kp 45 rfl) (bd_10 T) (da_cons (de_var (pv 0)) (da_cons (de_var (pv 1)) (da_cons (de_int) (da_nil))))
theorem lam_10 (T : TX K mg base fdt) (hA : AllOk prog w K mg base fdt j) (lq : Str := qn "_law_plain" "<lambda>") (A2 : Around) (outer2 : List PySem.Env) (s2 : Shared) (H2 : Hp) (E2 : XK) (f c' : Addr) (hr : Room (16 * j + 14) (LamX.lamCx (XP prog w K mg base cdv A outer s H E) A2 outer2 s2 H2 E2 (lamTab 10).scope f c').A) (c : Ctx (LamX.lamCx (XP prog w K mg base cdv A outer s H E) A2 outer2 s2 H2 E2 (lamTab 10).scope f c') (pm0 K lm lq (cl K) (tabsF tf K)) (WI E2)) :
    DE (LamX.lamCx (XP prog w K mg base cdv A outer s H E) A2 outer2 s2 H2 E2 (lamTab 10).scope f c') (pm0 K lm lq (cl K) (tabsF tf K)) (WI E2) (lamTab 10).body (lf_plain (run j) 10) :=
  de_fun (hA lm lq 10 (by decide)) (hr.mono (by omega)) c (by rfl) (T.glo 44 _ rfl) (T.kp 45 rfl) (bd_10 T) (da_cons (de_var (pv 0)) (da_cons (de_var (pv 2)) (da_cons (de_int) (da_nil))))
theorem lam_11 (T : TX K mg base fdt) (hA : AllOk prog w K mg base fdt j) (lq : Str := qn "_law_plain" "<lambda>") (A2 : Around) (outer2 : List PySem.Env) (s2 : Shared) (H2 : Hp) (E2 : XK) (f c' : Addr) (hr : Room (16 * j + 14) (LamX.lamCx (XP prog w K mg base cdv A outer s H E) A2 outer2 s2 H2 E2 (lamTab 11).scope f c').A) (c : Ctx (LamX.lamCx (XP prog w K mg base cdv A outer s H E) A2 outer2 s2 H2 E2 (lamTab 11).scope f c') (pm0 K lm lq (cl K) (tabsF tf K)) (WI E2)) :
    DE (LamX.lamCx (XP prog w K mg base cdv A outer s H E) A2 outer2 s2 H2 E2 (lamTab 11).scope f c') (pm0 K lm lq (cl K) (tabsF tf K)) (WI E2) (lamTab 11).body (lf_plain (run j) 11) :=
  de_fun (hA lm lq 11 (by decide)) (hr.mono (by omega)) c (by rfl) (T.glo 46 _ rfl) (T.kp 47 rfl) (bd_11 T) (da_cons (de_tup (da_nil)) (da_cons (de_str) (da_cons (de_int) (da_nil))))
theorem lam_12 (T : TX K mg base fdt) (hA : AllOk prog w K mg base fdt j) (lq : Str := qn "_law_plain" "<lambda>") (A2 : Around) (outer2 : List PySem.Env) (s2 : Shared) (H2 : Hp) (E2 : XK) (f c' : Addr) (hr : Room (16 * j + 14) (LamX.lamCx (XP prog w K mg base cdv A outer s H E) A2 outer2 s2 H2 E2 (lamTab 12).scope f c').A) (c : Ctx (LamX.lamCx (XP prog w K mg base cdv A outer s H E) A2 outer2 s2 H2 E2 (lamTab 12).scope f c') (pm0 K lm lq (cl K) (tabsF tf K)) (WI E2)) :
    DE (LamX.lamCx (XP prog w K mg base cdv A outer s H E) A2 outer2 s2 H2 E2 (lamTab 12).scope f c') (pm0 K lm lq (cl K) (tabsF tf K)) (WI E2) (lamTab 12).body (lf_plain (run j) 12) :=
  de_fun (hA lm lq 11 (by decide)) (hr.mono (by omega)) c (by rfl) (T.glo 46 _ rfl) (T.kp 47 rfl) (bd_11 T) (da_cons (de_var (pv 1)) (da_cons (de_str) (da_cons (de_int) (da_nil))))
theorem lam_13 (T : TX K mg base fdt) (hA : AllOk prog w K mg base fdt j) (lq : Str := qn "_law_plain" "<lambda>") (A2 : Around) (outer2 : List PySem.Env) (s2 : Shared) (H2 : Hp) (E2 : XK) (f c' : Addr) (hr : Room (16 * j + 14) (LamX.lamCx (XP prog w K mg base cdv A outer s H E) A2 outer2 s2 H2 E2 (lamTab 13).scope f c').A) (c : Ctx (LamX.lamCx (XP prog w K mg base cdv A outer s H E) A2 outer2 s2 H2 E2 (lamTab 13).scope f c') (pm0 K lm lq (cl K) (tabsF tf K)) (WI E2)) :
    DE (LamX.lamCx (XP prog w K mg base cdv A outer s H E) A2 outer2 s2 H2 E2 (lamTab 13).scope f c') (pm0 K lm lq (cl K) (tabsF tf K)) (WI E2) (lamTab 13).body (lf_plain (run j) 13) :=
  de_fun (hA lm lq 11 (by decide)) (hr.mono (by omega)) c (by rfl) (T.glo 46 _ rfl) (T.kp 47 rfl) (bd_11 T) (da_cons (de_var (pv 1)) (da_cons (de_str) (da_cons (de_neg (de_int)) (da_nil))))
theorem lam_14 (T : TX K mg base fdt) (hA : AllOk prog w K mg base fdt j) (lq : Str := qn "_law_plain" "<lambda>") (A2 : Around) (outer2 : List PySem.Env) (s2 : Shared) (H2 : Hp) (E2 : XK) (f c' : Addr) (hr : Room (16 * j + 14) (LamX.lamCx (XP prog w K mg base cdv A outer s H E) A2 outer2 s2 H2 E2 (lamTab 14).scope f c').A) (c : Ctx (LamX.lamCx (XP prog w K mg base cdv A outer s H E) A2 outer2 s2 H2 E2 (lamTab 14).scope f c') (pm0 K lm lq (cl K) (tabsF tf K)) (WI E2)) :
    DE (LamX.lamCx (XP prog w K mg base cdv A outer s H E) A2 outer2 s2 H2 E2 (lamTab 14).scope f c') (pm0 K lm lq (cl K) (tabsF tf K)) (WI E2) (lamTab 14).body (lf_plain (run j) 14) :=
  de_fun (hA lm lq 12 (by decide)) (hr.mono (by omega)) c (by rfl) (T.glo 48 _ rfl) (T.kp 49 rfl) (bd_12 T) (da_cons (de_tup (da_cons (de_var (pv 0)) (da_nil))) (da_cons (de_var (pv 2)) (da_nil)))
theorem lam_all (T : TX K mg base fdt) (hA : AllOk prog w K mg base fdt j) (lq : Str) : ∀ n, n < 15 → ∀ (A2 : Around) (outer2 : List PySem.Env) (s2 : Shared) (H2 : Hp) (E2 : XK) (f c' : Addr), Room (16 * j + 14) (LamX.lamCx (XP prog w K mg base cdv A outer s H E) A2 outer2 s2 H2 E2 (lamTab n).scope f c').A → Ctx (LamX.lamCx (XP prog w K mg base cdv A outer s H E) A2 outer2 s2 H2 E2 (lamTab n).scope f c') (pm0 K lm lq (cl K) (tabsF tf K)) (WI E2) →
    DE (LamX.lamCx (XP prog w K mg base cdv A outer s H E) A2 outer2 s2 H2 E2 (lamTab n).scope f c') (pm0 K lm lq (cl K) (tabsF tf K)) (WI E2) (lamTab n).body (lf_plain (run j) n)
  | 0, _ => fun A2 outer2 s2 H2 E2 f c' hr c => lam_0 T hA lq A2 outer2 s2 H2 E2 f c' hr c
  | 1, _ => fun A2 outer2 s2 H2 E2 f c' hr c => lam_1 T hA lq A2 outer2 s2 H2 E2 f c' hr c
  | 2, _ => fun A2 outer2 s2 H2 E2 f c' hr c => lam_2 T hA lq A2 outer2 s2 H2 E2 f c' hr c
  | 3, _ => fun A2 outer2 s2 H2 E2 f c' hr c => lam_3 T hA lq A2 outer2 s2 H2 E2 f c' hr c
  | 4, _ => fun A2 outer2 s2 H2 E2 f c' hr c => lam_4 T hA lq A2 outer2 s2 H2 E2 f c' hr c
  | 5, _ => fun A2 outer2 s2 H2 E2 f c' hr c => lam_5 T hA lq A2 outer2 s2 H2 E2 f c' hr c
  | 6, _ => fun A2 outer2 s2 H2 E2 f c' hr c => lam_6 T hA lq A2 outer2 s2 H2 E2 f c' hr c
  | 7, _ => fun A2 outer2 s2 H2 E2 f c' hr c => lam_7 T hA lq A2 outer2 s2 H2 E2 f c' hr c
  | 8, _ => fun A2 outer2 s2 H2 E2 f c' hr c => lam_8 T hA lq A2 outer2 s2 H2 E2 f c' hr c
  | 9, _ => fun A2 outer2 s2 H2 E2 f c' hr c => lam_9 T hA lq A2 outer2 s2 H2 E2 f c' hr c
  | 10, _ => fun A2 outer2 s2 H2 E2 f c' hr c => lam_10 T hA lq A2 outer2 s2 H2 E2 f c' hr c
  | 11, _ => fun A2 outer2 s2 H2 E2 f c' hr c => lam_11 T hA lq A2 outer2 s2 H2 E2 f c' hr c
  | 12, _ => fun A2 outer2 s2 H2 E2 f c' hr c => lam_12 T hA lq A2 outer2 s2 H2 E2 f c' hr c
  | 13, _ => fun A2 outer2 s2 H2 E2 f c' hr c => lam_13 T hA lq A2 outer2 s2 H2 E2 f c' hr c
  | 14, _ => fun A2 outer2 s2 H2 E2 f c' hr c => lam_14 T hA lq A2 outer2 s2 H2 E2 f c' hr c
  | n + 15, h => absurd h (by omega)
theorem told_plain {pins : List (Addr × Obj)} {σ : L2.St} {env0 : Env} {s2 : Shared} {H2 : Hp} {C : Addr} {clo : List (Str × Addr)} {fp : List Addr} {scope : Scope} {p pf pos : Pos} {W : WXT} {lm : Nat → Addr → Addr → Heap → Prop} {lq : Str} (T : TX K mg base fdt) (hA : AllOk prog w K mg base fdt j)
    (c : Ctx (XP prog w K mg base cdv A outer s H E) (pm0 K lm lq (cl K) (tabsF tf K)) W) (hL : LamsOf (XP prog w K mg base cdv A outer s H E) (pm0 K lm lq (cl K) (tabsF tf K)) lamTab (He.cT K (("_law_plain" : Str), (none : Option Str))).1 (He.cT K (("_law_plain" : Str), (none : Option Str))).2) (hr : Room (16 * j + 16) (XP prog w K mg base cdv A outer s H E).A) (hcd : cdv = .ref (He.cT K (("_law_plain" : Str), (none : Option Str))).1)
    (hX : ∀ (pins' : List (Addr × Obj)) (σ' : L2.St) (H' : Hp) (s' : Shared), L2.Inv ((XP prog w K mg base cdv A outer s H E).blk s2 H2 scope (compEnvC scope clo C (XP prog w K mg base cdv A outer s H E).env) fp) pins' σ' H' s' → L2.Inv (XP prog w K mg base cdv A outer s H E) pins σ H' s')
    (hg : Gl ((XP prog w K mg base cdv A outer s H E).blk s2 H2 scope (compEnvC scope clo C (XP prog w K mg base cdv A outer s H E).env) fp) "_law_told" := by rfl)
    (hj : PE ((XP prog w K mg base cdv A outer s H E).blk s2 H2 scope (compEnvC scope clo C (XP prog w K mg base cdv A outer s H E).env) fp) (.Name "f" pf) (tVar 5) := by exact pv 5)
    : PE ((XP prog w K mg base cdv A outer s H E).blk s2 H2 scope (compEnvC scope clo C (XP prog w K mg base cdv A outer s H E).env) fp) (.Call (.Name "_law_told" p) [.Name "f" pf] [] pos) (tToldV (pm0 K lm lq (cl K) (tabsF tf K)) 5 σ env0 [1] "ThresholdError" 15 (lf_plain (run j))) := by
  have F := fn_16 T
  have B := bd_16 T
  obtain ⟨oc, od, kV, doc, pm, an, cdv', ct, osl, e, lk, hcg⟩ := F.ex
  rw [e] at lk B
  refine pe_toldV (k := 16 * j + 14) (CS := He.ga K "ThresholdError") (Ng := ["what"]) c hL ⟨rfl, rfl, rfl, rfl, rfl, rfl, rfl, rfl⟩ hX hg (T.glo 61 _ rfl) F.kp lk hcg B sc_16 rfl (Or.inl rfl) ?_ (cau_cons (T.exm 50 rfl) (cau_nil)) (by decide +kernel) hr ?_ ?_ (lam_all T hA lq) hj
  · exact LamX.told_gives (by rfl) (T.glo 3 _ rfl) (by decide) (fun _ => rfl)
  · intro n hn
    exact LamX.lamS_by (List.all_eq_true.mp lams_ok n (List.mem_range.mpr hn))
  · intro n hn q cl pm cv ctv
    revert n
    intro n hn
    match n, hn with
    | 0, _ => rfl
    | 1, _ => rfl
    | 2, _ => rfl
    | 3, _ => rfl
    | 4, _ => rfl
    | 5, _ => rfl
    | 6, _ => rfl
    | 7, _ => rfl
    | 8, _ => rfl
    | 9, _ => rfl
    | 10, _ => rfl
    | 11, _ => rfl
    | 12, _ => rfl
    | 13, _ => rfl
    | 14, _ => rfl
    | n + 15, h => exact absurd h (by omega)
theorem body_22 (T : TX K mg base fdt) (hA : AllOk prog w K mg base fdt j) (c : Ctx (XP prog w K mg base cdv A outer s H E) (pm0 K lm lq (cl K) (tabsF tf K)) (WI E)) (hL : LamsOf (XP prog w K mg base cdv A outer s H E) (pm0 K lm lq (cl K) (tabsF tf K)) lamTab (He.cT K (("_law_plain" : Str), (none : Option Str))).1 (He.cT K (("_law_plain" : Str), (none : Option Str))).2) (hr : Room (16 * j + 16) (XP prog w K mg base cdv A outer s H E).A) (hcd : cdv = .ref (He.cT K (("_law_plain" : Str), (none : Option Str))).1) (hp : PassesOwn (model prog w) (XP prog w K mg base cdv A outer s H E).A (XP prog w K mg base cdv A outer s H E).env (XP prog w K mg base cdv A outer s H E).xe) :
    DSs (XP prog w K mg base cdv A outer s H E) (pm0 K lm lq (cl K) (tabsF tf K)) (WI E) (defBody d_22) (b_22 (run j)) :=
  dss_cons (ds_asg (de_tup (da_cons (de_fun (hA lm lq 8 (by decide)) (hr.mono (by omega)) c (by rfl) (T.glo 39 _ rfl) (T.kp 40 rfl) (bd_8 T) (da_cons (de_str) (da_nil))) (da_cons (de_tup (da_cons (de_tup (da_cons (de_int) (da_cons (de_int) (da_nil)))) (da_cons (de_tup (da_cons (de_int) (da_cons (de_int) (da_nil)))) (da_cons (de_tup (da_cons (de_int) (da_cons (de_int) (da_nil)))) (da_cons (de_tup (da_cons (de_int) (da_cons (de_int) (da_nil)))) (da_cons (de_tup (da_cons (de_int) (da_cons (de_int) (da_nil)))) (da_cons (de_tup (da_cons (de_int) (da_cons (de_int) (da_nil)))) (da_cons (de_tup (da_cons (de_int) (da_cons (de_int) (da_nil)))) (da_nil))))))))) (da_nil)))) (dp_tup (n := 2) c (dps_cons (dp_name (pg_name c.nd rfl (by first | exact Or.inl rfl | exact Or.inr rfl))) (dps_cons (dp_name (pg_name c.nd rfl (by first | exact Or.inl rfl | exact Or.inr rfl))) (dps_nil))))) (
    dss_cons (ds_set (i := 2) c (by rfl) (by first | exact Or.inl rfl | exact Or.inr rfl) (de_tup (da_cons (de_tup (da_cons (de_int) (da_cons (de_int) (da_nil)))) (da_cons (de_tup (da_cons (de_int) (da_cons (de_int) (da_nil)))) (da_nil))))) (
    dss_cons (ds_set (i := 3) c (by rfl) (by first | exact Or.inl rfl | exact Or.inr rfl) (de_lst (da_cons (de_meth (cn := 2) (de_var (pv 0)) (T.cls 4 rfl) (T.meth 16 rfl) (hA lm lq 4 (by decide)) (hr.mono (by omega)) c (bd_4 T) (da_cons (de_var (pv 1)) (da_nil))) (da_cons (de_meth (cn := 2) (de_var (pv 0)) (T.cls 4 rfl) (T.meth 41 rfl) (hA lm lq 5 (by decide)) (hr.mono (by omega)) c (bd_5 T) (da_cons (de_var (pv 1)) (da_cons (de_int) (da_nil)))) (da_cons (de_meth (cn := 2) (de_var (pv 0)) (T.cls 4 rfl) (T.meth 41 rfl) (hA lm lq 5 (by decide)) (hr.mono (by omega)) c (bd_5 T) (da_cons (de_var (pv 1)) (da_cons (de_int) (da_nil)))) (da_cons (de_meth0 (cn := 2) (de_var (pv 0)) (T.cls 4 rfl) (T.meth 42 rfl) (hA lm lq 6 (by decide)) (hr.mono (by omega)) c (bd_6 T)) (da_cons (de_meth (cn := 2) (de_var (pv 0)) (T.cls 4 rfl) (T.meth 43 rfl) (hA lm lq 3 (by decide)) (hr.mono (by omega)) c (bd_3 T) (da_cons (de_int) (da_nil))) (da_nil)))))))) (
    dss_cons (ds_set (i := 3) c (by rfl) (by first | exact Or.inl rfl | exact Or.inr rfl) (de_bin (do_add c) (de_var (pv 3)) (de_lst (da_cons (de_meth (cn := 2) (de_fun (hA lm lq 8 (by decide)) (hr.mono (by omega)) c (by rfl) (T.glo 39 _ rfl) (T.kp 40 rfl) (bd_8 T) (da_cons (de_str) (da_nil))) (T.cls 4 rfl) (T.meth 10 rfl) (hA lm lq 1 (by decide)) (hr.mono (by omega)) c (bd_1 T) (da_cons (de_int) (da_nil))) (da_cons (de_fun (hA lm lq 10 (by decide)) (hr.mono (by omega)) c (by rfl) (T.glo 44 _ rfl) (T.kp 45 rfl) (bd_10 T) (da_cons (de_var (pv 0)) (da_cons (de_var (pv 1)) (da_cons (de_int) (da_nil))))) (da_cons (de_fun (hA lm lq 11 (by decide)) (hr.mono (by omega)) c (by rfl) (T.glo 46 _ rfl) (T.kp 47 rfl) (bd_11 T) (da_cons (de_var (pv 1)) (da_cons (de_str) (da_cons (de_int) (da_nil))))) (da_cons (de_fun (hA lm lq 11 (by decide)) (hr.mono (by omega)) c (by rfl) (T.glo 46 _ rfl) (T.kp 47 rfl) (bd_11 T) (da_cons (de_var (pv 1)) (da_cons (de_str) (da_cons (de_int) (da_nil))))) (da_nil)))))))) (
    dss_cons (ds_set (i := 3) c (by rfl) (by first | exact Or.inl rfl | exact Or.inr rfl) (de_bin (do_add c) (de_var (pv 3)) (de_lst (da_cons (de_fun (hA lm lq 12 (by decide)) (hr.mono (by omega)) c (by rfl) (T.glo 48 _ rfl) (T.kp 49 rfl) (bd_12 T) (da_cons (de_tup (da_cons (de_var (pv 0)) (da_cons (de_fun (hA lm lq 8 (by decide)) (hr.mono (by omega)) c (by rfl) (T.glo 39 _ rfl) (T.kp 40 rfl) (bd_8 T) (da_cons (de_str) (da_nil))) (da_nil)))) (da_cons (de_var (pv 1)) (da_nil)))) (da_cons (de_meth (cn := 2) (de_fun (hA lm lq 8 (by decide)) (hr.mono (by omega)) c (by rfl) (T.glo 39 _ rfl) (T.kp 40 rfl) (bd_8 T) (da_cons (de_str) (da_nil))) (T.cls 4 rfl) (T.meth 14 rfl) (hA lm lq 2 (by decide)) (hr.mono (by omega)) c (bd_2 T) (da_cons (de_int) (da_nil))) (da_cons (de_fun (hA lm lq 7 (by decide)) (hr.mono (by omega)) c (by rfl) (T.glo 12 _ rfl) (T.kp 13 rfl) (bd_7 T) (da_cons (de_var (pv 1)) (da_nil))) (da_cons (de_fun (hA lm lq 9 (by decide)) (hr.mono (by omega)) c (by rfl) (T.glo 21 _ rfl) (T.kp 22 rfl) (bd_9 T) (da_cons (de_str) (da_nil))) (da_nil)))))))) (
    dss_cons (ds_set (i := 3) c (by rfl) (by first | exact Or.inl rfl | exact Or.inr rfl) (de_bin (do_add c) (de_var (pv 3)) (de_lst (da_cons (de_fun (hA lm lq 9 (by decide)) (hr.mono (by omega)) c (by rfl) (T.glo 21 _ rfl) (T.kp 22 rfl) (bd_9 T) (da_cons (de_str) (da_nil))) (da_nil))))) (
    dss_cons (ds_set (i := 4) c (by rfl) (by first | exact Or.inl rfl | exact Or.inr rfl) (de_lst (da_cons (de_lamV (k := 0) c hL (LamX.lamS_by (by kernel_rfl))) (da_cons (de_lamV (k := 1) c hL (LamX.lamS_by (by kernel_rfl))) (da_cons (de_lamV (k := 2) c hL (LamX.lamS_by (by kernel_rfl))) (da_cons (de_lamV (k := 3) c hL (LamX.lamS_by (by kernel_rfl))) (da_nil))))))) (
    dss_cons (ds_set (i := 4) c (by rfl) (by first | exact Or.inl rfl | exact Or.inr rfl) (de_bin (do_add c) (de_var (pv 4)) (de_lst (da_cons (de_lamV (k := 4) c hL (LamX.lamS_by (by kernel_rfl))) (da_cons (de_lamV (k := 5) c hL (LamX.lamS_by (by kernel_rfl))) (da_cons (de_lamV (k := 6) c hL (LamX.lamS_by (by kernel_rfl))) (da_nil))))))) (
    dss_cons (ds_set (i := 4) c (by rfl) (by first | exact Or.inl rfl | exact Or.inr rfl) (de_bin (do_add c) (de_var (pv 4)) (de_lst (da_cons (de_lamV (k := 7) c hL (LamX.lamS_by (by kernel_rfl))) (da_cons (de_lamV (k := 8) c hL (LamX.lamS_by (by kernel_rfl))) (da_cons (de_lamV (k := 9) c hL (LamX.lamS_by (by kernel_rfl))) (da_cons (de_lamV (k := 10) c hL (LamX.lamS_by (by kernel_rfl))) (da_nil)))))))) (
    dss_cons (ds_set (i := 4) c (by rfl) (by first | exact Or.inl rfl | exact Or.inr rfl) (de_bin (do_add c) (de_var (pv 4)) (de_lst (da_cons (de_lamV (k := 11) c hL (LamX.lamS_by (by kernel_rfl))) (da_cons (de_lamV (k := 12) c hL (LamX.lamS_by (by kernel_rfl))) (da_cons (de_lamV (k := 13) c hL (LamX.lamS_by (by kernel_rfl))) (da_cons (de_lamV (k := 14) c hL (LamX.lamS_by (by kernel_rfl))) (da_nil)))))))) (
    dss_cons (ds_if (dt_cmp (do_ne c) (pe_bad (own := [(("f" : Str), 5)]) (nl := 15) (j := 5) (lf := lf_plain (run j)) (r := "ThresholdError") (cs := [1]) c (di_seq c (de_var (pv 4))) (blkOk_by (by kernel_rfl)) (by decide) (by show (5 : Nat) < 6; decide) (by decide +kernel) (fun s H C cl fp c => dp_name (pg_name c.nd rfl (by first | exact Or.inl rfl | exact Or.inr rfl))) (fun pins σ env0 s H C cl fp cB hX => pts_told (told_plain T hA c hL hr hcd hX))) (de_lst (da_nil))) (dss_one (ds_ret (de_bl))) (dss_nil)) (
    dss_cons (ds_if (dt_cmp (do_ne c) (de_gtup c (by rfl) (T.glo 0 _ rfl) (T.tup 0 _ rfl)) (de_tup (da_cons (de_str) (da_cons (de_str) (da_cons (de_str) (da_nil)))))) (dss_one (ds_ret (de_bl))) (dss_nil)) (
    dss_one (ds_ret (de_cmp (do_eq c) (de_var (pv 3)) (de_lst (da_cons (de_tup (da_cons (de_tup (da_cons (de_int) (da_cons (de_int) (da_cons (de_int) (da_nil))))) (da_cons (de_tup (da_cons (de_int) (da_cons (de_non) (da_cons (de_int) (da_nil))))) (da_nil)))) (da_cons (de_str) (da_cons (de_str) (da_cons (de_str) (da_cons (de_int) (da_cons (de_bl) (da_cons (de_int) (da_cons (de_int) (da_cons (de_int) (da_cons (de_tup (da_cons (de_int) (da_cons (de_int) (da_nil)))) (da_cons (de_bl) (da_cons (de_non) (da_cons (de_bl) (da_cons (de_bl) (da_nil))))))))))))))))))))))))))))))
end
theorem ok_22 (T : TX K mg base fdt) (hA : AllOk prog w K mg base fdt j) (hrun : saysB true (b_22 (run j) (startE 6 []) []) = true) : FnOk prog w K mg base (L2.CX prog w) (16 * j + 16 + 1) (He.fAd K (("_law_plain" : Str), (none : Option Str))) (fdt 22) [] (spD (pm0 K lm lq (cl K) (tabsF tf K)) (fun _ h => .ok (.bl true) h) 0) := by
  refine fn_plain (tab := lamTab) (fn_22 T) sc_22 rfl hrun fun cdv A outer s H E P' hci hcv hr hP c hp => ?_
  subst hP
  have hcd := fun_code (fn_22 T) hcv
  have hL : LamsOf (XP prog w K mg base cdv A outer s H E) (pm0 K (lmOf (XP prog w K mg base cdv A outer s H E) lamTab) ((envOfC "_law_plain" (defScope d_22) 0 0 .none).qual ++ "<lambda>") (cl K) (tabsF tf K)) lamTab (He.cT K (("_law_plain" : Str), (none : Option Str))).1 (He.cT K (("_law_plain" : Str), (none : Option Str))).2 := ⟨rfl, rfl, T.tabL 5 rfl, hcd, tabsF_mem (i := 5) (p := ((("_law_plain" : Str), (none : Option Str)), qn "_law_plain" "<lambda>")) rfl, T.tabU 5 rfl⟩
  exact body_22 T hA c hL hr hcd hp
theorem all_ok (T : TX K mg base fdt) : ∀ j, AllOk prog w K mg base fdt j
  | 0 => fun lm lq i hi => fn_bad
  | j + 1 => fun lm lq i hi => match i, hi with
    | 0, _ => ok_0 T (all_ok T j)
    | 1, _ => ok_1 T (all_ok T j)
    | 2, _ => ok_2 T (all_ok T j)
    | 3, _ => ok_3 T (all_ok T j)
    | 4, _ => ok_4 T (all_ok T j)
    | 5, _ => ok_5 T (all_ok T j)
    | 6, _ => ok_6 T (all_ok T j)
    | 7, _ => ok_7 T (all_ok T j)
    | 8, _ => ok_8 T (all_ok T j)
    | 9, _ => ok_9 T (all_ok T j)
    | 10, _ => ok_10 T (all_ok T j)
    | 11, _ => ok_11 T (all_ok T j)
    | 12, _ => ok_12 T (all_ok T j)
    | 13, _ => ok_13 T (all_ok T j)
    | 14, _ => ok_14 T (all_ok T j)
    | 15, _ => ok_15 T (all_ok T j)
    | 16, _ => fn_bad
    | 17, _ => ok_17 T (all_ok T j)
    | 18, _ => ok_18 T (all_ok T j)
    | 19, _ => ok_19 T (all_ok T j)
    | 20, _ => ok_20 T (all_ok T j)
    | 21, _ => ok_21 T (all_ok T j)
    | 22, _ => fn_if fun h => ok_22 T (all_ok T j) h
    | 23, _ => ok_23 T (all_ok T j)
    | n + 24, h => absurd h (by omega)
end
abbrev R : PySem.W.OpenRow := PySem.W.OpenLaw.row PySem.Challenge.rw_alertstack_k02_thresholds_that_fire
set_option maxHeartbeats 0 in
theorem head (w : World) : HandSHeadRun.RunEq R (PySem.W.view R.prog [23]) (hk fa fn tf gt) (obH fa fn tf gt) 6000 ["__name__", "AlertFault", "ThresholdError", "KINDS_OF_THRESHOLD", "Threshold", "check_rising", "read_threshold", "is_number", "minutes_fired", "bound_for", "first_of", "_law_dice", "_law_roll", "_law_rounds", "_law_told", "_law_row", "_law_bad", "_law_clear", "_law_runs", "_law_text", "_law_plain"] w := by
  intro os
  kernel_rfl
end PyD.K02

namespace PyD.K02
open PySem PySem.Spec L2 PyD
open PyProof.Rows hiding St
theorem law_at0 {w : World} {h : Heap} {mg : Str → Option Value} {fadr : Addr} (Y : (hk fa fn tf gt).says w h) (G : h.Ns mainGlobals mg) (hm : mg ("law" : Str) = some (.ref fadr)) (plain : ∀ ns : List Int, ns.length ≤ 63 → (∀ z ∈ ns, Builtin.Int.intBits z ≤ 1048576) → ∃ h, run 12 23 [.scr ns] [] = .ok (.bl true) h) :
    ∃ K : PySem.W.Frag, K.In h ∧ LamX.LawAtS PySem.Challenge.rw_alertstack_k02_thresholds_that_fire w K (L2.CX PySem.Challenge.rw_alertstack_k02_thresholds_that_fire.prog w) (16 * 12 + 1) 63 "script" mg fadr h := by
  refine law_at (i := 23) (fn := fn) (fa := fa) (tf := tf) (gt := gt) (cl := cl) (run := run 12 23) rfl rfl ⟨rfl, rfl⟩ ?_ Y G hm ⟨65, rfl⟩ ?_ plain
  · intro s u fd K F
    obtain ⟨oc, od, dV, kV, doc, pm, an, cdv, ct, osl, e, lk, hcd, hd, hk⟩ := F.ex
    have hd' : dV = .none := by
      rcases hd with ⟨_, z⟩ | ⟨z, _⟩
      · exact z
      · exact absurd rfl z
    subst hd'
    subst e
    exact .of_eq rfl
  · intro K base fdt lm lq T
    exact all_ok T 12 lm lq 23 (by decide)
end PyD.K02
open PySem PySem.W PySem.Calls PyProof.Rows
set_option maxHeartbeats 0 in
theorem PySem.Challenge.cw_alertstack_k02_thresholds_that_fire_holds : PySem.Challenge.rw_alertstack_k02_thresholds_that_fire.Holds := by
  w_on; o_law
  refine HandSHeadRun.head_any (r := OpenLaw.row PySem.Challenge.rw_alertstack_k02_thresholds_that_fire) (q := view (OpenLaw.row PySem.Challenge.rw_alertstack_k02_thresholds_that_fire).prog [23]) (H := PyD.hk PyD.K02.fa PyD.K02.fn PyD.K02.tf PyD.K02.gt) (ob := PyD.obH PyD.K02.fa PyD.K02.fn PyD.K02.tf PyD.K02.gt) (M := 6000) (loose := ["__name__", "AlertFault", "ThresholdError", "KINDS_OF_THRESHOLD", "Threshold", "check_rising", "read_threshold", "is_number", "minutes_fired", "bound_for", "first_of", "_law_dice", "_law_roll", "_law_rounds", "_law_told", "_law_row", "_law_bad", "_law_clear", "_law_runs", "_law_text", "_law_plain"]) (d := HandSHeadRun.topDef (OpenLaw.row PySem.Challenge.rw_alertstack_k02_thresholds_that_fire).prog 23) (kwd := []) (fun s => PyD.obH_eq s)
    (by kernel_rfl) (fun s => by kernel_rfl) PyD.K02.head (by kernel_rfl) (by kernel_rfl) (by kernel_rfl) (by rfl) (by first | assumption | decide +kernel) (by decide +kernel) ⟨rfl, rfl, rfl, rfl, rfl, by decide +kernel⟩ ?hw ?hc
  case hw => w_witness2
  case hc =>
    refine LamX.walk_ofTsE (l := PySem.Challenge.rw_alertstack_k02_thresholds_that_fire) (n := 63) (k := 16 * 12 + 1) (x := "script") (CX := fun w => L2.CX PySem.Challenge.rw_alertstack_k02_thresholds_that_fire.prog w) rfl (by decide) (by kernel_rfl) ⟨rfl, by decide, by decide⟩ ?F (fun w H s e s' z => PyD.cx_false z)
    intro w mg fa h Y G hmg0
    have hmg : mg ("law" : PySem.Str) = some (.ref fa) := by
      have e : (HandSHeadRun.topDef (OpenLaw.row PySem.Challenge.rw_alertstack_k02_thresholds_that_fire).prog 23).name = ("law" : PySem.Str) := by kernel_rfl
      rw [← e]
      exact hmg0
    exact PyD.K02.law_at0 Y G hmg PyD.K02.law_true
