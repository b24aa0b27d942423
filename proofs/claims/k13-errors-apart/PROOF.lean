import PyProof.Rows.All
import Wide.All
import OpenK.AllK
import Wide.FinOn
import HandS.ForMost
import HandS.ForExc
import HandS.DictComp
import HandS.More
import KE.KDictKeyed
import KE.KeyNested
import HandS.TupAny
import HandS.TupMul
import HandS.DeepEq
import HandS.Deep
import HandS.IsInst
import HandS.Star
import HandS.Small
import HandS.Property
import HandS.WordsExc
import KE.GoesNew
import KE.GoesEnum
import KE.GoesMore
import KE.KDictWalk
import KE.GoesDict
import KE.GoesNewDict
import HandS.ExcInit
import HandS.ExcSuper
import HandS.Nested
import HandS.FStr
import KE.KExcSuper
import HandS.ExcIs
import HandS.ExcField
import KE.KExcIs
import HandS.StrSplit
import HandS.HeadEnd
import HandS.Head2
import HandS.HeadHook3
import Wide.Once
import PySem.Challenge.RW_alarmletters_k13_errors_apart
set_option Elab.async false
set_option linter.all false
set_option maxRecDepth 100000
set_option maxHeartbeats 2000000
/-! DlA: data with tuples and finished lists by value, mutable cells by address; the relation to HandS' abstract heap; expressions' judgement DE. -/
namespace DL
open PySem PySem.Spec PyProof.Rows L2

/-- data: a tuple, a finished list, a finished dict by value; ref: a mutable object -/
inductive D where
  | non | bl (b : Bool) | int (i : Int) | str (x : Str) | tup (xs : List D) | lst (xs : List D) | dic (ks vs : List D) | ref (a : Addr)

/-- the key that a datum is -/
def kD : Key → D
  | .inl i => .int i
  | .inr x => .str x
mutual
def nk : D → Option NestedKey
  | .non => some NestedKey.none
  | .bl b => some (NestedKey.num (if b = true then 1 else 0))
  | .int i => some (NestedKey.num i)
  | .str x => some (NestedKey.text x)
  | .tup xs => (nks xs).map NestedKey.tup
  | .lst _ => none
  | .dic _ _ => none
  | .ref _ => none
def nks : List D → Option (List NestedKey)
  | [] => some []
  | d :: ds => match nk d, nks ds with
    | some k, some ks => some (k :: ks)
    | _, _ => none
end

/-- a mutable object -/
inductive Cell where
  | lst (xs : List D) | dic (ks vs : List D) | ins (c : Addr) (fs : List (Str × D))
abbrev Cs := Addr → Option Cell
def cupd (C : Cs) (a : Addr) (c : Cell) : Cs := fun b => if b = a then some c else C b
def cdel (C : Cs) (a : Addr) : Cs := fun b => if b = a then none else C b
theorem cupd_same {C : Cs} {a : Addr} {c : Cell} : cupd C a c a = some c := by unfold cupd; rw [if_pos rfl]
theorem cupd_ne {C : Cs} {a b : Addr} {c : Cell} (h : b ≠ a) : cupd C a c b = C b := by unfold cupd; rw [if_neg h]
theorem cdel_same {C : Cs} {a : Addr} : cdel C a a = none := by unfold cdel; rw [if_pos rfl]
theorem cdel_ne {C : Cs} {a b : Addr} (h : b ≠ a) : cdel C a b = C b := by unfold cdel; rw [if_neg h]
theorem cdel_cupd {C : Cs} {a : Addr} {c : Cell} (h : C a = none) : cdel (cupd C a c) a = C := by
  funext b; unfold cdel cupd; by_cases e : b = a
  · subst e; rw [if_pos rfl, h]
  · rw [if_neg e, if_neg e]
theorem cupd_cupd {C : Cs} {a : Addr} {c c' : Cell} : cupd (cupd C a c) a c' = cupd C a c' := by
  funext b; unfold cupd; by_cases e : b = a
  · rw [if_pos e, if_pos e]
  · rw [if_neg e, if_neg e, if_neg e]
theorem cupd_id {C : Cs} {a : Addr} {c : Cell} (h : C a = some c) : cupd C a c = C := by
  funext b; unfold cupd; by_cases e : b = a
  · subst e; rw [if_pos rfl, h]
  · rw [if_neg e]
theorem cupd_comm {C : Cs} {a b : Addr} {c c' : Cell} (h : a ≠ b) : cupd (cupd C a c) b c' = cupd (cupd C b c') a c := by
  funext x; unfold cupd; by_cases e : x = b
  · subst e; rw [if_pos rfl, if_neg (fun z => h z.symm), if_pos rfl]
  · rw [if_neg e]; by_cases e2 : x = a
    · subst e2; simp [e]
    · simp [e, e2]
theorem cdel_cupd_ne {C : Cs} {a b : Addr} {c : Cell} (h : a ≠ b) : cdel (cupd C a c) b = cupd (cdel C b) a c := by
  funext x; unfold cupd cdel; by_cases e : x = b
  · subst e; rw [if_pos rfl, if_neg (fun z => h z.symm), if_pos rfl]
  · rw [if_neg e]; by_cases e2 : x = a
    · subst e2; simp [e]
    · simp [e, e2]
theorem cne {C : Cs} {a b : Addr} {c : Cell} (h : C a = some c) (h' : C b = none) : a ≠ b := by
  intro e; subst e; rw [h] at h'; cases h'

/-- a dict whose keys are tuples (nested data): its entries, the keys' tuples at their addresses -/
def EntsOk (w : World) (prog : Program) (d : Addr) (xs : List (NestedKey × Addr × V)) (h : Heap) : Prop :=
  ∃ ys : List (NestedKey × Addr × Value), Paired (fun (p : NestedKey × Addr × V) (q : NestedKey × Addr × Value) => p.1 = q.1 ∧ p.2.1 = q.2.1 ∧ RelV p.2.2 q.2.2) xs ys ∧
    ∃ o es ep, h.get? d = some o ∧ o.ExactDict ∧ o.data = .dict es ep ∧ es.toList = ys.map (entryOfKey (nestedKind prog w)) ∧ (ys.map (·.1)).Nodup
def dT (prog : Program) (w : World) (d : Addr) (xs : List (NestedKey × Addr × V)) : HO := .ext (fun h => EntsOk w prog d xs h ∧ xs.length ≤ sizeLine ∧ (d == sysModules) = false)

/-- a written tuple -/
def KTup (K : PySem.W.Frag) (a : Addr) (vs : List V) : Prop :=
  ∃ (o : Obj) (its : Array Value) (n : Nat), K.lookup a = some o ∧ o.cls = .type "tuple" ∧ o.data = .seq its n ∧ its.size ≤ sizeLine ∧ Vals vs its.toList

/-- a written dict with texts as keys -/
structure KDc (K : PySem.W.Frag) (w : World) (a : Addr) (kvs : List (Str × V)) : Prop where
  ex : ∃ es n, KDict K w a es n ∧ Paired (fun (p : Str × V) (e : DictEntry) => (∃ t, e.key = .str p.1 t) ∧ RelV p.2 e.val) kvs es.toList
  len : kvs.length ≤ sizeLine
  ne : kvs ≠ []

section
variable (P : Program) (w : World) (K : PySem.W.Frag)
mutual
inductive RD (H : Hp) (C : Cs) (Z : Addr → Prop) : D → V → Prop
  | non : RD H C Z .non .non
  | bl (b : Bool) : RD H C Z (.bl b) (.bl b)
  | int (i : Int) : RD H C Z (.int i) (.int i)
  | str (x : Str) : RD H C Z (.str x) (.str x)
  | ref (a : Addr) : RD H C Z (.ref a) (.ref a)
  | tup {a : Addr} {xs : List D} {vs : List V} : Rd H a (.tup vs) → C a = none → ¬ Z a → vs.length ≤ sizeLine → RDs H C Z xs vs → RD H C Z (.tup xs) (.ref a)
  | tupK {a : Addr} {xs : List D} {vs : List V} : KTup K a vs → RDs H C Z xs vs → RD H C Z (.tup xs) (.ref a)
  | lst {a : Addr} {xs : List D} {vs : List V} : H a = some (.lst vs) → C a = none → ¬ Z a → vs.length ≤ sizeLine → RDs H C Z xs vs → RD H C Z (.lst xs) (.ref a)
  | dicK {a : Addr} {o : Obj} {ks ds : List D} {kvs : List (Key × V)} : H a = some (.frz o (.dK kvs)) → C a = none → ¬ Z a → ks = kvs.map (fun p => kD p.1) → RDs H C Z ds (kvs.map (·.2)) → RD H C Z (.dic ks ds) (.ref a)
  | dicKd {a : Addr} {ks ds : List D} {kvs : List (Str × V)} : KDc K w a kvs → ks = kvs.map (fun p => .str p.1) → RDs H C Z ds (kvs.map (·.2)) → RD H C Z (.dic ks ds) (.ref a)
  | dicT {a : Addr} {o : Obj} {ks ds : List D} {xs : List (NestedKey × Addr × V)} : H a = some (.frz o (dT P w a xs)) → C a = none → ¬ Z a → (xs ≠ [] ∧ ∀ x ∈ xs, x.1.depth ≤ 8) → ks.map nk = xs.map (fun x => some x.1) → RDs H C Z ks (xs.map fun x => .ref x.2.1) → RDs H C Z ds (xs.map (·.2.2)) → RD H C Z (.dic ks ds) (.ref a)
inductive RDs (H : Hp) (C : Cs) (Z : Addr → Prop) : List D → List V → Prop
  | nil : RDs H C Z [] []
  | cons {d : D} {v : V} {ds : List D} {vs : List V} : RD H C Z d v → RDs H C Z ds vs → RDs H C Z (d :: ds) (v :: vs)
end
end

/-- what is finished, and what is hidden, stays -/
structure Pers (H : Hp) (C : Cs) (H' : Hp) (C' : Cs) : Prop where
  obj : ∀ a o, H a = some o → C a = none → H' a = some o
  cel : ∀ a o, H a = some o → C a = none → C' a = none
theorem Pers.refl {H : Hp} {C : Cs} : Pers H C H C := ⟨fun _ _ h _ => h, fun _ _ _ h => h⟩
theorem Pers.trans {H H1 H2 : Hp} {C C1 C2 : Cs} (p : Pers H C H1 C1) (q : Pers H1 C1 H2 C2) : Pers H C H2 C2 :=
  ⟨fun a o h c => q.obj a o (p.obj a o h c) (p.cel a o h c), fun a o h c => q.cel a o (p.obj a o h c) (p.cel a o h c)⟩
theorem Pers.rd {H H' : Hp} {C C' : Cs} (p : Pers H C H' C') {a : Addr} {u : HO} (h : Rd H a u) (c : C a = none) : Rd H' a u ∧ C' a = none := by
  rcases h with h | ⟨o, h⟩
  · exact ⟨.inl (p.obj a _ h c), p.cel a _ h c⟩
  · exact ⟨.inr ⟨o, p.obj a _ h c⟩, p.cel a _ h c⟩

section
variable {P : Program} {w : World} {K : PySem.W.Frag} {H H' : Hp} {C C' : Cs} {Z : Addr → Prop}
mutual
theorem RD.pers (p : Pers H C H' C') : ∀ {d : D} {v : V}, RD P w K H C Z d v → RD P w K H' C' Z d v
  | _, _, .non => .non
  | _, _, .bl b => .bl b
  | _, _, .int i => .int i
  | _, _, .str x => .str x
  | _, _, .ref a => .ref a
  | _, _, .tup h c z s r => .tup (p.rd h c).1 (p.rd h c).2 z s (RDs.pers p r)
  | _, _, .tupK h r => .tupK h (RDs.pers p r)
  | _, _, .lst h c z s r => .lst (p.obj _ _ h c) (p.cel _ _ h c) z s (RDs.pers p r)
  | _, _, .dicK h c z e r => .dicK (p.obj _ _ h c) (p.cel _ _ h c) z e (RDs.pers p r)
  | _, _, .dicKd h e r => .dicKd h e (RDs.pers p r)
  | _, _, .dicT h c z n e r q => .dicT (p.obj _ _ h c) (p.cel _ _ h c) z n e (RDs.pers p r) (RDs.pers p q)
theorem RDs.pers (p : Pers H C H' C') : ∀ {ds : List D} {vs : List V}, RDs P w K H C Z ds vs → RDs P w K H' C' Z ds vs
  | _, _, .nil => .nil
  | _, _, .cons r t => .cons (RD.pers p r) (RDs.pers p t)
end
theorem RDs.length : ∀ {ds : List D} {vs : List V}, RDs P w K H C Z ds vs → ds.length = vs.length
  | _, _, .nil => rfl
  | _, _, .cons _ t => by simp [RDs.length t]
theorem RDs.get : ∀ {ds : List D} {vs : List V} {i : Nat} {v : V}, RDs P w K H C Z ds vs → vs[i]? = some v → ∃ d, ds[i]? = some d ∧ RD P w K H C Z d v
  | _, _, _, _, .nil, e => by simp at e
  | _, _, 0, _, .cons r _, e => by simp at e; subst e; exact ⟨_, rfl, r⟩
  | _, _, i + 1, _, .cons _ t, e => by
    obtain ⟨d, h1, h2⟩ := RDs.get (i := i) t (by simpa using e)
    exact ⟨d, by simpa using h1, h2⟩
theorem RDs.get' : ∀ {ds : List D} {vs : List V} {i : Nat} {d : D}, RDs P w K H C Z ds vs → ds[i]? = some d → ∃ v, vs[i]? = some v ∧ RD P w K H C Z d v
  | _, _, _, _, .nil, e => by simp at e
  | _, _, 0, _, .cons r _, e => by simp at e; subst e; exact ⟨_, rfl, r⟩
  | _, _, i + 1, _, .cons _ t, e => by
    obtain ⟨d, h1, h2⟩ := RDs.get' (i := i) t (by simpa using e)
    exact ⟨d, by simpa using h1, h2⟩
theorem RDs.append : ∀ {ds es : List D} {vs us : List V}, RDs P w K H C Z ds vs → RDs P w K H C Z es us → RDs P w K H C Z (ds ++ es) (vs ++ us)
  | _, _, _, _, .nil, s => s
  | _, _, _, _, .cons r t, s => .cons r (RDs.append t s)
theorem RDs.take : ∀ {ds : List D} {vs : List V} (n : Nat), RDs P w K H C Z ds vs → RDs P w K H C Z (ds.take n) (vs.take n)
  | _, _, 0, _ => .nil
  | _, _, _ + 1, .nil => .nil
  | _, _, n + 1, .cons r t => .cons r (RDs.take n t)
theorem RDs.drop : ∀ {ds : List D} {vs : List V} (n : Nat), RDs P w K H C Z ds vs → RDs P w K H C Z (ds.drop n) (vs.drop n)
  | _, _, 0, r => r
  | _, _, _ + 1, .nil => .nil
  | _, _, n + 1, .cons _ t => RDs.drop n t
theorem RDs.set {d : D} {v : V} (r : RD P w K H C Z d v) : ∀ {ds : List D} {vs : List V} (i : Nat), RDs P w K H C Z ds vs → RDs P w K H C Z (ds.set i d) (vs.set i v)
  | _, _, _, .nil => .nil
  | _, _, 0, .cons _ t => .cons r t
  | _, _, i + 1, .cons q t => .cons q (RDs.set r i t)
theorem RDs.reverse : ∀ {ds : List D} {vs : List V}, RDs P w K H C Z ds vs → RDs P w K H C Z ds.reverse vs.reverse
  | _, _, .nil => .nil
  | _, _, .cons r t => by rw [List.reverse_cons, List.reverse_cons]; exact RDs.append (RDs.reverse t) (.cons r .nil)
theorem RDs.dropLast {ds : List D} {vs : List V} (r : RDs P w K H C Z ds vs) : RDs P w K H C Z ds.dropLast vs.dropLast := by
  rw [List.dropLast_eq_take, List.dropLast_eq_take, r.length]; exact r.take _
end

/-- attributes, by name -/
def RFs (P : Program) (w : World) (K : PySem.W.Frag) (H : Hp) (C : Cs) (Z : Addr → Prop) : List (Str × D) → List (Str × V) → Prop :=
  Paired fun p q => p.1 = q.1 ∧ RD P w K H C Z p.2 q.2
def RCell (P : Program) (w : World) (K : PySem.W.Frag) (H : Hp) (C : Cs) (Z : Addr → Prop) (a : Addr) : Cell → Prop
  | .lst xs => ∃ vs, H a = some (.lst vs) ∧ vs.length ≤ sizeLine ∧ RDs P w K H C Z xs vs
  | .dic ks ds => (∃ kvs : List (Key × V), H a = some (.dK kvs) ∧ ks = kvs.map (fun p => kD p.1) ∧ RDs P w K H C Z ds (kvs.map (·.2))) ∨
      ∃ xs : List (NestedKey × Addr × V), H a = some (dT P w a xs) ∧ (xs ≠ [] ∧ ∀ x ∈ xs, x.1.depth ≤ 8) ∧ ks.map nk = xs.map (fun x => some x.1) ∧ RDs P w K H C Z ks (xs.map fun x => .ref x.2.1) ∧ RDs P w K H C Z ds (xs.map (·.2.2))
  | .ins c fs => ∃ dx vfs, H a = some (.ins c dx vfs) ∧ RFs P w K H C Z fs vfs
/-- the state: every cell stands; what is hidden is tracked and no cell -/
structure Sy (P : Program) (w : World) (K : PySem.W.Frag) (H : Hp) (C : Cs) (Z : Addr → Prop) : Prop where
  cel : ∀ a c, C a = some c → RCell P w K H C Z a c
  hid : ∀ a, Z a → C a = none ∧ ∃ o, H a = some o
section
variable {P : Program} {w : World} {K : PySem.W.Frag} {H H' : Hp} {C C' : Cs} {Z : Addr → Prop} {a : Addr} {c : Cell}
theorem RFs.pers (p : Pers H C H' C') {fs : List (Str × D)} {vfs : List (Str × V)} (r : RFs P w K H C Z fs vfs) : RFs P w K H' C' Z fs vfs :=
  Paired.mapP r fun _ _ z => ⟨z.1, z.2.pers p⟩
theorem RCell.pers (p : Pers H C H' C') (r : RCell P w K H C Z a c) (e : H' a = H a) : RCell P w K H' C' Z a c := by
  cases c with
  | lst xs => obtain ⟨vs, h, s, r⟩ := r; exact ⟨vs, e.trans h, s, r.pers p⟩
  | dic ks ds =>
    rcases r with ⟨kvs, h, k, r⟩ | ⟨xs, h, n, k, r, q⟩
    · exact .inl ⟨kvs, e.trans h, k, r.pers p⟩
    · exact .inr ⟨xs, e.trans h, n, k, r.pers p, q.pers p⟩
  | ins cl fs => obtain ⟨dx, vfs, h, r⟩ := r; exact ⟨dx, vfs, e.trans h, r.pers p⟩
theorem RCell.some (r : RCell P w K H C Z a c) : ∃ o, H a = some o := by
  cases c with
  | lst xs => obtain ⟨vs, h, _⟩ := r; exact ⟨_, h⟩
  | dic ks ds => rcases r with ⟨kvs, h, _⟩ | ⟨xs, h, _⟩ <;> exact ⟨_, h⟩
  | ins cl fs => obtain ⟨dx, vfs, h, _⟩ := r; exact ⟨_, h⟩
theorem Sy.free (s : Sy P w K H C Z) (h : H a = none) : C a = none := by
  cases e : C a with
  | none => rfl
  | some c => obtain ⟨o, q⟩ := (s.cel a c e).some; rw [h] at q; cases q
theorem Sy.nz (s : Sy P w K H C Z) (h : H a = none) : ¬ Z a := fun z => by
  obtain ⟨_, o, q⟩ := s.hid a z; rw [h] at q; cases q
theorem Sy.nzc (s : Sy P w K H C Z) (h : C a = Option.some c) : ¬ Z a := fun z => by
  have q := (s.hid a z).1; rw [h] at q; cases q
/-- a new object that is no cell -/
theorem Pers.laid {o : HO} (h : H a = none) : Pers H C (upd H a o) C :=
  ⟨fun b u e _ => by rw [upd_ne (ne_of_none e h)]; exact e, fun _ _ _ c => c⟩
theorem Sy.laid {o : HO} (s : Sy P w K H C Z) (h : H a = none) : Sy P w K (upd H a o) C Z :=
  ⟨fun b c e => (s.cel b c e).pers (Pers.laid h) (upd_ne (fun z => by subst z; rw [s.free h] at e; cases e)), fun b z => by
    obtain ⟨n, u, e⟩ := s.hid b z
    exact ⟨n, u, by rw [upd_ne (ne_of_none e h)]; exact e⟩⟩
/-- a new cell -/
theorem Pers.new {o : HO} (h : H a = none) : Pers H C (upd H a o) (cupd C a c) :=
  ⟨fun b u e _ => by rw [upd_ne (ne_of_none e h)]; exact e, fun b u e n => by rw [cupd_ne (ne_of_none e h)]; exact n⟩
theorem Sy.new {o : HO} (s : Sy P w K H C Z) (h : H a = none) (r : RCell P w K (upd H a o) (cupd C a c) Z a c) : Sy P w K (upd H a o) (cupd C a c) Z :=
  ⟨fun b c' e => by
    by_cases z : b = a
    · subst z; rw [cupd_same] at e; cases e; exact r
    · rw [cupd_ne z] at e; exact (s.cel b c' e).pers (Pers.new h) (upd_ne z), fun b z => by
    obtain ⟨n, u, e⟩ := s.hid b z
    exact ⟨by rw [cupd_ne (ne_of_none e h)]; exact n, u, by rw [upd_ne (ne_of_none e h)]; exact e⟩⟩
/-- a cell is written -/
theorem Pers.write {o : HO} {c0 : Cell} (h : C a = Option.some c0) : Pers H C (upd H a o) (cupd C a c) :=
  ⟨fun b u e n => by rw [upd_ne (fun z => by subst z; rw [h] at n; cases n)]; exact e, fun b u e n => by rw [cupd_ne (fun z => by subst z; rw [h] at n; cases n)]; exact n⟩
theorem Sy.write {o : HO} {c0 : Cell} (s : Sy P w K H C Z) (h : C a = Option.some c0) (r : RCell P w K (upd H a o) (cupd C a c) Z a c) : Sy P w K (upd H a o) (cupd C a c) Z :=
  ⟨fun b c' e => by
    by_cases z : b = a
    · subst z; rw [cupd_same] at e; cases e; exact r
    · rw [cupd_ne z] at e; exact (s.cel b c' e).pers (Pers.write h) (upd_ne z), fun b z => by
    obtain ⟨n, u, e⟩ := s.hid b z
    have ne : b ≠ a := fun q => by subst q; rw [h] at n; cases n
    exact ⟨by rw [cupd_ne ne]; exact n, u, by rw [upd_ne ne]; exact e⟩⟩
/-- a cell is forgotten (finished) -/
theorem Pers.del : Pers H C H (cdel C a) :=
  ⟨fun _ _ e _ => e, fun b u e n => by
    by_cases z : b = a
    · subst z; exact cdel_same
    · rw [cdel_ne z]; exact n⟩
theorem Sy.del (s : Sy P w K H C Z) : Sy P w K H (cdel C a) Z :=
  ⟨fun b c e => by
    have z : b ≠ a := fun z => by subst z; rw [cdel_same] at e; cases e
    rw [cdel_ne z] at e
    exact (s.cel b c e).pers Pers.del rfl, fun b z => ⟨by
      by_cases q : b = a
      · subst q; exact cdel_same
      · rw [cdel_ne q]; exact (s.hid b z).1, (s.hid b z).2⟩⟩
end
/-- the slots -/
def RO (P : Program) (w : World) (K : PySem.W.Frag) (H : Hp) (C : Cs) (Z : Addr → Prop) : Option D → Option V → Prop
  | none, _ => True
  | some d, some v => RD P w K H C Z d v
  | some _, none => False
abbrev En := List (Option D)
abbrev RE (P : Program) (w : World) (K : PySem.W.Frag) (H : Hp) (C : Cs) (Z : Addr → Prop) : En → L2.St → Prop := Paired (RO P w K H C Z)
section
variable {P : Program} {w : World} {K : PySem.W.Frag} {H H' : Hp} {C C' : Cs} {Z : Addr → Prop} {E : En} {σ : L2.St}
theorem RE.pers (p : Pers H C H' C') (r : RE P w K H C Z E σ) : RE P w K H' C' Z E σ :=
  Paired.mapP r fun a b z => match a, b, z with
    | none, _, _ => True.intro
    | some _, some _, z => RD.pers p z
theorem RE.get : ∀ {E : En} {σ : L2.St} {i : Nat} {d : D}, RE P w K H C Z E σ → E[i]? = some (some d) → ∃ v, σ[i]? = some (some v) ∧ RD P w K H C Z d v
  | _, _, _, _, .nil, e => by simp at e
  | _, _, 0, d, @Paired.cons _ _ _ a b l1 l2 r _, e => by
    have e' : a = some d := by simpa using e
    subst e'
    cases b with
    | none => exact (show False from r).elim
    | some v => exact ⟨v, rfl, r⟩
  | _, _, i + 1, d, .cons _ t, e => by
    obtain ⟨v, h1, h2⟩ := RE.get (i := i) t (by simpa using e)
    exact ⟨v, by simpa using h1, h2⟩
theorem RE.set {d : D} {v : V} (r : RD P w K H C Z d v) : ∀ {E : En} {σ : L2.St} (i : Nat), RE P w K H C Z E σ → RE P w K H C Z (E.set i (some d)) (σ.set i (some v))
  | _, _, _, .nil => .nil
  | _, _, 0, .cons _ t => .cons r t
  | _, _, i + 1, .cons q t => .cons q (RE.set r i t)
theorem RE.unset : ∀ {E : En} {σ : L2.St} (i : Nat) (o : Option V), RE P w K H C Z E σ → RE P w K H C Z (E.set i none) (σ.set i o)
  | _, _, _, _, .nil => .nil
  | _, _, 0, _, .cons _ t => .cons True.intro t
  | _, _, i + 1, o, .cons q t => .cons q (RE.unset i o t)
theorem RE.setD {d : D} {v : V} (r : RD P w K H C Z d v) : ∀ {E : En} {σ : L2.St} (i : Nat), RE P w K H C Z E σ → σ[i]? = some (some v) → RE P w K H C Z (E.set i (some d)) σ
  | _, _, _, .nil, _ => .nil
  | _, _, 0, @Paired.cons _ _ _ a b l1 l2 _ t, e => by
    have e' : b = some v := by simpa using e
    subst e'
    exact .cons r t
  | _, _, i + 1, .cons q t, e => .cons q (RE.setD r i t (by simpa using e))
end
end DL

set_option Elab.async false
set_option linter.all false
set_option maxRecDepth 100000
set_option maxHeartbeats 2000000
/-! DlB: the judgements over data (DE, DA, DQ), names, constants, operators, comparisons, subscripts. -/
namespace DL
open PySem PySem.Spec PyProof.Rows L2

/-- where a def's body starts: the ground that an exception is told from, and what is hidden -/
structure Bs where
  H : Hp
  C : Cs
  Z : Addr → Prop
abbrev DK := D → Cs → Prop
abbrev DT := En → Cs → DK → Prop
abbrev DTA := En → Cs → (List D → Cs → Prop) → Prop
abbrev DTT := En → Cs → (Bool → Cs → Prop) → Prop

structure Ps (X : Cx) (B : Bs) (E : En) (C : Cs) (σ : L2.St) (H : Hp) : Prop where
  re : RE X.prog X.w X.K H C B.Z E σ
  sy : Sy X.prog X.w X.K H C B.Z
  ps : Pers B.H B.C H C
theorem Ps.next {X : Cx} {B : Bs} {E : En} {C C' : Cs} {σ : L2.St} {H H' : Hp} (p : Ps X B E C σ H) (q : Pers H C H' C') (s : Sy X.prog X.w X.K H' C' B.Z) : Ps X B E C' σ H' := ⟨p.re.pers q, s, p.ps.trans q⟩
def KoV (X : Cx) (B : Bs) (H : Hp) (C : Cs) (Q : DK) (Q0 : VK) : Prop := ∀ v C' u H', Pers H C H' C' → Sy X.prog X.w X.K H' C' B.Z → RD X.prog X.w X.K H' C' B.Z v u → Q v C' → Q0 u H'
def KoA (X : Cx) (B : Bs) (H : Hp) (C : Cs) (Q : List D → Cs → Prop) (Q0 : List V → Hp → Prop) : Prop := ∀ v C' u H', Pers H C H' C' → Sy X.prog X.w X.K H' C' B.Z → RDs X.prog X.w X.K H' C' B.Z v u → Q v C' → Q0 u H'
def KoT (X : Cx) (B : Bs) (H : Hp) (C : Cs) (Q : Bool → Cs → Prop) (Q0 : Bool → Hp → Prop) : Prop := ∀ b C' H', Pers H C H' C' → Sy X.prog X.w X.K H' C' B.Z → Q b C' → Q0 b H'
structure DE (X : Cx) (B : Bs) (e : Expr) (t : DT) : Prop where
  ex : ∃ t0, PE X e t0 ∧ ∀ E C σ H Q Q0, Ps X B E C σ H → t E C Q → KoV X B H C Q Q0 → t0 σ H Q0
structure DA (X : Cx) (B : Bs) (es : List Expr) (t : DTA) : Prop where
  ex : ∃ t0, PA X es t0 ∧ ∀ E C σ H Q Q0, Ps X B E C σ H → t E C Q → KoA X B H C Q Q0 → t0 σ H Q0
structure DQ (X : Cx) (B : Bs) (e : Expr) (t : DTT) : Prop where
  ex : ∃ t0, PT X e t0 ∧ ∀ E C σ H Q Q0, Ps X B E C σ H → t E C Q → KoT X B H C Q Q0 → t0 σ H Q0

/-- a value's function: no cell is touched -/
def ofF (f : En → Cs → Option D) : DT := fun E C Q => ∃ v, f E C = some v ∧ Q v C
def ofA (f : En → Cs → Option (List D)) : DTA := fun E C Q => ∃ v, f E C = some v ∧ Q v C
def ofQ (f : En → Cs → Option Bool) : DTT := fun E C Q => ∃ v, f E C = some v ∧ Q v C
abbrev FE (X : Cx) (B : Bs) (e : Expr) (f : En → Cs → Option D) : Prop := DE X B e (ofF f)
abbrev FA (X : Cx) (B : Bs) (es : List Expr) (f : En → Cs → Option (List D)) : Prop := DA X B es (ofA f)
abbrev FQ (X : Cx) (B : Bs) (e : Expr) (f : En → Cs → Option Bool) : Prop := DQ X B e (ofQ f)

section
variable {X : Cx} {B : Bs} {e a b : Expr} {es : List Expr} {pos : Pos}
theorem DE.mono {t t' : DT} (h : DE X B e t) (m : ∀ E C Q, t' E C Q → t E C Q) : DE X B e t' := by
  obtain ⟨t0, p, r⟩ := h.ex
  exact ⟨t0, p, fun E C σ H Q Q0 s q k => r E C σ H Q Q0 s (m E C Q q) k⟩
theorem DA.mono {t t' : DTA} (h : DA X B es t) (m : ∀ E C Q, t' E C Q → t E C Q) : DA X B es t' := by
  obtain ⟨t0, p, r⟩ := h.ex
  exact ⟨t0, p, fun E C σ H Q Q0 s q k => r E C σ H Q Q0 s (m E C Q q) k⟩
theorem DQ.mono {t t' : DTT} (h : DQ X B e t) (m : ∀ E C Q, t' E C Q → t E C Q) : DQ X B e t' := by
  obtain ⟨t0, p, r⟩ := h.ex
  exact ⟨t0, p, fun E C σ H Q Q0 s q k => r E C σ H Q Q0 s (m E C Q q) k⟩

/-! ### names, constants -/
def fV (i : Nat) : En → Cs → Option D := fun E _ => (E[i]?).join
def fC (d : D) : En → Cs → Option D := fun _ _ => some d
theorem fe_var {i : Nat} {x : Str} (h : PE X (.Name x pos) (tVar i)) : FE X B (.Name x pos) (fV i) := by
  refine ⟨_, h, fun E C σ H Q Q0 s q k => ?_⟩
  obtain ⟨v, e, q⟩ := q
  have e' : E[i]? = some (some v) := by
    unfold fV at e
    cases z : E[i]? with
    | none => rw [z] at e; cases e
    | some o => rw [z] at e; exact congrArg some e
  obtain ⟨u, h1, h2⟩ := s.re.get e'
  exact ⟨u, h1, k v C u H .refl s.sy h2 q⟩
theorem fv (i : Nat) {x : Str} (hN : X.N[i]? = some x := by rfl) (hv : Vis X.env.scope x := by first | exact Or.inl rfl | exact Or.inr (Or.inl rfl) | exact Or.inr (Or.inr rfl)) (hd : (x == ("__debug__" : Str)) = false := by decide)
    (hcd : (x == ("__classdict__" : Str)) = false := by decide) : FE X B (.Name x pos) (fV i) := fe_var (pe_var hN hv hd hcd)
theorem fe_const {d : D} {v : V} (h : PE X e (tC v)) (r : ∀ H C Z, RD X.prog X.w X.K H C Z d v) : FE X B e (fC d) := by
  refine ⟨_, h, fun E C σ H Q Q0 s q k => ?_⟩
  obtain ⟨w, e, q⟩ := q
  cases e
  exact k d C v H .refl s.sy (r H C B.Z) q
theorem fe_int {i j} : FE X B (.Constant (.int i) j pos) (fC (.int i)) := fe_const pe_int fun _ _ _ => .int i
theorem fe_bl {i j} : FE X B (.Constant (.bool i) j pos) (fC (.bl i)) := fe_const pe_bl fun _ _ _ => .bl i
theorem fe_non {j} : FE X B (.Constant .none j pos) (fC .non) := fe_const pe_non fun _ _ _ => .non
theorem fe_str {x j} : FE X B (.Constant (.str x) j pos) (fC (.str x)) := fe_const pe_str fun _ _ _ => .str x
/-- a module's constant -/
theorem fe_glob {x : Str} {v : V} {d : D} {u : Value} (hg : Gl X x) (hm : X.mg x = some u) (r : RelV v u) (rd : ∀ H C Z, RD X.prog X.w X.K H C Z d v) (hd : (x == ("__debug__" : Str)) = false := by decide) : FE X B (.Name x pos) (fC d) :=
  fe_const (pe_glob hg hm r hd) rd

/-! ### argument lists, tuples, lists -/
def dNil : DTA := fun _ C Q => Q [] C
def dCons (t : DT) (r : DTA) : DTA := fun E C Q => t E C fun x C1 => r E C1 fun xs C2 => Q (x :: xs) C2
theorem da_nil : DA X B [] dNil := ⟨_, pa_nil, fun E C σ H Q Q0 s q k => k [] C [] H .refl s.sy .nil q⟩
theorem da_cons {t : DT} {r : DTA} (ha : DE X B e t) (hr : DA X B es r) (hs : starEach (e :: es) X.env = (false, eval e X.env) :: starEach es X.env := by rfl) : DA X B (e :: es) (dCons t r) := by
  obtain ⟨t0, p, h1⟩ := ha.ex
  obtain ⟨r0, q, h2⟩ := hr.ex
  refine ⟨_, pa_cons p q hs, fun E C σ H Q Q0 s h k => ?_⟩
  refine h1 E C σ H _ _ s h fun v C1 u H1 p1 s1 r1 q1 => ?_
  refine h2 E C1 σ H1 _ _ (s.next p1 s1) q1 fun vs C2 us H2 p2 s2 r2 q2 => ?_
  exact k (v :: vs) C2 (u :: us) H2 (p1.trans p2) s2 (.cons (r1.pers p2) r2) q2
def fNil : En → Cs → Option (List D) := fun _ _ => some []
def fCons (f : En → Cs → Option D) (g : En → Cs → Option (List D)) : En → Cs → Option (List D) := fun E C => match f E C, g E C with
  | some x, some xs => some (x :: xs)
  | _, _ => none
theorem fa_nil : FA X B [] fNil := da_nil.mono fun E C Q ⟨v, e, q⟩ => by cases e; exact q
theorem fa_cons {f : En → Cs → Option D} {g : En → Cs → Option (List D)} (ha : FE X B e f) (hr : FA X B es g) (hs : starEach (e :: es) X.env = (false, eval e X.env) :: starEach es X.env := by rfl) : FA X B (e :: es) (fCons f g) := by
  refine (da_cons ha hr hs).mono fun E C Q ⟨v, e, q⟩ => ?_
  unfold fCons at e
  cases h1 : f E C with
  | none => rw [h1] at e; cases e
  | some x =>
    cases h2 : g E C with
    | none => rw [h1, h2] at e; cases e
    | some xs => rw [h1, h2] at e; cases e; exact ⟨x, h1, xs, h2, q⟩
def dTup (t : DTA) : DT := fun E C Q => t E C fun xs C1 => xs.length ≤ sizeLine ∧ Q (.tup xs) C1
theorem de_tup {t : DTA} {k1} (h : DA X B es t) : DE X B (.Tuple es k1 pos) (dTup t) := by
  obtain ⟨t0, p, h⟩ := h.ex
  refine ⟨_, pe_tup p, fun E C σ H Q Q0 s q k => ?_⟩
  refine h E C σ H _ _ s q fun vs C1 us H1 p1 s1 r1 ⟨hz, q1⟩ => ⟨by rw [← r1.length]; exact hz, fun a ha => ?_⟩
  exact k _ C1 (.ref a) _ (p1.trans (Pers.laid ha)) (s1.laid ha) (.tup (.inl upd_same) (s1.free ha) (s1.nz ha) (by rw [← r1.length]; exact hz) (r1.pers (Pers.laid ha))) q1
def fTup (f : En → Cs → Option (List D)) : En → Cs → Option D := fun E C => match f E C with
  | some xs => if xs.length ≤ sizeLine then some (.tup xs) else none
  | none => none
theorem fe_tup {f : En → Cs → Option (List D)} {k1} (h : FA X B es f) : FE X B (.Tuple es k1 pos) (fTup f) := by
  refine (de_tup h).mono fun E C Q ⟨v, e, q⟩ => ?_
  unfold fTup at e
  cases h1 : f E C with
  | none => rw [h1] at e; cases e
  | some xs =>
    rw [h1] at e
    by_cases hz : xs.length ≤ sizeLine
    · simp only [hz, if_true] at e; cases e; exact ⟨xs, h1, hz, q⟩
    · simp only [hz, if_false] at e; cases e
/-- a new list, as a cell -/
def dLst (t : DTA) : DT := fun E C Q => t E C fun xs C1 => xs.length ≤ sizeLine ∧ ∀ p, C1 p = none → Q (.ref p) (cupd C1 p (.lst xs))
theorem de_lst {t : DTA} (h : DA X B es t) : DE X B (.List es pos) (dLst t) := by
  obtain ⟨t0, p, h⟩ := h.ex
  refine ⟨_, pe_lst p, fun E C σ H Q Q0 s q k => ?_⟩
  refine h E C σ H _ _ s q fun vs C1 us H1 p1 s1 r1 ⟨hz, q1⟩ => ⟨by rw [← r1.length]; exact hz, fun a ha => ?_⟩
  exact k _ (cupd C1 a (.lst vs)) (.ref a) _ (p1.trans (Pers.new ha)) (s1.new ha ⟨us, upd_same, by rw [← r1.length]; exact hz, r1.pers (Pers.new ha)⟩) (.ref a) (q1 a (s1.free ha))
/-- a list cell is finished on the spot -/
def dFin (t : DT) : DT := fun E C Q => t E C fun v C1 => ∃ p xs, v = .ref p ∧ C1 p = some (.lst xs) ∧ Q (.lst xs) (cdel C1 p)
theorem de_fin {t : DT} (h : DE X B e t) : DE X B e (dFin t) := by
  obtain ⟨t0, p, h⟩ := h.ex
  refine ⟨_, p, fun E C σ H Q Q0 s q k => ?_⟩
  refine h E C σ H _ _ s q fun v C1 u H1 p1 s1 r1 q1 => ?_
  obtain ⟨p, xs, rfl, hc, q1⟩ := q1
  cases r1
  obtain ⟨vs, h1, h2, h3⟩ := s1.cel p _ hc
  exact k _ (cdel C1 p) (.ref p) H1 (p1.trans Pers.del) s1.del (.lst h1 cdel_same (s1.nzc hc) h2 (h3.pers Pers.del)) q1
def fLst (f : En → Cs → Option (List D)) : En → Cs → Option D := fun E C => match f E C with
  | some xs => if xs.length ≤ sizeLine then some (.lst xs) else none
  | none => none
theorem fe_lst {f : En → Cs → Option (List D)} (h : FA X B es f) : FE X B (.List es pos) (fLst f) := by
  refine (de_fin (de_lst h)).mono fun E C Q ⟨v, e, q⟩ => ?_
  unfold fLst at e
  cases h1 : f E C with
  | none => rw [h1] at e; cases e
  | some xs =>
    rw [h1] at e
    by_cases hz : xs.length ≤ sizeLine
    · simp only [hz, if_true] at e; cases e; exact ⟨xs, h1, hz, fun p hp => ⟨p, xs, rfl, cupd_same, by rw [cdel_cupd hp]; exact q⟩⟩
    · simp only [hz, if_false] at e; cases e

/-! ### operators by values -/
theorem OpR.or {f : Value → Value → Sem Value} {r r' : R2} (h : OpR X f r) (h' : OpR X f r') : OpR X f (fun x y H Q => r x y H Q ∨ r' x y H Q) := by
  intro pins s σ H x y v u Q I rx ry q
  rcases q with q | q
  · exact h pins s σ H x y v u Q I rx ry q
  · exact h' pins s σ H x y v u Q I rx ry q
/-- what an operator does over data -/
abbrev VOp := Cs → D → D → Option D
def LkO (X : Cx) (B : Bs) (r : R2) (op : VOp) : Prop := ∀ H C x y z u v (Q : VK), Sy X.prog X.w X.K H C B.Z → RD X.prog X.w X.K H C B.Z x u → RD X.prog X.w X.K H C B.Z y v → op C x y = some z →
  (∀ z' H', Pers H C H' C → Sy X.prog X.w X.K H' C B.Z → RD X.prog X.w X.K H' C B.Z z z' → Q z' H') → r u v H Q
theorem LkO.orL {r r' : R2} {op : VOp} (h : LkO X B r op) : LkO X B (fun x y H Q => r x y H Q ∨ r' x y H Q) op := fun H C x y z u v Q s r1 r2 e k => .inl (h H C x y z u v Q s r1 r2 e k)
def dOp (op : VOp) (t t' : DT) : DT := fun E C Q => t E C fun x C1 => t' E C1 fun y C2 => ∃ z, op C2 x y = some z ∧ Q z C2
def fOp (op : VOp) (f g : En → Cs → Option D) : En → Cs → Option D := fun E C => match f E C, g E C with
  | some x, some y => op C x y
  | _, _ => none
theorem de_tOp {r : R2} {op : VOp} {t t' : DT} {t0 : TE → TE → Expr → Prop} (lk : LkO X B r op) (ha : DE X B a t) (hb : DE X B b t') (hp : ∀ {ta tb}, PE X a ta → PE X b tb → PE X e (tOp r ta tb)) : DE X B e (dOp op t t') := by
  obtain ⟨ta, p, h1⟩ := ha.ex
  obtain ⟨tb, q, h2⟩ := hb.ex
  refine ⟨_, hp p q, fun E C σ H Q Q0 s h k => ?_⟩
  refine h1 E C σ H _ _ s h fun v C1 u H1 p1 s1 r1 q1 => ?_
  refine h2 E C1 σ H1 _ _ (s.next p1 s1) q1 fun v2 C2 u2 H2 p2 s2 r2 ⟨z, e, q2⟩ => ?_
  exact lk H2 C2 v v2 z u u2 Q0 s2 (r1.pers p2) r2 e fun z' H' p3 s3 r3 => k z C2 z' H' ((p1.trans p2).trans p3) s3 r3 q2
theorem fOp_of {op : VOp} {f g : En → Cs → Option D} : ∀ E C (Q : DK), ofF (fOp op f g) E C Q → dOp op (ofF f) (ofF g) E C Q := fun E C Q ⟨v, e, q⟩ => by
  unfold fOp at e
  cases h1 : f E C with
  | none => rw [h1] at e; cases e
  | some x =>
    cases h2 : g E C with
    | none => rw [h1, h2] at e; cases e
    | some y => rw [h1, h2] at e; exact ⟨x, h1, y, h2, v, e, q⟩
theorem de_bin {o : Operator} {r : R2} {op : VOp} {t t' : DT} (ho : OpR X (binaryOp o) r) (lk : LkO X B r op) (ha : DE X B a t) (hb : DE X B b t') : DE X B (.BinOp a o b pos) (dOp op t t') :=
  de_tOp (t0 := fun _ _ _ => True) lk ha hb fun p q => pe_op ho p q
theorem fe_bin {o : Operator} {r : R2} {op : VOp} {f g : En → Cs → Option D} (ho : OpR X (binaryOp o) r) (lk : LkO X B r op) (ha : FE X B a f) (hb : FE X B b g) : FE X B (.BinOp a o b pos) (fOp op f g) :=
  (de_bin ho lk ha hb).mono fOp_of
theorem de_cmp {o : CmpOp} {r : R2} {op : VOp} {t t' : DT} (ho : OpR X (compareOp o) r) (lk : LkO X B r op) (ha : DE X B a t) (hb : DE X B b t') (hm : behindInMarks o b = false) : DE X B (.Compare a [o] [b] pos) (dOp op t t') :=
  de_tOp (t0 := fun _ _ _ => True) lk ha hb fun p q => pe_cmpR ho p q hm
theorem fe_cmp {o : CmpOp} {r : R2} {op : VOp} {f g : En → Cs → Option D} (ho : OpR X (compareOp o) r) (lk : LkO X B r op) (ha : FE X B a f) (hb : FE X B b g) (hm : behindInMarks o b = false) : FE X B (.Compare a [o] [b] pos) (fOp op f g) :=
  (de_cmp ho lk ha hb hm).mono fOp_of
theorem de_ix {r : R2} {op : VOp} {t t' : DT} (ho : IxR X r) (lk : LkO X B r op) (ha : DE X B a t) (hb : DE X B b t') (hs : PlainIx b) : DE X B (.Subscript a b pos) (dOp op t t') :=
  de_tOp (t0 := fun _ _ _ => True) lk ha hb fun p q => pe_ix ho p q hs
theorem fe_ix {r : R2} {op : VOp} {f g : En → Cs → Option D} (ho : IxR X r) (lk : LkO X B r op) (ha : FE X B a f) (hb : FE X B b g) (hs : PlainIx b) : FE X B (.Subscript a b pos) (fOp op f g) :=
  (de_ix ho lk ha hb hs).mono fOp_of

/-! ### sequences -/
/-- what a datum is as a list -/
def asL (C : Cs) : D → Option (List D)
  | .lst xs => some xs
  | .ref a => match C a with
    | some (.lst xs) => some xs
    | _ => none
  | _ => none
theorem asL_rd {H : Hp} {C : Cs} {d : D} {v : V} {xs : List D} (s : Sy X.prog X.w X.K H C B.Z) (r : RD X.prog X.w X.K H C B.Z d v) (e : asL C d = some xs) : ∃ a vs, v = .ref a ∧ H a = some (.lst vs) ∧ vs.length ≤ sizeLine ∧ RDs X.prog X.w X.K H C B.Z xs vs := by
  cases d with
  | lst ys => cases e; cases r with | lst h c z l r => exact ⟨_, _, rfl, h, l, r⟩
  | ref a =>
    cases r
    simp only [asL] at e
    cases h : C a with
    | none => rw [h] at e; cases e
    | some c =>
      rw [h] at e
      cases c with
      | lst ys => cases e; obtain ⟨vs, h1, h2, h3⟩ := s.cel a _ h; exact ⟨a, vs, rfl, h1, h2, h3⟩
      | dic _ _ => cases e
      | ins _ _ => cases e
  | _ => cases e
def asT : D → Option (List D)
  | .tup xs => some xs
  | _ => none
theorem asT_rd {H : Hp} {C : Cs} {d : D} {v : V} {xs : List D} (r : RD X.prog X.w X.K H C B.Z d v) (e : asT d = some xs) : ∃ a vs, v = .ref a ∧ SqT X.K H a vs ∧ vs.length ≤ sizeLine ∧ RDs X.prog X.w X.K H C B.Z xs vs := by
  cases d with
  | tup ys =>
    cases e
    cases r with
    | tup h c z l r => exact ⟨_, _, rfl, .inl h, l, r⟩
    | tupK h r =>
      obtain ⟨o, its, n, h1, h2, h3, h4, h5⟩ := id h
      exact ⟨_, _, rfl, .inr ⟨o, its, n, h1, h2, h3, h4, h5⟩, by have q := h5.length; simp only [Array.length_toList] at q; omega, r⟩
  | _ => cases e
end
end DL

set_option Elab.async false
set_option linter.all false
set_option maxRecDepth 100000
set_option maxHeartbeats 2000000
/-! DlC: operators, comparisons, subscripts, slices, and/or/not, conditions. -/
namespace DL
open PySem PySem.Spec PyProof.Rows L2

/-! ### == of data -/
mutual
def deq : D → D → Bool
  | .non, .non => true
  | .bl a, .bl b => a == b
  | .bl a, .int j => (if a then 1 else 0) == j
  | .int i, .bl b => i == (if b then 1 else 0)
  | .int i, .int j => i == j
  | .str x, .str y => x == y
  | .tup xs, .tup ys => deqs xs ys
  | .lst xs, .lst ys => deqs xs ys
  | .non, .bl _ | .non, .int _ | .non, .str _ | .non, .tup _ | .non, .lst _ | .non, .dic _ _ | .non, .ref _ => false
  | .bl _, .non | .bl _, .str _ | .bl _, .tup _ | .bl _, .lst _ | .bl _, .dic _ _ | .bl _, .ref _ => false
  | .int _, .non | .int _, .str _ | .int _, .tup _ | .int _, .lst _ | .int _, .dic _ _ | .int _, .ref _ => false
  | .str _, .non | .str _, .bl _ | .str _, .int _ | .str _, .tup _ | .str _, .lst _ | .str _, .dic _ _ | .str _, .ref _ => false
  | .tup _, .non | .tup _, .bl _ | .tup _, .int _ | .tup _, .str _ | .tup _, .lst _ | .tup _, .dic _ _ | .tup _, .ref _ => false
  | .lst _, .non | .lst _, .bl _ | .lst _, .int _ | .lst _, .str _ | .lst _, .tup _ | .lst _, .dic _ _ | .lst _, .ref _ => false
  | .dic _ _, .non | .dic _ _, .bl _ | .dic _ _, .int _ | .dic _ _, .str _ | .dic _ _, .tup _ | .dic _ _, .lst _ | .dic _ _, .dic _ _ | .dic _ _, .ref _ => false
  | .ref _, .non | .ref _, .bl _ | .ref _, .int _ | .ref _, .str _ | .ref _, .tup _ | .ref _, .lst _ | .ref _, .dic _ _ | .ref _, .ref _ => false
def deqs : List D → List D → Bool
  | [], [] => true
  | x :: xs, y :: ys => deq x y && deqs xs ys
  | [], _ :: _ => false
  | _ :: _, [] => false
end
mutual
/-- data of depth n at most: no dict, no cell -/
def good : Nat → D → Bool
  | _, .non => true
  | _, .bl _ => true
  | _, .int _ => true
  | _, .str x => PyData.strOk x
  | 0, .tup _ => false
  | 0, .lst _ => false
  | n + 1, .tup xs => goods n xs
  | n + 1, .lst xs => goods n xs
  | _, .dic _ _ => false
  | _, .ref _ => false
def goods : Nat → List D → Bool
  | _, [] => true
  | n, x :: xs => good n x && goods n xs
end
mutual
def toPD : D → PyData
  | .non => .none
  | .bl b => .bool b
  | .int i => .int i
  | .str x => .str x
  | .tup xs => .tuple (toPDs xs)
  | .lst xs => .list (toPDs xs)
  | .dic _ _ => .none
  | .ref _ => .none
def toPDs : List D → List PyData
  | [] => []
  | x :: xs => toPD x :: toPDs xs
end
mutual
theorem good_lay : ∀ (n : Nat) (d : D), good n d = true → (toPD d).canLay0 = true ∧ (toPD d).depth ≤ n
  | _, .non, _ => ⟨rfl, Nat.zero_le _⟩
  | _, .bl _, _ => ⟨rfl, Nat.zero_le _⟩
  | _, .int _, _ => ⟨rfl, Nat.zero_le _⟩
  | n, .str x, h => ⟨by cases n <;> exact h, Nat.zero_le _⟩
  | 0, .tup _, h => by simp [good] at h
  | 0, .lst _, h => by simp [good] at h
  | n + 1, .tup xs, h => by
    obtain ⟨h1, h2⟩ := goods_lay n xs (by simpa [good] using h)
    exact ⟨by simpa [toPD, PyData.canLay0] using h1, by simpa [toPD, PyData.depth] using h2⟩
  | n + 1, .lst xs, h => by
    obtain ⟨h1, h2⟩ := goods_lay n xs (by simpa [good] using h)
    exact ⟨by simpa [toPD, PyData.canLay0] using h1, by simpa [toPD, PyData.depth] using h2⟩
  | n, .dic _ _, h => by cases n <;> simp [good] at h
  | n, .ref _, h => by cases n <;> simp [good] at h
theorem goods_lay : ∀ (n : Nat) (ds : List D), goods n ds = true → PyData.canLayAll0 (toPDs ds) = true ∧ PyData.depthAll (toPDs ds) ≤ n
  | _, [], _ => ⟨rfl, Nat.zero_le _⟩
  | n, x :: xs, h => by
    have h' : good n x = true ∧ goods n xs = true := by simpa [goods] using h
    obtain ⟨a1, a2⟩ := good_lay n x h'.1
    obtain ⟨b1, b2⟩ := goods_lay n xs h'.2
    exact ⟨by simp [toPDs, PyData.canLayAll0, a1, b1], by simp only [toPDs, PyData.depthAll]; exact Nat.max_le.mpr ⟨a2, b2⟩⟩
end
mutual
theorem eqv_deq : ∀ (n m : Nat) (a b : D), good n a = true → good m b = true → PyData.eqv (toPD a) (toPD b) = deq a b
  | n, m, .non, b, h, k => by cases b <;> first | rfl | (cases m <;> simp [good] at k)
  | n, m, .bl a, b, h, k => by cases b <;> first | rfl | (cases m <;> simp [good] at k)
  | n, m, .int i, b, h, k => by cases b <;> first | rfl | (cases m <;> simp [good] at k)
  | n, m, .str x, b, h, k => by cases b <;> first | rfl | (cases m <;> simp [good] at k)
  | 0, _, .tup _, _, h, _ => by simp [good] at h
  | 0, _, .lst _, _, h, _ => by simp [good] at h
  | n + 1, m, .tup xs, b, h, k => by
    cases b with
    | tup ys =>
      cases m with
      | zero => simp [good] at k
      | succ m => simpa [toPD, PyData.eqv, deq] using eqv_deqs n m xs ys (by simpa [good] using h) (by simpa [good] using k)
    | dic _ _ => cases m <;> simp [good] at k
    | ref _ => cases m <;> simp [good] at k
    | _ => rfl
  | n + 1, m, .lst xs, b, h, k => by
    cases b with
    | lst ys =>
      cases m with
      | zero => simp [good] at k
      | succ m => simpa [toPD, PyData.eqv, deq] using eqv_deqs n m xs ys (by simpa [good] using h) (by simpa [good] using k)
    | dic _ _ => cases m <;> simp [good] at k
    | ref _ => cases m <;> simp [good] at k
    | _ => rfl
  | n, _, .dic _ _, _, h, _ => by cases n <;> simp [good] at h
  | n, _, .ref _, _, h, _ => by cases n <;> simp [good] at h
theorem eqv_deqs : ∀ (n m : Nat) (as bs : List D), goods n as = true → goods m bs = true → PyData.eqvAll (toPDs as) (toPDs bs) = deqs as bs
  | _, _, [], [], _, _ => rfl
  | _, _, [], _ :: _, _, _ => rfl
  | _, _, _ :: _, [], _, _ => rfl
  | n, m, a :: as, b :: bs, h, k => by
    have h' : good n a = true ∧ goods n as = true := by simpa [goods] using h
    have k' : good m b = true ∧ goods m bs = true := by simpa [goods] using k
    simp only [toPDs, PyData.eqvAll, deqs, eqv_deq n m a b h'.1 k'.1, eqv_deqs n m as bs h'.2 k'.2]
end
theorem goods_mem {n : Nat} : ∀ {ds : List D}, goods n ds = true → ∀ d ∈ ds, good n d = true
  | [], _, d, h => by cases h
  | x :: xs, g, d, h => by
    have g' : good n x = true ∧ goods n xs = true := by simpa [goods] using g
    rcases List.mem_cons.mp h with rfl | h
    · exact g'.1
    · exact goods_mem g'.2 d h
theorem goods_of {n : Nat} : ∀ {ds : List D}, (∀ d ∈ ds, good n d = true) → goods n ds = true
  | [], _ => rfl
  | x :: xs, g => by simp [goods, g x List.mem_cons_self, goods_of fun d hd => g d (List.mem_cons_of_mem _ hd)]
theorem any_eqv {n m : Nat} {d : D} (gd : good n d = true) : ∀ {ds : List D}, goods m ds = true → ((toPDs ds).any fun z => PyData.eqv z (toPD d)) = ds.any fun z => deq z d
  | [], _ => rfl
  | x :: xs, g => by
    have g' : good m x = true ∧ goods m xs = true := by simpa [goods] using g
    rw [toPDs, List.any_cons, List.any_cons, eqv_deq m n x d g'.1 gd, any_eqv gd g'.2]
theorem shaped_good {n : Nat} {d : D} (hn : n ≤ 60) (h : good n d = true) : SeqAt.shaped (toPD d) = true := by
  obtain ⟨h1, h2⟩ := good_lay n d h
  have h3 : (toPD d).depth ≤ 64 := Nat.le_trans h2 (by omega)
  unfold SeqAt.shaped
  simp [h1, h3]

section
variable {X : Cx} {B : Bs} {H : Hp} {C : Cs}
theorem SqT.ofK {K : PySem.W.Frag} {H : Hp} {a : Addr} {vs : List V} (h : KTup K a vs) : SqT K H a vs := by
  obtain ⟨o, its, n, h1, h2, h3, h4, h5⟩ := h
  exact .inr ⟨o, its, n, h1, h2, h3, h4, h5⟩
mutual
theorem dp_of {P : Program} {w : World} {K : PySem.W.Frag} {Z : Addr → Prop} : ∀ {n : Nat} {d : D} {v : V}, RD P w K H C Z d v → good n d = true → Dp K H v (toPD d)
  | _, _, _, .non, _ => .non
  | _, _, _, .bl b, _ => .bl b
  | _, _, _, .int i, _ => .int i
  | _, _, _, .str x, _ => .str x
  | n, _, _, .ref a, g => by cases n <;> simp [good] at g
  | 0, _, _, .tup .., g => by simp [good] at g
  | 0, _, _, .tupK .., g => by simp [good] at g
  | 0, _, _, .lst .., g => by simp [good] at g
  | n + 1, _, _, .tup h _ _ _ r, g => .tup (.inl h) (dps_of r (by simpa [good] using g))
  | n + 1, _, _, .tupK h r, g => .tup (SqT.ofK h) (dps_of r (by simpa [good] using g))
  | n + 1, _, _, .lst h _ _ _ r, g => .lst (SqL.of h) (dps_of r (by simpa [good] using g))
  | n, _, _, .dicK .., g => by cases n <;> simp [good] at g
  | n, _, _, .dicKd .., g => by cases n <;> simp [good] at g
  | n, _, _, .dicT .., g => by cases n <;> simp [good] at g
theorem dps_of {P : Program} {w : World} {K : PySem.W.Frag} {Z : Addr → Prop} : ∀ {n : Nat} {ds : List D} {vs : List V}, RDs P w K H C Z ds vs → goods n ds = true → DpAll K H vs (toPDs ds)
  | _, _, _, .nil, _ => .nil
  | n, _, _, .cons r t, g => by
    rename_i d v ds vs
    have g' : good n d = true ∧ goods n ds = true := by simpa [goods] using g
    exact .cons (dp_of r g'.1) (dps_of t g'.2)
end
/-- a list cell's content by value -/
def res (C : Cs) : D → D
  | .ref a => match C a with
    | some (.lst xs) => .lst xs
    | _ => .ref a
  | d => d
theorem dp_res {n : Nat} {d : D} {v : V} (s : Sy X.prog X.w X.K H C B.Z) (r : RD X.prog X.w X.K H C B.Z d v) (g : good n (res C d) = true) : Dp X.K H v (toPD (res C d)) := by
  cases d with
  | ref a =>
    simp only [res] at g ⊢
    cases h : C a with
    | none => rw [h] at g; cases n <;> simp [good] at g
    | some c =>
      rw [h] at g
      cases c with
      | lst xs =>
        cases r
        obtain ⟨vs, h1, h2, h3⟩ := s.cel a _ h
        cases n with
        | zero => simp [good] at g
        | succ n => exact .lst (SqL.of h1) (dps_of h3 (by simpa [good] using g))
      | dic _ _ => cases n <;> simp [good] at g
      | ins _ _ => cases n <;> simp [good] at g
  | _ => exact dp_of r g
def vEq : VOp := fun C x y => if good 20 (res C x) && good 20 (res C y) then some (.bl (deq (res C x) (res C y))) else none
def vNe : VOp := fun C x y => if good 20 (res C x) && good 20 (res C y) then some (.bl (!deq (res C x) (res C y))) else none
theorem lk_eq : LkO X B (rEqD X.K) vEq := fun H C x y z u v Q s r1 r2 e k => by
  unfold vEq at e
  by_cases h : (good 20 (res C x) && good 20 (res C y)) = true
  · rw [if_pos h] at e; cases e
    have g : good 20 (res C x) = true ∧ good 20 (res C y) = true := by simpa using h
    exact ⟨_, _, dp_res s r1 g.1, dp_res s r2 g.2, shaped_good (by decide) g.1, shaped_good (by decide) g.2, by rw [eqv_deq 20 20 _ _ g.1 g.2]; exact k (.bl _) H .refl s (.bl _)⟩
  · rw [if_neg h] at e; cases e
theorem lk_ne : LkO X B (rNeD X.K) vNe := fun H C x y z u v Q s r1 r2 e k => by
  unfold vNe at e
  by_cases h : (good 20 (res C x) && good 20 (res C y)) = true
  · rw [if_pos h] at e; cases e
    have g : good 20 (res C x) = true ∧ good 20 (res C y) = true := by simpa using h
    exact ⟨_, _, dp_res s r1 g.1, dp_res s r2 g.2, shaped_good (by decide) g.1, shaped_good (by decide) g.2, by rw [eqv_deq 20 20 _ _ g.1 g.2]; exact k (.bl _) H .refl s (.bl _)⟩
  · rw [if_neg h] at e; cases e
/-! texts of any kind -/
def vEqS : VOp := fun _ x y => match x, y with
  | .str a, .str b => some (.bl (decide (a = b)))
  | _, _ => none
def vNeS : VOp := fun _ x y => match x, y with
  | .str a, .str b => some (.bl (!decide (a = b)))
  | _, _ => none
theorem lk_eqS : LkO X B rEq vEqS := fun H C x y z u v Q s r1 r2 e k => by
  cases x <;> cases y <;> first | cases e | skip
  cases r1; cases r2
  refine ⟨rfl, ?_⟩
  have := k (.bl (decide _)) H .refl s (.bl _)
  simpa using this
theorem lk_neS : LkO X B rNe vNeS := fun H C x y z u v Q s r1 r2 e k => by
  cases x <;> cases y <;> first | cases e | skip
  cases r1; cases r2
  refine ⟨rfl, ?_⟩
  have := k (.bl (!decide _)) H .refl s (.bl _)
  simpa using this

/-! ### numbers -/
def vI (c : Int → Int → Bool) (g : Int → Int → Int) : VOp := fun _ x y => match x, y with
  | .int i, .int j => if c i j then some (.int (g i j)) else none
  | _, _ => none
def vB (g : Int → Int → Bool) : VOp := fun _ x y => match x, y with
  | .int i, .int j => some (.bl (g i j))
  | _, _ => none
theorem lk_I {c : Int → Int → Bool} {g : Int → Int → Int} {P : Int → Int → Prop} (h : ∀ i j, c i j = true → P i j) : LkO X B (rI P fun i j => .int (g i j)) (vI c g) := fun H C x y z u v Q s r1 r2 e k => by
  cases x <;> cases y <;> first | (simp [vI] at e; done) | skip
  rename_i i j
  simp only [vI] at e
  by_cases hc : c i j = true
  · rw [if_pos hc] at e; cases e; cases r1; cases r2
    exact ⟨_, _, rfl, rfl, h _ _ hc, k (.int _) H .refl s (.int _)⟩
  · rw [if_neg hc] at e; cases e
theorem lk_I0 {g : Int → Int → Int} : LkO X B (rI0 fun i j => .int (g i j)) (vI (fun _ _ => true) g) := fun H C x y z u v Q s r1 r2 e k => by
  cases x <;> cases y <;> first | (simp [vI] at e; done) | skip
  simp only [vI, if_true] at e
  cases e; cases r1; cases r2
  exact ⟨_, _, rfl, rfl, k (.int _) H .refl s (.int _)⟩
theorem lk_B {g : Int → Int → Bool} : LkO X B (rI0 fun i j => .bl (g i j)) (vB g) := fun H C x y z u v Q s r1 r2 e k => by
  cases x <;> cases y <;> first | cases e | skip
  cases r1; cases r2
  exact ⟨_, _, rfl, rfl, k (.bl _) H .refl s (.bl _)⟩

/-! ### + -/
def vAdd : VOp := fun C x y => match x, y with
  | .int i, .int j => some (.int (i + j))
  | .str a, .str b => if a.length + b.length ≤ sizeLine then some (.str (a ++ b)) else none
  | .tup xs, .tup ys => if xs.length + ys.length ≤ sizeLine then some (.tup (xs ++ ys)) else none
  | x, y => match asL C x, asL C y with
    | some xs, some ys => if xs.length + ys.length ≤ sizeLine then some (.lst (xs ++ ys)) else none
    | _, _ => none
def rAddA (K : PySem.W.Frag) : R2 := fun x y H Q => ((((∃ i j, x = .int i ∧ y = .int j ∧ Q (.int (i + j)) H) ∨ (∃ i j, x = .str i ∧ y = .str j ∧ i.length + j.length ≤ sizeLine ∧ Q (.str (i ++ j)) H)) ∨ rCatA K x y H Q) ∨ rCat x y H Q)
theorem op_addA : OpR X (binaryOp .Add) (rAddA X.K) := ((op_add.or op_add_str).or op_catA).or op_cat
theorem lk_add : LkO X B (rAddA X.K) vAdd := fun H C x y z u v Q s r1 r2 e k => by
  have lists : ∀ {xs ys : List D}, asL C x = some xs → asL C y = some ys → (if xs.length + ys.length ≤ sizeLine then some (D.lst (xs ++ ys)) else none) = some z → rAddA X.K u v H Q := fun {xs ys} e1 e2 e => by
    obtain ⟨a, vs, rfl, h1, z1, q1⟩ := asL_rd s r1 e1
    obtain ⟨b, us, rfl, h2, z2, q2⟩ := asL_rd s r2 e2
    by_cases hz : xs.length + ys.length ≤ sizeLine
    · rw [if_pos hz] at e; cases e
      have hz' : vs.length + us.length ≤ sizeLine := by rw [← q1.length, ← q2.length]; exact hz
      refine .inr ⟨a, b, vs, us, rfl, rfl, h1, h2, hz', fun p hp => ?_⟩
      exact k (.ref p) _ (Pers.laid hp) (s.laid hp) (.lst upd_same (s.free hp) (s.nz hp) (by rw [List.length_append]; exact hz') ((q1.append q2).pers (Pers.laid hp)))
    · rw [if_neg hz] at e; cases e
  have gen : (match asL C x, asL C y with
    | some xs, some ys => if xs.length + ys.length ≤ sizeLine then some (D.lst (xs ++ ys)) else none
    | _, _ => none) = some z → rAddA X.K u v H Q := fun e => by
    cases h1 : asL C x with
    | none => rw [h1] at e; cases e
    | some xs =>
      cases h2 : asL C y with
      | none => rw [h1, h2] at e; cases e
      | some ys => rw [h1, h2] at e; exact lists h1 h2 e
  cases x with
  | int i =>
    cases y with
    | int j => cases e; cases r1; cases r2; exact .inl (.inl (.inl ⟨i, j, rfl, rfl, k _ H .refl s (.int _)⟩))
    | _ => exact gen e
  | str a =>
    cases y with
    | str b =>
      simp only [vAdd] at e
      by_cases hz : a.length + b.length ≤ sizeLine
      · rw [if_pos hz] at e; cases e; cases r1; cases r2; exact .inl (.inl (.inr ⟨a, b, rfl, rfl, hz, k _ H .refl s (.str _)⟩))
      · rw [if_neg hz] at e; cases e
    | _ => exact gen e
  | tup xs =>
    cases y with
    | tup ys =>
      simp only [vAdd] at e
      by_cases hz : xs.length + ys.length ≤ sizeLine
      · rw [if_pos hz] at e; cases e
        obtain ⟨a, vs, rfl, h1, z1, q1⟩ := asT_rd r1 (xs := xs) rfl
        obtain ⟨b, us, rfl, h2, z2, q2⟩ := asT_rd r2 (xs := ys) rfl
        have hz' : vs.length + us.length ≤ sizeLine := by rw [← q1.length, ← q2.length]; exact hz
        refine .inl (.inr ⟨a, b, vs, us, rfl, rfl, h1, h2, hz', fun e => ?_, fun _ e => ?_, fun _ _ p hp => ?_⟩)
        · subst e; cases q1; exact k _ H .refl s r2
        · subst e; cases q2; rw [List.append_nil] at k; exact k _ H .refl s r1
        · exact k (.ref p) _ (Pers.laid hp) (s.laid hp) (.tup (.inl upd_same) (s.free hp) (s.nz hp) (by rw [List.length_append]; exact hz') ((q1.append q2).pers (Pers.laid hp)))
      · rw [if_neg hz] at e; cases e
    | _ => exact gen e
  | _ => exact gen e

/-! ### subscripts -/
def vIx : VOp := fun C x y => match y with
  | .int i => match x with
    | .tup xs => atI xs i
    | x => match asL C x with
      | some xs => atI xs i
      | none => none
  | _ => none
theorem atI_rds {P : Program} {w : World} {K : PySem.W.Frag} {Z : Addr → Prop} {xs : List D} {vs : List V} {i : Int} {z : D} (r : RDs P w K H C Z xs vs) (e : atI xs i = some z) : ∃ v, atI vs i = some v ∧ RD P w K H C Z z v := by
  unfold atI at e ⊢
  rw [r.length] at e
  cases h : ixN vs.length i with
  | none => rw [h] at e; cases e
  | some j =>
    rw [h] at e
    exact r.get' e
theorem lk_ix : LkO X B (rIx X.K) vIx := fun H C x y z u v Q s r1 r2 e k => by
  cases y with
  | int i =>
    cases r2
    have lists : ∀ {xs : List D}, asL C x = some xs → atI xs i = some z → rIx X.K u (.int i) H Q := fun {xs} e1 e => by
      obtain ⟨a, vs, rfl, h1, z1, q1⟩ := asL_rd s r1 e1
      obtain ⟨w, h2, h3⟩ := atI_rds q1 e
      exact .inl ⟨a, vs, i, w, rfl, rfl, SqL.of h1, h2, k w H .refl s h3⟩
    have gen : (match asL C x with
      | some xs => atI xs i
      | none => none) = some z → rIx X.K u (.int i) H Q := fun e => by
      cases h : asL C x with
      | none => rw [h] at e; cases e
      | some xs => rw [h] at e; exact lists h e
    cases x with
    | tup xs =>
      obtain ⟨a, vs, rfl, h1, z1, q1⟩ := asT_rd r1 (xs := xs) rfl
      obtain ⟨w, h2, h3⟩ := atI_rds q1 e
      exact .inr (.inl ⟨a, vs, i, w, rfl, rfl, h1, h2, k w H .refl s h3⟩)
    | _ => exact gen e
  | _ => cases e
end
end DL

set_option Elab.async false
set_option linter.all false
set_option maxRecDepth 100000
set_option maxHeartbeats 2000000
/-! DlN: dicts whose keys are nested tuples, over HandS' abstract heap. -/
namespace DL
open PySem PySem.Spec PyProof.Rows L2

mutual
inductive NK (K : PySem.W.Frag) (H : Hp) : NestedKey → V → Prop
  | none : NK K H .none .non
  | bl (b : Bool) : NK K H (.num (if b = true then 1 else 0)) (.bl b)
  | int (i : Int) : NK K H (.num i) (.int i)
  | text (x : Str) : NK K H (.text x) (.str x)
  | tup {a : Addr} {ks : List NestedKey} {vs : List V} : SqT K H a vs → NKs K H ks vs → NK K H (.tup ks) (.ref a)
inductive NKs (K : PySem.W.Frag) (H : Hp) : List NestedKey → List V → Prop
  | nil : NKs K H [] []
  | cons {k : NestedKey} {v : V} {ks : List NestedKey} {vs : List V} : NK K H k v → NKs K H ks vs → NKs K H (k :: ks) (v :: vs)
end
section
variable {X : Cx} {pins : List (Addr × Obj)} {σ : L2.St} {H : Hp} {s : Shared}
mutual
theorem NK.is (I : Inv X pins σ H s) : ∀ {k : NestedKey} {v : V} {u : Value}, NK X.K H k v → RelV v u → NestedIs s.heap k u
  | _, _, _, .none, r => by cases r; exact .none
  | _, _, _, .bl b, r => by cases r; exact .bool rfl
  | _, _, _, .int i, r => by obtain ⟨t, rfl⟩ := r; exact .int i t
  | _, _, _, .text x, r => by obtain ⟨t, rfl⟩ := r; exact .text x t
  | _, _, _, .tup h q, r => by
    cases r
    obtain ⟨its, rv, ⟨o, h1, h2, n, h3⟩, _⟩ := I.tuple h
    exact .tup h1 h2 h3 (by simpa using NKs.is I q rv)
theorem NKs.is (I : Inv X pins σ H s) : ∀ {ks : List NestedKey} {vs : List V} {us : List Value}, NKs X.K H ks vs → Vals vs us → NestedAll s.heap ks us
  | _, _, _, .nil, r => by cases r; exact .nil
  | _, _, _, .cons h t, r => by cases r with | cons r1 r2 => exact .cons (NK.is I h r1) (NKs.is I t r2)
end
end
mutual
theorem nk_of {P : Program} {w : World} {K : PySem.W.Frag} {H : Hp} {C : Cs} {Z : Addr → Prop} : ∀ {d : D} {v : V} {k : NestedKey}, RD P w K H C Z d v → nk d = some k → NK K H k v
  | _, _, _, .non, e => by cases e; exact .none
  | _, _, _, .bl b, e => by cases e; exact .bl b
  | _, _, _, .int i, e => by cases e; exact .int i
  | _, _, _, .str x, e => by cases e; exact .text x
  | _, _, _, .ref a, e => by cases e
  | _, _, _, .tup (xs := xs) h _ _ _ r, e => by
    simp only [nk] at e
    cases q : nks xs with
    | none => rw [q] at e; cases e
    | some ks => rw [q] at e; cases e; exact .tup (.inl h) (nks_of r q)
  | _, _, _, .tupK (xs := xs) h r, e => by
    simp only [nk] at e
    cases q : nks xs with
    | none => rw [q] at e; cases e
    | some ks => rw [q] at e; cases e; exact .tup (SqT.ofK h) (nks_of r q)
  | _, _, _, .lst .., e => by cases e
  | _, _, _, .dicK .., e => by cases e
  | _, _, _, .dicKd .., e => by cases e
  | _, _, _, .dicT .., e => by cases e
theorem nks_of {P : Program} {w : World} {K : PySem.W.Frag} {H : Hp} {C : Cs} {Z : Addr → Prop} : ∀ {ds : List D} {vs : List V} {ks : List NestedKey}, RDs P w K H C Z ds vs → nks ds = some ks → NKs K H ks vs
  | _, _, _, .nil, e => by cases e; exact .nil
  | _, _, _, .cons (d := d) (ds := ds) r t, e => by
    simp only [nks] at e
    cases q : nk d with
    | none => rw [q] at e; cases e
    | some k =>
      cases q2 : nks ds with
      | none => rw [q, q2] at e; cases e
      | some ks => rw [q, q2] at e; cases e; exact .cons (nk_of r q) (nks_of t q2)
end

abbrev NX := List (NestedKey × Addr × V)
def nGet (xs : NX) (k : NestedKey) : Option V := (xs.find? fun x => decide (x.1 = k)).map (·.2.2)
def nPut (xs : NX) (k : NestedKey) (b : Addr) (v : V) : NX := if (nGet xs k).isSome = true then xs.map (fun x => if x.1 = k then (x.1, x.2.1, v) else x) else xs ++ [(k, b, v)]
/-- at a stands a dict with the entries xs (an empty one, of either kind) -/
def RdN (P : Program) (w : World) (H : Hp) (a : Addr) (xs : NX) : Prop := Rd H a (dT P w a xs) ∨ (xs = [] ∧ Rd H a (.dK []))
def MuN (P : Program) (w : World) (H : Hp) (a : Addr) (xs : NX) : Prop := H a = some (dT P w a xs) ∨ (xs = [] ∧ H a = some (.dK []))
theorem MuN.rd {P : Program} {w : World} {H : Hp} {a : Addr} {xs : NX} (h : MuN P w H a xs) : RdN P w H a xs := h.elim (fun h => .inl (.inl h)) fun h => .inr ⟨h.1, .inl h.2⟩
theorem MuN.mut {P : Program} {w : World} {H : Hp} {a : Addr} {xs : NX} (h : MuN P w H a xs) : Mut (H a) := by
  rcases h with h | ⟨_, h⟩ <;> rw [h] <;> trivial
/-- the keys are keys -/
def KeysN (K : PySem.W.Frag) (H : Hp) (xs : NX) : Prop := ∀ x ∈ xs, NK K H x.1 (.ref x.2.1) ∧ x.1.depth ≤ 8
abbrev PN : NX → List (NestedKey × Addr × Value) → Prop := Paired fun (p : NestedKey × Addr × V) (q : NestedKey × Addr × Value) => p.1 = q.1 ∧ p.2.1 = q.2.1 ∧ RelV p.2.2 q.2.2

theorem PN.get {xs : NX} {ys : List (NestedKey × Addr × Value)} (r : PN xs ys) (k : NestedKey) : RelO (nGet xs k) ((atKey ys k).map (·.2)) := by
  induction r with
  | nil => exact True.intro
  | @cons p q ps qs h t ih =>
    obtain ⟨h1, h2, h3⟩ := h
    by_cases e : p.1 = k
    · have e' : q.1 = k := h1 ▸ e
      simp only [nGet, atKey, List.find?_cons, e, e', decide_true, Option.map_some]
      exact h3
    · have e' : ¬ q.1 = k := h1 ▸ e
      simp only [nGet, atKey, List.find?_cons, e, e', decide_false] at ih ⊢
      exact ih
theorem PN.put {xs : NX} {ys : List (NestedKey × Addr × Value)} (r : PN xs ys) (k : NestedKey) (b : Addr) {v : V} {u : Value} (rv : RelV v u) : PN (nPut xs k b v) (storedH ys k b u) := by
  have e : (nGet xs k).isSome = (atKey ys k).isSome := by
    have q := (r.get k).isSome_eq
    rwa [Option.isSome_map] at q
  unfold nPut storedH
  rw [e]
  by_cases h : (atKey ys k).isSome = true
  · rw [if_pos h, if_pos h]
    clear e h
    induction r with
    | nil => exact .nil
    | @cons p q ps qs h t ih =>
      obtain ⟨h1, h2, h3⟩ := h
      rw [List.map_cons, List.map_cons]
      refine .cons ?_ ih
      by_cases e : p.1 = k
      · rw [if_pos e, putAt, if_pos (h1 ▸ e)]; exact ⟨h1, h2, rv⟩
      · rw [if_neg e, putAt, if_neg (h1 ▸ e)]; exact ⟨h1, h2, h3⟩
  · rw [if_neg h, if_neg h]
    exact Paired.snoc r ⟨rfl, rfl, rv⟩
theorem nPut_length (xs : NX) (k : NestedKey) (b : Addr) (v : V) : (nPut xs k b v).length ≤ xs.length + 1 := by
  unfold nPut
  split
  · rw [List.length_map]; omega
  · rw [List.length_append]; exact Nat.le_refl _

section
variable {X : Cx} {pins : List (Addr × Obj)} {σ : L2.St} {H : Hp} {s : Shared} {a b : Addr} {xs : NX} {k : NestedKey} {v : V} {u r : Value} {A : Around} {E : Value → Shared → Prop}
theorem dn_of (I : Inv X pins σ H s) (h : RdN X.prog X.w H a xs) (hk : KeysN X.K H xs) : xs.length ≤ sizeLine ∧ (a == sysModules) = false ∧ ∃ ys, PN xs ys ∧ s.heap.DictOfH (nestedKind X.prog X.w) a ys := by
  rcases h with h | ⟨rfl, h⟩
  · obtain ⟨⟨⟨ys, r, o, es, ep, h1, h2, h3, h4, h5⟩, hz, hm⟩, _, _⟩ := (show ObjOk X.prog X.w H s.heap a (dT X.prog X.w a xs) from h.ok I.hok)
    refine ⟨hz, hm, ys, r, o, es, ep, h1, h2, h3, h4, fun y hy => ?_, h5⟩
    have all : ∀ {xs : NX} {ys : List (NestedKey × Addr × Value)}, PN xs ys → KeysN X.K H xs → ∀ y ∈ ys, (nestedKind X.prog X.w).is s.heap y.1 y.2.1 := by
      intro xs ys r
      induction r with
      | nil => intro _ y hy; cases hy
      | @cons p q ps qs h t ih =>
        intro hk y hy
        rcases List.mem_cons.mp hy with e | hy
        · subst e
          obtain ⟨g1, g2⟩ := hk p List.mem_cons_self
          rw [h.1, h.2.1] at g1
          rw [h.1] at g2
          exact ⟨g1.is I rfl, g2⟩
        · exact ih (fun x hx => hk x (List.mem_cons_of_mem _ hx)) y hy
    exact all r hk y hy
  · obtain ⟨z, hd, vs, rel, o, es, ep, h1, h2, h3, h4, h5, h6⟩ := dk_rd I.hok h
    cases rel
    refine ⟨Nat.zero_le _, hd, [], .nil, o, es, ep, h1, h2, h3, ?_, fun y hy => (nomatch hy), List.nodup_nil⟩
    have := h5.length
    exact List.eq_nil_of_length_eq_zero (by simpa using this)
theorem dn_room (hu : A.units + 9 < cLine) : (nestedKind X.prog X.w).room A.in1 := by
  show A.units + 1 + 8 < cLine; omega
theorem dn_key (I : Inv X pins σ H s) (hk : NK X.K H k (.ref b)) (hd : k.depth ≤ 8) : (nestedKind X.prog X.w).is s.heap k b := ⟨hk.is I rfl, hd⟩
theorem dn_getItem {Q : Value → Shared → Prop} (hu : A.units + 9 < cLine) (I : Inv X pins σ H s) (h : RdN X.prog X.w H a xs) (hk : KeysN X.K H xs) (nb : NK X.K H k (.ref b)) (hd : k.depth ≤ 8) (e : nGet xs k = some v)
    (q : ∀ w' s', Inv X pins σ H s' → RelV v w' → Q w' s') : wpAny (model X.prog X.w) A (getItem (.ref a) (.ref b)) Q E s := by
  obtain ⟨z, hm, ys, r, dd⟩ := dn_of I h hk
  have g := r.get k
  rw [e] at g
  cases h1 : atKey ys k with
  | none => rw [h1] at g; exact (show False from g).elim
  | some p =>
    rw [h1] at g
    exact wpAny_getItem_heap (dn_room (X := X) hu) (dn_key I nb hd) dd h1 (q p.2 _ (I.tok _) g)
theorem dn_in {Q : Value → Shared → Prop} (hu : A.units + 9 < cLine) (I : Inv X pins σ H s) (h : RdN X.prog X.w H a xs) (hk : KeysN X.K H xs) (nb : NK X.K H k (.ref b)) (hd : k.depth ≤ 8)
    (q : ∀ s', Inv X pins σ H s' → Q (.bool (nGet xs k).isSome) s') : wpAny (model X.prog X.w) A (compareOp .In (.ref b) (.ref a)) Q E s := by
  obtain ⟨z, hm, ys, r, dd⟩ := dn_of I h hk
  have g := (r.get k).isSome_eq
  rw [Option.isSome_map] at g
  refine wpAny_in_heap (dn_room (X := X) hu) (dn_key I nb hd) hm dd ?_
  rw [← g]
  exact q _ (I.tok _)
theorem dn_notIn {Q : Value → Shared → Prop} (hu : A.units + 9 < cLine) (I : Inv X pins σ H s) (h : RdN X.prog X.w H a xs) (hk : KeysN X.K H xs) (nb : NK X.K H k (.ref b)) (hd : k.depth ≤ 8)
    (q : ∀ s', Inv X pins σ H s' → Q (.bool (!(nGet xs k).isSome)) s') : wpAny (model X.prog X.w) A (compareOp .NotIn (.ref b) (.ref a)) Q E s := by
  obtain ⟨z, hm, ys, r, dd⟩ := dn_of I h hk
  have g := (r.get k).isSome_eq
  rw [Option.isSome_map] at g
  refine wpAny_notIn_heap (dn_room (X := X) hu) (dn_key I nb hd) hm dd ?_
  rw [← g]
  exact q _ (I.tok _)
/-- a dict's object holds the entries -/
theorem dn_obj {H' : Hp} {h' : Heap} {ys : List (NestedKey × Addr × Value)} (hz : xs.length ≤ sizeLine) (hm : (a == sysModules) = false) (r : PN xs ys) (dd : h'.DictOfH (nestedKind X.prog X.w) a ys) : ObjOk X.prog X.w H' h' a (dT X.prog X.w a xs) := by
  obtain ⟨o, es, ep, h1, h2, h3, h4, h5, h6⟩ := dd
  refine ⟨⟨⟨ys, r, o, es, ep, h1, h2, h3, h4, h6⟩, hz, hm⟩, ⟨o, h1⟩, fun g1 g2 p k => ?_⟩
  obtain ⟨⟨ys, r, o, es, ep, h1, h2, h3, h4, h6⟩, hz, hm⟩ := p
  exact ⟨⟨ys, r, o, es, ep, k o h1, h2, h3, h4, h6⟩, hz, hm⟩
theorem dn_write {h' : Heap} {t' : Nat} {ys : List (NestedKey × Addr × Value)} {xs' : NX} (I : Inv X pins σ H s) (mu : Mut (H a)) (hs : Heap.SameBut a s.heap h') (hz : xs'.length ≤ sizeLine) (hm : (a == sysModules) = false) (r : PN xs' ys) (dd : h'.DictOfH (nestedKind X.prog X.w) a ys) :
    Inv X pins σ (upd H a (dT X.prog X.w a xs')) { s with heap := h', toks := t' } :=
  d_write I mu hs (let ⟨q, _, _, hq, _⟩ := dd; ⟨q, hq⟩) (dn_obj hz hm r dd)
theorem dn_setItem {Q : Unit → Shared → Prop} (hu : A.units + 9 < cLine) (I : Inv X pins σ H s) (h : MuN X.prog X.w H a xs) (hk : KeysN X.K H xs) (nb : NK X.K H k (.ref b)) (hd : k.depth ≤ 8) (hl : xs.length < sizeLine) (rv : RelV v r)
    (q : ∀ s', Inv X pins σ (upd H a (dT X.prog X.w a (nPut xs k b v))) s' → Q () s') : wpAny (model X.prog X.w) A (setItem (.ref a) (.ref b) r) Q E s := by
  obtain ⟨z, hm, ys, rel, dd⟩ := dn_of I h.rd hk
  have hz : ys.length ≤ sizeLine := by rw [← Paired.length rel]; exact z
  have hl' : (nPut xs k b v).length ≤ sizeLine := by have := nPut_length xs k b v; omega
  exact wpAny_setItem_heap (hsz := hz) (dn_room (X := X) hu) (dn_key I nb hd) dd fun h' dd' hs => q _ (dn_write I h.mut hs hl' hm (rel.put k b rv) dd')
theorem dn_setdefault {Q : Value → Shared → Prop} (hu : A.units + 9 < cLine) (I : Inv X pins σ H s) (h : MuN X.prog X.w H a xs) (hk : KeysN X.K H xs) (nb : NK X.K H k (.ref b)) (hd : k.depth ≤ 8) (hl : xs.length < sizeLine) (rv : RelV v r)
    (q1 : ∀ v' w' s', nGet xs k = some v' → Inv X pins σ H s' → RelV v' w' → Q w' s') (q2 : ∀ s', nGet xs k = none → Inv X pins σ (upd H a (dT X.prog X.w a (nPut xs k b v))) s' → Q r s') : wpAny (model X.prog X.w) A (call (.builtin "dict.setdefault") [.ref a, .ref b, r]) Q E s := by
  obtain ⟨z, hm, ys, rel, dd⟩ := dn_of I h.rd hk
  have hz : ys.length ≤ sizeLine := by rw [← Paired.length rel]; exact z
  have hl' : (nPut xs k b v).length ≤ sizeLine := by have := nPut_length xs k b v; omega
  have g := rel.get k
  refine call_setdefault_heap (hsz := hz) (dn_room (X := X) hu) (dn_key I nb hd) hm dd (fun p hp => ?_) fun hn h' dd' hs => ?_
  · rw [hp] at g
    cases e : nGet xs k with
    | none => rw [e] at g; exact (show False from g).elim
    | some v' => rw [e] at g; exact q1 v' p.2 _ e (I.tok _) g
  · rw [hn] at g
    cases e : nGet xs k with
    | some v' => rw [e] at g; exact (show False from g).elim
    | none => exact q2 _ e (dn_write I h.mut hs hl' hm (rel.put k b rv) dd')
theorem dn_len {Q : Value → Shared → Prop} (I : Inv X pins σ H s) (h : RdN X.prog X.w H a xs) (hk : KeysN X.K H xs) (q : ∀ t s', Inv X pins σ H s' → Q (.int xs.length t) s') : wpAny (model X.prog X.w) A (call (.builtin "len") [.ref a]) Q E s := by
  obtain ⟨z, hm, ys, rel, dd⟩ := dn_of I h hk
  have e : ys.length = xs.length := (Paired.length rel).symm
  have dk : s.heap.DictKeyed (nestedKind X.prog X.w) a (pairsH ys) := ⟨ys, dd, rfl⟩
  refine PyProof.Rows.call_len_slot (n := (pairsH ys).length) dd.typeIs F.slot_dict_len (fun Q' hq => len_keyed hm dk hq) (by omega) (by rw [sizeLine_eq] at z; rw [pairsH_length]; omega) ?_
  rw [pairsH_length, e]
  exact q _ _ (I.tok _)
theorem dn_getD {Q : Value → Shared → Prop} (hu : A.units + 9 < cLine) (I : Inv X pins σ H s) (h : RdN X.prog X.w H a xs) (hk : KeysN X.K H xs) (nb : NK X.K H k (.ref b)) (hd : k.depth ≤ 8) (rv : RelV v r)
    (q : ∀ w' s', Inv X pins σ H s' → RelV ((nGet xs k).getD v) w' → Q w' s') : wpAny (model X.prog X.w) A (call (.builtin "dict.get") [.ref a, .ref b, r]) Q E s := by
  obtain ⟨z, hm, ys, rel, dd⟩ := dn_of I h hk
  have dk : s.heap.DictKeyed (nestedKind X.prog X.w) a (pairsH ys) := ⟨ys, dd, rfl⟩
  refine getOr_keyed (dn_room (X := X) hu) (dn_key I nb hd) hm dk (q _ _ (I.tok _) ?_)
  rw [valueAt_pairsH]
  exact (rel.get k).getD rv
end
end DL

set_option Elab.async false
set_option linter.all false
set_option maxRecDepth 100000
set_option maxHeartbeats 2000000
/-! DlD: dicts read, in, slices, chains, tests. -/
namespace DL
open PySem PySem.Spec PyProof.Rows L2

/-! ### what a datum is as a dict -/
def asD (C : Cs) : D → Option (List D × List D)
  | .dic ks ds => some (ks, ds)
  | .ref a => match C a with
    | some (.dic ks ds) => some (ks, ds)
    | _ => none
  | _ => none
def isTup : D → Bool
  | .tup _ => true
  | _ => false
def isScal : D → Bool
  | .int _ => true
  | .str _ => true
  | _ => false
def sameS : D → D → Bool
  | .int _, .int _ => true
  | .str _, .str _ => true
  | _, _ => false
theorem sameS_tup {k0 k : D} (h : isTup k0 = true) : sameS k0 k = false := by cases k0 <;> first | rfl | cases h
def kOk (ks : List D) (k : D) : Bool := (isTup k && (match ks with | [] => true | k0 :: _ => isTup k0)) || (isScal k && (match ks with | [] => true | k0 :: _ => sameS k0 k))
def kdGet (kvs : List (Str × V)) (z : Str) : Option V := (kvs.find? fun p => decide (p.1 = z)).map (·.2)
def dfind : List D → List D → NestedKey → Option D
  | k :: ks, d :: ds, n => if nk k = some n then some d else dfind ks ds n
  | _, _, _ => none
/-- the key of a dict's entry, if it is one of the dict's kind -/
def keyIn (ks : List D) (k : D) : Option NestedKey := match nk k with
  | some n => if n.depth ≤ 8 ∧ kOk ks k = true then some n else none
  | none => none
def vDGet : VOp := fun C x k => match asD C x with
  | some (ks, ds) => match keyIn ks k with
    | some n => dfind ks ds n
    | none => none
  | none => none
def vDIn : VOp := fun C k x => match asD C x with
  | some (ks, ds) => match keyIn ks k with
    | some n => some (.bl (dfind ks ds n).isSome)
    | none => none
  | none => none
def vDNotIn : VOp := fun C k x => match asD C x with
  | some (ks, ds) => match keyIn ks k with
    | some n => some (.bl (!(dfind ks ds n).isSome))
    | none => none
  | none => none

/-- at a stands a dict of such keys and values: what it is over HandS' heap -/
inductive DcAt (P : Program) (w : World) (K : PySem.W.Frag) (H : Hp) (C : Cs) (Z : Addr → Prop) (a : Addr) (ks ds : List D) : Prop
  | k {kvs : List (Key × V)} : Rd H a (.dK kvs) → ks = kvs.map (fun p => kD p.1) → RDs P w K H C Z ds (kvs.map (·.2)) → DcAt P w K H C Z a ks ds
  | kd {kvs : List (Str × V)} : KDc K w a kvs → ks = kvs.map (fun p => .str p.1) → RDs P w K H C Z ds (kvs.map (·.2)) → DcAt P w K H C Z a ks ds
  | t {xs : NX} : Rd H a (dT P w a xs) → (xs ≠ [] ∧ ∀ x ∈ xs, x.1.depth ≤ 8) → ks.map nk = xs.map (fun x => some x.1) → RDs P w K H C Z ks (xs.map fun x => .ref x.2.1) → RDs P w K H C Z ds (xs.map (·.2.2)) → DcAt P w K H C Z a ks ds
section
variable {X : Cx} {B : Bs} {H : Hp} {C : Cs} {ks ds : List D} {k d : D} {v u : V} {a : Addr} {n : NestedKey}
theorem asD_rd (s : Sy X.prog X.w X.K H C B.Z) (r : RD X.prog X.w X.K H C B.Z d v) (e : asD C d = some (ks, ds)) : ∃ a, v = .ref a ∧ DcAt X.prog X.w X.K H C B.Z a ks ds := by
  cases d with
  | dic ks' ds' =>
    cases e
    cases r with
    | dicK h c z e r => exact ⟨_, rfl, .k (.inr ⟨_, h⟩) e r⟩
    | dicKd h e r => exact ⟨_, rfl, .kd h e r⟩
    | dicT h c z n e r q => exact ⟨_, rfl, .t (.inr ⟨_, h⟩) n e r q⟩
  | ref a =>
    cases r
    simp only [asD] at e
    cases h : C a with
    | none => rw [h] at e; cases e
    | some c =>
      rw [h] at e
      cases c with
      | lst _ => cases e
      | ins _ _ => cases e
      | dic ks' ds' =>
        cases e
        rcases s.cel a _ h with ⟨kvs, h1, h2, h3⟩ | ⟨xs, h1, h2, h3, h4, h5⟩
        · exact ⟨a, rfl, .k (.inl h1) h2 h3⟩
        · exact ⟨a, rfl, .t (.inl h1) h2 h3 h4 h5⟩
  | _ => cases e
theorem keyIn_some (e : keyIn ks k = some n) : nk k = some n ∧ n.depth ≤ 8 ∧ kOk ks k = true := by
  unfold keyIn at e
  cases h : nk k with
  | none => rw [h] at e; cases e
  | some m =>
    rw [h] at e
    by_cases q : m.depth ≤ 8 ∧ kOk ks k = true
    · simp only [q, and_self, if_true] at e; cases e; exact ⟨rfl, q⟩
    · simp only [q, if_false] at e; cases e
def kN : Key → NestedKey
  | .inl i => .num i
  | .inr x => .text x
theorem nk_kD (p : Key) : nk (kD p) = some (kN p) := by cases p <;> rfl
theorem kD_key {k : D} {v : V} {P : Program} {w : World} {K : PySem.W.Frag} {Z : Addr → Prop} (h : isScal k = true) (r : RD P w K H C Z k v) : ∃ p : Key, k = kD p ∧ v = kV p := by
  cases r with
  | int i => exact ⟨.inl i, rfl, rfl⟩
  | str x => exact ⟨.inr x, rfl, rfl⟩
  | _ => simp [isScal] at h
theorem kD_inj {p q : Key} : nk (kD p) = nk (kD q) ↔ p = q := by
  cases p <;> cases q <;> simp [kD, nk]
theorem dfind_k {P : Program} {w : World} {K : PySem.W.Frag} {Z : Addr → Prop} {p : Key} : ∀ {kvs : List (Key × V)} {ds : List D}, RDs P w K H C Z ds (kvs.map (·.2)) →
    match dfind (kvs.map fun q => kD q.1) ds (kN p), valV kvs p with
    | some d, some v => RD P w K H C Z d v
    | none, none => True
    | _, _ => False
  | [], _, r => by cases r; exact True.intro
  | kv :: kvs, _, r => by
    cases r with
    | cons r1 r2 =>
      rename_i d ds
      rw [List.map_cons]
      unfold dfind
      by_cases e : kv.1 = p
      · rw [if_pos (by rw [e, nk_kD]), valV_pos e]
        exact r1
      · rw [if_neg (by rw [← nk_kD]; exact fun z => e (kD_inj.mp z)), valV_neg e]
        exact dfind_k r2
theorem dfind_t {P : Program} {w : World} {K : PySem.W.Frag} {Z : Addr → Prop} {n : NestedKey} : ∀ {xs : NX} {ks ds : List D}, ks.map nk = xs.map (fun x => some x.1) → RDs P w K H C Z ds (xs.map (·.2.2)) →
    match dfind ks ds n, nGet xs n with
    | some d, some v => RD P w K H C Z d v
    | none, none => True
    | _, _ => False
  | [], ks, ds, e, r => by cases r; cases ks <;> exact True.intro
  | x :: xs, [], _, e, _ => by simp at e
  | x :: xs, k :: ks, _, e, r => by
    cases r with
    | cons r1 r2 =>
      rw [List.map_cons, List.map_cons, List.cons.injEq] at e
      unfold dfind
      by_cases q : x.1 = n
      · rw [if_pos (by rw [e.1, q])]
        simp only [nGet, List.find?_cons, q, decide_true, Option.map_some]
        exact r1
      · rw [if_neg (by rw [e.1]; exact fun z => q (Option.some.inj z))]
        have := dfind_t (n := n) e.2 r2
        simp only [nGet, List.find?_cons, q, decide_false] at this ⊢
        exact this
theorem keysN_of (e : ks.map nk = (xs : NX).map (fun x => some x.1)) (r : RDs X.prog X.w X.K H C B.Z ks (xs.map fun x => .ref x.2.1)) (hd : ∀ x ∈ xs, x.1.depth ≤ 8) : KeysN X.K H xs := by
  intro x hx
  refine ⟨?_, hd x hx⟩
  obtain ⟨i, hi⟩ := List.mem_iff_getElem?.mp hx
  have h1 : (xs.map fun x => (V.ref x.2.1))[i]? = some (.ref x.2.1) := by rw [List.getElem?_map, hi]; rfl
  obtain ⟨d, h2, h3⟩ := r.get h1
  have h4 : (ks.map nk)[i]? = some (some x.1) := by rw [e, List.getElem?_map, hi]; rfl
  rw [List.getElem?_map, h2] at h4
  exact nk_of h3 (Option.some.inj h4)
theorem dfind_kd {P : Program} {w : World} {K : PySem.W.Frag} {Z : Addr → Prop} {z : Str} : ∀ {kvs : List (Str × V)} {ds : List D}, RDs P w K H C Z ds (kvs.map (·.2)) →
    match dfind (kvs.map fun q => D.str q.1) ds (kN (.inr z)), kdGet kvs z with
    | some d, some v => RD P w K H C Z d v
    | none, none => True
    | _, _ => False
  | [], _, r => by cases r; exact True.intro
  | kv :: kvs, _, r => by
    cases r with
    | cons r1 r2 =>
      rw [List.map_cons]
      unfold dfind
      by_cases e : kv.1 = z
      · rw [if_pos (by rw [e]; rfl)]
        simp only [kdGet, List.find?_cons, e, decide_true, Option.map_some]
        exact r1
      · rw [if_neg (by simp only [nk, kN, Option.some.injEq, NestedKey.text.injEq]; exact e)]
        have ih := dfind_kd (z := z) r2
        simp only [kdGet, List.find?_cons, e, decide_false] at ih ⊢
        exact ih
/-- a written dict, over the library -/
theorem kd_find {K : PySem.W.Frag} {w : World} {a : Addr} {kvs : List (Str × V)} (h : KDc K w a kvs) (z : Str) : ∃ es n, KDict K w a es n ∧ ∃ o : Option Value, PySem.W.nsIn K a z = some o ∧ RelO (kdGet kvs z) o := by
  obtain ⟨es, n, D, pr⟩ := h.ex
  refine ⟨es, n, D, ?_⟩
  have key : ∀ {kvs : List (Str × V)} {l : List DictEntry}, Paired (fun (p : Str × V) (e : DictEntry) => (∃ t, e.key = .str p.1 t) ∧ RelV p.2 e.val) kvs l → (l.any (·.refKey) = false) ∧ RelO (kdGet kvs z) ((l.find? (·.key.isStr z)).map (·.val)) := by
    intro kvs l r
    induction r with
    | nil => exact ⟨rfl, True.intro⟩
    | @cons p e ps es h t ih =>
      obtain ⟨⟨tk, hk⟩, hv⟩ := h
      have hr : e.refKey = false := by simp [DictEntry.refKey, hk]
      refine ⟨by rw [List.any_cons, hr, ih.1]; rfl, ?_⟩
      have hs : e.key.isStr z = decide (p.1 = z) := by 
        rw [hk]
        show (p.1 == z) = decide (p.1 = z)
        by_cases q : p.1 = z
        · rw [decide_eq_true q]; exact beq_iff_eq.mpr q
        · rw [decide_eq_false q]; exact beq_eq_false_iff_ne.mpr q
      by_cases q : p.1 = z
      · simp only [kdGet, List.find?_cons, hs, q, decide_true, Option.map_some]
        exact hv
      · simp only [kdGet, List.find?_cons, hs, q, decide_false] at ih ⊢
        exact ih.2
  obtain ⟨k1, k2⟩ := key pr
  unfold PySem.W.nsIn
  rw [D.at_]
  simp only
  cases hf : es.toList.find? (·.key.isStr z) with
  | some e => rw [hf] at k2; exact ⟨_, rfl, k2⟩
  | none => rw [hf] at k2; exact ⟨none, by simp [k1], k2⟩
/-- what is asked at a key, over the heap -/
inductive DLook (P : Program) (w : World) (K : PySem.W.Frag) (H : Hp) (a : Addr) (y : V) (r : Option V) : Prop
  | k : DGet H a y r → DLook P w K H a y r
  | kd {kvs : List (Str × V)} {z : Str} : KDc K w a kvs → y = .str z → r = kdGet kvs z → DLook P w K H a y r
  | t {b : Addr} {xs : NX} {n : NestedKey} : y = .ref b → RdN P w H a xs → KeysN K H xs → NK K H n (.ref b) → n.depth ≤ 8 → r = nGet xs n → DLook P w K H a y r
theorem dlook (hc : DcAt X.prog X.w X.K H C B.Z a ks ds) (rk : RD X.prog X.w X.K H C B.Z k u) (e : keyIn ks k = some n) : ∃ r : Option V, DLook X.prog X.w X.K H a u r ∧ match dfind ks ds n, r with
    | some d, some v => RD X.prog X.w X.K H C B.Z d v
    | none, none => True
    | _, _ => False := by
  obtain ⟨e1, e2, e3⟩ := keyIn_some e
  by_cases ht : isTup k = true
  · -- a tuple
    obtain ⟨b, rfl⟩ : ∃ b, u = .ref b := by
      cases rk with
      | tup _ _ _ _ _ => exact ⟨_, rfl⟩
      | tupK _ _ => exact ⟨_, rfl⟩
      | _ => simp [isTup] at ht
    have nb := nk_of rk e1
    cases hc with
    | k h ek r =>
      rename_i kvs
      cases kvs with
      | nil =>
        cases r
        refine ⟨none, .t rfl (.inr ⟨rfl, h⟩) (fun x hx => (nomatch hx)) nb e2 rfl, ?_⟩
        subst ek
        exact True.intro
      | cons kv kvs =>
        exfalso
        subst ek
        have : isTup (kD kv.1) = false := by cases kv.1 <;> rfl
        have hs : isScal k = false := by cases k <;> first | rfl | simp [isTup] at ht
        simp [kOk, this, hs] at e3
    | kd h ek r =>
      rename_i kvs
      exfalso
      cases kvs with
      | nil => exact h.ne rfl
      | cons kv kvs =>
        subst ek
        have hs : isScal k = false := by cases k <;> first | rfl | simp [isTup] at ht
        simp [kOk, isTup, hs] at e3
    | t h hn ek rk' rv =>
      exact ⟨_, .t rfl (.inl h) (keysN_of ek rk' hn.2) nb e2 rfl, dfind_t ek rv⟩
  · have hs : isScal k = true := by
      unfold kOk at e3
      have : isTup k = false := by simpa using ht
      rw [this] at e3
      simp only [Bool.false_and, Bool.false_or, Bool.and_eq_true] at e3
      exact e3.1
    obtain ⟨p, rfl, rfl⟩ := kD_key hs rk
    have en : n = (kN p) := by rw [nk_kD] at e1; exact (Option.some.inj e1).symm
    cases hc with
    | k h ek r =>
      subst ek
      refine ⟨_, .k (.inl ⟨_, p, h, rfl, rfl⟩), ?_⟩
      rw [en]
      exact dfind_k r
    | kd h ek r =>
      rename_i kvs
      have hz : ∃ z, p = .inr z := by
        cases p with
        | inr z => exact ⟨z, rfl⟩
        | inl i =>
          exfalso
          cases kvs with
          | nil => exact h.ne rfl
          | cons kv kvs => subst ek; simp [kOk, kD, isTup, isScal, sameS] at e3
      obtain ⟨z, rfl⟩ := hz
      subst ek
      refine ⟨_, .kd h rfl rfl, ?_⟩
      rw [en]
      exact dfind_kd r
    | t h hn ek rk' rv =>
      exfalso
      rename_i xs
      cases xs with
      | nil => exact hn.1 rfl
      | cons x xs =>
        cases ks with
        | nil => simp at ek
        | cons k0 ks =>
          cases rk' with
          | cons r1 r2 =>
            have ht0 : isTup k0 = true := by
              cases r1 with
              | tup _ _ _ _ _ => rfl
              | tupK _ _ => rfl
              | _ => simp [nk] at ek
            have hT : isTup (kD p) = false := by cases p <;> rfl
            simp [kOk, ht0, hT, sameS_tup ht0] at e3
/-! the rules over the heap -/
section
variable {pins : List (Addr × Obj)} {σ : L2.St} {s : Shared} {y : V} {r : Option V} {uv : Value} {A : Around} {E : Value → Shared → Prop}
theorem dl_getItem {Q : Value → Shared → Prop} (hu : A.units + 9 < cLine) (I : Inv X pins σ H s) (g : DLook X.prog X.w X.K H a y (some v)) (ry : RelV y uv) (q : ∀ w' s', Inv X pins σ H s' → RelV v w' → Q w' s') : wpAny (model X.prog X.w) A (getItem (.ref a) uv) Q E s := by
  cases g with
  | k g => exact d_getItem (by omega) I g ry q
  | kd h ey er =>
    subst ey
    obtain ⟨es, n, D, o, h1, h2⟩ := kd_find h ‹Str›
    rw [← er] at h2
    cases o with
    | none => exact (show False from h2).elim
    | some u0 =>
      obtain ⟨t, rfl⟩ := ry
      exact wpAny_getItem_of (PySem.strKind_is X.prog X.w _ t) (PySem.W.mapOf_K (prog := X.prog) I.kIn D.at_ D.lit) (PySem.W.find_K D.at_ h1) (q u0 _ (I.tok _) h2)
  | t e h hk nb hd er => subst e; cases ry; exact dn_getItem hu I h hk nb hd er.symm q
theorem dl_in {Q : Value → Shared → Prop} (hu : A.units + 9 < cLine) (I : Inv X pins σ H s) (g : DLook X.prog X.w X.K H a y r) (ry : RelV y uv) (q : ∀ s', Inv X pins σ H s' → Q (.bool r.isSome) s') : wpAny (model X.prog X.w) A (compareOp .In uv (.ref a)) Q E s := by
  cases g with
  | k g => exact d_in (by omega) I g ry q
  | kd h ey er =>
    subst ey
    obtain ⟨es, n, D, o, h1, h2⟩ := kd_find h ‹Str›
    rw [← er] at h2
    have e := h2.isSome_eq
    obtain ⟨t, rfl⟩ := ry
    refine wpAny_in_of (PySem.strKind_is X.prog X.w _ t) D.low (PySem.W.mapOf_K (prog := X.prog) I.kIn D.at_ D.lit) ?_
    rw [PySem.W.find_K D.at_ h1, ← e]
    exact q _ (I.tok _)
  | t e h hk nb hd er => subst e er; cases ry; exact dn_in hu I h hk nb hd q
theorem dl_notIn {Q : Value → Shared → Prop} (hu : A.units + 9 < cLine) (I : Inv X pins σ H s) (g : DLook X.prog X.w X.K H a y r) (ry : RelV y uv) (q : ∀ s', Inv X pins σ H s' → Q (.bool (!r.isSome)) s') : wpAny (model X.prog X.w) A (compareOp .NotIn uv (.ref a)) Q E s := by
  cases g with
  | k g => exact d_notIn (by omega) I g ry q
  | kd h ey er =>
    subst ey
    obtain ⟨es, n, D, o, h1, h2⟩ := kd_find h ‹Str›
    rw [← er] at h2
    have e := h2.isSome_eq
    obtain ⟨t, rfl⟩ := ry
    refine wpAny_notIn_of (PySem.strKind_is X.prog X.w _ t) D.low (PySem.W.mapOf_K (prog := X.prog) I.kIn D.at_ D.lit) ?_
    rw [PySem.W.find_K D.at_ h1, ← e]
    exact q _ (I.tok _)
  | t e h hk nb hd er => subst e er; cases ry; exact dn_notIn hu I h hk nb hd q
theorem dl_typeIs (I : Inv X pins σ H s) (g : DLook X.prog X.w X.K H a y r) : s.TypeIs (.ref a) "dict" := by
  cases g with
  | k g => exact dict_typeIs I g
  | kd h ey er => obtain ⟨es, n, D, _⟩ := h.ex; exact kd_type D I
  | t e h hk nb hd er => obtain ⟨_, _, ys, _, dd⟩ := dn_of I h hk; exact dd.typeIs
end
def rDG (P : Program) (w : World) (K : PySem.W.Frag) : R2 := fun x y H Q => ∃ a v, x = .ref a ∧ DLook P w K H a y (some v) ∧ Q v H
def rDI (P : Program) (w : World) (K : PySem.W.Frag) : R2 := fun y x H Q => ∃ a r, x = .ref a ∧ DLook P w K H a y r ∧ Q (.bl r.isSome) H
def rDNI (P : Program) (w : World) (K : PySem.W.Frag) : R2 := fun y x H Q => ∃ a r, x = .ref a ∧ DLook P w K H a y r ∧ Q (.bl (!r.isSome)) H
theorem ix_dict (hu : X.A.units + 64 < cLine) : IxR X (rDG X.prog X.w X.K) := by
  intro value slice pins s σ H x y v u Q I rx ry h hs
  obtain ⟨a, z, rfl, g, q⟩ := h
  cases rx
  exact tail_any (dl_typeIs I g) PySem.F.slot_dict_getitem.lookup (dl_getItem (by omega) I g ry fun w' s' I' r' => ⟨z, H, I', r', q⟩) hs
theorem op_dIn (hu : X.A.units + 64 < cLine) : OpR X (compareOp .In) (rDI X.prog X.w X.K) := by
  intro pins s σ H x y v u Q I rx ry h
  obtain ⟨a, r, rfl, g, q⟩ := h
  cases ry
  exact dl_in (by omega) I g rx fun s' I' => ⟨.bl _, H, I', rfl, q⟩
theorem op_dNotIn (hu : X.A.units + 64 < cLine) : OpR X (compareOp .NotIn) (rDNI X.prog X.w X.K) := by
  intro pins s σ H x y v u Q I rx ry h
  obtain ⟨a, r, rfl, g, q⟩ := h
  cases ry
  exact dl_notIn (by omega) I g rx fun s' I' => ⟨.bl _, H, I', rfl, q⟩
theorem vD_split {x k : D} {f : List D → List D → NestedKey → Option D} {z : D} (e : (match asD C x with
    | some (ks, ds) => match keyIn ks k with
      | some n => f ks ds n
      | none => none
    | none => none) = some z) : ∃ ks ds n, asD C x = some (ks, ds) ∧ keyIn ks k = some n ∧ f ks ds n = some z := by
  cases h : asD C x with
  | none => rw [h] at e; cases e
  | some p =>
    obtain ⟨ks, ds⟩ := p
    rw [h] at e
    simp only at e
    cases h2 : keyIn ks k with
    | none => rw [h2] at e; cases e
    | some n => rw [h2] at e; exact ⟨ks, ds, n, rfl, h2, e⟩
theorem lk_dget : LkO X B (rDG X.prog X.w X.K) vDGet := fun H C x y z u v Q s r1 r2 e k => by
  obtain ⟨ks, ds, n, e1, e2, e3⟩ := vD_split (f := fun ks ds n => dfind ks ds n) e
  obtain ⟨a, rfl, hc⟩ := asD_rd s r1 e1
  obtain ⟨r, g, hr⟩ := dlook hc r2 e2
  rw [e3] at hr
  cases r with
  | none => exact hr.elim
  | some w' => exact ⟨a, w', rfl, g, k w' H .refl s hr⟩
theorem lk_dIn : LkO X B (rDI X.prog X.w X.K) vDIn := fun H C x y z u v Q s r1 r2 e k => by
  obtain ⟨ks, ds, n, e1, e2, e3⟩ := vD_split (f := fun ks ds n => some (.bl (dfind ks ds n).isSome)) e
  obtain ⟨a, rfl, hc⟩ := asD_rd s r2 e1
  obtain ⟨r, g, hr⟩ := dlook hc r1 e2
  have er : r.isSome = (dfind ks ds n).isSome := by
    cases h1 : dfind ks ds n <;> cases r <;> rw [h1] at hr <;> first | rfl | exact hr.elim
  cases e3
  exact ⟨a, r, rfl, g, by rw [er]; exact k (.bl _) H .refl s (.bl _)⟩
theorem lk_dNotIn : LkO X B (rDNI X.prog X.w X.K) vDNotIn := fun H C x y z u v Q s r1 r2 e k => by
  obtain ⟨ks, ds, n, e1, e2, e3⟩ := vD_split (f := fun ks ds n => some (.bl (!(dfind ks ds n).isSome))) e
  obtain ⟨a, rfl, hc⟩ := asD_rd s r2 e1
  obtain ⟨r, g, hr⟩ := dlook hc r1 e2
  have er : r.isSome = (dfind ks ds n).isSome := by
    cases h1 : dfind ks ds n <;> cases r <;> rw [h1] at hr <;> first | rfl | exact hr.elim
  cases e3
  exact ⟨a, r, rfl, g, by rw [er]; exact k (.bl _) H .refl s (.bl _)⟩
/-- x[y]: of a list, a tuple, a dict -/
def vSub : VOp := fun C x y => match asD C x with
  | some _ => vDGet C x y
  | none => vIx C x y
def rSub (P : Program) (w : World) (K : PySem.W.Frag) : R2 := fun x y H Q => rIx K x y H Q ∨ rDG P w K x y H Q
theorem ix_sub (hu : X.A.units + 64 < cLine) : IxR X (rSub X.prog X.w X.K) := ix_seq.or (ix_dict hu)
theorem lk_sub : LkO X B (rSub X.prog X.w X.K) vSub := fun H C x y z u v Q s r1 r2 e k => by
  unfold vSub at e
  cases h : asD C x with
  | none => rw [h] at e; exact .inl (lk_ix H C x y z u v Q s r1 r2 e k)
  | some p => rw [h] at e; exact .inr (lk_dget H C x y z u v Q s r1 r2 e k)

/-! ### in, not in -/
def asSeq (C : Cs) : D → Option (List D)
  | .tup xs => some xs
  | d => asL C d
def vIn : VOp := fun C x y => match asD C y with
  | some _ => vDIn C x y
  | none => match asSeq C y with
    | some xs => if good 18 (res C x) && goods 18 xs then some (.bl (xs.any fun z => deq z (res C x))) else none
    | none => none
def vNotIn : VOp := fun C x y => match asD C y with
  | some _ => vDNotIn C x y
  | none => match asSeq C y with
    | some xs => if good 18 (res C x) && goods 18 xs then some (.bl (!xs.any fun z => deq z (res C x))) else none
    | none => none
def rInT (K : PySem.W.Frag) (neg : Bool) : R2 := fun x y H Q => ∃ d ds, Dp K H x d ∧ (Dp K H y (.list ds) ∨ Dp K H y (.tuple ds)) ∧ SeqAt.shaped d = true ∧ SeqAt.shaped (.list ds) = true ∧ Q (.bl (if neg then !ds.any (fun z => PyData.eqv z d) else ds.any fun z => PyData.eqv z d)) H
theorem op_inT (hu : X.A.units + 65 < cLine) : OpR X (compareOp .In) (rInT X.K false) := by
  intro pins s σ H x y v u Q I rx ry h
  obtain ⟨d, ds, hd, he, sd, se, q⟩ := h
  obtain ⟨as, r1⟩ := Dp.reads I d x v hd rx
  rcases he with he | he
  · obtain ⟨bs, r2⟩ := Dp.reads I (.list ds) y u he ry
    exact SeqAt.in_list_reads r2 r1 (SeqAt.canLay_of_shaped se) (SeqAt.canLay_of_shaped sd) (room_in_shaped sd hu) ⟨.bl _, H, I, rfl, q⟩
  · obtain ⟨bs, r2⟩ := Dp.reads I (.tuple ds) y u he ry
    exact SeqAt.in_tuple_reads r2 r1 (SeqAt.canLay_of_shaped se) (SeqAt.canLay_of_shaped sd) (room_in_shaped sd hu) ⟨.bl _, H, I, rfl, q⟩
theorem op_notInT (hu : X.A.units + 65 < cLine) : OpR X (compareOp .NotIn) (rInT X.K true) := by
  intro pins s σ H x y v u Q I rx ry h
  obtain ⟨d, ds, hd, he, sd, se, q⟩ := h
  obtain ⟨as, r1⟩ := Dp.reads I d x v hd rx
  rcases he with he | he
  · obtain ⟨bs, r2⟩ := Dp.reads I (.list ds) y u he ry
    exact SeqAt.notIn_list_reads r2 r1 (SeqAt.canLay_of_shaped se) (SeqAt.canLay_of_shaped sd) (room_in_shaped sd hu) ⟨.bl _, H, I, rfl, q⟩
  · obtain ⟨bs, r2⟩ := Dp.reads I (.tuple ds) y u he ry
    exact SeqAt.notIn_tuple_reads r2 r1 (SeqAt.canLay_of_shaped se) (SeqAt.canLay_of_shaped sd) (room_in_shaped sd hu) ⟨.bl _, H, I, rfl, q⟩
theorem seq_dp {d : D} {v : V} {xs : List D} (s : Sy X.prog X.w X.K H C B.Z) (r : RD X.prog X.w X.K H C B.Z d v) (e : asSeq C d = some xs) {n : Nat} (g : goods n xs = true) : Dp X.K H v (.list (toPDs xs)) ∨ Dp X.K H v (.tuple (toPDs xs)) := by
  have lists : asL C d = some xs → Dp X.K H v (.list (toPDs xs)) ∨ Dp X.K H v (.tuple (toPDs xs)) := fun e => by
    obtain ⟨a, vs, rfl, h1, h2, h3⟩ := asL_rd s r e
    exact .inl (.lst (SqL.of h1) (dps_of h3 g))
  cases d with
  | tup ys =>
    cases e
    obtain ⟨a, vs, rfl, h1, h2, h3⟩ := asT_rd r (xs := xs) rfl
    exact .inr (.tup h1 (dps_of h3 g))
  | _ => exact lists e
theorem lk_inT : LkO X B (rInT X.K false) (fun C x y => match asSeq C y with
    | some xs => if good 18 (res C x) && goods 18 xs then some (.bl (xs.any fun z => deq z (res C x))) else none
    | none => none) := fun H C x y z u v Q s r1 r2 e k => by
  simp only at e
  cases h : asSeq C y with
  | none => rw [h] at e; cases e
  | some xs =>
    rw [h] at e
    simp only at e
    by_cases g : (good 18 (res C x) && goods 18 xs) = true
    · rw [if_pos g] at e; cases e
      have g' : good 18 (res C x) = true ∧ goods 18 xs = true := by simpa using g
      refine ⟨_, _, dp_res s r1 g'.1, seq_dp s r2 h g'.2, shaped_good (by decide) g'.1, shaped_good (n := 19) (d := .lst xs) (by decide) (by simpa [good] using g'.2), ?_⟩
      simp only [Bool.false_eq_true, if_false]
      rw [any_eqv g'.1 g'.2]
      exact k (.bl _) H .refl s (.bl _)
    · rw [if_neg g] at e; cases e
theorem lk_notInT : LkO X B (rInT X.K true) (fun C x y => match asSeq C y with
    | some xs => if good 18 (res C x) && goods 18 xs then some (.bl (!xs.any fun z => deq z (res C x))) else none
    | none => none) := fun H C x y z u v Q s r1 r2 e k => by
  simp only at e
  cases h : asSeq C y with
  | none => rw [h] at e; cases e
  | some xs =>
    rw [h] at e
    simp only at e
    by_cases g : (good 18 (res C x) && goods 18 xs) = true
    · rw [if_pos g] at e; cases e
      have g' : good 18 (res C x) = true ∧ goods 18 xs = true := by simpa using g
      refine ⟨_, _, dp_res s r1 g'.1, seq_dp s r2 h g'.2, shaped_good (by decide) g'.1, shaped_good (n := 19) (d := .lst xs) (by decide) (by simpa [good] using g'.2), ?_⟩
      simp only [if_true]
      rw [any_eqv g'.1 g'.2]
      exact k (.bl _) H .refl s (.bl _)
    · rw [if_neg g] at e; cases e
def rInA (P : Program) (w : World) (K : PySem.W.Frag) : R2 := fun x y H Q => rInT K false x y H Q ∨ rDI P w K x y H Q
def rNotInA (P : Program) (w : World) (K : PySem.W.Frag) : R2 := fun x y H Q => rInT K true x y H Q ∨ rDNI P w K x y H Q
theorem op_inA (hu : X.A.units + 65 < cLine) : OpR X (compareOp .In) (rInA X.prog X.w X.K) := (op_inT hu).or (op_dIn (by omega))
theorem op_notInA (hu : X.A.units + 65 < cLine) : OpR X (compareOp .NotIn) (rNotInA X.prog X.w X.K) := (op_notInT hu).or (op_dNotIn (by omega))
theorem lk_in : LkO X B (rInA X.prog X.w X.K) vIn := fun H C x y z u v Q s r1 r2 e k => by
  unfold vIn at e
  cases h : asD C y with
  | none => rw [h] at e; exact .inl (lk_inT H C x y z u v Q s r1 r2 e k)
  | some p => rw [h] at e; exact .inr (lk_dIn H C x y z u v Q s r1 r2 e k)
theorem lk_notIn : LkO X B (rNotInA X.prog X.w X.K) vNotIn := fun H C x y z u v Q s r1 r2 e k => by
  unfold vNotIn at e
  cases h : asD C y with
  | none => rw [h] at e; exact .inl (lk_notInT H C x y z u v Q s r1 r2 e k)
  | some p => rw [h] at e; exact .inr (lk_dNotIn H C x y z u v Q s r1 r2 e k)
/-! ### is None -/
def isNon : D → Bool
  | .non => true
  | _ => false
def vIsN : VOp := fun _ x y => match y with
  | .non => some (.bl (isNon x))
  | _ => none
def vNotN : VOp := fun _ x y => match y with
  | .non => some (.bl (!isNon x))
  | _ => none
theorem rd_non {x : D} {u : V} (r : RD X.prog X.w X.K H C B.Z x u) : decide (u = .non) = isNon x := by
  cases r <;> simp [isNon]
theorem lk_isN : LkO X B (fun x y H Q => y = .non ∧ Q (.bl (decide (x = .non))) H) vIsN := fun H C x y z u v Q s r1 r2 e k => by
  cases y <;> simp [vIsN] at e
  subst e
  cases r2
  refine ⟨rfl, ?_⟩
  rw [rd_non r1]
  exact k (.bl _) H .refl s (.bl _)
theorem lk_notN : LkO X B (fun x y H Q => y = .non ∧ Q (.bl (!decide (x = .non))) H) vNotN := fun H C x y z u v Q s r1 r2 e k => by
  cases y <;> simp [vNotN] at e
  subst e
  cases r2
  refine ⟨rfl, ?_⟩
  rw [rd_non r1]
  exact k (.bl _) H .refl s (.bl _)
end
end DL

set_option Elab.async false
set_option linter.all false
set_option maxRecDepth 100000
set_option maxHeartbeats 2000000
/-! DlE: slices, chains, and/or/not, tests, conditions, stars, calls of built-ins. -/
namespace DL
open PySem PySem.Spec PyProof.Rows L2
section
variable {X : Cx} {B : Bs} {e a b c : Expr} {es : List Expr} {pos p2 : Pos}

/-! ### slices -/
def cutD (xs : List D) (lo hi : Option Int) : List D := (xs.drop (HT.sIx xs.length 0 lo)).take (HT.sIx xs.length xs.length hi - HT.sIx xs.length 0 lo)
structure FO (X : Cx) (B : Bs) (e : Option Expr) (f : En → Cs → Option (Option Int)) : Prop where
  ex : ∃ t0, PO X e t0 ∧ ∀ E C σ H (Q0 : Option Int → Hp → Prop) o, Ps X B E C σ H → f E C = some o → (∀ H', Pers H C H' C → Sy X.prog X.w X.K H' C B.Z → Q0 o H') → t0 σ H Q0
def fNoPart : En → Cs → Option (Option Int) := fun _ _ => some none
def fPart (f : En → Cs → Option D) : En → Cs → Option (Option Int) := fun E C => match f E C with
  | some (.int i) => some (some i)
  | _ => none
theorem fo_none : FO X B none fNoPart := ⟨_, po_none, fun E C σ H Q0 o s e k => by cases e; exact k H .refl s.sy⟩
theorem fo_some {f : En → Cs → Option D} (h : FE X B e f) : FO X B (some e) (fPart f) := by
  obtain ⟨t0, p, r⟩ := h.ex
  refine ⟨_, po_some p, fun E C σ H Q0 o s e k => ?_⟩
  unfold fPart at e
  cases h1 : f E C with
  | none => rw [h1] at e; cases e
  | some d =>
    rw [h1] at e
    cases d <;> first | cases e | skip
    rename_i i
    refine r E C σ H (fun v C' => v = .int i ∧ C' = C) _ s ⟨_, h1, rfl, rfl⟩ fun v C' u H' p1 s1 r1 q => ?_
    obtain ⟨rfl, rfl⟩ := q
    cases r1
    exact ⟨i, rfl, k H' p1 s1⟩
def fSl (f : En → Cs → Option D) (l h : En → Cs → Option (Option Int)) : En → Cs → Option D := fun E C => match f E C, l E C, h E C with
  | some (.tup xs), some lo, some hi => some (.tup (cutD xs lo hi))
  | some x, some lo, some hi => match asL C x with
    | some xs => some (.lst (cutD xs lo hi))
    | none => none
  | _, _, _ => none
def rSlX (K : PySem.W.Frag) : V → Option Int → Option Int → Hp → VK → Prop := fun x lo hi H Q => rSlA K x lo hi H Q ∨ rSlL K x lo hi H Q
theorem fe_slice {lo hi : Option Expr} {f : En → Cs → Option D} {l h : En → Cs → Option (Option Int)} (he : FE X B e f) (hl : FO X B lo l) (hh : FO X B hi h) : FE X B (.Subscript e (.Slice lo hi none p2) pos) (fSl f l h) := by
  obtain ⟨t0, p, r⟩ := he.ex
  obtain ⟨tl, pl, rl⟩ := hl.ex
  obtain ⟨th, ph, rh⟩ := hh.ex
  refine ⟨_, pe_slice (SlR.or sl_tupA sl_list) p pl ph, fun E C σ H Q Q0 s q k => ?_⟩
  obtain ⟨z, e, q⟩ := q
  unfold fSl at e
  cases h1 : f E C with
  | none => rw [h1] at e; cases e
  | some x =>
  cases h2 : l E C with
  | none => rw [h1, h2] at e; cases x <;> cases e
  | some lo' =>
  cases h3 : h E C with
  | none => rw [h1, h2, h3] at e; cases x <;> cases e
  | some hi' =>
  rw [h1, h2, h3] at e
  refine r E C σ H (fun v C' => v = x ∧ C' = C) _ s ⟨_, h1, rfl, rfl⟩ fun v C1 u H1 p1 s1 r1 q1 => ?_
  obtain ⟨rfl, rfl⟩ := q1
  have ps1 := s.next p1 s1
  refine rl E C1 σ H1 _ _ ps1 h2 fun H2 p2 s2 => ?_
  have ps2 := ps1.next p2 s2
  refine rh E C1 σ H2 _ _ ps2 h3 fun H3 p3 s3 => ?_
  have r3 := (r1.pers p2).pers p3
  have pp := (p1.trans p2).trans p3
  have cutl : ∀ {xs : List D} {vs : List V}, RDs X.prog X.w X.K H3 C1 B.Z xs vs → RDs X.prog X.w X.K H3 C1 B.Z (cutD xs lo' hi') (cutV vs lo' hi') := fun {xs vs} q => by
    unfold cutD cutV
    rw [q.length]
    exact (q.drop _).take _
  have lists : ∀ {xs : List D}, asL C1 v = some xs → some (D.lst (cutD xs lo' hi')) = some z → rSlX X.K u lo' hi' H3 Q0 := fun {xs} e1 e => by
    cases e
    obtain ⟨a, vs, rfl, g1, g2, g3⟩ := asL_rd s3 r3 e1
    refine .inr ⟨a, vs, rfl, SqL.of g1, fun p hp => ?_⟩
    exact k _ C1 (.ref p) _ (pp.trans (Pers.laid hp)) (s3.laid hp) (.lst upd_same (s3.free hp) (s3.nz hp) (Nat.le_trans (cutV_length vs lo' hi') g2) ((cutl g3).pers (Pers.laid hp))) q
  have gen : (match asL C1 v with
    | some xs => some (D.lst (cutD xs lo' hi'))
    | none => none) = some z → rSlX X.K u lo' hi' H3 Q0 := fun e => by
    cases h : asL C1 v with
    | none => rw [h] at e; cases e
    | some xs => rw [h] at e; exact lists h e
  cases v with
  | tup xs =>
    cases e
    obtain ⟨a, vs, rfl, g1, g2, g3⟩ := asT_rd r3 (xs := xs) rfl
    refine .inl ⟨a, vs, rfl, g1, fun hw => ?_, fun hw p hp => ?_⟩
    · have e : cutD xs lo' hi' = xs := by
        unfold cutD
        rw [g3.length, hw.1, hw.2, List.drop_zero, Nat.sub_zero, ← g3.length, List.take_length]
      rw [e] at q
      exact k _ C1 (.ref a) H3 pp s3 r3 q
    · exact k _ C1 (.ref p) _ (pp.trans (Pers.laid hp)) (s3.laid hp) (.tup (.inl upd_same) (s3.free hp) (s3.nz hp) (Nat.le_trans (cutV_length vs lo' hi') g2) ((cutl g3).pers (Pers.laid hp))) q
  | _ => exact gen e

/-! ### a < b < c -/
def dCh (op op' : VOp) (t t' t'' : DT) : DT := fun E C Q => t E C fun x C1 => t' E C1 fun y C2 => ∃ z, op C2 x y = some (.bl z) ∧ (if z = true then t'' E C2 fun w C3 => ∃ r, op' C3 y w = some r ∧ Q r C3 else Q (.bl false) C2)
def fCh (op op' : VOp) (f g h : En → Cs → Option D) : En → Cs → Option D := fun E C => match f E C, g E C with
  | some x, some y => match op C x y with
    | some (.bl true) => match h E C with
      | some w => op' C y w
      | none => none
    | some (.bl false) => some (.bl false)
    | _ => none
  | _, _ => none

/-! ### and, or, not: values -/
def dAnd (t u : DT) : DT := fun E C Q => t E C fun x C1 => ∃ b, x = .bl b ∧ if b = true then u E C1 Q else Q (.bl false) C1
def dOr (t u : DT) : DT := fun E C Q => t E C fun x C1 => ∃ b, x = .bl b ∧ if b = true then Q (.bl true) C1 else u E C1 Q
def dNot (t : DT) : DT := fun E C Q => t E C fun x C1 => ∃ b, x = .bl b ∧ Q (.bl (!b)) C1
theorem de_one {op} {t : DT} (h : DE X B a t) : DE X B (.BoolOp op [a] pos) t := by
  obtain ⟨t0, p, r⟩ := h.ex
  exact ⟨t0, pe_one p, r⟩
theorem de_and {t u : DT} {rest : List Expr} (ha : DE X B a t) (hb : DE X B (.BoolOp .And (b :: rest) pos) u) : DE X B (.BoolOp .And (a :: b :: rest) pos) (dAnd t u) := by
  obtain ⟨ta, p, r⟩ := ha.ex
  obtain ⟨tb, q, r'⟩ := hb.ex
  refine ⟨_, pe_and p q, fun E C σ H Q Q0 s h k => ?_⟩
  refine r E C σ H _ _ s h fun v C1 u H1 p1 s1 r1 ⟨b, e, q1⟩ => ?_
  subst e
  cases r1
  refine ⟨b, rfl, ?_⟩
  cases b with
  | true => exact r' E C1 σ H1 _ _ (s.next p1 s1) q1 fun v C2 u H2 p2 s2 r2 q2 => k v C2 u H2 (p1.trans p2) s2 r2 q2
  | false => exact k (.bl false) C1 (.bl false) H1 p1 s1 (.bl false) q1
theorem de_or {t u : DT} {rest : List Expr} (ha : DE X B a t) (hb : DE X B (.BoolOp .Or (b :: rest) pos) u) : DE X B (.BoolOp .Or (a :: b :: rest) pos) (dOr t u) := by
  obtain ⟨ta, p, r⟩ := ha.ex
  obtain ⟨tb, q, r'⟩ := hb.ex
  refine ⟨_, pe_or p q, fun E C σ H Q Q0 s h k => ?_⟩
  refine r E C σ H _ _ s h fun v C1 u H1 p1 s1 r1 ⟨b, e, q1⟩ => ?_
  subst e
  cases r1
  refine ⟨b, rfl, ?_⟩
  cases b with
  | false => exact r' E C1 σ H1 _ _ (s.next p1 s1) q1 fun v C2 u H2 p2 s2 r2 q2 => k v C2 u H2 (p1.trans p2) s2 r2 q2
  | true => exact k (.bl true) C1 (.bl true) H1 p1 s1 (.bl true) q1
theorem de_not {t : DT} (ha : DE X B a t) : DE X B (.UnaryOp .Not a pos) (dNot t) := by
  obtain ⟨ta, p, r⟩ := ha.ex
  refine ⟨_, pe_not p, fun E C σ H Q Q0 s h k => ?_⟩
  refine r E C σ H _ _ s h fun v C1 u H1 p1 s1 r1 ⟨b, e, q1⟩ => ?_
  subst e
  cases r1
  exact ⟨b, rfl, k (.bl (!b)) C1 (.bl (!b)) H1 p1 s1 (.bl _) q1⟩
def fAnd (f g : En → Cs → Option D) : En → Cs → Option D := fun E C => match f E C with
  | some (.bl true) => g E C
  | some (.bl false) => some (.bl false)
  | _ => none
def fOr (f g : En → Cs → Option D) : En → Cs → Option D := fun E C => match f E C with
  | some (.bl false) => g E C
  | some (.bl true) => some (.bl true)
  | _ => none
def fNot (f : En → Cs → Option D) : En → Cs → Option D := fun E C => match f E C with
  | some (.bl b) => some (.bl (!b))
  | _ => none
theorem fe_one {op} {f : En → Cs → Option D} (h : FE X B a f) : FE X B (.BoolOp op [a] pos) f := de_one h
theorem fe_and {f g : En → Cs → Option D} {rest : List Expr} (ha : FE X B a f) (hb : FE X B (.BoolOp .And (b :: rest) pos) g) : FE X B (.BoolOp .And (a :: b :: rest) pos) (fAnd f g) := by
  refine (de_and ha hb).mono fun E C Q ⟨v, e, q⟩ => ?_
  unfold fAnd at e
  cases h : f E C with
  | none => rw [h] at e; cases e
  | some d =>
    rw [h] at e
    cases d <;> first | cases e | skip
    rename_i b
    refine ⟨_, h, b, rfl, ?_⟩
    cases b with
    | true => exact ⟨v, e, q⟩
    | false => cases e; exact q
theorem fe_or {f g : En → Cs → Option D} {rest : List Expr} (ha : FE X B a f) (hb : FE X B (.BoolOp .Or (b :: rest) pos) g) : FE X B (.BoolOp .Or (a :: b :: rest) pos) (fOr f g) := by
  refine (de_or ha hb).mono fun E C Q ⟨v, e, q⟩ => ?_
  unfold fOr at e
  cases h : f E C with
  | none => rw [h] at e; cases e
  | some d =>
    rw [h] at e
    cases d <;> first | cases e | skip
    rename_i b
    refine ⟨_, h, b, rfl, ?_⟩
    cases b with
    | false => exact ⟨v, e, q⟩
    | true => cases e; exact q
theorem fe_not {f : En → Cs → Option D} (ha : FE X B a f) : FE X B (.UnaryOp .Not a pos) (fNot f) := by
  refine (de_not ha).mono fun E C Q ⟨v, e, q⟩ => ?_
  unfold fNot at e
  cases h : f E C with
  | none => rw [h] at e; cases e
  | some d =>
    rw [h] at e
    cases d <;> cases e
    exact ⟨_, h, _, rfl, q⟩
def fUn (g : Int → Int) (f : En → Cs → Option D) : En → Cs → Option D := fun E C => match f E C with
  | some (.int i) => some (.int (g i))
  | _ => none
theorem fe_neg {f : En → Cs → Option D} (ha : FE X B a f) : FE X B (.UnaryOp .USub a pos) (fUn (fun i => -i) f) := by
  obtain ⟨ta, p, r⟩ := ha.ex
  refine ⟨_, pe_un un_neg p, fun E C σ H Q Q0 s ⟨v, e, q⟩ k => ?_⟩
  unfold fUn at e
  cases h : f E C with
  | none => rw [h] at e; cases e
  | some d =>
    rw [h] at e
    cases d <;> cases e
    rename_i i
    refine r E C σ H (fun v C' => v = .int i ∧ C' = C) _ s ⟨_, h, rfl, rfl⟩ fun v C1 u H1 p1 s1 r1 q1 => ?_
    obtain ⟨rfl, rfl⟩ := q1
    cases r1
    exact ⟨i, rfl, k _ C1 _ H1 p1 s1 (.int _) q⟩

/-! ### tests -/
def dB (t : DT) : DTT := fun E C Q => t E C fun v C1 => ∃ b, v = .bl b ∧ Q b C1
theorem dq_val {t : DT} (h : DE X B e t) (he : ∀ whole, isTrue e X.env whole = (do let v ← whole; standAt e.pos; holding [v] (truthy v)) := by intro _; rfl) : DQ X B e (dB t) := by
  obtain ⟨t0, p, r⟩ := h.ex
  refine ⟨_, pt_val p he, fun E C σ H Q Q0 s q k => ?_⟩
  refine r E C σ H _ _ s q fun v C1 u H1 p1 s1 r1 ⟨b, e, q1⟩ => ?_
  subst e
  cases r1
  exact ⟨b, rfl, k b C1 H1 p1 s1 q1⟩
theorem dq_cmp {o : CmpOp} {r : R2} {op : VOp} {t t' : DT} (ho : OpR X (compareOp o) r) (lk : LkO X B r op) (ha : DE X B a t) (hb : DE X B b t') (hm : behindInMarks o b = false) : DQ X B (.Compare a [o] [b] pos) (dB (dOp op t t')) := by
  obtain ⟨ta, p, h1⟩ := ha.ex
  obtain ⟨tb, q, h2⟩ := hb.ex
  refine ⟨_, pt_cmpR ho p q hm, fun E C σ H Q Q0 s h k => ?_⟩
  refine h1 E C σ H _ _ s h fun v C1 u H1 p1 s1 r1 q1 => ?_
  refine h2 E C1 σ H1 _ _ (s.next p1 s1) q1 fun v2 C2 u2 H2 p2 s2 r2 ⟨z, e, bb, eb, q2⟩ => ?_
  subst eb
  exact lk H2 C2 v v2 _ u u2 _ s2 (r1.pers p2) r2 e fun z' H' p3 s3 r3 => by
    cases r3
    exact ⟨bb, rfl, k bb C2 H' ((p1.trans p2).trans p3) s3 q2⟩
structure DW (X : Cx) (B : Bs) (e : Expr) (t : DTT) : Prop where
  ex : ∃ t0, PW X e t0 ∧ ∀ E C σ H Q Q0, Ps X B E C σ H → t E C Q → KoT X B H C Q Q0 → t0 σ H Q0
theorem DW.q {t : DTT} (h : DW X B e t) : DQ X B e t := by
  obtain ⟨t0, p, r⟩ := h.ex
  exact ⟨t0, p.pt, r⟩
def dAndQ (t u : DTT) : DTT := fun E C Q => t E C fun b C1 => if b = true then u E C1 Q else Q false C1
def dOrQ (t u : DTT) : DTT := fun E C Q => t E C fun b C1 => if b = true then Q true C1 else u E C1 Q
def dNotQ (t : DTT) : DTT := fun E C Q => t E C fun b C1 => Q (!b) C1
theorem dw_and1 {t : DTT} (h : DQ X B a t) : DW X B (.BoolOp .And [a] pos) t := by
  obtain ⟨t0, p, r⟩ := h.ex
  exact ⟨t0, pw_and1 p, r⟩
theorem dw_or1 {t : DTT} (h : DQ X B a t) : DW X B (.BoolOp .Or [a] pos) t := by
  obtain ⟨t0, p, r⟩ := h.ex
  exact ⟨t0, pw_or1 p, r⟩
theorem dw_and {t u : DTT} {rest : List Expr} (ha : DQ X B a t) (hb : DW X B (.BoolOp .And (b :: rest) pos) u) : DW X B (.BoolOp .And (a :: b :: rest) pos) (dAndQ t u) := by
  obtain ⟨ta, p, r⟩ := ha.ex
  obtain ⟨tb, q, r'⟩ := hb.ex
  refine ⟨_, pw_and p q, fun E C σ H Q Q0 s h k => ?_⟩
  refine r E C σ H _ _ s h fun b C1 H1 p1 s1 q1 => ?_
  cases b with
  | true => exact r' E C1 σ H1 _ _ (s.next p1 s1) q1 fun v C2 H2 p2 s2 q2 => k v C2 H2 (p1.trans p2) s2 q2
  | false => exact k false C1 H1 p1 s1 q1
theorem dw_or {t u : DTT} {rest : List Expr} (ha : DQ X B a t) (hb : DW X B (.BoolOp .Or (b :: rest) pos) u) : DW X B (.BoolOp .Or (a :: b :: rest) pos) (dOrQ t u) := by
  obtain ⟨ta, p, r⟩ := ha.ex
  obtain ⟨tb, q, r'⟩ := hb.ex
  refine ⟨_, pw_or p q, fun E C σ H Q Q0 s h k => ?_⟩
  refine r E C σ H _ _ s h fun b C1 H1 p1 s1 q1 => ?_
  cases b with
  | false => exact r' E C1 σ H1 _ _ (s.next p1 s1) q1 fun v C2 H2 p2 s2 q2 => k v C2 H2 (p1.trans p2) s2 q2
  | true => exact k true C1 H1 p1 s1 q1
theorem dq_not {t : DTT} (ha : DQ X B a t) : DQ X B (.UnaryOp .Not a pos) (dNotQ t) := by
  obtain ⟨ta, p, r⟩ := ha.ex
  refine ⟨_, pt_not p, fun E C σ H Q Q0 s h k => ?_⟩
  exact r E C σ H _ _ s h fun b C1 H1 p1 s1 q1 => k (!b) C1 H1 p1 s1 q1
/-- tests by their function -/
def fB (f : En → Cs → Option D) : En → Cs → Option Bool := fun E C => match f E C with
  | some (.bl b) => some b
  | _ => none
theorem fB_of {f : En → Cs → Option D} : ∀ E C Q, ofQ (fB f) E C Q → dB (ofF f) E C Q := fun E C Q ⟨b, e, q⟩ => by
  unfold fB at e
  cases h : f E C with
  | none => rw [h] at e; cases e
  | some d =>
    rw [h] at e
    cases d <;> cases e
    exact ⟨_, h, b, rfl, q⟩
theorem fq_val {f : En → Cs → Option D} (h : FE X B e f) (he : ∀ whole, isTrue e X.env whole = (do let v ← whole; standAt e.pos; holding [v] (truthy v)) := by intro _; rfl) : FQ X B e (fB f) := (dq_val h he).mono fB_of
theorem fq_cmp {o : CmpOp} {r : R2} {op : VOp} {f g : En → Cs → Option D} (ho : OpR X (compareOp o) r) (lk : LkO X B r op) (ha : FE X B a f) (hb : FE X B b g) (hm : behindInMarks o b = false) : FQ X B (.Compare a [o] [b] pos) (fB (fOp op f g)) := by
  refine (dq_cmp ho lk ha hb hm).mono fun E C Q h => ?_
  obtain ⟨v, h1, b, rfl, q⟩ := fB_of E C Q h
  exact fOp_of E C (fun v C1 => ∃ b, v = .bl b ∧ Q b C1) ⟨_, h1, b, rfl, q⟩
abbrev FW (X : Cx) (B : Bs) (e : Expr) (f : En → Cs → Option Bool) : Prop := DW X B e (ofQ f)
def gAnd (f g : En → Cs → Option Bool) : En → Cs → Option Bool := fun E C => match f E C with
  | some true => g E C
  | some false => some false
  | none => none
def gOr (f g : En → Cs → Option Bool) : En → Cs → Option Bool := fun E C => match f E C with
  | some false => g E C
  | some true => some true
  | none => none
def gNot (f : En → Cs → Option Bool) : En → Cs → Option Bool := fun E C => (f E C).map (!·)
theorem DW.mono {t t' : DTT} (h : DW X B e t) (m : ∀ E C Q, t' E C Q → t E C Q) : DW X B e t' := by
  obtain ⟨t0, p, r⟩ := h.ex
  exact ⟨t0, p, fun E C σ H Q Q0 s q k => r E C σ H Q Q0 s (m E C Q q) k⟩
theorem fw_and1 {f : En → Cs → Option Bool} (h : FQ X B a f) : FW X B (.BoolOp .And [a] pos) f := dw_and1 h
theorem fw_or1 {f : En → Cs → Option Bool} (h : FQ X B a f) : FW X B (.BoolOp .Or [a] pos) f := dw_or1 h
theorem fw_and {f g : En → Cs → Option Bool} {rest : List Expr} (ha : FQ X B a f) (hb : FW X B (.BoolOp .And (b :: rest) pos) g) : FW X B (.BoolOp .And (a :: b :: rest) pos) (gAnd f g) := by
  refine (dw_and ha hb).mono fun E C Q ⟨v, e, q⟩ => ?_
  unfold gAnd at e
  cases h : f E C with
  | none => rw [h] at e; cases e
  | some b =>
    rw [h] at e
    refine ⟨b, h, ?_⟩
    cases b with
    | true => exact ⟨v, e, q⟩
    | false => cases e; exact q
theorem fw_or {f g : En → Cs → Option Bool} {rest : List Expr} (ha : FQ X B a f) (hb : FW X B (.BoolOp .Or (b :: rest) pos) g) : FW X B (.BoolOp .Or (a :: b :: rest) pos) (gOr f g) := by
  refine (dw_or ha hb).mono fun E C Q ⟨v, e, q⟩ => ?_
  unfold gOr at e
  cases h : f E C with
  | none => rw [h] at e; cases e
  | some b =>
    rw [h] at e
    refine ⟨b, h, ?_⟩
    cases b with
    | false => exact ⟨v, e, q⟩
    | true => cases e; exact q
theorem fq_not {f : En → Cs → Option Bool} (ha : FQ X B a f) : FQ X B (.UnaryOp .Not a pos) (gNot f) := by
  refine (dq_not ha).mono fun E C Q ⟨v, e, q⟩ => ?_
  unfold gNot at e
  cases h : f E C with
  | none => rw [h] at e; cases e
  | some b => rw [h] at e; cases e; exact ⟨b, h, q⟩

/-! ### x if t else y -/
def dIf (q : DTT) (t u : DT) : DT := fun E C Q => q E C fun b C1 => if b = true then t E C1 Q else u E C1 Q
theorem de_if {q : DTT} {t u : DT} (hc : DQ X B c q) (ha : DE X B a t) (hb : DE X B b u) : DE X B (.IfExp c a b pos) (dIf q t u) := by
  obtain ⟨tc, pc, rc⟩ := hc.ex
  obtain ⟨ta, p, r⟩ := ha.ex
  obtain ⟨tb, q, r'⟩ := hb.ex
  refine ⟨_, pe_ifExp pc p q, fun E C σ H Q Q0 s h k => ?_⟩
  refine rc E C σ H _ _ s h fun b C1 H1 p1 s1 q1 => ?_
  cases b with
  | true => exact r E C1 σ H1 _ _ (s.next p1 s1) q1 fun v C2 u H2 p2 s2 r2 q2 => k v C2 u H2 (p1.trans p2) s2 r2 q2
  | false => exact r' E C1 σ H1 _ _ (s.next p1 s1) q1 fun v C2 u H2 p2 s2 r2 q2 => k v C2 u H2 (p1.trans p2) s2 r2 q2
def fIf (q : En → Cs → Option Bool) (f g : En → Cs → Option D) : En → Cs → Option D := fun E C => match q E C with
  | some true => f E C
  | some false => g E C
  | none => none
theorem fe_if {q : En → Cs → Option Bool} {f g : En → Cs → Option D} (hc : FQ X B c q) (ha : FE X B a f) (hb : FE X B b g) : FE X B (.IfExp c a b pos) (fIf q f g) := by
  refine (de_if hc ha hb).mono fun E C Q ⟨v, e, z⟩ => ?_
  unfold fIf at e
  cases h : q E C with
  | none => rw [h] at e; cases e
  | some b =>
    rw [h] at e
    refine ⟨b, h, ?_⟩
    cases b with
    | true => exact ⟨v, e, z⟩
    | false => exact ⟨v, e, z⟩

/-! ### chains -/
theorem de_chain {o o' : CmpOp} {r r' : R2} {op op' : VOp} {t t' t'' : DT} (ho : OpR X (compareOp o) r) (lk : LkO X B r op) (ho' : OpR X (compareOp o') r') (lk' : LkO X B r' op') (ha : DE X B a t) (hb : DE X B b t') (hc : DE X B c t'')
    (hp : ∀ {ta tb tc}, PE X a ta → PE X b tb → PE X c tc → PE X e (tChain r r' ta tb tc)) : DE X B e (dCh op op' t t' t'') := by
  obtain ⟨ta, p, h1⟩ := ha.ex
  obtain ⟨tb, q, h2⟩ := hb.ex
  obtain ⟨tc, q', h3⟩ := hc.ex
  refine ⟨_, hp p q q', fun E C σ H Q Q0 s h k => ?_⟩
  refine h1 E C σ H _ _ s h fun v C1 u H1 p1 s1 r1 q1 => ?_
  refine h2 E C1 σ H1 _ _ (s.next p1 s1) q1 fun v2 C2 u2 H2 p2 s2 r2 ⟨z, e, q2⟩ => ?_
  refine lk H2 C2 v v2 _ u u2 _ s2 (r1.pers p2) r2 e fun z' H' p3 s3 r3 => ?_
  cases r3
  refine ⟨z, rfl, ?_⟩
  have ps := ((s.next p1 s1).next p2 s2).next p3 s3
  cases z with
  | false => exact k (.bl false) C2 _ H' ((p1.trans p2).trans p3) s3 (.bl _) q2
  | true =>
    refine h3 E C2 σ H' _ _ ps q2 fun v3 C3 u3 H3 p4 s4 r4 ⟨w, e', q3⟩ => ?_
    exact lk' H3 C3 v2 v3 w u2 u3 _ s4 ((r2.pers p3).pers p4) r4 e' fun z' H4 p5 s5 r5 => k w C3 z' H4 ((((p1.trans p2).trans p3).trans p4).trans p5) s5 r5 q3
theorem fCh_of {op op' : VOp} {f g h : En → Cs → Option D} : ∀ E C (Q : DK), ofF (fCh op op' f g h) E C Q → dCh op op' (ofF f) (ofF g) (ofF h) E C Q := fun E C Q ⟨v, e, q⟩ => by
  unfold fCh at e
  cases h1 : f E C with
  | none => rw [h1] at e; cases e
  | some x =>
    cases h2 : g E C with
    | none => rw [h1, h2] at e; cases e
    | some y =>
      rw [h1, h2] at e
      simp only at e
      cases h3 : op C x y with
      | none => rw [h3] at e; cases e
      | some d =>
        rw [h3] at e
        cases d <;> first | cases e | skip
        rename_i b
        refine ⟨x, h1, y, h2, b, h3, ?_⟩
        cases b with
        | false => cases e; exact q
        | true =>
          simp only at e
          cases h4 : h E C with
          | none => rw [h4] at e; cases e
          | some w => rw [h4] at e; exact ⟨w, h4, v, e, q⟩

/-! ### *e in a display -/
def dStar (t : DT) (r : DTA) : DTA := fun E C Q => t E C fun x C1 => ∃ xs, asSeq C1 x = some xs ∧ r E C1 fun ys C2 => Q (xs ++ ys) C2
theorem seq_rd {H : Hp} {C : Cs} {d : D} {v : V} {xs : List D} (s : Sy X.prog X.w X.K H C B.Z) (r : RD X.prog X.w X.K H C B.Z d v) (e : asSeq C d = some xs) : ∃ a vs, v = .ref a ∧ (SqT X.K H a vs ∨ SqL X.K H a vs) ∧ vs.length ≤ sizeLine ∧ RDs X.prog X.w X.K H C B.Z xs vs := by
  have lists : asL C d = some xs → ∃ a vs, v = .ref a ∧ (SqT X.K H a vs ∨ SqL X.K H a vs) ∧ vs.length ≤ sizeLine ∧ RDs X.prog X.w X.K H C B.Z xs vs := fun e => by
    obtain ⟨a, vs, h0, h1, h2, h3⟩ := asL_rd s r e
    exact ⟨a, vs, h0, .inr (SqL.of h1), h2, h3⟩
  cases d with
  | tup ys =>
    cases e
    obtain ⟨a, vs, h0, h1, h2, h3⟩ := asT_rd r (xs := xs) rfl
    exact ⟨a, vs, h0, .inl h1, h2, h3⟩
  | _ => exact lists e
theorem da_star {t : DT} {r : DTA} {sp : Pos} (ha : DE X B e t) (hr : DA X B es r) (hs : starEach (.Starred e sp :: es) X.env = (true, eval e X.env) :: starEach es X.env := by rfl) : DA X B (.Starred e sp :: es) (dStar t r) := by
  obtain ⟨t0, p, h1⟩ := ha.ex
  obtain ⟨r0, q, h2⟩ := hr.ex
  refine ⟨_, StX.pa_star p q hs, fun E C σ H Q Q0 s h k => ?_⟩
  refine h1 E C σ H _ _ s h fun v C1 u H1 p1 s1 r1 ⟨xs, e, q1⟩ => ?_
  obtain ⟨a, vs, rfl, g1, g2, g3⟩ := seq_rd s1 r1 e
  refine ⟨a, vs, rfl, g1, ?_⟩
  refine h2 E C1 σ H1 _ _ (s.next p1 s1) q1 fun ys C2 us H2 p2 s2 r2 q2 => ?_
  exact k _ C2 _ H2 (p1.trans p2) s2 ((g3.pers p2).append r2) q2
def fStar (f : En → Cs → Option D) (g : En → Cs → Option (List D)) : En → Cs → Option (List D) := fun E C => match f E C, g E C with
  | some x, some ys => match asSeq C x with
    | some xs => some (xs ++ ys)
    | none => none
  | _, _ => none
theorem fa_star {f : En → Cs → Option D} {g : En → Cs → Option (List D)} {sp : Pos} (ha : FE X B e f) (hr : FA X B es g) (hs : starEach (.Starred e sp :: es) X.env = (true, eval e X.env) :: starEach es X.env := by rfl) : FA X B (.Starred e sp :: es) (fStar f g) := by
  refine (da_star ha hr hs).mono fun E C Q ⟨v, e, q⟩ => ?_
  unfold fStar at e
  cases h1 : f E C with
  | none => rw [h1] at e; cases e
  | some x =>
    cases h2 : g E C with
    | none => rw [h1, h2] at e; cases e
    | some ys =>
      rw [h1, h2] at e
      simp only at e
      cases h3 : asSeq C x with
      | none => rw [h3] at e; cases e
      | some xs => rw [h3] at e; cases e; exact ⟨x, h1, xs, h3, ys, h2, q⟩

/-! ### calls of built-ins by values -/
abbrev VC := Cs → List D → Option D
def LkC (X : Cx) (B : Bs) (r : List V → Hp → VK → Prop) (vc : VC) : Prop := ∀ H C ds vs z (Q : VK), Sy X.prog X.w X.K H C B.Z → RDs X.prog X.w X.K H C B.Z ds vs → vc C ds = some z →
  (∀ z' H', Pers H C H' C → Sy X.prog X.w X.K H' C B.Z → RD X.prog X.w X.K H' C B.Z z z' → Q z' H') → r vs H Q
def dCall (vc : VC) (t : DTA) : DT := fun E C Q => t E C fun ds C1 => ∃ z, vc C1 ds = some z ∧ Q z C1
def fCall (vc : VC) (g : En → Cs → Option (List D)) : En → Cs → Option D := fun E C => match g E C with
  | some ds => vc C ds
  | none => none
theorem fCall_of {vc : VC} {g : En → Cs → Option (List D)} : ∀ E C (Q : DK), ofF (fCall vc g) E C Q → dCall vc (ofA g) E C Q := fun E C Q ⟨v, e, q⟩ => by
  unfold fCall at e
  cases h : g E C with
  | none => rw [h] at e; cases e
  | some ds => rw [h] at e; exact ⟨ds, h, v, e, q⟩
theorem de_tCB {r : List V → Hp → VK → Prop} {vc : VC} {t : DTA} (lk : LkC X B r vc) (ha : DA X B es t) (hp : ∀ {ta}, PA X es ta → PE X e (tCB r ta)) : DE X B e (dCall vc t) := by
  obtain ⟨ta, p, h1⟩ := ha.ex
  refine ⟨_, hp p, fun E C σ H Q Q0 s h k => ?_⟩
  refine h1 E C σ H _ _ s h fun ds C1 vs H1 p1 s1 r1 ⟨z, e, q1⟩ => ?_
  exact lk H1 C1 ds vs z Q0 s1 r1 e fun z' H' p2 s2 r2 => k z C1 z' H' (p1.trans p2) s2 r2 q1
theorem de_callB {r : List V → Hp → VK → Prop} {vc : VC} {t : DTA} {id : String} {x : Str} {p : Pos} (hc : CallR X (.builtin id) r) (lk : LkC X B r vc) (hg : Gl X x) (hm : X.mg x = none) (hv : bootBuiltins x = some (.builtin id)) (ha : DA X B (a :: es) t)
    (hn : x ≠ "__name__" := by decide) (hdb : (x == ("__debug__" : Str)) = false := by decide)
    (he : starEach (a :: es) X.env = (false, eval a X.env) :: starEach es X.env := by rfl) (hpl : (backTo pos (starEach es X.env)).any (·.1) = false := by rfl) : DE X B (.Call (.Name x p) (a :: es) [] pos) (dCall vc t) :=
  de_tCB lk ha fun q => pe_callB hc hg hm hv q hn hdb he hpl
theorem de_callTy {r : List V → Hp → VK → Prop} {vc : VC} {t : DTA} {id : String} {x : Str} {p : Pos} (hc : CallR X (.type id) r) (lk : LkC X B r vc) (hg : Gl X x) (hm : X.mg x = none) (hv : bootBuiltins x = some (.type id)) (ha : DA X B (a :: es) t)
    (hn : x ≠ "__name__" := by decide) (hdb : (x == ("__debug__" : Str)) = false := by decide)
    (he : starEach (a :: es) X.env = (false, eval a X.env) :: starEach es X.env := by rfl) (hpl : (backTo pos (starEach es X.env)).any (·.1) = false := by rfl) : DE X B (.Call (.Name x p) (a :: es) [] pos) (dCall vc t) :=
  de_tCB lk ha fun q => pe_callTy hc hg hm hv q hn hdb he hpl
theorem CallR.or {f : Value} {r r' : List V → Hp → VK → Prop} (h : CallR X f r) (h' : CallR X f r') : CallR X f (fun xs H Q => r xs H Q ∨ r' xs H Q) := by
  intro pins s σ H xs us Q I rs q
  rcases q with q | q
  · exact h pins s σ H xs us Q I rs q
  · exact h' pins s σ H xs us Q I rs q
end
end DL

set_option Elab.async false
set_option linter.all false
set_option maxRecDepth 100000
set_option maxHeartbeats 2000000
/-! DlF: built-ins; attributes; statements. -/
namespace DL
open PySem PySem.Spec PyProof.Rows L2
section
variable {X : Cx} {B : Bs}

/-! ### len, list, tuple, max, min, int, all, any -/
def vLen : VC := fun C ds => match ds with
  | [.str x] => if x.length ≤ sizeLine then some (.int x.length) else none
  | [d] => match asSeq C d with
    | some xs => some (.int xs.length)
    | none => match asD C d with
      | some (ks, _) => some (.int ks.length)
      | none => none
  | _ => none
def rLenN (P : Program) (w : World) (K : PySem.W.Frag) : List V → Hp → VK → Prop := fun vs H Q => ∃ a xs, vs = [.ref a] ∧ RdN P w H a xs ∧ KeysN K H xs ∧ Q (.int xs.length) H
def rLenK : List V → Hp → VK → Prop := fun vs H Q => ∃ a kvs, vs = [V.ref a] ∧ Rd H a (.dK kvs) ∧ Q (.int kvs.length) H
theorem vals1' {P : V → Prop} {us : List Value} {x : V} (r : Vals [x] us) : ∃ u, us = [u] ∧ RelV x u := by
  cases r with
  | cons r1 r2 => cases r2; exact ⟨_, rfl, r1⟩
theorem call_lenK : CallR X (.builtin "len") rLenK := by
  intro pins s σ H xs us Q I r h
  obtain ⟨a, kvs, rfl, e, q⟩ := h
  obtain ⟨u, rfl, rx⟩ := vals1' (P := fun _ => True) r
  cases rx
  exact d_len I e fun t s' I' => ⟨.int _, H, I', ⟨t, rfl⟩, q⟩
theorem call_lenN : CallR X (.builtin "len") (rLenN X.prog X.w X.K) := by
  intro pins s σ H xs us Q I r h
  obtain ⟨a, kvs, rfl, e, hk, q⟩ := h
  obtain ⟨u, rfl, rx⟩ := vals1' (P := fun _ => True) r
  cases rx
  exact dn_len I e hk fun t s' I' => ⟨.int _, H, I', ⟨t, rfl⟩, q⟩
def rLenKd (K : PySem.W.Frag) (w : World) : List V → Hp → VK → Prop := fun vs H Q => ∃ a kvs, vs = [V.ref a] ∧ KDc K w a kvs ∧ Q (.int (kvs.length : Nat)) H
theorem call_lenKd : CallR X (.builtin "len") (rLenKd X.K X.w) := by
  intro pins s σ H xs us Q I r h
  obtain ⟨a, kvs, rfl, hk, q⟩ := h
  obtain ⟨u, rfl, rx⟩ := vals1' (P := fun _ => True) r
  cases rx
  obtain ⟨es, n, D, pr⟩ := hk.ex
  have hl : es.size = kvs.length := by rw [Paired.length pr, Array.length_toList]
  have hz := hk.len
  have hr : s.heap.DictRaw a es n := ⟨_, I.kIn a _ D.at_, ⟨rfl, rfl, rfl⟩, rfl⟩
  refine PyProof.Rows.call_len_slot (n := es.size) hr.typeIs F.slot_dict_len (fun Q' hq => call_len_raw D.low hr hq) (by omega) (by rw [sizeLine_eq] at hz; omega) ?_
  rw [hl]
  exact ⟨.int kvs.length, H, I.tok _, ⟨_, rfl⟩, q⟩
def rLenA (P : Program) (w : World) (K : PySem.W.Frag) : List V → Hp → VK → Prop := fun vs H Q => ((∃ x n, vs = [x] ∧ LenV K x H n ∧ Q (.int n) H) ∨ rLenK vs H Q) ∨ (rLenN P w K vs H Q ∨ rLenKd K w vs H Q)
theorem call_lenA : CallR X (.builtin "len") (rLenA X.prog X.w X.K) := (call_len.or call_lenK).or (call_lenN.or call_lenKd)
theorem rds1 {H : Hp} {C : Cs} {d : D} {vs : List V} (r : RDs X.prog X.w X.K H C B.Z [d] vs) : ∃ v, vs = [v] ∧ RD X.prog X.w X.K H C B.Z d v := by
  cases r with
  | cons r t => cases t; exact ⟨_, rfl, r⟩
theorem rds2 {H : Hp} {C : Cs} {d d' : D} {vs : List V} (r : RDs X.prog X.w X.K H C B.Z [d, d'] vs) : ∃ v v', vs = [v, v'] ∧ RD X.prog X.w X.K H C B.Z d v ∧ RD X.prog X.w X.K H C B.Z d' v' := by
  cases r with
  | cons r t => obtain ⟨v', rfl, r'⟩ := rds1 t; exact ⟨_, _, rfl, r, r'⟩
theorem lk_len : LkC X B (rLenA X.prog X.w X.K) vLen := fun H C ds vs z Q s r e k => by
  match ds with
  | [] => cases e
  | [d] =>
    obtain ⟨v, rfl, rd⟩ := rds1 r
    have seq : (match asSeq C d with
      | some xs => some (D.int xs.length)
      | none => match asD C d with
        | some (ks, _) => some (D.int ks.length)
        | none => none) = some z → rLenA X.prog X.w X.K [v] H Q := fun e => by
      cases h : asSeq C d with
      | some xs =>
        rw [h] at e; cases e
        obtain ⟨a, vs, rfl, h1, h2, h3⟩ := seq_rd s rd h
        refine .inl (.inl ⟨_, xs.length, rfl, ?_, k (.int _) H .refl s (.int _)⟩)
        rcases h1 with h1 | h1
        · exact .inr ⟨vs, h1, h3.length⟩
        · exact .inl ⟨vs, h1, h3.length⟩
      | none =>
        rw [h] at e
        cases h' : asD C d with
        | none => rw [h'] at e; cases e
        | some p =>
          obtain ⟨ks, es⟩ := p
          rw [h'] at e; cases e
          obtain ⟨a, rfl, hc⟩ := asD_rd s rd h'
          cases hc with
          | k h1 h2 h3 =>
            subst h2
            refine .inl (.inr ⟨a, _, rfl, h1, ?_⟩)
            rw [List.length_map] at k
            exact k (.int _) H .refl s (.int _)
          | t h1 h2 h3 h4 h5 =>
            rename_i xs
            have el : ks.length = xs.length := by have := congrArg List.length h3; rwa [List.length_map, List.length_map] at this
            rw [el] at k
            exact .inr (.inl ⟨a, xs, rfl, .inl h1, keysN_of h3 h4 h2.2, k (.int _) H .refl s (.int _)⟩)
          | kd h1 h2 h3 =>
            subst h2
            rw [List.length_map] at k
            exact .inr (.inr ⟨a, _, rfl, h1, k (.int _) H .refl s (.int _)⟩)
    cases d with
    | str x =>
      simp only [vLen] at e
      by_cases hz : x.length ≤ sizeLine
      · rw [if_pos hz] at e; cases e; cases rd
        exact .inl (.inl ⟨_, x.length, rfl, ⟨hz, rfl⟩, k (.int _) H .refl s (.int _)⟩)
      · rw [if_neg hz] at e; cases e
    | _ => exact seq e
  | _ :: _ :: _ => simp [vLen] at e
/-- list(x) of a list or tuple; tuple(x) -/
def vListF : VC := fun C ds => match ds with
  | [d] => (asSeq C d).map .lst
  | _ => none
def vTuple : VC := fun C ds => match ds with
  | [d] => (asSeq C d).map .tup
  | _ => none
abbrev rListS' (K : PySem.W.Frag) : List V → Hp → VK → Prop := fun xs H Q => ∃ p ys, xs = [.ref p] ∧ (SqL K H p ys ∨ SqT K H p ys) ∧ ∀ l, H l = none → Q (.ref l) (upd H l (.lst ys))
abbrev rTupS (K : PySem.W.Frag) : List V → Hp → VK → Prop := fun xs H Q => ∃ p ys, xs = [.ref p] ∧ ((SqL K H p ys ∧ ∀ l, H l = none → Q (.ref l) (upd H l (.tup ys))) ∨ (SqT K H p ys ∧ Q (.ref p) H))
theorem lk_listF : LkC X B (rListS' X.K) vListF := fun H C ds vs z Q s r e k => by
  match ds with
  | [] => cases e
  | [d] =>
    obtain ⟨v, rfl, rd⟩ := rds1 r
    simp only [vListF] at e
    cases h : asSeq C d with
    | none => rw [h] at e; cases e
    | some xs =>
      rw [h] at e; cases e
      obtain ⟨a, vs, rfl, h1, h2, h3⟩ := seq_rd s rd h
      exact ⟨a, vs, rfl, h1.symm, fun l hl => k (.ref l) _ (Pers.laid hl) (s.laid hl) (.lst upd_same (s.free hl) (s.nz hl) h2 (h3.pers (Pers.laid hl)))⟩
  | _ :: _ :: _ => cases e
theorem lk_tuple : LkC X B (rTupS X.K) vTuple := fun H C ds vs z Q s r e k => by
  match ds with
  | [] => cases e
  | [d] =>
    obtain ⟨v, rfl, rd⟩ := rds1 r
    have lists : (asL C d).map D.tup = some z → rTupS X.K [v] H Q := fun e => by
      cases h : asL C d with
      | none => rw [h] at e; cases e
      | some xs =>
        rw [h] at e; cases e
        obtain ⟨a, vs, rfl, h1, h2, h3⟩ := asL_rd s rd h
        exact ⟨a, vs, rfl, .inl ⟨SqL.of h1, fun l hl => k (.ref l) _ (Pers.laid hl) (s.laid hl) (.tup (.inl upd_same) (s.free hl) (s.nz hl) h2 (h3.pers (Pers.laid hl)))⟩⟩
    cases d with
    | tup ys =>
      cases e
      obtain ⟨a, vs, rfl, h1, h2, h3⟩ := asT_rd rd (xs := ys) rfl
      exact ⟨a, vs, rfl, .inr ⟨h1, k (.ref a) H .refl s rd⟩⟩
    | _ => exact lists e
  | _ :: _ :: _ => cases e
def vI1 (g : Int → Int) : VC := fun _ ds => match ds with
  | [.int i] => some (.int (g i))
  | _ => none
def vI2 (g : Int → Int → Int) : VC := fun _ ds => match ds with
  | [.int i, .int j] => some (.int (g i j))
  | _ => none
abbrev vMax2 : VC := vI2 fun i j => if j > i then j else i
abbrev vMin2 : VC := vI2 fun i j => if j < i then j else i
theorem lk_I2 {g : Int → Int → Int} : LkC X B (fun xs H Q => ∃ i j, xs = [.int i, .int j] ∧ Q (.int (g i j)) H) (vI2 g) := fun H C ds vs z Q s r e k => by
  unfold vI2 at e
  split at e
  · cases e
    obtain ⟨v, v', rfl, r1, r2⟩ := rds2 r
    cases r1; cases r2
    exact ⟨_, _, rfl, k (.int _) H .refl s (.int _)⟩
  · cases e
/-- int(x) of a number or a truth value -/
def vInt : VC := fun _ ds => match ds with
  | [.int i] => some (.int i)
  | [.bl b] => some (.int (if b then 1 else 0))
  | _ => none
theorem lk_int : LkC X B (fun xs H Q => (∃ i, xs = [.int i] ∧ Q (.int i) H) ∨ ∃ k, xs = [.bl k] ∧ Q (.int (if k then 1 else 0)) H) vInt := fun H C ds vs z Q s r e k => by
  unfold vInt at e
  split at e
  · cases e
    obtain ⟨v, rfl, r1⟩ := rds1 r
    cases r1
    exact .inl ⟨_, rfl, k (.int _) H .refl s (.int _)⟩
  · cases e
    obtain ⟨v, rfl, r1⟩ := rds1 r
    cases r1
    exact .inr ⟨_, rfl, k (.int _) H .refl s (.int _)⟩
  · cases e
/-- the truth values of a list -/
def bools : List D → Option (List Bool)
  | [] => some []
  | .bl b :: ds => (bools ds).map (b :: ·)
  | _ :: _ => none
theorem bools_rd {H : Hp} {C : Cs} : ∀ {ds : List D} {vs : List V} {bs : List Bool}, RDs X.prog X.w X.K H C B.Z ds vs → bools ds = some bs → vs = bs.map V.bl
  | _, _, _, .nil, e => by cases e; rfl
  | _, _, bs, .cons (d := d) (ds := ds) r t, e => by
    cases d <;> first | (simp [bools] at e; done) | skip
    simp only [bools] at e
    cases h : bools ds with
    | none => rw [h] at e; cases e
    | some bs' =>
      rw [h] at e; cases e
      cases r
      rw [List.map_cons, ← bools_rd t h]
def vAll : VC := fun C ds => match ds with
  | [d] => match asL C d with
    | some xs => (bools xs).map fun bs => .bl (bs.all id)
    | none => none
  | _ => none
def vAny : VC := fun C ds => match ds with
  | [d] => match asL C d with
    | some xs => (bools xs).map fun bs => .bl (bs.any id)
    | none => none
  | _ => none
theorem lk_bools {g : List Bool → Bool} : LkC X B (fun vs H Q => ∃ (a : Addr) (bs : List Bool), vs = [V.ref a] ∧ SqL X.K H a (bs.map V.bl) ∧ Q (.bl (g bs)) H) (fun C ds => match ds with
    | [d] => match asL C d with
      | some xs => (bools xs).map fun bs => .bl (g bs)
      | none => none
    | _ => none) := fun H C ds vs z Q s r e k => by
  match ds with
  | [] => cases e
  | [d] =>
    obtain ⟨v, rfl, rd⟩ := rds1 r
    simp only at e
    cases h : asL C d with
    | none => rw [h] at e; cases e
    | some xs =>
      rw [h] at e
      simp only at e
      cases h' : bools xs with
      | none => rw [h'] at e; cases e
      | some bs =>
        rw [h'] at e; cases e
        obtain ⟨a, vs, rfl, h1, h2, h3⟩ := asL_rd s rd h
        have := bools_rd h3 h'
        subst this
        exact ⟨a, bs, rfl, SqL.of h1, k (.bl _) H .refl s (.bl _)⟩
  | _ :: _ :: _ => cases e
theorem lk_all : LkC X B (rAll X.K) vAll := lk_bools (g := fun bs => bs.all id)
theorem lk_any : LkC X B (rAny X.K) vAny := lk_bools (g := fun bs => bs.any id)

/-! ### attributes -/
def putFD (f : Str) (v : D) : List (Str × D) → List (Str × D)
  | [] => [(f, v)]
  | (g, x) :: r => if g = f then (g, v) :: r else (g, x) :: putFD f v r
theorem rfs_put {H : Hp} {C : Cs} {f : Str} {d : D} {v : V} (rd : RD X.prog X.w X.K H C B.Z d v) : ∀ {fs : List (Str × D)} {vfs : List (Str × V)}, RFs X.prog X.w X.K H C B.Z fs vfs → RFs X.prog X.w X.K H C B.Z (putFD f d fs) (putF f v vfs)
  | _, _, .nil => .cons ⟨rfl, rd⟩ .nil
  | (g, x) :: r, (g', x') :: r', .cons h t => by
    obtain ⟨h1, h2⟩ := h
    have h1 : g = g' := h1
    subst h1
    unfold putFD putF
    by_cases e : g = f
    · rw [if_pos e, if_pos e]; exact .cons ⟨rfl, rd⟩ t
    · rw [if_neg e, if_neg e]; exact .cons ⟨rfl, h2⟩ (rfs_put rd t)
theorem rfs_get {H : Hp} {C : Cs} {f : Str} {d : D} : ∀ {fs : List (Str × D)} {vfs : List (Str × V)}, RFs X.prog X.w X.K H C B.Z fs vfs → fs.lookup f = some d → ∃ v, vfs.lookup f = some v ∧ RD X.prog X.w X.K H C B.Z d v
  | _, _, .nil, e => by cases e
  | (g, x) :: r, (g', x') :: r', .cons h t, e => by
    obtain ⟨h1, h2⟩ := h
    have h1 : g = g' := h1
    subst h1
    by_cases q : f = g
    · have hb : (f == g) = true := beq_iff_eq.mpr q
      simp only [List.lookup, hb] at e ⊢
      cases e
      exact ⟨x', rfl, h2⟩
    · have hb : (f == g) = false := beq_eq_false_iff_ne.mpr q
      simp only [List.lookup, hb] at e ⊢
      exact rfs_get t e
theorem rfs_none {H : Hp} {C : Cs} {f : Str} : ∀ {fs : List (Str × D)} {vfs : List (Str × V)}, RFs X.prog X.w X.K H C B.Z fs vfs → fs.lookup f = none → vfs.lookup f = none
  | _, _, .nil, e => rfl
  | (g, x) :: r, (g', x') :: r', .cons h t, e => by
    obtain ⟨h1, h2⟩ := h
    have h1 : g = g' := h1
    subst h1
    by_cases q : f = g
    · have hb : (f == g) = true := beq_iff_eq.mpr q
      simp only [List.lookup, hb] at e
      cases e
    · have hb : (f == g) = false := beq_eq_false_iff_ne.mpr q
      simp only [List.lookup, hb] at e ⊢
      exact rfs_none t e
theorem rfs_len {H : Hp} {C : Cs} {fs : List (Str × D)} {vfs : List (Str × V)} (r : RFs X.prog X.w X.K H C B.Z fs vfs) : fs.length = vfs.length := Paired.length r
/-- e.f, e an instance of the class at c -/
def dFld (c : Addr) (f : Str) (t : DT) : DT := fun E C Q => t E C fun x C1 => ∃ a fs v, x = .ref a ∧ C1 a = some (.ins c fs) ∧ fs.lookup f = some v ∧ Q v C1
def fFld (c : Addr) (f : Str) (g : En → Cs → Option D) : En → Cs → Option D := fun E C => match g E C with
  | some (.ref a) => match C a with
    | some (.ins c' fs) => if c' = c then fs.lookup f else none
    | _ => none
  | _ => none
variable {e o : Expr} {pos : Pos} {f : Str} {c : Addr}
theorem de_fld {t : DT} (cl : Cls X.K c) (na : NoAttr X.K c f) (h : DE X B e t) (hb : attributeBase e f X.env (eval e X.env) = eval e X.env := by rfl) : DE X B (.Attribute e f pos) (dFld c f t) := by
  obtain ⟨t0, p, r⟩ := h.ex
  refine ⟨_, pe_fld p hb, fun E C σ H Q Q0 s q k => ?_⟩
  refine r E C σ H _ _ s q fun v C1 u H1 p1 s1 r1 ⟨a, fs, v', e1, hc, hl, q1⟩ => ?_
  subst e1
  cases r1
  obtain ⟨dx, vfs, h1, h2⟩ := s1.cel a _ hc
  obtain ⟨w', h3, h4⟩ := rfs_get h2 hl
  exact ⟨a, c, dx, vfs, w', rfl, h1, cl, na, h3, k v' C1 w' H1 p1 s1 h4 q1⟩
theorem fe_fld {g : En → Cs → Option D} (cl : Cls X.K c) (na : NoAttr X.K c f) (h : FE X B e g) (hb : attributeBase e f X.env (eval e X.env) = eval e X.env := by rfl) : FE X B (.Attribute e f pos) (fFld c f g) := by
  refine (de_fld cl na h hb).mono fun E C Q ⟨v, e, q⟩ => ?_
  unfold fFld at e
  split at e
  · rename_i a h1
    split at e
    · rename_i c' fs h2
      by_cases hc : c' = c
      · subst hc
        rw [if_pos rfl] at e
        exact ⟨_, h1, a, fs, v, rfl, h2, e, q⟩
      · rw [if_neg hc] at e; cases e
    · cases e
  · cases e
end

/-! ### statements -/
structure DEnds where
  nx : En → Cs → Prop
  rt : D → Cs → Prop
  bk : En → Cs → Prop := fun _ _ => False
  ct : En → Cs → Prop := fun _ _ => False
abbrev DTS := DEnds → En → Cs → Prop
structure KoS (X : Cx) (B : Bs) (H : Hp) (C : Cs) (D : DEnds) (D0 : Ends) : Prop where
  nx : ∀ E C' σ H', Pers H C H' C' → Ps X B E C' σ H' → D.nx E C' → D0.nx σ H'
  rt : ∀ v C' u H', Pers H C H' C' → Sy X.prog X.w X.K H' C' B.Z → Pers B.H B.C H' C' → RD X.prog X.w X.K H' C' B.Z v u → D.rt v C' → D0.rt u H'
  bk : ∀ E C' σ H', Pers H C H' C' → Ps X B E C' σ H' → D.bk E C' → D0.bk σ H'
  ct : ∀ E C' σ H', Pers H C H' C' → Ps X B E C' σ H' → D.ct E C' → D0.ct σ H'
structure DS (X : Cx) (B : Bs) (st : Stmt) (t : DTS) : Prop where
  ex : ∃ t0, PS X st t0 ∧ ∀ E C σ H D D0, Ps X B E C σ H → t D E C → KoS X B H C D D0 → t0 D0 σ H
structure DSs (X : Cx) (B : Bs) (st : List Stmt) (t : DTS) : Prop where
  ex : ∃ t0, PSs X st t0 ∧ ∀ E C σ H D D0, Ps X B E C σ H → t D E C → KoS X B H C D D0 → t0 D0 σ H
section
variable {X : Cx} {B : Bs} {st : Stmt} {rest : List Stmt} {e o a b c : Expr} {es : List Expr} {pos : Pos}
theorem KoS.shift {H H1 : Hp} {C C1 : Cs} {D : DEnds} {D0 : Ends} (k : KoS X B H C D D0) (p : Pers H C H1 C1) : KoS X B H1 C1 D D0 :=
  ⟨fun E C' σ H' q => k.nx E C' σ H' (p.trans q), fun v C' u H' q => k.rt v C' u H' (p.trans q), fun E C' σ H' q => k.bk E C' σ H' (p.trans q), fun E C' σ H' q => k.ct E C' σ H' (p.trans q)⟩
def dNext : DTS := fun D E C => D.nx E C
def dSeq (t u : DTS) : DTS := fun D E C => t { D with nx := u D } E C
theorem dss_nil : DSs X B [] dNext := ⟨_, pss_nil, fun E C σ H D D0 s q k => k.nx E C σ H .refl s q⟩
theorem dss_cons {t u : DTS} (h1 : DS X B st t) (h2 : DSs X B rest u) : DSs X B (st :: rest) (dSeq t u) := by
  obtain ⟨t0, p, r⟩ := h1.ex
  obtain ⟨u0, p', r'⟩ := h2.ex
  refine ⟨_, pss_cons p p', fun E C σ H D D0 s q k => ?_⟩
  exact r E C σ H _ _ s q ⟨fun E C' σ H' q' s' n => r' E C' σ H' D D0 s' n (k.shift q'), k.rt, k.bk, k.ct⟩
theorem dss_one {t : DTS} (h1 : DS X B st t) : DSs X B [st] t := by
  obtain ⟨t0, p, r⟩ := h1.ex
  exact ⟨_, pss_one p, r⟩
theorem DS.mono {t t' : DTS} (h : DS X B st t) (m : ∀ D E C, t' D E C → t D E C) : DS X B st t' := by
  obtain ⟨t0, p, r⟩ := h.ex
  exact ⟨t0, p, fun E C σ H D D0 s q k => r E C σ H D D0 s (m D E C q) k⟩
def dNever : DTS := fun _ _ _ => False
theorem ds_never : DS X B st dNever := ⟨_, ps_never, fun E C σ H D D0 s q k => q⟩
theorem dss_never : DSs X B rest dNever := ⟨_, pss_never, fun E C σ H D D0 s q k => q⟩
theorem ds_pass : DS X B (.Pass pos) dNext := ⟨_, ps_pass, fun E C σ H D D0 s q k => k.nx E C σ H .refl s q⟩
theorem ds_doc {x j pos'} : DS X B (.Expr (.Constant (.str x) j pos) pos') dNext := ⟨_, ps_doc, fun E C σ H D D0 s q k => k.nx E C σ H .refl s q⟩
def dDrop (t : DT) : DTS := fun D E C => t E C fun _ C1 => D.nx E C1
theorem ds_expr {t : DT} (h : DE X B e t) (hs : swapsWith e none pos.line X.env = pure false := by rfl) : DS X B (.Expr e pos) (dDrop t) := by
  obtain ⟨t0, p, r⟩ := h.ex
  refine ⟨_, ps_expr p hs, fun E C σ H D D0 s q k => ?_⟩
  exact r E C σ H _ _ s q fun v C1 u H1 p1 s1 r1 q1 => k.nx E C1 σ H1 p1 (s.next p1 s1) q1
def dRet (t : DT) : DTS := fun D E C => t E C D.rt
theorem ds_ret {t : DT} (h : DE X B e t) : DS X B (.Return (some e) pos) (dRet t) := by
  obtain ⟨t0, p, r⟩ := h.ex
  refine ⟨_, ps_ret p, fun E C σ H D D0 s q k => ?_⟩
  exact r E C σ H _ _ s q fun v C1 u H1 p1 s1 r1 q1 => k.rt v C1 u H1 p1 s1 (s.ps.trans p1) r1 q1
def dRetN : DTS := fun D _ C => D.rt .non C
theorem ds_retN : DS X B (.Return none pos) dRetN := ⟨_, ps_retN, fun E C σ H D D0 s q k => k.rt .non C .non H .refl s.sy s.ps .non q⟩
def dIfS (q : DTT) (t u : DTS) : DTS := fun D E C => q E C fun b C1 => if b = true then t D E C1 else u D E C1
theorem ds_if {q : DTT} {t u : DTS} {th el : List Stmt} (hc : DQ X B c q) (ha : DSs X B th t) (hb : DSs X B el u) : DS X B (.If c th el pos) (dIfS q t u) := by
  obtain ⟨tc, pc, rc⟩ := hc.ex
  obtain ⟨ta, p, r⟩ := ha.ex
  obtain ⟨tb, p', r'⟩ := hb.ex
  refine ⟨_, ps_if pc p p', fun E C σ H D D0 s q k => ?_⟩
  refine rc E C σ H _ _ s q fun b C1 H1 p1 s1 q1 => ?_
  cases b with
  | true => exact r E C1 σ H1 D D0 (s.next p1 s1) q1 (k.shift p1)
  | false => exact r' E C1 σ H1 D D0 (s.next p1 s1) q1 (k.shift p1)

/-! ### targets -/
abbrev DTG := D → En → Cs → (En → Cs → Prop) → Prop
abbrev DTGs := List D → En → Cs → (En → Cs → Prop) → Prop
def KoG (X : Cx) (B : Bs) (H : Hp) (C : Cs) (Q : En → Cs → Prop) (Q0 : L2.St → Hp → Prop) : Prop := ∀ E C' σ H', Pers H C H' C' → Ps X B E C' σ H' → Q E C' → Q0 σ H'
structure DG (X : Cx) (B : Bs) (tg : Expr) (t : DTG) : Prop where
  ex : ∃ t0, PG X tg t0 ∧ ∀ E C σ H d v Q Q0, Ps X B E C σ H → RD X.prog X.w X.K H C B.Z d v → t d E C Q → KoG X B H C Q Q0 → t0 v σ H Q0
structure DGs (X : Cx) (B : Bs) (tgs : List Expr) (t : DTGs) : Prop where
  ex : ∃ t0, PGs X tgs t0 ∧ ∀ E C σ H ds vs Q Q0, Ps X B E C σ H → RDs X.prog X.w X.K H C B.Z ds vs → t ds E C Q → KoG X B H C Q Q0 → t0 vs σ H Q0
theorem Ps.set {E : En} {C : Cs} {σ : L2.St} {H : Hp} {d : D} {v : V} (s : Ps X B E C σ H) (r : RD X.prog X.w X.K H C B.Z d v) (i : Nat) : Ps X B (E.set i (some d)) C (σ.set i (some v)) H := ⟨s.re.set r i, s.sy, s.ps⟩
def dgName (i : Nat) : DTG := fun v E C Q => Q (E.set i (some v)) C
theorem dg_name {i : Nat} {x : Str} (hN : X.N.Nodup) (hi : X.N[i]? = some x) (hx : Loc X.env.scope x) (hf : X.fn x = true ∨ X.env.scope.names.lookup x = some .local := by first | exact .inl rfl | exact .inr rfl | assumption) : DG X B (.Name x pos) (dgName i) :=
  ⟨_, pg_name hN hi hx hf, fun E C σ H d v Q Q0 s r q k => k _ C _ H .refl (s.set r i) q⟩
def dgNil : DTGs := fun vs E C Q => vs = [] ∧ Q E C
def dgCons (t : DTG) (u : DTGs) : DTGs := fun vs E C Q => ∃ v r, vs = v :: r ∧ t v E C fun E' C' => u r E' C' Q
theorem dgs_nil : DGs X B [] dgNil := ⟨_, pgs_nil, fun E C σ H ds vs Q Q0 s r ⟨e, q⟩ k => by subst e; cases r; exact ⟨rfl, k E C σ H .refl s q⟩⟩
theorem dgs_cons {t : DTG} {u : DTGs} (h1 : DG X B e t) (h2 : DGs X B es u) (hs : (assignEach (e :: es) X.env).map (·.2) = assign e X.env :: (assignEach es X.env).map (·.2) := by rfl) : DGs X B (e :: es) (dgCons t u) := by
  obtain ⟨t0, p, r⟩ := h1.ex
  obtain ⟨u0, p', r'⟩ := h2.ex
  refine ⟨_, pgs_cons p p' hs, fun E C σ H ds vs Q Q0 s rd ⟨v, vr, e, q⟩ k => ?_⟩
  subst e
  cases rd with
  | cons r1 r2 =>
    refine ⟨_, _, rfl, r E C σ H _ _ _ _ s r1 q fun E1 C1 σ1 H1 p1 s1 q1 => ?_⟩
    exact r' E1 C1 σ1 H1 _ _ _ _ s1 (r2.pers p1) q1 fun E2 C2 σ2 H2 p2 s2 q2 => k E2 C2 σ2 H2 (p1.trans p2) s2 q2
def dgTup (n : Nat) (t : DTGs) : DTG := fun v E C Q => ∃ xs, v = .tup xs ∧ xs.length = n ∧ t xs E C Q
theorem dg_tup {k1 : Nat} {t : DTGs} {n : Nat} (hc : X.calm = true) (h : DGs X B es t) (hn : (assignEach es X.env).length = n := by rfl) (hst : (assignEach es X.env).findIdx? (·.1) = none := by rfl) : DG X B (.Tuple es k1 pos) (dgTup n t) := by
  obtain ⟨t0, p, r⟩ := h.ex
  refine ⟨_, pg_tup hc p hn hst, fun E C σ H d v Q Q0 s rd ⟨xs, e, hl, q⟩ k => ?_⟩
  subst e
  obtain ⟨a, vs, rfl, h1, h2, h3⟩ := asT_rd rd (xs := xs) rfl
  exact ⟨a, vs, rfl, h1, by rw [← h3.length]; exact hl, r E C σ H xs vs Q Q0 s h3 q k⟩
def dAsg (t : DT) (g : DTG) : DTS := fun D E C => t E C fun x C1 => g x E C1 D.nx
theorem ds_asg {tg : Expr} {t : DT} {g : DTG} (he : DE X B e t) (hg : DG X B tg g) (hs : swapsWithSole [tg] e pos.line X.env = pure false := by rfl) (hw : swappedStores [tg] e X.env = pure none := by rfl)
    (h1 : (assignEach [tg] X.env).map (·.2) = [assign tg X.env] := by rfl) : DS X B (.Assign [tg] e pos) (dAsg t g) := by
  obtain ⟨t0, p, r⟩ := he.ex
  obtain ⟨g0, p', r'⟩ := hg.ex
  refine ⟨_, ps_asg p p' hs hw h1, fun E C σ H D D0 s q k => ?_⟩
  refine r E C σ H _ _ s q fun v C1 u H1 p1 s1 r1 q1 => ?_
  exact r' E C1 σ H1 v u _ _ (s.next p1 s1) r1 q1 fun E2 C2 σ2 H2 p2 s2 q2 => k.nx E2 C2 σ2 H2 (p1.trans p2) s2 q2
def dSet (i : Nat) (t : DT) : DTS := fun D E C => t E C fun x C1 => D.nx (E.set i (some x)) C1
theorem ds_set {i : Nat} {x : Str} {t : DT} {pos' : Pos} (hN : X.N.Nodup) (hi : X.N[i]? = some x) (hx : Loc X.env.scope x) (he : DE X B e t) (hs : swapsWith e (some (.Name x pos')) pos.line X.env = pure false := by rfl) (hf : X.fn x = true ∨ X.env.scope.names.lookup x = some .local := by first | exact .inl rfl | exact .inr rfl | assumption) :
    DS X B (.Assign [.Name x pos'] e pos) (dSet i t) := by
  obtain ⟨t0, p, r⟩ := he.ex
  refine ⟨_, ps_set hN hi hx p hs hf, fun E C σ H D D0 s q k => ?_⟩
  exact r E C σ H _ _ s q fun v C1 u H1 p1 s1 r1 q1 => k.nx _ C1 _ H1 p1 ((s.next p1 s1).set r1 i) q1
/-- a, b = x, y with plain local names -/
def dPar (i j : Nat) (t : DTA) : DTS := fun D E C => t E C fun vs C1 => ∃ v w, vs = [v, w] ∧ D.nx ((E.set i (some v)).set j (some w)) C1
theorem ds_par {i j : Nat} {t : DTA} (ha : DA X B [a, b] t) (hp : ∀ {ta}, PA X [a, b] ta → PS X st (tPar i j ta)) : DS X B st (dPar i j t) := by
  obtain ⟨t0, p, r⟩ := ha.ex
  refine ⟨_, hp p, fun E C σ H D D0 s q k => ?_⟩
  refine r E C σ H _ _ s q fun ds C1 vs H1 p1 s1 r1 ⟨v, w, e, q1⟩ => ?_
  subst e
  obtain ⟨u, u', rfl, g1, g2⟩ := rds2 r1
  exact ⟨u, u', rfl, k.nx _ C1 _ H1 p1 (((s.next p1 s1).set g1 i).set g2 j) q1⟩

/-! ### an attribute stored -/
def dFldS (c : Addr) (f : Str) (ta tv : DT) : DTS := fun D E C => tv E C fun y C1 => ta E C1 fun x C2 => ∃ a fs, x = .ref a ∧ C2 a = some (.ins c fs) ∧ fs.length < 1000 ∧ D.nx E (cupd C2 a (.ins c (putFD f y fs)))
theorem ds_fld {f : Str} {c : Addr} {ta tv : DT} {pos' : Pos} {value : Expr} (cl : Cls X.K c) (na : NoAttr X.K c f) (ha : DE X B o ta) (hv : DE X B value tv) (hs : swapsWith value (some (.Attribute o f pos')) pos.line X.env = pure false := by rfl) :
    DS X B (.Assign [.Attribute o f pos'] value pos) (dFldS c f ta tv) := by
  obtain ⟨t0, p, r⟩ := ha.ex
  obtain ⟨v0, p', r'⟩ := hv.ex
  refine ⟨_, ps_fld p p' hs, fun E C σ H D D0 s q k => ?_⟩
  refine r' E C σ H _ _ s q fun y C1 w1 H1 p1 s1 r1 q1 => ?_
  refine r E C1 σ H1 _ _ (s.next p1 s1) q1 fun x C2 u H2 p2 s2 r2 ⟨a, fs, e, hc, hl, q2⟩ => ?_
  subst e
  cases r2
  obtain ⟨dx, vfs, h1, h2⟩ := s2.cel a _ hc
  refine ⟨a, c, dx, vfs, rfl, h1, cl, na, by rw [← rfs_len h2]; exact hl, ?_⟩
  have pw : Pers H2 C2 (upd H2 a (.ins c dx (putF f w1 vfs))) (cupd C2 a (.ins c (putFD f y fs))) := Pers.write hc
  have sw := s2.write hc (o := .ins c dx (putF f w1 vfs)) (c := .ins c (putFD f y fs)) ⟨dx, _, upd_same, rfs_put ((r1.pers p2).pers pw) (h2.pers pw)⟩
  have pp := (p1.trans p2).trans pw
  exact k.nx E _ σ _ pp (s.next pp sw) q2

/-! ### finishing a list: nothing runs -/
def dFrz (i : Nat) (t : DTS) : DTS := fun D E C => ∃ p xs, E[i]? = some (some (.ref p)) ∧ C p = some (.lst xs) ∧ t D (E.set i (some (.lst xs))) (cdel C p)
theorem dss_frz {t : DTS} (i : Nat) (h : DSs X B rest t) : DSs X B rest (dFrz i t) := by
  obtain ⟨t0, p, r⟩ := h.ex
  refine ⟨_, p, fun E C σ H D D0 s ⟨a, xs, hE, hc, q⟩ k => ?_⟩
  obtain ⟨v, h1, h2⟩ := s.re.get hE
  cases h2
  obtain ⟨vs, g1, g2, g3⟩ := s.sy.cel a _ hc
  have sd := s.next (C' := cdel C a) (H' := H) Pers.del s.sy.del
  refine r _ _ σ H D D0 ⟨RE.setD (RD.lst g1 cdel_same (s.sy.nzc hc) g2 (g3.pers Pers.del)) i sd.re h1, sd.sy, sd.ps⟩ q (k.shift Pers.del)
end
end DL

set_option Elab.async false
set_option linter.all false
set_option maxRecDepth 100000
set_option maxHeartbeats 2000000
/-! DlG: what is walked; for, while, list comprehensions. -/
namespace DL
open PySem PySem.Spec PyProof.Rows L2

/-- the iterator J hands out these data, wherever what is finished at the start still stands -/
def ItD (X : Cx) (B : Bs) (J : It) (items : List D) (H1 : Hp) (C1 : Cs) : Prop := ∀ Z H C, (∀ a, Z a → B.Z a ∨ H1 a = none) → Pers H1 C1 H C → Sy X.prog X.w X.K H C Z → ∀ i, (items.length = i → J.stop i H) ∧
  (i < items.length → J.go i H ∧ ∀ x H', J.yld i H x H' → Pers H C H' C ∧ Sy X.prog X.w X.K H' C Z ∧ ∃ d, items[i]? = some d ∧ RD X.prog X.w X.K H' C Z d x)
abbrev DTI := En → Cs → (List D → Cs → Prop) → Prop
structure DI (X : Cx) (B : Bs) (tg iter : Expr) (t : DTI) : Prop where
  ex : ∃ wi, PI X tg iter wi ∧ ∀ E C σ H (R : List D → Cs → Prop) (R0 : It → Hp → Prop), Ps X B E C σ H → t E C R →
    (∀ J items H1 C1, Pers H C H1 C1 → Sy X.prog X.w X.K H1 C1 B.Z → ItD X B J items H1 C1 → items.length ≤ sizeLine → R items C1 → R0 J H1) → wi σ H R0
section
variable {X : Cx} {B : Bs} {tg iter e c a : Expr} {body : List Stmt} {pos : Pos}

/-! hidden addresses more: what is related stays so -/
mutual
theorem RD.hide {P : Program} {w : World} {K : PySem.W.Frag} {H : Hp} {C : Cs} {Z Z' : Addr → Prop} (h : ∀ a, Z' a → Z a ∨ H a = none) : ∀ {d : D} {v : V}, RD P w K H C Z d v → RD P w K H C Z' d v
  | _, _, .non => .non
  | _, _, .bl b => .bl b
  | _, _, .int i => .int i
  | _, _, .str x => .str x
  | _, _, .ref a => .ref a
  | _, _, .tup g c z s r => .tup g c (fun q => (h _ q).elim z fun n => by rcases g with g | ⟨_, g⟩ <;> rw [n] at g <;> cases g) s (RDs.hide h r)
  | _, _, .tupK g r => .tupK g (RDs.hide h r)
  | _, _, .lst g c z s r => .lst g c (fun q => (h _ q).elim z fun n => by rw [n] at g; cases g) s (RDs.hide h r)
  | _, _, .dicK g c z e r => .dicK g c (fun q => (h _ q).elim z fun n => by rw [n] at g; cases g) e (RDs.hide h r)
  | _, _, .dicKd g e r => .dicKd g e (RDs.hide h r)
  | _, _, .dicT g c z n e r q => .dicT g c (fun q => (h _ q).elim z fun n => by rw [n] at g; cases g) n e (RDs.hide h r) (RDs.hide h q)
theorem RDs.hide {P : Program} {w : World} {K : PySem.W.Frag} {H : Hp} {C : Cs} {Z Z' : Addr → Prop} (h : ∀ a, Z' a → Z a ∨ H a = none) : ∀ {ds : List D} {vs : List V}, RDs P w K H C Z ds vs → RDs P w K H C Z' ds vs
  | _, _, .nil => .nil
  | _, _, .cons r t => .cons (RD.hide h r) (RDs.hide h t)
end
mutual
theorem RD.show {P : Program} {w : World} {K : PySem.W.Frag} {H : Hp} {C : Cs} {Z Z' : Addr → Prop} (h : ∀ a, Z' a → Z a) : ∀ {d : D} {v : V}, RD P w K H C Z d v → RD P w K H C Z' d v
  | _, _, .non => .non
  | _, _, .bl b => .bl b
  | _, _, .int i => .int i
  | _, _, .str x => .str x
  | _, _, .ref a => .ref a
  | _, _, .tup g c z s r => .tup g c (fun q => z (h _ q)) s (RDs.show h r)
  | _, _, .tupK g r => .tupK g (RDs.show h r)
  | _, _, .lst g c z s r => .lst g c (fun q => z (h _ q)) s (RDs.show h r)
  | _, _, .dicK g c z e r => .dicK g c (fun q => z (h _ q)) e (RDs.show h r)
  | _, _, .dicKd g e r => .dicKd g e (RDs.show h r)
  | _, _, .dicT g c z n e r q => .dicT g c (fun q => z (h _ q)) n e (RDs.show h r) (RDs.show h q)
theorem RDs.show {P : Program} {w : World} {K : PySem.W.Frag} {H : Hp} {C : Cs} {Z Z' : Addr → Prop} (h : ∀ a, Z' a → Z a) : ∀ {ds : List D} {vs : List V}, RDs P w K H C Z ds vs → RDs P w K H C Z' ds vs
  | _, _, .nil => .nil
  | _, _, .cons r t => .cons (RD.show h r) (RDs.show h t)
end
theorem RCell.hide {P : Program} {w : World} {K : PySem.W.Frag} {H : Hp} {C : Cs} {Z Z' : Addr → Prop} {a : Addr} {c : Cell} (h : ∀ a, Z' a → Z a ∨ H a = none) (r : RCell P w K H C Z a c) : RCell P w K H C Z' a c := by
  cases c with
  | lst xs => obtain ⟨vs, g, s, r⟩ := r; exact ⟨vs, g, s, r.hide h⟩
  | dic ks ds =>
    rcases r with ⟨kvs, g, k, r⟩ | ⟨xs, g, n, k, r, q⟩
    · exact .inl ⟨kvs, g, k, r.hide h⟩
    · exact .inr ⟨xs, g, n, k, r.hide h, q.hide h⟩
  | ins cl fs => obtain ⟨dx, vfs, g, r⟩ := r; exact ⟨dx, vfs, g, Paired.mapP r fun _ _ z => ⟨z.1, z.2.hide h⟩⟩
theorem RCell.show {P : Program} {w : World} {K : PySem.W.Frag} {H : Hp} {C : Cs} {Z Z' : Addr → Prop} {a : Addr} {c : Cell} (h : ∀ a, Z' a → Z a) (r : RCell P w K H C Z a c) : RCell P w K H C Z' a c := by
  cases c with
  | lst xs => obtain ⟨vs, g, s, r⟩ := r; exact ⟨vs, g, s, r.show h⟩
  | dic ks ds =>
    rcases r with ⟨kvs, g, k, r⟩ | ⟨xs, g, n, k, r, q⟩
    · exact .inl ⟨kvs, g, k, r.show h⟩
    · exact .inr ⟨xs, g, n, k, r.show h, q.show h⟩
  | ins cl fs => obtain ⟨dx, vfs, g, r⟩ := r; exact ⟨dx, vfs, g, Paired.mapP r fun _ _ z => ⟨z.1, z.2.show h⟩⟩
theorem Sy.show {P : Program} {w : World} {K : PySem.W.Frag} {H : Hp} {C : Cs} {Z Z' : Addr → Prop} (s : Sy P w K H C Z) (h : ∀ a, Z' a → Z a) : Sy P w K H C Z' :=
  ⟨fun a c e => (s.cel a c e).show h, fun a z => s.hid a (h a z)⟩
theorem RE.hide {P : Program} {w : World} {K : PySem.W.Frag} {H : Hp} {C : Cs} {Z Z' : Addr → Prop} {E : En} {σ : L2.St} (h : ∀ a, Z' a → Z a ∨ H a = none) (r : RE P w K H C Z E σ) : RE P w K H C Z' E σ :=
  Paired.mapP r fun a b z => match a, b, z with
    | none, _, _ => True.intro
    | some _, some _, z => RD.hide h z

mutual
theorem RD.conv {P : Program} {w : World} {K : PySem.W.Frag} {H H' : Hp} {C C' : Cs} {Z Z' : Addr → Prop} (k : ∀ a o, H a = some o → C a = none → ¬ Z a → H' a = some o ∧ C' a = none ∧ ¬ Z' a) : ∀ {d : D} {v : V}, RD P w K H C Z d v → RD P w K H' C' Z' d v
  | _, _, .non => .non
  | _, _, .bl b => .bl b
  | _, _, .int i => .int i
  | _, _, .str x => .str x
  | _, _, .ref a => .ref a
  | _, _, .tup g c z s r => by
    rcases g with g | ⟨o, g⟩
    · exact .tup (.inl (k _ _ g c z).1) (k _ _ g c z).2.1 (k _ _ g c z).2.2 s (RDs.conv k r)
    · exact .tup (.inr ⟨o, (k _ _ g c z).1⟩) (k _ _ g c z).2.1 (k _ _ g c z).2.2 s (RDs.conv k r)
  | _, _, .tupK g r => .tupK g (RDs.conv k r)
  | _, _, .lst g c z s r => .lst (k _ _ g c z).1 (k _ _ g c z).2.1 (k _ _ g c z).2.2 s (RDs.conv k r)
  | _, _, .dicK g c z e r => .dicK (k _ _ g c z).1 (k _ _ g c z).2.1 (k _ _ g c z).2.2 e (RDs.conv k r)
  | _, _, .dicKd g e r => .dicKd g e (RDs.conv k r)
  | _, _, .dicT g c z n e r q => .dicT (k _ _ g c z).1 (k _ _ g c z).2.1 (k _ _ g c z).2.2 n e (RDs.conv k r) (RDs.conv k q)
theorem RDs.conv {P : Program} {w : World} {K : PySem.W.Frag} {H H' : Hp} {C C' : Cs} {Z Z' : Addr → Prop} (k : ∀ a o, H a = some o → C a = none → ¬ Z a → H' a = some o ∧ C' a = none ∧ ¬ Z' a) : ∀ {ds : List D} {vs : List V}, RDs P w K H C Z ds vs → RDs P w K H' C' Z' ds vs
  | _, _, .nil => .nil
  | _, _, .cons r t => .cons (RD.conv k r) (RDs.conv k t)
end
theorem rcell_conv {P : Program} {w : World} {K : PySem.W.Frag} {H H' : Hp} {C C' : Cs} {Z Z' : Addr → Prop} {a : Addr} {c : Cell} (k : ∀ a o, H a = some o → C a = none → ¬ Z a → H' a = some o ∧ C' a = none ∧ ¬ Z' a) (r : RCell P w K H C Z a c) (e : H' a = H a) : RCell P w K H' C' Z' a c := by
  cases c with
  | lst xs => obtain ⟨vs, g, s, r⟩ := r; exact ⟨vs, e.trans g, s, r.conv k⟩
  | dic ks ds =>
    rcases r with ⟨kvs, g, q, r⟩ | ⟨xs, g, n, q, r, r'⟩
    · exact .inl ⟨kvs, e.trans g, q, r.conv k⟩
    · exact .inr ⟨xs, e.trans g, n, q, r.conv k, r'.conv k⟩
  | ins cl fs => obtain ⟨dx, vfs, g, r⟩ := r; exact ⟨dx, vfs, e.trans g, Paired.mapP r fun _ _ z => ⟨z.1, z.2.conv k⟩⟩

/-! ### lists, tuples, ranges -/
def iSeqD (t : DT) : DTI := fun E C R => t E C fun v C1 => ∃ xs, v = .lst xs ∧ R xs C1
def iTupD (t : DT) : DTI := fun E C R => t E C fun v C1 => ∃ xs, v = .tup xs ∧ R xs C1
theorem itD_list {H1 : Hp} {C1 : Cs} {p : Addr} {vs : List V} {xs : List D} (h : H1 p = some (.lst vs)) (hc : C1 p = none) (r : RDs X.prog X.w X.K H1 C1 B.Z xs vs) : ItD X B (Itl X.K p) xs H1 C1 := by
  intro Z H C hz ps sy i
  have h' := ps.obj _ _ h hc
  have l := r.length
  refine ⟨fun hi => ⟨vs, SqL.of h', by rw [← l]; exact Nat.le_of_eq hi⟩, fun hi => ⟨⟨vs, vs[i]'(by rw [← l]; exact hi), SqL.of h', List.getElem?_eq_getElem _⟩, fun x H' y => ?_⟩⟩
  obtain ⟨rfl, y⟩ := y
  obtain ⟨d, e1, e2⟩ := ((r.hide hz).pers ps).get (y vs (SqL.of h'))
  exact ⟨.refl, sy, d, e1, e2⟩
theorem SqT.pers {K : PySem.W.Frag} {H H1 : Hp} {C C1 : Cs} {p : Addr} {vs : List V} (h : SqT K H1 p vs) (hc : C1 p = none ∨ H1 p = none) (ps : Pers H1 C1 H C) : SqT K H p vs := by
  rcases h with h | h
  · rcases hc with hc | hc
    · exact .inl (ps.rd h hc).1
    · exfalso
      rcases h with h | ⟨_, h⟩ <;> rw [hc] at h <;> cases h
  · exact .inr h
theorem asT_rd' {H : Hp} {C : Cs} {v : V} {xs : List D} (r : RD X.prog X.w X.K H C B.Z (.tup xs) v) : ∃ a vs, v = .ref a ∧ (Rd H a (.tup vs) ∧ C a = none ∨ KTup X.K a vs) ∧ vs.length ≤ sizeLine ∧ RDs X.prog X.w X.K H C B.Z xs vs := by
  cases r with
  | tup h c z l r => exact ⟨_, _, rfl, .inl ⟨h, c⟩, l, r⟩
  | tupK h r =>
    obtain ⟨o, its, n, h1, h2, h3, h4, h5⟩ := id h
    exact ⟨_, _, rfl, .inr h, by have q := h5.length; simp only [Array.length_toList] at q; omega, r⟩
theorem itD_tup {H1 : Hp} {C1 : Cs} {p : Addr} {vs : List V} {xs : List D} (h : Rd H1 p (.tup vs) ∧ C1 p = none ∨ KTup X.K p vs) (r : RDs X.prog X.w X.K H1 C1 B.Z xs vs) : ItD X B (Itt X.K p) xs H1 C1 := by
  intro Z H C hz ps sy i
  have h' : SqT X.K H p vs := by
    rcases h with ⟨h, hc⟩ | h
    · exact .inl (ps.rd h hc).1
    · exact SqT.ofK h
  have l := r.length
  refine ⟨fun hi => ⟨vs, h', by rw [← l]; exact Nat.le_of_eq hi⟩, fun hi => ⟨⟨vs, vs[i]'(by rw [← l]; exact hi), h', List.getElem?_eq_getElem _⟩, fun x H' y => ?_⟩⟩
  obtain ⟨rfl, y⟩ := y
  obtain ⟨d, e1, e2⟩ := ((r.hide hz).pers ps).get (y vs h')
  exact ⟨.refl, sy, d, e1, e2⟩
theorem di_lst {t : DT} (h : DE X B iter t) : DI X B tg iter (iSeqD t) := by
  obtain ⟨t0, p, r⟩ := h.ex
  refine ⟨_, pi_list p, fun E C σ H R R0 s q k => ?_⟩
  refine r E C σ H _ _ s q fun v C1 u H1 p1 s1 r1 ⟨xs, e, q1⟩ => ?_
  subst e
  cases r1 with
  | lst h c z l r => exact ⟨_, rfl, ⟨_, SqL.of h⟩, k _ xs H1 C1 p1 s1 (itD_list h c r) (by rw [r.length]; exact l) q1⟩
theorem di_tup {t : DT} (h : DE X B iter t) : DI X B tg iter (iTupD t) := by
  obtain ⟨t0, p, r⟩ := h.ex
  refine ⟨_, pi_tup p, fun E C σ H R R0 s q k => ?_⟩
  refine r E C σ H _ _ s q fun v C1 u H1 p1 s1 r1 ⟨xs, e, q1⟩ => ?_
  subst e
  obtain ⟨a, vs, rfl, h1, h2, h3⟩ := asT_rd' r1
  refine ⟨a, rfl, ⟨vs, ?_⟩, k _ xs H1 C1 p1 s1 (itD_tup h1 h3) (by rw [h3.length]; exact h2) q1⟩
  rcases h1 with h1 | h1
  · exact .inl h1.1
  · exact SqT.ofK h1
def intsD (lo : Int) (n : Nat) : List D := (List.range n).map fun (i : Nat) => D.int (lo + i)
theorem itD_range {H1 : Hp} {C1 : Cs} {lo : Int} {n : Nat} : ItD X B (Itr lo n) (intsD lo n) H1 C1 := by
  intro Z H C hz ps sy i
  unfold intsD
  rw [List.length_map, List.length_range]
  refine ⟨fun hi => Nat.le_of_eq hi, fun hi => ⟨hi, fun x H' y => ?_⟩⟩
  obtain ⟨rfl, rfl⟩ := y
  exact ⟨.refl, sy, _, by rw [List.getElem?_map, List.getElem?_range hi]; rfl, .int _⟩
def iRangeD (t : DTA) : DTI := fun E C R => t E C fun ds C1 => ∃ n : Nat, ds = [.int n] ∧ n ≤ sizeLine ∧ R (intsD 0 n) C1
theorem sz62 {n : Nat} (h : n ≤ sizeLine) : -(2 ^ 62 : Int) ≤ (n : Int) ∧ (n : Int) < 2 ^ 62 := by
  rw [sizeLine_eq] at h
  constructor <;> omega
theorem di_range {t : DTA} {p pos : Pos} (hg : Gl X "range") (hm : X.mg "range" = none) (ha : DA X B [a] t) (hs : starEach [a] X.env = [(false, eval a X.env)] := by rfl) : DI X B tg (.Call (.Name "range" p) [a] [] pos) (iRangeD t) := by
  obtain ⟨t0, p, r⟩ := ha.ex
  refine ⟨_, pi_range1 hg hm p hs, fun E C σ H R R0 s q k => ?_⟩
  refine r E C σ H _ _ s q fun ds C1 vs H1 p1 s1 r1 ⟨n, e, hn, q1⟩ => ?_
  subst e
  obtain ⟨v, rfl, r2⟩ := rds1 r1
  cases r2
  refine ⟨n, rfl, (sz62 hn).1, (sz62 hn).2, ?_⟩
  rw [Int.toNat_natCast]
  exact k _ _ H1 C1 p1 s1 itD_range (by unfold intsD; rw [List.length_map, List.length_range]; exact hn) q1

/-! ### for -/
def dFor (ti : DTI) (g : DTG) (tb : DTS) : DTS := fun D E C => ti E C fun items C1 => ∃ W : Nat → En → Cs → Prop, W 0 E C1 ∧
  (∀ i x E C, items[i]? = some x → W i E C → g x E C fun E2 C2 => tb { D with nx := W (i + 1), ct := W (i + 1), bk := D.nx } E2 C2) ∧ ∀ E C, W items.length E C → D.nx E C
theorem ds_for {ti : DTI} {g : DTG} {tb : DTS} (hp : PassesOwn (model X.prog X.w) X.A X.env X.xe) (hc : X.calm = true) (hi : DI X B tg iter ti) (hg : DG X B tg g) (hb : DSs X B body tb)
    (hs : ∀ x, foldedSetIterable iter X.env x = pure x := by intro _; rfl) : DS X B (.For tg iter body [] pos) (dFor ti g tb) := by
  obtain ⟨wi, pi, ri⟩ := hi.ex
  obtain ⟨g0, pg, rg⟩ := hg.ex
  obtain ⟨t0, pb, rb⟩ := hb.ex
  refine ⟨_, ps_for hp hc pi pg pb hs, fun E C σ H D D0 s q k => ?_⟩
  refine ri E C σ H _ _ s q fun J items H1 C1 p1 s1 it hz ⟨W, w0, step, done⟩ => ?_
  refine ⟨fun i m σ' H' => m = items.length - i ∧ i ≤ items.length ∧ ∃ E' C', Pers H1 C1 H' C' ∧ Ps X B E' C' σ' H' ∧ W i E' C', ⟨items.length, rfl, Nat.zero_le _, E, C1, .refl, s.next p1 s1, w0⟩, ?_⟩
  rintro i m σ2 H2 ⟨rfl, hi, E2, C2, p2, s2, w2⟩
  obtain ⟨stop, go⟩ := it B.Z H2 C2 (fun a h => .inl h) p2 s2.sy i
  by_cases hlt : i < items.length
  · obtain ⟨g1, g2⟩ := go hlt
    refine .inr ⟨g1, fun σ' H' => i + 1 ≤ items.length ∧ ∃ E' C', Pers H1 C1 H' C' ∧ Ps X B E' C' σ' H' ∧ W (i + 1) E' C', fun σ' H' ⟨h1, h2⟩ => ⟨items.length - (i + 1), by omega, rfl, h1, h2⟩, fun x H3 y => ?_⟩
    obtain ⟨p3, s3, d, e3, r3⟩ := g2 x H3 y
    have ps3 := s2.next p3 s3
    refine rg E2 C2 σ2 H3 d x _ _ ps3 r3 (step i d E2 C2 e3 w2) fun E4 C4 σ4 H4 p4 s4 q4 => ?_
    refine rb E4 C4 σ4 H4 _ _ s4 q4 ⟨fun E5 C5 σ5 H5 p5 s5 w5 => ⟨hlt, E5, C5, ((p2.trans p3).trans p4).trans p5, s5, w5⟩, fun v C5 u H5 p5 => k.rt v C5 u H5 ((((p1.trans p2).trans p3).trans p4).trans p5),
      fun E5 C5 σ5 H5 p5 => k.nx E5 C5 σ5 H5 ((((p1.trans p2).trans p3).trans p4).trans p5), fun E5 C5 σ5 H5 p5 s5 w5 => ⟨hlt, E5, C5, ((p2.trans p3).trans p4).trans p5, s5, w5⟩⟩
  · have e : i = items.length := by omega
    subst e
    exact .inl ⟨stop rfl, k.nx E2 C2 σ2 H2 (p1.trans p2) s2 (done E2 C2 w2)⟩
/-! ### while -/
def dWhile (q : DTT) (tb : DTS) : DTS := fun D E C => ∃ W : Nat → En → Cs → Prop, (∃ m, W m E C) ∧ ∀ m E C, W m E C → q E C fun b C1 => if b = true then tb { D with nx := fun E' C' => ∃ m', m' < m ∧ W m' E' C', ct := fun E' C' => ∃ m', m' < m ∧ W m' E' C', bk := D.nx } E C1 else D.nx E C1
theorem ds_while {q : DTT} {tb : DTS} (hp : PassesOwn (model X.prog X.w) X.A X.env X.xe) (hc : DQ X B c q) (hb : DSs X B body tb) : DS X B (.While c body [] pos) (dWhile q tb) := by
  obtain ⟨q0, pc, rc⟩ := hc.ex
  obtain ⟨t0, pb, rb⟩ := hb.ex
  refine ⟨_, ps_while hp pc pb, fun E C σ H D D0 s ⟨W, ⟨m, w⟩, turn⟩ k => ?_⟩
  refine ⟨fun m σ' H' => ∃ E' C', Pers H C H' C' ∧ Ps X B E' C' σ' H' ∧ W m E' C', ⟨m, E, C, .refl, s, w⟩, ?_⟩
  rintro m σ2 H2 ⟨E2, C2, p2, s2, w2⟩
  refine rc E2 C2 σ2 H2 _ _ s2 (turn m E2 C2 w2) fun b C3 H3 p3 s3 q3 => ?_
  have ps3 := s2.next p3 s3
  cases b with
  | true =>
    refine ⟨fun σ' H' => ∃ m', m' < m ∧ ∃ E' C', Pers H C H' C' ∧ Ps X B E' C' σ' H' ∧ W m' E' C', fun σ' H' h => h, ?_⟩
    refine rb E2 C3 σ2 H3 _ _ ps3 q3 ⟨fun E5 C5 σ5 H5 p5 s5 ⟨m', hm, w5⟩ => ⟨m', hm, E5, C5, (p2.trans p3).trans p5, s5, w5⟩, fun v C5 u H5 p5 => k.rt v C5 u H5 ((p2.trans p3).trans p5),
      fun E5 C5 σ5 H5 p5 => k.nx E5 C5 σ5 H5 ((p2.trans p3).trans p5), fun E5 C5 σ5 H5 p5 s5 ⟨m', hm, w5⟩ => ⟨m', hm, E5, C5, (p2.trans p3).trans p5, s5, w5⟩⟩
  | false => exact k.nx E2 C3 σ2 H3 (p2.trans p3) ps3 q3

/-! ### list comprehensions -/
def wipeD (E : En) : List Nat → En
  | [] => E
  | v :: vs => (wipeD E vs).set v none
theorem re_wipe {P : Program} {w : World} {K : PySem.W.Frag} {H : Hp} {C : Cs} {Z : Addr → Prop} {E : En} {σ : L2.St} (r : RE P w K H C Z E σ) : ∀ vs : List Nat, RE P w K H C Z (wipeD E vs) (wipe σ vs)
  | [] => r
  | v :: vs => (re_wipe r vs).unset v none
structure DTs (X : Cx) (B : Bs) (ifs : List Expr) (t : DTT) : Prop where
  ex : ∃ t0, PTs X ifs t0 ∧ ∀ E C σ H Q Q0, Ps X B E C σ H → t E C Q → KoT X B H C Q Q0 → t0 σ H Q0
def dYes : DTT := fun _ C Q => Q true C
theorem dts_nil : DTs X B [] dYes := ⟨_, pts_nil, fun E C σ H Q Q0 s q k => k true C H .refl s.sy q⟩
theorem dts_one {t : DTT} (h : DQ X B c t) : DTs X B [c] t := by
  obtain ⟨t0, p, r⟩ := h.ex
  exact ⟨_, pts_one p, r⟩
/-- the target of a comprehension: names of the block alone, no cell -/
structure DGc (X : Cx) (B : Bs) (tg : Expr) (vs : List Nat) (f : D → En → Option En) : Prop where
  ex : ∃ t0, PG X tg t0 ∧ ∀ E C σ H d v E2 Q0, Ps X B E C σ H → RD X.prog X.w X.K H C B.Z d v → f d E = some E2 → (∀ σ2, Ps X B E2 C σ2 H → wipe σ2 vs = wipe σ vs → Q0 σ2 H) → t0 v σ H Q0
def dLc (ti : DTI) (vs : List Nat) (g : D → En → Option En) (q : DTT) (t : DT) : DT := fun E C Q => ti E C fun items C1 => ∃ W : Nat → List D → Cs → Prop, W 0 [] C1 ∧
  (∀ i x acc C, items[i]? = some x → W i acc C → ∃ E2, g x (wipeD E vs) = some E2 ∧ q E2 C fun b C2 => if b = true then t E2 C2 fun y C3 => W (i + 1) (acc ++ [y]) C3 else W (i + 1) acc C2) ∧
  ∀ acc C, W items.length acc C → ∀ p, C p = none → Q (.ref p) (cupd C p (.lst acc))
/-- one reading for a family of contexts -/
theorem unif_E {ι : Type} {X : ι → Cx} {e : Expr} {t : DT} (h : ∀ i B, DE (X i) B e t) : ∃ t0, (∀ i, PE (X i) e t0) ∧ ∀ E C σ H Q Q0 B, (∀ i, Ps (X i) B E C σ H) → t E C Q → (∀ i, KoV (X i) B H C Q Q0) → t0 σ H Q0 :=
  ⟨fun σ H Q => ∃ B, ∀ i, Classical.choose (h i B).ex σ H Q, fun i => ⟨fun pins s σ H Q I ⟨B, hq⟩ => (Classical.choose_spec (h i B).ex).1.run pins s σ H Q I (hq i)⟩,
    fun E C σ H Q Q0 B s q k => ⟨B, fun i => (Classical.choose_spec (h i B).ex).2 E C σ H Q Q0 (s i) q (k i)⟩⟩
theorem unif_Q {ι : Type} {X : ι → Cx} {ifs : List Expr} {t : DTT} (h : ∀ i B, DTs (X i) B ifs t) : ∃ t0, (∀ i, PTs (X i) ifs t0) ∧ ∀ E C σ H Q Q0 B, (∀ i, Ps (X i) B E C σ H) → t E C Q → (∀ i, KoT (X i) B H C Q Q0) → t0 σ H Q0 :=
  ⟨fun σ H Q => ∃ B, ∀ i, Classical.choose (h i B).ex σ H Q, fun i => ⟨fun pins s σ H Q I ⟨B, hq⟩ => (Classical.choose_spec (h i B).ex).1.run pins s σ H Q I (hq i)⟩,
    fun E C σ H Q Q0 B s q k => ⟨B, fun i => (Classical.choose_spec (h i B).ex).2 E C σ H Q Q0 (s i) q (k i)⟩⟩
theorem unif_G {ι : Type} {X : ι → Cx} {tg : Expr} {vs : List Nat} {f : D → En → Option En} (h : ∀ i B, DGc (X i) B tg vs f) : ∃ t0, (∀ i, PG (X i) tg t0) ∧ ∀ E C σ H d v E2 Q0 B, (∀ i, Ps (X i) B E C σ H) → (∀ i, RD (X i).prog (X i).w (X i).K H C B.Z d v) → f d E = some E2 → (∀ i, ∀ σ2, Ps (X i) B E2 C σ2 H → wipe σ2 vs = wipe σ vs → Q0 σ2 H) → t0 v σ H Q0 :=
  ⟨fun v σ H Q => ∃ B, ∀ i, Classical.choose (h i B).ex v σ H Q, fun i => ⟨fun pins s σ H v u Q I r ⟨B, hq⟩ => (Classical.choose_spec (h i B).ex).1.run pins s σ H v u Q I r (hq i)⟩,
    fun E C σ H d v E2 Q0 B s r e k => ⟨B, fun i => (Classical.choose_spec (h i B).ex).2 E C σ H d v E2 Q0 (s i) (r i) e (k i)⟩⟩
abbrev BlkIx := Shared × Hp × Addr × List (Str × Addr) × List Addr
theorem wipe_get {σ : L2.St} {j : Nat} : ∀ {vs : List Nat}, (wipe σ vs)[j]? = if j ∈ vs ∧ j < σ.length then some none else σ[j]?
  | [] => by simp [wipe]
  | v :: vs => by
    unfold wipe
    rw [List.getElem?_set, wipe_length]
    by_cases e : v = j
    · subst e
      by_cases hl : v < σ.length
      · simp [hl]
      · simp [hl]
    · rw [if_neg e, wipe_get]
      have e' : ¬ j = v := fun z => e z.symm
      simp [e']
theorem wipe_wipe {σ : L2.St} {vs : List Nat} : wipe (wipe σ vs) vs = wipe σ vs := by
  refine List.ext_getElem? fun j => ?_
  rw [wipe_get, wipe_length]
  split
  · rename_i h
    rw [wipe_get, if_pos h]
  · rfl
theorem wipe_ps {E : En} {C : Cs} {σ : L2.St} {H : Hp} (s : Ps X B E C σ H) (vs : List Nat) : Ps X B (wipeD E vs) C (wipe σ vs) H := ⟨re_wipe s.re vs, s.sy, s.ps⟩
theorem Ps.unblk {E : En} {C : Cs} {σ : L2.St} {H : Hp} {s' : Shared} {H0 : Hp} {scope : Scope} {cenv : Env} {fp : List Addr} (s : Ps (X.blk s' H0 scope cenv fp) B E C σ H) : Ps X B E C σ H := ⟨s.re, s.sy, s.ps⟩
theorem Ps.blk {E : En} {C : Cs} {σ : L2.St} {H : Hp} {s' : Shared} {H0 : Hp} {scope : Scope} {cenv : Env} {fp : List Addr} (s : Ps X B E C σ H) : Ps (X.blk s' H0 scope cenv fp) B E C σ H := ⟨s.re, s.sy, s.ps⟩
theorem lc_data {elt : Expr} {ifs : List Expr} {scope : Scope} {own : List (Str × Nat)} {ti : DTI} {g : D → En → Option En} {q : DTT} {t : DT} (hc : X.calm = true) (hN : X.N.Nodup) (hi : DI X B tg iter ti) (ok : BlkOk X.N X.env.scope scope own)
    (hg : ∀ (s : Shared) (H : Hp) (C : Addr) (cl : List (Str × Addr)) (fp : List Addr) (B : Bs), DGc (X.blk s H scope (compEnvC scope cl C X.env) fp) B tg (own.map (·.2)) g)
    (ht : ∀ (s : Shared) (H : Hp) (C : Addr) (cl : List (Str × Addr)) (fp : List Addr) (B : Bs), DTs (X.blk s H scope (compEnvC scope cl C X.env) fp) B ifs q)
    (he : ∀ (s : Shared) (H : Hp) (C : Addr) (cl : List (Str × Addr)) (fp : List Addr) (B : Bs), DE (X.blk s H scope (compEnvC scope cl C X.env) fp) B elt t)
    : ∃ (wi : TI) (g0 : TG) (q0 : TT) (e0 : TE), PI X tg iter wi ∧ (∀ (s : Shared) (H : Hp) (C : Addr) (cl : List (Str × Addr)) (fp : List Addr), PG (X.blk s H scope (compEnvC scope cl C X.env) fp) tg g0) ∧
      (∀ (s : Shared) (H : Hp) (C : Addr) (cl : List (Str × Addr)) (fp : List Addr), PTs (X.blk s H scope (compEnvC scope cl C X.env) fp) ifs q0) ∧ (∀ (s : Shared) (H : Hp) (C : Addr) (cl : List (Str × Addr)) (fp : List Addr), PE (X.blk s H scope (compEnvC scope cl C X.env) fp) elt e0) ∧
      ∀ E C σ H (Q : DK) Q0, Ps X B E C σ H → dLc ti (own.map (·.2)) g q t E C Q → KoV X B H C Q Q0 → tLc wi g0 q0 e0 (own.map (·.2)) σ H Q0 := by
  obtain ⟨wi, pi, ri⟩ := hi.ex
  obtain ⟨g0, pg, rg⟩ := unif_G (X := fun (i : BlkIx) => X.blk i.1 i.2.1 scope (compEnvC scope i.2.2.2.1 i.2.2.1 X.env) i.2.2.2.2) (fun i B => hg i.1 i.2.1 i.2.2.1 i.2.2.2.1 i.2.2.2.2 B)
  obtain ⟨q0, pq, rq⟩ := unif_Q (X := fun (i : BlkIx) => X.blk i.1 i.2.1 scope (compEnvC scope i.2.2.2.1 i.2.2.1 X.env) i.2.2.2.2) (fun i B => ht i.1 i.2.1 i.2.2.1 i.2.2.2.1 i.2.2.2.2 B)
  obtain ⟨e0, pe, re⟩ := unif_E (X := fun (i : BlkIx) => X.blk i.1 i.2.1 scope (compEnvC scope i.2.2.2.1 i.2.2.1 X.env) i.2.2.2.2) (fun i B => he i.1 i.2.1 i.2.2.1 i.2.2.2.1 i.2.2.2.2 B)
  refine ⟨wi, g0, q0, e0, pi, fun s H C cl fp => pg ⟨s, H, C, cl, fp⟩, fun s H C cl fp => pq ⟨s, H, C, cl, fp⟩, fun s H C cl fp => pe ⟨s, H, C, cl, fp⟩, fun E C σ H Q Q0 s h k => ?_⟩
  refine ri E C σ H _ _ s h fun J items H1 C1 p1 s1 it hz ⟨W, w0, step, done⟩ => fun A hA => ?_
  have hcA : C1 A = none := s1.free hA
  have hzA : ∀ a, (B.Z a ∨ a = A) → B.Z a ∨ H1 a = none := fun a h => h.imp_right fun e => by rw [e]; exact hA
  have ps1 : Ps X B E C1 σ H1 := s.next p1 s1
  refine ⟨fun i m H' => m = items.length - i ∧ i ≤ items.length ∧ ∃ acc C' vacc, H' A = some (.lst vacc) ∧ Pers H1 C1 H' C' ∧ Sy X.prog X.w X.K H' C' (fun a => B.Z a ∨ a = A) ∧ RDs X.prog X.w X.K H' C' (fun a => B.Z a ∨ a = A) acc vacc ∧ vacc.length ≤ i ∧ W i acc C',
    ⟨items.length, rfl, Nat.zero_le _, [], C1, [], upd_same, Pers.laid hA, ⟨fun a c e => ?_, fun a za => ?_⟩, .nil, Nat.zero_le _, w0⟩, ?_⟩
  · exact RCell.pers (Pers.laid hA) (RCell.hide hzA (s1.cel a c e)) (upd_ne (fun z => by subst z; rw [hcA] at e; cases e))
  · rcases za with za | za
    · obtain ⟨h1, o, h2⟩ := s1.hid a za
      exact ⟨h1, o, by rw [upd_ne (ne_of_none h2 hA)]; exact h2⟩
    · rw [za]; exact ⟨hcA, _, upd_same⟩
  rintro i m H2 ⟨rfl, hi, acc, C2, vacc, hD, p2, s2, ra, hl, w2⟩
  obtain ⟨stop, go⟩ := it _ H2 C2 hzA p2 s2 i
  have re2 : RE X.prog X.w X.K H2 C2 (fun a => B.Z a ∨ a = A) E σ := (ps1.re.hide hzA).pers p2
  by_cases hlt : i < items.length
  · obtain ⟨g1, g2⟩ := go hlt
    refine .inr ⟨g1, fun H' => i + 1 ≤ items.length ∧ ∃ acc C' vacc, H' A = some (.lst vacc) ∧ Pers H1 C1 H' C' ∧ Sy X.prog X.w X.K H' C' (fun a => B.Z a ∨ a = A) ∧ RDs X.prog X.w X.K H' C' (fun a => B.Z a ∨ a = A) acc vacc ∧ vacc.length ≤ i + 1 ∧ W (i + 1) acc C',
      fun H' ⟨h1, h2⟩ => ⟨items.length - (i + 1), by omega, rfl, h1, h2⟩, fun x H3 y => ?_⟩
    obtain ⟨p3, s3, d, e3, r3⟩ := g2 x H3 y
    obtain ⟨E2, eE, q3⟩ := step i d acc C2 e3 w2
    have ps3 : Ps X ⟨H3, C2, fun a => B.Z a ∨ a = A⟩ (wipeD E (own.map (·.2))) C2 (wipe σ (own.map (·.2))) H3 := ⟨re_wipe (re2.pers p3) _, s3, .refl⟩
    refine rg _ C2 _ H3 d x E2 _ ⟨H3, C2, fun a => B.Z a ∨ a = A⟩ (fun i => ps3.blk) (fun i => r3) eE fun _ σ4 ps4' ew => ⟨by rw [ew, wipe_wipe], ?_⟩
    have ps4 : Ps X ⟨H3, C2, fun a => B.Z a ∨ a = A⟩ E2 C2 σ4 H3 := ps4'.unblk
    refine rq E2 C2 σ4 H3 _ _ ⟨H3, C2, fun a => B.Z a ∨ a = A⟩ (fun i => ps4.blk) q3 fun i b C5 H5 p5 s5 q5 => ?_
    have p25 := (p2.trans p3).trans p5
    have hA5 : H5 A = some (.lst vacc) := (p3.trans p5).obj A _ hD (s2.hid A (.inr rfl)).1
    cases b with
    | false => exact ⟨hlt, acc, C5, vacc, hA5, p25, s5, ra.pers (p3.trans p5), Nat.le_succ_of_le hl, q5⟩
    | true =>
      have ps5 : Ps X ⟨H3, C2, fun a => B.Z a ∨ a = A⟩ E2 C5 σ4 H5 := ps4.next p5 s5
      refine re E2 C5 σ4 H5 _ _ ⟨H3, C2, fun a => B.Z a ∨ a = A⟩ (fun i => ps5.blk) q5 fun i v C6 u H6 p6 s6 r6 q6 => ?_
      have hA6 : H6 A = some (.lst vacc) := p6.obj A _ hA5 (s5.hid A (.inr rfl)).1
      have hcA6 : C6 A = none := (s6.hid A (.inr rfl)).1
      refine ⟨vacc, hA6, Nat.lt_of_le_of_lt hl (Nat.lt_of_lt_of_le hlt hz), hlt, acc ++ [v], C6, vacc ++ [u], upd_same, ?_, ?_, ?_, by rw [List.length_append]; exact Nat.succ_le_succ hl, q6⟩
      · have p26 := p25.trans p6
        exact ⟨fun a o ho hc => by rw [upd_ne (ne_of_none ho hA)]; exact p26.obj a o ho hc, fun a o ho hc => p26.cel a o ho hc⟩
      · have cv : ∀ a o, H6 a = some o → C6 a = none → ¬ (B.Z a ∨ a = A) → upd H6 A (.lst (vacc ++ [u])) a = some o ∧ C6 a = none ∧ ¬ (B.Z a ∨ a = A) := fun a o h1 h2 h3 => ⟨by rw [upd_ne (fun z => h3 (.inr z))]; exact h1, h2, h3⟩
        exact ⟨fun a c e => rcell_conv cv (s6.cel a c e) (upd_ne (fun z => by subst z; rw [hcA6] at e; cases e)), fun a za => ⟨(s6.hid a za).1, by
          by_cases z : a = A
          · subst z; exact ⟨_, upd_same⟩
          · obtain ⟨_, o, ho⟩ := s6.hid a za; exact ⟨o, by rw [upd_ne z]; exact ho⟩⟩⟩
      · exact ((ra.pers ((p3.trans p5).trans p6)).append (.cons r6 .nil)).conv fun a o h1 h2 h3 => ⟨by rw [upd_ne (fun z => h3 (.inr z))]; exact h1, h2, h3⟩
  · have e : i = items.length := by omega
    subst e
    refine .inl ⟨stop rfl, ?_⟩
    have hcA2 : C2 A = none := (s2.hid A (.inr rfl)).1
    have cv : ∀ a o, H2 a = some o → C2 a = none → ¬ (B.Z a ∨ a = A) → H2 a = some o ∧ cupd C2 A (.lst acc) a = none ∧ ¬ B.Z a := fun a o h1 h2 h3 => ⟨h1, by rw [cupd_ne (fun z => h3 (.inr z))]; exact h2, fun z => h3 (.inl z)⟩
    have pU : Pers H1 C1 H2 (cupd C2 A (.lst acc)) := ⟨p2.obj, fun a o ho hc => by rw [cupd_ne (ne_of_none ho hA)]; exact p2.cel a o ho hc⟩
    refine k (.ref A) (cupd C2 A (.lst acc)) (.ref A) H2 (p1.trans pU) ⟨fun a c e => ?_, fun a za => ?_⟩ (.ref A) (done acc C2 w2 A hcA2)
    · by_cases z : a = A
      · subst z
        rw [cupd_same] at e; cases e
        exact ⟨vacc, hD, Nat.le_trans hl hz, ra.conv cv⟩
      · rw [cupd_ne z] at e
        exact rcell_conv cv (s2.cel a c e) rfl
    · obtain ⟨h1, h2⟩ := s2.hid a (.inl za)
      exact ⟨by rw [cupd_ne (fun z => by subst z; exact s1.nz hA za)]; exact h1, h2⟩
theorem de_lc {elt : Expr} {ifs : List Expr} {scope : Scope} {own : List (Str × Nat)} {ti : DTI} {g : D → En → Option En} {q : DTT} {t : DT} (hc : X.calm = true) (hN : X.N.Nodup) (hi : DI X B tg iter ti) (ok : BlkOk X.N X.env.scope scope own)
    (hg : ∀ (s : Shared) (H : Hp) (C : Addr) (cl : List (Str × Addr)) (fp : List Addr) (B : Bs), DGc (X.blk s H scope (compEnvC scope cl C X.env) fp) B tg (own.map (·.2)) g)
    (ht : ∀ (s : Shared) (H : Hp) (C : Addr) (cl : List (Str × Addr)) (fp : List Addr) (B : Bs), DTs (X.blk s H scope (compEnvC scope cl C X.env) fp) B ifs q)
    (he : ∀ (s : Shared) (H : Hp) (C : Addr) (cl : List (Str × Addr)) (fp : List Addr) (B : Bs), DE (X.blk s H scope (compEnvC scope cl C X.env) fp) B elt t)
    (hs : ∀ x, foldedSetIterable iter X.env x = pure x := by intro _; rfl) : DE X B (.ListComp elt [⟨tg, iter, ifs, 0⟩] scope pos) (dLc ti (own.map (·.2)) g q t) := by
  obtain ⟨wi, g0, q0, e0, pi, pg, pq, pe, r⟩ := lc_data hc hN hi ok hg ht he
  exact ⟨_, pe_lc hc hN pi ok pg pq pe hs, r⟩
end
end DL

set_option Elab.async false
set_option linter.all false
set_option maxRecDepth 100000
set_option maxHeartbeats 2000000
/-! DlH: loops unrolled over their items; comprehensions as functions; targets; what is walked. -/
namespace DL
open PySem PySem.Spec PyProof.Rows L2
section
variable {X : Cx} {B : Bs} {tg iter e c a b : Expr} {body : List Stmt} {es : List Expr} {pos : Pos}

/-! ### for -/
def dForR (g : DTG) (tb : DTS) (N : DEnds) : List D → En → Cs → Prop
  | [], E, C => N.nx E C
  | x :: xs, E, C => g x E C fun E2 C2 => tb { N with nx := dForR g tb N xs, ct := dForR g tb N xs, bk := N.nx } E2 C2
def dForX (ti : DTI) (g : DTG) (tb : DTS) : DTS := fun N E C => ti E C fun items C1 => dForR g tb N items E C1
theorem DI.mono {t t' : DTI} (h : DI X B tg iter t) (m : ∀ E C R, t' E C R → t E C R) : DI X B tg iter t' := by
  obtain ⟨w, p, r⟩ := h.ex
  exact ⟨w, p, fun E C σ H R R0 s q k => r E C σ H R R0 s (m E C R q) k⟩
/-- the readings of what is walked that can be carried along -/
def MonoI (ti : DTI) : Prop := ∀ E C (R R' : List D → Cs → Prop), (∀ xs C, R xs C → R' xs C) → ti E C R → ti E C R'
theorem ds_forX {ti : DTI} {g : DTG} {tb : DTS} (hm : MonoI ti) (hp : PassesOwn (model X.prog X.w) X.A X.env X.xe) (hc : X.calm = true) (hi : DI X B tg iter ti) (hg : DG X B tg g) (hb : DSs X B body tb)
    (hs : ∀ x, foldedSetIterable iter X.env x = pure x := by intro _; rfl) : DS X B (.For tg iter body [] pos) (dForX ti g tb) := by
  refine (ds_for hp hc hi hg hb hs).mono fun N E C h => ?_
  refine hm E C _ _ (fun items C1 h => ⟨fun i E C => dForR g tb N (items.drop i) E C, by show dForR g tb N (items.drop 0) E C1; rw [List.drop_zero]; exact h, fun i x E C hx h => ?_, fun E C h => ?_⟩) h
  · have e : items.drop i = x :: items.drop (i + 1) := by
      obtain ⟨hl, e⟩ := List.getElem?_eq_some_iff.mp hx
      rw [← e]; exact List.drop_eq_getElem_cons hl
    simp only [e] at h
    exact h
  · have h : dForR g tb N (items.drop items.length) E C := h
    rw [List.drop_length] at h
    exact h

/-! ### what is walked, as a function -/
abbrev FTI := En → Cs → Option (List D)
def ofI (f : FTI) : DTI := fun E C R => ∃ xs, f E C = some xs ∧ R xs C
theorem mono_ofI {f : FTI} : MonoI (ofI f) := fun E C R R' m ⟨xs, e, h⟩ => ⟨xs, e, m _ _ h⟩
abbrev FI (X : Cx) (B : Bs) (tg iter : Expr) (f : FTI) : Prop := DI X B tg iter (ofI f)
theorem PI.or {w w' : TI} (h : PI X tg iter w) (h' : PI X tg iter w') : PI X tg iter (fun σ H R => w σ H R ∨ w' σ H R) :=
  ⟨fun pins s σ H R I q => q.elim (h.run pins s σ H R I) (h'.run pins s σ H R I)⟩
theorem DI.or {t t' : DTI} (h : DI X B tg iter t) (h' : DI X B tg iter t') : DI X B tg iter (fun E C R => t E C R ∨ t' E C R) := by
  obtain ⟨w, p, r⟩ := h.ex
  obtain ⟨w', p', r'⟩ := h'.ex
  exact ⟨_, PI.or p p', fun E C σ H R R0 s q k => q.elim (fun q => .inl (r E C σ H R R0 s q k)) fun q => .inr (r' E C σ H R R0 s q k)⟩
/-- a list or a tuple by value -/
def fSeq (f : En → Cs → Option D) : FTI := fun E C => match f E C with
  | some (.lst xs) => some xs
  | some (.tup xs) => some xs
  | _ => none
theorem fi_seq {f : En → Cs → Option D} (h : FE X B iter f) : FI X B tg iter (fSeq f) := by
  refine ((di_lst h).or (di_tup h)).mono fun E C R ⟨xs, e, q⟩ => ?_
  unfold fSeq at e
  cases h1 : f E C with
  | none => rw [h1] at e; cases e
  | some d =>
    rw [h1] at e
    cases d <;> first | cases e | skip
    · exact .inr ⟨_, h1, xs, rfl, q⟩
    · exact .inl ⟨_, h1, xs, rfl, q⟩
def fRange (f : En → Cs → Option D) : FTI := fun E C => match f E C with
  | some (.int i) => if 0 ≤ i ∧ i.toNat ≤ sizeLine then some (intsD 0 i.toNat) else none
  | _ => none
theorem fi_range {f : En → Cs → Option D} {p pos : Pos} (hg : Gl X "range") (hm : X.mg "range" = none) (ha : FE X B a f) (hs : starEach [a] X.env = [(false, eval a X.env)] := by rfl) (hs2 : starEach (a :: []) X.env = (false, eval a X.env) :: starEach [] X.env := by rfl) : FI X B tg (.Call (.Name "range" p) [a] [] pos) (fRange f) := by
  refine (di_range hg hm (fa_cons ha fa_nil hs2) hs).mono fun E C R ⟨xs, e, q⟩ => ?_
  unfold fRange at e
  cases h1 : f E C with
  | none => rw [h1] at e; cases e
  | some d =>
    rw [h1] at e
    cases d <;> first | cases e | skip
    rename_i i
    by_cases hz : 0 ≤ i ∧ i.toNat ≤ sizeLine
    · simp only [hz, and_self, if_true] at e
      cases e
      refine ⟨[.int i], by simp only [fCons, h1, fNil], i.toNat, by rw [Int.toNat_of_nonneg hz.1], hz.2, q⟩
    · simp only [hz, if_false] at e; cases e

/-! ### targets in comprehensions -/
theorem dgc_name {i : Nat} {x : Str} {vs : List Nat} (hN : X.N.Nodup) (hi : X.N[i]? = some x) (hx : Loc X.env.scope x) (hv : i ∈ vs) (hf : X.fn x = true ∨ X.env.scope.names.lookup x = some .local := by first | exact .inl rfl | exact .inr rfl | assumption) : DGc X B (.Name x pos) vs (fun d E => some (E.set i (some d))) := by
  refine ⟨_, pg_name hN hi hx hf, fun E C σ H d v E2 Q0 s r e k => ?_⟩
  cases e
  refine k _ (s.set r i) ?_
  refine List.ext_getElem? fun j => ?_
  rw [wipe_get, wipe_get, List.length_set]
  by_cases hj : j ∈ vs ∧ j < σ.length
  · rw [if_pos hj, if_pos hj]
  · rw [if_neg hj, if_neg hj, List.getElem?_set]
    by_cases e : i = j
    · subst e
      have hl : ¬ i < σ.length := fun z => hj ⟨hv, z⟩
      simp only [if_true, hl, if_false]
      rw [List.getElem?_eq_none (by omega)]
    · rw [if_neg e]
/-- the names of a tuple -/
def setAll : List Nat → List D → En → En
  | i :: is, d :: ds, E => setAll is ds (E.set i (some d))
  | _, _, E => E
structure DGcs (X : Cx) (B : Bs) (tgs : List Expr) (vs is : List Nat) : Prop where
  ex : ∃ t0, PGs X tgs t0 ∧ ∀ E C σ H ds us Q0, Ps X B E C σ H → RDs X.prog X.w X.K H C B.Z ds us → ds.length = is.length → (∀ σ2, Ps X B (setAll is ds E) C σ2 H → wipe σ2 vs = wipe σ vs → Q0 σ2 H) → t0 us σ H Q0
theorem dgcs_nil {vs : List Nat} : DGcs X B [] vs [] := ⟨_, pgs_nil, fun E C σ H ds us Q0 s r e k => by
  cases ds with
  | nil => cases r; exact ⟨rfl, k σ s rfl⟩
  | cons _ _ => cases e⟩
theorem dgcs_cons {i : Nat} {is vs : List Nat} {x : Str} {p : Pos} (hN : X.N.Nodup) (hi : X.N[i]? = some x) (hx : Loc X.env.scope x) (hv : i ∈ vs) (h2 : DGcs X B es vs is) (hf : X.fn x = true ∨ X.env.scope.names.lookup x = some .local := by first | exact .inl rfl | exact .inr rfl | assumption)
    (hs : (assignEach (.Name x p :: es) X.env).map (·.2) = assign (.Name x p) X.env :: (assignEach es X.env).map (·.2) := by rfl) : DGcs X B (.Name x p :: es) vs (i :: is) := by
  obtain ⟨t0, q, r⟩ := (dgc_name (B := B) (pos := p) hN hi hx hv hf).ex
  obtain ⟨u0, q', r'⟩ := h2.ex
  refine ⟨_, pgs_cons q q' hs, fun E C σ H ds us Q0 s rd e k => ?_⟩
  cases ds with
  | nil => cases e
  | cons d ds =>
    cases rd with
    | cons r1 r2 =>
      refine ⟨_, _, rfl, ?_⟩
      refine r E C σ H d _ _ _ s r1 rfl fun σ2 s2 w2 => ?_
      exact r' _ C σ2 H ds _ _ s2 r2 (Nat.succ.inj e) fun σ3 s3 w3 => k σ3 s3 (w3.trans w2)
theorem dgc_tup {k1 : Nat} {is vs : List Nat} (hc : X.calm = true) (h : DGcs X B es vs is) (hn : (assignEach es X.env).length = is.length := by rfl) (hst : (assignEach es X.env).findIdx? (·.1) = none := by rfl) : DGc X B (.Tuple es k1 pos) vs (fun d E => match d with
    | .tup ds => if ds.length = is.length then some (setAll is ds E) else none
    | _ => none) := by
  obtain ⟨t0, p, r⟩ := h.ex
  refine ⟨_, pg_tup hc p hn hst, fun E C σ H d v E2 Q0 s rd e k => ?_⟩
  cases d <;> first | cases e | skip
  rename_i xs
  by_cases hl : xs.length = is.length
  · simp only [hl, if_true] at e
    cases e
    obtain ⟨a, vs, rfl, h1, h2, h3⟩ := asT_rd rd (xs := xs) rfl
    exact ⟨a, vs, rfl, h1, by rw [← h3.length]; exact hl, r E C σ H xs vs Q0 s h3 hl k⟩
  · simp only [hl, if_false] at e; cases e

/-! ### list comprehensions, as functions -/
def lcGo (E : En) (C : Cs) (g : D → En → Option En) (q : En → Cs → Option Bool) (f : En → Cs → Option D) : List D → Option (List D)
  | [] => some []
  | x :: xs => match g x E with
    | none => none
    | some E2 => match q E2 C with
      | none => none
      | some false => lcGo E C g q f xs
      | some true => match f E2 C with
        | none => none
        | some y => match lcGo E C g q f xs with
          | none => none
          | some ys => some (y :: ys)
def fLc (fi : FTI) (vs : List Nat) (g : D → En → Option En) (q : En → Cs → Option Bool) (f : En → Cs → Option D) : En → Cs → Option D := fun E C => match fi E C with
  | none => none
  | some items => match lcGo (wipeD E vs) C g q f items with
    | none => none
    | some ys => some (.lst ys)
theorem lcGo_drop {E : En} {C : Cs} {g : D → En → Option En} {q : En → Cs → Option Bool} {f : En → Cs → Option D} {items ys : List D} {i : Nat} {x : D} (hx : items[i]? = some x) (h : lcGo E C g q f (items.drop i) = some ys) :
    ∃ E2, g x E = some E2 ∧ ((q E2 C = some false ∧ lcGo E C g q f (items.drop (i + 1)) = some ys) ∨ (q E2 C = some true ∧ ∃ y zs, f E2 C = some y ∧ lcGo E C g q f (items.drop (i + 1)) = some zs ∧ ys = y :: zs)) := by
  have e : items.drop i = x :: items.drop (i + 1) := by
    obtain ⟨hl, e⟩ := List.getElem?_eq_some_iff.mp hx
    rw [← e]; exact List.drop_eq_getElem_cons hl
  rw [e, lcGo] at h
  cases h1 : g x E with
  | none => rw [h1] at h; cases h
  | some E2 =>
    rw [h1] at h
    simp only at h
    refine ⟨E2, rfl, ?_⟩
    cases h2 : q E2 C with
    | none => rw [h2] at h; cases h
    | some b =>
      rw [h2] at h
      cases b with
      | false => exact .inl ⟨rfl, h⟩
      | true =>
        simp only at h
        cases h3 : f E2 C with
        | none => rw [h3] at h; cases h
        | some y =>
          rw [h3] at h
          simp only at h
          cases h4 : lcGo E C g q f (items.drop (i + 1)) with
          | none => rw [h4] at h; cases h
          | some zs => rw [h4] at h; cases h; exact .inr ⟨rfl, y, zs, rfl, rfl, rfl⟩
theorem fLc_of {fi : FTI} {vs : List Nat} {g : D → En → Option En} {q : En → Cs → Option Bool} {f : En → Cs → Option D} : ∀ E C (Q : DK), ofF (fLc fi vs g q f) E C Q → dFin (dLc (ofI fi) vs g (ofQ q) (ofF f)) E C Q := fun E C Q h => by
  obtain ⟨v, e, qv⟩ := h
  unfold fLc at e
  cases h1 : fi E C with
  | none => rw [h1] at e; cases e
  | some items =>
    rw [h1] at e
    simp only at e
    cases h2 : lcGo (wipeD E vs) C g q f items with
    | none => rw [h2] at e; cases e
    | some ys =>
      rw [h2] at e
      cases e
      refine ⟨items, h1, fun i acc C' => C' = C ∧ ∃ rest, lcGo (wipeD E vs) C g q f (items.drop i) = some rest ∧ ys = acc ++ rest, ⟨rfl, ys, by rw [List.drop_zero]; exact h2, rfl⟩, ?_, ?_⟩
      · rintro i x acc C' hx ⟨rfl, rest, h3, rfl⟩
        obtain ⟨E2, g1, g2⟩ := lcGo_drop hx h3
        refine ⟨E2, g1, ?_⟩
        rcases g2 with ⟨g2, g3⟩ | ⟨g2, y, zs, g3, g4, rfl⟩
        · exact ⟨false, g2, rfl, rest, g3, rfl⟩
        · refine ⟨true, g2, ?_⟩
          simp only [if_true]
          exact ⟨y, g3, rfl, zs, g4, by simp⟩
      · rintro acc C' ⟨rfl, rest, h3, rfl⟩ p hp
        rw [List.drop_length] at h3
        cases h3
        exact ⟨p, acc, rfl, cupd_same, by rw [cdel_cupd hp, List.append_nil] at *; exact qv⟩
theorem fe_lc {elt : Expr} {ifs : List Expr} {scope : Scope} {own : List (Str × Nat)} {fi : FTI} {g : D → En → Option En} {q : En → Cs → Option Bool} {f : En → Cs → Option D} (hc : X.calm = true) (hN : X.N.Nodup) (hi : FI X B tg iter fi) (ok : BlkOk X.N X.env.scope scope own)
    (hg : ∀ (s : Shared) (H : Hp) (C : Addr) (cl : List (Str × Addr)) (fp : List Addr) (B : Bs), DGc (X.blk s H scope (compEnvC scope cl C X.env) fp) B tg (own.map (·.2)) g)
    (ht : ∀ (s : Shared) (H : Hp) (C : Addr) (cl : List (Str × Addr)) (fp : List Addr) (B : Bs), DTs (X.blk s H scope (compEnvC scope cl C X.env) fp) B ifs (ofQ q))
    (he : ∀ (s : Shared) (H : Hp) (C : Addr) (cl : List (Str × Addr)) (fp : List Addr) (B : Bs), FE (X.blk s H scope (compEnvC scope cl C X.env) fp) B elt f)
    (hs : ∀ x, foldedSetIterable iter X.env x = pure x := by intro _; rfl) : FE X B (.ListComp elt [⟨tg, iter, ifs, 0⟩] scope pos) (fLc fi (own.map (·.2)) g q f) := by
  exact (de_fin (de_lc hc hN hi ok hg ht he hs)).mono fLc_of
def qYes : En → Cs → Option Bool := fun _ _ => some true
theorem dts_yes : DTs X B [] (ofQ qYes) := by
  obtain ⟨t0, p, r⟩ := (dts_nil (X := X) (B := B)).ex
  exact ⟨t0, p, fun E C σ H Q Q0 s ⟨v, e, q⟩ k => r E C σ H Q Q0 s (by cases e; exact q) k⟩
theorem dts_if {q : En → Cs → Option Bool} (h : FQ X B c q) : DTs X B [c] (ofQ q) := dts_one h
end
end DL

set_option Elab.async false
set_option linter.all false
set_option maxRecDepth 100000
set_option maxHeartbeats 2000000
/-! DlI: dicts written; items stored; methods. -/
namespace DL
open PySem PySem.Spec PyProof.Rows L2

/-! ### a dict's entry put -/
def replAll : List D → List D → NestedKey → D → List D
  | k0 :: ks, d0 :: ds, n, d => (if nk k0 = some n then d else d0) :: replAll ks ds n d
  | _, _, _, _ => []
def dputK (ks ds : List D) (n : NestedKey) (k : D) : List D := if (dfind ks ds n).isSome = true then ks else ks ++ [k]
def dputV (ks ds : List D) (n : NestedKey) (d : D) : List D := if (dfind ks ds n).isSome = true then replAll ks ds n d else ds ++ [d]
section
variable {X : Cx} {B : Bs} {H : Hp} {C : Cs} {ks ds : List D} {k d : D} {v u : V} {a : Addr} {n : NestedKey}
theorem repl_k {P : Program} {w : World} {K : PySem.W.Frag} {Z : Addr → Prop} {p : Key} (rd : RD P w K H C Z d v) : ∀ {kvs : List (Key × V)} {ds : List D}, RDs P w K H C Z ds (kvs.map (·.2)) →
    RDs P w K H C Z (replAll (kvs.map fun q => kD q.1) ds (kN p) d) ((kvs.map fun kv => if kv.1 = p then (kv.1, v) else kv).map (·.2))
  | [], _, r => by cases r; exact .nil
  | kv :: kvs, _, r => by
    cases r with
    | cons r1 r2 =>
      rw [List.map_cons, List.map_cons, List.map_cons]
      unfold replAll
      by_cases e : kv.1 = p
      · rw [if_pos (by rw [e, nk_kD]), if_pos e]; exact .cons rd (repl_k rd r2)
      · rw [if_neg (by rw [← nk_kD]; exact fun z => e (kD_inj.mp z)), if_neg e]; exact .cons r1 (repl_k rd r2)
theorem repl_t {P : Program} {w : World} {K : PySem.W.Frag} {Z : Addr → Prop} {n : NestedKey} (rd : RD P w K H C Z d v) : ∀ {xs : NX} {ks ds : List D}, ks.map nk = xs.map (fun x => some x.1) → RDs P w K H C Z ds (xs.map (·.2.2)) →
    RDs P w K H C Z (replAll ks ds n d) ((xs.map fun x => if x.1 = n then (x.1, x.2.1, v) else x).map (·.2.2))
  | [], ks, ds, e, r => by cases r; cases ks <;> exact .nil
  | x :: xs, [], _, e, _ => by simp at e
  | x :: xs, k :: ks, _, e, r => by
    cases r with
    | cons r1 r2 =>
      rw [List.map_cons, List.map_cons, List.cons.injEq] at e
      rw [List.map_cons, List.map_cons]
      unfold replAll
      by_cases q : x.1 = n
      · rw [if_pos (by rw [e.1, q]), if_pos q]; exact .cons rd (repl_t rd e.2 r2)
      · rw [if_neg (by rw [e.1]; exact fun z => q (Option.some.inj z)), if_neg q]; exact .cons r1 (repl_t rd e.2 r2)
theorem rds_len2 {P : Program} {w : World} {K : PySem.W.Frag} {Z : Addr → Prop} {α : Type} {f : α → V} {xs : List α} {ds : List D} (r : RDs P w K H C Z ds (xs.map f)) : ds.length = xs.length := by
  rw [r.length, List.length_map]
/-- the cell behind a put, over the heap -/
inductive CPut (P : Program) (w : World) (K : PySem.W.Frag) (H : Hp) (a : Addr) (y v : V) (o : HO) : Prop
  | k {kvs : List (Key × V)} {p : Key} : H a = some (.dK kvs) → y = kV p → kvs.length < sizeLine → o = .dK (putK kvs p v) → CPut P w K H a y v o
  | t {b : Addr} {xs : NX} {n : NestedKey} : y = .ref b → MuN P w H a xs → KeysN K H xs → NK K H n (.ref b) → n.depth ≤ 8 → xs.length < sizeLine → o = dT P w a (nPut xs n b v) → CPut P w K H a y v o
theorem cput (s : Sy X.prog X.w X.K H C B.Z) (hc : C a = some (.dic ks ds)) (rk : RD X.prog X.w X.K H C B.Z k u) (rv : RD X.prog X.w X.K H C B.Z d v) (e : keyIn ks k = some n) (hl : ks.length < sizeLine) :
    ∃ o, CPut X.prog X.w X.K H a u v o ∧ RCell X.prog X.w X.K (upd H a o) (cupd C a (.dic (dputK ks ds n k) (dputV ks ds n d))) B.Z a (.dic (dputK ks ds n k) (dputV ks ds n d)) := by
  obtain ⟨e1, e2, e3⟩ := keyIn_some e
  have pw : ∀ (o : HO), Pers H C (upd H a o) (cupd C a (.dic (dputK ks ds n k) (dputV ks ds n d))) := fun o => Pers.write hc
  rcases s.cel a _ hc with ⟨kvs, h1, h2, h3⟩ | ⟨xs, h1, h2, h3, h4, h5⟩
  · by_cases ht : isTup k = true
    · -- the first entry of a dict with tuples
      obtain ⟨b, rfl⟩ : ∃ b, u = .ref b := by
        cases rk with
        | tup _ _ _ _ _ => exact ⟨_, rfl⟩
        | tupK _ _ => exact ⟨_, rfl⟩
        | _ => simp [isTup] at ht
      have nb := nk_of rk e1
      have hn : kvs = [] := by
        cases kvs with
        | nil => rfl
        | cons kv kvs =>
          exfalso
          subst h2
          have : isTup (kD kv.1) = false := by cases kv.1 <;> rfl
          have hs : isScal k = false := by cases k <;> first | rfl | simp [isTup] at ht
          simp [kOk, this, hs] at e3
      subst hn
      subst h2
      cases h3
      refine ⟨dT X.prog X.w a (nPut [] n b v), .t rfl (.inr ⟨rfl, h1⟩) (fun x hx => (nomatch hx)) nb e2 (by show 0 < sizeLine; rw [sizeLine_eq]; decide) rfl, .inr ⟨[(n, b, v)], upd_same, ⟨by simp, fun x hx => by
        have : x = (n, b, v) := by simpa using hx
        rw [this]; exact e2⟩, by simp [dputK, dfind, e1], ?_, ?_⟩⟩
      · simp only [dputK, dfind, List.map_nil, Option.isSome_none, Bool.false_eq_true, if_false, List.nil_append, List.map_cons]
        exact .cons (rk.pers (pw _)) .nil
      · simp only [dputV, dfind, List.map_nil, Option.isSome_none, Bool.false_eq_true, if_false, List.nil_append, List.map_cons]
        exact .cons (rv.pers (pw _)) .nil
    · have hs : isScal k = true := by
        unfold kOk at e3
        have : isTup k = false := by simpa using ht
        rw [this] at e3
        simp only [Bool.false_and, Bool.false_or, Bool.and_eq_true] at e3
        exact e3.1
      obtain ⟨p, rfl, rfl⟩ := kD_key hs rk
      have en : n = (kN p) := by rw [nk_kD] at e1; exact (Option.some.inj e1).symm
      subst en
      have hlk : kvs.length < sizeLine := by rw [h2, List.length_map] at hl; exact hl
      have hf := dfind_k (p := p) h3
      rw [← h2] at hf
      have hany : (dfind ks ds (kN p)).isSome = (kvs.any fun kv => decide (kv.1 = p)) := by
        rw [valV_any]
        cases q1 : dfind ks ds (kN p) <;> cases q2 : valV kvs p <;> rw [q1, q2] at hf <;> first | rfl | exact hf.elim
      refine ⟨.dK (putK kvs p v), .k h1 rfl hlk rfl, .inl ⟨putK kvs p v, upd_same, ?_, ?_⟩⟩
      · unfold dputK putK
        rw [hany]
        split
        · rw [h2, List.map_map]
          refine List.map_congr_left fun kv _ => ?_
          simp only [Function.comp_apply]
          split <;> rfl
        · rw [List.map_append, ← h2]; rfl
      · refine RDs.pers (pw (.dK (putK kvs p v))) ?_
        unfold dputV putK
        rw [hany]
        split
        · rw [h2]; exact repl_k rv h3
        · rw [List.map_append]; exact h3.append (.cons rv .nil)
  · -- tuples already
    have hks : ks.length = xs.length := by have := congrArg List.length h3; rwa [List.length_map, List.length_map] at this
    by_cases ht : isTup k = true
    · obtain ⟨b, rfl⟩ : ∃ b, u = .ref b := by
        cases rk with
        | tup _ _ _ _ _ => exact ⟨_, rfl⟩
        | tupK _ _ => exact ⟨_, rfl⟩
        | _ => simp [isTup] at ht
      have nb := nk_of rk e1
      have hf := dfind_t (n := n) h3 h5
      have hany : (dfind ks ds n).isSome = (nGet xs n).isSome := by
        cases q1 : dfind ks ds n <;> cases q2 : nGet xs n <;> rw [q1, q2] at hf <;> first | rfl | exact hf.elim
      refine ⟨dT X.prog X.w a (nPut xs n b v), .t rfl (.inl h1) (keysN_of h3 h4 h2.2) nb e2 (by omega) rfl, .inr ⟨nPut xs n b v, upd_same, ⟨?_, ?_⟩, ?_, ?_, ?_⟩⟩
      · unfold nPut
        split
        · intro q; exact h2.1 (List.map_eq_nil_iff.mp q)
        · simp
      · intro x hx
        unfold nPut at hx
        split at hx
        · obtain ⟨y, hy, rfl⟩ := List.mem_map.mp hx
          split <;> exact h2.2 y hy
        · rcases List.mem_append.mp hx with hx | hx
          · exact h2.2 x hx
          · have : x = (n, b, v) := by simpa using hx
            rw [this]; exact e2
      · unfold dputK nPut
        rw [hany]
        split
        · rw [h3, List.map_map]
          refine List.map_congr_left fun kv _ => ?_
          simp only [Function.comp_apply]
          split <;> rfl
        · simp [h3, e1]
      · refine RDs.pers (pw (dT X.prog X.w a (nPut xs n b v))) ?_
        unfold dputK nPut
        rw [hany]
        split
        · rw [List.map_map]
          have e : (xs.map ((fun x => V.ref x.2.1) ∘ fun x => if x.1 = n then (x.1, x.2.1, v) else x)) = xs.map fun x => V.ref x.2.1 := by
            refine List.map_congr_left fun x _ => ?_
            simp only [Function.comp_apply]
            split <;> rfl
          rw [e]
          exact h4
        · rw [List.map_append]; exact h4.append (.cons rk .nil)
      · refine RDs.pers (pw (dT X.prog X.w a (nPut xs n b v))) ?_
        unfold dputV nPut
        rw [hany]
        split
        · exact repl_t rv h3 h5
        · rw [List.map_append]; exact h5.append (.cons rv .nil)
    · exfalso
      have hs : isScal k = true := by
        unfold kOk at e3
        have : isTup k = false := by simpa using ht
        rw [this] at e3
        simp only [Bool.false_and, Bool.false_or, Bool.and_eq_true] at e3
        exact e3.1
      cases xs with
      | nil => exact h2.1 rfl
      | cons x xs =>
        cases ks with
        | nil => simp at h3
        | cons k0 ks =>
          cases h4 with
          | cons r1 r2 =>
            have ht0 : isTup k0 = true := by
              cases r1 with
              | tup _ _ _ _ _ => rfl
              | tupK _ _ => rfl
              | _ => simp [nk] at h3
            have hT : isTup k = false := by simpa using ht
            simp [kOk, ht0, hT, sameS_tup ht0] at e3
section
variable {pins : List (Addr × Obj)} {σ : L2.St} {s : Shared} {y : V} {o : HO} {uv r : Value} {A : Around} {E : Value → Shared → Prop}
theorem cput_setItem {Q : Unit → Shared → Prop} (hu : A.units + 9 < cLine) (I : Inv X pins σ H s) (g : CPut X.prog X.w X.K H a y v o) (ry : RelV y uv) (rv : RelV v r) (q : ∀ s', Inv X pins σ (upd H a o) s' → Q () s') : wpAny (model X.prog X.w) A (setItem (.ref a) uv r) Q E s := by
  cases g with
  | k h ey hl eo => subst ey eo; exact d_setItem (by omega) I (DPut.k h hl) ry rv q
  | t ey h hk nb hd hl eo => subst ey eo; cases ry; exact dn_setItem hu I h hk nb hd hl rv q
end

/-! ### o[i] = v -/
/-- an item of a list, an entry of a dict is written: the cells behind it -/
def vSet (C : Cs) (x y v : D) : Option Cs := match x with
  | .ref a => match C a with
    | some (.lst xs) => match y with
      | .int i => match ixN xs.length i with
        | some j => some (cupd C a (.lst (xs.set j v)))
        | none => none
      | _ => none
    | some (.dic ks ds) => match keyIn ks y with
      | some n => if ks.length < sizeLine then some (cupd C a (.dic (dputK ks ds n y) (dputV ks ds n v))) else none
      | none => none
    | _ => none
  | _ => none
def rSetN (P : Program) (w : World) (K : PySem.W.Frag) : TSet := fun o i v H Q => ∃ a ob, o = .ref a ∧ CPut P w K H a i v ob ∧ Q (upd H a ob)
theorem set_dictN (hu : X.A.units + 9 < cLine) : PSet X (rSetN X.prog X.w X.K) := by
  intro pins s σ H o i v ov iv u Q I ro ri rv h
  obtain ⟨a, ob, rfl, g, q⟩ := h
  cases ro
  exact cput_setItem hu I g ri rv fun s' I' => ⟨_, I', q⟩
theorem PSet.or {t t' : TSet} (h : PSet X t) (h' : PSet X t') : PSet X (fun o i v H Q => t o i v H Q ∨ t' o i v H Q) := by
  intro pins s σ H o i v ov iv u Q I ro ri rv q
  rcases q with q | q
  · exact h pins s σ H o i v ov iv u Q I ro ri rv q
  · exact h' pins s σ H o i v ov iv u Q I ro ri rv q
def rSetA (P : Program) (w : World) (K : PySem.W.Frag) : TSet := fun o i v H Q => rSetL o i v H Q ∨ rSetN P w K o i v H Q
theorem set_all (hu : X.A.units + 9 < cLine) : PSet X (rSetA X.prog X.w X.K) := PSet.or set_list (set_dictN hu)
theorem lk_set {C' : Cs} {x y : D} {ov iv : V} {Q : Hp → Prop} (s : Sy X.prog X.w X.K H C B.Z) (r1 : RD X.prog X.w X.K H C B.Z x ov) (r2 : RD X.prog X.w X.K H C B.Z y iv) (r3 : RD X.prog X.w X.K H C B.Z d v) (e : vSet C x y d = some C')
    (k : ∀ H', Pers H C H' C' → Sy X.prog X.w X.K H' C' B.Z → Q H') : rSetA X.prog X.w X.K ov iv v H Q := by
  cases x <;> first | (simp [vSet] at e; done) | skip
  rename_i a
  cases r1
  simp only [vSet] at e
  cases hc : C a with
  | none => rw [hc] at e; cases e
  | some c =>
    rw [hc] at e
    cases c with
    | ins _ _ => cases e
    | lst xs =>
      cases y <;> first | (simp at e; done) | skip
      rename_i i
      cases r2
      simp only at e
      cases hi : ixN xs.length i with
      | none => rw [hi] at e; cases e
      | some j =>
        rw [hi] at e; cases e
        obtain ⟨vs, h1, h2, h3⟩ := s.cel a _ hc
        have pw : Pers H C (upd H a (.lst (vs.set j v))) (cupd C a (.lst (xs.set j d))) := Pers.write hc
        exact .inl ⟨a, vs, i, j, rfl, rfl, h1, by rw [← h3.length]; exact hi, k _ pw (s.write hc ⟨_, upd_same, by rw [List.length_set]; exact h2, (h3.pers pw).set (r3.pers pw) j⟩)⟩
    | dic ks ds =>
      simp only at e
      cases hk : keyIn ks y with
      | none => rw [hk] at e; cases e
      | some n =>
        rw [hk] at e
        by_cases hl : ks.length < sizeLine
        · simp only [hl, if_true] at e; cases e
          obtain ⟨o, h1, h2⟩ := cput s hc r2 r3 hk hl
          exact .inr ⟨a, o, rfl, h1, k _ (Pers.write hc) (s.write hc h2)⟩
        · simp only [hl, if_false] at e; cases e
variable {o i e : Expr} {es : List Expr} {pos : Pos}
def dgSub (to ti : DT) : DTG := fun v E C Q => to E C fun x C1 => ti E C1 fun y C2 => ∃ C3, vSet C2 x y v = some C3 ∧ Q E C3
theorem dg_sub {to ti : DT} (hu : X.A.units + 9 < cLine) (ho : DE X B o to) (hi : DE X B i ti) (ha : ∀ v, assign (.Subscript o i pos) X.env v = (do
      let ov ← holding [v] (eval o X.env)
      let iv ← holding [v, ov] (eval i X.env)
      standAt pos
      holding [v, ov, iv] (setItem ov iv v)
      release [v, ov, iv] []) := by intro _; rfl) : DG X B (.Subscript o i pos) (dgSub to ti) := by
  obtain ⟨t0, p, r⟩ := ho.ex
  obtain ⟨u0, p', r'⟩ := hi.ex
  refine ⟨_, pg_sub p p' (set_all hu) ha, fun E C σ H d v Q Q0 s rd q k => ?_⟩
  refine r E C σ H _ _ s q fun x C1 ov H1 p1 s1 r1 q1 => ?_
  refine r' E C1 σ H1 _ _ (s.next p1 s1) q1 fun y C2 iv H2 p2 s2 r2 ⟨C3, e, q2⟩ => ?_
  refine lk_set s2 (r1.pers p2) r2 ((rd.pers p1).pers p2) e fun H3 p3 s3 => ?_
  have pp := (p1.trans p2).trans p3
  exact k E C3 σ H3 pp (s.next pp s3) q2

/-! ### methods of the built-in types -/
abbrev MO := Cs → D → List D → Option (D × Cs)
/-- what the receiver is -/
def isL (C : Cs) (x : D) : Prop := (asL C x).isSome = true
def isD (C : Cs) (x : D) : Prop := (asD C x).isSome = true
def isS (_ : Cs) (x : D) : Prop := ∃ z, x = .str z
def TyR (X : Cx) (B : Bs) (T : String) (ty : Cs → D → Prop) : Prop := ∀ H C x v, Sy X.prog X.w X.K H C B.Z → RD X.prog X.w X.K H C B.Z x v → ty C x → tyV X.K T v H
theorem ty_list : TyR X B "list" isL := by
  intro H C x v sy rd h
  obtain ⟨xs, e⟩ := Option.isSome_iff_exists.mp h
  obtain ⟨a, vs, rfl, h1, _, _⟩ := asL_rd sy rd e
  exact .inl ⟨rfl, vs, SqL.of h1⟩
theorem ty_str : TyR X B "str" isS := by
  rintro H C x v sy rd ⟨z, rfl⟩
  cases rd
  exact rfl
def LkM (X : Cx) (B : Bs) (r : V → List V → Hp → VK → Prop) (m : MO) : Prop := ∀ H C x v ds vs z C' (Q : VK), Sy X.prog X.w X.K H C B.Z → RD X.prog X.w X.K H C B.Z x v → RDs X.prog X.w X.K H C B.Z ds vs → m C x ds = some (z, C') →
  (∀ z' H', Pers H C H' C' → Sy X.prog X.w X.K H' C' B.Z → RD X.prog X.w X.K H' C' B.Z z z' → Q z' H') → r v vs H Q
section
variable {to : TE} {t : TA} {name : Str} {apos cpos : Pos} {T id : String} {r : V → List V → Hp → VK → Prop}
def dMeth (ty : Cs → D → Prop) (m : MO) (t : DT) (ta : DTA) : DT := fun E C Q => t E C fun x C1 => ty C1 x ∧ ta E C1 fun ds C2 => ∃ z C3, m C2 x ds = some (z, C3) ∧ Q z C3
/-- a method with arguments: the library's rule, its type question answered by ty -/
theorem de_meth {ty : Cs → D → Prop} {m : MO} {t : DT} {ta : DTA} (pa : PlainAttrs T) (slot : Slot T name id) (hty : typeOf (.builtin id) = pure (.type "method_descriptor")) (hm : MtR X id r) (tr : TyR X B T ty) (lk : LkM X B r m) (ho : DE X B o t) (ha : DA X B (e :: es) ta)
    (h1 : attributeBase o name X.env (eval o X.env) = eval o X.env := by rfl)
    (h2 : ((backTo cpos (starEach (e :: es) X.env)).all (fun x => !x.1) && (backToKw cpos (keywordEach [] X.env)).all (fun x => x.1.isSome) && decide ((e :: es).length + ([] : List Keyword).length + (if ([] : List Keyword).isEmpty then 0 else 1) < 30)) = true := by rfl)
    (h3 : (apos.endLine == cpos.line) = true := by rfl) (h4 : starEach (e :: es) X.env = (false, eval e X.env) :: starEach es X.env := by rfl) (h5 : (backTo cpos (starEach es X.env)).any (·.1) = false := by rfl) : DE X B (.Call (.Attribute o name apos) (e :: es) [] cpos) (dMeth ty m t ta) := by
  obtain ⟨to0, po, ro⟩ := ho.ex
  obtain ⟨ta0, qa, ra⟩ := ha.ex
  refine ⟨_, pe_bm pa slot hty hm po qa h1 h2 h3 h4 h5, fun E C σ H Q Q0 s rd ko => ro E C σ H _ _ s rd ?_⟩
  intro x C1 v H1 p1 y1 r1 ⟨is, rd2⟩
  refine ⟨tr H1 C1 x v y1 r1 is, ra E C1 σ H1 _ _ (s.next p1 y1) rd2 ?_⟩
  intro ds C2 vs H2 p2 y2 r2 ⟨z, C3, got, q⟩
  exact lk H2 C2 x v ds vs z C3 Q0 y2 (r1.pers p2) r2 got fun z' H3 p3 y3 r3 => ko z C3 z' H3 (p1.trans (p2.trans p3)) y3 r3 q
/-- a method without -/
theorem de_meth0 {ty : Cs → D → Prop} {m : MO} {t : DT} (pa : PlainAttrs T) (slot : Slot T name id) (hty : typeOf (.builtin id) = pure (.type "method_descriptor")) (hm : MtR X id r) (tr : TyR X B T ty) (lk : LkM X B r m) (ho : DE X B o t)
    (h1 : attributeBase o name X.env (eval o X.env) = eval o X.env := by rfl) (h2 : (apos.endLine == cpos.line) = true := by rfl) : DE X B (.Call (.Attribute o name apos) [] [] cpos) (dMeth ty m t dNil) := by
  obtain ⟨to0, po, ro⟩ := ho.ex
  refine ⟨_, pe_bm0 pa slot hty hm po h1 h2, fun E C σ H Q Q0 s rd ko => ro E C σ H _ _ s rd ?_⟩
  intro x C1 v H1 p1 y1 r1 ⟨is, z, C3, got, q⟩
  exact ⟨tr H1 C1 x v y1 r1 is, lk H1 C1 x v [] [] z C3 Q0 y1 r1 .nil got fun z' H3 p3 y3 r3 => ko z C3 z' H3 (p1.trans p3) y3 r3 q⟩
/-- .. that touches no cell -/
def fMeth (ty : Cs → D → Bool) (vm : Cs → D → List D → Option D) (f : En → Cs → Option D) (g : En → Cs → Option (List D)) : En → Cs → Option D := fun E C => match f E C with
  | some x => if ty C x = true then match g E C with
    | some ds => vm C x ds
    | none => none else none
  | none => none
theorem fMeth_of {ty : Cs → D → Prop} {tb : Cs → D → Bool} {vm : Cs → D → List D → Option D} {f : En → Cs → Option D} {g : En → Cs → Option (List D)} (ht : ∀ C x, tb C x = true → ty C x) : ∀ E C (Q : DK), ofF (fMeth tb vm f g) E C Q → dMeth ty (fun C x ds => (vm C x ds).map (·, C)) (ofF f) (ofA g) E C Q := fun E C Q ⟨v, e, q⟩ => by
  unfold fMeth at e
  cases h1 : f E C with
  | none => rw [h1] at e; cases e
  | some x =>
    rw [h1] at e
    simp only at e
    by_cases hb : tb C x = true
    · rw [if_pos hb] at e
      cases h2 : g E C with
      | none => rw [h2] at e; cases e
      | some ds =>
        rw [h2] at e
        exact ⟨x, h1, ht C x hb, ds, h2, v, C, by simp only at e; show Option.map _ (vm C x ds) = _; rw [e]; rfl, q⟩
    · rw [if_neg hb] at e; cases e
end
end
end DL

set_option Elab.async false
set_option linter.all false
set_option maxRecDepth 100000
set_option maxHeartbeats 2000000
/-! DlJ: own defs: what they promise over data; their calls; their bodies. -/
namespace DL
open PySem PySem.Spec PyProof.Rows L2

/-- a wish about exceptions: the class, the fields, the cells -/
abbrev DXK := Value → List (Str × D) → Cs → Prop
abbrev DSp := List D → Cs → DK → DXK → Prop
def XR (P : Program) (w : World) (K : PySem.W.Frag) (H : Hp) (C : Cs) (Z : Addr → Prop) : Option Addr → List (Str × D) → Prop
  | none, fs => fs = []
  | some a, fs => ∃ vfs, H a = some (.xd vfs) ∧ C a = none ∧ ¬ Z a ∧ RFs P w K H C Z fs vfs
/-- the promise over HandS' heap -/
def liftSp (P : Program) (w : World) (K : PySem.W.Frag) (n : Nat) (sp : DSp) : Sp := fun vs H Q E => ∃ (ds : List D) (C : Cs) (Z : Addr → Prop) (Qd : DK) (Ed : DXK), ds.length = n ∧ RDs P w K H C Z ds vs ∧ Sy P w K H C Z ∧ sp ds C Qd Ed ∧
  (∀ v C' u H', Pers H C H' C' → Sy P w K H' C' Z → RD P w K H' C' Z v u → Qd v C' → Q u H') ∧
  ∀ c d fs C' H', Pers H C H' C' → Sy P w K H' C' Z → XR P w K H' C' Z d fs → Ed c fs C' → E c d H'
abbrev DFn (P : Program) (w : World) (K : PySem.W.Frag) (mg : Str → Option Value) (base : Heap) (k : Nat) (f : Addr) (fd : FuncData) (ps : List Str) (sp : DSp) : Prop := FnOk P w K mg base (L2.CX P w) k f fd ps (liftSp P w K ps.length sp)
/-- exceptions with the wish W are taken around here -/
structure LinkX (X : Cx) (B : Bs) (W : DXK) : Prop where
  ex : ∃ Wx : XK, Takes X (fun c d _ H => Wx c d H) ∧ ∀ c d fs C' H', Pers B.H B.C H' C' → Sy X.prog X.w X.K H' C' B.Z → XR X.prog X.w X.K H' C' B.Z d fs → W c fs C' → Wx c d H'
def DX0 : DXK := fun _ _ _ => False
theorem link0 {X : Cx} {B : Bs} : LinkX X B DX0 := ⟨⟨fun _ _ _ => False, takes0, fun _ _ _ _ _ _ _ _ h => h⟩⟩
section
variable {X : Cx} {B : Bs} {W : DXK} {k n : Nat} {f c : Addr} {fd : FuncData} {ps : List Str} {sp : DSp} {x m : Str} {p pos apos : Pos} {e o : Expr} {es : List Expr} {t ta : DT} {tas : DTA}
theorem lift_at {Wx : XK} {E : En} {σ : L2.St} {H H1 : Hp} {C C1 : Cs} {ds : List D} {vs : List V} {Q : DK} {Q0 : VK} (s : Ps X B E C σ H) (k : KoV X B H C Q Q0) (lx : ∀ c d fs C' H', Pers B.H B.C H' C' → Sy X.prog X.w X.K H' C' B.Z → XR X.prog X.w X.K H' C' B.Z d fs → W c fs C' → Wx c d H')
    (p1 : Pers H C H1 C1) (s1 : Sy X.prog X.w X.K H1 C1 B.Z) (r1 : RDs X.prog X.w X.K H1 C1 B.Z ds vs) (hl : ds.length = n) (h : sp ds C1 Q W) : liftSp X.prog X.w X.K n sp vs H1 Q0 Wx :=
  ⟨ds, C1, B.Z, Q, W, hl, r1, s1, h, fun v C' u H' q sy r qv => k v C' u H' (p1.trans q) sy r qv, fun c d fs C' H' q sy r w => lx c d fs C' H' ((s.ps.trans p1).trans q) sy r w⟩
/-- f(..) -/
def dCallF (n : Nat) (sp : DSp) (W : DXK) (t : DTA) : DT := fun E C Q => t E C fun ds C1 => ds.length = n ∧ sp ds C1 Q W
theorem de_call (lx : LinkX X B W) (F : DFn X.prog X.w X.K X.mg X.base k f fd ps sp) (hr : Room k X.A) (hg : Gl X x) (hm : X.mg x = some (.ref f)) (hk : PySem.W.keepIn X.K (.ref f) = true) (hb : Binds X.K fd ps [])
    (ha : DA X B (e :: es) tas) (hdb : (x == ("__debug__" : Str)) = false := by decide) (he : starEach (e :: es) X.env = (false, eval e X.env) :: starEach es X.env := by rfl) (hpl : (backTo pos (starEach es X.env)).any (·.1) = false := by rfl) :
    DE X B (.Call (.Name x p) (e :: es) [] pos) (dCallF ps.length sp W tas) := by
  obtain ⟨Wx, tk, lx⟩ := lx.ex
  obtain ⟨t0, q, h1⟩ := ha.ex
  refine ⟨_, pe_call (E := Wx) F hr hg hm hk hb .nil (passes_call tk fun _ _ _ _ z => z) q hdb he hpl, fun E C σ H Q Q0 s h k => ?_⟩
  refine h1 E C σ H _ _ s h fun ds C1 vs H1 p1 s1 r1 ⟨hl, q1⟩ => ?_
  rw [List.append_nil]
  exact lift_at s k lx p1 s1 r1 hl q1
theorem de_call0 (lx : LinkX X B W) (F : DFn X.prog X.w X.K X.mg X.base k f fd ps sp) (hr : Room k X.A) (hg : Gl X x) (hm : X.mg x = some (.ref f)) (hk : PySem.W.keepIn X.K (.ref f) = true) (hb : Binds X.K fd ps [])
    (hdb : (x == ("__debug__" : Str)) = false := by decide) : DE X B (.Call (.Name x p) [] [] pos) (dCallF ps.length sp W dNil) := by
  obtain ⟨Wx, tk, lx⟩ := lx.ex
  refine ⟨_, pe_call0 (E := Wx) F hr hg hm hk hb .nil (passes_call tk fun _ _ _ _ z => z) hdb, fun E C σ H Q Q0 s ⟨hl, q1⟩ k => ?_⟩
  exact lift_at s k lx .refl s.sy .nil hl q1
/-- o.m(..) -/
def dMethF (c : Addr) (m : Str) (n : Nat) (sp : DSp) (W : DXK) (to : DT) (t : DTA) : DT := fun E C Q => to E C fun x C1 => ∃ a fs, x = .ref a ∧ C1 a = some (.ins c fs) ∧ fs.lookup m = none ∧ t E C1 fun ds C2 => (x :: ds).length = n ∧ sp (x :: ds) C2 Q W
theorem de_ometh {pl : Sem Bool} (lx : LinkX X B W) (ho : DE X B o t) (cl : Cls X.K c) (hm : Meth X.K c m f) (F : DFn X.prog X.w X.K X.mg X.base k f fd ps sp) (hr : Room k X.A) (hb : Binds X.K fd ps []) (ha : DA X B (e :: es) tas)
    (hst : starEach (e :: es) X.env = (false, eval e X.env) :: starEach es X.env := by rfl) (hpl : (backTo pos (starEach es X.env)).any (·.1) = false := by rfl)
    (ht : eval (.Call (.Attribute o m apos) (e :: es) [] pos) X.env = (do
      let ov ← eval o X.env
      standAt apos.atName
      let (f, first) ← holding [ov] (getMethod ov m pl)
      callWith pos f first (backTo pos (starEach (e :: es) X.env)) (backToKw pos (keywordEach [] X.env))) := by rfl) :
    DE X B (.Call (.Attribute o m apos) (e :: es) [] pos) (dMethF c m ps.length sp W t tas) := by
  obtain ⟨Wx, tk, lx⟩ := lx.ex
  obtain ⟨t0, p, r⟩ := ho.ex
  obtain ⟨u0, q, h1⟩ := ha.ex
  refine ⟨_, pe_meth (pl := pl) (E := Wx) p cl hm F hr hb .nil (passes_call tk fun _ _ _ _ z => z) q hst hpl ht, fun E C σ H Q Q0 s h k => ?_⟩
  refine r E C σ H _ _ s h fun x C1 u H1 p1 s1 r1 ⟨a, fs, ex, hc, hn, q1⟩ => ?_
  subst ex
  cases r1
  obtain ⟨dx, vfs, g1, g2⟩ := s1.cel a _ hc
  refine ⟨a, dx, vfs, rfl, g1, rfs_none g2 hn, ?_⟩
  refine h1 E C1 σ H1 _ _ (s.next p1 s1) q1 fun ds C2 vs H2 p2 s2 r2 ⟨hl, q2⟩ => ?_
  rw [List.append_nil]
  exact lift_at s k lx (p1.trans p2) s2 (.cons (.ref a) r2) hl q2
theorem de_ometh0 {pl : Sem Bool} (lx : LinkX X B W) (ho : DE X B o t) (cl : Cls X.K c) (hm : Meth X.K c m f) (F : DFn X.prog X.w X.K X.mg X.base k f fd ps sp) (hr : Room k X.A) (hb : Binds X.K fd ps [])
    (ht : eval (.Call (.Attribute o m apos) [] [] pos) X.env = (do
      let ov ← eval o X.env
      standAt apos.atName
      let (f, first) ← holding [ov] (getMethod ov m pl)
      callWith pos f first (backTo pos (starEach [] X.env)) (backToKw pos (keywordEach [] X.env))) := by rfl) :
    DE X B (.Call (.Attribute o m apos) [] [] pos) (dMethF c m ps.length sp W t dNil) := by
  obtain ⟨Wx, tk, lx⟩ := lx.ex
  obtain ⟨t0, p, r⟩ := ho.ex
  refine ⟨_, pe_meth0 (pl := pl) (E := Wx) p cl hm F hr hb .nil (passes_call tk fun _ _ _ _ z => z) ht, fun E C σ H Q Q0 s h k => ?_⟩
  refine r E C σ H _ _ s h fun x C1 u H1 p1 s1 r1 ⟨a, fs, ex, hc, hn, hl, q1⟩ => ?_
  subst ex
  cases r1
  obtain ⟨dx, vfs, g1, g2⟩ := s1.cel a _ hc
  exact ⟨a, dx, vfs, rfl, g1, rfs_none g2 hn, lift_at s k lx p1 s1 (.cons (.ref a) .nil) hl q1⟩
/-- C(..) -/
def dMakeF (c : Addr) (n : Nat) (sp : DSp) (W : DXK) (t : DTA) : DT := fun E C Q => t E C fun ds C1 => ∀ p, C1 p = none → (D.ref p :: ds).length = n ∧ sp (.ref p :: ds) (cupd C1 p (.ins c [])) (fun v C2 => v = .non ∧ Q (.ref p) C2) W
theorem make_at {Wx : XK} {E : En} {σ : L2.St} {H H1 : Hp} {C C1 : Cs} {ds : List D} {vs : List V} {Q : DK} {Q0 : VK} (s : Ps X B E C σ H) (k : KoV X B H C Q Q0) (lx : ∀ c d fs C' H', Pers B.H B.C H' C' → Sy X.prog X.w X.K H' C' B.Z → XR X.prog X.w X.K H' C' B.Z d fs → W c fs C' → Wx c d H')
    (p1 : Pers H C H1 C1) (s1 : Sy X.prog X.w X.K H1 C1 B.Z) (r1 : RDs X.prog X.w X.K H1 C1 B.Z ds vs) (q1 : ∀ p, C1 p = none → (D.ref p :: ds).length = n ∧ sp (.ref p :: ds) (cupd C1 p (.ins c [])) (fun v C2 => v = .non ∧ Q (.ref p) C2) W) :
    ∀ x dx, H1 x = none → H1 dx = none → dx ≠ x → liftSp X.prog X.w X.K n sp (.ref x :: (vs ++ [])) (upd (upd H1 dx (.own x)) x (.ins c dx [])) (fun v H2 => v = .non ∧ Q0 (.ref x) H2) Wx := by
  intro x dx hx hdx ne
  rw [List.append_nil]
  obtain ⟨hl, q2⟩ := q1 x (s1.free hx)
  have pa : Pers H1 C1 (upd H1 dx (.own x)) C1 := Pers.laid hdx
  have sa := s1.laid (o := .own x) hdx
  have hx' : upd H1 dx (.own x) x = none := by rw [upd_ne (fun z => ne z.symm)]; exact hx
  have pb : Pers (upd H1 dx (.own x)) C1 (upd (upd H1 dx (.own x)) x (.ins c dx [])) (cupd C1 x (.ins c [])) := Pers.new hx'
  have sb := sa.new (o := .ins c dx []) (c := .ins c []) hx' ⟨dx, [], upd_same, .nil⟩
  have pp := pa.trans pb
  refine ⟨.ref x :: ds, cupd C1 x (.ins c []), B.Z, _, W, hl, .cons (.ref x) (r1.pers pp), sb, q2, fun v C' u H' q sy r ⟨ev, qv⟩ => ?_, fun cl d fs C' H' q sy r w => lx cl d fs C' H' (((s.ps.trans p1).trans pp).trans q) sy r w⟩
  subst ev
  cases r
  exact ⟨rfl, k (.ref x) C' (.ref x) H' ((p1.trans pp).trans q) sy (.ref x) qv⟩
theorem de_make (lx : LinkX X B W) (M : Mk X.K c f) (F : DFn X.prog X.w X.K X.mg X.base k f fd ps sp) (hr : Room (k + 1) X.A) (hg : Gl X x) (hm : X.mg x = some (.ref c)) (hb : Binds X.K fd ps [])
    (ha : DA X B (e :: es) tas) (hdb : (x == ("__debug__" : Str)) = false := by decide) (he : starEach (e :: es) X.env = (false, eval e X.env) :: starEach es X.env := by rfl) (hpl : (backTo pos (starEach es X.env)).any (·.1) = false := by rfl) :
    DE X B (.Call (.Name x p) (e :: es) [] pos) (dMakeF c ps.length sp W tas) := by
  obtain ⟨Wx, tk, lx⟩ := lx.ex
  obtain ⟨t0, q, h1⟩ := ha.ex
  refine ⟨_, pe_make (E := Wx) M F hr hg hm hb .nil (passes_call tk fun _ _ _ _ z => z) q hdb he hpl, fun E C σ H Q Q0 s h k => ?_⟩
  exact h1 E C σ H _ _ s h fun ds C1 vs H1 p1 s1 r1 q1 => make_at s k lx p1 s1 r1 q1
/-- o.f, a property -/
def dPropF (c : Addr) (n : Nat) (sp : DSp) (to : DT) : DT := fun E C Q => to E C fun x C1 => ∃ a fs, x = .ref a ∧ C1 a = some (.ins c fs) ∧ n = 1 ∧ sp [x] C1 Q DX0
theorem passN {P : Program} {w : World} {X : Cx} (hP : X.prog = P) (hw : X.w = w) : Passes (L2.CX P w) X E0 := fun _ _ _ _ _ _ _ h => by
  obtain ⟨_, _, _, _, _, _, _, _, _, _, _, _, z⟩ := h
  exact z.elim
theorem de_prop {pr : Addr} {f' : Str} (cl : Cls X.K c) (hp : PropOf X.K c f' pr f) (F : DFn X.prog X.w X.K X.mg X.base k f fd ps sp) (hr : Room (k + 1) X.A) (hb : Binds X.K fd ps []) (ho : DE X B e t)
    (hab : attributeBase e f' X.env (eval e X.env) = eval e X.env := by rfl) : DE X B (.Attribute e f' pos) (dPropF c ps.length sp t) := by
  obtain ⟨t0, p, r⟩ := ho.ex
  refine ⟨_, pe_prop (E := E0) p cl hp F hr hb .nil (passN rfl rfl) hab, fun E C σ H Q Q0 s h k => ?_⟩
  refine r E C σ H _ _ s h fun x C1 u H1 p1 s1 r1 ⟨a, fs, ex, hc, hl, q1⟩ => ?_
  subst ex
  cases r1
  obtain ⟨dx, vfs, g1, g2⟩ := s1.cel a _ hc
  exact ⟨a, dx, vfs, rfl, g1, lift_at (W := DX0) s k (fun _ _ _ _ _ _ _ _ h => h) p1 s1 (.cons (.ref a) .nil) hl.symm q1⟩
end

/-! ### bodies -/
def startD (N : List Str) (ds : List D) : En := ds.map some ++ List.replicate (N.length - ds.length) none
theorem start_re {P : Program} {w : World} {K : PySem.W.Frag} {H : Hp} {C : Cs} {Z : Addr → Prop} {N : List Str} {ds : List D} {vs : List V} (r : RDs P w K H C Z ds vs) : RE P w K H C Z (startD N ds) (L2.start N vs) := by
  unfold startD L2.start
  rw [r.length]
  have none_re : ∀ m : Nat, RE P w K H C Z (List.replicate m none) (List.replicate m none) := fun m => by
    induction m with
    | zero => exact .nil
    | succ m ih => exact .cons True.intro ih
  have app : ∀ {ds : List D} {vs : List V} {m : Nat}, RDs P w K H C Z ds vs → RE P w K H C Z (ds.map some ++ List.replicate m none) (vs.map some ++ List.replicate m none) := by
    intro ds
    induction ds with
    | nil => intro vs m r; cases r; exact none_re m
    | cons d ds ih => intro vs m r; cases r with | cons r1 r2 => exact .cons r1 (ih r2)
  exact app r
theorem dfn {P : Program} {w : World} {K : PySem.W.Frag} {mg : Str → Option Value} {base : Heap} {x qual : Str} {st : Stmt} {f : Addr} {fd : FuncData} {N ps : List Str} {k : Nat} {sp : DSp} (F : Fun K x qual st f fd) (S : FnScope N ps (defScope st))
    (hb : ∀ (X : Cx) (B : Bs) (W : DXK), (∃ cdv A outer s H E, X = cxOf (L2.CX P w) P w K mg base N qual (defScope st) f cdv A outer s H E) → Room k X.A → PassesOwn (model X.prog X.w) X.A X.env X.xe → LinkX X B W →
      ∃ t, DSs X B (defBody st) t ∧ ∀ (ds : List D) (C : Cs) (Q : DK), ds.length = ps.length → sp ds C Q W → t { nx := fun _ C' => Q .non C', rt := Q } (startD N ds) C) :
    DFn P w K mg base (k + 1) f fd ps sp := by
  refine F.okX S (fun vs H Q E h => ?_) (fun cdv A outer s H vs Q E hr h => ?_)
  · obtain ⟨ds, C, Z, Qd, Ed, hl, r, _⟩ := h
    rw [← r.length]; exact hl
  · obtain ⟨ds, C, Z, Qd, Ed, hl, r, sy, hsp, kv, kx⟩ := h
    have tk : Takes (cxOf (L2.CX P w) P w K mg base N qual (defScope st) f cdv A outer s H E) (fun cls d _ H => E cls d H) := takes_of rfl rfl rfl rfl
    obtain ⟨t, ht, hq⟩ := hb (cxOf (L2.CX P w) P w K mg base N qual (defScope st) f cdv A outer s H E) ⟨H, C, Z⟩ Ed ⟨cdv, A, outer, s, H, E, rfl⟩ hr (passes_of rfl) ⟨E, tk, kx⟩
    obtain ⟨t0, p, h0⟩ := ht.ex
    refine ⟨t0, p, h0 (startD N ds) C (L2.start N vs) H _ _ ⟨start_re r, sy, .refl⟩ (hq ds C Qd hl hsp) ⟨?_, ?_, ?_, ?_⟩⟩
    · exact fun E' C' σ' H' p1 s1 q1 => kv .non C' .non H' p1 s1.sy .non q1
    · exact fun v C' u H' p1 s1 _ r1 q1 => kv v C' u H' p1 s1 r1 q1
    · exact fun E' C' σ' H' p1 s1 q1 => q1.elim
    · exact fun E' C' σ' H' p1 s1 q1 => q1.elim
end DL

set_option Elab.async false
set_option linter.all false
set_option maxRecDepth 100000
set_option maxHeartbeats 2000000
/-! DlK: cells left behind; pure defs; what a def's surroundings give; finishing what is nested; isinstance. -/
namespace DL
open PySem PySem.Spec PyProof.Rows L2

/-! ### cells left behind -/
def Sub (C C' : Cs) : Prop := ∀ a c, C a = some c → C' a = some c
theorem Sub.refl {C : Cs} : Sub C C := fun _ _ h => h
theorem Sub.trans {C C1 C2 : Cs} (h : Sub C C1) (k : Sub C1 C2) : Sub C C2 := fun a c e => k a c (h a c e)
theorem Sub.non {C C' : Cs} (h : Sub C C') {a : Addr} (e : C' a = none) : C a = none := by
  cases q : C a with
  | none => rfl
  | some c => rw [h a c q] at e; cases e
theorem Sub.new {C : Cs} {a : Addr} {c : Cell} (h : C a = none) : Sub C (cupd C a c) := fun b d e => by rw [cupd_ne (fun z => by subst z; rw [h] at e; cases e)]; exact e
theorem Sub.upd {C C' : Cs} {a : Addr} {c : Cell} (h : Sub C C') (e : C a = none) : Sub C (cupd C' a c) := fun b d q => by rw [cupd_ne (fun z => by subst z; rw [e] at q; cases q)]; exact h b d q
theorem Sub.upd2 {C C' : Cs} {a : Addr} {c : Cell} (h : Sub C C') : Sub (cupd C a c) (cupd C' a c) := fun b d q => by
  by_cases z : b = a
  · subst z; rw [cupd_same] at q ⊢; exact q
  · rw [cupd_ne z] at q ⊢; exact h b d q
theorem Sub.del {C : Cs} {a : Addr} : Sub (cdel C a) C := fun b d q => by
  by_cases z : b = a
  · subst z; rw [cdel_same] at q; cases q
  · rwa [cdel_ne z] at q
theorem Sub.del' {C C' : Cs} {a : Addr} (h : Sub C C') (e : C a = none) : Sub C (cdel C' a) := fun b d q => by
  rw [cdel_ne (fun z => by subst z; rw [e] at q; cases q)]; exact h b d q
section
variable {P : Program} {w : World} {K : PySem.W.Frag} {H H' : Hp} {C C' C2 : Cs} {Z : Addr → Prop}
theorem sub_conv (h : Sub C2 C') : ∀ a o, H a = some o → C' a = none → ¬ Z a → H a = some o ∧ C2 a = none ∧ ¬ Z a := fun a o e1 e2 e3 => ⟨e1, h.non e2, e3⟩
theorem Sy.shrink (s : Sy P w K H C' Z) (h : Sub C2 C') : Sy P w K H C2 Z :=
  ⟨fun a c e => rcell_conv (sub_conv h) (s.cel a c (h a c e)) rfl, fun a z => ⟨h.non (s.hid a z).1, (s.hid a z).2⟩⟩
theorem RD.shrink {d : D} {v : V} (r : RD P w K H C' Z d v) (h : Sub C2 C') : RD P w K H C2 Z d v := r.conv (sub_conv h)
theorem Pers.shrink (p : Pers H C H' C') (h : Sub C2 C') : Pers H C H' C2 := ⟨p.obj, fun a o e c => h.non (p.cel a o e c)⟩
end
theorem dfnS {P : Program} {w : World} {K : PySem.W.Frag} {mg : Str → Option Value} {base : Heap} {x qual : Str} {st : Stmt} {f : Addr} {fd : FuncData} {N ps : List Str} {k : Nat} {sp : DSp} (F : Fun K x qual st f fd) (S : FnScope N ps (defScope st))
    (hb : ∀ (X : Cx) (B : Bs) (W : DXK), (∃ cdv A outer s H E, X = cxOf (L2.CX P w) P w K mg base N qual (defScope st) f cdv A outer s H E) → Room k X.A → PassesOwn (model X.prog X.w) X.A X.env X.xe → LinkX X B W →
      ∃ t, DSs X B (defBody st) t ∧ ∀ (ds : List D) (C : Cs) (Q : DK), ds.length = ps.length → sp ds C Q W → t { nx := fun _ C' => ∃ C2, Sub C2 C' ∧ Q .non C2, rt := fun v C' => ∃ C2, Sub C2 C' ∧ Q v C2 } (startD N ds) C) :
    DFn P w K mg base (k + 1) f fd ps sp := by
  refine F.okX S (fun vs H Q E h => ?_) (fun cdv A outer s H vs Q E hr h => ?_)
  · obtain ⟨ds, C, Z, Qd, Ed, hl, r, _⟩ := h
    rw [← r.length]; exact hl
  · obtain ⟨ds, C, Z, Qd, Ed, hl, r, sy, hsp, kv, kx⟩ := h
    have tk : Takes (cxOf (L2.CX P w) P w K mg base N qual (defScope st) f cdv A outer s H E) (fun cls d _ H => E cls d H) := takes_of rfl rfl rfl rfl
    obtain ⟨t, ht, hq⟩ := hb (cxOf (L2.CX P w) P w K mg base N qual (defScope st) f cdv A outer s H E) ⟨H, C, Z⟩ Ed ⟨cdv, A, outer, s, H, E, rfl⟩ hr (passes_of rfl) ⟨E, tk, kx⟩
    obtain ⟨t0, p, h0⟩ := ht.ex
    refine ⟨t0, p, h0 (startD N ds) C (L2.start N vs) H _ _ ⟨start_re r, sy, .refl⟩ (hq ds C Qd hl hsp) ⟨?_, ?_, ?_, ?_⟩⟩
    · exact fun E' C' σ' H' p1 s1 ⟨C2, sb, q1⟩ => kv .non C2 .non H' (p1.shrink sb) (s1.sy.shrink sb) .non q1
    · exact fun v C' u H' p1 s1 _ r1 ⟨C2, sb, q1⟩ => kv v C2 u H' (p1.shrink sb) (s1.shrink sb) (r1.shrink sb) q1
    · exact fun E' C' σ' H' p1 s1 q1 => q1.elim
    · exact fun E' C' σ' H' p1 s1 q1 => q1.elim

/-! ### what the surroundings give -/
/-- a def of that name is at hand, with that promise -/
structure Cal (P : Program) (w : World) (K : PySem.W.Frag) (mg : Str → Option Value) (base : Heap) (x : Str) (k : Nat) (ps : List Str) (sp : DSp) : Prop where
  ex : ∃ a fd, mg x = some (.ref a) ∧ PySem.W.keepIn K (.ref a) = true ∧ Binds K fd ps [] ∧ DFn P w K mg base k a fd ps sp
/-- a method of the class at c -/
structure CalM (P : Program) (w : World) (K : PySem.W.Frag) (mg : Str → Option Value) (base : Heap) (c : Addr) (m : Str) (k : Nat) (ps : List Str) (sp : DSp) : Prop where
  cl : Cls K c
  ex : ∃ a fd, Meth K c m a ∧ Binds K fd ps [] ∧ DFn P w K mg base k a fd ps sp
/-- the class of that name, its __init__ with that promise -/
structure CalK (P : Program) (w : World) (K : PySem.W.Frag) (mg : Str → Option Value) (base : Heap) (x : Str) (c : Addr) (k : Nat) (ps : List Str) (sp : DSp) : Prop where
  ex : ∃ a fd, mg x = some (.ref c) ∧ Mk K c a ∧ Binds K fd ps [] ∧ DFn P w K mg base k a fd ps sp
/-- a property of the class at c -/
structure CalP (P : Program) (w : World) (K : PySem.W.Frag) (mg : Str → Option Value) (base : Heap) (c : Addr) (m : Str) (k : Nat) (sp : DSp) : Prop where
  cl : Cls K c
  ex : ∃ p a fd, PropOf K c m p a ∧ Binds K fd ["self"] [] ∧ DFn P w K mg base k a fd ["self"] sp
/-- an attribute's name of the class at c that stands in no class -/
structure Fld (K : PySem.W.Frag) (c : Addr) (f : Str) : Prop where
  cl : Cls K c
  na : NoAttr K c f
/-- a module's constant -/
structure Cst (P : Program) (w : World) (K : PySem.W.Frag) (mg : Str → Option Value) (x : Str) (d : D) : Prop where
  ex : ∃ u v, mg x = some u ∧ RelV v u ∧ ∀ H C Z, RD P w K H C Z d v
/-- a pure promise -/
def spF (f : List D → Cs → Option D) : DSp := fun ds C Q _ => ∃ v, f ds C = some v ∧ Q v C
section
variable {X : Cx} {B : Bs} {W : DXK} {k n : Nat} {c : Addr} {ps : List Str} {sp : DSp} {x m : Str} {p pos apos p2 : Pos} {e o a : Expr} {es : List Expr} {t ta : DT} {tas : DTA}
theorem de_cal (lx : LinkX X B W) (G : Cal X.prog X.w X.K X.mg X.base x k ps sp) (hr : Room k X.A) (hg : Gl X x) (ha : DA X B (e :: es) tas) (hdb : (x == ("__debug__" : Str)) = false := by decide)
    (he : starEach (e :: es) X.env = (false, eval e X.env) :: starEach es X.env := by rfl) (hpl : (backTo pos (starEach es X.env)).any (·.1) = false := by rfl) : DE X B (.Call (.Name x p) (e :: es) [] pos) (dCallF ps.length sp W tas) := by
  obtain ⟨f, fd, h1, h2, h3, h4⟩ := G.ex
  exact de_call lx h4 hr hg h1 h2 h3 ha hdb he hpl
theorem de_cal0 (lx : LinkX X B W) (G : Cal X.prog X.w X.K X.mg X.base x k ps sp) (hr : Room k X.A) (hg : Gl X x) (hdb : (x == ("__debug__" : Str)) = false := by decide) : DE X B (.Call (.Name x p) [] [] pos) (dCallF ps.length sp W dNil) := by
  obtain ⟨f, fd, h1, h2, h3, h4⟩ := G.ex
  exact de_call0 lx h4 hr hg h1 h2 h3 hdb
theorem de_calM {pl : Sem Bool} (lx : LinkX X B W) (ho : DE X B o t) (G : CalM X.prog X.w X.K X.mg X.base c m k ps sp) (hr : Room k X.A) (ha : DA X B (e :: es) tas) (hst : starEach (e :: es) X.env = (false, eval e X.env) :: starEach es X.env := by rfl) (hpl : (backTo pos (starEach es X.env)).any (·.1) = false := by rfl)
    (ht : eval (.Call (.Attribute o m apos) (e :: es) [] pos) X.env = (do
      let ov ← eval o X.env
      standAt apos.atName
      let (f, first) ← holding [ov] (getMethod ov m pl)
      callWith pos f first (backTo pos (starEach (e :: es) X.env)) (backToKw pos (keywordEach [] X.env))) := by rfl) : DE X B (.Call (.Attribute o m apos) (e :: es) [] pos) (dMethF c m ps.length sp W t tas) := by
  obtain ⟨f, fd, h1, h2, h3⟩ := G.ex
  exact de_ometh lx ho G.cl h1 h3 hr h2 ha hst hpl ht
theorem de_calM0 {pl : Sem Bool} (lx : LinkX X B W) (ho : DE X B o t) (G : CalM X.prog X.w X.K X.mg X.base c m k ps sp) (hr : Room k X.A)
    (ht : eval (.Call (.Attribute o m apos) [] [] pos) X.env = (do
      let ov ← eval o X.env
      standAt apos.atName
      let (f, first) ← holding [ov] (getMethod ov m pl)
      callWith pos f first (backTo pos (starEach [] X.env)) (backToKw pos (keywordEach [] X.env))) := by rfl) : DE X B (.Call (.Attribute o m apos) [] [] pos) (dMethF c m ps.length sp W t dNil) := by
  obtain ⟨f, fd, h1, h2, h3⟩ := G.ex
  exact de_ometh0 lx ho G.cl h1 h3 hr h2 ht
theorem de_calK (lx : LinkX X B W) (G : CalK X.prog X.w X.K X.mg X.base x c k ps sp) (hr : Room (k + 1) X.A) (hg : Gl X x) (ha : DA X B (e :: es) tas) (hdb : (x == ("__debug__" : Str)) = false := by decide)
    (he : starEach (e :: es) X.env = (false, eval e X.env) :: starEach es X.env := by rfl) (hpl : (backTo pos (starEach es X.env)).any (·.1) = false := by rfl) : DE X B (.Call (.Name x p) (e :: es) [] pos) (dMakeF c ps.length sp W tas) := by
  obtain ⟨f, fd, h1, h2, h3, h4⟩ := G.ex
  exact de_make lx h2 h4 hr hg h1 h3 ha hdb he hpl
theorem de_calP {f : Str} (G : CalP X.prog X.w X.K X.mg X.base c f k sp) (hr : Room (k + 1) X.A) (ho : DE X B e t) (hab : attributeBase e f X.env (eval e X.env) = eval e X.env := by rfl) : DE X B (.Attribute e f pos) (dPropF c 1 sp t) := by
  obtain ⟨pr, g, fd, h1, h2, h3⟩ := G.ex
  exact de_prop G.cl h1 h3 hr h2 ho hab
theorem fe_at {f : Str} {g : En → Cs → Option D} (T : Fld X.K c f) (h : FE X B e g) (hb : attributeBase e f X.env (eval e X.env) = eval e X.env := by rfl) : FE X B (.Attribute e f pos) (fFld c f g) := fe_fld T.cl T.na h hb
theorem de_at {f : Str} {t : DT} (T : Fld X.K c f) (h : DE X B e t) (hb : attributeBase e f X.env (eval e X.env) = eval e X.env := by rfl) : DE X B (.Attribute e f pos) (dFld c f t) := de_fld T.cl T.na h hb
theorem fe_cst {d : D} (T : Cst X.prog X.w X.K X.mg x d) (hg : Gl X x) (hd : (x == ("__debug__" : Str)) = false := by decide) : FE X B (.Name x pos) (fC d) := by
  obtain ⟨u, v, h1, h2, h3⟩ := T.ex
  exact fe_glob hg h1 h2 h3 hd
/-- calls of pure defs -/
def fCal (n : Nat) (f : List D → Cs → Option D) (g : En → Cs → Option (List D)) : En → Cs → Option D := fun E C => match g E C with
  | some ds => if ds.length = n then f ds C else none
  | none => none
theorem fCal_of {f : List D → Cs → Option D} {g : En → Cs → Option (List D)} : ∀ E C (Q : DK), ofF (fCal n f g) E C Q → dCallF n (spF f) W (ofA g) E C Q := fun E C Q ⟨v, e, q⟩ => by
  unfold fCal at e
  cases h : g E C with
  | none => rw [h] at e; cases e
  | some ds =>
    rw [h] at e
    by_cases hl : ds.length = n
    · simp only [hl, if_true] at e; exact ⟨ds, h, hl, v, e, q⟩
    · simp only [hl, if_false] at e; cases e
theorem fe_cal {f : List D → Cs → Option D} {g : En → Cs → Option (List D)} (G : Cal X.prog X.w X.K X.mg X.base x k ps (spF f)) (hr : Room k X.A) (hg : Gl X x) (ha : FA X B (e :: es) g) (hdb : (x == ("__debug__" : Str)) = false := by decide)
    (he : starEach (e :: es) X.env = (false, eval e X.env) :: starEach es X.env := by rfl) (hpl : (backTo pos (starEach es X.env)).any (·.1) = false := by rfl) : FE X B (.Call (.Name x p) (e :: es) [] pos) (fCal ps.length f g) :=
  (de_cal (link0 (X := X) (B := B)) G hr hg ha hdb he hpl).mono fCal_of
/-- a property whose getter is pure -/
def fProp (c : Addr) (f : List D → Cs → Option D) (g : En → Cs → Option D) : En → Cs → Option D := fun E C => match g E C with
  | some (.ref a) => match C a with
    | some (.ins c' _) => if c' = c then f [.ref a] C else none
    | _ => none
  | _ => none
theorem fe_calP {f : Str} {sf : List D → Cs → Option D} {g : En → Cs → Option D} (G : CalP X.prog X.w X.K X.mg X.base c f k (spF sf)) (hr : Room (k + 1) X.A) (ho : FE X B e g) (hab : attributeBase e f X.env (eval e X.env) = eval e X.env := by rfl) : FE X B (.Attribute e f pos) (fProp c sf g) := by
  refine (de_calP G hr ho hab).mono fun E C Q ⟨v, e, q⟩ => ?_
  unfold fProp at e
  split at e
  · rename_i a h1
    split at e
    · rename_i c' fs h2
      by_cases hc : c' = c
      · subst hc
        rw [if_pos rfl] at e
        exact ⟨_, h1, a, fs, rfl, h2, rfl, v, e, q⟩
      · rw [if_neg hc] at e; cases e
    · cases e
  · cases e
/-- a method that is pure -/
def fMethF (c : Addr) (m : Str) (n : Nat) (sf : List D → Cs → Option D) (f : En → Cs → Option D) (g : En → Cs → Option (List D)) : En → Cs → Option D := fun E C => match f E C, g E C with
  | some (.ref a), some ds => match C a with
    | some (.ins c' fs) => if c' = c ∧ fs.lookup m = none ∧ ds.length + 1 = n then sf (.ref a :: ds) C else none
    | _ => none
  | _, _ => none
theorem fMethF_of {sf : List D → Cs → Option D} {f : En → Cs → Option D} {g : En → Cs → Option (List D)} : ∀ E C (Q : DK), ofF (fMethF c m n sf f g) E C Q → dMethF c m n (spF sf) W (ofF f) (ofA g) E C Q := fun E C Q ⟨v, e, q⟩ => by
  unfold fMethF at e
  split at e
  · rename_i a ds h1 h2
    split at e
    · rename_i c' fs h3
      by_cases hc : c' = c ∧ fs.lookup m = none ∧ ds.length + 1 = n
      · rw [if_pos hc] at e
        obtain ⟨rfl, hn, hl⟩ := hc
        exact ⟨_, h1, a, fs, rfl, h3, hn, ds, h2, hl, v, e, q⟩
      · rw [if_neg hc] at e; cases e
    · cases e
  · cases e

end
/-! ### finishing what is nested: the data by value, the addresses whose cells are gone -/
def thaw : Nat → Cs → D → D × List Addr
  | 0, _, d => (d, [])
  | n + 1, C, .ref a => match C a with
    | some (.lst xs) => (.lst ((xs.map (thaw n C)).map (·.1)), a :: ((xs.map (thaw n C)).map (·.2)).flatten)
    | some (.dic ks ds) => (.dic ks ((ds.map (thaw n C)).map (·.1)), a :: ((ds.map (thaw n C)).map (·.2)).flatten)
    | _ => (.ref a, [])
  | n + 1, C, .tup xs => (.tup ((xs.map (thaw n C)).map (·.1)), ((xs.map (thaw n C)).map (·.2)).flatten)
  | n + 1, C, .lst xs => (.lst ((xs.map (thaw n C)).map (·.1)), ((xs.map (thaw n C)).map (·.2)).flatten)
  | _ + 1, _, d => (d, [])
def cdels (C : Cs) : List Addr → Cs
  | [] => C
  | a :: as => cdel (cdels C as) a
theorem cdels_sub {C : Cs} : ∀ {as : List Addr}, Sub (cdels C as) C
  | [] => .refl
  | a :: as => Sub.trans Sub.del cdels_sub
theorem cdels_in {C : Cs} : ∀ {as : List Addr} {a : Addr}, a ∈ as → cdels C as a = none
  | b :: as, a, h => by
    by_cases e : a = b
    · subst e; exact cdel_same
    · show cdel (cdels C as) b a = none
      rw [cdel_ne e]
      exact cdels_in ((List.mem_cons.mp h).resolve_left e)
theorem mem_flat {α β : Type} {f : α → β × List Addr} {xs : List α} {x : α} {a : Addr} (hx : x ∈ xs) (ha : a ∈ (f x).2) : a ∈ ((xs.map f).map (·.2)).flatten :=
  List.mem_flatten.mpr ⟨_, List.mem_map.mpr ⟨_, List.mem_map.mpr ⟨x, hx, rfl⟩, rfl⟩, ha⟩
/-! what is finished of dicts is locked for good -/
def LK : List Addr → Hp → (Hp → Prop) → Prop
  | [], H, k => k H
  | d :: ds, H, k => ∃ u, H d = some u ∧ Mut (some u) ∧ ∀ od, LK ds (upd H d (.frz od u)) k
theorem Inv.locks {X : Cx} {pins : List (Addr × Obj)} {σ : L2.St} {s : Shared} {k : Hp → Prop} : ∀ (ds : List Addr) {H : Hp}, Inv X pins σ H s → LK ds H k → ∃ H', Inv X pins σ H' s ∧ k H'
  | [], H, I, h => ⟨H, I, h⟩
  | d :: ds, H, I, ⟨u, hd, mu, h⟩ => by
    obtain ⟨od, I1⟩ := I.lock hd mu
    exact Inv.locks ds I1 (h od)
structure LkOf (ds : List Addr) (H H' : Hp) : Prop where
  on : ∀ a, a ∈ ds → ∃ od u, H a = some u ∧ H' a = some (.frz od u)
  off : ∀ a, a ∉ ds → H' a = H a
theorem locks_all {k : Hp → Prop} : ∀ {ds : List Addr} {H : Hp}, ds.Nodup → (∀ a, a ∈ ds → ∃ u, H a = some u ∧ Mut (some u)) → (∀ H', LkOf ds H H' → k H') → LK ds H k
  | [], H, _, _, h => h H ⟨fun a q => (nomatch q), fun _ _ => rfl⟩
  | d :: ds, H, nd, hm, h => by
    obtain ⟨u, hd, mu⟩ := hm d List.mem_cons_self
    obtain ⟨n1, n2⟩ := List.nodup_cons.mp nd
    refine ⟨u, hd, mu, fun od => locks_all n2 (fun a ha => ?_) fun H' l => h H' ⟨fun a ha => ?_, fun a ha => ?_⟩⟩
    · have ne : a ≠ d := fun z => n1 (z ▸ ha)
      rw [upd_ne ne]
      exact hm a (List.mem_cons_of_mem _ ha)
    · by_cases e : a = d
      · rw [e]
        exact ⟨od, u, hd, by rw [l.off d n1, upd_same]⟩
      · obtain ⟨od', u', h1, h2⟩ := l.on a ((List.mem_cons.mp ha).resolve_left e)
        rw [upd_ne e] at h1
        exact ⟨od', u', h1, h2⟩
    · have ne : a ≠ d := fun z => ha (z ▸ List.mem_cons_self)
      rw [l.off a (fun z => ha (List.mem_cons_of_mem _ z)), upd_ne ne]
def isDicAt (C : Cs) (a : Addr) : Bool := match C a with
  | some (.dic _ _) => true
  | _ => false
/-- the dicts among these, each once -/
def dicsOf (C : Cs) : List Addr → List Addr
  | [] => []
  | a :: as => if isDicAt C a = true ∧ a ∉ dicsOf C as then a :: dicsOf C as else dicsOf C as
theorem dicsOf_mem {C : Cs} {a : Addr} : ∀ {as : List Addr}, a ∈ dicsOf C as ↔ a ∈ as ∧ isDicAt C a = true
  | [] => by simp [dicsOf]
  | b :: as => by
    unfold dicsOf
    by_cases h : isDicAt C b = true ∧ b ∉ dicsOf C as
    · rw [if_pos h, List.mem_cons, List.mem_cons, dicsOf_mem (as := as)]
      constructor
      · rintro (rfl | ⟨h1, h2⟩)
        · exact ⟨.inl rfl, h.1⟩
        · exact ⟨.inr h1, h2⟩
      · rintro ⟨rfl | h1, h2⟩
        · exact .inl rfl
        · exact .inr ⟨h1, h2⟩
    · rw [if_neg h, List.mem_cons, dicsOf_mem (as := as)]
      constructor
      · exact fun ⟨h1, h2⟩ => ⟨.inr h1, h2⟩
      · rintro ⟨rfl | h1, h2⟩
        · have q : a ∈ dicsOf C as := Classical.byContradiction fun n => h ⟨h2, n⟩
          exact ⟨(dicsOf_mem.mp q).1, h2⟩
        · exact ⟨h1, h2⟩
theorem dicsOf_nodup {C : Cs} : ∀ {as : List Addr}, (dicsOf C as).Nodup
  | [] => List.nodup_nil
  | a :: as => by
    unfold dicsOf
    split
    · rename_i h; exact List.nodup_cons.mpr ⟨h.2, dicsOf_nodup⟩
    · exact dicsOf_nodup
section
variable {P : Program} {w : World} {K : PySem.W.Frag} {H H' : Hp} {C C2 : Cs} {Z : Addr → Prop}
theorem rds_map {f : D → D × List Addr} : ∀ {ds : List D} {vs : List V}, RDs P w K H C Z ds vs → (∀ d v, d ∈ ds → RD P w K H C Z d v → RD P w K H' C2 Z (f d).1 v) → RDs P w K H' C2 Z ((ds.map f).map (·.1)) vs
  | _, _, .nil, _ => .nil
  | _, _, .cons r t, k => .cons (k _ _ List.mem_cons_self r) (rds_map t fun d v hd => k d v (List.mem_cons_of_mem _ hd))
/-- behind the locking of the dicts among as, the cells at as forgotten -/
structure Thawed (as : List Addr) (H : Hp) (C : Cs) (H' : Hp) (C2 : Cs) : Prop where
  lk : LkOf (dicsOf C as) H H'
  eq : C2 = cdels C as
theorem cdels_out {C : Cs} : ∀ {as : List Addr} {a : Addr}, a ∉ as → cdels C as a = C a
  | [], _, _ => rfl
  | b :: as, a, h => by
    show cdel (cdels C as) b a = C a
    rw [cdel_ne (fun z => h (by rw [z]; exact List.mem_cons_self))]
    exact cdels_out fun z => h (List.mem_cons_of_mem _ z)
theorem Thawed.stay {as : List Addr} (t : Thawed as H C H' C2) : ∀ a o, H a = some o → C a = none → ¬ Z a → H' a = some o ∧ C2 a = none ∧ ¬ Z a := fun a o h c z => by
  have na : a ∉ dicsOf C as := fun m => by
    have q := (dicsOf_mem.mp m).2
    unfold isDicAt at q
    rw [c] at q; cases q
  refine ⟨by rw [t.lk.off a na]; exact h, ?_, z⟩
  rw [t.eq]
  exact cdels_sub.non c
theorem Thawed.pers {as : List Addr} (t : Thawed as H C H' C2) : Pers H C H' C2 := ⟨fun a o h c => (t.stay (Z := fun _ => False) a o h c id).1, fun a o h c => (t.stay (Z := fun _ => False) a o h c id).2.1⟩
theorem Thawed.sy {as : List Addr} (t : Thawed as H C H' C2) (s : Sy P w K H C Z) : Sy P w K H' C2 Z := by
  refine ⟨fun a c e => ?_, fun a z => ?_⟩
  · have e2 := e
    rw [t.eq] at e2
    have na : a ∉ as := fun m => by rw [cdels_in m] at e2; cases e2
    rw [cdels_out na] at e2
    exact rcell_conv t.stay (s.cel a c e2) (t.lk.off a fun m => na (dicsOf_mem.mp m).1)
  · obtain ⟨h1, o, h2⟩ := s.hid a z
    have q := t.stay (Z := fun _ => False) a o h2 h1 id
    exact ⟨q.2.1, o, q.1⟩
theorem Thawed.frz {as : List Addr} (t : Thawed as H C H' C2) {a : Addr} (m : a ∈ as) {ks ds : List D} (hc : C a = some (.dic ks ds)) {u : HO} (h : H a = some u) : ∃ od, H' a = some (.frz od u) := by
  obtain ⟨od, u', h1, h2⟩ := t.lk.on a (dicsOf_mem.mpr ⟨m, by unfold isDicAt; rw [hc]⟩)
  rw [h] at h1
  cases h1
  exact ⟨od, h2⟩
theorem Thawed.lst {as : List Addr} (t : Thawed as H C H' C2) {a : Addr} {xs : List D} (hc : C a = some (.lst xs)) : H' a = H a := t.lk.off a fun m => by
  have q := (dicsOf_mem.mp m).2
  unfold isDicAt at q
  rw [hc] at q; cases q
theorem Thawed.gone {as : List Addr} (t : Thawed as H C H' C2) {a : Addr} (m : a ∈ as) : C2 a = none := by rw [t.eq]; exact cdels_in m
/-- what is finished stands by value wherever those cells are gone -/
theorem thaw_rd {as : List Addr} (sy : Sy P w K H C Z) (t : Thawed as H C H' C2) : ∀ (n : Nat) {d : D} {v : V}, RD P w K H C Z d v → (∀ a ∈ (thaw n C d).2, a ∈ as) → RD P w K H' C2 Z (thaw n C d).1 v
  | 0, _, _, r, _ => r.conv t.stay
  | n + 1, .ref a, v, r, h => by
    unfold thaw at h ⊢
    cases hc : C a with
    | none => simp only [hc] at h ⊢; exact r.conv t.stay
    | some c =>
      cases c with
      | lst xs =>
        simp only [hc] at h ⊢
        cases r
        obtain ⟨vs, h1, h2, h3⟩ := sy.cel a _ hc
        exact .lst ((t.lst hc).trans h1) (t.gone (h a List.mem_cons_self)) (sy.nzc hc) h2 (rds_map h3 fun d v hd r => thaw_rd sy t n r fun b hb => h b (List.mem_cons_of_mem _ (mem_flat hd hb)))
      | dic ks ds =>
        simp only [hc] at h ⊢
        cases r
        have ca := t.gone (h a List.mem_cons_self)
        rcases sy.cel a _ hc with ⟨kvs, h1, h2, h3⟩ | ⟨xs, h1, h2, h3, h4, h5⟩
        · obtain ⟨od, hf⟩ := t.frz (h a List.mem_cons_self) hc h1
          exact .dicK hf ca (sy.nzc hc) h2 (rds_map h3 fun d v hd r => thaw_rd sy t n r fun b hb => h b (List.mem_cons_of_mem _ (mem_flat hd hb)))
        · obtain ⟨od, hf⟩ := t.frz (h a List.mem_cons_self) hc h1
          exact .dicT hf ca (sy.nzc hc) h2 h3 (h4.conv t.stay) (rds_map h5 fun d v hd r => thaw_rd sy t n r fun b hb => h b (List.mem_cons_of_mem _ (mem_flat hd hb)))
      | ins _ _ => simp only [hc] at h ⊢; exact r.conv t.stay
  | n + 1, .tup xs, v, r, h => by
    unfold thaw at h ⊢
    simp only at h ⊢
    cases r with
    | tup g c z s r =>
      have k2 := rds_map (H' := H') (C2 := C2) r fun d v hd r => thaw_rd sy t n r fun b hb => h b (mem_flat hd hb)
      rcases g with g | ⟨o, g⟩
      · have q := t.stay _ _ g c z; exact .tup (.inl q.1) q.2.1 q.2.2 s k2
      · have q := t.stay _ _ g c z; exact .tup (.inr ⟨o, q.1⟩) q.2.1 q.2.2 s k2
    | tupK g r => exact .tupK g (rds_map r fun d v hd r => thaw_rd sy t n r fun b hb => h b (mem_flat hd hb))
  | n + 1, .lst xs, v, r, h => by
    unfold thaw at h ⊢
    simp only at h ⊢
    cases r with
    | lst g c z s r => have q := t.stay _ _ g c z; exact .lst q.1 q.2.1 q.2.2 s (rds_map r fun d v hd r => thaw_rd sy t n r fun b hb => h b (mem_flat hd hb))
  | n + 1, .non, _, r, _ => r.conv t.stay
  | n + 1, .bl _, _, r, _ => r.conv t.stay
  | n + 1, .int _, _, r, _ => r.conv t.stay
  | n + 1, .str _, _, r, _ => r.conv t.stay
  | n + 1, .dic _ _, _, r, _ => r.conv t.stay
/-- the locking goes -/
theorem lk_thaw (sy : Sy P w K H C Z) {as : List Addr} {k : Hp → Prop} (h : ∀ H', Thawed as H C H' (cdels C as) → k H') : LK (dicsOf C as) H k :=
  locks_all dicsOf_nodup (fun a m => by
    have q := (dicsOf_mem.mp m).2
    unfold isDicAt at q
    cases hc : C a with
    | none => rw [hc] at q; cases q
    | some c =>
      cases c with
      | lst _ => rw [hc] at q; cases q
      | ins _ _ => rw [hc] at q; cases q
      | dic ks ds => rcases sy.cel a _ hc with ⟨kvs, h1, _⟩ | ⟨xs, h1, _⟩ <;> exact ⟨_, h1, True.intro⟩) fun H' l => h H' ⟨l, rfl⟩
end
/-- the i-th slot's data by value from here on -/
def dThaw (n i : Nat) (t : DTS) : DTS := fun N E C => ∃ d, E[i]? = some (some d) ∧ t N (E.set i (some (thaw n C d).1)) (cdels C (thaw n C d).2)
theorem pss_locks {X : Cx} {sts : List Stmt} {t : TS} (h : PSs X sts t) : PSs X sts (fun D σ H => ∃ ds, LK ds H fun H' => t D σ H') :=
  ⟨fun pins s σ H D I ⟨ds, q⟩ => by obtain ⟨H', I', q'⟩ := Inv.locks ds I q; exact h.run pins s σ H' D I' q'⟩
theorem pe_locks {X : Cx} {e : Expr} {t : TE} (h : PE X e t) : PE X e (fun σ H Q => t σ H fun v H1 => ∃ ds, LK ds H1 fun H2 => Q v H2) :=
  ⟨fun pins s σ H Q I q => thn (h.run pins s σ H _ I q) fun u s1 ⟨v, H1, I1, r, ds, q1⟩ => by obtain ⟨H2, I2, q2⟩ := Inv.locks ds I1 q1; exact ⟨v, H2, I2, r, q2⟩⟩
theorem dss_thaw {X : Cx} {B : Bs} {rest : List Stmt} {t : DTS} (n i : Nat) (h : DSs X B rest t) : DSs X B rest (dThaw n i t) := by
  obtain ⟨t0, p, r⟩ := h.ex
  refine ⟨_, pss_locks p, fun E C σ H N N0 s ⟨d, hE, q⟩ k => ?_⟩
  obtain ⟨v, h1, h2⟩ := s.re.get hE
  refine ⟨dicsOf C (thaw n C d).2, lk_thaw s.sy fun H' th => ?_⟩
  have sd := s.next th.pers (th.sy s.sy)
  exact r _ _ σ H' N N0 ⟨RE.setD (thaw_rd s.sy th n h2 fun a ha => ha) i sd.re h1, sd.sy, sd.ps⟩ q (k.shift th.pers)
/-- .. an expression's value -/
def dThawE (n : Nat) (t : DT) : DT := fun E C Q => t E C fun v C1 => Q (thaw n C1 v).1 (cdels C1 (thaw n C1 v).2)
theorem de_thaw {X : Cx} {B : Bs} {e : Expr} {t : DT} (n : Nat) (h : DE X B e t) : DE X B e (dThawE n t) := by
  obtain ⟨t0, p, r⟩ := h.ex
  refine ⟨_, pe_locks p, fun E C σ H Q Q0 s q k => ?_⟩
  refine r E C σ H _ _ s q fun v C1 u H1 p1 s1 r1 q1 => ?_
  refine ⟨dicsOf C1 (thaw n C1 v).2, lk_thaw s1 fun H' th => ?_⟩
  exact k _ _ u H' (p1.trans th.pers) (th.sy s1) (thaw_rd s1 th n r1 fun a ha => ha) q1
/-- cells left behind in the midst of a body -/
def dDropC (t : DTS) : DTS := fun N E C => ∃ C2, Sub C2 C ∧ t N E C2
theorem dss_drop {X : Cx} {B : Bs} {rest : List Stmt} {t : DTS} (h : DSs X B rest t) : DSs X B rest (dDropC t) := by
  obtain ⟨t0, p, r⟩ := h.ex
  refine ⟨_, p, fun E C σ H N N0 s ⟨C2, sb, q⟩ k => ?_⟩
  have pd : Pers H C H C2 := ⟨fun _ _ e _ => e, fun a o _ c => sb.non c⟩
  have sd := s.next pd (s.sy.shrink sb)
  exact r _ _ σ H N N0 sd q (k.shift pd)
end DL

set_option Elab.async false
set_option linter.all false
set_option maxRecDepth 100000
set_option maxHeartbeats 2000000
/-! DlL: enumerate and zip of lists and tuples. -/
namespace DL
open PySem PySem.Spec PyProof.Rows L2

/-! ### a list (true) or a tuple (false) -/
def itAt (kd : Bool) (h : Heap) (it a : Addr) (i : Nat) : Prop := match kd with
  | true => h.IsListIter it a i
  | false => h.IsTupleIter it a i
def SqK (K : PySem.W.Frag) (kd : Bool) (H : Hp) (a : Addr) (xs : List V) : Prop := match kd with
  | true => SqL K H a xs
  | false => SqT K H a xs
def isAt (kd : Bool) (h : Heap) (a : Addr) (its : Array Value) : Prop := match kd with
  | true => h.IsList a its
  | false => h.IsTuple a its
def itObj (kd : Bool) (a : Addr) : Obj := match kd with
  | true => { cls := .type "list_iterator", data := .fields #[.ref a, .int 0 0] }
  | false => { cls := .type "tuple_iterator", data := .fields #[.ref a, .int 0 0] }
section
variable {X : Cx} {pins : List (Addr × Obj)} {σ : L2.St} {H : Hp} {s : Shared} {kd : Bool} {a it : Addr} {xs ys : List V} {h h' : Heap}
theorem draws_kd {prog : Program} {w : World} {A : Around} (hh : A.handled = none) (hne : a ≠ it) (items : Array Value) : Draws prog w A it [it, a] items.size (fun i v => items[i]? = some v) (fun i h => itAt kd h it a i ∧ isAt kd h a items) := by
  cases kd with
  | true => exact Draws.list hh it a hne items
  | false => exact Draws.tuple hh it a hne items
theorem sqk_at (I : Inv X pins σ H s) (q : SqK X.K kd H a xs) : ∃ its : List Value, Vals xs its ∧ isAt kd s.heap a its.toArray ∧ xs.length ≤ sizeLine := by
  cases kd with
  | true => obtain ⟨its, r, p, z⟩ := I.list q; exact ⟨its, r, p.isList, z⟩
  | false => obtain ⟨its, r, p, z⟩ := I.tuple q; exact ⟨its, r, p, z⟩
theorem sqk_inj (I : Inv X pins σ H s) (q : SqK X.K kd H a xs) (q' : SqK X.K kd H a ys) : xs = ys := by
  cases kd with
  | true => exact I.list_inj q q'
  | false => exact I.tuple_inj q q'
theorem begins_kd (items : Array Value) : Begins (.ref a) (itObj kd a) (fun h => isAt kd h a items) := by
  cases kd with
  | true => exact begins_list a items
  | false => exact begins_tuple a items
theorem itAt_obj {i : Nat} (q : itAt kd h it a i) : ∃ o, h.get? it = some o ∧ ∀ v, o.data ≠ .cell v := by
  cases kd with
  | true => obtain ⟨o, e, c, d⟩ := q; exact ⟨o, e, fun v z => by rw [d] at z; cases z⟩
  | false => obtain ⟨o, e, c, d⟩ := q; exact ⟨o, e, fun v z => by rw [d] at z; cases z⟩
theorem itAt_keep {i : Nat} (q : itAt kd h it a i) (k : ∀ o, h.get? it = some o → h'.get? it = some o) : itAt kd h' it a i := by
  cases kd with
  | true => obtain ⟨o, e, c⟩ := q; exact ⟨o, k o e, c⟩
  | false => obtain ⟨o, e, c⟩ := q; exact ⟨o, k o e, c⟩
theorem itAt_new (e : h.get? it = some (itObj kd a)) : itAt kd h it a 0 := by
  cases kd with
  | true => exact ⟨_, e, rfl, rfl⟩
  | false => exact ⟨_, e, rfl, rfl⟩
theorem isAt_lt {its : Array Value} (q : isAt kd h a its) : a < h.objs.size := by
  cases kd with
  | true => obtain ⟨o, e, _⟩ := q; exact Heap.lt_size e
  | false => obtain ⟨o, e, _⟩ := q; exact Heap.lt_size e
end

/-! ### enumerate -/
theorem enum_new_tup (l : Addr) (items : Array Value) (n : Nat) (dct : Option Addr) (sl : Array (Option Value)) :
    Meets (Builtin.«enumerate.__new__» ⟨[.type "enumerate", .ref l], []⟩) (fun _ R s => s.heap.get? l = some { cls := .type "tuple", dict := dct, data := .seq items n, slots := sl } ∧
      R (.ok (.ret (.ref (s.heap.push (itObj false l)).objs.size))) { s with heap := (s.heap.push (itObj false l)).push { cls := .type "enumerate", data := .fields #[.none, .bool false, .ref s.heap.objs.size, rawInt 0, .none, .none] } }) :=
  Meets.of_wp fun prog w A R s h => by
    obtain ⟨hp, g, d, tk, os⟩ := s
    obtain ⟨hl, h⟩ := h
    have hsub := sub_enumerate
    have hT : Heap.IsTuple (Shared.heap ⟨hp, g, d, tk, os⟩) l items := ⟨_, hl, rfl, n, rfl⟩
    wp_walk using AutoSeq1.wpAny_loadPart' hl
    refine wpAny_stack_any fun st => wpAny_pure ?_
    split
    · rename_i c _ _ _ _ _
      cases (c == Value.type "enumerate")
      · wp_walk using AutoSeq1.wpAny_loadPart' hl, wpAny_pyIter_tuple hT
        exact ⟨_, rfl, h⟩
      · wp_walk using AutoSeq1.wpAny_loadPart' hl, wpAny_pyIter_tuple hT
        exact ⟨_, rfl, h⟩
    · wp_walk using AutoSeq1.wpAny_loadPart' hl, wpAny_pyIter_tuple hT
      exact ⟨_, rfl, h⟩
theorem call_enumK {prog : Program} {w : World} {A : Around} {E : Value → Shared → Prop} {s : Shared} {kd : Bool} {l : Addr} {items : Array Value} {Q : Value → Shared → Prop} (hL : isAt kd s.heap l items)
    (h : ∀ h', IsEnum h' (s.heap.objs.size + 1) s.heap.objs.size 0 .none → itAt kd h' s.heap.objs.size l 0 → (∀ b o, s.heap.get? b = some o → h'.get? b = some o) → Q (.ref (s.heap.objs.size + 1)) { s with heap := h' }) :
    wpAny (model prog w) A (call (.type "enumerate") [.ref l]) Q E s := by
  cases kd with
  | true => exact call_enumerate_list hL fun h' a b _ c => h h' a b c
  | false =>
    obtain ⟨⟨c, dct, dt, sl⟩, hl, hc, n, hd⟩ := hL
    simp only at hc hd
    subst hc hd
    refine callType_new F.called_enumerate (by decide) (F.typeCall_enumerate_1 _) (F.newCall_enumerate_1 _) (fun obj => F.args_object_init_2 obj _) F.entry_enumerate_new (enum_new_tup l items n dct sl) ⟨hl, ?_⟩
    have hz : (s.heap.push (itObj false l)).objs.size = s.heap.objs.size + 1 := Heap.size_push ..
    show _ ∧ _
    rw [hz]
    have he : IsEnum ((s.heap.push (itObj false l)).push { cls := .type "enumerate", data := .fields #[.none, .bool false, .ref s.heap.objs.size, rawInt 0, .none, .none] }) (s.heap.objs.size + 1) s.heap.objs.size 0 .none := by
      have q := Heap.get?_push_size (s.heap.push (itObj false l)) (o := { cls := .type "enumerate", data := .fields #[.none, .bool false, .ref s.heap.objs.size, rawInt 0, .none, .none] }) rfl
      rw [hz] at q
      exact q
    exact ⟨⟨_, he, rfl⟩, h _ he (itAt_new (Heap.get?_push_of_some _ (Heap.get?_push_size _ rfl))) fun b o x => Heap.get?_push_of_some _ (Heap.get?_push_of_some _ x)⟩
/-! ### what is drawn, told once for every kind of iterator -/
/-- the drawn u: a value of what stands, or a pair made for it -/
inductive Gives (h : Heap) (H : Hp) (h' : Heap) (u : Value) (Y : V → Hp → Prop) : Prop
  | old {x : V} : RelV x u → Y x H → Gives h H h' u Y
  | pair {T : Addr} {x y : V} {a b : Value} : u = .ref T → h.objs.size ≤ T → h'.IsTuple T #[a, b] → RelV x a → RelV y b → (H T = none → Y (.ref T) (upd H T (.tup [x, y]))) → Gives h H h' u Y
/-- an iterator at it over the objects fp: wherever the wish's turn is known, the library's machine runs it -/
structure Feed (P : Program) (w : World) (K : PySem.W.Frag) (tg : Expr) (J : It) (fp : List Addr) (it : Addr) (tn : Nat → Heap → Prop) : Prop where
  mem : it ∈ fp
  live : ∀ i h, tn i h → ∀ b ∈ fp, ∃ o, h.get? b = some o ∧ ∀ v, o.data ≠ .cell v
  same : ∀ i h h', tn i h → (∀ b ∈ fp, ∀ o, h.get? b = some o → h'.get? b = some o) → tn i h'
  self : ∀ (A : Around) (i : Nat) (s : Shared) (Q E : Value → Shared → Prop), tn i s.heap → Q (.ref it) s → wpAny (model P w) A (pyIter (.ref it)) Q E s
  run : ∀ (X : Cx), X.prog = P → X.w = w → X.K = K → X.calm = true → ∀ (i : Nat) (pins : List (Addr × Obj)) (s : Shared) (σ : L2.St) (H : Hp), Inv X pins σ H s → tn i s.heap → J.go i H ∨ J.stop i H →
    ∃ f wr n Y St, GoesN P w X.A tg it f wr n Y St ∧ (∀ b ∈ wr, b ∈ fp) ∧ (∀ j h, St j h → tn j h) ∧ St i s.heap ∧ (J.stop i H → n = i) ∧ (J.go i H → i < n ∧ ∀ u h', Y i s.heap u h' → Gives s.heap H h' u (J.yld i H))
theorem Feed.turn {P : Program} {w : World} {K : PySem.W.Frag} {tg : Expr} {J : It} {fp : List Addr} {it : Addr} {tn : Nat → Heap → Prop} (F : Feed P w K tg J fp it tn) : Turn P w K tg J fp it tn := by
  refine ⟨F.mem, F.live, F.same, fun X eP ew eK calm i pins s σ H E I free st now => ?_, fun X eP ew eK calm i pins s σ H E I free st now => ?_, F.self⟩
  · obtain ⟨f, wr, n, Y, St, G, sub, back, at_, _, more⟩ := F.run X eP ew eK calm i pins s σ H I st (.inl now)
    obtain ⟨lt, gives⟩ := more now
    refine G.goes i s _ _ lt at_ fun v h' tk y st' kp _ => ?_
    cases gives v h' y with
    | old r q => exact ⟨_, H, I.turnedL (ch := fp) (fun b o nb e => kp b o (fun m => nb (sub b m)) e) free, r, q, back _ _ st', fun b m => (free b m).1⟩
    | pair ev new tup r1 r2 q =>
      rename_i T x y a b
      have two : ([x, y] : List V).length ≤ sizeLine := by rw [sizeLine_eq]; show 2 ≤ 16777216; decide
      have ok : ObjOk X.prog X.w (upd H T (.tup [x, y])) h' T (.tup [x, y]) := ⟨two, [a, b], .cons r1 (.cons r2 .nil), tup⟩
      refine ⟨.ref T, _, I.turnedNew (ch := fp) (fun b o nb e => kp b o (fun m => nb (sub b m)) e) free new ok, ev ▸ rfl, q (I.hok.fresh new), back _ _ st', fun b m => ?_⟩
      obtain ⟨o, e, _⟩ := F.live i _ st b m
      exact (upd_ne (fun z => absurd (Heap.lt_size e) (by rw [z]; exact Nat.not_lt.mpr new))).trans (free b m).1
  · obtain ⟨f, wr, n, Y, St, G, sub, back, at_, end_, _⟩ := F.run X eP ew eK calm i pins s σ H I st (.inr now)
    refine G.stops s _ _ (end_ now ▸ at_) fun h' tk kp _ => I.turnedL (ch := fp) (fun b o nb e => kp b o (fun m => nb (sub b m)) e) free
/-- a built-in class called where something is walked -/
theorem pi_class {X : Cx} {T : String} {x : Str} {tg e : Expr} {es : List Expr} {ta : TA} {p pos : Pos} {ask : List V → Hp → (It → Hp → Prop) → Prop} (hg : Gl X x) (hm : X.mg x = none) (hv : bootBuiltins x = some (.type T)) (ha : PA X (e :: es) ta)
    (hc : ∀ pins σ H s us vs R, Inv X pins σ H s → Vals vs us → ask vs H R → wpAny (model X.prog X.w) X.A (call (.type T) us) (fun v s1 => wpAny (model X.prog X.w) X.A (pyIter v) (PIE X pins σ tg R) X.xe s1) X.xe s)
    (hs : starEach (e :: es) X.env = (false, eval e X.env) :: starEach es X.env := by rfl) (hpl : (backTo pos (starEach es X.env)).any (·.1) = false := by rfl) (hn : x ≠ "__name__" := by decide) (hd : (x == ("__debug__" : Str)) = false := by decide) :
    PI X tg (.Call (.Name x p) (e :: es) [] pos) (fun σ H R => ta σ H fun vs H1 => ask vs H1 R) :=
  ⟨fun pins s σ H R I h => Call_ (ld_blt I hg hm hv (PyProof.Rows.callWith_type1 (thn (ha.run pos pins s σ H _ I h) fun us s1 ⟨vs, H1, I1, r, q⟩ => hc pins σ H1 s1 us vs R I1 r q) hs hpl) hn hd)⟩
/-- the iterator made has new objects only -/
theorem pie_new {X : Cx} {pins : List (Addr × Obj)} {σ : L2.St} {tg : Expr} {R : It → Hp → Prop} {J : It} {H : Hp} {s : Shared} {h' : Heap} {fp : List Addr} {it : Addr} {tn : Nat → Heap → Prop} (I : Inv X pins σ H s) (kp : ∀ b o, s.heap.get? b = some o → h'.get? b = some o)
    (F : Feed X.prog X.w X.K tg J fp it tn) (st : tn 0 h') (new : ∀ b ∈ fp, s.heap.objs.size ≤ b) (q : R J H) : wpAny (model X.prog X.w) X.A (pyIter (.ref it)) (PIE X pins σ tg R) X.xe { s with heap := h' } :=
  F.self X.A 0 { s with heap := h' } _ _ st ⟨it, fp, tn, J, H, rfl, I.kept (t' := s.toks) kp, F.turn, st, fun b m => I.fpOk (new b m) (I.hok.fresh (new b m)), q⟩

/-! ### enumerate, zip -/
def IteK (K : PySem.W.Frag) (kd : Bool) (a : Addr) : It :=
  ⟨fun i H => ∃ (xs : List V) (x : V), SqK K kd H a xs ∧ xs[i]? = some x, fun i H v H' => ∃ T x, v = .ref T ∧ H T = none ∧ H' = upd H T (.tup [.int (i : Nat), x]) ∧ ∀ xs, SqK K kd H a xs → xs[i]? = some x, fun i H => ∃ xs : List V, SqK K kd H a xs ∧ xs.length = i⟩
theorem sq_here {X : Cx} {pins : List (Addr × Obj)} {σ : L2.St} {H : Hp} {s : Shared} {kd : Bool} {a : Addr} (I : Inv X pins σ H s) {xs : List V} (q : SqK X.K kd H a xs) : ∃ its : Array Value, isAt kd s.heap a its ∧ its.size = xs.length ∧ ∀ (i : Nat) (u : Value), its[i]? = some u → ∃ x : V, RelV x u ∧ ∀ ys : List V, SqK X.K kd H a ys → ys[i]? = some x := by
  obtain ⟨its, r, p, _⟩ := sqk_at I q
  refine ⟨_, p, by rw [List.size_toArray]; exact r.length.symm, fun i u e => ?_⟩
  have e' : its[i]? = some u := by simpa using e
  have lt : i < xs.length := by rw [r.length]; exact (List.getElem?_eq_some_iff.mp e').1
  obtain ⟨u', e2, rr⟩ := r.get (List.getElem?_eq_getElem lt)
  obtain rfl : u' = u := Option.some.inj (e2.symm.trans e')
  exact ⟨_, rr, fun ys h => by rw [sqk_inj I h q]; exact List.getElem?_eq_getElem lt⟩
theorem feed_enum {P : Program} {w : World} {K : PySem.W.Frag} {elts : List Expr} {kk : Nat} {tpos : Pos} {kd : Bool} {a e it : Addr} (hea : a ≠ e) (hia : a ≠ it) (hne : e ≠ it) :
    Feed P w K (.Tuple elts kk tpos) (IteK K kd a) [e, it] e (fun i h => (∃ old, IsEnum h e it (0 + ((i : Nat) : Int)) old) ∧ itAt kd h it a i) := by
  refine ⟨List.mem_cons_self .., fun i h st => ?_, fun i h h' st k => ?_, fun A i s Q E st => wpAny_pyIter_enum st.1.choose_spec, fun X eP ew eK calm i pins s σ H I st now => ?_⟩
  · obtain ⟨⟨old, o⟩, o2⟩ := st
    exact List.forall_mem_cons.mpr ⟨⟨_, o, fun v z => nomatch z⟩, List.forall_mem_cons.mpr ⟨itAt_obj o2, fun _ z => nomatch z⟩⟩
  · obtain ⟨⟨old, o⟩, o2⟩ := st
    exact ⟨⟨old, k _ (List.mem_cons_self ..) _ o⟩, itAt_keep o2 (k _ (List.mem_cons_of_mem _ (List.mem_cons_self ..)))⟩
  · subst eP ew eK
    have got : ∃ xs, SqK X.K kd H a xs := by
      rcases now with ⟨xs, _, q, _⟩ | ⟨xs, q, _⟩ <;> exact ⟨xs, q⟩
    obtain ⟨xs, q⟩ := got
    obtain ⟨its, p, sz, here⟩ := sq_here I q
    refine ⟨_, _, _, _, _, GoesN.enumFrom 0 (draws_kd (kd := kd) (show X.A.in1.handled = none from I.ok.hd calm) hia its) e hne (by simp [hne, hea.symm]) (List.mem_cons_self ..), fun b m => m, fun j h y => ⟨y.1, y.2.1⟩, ⟨st.1, st.2, p⟩, fun z => ?_, fun z => ⟨?_, fun u h' y => ?_⟩⟩
    · obtain ⟨ys, q', l⟩ := z
      rw [sz, sqk_inj I q q', l]
    · obtain ⟨ys, x, q', l⟩ := z
      rw [sz, sqk_inj I q q']
      exact (List.getElem?_eq_some_iff.mp l).1
    · obtain ⟨T, t, u2, rfl, new, at2, tup⟩ := y
      obtain ⟨x, r, all⟩ := here i u2 at2
      exact .pair (x := .int (i : Nat)) (y := x) rfl new tup ⟨t, by rw [Int.zero_add]⟩ r fun hn => ⟨T, x, rfl, hn, rfl, all⟩
def ItzK (K : PySem.W.Frag) (k1 k2 : Bool) (a b : Addr) : It :=
  ⟨fun i H => ∃ (xs ys : List V) (x y : V), SqK K k1 H a xs ∧ SqK K k2 H b ys ∧ xs[i]? = some x ∧ ys[i]? = some y,
    fun i H v H' => ∃ T x y, v = .ref T ∧ H T = none ∧ H' = upd H T (.tup [x, y]) ∧ (∀ xs, SqK K k1 H a xs → xs[i]? = some x) ∧ ∀ ys, SqK K k2 H b ys → ys[i]? = some y,
    fun i H => ∃ xs ys : List V, SqK K k1 H a xs ∧ SqK K k2 H b ys ∧ min xs.length ys.length = i⟩
theorem feed_zip {P : Program} {w : World} {K : PySem.W.Frag} {elts : List Expr} {kk : Nat} {tpos : Pos} {k1 k2 : Bool} {a b z TI TO i1 i2 : Addr} (S : ZipSep2 z TI TO i1 i2 [i1, a] [i2, b]) (ha : a ≠ i1) (hb : b ≠ i2) :
    Feed P w K (.Tuple elts kk tpos) (ItzK K k1 k2 a b) [z, TI, TO, i1, i2] z (fun i h => IsZip h z TI TO .none ∧ IsTupOf2 h TI (.ref i1) (.ref i2) ∧ (∃ x y, IsTupOf2 h TO x y) ∧ itAt k1 h i1 a i ∧ itAt k2 h i2 b i) := by
  refine ⟨List.mem_cons_self .., fun i h st => ?_, fun i h h' st k => ?_, fun A i s Q E st => wpAny_pyIter_zip st.1, fun X eP ew eK calm i pins s σ H I st now => ?_⟩
  · obtain ⟨o, oI, ⟨_, _, oO⟩, o1, o2⟩ := st
    simp only [List.forall_mem_cons]
    exact ⟨⟨_, o, fun v z => nomatch z⟩, ⟨_, oI, fun v z => nomatch z⟩, ⟨_, oO, fun v z => nomatch z⟩, itAt_obj o1, itAt_obj o2, fun _ z => nomatch z⟩
  · simp only [List.forall_mem_cons] at k
    obtain ⟨k0, kI, kO, kA, kB, _⟩ := k
    obtain ⟨o, oI, ⟨x, y, oO⟩, o1, o2⟩ := st
    exact ⟨k0 _ o, kI _ oI, ⟨x, y, kO _ oO⟩, itAt_keep o1 kA, itAt_keep o2 kB⟩
  · subst eP ew eK
    have got : ∃ xs ys, SqK X.K k1 H a xs ∧ SqK X.K k2 H b ys := by
      rcases now with ⟨xs, ys, _, _, q, q', _⟩ | ⟨xs, ys, q, q', _⟩ <;> exact ⟨xs, ys, q, q'⟩
    obtain ⟨xs, ys, q, q'⟩ := got
    obtain ⟨its, p, sz, here⟩ := sq_here I q
    obtain ⟨its', p', sz', here'⟩ := sq_here I q'
    have calm' : X.A.in1.handled = none := I.ok.hd calm
    refine ⟨_, _, _, _, _, GoesN.zip2 S (draws_kd (kd := k1) calm' ha its) (draws_kd (kd := k2) calm' hb its'), fun c m => ?_, fun j h y => ⟨y.1, y.2.1, y.2.2.1, y.2.2.2.1.1, y.2.2.2.2.1⟩, ⟨st.1, st.2.1, st.2.2.1, ⟨st.2.2.2.1, p⟩, st.2.2.2.2, p'⟩, fun z => ?_, fun z => ⟨?_, fun u h' y => ?_⟩⟩
    · simp only [List.mem_cons, List.not_mem_nil, or_false] at m ⊢
      exact m.elim .inl fun m => .inr (.inr m)
    · obtain ⟨vs, us, g, g', l⟩ := z
      rw [sz, sz', sqk_inj I q g, sqk_inj I q' g', l]
    · obtain ⟨vs, us, x, y, g, g', l, l'⟩ := z
      have e1 := (List.getElem?_eq_some_iff.mp l).1
      have e2 := (List.getElem?_eq_some_iff.mp l').1
      rw [sz, sz', sqk_inj I q g, sqk_inj I q' g']
      omega
    · obtain ⟨T, u1, u2, rfl, new, a1, a2, tup⟩ := y
      obtain ⟨x, r, all⟩ := here i u1 a1
      obtain ⟨y, r', all'⟩ := here' i u2 a2
      exact .pair rfl new tup r r' fun hn => ⟨T, x, y, rfl, hn, rfl, all, all'⟩
def iEnumK (K : PySem.W.Frag) (ta : TA) : TI := fun σ H R => ta σ H fun vs H1 => ∃ a xs kd, vs = [.ref a] ∧ SqK K kd H1 a xs ∧ R (IteK K kd a) H1
theorem pi_enumK {X : Cx} {e : Expr} {ta : TA} {p pos tpos : Pos} {elts : List Expr} {kk : Nat} (hg : Gl X "enumerate") (hm : X.mg "enumerate" = none) (ha : PA X [e] ta) (hs : starEach [e] X.env = [(false, eval e X.env)] := by rfl) :
    PI X (.Tuple elts kk tpos) (.Call (.Name "enumerate" p) [e] [] pos) (iEnumK X.K ta) := by
  refine pi_class (T := "enumerate") (ask := fun vs H1 R => ∃ a xs kd, vs = [.ref a] ∧ SqK X.K kd H1 a xs ∧ R (IteK X.K kd a) H1) hg hm boot_enumerate ha (fun pins σ H s us vs R I r ⟨a, xs, kd, ev, q, w⟩ => ?_) hs rfl
  subst ev
  obtain ⟨u, rfl, r1⟩ : ∃ u, us = [u] ∧ RelV (.ref a) u := by cases r with | cons r t => cases t; exact ⟨_, rfl, r⟩
  obtain rfl : u = Value.ref a := r1
  obtain ⟨its, p, _, _⟩ := sq_here I q
  have lt := isAt_lt p
  refine call_enumK p fun h' made at0 kp => pie_new I kp (feed_enum (kd := kd) (Nat.ne_of_lt (Nat.lt_succ_of_lt lt)) (Nat.ne_of_lt lt) (Nat.succ_ne_self _)) ⟨⟨.none, made⟩, at0⟩ ?_ w
  simp only [List.forall_mem_cons]
  exact ⟨Nat.le_succ _, Nat.le_refl _, fun _ z => nomatch z⟩
def iZipK (K : PySem.W.Frag) (ta : TA) : TI := fun σ H R => ta σ H fun vs H1 => ∃ a b xs ys k1 k2, vs = [.ref a, .ref b] ∧ SqK K k1 H1 a xs ∧ SqK K k2 H1 b ys ∧ R (ItzK K k1 k2 a b) H1
theorem pi_zipK {X : Cx} {e e2 : Expr} {ta : TA} {p pos tpos : Pos} {elts : List Expr} {kk : Nat} (hg : Gl X "zip") (hm : X.mg "zip" = none) (ha : PA X [e, e2] ta)
    (hs : starEach [e, e2] X.env = (false, eval e X.env) :: starEach [e2] X.env := by rfl) (hpl : (backTo pos (starEach [e2] X.env)).any (·.1) = false := by rfl) : PI X (.Tuple elts kk tpos) (.Call (.Name "zip" p) [e, e2] [] pos) (iZipK X.K ta) := by
  refine pi_class (T := "zip") (ask := fun vs H1 R => ∃ a b xs ys k1 k2, vs = [.ref a, .ref b] ∧ SqK X.K k1 H1 a xs ∧ SqK X.K k2 H1 b ys ∧ R (ItzK X.K k1 k2 a b) H1) hg hm PyProof.Rows.boot_zip ha (fun pins σ H s us vs R I r ⟨a, b, xs, ys, k1, k2, ev, q, q', w⟩ => ?_) hs hpl
  subst ev
  obtain ⟨u, u', rfl, r1, r2⟩ : ∃ u u', us = [u, u'] ∧ RelV (.ref a) u ∧ RelV (.ref b) u' := by cases r with | cons r t => cases t with | cons r' t => cases t; exact ⟨_, _, rfl, r, r'⟩
  obtain rfl : u = Value.ref a := r1
  obtain rfl : u' = Value.ref b := r2
  obtain ⟨its, p, _, _⟩ := sq_here I q
  obtain ⟨its', p', _, _⟩ := sq_here I q'
  have lt := isAt_lt p
  have lt' := isAt_lt p'
  refine zip_begins2 (begins_kd (kd := k1) its) (begins_kd (kd := k2) its') p p' fun h' made tI tO g1 g2 _ kp => pie_new I kp (feed_zip (k1 := k1) (k2 := k2) (zip_sep2 ?_ ?_) (Nat.ne_of_lt lt) (Nat.ne_of_lt (Nat.lt_succ_of_lt lt'))) ⟨made, tI, ⟨_, _, tO⟩, itAt_new g1, itAt_new g2⟩ ?_ w
  · exact List.forall_mem_cons.mpr ⟨lt, fun _ z => nomatch z⟩
  · exact List.forall_mem_cons.mpr ⟨lt', fun _ z => nomatch z⟩
  · simp only [List.forall_mem_cons]
    exact ⟨Nat.le_add_right _ _, Nat.le_add_right _ _, Nat.le_add_right _ _, Nat.le_refl _, Nat.le_add_right _ _, fun _ z => nomatch z⟩

/-! ### over data -/
section
variable {X : Cx} {B : Bs} {e e2 : Expr} {es : List Expr} {p pos tpos : Pos} {elts : List Expr} {kk : Nat}
/-- a finished sequence at an address -/
def SqAt (P : Program) (w : World) (K : PySem.W.Frag) (H : Hp) (C : Cs) (Z : Addr → Prop) (kd : Bool) (a : Addr) (xs : List D) : Prop := ∃ vs, (match kd with
  | true => H a = some (.lst vs) ∧ C a = none
  | false => Rd H a (.tup vs) ∧ C a = none ∨ KTup K a vs) ∧ vs.length ≤ sizeLine ∧ RDs P w K H C Z xs vs
def seqD : D → Option (List D)
  | .lst xs => some xs
  | .tup xs => some xs
  | _ => none
theorem seqD_at {H : Hp} {C : Cs} {d : D} {v : V} {xs : List D} (r : RD X.prog X.w X.K H C B.Z d v) (e : seqD d = some xs) : ∃ a kd, v = .ref a ∧ SqAt X.prog X.w X.K H C B.Z kd a xs := by
  cases d <;> first | cases e | skip
  · obtain ⟨a, vs, rfl, h1, h2, h3⟩ := asT_rd' r
    exact ⟨a, false, rfl, vs, h1, h2, h3⟩
  · cases r with
    | lst h c z l r => exact ⟨_, true, rfl, _, ⟨h, c⟩, l, r⟩
theorem SqAt.pers {H H1 : Hp} {C C1 : Cs} {Z Z' : Addr → Prop} {kd : Bool} {a : Addr} {xs : List D} (q : SqAt X.prog X.w X.K H1 C1 Z kd a xs) (hz : ∀ a, Z' a → Z a ∨ H1 a = none) (ps : Pers H1 C1 H C) : ∃ vs, SqK X.K kd H a vs ∧ vs.length ≤ sizeLine ∧ RDs X.prog X.w X.K H C Z' xs vs := by
  obtain ⟨vs, h, l, r⟩ := q
  refine ⟨vs, ?_, l, (r.hide hz).pers ps⟩
  cases kd with
  | true => exact SqL.of (ps.obj _ _ h.1 h.2)
  | false =>
    rcases h with ⟨h, hc⟩ | h
    · exact .inl (ps.rd h hc).1
    · exact SqT.ofK h
def enumD (xs : List D) : Nat → List D
  | i => match xs with
    | [] => []
    | x :: xs => .tup [.int (i : Nat), x] :: enumD xs (i + 1)
theorem enumD_get : ∀ {xs : List D} {k i : Nat}, (enumD xs k)[i]? = (xs[i]?).map fun x => D.tup [.int ((k + i : Nat) : Int), x]
  | [], _, _ => by simp [enumD]
  | x :: xs, k, 0 => by simp [enumD]
  | x :: xs, k, i + 1 => by
    have q := enumD_get (xs := xs) (k := k + 1) (i := i)
    simp only [enumD, List.getElem?_cons_succ, q]
    have : k + 1 + i = k + (i + 1) := by omega
    rw [this]
theorem enumD_len : ∀ {xs : List D} {k : Nat}, (enumD xs k).length = xs.length
  | [], _ => by simp [enumD]
  | x :: xs, k => by simp [enumD, enumD_len]
theorem itD_enum {H1 : Hp} {C1 : Cs} {kd : Bool} {a : Addr} {xs : List D} (q : SqAt X.prog X.w X.K H1 C1 B.Z kd a xs) : ItD X B (IteK X.K kd a) (enumD xs 0) H1 C1 := by
  intro Z H C hz ps sy i
  obtain ⟨vs, h, _, r⟩ := q.pers hz ps
  have l := r.length
  rw [enumD_len]
  refine ⟨fun hi => ⟨vs, h, by rw [← l]; exact hi⟩, fun hi => ⟨⟨vs, vs[i]'(by rw [← l]; exact hi), h, List.getElem?_eq_getElem _⟩, fun x H' y => ?_⟩⟩
  obtain ⟨T, u, rfl, hT, rfl, y⟩ := y
  obtain ⟨d, e1, e2⟩ := r.get (y vs h)
  have pl : Pers H C (upd H T (.tup [.int (i : Nat), u])) C := Pers.laid hT
  refine ⟨pl, sy.laid hT, .tup [.int (i : Nat), d], by rw [enumD_get, e1, Nat.zero_add]; rfl, .tup (.inl upd_same) (sy.free hT) (sy.nz hT) (by show 2 ≤ sizeLine; rw [sizeLine_eq]; decide) (.cons (.int _) (.cons (e2.pers pl) .nil))⟩
def fEnum (f : En → Cs → Option D) : FTI := fun E C => match f E C with
  | some d => (seqD d).map fun xs => enumD xs 0
  | none => none
theorem fi_enum {f : En → Cs → Option D} (hg : Gl X "enumerate") (hm : X.mg "enumerate" = none) (ha : FE X B e f) (hs : starEach [e] X.env = [(false, eval e X.env)] := by rfl) (hs2 : starEach (e :: []) X.env = (false, eval e X.env) :: starEach [] X.env := by rfl) :
    FI X B (.Tuple elts kk tpos) (.Call (.Name "enumerate" p) [e] [] pos) (fEnum f) := by
  obtain ⟨t0, q, r⟩ := (fa_cons ha fa_nil hs2).ex
  refine ⟨_, pi_enumK hg hm q hs, fun E C σ H R R0 s ⟨items, e, qr⟩ k => ?_⟩
  unfold fEnum at e
  cases h1 : f E C with
  | none => rw [h1] at e; cases e
  | some d =>
    rw [h1] at e
    simp only at e
    cases h2 : seqD d with
    | none => rw [h2] at e; cases e
    | some xs =>
      rw [h2] at e; cases e
      refine r E C σ H (fun ds C' => ds = [d] ∧ C' = C) _ s ⟨[d], by simp only [fCons, h1, fNil], rfl, rfl⟩ fun ds C1 vs H1 p1 s1 r1 q1 => ?_
      obtain ⟨rfl, rfl⟩ := q1
      obtain ⟨v, rfl, rd⟩ := rds1 r1
      obtain ⟨a, kd, rfl, sq⟩ := seqD_at rd h2
      obtain ⟨vs, h3, h4, h5⟩ := sq.pers (fun a h => .inl h) .refl
      exact ⟨a, vs, kd, rfl, h3, k _ _ H1 C1 p1 s1 (itD_enum sq) (by rw [enumD_len, h5.length]; exact h4) qr⟩
def zipD : List D → List D → List D
  | x :: xs, y :: ys => .tup [x, y] :: zipD xs ys
  | _, _ => []
theorem zipD_len : ∀ {xs ys : List D}, (zipD xs ys).length = min xs.length ys.length
  | [], _ => by simp [zipD]
  | _ :: _, [] => by simp [zipD]
  | x :: xs, y :: ys => by simp only [zipD, List.length_cons, zipD_len]; omega
theorem zipD_get : ∀ {xs ys : List D} {i : Nat} {x y : D}, xs[i]? = some x → ys[i]? = some y → (zipD xs ys)[i]? = some (.tup [x, y])
  | [], _, _, _, _, h, _ => by simp at h
  | _ :: _, [], _, _, _, _, h => by simp at h
  | x :: xs, y :: ys, 0, _, _, h, k => by simp at h k; simp [zipD, h, k]
  | x :: xs, y :: ys, i + 1, _, _, h, k => by
    simp only [List.getElem?_cons_succ] at h k
    simp only [zipD, List.getElem?_cons_succ]
    exact zipD_get h k
theorem itD_zip {H1 : Hp} {C1 : Cs} {k1 k2 : Bool} {a b : Addr} {xs ys : List D} (q : SqAt X.prog X.w X.K H1 C1 B.Z k1 a xs) (q' : SqAt X.prog X.w X.K H1 C1 B.Z k2 b ys) : ItD X B (ItzK X.K k1 k2 a b) (zipD xs ys) H1 C1 := by
  intro Z H C hz ps sy i
  obtain ⟨vs, h, _, r⟩ := q.pers hz ps
  obtain ⟨us, h', _, r'⟩ := q'.pers hz ps
  have l := r.length
  have l' := r'.length
  rw [zipD_len]
  refine ⟨fun hi => ⟨vs, us, h, h', by omega⟩, fun hi => ⟨⟨vs, us, vs[i]'(by omega), us[i]'(by omega), h, h', List.getElem?_eq_getElem _, List.getElem?_eq_getElem _⟩, fun x H' y => ?_⟩⟩
  obtain ⟨T, u, u', rfl, hT, rfl, y1, y2⟩ := y
  obtain ⟨d, e1, e2⟩ := r.get (y1 vs h)
  obtain ⟨d', e1', e2'⟩ := r'.get (y2 us h')
  have pl : Pers H C (upd H T (.tup [u, u'])) C := Pers.laid hT
  exact ⟨pl, sy.laid hT, .tup [d, d'], zipD_get e1 e1', .tup (.inl upd_same) (sy.free hT) (sy.nz hT) (by show 2 ≤ sizeLine; rw [sizeLine_eq]; decide) (.cons (e2.pers pl) (.cons (e2'.pers pl) .nil))⟩
def fZip (g : En → Cs → Option (List D)) : FTI := fun E C => match g E C with
  | some [d, d'] => match seqD d, seqD d' with
    | some xs, some ys => some (zipD xs ys)
    | _, _ => none
  | _ => none
theorem fi_zip {g : En → Cs → Option (List D)} (hg : Gl X "zip") (hm : X.mg "zip" = none) (ha : FA X B [e, e2] g) (hs : starEach [e, e2] X.env = (false, eval e X.env) :: starEach [e2] X.env := by rfl) (hpl : (backTo pos (starEach [e2] X.env)).any (·.1) = false := by rfl) :
    FI X B (.Tuple elts kk tpos) (.Call (.Name "zip" p) [e, e2] [] pos) (fZip g) := by
  obtain ⟨t0, q, r⟩ := ha.ex
  refine ⟨_, pi_zipK hg hm q hs hpl, fun E C σ H R R0 s ⟨items, e, qr⟩ k => ?_⟩
  unfold fZip at e
  split at e
  · rename_i d d' h1
    split at e
    · rename_i xs ys h2 h3
      cases e
      refine r E C σ H (fun ds C' => ds = [d, d'] ∧ C' = C) _ s ⟨_, h1, rfl, rfl⟩ fun ds C1 vs H1 p1 s1 r1 q1 => ?_
      obtain ⟨rfl, rfl⟩ := q1
      obtain ⟨v, v', rfl, rd, rd'⟩ := rds2 r1
      obtain ⟨a, k1, rfl, sq⟩ := seqD_at rd h2
      obtain ⟨b, k2, rfl, sq'⟩ := seqD_at rd' h3
      obtain ⟨vs, g1, g2, g3⟩ := sq.pers (fun a h => .inl h) .refl
      obtain ⟨us, g1', g2', g3'⟩ := sq'.pers (fun a h => .inl h) .refl
      exact ⟨a, b, vs, us, k1, k2, rfl, g1, g1', k _ _ H1 C1 p1 s1 (itD_zip sq sq') (by rw [zipD_len, g3.length]; omega) qr⟩
    · cases e
  · cases e
end
end DL

set_option Elab.async false
set_option linter.all false
set_option maxRecDepth 100000
set_option maxHeartbeats 2000000
/-! DlM: finished dicts walked: keys, items. -/
namespace DL
open PySem PySem.Spec PyProof.Rows L2

/-- at d stands a dict that stays as it is: its entries es, told by kv -/
structure Fx (K : PySem.W.Frag) (b : Bool) (H : Hp) (d : Addr) (kv : List (V × V)) (es : Array DictEntry) (ep : Nat) : Prop where
  low : (d == sysModules) = false
  at_ : match b with
    | true => K.lookup d = some ⟨.type "dict", none, .dict es ep, #[]⟩
    | false => ∃ o u, H d = some (.frz o u) ∧ o.ExactDict ∧ o.data = .dict es ep
  len : kv.length ≤ sizeLine
  rel : Paired (fun (p : V × V) (e : DictEntry) => RelV p.1 e.key ∧ RelV p.2 e.val) kv es.toList
/-- .. over data -/
inductive FxD (P : Program) (w : World) (K : PySem.W.Frag) (H : Hp) (d : Addr) (kv : List (V × V)) : Bool → Prop
  | kd {kvs : List (Str × V)} : KDc K w d kvs → kv = kvs.map (fun p => (.str p.1, p.2)) → FxD P w K H d kv true
  | k {o : Obj} {kvs : List (Key × V)} : H d = some (.frz o (.dK kvs)) → kv = kvs.map (fun p => (kV p.1, p.2)) → FxD P w K H d kv false
  | t {o : Obj} {xs : NX} : H d = some (.frz o (dT P w d xs)) → kv = xs.map (fun x => (.ref x.2.1, x.2.2)) → FxD P w K H d kv false
section
variable {X : Cx} {pins : List (Addr × Obj)} {σ : L2.St} {H : Hp} {s : Shared} {d : Addr} {kv : List (V × V)} {es : Array DictEntry} {ep : Nat} {bk : Bool}
theorem Fx.raw (f : Fx X.K bk H d kv es ep) (I : Inv X pins σ H s) : s.heap.DictRaw d es ep := by
  have q := f.at_
  cases bk with
  | true => exact ⟨_, I.kIn d _ q, ⟨rfl, rfl, rfl⟩, rfl⟩
  | false =>
    obtain ⟨o, u, h, hx, hd⟩ := q
    obtain ⟨g, _⟩ := (show ObjOk X.prog X.w H s.heap d (.frz o u) from I.hok d _ h)
    exact ⟨o, g, hx, hd⟩
theorem Fx.size (f : Fx X.K bk H d kv es ep) : es.size = kv.length := by rw [Paired.length f.rel, Array.length_toList]
theorem paired_of {α β : Type} {G : α → β → Prop} : ∀ {l : List α} {m : List β}, l.length = m.length → (∀ (i : Nat) (a : α) (b : β), l[i]? = some a → m[i]? = some b → G a b) → Paired G l m
  | [], [], _, _ => .nil
  | [], _ :: _, h, _ => by simp at h
  | _ :: _, [], h, _ => by simp at h
  | a :: l, b :: m, h, k => .cons (k 0 a b rfl rfl) (paired_of (Nat.succ.inj h) fun i x y h1 h2 => k (i + 1) x y (by simpa using h1) (by simpa using h2))
theorem paired_map {α β γ : Type} {f : α → γ} {G : γ → β → Prop} : ∀ {l : List α} {m : List β}, Paired (fun a b => G (f a) b) l m → Paired G (l.map f) m
  | _, _, .nil => .nil
  | _, _, .cons h t => .cons h (paired_map t)
theorem raw_same {h : Heap} {o : Obj} {es' : Array DictEntry} {ep' : Nat} (g : h.get? d = some o) (r : h.DictRaw d es' ep') : o.ExactDict ∧ o.data = .dict es' ep' := by
  obtain ⟨o', h1, h2, h3⟩ := r
  rw [g] at h1; cases h1
  exact ⟨h2, h3⟩
theorem pn_entries {prog : Program} {w : World} {xs : NX} {ys : List (NestedKey × Addr × Value)} (r : PN xs ys) : Paired (fun (x : NestedKey × Addr × V) (e : DictEntry) => RelV (.ref x.2.1) e.key ∧ RelV x.2.2 e.val) xs (ys.map (entryOfKey (nestedKind prog w))) := by
  induction r with
  | nil => exact .nil
  | cons hq t ih =>
    rw [List.map_cons]
    refine .cons ⟨?_, hq.2.2⟩ ih
    show Value.ref _ = Value.ref _
    exact congrArg Value.ref hq.2.1.symm
theorem FxD.fx (f : FxD X.prog X.w X.K H d kv bk) (I : Inv X pins σ H s) : ∃ es ep, Fx X.K bk H d kv es ep := by
  cases f with
  | kd h e =>
    obtain ⟨es, n, D, pr⟩ := h.ex
    subst e
    exact ⟨es, n, D.low, D.at_, by rw [List.length_map]; exact h.len, paired_map (Paired.mapP pr fun _ _ z => z)⟩
  | k h e =>
    subst e
    obtain ⟨hg, z, hs, vs, kvr, dd⟩ := (show ObjOk X.prog X.w H s.heap d (.frz _ (.dK _)) from I.hok d _ h)
    obtain ⟨es, ep, hr, hsz, he⟩ := dd.raw
    obtain ⟨hx, hd⟩ := raw_same hg hr
    refine ⟨es, ep, hs, ⟨_, _, h, hx, hd⟩, by rw [List.length_map]; exact z, paired_map (paired_of ((Paired.length kvr).trans (hsz.symm.trans (by simp))) fun i a b h1 h2 => ?_)⟩
    obtain ⟨u, hu, ru⟩ := kv_get kvr (k := a.1) (v := a.2) h1
    have hi : i < es.size := by
      have q := (List.getElem?_eq_some_iff.mp h2).1
      rwa [Array.length_toList] at q
    obtain ⟨g1, g2⟩ := he i hi a.1 u hu
    have eb : b = es[i] := by
      rw [Array.getElem?_toList, Array.getElem?_eq_getElem hi] at h2
      exact (Option.some.inj h2).symm
    subst eb
    exact ⟨relV_key g1, by rw [g2]; exact ru⟩
  | t h e =>
    subst e
    obtain ⟨hg, ⟨⟨⟨ys, pr, o', es, ep, h1, h2, h3, h4, h5⟩, hz, hs⟩, _⟩⟩ := (show ObjOk X.prog X.w H s.heap d (.frz _ (dT X.prog X.w d _)) from I.hok d _ h)
    rw [hg] at h1; cases h1
    refine ⟨es, ep, hs, ⟨_, _, h, h2, h3⟩, by rw [List.length_map]; exact hz, paired_map ?_⟩
    rw [h4]
    exact pn_entries pr
end
/-- the keys, the items -/
def ItkF (K : PySem.W.Frag) (bk : Bool) (d : Addr) (kv : List (V × V)) (es : Array DictEntry) (ep : Nat) : It :=
  ⟨fun i H => Fx K bk H d kv es ep ∧ i < kv.length, fun i H x H' => H' = H ∧ ∃ p, kv[i]? = some p ∧ x = p.1, fun i H => Fx K bk H d kv es ep ∧ kv.length = i⟩
def ItiF (K : PySem.W.Frag) (bk : Bool) (d : Addr) (kv : List (V × V)) (es : Array DictEntry) (ep : Nat) : It :=
  ⟨fun i H => Fx K bk H d kv es ep ∧ i < kv.length, fun i H x H' => ∃ T p, kv[i]? = some p ∧ x = .ref T ∧ H T = none ∧ H' = upd H T (.tup [p.1, p.2]), fun i H => Fx K bk H d kv es ep ∧ kv.length = i⟩
section
variable {P : Program} {w : World} {K : PySem.W.Frag} {tg : Expr} {d it : Addr} {kv : List (V × V)} {es : Array DictEntry} {ep n : Nat} {bk : Bool}
theorem rel_at {i : Nat} {p : V × V} {H : Hp} (f : Fx K bk H d kv es ep) (h : kv[i]? = some p) : ∃ hi : i < es.size, RelV p.1 es[i].key ∧ RelV p.2 es[i].val := by
  obtain ⟨b, h1, h2⟩ := paired_get f.rel h
  have hi : i < es.size := by
    have q := (List.getElem?_eq_some_iff.mp h1).1
    rwa [Array.length_toList] at q
  refine ⟨hi, ?_⟩
  have eb : b = es[i] := by
    rw [Array.getElem?_toList, Array.getElem?_eq_getElem hi] at h1
    exact (Option.some.inj h1).symm
  subst eb
  exact h2
theorem feed_keysF (hne : d ≠ it) : Feed P w K tg (ItkF K bk d kv es ep) [it] it (fun i h => h.IsKeyIter it d i es.size ep) := by
  refine ⟨List.mem_cons_self .., fun i h st => ?_, fun i h h' st k => st.at (k it (List.mem_cons_self ..)), fun A i s Q E st => wpAny_pyIter_keyiter st, fun X eP ew eK calm i pins s σ H I st now => ?_⟩
  · obtain ⟨o, e, _, dd⟩ := st
    exact List.forall_mem_cons.mpr ⟨⟨o, e, fun v z => by rw [dd] at z; cases z⟩, fun _ z => nomatch z⟩
  · subst eP ew eK
    have fx : Fx X.K bk H d kv es ep := by rcases now with z | z <;> exact z.1
    refine ⟨_, _, _, _, _, (Goes.rawKeys (prog := X.prog) (w := X.w) (A := X.A) (target := tg) (I.ok.hd calm) it d hne es ep).toN, fun b m => m, fun j h y => y.1, ⟨st, fx.raw I⟩, fun z => fx.size.trans z.2, fun z => ⟨fx.size ▸ z.2, fun u h' ⟨lt, ev⟩ => ?_⟩⟩
    have got : kv[i]? = some (kv[i]'z.2) := List.getElem?_eq_getElem z.2
    obtain ⟨_, rk, _⟩ := rel_at fx got
    exact .old (ev ▸ rk) ⟨rfl, _, got, rfl⟩
theorem feed_itemsF {elts : List Expr} {kk : Nat} {tpos : Pos} (hne : d ≠ it) : Feed P w K (.Tuple elts kk tpos) (ItiF K bk d kv es ep) [it] it (fun i h => ∃ ok ov, IsItemIter h it d i es.size ep ok ov) := by
  refine ⟨List.mem_cons_self .., fun i h ⟨ok, ov, e⟩ => ?_, fun i h h' ⟨ok, ov, e⟩ k => ⟨ok, ov, k it (List.mem_cons_self ..) _ e⟩, fun A i s Q E ⟨ok, ov, e⟩ => wpAny_pyIter_itemiter e, fun X eP ew eK calm i pins s σ H I st now => ?_⟩
  · exact List.forall_mem_cons.mpr ⟨⟨_, e, fun v z => nomatch z⟩, fun _ z => nomatch z⟩
  · subst eP ew eK
    have fx : Fx X.K bk H d kv es ep := by rcases now with z | z <;> exact z.1
    refine ⟨_, _, _, _, _, GoesN.rawItems (prog := X.prog) (w := X.w) (A := X.A) (elts := elts) (x1 := kk) (pos := tpos) (I.ok.hd calm) it d hne es ep, fun b m => m, fun j h y => y.1, ⟨st, fx.raw I⟩, fun z => fx.size.trans z.2, fun z => ⟨fx.size ▸ z.2, fun u h' ⟨T, lt, ev, new, tup⟩ => ?_⟩⟩
    have got : kv[i]? = some (kv[i]'z.2) := List.getElem?_eq_getElem z.2
    obtain ⟨_, rk, rv⟩ := rel_at fx got
    exact .pair ev new tup rk rv fun hn => ⟨T, _, got, rfl, hn, rfl⟩
end
def iKeysF (P : Program) (w : World) (K : PySem.W.Frag) (te : TE) : TI := fun σ H R => te σ H fun x H1 => ∃ d kv bk, x = .ref d ∧ FxD P w K H1 d kv bk ∧ ∀ es ep, Fx K bk H1 d kv es ep → R (ItkF K bk d kv es ep) H1
def iItemsF (P : Program) (w : World) (K : PySem.W.Frag) (te : TE) : TI := fun σ H R => te σ H fun x H1 => ∃ d kv bk, x = .ref d ∧ FxD P w K H1 d kv bk ∧ ∀ es ep, Fx K bk H1 d kv es ep → R (ItiF K bk d kv es ep) H1
section
variable {X : Cx} {tg e : Expr} {te : TE} {elts : List Expr} {kk : Nat} {tpos apos cpos : Pos}
theorem raw_lt {s : Shared} {d : Addr} {es : Array DictEntry} {ep : Nat} (r : s.heap.DictRaw d es ep) : d < s.heap.objs.size := by obtain ⟨o, h, _⟩ := r; exact Heap.lt_size h
theorem pi_keysF (he : PE X e te) : PI X tg e (iKeysF X.prog X.w X.K te) := by
  refine ⟨fun pins s σ H R I h => ?_⟩
  refine thn (he.run pins s σ H _ I h) fun u s1 ⟨x, H1, I1, rx, d, kv, bk, ex, f, q⟩ => ?_
  subst ex
  obtain rfl : u = Value.ref d := rx
  obtain ⟨es, ep, fx⟩ := f.fx I1
  have hr := fx.raw I1
  exact wpAny_pyIter_dict_raw fx.low hr (pi_one (tk := s1.toks) I1 _ (feed_keysF (Nat.ne_of_lt (raw_lt hr))).turn ⟨_, Heap.get?_push_size _ rfl, rfl, rfl⟩ (q es ep fx))
theorem pi_itemsF (he : PE X e te) (hbase : attributeBase e "items" X.env (eval e X.env) = eval e X.env := by rfl) (hline : (apos.endLine == cpos.line) = true := by rfl) : PI X (.Tuple elts kk tpos) (.Call (.Attribute e "items" apos) [] [] cpos) (iItemsF X.prog X.w X.K te) := by
  refine ⟨fun pins s σ H R I h => ?_⟩
  refine wpAny_Call_method (T := "dict") (id := "dict.items") hbase rfl hline F.plainAttrs_dict F.slot_dict_items F.type_dict_items (thn (he.run pins s σ H _ I h) fun u s1 ⟨x, H1, I1, rx, d, kv, bk, ex, f, q⟩ => ?_)
  subst ex
  obtain rfl : u = Value.ref d := rx
  obtain ⟨es, ep, fx⟩ := f.fx I1
  have hr := fx.raw I1
  refine ⟨hr.typeIs, fun b eb => ?_, ?_⟩
  · cases eb
    obtain ⟨o, h1, h2, _⟩ := hr
    exact ⟨o, h1, h2.2.1⟩
  have I2 : Inv X pins σ H1 { s1 with heap := s1.heap.push { cls := .type "dict_items", data := .fields #[.ref d] } } := I1.kept (t' := s1.toks) fun b ob q => Heap.get?_push_of_some _ q
  have hr2 := fx.raw I2
  have fin : wpAny (model X.prog X.w) X.A (pyIter (.ref s1.heap.objs.size)) (PIE X pins σ (.Tuple elts kk tpos) R) X.xe { s1 with heap := s1.heap.push { cls := .type "dict_items", data := .fields #[.ref d] } } :=
    wpAny_pyIter_items_raw ⟨_, Heap.get?_push_size _ rfl, rfl, rfl⟩ hr2 (pi_one (tk := s1.toks) I2 _ (feed_itemsF (Nat.ne_of_lt (raw_lt hr2))).turn ⟨.none, .none, Heap.get?_push_size _ rfl⟩ (q es ep fx))
  show wpAny _ _ (callWith cpos (.builtin "dict.items") [.ref d] [] []) _ X.xe s1
  exact method_meetsIn F.slot_dict_items F.entry_dict_items rfl (PySem.evalArgs_none ⟨rfl, hr.typeIs, F.args_dict_items_1 _, _, meets_dict_items_raw d fx.low, ⟨⟨es, ep, hr⟩, fin⟩⟩)
end

/-! ### over data -/
section
variable {X : Cx} {B : Bs} {tg e : Expr} {elts : List Expr} {kk : Nat} {tpos apos cpos : Pos}
theorem rd_key {P : Program} {w : World} {K : PySem.W.Frag} {H : Hp} {C : Cs} {Z : Addr → Prop} (p : Key) : RD P w K H C Z (kD p) (kV p) := by
  cases p with
  | inl i => exact .int i
  | inr x => exact .str x
/-- a finished dict at a -/
def DcF (P : Program) (w : World) (K : PySem.W.Frag) (H : Hp) (C : Cs) (Z : Addr → Prop) (a : Addr) (ks ds : List D) (kv : List (V × V)) (bk : Bool) : Prop := FxD P w K H a kv bk ∧ (bk = false → C a = none) ∧ RDs P w K H C Z ks (kv.map (·.1)) ∧ RDs P w K H C Z ds (kv.map (·.2))
theorem rds_keys {P : Program} {w : World} {K : PySem.W.Frag} {H : Hp} {C : Cs} {Z : Addr → Prop} : ∀ kvs : List (Key × V), RDs P w K H C Z (kvs.map fun p => kD p.1) ((kvs.map fun p => (kV p.1, p.2)).map (·.1))
  | [] => .nil
  | p :: ps => .cons (rd_key p.1) (rds_keys ps)
theorem rds_texts {P : Program} {w : World} {K : PySem.W.Frag} {H : Hp} {C : Cs} {Z : Addr → Prop} : ∀ kvs : List (Str × V), RDs P w K H C Z (kvs.map fun p => .str p.1) ((kvs.map fun p => ((V.str p.1, p.2) : V × V)).map (·.1))
  | [] => .nil
  | p :: ps => .cons (.str p.1) (rds_texts ps)
theorem dcF_of {H : Hp} {C : Cs} {ks ds : List D} {v : V} (r : RD X.prog X.w X.K H C B.Z (.dic ks ds) v) : ∃ a kv bk, v = .ref a ∧ DcF X.prog X.w X.K H C B.Z a ks ds kv bk := by
  cases r with
  | dicKd h e r =>
    rename_i a kvs
    subst e
    refine ⟨a, kvs.map (fun p => ((V.str p.1, p.2) : V × V)), true, rfl, FxD.kd h rfl, (fun z => by cases z), rds_texts kvs, ?_⟩
    rw [List.map_map]; exact r
  | dicK h c z e r =>
    rename_i a o kvs
    subst e
    exact ⟨a, kvs.map (fun p => (kV p.1, p.2)), false, rfl, .k h rfl, fun _ => c, rds_keys kvs, by rw [List.map_map]; exact r⟩
  | dicT h c z n e r q =>
    rename_i a o xs
    exact ⟨a, xs.map (fun x => (.ref x.2.1, x.2.2)), false, rfl, .t h rfl, fun _ => c, by rw [List.map_map]; exact r, by rw [List.map_map]; exact q⟩
theorem Fx.pers {H H1 : Hp} {C C1 : Cs} {a : Addr} {kv : List (V × V)} {es : Array DictEntry} {ep : Nat} {bk : Bool} (f : Fx X.K bk H1 a kv es ep) (hc : bk = false → C1 a = none) (p : Pers H1 C1 H C) : Fx X.K bk H a kv es ep := by
  refine ⟨f.low, ?_, f.len, f.rel⟩
  have q := f.at_
  cases bk with
  | true => exact q
  | false =>
    obtain ⟨o, u, h, h2⟩ := q
    exact ⟨o, u, p.obj _ _ h (hc rfl), h2⟩
theorem itD_keys {H1 : Hp} {C1 : Cs} {a : Addr} {ks ds : List D} {kv : List (V × V)} {bk : Bool} {es : Array DictEntry} {ep : Nat} (q : DcF X.prog X.w X.K H1 C1 B.Z a ks ds kv bk) (f : Fx X.K bk H1 a kv es ep) : ItD X B (ItkF X.K bk a kv es ep) ks H1 C1 := by
  intro Z H C hz ps sy i
  obtain ⟨_, hc, rk, _⟩ := q
  have f' := f.pers hc ps
  have l := rk.length
  rw [List.length_map] at l
  refine ⟨fun hi => ⟨f', by rw [← l]; exact hi⟩, fun hi => ⟨⟨f', by rw [← l]; exact hi⟩, fun x H' y => ?_⟩⟩
  obtain ⟨rfl, p, hp, rfl⟩ := y
  obtain ⟨d, e1, e2⟩ := ((rk.hide hz).pers ps).get (i := i) (v := p.1) (by rw [List.getElem?_map, hp]; rfl)
  exact ⟨.refl, sy, d, e1, e2⟩
theorem itD_items {H1 : Hp} {C1 : Cs} {a : Addr} {ks ds : List D} {kv : List (V × V)} {bk : Bool} {es : Array DictEntry} {ep : Nat} (q : DcF X.prog X.w X.K H1 C1 B.Z a ks ds kv bk) (f : Fx X.K bk H1 a kv es ep) : ItD X B (ItiF X.K bk a kv es ep) (zipD ks ds) H1 C1 := by
  intro Z H C hz ps sy i
  obtain ⟨_, hc, rk, rv⟩ := q
  have f' := f.pers hc ps
  have l := rk.length
  have l2 := rv.length
  rw [List.length_map] at l l2
  rw [zipD_len]
  refine ⟨fun hi => ⟨f', by omega⟩, fun hi => ⟨⟨f', by omega⟩, fun x H' y => ?_⟩⟩
  obtain ⟨T, p, hp, rfl, hT, rfl⟩ := y
  obtain ⟨d, e1, e2⟩ := ((rk.hide hz).pers ps).get (i := i) (v := p.1) (by rw [List.getElem?_map, hp]; rfl)
  obtain ⟨d', e1', e2'⟩ := ((rv.hide hz).pers ps).get (i := i) (v := p.2) (by rw [List.getElem?_map, hp]; rfl)
  have pl : Pers H C (upd H T (.tup [p.1, p.2])) C := Pers.laid hT
  exact ⟨pl, sy.laid hT, .tup [d, d'], zipD_get e1 e1', .tup (.inl upd_same) (sy.free hT) (sy.nz hT) (by show 2 ≤ sizeLine; rw [sizeLine_eq]; decide) (.cons (e2.pers pl) (.cons (e2'.pers pl) .nil))⟩
def fKeys (f : En → Cs → Option D) : FTI := fun E C => match f E C with
  | some (.dic ks _) => some ks
  | _ => none
def fItems (f : En → Cs → Option D) : FTI := fun E C => match f E C with
  | some (.dic ks ds) => some (zipD ks ds)
  | _ => none
theorem fi_keys {f : En → Cs → Option D} (h : FE X B e f) : FI X B tg e (fKeys f) := by
  obtain ⟨t0, p, r⟩ := h.ex
  refine ⟨_, pi_keysF p, fun E C σ H R R0 s ⟨items, e, qr⟩ k => ?_⟩
  unfold fKeys at e
  split at e
  · rename_i ks ds h1
    cases e
    refine r E C σ H (fun v C' => v = .dic items ds ∧ C' = C) _ s ⟨_, h1, rfl, rfl⟩ fun v C1 u H1 p1 s1 r1 q1 => ?_
    obtain ⟨rfl, rfl⟩ := q1
    obtain ⟨a, kv, bk, rfl, dc⟩ := dcF_of r1
    refine ⟨a, kv, bk, rfl, dc.1, fun es ep fx => k _ _ H1 C1 p1 s1 (itD_keys dc fx) ?_ qr⟩
    have l := dc.2.2.1.length
    rw [List.length_map] at l
    rw [l]; exact fx.len
  · cases e
theorem fi_items {f : En → Cs → Option D} (h : FE X B e f) (hbase : attributeBase e "items" X.env (eval e X.env) = eval e X.env := by rfl) (hline : (apos.endLine == cpos.line) = true := by rfl) : FI X B (.Tuple elts kk tpos) (.Call (.Attribute e "items" apos) [] [] cpos) (fItems f) := by
  obtain ⟨t0, p, r⟩ := h.ex
  refine ⟨_, pi_itemsF p hbase hline, fun E C σ H R R0 s ⟨items, e, qr⟩ k => ?_⟩
  unfold fItems at e
  split at e
  · rename_i ks ds h1
    cases e
    refine r E C σ H (fun v C' => v = .dic ks ds ∧ C' = C) _ s ⟨_, h1, rfl, rfl⟩ fun v C1 u H1 p1 s1 r1 q1 => ?_
    obtain ⟨rfl, rfl⟩ := q1
    obtain ⟨a, kv, bk, rfl, dc⟩ := dcF_of r1
    refine ⟨a, kv, bk, rfl, dc.1, fun es ep fx => k _ _ H1 C1 p1 s1 (itD_items dc fx) ?_ qr⟩
    have l := dc.2.2.1.length
    rw [List.length_map] at l
    have hz := fx.len
    rw [zipD_len]
    omega
  · cases e
end
end DL

set_option Elab.async false
set_option linter.all false
set_option maxRecDepth 100000
set_option maxHeartbeats 2000000
/-! DlO: list methods; displays of dicts; isinstance; op=. -/
namespace DL
open PySem PySem.Spec PyProof.Rows L2

/-! ### lists -/
def vAppend : MO := fun C x ds => match x, ds with
  | .ref a, [d] => match C a with
    | some (.lst xs) => if xs.length < sizeLine then some (.non, cupd C a (.lst (xs ++ [d]))) else none
    | _ => none
  | _, _ => none
def vExtend : MO := fun C x ds => match x, ds with
  | .ref a, [d] => match C a, asL C d with
    | some (.lst xs), some ys => if xs.length + ys.length ≤ sizeLine then some (.non, cupd C a (.lst (xs ++ ys))) else none
    | _, _ => none
  | _, _ => none
def vPop : MO := fun C x ds => match x, ds with
  | .ref a, [] => match C a with
    | some (.lst xs) => match xs[xs.length - 1]? with
      | some y => some (y, cupd C a (.lst xs.dropLast))
      | none => none
    | _ => none
  | _, _ => none
section
variable {X : Cx} {B : Bs}
theorem lm_append : LkM X B rAppend vAppend := fun H C x v ds vs z C' Q s r1 r2 e k => by
  unfold vAppend at e
  split at e
  · rename_i a d
    split at e
    · rename_i xs hc
      by_cases hz : xs.length < sizeLine
      · rw [if_pos hz] at e; cases e
        cases r1
        obtain ⟨u, rfl, rd⟩ := rds1 r2
        obtain ⟨us, h1, h2, h3⟩ := s.cel a _ hc
        have pw : Pers H C (upd H a (.lst (us ++ [u]))) (cupd C a (.lst (xs ++ [d]))) := Pers.write hc
        refine ⟨a, us, u, rfl, rfl, h1, by rw [← h3.length]; exact hz, k .non _ pw (s.write hc ⟨_, upd_same, ?_, (h3.append (.cons rd .nil)).pers pw⟩) .non⟩
        rw [List.length_append, List.length_singleton, ← h3.length]; exact hz
      · rw [if_neg hz] at e; cases e
    · cases e
  · cases e
theorem lm_extend : LkM X B rExtend vExtend := fun H C x v ds vs z C' Q s r1 r2 e k => by
  unfold vExtend at e
  split at e
  · rename_i a d
    split at e
    · rename_i xs ys hc hd
      by_cases hz : xs.length + ys.length ≤ sizeLine
      · rw [if_pos hz] at e; cases e
        cases r1
        obtain ⟨u, rfl, rd⟩ := rds1 r2
        obtain ⟨us, h1, h2, h3⟩ := s.cel a _ hc
        obtain ⟨b, ws, rfl, g1, g2, g3⟩ := asL_rd s rd hd
        have pw : Pers H C (upd H a (.lst (us ++ ws))) (cupd C a (.lst (xs ++ ys))) := Pers.write hc
        have hz' : us.length + ws.length ≤ sizeLine := by rw [← h3.length, ← g3.length]; exact hz
        exact ⟨a, b, us, ws, rfl, rfl, h1, g1, hz', k .non _ pw (s.write hc ⟨_, upd_same, by rw [List.length_append]; exact hz', (h3.append g3).pers pw⟩) .non⟩
      · rw [if_neg hz] at e; cases e
    · cases e
  · cases e
theorem lm_pop : LkM X B rPop vPop := fun H C x v ds vs z C' Q s r1 r2 e k => by
  unfold vPop at e
  split at e
  · rename_i a
    split at e
    · rename_i xs hc
      split at e
      · rename_i y hy
        cases e
        cases r1; cases r2
        obtain ⟨us, h1, h2, h3⟩ := s.cel a _ hc
        obtain ⟨u, hu, ru⟩ := h3.get' hy
        have pw : Pers H C (upd H a (.lst us.dropLast)) (cupd C a (.lst xs.dropLast)) := Pers.write hc
        refine ⟨a, us, u, rfl, rfl, h1, by rw [← h3.length]; exact hu, k _ _ pw (s.write hc ⟨_, upd_same, ?_, h3.dropLast.pers pw⟩) (ru.pers pw)⟩
        rw [List.length_dropLast]; omega
      · cases e
    · cases e
  · cases e
/-- the first place of a flat datum -/
def flatD : D → Bool
  | .non => true
  | .bl _ => true
  | .int _ => true
  | .str _ => true
  | _ => false
def findIx (d : D) : List D → Option Nat
  | [] => none
  | x :: xs => if deq x d = true then some 0 else (findIx d xs).map (· + 1)
def vIndex : Cs → D → List D → Option D := fun C x ds => match asL C x, ds with
  | some xs, [d] => if flatD d && xs.all flatD then (findIx d xs).map fun i => .int (i : Nat) else none
  | _, _ => none
theorem flat_rd {H : Hp} {C : Cs} {d : D} {v : V} (r : RD X.prog X.w X.K H C B.Z d v) (f : flatD d = true) : flatV v = true := by cases r <;> first | rfl | cases f
theorem flat_eq {H : Hp} {C : Cs} {d d' : D} {v v' : V} (r : RD X.prog X.w X.K H C B.Z d v) (r' : RD X.prog X.w X.K H C B.Z d' v') (f : flatD d = true) (f' : flatD d' = true) : eqV v v' = deq d d' := by
  cases r <;> first | (cases f; done) | skip
  all_goals cases r' <;> first | rfl | (cases f'; done) | skip
theorem findIx_rd {H : Hp} {C : Cs} {d : D} {v : V} (rd : RD X.prog X.w X.K H C B.Z d v) (fd : flatD d = true) : ∀ {xs : List D} {vs : List V} {j : Nat}, RDs X.prog X.w X.K H C B.Z xs vs → xs.all flatD = true → findIx d xs = some j →
    (∃ z, vs[j]? = some z ∧ eqV z v = true) ∧ ∀ (m : Nat) (z' : V), m < j → vs[m]? = some z' → eqV z' v = false
  | _, _, _, .nil, _, e => by cases e
  | _, _, j, .cons (d := x) (v := u) r t, fa, e => by
    rw [List.all_cons, Bool.and_eq_true] at fa
    have fe := flat_eq r rd fa.1 fd
    unfold findIx at e
    by_cases h : deq x d = true
    · rw [if_pos h] at e; cases e
      exact ⟨⟨u, rfl, by rw [fe]; exact h⟩, fun m z' hm => absurd hm (Nat.not_lt_zero _)⟩
    · rw [if_neg h] at e
      cases hf : findIx d _ with
      | none => rw [hf] at e; cases e
      | some i =>
        rw [hf] at e; cases e
        obtain ⟨⟨z, h1, h2⟩, h3⟩ := findIx_rd rd fd t fa.2 hf
        refine ⟨⟨z, by simpa using h1, h2⟩, fun m z' hm hz => ?_⟩
        cases m with
        | zero =>
          have ez : u = z' := by simpa using hz
          rw [← ez, fe]
          cases hq : deq x d with
          | false => rfl
          | true => exact absurd hq h
        | succ m => exact h3 m z' (Nat.lt_of_succ_lt_succ hm) (by simpa using hz)
theorem lm_index : LkM X B (rIndex X.K) (fun C x ds => (vIndex C x ds).map (·, C)) := fun H C x v ds vs z C' Q s r1 r2 e k => by
  simp only at e
  cases hv : vIndex C x ds with
  | none => rw [hv] at e; cases e
  | some z0 =>
    rw [hv] at e; cases e
    unfold vIndex at hv
    split at hv
    · rename_i xs d hx
      by_cases hf : (flatD d && xs.all flatD) = true
      · rw [if_pos hf] at hv
        have hf' : flatD d = true ∧ xs.all flatD = true := by simpa [Bool.and_eq_true] using hf
        cases hi : findIx d xs with
        | none => rw [hi] at hv; cases hv
        | some j =>
          rw [hi] at hv; cases hv
          obtain ⟨u, rfl, rd⟩ := rds1 r2
          obtain ⟨a, us, rfl, g1, g2, g3⟩ := asL_rd s r1 hx
          obtain ⟨⟨w', h1, h2⟩, h3⟩ := findIx_rd rd hf'.1 g3 hf'.2 hi
          have fl : us.all flatV = true := by
            refine List.all_eq_true.mpr fun y hy => ?_
            obtain ⟨i, hi'⟩ := List.mem_iff_getElem?.mp hy
            obtain ⟨d', e1, e2⟩ := g3.get hi'
            exact flat_rd e2 (List.all_eq_true.mp hf'.2 d' (List.mem_of_getElem? e1))
          exact ⟨a, us, u, j, w', rfl, rfl, SqL.of g1, flat_rd rd hf'.1, fl, h1, h2, h3, k _ H .refl s (.int _)⟩
      · rw [if_neg hf] at hv; cases hv
    · cases hv
variable {o e : Expr} {es : List Expr} {name : Str} {apos cpos pos : Pos} {t : DT} {ta : DTA}
section
variable (hbase : ∀ nm, attributeBase o nm X.env (eval o X.env) = eval o X.env)
/-- o.append(e) and its like -/
theorem de_append (ho : DE X B o t) (ha : DA X B [e] ta) (hbase : attributeBase o "append" X.env (eval o X.env) = eval o X.env := by rfl)
    (hfew : ((backTo cpos (starEach [e] X.env)).all (fun x => !x.1) && (backToKw cpos (keywordEach [] X.env)).all (fun x => x.1.isSome) && decide (([e] : List Expr).length + ([] : List Keyword).length + (if ([] : List Keyword).isEmpty then 0 else 1) < 30)) = true := by rfl)
    (hline : (apos.endLine == cpos.line) = true := by rfl) (hs : starEach (e :: []) X.env = (false, eval e X.env) :: starEach [] X.env := by rfl) (hplain : (backTo cpos (starEach [] X.env)).any (·.1) = false := by rfl) :
    DE X B (.Call (.Attribute o "append" apos) [e] [] cpos) (dMeth isL vAppend t ta) := de_meth F.plainAttrs_list F.slot_list_append F.type_list_append mt_append ty_list lm_append ho ha hbase hfew hline hs hplain
theorem de_extend (ho : DE X B o t) (ha : DA X B [e] ta) (hbase : attributeBase o "extend" X.env (eval o X.env) = eval o X.env := by rfl)
    (hfew : ((backTo cpos (starEach [e] X.env)).all (fun x => !x.1) && (backToKw cpos (keywordEach [] X.env)).all (fun x => x.1.isSome) && decide (([e] : List Expr).length + ([] : List Keyword).length + (if ([] : List Keyword).isEmpty then 0 else 1) < 30)) = true := by rfl)
    (hline : (apos.endLine == cpos.line) = true := by rfl) (hs : starEach (e :: []) X.env = (false, eval e X.env) :: starEach [] X.env := by rfl) (hplain : (backTo cpos (starEach [] X.env)).any (·.1) = false := by rfl) :
    DE X B (.Call (.Attribute o "extend" apos) [e] [] cpos) (dMeth isL vExtend t ta) := de_meth F.plainAttrs_list F.slot_list_extend F.type_list_extend mt_extend ty_list lm_extend ho ha hbase hfew hline hs hplain
theorem de_index (ho : DE X B o t) (ha : DA X B [e] ta) (hbase : attributeBase o "index" X.env (eval o X.env) = eval o X.env := by rfl)
    (hfew : ((backTo cpos (starEach [e] X.env)).all (fun x => !x.1) && (backToKw cpos (keywordEach [] X.env)).all (fun x => x.1.isSome) && decide (([e] : List Expr).length + ([] : List Keyword).length + (if ([] : List Keyword).isEmpty then 0 else 1) < 30)) = true := by rfl)
    (hline : (apos.endLine == cpos.line) = true := by rfl) (hs : starEach (e :: []) X.env = (false, eval e X.env) :: starEach [] X.env := by rfl) (hplain : (backTo cpos (starEach [] X.env)).any (·.1) = false := by rfl) :
    DE X B (.Call (.Attribute o "index" apos) [e] [] cpos) (dMeth isL (fun C x ds => (vIndex C x ds).map (·, C)) t ta) := de_meth F.plainAttrs_list F.slot_list_index F.type_list_index mt_index ty_list lm_index ho ha hbase hfew hline hs hplain
theorem de_pop (ho : DE X B o t) (hbase : attributeBase o "pop" X.env (eval o X.env) = eval o X.env := by rfl) (hline : (apos.endLine == cpos.line) = true := by rfl) :
    DE X B (.Call (.Attribute o "pop" apos) [] [] cpos) (dMeth isL vPop t dNil) := de_meth0 F.plainAttrs_list F.slot_list_pop F.type_list_pop mt_pop ty_list lm_pop ho hbase hline
def isLb (C : Cs) (x : D) : Bool := (asL C x).isSome
theorem fe_index {f : En → Cs → Option D} {g : En → Cs → Option (List D)} (ho : FE X B o f) (ha : FA X B [e] g) (hbase : attributeBase o "index" X.env (eval o X.env) = eval o X.env := by rfl)
    (hfew : ((backTo cpos (starEach [e] X.env)).all (fun x => !x.1) && (backToKw cpos (keywordEach [] X.env)).all (fun x => x.1.isSome) && decide (([e] : List Expr).length + ([] : List Keyword).length + (if ([] : List Keyword).isEmpty then 0 else 1) < 30)) = true := by rfl)
    (hline : (apos.endLine == cpos.line) = true := by rfl) (hs : starEach (e :: []) X.env = (false, eval e X.env) :: starEach [] X.env := by rfl) (hplain : (backTo cpos (starEach [] X.env)).any (·.1) = false := by rfl) :
    FE X B (.Call (.Attribute o "index" apos) [e] [] cpos) (fMeth isLb vIndex f g) := (de_index ho ha hbase hfew hline hs hplain).mono (fMeth_of fun C x h => h)
end
end

/-! ### what stays related if only what no datum tells changes -/
def Fin : HO → Prop
  | .lst _ => True
  | .tup _ => True
  | .frz _ _ => True
  | _ => False
section
variable {P : Program} {w : World} {K : PySem.W.Frag} {H H' : Hp} {C C' : Cs} {Z Z' : Addr → Prop}
mutual
theorem RD.convF (k : ∀ a o, Fin o → H a = some o → C a = none → ¬ Z a → H' a = some o ∧ C' a = none ∧ ¬ Z' a) : ∀ {d : D} {v : V}, RD P w K H C Z d v → RD P w K H' C' Z' d v
  | _, _, .non => .non
  | _, _, .bl b => .bl b
  | _, _, .int i => .int i
  | _, _, .str x => .str x
  | _, _, .ref a => .ref a
  | _, _, .tup g c z s r => by
    rcases g with g | ⟨o, g⟩
    · have q := k _ (.tup _) True.intro g c z; exact .tup (.inl q.1) q.2.1 q.2.2 s (RDs.convF k r)
    · have q := k _ (.frz _ _) True.intro g c z; exact .tup (.inr ⟨o, q.1⟩) q.2.1 q.2.2 s (RDs.convF k r)
  | _, _, .tupK g r => .tupK g (RDs.convF k r)
  | _, _, .lst g c z s r => have q := k _ (.lst _) True.intro g c z; .lst q.1 q.2.1 q.2.2 s (RDs.convF k r)
  | _, _, .dicK g c z e r => have q := k _ (.frz _ _) True.intro g c z; .dicK q.1 q.2.1 q.2.2 e (RDs.convF k r)
  | _, _, .dicKd g e r => .dicKd g e (RDs.convF k r)
  | _, _, .dicT g c z n e r q => have y := k _ (.frz _ _) True.intro g c z; .dicT y.1 y.2.1 y.2.2 n e (RDs.convF k r) (RDs.convF k q)
theorem RDs.convF (k : ∀ a o, Fin o → H a = some o → C a = none → ¬ Z a → H' a = some o ∧ C' a = none ∧ ¬ Z' a) : ∀ {ds : List D} {vs : List V}, RDs P w K H C Z ds vs → RDs P w K H' C' Z' ds vs
  | _, _, .nil => .nil
  | _, _, .cons r t => .cons (RD.convF k r) (RDs.convF k t)
end
theorem rcell_convF {a : Addr} {c : Cell} (k : ∀ a o, Fin o → H a = some o → C a = none → ¬ Z a → H' a = some o ∧ C' a = none ∧ ¬ Z' a) (r : RCell P w K H C Z a c) (e : H' a = H a) : RCell P w K H' C' Z' a c := by
  cases c with
  | lst xs => obtain ⟨vs, g, s, r⟩ := r; exact ⟨vs, e.trans g, s, r.convF k⟩
  | dic ks ds =>
    rcases r with ⟨kvs, g, q, r⟩ | ⟨xs, g, n, q, r, r'⟩
    · exact .inl ⟨kvs, e.trans g, q, r.convF k⟩
    · exact .inr ⟨xs, e.trans g, n, q, r.convF k, r'.convF k⟩
  | ins cl fs => obtain ⟨dx, vfs, g, r⟩ := r; exact ⟨dx, vfs, e.trans g, Paired.mapP r fun _ _ z => ⟨z.1, z.2.convF k⟩⟩
/-- a dict that was laid aside becomes a cell -/
theorem keep_new {p : Addr} {kvs : List (Key × V)} {o : HO} {c : Cell} (hp : H p = some (.dK kvs)) : ∀ a o', Fin o' → H a = some o' → C a = none → ¬ Z a → upd H p o a = some o' ∧ cupd C p c a = none ∧ ¬ Z a := fun a o' f h1 h2 h3 => by
  have ne : a ≠ p := fun e => by subst e; rw [hp] at h1; cases h1; exact f
  exact ⟨by rw [upd_ne ne]; exact h1, by rw [cupd_ne ne]; exact h2, h3⟩
end

/-! ### {k: v, ..}, keys ints and texts -/
/-- the pairs, from the left -/
def dPairs : List (DT × DT) → En → Cs → (List (D × D) → Cs → Prop) → Prop
  | [], _, C, Q => Q [] C
  | (tk, tv) :: r, E, C, Q => tk E C fun x C1 => tv E C1 fun y C2 => dPairs r E C2 fun ps C3 => Q ((x, y) :: ps) C3
def allScal : List (D × D) → Bool
  | [] => true
  | p :: ps => isScal p.1 && allScal ps
/-- merged, from the left -/
def dMerge : List (D × D) → List D × List D → List D × List D
  | [], a => a
  | p :: ps, a => match nk p.1 with
    | some n => dMerge ps (dputK a.1 a.2 n p.1, dputV a.1 a.2 n p.2)
    | none => a
structure DPs (X : Cx) (B : Bs) (pos : Pos) (keys : List (Option Expr)) (values : List Expr) (ts : List (DT × DT)) : Prop where
  ex : ∃ trs, PPs X pos keys values trs ∧ ∀ E C σ H (Q : List (D × D) → Cs → Prop) (Q0 : List (V × V) → Hp → Prop), Ps X B E C σ H → dPairs ts E C Q →
    (∀ ps C' vps H', Pers H C H' C' → Sy X.prog X.w X.K H' C' B.Z → Paired (fun (p : D × D) (q : V × V) => RD X.prog X.w X.K H' C' B.Z p.1 q.1 ∧ RD X.prog X.w X.K H' C' B.Z p.2 q.2) ps vps → Q ps C' → Q0 vps H') → tPairs trs σ H Q0
section
variable {X : Cx} {B : Bs} {k v : Expr} {keys : List (Option Expr)} {values : List Expr} {pos : Pos} {ts : List (DT × DT)}
theorem dps_nil : DPs X B pos [] [] [] := ⟨⟨[], pps_nil, fun E C σ H Q Q0 s q k => k [] C [] H .refl s.sy .nil q⟩⟩
theorem dps_cons {tk tv : DT} (hk : DE X B k tk) (hv : DE X B v tv) (hr : DPs X B pos keys values ts) : DPs X B pos (some k :: keys) (v :: values) ((tk, tv) :: ts) := by
  obtain ⟨k0, p1, r1⟩ := hk.ex
  obtain ⟨v0, p2, r2⟩ := hv.ex
  obtain ⟨trs, p3, r3⟩ := hr.ex
  refine ⟨(k0, v0) :: trs, pps_cons p1 p2 p3, fun E C σ H Q Q0 s q kk => ?_⟩
  refine r1 E C σ H _ _ s q fun x C1 u H1 q1 s1 g1 h1 => ?_
  refine r2 E C1 σ H1 _ _ (s.next q1 s1) h1 fun y C2 w H2 q2 s2 g2 h2 => ?_
  refine r3 E C2 σ H2 _ _ ((s.next q1 s1).next q2 s2) h2 fun ps C3 vps H3 q3 s3 g3 h3 => ?_
  exact kk ((x, y) :: ps) C3 ((u, w) :: vps) H3 ((q1.trans q2).trans q3) s3 (.cons ⟨(g1.pers q2).pers q3, g2.pers q3⟩ g3) h3
theorem dput_k {P : Program} {w : World} {K : PySem.W.Frag} {H : Hp} {C : Cs} {Z : Addr → Prop} {kvs : List (Key × V)} {ds : List D} {p : Key} {d : D} {v : V} (r : RDs P w K H C Z ds (kvs.map (·.2))) (rd : RD P w K H C Z d v) :
    dputK (kvs.map fun q => kD q.1) ds (kN p) (kD p) = (putK kvs p v).map (fun q => kD q.1) ∧ RDs P w K H C Z (dputV (kvs.map fun q => kD q.1) ds (kN p) d) ((putK kvs p v).map (·.2)) := by
  have hf := dfind_k (p := p) r
  have hany : (dfind (kvs.map fun q => kD q.1) ds (kN p)).isSome = (kvs.any fun kv => decide (kv.1 = p)) := by
    rw [valV_any]
    cases q1 : dfind (kvs.map fun q => kD q.1) ds (kN p) <;> cases q2 : valV kvs p <;> rw [q1, q2] at hf <;> first | rfl | exact hf.elim
  unfold dputK dputV putK
  rw [hany]
  by_cases hb : (kvs.any fun kv => decide (kv.1 = p)) = true
  · rw [if_pos hb, if_pos hb, if_pos hb]
    refine ⟨?_, repl_k rd r⟩
    rw [List.map_map]
    refine List.map_congr_left fun kv _ => ?_
    simp only [Function.comp_apply]
    split <;> rfl
  · rw [if_neg hb, if_neg hb, if_neg hb]
    refine ⟨by rw [List.map_append]; rfl, ?_⟩
    rw [List.map_append]
    exact r.append (.cons rd .nil)
theorem merge_rd {P : Program} {w : World} {K : PySem.W.Frag} {H : Hp} {C : Cs} {Z : Addr → Prop} : ∀ {ps : List (D × D)} {vps : List (V × V)} {kvs : List (Key × V)} {ds : List D}, Paired (fun (p : D × D) (q : V × V) => RD P w K H C Z p.1 q.1 ∧ RD P w K H C Z p.2 q.2) ps vps → allScal ps = true →
    RDs P w K H C Z ds (kvs.map (·.2)) → ∃ more : List (Key × V), vps = more.map (fun kv => (kV kv.1, kv.2)) ∧ (dMerge ps (kvs.map (fun q => kD q.1), ds)).1 = (mergeK kvs more).map (fun q => kD q.1) ∧ RDs P w K H C Z (dMerge ps (kvs.map (fun q => kD q.1), ds)).2 ((mergeK kvs more).map (·.2))
  | _, _, kvs, ds, .nil, _, r => ⟨[], rfl, rfl, r⟩
  | _, _, kvs, ds, @Paired.cons _ _ _ p q ps vps h t, ha, r => by
    have ha' : isScal p.1 = true ∧ allScal ps = true := by simpa [allScal] using ha
    obtain ⟨pk, e1, e2⟩ := kD_key ha'.1 h.1
    obtain ⟨g1, g2⟩ := dput_k (p := pk) r h.2
    obtain ⟨more, m1, m2, m3⟩ := merge_rd t ha'.2 g2
    refine ⟨(pk, q.2) :: more, ?_, ?_, ?_⟩
    · rw [List.map_cons, ← m1, ← e2]
    · show (dMerge (p :: ps) _).1 = _
      unfold dMerge
      rw [e1, nk_kD]
      simp only [g1]
      exact m2
    · show RDs P w K H C Z (dMerge (p :: ps) _).2 _
      unfold dMerge
      rw [e1, nk_kD]
      simp only [g1]
      exact m3
def dDisp (ts : List (DT × DT)) : DT := fun E C Q => dPairs ts E C fun ps C1 => allScal ps = true ∧ ps.length ≤ 15 ∧ ∀ p, C1 p = none → Q (.ref p) (cupd C1 p (.dic (dMerge ps ([], [])).1 (dMerge ps ([], [])).2))
theorem de_disp (h : DPs X B pos keys values ts) (hall : keys.all (·.isSome) = true := by rfl) (hl : keys.length = values.length := by rfl) (h0 : keys ≠ [] := by simp) (h15 : keys.length ≤ 15 := by decide) : DE X B (.Dict keys values pos) (dDisp ts) := by
  obtain ⟨trs, p, r⟩ := h.ex
  refine ⟨_, pe_disp p hall hl h0 h15, fun E C σ H Q Q0 s q k => fun a ha => ?_⟩
  have pl : Pers H C (upd H a (.dK [])) C := Pers.laid ha
  refine r E C σ _ _ _ (s.next pl (s.sy.laid ha)) q fun ps C1 vps H1 p1 s1 r1 ⟨hs, hn, q1⟩ => ?_
  have ca : C a = none := s.sy.free ha
  have h1 : H1 a = some (.dK []) := p1.obj a _ upd_same ca
  have c1 : C1 a = none := p1.cel a _ upd_same ca
  obtain ⟨more, m1, m2, m3⟩ := merge_rd (kvs := []) r1 hs .nil
  have hl2 : more.length ≤ 15 := by
    have e := Paired.length r1
    rw [m1, List.length_map] at e
    omega
  refine ⟨h1, more, m1, hl2, ?_⟩
  have kn := keep_new (C := C1) (Z := B.Z) (o := .dK (mergeK [] more)) (c := .dic (dMerge ps ([], [])).1 (dMerge ps ([], [])).2) h1
  refine k (.ref a) _ (.ref a) _ ⟨fun b o e n => ?_, fun b o e n => ?_⟩ ⟨fun b c e => ?_, fun b z => ?_⟩ (.ref a) (q1 a c1)
  · have ne : b ≠ a := ne_of_none e ha
    rw [upd_ne ne]
    exact (pl.trans p1).obj b o e n
  · have ne : b ≠ a := ne_of_none e ha
    rw [cupd_ne ne]
    exact (pl.trans p1).cel b o e n
  · by_cases z : b = a
    · subst z
      rw [cupd_same] at e; cases e
      exact Or.inl ⟨mergeK [] more, upd_same, m2, m3.convF kn⟩
    · rw [cupd_ne z] at e
      exact rcell_convF kn (s1.cel b c e) (upd_ne z)
  · have ne : b ≠ a := fun e => by subst e; exact s.sy.nz ha z
    obtain ⟨g1, o, g2⟩ := s1.hid b z
    exact ⟨by rw [cupd_ne ne]; exact g1, o, by rw [upd_ne ne]; exact g2⟩
def dNewD : DT := fun _ C Q => ∀ p, C p = none → Q (.ref p) (cupd C p (.dic [] []))
theorem de_newD : DE X B (.Dict [] [] pos) dNewD := by
  refine ⟨_, pe_dnewK, fun E C σ H Q Q0 s q k a ha => ?_⟩
  exact k (.ref a) _ (.ref a) _ (Pers.new ha) (s.sy.new (c := .dic [] []) ha (Or.inl ⟨[], upd_same, rfl, .nil⟩)) (.ref a) (q a (s.sy.free ha))
end
end DL

set_option Elab.async false
set_option linter.all false
set_option maxRecDepth 100000
set_option maxHeartbeats 2000000
/-! DlP: dict comprehensions, dict(d), isinstance, op=, texts split and joined. -/
namespace DL
open PySem PySem.Spec PyProof.Rows L2

/-! ### {k: v for .. in ..}, keys ints and texts -/
def dcGo (E : En) (C : Cs) (g : D → En → Option En) (q : En → Cs → Option Bool) (fk fv : En → Cs → Option D) : List D → List D × List D → Option (List D × List D)
  | [], a => some a
  | x :: xs, a => match g x E with
    | none => none
    | some E2 => match q E2 C with
      | none => none
      | some false => dcGo E C g q fk fv xs a
      | some true => match fk E2 C, fv E2 C with
        | some y, some z => if isScal y = true then match nk y with
          | some n => dcGo E C g q fk fv xs (dputK a.1 a.2 n y, dputV a.1 a.2 n z)
          | none => none else none
        | _, _ => none
def dDc (fi : FTI) (vs : List Nat) (g : D → En → Option En) (q : En → Cs → Option Bool) (fk fv : En → Cs → Option D) : DT := fun E C Q => ∃ items a, fi E C = some items ∧ dcGo (wipeD E vs) C g q fk fv items ([], []) = some a ∧ ∀ p, C p = none → Q (.ref p) (cupd C p (.dic a.1 a.2))
section
variable {X : Cx} {B : Bs} {tg iter kx vx e c : Expr} {pos : Pos}
theorem dcGo_drop {E : En} {C : Cs} {g : D → En → Option En} {q : En → Cs → Option Bool} {fk fv : En → Cs → Option D} {items : List D} {a r : List D × List D} {i : Nat} {x : D} (hx : items[i]? = some x) (h : dcGo E C g q fk fv (items.drop i) a = some r) :
    ∃ E2, g x E = some E2 ∧ ((q E2 C = some false ∧ dcGo E C g q fk fv (items.drop (i + 1)) a = some r) ∨ (q E2 C = some true ∧ ∃ y z n, fk E2 C = some y ∧ fv E2 C = some z ∧ isScal y = true ∧ nk y = some n ∧ dcGo E C g q fk fv (items.drop (i + 1)) (dputK a.1 a.2 n y, dputV a.1 a.2 n z) = some r)) := by
  have e : items.drop i = x :: items.drop (i + 1) := by
    obtain ⟨hl, e⟩ := List.getElem?_eq_some_iff.mp hx
    rw [← e]; exact List.drop_eq_getElem_cons hl
  rw [e, dcGo] at h
  cases h1 : g x E with
  | none => rw [h1] at h; cases h
  | some E2 =>
    rw [h1] at h
    simp only at h
    refine ⟨E2, rfl, ?_⟩
    cases h2 : q E2 C with
    | none => rw [h2] at h; cases h
    | some b =>
      rw [h2] at h
      cases b with
      | false => exact .inl ⟨rfl, h⟩
      | true =>
        simp only at h
        cases h3 : fk E2 C with
        | none => rw [h3] at h; cases h
        | some y =>
          cases h4 : fv E2 C with
          | none => rw [h3, h4] at h; cases h
          | some z =>
            rw [h3, h4] at h
            simp only at h
            by_cases hs : isScal y = true
            · rw [if_pos hs] at h
              cases h5 : nk y with
              | none => rw [h5] at h; cases h
              | some n => rw [h5] at h; exact .inr ⟨rfl, y, z, n, rfl, rfl, hs, h5, h⟩
            · rw [if_neg hs] at h; cases h
theorem de_dc {ifs : List Expr} {scope : Scope} {own : List (Str × Nat)} {fi : FTI} {g : D → En → Option En} {q : En → Cs → Option Bool} {fk fv : En → Cs → Option D} (hc : X.calm = true) (hN : X.N.Nodup) (hi : FI X B tg iter fi) (ok : BlkOk X.N X.env.scope scope own)
    (hg : ∀ (s : Shared) (H : Hp) (C : Addr) (cl : List (Str × Addr)) (fp : List Addr) (B : Bs), DGc (X.blk s H scope (compEnvC scope cl C X.env) fp) B tg (own.map (·.2)) g)
    (ht : ∀ (s : Shared) (H : Hp) (C : Addr) (cl : List (Str × Addr)) (fp : List Addr) (B : Bs), DTs (X.blk s H scope (compEnvC scope cl C X.env) fp) B ifs (ofQ q))
    (hk : ∀ (s : Shared) (H : Hp) (C : Addr) (cl : List (Str × Addr)) (fp : List Addr) (B : Bs), FE (X.blk s H scope (compEnvC scope cl C X.env) fp) B kx fk)
    (hv : ∀ (s : Shared) (H : Hp) (C : Addr) (cl : List (Str × Addr)) (fp : List Addr) (B : Bs), FE (X.blk s H scope (compEnvC scope cl C X.env) fp) B vx fv)
    (hs : ∀ x, foldedSetIterable iter X.env x = pure x := by intro _; rfl) : DE X B (.DictComp kx vx [⟨tg, iter, ifs, 0⟩] scope pos) (dDc fi (own.map (·.2)) g q fk fv) := by
  obtain ⟨wi, pi, ri⟩ := hi.ex
  obtain ⟨g0, pg, rg⟩ := unif_G (X := fun (i : BlkIx) => X.blk i.1 i.2.1 scope (compEnvC scope i.2.2.2.1 i.2.2.1 X.env) i.2.2.2.2) (fun i B => hg i.1 i.2.1 i.2.2.1 i.2.2.2.1 i.2.2.2.2 B)
  obtain ⟨q0, pq, rq⟩ := unif_Q (X := fun (i : BlkIx) => X.blk i.1 i.2.1 scope (compEnvC scope i.2.2.2.1 i.2.2.1 X.env) i.2.2.2.2) (fun i B => ht i.1 i.2.1 i.2.2.1 i.2.2.2.1 i.2.2.2.2 B)
  obtain ⟨k0, pk, rk⟩ := unif_E (X := fun (i : BlkIx) => X.blk i.1 i.2.1 scope (compEnvC scope i.2.2.2.1 i.2.2.1 X.env) i.2.2.2.2) (fun i B => hk i.1 i.2.1 i.2.2.1 i.2.2.2.1 i.2.2.2.2 B)
  obtain ⟨v0, pv, rv⟩ := unif_E (X := fun (i : BlkIx) => X.blk i.1 i.2.1 scope (compEnvC scope i.2.2.2.1 i.2.2.1 X.env) i.2.2.2.2) (fun i B => hv i.1 i.2.1 i.2.2.1 i.2.2.2.1 i.2.2.2.2 B)
  refine ⟨_, pe_dc hc hN pi ok (fun s H C cl fp => pg ⟨s, H, C, cl, fp⟩) (fun s H C cl fp => pq ⟨s, H, C, cl, fp⟩) (fun s H C cl fp => pk ⟨s, H, C, cl, fp⟩) (fun s H C cl fp => pv ⟨s, H, C, cl, fp⟩) hs, fun E C σ H Q Q0 s ⟨items0, a0, hi0, hd0, qd⟩ k => ?_⟩
  refine ri E C σ H (fun items C' => items = items0 ∧ C' = C) _ s ⟨items0, hi0, rfl, rfl⟩ fun J items H1 C1 p1 s1 it hz hit => fun A hA => ?_
  obtain ⟨rfl, ec⟩ := hit
  subst ec
  have ps1 : Ps X B E C1 σ H1 := s.next p1 s1
  have cA : C1 A = none := s1.free hA
  have pA : Pers H1 C1 (upd H1 A (.dK [])) C1 := Pers.laid hA
  refine ⟨fun i m H' => m = items.length - i ∧ i ≤ items.length ∧ ∃ (kvs : List (Key × V)) (ds : List D), H' A = some (.dK kvs) ∧ Pers H1 C1 H' C1 ∧ Sy X.prog X.w X.K H' C1 B.Z ∧ RDs X.prog X.w X.K H' C1 B.Z ds (kvs.map (·.2)) ∧ kvs.length ≤ i ∧
      dcGo (wipeD E (own.map (·.2))) C1 g q fk fv (items.drop i) (kvs.map (fun p => kD p.1), ds) = some a0,
    ⟨items.length, rfl, Nat.zero_le _, [], [], upd_same, pA, s1.laid hA, .nil, Nat.zero_le _, by rw [List.drop_zero]; exact hd0⟩, ?_⟩
  rintro i m H2 ⟨rfl, hi, kvs, ds, hD, p2, s2, ra, hl, go2⟩
  obtain ⟨stop, go⟩ := it B.Z H2 C1 (fun a h => .inl h) p2 s2 i
  by_cases hlt : i < items.length
  · obtain ⟨g1, g2⟩ := go hlt
    refine .inr ⟨g1, fun H' => i + 1 ≤ items.length ∧ ∃ (kvs : List (Key × V)) (ds : List D), H' A = some (.dK kvs) ∧ Pers H1 C1 H' C1 ∧ Sy X.prog X.w X.K H' C1 B.Z ∧ RDs X.prog X.w X.K H' C1 B.Z ds (kvs.map (·.2)) ∧ kvs.length ≤ i + 1 ∧
        dcGo (wipeD E (own.map (·.2))) C1 g q fk fv (items.drop (i + 1)) (kvs.map (fun p => kD p.1), ds) = some a0,
      fun H' ⟨h1, h2⟩ => ⟨items.length - (i + 1), by omega, rfl, h1, h2⟩, fun x H3 y => ?_⟩
    obtain ⟨p3, s3, d, e3, r3⟩ := g2 x H3 y
    obtain ⟨E2, eE, cs⟩ := dcGo_drop e3 go2
    have re3 : RE X.prog X.w X.K H3 C1 B.Z (wipeD E (own.map (·.2))) (wipe σ (own.map (·.2))) := re_wipe ((ps1.re.pers p2).pers p3) _
    have ps3 : Ps X ⟨H3, C1, B.Z⟩ (wipeD E (own.map (·.2))) C1 (wipe σ (own.map (·.2))) H3 := ⟨re3, s3, .refl⟩
    refine rg _ C1 _ H3 d x E2 _ ⟨H3, C1, B.Z⟩ (fun i => ps3.blk) (fun i => r3) eE fun _ σ4 ps4' ew => ⟨by rw [ew, wipe_wipe], ?_⟩
    have ps4 : Ps X ⟨H3, C1, B.Z⟩ E2 C1 σ4 H3 := ps4'.unblk
    have hD3 : H3 A = some (.dK kvs) := p3.obj A _ hD cA
    rcases cs with ⟨hq, hrest⟩ | ⟨hq, y', z', n, hy, hz', hsc, hn, hrest⟩
    · refine rq E2 C1 σ4 H3 (fun b C' => b = false ∧ C' = C1) _ ⟨H3, C1, B.Z⟩ (fun i => ps4.blk) ⟨false, hq, rfl, rfl⟩ fun _ b C5 H5 p5 s5 q5 => ?_
      obtain ⟨rfl, ec⟩ := q5
      replace ec := ec.symm
      subst ec
      have p35 := p3.trans p5
      exact ⟨hlt, kvs, ds, p5.obj A _ hD3 cA, p2.trans p35, s5, ra.pers p35, Nat.le_succ_of_le hl, hrest⟩
    · refine rq E2 C1 σ4 H3 (fun b C' => b = true ∧ C' = C1) _ ⟨H3, C1, B.Z⟩ (fun i => ps4.blk) ⟨true, hq, rfl, rfl⟩ fun _ b C5 H5 p5 s5 q5 => ?_
      obtain ⟨rfl, ec⟩ := q5
      replace ec := ec.symm
      subst ec
      have ps5 : Ps X ⟨H3, C1, B.Z⟩ E2 C1 σ4 H5 := ps4.next p5 s5
      refine rk E2 C1 σ4 H5 (fun v C' => v = y' ∧ C' = C1) _ ⟨H3, C1, B.Z⟩ (fun i => ps5.blk) ⟨y', hy, rfl, rfl⟩ fun _ v C6 uy H6 p6 s6 r6 q6 => ?_
      obtain ⟨rfl, ec⟩ := q6
      replace ec := ec.symm
      subst ec
      have ps6 : Ps X ⟨H3, C1, B.Z⟩ E2 C1 σ4 H6 := ps5.next p6 s6
      refine rv E2 C1 σ4 H6 (fun v C' => v = z' ∧ C' = C1) _ ⟨H3, C1, B.Z⟩ (fun i => ps6.blk) ⟨z', hz', rfl, rfl⟩ fun _ v' C7 uz H7 p7 s7 r7 q7 => ?_
      obtain ⟨rfl, ec⟩ := q7
      replace ec := ec.symm
      subst ec
      obtain ⟨pk', ek, eu⟩ := kD_key hsc r6
      subst ek eu
      have en : n = kN pk' := by rw [nk_kD] at hn; exact (Option.some.inj hn).symm
      subst en
      have p37 := ((p3.trans p5).trans p6).trans p7
      have hD7 : H7 A = some (.dK kvs) := ((p5.trans p6).trans p7).obj A _ hD3 cA
      obtain ⟨m1, m2⟩ := dput_k (p := pk') (ra.pers p37) r7
      have kp : ∀ a o, Fin o → H7 a = some o → C1 a = none → ¬ B.Z a → upd H7 A (.dK (putK kvs pk' uz)) a = some o ∧ C1 a = none ∧ ¬ B.Z a := fun a o f h1 h2 h3 => by
        have ne : a ≠ A := fun e => by subst e; rw [hD7] at h1; cases h1; exact f
        exact ⟨by rw [upd_ne ne]; exact h1, h2, h3⟩
      have hlk := length_putK kvs pk' uz
      refine ⟨kvs, pk', rfl, hD7, by omega, hlt, putK kvs pk' uz, _, upd_same, ⟨fun a o h c => ?_, fun a o h c => (p2.trans p37).cel a o h c⟩, ⟨fun a c e => ?_, fun a z => ?_⟩, m2.convF kp, by omega, ?_⟩
      · rw [upd_ne (ne_of_none h hA)]; exact (p2.trans p37).obj a o h c
      · exact rcell_convF kp (s7.cel a c e) (upd_ne (fun z => by subst z; rw [cA] at e; cases e))
      · obtain ⟨h1, o, h2⟩ := s7.hid a z
        have ne : a ≠ A := fun e => by subst e; exact s1.nz hA z
        exact ⟨h1, o, by rw [upd_ne ne]; exact h2⟩
      · rw [← m1]; exact hrest
  · have e : i = items.length := by omega
    subst e
    refine .inl ⟨stop rfl, ?_⟩
    rw [List.drop_length] at go2
    cases go2
    have kn : ∀ a o, Fin o → H2 a = some o → C1 a = none → ¬ B.Z a → H2 a = some o ∧ cupd C1 A (.dic (kvs.map fun p => kD p.1) ds) a = none ∧ ¬ B.Z a := fun a o f h1 h2 h3 => by
      have ne : a ≠ A := fun e => by subst e; rw [hD] at h1; cases h1; exact f
      exact ⟨h1, by rw [cupd_ne ne]; exact h2, h3⟩
    refine k (.ref A) (cupd C1 A (.dic (kvs.map fun p => kD p.1) ds)) (.ref A) H2 (p1.trans ⟨p2.obj, fun a o h c => by rw [cupd_ne (ne_of_none h hA)]; exact c⟩) ⟨fun a c e => ?_, fun a z => ?_⟩ (.ref A) (qd A cA)
    · by_cases z : a = A
      · subst z
        rw [cupd_same] at e; cases e
        exact Or.inl ⟨kvs, hD, rfl, ra.convF kn⟩
      · rw [cupd_ne z] at e
        exact rcell_convF kn (s2.cel a c e) rfl
    · have ne : a ≠ A := fun e => by subst e; exact s1.nz hA z
      obtain ⟨h1, o, h2⟩ := s2.hid a z
      exact ⟨by rw [cupd_ne ne]; exact h1, o, h2⟩

/-! ### dict(d) -/
def rDictOf : List V → Hp → VK → Prop := fun vs H Q => ∃ a kvs, vs = [V.ref a] ∧ Rd H a (.dK kvs) ∧ ∀ p, H p = none → Q (.ref p) (upd H p (.dK kvs))
theorem call_dictOf : CallR X (.type "dict") rDictOf := by
  intro pins s σ H xs us Q I r h
  obtain ⟨a, kvs, rfl, e, q⟩ := h
  obtain ⟨u, rfl, rx⟩ := vals1' (P := fun _ => True) r
  cases rx
  exact d_copyOf I e fun p s' hp I' => ⟨.ref p, _, I', rfl, q p hp⟩
def dDictOf (t : DTA) : DT := fun E C Q => t E C fun ds C1 => ∃ d ks vs, ds = [d] ∧ asD C1 d = some (ks, vs) ∧ (∃ k0 r, ks = k0 :: r ∧ isTup k0 = false) ∧ (∀ a, d ≠ .ref a → False) ∧ ∀ p, C1 p = none → Q (.ref p) (cupd C1 p (.dic ks vs))

/-! ### isinstance with a type of the language -/
def tyD (C : Cs) : D → Option String
  | .non => some "NoneType"
  | .bl _ => some "bool"
  | .int _ => some "int"
  | .str _ => some "str"
  | .tup _ => some "tuple"
  | .lst _ => some "list"
  | .dic _ _ => some "dict"
  | .ref a => match C a with
    | some (.lst _) => some "list"
    | some (.dic _ _) => some "dict"
    | _ => none
def fIsi (T : String) (f : En → Cs → Option D) : En → Cs → Option D := fun E C => match f E C with
  | some d => match tyD C d with
    | some t => (kitB t T).map .bl
    | none => none
  | none => none
/-- .. a dict with nested keys as well -/
def rIsiN (P : Program) (w : World) (K : PySem.W.Frag) : List V → Hp → VK → Prop := fun xs H Q => ∃ (a : Addr) (ks : NX) (T : String) (b : Bool), xs = [.ref a, .ty T] ∧ RdN P w H a ks ∧ KeysN K H ks ∧ PySem.W.kitOne K (.type "dict") (.type T) = some b ∧ Q (.bl b) H
theorem call_isiN : CallR X (.builtin "isinstance") (rIsiN X.prog X.w X.K) := by
  intro pins s σ H xs us Q I r h
  obtain ⟨a, ks, T, b, rfl, hr, hk, e, q⟩ := h
  obtain ⟨u1, u2, rfl, r1, r2⟩ := vals2 r
  cases r1; cases r2
  obtain ⟨_, _, ys, _, o, es, ep, h1, h2, _⟩ := dn_of I hr hk
  exact PySem.W.kia_one PySem.W.kitx_dict I.kIn ⟨o, h1, h2.1⟩ e (fun z => nomatch z) fun tk => ⟨.bl b, H, I.tok tk, rfl, q⟩
def rIsiA (P : Program) (w : World) (K : PySem.W.Frag) : List V → Hp → VK → Prop := fun xs H Q => rIsi K xs H Q ∨ rIsiN P w K xs H Q
theorem call_isiA : CallR X (.builtin "isinstance") (rIsiA X.prog X.w X.K) := call_isi.or call_isiN
theorem isi_rd {H : Hp} {C : Cs} {d : D} {v : V} {t T : String} {b : Bool} {Q : VK} (s : Sy X.prog X.w X.K H C B.Z) (r : RD X.prog X.w X.K H C B.Z d v) (et : tyD C d = some t) (eb : kitB t T = some b) (q : Q (.bl b) H) : rIsiA X.prog X.w X.K [v, .ty T] H Q := by
  have fin : TyX X.K H v (.type t) → rIsiA X.prog X.w X.K [v, .ty T] H Q := fun ty => .inl ⟨v, .ty T, .type t, .type T, b, rfl, .ty T, ty, kit_ty eb, q⟩
  cases d with
  | non => cases r; cases et; exact fin (.base .non)
  | bl b => cases r; cases et; exact fin (.base (.bl _))
  | int i => cases r; cases et; exact fin (.base (.int _))
  | str x => cases r; cases et; exact fin (.base (.str _))
  | tup xs =>
    cases et
    cases r with
    | tup h c z l r =>
      rcases h with h | ⟨o, h⟩
      · exact fin (.base (.tup h))
      · exact fin (.fTuple h)
    | tupK h r =>
      obtain ⟨o, its, n, h1, h2, _⟩ := h
      exact fin (.kTuple h1 h2)
  | lst xs =>
    cases et
    cases r with
    | lst h c z l r => exact fin (.base (.lst h))
  | dic ks ds =>
    cases et
    cases r with
    | dicKd h e r =>
      obtain ⟨es, n, D, _⟩ := h.ex
      exact fin (.kDict D.at_ rfl)
    | dicK h c z e r => exact fin (.fDict h)
    | dicT h c z n e r q' => exact .inr ⟨_, _, T, b, rfl, .inl (.inr ⟨_, h⟩), keysN_of e r n.2, kit_ty eb, q⟩
  | ref a =>
    cases r
    simp only [tyD] at et
    cases hc : C a with
    | none => rw [hc] at et; cases et
    | some c =>
      rw [hc] at et
      cases c with
      | ins _ _ => cases et
      | lst xs =>
        cases et
        obtain ⟨vs, h1, _⟩ := s.cel a _ hc
        exact fin (.base (.lst h1))
      | dic ks ds =>
        cases et
        rcases s.cel a _ hc with ⟨kvs, h1, _⟩ | ⟨xs, h1, h2, h3, h4, _⟩
        · exact fin (.base (.dK h1))
        · exact .inr ⟨a, xs, T, b, rfl, .inl (.inl h1), keysN_of h3 h4 h2.2, kit_ty eb, q⟩
theorem fe_isi {x : Str} {T : String} {p p2 : Pos} {f : En → Cs → Option D} (hg : Gl X "isinstance") (hm : X.mg "isinstance" = none) (hg2 : Gl X x) (hm2 : X.mg x = none) (hv : bootBuiltins x = some (.type T)) (h : FE X B e f)
    (hn : x ≠ "__name__" := by decide) (hd : (x == ("__debug__" : Str)) = false := by decide)
    (he : starEach (e :: [.Name x p2]) X.env = (false, eval e X.env) :: starEach [.Name x p2] X.env := by rfl) (he2 : starEach (.Name x p2 :: []) X.env = (false, eval (.Name x p2) X.env) :: starEach [] X.env := by rfl) (hpl : (backTo pos (starEach [.Name x p2] X.env)).any (·.1) = false := by rfl) :
    FE X B (.Call (.Name "isinstance" p) [e, .Name x p2] [] pos) (fIsi T f) := by
  obtain ⟨t0, q, r⟩ := h.ex
  refine ⟨_, pe_callB call_isiA hg hm PyProof.Rows.boot_isinstance (pa_cons q (pa_cons (pe_bltn (v := .ty T) hg2 hm2 hv rfl hn hd) pa_nil he2) he) (by decide) (by decide) he hpl, fun E C σ H Q Q0 s ⟨z, e, qz⟩ k => ?_⟩
  unfold fIsi at e
  cases h1 : f E C with
  | none => rw [h1] at e; cases e
  | some d =>
    rw [h1] at e
    simp only at e
    cases h2 : tyD C d with
    | none => rw [h2] at e; cases e
    | some t =>
      rw [h2] at e
      simp only at e
      cases h3 : kitB t T with
      | none => rw [h3] at e; cases e
      | some b =>
        rw [h3] at e; cases e
        refine r E C σ H (fun v C' => v = d ∧ C' = C) _ s ⟨_, h1, rfl, rfl⟩ fun v C1 u H1 p1 s1 r1 q1 => ?_
        obtain ⟨rfl, rfl⟩ := q1
        exact isi_rd s1 r1 h2 h3 (k (.bl b) C1 (.bl b) H1 p1 s1 (.bl b) qz)
end
end DL

set_option Elab.async false
set_option linter.all false
set_option maxRecDepth 100000
set_option maxHeartbeats 2000000
/-! DlQ: further statements; numbers. -/
namespace DL
open PySem PySem.Spec PyProof.Rows L2
section
variable {X : Cx} {B : Bs} {o value : Expr} {pos pos' : Pos} {f : Str} {c : Addr} {ta tv : DT} {a b : Expr} {t : DTA}
theorem ds_at (T : Fld X.K c f) (ha : DE X B o ta) (hv : DE X B value tv) (hs : swapsWith value (some (.Attribute o f pos')) pos.line X.env = pure false := by rfl) : DS X B (.Assign [.Attribute o f pos'] value pos) (dFldS c f ta tv) := ds_fld T.cl T.na ha hv hs
def cMul (i j : Int) : Bool := (decide (-(2 ^ 64) < i) && decide (i < 2 ^ 64)) || (decide (-(2 ^ 64) < j) && decide (j < 2 ^ 64))
def cMod (_ j : Int) : Bool := decide (0 < j)
def cDiv (_ j : Int) : Bool := decide (j ≠ 0) && decide (j.natAbs < 1073741824)
def cPow (i j : Int) : Bool := decide (0 ≤ j) && decide (j ≤ 1000000) && decide (i.natAbs < 2 ^ 64)
abbrev vMul : VOp := vI cMul fun i j => i * j
abbrev vMod : VOp := vI cMod fun i j => i % j
abbrev vDiv : VOp := vI cDiv fun i j => i.fdiv j
abbrev vPow : VOp := vI cPow fun i j => i ^ j.toNat
theorem lk_mul : LkO X B (rI CMul fun i j => .int (i * j)) vMul := lk_I fun i j h => by simpa [cMul, CMul] using h
theorem lk_mod : LkO X B (rI (fun _ j => 0 < j) fun i j => .int (i % j)) vMod := lk_I fun i j h => by simpa [cMod] using h
theorem lk_fdiv : LkO X B (rI CDivN fun i j => .int (i.fdiv j)) vDiv := lk_I fun i j h => by simpa [cDiv, CDivN] using h
theorem lk_pow : LkO X B (rI CPow fun i j => .int (i ^ j.toNat)) vPow := lk_I fun i j h => by
  have h' : (0 ≤ j ∧ j ≤ 1000000) ∧ i.natAbs < 2 ^ 64 := by simpa only [cPow, Bool.and_eq_true, decide_eq_true_eq] using h
  exact ⟨h'.1.1, h'.1.2, h'.2⟩

/-! ### a < b < c -/
section
variable {c0 : Expr} {o1 o2 : CmpOp} {r r' : R2} {op op' : VOp} {t1 t2 t3 : DT} {f1 f2 f3 : En → Cs → Option D}
theorem chain_data (ho : OpR X (compareOp o1) r) (lk : LkO X B r op) (ho' : OpR X (compareOp o2) r') (lk' : LkO X B r' op') (ha : DE X B a t1) (hb : DE X B b t2) (hc : DE X B c0 t3) :
    ∃ ta tb tc, PE X a ta ∧ PE X b tb ∧ PE X c0 tc ∧ ∀ E C σ H (Q : DK) Q0, Ps X B E C σ H → dCh op op' t1 t2 t3 E C Q → KoV X B H C Q Q0 → tChain r r' ta tb tc σ H Q0 := by
  obtain ⟨ta, p, h1⟩ := ha.ex
  obtain ⟨tb, q, h2⟩ := hb.ex
  obtain ⟨tc, q', h3⟩ := hc.ex
  refine ⟨ta, tb, tc, p, q, q', fun E C σ H Q Q0 s h k => ?_⟩
  refine h1 E C σ H _ _ s h fun v C1 u H1 p1 s1 r1 q1 => ?_
  refine h2 E C1 σ H1 _ _ (s.next p1 s1) q1 fun v2 C2 u2 H2 p2 s2 r2 ⟨z, e, q2⟩ => ?_
  refine lk H2 C2 v v2 _ u u2 _ s2 (r1.pers p2) r2 e fun z' H' p3 s3 r3 => ?_
  cases r3
  refine ⟨z, rfl, ?_⟩
  have ps := ((s.next p1 s1).next p2 s2).next p3 s3
  cases z with
  | false => exact k (.bl false) C2 _ H' ((p1.trans p2).trans p3) s3 (.bl _) q2
  | true =>
    refine h3 E C2 σ H' _ _ ps q2 fun v3 C3 u3 H3 p4 s4 r4 ⟨w, e', q3⟩ => ?_
    exact lk' H3 C3 v2 v3 w u2 u3 _ s4 ((r2.pers p3).pers p4) r4 e' fun z' H4 p5 s5 r5 => k w C3 z' H4 ((((p1.trans p2).trans p3).trans p4).trans p5) s5 r5 q3
theorem de_chain2 (ho : OpR X (compareOp o1) r) (lk : LkO X B r op) (ho' : OpR X (compareOp o2) r') (lk' : LkO X B r' op') (ha : DE X B a t1) (hb : DE X B b t2) (hc : DE X B c0 t3) (hm : lastMarks [o1, o2] [b, c0] = false := by with_unfolding_all rfl) :
    DE X B (.Compare a [o1, o2] [b, c0] pos) (dCh op op' t1 t2 t3) := by
  obtain ⟨ta, tb, tc, p, q, q', h⟩ := chain_data ho lk ho' lk' ha hb hc
  exact ⟨_, pe_chain ho ho' p q q' hm, h⟩
theorem dq_chain2 (ho : OpR X (compareOp o1) r) (lk : LkO X B r op) (ho' : OpR X (compareOp o2) r') (lk' : LkO X B r' op') (ha : DE X B a t1) (hb : DE X B b t2) (hc : DE X B c0 t3) (hm : lastMarks [o1, o2] [b, c0] = false := by with_unfolding_all rfl) :
    DQ X B (.Compare a [o1, o2] [b, c0] pos) (dB (dCh op op' t1 t2 t3)) := by
  obtain ⟨ta, tb, tc, p, q, q', h⟩ := chain_data ho lk ho' lk' ha hb hc
  refine ⟨_, pt_chain ho ho' p q q' hm, fun E C σ H Q Q0 s hq k => ?_⟩
  refine h E C σ H _ _ s hq fun v C1 u H1 p1 s1 r1 ⟨b, e, q1⟩ => ?_
  subst e
  cases r1
  exact ⟨b, rfl, k b C1 H1 p1 s1 q1⟩
theorem fe_chain2 (ho : OpR X (compareOp o1) r) (lk : LkO X B r op) (ho' : OpR X (compareOp o2) r') (lk' : LkO X B r' op') (ha : FE X B a f1) (hb : FE X B b f2) (hc : FE X B c0 f3) (hm : lastMarks [o1, o2] [b, c0] = false := by with_unfolding_all rfl) :
    FE X B (.Compare a [o1, o2] [b, c0] pos) (fCh op op' f1 f2 f3) := (de_chain2 ho lk ho' lk' ha hb hc hm).mono fCh_of
theorem fq_chain2 (ho : OpR X (compareOp o1) r) (lk : LkO X B r op) (ho' : OpR X (compareOp o2) r') (lk' : LkO X B r' op') (ha : FE X B a f1) (hb : FE X B b f2) (hc : FE X B c0 f3) (hm : lastMarks [o1, o2] [b, c0] = false := by with_unfolding_all rfl) :
    FQ X B (.Compare a [o1, o2] [b, c0] pos) (fB (fCh op op' f1 f2 f3)) := (dq_chain2 ho lk ho' lk' ha hb hc hm).mono fun E C Q h => by
  obtain ⟨v, h1, b, rfl, q⟩ := fB_of E C Q h
  exact fCh_of E C (fun v C1 => ∃ b, v = .bl b ∧ Q b C1) ⟨_, h1, b, rfl, q⟩
end

/-! ### x = [.. for ..], x a plain local name -/
section
variable {i : Nat} {y : Str} {py spos : Pos} {elt tg iter : Expr} {ifs : List Expr} {scope : Scope} {own : List (Str × Nat)} {ti : DTI} {g : D → En → Option En} {q : DTT} {tt : DT}
theorem ds_setLc (hc : X.calm = true) (hN : X.N.Nodup) (hy : X.N[i]? = some y) (hyl : X.env.scope.names.lookup y = some .local) (hi : DI X B tg iter ti) (ok : BlkOk X.N X.env.scope scope own)
    (hg : ∀ (s : Shared) (H : Hp) (C : Addr) (cl : List (Str × Addr)) (fp : List Addr) (B : Bs), DGc (X.blk s H scope (compEnvC scope cl C X.env) fp) B tg (own.map (·.2)) g)
    (ht : ∀ (s : Shared) (H : Hp) (C : Addr) (cl : List (Str × Addr)) (fp : List Addr) (B : Bs), DTs (X.blk s H scope (compEnvC scope cl C X.env) fp) B ifs q)
    (he : ∀ (s : Shared) (H : Hp) (C : Addr) (cl : List (Str × Addr)) (fp : List Addr) (B : Bs), DE (X.blk s H scope (compEnvC scope cl C X.env) fp) B elt tt)
    (hsw : swapsWith (.ListComp elt [⟨tg, iter, ifs, 0⟩] scope pos) (some (.Name y py)) spos.line X.env = pure true := by rfl) (hs : ∀ x, foldedSetIterable iter X.env x = pure x := by intro _; rfl) :
    DS X B (.Assign [.Name y py] (.ListComp elt [⟨tg, iter, ifs, 0⟩] scope pos) spos) (dSet i (dLc ti (own.map (·.2)) g q tt)) := by
  obtain ⟨wi, g0, q0, e0, pi, pg, pq, pe, r⟩ := lc_data hc hN hi ok hg ht he
  refine ⟨_, ps_setLc hc hN hy hyl hsw pi ok pg pq pe hs, fun E C σ H N N0 s h k => ?_⟩
  exact r E C σ H (fun x C1 => N.nx (E.set i (some x)) C1) (fun x H1 => gName i x σ H1 N0.nx) s h fun v C' u H' p s' rv qv => k.nx _ C' _ H' p ((s.next p s').set rv i) qv
theorem ds_setLcN (hc : X.calm = true) (hN : X.N.Nodup) (hy : X.N[i]? = some y) (hyl : X.env.scope.names.lookup y = some .local) (hi : DI X B tg iter ti) (ok : BlkOk X.N X.env.scope scope own)
    (hg : ∀ (s : Shared) (H : Hp) (C : Addr) (cl : List (Str × Addr)) (fp : List Addr) (B : Bs), DGc (X.blk s H scope (compEnvC scope cl C X.env) fp) B tg (own.map (·.2)) g)
    (ht : ∀ (s : Shared) (H : Hp) (C : Addr) (cl : List (Str × Addr)) (fp : List Addr) (B : Bs), DTs (X.blk s H scope (compEnvC scope cl C X.env) fp) B ifs q)
    (he : ∀ (s : Shared) (H : Hp) (C : Addr) (cl : List (Str × Addr)) (fp : List Addr) (B : Bs), DE (X.blk s H scope (compEnvC scope cl C X.env) fp) B elt tt)
    (hsw : swapsWith (.ListComp elt [⟨tg, iter, ifs, 0⟩] scope pos) (some (.Name y py)) spos.line X.env = pure true := by rfl) (hs : ∀ x, foldedSetIterable iter X.env x = pure x := by intro _; rfl) :
    DS X B (.Assign [.Name y py] (.ListComp elt [⟨tg, iter, ifs, 0⟩] scope pos) spos) (dSet i (dFin (dLc ti (own.map (·.2)) g q tt))) := by
  obtain ⟨wi, g0, q0, e0, pi, pg, pq, pe, r⟩ := lc_data hc hN hi ok hg ht he
  refine ⟨_, ps_setLc hc hN hy hyl hsw pi ok pg pq pe hs, fun E C σ H N N0 s h k => ?_⟩
  refine r E C σ H (fun v C1 => ∃ p xs, v = .ref p ∧ C1 p = some (.lst xs) ∧ N.nx (E.set i (some (.lst xs))) (cdel C1 p)) (fun x H1 => gName i x σ H1 N0.nx) s h fun v C' u H' p s' rv ⟨a, xs, ev, hca, qv⟩ => ?_
  subst ev
  cases rv
  obtain ⟨vs, h1, h2, h3⟩ := s'.cel a _ hca
  have pp := p.trans (Pers.del (H := H') (C := C') (a := a))
  exact k.nx _ (cdel C' a) _ H' pp ((s.next pp s'.del).set (.lst h1 cdel_same (s'.nzc hca) h2 (h3.pers Pers.del)) i) qv
theorem ds_setLcF {fi : FTI} {qf : En → Cs → Option Bool} {ff : En → Cs → Option D} (hc : X.calm = true) (hN : X.N.Nodup) (hy : X.N[i]? = some y) (hyl : X.env.scope.names.lookup y = some .local) (hi : FI X B tg iter fi) (ok : BlkOk X.N X.env.scope scope own)
    (hg : ∀ (s : Shared) (H : Hp) (C : Addr) (cl : List (Str × Addr)) (fp : List Addr) (B : Bs), DGc (X.blk s H scope (compEnvC scope cl C X.env) fp) B tg (own.map (·.2)) g)
    (ht : ∀ (s : Shared) (H : Hp) (C : Addr) (cl : List (Str × Addr)) (fp : List Addr) (B : Bs), DTs (X.blk s H scope (compEnvC scope cl C X.env) fp) B ifs (ofQ qf))
    (he : ∀ (s : Shared) (H : Hp) (C : Addr) (cl : List (Str × Addr)) (fp : List Addr) (B : Bs), FE (X.blk s H scope (compEnvC scope cl C X.env) fp) B elt ff)
    (hsw : swapsWith (.ListComp elt [⟨tg, iter, ifs, 0⟩] scope pos) (some (.Name y py)) spos.line X.env = pure true := by rfl) (hs : ∀ x, foldedSetIterable iter X.env x = pure x := by intro _; rfl) :
    DS X B (.Assign [.Name y py] (.ListComp elt [⟨tg, iter, ifs, 0⟩] scope pos) spos) (dSet i (ofF (fLc fi (own.map (·.2)) g qf ff))) :=
  (ds_setLcN hc hN hy hyl hi ok hg ht he hsw hs).mono fun N E C h => fLc_of E C _ h
/-- x, y = a, b with plain local names -/
theorem ds_par2 {j : Nat} {x y : Str} {px py pt : Pos} {kt k2 : Nat} {pt2 : Pos} (hc : X.calm = true) (hN : X.N.Nodup) (hi : X.N[i]? = some x) (hj : X.N[j]? = some y) (hx : X.env.scope.names.lookup x = some .local) (hy : X.env.scope.names.lookup y = some .local) (ha : DA X B [a, b] t)
    (hij : i ≠ j := by decide) (hw : swappedStores [.Tuple [.Name x px, .Name y py] kt pt] (.Tuple [a, b] k2 pt2) X.env = pure (some [x, y]) := by rfl) (hs : swapsWithSole [.Tuple [.Name x px, .Name y py] kt pt] (.Tuple [a, b] k2 pt2) pos.line X.env = pure false := by rfl) :
    DS X B (.Assign [.Tuple [.Name x px, .Name y py] kt pt] (.Tuple [a, b] k2 pt2) pos) (dPar i j t) := ds_par ha fun p => ps_par hc hN hi hj hij hx hy p hw hs
end

/-! ### what is walked, whatever makes it -/
def iSeqA (t : DT) : DTI := fun E C R => t E C fun v C1 => ∃ xs, seqD v = some xs ∧ R xs C1
theorem mono_seqA {t : DT} (m : ∀ E C (Q Q' : DK), (∀ v C, Q v C → Q' v C) → t E C Q → t E C Q') : MonoI (iSeqA t) := fun E C R R' h => m E C _ _ fun v C ⟨xs, e, r⟩ => ⟨xs, e, h _ _ r⟩
def ItA (K : PySem.W.Frag) (kd : Bool) (a : Addr) : It := match kd with
  | true => Itl K a
  | false => Itt K a
theorem pi_seqK {tg e : Expr} {te : TE} (he : PE X e te) : PI X tg e (fun σ H R => te σ H fun x H1 => ∃ a xs kd, x = .ref a ∧ SqK X.K kd H1 a xs ∧ R (ItA X.K kd a) H1) := by
  refine ⟨fun pins s σ H R I h => ?_⟩
  refine thn (he.run pins s σ H _ I h) fun v s1 ⟨x, H1, I1, r1, a, xs, kd, ex, hq, q⟩ => ?_
  subst ex
  cases r1
  have fpk : ∀ b ∈ [s1.heap.objs.size], FpOk X pins H1 b := fun b hb => by
    rw [List.mem_singleton.mp hb]
    exact I1.fpOk (Nat.le_refl _) (I1.hok.fresh (Nat.le_refl _))
  cases kd with
  | true =>
    obtain ⟨its, rv, p, hz⟩ := I1.list hq
    exact wpAny_pyIter_list p.isList ⟨s1.heap.objs.size, [s1.heap.objs.size], _, _, H1, rfl, I1.kept (t' := s1.toks) fun b o e => Heap.get?_push_of_some _ e, turn_list a _, ⟨_, Heap.get?_push_size _ rfl, rfl, rfl⟩, fpk, q⟩
  | false =>
    obtain ⟨its, rv, p, hz⟩ := I1.tuple hq
    exact wpAny_pyIter_tuple (show s1.heap.IsTuple a its.toArray from p) ⟨s1.heap.objs.size, [s1.heap.objs.size], _, _, H1, rfl, I1.kept (t' := s1.toks) fun b o e => Heap.get?_push_of_some _ e, turn_tuple a _, ⟨_, Heap.get?_push_size _ rfl, rfl, rfl⟩, fpk, q⟩
theorem di_seqA {tg e : Expr} {t : DT} (h : DE X B e t) : DI X B tg e (iSeqA t) := by
  obtain ⟨t0, p, r⟩ := h.ex
  refine ⟨_, pi_seqK p, fun E C σ H R R0 s q k => ?_⟩
  refine r E C σ H _ _ s q fun v C1 u H1 p1 s1 r1 ⟨xs, e, q1⟩ => ?_
  cases v <;> first | cases e | skip
  · obtain ⟨a, vs, rfl, h1, h2, h3⟩ := asT_rd' r1
    refine ⟨a, vs, false, rfl, ?_, k _ _ H1 C1 p1 s1 (itD_tup h1 h3) (by rw [h3.length]; exact h2) q1⟩
    rcases h1 with h1 | h1
    · exact .inl h1.1
    · exact SqT.ofK h1
  · cases r1 with
    | lst h c z l r => exact ⟨_, _, true, rfl, SqL.of h, k _ _ H1 C1 p1 s1 (itD_list h c r) (by rw [r.length]; exact l) q1⟩
end
end DL

set_option Elab.async false
set_option linter.all false
set_option maxRecDepth 100000
set_option maxHeartbeats 2000000
/-! DlR: own exceptions whose __init__ says super().__init__(..), one own class between: how they are made and raised. -/
namespace DL
open PySem PySem.Spec PyProof.Rows L2

/-- what stands of an own exception's class at C and of its __init__ at f (its code object at cda, its cell at cc) -/
structure XcTxt (prog : Program) (K : PySem.W.Frag) (mg : Str → Option Value) (C f : Addr) (qual : Str) (ar : Arguments) (body : List Stmt) (sc : Scope) (fd : FuncData) (cda cc : Addr) : Prop where
  oex : OexC K C
  lk : ∃ (oc : Value) (od : Option Addr) (kV doc pm : Value) (an : Option Addr) (ct : Value) (osl : Array (Option Value)), fd = PySem.W.fnX "__init__" qual ar body sc [("__class__", cc)] .none kV doc pm an (.ref cda) ct ∧ K.lookup f = some ⟨oc, od, .func fd, osl⟩
  cd : PySem.W.codeIn K (.ref cda) qual = true
  file : ∃ (ccl : Value) (cdd : Option Addr) (vs : Array Value) (ccs : Array (Option Value)) (fl : Str) (tf : Tok), K.lookup cda = some ⟨ccl, cdd, .fields vs, ccs⟩ ∧ vs[2]? = some (.str fl tf) ∧ ((prog.main.file : Str) == fl) = true
  cell : ∃ (cl : Value) (cld : Option Addr) (csl : Array (Option Value)), K.lookup cc = some ⟨cl, cld, .cell (some (.ref C)), csl⟩
  sup : PySem.W.ks_superIn K C C "__init__" = some (some (.builtin "ValueError.__init__"))
  tp : PySem.W.nsIn K cStatics "thirdparty.any" = some none
  sVE : PySem.W.subIn K (.ref C) (.type "ValueError") = some true
  sC : PySem.W.mroIn K C (.ref C) = some true
  iC : PySem.W.findIn K (.ref C) "__init__" = some (some (.ref f))
  tI : PySem.W.typeIn K (.ref f) = some (.type "function")
  gC : ∃ x : Str, mg x = some (.ref C)
  noS : mg "super" = none
  top : (prog.main.scope.names.lookup ("super" : Str)).isSome = false

/-- the context of such a body, at its entry -/
def scx (CX : CXT) (P : Program) (w : World) (K : PySem.W.Frag) (mg : Str → Option Value) (base : Heap) (N : List Str) (qual : Str) (ar : Arguments) (body : List Stmt) (sc : Scope) (cda cc : Addr) (f : Addr) (A : Around) (outer : List Env) (s : Shared) (H : Hp) (E : XK) : Cx :=
  NdefX.ncx CX P w K mg base N ⟨"__init__", qual, ar, body, sc, [("__class__", cc)], cda⟩ f A outer s H E

section
variable {CX : CXT} {P : Program} {w : World} {K : PySem.W.Frag} {mg : Str → Option Value} {base : Heap} {N ps : List Str} {qual : Str} {ar : Arguments} {body : List Stmt} {sc : Scope} {fd : FuncData} {cda cc C f : Addr} {k : Nat} {sp : Sp}
/-- what a body's end tells of what it gives back -/
theorem flow_back {X : Cx} {Q : VK} {fl : Flow} {s' : Shared} {R : Value → Prop} (h : SP X [] { nx := fun _ H' => Q .non H', rt := Q } fl s') (k : ∀ σ' H' v u, Inv X [] σ' H' s' → RelV v u → Q v H' → R u) :
    match fl with
    | .ret u => R u
    | .next => R .none
    | _ => False :=
  match fl, h with
  | .ret u, ⟨v, σ', H', J, rv, q⟩ => k σ' H' v u J rv q
  | .next, ⟨σ', H', J, q⟩ => k σ' H' .non .none J rfl q
  | .brk, ⟨_, _, _, z⟩ => z.elim
  | .cont, ⟨_, _, _, z⟩ => z.elim
/-- THE RULE for such an __init__: the first statement is run where the frame's own code is at hand -/
theorem fn_sup (T : XcTxt P K mg C f qual ar body sc fd cda cc) (S : NdefX.NScope N ps ["__class__"] sc) (len : ∀ vs H Q E, sp vs H Q E → vs.length = ps.length)
    (hbody : ∀ (A : Around) (outer : List Env) (s s1 : Shared) (H : Hp) (vs : List V) (Q : VK) (E : XK), sp vs H Q E → Room k (A.deeper (PySem.W.envX qual sc s.heap.objs.size f (.ref cda) [("__class__", cc)])) →
      Inv (scx CX P w K mg base N qual ar body sc cda cc f A outer s H E) [] (NdefX.startF N vs [none]) H s1 →
      PySem.wpAt (model P w) (A.deeper (PySem.W.envX qual sc s.heap.objs.size f (.ref cda) [("__class__", cc)])) (.func body (PySem.W.envX qual sc s.heap.objs.size f (.ref cda) [("__class__", cc)])) (execs body (PySem.W.envX qual sc s.heap.objs.size f (.ref cda) [("__class__", cc)]))
        (fun fl s' => SP (scx CX P w K mg base N qual ar body sc cda cc f A outer s H E) [] { nx := fun _ H' => Q .non H', rt := Q } fl s') (scx CX P w K mg base N qual ar body sc cda cc f A outer s H E).xe s1) :
    FnOk P w K mg base CX (k + 1) f fd ps sp := by
  refine ⟨len, fun A outer s H args us vs Q E hr e0 hb r hsp => ?_⟩
  obtain ⟨oc, od, kV, doc, pm, an, ct, osl, rfl, lk⟩ := T.lk
  have hl := len _ _ _ _ hsp
  have KX : K.In s.heap := e0.mod.kin.keeps fun b o e => (e0.bs b o e).1
  have lim : s.heap.NoLimit := e0.mod.nolimit.keeps fun b o e => (e0.bs b o e).1
  refine PySem.ks_codeAny_call_defAt (binds := ps.zip us) hr.depth (KX _ _ lk) rfl lim (PySem.W.codeRec_of KX T.cd) rfl hb S.nocell (fun ⟨n, v⟩ hy => S.par n (List.of_mem_zip hy).1) (fun h₁ hns kp => ?_) S.co S.gen S.kind
  obtain ⟨cl, cld, csl, hc⟩ := T.cell
  have hcc : H cc = none ∧ ∃ v, s.heap.IsCell cc v := by
    have q := e0.bs cc _ (e0.mod.kin _ _ hc)
    exact ⟨q.2, _, _, q.1, rfl⟩
  have CA : NdefX.CellsAt [(("__class__" : Str), cc)] ["__class__"] [none] s.heap H := by
    have look : ∀ y c, List.lookup y [(("__class__" : Str), cc)] = some c → y = "__class__" ∧ c = cc := fun y c e => by
      by_cases h : y = ("__class__" : Str)
      · subst h
        simp [List.lookup] at e
        exact ⟨rfl, e.symm⟩
      · have q : (y == ("__class__" : Str)) = false := by simpa using h
        simp [List.lookup, q] at e
    refine ⟨rfl, fun y c e => ?_, fun x y c e1 e2 => ?_, fun i y e => ?_⟩
    · obtain ⟨_, rfl⟩ := look y c e
      exact hcc
    · rw [(look x c e1).1, (look y c e2).1]
    · match i, e with
      | 0, e =>
        have e' : ("__class__" : Str) = y := by simpa using e
        subst e'
        exact ⟨cc, by simp [List.lookup], fun v z => by simp at z⟩
      | i + 1, e => simp at e
  have I : Inv (scx CX P w K mg base N qual ar body sc cda cc f A outer s H E) [] (NdefX.startF N vs [none]) H { s with heap := h₁, toks := s.toks + (ps.zip us).length } :=
    NdefX.inv_startN (F := ⟨"__init__", qual, ar, body, sc, [("__class__", cc)], cda⟩) S hr.hd e0 hl r CA hns kp
  refine PySem.ks_wpAt_mono (hbody A outer s _ H vs Q E hsp (hr.deeper _) I) (fun fl s' hs => ?_) fun e s' hs => hs
  have back := flow_back (R := fun u => CE outer P w H s Q u s') hs fun σ' H' v u J rv q => ⟨v, H', J.os, J.bare, J.base, J.hok, rv, q⟩
  cases fl <;> first | exact back | exact back.elim
end

/-! ### super().__init__(..) -/
section
open PySem.W PySem.Calls
variable {prog : Program} {w : World} {M : Model} {A : Around} {E : Value → Shared → Prop} {h : Heap} {g : Array GenState} {d : Drawn} {t : Nat} {os : OsState}
/-- the object that a built-in method bound to self stands in: its call goes on to the built-in itself -/
theorem wrapped_goes {B : Model} {R : Around} {s : Shared} {id : String} {u : Addr} {self : Value} {xs : Args} {P : PySem.Fin → Shared → Prop} (hu : s.heap.get? u = some { cls := .type "method-wrapper", data := .fields #[.builtin id, self] })
    (k : wpAny B R (checkBoundCall id { xs with pos := self :: xs.pos }) (fun _ s' => P (.again (.builtin id { xs with pos := self :: xs.pos })) s') E s) : wpAny B R (callAny (.ref u) xs) P E s := by
  unfold callAny
  refine wpAny_bind (wpAny_load hu ?_)
  refine wpAny_bind (m := checkBoundCall id { xs with pos := self :: xs.pos }) ?_
  exact wpAny_mono k (fun _ _ z => wpAny_pure z) fun _ _ z => z
theorem call_mwV {u e C N t0 : Addr} {nm q : Str} {bs bm : List Value} {hdct : Bool} {sn : List Str} {sub : List Value} {ab : Bool} {col : Option Bool} {dd : Option Addr} {k0 k1 k2 k3 k5 : Option Value} {rest : List Value} {Q : Value → Shared → Prop}
    (hC : h.get? C = some (excClassObj nm q C N bs bm hdct sn sub ab col dd k0 k1 k2 k3 k5 "ValueError.__new__")) (he : h.get? e = some (excObj C t0 none .none)) (hu : h.get? u = some (kxs_mw "ValueError.__init__" e)) (hrest : rest.length ≤ sizeLine)
    (hq : ∀ h' t1, (∀ b o, b ≠ e → h.get? b = some o → h'.get? b = some o) → h'.get? e = some (excObj C t1 none .none) → Q .none ⟨h', g, d, t, os⟩) :
    wpAny (model prog w) A (call (.ref u) rest) Q E ⟨h, g, d, t, os⟩ :=
  have facts := PySem.F.excBase_ValueError
  wpAny_call (codeAny_of_tree (wrapped_goes hu (check_bound_init facts.toExcCallFacts hC he rfl ⟨plainId_quiet facts.init.plain _, codeAny_builtin facts.initEntry
    (exc_init_tree (cls := .ref C) (t0 := t0) (dv := none) (c2 := .none) (c3 := .none) (b4 := .bool false) he hrest fun h' k e' _ => hq h' _ k e')⟩)))
end
section
open PySem.W PySem.Calls
variable {X : Cx} {pins : List (Addr × Obj)} {σ : L2.St} {H : Hp} {s : Shared} {qual : Str} {ar : Arguments} {body : List Stmt} {sc : Scope} {fd : FuncData} {cda cc C f a : Addr} {e : Expr} {es : List Expr} {ta : TA} {p0 p1 p2 p3 p4 : Pos} {q : Hp → Prop}
theorem sup_stmt {pl : Sem Bool} (T : XcTxt X.prog X.K X.mg C f qual ar body sc fd cda cc) (hsc : X.env.scope = sc) (hfu : X.env.func = some f) (hco : X.env.code = .ref cda) (hcl : X.env.cells.lookup ("__class__" : Str) = some cc)
    (hks : sc.names.lookup ("super" : Str) = some .globalImplicit) (hkc : sc.names.lookup ("__class__" : Str) = some .free) (hka : sc.names.lookup ("self" : Str) = some .local) (ar0 : Arg) (hp : (ar.posonlyargs ++ ar.args).head? = some ar0) (hp0 : ar0.arg = ("self" : Str)) (hN : X.N[0]? = some ("self" : Str))
    (I : Inv X pins σ H s) (h0 : σ[0]? = some (some (.ref a))) (hH : H a = some (exo a C none)) (ha : PA X (e :: es) ta) (hq : ta σ H fun vs H1 => vs.length ≤ 1000 ∧ H1 a = some (exo a C none) ∧ q H1)
    (hev : eval (.Call (.Attribute (.Call (.Name "super" p0) [] [] p1) "__init__" p2) (e :: es) [] p3) X.env = (do
      let ov ← attributeBase (.Call (.Name "super" p0) [] [] p1) "__init__" X.env (eval (.Call (.Name "super" p0) [] [] p1) X.env)
      standAt p2.atName
      let (f, first) ← holding [ov] (getMethod ov "__init__" pl)
      callWith p3 f first (backTo p3 (starEach (e :: es) X.env)) []) := by rfl)
    (hse : starEach (e :: es) X.env = (false, eval e X.env) :: starEach es X.env := by rfl) (hpl : (backTo p3 (starEach es X.env)).any (·.1) = false := by rfl)
    (hsw : swapsWith (.Call (.Attribute (.Call (.Name "super" p0) [] [] p1) "__init__" p2) (e :: es) [] p3) none p4.line X.env = pure false := by rfl) :
    PySem.wpAt (model X.prog X.w) X.A (.func body X.env) (exec (.Expr (.Call (.Attribute (.Call (.Name "super" p0) [] [] p1) "__init__" p2) (e :: es) [] p3) p4) X.env)
      (fun fl s' => fl = .next ∧ ∃ H1, Inv X pins σ H1 s' ∧ q H1) X.xe s := by
  obtain ⟨oc, od, kV, doc, pm, an, ct, osl, rfl, lk⟩ := T.lk
  obtain ⟨ccl, cdd, vs, ccs, fl, tf, lcda, hvs, hfl⟩ := T.file
  obtain ⟨cl, cld, csl, hcc⟩ := T.cell
  obtain ⟨nm, qn, N, bs, bm, sn, sub, ab, col, dd, k0, k1, k2, k3, k5, hC, hbm⟩ := T.oex.cls
  have hkX : ∀ x, X.env.kindOf x = sc.names.lookup x := fun x => by rw [← hsc] <;> rfl
  have KX := I.kIn
  have hk : X.env.scope.kind = .function := I.ok.kind
  refine PySem.ks_wpAt_Expr_any (PySem.ks_wpAt_MethodCall (pl := pl) ?_ hev) I.quiet hsw
  obtain ⟨hD1, hD2⟩ : s.heap.get? C = some (excClassObj nm qn C N bs bm true sn sub ab col dd k0 k1 k2 k3 k5 "ValueError.__new__") ∧ True := ⟨KX _ _ hC, trivial⟩
  refine PySem.ks_wpAt_super_base (env := X.env) ((hkX _).trans hks) ((hkX _).trans hkc) rfl hfu (KX _ _ lk) rfl hp hco (KX _ _ lcda) rfl hvs hfl T.top ?_
  obtain ⟨mb, b1, b2⟩ := I.mod.blt
  refine PySem.W.ks_loadName_global hk ((hkX _).trans hks) (Calls.loadGlobal_builtin (by rw [I.ok.glob]; exact I.mod.glob.keeps I.bk) T.noS (by rw [I.ok.blt]; exact b1.keeps I.bk) ((b2 _ (by decide +kernel)).trans PyProof.Rows.Boot.«super») ⟨rfl, ?_⟩)
  refine wpAny_loadName_free hk ((hkX _).trans hkc) hcl ⟨_, KX _ _ hcc, rfl⟩ ?_
  obtain ⟨m, hns, look⟩ := I.loc
  obtain ⟨u, ru, lo⟩ := look 0 "self" (.ref a) hN h0 (.inl (by rw [hsc]; exact hka))
  obtain rfl : u = Value.ref a := ru
  have hm : m "self" = some (.ref a) := by
    rcases lo with ⟨_, e⟩ | ⟨z, _⟩
    · exact e
    · rw [hkX, hka] at z
      rcases z with z | z <;> cases z
  rw [hp0]
  refine wpAny_loadName_local hk ((hkX _).trans hka) hns hm ?_
  refine PySem.ks_wpAny_isType_cls hD1 rfl ⟨rfl, ?_⟩
  obtain ⟨t1, hx⟩ := exo_at I.hok hH
  obtain ⟨hh, g, d, t, os⟩ := s
  refine PySem.ks_wpAny_call_super hD1 rfl hx rfl (fun c z => by cases z) (looks_mroIn KX T.sC) (fun h1 e1 kp1 => ?_)
  have KX1 : X.K.In h1 := KX.keeps kp1
  have hx1 := kp1 _ _ hx
  have II : InstAt h1 a ({ cls := .ref C, dict := none, data := .fields #[.ref t1, .none, .none, .none, .bool false, .none] } : Obj) C none := ⟨hx1, rfl, rfl, trivial⟩
  have hsup := T.sup
  unfold ks_superIn at hsup
  cases hc : clsIn X.K C with
  | none => rw [hc] at hsup; cases hsup
  | some cd =>
    rw [hc] at hsup
    have hne : a ≠ C := fun z => by
      have e := KX _ _ hC
      rw [← z, hx] at e
      cases e
    refine kxs_getMethod kxs_ValueError e1 (looks_opaque KX1 T.tp) (l₀ := cd.mro) (fun A Q E s k q => wpAny_bind ((looks_clsIn KX1 hc) A _ E s k (wpAny_pure q))) rfl KX1 hsup (II.type.andThen (looks_subIn KX1 T.sVE)) hne (by decide) ?_
    have kp2 : ∀ b o, hh.get? b = some o → (h1.push (kxs_mw "ValueError.__init__" a)).get? b = some o := fun b o e => Heap.get?_push_of_some _ (kp1 _ _ e)
    have hu : (h1.push (kxs_mw "ValueError.__init__" a)).get? h1.objs.size = some (kxs_mw "ValueError.__init__" a) := Heap.get?_push_size h1 rfl
    have hsz : hh.objs.size ≤ h1.objs.size := Nat.le_of_lt (Heap.lt_size e1)
    have J0 : Inv X pins σ H ⟨h1.push (kxs_mw "ValueError.__init__" a), g, d, t + 1, os⟩ := I.kept (t' := t + 1) kp2
    have J : Inv X ((h1.objs.size, kxs_mw "ValueError.__init__" a) :: pins) σ H ⟨h1.push (kxs_mw "ValueError.__init__" a), g, d, t + 1, os⟩ := J0.pins_of fun p hp => by
      rcases List.mem_cons.mp hp with rfl | hp
      · exact ⟨hu, I.hok.fresh hsz, fun z => by
          have q := I.lt
          have z' : h1.objs.size = X.env.locals := z
          rw [← z'] at q
          exact absurd (Nat.lt_of_lt_of_le q hsz) (Nat.lt_irrefl _), I.nofs hsz, fun v z => by cases z⟩
      · exact J0.pin p (List.mem_append_right _ hp)
    show wpAny _ _ (callWith p3 (.ref h1.objs.size) [] (backTo p3 (starEach (e :: es) X.env)) []) _ _ _
    rw [hse]
    refine kxs_callWith (i := "ValueError.__init__") (x := a) (by show (false || (backTo p3 (starEach es X.env)).any (·.1)) = false; rw [hpl]; rfl) (evalArgs_plain ?_)
    have hrun := ha.run p3 ((h1.objs.size, kxs_mw "ValueError.__init__" a) :: pins) _ σ H _ J hq
    rw [hse] at hrun
    refine thn hrun fun us s2 ⟨vs2, H2, J2, r2, hl2, hH2, q2⟩ => ?_
    have hu2 := (J2.pin (h1.objs.size, kxs_mw "ValueError.__init__" a) (List.mem_append_right _ List.mem_cons_self)).1
    refine ⟨hu2, ?_⟩
    obtain ⟨t2, hx2⟩ := exo_at J2.hok hH2
    have J2' : Inv X pins σ H2 s2 := J2.pins_of fun p hp => J2.pin p (List.mem_append_right _ (List.mem_cons_of_mem _ hp))
    obtain ⟨h2, g2, d2, tk2, os2⟩ := s2
    have hus : us.length ≤ sizeLine := by
      rw [← Paired.length r2, sizeLine_eq]
      omega
    refine call_mwV (J2'.kIn _ _ hC) hx2 hu2 (by rw [List.nil_append]; exact hus) fun h3 t3 kp3 hx3 => ?_
    have J3 := J2'.write (t' := tk2) (x := a) (e := a) (o := exo a C none) (by rw [hH2]; exact True.intro) (.inl rfl) kp3 ⟨_, hx3⟩ (exo_ok hx3)
    have eu : upd H2 a (exo a C none) = H2 := by
      funext b
      by_cases hb : b = a
      · rw [hb, upd_same, hH2]
      · rw [upd_ne hb]
    rw [eu] at J3
    exact ⟨rfl, H2, J3, q2⟩
end

/-! ### the three shapes of such an __init__ -/
/-- what a message can show -/
def MsgOk : V → Prop
  | .str y => y.length ≤ 100000
  | .int i => i.natAbs.log2 < 1920
  | _ => False
def spX0 (C : Addr) : Sp := fun vs H Q _ => ∃ a, vs = [.ref a] ∧ H a = some (exo a C none) ∧ Q .non H
def spX1 (C : Addr) (g : Str) : Sp := fun vs H Q _ => ∃ a y, vs = [.ref a, y] ∧ MsgOk y ∧ H a = some (exo a C none) ∧ ∀ dx, H dx = none → dx ≠ a → Q .non (upd (upd H dx (exd dx [(g, y)])) a (exo a C (some dx)))
def spX2 (C : Addr) (g g2 : Str) : Sp := fun vs H Q _ => ∃ a y z, vs = [.ref a, y, z] ∧ MsgOk y ∧ H a = some (exo a C none) ∧ ∀ dx, H dx = none → dx ≠ a → Q .non (upd (upd (upd H dx (exd dx [(g, y)])) a (exo a C (some dx))) dx (exd dx [(g2, z), (g, y)]))
theorem msg_text {i : Int} (h : i.natAbs.log2 < 1920) : (Str.ofString (toString i)).length ≤ 1921 := by
  have e := PySem.int_text_length_le (k := 1920) (by decide) h
  rw [PySem.ofString_length]; omega
abbrev supS (p0 p1 p2 p3 p4 : Pos) (e : Expr) : Stmt := .Expr (.Call (.Attribute (.Call (.Name "super" p0) [] [] p1) "__init__" p2) [e] [] p3) p4
section
variable {P : Program} {w : World} {K : PySem.W.Frag} {mg : Str → Option Value} {base : Heap} {qual : Str} {ar : Arguments} {sc : Scope} {fd : FuncData} {cda cc C f : Addr} {p0 p1 p2 p3 p4 p5 p6 p7 q0 q1 q2 q3 q4 q5 q6 q7 : Pos} {m m2 : Str} {j j2 : Nat} {g g2 : Str} {ar0 : Arg}
/-- how that call is told: h is «fun _ => rfl» at written places -/
def SupEv (p0 p1 p2 p3 p4 : Pos) (es : List Expr) (pl : Env → Sem Bool) : Prop := ∀ env : Env, eval (.Call (.Attribute (.Call (.Name "super" p0) [] [] p1) "__init__" p2) es [] p3) env = (do
      let ov ← attributeBase (.Call (.Name "super" p0) [] [] p1) "__init__" env (eval (.Call (.Name "super" p0) [] [] p1) env)
      standAt p2.atName
      let (f, first) ← holding [ov] (getMethod ov "__init__" (pl env))
      callWith p3 f first (backTo p3 (starEach es env)) []) ∧ swapsWith (.Call (.Attribute (.Call (.Name "super" p0) [] [] p1) "__init__" p2) es [] p3) none p4.line env = pure false
/-- nothing but super().__init__('..') -/
theorem init0 {pl : Env → Sem Bool} (T : XcTxt P K mg C f qual ar [supS p0 p1 p2 p3 p4 (.Constant (.str m) j p5)] sc fd cda cc) (S : NdefX.NScope ["self", "__class__"] ["self"] ["__class__"] sc) (hks : sc.names.lookup ("super" : Str) = some .globalImplicit) (hp : (ar.posonlyargs ++ ar.args).head? = some ar0) (hp0 : ar0.arg = ("self" : Str))
    (hev : SupEv p0 p1 p2 p3 p4 [.Constant (.str m) j p5] pl) : FnOk P w K mg base (L2.CX P w) 1 f fd ["self"] (spX0 C) := by
  refine fn_sup (N := ["self", "__class__"]) T S (fun vs H Q E h => ?_) fun A outer s s1 H vs Q E hsp hr I => ?_
  · obtain ⟨a, rfl, _⟩ := h; rfl
  · obtain ⟨a, rfl, ha, q⟩ := hsp
    refine PySem.ks_wpAt_execs_cons (PySem.ks_wpAt_mono (sup_stmt (X := scx (L2.CX P w) P w K mg base ["self", "__class__"] qual ar _ sc cda cc f A outer s H E) (q := fun H1 => H1 = H) T rfl rfl rfl rfl hks (S.frk _ (by simp)) (S.par _ (by simp)) ar0 hp hp0 rfl I rfl ha (pa_cons pe_str pa_nil) ?_ (hev _).1 rfl rfl (hev _).2) (fun fl s' h => ?_) fun _ _ z => z)
    · exact ⟨by show 1 ≤ 1000; decide, ha, rfl⟩
    · obtain ⟨rfl, H1, J, rfl⟩ := h
      exact PySem.wpAt_of_wpAny (pss_nil.run [] s' _ H1 { nx := fun _ H' => Q .non H', rt := Q } J q)
abbrev msgE (m : Str) (j : Nat) (p5 : Pos) (x : Str) (q5 p6 : Pos) (m2 : Str) (j2 : Nat) (p7 q6 : Pos) : Expr := .JoinedStr [.Constant (.str m) j p5, .FormattedValue (.Name x q5) (-1) none p6, .Constant (.str m2) j2 p7] q6
theorem msg_ta {X : Cx} {i : Nat} {x : Str} {σ : L2.St} {H : Hp} {y : V} {q : List V → Hp → Prop} (hx : PE X (.Name x q5) (tVar i)) (hs : σ[i]? = some (some y)) (hy : MsgOk y) (hm : m.length ≤ 1000) (hm2 : m2.length ≤ 1000) (h : ∀ z, q [z] H) :
    ∃ ta, PA X [msgE m j p5 x q5 p6 m2 j2 p7 q6] ta ∧ ta σ H q := by
  refine ⟨_, pa_cons (pe_joined (.cons pe_str (.cons (pe_fmt hx) (.cons pe_str .nil)))) pa_nil, ?_⟩
  have sz := sizeLine_eq
  have e0 : Str.empty.length = 0 := rfl
  refine ⟨m, rfl, by rw [PySem.Str.length_append]; omega, ?_⟩
  refine ⟨y, hs, ?_⟩
  cases y with
  | str z =>
    have hy' : z.length ≤ 100000 := hy
    refine .inl ⟨z, rfl, by omega, z, rfl, by rw [PySem.Str.length_append, PySem.Str.length_append]; omega, m2, rfl, by rw [PySem.Str.length_append, PySem.Str.length_append, PySem.Str.length_append]; omega, h _⟩
  | int i =>
    have hy' : i.natAbs.log2 < 1920 := hy
    have e1 := msg_text hy'
    refine .inr ⟨i, rfl, hy', _, rfl, by rw [PySem.Str.length_append, PySem.Str.length_append]; omega, m2, rfl, by rw [PySem.Str.length_append, PySem.Str.length_append, PySem.Str.length_append]; omega, h _⟩
  | _ => exact absurd hy id
/-- .. and self.g = x -/
theorem init1 {pl : Env → Sem Bool} {x : Str} (T : XcTxt P K mg C f qual ar [supS p0 p1 p2 p3 p4 (msgE m j p5 x q5 p6 m2 j2 p7 q6), .Assign [.Attribute (.Name "self" q0) g q1] (.Name x q2) q3] sc fd cda cc) (S : NdefX.NScope ["self", x, "__class__"] ["self", x] ["__class__"] sc) (hks : sc.names.lookup ("super" : Str) = some .globalImplicit)
    (hp : (ar.posonlyargs ++ ar.args).head? = some ar0) (hp0 : ar0.arg = ("self" : Str)) (hev : SupEv p0 p1 p2 p3 p4 [msgE m j p5 x q5 p6 m2 j2 p7 q6] pl) (hg : PySem.W.findIn K (.ref C) g = some none) (hm : m.length ≤ 1000) (hm2 : m2.length ≤ 1000) (hdx : (x == ("__debug__" : Str)) = false) (hcx : (x == ("__classdict__" : Str)) = false) :
    FnOk P w K mg base (L2.CX P w) 1 f fd ["self", x] (spX1 C g) := by
  refine fn_sup (N := ["self", x, "__class__"]) T S (fun vs H Q E h => ?_) fun A outer s s1 H vs Q E hsp hr I => ?_
  · obtain ⟨a, y, rfl, _⟩ := h; rfl
  · obtain ⟨a, y, rfl, hy, ha, q⟩ := hsp
    have hx : ∀ p, PE (scx (L2.CX P w) P w K mg base ["self", x, "__class__"] qual ar [supS p0 p1 p2 p3 p4 (msgE m j p5 x q5 p6 m2 j2 p7 q6), .Assign [.Attribute (.Name "self" q0) g q1] (.Name x q2) q3] sc cda cc f A outer s H E) (.Name x p) (tVar 1) := fun p => pe_var rfl (.inl (S.par x (by simp))) hdx hcx
    have hself : ∀ p, PE (scx (L2.CX P w) P w K mg base ["self", x, "__class__"] qual ar [supS p0 p1 p2 p3 p4 (msgE m j p5 x q5 p6 m2 j2 p7 q6), .Assign [.Attribute (.Name "self" q0) g q1] (.Name x q2) q3] sc cda cc f A outer s H E) (.Name "self" p) (tVar 0) := fun p => pe_var rfl (.inl (S.par _ (by simp))) (by decide) (by decide)
    obtain ⟨ta, hta, hq⟩ := msg_ta (q := fun vs H1 => vs.length ≤ 1000 ∧ H1 a = some (exo a C none) ∧ H1 = H) (m := m) (m2 := m2) (j := j) (j2 := j2) (p5 := p5) (p6 := p6) (p7 := p7) (q6 := q6) (hx q5) (σ := NdefX.startF ["self", x, "__class__"] [.ref a, y] [none]) (H := H) rfl hy hm hm2 fun z => ⟨by show 1 ≤ 1000; decide, ha, rfl⟩
    refine PySem.ks_wpAt_execs_cons (PySem.ks_wpAt_mono (sup_stmt (X := scx (L2.CX P w) P w K mg base ["self", x, "__class__"] qual ar _ sc cda cc f A outer s H E) (q := fun H1 => H1 = H) T rfl rfl rfl rfl hks (S.frk _ (by simp)) (S.par _ (by simp)) ar0 hp hp0 rfl I rfl ha hta hq (hev _).1 rfl rfl (hev _).2) (fun fl s' h => ?_) fun _ _ z => z)
    obtain ⟨rfl, H1, J, rfl⟩ := h
    refine PySem.wpAt_of_wpAny ((pss_one (ps_ost (f := g) (hself q0) (hx q2))).run [] s' _ H1 { nx := fun _ H' => Q .non H', rt := Q } J ?_)
    exact ⟨y, rfl, .ref a, rfl, a, C, rfl, T.oex, hg, .inl ⟨ha, q⟩⟩
end
end DL

set_option Elab.async false
set_option linter.all false
set_option maxRecDepth 100000
set_option maxHeartbeats 2000000
/-! DlS: own exceptions made and raised, over data. -/
namespace DL
open PySem PySem.Spec PyProof.Rows L2

section
variable {P : Program} {w : World} {K : PySem.W.Frag} {mg : Str → Option Value} {base : Heap} {qual : Str} {ar : Arguments} {sc : Scope} {fd : FuncData} {cda cc C f : Addr} {p0 p1 p2 p3 p4 p5 p6 p7 q0 q1 q2 q3 q4 q5 q6 q7 r0 r1 r2 r3 : Pos} {m m2 : Str} {j j2 : Nat} {g g2 : Str} {ar0 : Arg}
/-- .. and self.g = x, self.g2 = x2 -/
theorem init2 {pl : Env → Sem Bool} {x x2 : Str} (T : XcTxt P K mg C f qual ar [supS p0 p1 p2 p3 p4 (msgE m j p5 x q5 p6 m2 j2 p7 q6), .Assign [.Attribute (.Name "self" q0) g q1] (.Name x q2) q3, .Assign [.Attribute (.Name "self" r0) g2 r1] (.Name x2 r2) r3] sc fd cda cc) (S : NdefX.NScope ["self", x, x2, "__class__"] ["self", x, x2] ["__class__"] sc) (hks : sc.names.lookup ("super" : Str) = some .globalImplicit)
    (hp : (ar.posonlyargs ++ ar.args).head? = some ar0) (hp0 : ar0.arg = ("self" : Str)) (hev : SupEv p0 p1 p2 p3 p4 [msgE m j p5 x q5 p6 m2 j2 p7 q6] pl) (hg : PySem.W.findIn K (.ref C) g = some none) (hg2 : PySem.W.findIn K (.ref C) g2 = some none) (hm : m.length ≤ 1000) (hm2 : m2.length ≤ 1000) (hdx : (x == ("__debug__" : Str)) = false) (hcx : (x == ("__classdict__" : Str)) = false) (hdx2 : (x2 == ("__debug__" : Str)) = false) (hcx2 : (x2 == ("__classdict__" : Str)) = false) :
    FnOk P w K mg base (L2.CX P w) 1 f fd ["self", x, x2] (spX2 C g g2) := by
  refine fn_sup (N := ["self", x, x2, "__class__"]) T S (fun vs H Q E h => ?_) fun A outer s s1 H vs Q E hsp hr I => ?_
  · obtain ⟨a, y, z, rfl, _⟩ := h; rfl
  · obtain ⟨a, y, z, rfl, hy, ha, q⟩ := hsp
    have hx : ∀ p, PE (scx (L2.CX P w) P w K mg base ["self", x, x2, "__class__"] qual ar [supS p0 p1 p2 p3 p4 (msgE m j p5 x q5 p6 m2 j2 p7 q6), .Assign [.Attribute (.Name "self" q0) g q1] (.Name x q2) q3, .Assign [.Attribute (.Name "self" r0) g2 r1] (.Name x2 r2) r3] sc cda cc f A outer s H E) (.Name x p) (tVar 1) := fun p => pe_var rfl (.inl (S.par x (by simp))) hdx hcx
    have hx2 : ∀ p, PE (scx (L2.CX P w) P w K mg base ["self", x, x2, "__class__"] qual ar [supS p0 p1 p2 p3 p4 (msgE m j p5 x q5 p6 m2 j2 p7 q6), .Assign [.Attribute (.Name "self" q0) g q1] (.Name x q2) q3, .Assign [.Attribute (.Name "self" r0) g2 r1] (.Name x2 r2) r3] sc cda cc f A outer s H E) (.Name x2 p) (tVar 2) := fun p => pe_var rfl (.inl (S.par x2 (by simp))) hdx2 hcx2
    have hself : ∀ p, PE (scx (L2.CX P w) P w K mg base ["self", x, x2, "__class__"] qual ar [supS p0 p1 p2 p3 p4 (msgE m j p5 x q5 p6 m2 j2 p7 q6), .Assign [.Attribute (.Name "self" q0) g q1] (.Name x q2) q3, .Assign [.Attribute (.Name "self" r0) g2 r1] (.Name x2 r2) r3] sc cda cc f A outer s H E) (.Name "self" p) (tVar 0) := fun p => pe_var rfl (.inl (S.par _ (by simp))) (by decide) (by decide)
    obtain ⟨ta, hta, hq⟩ := msg_ta (q := fun vs H1 => vs.length ≤ 1000 ∧ H1 a = some (exo a C none) ∧ H1 = H) (m := m) (m2 := m2) (j := j) (j2 := j2) (p5 := p5) (p6 := p6) (p7 := p7) (q6 := q6) (hx q5) (σ := NdefX.startF ["self", x, x2, "__class__"] [.ref a, y, z] [none]) (H := H) rfl hy hm hm2 fun z => ⟨by show 1 ≤ 1000; decide, ha, rfl⟩
    refine PySem.ks_wpAt_execs_cons (PySem.ks_wpAt_mono (sup_stmt (X := scx (L2.CX P w) P w K mg base ["self", x, x2, "__class__"] qual ar _ sc cda cc f A outer s H E) (q := fun H1 => H1 = H) T rfl rfl rfl rfl hks (S.frk _ (by simp)) (S.par _ (by simp)) ar0 hp hp0 rfl I rfl ha hta hq (hev _).1 rfl rfl (hev _).2) (fun fl s' h => ?_) fun _ _ z => z)
    obtain ⟨rfl, H1, J, rfl⟩ := h
    refine PySem.wpAt_of_wpAny ((pss_cons (ps_ost (f := g) (hself q0) (hx q2)) (pss_one (ps_ost (f := g2) (hself r0) (hx2 r2)))).run [] s' _ H1 { nx := fun _ H' => Q .non H', rt := Q } J ?_)
    refine ⟨y, rfl, .ref a, rfl, a, C, rfl, T.oex, hg, .inl ⟨ha, fun dx n ne => ?_⟩⟩
    refine ⟨z, rfl, .ref a, rfl, a, C, rfl, T.oex, hg2, .inr ⟨dx, [(g, y)], upd_same, by rw [upd_ne ne, upd_same], by show 1 ≤ 900; decide, q dx n ne⟩⟩
end

/-! ### one object less -/
section
variable {fs ex : List Addr} {H H' : Hp} {h h' G : Heap} {a : Addr} {o : HO} {P : Program} {w : World}
/-- an object that the first heap does not know may be forgotten in the second -/
theorem un_cut (u : Un fs ex H H' h h') (fr : h.objs.size ≤ a) (hn : H a = none) (same : ∀ b, b ≠ a → G.get? b = h'.get? b) : Un fs ex H (del H' a) h G := by
  have old : ∀ {b : Addr} {q : Obj}, h.get? b = some q → b ≠ a := fun e z => absurd (Heap.lt_size e) (by rw [z]; exact Nat.not_lt.mpr fr)
  have told : ∀ {b : Addr} {q : HO}, H b = some q → b ≠ a := fun e z => by rw [z, hn] at e; cases e
  refine ⟨fun b q e n f x => ?_, fun b q e n f x => ?_, fun b q e n x => ?_, fun b q e x => ?_, fun b xs e => ?_, fun b q v e => ?_, fun b ps e => ?_⟩
  · rw [same b (old e), u.keep b q e n f x]
  · rw [same b (old e)]; exact u.slot b q e n f x
  · rw [del_ne (old e), u.free b q e n x]
  · rw [same b (old e)]; exact u.there b q e x
  · rw [del_ne (told e), u.tups b xs e]
  · rw [del_ne (told e), u.frzs b q v e]
  · rw [del_ne (told e)]; exact u.tbls b ps e
/-- .. if it is neither an instance's dict nor a tuple -/
theorem hok_cut (ok : HOk P w H h) (at_ : H a = some o) (no : ∀ x, o ≠ .own x) (nt : ∀ xs, o ≠ .tup xs) (same : ∀ b, b ≠ a → G.get? b = h.get? b) : HOk P w (del H a) G := by
  have other : ∀ {b : Addr} {q : HO}, H b = some q → q ≠ o → b ≠ a := fun e ne z => ne (by rw [z, at_] at e; exact (Option.some.inj e).symm)
  intro b u e
  have ba : b ≠ a := fun z => by rw [z, del_same] at e; cases e
  rw [del_ne ba] at e
  refine (ok b u e).stay (fun c v m q => ?_) (fun c m => ?_) fun c xs m => ?_
  · have ca : c ≠ a := by
      rcases m with m | m
      · exact m ▸ ba
      · exact other m (Ne.symm (no _))
    rw [same c ca]; exact q
  · rw [del_ne (other m (Ne.symm (no _)))]; exact m
  · rw [del_ne (other m (Ne.symm (nt _)))]; exact m
end

/-! ### an exception without fields: raise C() -/
def tMk0 (C : Addr) (sp : Sp) : L2.St → Hp → XK → Prop := fun _ H Q => ∀ a, H a = none → sp [.ref a] (upd H a (exo a C none)) (fun v H2 => v = .non ∧ H2 a = some (exo a C none) ∧ Q (.ref C) none (del H2 a)) fun _ _ _ => False
section
variable {X : Cx} {x : Str} {C fI : Addr} {k : Nat} {fd : FuncData} {ps : List Str} {sp : Sp} {p pos : Pos}
theorem made_bare {pins : List (Addr × Obj)} {σ : L2.St} {H : Hp} {s s2 : Shared} {hp : Heap} {a : Addr} {v : Value} {Q : XK} (R : Raises X (.ref C)) (I : Inv X pins σ H s) (fr : s.heap.objs.size ≤ a) (kp : ∀ b o, s.heap.get? b = some o → hp.get? b = some o)
    (c : CE X.stack X.prog X.w (upd H a (exo a C none)) { s with heap := hp } (fun v H2 => v = .non ∧ H2 a = some (exo a C none) ∧ Q (.ref C) none (del H2 a)) v s2) : v = .none ∧ MkP X pins σ Q (.ref a) s2 := by
  obtain ⟨u, H2, os, bare, un, ok, rv, eu, ea, q⟩ := c
  subst eu
  refine ⟨rv, ?_⟩
  have hn := I.hok.fresh fr
  obtain ⟨t0, eo⟩ := exo_at ok ea
  obtain ⟨G, g1, g2⟩ := restrict s2.heap fun b => !decide (b = a)
  have same : ∀ b, b ≠ a → G.get? b = s2.heap.get? b := fun b z => g1 b (by simp [z])
  have gone : G.get? a = none := g2 a (by simp)
  have U := un_cut ((Un.laid kp fr hn).trans un) fr hn same
  have J : Inv X pins σ (del H2 a) { s2 with heap := G } := I.call' (ch := []) os U (hok_cut ok ea (fun _ => exo_own) (fun _ => exo_tup) same) bare fun _ z => nomatch z
  refine ⟨a, _, _, { s2 with heap := G }, del H2 a, .ref C, none, rfl, J, fun b o e => ?_, gone, eo, ⟨rfl, rfl⟩, rfl, rfl, del_same, rfl, bare, R, q⟩
  have ba : b ≠ a := fun z => by rw [z, gone] at e; cases e
  rw [← same b ba]; exact e
theorem pmk_bare (T : OexC X.K C) (iC : PySem.W.findIn X.K (.ref C) "__init__" = some (some (.ref fI))) (tI : PySem.W.typeIn X.K (.ref fI) = some (.type "function")) (F1 : FnOk X.prog X.w X.K X.mg X.base (L2.CX X.prog X.w) k fI fd ps sp) (hr : Room (k + 1) X.A) (hb : Binds X.K fd ps [])
    (hg : Gl X x) (hm : X.mg x = some (.ref C)) (hdb : (x == ("__debug__" : Str)) = false := by decide) : PMk X (.Call (.Name x p) [] [] pos) (tMk0 C sp) := by
  intro pins s σ H Q I want
  obtain ⟨nm, q, N, bs, bm, sn, sub, ab, col, dd, k0, k1, k2, k3, k5, hC, mro⟩ := T.cls
  refine wpAny_Call_Name_kw (ld_glob I hg hm (PySem.W.callWith_K0 I.kIn T.kC ?_) hdb)
  have fr : s.heap.objs.size ≤ s.heap.objs.size + 1 := Nat.le_succ _
  have hn := I.hok.fresh fr
  have sp0 := want _ hn
  have len := F1.len _ _ _ _ sp0
  -- the object as it stands when its __init__ is called
  let h2 : Heap := (s.heap.push (PySem.W.kdv_tup [])).push (PySem.HandSPX.excO C s.heap.objs.size)
  have kp : ∀ b o, s.heap.get? b = some o → h2.get? b = some o := fun b o e => Heap.get?_push_of_some _ (Heap.get?_push_of_some _ e)
  have ob : h2.get? (s.heap.objs.size + 1) = some (PySem.HandSPX.excO C s.heap.objs.size) := by show Heap.get? _ _ = _; heap_get
  have J : Inv X pins σ (upd H (s.heap.objs.size + 1) (exo (s.heap.objs.size + 1) C none)) { s with heap := h2 } := I.laid (t' := s.toks) kp fr (exo_ok ob)
  have binds := hb { s with heap := h2 } [.ref (s.heap.objs.size + 1)] J.kIn len
  have inner := F1.run _ X.stack _ _ _ _ _ _ _ (hr.make C [] []) (J.env0.make C [] []) binds (.cons (show RelV (V.ref (s.heap.objs.size + 1)) (Value.ref (s.heap.objs.size + 1)) from rfl) .nil) sp0
  refine wpAny_call (PySem.HandSPX.call_own F.excBase_ValueError (fun Y => PySem.HandSPX.refsVE_contains Y bm mro) (I.kIn _ _ hC) (PySem.W.looks_findIn I.kIn iC) (fun self => PySem.W.bind_fn I.kIn self tI) (Nat.zero_le _) (codeAny_mono inner fun r s2 back => ?_))
  match r, back with
  | .ok (.ret u), back => exact made_bare (raises_own T.exC T.tyC) I fr kp back
  | .error er, back => exact passN rfl rfl pins σ _ _ er s2 J back
end

/-! ### own exceptions as the surroundings give them -/
def spXn (C : Addr) : List Str → Sp
  | [] => spX0 C
  | [g] => spX1 C g
  | [g, g2] => spX2 C g g2
  | _ => fun _ _ _ _ => False
structure CalX (P : Program) (w : World) (K : PySem.W.Frag) (mg : Str → Option Value) (base : Heap) (x : Str) (c : Addr) (ps gs : List Str) : Prop where
  ex : ∃ f fd, mg x = some (.ref c) ∧ OexC K c ∧ PySem.W.findIn K (.ref c) "__init__" = some (some (.ref f)) ∧ PySem.W.typeIn K (.ref f) = some (.type "function") ∧ Binds K fd ps [] ∧ FnOk P w K mg base (L2.CX P w) 1 f fd ps (spXn c gs)
section
variable {X : Cx} {B : Bs} {W : DXK} {c fI : Addr} {fd : FuncData} {ps : List Str} {sp : Sp} {x g g2 : Str} {p pos pos2 : Pos} {e : Expr} {es : List Expr} {ta : TA} {tas : DTA}
theorem fin_heap {H1 : Hp} {a dx : Addr} {o o1 o2 u : HO} (hn : H1 a = none) : upd (del (upd (upd (upd H1 a o) dx o1) a o2) a) dx u = upd H1 dx u := by
  funext b
  by_cases hb : b = dx
  · rw [hb, upd_same, upd_same]
  · rw [upd_ne hb, upd_ne hb]
    by_cases ha : b = a
    · rw [ha, del_same, hn]
    · rw [del_ne ha, upd_ne ha, upd_ne hb, upd_ne ha]
theorem fin_heap2 {H1 : Hp} {a dx : Addr} {o o1 o2 o3 u : HO} (hn : H1 a = none) : upd (del (upd (upd (upd (upd H1 a o) dx o1) a o2) dx o3) a) dx u = upd H1 dx u := by
  funext b
  by_cases hb : b = dx
  · rw [hb, upd_same, upd_same]
  · rw [upd_ne hb, upd_ne hb]
    by_cases ha : b = a
    · rw [ha, del_same, hn]
    · rw [del_ne ha, upd_ne hb, upd_ne ha, upd_ne hb, upd_ne ha]
def MsgD : D → Prop
  | .str y => y.length ≤ 100000
  | .int i => i.natAbs.log2 < 1920
  | _ => False
theorem MsgD.ok {H : Hp} {C : Cs} {Z : Addr → Prop} {P : Program} {w : World} {K : PySem.W.Frag} {d : D} {v : V} (h : MsgD d) (r : RD P w K H C Z d v) : MsgOk v := by
  cases r <;> first | exact h | exact h.elim
/-- raise C() -/
def dRaise1 (W : DXK) (c : Addr) (g : Str) (t : DTA) : DTS := fun _ E C => t E C fun ds C1 => ∃ y, ds = [y] ∧ MsgD y ∧ W (.ref c) [(g, y)] C1
theorem xd_end {H1 : Hp} {C1 : Cs} {d : Addr} {fs : List (Str × D)} {vfs : List (Str × V)} (s1 : Sy X.prog X.w X.K H1 C1 B.Z) (hd : H1 d = none) (r : RFs X.prog X.w X.K H1 C1 B.Z fs vfs) :
    Pers H1 C1 (upd H1 d (.xd vfs)) C1 ∧ Sy X.prog X.w X.K (upd H1 d (.xd vfs)) C1 B.Z ∧ XR X.prog X.w X.K (upd H1 d (.xd vfs)) C1 B.Z (some d) fs :=
  ⟨Pers.laid hd, s1.laid hd, vfs, upd_same, s1.free hd, s1.nz hd, r.pers (Pers.laid hd)⟩
theorem ds_raise1 (hc : X.calm = true) (lx : LinkX X B W) (G : CalX X.prog X.w X.K X.mg X.base x c ps [g]) (hr : Room 2 X.A) (hg : Gl X x) (ha : DA X B (e :: es) tas) (hdb : (x == ("__debug__" : Str)) = false := by decide)
    (he : starEach (e :: es) X.env = (false, eval e X.env) :: starEach es X.env := by rfl) (hpl : (backTo pos (starEach es X.env)).any (·.1) = false := by rfl) :
    DS X B (.Raise (some (.Call (.Name x p) (e :: es) [] pos)) none pos2) (dRaise1 W c g tas) := by
  obtain ⟨Wx, tk, lx⟩ := lx.ex
  obtain ⟨t0, q, h1⟩ := ha.ex
  obtain ⟨f, fd, hm, T, iC, tI, hb, F1⟩ := G.ex
  refine ⟨_, ps_raise hc tk (pmk_oex (CX := L2.CX X.prog X.w) (k := 1) (ds := []) (dvs := []) T iC tI F1 hr hb .nil (passN rfl rfl) hg hm q hdb he hpl), fun E C σ H D D0 s h k => ?_⟩
  refine h1 E C σ H _ _ s h fun ds C1 vs H1 p1 s1 r1 ⟨y, ed, hy, w1⟩ => ?_
  subst ed
  cases r1 with
  | cons ry rn =>
    cases rn
    rename_i u
    refine ⟨by show 1 ≤ 1000; decide, fun a hn => ⟨a, u, rfl, hy.ok ry, upd_same, fun dx hdx ne => ?_⟩⟩
    rw [upd_ne ne] at hdx
    refine ⟨rfl, dx, [(g, u)], upd_same, by rw [upd_ne ne, upd_same], hdx, ?_⟩
    rw [fin_heap hn]
    obtain ⟨z1, z2, z3⟩ := xd_end (X := X) (B := B) (fs := [(g, y)]) (vfs := [(g, u)]) s1 hdx (.cons ⟨rfl, ry⟩ .nil)
    exact lx (.ref c) (some dx) [(g, y)] C1 _ ((s.ps.trans p1).trans z1) z2 z3 w1
/-- raise C(e, e2) -/
def dRaise2 (W : DXK) (c : Addr) (g g2 : Str) (t : DTA) : DTS := fun _ E C => t E C fun ds C1 => ∃ y z, ds = [y, z] ∧ MsgD y ∧ W (.ref c) [(g2, z), (g, y)] C1
theorem ds_raise2 (hc : X.calm = true) (lx : LinkX X B W) (G : CalX X.prog X.w X.K X.mg X.base x c ps [g, g2]) (hr : Room 2 X.A) (hg : Gl X x) (ha : DA X B (e :: es) tas) (hdb : (x == ("__debug__" : Str)) = false := by decide)
    (he : starEach (e :: es) X.env = (false, eval e X.env) :: starEach es X.env := by rfl) (hpl : (backTo pos (starEach es X.env)).any (·.1) = false := by rfl) :
    DS X B (.Raise (some (.Call (.Name x p) (e :: es) [] pos)) none pos2) (dRaise2 W c g g2 tas) := by
  obtain ⟨Wx, tk, lx⟩ := lx.ex
  obtain ⟨t0, q, h1⟩ := ha.ex
  obtain ⟨f, fd, hm, T, iC, tI, hb, F1⟩ := G.ex
  refine ⟨_, ps_raise hc tk (pmk_oex (CX := L2.CX X.prog X.w) (k := 1) (ds := []) (dvs := []) T iC tI F1 hr hb .nil (passN rfl rfl) hg hm q hdb he hpl), fun E C σ H D D0 s h k => ?_⟩
  refine h1 E C σ H _ _ s h fun ds C1 vs H1 p1 s1 r1 ⟨y, z, ed, hy, w1⟩ => ?_
  subst ed
  cases r1 with
  | cons ry rn =>
    cases rn with
    | cons rz rn =>
      cases rn
      rename_i u v
      refine ⟨by show 2 ≤ 1000; decide, fun a hn => ⟨a, u, v, rfl, hy.ok ry, upd_same, fun dx hdx ne => ?_⟩⟩
      rw [upd_ne ne] at hdx
      refine ⟨rfl, dx, [(g2, v), (g, u)], by rw [upd_ne (Ne.symm ne), upd_same], upd_same, hdx, ?_⟩
      rw [fin_heap2 hn]
      obtain ⟨z1, z2, z3⟩ := xd_end (X := X) (B := B) (fs := [(g2, z), (g, y)]) (vfs := [(g2, v), (g, u)]) s1 hdx (.cons ⟨rfl, rz⟩ (.cons ⟨rfl, ry⟩ .nil))
      exact lx (.ref c) (some dx) [(g2, z), (g, y)] C1 _ ((s.ps.trans p1).trans z1) z2 z3 w1
def dRaise0 (W : DXK) (c : Addr) : DTS := fun _ _ C => W (.ref c) [] C
theorem ds_raise0 (hc : X.calm = true) (lx : LinkX X B W) (G : CalX X.prog X.w X.K X.mg X.base x c ps []) (hr : Room 2 X.A) (hg : Gl X x) (hdb : (x == ("__debug__" : Str)) = false := by decide) : DS X B (.Raise (some (.Call (.Name x p) [] [] pos)) none pos2) (dRaise0 W c) := by
  obtain ⟨Wx, tk, lx⟩ := lx.ex
  obtain ⟨f, fd, hm, T, iC, tI, hb, F1⟩ := G.ex
  refine ⟨_, ps_raise hc tk (pmk_bare (k := 1) T iC tI F1 hr hb hg hm hdb), fun E C σ H D D0 s w1 k a hn => ⟨a, rfl, upd_same, rfl, upd_same, ?_⟩⟩
  have e : del (upd H a (exo a c none)) a = H := by
    funext b
    by_cases z : b = a
    · rw [z, del_same, hn]
    · rw [del_ne z, upd_ne z]
  rw [e]
  exact lx (.ref c) none [] C H s.ps s.sy rfl w1
/-- a raise that is never reached -/
theorem ds_dead {e : Option Expr} : DS X B (.Raise e none pos2) (fun _ _ _ => False) := ⟨fun _ _ _ => False, ⟨fun _ _ _ _ _ _ h => h.elim⟩, fun _ _ _ _ _ _ _ h _ => h.elim⟩
end
end DL

set_option Elab.async false
set_option linter.all false
set_option maxRecDepth 100000
set_option maxHeartbeats 2000000
/-! DlT: try .. except C as e, over data; calls whose exceptions are caught; e.f; isinstance(e, C). -/
namespace DL
open PySem PySem.Spec PyProof.Rows L2

/-- exceptions with the wish W, which may look at the names, are taken around here -/
structure LinkE (X : Cx) (B : Bs) (W : En → DXK) : Prop where
  ex : ∃ Wx : WX, Takes X Wx ∧ ∀ E σ H C c d fs C' H', Ps X B E C σ H → Pers H C H' C' → Sy X.prog X.w X.K H' C' B.Z → XR X.prog X.w X.K H' C' B.Z d fs → W E c fs C' → Wx c d σ H'
theorem LinkX.toE {X : Cx} {B : Bs} {W : DXK} (l : LinkX X B W) : LinkE X B (fun _ => W) := by
  obtain ⟨Wx, tk, h⟩ := l.ex
  exact ⟨fun c d _ H => Wx c d H, tk, fun E σ H C c d fs C' H' s p sy r w => h c d fs C' H' (s.ps.trans p) sy r w⟩
section
variable {X : Cx} {B : Bs} {W : En → DXK} {k n : Nat} {f c : Addr} {fd : FuncData} {ps : List Str} {sp : DSp} {x m : Str} {p pos apos : Pos} {e o : Expr} {es : List Expr} {t ta : DT} {tas : DTA}
/-- f(..), its exceptions looked at with the names -/
def dCallE (n : Nat) (sp : DSp) (W : En → DXK) (t : DTA) : DT := fun E C Q => t E C fun ds C1 => ds.length = n ∧ sp ds C1 Q (W E)
theorem de_calE (lx : LinkE X B W) (G : Cal X.prog X.w X.K X.mg X.base x k ps sp) (hr : Room k X.A) (hg : Gl X x) (ha : DA X B (e :: es) tas) (hdb : (x == ("__debug__" : Str)) = false := by decide)
    (he : starEach (e :: es) X.env = (false, eval e X.env) :: starEach es X.env := by rfl) (hpl : (backTo pos (starEach es X.env)).any (·.1) = false := by rfl) : DE X B (.Call (.Name x p) (e :: es) [] pos) (dCallE ps.length sp W tas) := by
  obtain ⟨f, fd, hm, hk, hb, F⟩ := G.ex
  obtain ⟨Wx, tk, lx⟩ := lx.ex
  obtain ⟨t0, q, h1⟩ := ha.ex
  refine ⟨_, pe_callS (E := fun σ => WE Wx σ) F hr hg hm hk hb (fun σ => passAt tk σ) q hdb he hpl, fun E C σ H Q Q0 s h k => ?_⟩
  refine h1 E C σ H _ _ s h fun ds C1 vs H1 p1 s1 r1 ⟨hl, q1⟩ => ?_
  exact ⟨ds, C1, B.Z, Q, W E, hl, r1, s1, q1, fun v C' u H' q sy r qv => k v C' u H' (p1.trans q) sy r qv, fun c d fs C' H' q sy r w => lx E σ H C c d fs C' H' s (p1.trans q) sy r w⟩
end

/-! ### try .. except C as e -/
abbrev DTU := Addr → Value → List (Str × D) → DTS
def dEndU (D : DEnds) (i : Nat) : DEnds := { nx := fun E C => D.nx (E.set i none) C, rt := D.rt, bk := fun E C => D.bk (E.set i none) C, ct := fun E C => D.ct (E.set i none) C }
/-- what the clause wishes of an exception of the body -/
def dWish (K : PySem.W.Frag) (cE : Value) (i : Nat) (ts : DTU) (W : DXK) (D : DEnds) : En → DXK := fun E c fs C => ∃ b, PySem.W.exmOne K c cE = some b ∧
  (b = true → ∀ a, C a = none → ts a c fs (dEndU D i) (E.set i (some (.ref a))) C) ∧ (b = false → W c fs C)
def dTry (K : PySem.W.Frag) (cE : Value) (i : Nat) (tb : (En → DXK) → DTS) (ts : DTU) (W : DXK) : DTS := fun D E C => tb (dWish K cE i ts W D) D E C
section
variable {X : Cx} {B : Bs} {W : DXK} {x n : Str} {cE : Value} {i : Nat} {body suite : List Stmt} {b₀ : Stmt} {np pos pos' : Pos} {tb : (En → DXK) → DTS} {ts : DTU}
theorem ds_try_as (hs : X.stack = X.env :: X.outer) (hf : X.env.frame = some X.env.locals) (hN : X.N.Nodup) (hi : X.N[i]? = some n) (hln : X.env.kindOf n = some .local) (hc : Names X x cE) (lx : LinkX X B W)
    (hb : ∀ (B0 : Bs) (W' : En → DXK) (pn : List (Addr × Obj)) (xe : Value → Shared → Prop), LinkE (X.tr pn xe) B0 W' → PassesOwn (model X.prog X.w) X.A X.env xe → DSs (X.tr pn xe) B0 body (tb W'))
    (hsu : ∀ (a : Addr) (oe : Obj) (c : Value) (d : Option Addr) (fs : List (Str × D)) (pn : List (Addr × Obj)) (B' : Bs), Zc c d oe → (∃ vs, oe.data = .fields vs) → XR X.prog X.w X.K B'.H B'.C B'.Z d fs → DSs (X.suite a ((a, oe) :: pn)) B' (b₀ :: suite) (ts a c fs)) :
    DS X B (.Try body [.ExceptHandler (some (.Name x np)) (some n) (b₀ :: suite) pos'] [] [] pos) (dTry X.K cE i tb ts W) := by
  obtain ⟨Wx, tk, lx⟩ := lx.ex
  refine ⟨_, ps_try_as (i := i) (tb := fun W0 D0 σ H => ∀ (pn : List (Addr × Obj)) (xe : Value → Shared → Prop), Takes (X.tr pn xe) W0 → PassesOwn (model X.prog X.w) X.A X.env xe → ∃ t0, PSs (X.tr pn xe) body t0 ∧ t0 D0 σ H)
    (ts := fun a c d D0 σ H => ∀ (oe : Obj) (pn : List (Addr × Obj)), Zc c d oe → (∃ vs, oe.data = .fields vs) → ∃ t0, PSs (X.suite a ((a, oe) :: pn)) (b₀ :: suite) t0 ∧ t0 D0 σ H)
    (Wout := fun c d _ H => Wx c d H) hs hf hN hi hln hc tk (fun W0 pn xe tk0 po => ⟨fun pins s σ H D0 I h => ?_⟩) (fun a oe c d pn hz hd => ⟨fun pins s σ H D0 I h => ?_⟩), fun E C σ H D D0 s h k => ?_⟩
  · obtain ⟨t0, p, q⟩ := h pn xe tk0 po
    exact p.run pins s σ H D0 I q
  · obtain ⟨t0, p, q⟩ := h oe pn hz hd
    exact p.run pins s σ H D0 I q
  · intro pn xe tk0 po
    have le : LinkE (X.tr pn xe) ⟨H, C, B.Z⟩ (dWish X.K cE i ts W D) := by
      refine ⟨_, tk0, fun E1 σ1 H1 C1 c d fs C' H' s1 p1 sy xr w => ?_⟩
      obtain ⟨b, e1, hy, hn⟩ := w
      have pa : Pers H C H' C' := s1.ps.trans p1
      refine ⟨b, e1, fun eb a na oe pn2 hz hd => ?_, fun eb => lx c d fs C' H' (s.ps.trans pa) sy xr (hn eb)⟩
      obtain ⟨t0, p, r⟩ := (hsu a oe c d fs pn2 ⟨H', C', B.Z⟩ hz hd xr).ex
      have s3 : Ps (X.suite a ((a, oe) :: pn2)) ⟨H', C', B.Z⟩ (E1.set i (some (.ref a))) C' (σ1.set i (some (.ref a))) H' := ⟨RE.set (.ref a) i (s1.re.pers p1), sy, .refl⟩
      refine ⟨t0, p, r _ _ _ _ (dEndU D i) _ s3 (hy eb a (sy.free na)) ?_⟩
      have go : ∀ {E2 : En} {C2 : Cs} {σ2 : L2.St} {H2 : Hp}, Pers H' C' H2 C2 → Ps (X.suite a ((a, oe) :: pn2)) ⟨H', C', B.Z⟩ E2 C2 σ2 H2 → Ps X B (E2.set i none) C2 (σ2.set i none) H2 := fun p2 s4 => ⟨RE.unset i none s4.re, s4.sy, (s.ps.trans pa).trans p2⟩
      exact ⟨fun E2 C2 σ2 H2 p2 s4 q => k.nx _ C2 _ H2 (pa.trans p2) (go p2 s4) q, fun v C2 u H2 p2 sy2 _ rv q => k.rt v C2 u H2 (pa.trans p2) sy2 ((s.ps.trans pa).trans p2) rv q,
        fun E2 C2 σ2 H2 p2 s4 q => k.bk _ C2 _ H2 (pa.trans p2) (go p2 s4) q, fun E2 C2 σ2 H2 p2 s4 q => k.ct _ C2 _ H2 (pa.trans p2) (go p2 s4) q⟩
    obtain ⟨t0, p, r⟩ := (hb ⟨H, C, B.Z⟩ _ pn xe le po).ex
    refine ⟨t0, p, r E C σ H D D0 ⟨s.re, s.sy, .refl⟩ h ?_⟩
    exact ⟨fun E2 C2 σ2 H2 p2 s4 q => k.nx _ C2 _ H2 p2 ⟨s4.re, s4.sy, s.ps.trans p2⟩ q, fun v C2 u H2 p2 sy2 _ rv q => k.rt v C2 u H2 p2 sy2 (s.ps.trans p2) rv q,
      fun E2 C2 σ2 H2 p2 s4 q => k.bk _ C2 _ H2 p2 ⟨s4.re, s4.sy, s.ps.trans p2⟩ q, fun E2 C2 σ2 H2 p2 s4 q => k.ct _ C2 _ H2 p2 ⟨s4.re, s4.sy, s.ps.trans p2⟩ q⟩
end

/-! ### in the suite: e.f, isinstance(e, C) -/
/-- isinstance asks an own exception's instances rightly -/
def ExC (K : PySem.W.Frag) (D : Addr) : Prop := ∀ (x : Addr) (ox : Obj) (od : Option Obj), PySem.W.KitX K (.ref x) (.ref D) fun h => PySem.W.InstAt h x ox D od
section
variable {X : Cx} {a D : Addr} {oe : Obj} {c : Value} {d : Option Addr} {pn : List (Addr × Obj)} {B' : Bs}
def rIsX (K : PySem.W.Frag) (a : Addr) (d : Option Addr) (cv : Value) (D : Addr) : List V → Hp → VK → Prop := fun xs H Q => ∃ (v : V) (b : Bool), xs = [.ref a, v] ∧ (∀ u, RelV v u → u = cv) ∧ (∀ dd, d = some dd → ∃ vfs, H dd = some (.xd vfs)) ∧ PySem.W.kitOne K (.ref D) cv = some b ∧ Q (.bl b) H
theorem exc_at {pins : List (Addr × Obj)} {σ : L2.St} {H : Hp} {s : Shared} (I : Inv (X.suite a ((a, oe) :: pn)) pins σ H s) (hz : Zc (.ref D) d oe) (hf : ∃ vs, oe.data = .fields vs) (hd : ∀ dd, d = some dd → ∃ vfs, H dd = some (.xd vfs)) : ∃ od, PySem.W.InstAt s.heap a oe D od := by
  have here : s.heap.get? a = some oe := (I.pin (a, oe) (List.mem_append_left _ (List.mem_cons_self ..))).1
  match d, oe, hz, hf with
  | none, ⟨_, _, _, _⟩, ⟨rfl, rfl⟩, ⟨_, rfl⟩ => exact ⟨none, here, rfl, rfl, trivial⟩
  | some dd, ⟨_, _, _, _⟩, ⟨rfl, rfl⟩, ⟨_, rfl⟩ =>
    obtain ⟨vfs, e⟩ := hd dd rfl
    have ok : ObjOk X.prog X.w H s.heap dd (.xd vfs) := I.hok dd _ e
    obtain ⟨_, ⟨o, _, _, ho, _⟩, _⟩ := ok
    exact ⟨some o, here, rfl, rfl, ho⟩
theorem call_isX {cv : Value} (G : ExC X.K D) (hz : Zc (.ref D) d oe) (hf : ∃ vs, oe.data = .fields vs) : CallR (X.suite a ((a, oe) :: pn)) (.builtin "isinstance") (rIsX X.K a d cv D) := fun pins s σ H xs us Q I r ⟨v, b, ex, hcv, hd, e, q⟩ => by
  obtain ⟨od, J⟩ := exc_at I hz hf hd
  obtain ⟨u, rfl, rt⟩ : ∃ u, us = [.ref a, u] ∧ RelV v u := by
    subst ex
    cases r with | cons r1 r => cases r with | cons r2 r => cases r; exact ⟨_, congrArg (· :: _) r1, r2⟩
  obtain rfl := hcv u rt
  exact PySem.W.kia_one (G a oe od) I.kIn J e (fun z => nomatch z) fun tk => ⟨.bl b, H, I.kept (t' := tk) fun _ _ z => z, rfl, q⟩
end
section
variable {X : Cx} {a : Addr} {oe : Obj} {c : Value} {d : Option Addr} {pn : List (Addr × Obj)} {fs : List (Str × D)} {B' : Bs} {e : Expr} {p p2 pos : Pos} {f : En → Cs → Option D}
theorem xr_now {C : Cs} {H : Hp} (xr : XR X.prog X.w X.K B'.H B'.C B'.Z d fs) (ps : Pers B'.H B'.C H C) : XR X.prog X.w X.K H C B'.Z d fs := by
  cases d with
  | none => exact xr
  | some dd =>
    obtain ⟨vfs, h1, h2, h3, h4⟩ := xr
    exact ⟨vfs, ps.obj _ _ h1 h2, ps.cel _ _ h1 h2, h3, h4.pers ps⟩
/-- isinstance(e, C) -/
def fIsX (a : Addr) (c : Value) (g : Value → Option Bool) (f : En → Cs → Option D) : En → Cs → Option D := fun E C => match f E C with
  | some (.ref b) => if b = a then (g c).map .bl else none
  | _ => none
theorem fe_isX {x : Str} {v : V} {cv : Value} (g : Value → Option Bool) (hG : ∀ c b, g c = some b → ∃ D, c = .ref D ∧ ExC X.K D ∧ PySem.W.kitOne X.K (.ref D) cv = some b) (hz : Zc c d oe) (hf : ∃ vs, oe.data = .fields vs) (xr : XR X.prog X.w X.K B'.H B'.C B'.Z d fs)
    (hg : Gl X "isinstance") (hm : X.mg "isinstance" = none) (hx : PE (X.suite a ((a, oe) :: pn)) (.Name x p2) (tC v)) (hv : ∀ u, RelV v u → u = cv) (h : FE (X.suite a ((a, oe) :: pn)) B' e f)
    (he : starEach (e :: [.Name x p2]) X.env = (false, eval e X.env) :: starEach [.Name x p2] X.env := by rfl) (he2 : starEach (.Name x p2 :: []) X.env = (false, eval (.Name x p2) X.env) :: starEach [] X.env := by rfl) (hpl : (backTo pos (starEach [.Name x p2] X.env)).any (·.1) = false := by rfl) :
    FE (X.suite a ((a, oe) :: pn)) B' (.Call (.Name "isinstance" p) [e, .Name x p2] [] pos) (fIsX a c g f) := by
  by_cases hc : ∃ b, g c = some b
  · obtain ⟨b, hb⟩ := hc
    obtain ⟨D, rfl, G, hk⟩ := hG c b hb
    obtain ⟨t0, q, r⟩ := h.ex
    refine ⟨_, pe_callB (call_isX (X := X) (cv := cv) G hz hf) hg hm PyProof.Rows.boot_isinstance (pa_cons q (pa_cons hx pa_nil he2) he) (by decide) (by decide) he hpl, fun E C σ H Q Q0 s ⟨z, e1, qz⟩ k => ?_⟩
    unfold fIsX at e1
    split at e1
    · rename_i a' h1
      by_cases hab : a' = a
      · rw [if_pos hab, hb] at e1
        subst hab
        cases e1
        refine r E C σ H (fun v C' => v = .ref a' ∧ C' = C) _ s ⟨_, h1, rfl, rfl⟩ fun v1 C1 u H1 p1 s1 r1 q1 => ?_
        obtain ⟨rfl, rfl⟩ := q1
        cases r1
        refine ⟨v, b, rfl, hv, fun dd ed => ?_, hk, k (.bl b) _ (.bl b) H1 p1 s1 (.bl b) qz⟩
        subst ed
        obtain ⟨vfs, h2, _⟩ := xr_now xr (s.ps.trans p1)
        exact ⟨vfs, h2⟩
      · rw [if_neg hab] at e1; cases e1
    · cases e1
  · obtain ⟨t0, q, r⟩ := h.ex
    have hn : g c = none := by
      cases z : g c with
      | none => rfl
      | some b => exact absurd ⟨b, z⟩ hc
    refine ⟨fun _ _ _ => False, ⟨fun _ _ _ _ _ _ z => z.elim⟩, fun E C σ H Q Q0 s ⟨z, e1, qz⟩ k => ?_⟩
    unfold fIsX at e1
    rw [hn] at e1
    split at e1
    · split at e1 <;> cases e1
    · cases e1
/-- e.f -/
def fXf (a : Addr) (c : Value) (fs : List (Str × D)) (n : Str) (g : Value → Bool) (f : En → Cs → Option D) : En → Cs → Option D := fun E C => match f E C with
  | some (.ref b) => if b = a ∧ g c = true then fs.lookup n else none
  | _ => none
theorem rfs_lookup {P : Program} {w : World} {K : PySem.W.Frag} {H : Hp} {C : Cs} {Z : Addr → Prop} {n : Str} {v : D} : ∀ {fs : List (Str × D)} {vfs : List (Str × V)}, RFs P w K H C Z fs vfs → fs.lookup n = some v → ∃ u, vfs.lookup n = some u ∧ RD P w K H C Z v u
  | _, _, .nil, e => by cases e
  | (x, y) :: fs, (x', y') :: vfs, .cons h t, e => by
    obtain ⟨rfl, r⟩ := h
    simp only [List.lookup] at e ⊢
    cases z : n == x with
    | true => rw [z] at e; cases e; exact ⟨_, rfl, r⟩
    | false => rw [z] at e; exact rfs_lookup t e
theorem fe_xf {n : Str} (g : Value → Bool) (hG : ∀ c, g c = true → ∃ D, c = .ref D ∧ XfC X.K D ∧ PySem.W.findIn X.K (.ref D) n = some none) (hz : Zc c d oe) (hf : ∃ vs, oe.data = .fields vs) (xr : XR X.prog X.w X.K B'.H B'.C B'.Z d fs) (h : FE (X.suite a ((a, oe) :: pn)) B' e f)
    (hb : attributeBase e n X.env (eval e X.env) = eval e X.env := by rfl) : FE (X.suite a ((a, oe) :: pn)) B' (.Attribute e n pos) (fXf a c fs n g f) := by
  by_cases hc : g c = true
  · obtain ⟨D, rfl, T, hno⟩ := hG c hc
    obtain ⟨t0, q, r⟩ := h.ex
    refine ⟨_, pe_xf T hno hz hf q hb, fun E C σ H Q Q0 s ⟨z, e1, qz⟩ k => ?_⟩
    unfold fXf at e1
    split at e1
    · rename_i a' h1
      by_cases hab : a' = a
      · rw [if_pos ⟨hab, hc⟩] at e1
        subst hab
        refine r E C σ H (fun v C' => v = .ref a' ∧ C' = C) _ s ⟨_, h1, rfl, rfl⟩ fun v1 C1 u H1 p1 s1 r1 q1 => ?_
        obtain ⟨rfl, rfl⟩ := q1
        cases r1
        have xr1 := xr_now xr (s.ps.trans p1)
        cases d with
        | none =>
          have e2 : fs = [] := xr1
          subst e2
          cases e1
        | some dd =>
          obtain ⟨vfs, h2, _, _, h4⟩ := xr1
          obtain ⟨u, hu, ru⟩ := rfs_lookup h4 e1
          exact ⟨rfl, rfl, dd, vfs, u, rfl, h2, hu, k z _ u H1 p1 s1 ru qz⟩
      · rw [if_neg (fun z => hab z.1)] at e1; cases e1
    · cases e1
  · refine ⟨fun _ _ _ => False, ⟨fun _ _ _ _ _ _ z => z.elim⟩, fun E C σ H Q Q0 s ⟨z, e1, qz⟩ k => ?_⟩
    unfold fXf at e1
    split at e1
    · rw [if_neg (fun z => hc z.2)] at e1; cases e1
    · cases e1
end
end DL

set_option Elab.async false
set_option linter.all false
set_option maxRecDepth 100000
set_option maxHeartbeats 2000000
/-! DlU: isinstance with two types of the language; dict(d); x.f += n. -/
namespace DL
open PySem PySem.Spec PyProof.Rows L2
section
variable {X : Cx} {B : Bs} {e : Expr} {p p2 p3 p4 pos : Pos} {k1 : Nat}
def tyS : D → Option String
  | .non => some "NoneType"
  | .bl _ => some "bool"
  | .int _ => some "int"
  | .str _ => some "str"
  | .tup _ => some "tuple"
  | .lst _ => some "list"
  | _ => none
theorem tyS_ty {H : Hp} {C : Cs} {d : D} {v : V} {t : String} (r : RD X.prog X.w X.K H C B.Z d v) (et : tyS d = some t) : TyX X.K H v (.type t) := by
  cases d with
  | non => cases r; cases et; exact .base .non
  | bl b => cases r; cases et; exact .base (.bl _)
  | int i => cases r; cases et; exact .base (.int _)
  | str x => cases r; cases et; exact .base (.str _)
  | tup xs =>
    cases et
    cases r with
    | tup h c z l r =>
      rcases h with h | ⟨o, h⟩
      · exact .base (.tup h)
      · exact .fTuple h
    | tupK h r =>
      obtain ⟨o, its, n, h1, h2, _⟩ := h
      exact .kTuple h1 h2
  | lst xs =>
    cases et
    cases r with
    | lst h c z l r => exact .base (.lst h)
  | dic ks ds => cases et
  | ref a => cases et
def kit2 (t T1 T2 : String) : Option Bool := match kitB t T1 with
  | some true => some true
  | some false => kitB t T2
  | none => none
def fIsi2 (T1 T2 : String) (f : En → Cs → Option D) : En → Cs → Option D := fun E C => match f E C with
  | some d => match tyS d with
    | some t => (kit2 t T1 T2).map .bl
    | none => none
  | none => none
theorem kit2_any {K : PySem.W.Frag} {t T1 T2 : String} {b : Bool} (h : kit2 t T1 T2 = some b) : PySem.W.kitAny K (.type t) [.type T1, .type T2] = some b := by
  unfold kit2 at h
  cases h1 : kitB t T1 with
  | none => rw [h1] at h; cases h
  | some b1 =>
    rw [h1] at h
    cases b1 with
    | true => cases h; exact kitAny_cons (kit_ty h1) (fun z => nomatch z) fun _ => rfl
    | false =>
      have h : kitB t T2 = some b := h
      refine kitAny_cons (kit_ty h1) (fun _ => kitAny_cons (kit_ty h) (fun e => ?_) fun e => e) (fun z => nomatch z)
      rw [e]; exact kitAny_nil
theorem fe_isi2 {x y : Str} {T1 T2 : String} {f : En → Cs → Option D} (hg : Gl X "isinstance") (hm : X.mg "isinstance" = none) (hg2 : Gl X x) (hm2 : X.mg x = none) (hv : bootBuiltins x = some (.type T1)) (hg3 : Gl X y) (hm3 : X.mg y = none) (hv3 : bootBuiltins y = some (.type T2)) (h : FE X B e f)
    (hn : x ≠ "__name__" := by decide) (hd : (x == ("__debug__" : Str)) = false := by decide) (hn3 : y ≠ "__name__" := by decide) (hd3 : (y == ("__debug__" : Str)) = false := by decide)
    (he : starEach (e :: [.Tuple [.Name x p2, .Name y p3] k1 p4]) X.env = (false, eval e X.env) :: starEach [.Tuple [.Name x p2, .Name y p3] k1 p4] X.env := by rfl) (hpl : (backTo pos (starEach [.Tuple [.Name x p2, .Name y p3] k1 p4] X.env)).any (·.1) = false := by rfl) :
    FE X B (.Call (.Name "isinstance" p) [e, .Tuple [.Name x p2, .Name y p3] k1 p4] [] pos) (fIsi2 T1 T2 f) := by
  obtain ⟨t0, q, r⟩ := h.ex
  refine ⟨_, pe_callB call_isiT hg hm PyProof.Rows.boot_isinstance (pa_cons q (pa_cons (pe_tup (pa_cons (pe_bltn (v := .ty T1) hg2 hm2 hv rfl hn hd) (pa_cons (pe_bltn (v := .ty T2) hg3 hm3 hv3 rfl hn3 hd3) pa_nil rfl) rfl)) pa_nil rfl) he) (by decide) (by decide) he hpl, fun E C σ H Q Q0 s ⟨z, e, qz⟩ k => ?_⟩
  unfold fIsi2 at e
  cases h1 : f E C with
  | none => rw [h1] at e; cases e
  | some d =>
    rw [h1] at e
    simp only at e
    cases h2 : tyS d with
    | none => rw [h2] at e; cases e
    | some t =>
      rw [h2] at e
      simp only at e
      cases h3 : kit2 t T1 T2 with
      | none => rw [h3] at e; cases e
      | some b =>
        rw [h3] at e; cases e
        refine r E C σ H (fun v C' => v = d ∧ C' = C) _ s ⟨_, h1, rfl, rfl⟩ fun v C1 u H1 p1 s1 r1 q1 => ?_
        obtain ⟨rfl, rfl⟩ := q1
        refine ⟨(by show 2 ≤ sizeLine; rw [sizeLine_eq]; decide), fun a ha => ?_⟩
        have pl : Pers H1 C1 (upd H1 a (.tup [.ty T1, .ty T2])) C1 := Pers.laid ha
        exact ⟨u, a, [.ty T1, .ty T2], .type t, [.type T1, .type T2], b, rfl, upd_same, .cons (.ty T1) (.cons (.ty T2) .nil), tyS_ty (r1.pers pl) h2, kit2_any h3, k (.bl b) C1 (.bl b) _ (p1.trans pl) (s1.laid ha) (.bl b) qz⟩
/-! ### dict(d), d a dict that lives, with scalar keys -/
def dDictC (f : En → Cs → Option D) : DT := fun E C Q => ∃ a ks vs, f E C = some (.ref a) ∧ C a = some (.dic ks vs) ∧ (∃ k0 r, ks = k0 :: r ∧ isScal k0 = true) ∧ ∀ p, C p = none → Q (.ref p) (cupd C p (.dic ks vs))
theorem de_dictC {f : En → Cs → Option D} (hg : Gl X "dict") (hm : X.mg "dict" = none) (h : FE X B e f) (he : starEach (e :: []) X.env = (false, eval e X.env) :: starEach [] X.env := by rfl) (hpl : (backTo pos (starEach [] X.env)).any (·.1) = false := by rfl) :
    DE X B (.Call (.Name "dict" p) [e] [] pos) (dDictC f) := by
  obtain ⟨t0, q, r⟩ := h.ex
  refine ⟨_, pe_callTy call_dictOf hg hm (by decide +kernel) (pa_cons q pa_nil he) (by decide) (by decide) he hpl, fun E C σ H Q Q0 s ⟨a, ks, vs, h1, hc, ⟨k0, r0, ek, hk⟩, qz⟩ k => ?_⟩
  refine r E C σ H (fun v C' => v = .ref a ∧ C' = C) _ s ⟨_, h1, rfl, rfl⟩ fun v1 C1 u H1 p1 s1 r1 q1 => ?_
  obtain ⟨rfl, rfl⟩ := q1
  cases r1
  rcases s1.cel a _ hc with ⟨kvs, e1, e2, e3⟩ | ⟨xs, e1, e2, e3, e4, _⟩
  · refine ⟨a, kvs, rfl, .inl e1, fun b hb => ?_⟩
    have pn : Pers H1 C1 (upd H1 b (.dK kvs)) (cupd C1 b (.dic ks vs)) := Pers.new hb
    exact k (.ref b) _ (.ref b) _ (p1.trans pn) (s1.new hb (.inl ⟨kvs, upd_same, e2, e3.pers pn⟩)) (.ref b) (qz b (s1.free hb))
  · exfalso
    subst ek
    cases xs with
    | nil => exact e2.1 rfl
    | cons x xs =>
      cases e4 with
      | cons r1 _ => cases r1 <;> exact Bool.noConfusion hk
/-! ### o.f += n -/
def dFldAug (c : Addr) (f : Str) (g : Int → Int → Int) (ta tv : DT) : DTS := fun D E C => ta E C fun x C1 => ∃ a fs v, x = .ref a ∧ C1 a = some (.ins c fs) ∧ fs.lookup f = some v ∧
  tv E C1 fun y C2 => ∃ i j fs', v = .int i ∧ y = .int j ∧ C2 a = some (.ins c fs') ∧ fs'.length < 1000 ∧ D.nx E (cupd C2 a (.ins c (putFD f (.int (g i j)) fs')))
theorem ds_aug {op : Operator} {o value : Expr} {f : Str} {c : Addr} {g : Int → Int → Int} {ta tv : DT} {tpos : Pos} (T : Fld X.K c f) (hop : InOp X op (fun x y H Q => ∃ i j, x = .int i ∧ y = .int j ∧ Q (.int (g i j)) H)) (ha : DE X B o ta) (hv : DE X B value tv) :
    DS X B (.AugAssign (.Attribute o f tpos) op value pos) (dFldAug c f g ta tv) := by
  obtain ⟨t0, p, r⟩ := ha.ex
  obtain ⟨v0, p', r'⟩ := hv.ex
  refine ⟨_, ps_fldaug p p' hop, fun E C σ H D D0 s q k => ?_⟩
  refine r E C σ H _ _ s q fun x C1 u H1 p1 s1 r1 ⟨a, fs, v, e, hc, hl, q1⟩ => ?_
  subst e
  cases r1
  obtain ⟨dx, vfs, h1, h2⟩ := s1.cel a _ hc
  obtain ⟨uv, hu, ru⟩ := rfs_get h2 hl
  refine ⟨a, c, dx, vfs, uv, rfl, h1, T.cl, T.na, hu, r' E C1 σ H1 _ _ (s.next p1 s1) q1 fun y C2 w1 H2 p2 s2 r2 ⟨i, j, fs', ev, ey, hc2, hl2, q2⟩ => ?_⟩
  subst ev ey
  cases ru
  cases r2
  obtain ⟨dx2, vfs2, h3, h4⟩ := s2.cel a _ hc2
  refine ⟨i, j, rfl, rfl, dx2, vfs2, h3, by rw [← rfs_len h4]; exact hl2, ?_⟩
  have pw : Pers H2 C2 (upd H2 a (.ins c dx2 (putF f (.int (g i j)) vfs2))) (cupd C2 a (.ins c (putFD f (.int (g i j)) fs'))) := Pers.write hc2
  have sw := s2.write hc2 (o := .ins c dx2 (putF f (.int (g i j)) vfs2)) (c := .ins c (putFD f (.int (g i j)) fs')) ⟨dx2, _, upd_same, rfs_put (.int _) (h4.pers pw)⟩
  have pp := (p1.trans p2).trans pw
  exact k.nx E _ σ _ pp (s.next pp sw) q2
/-! ### s.split(t) -/
def fSplit (f g : En → Cs → Option D) : En → Cs → Option D := fun E C => match f E C, g E C with
  | some (.str a), some (.str b) => if (b.length == 0) = false ∧ a.length + 2 ≤ sizeLine then some (.lst ((Txt.split a b).map .str)) else none
  | _, _ => none
theorem rds_strs {P : Program} {w : World} {K : PySem.W.Frag} {H : Hp} {C : Cs} {Z : Addr → Prop} : ∀ (l : List Str), RDs P w K H C Z (l.map .str) (l.map .str)
  | [] => .nil
  | x :: l => .cons (.str x) (rds_strs l)
theorem fe_split {o : Expr} {f g : En → Cs → Option D} {apos : Pos} (ho : FE X B o f) (he : FE X B e g) (hs : starEach [e] X.env = [(false, eval e X.env)] := by rfl) (hbase : attributeBase o "split" X.env (eval o X.env) = eval o X.env := by rfl) (hline : (apos.endLine == pos.line) = true := by rfl) :
    FE X B (.Call (.Attribute o "split" apos) [e] [] pos) (fSplit f g) := by
  obtain ⟨t0, q, r⟩ := ho.ex
  obtain ⟨u0, q', r'⟩ := he.ex
  refine ⟨_, pe_split q q' hs hbase hline, fun E C σ H Q Q0 s ⟨z, ez, qz⟩ k => ?_⟩
  unfold fSplit at ez
  split at ez
  · rename_i a b h1 h2
    by_cases hc : (b.length == 0) = false ∧ a.length + 2 ≤ sizeLine
    · rw [if_pos hc] at ez
      cases ez
      refine r E C σ H (fun v C' => v = .str a ∧ C' = C) _ s ⟨_, h1, rfl, rfl⟩ fun v1 C1 u H1 p1 s1 r1 q1 => ?_
      obtain ⟨rfl, rfl⟩ := q1
      cases r1
      refine ⟨⟨a, rfl⟩, r' E C1 σ H1 (fun v C' => v = .str b ∧ C' = C1) _ (s.next p1 s1) ⟨_, h2, rfl, rfl⟩ fun v2 C2 u2 H2 p2 s2 r2 q2 => ?_⟩
      obtain ⟨rfl, rfl⟩ := q2
      cases r2
      refine ⟨a, b, rfl, rfl, hc.1, hc.2, fun p hp => ?_⟩
      have pl : Pers H2 C2 (upd H2 p (.lst ((Txt.split a b).map V.str))) C2 := Pers.laid hp
      exact k _ C2 (.ref p) _ ((p1.trans p2).trans pl) (s2.laid hp) (.lst upd_same (s2.free hp) (s2.nz hp) (by rw [List.length_map]; exact Nat.le_trans (split_le a b) hc.2) (rds_strs _)) qz
    · rw [if_neg hc] at ez; cases ez
  · cases ez
end
end DL

set_option Elab.async false
set_option linter.all false
set_option maxRecDepth 100000
set_option maxHeartbeats 2000000
/-! AlH: what the top has written, read by one Hook: defs, constants, own exceptions, properties. -/
namespace AH
open PySem PySem.Spec PyProof.Rows L2 DL He

/-! ### constants -/
inductive CV where
  | int (i : Int) | str (x : Str) | tup (xs : List CV)
mutual
def CV.d : CV → D
  | .int i => .int i
  | .str x => .str x
  | .tup xs => .tup (CV.ds xs)
def CV.ds : List CV → List D
  | [] => []
  | c :: cs => c.d :: CV.ds cs
end
mutual
def cvB (K : PySem.W.Frag) : CV → Value → Bool
  | .int i, v => relB (.int i) v
  | .str x, v => relB (.str x) v
  | .tup xs, .ref a => match K.lookup a with
    | some ⟨.type c, _, .seq its _, _⟩ => decide (c = "tuple") && (decide (its.size ≤ sizeLine) && cvsB K xs its.toList)
    | _ => false
  | _, _ => false
def cvsB (K : PySem.W.Frag) : List CV → List Value → Bool
  | [], [] => true
  | c :: cs, v :: vs => cvB K c v && cvsB K cs vs
  | _, _ => false
end
section
variable {P : Program} {w : World} {K : PySem.W.Frag}
mutual
theorem cv_ok : ∀ {c : CV} {v : Value}, cvB K c v = true → ∃ u : V, RelV u v ∧ ∀ H C Z, RD P w K H C Z c.d u
  | .int i, v, h => ⟨.int i, relB_ok (v := .int i) h, fun _ _ _ => .int i⟩
  | .str x, v, h => ⟨.str x, relB_ok (v := .str x) h, fun _ _ _ => .str x⟩
  | .tup xs, v, h => by
    cases v with
    | ref a =>
      have h1 : (match K.lookup a with
        | some ⟨.type c, _, .seq its _, _⟩ => decide (c = "tuple") && (decide (its.size ≤ sizeLine) && cvsB K xs its.toList)
        | _ => false) = true := h
      cases q : K.lookup a with
      | none => rw [q] at h1; cases h1
      | some o =>
        obtain ⟨oc, od, dt, osl⟩ := o
        rw [q] at h1
        cases oc with
        | type c =>
          cases dt with
          | seq its n =>
            obtain ⟨h2, h3⟩ := ba (show (decide (c = "tuple") && (decide (its.size ≤ sizeLine) && cvsB K xs its.toList)) = true from h1)
            obtain ⟨h4, h5⟩ := ba h3
            obtain ⟨us, h6, h7⟩ := cvs_ok h5
            exact ⟨.ref a, rfl, fun H C Z => .tupK ⟨_, its, n, q, congrArg Value.type (of_decide_eq_true h2), rfl, of_decide_eq_true h4, h6⟩ (h7 H C Z)⟩
          | _ => cases h1
        | _ => cases dt <;> cases h1
    | _ => cases h
theorem cvs_ok : ∀ {cs : List CV} {vs : List Value}, cvsB K cs vs = true → ∃ us : List V, Vals us vs ∧ ∀ H C Z, RDs P w K H C Z (CV.ds cs) us
  | [], [], _ => ⟨[], .nil, fun _ _ _ => .nil⟩
  | [], _ :: _, h => by cases h
  | _ :: _, [], h => by cases h
  | c :: cs, v :: vs, h => by
    obtain ⟨h1, h2⟩ := ba (show (cvB K c v && cvsB K cs vs) = true from h)
    obtain ⟨u, r, k⟩ := cv_ok h1
    obtain ⟨us, rs, ks⟩ := cvs_ok h2
    exact ⟨u :: us, .cons r rs, fun H C Z => .cons (k H C Z) (ks H C Z)⟩
end
end
/-- a dict's entries: texts, constants -/
def entsB (K : PySem.W.Frag) : List (Str × CV) → List DictEntry → Bool
  | [], [] => true
  | p :: ps, e :: es => (match e.key with
    | .str x _ => decide (p.1 = x)
    | _ => false) && (cvB K p.2 e.val && entsB K ps es)
  | _, _ => false
theorem ents_ok {P : Program} {w : World} {K : PySem.W.Frag} : ∀ {ps : List (Str × CV)} {es : List DictEntry}, entsB K ps es = true →
    ∃ kvs : List (Str × V), kvs.map (·.1) = ps.map (·.1) ∧ Paired (fun (p : Str × V) (e : DictEntry) => (∃ t, e.key = .str p.1 t) ∧ RelV p.2 e.val) kvs es ∧ ∀ H C Z, RDs P w K H C Z (ps.map fun p => p.2.d) (kvs.map (·.2))
  | [], [], _ => ⟨[], rfl, .nil, fun _ _ _ => .nil⟩
  | [], _ :: _, h => by cases h
  | _ :: _, [], h => by cases h
  | p :: ps, e :: es, h => by
    obtain ⟨h1, h2⟩ := ba (show ((match e.key with
      | .str x _ => decide (p.1 = x)
      | _ => false) && (cvB K p.2 e.val && entsB K ps es)) = true from h)
    obtain ⟨h3, h4⟩ := ba h2
    obtain ⟨u, r, k⟩ := cv_ok (P := P) (w := w) h3
    obtain ⟨kvs, e1, pr, ks⟩ := ents_ok (P := P) (w := w) h4
    have hk : ∃ t, e.key = .str p.1 t := by
      revert h1
      cases e.key <;> intro h1 <;> first | cases h1 | exact ⟨_, by rw [of_decide_eq_true h1]⟩
    exact ⟨(p.1, u) :: kvs, by rw [List.map_cons, List.map_cons, e1], .cons ⟨hk, r⟩ pr, fun H C Z => .cons (k H C Z) (ks H C Z)⟩

/-! ### further facts, each a Bool -/
def eqB (a b : Option Bool) : Bool := decide (a = b)
def eqV (a b : Option Value) : Bool := decide (a = b)
inductive EX where
  | con (x : Str) (c : CV)
  | pts (x : Str) (kvs : List (Str × CV))
  | prop (c f : Str)
  | xcl (x qual : Str)
  | exC (x : Str)
  | xf (x : Str)
  | exm (x y : Str) (b : Bool)
  | kit (x y : Str) (b : Bool)
  | kitv (x : Str) (t : String)
  | getc (c f qual : Str)
  | ne (x y : Str)
def oexB (K : PySem.W.Frag) (C : Addr) : Bool := (match K.lookup C with
  | some ⟨.type t, _, .cls cd, sl⟩ => decide (t = "type") && (match cd.mro, sl.toList with
    | .ref C' :: bm, [_, _, _, _, some (.builtin n), _] => decide (C' = C) && (decide (n = "ValueError.__new__") && (!cd.hasDel && (cd.hasDict && PySem.HandSPX.refsVE bm)))
    | _, _ => false)
  | _ => false) && (eqO (PySem.W.findIn K (.ref C) "__setattr__") (some (some (.builtin "object.__setattr__"))) && (eqB (PySem.W.subIn K (.ref C) (.type "BaseException")) (some true) && (eqV (PySem.W.typeIn K (.ref C)) (some (.type "type")) && PySem.W.keepIn K (.ref C))))
theorem oexB_ok {K : PySem.W.Frag} {C : Addr} (h : oexB K C = true) : OexC K C := by
  obtain ⟨h1, h⟩ := ba h
  obtain ⟨h2, h⟩ := ba h
  obtain ⟨h3, h⟩ := ba h
  obtain ⟨h4, h5⟩ := ba h
  refine ⟨?_, eqO_ok h2, of_decide_eq_true h3, of_decide_eq_true h4, h5⟩
  cases q : K.lookup C with
  | none => rw [q] at h1; cases h1
  | some o =>
    obtain ⟨oc, od, dt, sl⟩ := o
    rw [q] at h1
    cases oc with
    | type t =>
      cases dt with
      | cls cd =>
        obtain ⟨h6, h7⟩ := ba (show (decide (t = "type") && (match cd.mro, sl.toList with
          | .ref C' :: bm, [_, _, _, _, some (.builtin n), _] => decide (C' = C) && (decide (n = "ValueError.__new__") && (!cd.hasDel && (cd.hasDict && PySem.HandSPX.refsVE bm)))
          | _, _ => false)) = true from h1)
        obtain ⟨nm, bs, mro, ns, qn, hd, sn, sub, ab, col, del⟩ := cd
        obtain ⟨l⟩ := sl
        dsimp only at h7
        split at h7
        · rename_i C' bm k0 k1 k2 k3 n k5
          obtain ⟨a1, h7⟩ := ba h7
          obtain ⟨a2, h7⟩ := ba h7
          obtain ⟨a3, h7⟩ := ba h7
          obtain ⟨a4, a5⟩ := ba h7
          have e1 : C' = C := of_decide_eq_true a1
          have e2 : n = "ValueError.__new__" := of_decide_eq_true a2
          have e3 : del = false := by cases del <;> first | rfl | cases a3
          have e4 : hd = true := a4
          have e5 : t = "type" := of_decide_eq_true h6
          subst e1 e2 e3 e4 e5
          exact ⟨_, _, _, _, _, _, _, _, _, _, _, _, _, _, _, rfl, a5⟩
        · cases h7
      | _ => cases h1
    | _ => cases dt <;> cases h1
/-- the function at a, what it is told by (its closure by names) -/
def funcAt (K : PySem.W.Frag) (a : Addr) : Option FuncData := (K.lookup a).bind fun o => match o.data with
  | .func fd => some fd
  | _ => none
theorem funcAt_at {K : PySem.W.Frag} {a : Addr} {fd : FuncData} (h : funcAt K a = some fd) : ∃ oc od osl, K.lookup a = some ⟨oc, od, .func fd, osl⟩ := by
  obtain ⟨⟨oc, od, dt, osl⟩, q, r⟩ := Option.bind_eq_some_iff.mp h
  cases dt <;> cases r
  exact ⟨oc, od, osl, q⟩
abbrev FnZ : Type := Option (Str × Str × Arguments × FuncBody × Scope × Addr × List Str × Value × Addr)
def told (fd : FuncData) : Str × Str × Arguments × FuncBody × Scope × Addr × List Str × Value × Addr := (fd.name, fd.qualname, fd.params, fd.body, fd.scope, fd.globals, fd.closure.map (·.1), fd.defaults, fd.builtins)
def fnAt (K : PySem.W.Frag) (a : Addr) : FnZ := (funcAt K a).map told
def fnZ (K : PySem.W.Frag) (p : Str × Option Str) : FnZ := fnAt K (fAd K p)
theorem fnAt_at {K : PySem.W.Frag} {a : Addr} {x qual : Str} {ps : Arguments} {bd : FuncBody} {sc : Scope} {gl : Addr} {cl : List Str} {dv : Value} {bi : Addr} (h : fnAt K a = some (x, qual, ps, bd, sc, gl, cl, dv, bi)) :
    ∃ fd oc od osl, K.lookup a = some ⟨oc, od, .func fd, osl⟩ ∧ funcAt K a = some fd ∧ fd.name = x ∧ fd.qualname = qual ∧ fd.params = ps ∧ fd.body = bd ∧ fd.scope = sc ∧ fd.globals = gl ∧ fd.closure.map (·.1) = cl ∧ fd.defaults = dv ∧ fd.builtins = bi := by
  obtain ⟨fd, q, r⟩ := Option.map_eq_some_iff.mp h
  obtain ⟨oc, od, osl, lk⟩ := funcAt_at q
  simp only [told, Prod.mk.injEq] at r
  exact ⟨fd, oc, od, osl, lk, q, r⟩
def codeAd (K : PySem.W.Frag) (f : Addr) : Addr := match (funcAt K f).map FuncData.code with
  | some (Value.ref c) => c
  | _ => 0
def cellAd (K : PySem.W.Frag) (f : Addr) : Addr := match (funcAt K f).map FuncData.closure with
  | some ((_, c) :: _) => c
  | _ => 0
def codeRefB (K : PySem.W.Frag) (f : Addr) : Bool := match (funcAt K f).map FuncData.code with
  | some (Value.ref _) => true
  | _ => false
/-- the signs at place i of the object at a -/
def textAt (K : PySem.W.Frag) (a : Addr) (i : Nat) : Option (Str × Tok) := (K.lookup a).bind fun o => match o.data with
  | .fields vs => (vs[i]? : Option Value).bind fun v => match v with
    | .str x t => some (x, t)
    | _ => none
  | _ => none
def fileB (K : PySem.W.Frag) (file : Str) (cda : Addr) : Bool := (textAt K cda 2).any fun p => file == p.1
theorem fileB_ok {K : PySem.W.Frag} {file : Str} {cda : Addr} (h : fileB K file cda = true) : ∃ (ccl : Value) (cdd : Option Addr) (vs : Array Value) (ccs : Array (Option Value)) (fl : Str) (tf : Tok), K.lookup cda = some ⟨ccl, cdd, .fields vs, ccs⟩ ∧ vs[2]? = some (.str fl tf) ∧ (file == fl) = true := by
  obtain ⟨⟨x, t⟩, q, r⟩ : ∃ p, textAt K cda 2 = some p ∧ (file == p.1) = true := by
    unfold fileB at h
    cases q : textAt K cda 2 with
    | none => rw [q] at h; cases h
    | some p => rw [q] at h; exact ⟨p, rfl, h⟩
  obtain ⟨⟨oc, od, dt, sl⟩, q1, q2⟩ := Option.bind_eq_some_iff.mp q
  cases dt <;> first | cases q2 | skip
  obtain ⟨v, q3, q4⟩ := Option.bind_eq_some_iff.mp q2
  cases v <;> cases q4
  exact ⟨_, _, _, _, _, _, q1, q3, r⟩
/-- the object in the cell at a -/
def cellRef (K : PySem.W.Frag) (a : Addr) : Option Addr := (K.lookup a).bind fun o => match o.data with
  | .cell (some (.ref C)) => some C
  | _ => none
def cellB (K : PySem.W.Frag) (C cc : Addr) : Bool := decide (cellRef K cc = some C)
theorem cellB_ok {K : PySem.W.Frag} {C cc : Addr} (h : cellB K C cc = true) : ∃ (cl : Value) (cld : Option Addr) (csl : Array (Option Value)), K.lookup cc = some ⟨cl, cld, .cell (some (.ref C)), csl⟩ := by
  obtain ⟨⟨oc, od, dt, sl⟩, q1, q2⟩ := Option.bind_eq_some_iff.mp (of_decide_eq_true h)
  simp only at q2
  split at q2
  · cases q2
    exact ⟨oc, od, sl, q1⟩
  · cases q2
def xclB (K : PySem.W.Frag) (file : Str) (x qual : Str) : Bool :=
  let C := ga K x
  let f := ma K C "__init__"
  oexB K C && (codeRefB K f && (PySem.W.codeIn K (.ref (codeAd K f)) qual && (fileB K file (codeAd K f) && (cellB K C (cellAd K f) && (eqO (PySem.W.ks_superIn K C C "__init__") (some (some (.builtin "ValueError.__init__"))) && (eqO (PySem.W.nsIn K cStatics "thirdparty.any") (some none) &&
  (eqB (PySem.W.subIn K (.ref C) (.type "ValueError")) (some true) && (eqB (PySem.W.mroIn K C (.ref C)) (some true) && (eqO (PySem.W.findIn K (.ref C) "__init__") (some (some (.ref f))) && (eqV (PySem.W.typeIn K (.ref f)) (some (.type "function")) && (eqO (PySem.W.nsIn K mainGlobals x) (some (some (.ref C))) && eqO (PySem.W.nsIn K mainGlobals "super") (some none))))))))))))
structure XD where
  x : Str
  qual : Str
  params : Arguments
  body : List Stmt
  scope : Scope
def XD.val (d : XD) : FnZ := some ("__init__", d.qual, d.params, .stmts d.body, d.scope, mainGlobals, ["__class__"], .none, builtinsNs)
theorem xcl_ok {P : Program} {K : PySem.W.Frag} {h : Heap} {mg : Str → Option Value} (X : K.In h) (G : h.Ns mainGlobals mg) {d : XD} (e : fnZ K (d.x, some "__init__") = d.val) (c : xclB K P.main.file d.x d.qual = true)
    (top : (P.main.scope.names.lookup ("super" : Str)).isSome = false) : ∃ f fd cda cc, XcTxt P K mg (ga K d.x) f d.qual d.params d.body d.scope fd cda cc := by
  obtain ⟨c1, c⟩ := ba c
  obtain ⟨c2, c⟩ := ba c
  obtain ⟨c3, c⟩ := ba c
  obtain ⟨c4, c⟩ := ba c
  obtain ⟨c5, c⟩ := ba c
  obtain ⟨c6, c⟩ := ba c
  obtain ⟨c7, c⟩ := ba c
  obtain ⟨c8, c⟩ := ba c
  obtain ⟨c9, c⟩ := ba c
  obtain ⟨c10, c⟩ := ba c
  obtain ⟨c11, c⟩ := ba c
  obtain ⟨c12, c13⟩ := ba c
  have e2 : fnAt K (ma K (ga K d.x) "__init__") = d.val := e
  generalize hf : ma K (ga K d.x) "__init__" = f at e2 c2 c3 c4 c5 c10 c11
  obtain ⟨fd, oc, od, osl, lk, q, h1, h2, h3, h4, h5, h6, h7, h8, h9⟩ := fnAt_at e2
  obtain ⟨n1, n2, n3, n4, n5, n6, n7, n8, n9, n10, n11, n12, n13, n14, n15⟩ := fd
  simp only at h1 h2 h3 h4 h5 h6 h7 h8 h9
  unfold codeRefB at c2
  rw [q] at c2
  cases n13 with
  | ref cd =>
    cases n7 with
    | nil => cases h7
    | cons p r =>
      obtain ⟨pn, cc⟩ := p
      have ec : codeAd K f = cd := by unfold codeAd; rw [q]; rfl
      have el : cellAd K f = cc := by unfold cellAd; rw [q]; rfl
      rw [ec] at c3 c4
      rw [el] at c5
      obtain ⟨e1, e2⟩ := List.cons.inj h7
      obtain rfl := List.map_eq_nil_iff.mp e2
      obtain rfl : pn = "__class__" := e1
      subst h1 h2 h3 h4 h5 h6 h8 h9
      exact ⟨f, _, cd, cc, oexB_ok c1, ⟨oc, od, n9, n10, n11, n12, n14, osl, rfl, lk⟩, c3, fileB_ok c4, cellB_ok c5, eqO_ok c6, eqO_ok c7, of_decide_eq_true c8, of_decide_eq_true c9, eqO_ok c10, of_decide_eq_true c11, ⟨d.x, PySem.W.mg_of X G (eqO_ok c12)⟩, PySem.W.mg_none_of X G (eqO_ok c13), top⟩
  | _ => cases c2
/-- the getter's address -/
def prAd (K : PySem.W.Frag) (c f : Str) : Addr := ma K (ga K c) f
def geAd (K : PySem.W.Frag) (c f : Str) : Addr := match PySem.W.recIn K (prAd K c f) "property" with
  | some (.ref g :: _) => g
  | _ => 0
def propB (K : PySem.W.Frag) (c f : Str) : Bool := eqO (PySem.W.findIn K (.ref (ga K c)) f) (some (some (.ref (prAd K c f)))) && (eqO (PySem.W.specialIn K (.ref (prAd K c f)) "__get__") (some (some (.builtin "property.__get__"))) && (eqB (PySem.W.takesIn K (.ref (prAd K c f))) (some true) && (match PySem.W.recIn K (prAd K c f) "property" with
  | some (.ref _ :: _) => true
  | _ => false)))
theorem propB_ok {K : PySem.W.Frag} {c f : Str} (h : propB K c f = true) : PropOf K (ga K c) f (prAd K c f) (geAd K c f) := by
  obtain ⟨h1, h⟩ := ba h
  obtain ⟨h2, h⟩ := ba h
  obtain ⟨h3, h4⟩ := ba h
  refine ⟨eqO_ok h1, eqO_ok h2, of_decide_eq_true h3, ?_⟩
  unfold geAd
  cases q : PySem.W.recIn K (prAd K c f) "property" with
  | none => rw [q] at h4; cases h4
  | some l =>
    rw [q] at h4
    cases l with
    | nil => cases h4
    | cons v r =>
      cases v with
      | ref g => exact ⟨r, rfl⟩
      | _ => cases h4
def exCB (K : PySem.W.Frag) (C : Addr) : Bool := (PySem.W.clsIn K C).isSome && (eqO (PySem.W.findIn K (.ref C) "__getattribute__") (some (some (.builtin "BaseException.__getattribute__"))) && ((PySem.W.findIn K (.ref C) "__getattr__").isSome && (eqB (PySem.W.subIn K (.ref C) (.type "BaseException")) (some true) &&
  (eqO (PySem.W.findIn K (.ref C) "__class__") (some (some (.builtin "object.__class__"))) && (eqO (PySem.W.specialIn K (.builtin "object.__class__") "__get__") (some (some (.builtin "getset_descriptor.__get__"))) && (eqB (PySem.W.takesIn K (.builtin "object.__class__")) (some true) && eqB (PySem.W.mroIn K C (.type "object")) (some true)))))))
theorem exCB_ok {K : PySem.W.Frag} {C : Addr} (h : exCB K C = true) : ExC K C := by
  simp only [exCB, Bool.and_eq_true] at h
  obtain ⟨h1, h2, h3, h4, h5, h6, h7, h8⟩ := h
  obtain ⟨gt, h3⟩ := Option.isSome_iff_exists.mp h3
  exact fun x ox od => PySem.W.kitx_exc h1 (eqO_ok h2) h3 (of_decide_eq_true h4) (eqO_ok h5) (eqO_ok h6) (of_decide_eq_true h7) (of_decide_eq_true h8)
/-- a property's getter: the def -/
structure GD where
  c : Str
  f : Str
  qual : Str
  params : Arguments
  body : List Stmt
  scope : Scope
def GD.val (d : GD) : FnZ := some (d.f, d.qual, d.params, .stmts d.body, d.scope, mainGlobals, [], .none, builtinsNs)
def getB (K : PySem.W.Frag) (a : Addr) (qual : Str) : Bool := PySem.W.keepIn K (.ref a) && (funcAt K a).any fun fd => PySem.W.codeIn K fd.code qual
theorem get_ok {K : PySem.W.Frag} {x qual : Str} {st : Stmt} {a : Addr} (e : fnAt K a = some (x, qual, defArgs st, .stmts (defBody st), defScope st, mainGlobals, [], .none, builtinsNs)) (c : getB K a qual = true) : ∃ fd, Fun K x qual st a fd := by
  obtain ⟨kp, c2⟩ := ba c
  obtain ⟨fd, oc, od, osl, lk, q, h1, h2, h3, h4, h5, h6, h7, h8, h9⟩ := fnAt_at e
  rw [q] at c2
  obtain ⟨n1, n2, n3, n4, n5, n6, n7, n8, n9, n10, n11, n12, n13, n14, n15⟩ := fd
  simp only [List.map_eq_nil_iff] at h1 h2 h3 h4 h5 h6 h7 h8 h9
  subst h1 h2 h3 h4 h5 h6 h7 h8 h9
  exact ⟨_, ⟨⟨oc, od, n9, n10, n11, n12, n13, n14, osl, rfl, lk, c2⟩, kp⟩⟩
def EX.ok (file : Str) (K : PySem.W.Frag) : EX → Bool
  | .con x c => (match PySem.W.nsIn K mainGlobals x with
    | some (some v) => cvB K c v
    | _ => false)
  | .pts x kvs => (match K.lookup (ga K x) with
    | some ⟨_, _, .dict es _, _⟩ => entsB K kvs es.toList
    | _ => false)
  | .prop c f => propB K c f
  | .xcl x q => xclB K file x q
  | .exC x => exCB K (ga K x)
  | .xf x => xfB K (ga K x)
  | .exm x y b => eqB (PySem.W.exmOne K (.ref (ga K x)) (.ref (ga K y))) (some b)
  | .kit x y b => eqB (PySem.W.kitOne K (.ref (ga K x)) (.ref (ga K y))) (some b)
  | .kitv x t => eqB (PySem.W.kitOne K (.ref (ga K x)) (.type t)) (some true)
  | .getc c f q => getB K (geAd K c f) q
  | .ne x y => !decide (ga K x = ga K y)
section
variable {P : Program} {w : World} {K : PySem.W.Frag} {h : Heap} {mg : Str → Option Value} {file : Str}
theorem con_ok (X : K.In h) (G : h.Ns mainGlobals mg) {x : Str} {c : CV} (e : (EX.con x c).ok file K = true) : Cst P w K mg x c.d := by
  have e1 : (match PySem.W.nsIn K mainGlobals x with
    | some (some v) => cvB K c v
    | _ => false) = true := e
  cases q : PySem.W.nsIn K mainGlobals x with
  | none => rw [q] at e1; cases e1
  | some o =>
    rw [q] at e1
    cases o with
    | none => cases e1
    | some v =>
      obtain ⟨u, r, k⟩ := cv_ok (P := P) (w := w) (show cvB K c v = true from e1)
      exact ⟨v, u, PySem.W.mg_of X G q, r, k⟩
theorem pts_ok (X : K.In h) (G : h.Ns mainGlobals mg) {x : Str} {kvs : List (Str × CV)} (e : (EX.pts x kvs).ok file K = true) (g : (Fa.glo x).ok K = true) (t : ∃ es n, KDict K w (ga K x) es n) (ne : kvs ≠ []) (hl : kvs.length ≤ sizeLine) :
    Cst P w K mg x (.dic (kvs.map fun p => .str p.1) (kvs.map fun p => p.2.d)) := by
  obtain ⟨es, n, T⟩ := t
  have e1 : (match K.lookup (ga K x) with
    | some ⟨_, _, .dict es _, _⟩ => entsB K kvs es.toList
    | _ => false) = true := e
  rw [T.at_] at e1
  obtain ⟨us, e2, pr, ks⟩ := ents_ok (P := P) (w := w) (show entsB K kvs es.toList = true from e1)
  have el : us.length = kvs.length := by have := congrArg List.length e2; simpa using this
  have e3 : (kvs.map fun p => D.str p.1) = us.map fun p => D.str p.1 := by
    have := congrArg (List.map D.str) e2
    rw [List.map_map, List.map_map] at this
    exact this.symm
  refine ⟨.ref (ga K x), .ref (ga K x), glo_ok X G g, rfl, fun H C Z => .dicKd (kvs := us) ⟨⟨es, n, T, pr⟩, by rw [el]; exact hl, fun z => ne ?_⟩ e3 (ks H C Z)⟩
  rw [z] at el
  exact List.length_eq_zero_iff.mp el.symm
end
/-! ### the part of the heap that is looked at: what is met in so many steps, what was met marked in one number -/
def addN (as : List Addr) : List Addr → Nat → List Addr × Nat
  | [], v => (as, v)
  | b :: r, v => match Nat.beq (Nat.land (Nat.shiftRight v b) 1) 1 with
    | true => addN as r v
    | false => addN (b :: as) r (Nat.lor v (Nat.shiftLeft 1 b))
def refsF (g : Addr → Option Obj) : List Addr → List Addr → Nat → List Addr × Nat
  | [], as, v => (as, v)
  | a :: r, as, v => match g a with
    | some o => match addN as (refsD o) v with
      | (as', v') => refsF g r as' v'
    | none => refsF g r as v
def lvlB (g : Addr → Option Obj) : Nat → List Addr → List Addr → Nat → List Addr
  | 0, fr, acc, _ => acc ++ fr
  | n + 1, fr, acc, v => match refsF g fr [] v with
    | (fr', v') => lvlB g n fr' (acc ++ fr) v'
def asB (g : Addr → Option Obj) (n : Nat) : List Addr := lvlB g n [mainGlobals] [cStatics] (Nat.lor (Nat.shiftLeft 1 mainGlobals) (Nat.shiftLeft 1 cStatics))
/-! ### the Hook -/
abbrev AlZ : Type := AlT × Bool × List FnZ × List FnZ
def obsZ (file : Str) (fa : List Fa) (fn : List DefD) (ts : List Tab) (ex : List EX) (xs : List XD) (gs : List GD) (K : PySem.W.Frag) : AlZ := (obsT fa fn ts K, (ex.all fun e => e.ok file K), (xs.map fun d => fnZ K (d.x, some "__init__")), gs.map fun d => fnAt K (geAd K d.c d.f))
def valZ (fn : List DefD) (ts : List Tab) (xs : List XD) (gs : List GD) (w : World) : AlZ := (valT fn ts w, true, xs.map XD.val, gs.map GD.val)
def obsZG (n : Nat) (file : Str) (fa : List Fa) (fn : List DefD) (ts : List Tab) (ex : List EX) (xs : List XD) (gs : List GD) (g : Addr → Option Obj) : AlZ := obsZ file fa fn ts ex xs gs (frG g (asB g n))
def SaysZ (file : Str) (fa : List Fa) (fn : List DefD) (ts : List Tab) (ex : List EX) (xs : List XD) (gs : List GD) (w : World) (K : PySem.W.Frag) : Prop := obsZ file fa fn ts ex xs gs K = valZ fn ts xs gs w
def hookZ (n : Nat) (file : Str) (fa : List Fa) (fn : List DefD) (ts : List Tab) (ex : List EX) (xs : List XD) (gs : List GD) : PySem.W.Hook where
  α := AlZ
  obs := fun s => obsZG n file fa fn ts ex xs gs s.heap.get?
  val := fun w => valZ fn ts xs gs w
  says := fun w h => ∃ K : PySem.W.Frag, K.In h ∧ SaysZ file fa fn ts ex xs gs w K
  of := fun _ _ e => ⟨_, frG_in, e⟩
  keeps := fun _ _ _ ⟨K, hK, c⟩ k => ⟨K, PySem.W.Frag.In.keeps hK k, c⟩
theorem obsZG_eq {n : Nat} {file : Str} {fa : List Fa} {fn : List DefD} {ts : List Tab} {ex : List EX} {xs : List XD} {gs : List GD} {g : Addr → Option Obj} {s : Shared} (h : ∀ a, g a = s.heap.get? a) : obsZG n file fa fn ts ex xs gs g = (hookZ n file fa fn ts ex xs gs).obs s := by
  have e : g = s.heap.get? := funext h
  rw [e] <;> rfl
section
variable {file : Str} {fa : List Fa} {fn : List DefD} {ts : List Tab} {ex : List EX} {xs : List XD} {gs : List GD} {w : World} {K : PySem.W.Frag}
theorem SaysZ.t (c : SaysZ file fa fn ts ex xs gs w K) : SaysT fa fn ts w K := congrArg (fun z : AlZ => z.1) c
theorem SaysZ.exs (c : SaysZ file fa fn ts ex xs gs w K) (i : Nat) {e : EX} (h : ex[i]? = some e := by rfl) : e.ok file K = true := by
  have c1 : (ex.all fun e => e.ok file K) = true := congrArg (fun z : AlZ => z.2.1) c
  exact List.all_eq_true.mp c1 e (List.mem_of_getElem? h)
theorem SaysZ.xd (c : SaysZ file fa fn ts ex xs gs w K) (i : Nat) {d : XD} (h : xs[i]? = some d := by rfl) : fnZ K (d.x, some "__init__") = d.val := by
  have e : (xs.map fun d => fnZ K (d.x, some "__init__")) = xs.map XD.val := congrArg (fun z : AlZ => z.2.2.1) c
  have e2 : (xs.map fun d => fnZ K (d.x, some "__init__"))[i]? = (xs.map XD.val)[i]? := by rw [e]
  rw [List.getElem?_map, List.getElem?_map, h] at e2
  exact Option.some.inj e2
theorem SaysZ.gd (c : SaysZ file fa fn ts ex xs gs w K) (i : Nat) {d : GD} (h : gs[i]? = some d := by rfl) : fnAt K (geAd K d.c d.f) = d.val := by
  have e : (gs.map fun d => fnAt K (geAd K d.c d.f)) = gs.map GD.val := congrArg (fun z : AlZ => z.2.2.2) c
  have e2 : (gs.map fun d => fnAt K (geAd K d.c d.f))[i]? = (gs.map GD.val)[i]? := by rw [e]
  rw [List.getElem?_map, List.getElem?_map, h] at e2
  exact Option.some.inj e2
end
/-- an own exception's __init__ binds its parameters -/
theorem xbinds {P : Program} {K : PySem.W.Frag} {mg : Str → Option Value} {C f cda cc : Addr} {qual : Str} {ar : Arguments} {body : List Stmt} {sc : Scope} {fd : FuncData} {ps : List Str} (T : XcTxt P K mg C f qual ar body sc fd cda cc)
    (h : ∀ (kV doc pm : Value) (an : Option Addr) (ct : Value) (us : List Value), us.length = ps.length → bindArgs (PySem.W.fnX "__init__" qual ar body sc [("__class__", cc)] .none kV doc pm an (.ref cda) ct) ⟨us, []⟩ = pure (ps.zip us)) : Binds K fd ps [] := by
  obtain ⟨oc, od, kV, doc, pm, an, ct, osl, rfl, lk⟩ := T.lk
  exact .all (h kV doc pm an ct)
/-- a def with no defaults, as the layer wants it -/
theorem fun_of {K : PySem.W.Frag} {x qual : Str} {st : Stmt} {f : Addr} {fd : FuncData} (F : FunD K x qual (defArgs st) (defBody st) (defScope st) [] [] f fd) : Fun K x qual st f fd := by
  obtain ⟨oc, od, dV, kV, doc, pm, an, cdv, ct, osl, rfl, lk, hcd, hd, _⟩ := F.ex
  have e : dV = .none := by
    rcases hd with ⟨_, e⟩ | ⟨e, _⟩
    · exact e
    · exact absurd rfl e
  subst e
  exact ⟨⟨oc, od, kV, doc, pm, an, cdv, ct, osl, rfl, lk, hcd⟩, F.kp⟩
end AH

set_option Elab.async false
set_option linter.all false
set_option maxRecDepth 100000
set_option maxHeartbeats 2000000
/-! AlB: what the functional readings come to, one lemma a construct; small lemmas about cells and fields. -/
namespace AL
open PySem PySem.Spec PyProof.Rows L2 DL

/-! ### values of readings -/
section
variable {f g h : En → Cs → Option D} {ga : En → Cs → Option (List D)} {q r : En → Cs → Option Bool} {E : En} {C : Cs} {x y z d : D} {xs ys : List D} {b : Bool} {i j : Int}
theorem ev_op {op : VOp} (hf : f E C = some x) (hg : g E C = some y) (h : op C x y = some z) : fOp op f g E C = some z := by unfold fOp; rw [hf, hg]; exact h
theorem ev_cons (hf : f E C = some x) (hg : ga E C = some xs) : fCons f ga E C = some (x :: xs) := by unfold fCons; rw [hf, hg]
theorem ev_star (hf : f E C = some x) (hx : asSeq C x = some ys) (hg : ga E C = some xs) : fStar f ga E C = some (ys ++ xs) := by unfold fStar; rw [hf, hg]; simp only [hx]
theorem ev_tup (h : ga E C = some xs) (hl : xs.length ≤ sizeLine) : fTup ga E C = some (.tup xs) := by unfold fTup; rw [h]; simp only [hl, if_true]
theorem ev_lst (h : ga E C = some xs) (hl : xs.length ≤ sizeLine) : fLst ga E C = some (.lst xs) := by unfold fLst; rw [h]; simp only [hl, if_true]
theorem ev_call {vc : VC} (h : ga E C = some xs) (hv : vc C xs = some z) : fCall vc ga E C = some z := by unfold fCall; rw [h]; exact hv
theorem ev_cal {n : Nat} {fn : List D → Cs → Option D} (h : ga E C = some xs) (hn : xs.length = n) (hv : fn xs C = some z) : fCal n fn ga E C = some z := by unfold fCal; rw [h]; simp only [hn, if_true]; exact hv
theorem ev_fld {c a : Addr} {n : Str} {fs : List (Str × D)} (h1 : f E C = some (.ref a)) (h2 : C a = some (.ins c fs)) (h3 : fs.lookup n = some x) : fFld c n f E C = some x := by unfold fFld; rw [h1]; simp only [h2, if_true]; exact h3
theorem ev_prop {c a : Addr} {fs : List (Str × D)} {sf : List D → Cs → Option D} (h1 : f E C = some (.ref a)) (h2 : C a = some (.ins c fs)) (h3 : sf [.ref a] C = some x) : fProp c sf f E C = some x := by unfold fProp; rw [h1]; simp only [h2, if_true]; exact h3
theorem ev_B (h : f E C = some (.bl b)) : fB f E C = some b := by unfold fB; rw [h]
theorem ev_and (b1 b2 : Bool) (hf : f E C = some (.bl b1)) (hg : b1 = true → g E C = some (.bl b2)) : fAnd f g E C = some (.bl (b1 && b2)) := by
  unfold fAnd; rw [hf]; cases b1
  · rfl
  · simp only [Bool.true_and]; exact hg rfl
theorem ev_or (b1 b2 : Bool) (hf : f E C = some (.bl b1)) (hg : b1 = false → g E C = some (.bl b2)) : fOr f g E C = some (.bl (b1 || b2)) := by
  unfold fOr; rw [hf]; cases b1
  · simp only [Bool.false_or]; exact hg rfl
  · rfl
theorem ev_not (h : f E C = some (.bl b)) : fNot f E C = some (.bl (!b)) := by unfold fNot; rw [h]
theorem ev_gand (b1 b2 : Bool) (hf : q E C = some b1) (hg : b1 = true → r E C = some b2) : gAnd q r E C = some (b1 && b2) := by
  unfold gAnd; rw [hf]; cases b1
  · rfl
  · simp only [Bool.true_and]; exact hg rfl
theorem ev_gor (b1 b2 : Bool) (hf : q E C = some b1) (hg : b1 = false → r E C = some b2) : gOr q r E C = some (b1 || b2) := by
  unfold gOr; rw [hf]; cases b1
  · simp only [Bool.false_or]; exact hg rfl
  · rfl
theorem ev_gnot (h : q E C = some b) : gNot q E C = some (!b) := by unfold gNot; rw [h]; rfl
theorem ev_if (b : Bool) (hq : q E C = some b) (hf : b = true → f E C = some x) (hg : b = false → g E C = some x) : fIf q f g E C = some x := by
  unfold fIf; rw [hq]; cases b
  · exact hg rfl
  · exact hf rfl
theorem ev_ch {op op' : VOp} (b1 b2 : Bool) (hf : f E C = some x) (hg : g E C = some y) (h1 : op C x y = some (.bl b1)) (hh : b1 = true → h E C = some z ∧ op' C y z = some (.bl b2)) : fCh op op' f g h E C = some (.bl (b1 && b2)) := by
  unfold fCh; rw [hf, hg]; simp only [h1]; cases b1
  · rfl
  · simp only [Bool.true_and]
    obtain ⟨h2, h3⟩ := hh rfl
    rw [h2]
    exact h3
theorem ev_seqT (h : f E C = some (.tup xs)) : fSeq f E C = some xs := by unfold fSeq; rw [h]
theorem ev_seqL (h : f E C = some (.lst xs)) : fSeq f E C = some xs := by unfold fSeq; rw [h]
theorem ev_keys (h : f E C = some (.dic xs ys)) : fKeys f E C = some xs := by unfold fKeys; rw [h]
theorem ev_items (h : f E C = some (.dic xs ys)) : fItems f E C = some (zipD xs ys) := by unfold fItems; rw [h]
theorem ev_enum (h : f E C = some d) (hs : seqD d = some xs) : fEnum f E C = some (enumD xs 0) := by unfold fEnum; rw [h]; simp only [hs]; rfl
theorem ev_zip {d2 : D} (h : ga E C = some [d, d2]) (h1 : seqD d = some xs) (h2 : seqD d2 = some ys) : fZip ga E C = some (zipD xs ys) := by unfold fZip; rw [h]; simp only [h1, h2]
theorem ev_range (n : Nat) (h : f E C = some (.int n)) (hn : n ≤ sizeLine) : fRange f E C = some (intsD 0 n) := by
  unfold fRange; rw [h]
  have e : (0 : Int) ≤ (n : Int) ∧ (n : Int).toNat ≤ sizeLine := ⟨Int.natCast_nonneg n, by rw [Int.toNat_natCast]; exact hn⟩
  show (if 0 ≤ (n : Int) ∧ (n : Int).toNat ≤ sizeLine then some (intsD 0 (n : Int).toNat) else none) = _
  rw [if_pos e, Int.toNat_natCast]
theorem ev_lc {fi : FTI} {vs : List Nat} {gt : D → En → Option En} (h1 : fi E C = some xs) (h2 : lcGo (wipeD E vs) C gt q f xs = some ys) : fLc fi vs gt q f E C = some (.lst ys) := by unfold fLc; rw [h1]; simp only [h2]
theorem ev_part (h : f E C = some (.int i)) : fPart f E C = some (some i) := by unfold fPart; rw [h]
theorem ev_slT {l u : En → Cs → Option (Option Int)} {lo hi : Option Int} (h : f E C = some (.tup xs)) (h1 : l E C = some lo) (h2 : u E C = some hi) : fSl f l u E C = some (.tup (cutD xs lo hi)) := by unfold fSl; rw [h, h1, h2]
theorem ev_slL {l u : En → Cs → Option (Option Int)} {lo hi : Option Int} (h : f E C = some (.lst xs)) (h1 : l E C = some lo) (h2 : u E C = some hi) : fSl f l u E C = some (.lst (cutD xs lo hi)) := by unfold fSl; rw [h, h1, h2]; rfl
theorem ev_isi {T t : String} (h : f E C = some d) (ht : tyD C d = some t) (hb : kitB t T = some b) : fIsi T f E C = some (.bl b) := by unfold fIsi; rw [h]; simp only [ht, hb, Option.map_some]
/-- a comprehension over items that are told by α -/
theorem lc_map {α β : Type} {gt : D → En → Option En} {e : α → D} {e2 : β → D} {p : α → Bool} {v : α → β} {E2 : α → En} : ∀ {l : List α}, (∀ a ∈ l, gt (e a) E = some (E2 a)) → (∀ a ∈ l, q (E2 a) C = some (p a)) → (∀ a ∈ l, p a = true → f (E2 a) C = some (e2 (v a))) →
    lcGo E C gt q f (l.map e) = some (((l.filter p).map v).map e2)
  | [], _, _, _ => rfl
  | a :: l, h1, h2, h3 => by
    have ih := lc_map (l := l) (fun a m => h1 a (List.mem_cons_of_mem _ m)) (fun a m => h2 a (List.mem_cons_of_mem _ m)) (fun a m => h3 a (List.mem_cons_of_mem _ m))
    have m := List.mem_cons_self (a := a) (l := l)
    show lcGo E C gt q f (e a :: l.map e) = _
    unfold lcGo
    rw [h1 a m]
    simp only [h2 a m]
    cases hp : p a
    · simp only [ih]; rw [List.filter_cons_of_neg (by simp [hp])]
    · simp only [h3 a m hp, ih]; rw [List.filter_cons_of_pos hp]; rfl
end
theorem ret_done {f : En → Cs → Option D} {Q : DK} {n : En → Cs → Prop} {E : En} {C : Cs} {v : D} (h : f E C = some v) (q : Q v C) : dRet (ofF f) { nx := n, rt := fun v C' => ∃ C2, DL.Sub C2 C' ∧ Q v C2 } E C := ⟨v, h, C, .refl, q⟩
/-- a comprehension whose parts are pure: the finished items at once -/
theorem lc_is {ti : DTI} {xs r : List D} {vs : List Nat} {g : D → En → Option En} {q : En → Cs → Option Bool} {f : En → Cs → Option D} {E : En} {C : Cs} {Q : DK} (h1 : ∀ R : List D → Cs → Prop, R xs C → ti E C R) (h2 : lcGo (wipeD E vs) C g q f xs = some r) (h3 : ∀ p, C p = none → Q (.ref p) (cupd C p (.lst r))) : dLc ti vs g (ofQ q) (ofF f) E C Q := by
  refine h1 _ ⟨fun i acc C' => C' = C ∧ ∃ ys, lcGo (wipeD E vs) C g q f (xs.drop i) = some ys ∧ acc ++ ys = r, ⟨rfl, r, h2, rfl⟩, ?_, ?_⟩
  · rintro i x acc C' hx ⟨rfl, ys, hy, ha⟩
    obtain ⟨E2, hg, h⟩ := lcGo_drop hx hy
    refine ⟨E2, hg, ?_⟩
    rcases h with ⟨hq, h⟩ | ⟨hq, y, zs, hf, h, rfl⟩
    · exact ⟨false, hq, rfl, ys, h, ha⟩
    · exact ⟨true, hq, y, hf, rfl, zs, h, by rw [List.append_assoc]; exact ha⟩
  · rintro acc C' ⟨rfl, ys, hy, ha⟩ p hp
    rw [List.drop_length] at hy
    cases hy
    rw [List.append_nil] at ha
    subst ha
    exact h3 p hp

/-! ### cells -/
/-- what stands stays, but at p -/
def Keep (p : Addr) (C C' : Cs) : Prop := ∀ a c, a ≠ p → C a = some c → C' a = some c
theorem Keep.refl {p : Addr} {C : Cs} : Keep p C C := fun _ _ _ h => h
theorem Keep.at {p : Addr} {C C' : Cs} {c : Cell} (h : Keep p C C') : Keep p C (cupd C' p c) := fun a x n e => by rw [cupd_ne n]; exact h a x n e
theorem Keep.new {p l : Addr} {C C' : Cs} {c : Cell} (h : Keep p C C') (hl : C' l = none) : Keep p C (cupd C' l c) := fun a x n e => by
  have e' := h a x n e
  rw [cupd_ne (fun z => by rw [z, hl] at e'; cases e')]; exact e'
theorem ne_cell {C : Cs} {a b : Addr} {c : Cell} (h : C a = some c) (h' : C b = none) : a ≠ b := fun z => by rw [z, h'] at h; cases h
theorem ne_cell' {C : Cs} {a b : Addr} {c : Cell} (h : C a = some c) (h' : C b = none) : b ≠ a := fun z => by rw [z] at h'; rw [h'] at h; cases h
theorem new_at {C : Cs} {a b : Addr} {c c' : Cell} (h : C a = some c) (h' : C b = none) : cupd C b c' a = some c := by rw [cupd_ne (ne_cell h h')]; exact h
theorem lookup_putFD (x y : Str) (v : D) : ∀ gs : List (Str × D), (putFD y v gs).lookup x = if x = y then some v else gs.lookup x
  | [] => by
    by_cases e : x = y
    · subst e; simp [putFD, List.lookup]
    · have e0 : (x == y) = false := beq_eq_false_iff_ne.mpr e
      simp [putFD, List.lookup, e0, e]
  | (g1, g2) :: r => by
    have ih := lookup_putFD x y v r
    unfold putFD
    by_cases e : g1 = y
    · subst e
      by_cases e2 : x = g1
      · subst e2; simp [List.lookup]
      · have e0 : (x == g1) = false := beq_eq_false_iff_ne.mpr e2
        simp [List.lookup, e0, e2]
    · simp only [e, if_false, List.lookup, ih]
      by_cases e2 : x = g1
      · subst e2; simp [e]
      · have e0 : (x == g1) = false := beq_eq_false_iff_ne.mpr e2
        simp [e0]
theorem length_putFD (y : Str) (v : D) : ∀ gs : List (Str × D), (putFD y v gs).length ≤ gs.length + 1
  | [] => by simp [putFD]
  | (g1, g2) :: r => by
    have ih := length_putFD y v r
    unfold putFD
    by_cases e : g1 = y
    · simp [e]
    · simp [e]; exact ih
end AL

set_option Elab.async false
set_option linter.all false
set_option maxRecDepth 100000
set_option maxHeartbeats 2000000
/-! AlC: the script's copy, a law's own body, the end over the heads' facts. -/
namespace AL
open PySem PySem.Spec PyProof.Rows L2 DL

/-- the def that copies the script: [list(script), 0, 0, 7] -/
def spDr (K : PySem.W.Frag) : Sp := fun vs H Q _ => ∃ (a : Addr) (ns : List Int), vs = [.ref a] ∧ SqL K H a (ns.map V.int) ∧
  ∀ l r, H l = none → upd H l (.lst (ns.map V.int)) r = none → Q (.ref r) (upd (upd H l (.lst (ns.map V.int))) r (.lst [.ref l, .int 0, .int 0, .int 7]))
structure CalDr (P : Program) (w : World) (K : PySem.W.Frag) (mg : Str → Option Value) (base : Heap) (x y : Str) (k : Nat) : Prop where
  ex : ∃ a fd, mg x = some (.ref a) ∧ PySem.W.keepIn K (.ref a) = true ∧ Binds K fd [y] [] ∧ FnOk P w K mg base (L2.CX P w) k a fd [y] (spDr K)
section
variable {P : Program} {w : World} {K : PySem.W.Frag} {mg : Str → Option Value} {base : Heap}
theorem ok_dr {x qual y : Str} {st : Stmt} {f : Addr} {fd : FuncData} (F : Fun K x qual st f fd) (S : FnScope [y] [y] (defScope st)) {p0 p1 p2 p3 p4 p5 p6 p7 : Pos} {j0 j1 j2 : Nat}
    (hb : defBody st = [.Return (some (.List [.Call (.Name "list" p0) [.Name y p1] [] p2, .Constant (.int 0) j0 p3, .Constant (.int 0) j1 p4, .Constant (.int 7) j2 p5] p6)) p7])
    (hm : mg "list" = none) (hg : ∀ (cdv : Value) (A : Around) (outer : List Env) (s : Shared) (H : Hp) (E : XK), Gl (cxOf (L2.CX P w) P w K mg base [y] qual (defScope st) f cdv A outer s H E) "list")
    (hv : Vis (defScope st) y) (d1 : (y == ("__debug__" : Str)) = false) (d2 : (y == ("__classdict__" : Str)) = false) : FnOk P w K mg base (L2.CX P w) 2 f fd [y] (spDr K) := by
  refine F.okX S (fun vs H Q E h => ?_) (fun cdv A outer s H vs Q E hr h => ?_)
  · obtain ⟨a, ns, rfl, _⟩ := h
    rfl
  · obtain ⟨a, ns, rfl, hS, k⟩ := h
    rw [hb]
    refine ⟨_, pss_one (ps_ret (pe_lst (pa_cons (pe_callTy call_list_of (hg cdv A outer s H E) hm (by decide +kernel) (pa_cons (pe_var (i := 0) rfl hv d1 d2) pa_nil)) (pa_cons pe_int (pa_cons pe_int (pa_cons pe_int pa_nil)))))), ?_⟩
    refine ⟨.ref a, rfl, a, _, rfl, .inl hS, fun l hl => ⟨by show 4 ≤ sizeLine; decide, fun r hr => ?_⟩⟩
    exact k l r hl hr
end
section
variable {X : Cx} {B : Bs} {W : DXK}
def dDraws (i : Nat) (a : Addr) (ns : List Int) : DT := fun E C Q => E[i]? = some (some (.ref a)) ∧ ∀ l r, C l = none → r ≠ l → C r = none → Q (.ref r) (cupd (cupd C l (.lst (ns.map D.int))) r (.lst [.ref l, .int 0, .int 0, .int 7]))
theorem rds_ints {P : Program} {w : World} {K : PySem.W.Frag} {H : Hp} {C : Cs} {Z : Addr → Prop} : ∀ ns : List Int, RDs P w K H C Z (ns.map D.int) (ns.map V.int)
  | [] => .nil
  | n :: ns => .cons (.int n) (rds_ints ns)
theorem de_draws {x y : Str} {p p1 pos : Pos} {i k : Nat} {a : Addr} {ns : List Int} (lx : LinkX X B W) (G : CalDr X.prog X.w X.K X.mg X.base x y k) (hr : Room k X.A) (hg : Gl X x) {z : Str} (hv : FE X B (.Name z p1) (fV i)) (hS : SqL X.K B.H a (ns.map V.int)) (hC : B.C a = none) (hl : ns.length ≤ sizeLine)
    (hdb : (x == ("__debug__" : Str)) = false := by decide) (he : starEach ((.Name z p1) :: []) X.env = (false, eval (.Name z p1) X.env) :: starEach [] X.env := by rfl) (hpl : (backTo pos (starEach [] X.env)).any (·.1) = false := by rfl) :
    DE X B (.Call (.Name x p) [.Name z p1] [] pos) (dDraws i a ns) := by
  obtain ⟨f, fd, hm, hk, hb, F⟩ := G.ex
  obtain ⟨Wx, tk, lx⟩ := lx.ex
  obtain ⟨t0, q, h1⟩ := (da_cons hv (da_nil (X := X) (B := B)) he).ex
  refine ⟨_, pe_call (E := Wx) F hr hg hm hk hb .nil (passes_call tk fun _ _ _ _ z => z) q hdb he hpl, fun E C σ H Q Q0 s ⟨e, q1⟩ k => ?_⟩
  refine h1 E C σ H (fun ds C1 => ds = [.ref a] ∧ C1 = C) _ s ⟨.ref a, by show (E[i]?).join = _; rw [e]; rfl, rfl, rfl⟩ fun ds C1 vs H1 p1 s1 r1 ⟨e1, e2⟩ => ?_
  subst e1 e2
  obtain ⟨v, rfl, rv⟩ := rds1 r1
  cases rv
  have hS1 : SqL X.K H1 a (ns.map V.int) := by
    have pp : Pers B.H B.C H1 C1 := s.ps.trans p1
    rcases hS with (h | ⟨o, h⟩) | h
    · exact .inl (.inl (pp.obj a _ h hC))
    · exact .inl (.inr ⟨o, pp.obj a _ h hC⟩)
    · exact .inr h
  refine ⟨a, ns, rfl, hS1, fun l r hl0 hr0 => ?_⟩
  have hrl : r ≠ l := fun z => by rw [z, upd_same] at hr0; cases hr0
  have hr1 : H1 r = none := by rw [upd_ne hrl] at hr0; exact hr0
  have hlr : l ≠ r := Ne.symm hrl
  have s2 : Sy X.prog X.w X.K (upd H1 l (.lst (ns.map V.int))) (cupd C1 l (.lst (ns.map D.int))) B.Z := s1.new hl0 ⟨_, upd_same, by rw [List.length_map]; exact hl, rds_ints ns⟩
  have s3 : Sy X.prog X.w X.K (upd (upd H1 l (.lst (ns.map V.int))) r (.lst [.ref l, .int 0, .int 0, .int 7])) (cupd (cupd C1 l (.lst (ns.map D.int))) r (.lst [.ref l, .int 0, .int 0, .int 7])) B.Z :=
    s2.new hr0 ⟨_, upd_same, by show 4 ≤ sizeLine; decide, .cons (.ref l) (.cons (.int 0) (.cons (.int 0) (.cons (.int 7) .nil)))⟩
  exact k _ _ _ _ (p1.trans ((Pers.new hl0).trans (Pers.new hr0))) s3 (.ref r) (q1 l r (s1.free hl0) hrl (s1.free hr1))
end
/-- the law's own promise -/
def spLw (K : PySem.W.Frag) : Sp := fun vs H Q _ => ∃ (a : Addr) (ns : List Int), vs = [.ref a] ∧ SqL K H a (ns.map V.int) ∧ ns.length ≤ 63 ∧ ∀ H', Q (.bl true) H'
theorem law_fn {P : Program} {w : World} {K : PySem.W.Frag} {mg : Str → Option Value} {base : Heap} {x qual y : Str} {st : Stmt} {f : Addr} {fd : FuncData} {N : List Str} {k : Nat} (F : Fun K x qual st f fd) (S : FnScope N [y] (defScope st))
    (hb : ∀ (X : Cx) (B : Bs) (a : Addr) (ns : List Int), (∃ cdv A outer s H E, X = cxOf (L2.CX P w) P w K mg base N qual (defScope st) f cdv A outer s H E) → Room k X.A → PassesOwn (model X.prog X.w) X.A X.env X.xe → LinkX X B DX0 → SqL X.K B.H a (ns.map V.int) → B.C a = none → ns.length ≤ 63 →
      ∃ t, DSs X B (defBody st) t ∧ t { nx := fun _ _ => False, rt := fun v _ => v = .bl true } (startD N [.ref a]) (fun _ => none)) :
    FnOk P w K mg base (L2.CX P w) (k + 1) f fd [y] (spLw K) := by
  refine F.okX S (fun vs H Q E h => ?_) (fun cdv A outer s H vs Q E hr h => ?_)
  · obtain ⟨a, ns, rfl, _⟩ := h
    rfl
  · obtain ⟨a, ns, rfl, hS, hl, k⟩ := h
    have sy : Sy P w K H (fun _ => none) (fun _ => False) := ⟨fun _ _ e => (nomatch e), fun _ z => z.elim⟩
    obtain ⟨t, ht, hq⟩ := hb (cxOf (L2.CX P w) P w K mg base N qual (defScope st) f cdv A outer s H E) ⟨H, fun _ => none, fun _ => False⟩ a ns ⟨cdv, A, outer, s, H, E, rfl⟩ hr (passes_of rfl) link0 hS rfl hl
    obtain ⟨t0, p, h0⟩ := ht.ex
    refine ⟨t0, p, h0 (startD N [.ref a]) (fun _ => none) (L2.start N [.ref a]) H _ _ ⟨start_re (.cons (.ref a) .nil), sy, .refl⟩ hq ⟨?_, ?_, ?_, ?_⟩⟩
    · exact fun E' C' σ' H' p1 s1 q1 => q1.elim
    · exact fun v C' u H' p1 s1 _ r1 q1 => by subst q1; cases r1; exact k H'
    · exact fun E' C' σ' H' p1 s1 q1 => q1.elim
    · exact fun E' C' σ' H' p1 s1 q1 => q1.elim
/-- the end -/
theorem walk_z {l : PySem.W.OpenLaw} {k : Nat} {q : Program} {loose : List Str} {XP : (Str → Option Value) → Heap → Prop} {YP : World → Heap → Prop} {d : DefRec} {x : Str} (hn : l.most = some 63) (hdf : d.params.defaults = []) (hr : Room k callerA)
    (F : ∀ (w : World) (mg : Str → Option Value) (fa : Addr) (h : Heap), YP w h → h.Ns mainGlobals mg → mg d.name = some (.ref fa) →
      ∃ (K : PySem.W.Frag) (fd : FuncData), K.In h ∧ (∀ (s : Shared) (u : Value), BindsTo s fd ⟨[u], []⟩ [(x, u)]) ∧ ∀ base : Heap, K.In base → base.Ns mainGlobals mg → FnOk l.prog w K mg base (L2.CX l.prog w) k fa fd [x] (spLw K)) :
    PySem.W.WalkO q loose XP YP l.row.toRowW d [] (fun f vs => PySem.call f vs) :=
  Att.attach_call hn hdf fun w s₀ s₁ mg mb fa o pm cd doc a vs ns G Y _ _ _ hmg hobj hints hlen hg =>
    match F w mg fa _ Y G.T.g hmg with
    | ⟨K, fd, KX, hb, hF⟩ => law_call (sp := spLw K) KX G.T.g G.T.b G.T.builtins G.T.nolimit hg hobj hints (Nat.le_trans hlen (by decide)) hr hF hb (fun H _ hS => ⟨a, ns, rfl, hS, hlen, fun _ => rfl⟩)
      fun H e s' hc => by
        obtain ⟨_, _, _, _, _, _, _, _, _, _, _, _, z⟩ := hc
        exact z
end AL

set_option Elab.async false
set_option linter.all false
set_option maxRecDepth 100000
set_option maxHeartbeats 4000000
namespace AL
open PySem PySem.Spec PyProof.Rows L2 DL
def top (i : Nat) : Stmt := PySem.Challenge.pw_alarmletters_k13_errors_apart.main.body.getD i (.Pass ⟨0, 0, 0, 0⟩)
structure Ad where
  AlarmError : Addr
  BadEvent : Addr
  BadKind : Addr
  BadKinds : Addr
  BadLine : Addr
  BadQuiet : Addr
  BadRule : Addr
  BadTimes : Addr
  Book : Addr
  Line : Addr
  NotComparable : Addr
  Record : Addr
  UnknownWord : Addr
def excs (Ω : Ad) : List Addr := [Ω.BadKinds, Ω.BadQuiet, Ω.BadTimes, Ω.BadRule, Ω.BadEvent, Ω.BadKind, Ω.NotComparable, Ω.UnknownWord, Ω.BadLine]

def gX (K : PySem.W.Frag) (L : List Addr) (cv : Value) (c : Value) : Option Bool := match c with
  | .ref D => if D ∈ L then PySem.W.kitOne K (.ref D) cv else none
  | _ => none
theorem gX_ok {K : PySem.W.Frag} {L : List Addr} {cv : Value} (h : ∀ D ∈ L, ExC K D) : ∀ c b, gX K L cv c = some b → ∃ D, c = .ref D ∧ ExC K D ∧ PySem.W.kitOne K (.ref D) cv = some b := fun c b e => by
  cases c with
  | ref D =>
    have e1 : (if D ∈ L then PySem.W.kitOne K (.ref D) cv else none) = some b := e
    by_cases hD : D ∈ L
    · rw [if_pos hD] at e1; exact ⟨D, rfl, h D hD, e1⟩
    · rw [if_neg hD] at e1; cases e1
  | _ => cases e
theorem gX_is {K : PySem.W.Frag} {L : List Addr} {cv : Value} {D : Addr} {b : Bool} (h : D ∈ L) (e : PySem.W.kitOne K (.ref D) cv = some b) : gX K L cv (.ref D) = some b := by
  show (if D ∈ L then PySem.W.kitOne K (.ref D) cv else none) = _
  rw [if_pos h]; exact e

structure Txt (P : Program) (w : World) (K : PySem.W.Frag) (mg : Str → Option Value) (Ω : Ad) : Prop where
  b_ValueError : mg "ValueError" = none
  b_all : mg "all" = none
  b_bool : mg "bool" = none
  b_dict : mg "dict" = none
  b_enumerate : mg "enumerate" = none
  b_int : mg "int" = none
  b_isinstance : mg "isinstance" = none
  b_len : mg "len" = none
  b_list : mg "list" = none
  b_range : mg "range" = none
  b_str : mg "str" = none
  b_tuple : mg "tuple" = none
  c_BOUNDS : Cst P w K mg "BOUNDS" (.tup [.tup [.int 0, .int 2], .tup [.int 1, .int 3], .tup [.int 0, .int 2], .tup [.int 1, .int 2], .tup [.int 1, .int 2]])
  c_GROUPS : Cst P w K mg "GROUPS" (.tup [.str "a", .str "b"])
  c_MOST_KINDS : Cst P w K mg "MOST_KINDS" (.int 2)
  c_NO_CLOCK : Cst P w K mg "NO_CLOCK" (.int (-1))
  c_POINTS : Cst P w K mg "POINTS" (.dic [.str "ends", .str "keeps", .str "passes", .str "repeats"] [.tup [.str "not", .str "tells"], .tup [.str "loud", .str "on"], .tup [.str "now", .str "then"], .tup [.str "always", .str "never"]])
  c_WORDS : Cst P w K mg "WORDS" (.tup [.str "nobody", .str "stale", .str "unheard"])
  exC : ∀ D ∈ excs Ω, ExC K D
  exm_BadEvent_AlarmError : PySem.W.exmOne K (.ref Ω.BadEvent) (.ref Ω.AlarmError) = some true
  exm_BadKind_AlarmError : PySem.W.exmOne K (.ref Ω.BadKind) (.ref Ω.AlarmError) = some true
  exm_BadKinds_AlarmError : PySem.W.exmOne K (.ref Ω.BadKinds) (.ref Ω.AlarmError) = some true
  exm_BadLine_AlarmError : PySem.W.exmOne K (.ref Ω.BadLine) (.ref Ω.AlarmError) = some true
  exm_BadQuiet_AlarmError : PySem.W.exmOne K (.ref Ω.BadQuiet) (.ref Ω.AlarmError) = some true
  exm_BadRule_AlarmError : PySem.W.exmOne K (.ref Ω.BadRule) (.ref Ω.AlarmError) = some true
  exm_BadTimes_AlarmError : PySem.W.exmOne K (.ref Ω.BadTimes) (.ref Ω.AlarmError) = some true
  exm_NotComparable_AlarmError : PySem.W.exmOne K (.ref Ω.NotComparable) (.ref Ω.AlarmError) = some true
  exm_UnknownWord_AlarmError : PySem.W.exmOne K (.ref Ω.UnknownWord) (.ref Ω.AlarmError) = some true
  f_Book_groups_of : Fld K Ω.Book "groups_of"
  f_Book_numbers : Fld K Ω.Book "numbers"
  f_Book_pairs : Fld K Ω.Book "pairs"
  f_Book_words : Fld K Ω.Book "words"
  f_Line_at_line : Fld K Ω.Line "at_line"
  f_Line_spot : Fld K Ω.Line "spot"
  f_Line_words_in : Fld K Ω.Line "words_in"
  f_Record_counts : Fld K Ω.Record "counts"
  f_Record_done : Fld K Ω.Record "done"
  f_Record_heard : Fld K Ω.Record "heard"
  f_Record_names : Fld K Ω.Record "names"
  f_Record_noted : Fld K Ω.Record "noted"
  f_Record_origin : Fld K Ω.Record "origin"
  f_Record_seen : Fld K Ω.Record "seen"
  f_Record_standing : Fld K Ω.Record "standing"
  m_AlarmError : mg "AlarmError" = some (.ref Ω.AlarmError)
  m_BadEvent : mg "BadEvent" = some (.ref Ω.BadEvent)
  m_BadKind : mg "BadKind" = some (.ref Ω.BadKind)
  m_BadKinds : mg "BadKinds" = some (.ref Ω.BadKinds)
  m_BadLine : mg "BadLine" = some (.ref Ω.BadLine)
  m_BadQuiet : mg "BadQuiet" = some (.ref Ω.BadQuiet)
  m_BadRule : mg "BadRule" = some (.ref Ω.BadRule)
  m_BadTimes : mg "BadTimes" = some (.ref Ω.BadTimes)
  m_NotComparable : mg "NotComparable" = some (.ref Ω.NotComparable)
  m_UnknownWord : mg "UnknownWord" = some (.ref Ω.UnknownWord)
  kit_BadEvent_BadEvent : PySem.W.kitOne K (.ref Ω.BadEvent) (.ref Ω.BadEvent) = some true
  kit_BadEvent_BadKind : PySem.W.kitOne K (.ref Ω.BadEvent) (.ref Ω.BadKind) = some false
  kit_BadEvent_BadKinds : PySem.W.kitOne K (.ref Ω.BadEvent) (.ref Ω.BadKinds) = some false
  kit_BadEvent_BadLine : PySem.W.kitOne K (.ref Ω.BadEvent) (.ref Ω.BadLine) = some false
  kit_BadEvent_BadQuiet : PySem.W.kitOne K (.ref Ω.BadEvent) (.ref Ω.BadQuiet) = some false
  kit_BadEvent_BadRule : PySem.W.kitOne K (.ref Ω.BadEvent) (.ref Ω.BadRule) = some false
  kit_BadEvent_BadTimes : PySem.W.kitOne K (.ref Ω.BadEvent) (.ref Ω.BadTimes) = some false
  kit_BadEvent_NotComparable : PySem.W.kitOne K (.ref Ω.BadEvent) (.ref Ω.NotComparable) = some false
  kit_BadEvent_UnknownWord : PySem.W.kitOne K (.ref Ω.BadEvent) (.ref Ω.UnknownWord) = some false
  kit_BadKind_BadEvent : PySem.W.kitOne K (.ref Ω.BadKind) (.ref Ω.BadEvent) = some false
  kit_BadKind_BadKind : PySem.W.kitOne K (.ref Ω.BadKind) (.ref Ω.BadKind) = some true
  kit_BadKind_BadKinds : PySem.W.kitOne K (.ref Ω.BadKind) (.ref Ω.BadKinds) = some false
  kit_BadKind_BadLine : PySem.W.kitOne K (.ref Ω.BadKind) (.ref Ω.BadLine) = some false
  kit_BadKind_BadQuiet : PySem.W.kitOne K (.ref Ω.BadKind) (.ref Ω.BadQuiet) = some false
  kit_BadKind_BadRule : PySem.W.kitOne K (.ref Ω.BadKind) (.ref Ω.BadRule) = some false
  kit_BadKind_BadTimes : PySem.W.kitOne K (.ref Ω.BadKind) (.ref Ω.BadTimes) = some false
  kit_BadKind_NotComparable : PySem.W.kitOne K (.ref Ω.BadKind) (.ref Ω.NotComparable) = some false
  kit_BadKind_UnknownWord : PySem.W.kitOne K (.ref Ω.BadKind) (.ref Ω.UnknownWord) = some false
  kit_BadKinds_BadEvent : PySem.W.kitOne K (.ref Ω.BadKinds) (.ref Ω.BadEvent) = some false
  kit_BadKinds_BadKind : PySem.W.kitOne K (.ref Ω.BadKinds) (.ref Ω.BadKind) = some false
  kit_BadKinds_BadKinds : PySem.W.kitOne K (.ref Ω.BadKinds) (.ref Ω.BadKinds) = some true
  kit_BadKinds_BadLine : PySem.W.kitOne K (.ref Ω.BadKinds) (.ref Ω.BadLine) = some false
  kit_BadKinds_BadQuiet : PySem.W.kitOne K (.ref Ω.BadKinds) (.ref Ω.BadQuiet) = some false
  kit_BadKinds_BadRule : PySem.W.kitOne K (.ref Ω.BadKinds) (.ref Ω.BadRule) = some false
  kit_BadKinds_BadTimes : PySem.W.kitOne K (.ref Ω.BadKinds) (.ref Ω.BadTimes) = some false
  kit_BadKinds_NotComparable : PySem.W.kitOne K (.ref Ω.BadKinds) (.ref Ω.NotComparable) = some false
  kit_BadKinds_UnknownWord : PySem.W.kitOne K (.ref Ω.BadKinds) (.ref Ω.UnknownWord) = some false
  kit_BadLine_BadEvent : PySem.W.kitOne K (.ref Ω.BadLine) (.ref Ω.BadEvent) = some false
  kit_BadLine_BadKind : PySem.W.kitOne K (.ref Ω.BadLine) (.ref Ω.BadKind) = some false
  kit_BadLine_BadKinds : PySem.W.kitOne K (.ref Ω.BadLine) (.ref Ω.BadKinds) = some false
  kit_BadLine_BadLine : PySem.W.kitOne K (.ref Ω.BadLine) (.ref Ω.BadLine) = some true
  kit_BadLine_BadQuiet : PySem.W.kitOne K (.ref Ω.BadLine) (.ref Ω.BadQuiet) = some false
  kit_BadLine_BadRule : PySem.W.kitOne K (.ref Ω.BadLine) (.ref Ω.BadRule) = some false
  kit_BadLine_BadTimes : PySem.W.kitOne K (.ref Ω.BadLine) (.ref Ω.BadTimes) = some false
  kit_BadLine_NotComparable : PySem.W.kitOne K (.ref Ω.BadLine) (.ref Ω.NotComparable) = some false
  kit_BadLine_UnknownWord : PySem.W.kitOne K (.ref Ω.BadLine) (.ref Ω.UnknownWord) = some false
  kit_BadQuiet_BadEvent : PySem.W.kitOne K (.ref Ω.BadQuiet) (.ref Ω.BadEvent) = some false
  kit_BadQuiet_BadKind : PySem.W.kitOne K (.ref Ω.BadQuiet) (.ref Ω.BadKind) = some false
  kit_BadQuiet_BadKinds : PySem.W.kitOne K (.ref Ω.BadQuiet) (.ref Ω.BadKinds) = some false
  kit_BadQuiet_BadLine : PySem.W.kitOne K (.ref Ω.BadQuiet) (.ref Ω.BadLine) = some false
  kit_BadQuiet_BadQuiet : PySem.W.kitOne K (.ref Ω.BadQuiet) (.ref Ω.BadQuiet) = some true
  kit_BadQuiet_BadRule : PySem.W.kitOne K (.ref Ω.BadQuiet) (.ref Ω.BadRule) = some false
  kit_BadQuiet_BadTimes : PySem.W.kitOne K (.ref Ω.BadQuiet) (.ref Ω.BadTimes) = some false
  kit_BadQuiet_NotComparable : PySem.W.kitOne K (.ref Ω.BadQuiet) (.ref Ω.NotComparable) = some false
  kit_BadQuiet_UnknownWord : PySem.W.kitOne K (.ref Ω.BadQuiet) (.ref Ω.UnknownWord) = some false
  kit_BadRule_BadEvent : PySem.W.kitOne K (.ref Ω.BadRule) (.ref Ω.BadEvent) = some false
  kit_BadRule_BadKind : PySem.W.kitOne K (.ref Ω.BadRule) (.ref Ω.BadKind) = some false
  kit_BadRule_BadKinds : PySem.W.kitOne K (.ref Ω.BadRule) (.ref Ω.BadKinds) = some false
  kit_BadRule_BadLine : PySem.W.kitOne K (.ref Ω.BadRule) (.ref Ω.BadLine) = some false
  kit_BadRule_BadQuiet : PySem.W.kitOne K (.ref Ω.BadRule) (.ref Ω.BadQuiet) = some false
  kit_BadRule_BadRule : PySem.W.kitOne K (.ref Ω.BadRule) (.ref Ω.BadRule) = some true
  kit_BadRule_BadTimes : PySem.W.kitOne K (.ref Ω.BadRule) (.ref Ω.BadTimes) = some false
  kit_BadRule_NotComparable : PySem.W.kitOne K (.ref Ω.BadRule) (.ref Ω.NotComparable) = some false
  kit_BadRule_UnknownWord : PySem.W.kitOne K (.ref Ω.BadRule) (.ref Ω.UnknownWord) = some false
  kit_BadTimes_BadEvent : PySem.W.kitOne K (.ref Ω.BadTimes) (.ref Ω.BadEvent) = some false
  kit_BadTimes_BadKind : PySem.W.kitOne K (.ref Ω.BadTimes) (.ref Ω.BadKind) = some false
  kit_BadTimes_BadKinds : PySem.W.kitOne K (.ref Ω.BadTimes) (.ref Ω.BadKinds) = some false
  kit_BadTimes_BadLine : PySem.W.kitOne K (.ref Ω.BadTimes) (.ref Ω.BadLine) = some false
  kit_BadTimes_BadQuiet : PySem.W.kitOne K (.ref Ω.BadTimes) (.ref Ω.BadQuiet) = some false
  kit_BadTimes_BadRule : PySem.W.kitOne K (.ref Ω.BadTimes) (.ref Ω.BadRule) = some false
  kit_BadTimes_BadTimes : PySem.W.kitOne K (.ref Ω.BadTimes) (.ref Ω.BadTimes) = some true
  kit_BadTimes_NotComparable : PySem.W.kitOne K (.ref Ω.BadTimes) (.ref Ω.NotComparable) = some false
  kit_BadTimes_UnknownWord : PySem.W.kitOne K (.ref Ω.BadTimes) (.ref Ω.UnknownWord) = some false
  kit_NotComparable_BadEvent : PySem.W.kitOne K (.ref Ω.NotComparable) (.ref Ω.BadEvent) = some false
  kit_NotComparable_BadKind : PySem.W.kitOne K (.ref Ω.NotComparable) (.ref Ω.BadKind) = some false
  kit_NotComparable_BadKinds : PySem.W.kitOne K (.ref Ω.NotComparable) (.ref Ω.BadKinds) = some false
  kit_NotComparable_BadLine : PySem.W.kitOne K (.ref Ω.NotComparable) (.ref Ω.BadLine) = some false
  kit_NotComparable_BadQuiet : PySem.W.kitOne K (.ref Ω.NotComparable) (.ref Ω.BadQuiet) = some false
  kit_NotComparable_BadRule : PySem.W.kitOne K (.ref Ω.NotComparable) (.ref Ω.BadRule) = some false
  kit_NotComparable_BadTimes : PySem.W.kitOne K (.ref Ω.NotComparable) (.ref Ω.BadTimes) = some false
  kit_NotComparable_NotComparable : PySem.W.kitOne K (.ref Ω.NotComparable) (.ref Ω.NotComparable) = some true
  kit_NotComparable_UnknownWord : PySem.W.kitOne K (.ref Ω.NotComparable) (.ref Ω.UnknownWord) = some false
  kit_UnknownWord_BadEvent : PySem.W.kitOne K (.ref Ω.UnknownWord) (.ref Ω.BadEvent) = some false
  kit_UnknownWord_BadKind : PySem.W.kitOne K (.ref Ω.UnknownWord) (.ref Ω.BadKind) = some false
  kit_UnknownWord_BadKinds : PySem.W.kitOne K (.ref Ω.UnknownWord) (.ref Ω.BadKinds) = some false
  kit_UnknownWord_BadLine : PySem.W.kitOne K (.ref Ω.UnknownWord) (.ref Ω.BadLine) = some false
  kit_UnknownWord_BadQuiet : PySem.W.kitOne K (.ref Ω.UnknownWord) (.ref Ω.BadQuiet) = some false
  kit_UnknownWord_BadRule : PySem.W.kitOne K (.ref Ω.UnknownWord) (.ref Ω.BadRule) = some false
  kit_UnknownWord_BadTimes : PySem.W.kitOne K (.ref Ω.UnknownWord) (.ref Ω.BadTimes) = some false
  kit_UnknownWord_NotComparable : PySem.W.kitOne K (.ref Ω.UnknownWord) (.ref Ω.NotComparable) = some false
  kit_UnknownWord_UnknownWord : PySem.W.kitOne K (.ref Ω.UnknownWord) (.ref Ω.UnknownWord) = some true
  kitv_BadEvent_ValueError : PySem.W.kitOne K (.ref Ω.BadEvent) (.type "ValueError") = some true
  kitv_BadKind_ValueError : PySem.W.kitOne K (.ref Ω.BadKind) (.type "ValueError") = some true
  kitv_BadKinds_ValueError : PySem.W.kitOne K (.ref Ω.BadKinds) (.type "ValueError") = some true
  kitv_BadLine_ValueError : PySem.W.kitOne K (.ref Ω.BadLine) (.type "ValueError") = some true
  kitv_BadQuiet_ValueError : PySem.W.kitOne K (.ref Ω.BadQuiet) (.type "ValueError") = some true
  kitv_BadRule_ValueError : PySem.W.kitOne K (.ref Ω.BadRule) (.type "ValueError") = some true
  kitv_BadTimes_ValueError : PySem.W.kitOne K (.ref Ω.BadTimes) (.type "ValueError") = some true
  kitv_NotComparable_ValueError : PySem.W.kitOne K (.ref Ω.NotComparable) (.type "ValueError") = some true
  kitv_UnknownWord_ValueError : PySem.W.kitOne K (.ref Ω.UnknownWord) (.type "ValueError") = some true
  triv : True

def kA : D := .tup [.str "a"]
def kB : D := .tup [.str "b"]
def q0 : D := .tup []
def t0 : D := .tup [.int 0, .int 1, .int 0, .int 1, .int 1]
def ptK : List D := [.str "ends", .str "keeps", .str "passes", .str "repeats"]
def wd0 : List D := [.str "not", .str "on", .str "now", .str "never"]
def r0 : D := .dic ptK wd0
def fIsOneOf : List D → Cs → Option D := fun ds C => fAnd (fIsi "str" (fV 0)) (fOp vIn (fV 0) (fV 1)) (startD ["value", "some"] ds) C
def fIsFrom : List D → Cs → Option D := fun ds C => fAnd (fIsi "int" (fV 0)) (fAnd (fNot (fIsi "bool" (fV 0))) (fCh (vB fun i j => decide (i ≤ j)) (vB fun i j => decide (i ≤ j)) (fV 1) (fV 0) (fV 2))) (startD ["value", "low", "high"] ds) C
theorem fld_is {c a : Addr} {f : Str} {g : En → Cs → Option D} {E : En} {C : Cs} {fs : List (Str × D)} {v : D} (h1 : g E C = some (.ref a)) (h2 : C a = some (.ins c fs)) (h3 : fs.lookup f = some v) : fFld c f g E C = some v := by
  unfold fFld
  rw [h1]
  simp only [h2, if_true]
  exact h3


def bkFs (k : D) (w : Addr) : List (Str × D) := [("groups_of", k), ("pairs", q0), ("numbers", t0), ("words", .ref w)]
def spBook (Ω : Ad) : DSp := fun ds C Q W => ∃ p k q t r, ds = [.ref p, k, q, t, r] ∧ C p = some (.ins Ω.Book []) ∧
  ((k = .tup [] ∧ W (.ref Ω.BadKinds) [] C) ∨ (k = kA ∧ q = .non ∧ W (.ref Ω.BadQuiet) [("index", .int (-1))] C) ∨ (k = kA ∧ q = q0 ∧ t = .non ∧ W (.ref Ω.BadTimes) [("index", .int (-1))] C) ∨
    (k = kA ∧ q = q0 ∧ t = t0 ∧ r = .non ∧ W (.ref Ω.BadRule) [("point", .str "")] C) ∨
    ((k = kA ∨ k = kB) ∧ q = q0 ∧ t = t0 ∧ r = r0 ∧ ∀ w, C w = none → Q .non (cupd (cupd C w (.dic ptK wd0)) p (.ins Ω.Book (bkFs k w)))))

def fGroupsIn (aBook : Addr) : List D → Cs → Option D := fun ds C => fLc (fSeq (fC (D.tup [D.str "a", D.str "b"]))) (List.map (fun x => x.2) [(("group" : Str), 1)]) (fun d E => some (List.set E 1 (some d))) (fB (fOp vIn (fV 1) (fFld aBook "groups_of" (fV 0)))) (fV 1) (startD ["book", "group"] ds) C
theorem gi_is {aBook p w : Addr} {C : Cs} (hp : C p = some (.ins aBook (bkFs kA w))) : fGroupsIn aBook [.ref p] C = some (.lst [.str "a"]) := by
  have e : ∀ x, fFld aBook "groups_of" (fV 0) [some (.ref p), x] C = some kA := fun x => fld_is rfl hp rfl
  unfold fGroupsIn
  simp only [fLc, fSeq, fC, lcGo, startD, wipeD, fB, fOp, List.map, List.length, List.replicate, List.append, List.set, HAppend.hAppend, Append.append, e, List.foldl]
  kernel_rfl

def lnFs (l : Addr) : List (Str × D) := [("words_in", .ref l), ("at_line", .int 1), ("spot", .int 0)]

def std0 : D := .tup [.tup [.bl false], .tup [.int 0], .tup [.tup [.tup [], .int (-1), .int 0, .int 0]]]

/-- the drawn numbers' row: where the script's copy stands, the place, what is left of a great number, the seed -/
structure RowIs (C : Cs) (r l : Addr) (i b s : Int) (ns : List Int) : Prop where
  ne : r ≠ l
  rw_ : C r = some (.lst [.ref l, .int i, .int b, .int s])
  ls : C l = some (.lst (ns.map D.int))
  i0 : 0 ≤ i
  le : ns.length ≤ 63
def RowAt (C : Cs) (r : Addr) : Prop := ∃ l i b s ns, RowIs C r l i b s ns
section
variable {C : Cs} {r l : Addr} {i b s i' b' s' : Int} {ns : List Int} {E : En}
theorem RowIs.set (h : RowIs C r l i b s ns) (hi : 0 ≤ i') : RowIs (cupd C r (.lst [.ref l, .int i', .int b', .int s'])) r l i' b' s' ns :=
  ⟨h.ne, cupd_same, by rw [cupd_ne (Ne.symm h.ne)]; exact h.ls, hi, h.le⟩
theorem RowIs.at0 (h : RowIs C r l i b s ns) (h0 : fV 0 E C = some (.ref r)) : fOp vSub (fV 0) (fC (.int 0)) E C = some (.ref l) := ev_op h0 rfl (by simp only [vSub, asD, vIx, asL, h.rw_]; rfl)
theorem RowIs.at1 (h : RowIs C r l i b s ns) (h0 : fV 0 E C = some (.ref r)) : fOp vSub (fV 0) (fC (.int 1)) E C = some (.int i) := ev_op h0 rfl (by simp only [vSub, asD, vIx, asL, h.rw_]; rfl)
theorem RowIs.at2 (h : RowIs C r l i b s ns) (h0 : fV 0 E C = some (.ref r)) : fOp vSub (fV 0) (fC (.int 2)) E C = some (.int b) := ev_op h0 rfl (by simp only [vSub, asD, vIx, asL, h.rw_]; rfl)
theorem RowIs.at3 (h : RowIs C r l i b s ns) (h0 : fV 0 E C = some (.ref r)) : fOp vSub (fV 0) (fC (.int 3)) E C = some (.int s) := ev_op h0 rfl (by simp only [vSub, asD, vIx, asL, h.rw_]; rfl)
theorem RowIs.st1 (h : RowIs C r l i b s ns) : vSet C (.ref r) (.int 1) (.int i') = some (cupd C r (.lst [.ref l, .int i', .int b, .int s])) := by simp only [vSet, h.rw_]; rfl
theorem RowIs.st2 (h : RowIs C r l i b s ns) : vSet C (.ref r) (.int 2) (.int b') = some (cupd C r (.lst [.ref l, .int i, .int b', .int s])) := by simp only [vSet, h.rw_]; rfl
theorem RowIs.st3 (h : RowIs C r l i b s ns) : vSet C (.ref r) (.int 3) (.int s') = some (cupd C r (.lst [.ref l, .int i, .int b, .int s'])) := by simp only [vSet, h.rw_]; rfl
theorem ev_int1 {ga : En → Cs → Option (List D)} {x : Int} (h : ga E C = some [.int x]) : fCall DL.vInt ga E C = some (.int x) := ev_call h rfl
theorem ev_mulk {f : En → Cs → Option D} {x : Int} (k : Int) (h : f E C = some (.int x)) (hk : -(2 ^ 64) < k ∧ k < 2 ^ 64) : fOp vMul f (fC (.int k)) E C = some (.int (x * k)) :=
  ev_op h rfl (by show (if cMul x k = true then some (D.int (x * k)) else none) = _; rw [if_pos]; unfold cMul; simp only [Bool.or_eq_true, Bool.and_eq_true, decide_eq_true_eq]; exact .inr hk)
theorem ev_addi {f g : En → Cs → Option D} {x y : Int} (h : f E C = some (.int x)) (h' : g E C = some (.int y)) : fOp vAdd f g E C = some (.int (x + y)) := ev_op h h' rfl
theorem ev_modk {f g : En → Cs → Option D} {x k : Int} (h : f E C = some (.int x)) (h' : g E C = some (.int k)) (hk : 0 < k) : fOp vMod f g E C = some (.int (x % k)) :=
  ev_op h h' (by show (if cMod x k = true then some (D.int (x % k)) else none) = _; rw [if_pos]; unfold cMod; simp [hk])
theorem ev_divk {f g : En → Cs → Option D} {x k : Int} (h : f E C = some (.int x)) (h' : g E C = some (.int k)) (hk : 0 < k) (hk2 : k < 1073741824) : fOp vDiv f g E C = some (.int (x.fdiv k)) :=
  ev_op h h' (by show (if cDiv x k = true then some (D.int (x.fdiv k)) else none) = _; rw [if_pos]; unfold cDiv; simp; omega)
theorem vEq_int {x y : Int} : vEq C (.int x) (.int y) = some (.bl (decide (x = y))) := by
  have e : deq (.int x) (.int y) = decide (x = y) := by show (x == y) = _; by_cases h : x = y <;> simp [h]
  show (if (good 20 (D.int x) && good 20 (D.int y)) = true then some (D.bl (deq (D.int x) (D.int y))) else none) = _
  rw [e]
  rfl
end

def B13 (Ω : Ad) (C : Cs) (b : Addr) : Prop := ∃ w, C b = some (.ins Ω.Book (bkFs kA w)) ∧ C w = some (.dic ptK wd0)

theorem eqk_is {f : En → Cs → Option D} {E : En} {C : Cs} {x k : Int} (h : f E C = some (.int x)) : fB (fOp vEq f (fC (.int k))) E C = some (decide (x = k)) := ev_B (ev_op h rfl vEq_int)
theorem isx_is {a : Addr} {c : Value} {g : Value → Option Bool} {f : En → Cs → Option D} {E : En} {C : Cs} {b : Bool} (h : f E C = some (.ref a)) (hg : g c = some b) : fIsX a c g f E C = some (.bl b) := by
  unfold fIsX; rw [h]; simp [hg]
theorem thaw1_dic {C : Cs} {d : Addr} {ks ds : List D} (h : C d = some (.dic ks ds)) : thaw 1 C (.ref d) = (.dic ks ds, [d]) := by
  have e1 : ∀ l : List D, (l.map (thaw 0 C)).map (·.1) = l := fun l => by induction l with
    | nil => rfl
    | cons a l ih => rw [List.map_cons, List.map_cons, ih]; cases a <;> rfl
  have e2 : ∀ l : List D, ((l.map (thaw 0 C)).map (·.2)).flatten = [] := fun l => by induction l with
    | nil => rfl
    | cons a l ih => rw [List.map_cons, List.map_cons, List.flatten_cons, ih]; cases a <;> rfl
  unfold thaw
  rw [h]
  simp only [e1, e2]
theorem disp_thaw {ts : List (DT × DT)} {E : En} {C : Cs} {Q : DK} {ps : List (D × D)} {ks vs : List D} (h : ∀ R : List (D × D) → Cs → Prop, R ps C → dPairs ts E C R) (h1 : allScal ps = true) (h2 : ps.length ≤ 15) (hm : dMerge ps ([], []) = (ks, vs)) (q : Q (.dic ks vs) C) : dThawE 1 (dDisp ts) E C Q := by
  refine h _ ⟨h1, h2, fun p hp => ?_⟩
  rw [hm]
  show Q (thaw 1 (cupd C p (.dic ks vs)) (.ref p)).1 (cdels (cupd C p (.dic ks vs)) (thaw 1 (cupd C p (.dic ks vs)) (.ref p)).2)
  rw [thaw1_dic cupd_same]
  show Q (.dic ks vs) (cdel (cupd C p (.dic ks vs)) p)
  rw [cdel_cupd hp]
  exact q

noncomputable def f_is_one_of (Ω : Ad) : List D → Cs → Option D := fIsOneOf
noncomputable def f_is_from (Ω : Ad) : List D → Cs → Option D := fIsFrom
def sp_check_kinds (Ω : Ad) : DSp := (fun ds C Q W => (ds = [kA] ∧ Q .non C) ∨ (ds = [kB] ∧ Q .non C) ∨ (ds = [.tup []] ∧ W (.ref Ω.BadKinds) [] C))
def sp_check_quiet (Ω : Ad) : DSp := (fun ds C Q W => ∃ k, (ds = [k, q0] ∧ Q .non C) ∨ (ds = [k, .non] ∧ W (.ref Ω.BadQuiet) [("index", .int (-1))] C))
def sp_check_times (Ω : Ad) : DSp := (fun ds C Q W => (ds = [t0] ∧ Q .non C) ∨ (ds = [.non] ∧ W (.ref Ω.BadTimes) [("index", .int (-1))] C))
def sp_check_rule (Ω : Ad) : DSp := (fun ds C Q W => (ds = [r0] ∧ Q .non C) ∨ (ds = [.non] ∧ W (.ref Ω.BadRule) [("point", .str "")] C))
def sp_Book___init__ (Ω : Ad) : DSp := (spBook Ω)
def sp_Book_rule (Ω : Ad) : DSp := (fun ds C Q W => ∃ p k w, ds = [.ref p] ∧ C p = some (.ins Ω.Book (bkFs k w)) ∧ C w = some (.dic ptK wd0) ∧ Q r0 C)
def sp_check_kind (Ω : Ad) : DSp := (fun ds C Q W => ∃ p w, ds = [.ref p, .int 1] ∧ C p = some (.ins Ω.Book (bkFs kA w)) ∧ W (.ref Ω.BadKind) [] C)
def sp_longest (Ω : Ad) : DSp := (fun ds C Q W => ∃ p w, ds = [.ref p, .int 1] ∧ C p = some (.ins Ω.Book (bkFs kA w)) ∧ W (.ref Ω.BadKind) [] C)
def sp_parting (Ω : Ad) : DSp := (fun ds C Q W => ∃ p w p2 w2, ds = [.ref p, .ref p2] ∧ C p = some (.ins Ω.Book (bkFs kA w)) ∧ C p2 = some (.ins Ω.Book (bkFs kB w2)) ∧ W (.ref Ω.NotComparable) [] C)
def sp_alike (Ω : Ad) : DSp := (fun ds C Q W => ∃ p w p2 w2, ds = [.ref p, .ref p2] ∧ C p = some (.ins Ω.Book (bkFs kA w)) ∧ C p2 = some (.ins Ω.Book (bkFs kB w2)) ∧ W (.ref Ω.NotComparable) [] C)
def sp_mends (Ω : Ad) : DSp := (fun ds C Q W => ∃ b, ds = [b, .lst [.str "loud"]] ∧ W (.ref Ω.UnknownWord) [("index", .int 0)] C)
noncomputable def f_groups_in (Ω : Ad) : List D → Cs → Option D := (fGroupsIn Ω.Book)
def sp_Record_is_possible (Ω : Ad) : DSp := (fun ds C Q W => ∃ s, ds = [s, .non] ∧ Q (.bl false) C)
def sp_Line_one_of (Ω : Ad) : DSp := (fun ds C Q W => ∃ p l, ds = [.ref p, .lst [.str "kinds"]] ∧ C p = some (.ins Ω.Line (lnFs l)) ∧ C l = some (.lst []) ∧ W (.ref Ω.BadLine) [("word", .int 1), ("line", .int 1)] C)
def sp_read_kinds (Ω : Ad) : DSp := (fun ds C Q W => ∃ p l, ds = [.ref p] ∧ C p = some (.ins Ω.Line (lnFs l)) ∧ C l = some (.lst []) ∧ W (.ref Ω.BadLine) [("word", .int 1), ("line", .int 1)] C)
def sp_Line___init__ (Ω : Ad) : DSp := (fun ds C Q W => ∃ p, ds = [.ref p, .lst [.str ""], .int 0] ∧ C p = some (.ins Ω.Line []) ∧ ∀ l, C l = none → Q .non (cupd (cupd C l (.lst [])) p (.ins Ω.Line (lnFs l))))
def sp_read (Ω : Ad) : DSp := (fun ds C Q W => ds = [.str ""] ∧ ∀ C2, DL.Sub C C2 → W (.ref Ω.BadLine) [("word", .int 1), ("line", .int 1)] C2)
def sp_first_standing (Ω : Ad) : DSp := (fun ds C Q W => ∃ p w, ds = [.ref p] ∧ C p = some (.ins Ω.Book (bkFs kA w)) ∧ Q std0 C)
def sp_loud_kinds (Ω : Ad) : DSp := (fun ds C Q W => ∃ p, ds = [.ref p, .tup [.bl false], .tup [.int 0]] ∧ (∃ w, C p = some (.ins Ω.Book (bkFs kA w)) ∧ C w = some (.dic ptK wd0)) ∧ Q (.lst []) C)
def sp_Record_look (Ω : Ad) : DSp := (fun ds C Q W => ∃ p b w, ∃ fs : List (Str × D), ds = [.ref p] ∧ p ≠ b ∧ C p = some (.ins Ω.Record fs) ∧ fs.length < 100 ∧ fs.lookup ("origin" : Str) = some (D.ref b) ∧ fs.lookup ("standing" : Str) = some std0 ∧ C b = some (.ins Ω.Book (bkFs kA w)) ∧ C w = some (.dic ptK wd0) ∧ Q .non (cupd C p (.ins Ω.Record (putFD "names" (.lst [.str "a"]) (putFD "heard" (.tup []) fs)))))
def sp_Record___init__ (Ω : Ad) : DSp := (fun ds C Q W => ∃ p b w, ds = [.ref p, .ref b] ∧ C p = some (.ins Ω.Record []) ∧ C b = some (.ins Ω.Book (bkFs kA w)) ∧ C w = some (.dic ptK wd0) ∧ ∀ C2 : Cs, (∀ a c, a ≠ p → C a = some c → C2 a = some c) → (∃ fs : List (Str × D), C2 p = some (.ins Ω.Record fs) ∧ fs.lookup ("is_possible" : Str) = none ∧ fs.lookup ("add" : Str) = none) → Q .non C2)
def sp_Record_add (Ω : Ad) : DSp := (fun _ _ _ _ => False)
def sp_replay (Ω : Ad) : DSp := (fun ds C Q W => ∃ b w, ds = [.ref b, .lst [.non]] ∧ C b = some (.ins Ω.Book (bkFs kA w)) ∧ C w = some (.dic ptK wd0) ∧ ∀ C2, DL.Sub C C2 → W (.ref Ω.BadEvent) [("index", .int 0)] C2)
def sp__law_pick (Ω : Ad) : DSp := (fun ds C Q W => ∃ (r : Addr) (n : Nat), ds = [.ref r, .int n] ∧ 0 < n ∧ n < 1073741824 ∧ RowAt C r ∧ ∀ (v : Nat) (C2 : Cs), v < n → RowAt C2 r → (∀ b, b ≠ r → C2 b = C b) → Q (.int v) C2)
def sp__law_calls (Ω : Ad) : DSp := (fun ds C Q W => ∃ (v : Nat) (b : Addr), ds = [.int v, .ref b] ∧ B13 Ω C b ∧ ((v = 0 ∧ ∀ C2, DL.Sub C C2 → W (.ref Ω.BadKinds) [] C2) ∨ (v = 1 ∧ ∀ C2, DL.Sub C C2 → W (.ref Ω.BadQuiet) [("index", .int (-1))] C2) ∨ (v = 2 ∧ ∀ C2, DL.Sub C C2 → W (.ref Ω.BadTimes) [("index", .int (-1))] C2) ∨ (v = 3 ∧ ∀ C2, DL.Sub C C2 → W (.ref Ω.BadRule) [("point", .str "")] C2) ∨ (v = 4 ∧ ∀ C2, DL.Sub C C2 → W (.ref Ω.BadEvent) [("index", .int 0)] C2) ∨ (5 ≤ v ∧ Q .non C)))
def sp__law_later_calls (Ω : Ad) : DSp := (fun ds C Q W => ∃ (v : Nat) (b : Addr), ds = [.int v, .ref b] ∧ B13 Ω C b ∧ ((v = 5 ∧ ∀ C2, DL.Sub C C2 → W (.ref Ω.BadKind) [] C2) ∨ (v = 6 ∧ ∀ C2, DL.Sub C C2 → W (.ref Ω.NotComparable) [] C2) ∨ (v = 7 ∧ ∀ C2, DL.Sub C C2 → W (.ref Ω.UnknownWord) [("index", .int 0)] C2) ∨ (v = 8 ∧ ∀ C2, DL.Sub C C2 → W (.ref Ω.BadLine) [("word", .int 1), ("line", .int 1)] C2)))

abbrev s_is_from : Stmt := top 17
theorem sc_is_from : FnScope ["value", "low", "high"] ["value", "low", "high"] (defScope s_is_from) := ⟨rfl, rfl, rfl, by decide +kernel, rfl, by decide +kernel, by decide +kernel⟩
theorem ok_is_from {P : Program} {w : World} {K : PySem.W.Frag} {mg : Str → Option Value} {base : Heap} {Ω : Ad} {f : Addr} {fd : FuncData} (Fn : Fun K "is_from" "is_from" s_is_from f fd) (T : Txt P w K mg Ω)  : DFn P w K mg base 3 f fd ["value", "low", "high"] (spF (f_is_from Ω)) := by
  have S := sc_is_from
  refine dfnS Fn S fun X B W hX hr hp lx => ?_
  have hu := hr.units
  have hu1 : X.A.units + 65 < cLine := by have := hr.un; omega
  have hu9 : X.A.units + 9 < cLine := by have := hr.un; omega
  obtain ⟨cdv, A, outer, s, H, E, rfl⟩ := hX
  refine ⟨_, (dss_one (ds_ret (fe_and (fe_isi (T := "int") rfl T.b_isinstance rfl T.b_int (by decide +kernel) (fv 0)) (fe_and (fe_not (fe_isi (T := "bool") rfl T.b_isinstance rfl T.b_bool (by decide +kernel) (fv 0))) (fe_one (fe_chain2 op_le lk_B op_le lk_B (fv 1) (fv 0) (fv 2))))))), fun ds C Q hl hs => ?_⟩
  obtain ⟨v, hv, q⟩ := hs
  exact ret_done hv q
abbrev s_is_one_of : Stmt := top 18
theorem sc_is_one_of : FnScope ["value", "some"] ["value", "some"] (defScope s_is_one_of) := ⟨rfl, rfl, rfl, by decide +kernel, rfl, by decide +kernel, by decide +kernel⟩
theorem ok_is_one_of {P : Program} {w : World} {K : PySem.W.Frag} {mg : Str → Option Value} {base : Heap} {Ω : Ad} {f : Addr} {fd : FuncData} (Fn : Fun K "is_one_of" "is_one_of" s_is_one_of f fd) (T : Txt P w K mg Ω)  : DFn P w K mg base 3 f fd ["value", "some"] (spF (f_is_one_of Ω)) := by
  have S := sc_is_one_of
  refine dfnS Fn S fun X B W hX hr hp lx => ?_
  have hu := hr.units
  have hu1 : X.A.units + 65 < cLine := by have := hr.un; omega
  have hu9 : X.A.units + 9 < cLine := by have := hr.un; omega
  obtain ⟨cdv, A, outer, s, H, E, rfl⟩ := hX
  refine ⟨_, (dss_one (ds_ret (fe_and (fe_isi (T := "str") rfl T.b_isinstance rfl T.b_str (by decide +kernel) (fv 0)) (fe_one (fe_cmp (op_inA hu1) lk_in (fv 0) (fv 1) (by with_unfolding_all rfl)))))), fun ds C Q hl hs => ?_⟩
  obtain ⟨v, hv, q⟩ := hs
  exact ret_done hv q
abbrev s_check_kinds : Stmt := top 19
theorem sc_check_kinds : FnScope ["kinds", "group"] ["kinds"] (defScope s_check_kinds) := ⟨rfl, rfl, rfl, by decide +kernel, rfl, by decide +kernel, by decide +kernel⟩
theorem ok_check_kinds {P : Program} {w : World} {K : PySem.W.Frag} {mg : Str → Option Value} {base : Heap} {Ω : Ad} {f : Addr} {fd : FuncData} (Fn : Fun K "check_kinds" "check_kinds" s_check_kinds f fd) (T : Txt P w K mg Ω) (g_BadKinds : CalX P w K mg base "BadKinds" Ω.BadKinds ["self"] []) (g_is_one_of : Cal P w K mg base "is_one_of" 3 ["value", "some"] (spF (f_is_one_of Ω))) : DFn P w K mg base 4 f fd ["kinds"] (sp_check_kinds Ω) := by
  have S := sc_check_kinds
  refine dfnS Fn S fun X B W hX hr hp lx => ?_
  have hu := hr.units
  have hu1 : X.A.units + 65 < cLine := by have := hr.un; omega
  have hu9 : X.A.units + 9 < cLine := by have := hr.un; omega
  obtain ⟨cdv, A, outer, s, H, E, rfl⟩ := hX
  refine ⟨_, (dss_cons (ds_if (DW.q (fw_or (fq_not (fq_val (fe_isi (T := "tuple") rfl T.b_isinstance rfl T.b_tuple (by decide +kernel) (fv 0)))) (fw_or1 (fq_not (fq_chain2 op_le lk_B op_le lk_B fe_int (DE.mono (de_callB call_lenA lk_len rfl T.b_len PySem.boot_len (fa_cons (fv 0) fa_nil)) fCall_of) (fe_cst T.c_MOST_KINDS rfl)))))) (dss_one (ds_raise0 rfl lx g_BadKinds (hr.mono (by decide)) rfl)) dss_nil)
    (dss_one (ds_if (fq_not (fq_val (DE.mono (de_callB (cr_all rfl) lk_all rfl T.b_all boot_all (fa_cons (fe_lc (own := [("group", 1)]) rfl S.nd (fi_seq (fv 0)) (by refine ⟨rfl, by decide +kernel, ?_, ?_, ?_⟩ <;> (dsimp only [cxOf, envOfC, compEnvC]; decide +kernel)) (fun _ _ _ _ _ _ => (dgc_name S.nd (i := 1) rfl (by first | exact Or.inl rfl | exact Or.inr rfl) (by decide))) (fun _ _ _ _ _ _ => dts_yes) (fun _ _ _ _ _ _ => (fe_cal g_is_one_of (hr.mono (by decide)) rfl (fa_cons (fv 1) (fa_cons (fe_cst T.c_GROUPS rfl) fa_nil))))) fa_nil)) fCall_of))) (dss_one (ds_raise0 rfl lx g_BadKinds (hr.mono (by decide)) rfl)) dss_nil))), fun ds C Q hl hs => ?_⟩
  rcases hs with ⟨rfl, q⟩ | ⟨rfl, q⟩ | ⟨rfl, q⟩
  · exact ⟨false, by kernel_rfl, false, by kernel_rfl, C, .refl, q⟩
  · exact ⟨false, by kernel_rfl, false, by kernel_rfl, C, .refl, q⟩
  · exact ⟨true, by kernel_rfl, q⟩
abbrev s_check_quiet : Stmt := top 20
theorem sc_check_quiet : FnScope ["kinds", "quiet", "index", "pair", "kind"] ["kinds", "quiet"] (defScope s_check_quiet) := ⟨rfl, rfl, rfl, by decide +kernel, rfl, by decide +kernel, by decide +kernel⟩
theorem ok_check_quiet {P : Program} {w : World} {K : PySem.W.Frag} {mg : Str → Option Value} {base : Heap} {Ω : Ad} {f : Addr} {fd : FuncData} (Fn : Fun K "check_quiet" "check_quiet" s_check_quiet f fd) (T : Txt P w K mg Ω) (g_BadQuiet : CalX P w K mg base "BadQuiet" Ω.BadQuiet ["self", "index"] ["index"]) (g_is_from : Cal P w K mg base "is_from" 3 ["value", "low", "high"] (spF (f_is_from Ω))) : DFn P w K mg base 4 f fd ["kinds", "quiet"] (sp_check_quiet Ω) := by
  have S := sc_check_quiet
  refine dfnS Fn S fun X B W hX hr hp lx => ?_
  have hu := hr.units
  have hu1 : X.A.units + 65 < cLine := by have := hr.un; omega
  have hu9 : X.A.units + 9 < cLine := by have := hr.un; omega
  obtain ⟨cdv, A, outer, s, H, E, rfl⟩ := hX
  refine ⟨_, (dss_cons (ds_if (fq_not (fq_val (fe_isi (T := "tuple") rfl T.b_isinstance rfl T.b_tuple (by decide +kernel) (fv 1)))) (dss_one (ds_raise1 rfl lx g_BadQuiet (hr.mono (by decide)) rfl (da_cons (fe_neg fe_int) da_nil))) dss_nil)
    (dss_one (ds_forX mono_ofI hp rfl (fi_enum rfl T.b_enumerate (fv 1)) (dg_tup (n := 2) rfl (dgs_cons (dg_name S.nd (i := 2) rfl (by first | exact Or.inl rfl | exact Or.inr rfl)) (dgs_cons (dg_name S.nd (i := 3) rfl (by first | exact Or.inl rfl | exact Or.inr rfl)) dgs_nil))) (dss_cons (ds_if (DW.q (fw_or (fq_not (fq_val (fe_isi (T := "tuple") rfl T.b_isinstance rfl T.b_tuple (by decide +kernel) (fv 3)))) (fw_or (fq_cmp (op_neD hu) lk_ne (DE.mono (de_callB call_lenA lk_len rfl T.b_len PySem.boot_len (fa_cons (fv 3) fa_nil)) fCall_of) fe_int (nomark _)) (fw_or1 (fq_cmp (op_inA hu1) lk_in (fv 3) (fe_slice (fv 1) fo_none (fo_some (fv 2))) (by with_unfolding_all rfl)))))) (dss_one (ds_raise1 rfl lx g_BadQuiet (hr.mono (by decide)) rfl (da_cons (fv 2) da_nil))) dss_nil)
      (dss_one (ds_if (DW.q (fw_or (fq_not (fq_val (DE.mono (de_callB (cr_all rfl) lk_all rfl T.b_all boot_all (fa_cons (fe_lc (own := [("kind", 4)]) rfl S.nd (fi_seq (fv 3)) (by refine ⟨rfl, by decide +kernel, ?_, ?_, ?_⟩ <;> (dsimp only [cxOf, envOfC, compEnvC]; decide +kernel)) (fun _ _ _ _ _ _ => (dgc_name S.nd (i := 4) rfl (by first | exact Or.inl rfl | exact Or.inr rfl) (by decide))) (fun _ _ _ _ _ _ => dts_yes) (fun _ _ _ _ _ _ => (fe_cal g_is_from (hr.mono (by decide)) rfl (fa_cons (fv 4) (fa_cons fe_int (fa_cons (fe_bin op_sub lk_I0 (DE.mono (de_callB call_lenA lk_len rfl T.b_len PySem.boot_len (fa_cons (fv 0) fa_nil)) fCall_of) fe_int) fa_nil)))))) fa_nil)) fCall_of))) (fw_or1 (fq_cmp (op_eqD hu) lk_eq (fe_ix (ix_sub hu) lk_sub (fv 3) fe_int (fun _ _ => rfl)) (fe_ix (ix_sub hu) lk_sub (fv 3) fe_int (fun _ _ => rfl)) (nomark _))))) (dss_one (ds_raise1 rfl lx g_BadQuiet (hr.mono (by decide)) rfl (da_cons (fv 2) da_nil))) dss_nil)))))), fun ds C Q hl hs => ?_⟩
  rcases hs with ⟨k, ⟨rfl, q⟩ | ⟨rfl, q⟩⟩
  · refine ⟨false, by kernel_rfl, ?_⟩
    exact ⟨_, rfl, C, .refl, q⟩
  · refine ⟨true, by kernel_rfl, ?_⟩
    exact ⟨_, rfl, _, rfl, (by show Nat.log2 1 < 1920; decide), q⟩
abbrev s_check_times : Stmt := top 21
theorem sc_check_times : FnScope ["times", "index", "number"] ["times"] (defScope s_check_times) := ⟨rfl, rfl, rfl, by decide +kernel, rfl, by decide +kernel, by decide +kernel⟩
theorem ok_check_times {P : Program} {w : World} {K : PySem.W.Frag} {mg : Str → Option Value} {base : Heap} {Ω : Ad} {f : Addr} {fd : FuncData} (Fn : Fun K "check_times" "check_times" s_check_times f fd) (T : Txt P w K mg Ω) (g_BadTimes : CalX P w K mg base "BadTimes" Ω.BadTimes ["self", "index"] ["index"]) (g_is_from : Cal P w K mg base "is_from" 3 ["value", "low", "high"] (spF (f_is_from Ω))) : DFn P w K mg base 4 f fd ["times"] (sp_check_times Ω) := by
  have S := sc_check_times
  refine dfnS Fn S fun X B W hX hr hp lx => ?_
  have hu := hr.units
  have hu1 : X.A.units + 65 < cLine := by have := hr.un; omega
  have hu9 : X.A.units + 9 < cLine := by have := hr.un; omega
  obtain ⟨cdv, A, outer, s, H, E, rfl⟩ := hX
  refine ⟨_, (dss_cons (ds_if (DW.q (fw_or (fq_not (fq_val (fe_isi (T := "tuple") rfl T.b_isinstance rfl T.b_tuple (by decide +kernel) (fv 0)))) (fw_or1 (fq_cmp (op_neD hu) lk_ne (DE.mono (de_callB call_lenA lk_len rfl T.b_len PySem.boot_len (fa_cons (fv 0) fa_nil)) fCall_of) (DE.mono (de_callB call_lenA lk_len rfl T.b_len PySem.boot_len (fa_cons (fe_cst T.c_BOUNDS rfl) fa_nil)) fCall_of) (nomark _))))) (dss_one (ds_raise1 rfl lx g_BadTimes (hr.mono (by decide)) rfl (da_cons (fe_neg fe_int) da_nil))) dss_nil)
    (dss_one (ds_forX mono_ofI hp rfl (fi_enum rfl T.b_enumerate (fv 0)) (dg_tup (n := 2) rfl (dgs_cons (dg_name S.nd (i := 1) rfl (by first | exact Or.inl rfl | exact Or.inr rfl)) (dgs_cons (dg_name S.nd (i := 2) rfl (by first | exact Or.inl rfl | exact Or.inr rfl)) dgs_nil))) (dss_one (ds_if (fq_not (fq_val (fe_cal g_is_from (hr.mono (by decide)) rfl (fa_cons (fv 2) (fa_cons (fe_ix (ix_sub hu) lk_sub (fe_ix (ix_sub hu) lk_sub (fe_cst T.c_BOUNDS rfl) (fv 1) (fun _ _ => rfl)) fe_int (fun _ _ => rfl)) (fa_cons (fe_ix (ix_sub hu) lk_sub (fe_ix (ix_sub hu) lk_sub (fe_cst T.c_BOUNDS rfl) (fv 1) (fun _ _ => rfl)) fe_int (fun _ _ => rfl)) fa_nil)))))) (dss_one (ds_raise1 rfl lx g_BadTimes (hr.mono (by decide)) rfl (da_cons (fv 1) da_nil))) dss_nil))))), fun ds C Q hl hs => ?_⟩
  rcases hs with ⟨rfl, q⟩ | ⟨rfl, q⟩
  · refine ⟨false, by kernel_rfl, ?_⟩
    refine ⟨_, rfl, ?_⟩
    refine ⟨_, rfl, rfl, _, _, rfl, _, _, rfl, rfl, false, by kernel_rfl, ?_⟩
    refine ⟨_, rfl, rfl, _, _, rfl, _, _, rfl, rfl, false, by kernel_rfl, ?_⟩
    refine ⟨_, rfl, rfl, _, _, rfl, _, _, rfl, rfl, false, by kernel_rfl, ?_⟩
    refine ⟨_, rfl, rfl, _, _, rfl, _, _, rfl, rfl, false, by kernel_rfl, ?_⟩
    refine ⟨_, rfl, rfl, _, _, rfl, _, _, rfl, rfl, false, by kernel_rfl, ?_⟩
    exact ⟨C, .refl, q⟩
  · refine ⟨true, by kernel_rfl, ?_⟩
    exact ⟨_, rfl, _, rfl, (by show Nat.log2 1 < 1920; decide), q⟩
abbrev s_check_rule : Stmt := top 22
theorem sc_check_rule : FnScope ["rule", "point", "words"] ["rule"] (defScope s_check_rule) := ⟨rfl, rfl, rfl, by decide +kernel, rfl, by decide +kernel, by decide +kernel⟩
theorem ok_check_rule {P : Program} {w : World} {K : PySem.W.Frag} {mg : Str → Option Value} {base : Heap} {Ω : Ad} {f : Addr} {fd : FuncData} (Fn : Fun K "check_rule" "check_rule" s_check_rule f fd) (T : Txt P w K mg Ω) (g_BadRule : CalX P w K mg base "BadRule" Ω.BadRule ["self", "point"] ["point"]) (g_is_one_of : Cal P w K mg base "is_one_of" 3 ["value", "some"] (spF (f_is_one_of Ω))) : DFn P w K mg base 4 f fd ["rule"] (sp_check_rule Ω) := by
  have S := sc_check_rule
  refine dfnS Fn S fun X B W hX hr hp lx => ?_
  have hu := hr.units
  have hu1 : X.A.units + 65 < cLine := by have := hr.un; omega
  have hu9 : X.A.units + 9 < cLine := by have := hr.un; omega
  obtain ⟨cdv, A, outer, s, H, E, rfl⟩ := hX
  refine ⟨_, (dss_cons (ds_if (DW.q (fw_or (fq_not (fq_val (fe_isi (T := "dict") rfl T.b_isinstance rfl T.b_dict (by decide +kernel) (fv 0)))) (fw_or (fq_cmp (op_neD hu) lk_ne (DE.mono (de_callB call_lenA lk_len rfl T.b_len PySem.boot_len (fa_cons (fv 0) fa_nil)) fCall_of) (DE.mono (de_callB call_lenA lk_len rfl T.b_len PySem.boot_len (fa_cons (fe_cst T.c_POINTS rfl) fa_nil)) fCall_of) (nomark _)) (fw_or1 (fq_not (fq_val (DE.mono (de_callB (cr_all rfl) lk_all rfl T.b_all boot_all (fa_cons (fe_lc (own := [("point", 1)]) rfl S.nd (fi_keys (fe_cst T.c_POINTS rfl)) (by refine ⟨rfl, by decide +kernel, ?_, ?_, ?_⟩ <;> (dsimp only [cxOf, envOfC, compEnvC]; decide +kernel)) (fun _ _ _ _ _ _ => (dgc_name S.nd (i := 1) rfl (by first | exact Or.inl rfl | exact Or.inr rfl) (by decide))) (fun _ _ _ _ _ _ => dts_yes) (fun _ _ _ _ _ _ => (fe_cmp (op_inA hu1) lk_in (fv 1) (fv 0) (by with_unfolding_all rfl)))) fa_nil)) fCall_of))))))) (dss_one (ds_raise1 rfl lx g_BadRule (hr.mono (by decide)) rfl (da_cons fe_str da_nil))) dss_nil)
    (dss_one (ds_forX mono_ofI hp rfl (fi_items (fe_cst T.c_POINTS rfl)) (dg_tup (n := 2) rfl (dgs_cons (dg_name S.nd (i := 1) rfl (by first | exact Or.inl rfl | exact Or.inr rfl)) (dgs_cons (dg_name S.nd (i := 2) rfl (by first | exact Or.inl rfl | exact Or.inr rfl)) dgs_nil))) (dss_one (ds_if (fq_not (fq_val (fe_cal g_is_one_of (hr.mono (by decide)) rfl (fa_cons (fe_ix (ix_sub hu) lk_sub (fv 0) (fv 1) (fun _ _ => rfl)) (fa_cons (fv 2) fa_nil))))) (dss_one (ds_raise1 rfl lx g_BadRule (hr.mono (by decide)) rfl (da_cons (fv 1) da_nil))) dss_nil))))), fun ds C Q hl hs => ?_⟩
  rcases hs with ⟨rfl, q⟩ | ⟨rfl, q⟩
  · refine ⟨false, by kernel_rfl, ?_⟩
    refine ⟨_, rfl, ?_⟩
    refine ⟨_, rfl, rfl, _, _, rfl, _, _, rfl, rfl, false, by kernel_rfl, ?_⟩
    refine ⟨_, rfl, rfl, _, _, rfl, _, _, rfl, rfl, false, by kernel_rfl, ?_⟩
    refine ⟨_, rfl, rfl, _, _, rfl, _, _, rfl, rfl, false, by kernel_rfl, ?_⟩
    refine ⟨_, rfl, rfl, _, _, rfl, _, _, rfl, rfl, false, by kernel_rfl, ?_⟩
    exact ⟨C, .refl, q⟩
  · refine ⟨true, by kernel_rfl, ?_⟩
    exact ⟨_, rfl, _, rfl, (by show (0 : Nat) ≤ 100000; decide), q⟩
abbrev s_check_kind : Stmt := top 56
theorem sc_check_kind : FnScope ["book", "kind"] ["book", "kind"] (defScope s_check_kind) := ⟨rfl, rfl, rfl, by decide +kernel, rfl, by decide +kernel, by decide +kernel⟩
theorem ok_check_kind {P : Program} {w : World} {K : PySem.W.Frag} {mg : Str → Option Value} {base : Heap} {Ω : Ad} {f : Addr} {fd : FuncData} (Fn : Fun K "check_kind" "check_kind" s_check_kind f fd) (T : Txt P w K mg Ω) (g_BadKind : CalX P w K mg base "BadKind" Ω.BadKind ["self"] []) (g_is_from : Cal P w K mg base "is_from" 3 ["value", "low", "high"] (spF (f_is_from Ω))) : DFn P w K mg base 4 f fd ["book", "kind"] (sp_check_kind Ω) := by
  have S := sc_check_kind
  refine dfnS Fn S fun X B W hX hr hp lx => ?_
  have hu := hr.units
  have hu1 : X.A.units + 65 < cLine := by have := hr.un; omega
  have hu9 : X.A.units + 9 < cLine := by have := hr.un; omega
  obtain ⟨cdv, A, outer, s, H, E, rfl⟩ := hX
  refine ⟨_, (dss_one (ds_if (fq_not (fq_val (fe_cal g_is_from (hr.mono (by decide)) rfl (fa_cons (fv 1) (fa_cons fe_int (fa_cons (fe_bin op_sub lk_I0 (DE.mono (de_callB call_lenA lk_len rfl T.b_len PySem.boot_len (fa_cons (fe_at T.f_Book_groups_of (fv 0)) fa_nil)) fCall_of) fe_int) fa_nil)))))) (dss_one (ds_raise0 rfl lx g_BadKind (hr.mono (by decide)) rfl)) dss_nil)), fun ds C Q hl hs => ?_⟩
  obtain ⟨p, w, rfl, hp0, q⟩ := hs
  refine ⟨true, ?_, q⟩
  have e : fFld Ω.Book "groups_of" (fV 0) (startD ["book", "kind"] [.ref p, .int 1]) C = some kA := fld_is rfl hp0 rfl
  simp only [gNot, fB, fCal, fCons, fNil, fOp, fCall, e]
  kernel_rfl
abbrev s_groups_in : Stmt := top 24
theorem sc_groups_in : FnScope ["book", "group"] ["book"] (defScope s_groups_in) := ⟨rfl, rfl, rfl, by decide +kernel, rfl, by decide +kernel, by decide +kernel⟩
theorem ok_groups_in {P : Program} {w : World} {K : PySem.W.Frag} {mg : Str → Option Value} {base : Heap} {Ω : Ad} {f : Addr} {fd : FuncData} (Fn : Fun K "groups_in" "groups_in" s_groups_in f fd) (T : Txt P w K mg Ω)  : DFn P w K mg base 3 f fd ["book"] (spF (f_groups_in Ω)) := by
  have S := sc_groups_in
  refine dfnS Fn S fun X B W hX hr hp lx => ?_
  have hu := hr.units
  have hu1 : X.A.units + 65 < cLine := by have := hr.un; omega
  have hu9 : X.A.units + 9 < cLine := by have := hr.un; omega
  obtain ⟨cdv, A, outer, s, H, E, rfl⟩ := hX
  refine ⟨_, (dss_one (ds_ret (fe_lc (own := [("group", 1)]) rfl S.nd (fi_seq (fe_cst T.c_GROUPS rfl)) (by refine ⟨rfl, by decide +kernel, ?_, ?_, ?_⟩ <;> (dsimp only [cxOf, envOfC, compEnvC]; decide +kernel)) (fun _ _ _ _ _ _ => (dgc_name S.nd (i := 1) rfl (by first | exact Or.inl rfl | exact Or.inr rfl) (by decide))) (fun _ _ _ _ _ _ => (dts_if (fq_cmp (op_inA hu1) lk_in (fv 1) (fe_at T.f_Book_groups_of (fv 0)) (by with_unfolding_all rfl)))) (fun _ _ _ _ _ _ => (fv 1))))), fun ds C Q hl hs => ?_⟩
  obtain ⟨v, hv, q⟩ := hs
  exact ret_done hv q
abbrev s_first_standing : Stmt := top 35
theorem sc_first_standing : FnScope ["book", "kinds", "none_on", "group"] ["book"] (defScope s_first_standing) := ⟨rfl, rfl, rfl, by decide +kernel, rfl, by decide +kernel, by decide +kernel⟩
theorem ok_first_standing {P : Program} {w : World} {K : PySem.W.Frag} {mg : Str → Option Value} {base : Heap} {Ω : Ad} {f : Addr} {fd : FuncData} (Fn : Fun K "first_standing" "first_standing" s_first_standing f fd) (T : Txt P w K mg Ω) (g_groups_in : Cal P w K mg base "groups_in" 3 ["book"] (spF (f_groups_in Ω))) : DFn P w K mg base 4 f fd ["book"] (sp_first_standing Ω) := by
  have S := sc_first_standing
  refine dfnS Fn S fun X B W hX hr hp lx => ?_
  have hu := hr.units
  have hu1 : X.A.units + 65 < cLine := by have := hr.un; omega
  have hu9 : X.A.units + 9 < cLine := by have := hr.un; omega
  obtain ⟨cdv, A, outer, s, H, E, rfl⟩ := hX
  refine ⟨_, (dss_cons (ds_set S.nd (i := 1) rfl (by first | exact Or.inl rfl | exact Or.inr rfl) (fe_at T.f_Book_groups_of (fv 0)))
    (dss_cons (ds_set S.nd (i := 2) rfl (by first | exact Or.inl rfl | exact Or.inr rfl) (DE.mono (de_callTy call_tuple_of lk_tuple rfl T.b_tuple (by decide +kernel) (fa_cons (fe_lc (own := [("group", 3)]) rfl S.nd (fi_seq (fv 1)) (by refine ⟨rfl, by decide +kernel, ?_, ?_, ?_⟩ <;> (dsimp only [cxOf, envOfC, compEnvC]; decide +kernel)) (fun _ _ _ _ _ _ => (dgc_name S.nd (i := 3) rfl (by first | exact Or.inl rfl | exact Or.inr rfl) (by decide))) (fun _ _ _ _ _ _ => dts_yes) (fun _ _ _ _ _ _ => fe_bl)) fa_nil)) fCall_of))
    (dss_one (ds_ret (fe_tup (fa_cons (fv 2) (fa_cons (DE.mono (de_callTy call_tuple_of lk_tuple rfl T.b_tuple (by decide +kernel) (fa_cons (fe_lc (own := [("group", 3)]) rfl S.nd (fi_seq (fv 1)) (by refine ⟨rfl, by decide +kernel, ?_, ?_, ?_⟩ <;> (dsimp only [cxOf, envOfC, compEnvC]; decide +kernel)) (fun _ _ _ _ _ _ => (dgc_name S.nd (i := 3) rfl (by first | exact Or.inl rfl | exact Or.inr rfl) (by decide))) (fun _ _ _ _ _ _ => dts_yes) (fun _ _ _ _ _ _ => fe_int)) fa_nil)) fCall_of) (fa_cons (DE.mono (de_callTy call_tuple_of lk_tuple rfl T.b_tuple (by decide +kernel) (fa_cons (fe_lc (own := [("group", 3)]) rfl S.nd (fi_seq (fe_cal g_groups_in (hr.mono (by decide)) rfl (fa_cons (fv 0) fa_nil))) (by refine ⟨rfl, by decide +kernel, ?_, ?_, ?_⟩ <;> (dsimp only [cxOf, envOfC, compEnvC]; decide +kernel)) (fun _ _ _ _ _ _ => (dgc_name S.nd (i := 3) rfl (by first | exact Or.inl rfl | exact Or.inr rfl) (by decide))) (fun _ _ _ _ _ _ => dts_yes) (fun _ _ _ _ _ _ => (fe_tup (fa_cons (fe_tup fa_nil) (fa_cons (fe_cst T.c_NO_CLOCK rfl) (fa_cons fe_int (fa_cons fe_int fa_nil))))))) fa_nil)) fCall_of) fa_nil)))))))), fun ds C Q hl hs => ?_⟩
  obtain ⟨p, w, rfl, hp0, q⟩ := hs
  refine ⟨kA, fld_is rfl hp0 rfl, .tup [.bl false], by kernel_rfl, std0, ?_, C, .refl, q⟩
  have e := gi_is hp0
  have e2 : fCal ["book"].length (f_groups_in Ω) (fCons (fV 0) fNil) ((List.set (startD ["book", "kinds", "none_on", "group"] [.ref p]) 1 (some kA)).set 2 (some (.tup [.bl false]))) C = some (.lst [.str "a"]) := e
  generalize fCal ["book"].length (f_groups_in Ω) (fCons (fV 0) fNil) = g at e2 ⊢
  simp only [fTup, fCons, fCall, fLc, fSeq, e2]
  kernel_rfl
abbrev s_loud_kinds : Stmt := top 37
theorem sc_loud_kinds : FnScope ["book", "on", "silences", "found", "kind", "keepers", "one", "other"] ["book", "on", "silences"] (defScope s_loud_kinds) := ⟨rfl, rfl, rfl, by decide +kernel, rfl, by decide +kernel, by decide +kernel⟩
theorem ok_loud_kinds {P : Program} {w : World} {K : PySem.W.Frag} {mg : Str → Option Value} {base : Heap} {Ω : Ad} {f : Addr} {fd : FuncData} (Fn : Fun K "loud_kinds" "loud_kinds" s_loud_kinds f fd) (T : Txt P w K mg Ω)  : DFn P w K mg base 3 f fd ["book", "on", "silences"] (sp_loud_kinds Ω) := by
  have S := sc_loud_kinds
  refine dfnS Fn S fun X B W hX hr hp lx => ?_
  have hu := hr.units
  have hu1 : X.A.units + 65 < cLine := by have := hr.un; omega
  have hu9 : X.A.units + 9 < cLine := by have := hr.un; omega
  obtain ⟨cdv, A, outer, s, H, E, rfl⟩ := hX
  refine ⟨_, (dss_cons (ds_set S.nd (i := 3) rfl (by first | exact Or.inl rfl | exact Or.inr rfl) (de_lst fa_nil))
    (dss_cons (ds_forX mono_ofI hp rfl (fi_range rfl T.b_range (DE.mono (de_callB call_lenA lk_len rfl T.b_len PySem.boot_len (fa_cons (fv 1) fa_nil)) fCall_of)) (dg_name S.nd (i := 4) rfl (by first | exact Or.inl rfl | exact Or.inr rfl)) (dss_cons (ds_setLcF (i := 5) (own := [("one", 6), ("other", 7)]) rfl S.nd rfl rfl (fi_seq (fe_at T.f_Book_pairs (fv 0))) (by refine ⟨rfl, by decide +kernel, ?_, ?_, ?_⟩ <;> (dsimp only [cxOf, envOfC, compEnvC]; decide +kernel)) (fun _ _ _ _ _ _ => (dgc_tup rfl (dgcs_cons S.nd (i := 6) rfl (by first | exact Or.inl rfl | exact Or.inr rfl) (by decide) (dgcs_cons S.nd (i := 7) rfl (by first | exact Or.inl rfl | exact Or.inr rfl) (by decide) dgcs_nil)))) (fun _ _ _ _ _ _ => (dts_if (DW.q (fw_and (fq_cmp (op_eqD hu) lk_eq (fv 7) (fv 4) (nomark _)) (fw_and1 (fq_val (fe_ix (ix_sub hu) lk_sub (fv 1) (fv 6) (fun _ _ => rfl)))))))) (fun _ _ _ _ _ _ => (fv 6)))
      (dss_cons (ds_if (fq_cmp (op_eqD hu) lk_eq (fe_ix (ix_sub hu) lk_sub (fe_at T.f_Book_words (fv 0)) fe_str (fun _ _ => rfl)) fe_str (nomark _)) (dss_one (ds_setLcF (i := 5) (own := [("one", 6)]) rfl S.nd rfl rfl (fi_seq (fv 5)) (by refine ⟨rfl, by decide +kernel, ?_, ?_, ?_⟩ <;> (dsimp only [cxOf, envOfC, compEnvC]; decide +kernel)) (fun _ _ _ _ _ _ => (dgc_name S.nd (i := 6) rfl (by first | exact Or.inl rfl | exact Or.inr rfl) (by decide))) (fun _ _ _ _ _ _ => (dts_if (fq_cmp (op_eqD hu) lk_eq (fe_ix (ix_sub hu) lk_sub (fv 2) (fv 6) (fun _ _ => rfl)) fe_int (nomark _)))) (fun _ _ _ _ _ _ => (fv 6)))) dss_nil)
      (dss_one (ds_if (DW.q (fw_and (fq_val (fe_ix (ix_sub hu) lk_sub (fv 1) (fv 4) (fun _ _ => rfl))) (fw_and (fq_cmp (op_eqD hu) lk_eq (fe_ix (ix_sub hu) lk_sub (fv 2) (fv 4) (fun _ _ => rfl)) fe_int (nomark _)) (fw_and1 (fq_cmp (op_eqD hu) lk_eq (fv 5) (fe_lst fa_nil) (nomark _)))))) (dss_one (ds_expr (de_append (fv 3) (fa_cons (fv 4) fa_nil)))) dss_nil)))))
    (dss_one (ds_ret (de_thaw 3 (fv 3)))))), fun ds C Q hl hs => ?_⟩
  obtain ⟨p, rfl, ⟨w, hp0, hw0⟩, q⟩ := hs
  refine ⟨_, rfl, Nat.zero_le _, fun l hl => ?_⟩
  refine ⟨[.int 0], by kernel_rfl, ?_⟩
  have hlp : l ≠ p := fun z => by rw [z, hp0] at hl; cases hl
  have hp1 : cupd C l (.lst []) p = some (.ins Ω.Book (bkFs kA w)) := by rw [cupd_ne (Ne.symm hlp)]; exact hp0
  have hw1 : cupd C l (.lst []) w = some (.dic ptK wd0) := new_at hw0 hl
  have hl1 : cupd C l (.lst []) l = some (.lst []) := cupd_same
  have hd1 : cdel (cupd C l (.lst [])) l = C := cdel_cupd hl
  generalize hC1 : cupd C l (.lst []) = C1 at hp1 hw1 hl1 hd1 ⊢
  refine ⟨.lst [], ev_lc (ev_seqT (ev_fld rfl hp1 rfl)) rfl, ?_⟩
  refine ⟨false, ev_B (ev_op (ev_op (z := .str "on") (ev_fld rfl hp1 rfl) rfl (by simp only [vSub, vDGet, asD, hw1]; kernel_rfl)) rfl (by kernel_rfl)), ?_⟩
  refine ⟨false, by kernel_rfl, ?_⟩
  refine ⟨_, rfl, ?_⟩
  have e2 : thaw 3 C1 (.ref l) = (.lst [], [l]) := by
    unfold thaw
    rw [hl1]
    rfl
  show ∃ C2, DL.Sub C2 (cdels C1 (thaw 3 C1 (.ref l)).2) ∧ Q (thaw 3 C1 (.ref l)).1 C2
  rw [e2]
  refine ⟨C, ?_, q⟩
  show DL.Sub C (cdel C1 l)
  rw [hd1]
  exact .refl
abbrev s_Book___init__ : Stmt := inClass (top 23) 0
theorem sc_Book___init__ : FnScope ["self", "kinds", "quiet", "times", "rule", "point"] ["self", "kinds", "quiet", "times", "rule"] (defScope s_Book___init__) := ⟨rfl, rfl, rfl, by decide +kernel, rfl, by decide +kernel, by decide +kernel⟩
theorem ok_Book___init__ {P : Program} {w : World} {K : PySem.W.Frag} {mg : Str → Option Value} {base : Heap} {Ω : Ad} {f : Addr} {fd : FuncData} (Fn : Fun K "__init__" "Book.__init__" s_Book___init__ f fd) (T : Txt P w K mg Ω) (g_check_kinds : Cal P w K mg base "check_kinds" 4 ["kinds"] (sp_check_kinds Ω)) (g_check_quiet : Cal P w K mg base "check_quiet" 4 ["kinds", "quiet"] (sp_check_quiet Ω)) (g_check_rule : Cal P w K mg base "check_rule" 4 ["rule"] (sp_check_rule Ω)) (g_check_times : Cal P w K mg base "check_times" 4 ["times"] (sp_check_times Ω)) : DFn P w K mg base 5 f fd ["self", "kinds", "quiet", "times", "rule"] (sp_Book___init__ Ω) := by
  have S := sc_Book___init__
  refine dfnS Fn S fun X B W hX hr hp lx => ?_
  have hu := hr.units
  have hu1 : X.A.units + 65 < cLine := by have := hr.un; omega
  have hu9 : X.A.units + 9 < cLine := by have := hr.un; omega
  obtain ⟨cdv, A, outer, s, H, E, rfl⟩ := hX
  refine ⟨_, (dss_cons (ds_expr (de_cal lx g_check_kinds (hr.mono (by decide)) rfl (fa_cons (fv 1) fa_nil)))
    (dss_cons (ds_expr (de_cal lx g_check_quiet (hr.mono (by decide)) rfl (fa_cons (fv 1) (fa_cons (fv 2) fa_nil))))
    (dss_cons (ds_expr (de_cal lx g_check_times (hr.mono (by decide)) rfl (fa_cons (fv 3) fa_nil)))
    (dss_cons (ds_expr (de_cal lx g_check_rule (hr.mono (by decide)) rfl (fa_cons (fv 4) fa_nil)))
    (dss_cons (ds_at T.f_Book_groups_of (fv 0) (fv 1))
    (dss_cons (ds_at T.f_Book_pairs (fv 0) (fv 2))
    (dss_cons (ds_at T.f_Book_numbers (fv 0) (fv 3))
    (dss_one (ds_at T.f_Book_words (fv 0) (de_dc (own := [("point", 5)]) rfl S.nd (fi_keys (fe_cst T.c_POINTS rfl)) (by refine ⟨rfl, by decide +kernel, ?_, ?_, ?_⟩ <;> (dsimp only [cxOf, envOfC, compEnvC]; decide +kernel)) (fun _ _ _ _ _ _ => (dgc_name S.nd (i := 5) rfl (by first | exact Or.inl rfl | exact Or.inr rfl) (by decide))) (fun _ _ _ _ _ _ => dts_yes) (fun _ _ _ _ _ _ => (fv 5)) (fun _ _ _ _ _ _ => (fe_ix (ix_sub hu) lk_sub (fv 4) (fv 5) (fun _ _ => rfl))))))))))))), fun ds C Q hl hs => ?_⟩
  obtain ⟨p, k, q, t, r, rfl, hp0, h⟩ := hs
  rcases h with ⟨rfl, h⟩ | ⟨rfl, rfl, h⟩ | ⟨rfl, rfl, rfl, h⟩ | ⟨rfl, rfl, rfl, rfl, h⟩ | ⟨hk, rfl, rfl, rfl, h⟩
  · exact ⟨_, rfl, rfl, .inr (.inr ⟨rfl, h⟩)⟩
  · exact ⟨_, rfl, rfl, .inl ⟨rfl, _, rfl, rfl, _, .inr ⟨rfl, h⟩⟩⟩
  · exact ⟨_, rfl, rfl, .inl ⟨rfl, _, rfl, rfl, _, .inl ⟨rfl, _, rfl, rfl, .inr ⟨rfl, h⟩⟩⟩⟩
  · exact ⟨_, rfl, rfl, .inl ⟨rfl, _, rfl, rfl, _, .inl ⟨rfl, _, rfl, rfl, .inl ⟨rfl, _, rfl, rfl, .inr ⟨rfl, h⟩⟩⟩⟩⟩
  · refine ⟨_, rfl, rfl, ?_⟩
    have go : ∀ R : Prop, R → ([k] = [kA] ∧ R) ∨ ([k] = [kB] ∧ R) ∨ ([k] = [D.tup []] ∧ W (.ref Ω.BadKinds) [] C) := fun R hR => by
      rcases hk with rfl | rfl
      · exact .inl ⟨rfl, hR⟩
      · exact .inr (.inl ⟨rfl, hR⟩)
    refine go _ ⟨_, rfl, rfl, k, .inl ⟨rfl, _, rfl, rfl, .inl ⟨rfl, _, rfl, rfl, .inl ⟨rfl, ?_⟩⟩⟩⟩
    refine ⟨_, rfl, _, rfl, p, _, rfl, hp0, by show 0 < 1000; decide, ?_⟩
    refine ⟨_, rfl, _, rfl, p, _, rfl, cupd_same, by show 1 < 1000; decide, ?_⟩
    refine ⟨_, rfl, _, rfl, p, _, rfl, cupd_same, by show 2 < 1000; decide, ?_⟩
    refine ⟨ptK, (ptK, wd0), by kernel_rfl, by kernel_rfl, fun w hw => ?_⟩
    have hwp : w ≠ p := fun z => by rw [z, cupd_same] at hw; cases hw
    rw [cupd_ne hwp, cupd_ne hwp, cupd_ne hwp] at hw
    refine ⟨_, rfl, p, _, rfl, by rw [cupd_ne (Ne.symm hwp), cupd_same], by show 3 < 1000; decide, ?_⟩
    refine ⟨_, .refl, ?_⟩
    have e : ∀ c1 c2 c3 c4 c5, cupd (cupd (cupd (cupd (cupd C p c1) p c2) p c3) w c4) p c5 = cupd (cupd C w c4) p c5 := fun c1 c2 c3 c4 c5 => by
      rw [cupd_cupd, cupd_cupd, cupd_comm (Ne.symm hwp), cupd_cupd]
    rw [e]
    exact h w hw
abbrev s_Book_rule : Stmt := inClass (top 23) 4
theorem sc_Book_rule : FnScope ["self"] ["self"] (defScope s_Book_rule) := ⟨rfl, rfl, rfl, by decide +kernel, rfl, by decide +kernel, by decide +kernel⟩
theorem ok_Book_rule {P : Program} {w : World} {K : PySem.W.Frag} {mg : Str → Option Value} {base : Heap} {Ω : Ad} {f : Addr} {fd : FuncData} (Fn : Fun K "rule" "Book.rule" s_Book_rule f fd) (T : Txt P w K mg Ω)  : DFn P w K mg base 3 f fd ["self"] (sp_Book_rule Ω) := by
  have S := sc_Book_rule
  refine dfnS Fn S fun X B W hX hr hp lx => ?_
  have hu := hr.units
  have hu1 : X.A.units + 65 < cLine := by have := hr.un; omega
  have hu9 : X.A.units + 9 < cLine := by have := hr.un; omega
  obtain ⟨cdv, A, outer, s, H, E, rfl⟩ := hX
  refine ⟨_, (dss_one (ds_ret (de_thaw 3 (de_dictC rfl T.b_dict (fe_at T.f_Book_words (fv 0)))))), fun ds C Q hl hs => ?_⟩
  obtain ⟨p, k, w, rfl, hp0, hw, q⟩ := hs
  refine ⟨w, ptK, wd0, fld_is rfl hp0 rfl, hw, ⟨_, _, rfl, rfl⟩, fun b hb => ?_⟩
  have e1 : thaw 3 (cupd C b (.dic ptK wd0)) (.ref b) = (r0, [b]) := by
    unfold thaw
    rw [cupd_same]
    rfl
  show ∃ C2, DL.Sub C2 (cdels (cupd C b (.dic ptK wd0)) (thaw 3 (cupd C b (.dic ptK wd0)) (.ref b)).2) ∧ Q (thaw 3 (cupd C b (.dic ptK wd0)) (.ref b)).1 C2
  rw [e1]
  refine ⟨C, ?_, q⟩
  show DL.Sub C (cdel (cupd C b (.dic ptK wd0)) b)
  rw [cdel_cupd hb]
  exact .refl
abbrev s_Record___init__ : Stmt := inClass (top 47) 0
theorem sc_Record___init__ : FnScope ["self", "book", "group"] ["self", "book"] (defScope s_Record___init__) := ⟨rfl, rfl, rfl, by decide +kernel, rfl, by decide +kernel, by decide +kernel⟩
theorem ok_Record___init__ {P : Program} {w : World} {K : PySem.W.Frag} {mg : Str → Option Value} {base : Heap} {Ω : Ad} {f : Addr} {fd : FuncData} (Fn : Fun K "__init__" "Record.__init__" s_Record___init__ f fd) (T : Txt P w K mg Ω) (g_first_standing : Cal P w K mg base "first_standing" 4 ["book"] (sp_first_standing Ω)) (g_Record_look : CalM P w K mg base Ω.Record "look" 4 ["self"] (sp_Record_look Ω)) : DFn P w K mg base 5 f fd ["self", "book"] (sp_Record___init__ Ω) := by
  have S := sc_Record___init__
  refine dfnS Fn S fun X B W hX hr hp lx => ?_
  have hu := hr.units
  have hu1 : X.A.units + 65 < cLine := by have := hr.un; omega
  have hu9 : X.A.units + 9 < cLine := by have := hr.un; omega
  obtain ⟨cdv, A, outer, s, H, E, rfl⟩ := hX
  refine ⟨_, (dss_cons (ds_at T.f_Record_origin (fv 0) (fv 1))
    (dss_cons (ds_at T.f_Record_standing (fv 0) (de_cal lx g_first_standing (hr.mono (by decide)) rfl (fa_cons (fv 1) fa_nil)))
    (dss_cons (ds_at T.f_Record_counts (fv 0) (de_lc (own := [("group", 2)]) rfl S.nd (fi_seq (fe_at T.f_Book_groups_of (fv 1))) (by refine ⟨rfl, by decide +kernel, ?_, ?_, ?_⟩ <;> (dsimp only [cxOf, envOfC, compEnvC]; decide +kernel)) (fun _ _ _ _ _ _ => (dgc_name S.nd (i := 2) rfl (by first | exact Or.inl rfl | exact Or.inr rfl) (by decide))) (fun _ _ _ _ _ _ => dts_yes) (fun _ _ _ _ _ _ => fe_int)))
    (dss_cons (ds_at T.f_Record_noted (fv 0) (de_lst fa_nil))
    (dss_cons (ds_at T.f_Record_seen (fv 0) (de_lst fa_nil))
    (dss_cons (ds_at T.f_Record_done (fv 0) (de_lst fa_nil))
    (dss_one (ds_expr (de_calM0 lx (fv 0) g_Record_look (hr.mono (by decide))))))))))), fun ds C Q hl hs => ?_⟩
  obtain ⟨p, b, w, rfl, hp0, hb, hw, k⟩ := hs
  have hwp : w ≠ p := fun z => by rw [z, hp0] at hw; cases hw
  have hpb : b ≠ p := fun z => by rw [z, hp0] at hb; simp [bkFs] at hb
  refine ⟨_, rfl, _, rfl, p, _, rfl, hp0, by show 0 < 1000; decide, ?_⟩
  have k1 : Keep p C (cupd C p (.ins Ω.Record (putFD "origin" (.ref b) []))) := Keep.at .refl
  have p1 : (cupd C p (.ins Ω.Record (putFD "origin" (.ref b) []))) p = some (.ins Ω.Record (putFD "origin" (.ref b) [])) := cupd_same
  generalize cupd C p (.ins Ω.Record (putFD "origin" (.ref b) [])) = C1 at k1 p1 ⊢
  refine ⟨_, rfl, rfl, b, w, rfl, k1 b _ hpb hb, ?_⟩
  refine ⟨_, rfl, p, _, rfl, p1, by show 1 < 1000; decide, ?_⟩
  have k2 : Keep p C (cupd C1 p (.ins Ω.Record (putFD "standing" std0 (putFD "origin" (.ref b) [])))) := k1.at
  have p2 : (cupd C1 p (.ins Ω.Record (putFD "standing" std0 (putFD "origin" (.ref b) [])))) p = some (.ins Ω.Record (putFD "standing" std0 (putFD "origin" (.ref b) []))) := cupd_same
  generalize cupd C1 p (.ins Ω.Record (putFD "standing" std0 (putFD "origin" (.ref b) []))) = C2 at k2 p2 ⊢
  simp only [dSeq, dFldS]
  refine lc_is (xs := [.str "a"]) (r := [.int 0]) (fun R h => ⟨_, ?_, h⟩) (by kernel_rfl) fun l hl => ?_
  · have e : fFld Ω.Book "groups_of" (fV 1) (startD ["self", "book", "group"] [.ref p, .ref b]) C2 = some kA := fld_is rfl (k2 b _ hpb hb) rfl
    unfold fSeq
    rw [e]
    rfl
  have hlp : l ≠ p := fun z => by rw [z, p2] at hl; cases hl
  refine ⟨_, rfl, p, _, rfl, by rw [cupd_ne (Ne.symm hlp)]; exact p2, by show 2 < 1000; decide, ?_⟩
  have k3 : Keep p C (cupd (cupd C2 l (.lst [.int 0])) p (.ins Ω.Record (putFD "counts" (.ref l) (putFD "standing" std0 (putFD "origin" (.ref b) []))))) := (k2.new hl).at
  generalize hC3 : cupd (cupd C2 l (.lst [.int 0])) p (.ins Ω.Record (putFD "counts" (.ref l) (putFD "standing" std0 (putFD "origin" (.ref b) [])))) = C3 at k3 ⊢
  have p3 : C3 p = some (.ins Ω.Record (putFD "counts" (.ref l) (putFD "standing" std0 (putFD "origin" (.ref b) [])))) := by rw [← hC3]; exact cupd_same
  refine ⟨_, rfl, by show 0 ≤ sizeLine; exact Nat.zero_le _, fun l1 h1 => ?_⟩
  have hlp1 : l1 ≠ p := fun z => by rw [z, p3] at h1; cases h1
  refine ⟨_, rfl, p, _, rfl, by rw [cupd_ne (Ne.symm hlp1)]; exact p3, by show 3 < 1000; decide, ?_⟩
  have k4 := (k3.new (c := .lst []) h1).at (c := .ins Ω.Record (putFD "noted" (.ref l1) (putFD "counts" (.ref l) (putFD "standing" std0 (putFD "origin" (.ref b) [])))))
  generalize hC4 : cupd (cupd C3 l1 (.lst [])) p (.ins Ω.Record (putFD "noted" (.ref l1) (putFD "counts" (.ref l) (putFD "standing" std0 (putFD "origin" (.ref b) []))))) = C4 at k4 ⊢
  have p4 : C4 p = some (.ins Ω.Record (putFD "noted" (.ref l1) (putFD "counts" (.ref l) (putFD "standing" std0 (putFD "origin" (.ref b) []))))) := by rw [← hC4]; exact cupd_same
  refine ⟨_, rfl, by show 0 ≤ sizeLine; exact Nat.zero_le _, fun l2 h2 => ?_⟩
  have hlp2 : l2 ≠ p := fun z => by rw [z, p4] at h2; cases h2
  refine ⟨_, rfl, p, _, rfl, by rw [cupd_ne (Ne.symm hlp2)]; exact p4, by show 4 < 1000; decide, ?_⟩
  have k5 := (k4.new (c := .lst []) h2).at (c := .ins Ω.Record (putFD "seen" (.ref l2) (putFD "noted" (.ref l1) (putFD "counts" (.ref l) (putFD "standing" std0 (putFD "origin" (.ref b) []))))))
  generalize hC5 : cupd (cupd C4 l2 (.lst [])) p (.ins Ω.Record (putFD "seen" (.ref l2) (putFD "noted" (.ref l1) (putFD "counts" (.ref l) (putFD "standing" std0 (putFD "origin" (.ref b) [])))))) = C5 at k5 ⊢
  have p5 : C5 p = some (.ins Ω.Record (putFD "seen" (.ref l2) (putFD "noted" (.ref l1) (putFD "counts" (.ref l) (putFD "standing" std0 (putFD "origin" (.ref b) [])))))) := by rw [← hC5]; exact cupd_same
  refine ⟨_, rfl, by show 0 ≤ sizeLine; exact Nat.zero_le _, fun l3 h3 => ?_⟩
  have hlp3 : l3 ≠ p := fun z => by rw [z, p5] at h3; cases h3
  refine ⟨_, rfl, p, _, rfl, by rw [cupd_ne (Ne.symm hlp3)]; exact p5, by show 5 < 1000; decide, ?_⟩
  have k6 := (k5.new (c := .lst []) h3).at (c := .ins Ω.Record (putFD "done" (.ref l3) (putFD "seen" (.ref l2) (putFD "noted" (.ref l1) (putFD "counts" (.ref l) (putFD "standing" std0 (putFD "origin" (.ref b) [])))))))
  generalize hC6 : cupd (cupd C5 l3 (.lst [])) p (.ins Ω.Record (putFD "done" (.ref l3) (putFD "seen" (.ref l2) (putFD "noted" (.ref l1) (putFD "counts" (.ref l) (putFD "standing" std0 (putFD "origin" (.ref b) []))))))) = C6 at k6 ⊢
  have p6 : C6 p = some (.ins Ω.Record (putFD "done" (.ref l3) (putFD "seen" (.ref l2) (putFD "noted" (.ref l1) (putFD "counts" (.ref l) (putFD "standing" std0 (putFD "origin" (.ref b) []))))))) := by rw [← hC6]; exact cupd_same
  refine ⟨_, rfl, p, _, rfl, p6, rfl, rfl, p, b, w, _, rfl, Ne.symm hpb, p6, by show 6 < 100; decide, rfl, rfl, k6 b _ hpb hb, k6 w _ hwp hw, ?_⟩
  refine ⟨_, .refl, ?_⟩
  exact k _ k6.at ⟨_, cupd_same, rfl, rfl⟩
abbrev s_Record_look : Stmt := inClass (top 47) 1
theorem sc_Record_look : FnScope ["self"] ["self"] (defScope s_Record_look) := ⟨rfl, rfl, rfl, by decide +kernel, rfl, by decide +kernel, by decide +kernel⟩
theorem ok_Record_look {P : Program} {w : World} {K : PySem.W.Frag} {mg : Str → Option Value} {base : Heap} {Ω : Ad} {f : Addr} {fd : FuncData} (Fn : Fun K "look" "Record.look" s_Record_look f fd) (T : Txt P w K mg Ω) (g_groups_in : Cal P w K mg base "groups_in" 3 ["book"] (spF (f_groups_in Ω))) (g_loud_kinds : Cal P w K mg base "loud_kinds" 3 ["book", "on", "silences"] (sp_loud_kinds Ω)) : DFn P w K mg base 4 f fd ["self"] (sp_Record_look Ω) := by
  have S := sc_Record_look
  refine dfnS Fn S fun X B W hX hr hp lx => ?_
  have hu := hr.units
  have hu1 : X.A.units + 65 < cLine := by have := hr.un; omega
  have hu9 : X.A.units + 9 < cLine := by have := hr.un; omega
  obtain ⟨cdv, A, outer, s, H, E, rfl⟩ := hX
  refine ⟨_, (dss_cons (ds_at T.f_Record_heard (fv 0) (de_callTy call_tuple_of lk_tuple rfl T.b_tuple (by decide +kernel) (da_cons (de_cal lx g_loud_kinds (hr.mono (by decide)) rfl (fa_cons (fe_at T.f_Record_origin (fv 0)) (fa_cons (fe_ix (ix_sub hu) lk_sub (fe_at T.f_Record_standing (fv 0)) fe_int (fun _ _ => rfl)) (fa_cons (fe_ix (ix_sub hu) lk_sub (fe_at T.f_Record_standing (fv 0)) fe_int (fun _ _ => rfl)) fa_nil)))) da_nil)))
    (dss_one (ds_at T.f_Record_names (fv 0) (fe_cal g_groups_in (hr.mono (by decide)) rfl (fa_cons (fe_at T.f_Record_origin (fv 0)) fa_nil))))), fun ds C Q hl hs => ?_⟩
  obtain ⟨p, b, w, fs, rfl, hpb, hp0, hl0, ho, hst, hb, hw, q⟩ := hs
  have e1 : ∀ (fs' : List (Str × D)) (C' : Cs), C' p = some (.ins Ω.Record fs') → fs'.lookup ("origin" : Str) = some (.ref b) → fFld Ω.Record "origin" (fV 0) (startD ["self"] [.ref p]) C' = some (.ref b) := fun fs' C' h1 h2 => fld_is rfl h1 h2
  have e2 : fFld Ω.Record "standing" (fV 0) (startD ["self"] [.ref p]) C = some std0 := fld_is rfl hp0 hst
  have e3 : fCons (fFld Ω.Record "origin" (fV 0)) (fCons (fOp vSub (fFld Ω.Record "standing" (fV 0)) (fC (.int 0))) (fCons (fOp vSub (fFld Ω.Record "standing" (fV 0)) (fC (.int 1))) fNil)) (startD ["self"] [.ref p]) C = some [.ref b, .tup [.bl false], .tup [.int 0]] := by
    simp only [fCons, fNil, fOp, e1 fs C hp0 ho, e2]
    rfl
  refine ⟨_, e3, rfl, b, rfl, ⟨w, hb, hw⟩, ?_⟩
  refine ⟨.tup [], rfl, ?_⟩
  refine ⟨_, rfl, p, fs, rfl, hp0, by omega, ?_⟩
  have ho' : (putFD "heard" (.tup []) fs).lookup ("origin" : Str) = some (.ref b) := by rw [lookup_putFD, if_neg (by decide +kernel)]; exact ho
  have e4 : fCal (["book"] : List Str).length (f_groups_in Ω) (fCons (fFld Ω.Record "origin" (fV 0)) fNil) (startD ["self"] [.ref p]) (cupd C p (.ins Ω.Record (putFD "heard" (.tup []) fs))) = some (.lst [.str "a"]) := by
    simp only [fCal, fCons, fNil, e1 _ _ cupd_same ho']
    exact gi_is (w := w) (by rw [cupd_ne (Ne.symm hpb)]; exact hb)
  refine ⟨_, e4, _, rfl, p, _, rfl, cupd_same, by have := length_putFD "heard" (.tup []) fs; omega, ?_⟩
  refine ⟨_, .refl, ?_⟩
  rw [cupd_cupd]
  exact q
abbrev s_Record_is_possible : Stmt := inClass (top 47) 9
theorem sc_Record_is_possible : FnScope ["self", "event", "one"] ["self", "event"] (defScope s_Record_is_possible) := ⟨rfl, rfl, rfl, by decide +kernel, rfl, by decide +kernel, by decide +kernel⟩
theorem ok_Record_is_possible {P : Program} {w : World} {K : PySem.W.Frag} {mg : Str → Option Value} {base : Heap} {Ω : Ad} {f : Addr} {fd : FuncData} (Fn : Fun K "is_possible" "Record.is_possible" s_Record_is_possible f fd) (T : Txt P w K mg Ω)  : DFn P w K mg base 3 f fd ["self", "event"] (sp_Record_is_possible Ω) := by
  have S := sc_Record_is_possible
  refine dfnS Fn S fun X B W hX hr hp lx => ?_
  have hu := hr.units
  have hu1 : X.A.units + 65 < cLine := by have := hr.un; omega
  have hu9 : X.A.units + 9 < cLine := by have := hr.un; omega
  obtain ⟨cdv, A, outer, s, H, E, rfl⟩ := hX
  refine ⟨_, (dss_cons (ds_if (DW.q (fw_or (fq_not (fq_val (fe_isi (T := "tuple") rfl T.b_isinstance rfl T.b_tuple (by decide +kernel) (fv 1)))) (fw_or1 (fq_not (fq_val (DE.mono (de_callB (cr_all rfl) lk_all rfl T.b_all boot_all (fa_cons (fe_lc (own := [("one", 2)]) rfl S.nd (fi_seq (fv 1)) (by refine ⟨rfl, by decide +kernel, ?_, ?_, ?_⟩ <;> (dsimp only [cxOf, envOfC, compEnvC]; decide +kernel)) (fun _ _ _ _ _ _ => (dgc_name S.nd (i := 2) rfl (by first | exact Or.inl rfl | exact Or.inr rfl) (by decide))) (fun _ _ _ _ _ _ => dts_yes) (fun _ _ _ _ _ _ => (fe_isi2 (T1 := "str") (T2 := "int") rfl T.b_isinstance rfl T.b_str (by decide +kernel) rfl T.b_int (by decide +kernel) (fv 2)))) fa_nil)) fCall_of)))))) (dss_one (ds_ret fe_bl)) dss_nil)
    (dss_cons ds_never
    (dss_one ds_never))), fun ds C Q hl hs => ?_⟩
  obtain ⟨s, rfl, q⟩ := hs
  exact ⟨true, by kernel_rfl, _, rfl, C, .refl, q⟩
abbrev s_Record_add : Stmt := inClass (top 47) 10
theorem sc_Record_add : FnScope ["self", "event", "letters", "findings", "letter", "finding"] ["self", "event"] (defScope s_Record_add) := ⟨rfl, rfl, rfl, by decide +kernel, rfl, by decide +kernel, by decide +kernel⟩
theorem ok_Record_add {P : Program} {w : World} {K : PySem.W.Frag} {mg : Str → Option Value} {base : Heap} {Ω : Ad} {f : Addr} {fd : FuncData} (Fn : Fun K "add" "Record.add" s_Record_add f fd) (T : Txt P w K mg Ω)  : DFn P w K mg base 3 f fd ["self", "event"] (sp_Record_add Ω) := by
  have S := sc_Record_add
  refine dfnS Fn S fun X B W hX hr hp lx => ?_
  have hu := hr.units
  have hu1 : X.A.units + 65 < cLine := by have := hr.un; omega
  have hu9 : X.A.units + 9 < cLine := by have := hr.un; omega
  obtain ⟨cdv, A, outer, s, H, E, rfl⟩ := hX
  refine ⟨_, (dss_cons ds_never
    (dss_cons ds_never
    (dss_cons ds_never
    (dss_cons ds_never
    (dss_cons ds_never
    (dss_cons ds_never
    (dss_cons ds_never
    (dss_cons ds_never
    (dss_one ds_never))))))))), fun ds C Q hl hs => ?_⟩
  exact hs.elim
abbrev s_replay : Stmt := top 48
theorem sc_replay : FnScope ["book", "events", "found", "index", "event"] ["book", "events"] (defScope s_replay) := ⟨rfl, rfl, rfl, by decide +kernel, rfl, by decide +kernel, by decide +kernel⟩
theorem ok_replay {P : Program} {w : World} {K : PySem.W.Frag} {mg : Str → Option Value} {base : Heap} {Ω : Ad} {f : Addr} {fd : FuncData} (Fn : Fun K "replay" "replay" s_replay f fd) (T : Txt P w K mg Ω) (g_Record : CalK P w K mg base "Record" Ω.Record 5 ["self", "book"] (sp_Record___init__ Ω)) (g_BadEvent : CalX P w K mg base "BadEvent" Ω.BadEvent ["self", "index"] ["index"]) (g_Record_add : CalM P w K mg base Ω.Record "add" 3 ["self", "event"] (sp_Record_add Ω)) (g_Record_is_possible : CalM P w K mg base Ω.Record "is_possible" 3 ["self", "event"] (sp_Record_is_possible Ω)) : DFn P w K mg base 7 f fd ["book", "events"] (sp_replay Ω) := by
  have S := sc_replay
  refine dfnS Fn S fun X B W hX hr hp lx => ?_
  have hu := hr.units
  have hu1 : X.A.units + 65 < cLine := by have := hr.un; omega
  have hu9 : X.A.units + 9 < cLine := by have := hr.un; omega
  obtain ⟨cdv, A, outer, s, H, E, rfl⟩ := hX
  refine ⟨_, (dss_cons (ds_set S.nd (i := 2) rfl (by first | exact Or.inl rfl | exact Or.inr rfl) (de_calK lx g_Record (hr.mono (by decide)) rfl (fa_cons (fv 0) fa_nil)))
    (dss_cons (ds_forX mono_ofI hp rfl (fi_enum rfl T.b_enumerate (fv 1)) (dg_tup (n := 2) rfl (dgs_cons (dg_name S.nd (i := 3) rfl (by first | exact Or.inl rfl | exact Or.inr rfl)) (dgs_cons (dg_name S.nd (i := 4) rfl (by first | exact Or.inl rfl | exact Or.inr rfl)) dgs_nil))) (dss_cons (ds_if (dq_not (dq_val (de_calM lx (fv 2) g_Record_is_possible (hr.mono (by decide)) (fa_cons (fv 4) fa_nil)))) (dss_one (ds_raise1 rfl lx g_BadEvent (hr.mono (by decide)) rfl (da_cons (fv 3) da_nil))) dss_nil)
      (dss_one (ds_expr (de_calM lx (fv 2) g_Record_add (hr.mono (by decide)) (fa_cons (fv 4) fa_nil))))))
    (dss_one (ds_ret (fv 2))))), fun ds C Q hl hs => ?_⟩
  obtain ⟨b, w, rfl, hb, hw, k⟩ := hs
  refine ⟨_, rfl, fun p hp0 => ⟨rfl, p, b, w, rfl, cupd_same, ?_, ?_, ?_⟩⟩
  · rw [cupd_ne (fun z => by rw [z, hp0] at hb; cases hb)]; exact hb
  · rw [cupd_ne (fun z => by rw [z, hp0] at hw; cases hw)]; exact hw
  intro C2 k2 hf
  obtain ⟨fs, hp2, l1, l2⟩ := hf
  refine ⟨rfl, ?_⟩
  refine ⟨_, rfl, ?_⟩
  refine ⟨_, rfl, rfl, _, _, rfl, _, _, rfl, rfl, ?_⟩
  refine ⟨_, rfl, p, fs, rfl, hp2, l1, _, rfl, rfl, _, rfl, false, rfl, ?_⟩
  refine ⟨_, rfl, _, rfl, (by show Nat.log2 0 < 1920; decide), k _ fun a c h => ?_⟩
  exact k2 a c (fun z => by rw [z, hp0] at h; cases h) (by rw [cupd_ne (fun z => by rw [z, hp0] at h; cases h)]; exact h)
abbrev s_longest : Stmt := top 57
theorem sc_longest : FnScope ["book", "k"] ["book", "k"] (defScope s_longest) := ⟨rfl, rfl, rfl, by decide +kernel, rfl, by decide +kernel, by decide +kernel⟩
theorem ok_longest {P : Program} {w : World} {K : PySem.W.Frag} {mg : Str → Option Value} {base : Heap} {Ω : Ad} {f : Addr} {fd : FuncData} (Fn : Fun K "longest" "longest" s_longest f fd) (T : Txt P w K mg Ω) (g_check_kind : Cal P w K mg base "check_kind" 4 ["book", "kind"] (sp_check_kind Ω)) : DFn P w K mg base 5 f fd ["book", "k"] (sp_longest Ω) := by
  have S := sc_longest
  refine dfnS Fn S fun X B W hX hr hp lx => ?_
  have hu := hr.units
  have hu1 : X.A.units + 65 < cLine := by have := hr.un; omega
  have hu9 : X.A.units + 9 < cLine := by have := hr.un; omega
  obtain ⟨cdv, A, outer, s, H, E, rfl⟩ := hX
  refine ⟨_, (dss_cons (ds_expr (de_cal lx g_check_kind (hr.mono (by decide)) rfl (fa_cons (fv 0) (fa_cons (fv 1) fa_nil))))
    (dss_one ds_never)), fun ds C Q hl hs => ?_⟩
  obtain ⟨p, w, rfl, hp0, q⟩ := hs
  exact ⟨_, rfl, rfl, p, w, rfl, hp0, q⟩
abbrev s_parting : Stmt := top 61
theorem sc_parting : FnScope ["one", "other"] ["one", "other"] (defScope s_parting) := ⟨rfl, rfl, rfl, by decide +kernel, rfl, by decide +kernel, by decide +kernel⟩
theorem ok_parting {P : Program} {w : World} {K : PySem.W.Frag} {mg : Str → Option Value} {base : Heap} {Ω : Ad} {f : Addr} {fd : FuncData} (Fn : Fun K "parting" "parting" s_parting f fd) (T : Txt P w K mg Ω) (g_NotComparable : CalX P w K mg base "NotComparable" Ω.NotComparable ["self"] []) : DFn P w K mg base 3 f fd ["one", "other"] (sp_parting Ω) := by
  have S := sc_parting
  refine dfnS Fn S fun X B W hX hr hp lx => ?_
  have hu := hr.units
  have hu1 : X.A.units + 65 < cLine := by have := hr.un; omega
  have hu9 : X.A.units + 9 < cLine := by have := hr.un; omega
  obtain ⟨cdv, A, outer, s, H, E, rfl⟩ := hX
  refine ⟨_, (dss_cons (ds_if (fq_cmp (op_neD hu) lk_ne (fe_at T.f_Book_groups_of (fv 0)) (fe_at T.f_Book_groups_of (fv 1)) (nomark _)) (dss_one (ds_raise0 rfl lx g_NotComparable (hr.mono (by decide)) rfl)) dss_nil)
    (dss_one ds_never)), fun ds C Q hl hs => ?_⟩
  obtain ⟨p, w, p2, w2, rfl, hp0, hp2, q⟩ := hs
  refine ⟨true, ?_, q⟩
  have e : fFld Ω.Book "groups_of" (fV 0) (startD ["one", "other"] [.ref p, .ref p2]) C = some kA := fld_is rfl hp0 rfl
  have e2 : fFld Ω.Book "groups_of" (fV 1) (startD ["one", "other"] [.ref p, .ref p2]) C = some kB := fld_is rfl hp2 rfl
  simp only [fB, fOp, e, e2]
  kernel_rfl
abbrev s_alike : Stmt := top 62
theorem sc_alike : FnScope ["one", "other"] ["one", "other"] (defScope s_alike) := ⟨rfl, rfl, rfl, by decide +kernel, rfl, by decide +kernel, by decide +kernel⟩
theorem ok_alike {P : Program} {w : World} {K : PySem.W.Frag} {mg : Str → Option Value} {base : Heap} {Ω : Ad} {f : Addr} {fd : FuncData} (Fn : Fun K "alike" "alike" s_alike f fd) (T : Txt P w K mg Ω) (g_parting : Cal P w K mg base "parting" 3 ["one", "other"] (sp_parting Ω)) : DFn P w K mg base 4 f fd ["one", "other"] (sp_alike Ω) := by
  have S := sc_alike
  refine dfnS Fn S fun X B W hX hr hp lx => ?_
  have hu := hr.units
  have hu1 : X.A.units + 65 < cLine := by have := hr.un; omega
  have hu9 : X.A.units + 9 < cLine := by have := hr.un; omega
  obtain ⟨cdv, A, outer, s, H, E, rfl⟩ := hX
  refine ⟨_, (dss_one (ds_ret (de_cmp op_isN lk_isN (de_cal lx g_parting (hr.mono (by decide)) rfl (fa_cons (fv 0) (fa_cons (fv 1) fa_nil))) fe_non (nomark _)))), fun ds C Q hl hs => ?_⟩
  obtain ⟨p, w, p2, w2, rfl, hp0, hp2, q⟩ := hs
  exact ⟨_, rfl, rfl, p, w, p2, w2, rfl, hp0, hp2, q⟩
abbrev s_mends : Stmt := top 65
theorem sc_mends : FnScope ["book", "words", "index", "word", "found", "some", "other"] ["book", "words"] (defScope s_mends) := ⟨rfl, rfl, rfl, by decide +kernel, rfl, by decide +kernel, by decide +kernel⟩
theorem ok_mends {P : Program} {w : World} {K : PySem.W.Frag} {mg : Str → Option Value} {base : Heap} {Ω : Ad} {f : Addr} {fd : FuncData} (Fn : Fun K "mends" "mends" s_mends f fd) (T : Txt P w K mg Ω) (g_UnknownWord : CalX P w K mg base "UnknownWord" Ω.UnknownWord ["self", "index"] ["index"]) : DFn P w K mg base 3 f fd ["book", "words"] (sp_mends Ω) := by
  have S := sc_mends
  refine dfnS Fn S fun X B W hX hr hp lx => ?_
  have hu := hr.units
  have hu1 : X.A.units + 65 < cLine := by have := hr.un; omega
  have hu9 : X.A.units + 9 < cLine := by have := hr.un; omega
  obtain ⟨cdv, A, outer, s, H, E, rfl⟩ := hX
  refine ⟨_, (dss_cons (ds_forX mono_ofI hp rfl (fi_enum rfl T.b_enumerate (fv 1)) (dg_tup (n := 2) rfl (dgs_cons (dg_name S.nd (i := 2) rfl (by first | exact Or.inl rfl | exact Or.inr rfl)) (dgs_cons (dg_name S.nd (i := 3) rfl (by first | exact Or.inl rfl | exact Or.inr rfl)) dgs_nil))) (dss_one (ds_if (DW.q (fw_or (fq_not (fq_val (fe_isi (T := "str") rfl T.b_isinstance rfl T.b_str (by decide +kernel) (fv 3)))) (fw_or1 (fq_cmp (op_notInA hu1) lk_notIn (fv 3) (fe_cst T.c_WORDS rfl) (by with_unfolding_all rfl))))) (dss_one (ds_raise1 rfl lx g_UnknownWord (hr.mono (by decide)) rfl (da_cons (fv 2) da_nil))) dss_nil)))
    (dss_cons ds_never
    (dss_cons ds_never
    (dss_one ds_never)))), fun ds C Q hl hs => ?_⟩
  obtain ⟨b, rfl, q⟩ := hs
  refine ⟨_, rfl, _, rfl, rfl, _, _, rfl, _, _, rfl, rfl, true, by kernel_rfl, ?_⟩
  exact ⟨_, rfl, _, rfl, (by show Nat.log2 0 < 1920; decide), q⟩
abbrev s_Line___init__ : Stmt := inClass (top 27) 0
theorem sc_Line___init__ : FnScope ["self", "rows", "at", "word"] ["self", "rows", "at"] (defScope s_Line___init__) := ⟨rfl, rfl, rfl, by decide +kernel, rfl, by decide +kernel, by decide +kernel⟩
theorem ok_Line___init__ {P : Program} {w : World} {K : PySem.W.Frag} {mg : Str → Option Value} {base : Heap} {Ω : Ad} {f : Addr} {fd : FuncData} (Fn : Fun K "__init__" "Line.__init__" s_Line___init__ f fd) (T : Txt P w K mg Ω) (g_BadLine : CalX P w K mg base "BadLine" Ω.BadLine ["self", "line", "word"] ["line", "word"]) : DFn P w K mg base 3 f fd ["self", "rows", "at"] (sp_Line___init__ Ω) := by
  have S := sc_Line___init__
  refine dfnS Fn S fun X B W hX hr hp lx => ?_
  have hu := hr.units
  have hu1 : X.A.units + 65 < cLine := by have := hr.un; omega
  have hu9 : X.A.units + 9 < cLine := by have := hr.un; omega
  obtain ⟨cdv, A, outer, s, H, E, rfl⟩ := hX
  refine ⟨_, (dss_cons (ds_if (fq_cmp op_ge lk_B (fv 2) (DE.mono (de_callB call_lenA lk_len rfl T.b_len PySem.boot_len (fa_cons (fv 1) fa_nil)) fCall_of) (nomark _)) (dss_one (ds_raise2 rfl lx g_BadLine (hr.mono (by decide)) rfl (da_cons (fe_bin op_addA lk_add (DE.mono (de_callB call_lenA lk_len rfl T.b_len PySem.boot_len (fa_cons (fv 1) fa_nil)) fCall_of) fe_int) (da_cons fe_int da_nil)))) dss_nil)
    (dss_cons (ds_at T.f_Line_words_in (fv 0) (de_lc (own := [("word", 3)]) rfl S.nd (fi_seq (fe_split (fe_ix (ix_sub hu) lk_sub (fv 1) (fv 2) (fun _ _ => rfl)) fe_str)) (by refine ⟨rfl, by decide +kernel, ?_, ?_, ?_⟩ <;> (dsimp only [cxOf, envOfC, compEnvC]; decide +kernel)) (fun _ _ _ _ _ _ => (dgc_name S.nd (i := 3) rfl (by first | exact Or.inl rfl | exact Or.inr rfl) (by decide))) (fun _ _ _ _ _ _ => (dts_if (fq_cmp (op_neD hu) lk_ne (fv 3) fe_str (nomark _)))) (fun _ _ _ _ _ _ => (fv 3))))
    (dss_cons (ds_at T.f_Line_at_line (fv 0) (fe_bin op_addA lk_add (fv 2) fe_int))
    (dss_one (ds_at T.f_Line_spot (fv 0) fe_int))))), fun ds C Q hl hs => ?_⟩
  obtain ⟨p, rfl, hp0, q⟩ := hs
  refine ⟨false, by kernel_rfl, ?_⟩
  simp only [Bool.false_eq_true, if_false, dNext, dSeq, dFldS]
  refine lc_is (xs := [.str ""]) (r := []) (fun R h => ⟨_, by kernel_rfl, h⟩) (by kernel_rfl) fun l hl => ?_
  have hlp : l ≠ p := fun z => by rw [z, hp0] at hl; cases hl
  refine ⟨_, rfl, p, _, rfl, by rw [cupd_ne (Ne.symm hlp)]; exact hp0, by show 0 < 1000; decide, ?_⟩
  refine ⟨.int 1, by kernel_rfl, _, rfl, p, _, rfl, cupd_same, by show 1 < 1000; decide, ?_⟩
  refine ⟨_, rfl, _, rfl, p, _, rfl, cupd_same, by show 2 < 1000; decide, ?_⟩
  refine ⟨_, .refl, ?_⟩
  rw [cupd_cupd, cupd_cupd]
  exact q l hl
abbrev s_Line_one_of : Stmt := inClass (top 27) 1
theorem sc_Line_one_of : FnScope ["self", "some", "word"] ["self", "some"] (defScope s_Line_one_of) := ⟨rfl, rfl, rfl, by decide +kernel, rfl, by decide +kernel, by decide +kernel⟩
theorem ok_Line_one_of {P : Program} {w : World} {K : PySem.W.Frag} {mg : Str → Option Value} {base : Heap} {Ω : Ad} {f : Addr} {fd : FuncData} (Fn : Fun K "one_of" "Line.one_of" s_Line_one_of f fd) (T : Txt P w K mg Ω) (g_BadLine : CalX P w K mg base "BadLine" Ω.BadLine ["self", "line", "word"] ["line", "word"]) : DFn P w K mg base 3 f fd ["self", "some"] (sp_Line_one_of Ω) := by
  have S := sc_Line_one_of
  refine dfnS Fn S fun X B W hX hr hp lx => ?_
  have hu := hr.units
  have hu1 : X.A.units + 65 < cLine := by have := hr.un; omega
  have hu9 : X.A.units + 9 < cLine := by have := hr.un; omega
  obtain ⟨cdv, A, outer, s, H, E, rfl⟩ := hX
  refine ⟨_, (dss_cons (ds_set S.nd (i := 2) rfl (by first | exact Or.inl rfl | exact Or.inr rfl) (fe_if (fq_cmp op_lt lk_B (fe_at T.f_Line_spot (fv 0)) (DE.mono (de_callB call_lenA lk_len rfl T.b_len PySem.boot_len (fa_cons (fe_at T.f_Line_words_in (fv 0)) fa_nil)) fCall_of) (nomark _)) (fe_ix (ix_sub hu) lk_sub (fe_at T.f_Line_words_in (fv 0)) (fe_at T.f_Line_spot (fv 0)) (fun _ _ => rfl)) fe_str))
    (dss_cons (ds_if (DW.q (fw_or (fq_cmp (op_eqD hu) lk_eq (fv 2) fe_str (nomark _)) (fw_or1 (fq_cmp (op_notInA hu1) lk_notIn (fv 2) (fv 1) (by with_unfolding_all rfl))))) (dss_one (ds_raise2 rfl lx g_BadLine (hr.mono (by decide)) rfl (da_cons (fe_at T.f_Line_at_line (fv 0)) (da_cons (fe_bin op_addA lk_add (fe_at T.f_Line_spot (fv 0)) fe_int) da_nil)))) dss_nil)
    (dss_cons (ds_aug T.f_Line_spot in_add (fv 0) fe_int)
    (dss_one (ds_ret (fv 2)))))), fun ds C Q hl hs => ?_⟩
  obtain ⟨p, l, rfl, hp0, hl0, q⟩ := hs
  have e1 : ∀ x, fFld Ω.Line "spot" (fV 0) [some (.ref p), some (.lst [.str "kinds"]), x] C = some (.int 0) := fun x => fld_is rfl hp0 rfl
  have e2 : ∀ x, fFld Ω.Line "words_in" (fV 0) [some (.ref p), some (.lst [.str "kinds"]), x] C = some (.ref l) := fun x => fld_is rfl hp0 rfl
  have e3 : ∀ x, fFld Ω.Line "at_line" (fV 0) [some (.ref p), some (.lst [.str "kinds"]), x] C = some (.int 1) := fun x => fld_is rfl hp0 rfl
  have e4 : fCall vLen (fCons (fFld Ω.Line "words_in" (fV 0)) fNil) [some (.ref p), some (.lst [.str "kinds"]), none] C = some (.int 0) := by
    unfold fCall fCons fNil
    rw [e2]
    simp only [vLen, asSeq, asL, hl0]
    rfl
  refine ⟨.str "", ?_, ?_⟩
  · simp only [fIf, fB, fOp, e4, startD, List.map, List.length, List.replicate, List.append, HAppend.hAppend, Append.append, e1, e2]
    kernel_rfl
  refine ⟨true, by kernel_rfl, ?_⟩
  refine ⟨.int 1, e3 _, .int 1, ?_, _, _, rfl, (by show Nat.log2 1 < 1920; decide), q⟩
  have e5 : fFld Ω.Line "spot" (fV 0) (List.set (startD ["self", "some", "word"] [.ref p, .lst [.str "kinds"]]) 2 (some (.str ""))) C = some (.int 0) := e1 _
  unfold fOp
  rw [e5]
  rfl
abbrev s_read_kinds : Stmt := top 28
theorem sc_read_kinds : FnScope ["line", "found"] ["line"] (defScope s_read_kinds) := ⟨rfl, rfl, rfl, by decide +kernel, rfl, by decide +kernel, by decide +kernel⟩
theorem ok_read_kinds {P : Program} {w : World} {K : PySem.W.Frag} {mg : Str → Option Value} {base : Heap} {Ω : Ad} {f : Addr} {fd : FuncData} (Fn : Fun K "read_kinds" "read_kinds" s_read_kinds f fd) (T : Txt P w K mg Ω) (g_Line_one_of : CalM P w K mg base Ω.Line "one_of" 3 ["self", "some"] (sp_Line_one_of Ω)) : DFn P w K mg base 4 f fd ["line"] (sp_read_kinds Ω) := by
  have S := sc_read_kinds
  refine dfnS Fn S fun X B W hX hr hp lx => ?_
  have hu := hr.units
  have hu1 : X.A.units + 65 < cLine := by have := hr.un; omega
  have hu9 : X.A.units + 9 < cLine := by have := hr.un; omega
  obtain ⟨cdv, A, outer, s, H, E, rfl⟩ := hX
  refine ⟨_, (dss_cons (ds_expr (de_calM lx (fv 0) g_Line_one_of (hr.mono (by decide)) (fa_cons (fe_lst (fa_cons fe_str fa_nil)) fa_nil)))
    (dss_cons ds_never
    (dss_cons ds_never
    (dss_cons ds_never
    (dss_one ds_never))))), fun ds C Q hl hs => ?_⟩
  obtain ⟨p, l, rfl, hp0, hl0, q⟩ := hs
  exact ⟨_, rfl, p, _, rfl, hp0, rfl, _, rfl, rfl, p, l, rfl, hp0, hl0, q⟩
abbrev s_read : Stmt := top 30
theorem sc_read : FnScope ["text", "rows", "kinds", "line", "times", "rule", "pairs", "at", "point", "low", "high"] ["text"] (defScope s_read) := ⟨rfl, rfl, rfl, by decide +kernel, rfl, by decide +kernel, by decide +kernel⟩
theorem ok_read {P : Program} {w : World} {K : PySem.W.Frag} {mg : Str → Option Value} {base : Heap} {Ω : Ad} {f : Addr} {fd : FuncData} (Fn : Fun K "read" "read" s_read f fd) (T : Txt P w K mg Ω) (g_Line : CalK P w K mg base "Line" Ω.Line 3 ["self", "rows", "at"] (sp_Line___init__ Ω)) (g_read_kinds : Cal P w K mg base "read_kinds" 4 ["line"] (sp_read_kinds Ω)) : DFn P w K mg base 5 f fd ["text"] (sp_read Ω) := by
  have S := sc_read
  refine dfnS Fn S fun X B W hX hr hp lx => ?_
  have hu := hr.units
  have hu1 : X.A.units + 65 < cLine := by have := hr.un; omega
  have hu9 : X.A.units + 9 < cLine := by have := hr.un; omega
  obtain ⟨cdv, A, outer, s, H, E, rfl⟩ := hX
  refine ⟨_, (dss_cons (ds_set S.nd (i := 1) rfl (by first | exact Or.inl rfl | exact Or.inr rfl) (fe_split (fv 0) fe_str))
    (dss_cons (ds_set S.nd (i := 2) rfl (by first | exact Or.inl rfl | exact Or.inr rfl) (de_cal lx g_read_kinds (hr.mono (by decide)) rfl (da_cons (de_calK lx g_Line (hr.mono (by decide)) rfl (fa_cons (fv 1) (fa_cons fe_int fa_nil))) da_nil)))
    (dss_cons ds_never
    (dss_cons ds_never
    (dss_cons ds_never
    (dss_cons ds_never
    (dss_cons ds_never
    (dss_cons ds_never
    (dss_cons ds_never
    (dss_one ds_never)))))))))), fun ds C Q hl hs => ?_⟩
  obtain ⟨rfl, q⟩ := hs
  refine ⟨.lst [.str ""], by kernel_rfl, ?_⟩
  refine ⟨_, rfl, fun p hp => ⟨rfl, p, rfl, cupd_same, fun l hl => ⟨rfl, rfl, p, l, rfl, cupd_same, ?_, ?_⟩⟩⟩
  · have hlp : p ≠ l := fun z => by rw [z, cupd_same] at hl; cases hl
    rw [cupd_ne (Ne.symm hlp), cupd_same]
  · have hlp : p ≠ l := fun z => by rw [z, cupd_same] at hl; cases hl
    rw [cupd_ne (Ne.symm hlp)] at hl
    exact q _ (Sub.upd (Sub.upd (Sub.new hp) hl) hp)
abbrev s__law_draws : Stmt := top 67
theorem sc__law_draws : FnScope ["_law_script"] ["_law_script"] (defScope s__law_draws) := ⟨rfl, rfl, rfl, by decide +kernel, rfl, by decide +kernel, by decide +kernel⟩
theorem ok__law_draws {P : Program} {w : World} {K : PySem.W.Frag} {mg : Str → Option Value} {base : Heap} {Ω : Ad} {f : Addr} {fd : FuncData} (Fn : Fun K "_law_draws" "_law_draws" s__law_draws f fd) (T : Txt P w K mg Ω) : FnOk P w K mg base (L2.CX P w) 2 f fd ["_law_script"] (spDr K) :=
  ok_dr Fn sc__law_draws rfl T.b_list (fun _ _ _ _ _ _ => rfl) (.inl rfl) (by decide) (by decide)
abbrev s__law_pick : Stmt := top 68
theorem sc__law_pick : FnScope ["_law_row", "_law_many", "_law_cell", "_law_found"] ["_law_row", "_law_many"] (defScope s__law_pick) := ⟨rfl, rfl, rfl, by decide +kernel, rfl, by decide +kernel, by decide +kernel⟩
theorem ok__law_pick {P : Program} {w : World} {K : PySem.W.Frag} {mg : Str → Option Value} {base : Heap} {Ω : Ad} {f : Addr} {fd : FuncData} (Fn : Fun K "_law_pick" "_law_pick" s__law_pick f fd) (T : Txt P w K mg Ω)  : DFn P w K mg base 3 f fd ["_law_row", "_law_many"] (sp__law_pick Ω) := by
  have S := sc__law_pick
  refine dfnS Fn S fun X B W hX hr hp lx => ?_
  have hu := hr.units
  have hu1 : X.A.units + 65 < cLine := by have := hr.un; omega
  have hu9 : X.A.units + 9 < cLine := by have := hr.un; omega
  obtain ⟨cdv, A, outer, s, H, E, rfl⟩ := hX
  refine ⟨_, (dss_cons (ds_if (fq_cmp (op_eqD hu) lk_eq (fe_ix (ix_sub hu) lk_sub (fv 0) fe_int (fun _ _ => rfl)) fe_int (nomark _)) (dss_one (ds_if (fq_cmp op_lt lk_B (fe_ix (ix_sub hu) lk_sub (fv 0) fe_int (fun _ _ => rfl)) (DE.mono (de_callB call_lenA lk_len rfl T.b_len PySem.boot_len (fa_cons (fe_ix (ix_sub hu) lk_sub (fv 0) fe_int (fun _ _ => rfl)) fa_nil)) fCall_of) (nomark _)) (dss_cons (ds_set S.nd (i := 2) rfl (by first | exact Or.inl rfl | exact Or.inr rfl) (fe_ix (ix_sub hu) lk_sub (fe_ix (ix_sub hu) lk_sub (fv 0) fe_int (fun _ _ => rfl)) (fe_ix (ix_sub hu) lk_sub (fv 0) fe_int (fun _ _ => rfl)) (fun _ _ => rfl)))
        (dss_cons (ds_asg (fe_bin op_addA lk_add (fe_ix (ix_sub hu) lk_sub (fv 0) fe_int (fun _ _ => rfl)) fe_int) (dg_sub hu9 (fv 0) fe_int))
        (dss_one (ds_if (fq_cmp op_ge lk_B (fv 2) (fe_bin op_pow lk_pow fe_int fe_int) (nomark _)) (dss_one (ds_asg (fv 2) (dg_sub hu9 (fv 0) fe_int))) (dss_one (ds_asg (fe_bin op_mod lk_mod (DE.mono (de_callTy call_int1 lk_int rfl T.b_int (by decide +kernel) (fa_cons (fe_bin op_addA lk_add (fe_bin op_addA lk_add (fe_bin op_mul lk_mul (fe_ix (ix_sub hu) lk_sub (fv 0) fe_int (fun _ _ => rfl)) fe_int) (fe_bin op_mul lk_mul (fv 2) fe_int)) fe_int) fa_nil)) fCall_of) fe_int) (dg_sub hu9 (fv 0) fe_int))))))) (dss_one (ds_asg (fe_bin op_mod lk_mod (DE.mono (de_callTy call_int1 lk_int rfl T.b_int (by decide +kernel) (fa_cons (fe_bin op_addA lk_add (fe_bin op_mul lk_mul (fe_ix (ix_sub hu) lk_sub (fv 0) fe_int (fun _ _ => rfl)) fe_int) fe_int) fa_nil)) fCall_of) fe_int) (dg_sub hu9 (fv 0) fe_int))))) dss_nil)
    (dss_cons (ds_if (fq_cmp op_gt lk_B (fe_ix (ix_sub hu) lk_sub (fv 0) fe_int (fun _ _ => rfl)) fe_int (nomark _)) (dss_cons (ds_set S.nd (i := 3) rfl (by first | exact Or.inl rfl | exact Or.inr rfl) (fe_bin op_mod lk_mod (DE.mono (de_callTy call_int1 lk_int rfl T.b_int (by decide +kernel) (fa_cons (fe_ix (ix_sub hu) lk_sub (fv 0) fe_int (fun _ _ => rfl)) fa_nil)) fCall_of) (fv 1)))
      (dss_cons (ds_asg (fe_bin op_fdivN lk_fdiv (fe_ix (ix_sub hu) lk_sub (fv 0) fe_int (fun _ _ => rfl)) (fv 1)) (dg_sub hu9 (fv 0) fe_int))
      (dss_one (ds_ret (fv 3))))) dss_nil)
    (dss_one (ds_ret (fe_bin op_mod lk_mod (fe_bin op_mod lk_mod (DE.mono (de_callTy call_int1 lk_int rfl T.b_int (by decide +kernel) (fa_cons (fe_bin op_mul lk_mul (fe_ix (ix_sub hu) lk_sub (fv 0) fe_int (fun _ _ => rfl)) fe_int) fa_nil)) fCall_of) fe_int) (fv 1)))))), fun ds C Q hl hs => ?_⟩
  clear hr hp lx hu hu1 hu9 S T Fn
  obtain ⟨r, n, rfl, hn0, hn1, ⟨l, i, b, s0, ns, R⟩, k⟩ := hs
  have fin : ∀ (x : Option D) (C1 : Cs) (i b s1 : Int), RowIs C1 r l i b s1 ns → (∀ a, a ≠ r → C1 a = C a) → (dSeq
      (dIfS (ofQ (fB (fOp (vB fun i j => decide (j < i)) (fOp vSub (fV 0) (fC (D.int 2))) (fC (D.int 0)))))
        (dSeq (dSet 3 (ofF (fOp vMod (fCall DL.vInt (fCons (fOp vSub (fV 0) (fC (D.int 2))) fNil)) (fV 1))))
          (dSeq
            (dAsg (ofF (fOp vDiv (fOp vSub (fV 0) (fC (D.int 2))) (fV 1))) (dgSub (ofF (fV 0)) (ofF (fC (D.int 2)))))
            (dRet (ofF (fV 3)))))
        dNext)
      (dRet
        (ofF
          (fOp vMod
            (fOp vMod (fCall DL.vInt (fCons (fOp vMul (fOp vSub (fV 0) (fC (D.int 3))) (fC (D.int 16807))) fNil))
              (fC (D.int 2147483629)))
            (fV 1))))) { nx := fun x C' => ∃ C2, DL.Sub C2 C' ∧ Q D.non C2, rt := fun v C' => ∃ C2, DL.Sub C2 C' ∧ Q v C2 } [some (.ref r), some (.int n), x, none] C1 := fun x C1 i b s1 R1 kp => by
    have hn : (0 : Int) < (n : Int) := by omega
    refine ⟨decide (0 < b), ev_B (ev_op (R1.at2 rfl) rfl rfl), ?_⟩
    by_cases hb : 0 < b
    · rw [decide_eq_true hb]
      refine ⟨.int (b % n), ev_modk (ev_int1 (ev_cons (R1.at2 rfl) rfl)) rfl hn, ?_⟩
      refine ⟨.int (b.fdiv n), ev_divk (R1.at2 rfl) rfl hn (by omega), _, rfl, _, rfl, _, R1.st2, ?_⟩
      refine ⟨_, rfl, _, .refl, ?_⟩
      have e : b % (n : Int) = ((b % (n : Int)).toNat : Int) := (Int.toNat_of_nonneg (Int.emod_nonneg _ (by omega))).symm
      rw [e]
      exact k _ _ (by have := Int.emod_lt_of_pos b hn; omega) ⟨l, _, _, _, ns, R1.set R1.i0⟩ fun a ha => by rw [cupd_ne ha]; exact kp a ha
    · rw [decide_eq_false hb]
      refine ⟨_, ev_modk (ev_modk (ev_int1 (ev_cons (ev_mulk 16807 (R1.at3 rfl) (by decide)) rfl)) rfl (by decide)) rfl hn, _, .refl, ?_⟩
      generalize s1 * 16807 % 2147483629 = y
      have e : y % (n : Int) = ((y % (n : Int)).toNat : Int) := (Int.toNat_of_nonneg (Int.emod_nonneg _ (by omega))).symm
      rw [e]
      exact k _ _ (by have := Int.emod_lt_of_pos y hn; omega) ⟨l, _, _, _, ns, R1⟩ kp
  refine ⟨decide (b = 0), ev_B (ev_op (R.at2 rfl) rfl vEq_int), ?_⟩
  by_cases hb : b = 0
  · rw [decide_eq_true hb]
    have hlen : fCall vLen (fCons (fOp vSub (fV 0) (fC (D.int 0))) fNil) [some (.ref r), some (.int n), none, none] C = some (.int ns.length) :=
      ev_call (ev_cons (R.at0 rfl) rfl) (by simp only [vLen, asSeq, asL, R.ls, List.length_map])
    refine ⟨decide (i < (ns.length : Int)), ev_B (ev_op (R.at1 rfl) hlen rfl), ?_⟩
    by_cases hi : i < (ns.length : Int)
    · rw [decide_eq_true hi]
      have i0 := R.i0
      have hc : ∃ c, ns[i.toNat]? = some c := ⟨_, List.getElem?_eq_getElem (by omega)⟩
      obtain ⟨c, hc⟩ := hc
      have hcell : fOp vSub (fOp vSub (fV 0) (fC (D.int 0))) (fOp vSub (fV 0) (fC (D.int 1))) [some (.ref r), some (.int n), none, none] C = some (.int c) := by
        refine ev_op (R.at0 rfl) (R.at1 rfl) ?_
        simp only [vSub, asD, vIx, asL, R.ls]
        have e : (i.toNat : Int) = i := Int.toNat_of_nonneg i0
        rw [← e]
        exact atI_nat (by rw [List.getElem?_map, hc]; rfl)
      refine ⟨_, hcell, ?_⟩
      refine ⟨_, ev_addi (R.at1 rfl) rfl, _, rfl, _, rfl, _, R.st1, ?_⟩
      have R1 : RowIs (cupd C r (.lst [.ref l, .int (i + 1), .int b, .int s0])) r l (i + 1) b s0 ns := R.set (by omega)
      have kp1 : ∀ a, a ≠ r → cupd C r (.lst [.ref l, .int (i + 1), .int b, .int s0]) a = C a := fun a ha => cupd_ne ha
      generalize cupd C r (.lst [.ref l, .int (i + 1), .int b, .int s0]) = C1 at R1 kp1 ⊢
      refine ⟨decide (1000000000000000000 ≤ c), ev_B (ev_op (y := .int 1000000000000000000) rfl (ev_op rfl rfl (by kernel_rfl)) rfl), ?_⟩
      by_cases hz : 1000000000000000000 ≤ c
      · rw [decide_eq_true hz]
        refine ⟨_, rfl, _, rfl, _, rfl, _, R1.st2, ?_⟩
        exact fin _ _ _ _ _ (R1.set R1.i0) fun a ha => by rw [cupd_ne ha]; exact kp1 a ha
      · rw [decide_eq_false hz]
        refine ⟨_, ev_modk (ev_int1 (ev_cons (ev_addi (ev_addi (ev_mulk 48271 (R1.at3 rfl) (by decide)) (ev_mulk 69621 rfl (by decide))) rfl) rfl)) rfl (by decide), _, rfl, _, rfl, _, R1.st3, ?_⟩
        exact fin _ _ _ _ _ (R1.set R1.i0) fun a ha => by rw [cupd_ne ha]; exact kp1 a ha
    · rw [decide_eq_false hi]
      refine ⟨_, ev_modk (ev_int1 (ev_cons (ev_addi (ev_mulk 48271 (R.at3 rfl) (by decide)) rfl) rfl)) rfl (by decide), _, rfl, _, rfl, _, R.st3, ?_⟩
      exact fin _ _ _ _ _ (R.set R.i0) fun a ha => cupd_ne ha
  · rw [decide_eq_false hb]
    exact fin _ _ _ _ _ R fun _ _ => rfl
abbrev s__law_calls : Stmt := top 69
theorem sc__law_calls : FnScope ["_law_at", "_law_book"] ["_law_at", "_law_book"] (defScope s__law_calls) := ⟨rfl, rfl, rfl, by decide +kernel, rfl, by decide +kernel, by decide +kernel⟩
theorem ok__law_calls {P : Program} {w : World} {K : PySem.W.Frag} {mg : Str → Option Value} {base : Heap} {Ω : Ad} {f : Addr} {fd : FuncData} (Fn : Fun K "_law_calls" "_law_calls" s__law_calls f fd) (T : Txt P w K mg Ω) (g_Book : CalK P w K mg base "Book" Ω.Book 5 ["self", "kinds", "quiet", "times", "rule"] (sp_Book___init__ Ω)) (g_replay : Cal P w K mg base "replay" 7 ["book", "events"] (sp_replay Ω)) : DFn P w K mg base 8 f fd ["_law_at", "_law_book"] (sp__law_calls Ω) := by
  have S := sc__law_calls
  refine dfnS Fn S fun X B W hX hr hp lx => ?_
  have hu := hr.units
  have hu1 : X.A.units + 65 < cLine := by have := hr.un; omega
  have hu9 : X.A.units + 9 < cLine := by have := hr.un; omega
  obtain ⟨cdv, A, outer, s, H, E, rfl⟩ := hX
  refine ⟨_, (dss_cons (ds_if (fq_cmp (op_eqD hu) lk_eq (fv 0) fe_int (nomark _)) (dss_one (ds_expr (de_calK lx g_Book (hr.mono (by decide)) rfl (fa_cons (fe_tup fa_nil) (fa_cons fe_non (fa_cons fe_non (fa_cons fe_non fa_nil))))))) dss_nil)
    (dss_cons (ds_if (fq_cmp (op_eqD hu) lk_eq (fv 0) fe_int (nomark _)) (dss_one (ds_expr (de_calK lx g_Book (hr.mono (by decide)) rfl (fa_cons (fe_tup (fa_cons fe_str fa_nil)) (fa_cons fe_non (fa_cons fe_non (fa_cons fe_non fa_nil))))))) dss_nil)
    (dss_cons (ds_if (fq_cmp (op_eqD hu) lk_eq (fv 0) fe_int (nomark _)) (dss_one (ds_expr (de_calK lx g_Book (hr.mono (by decide)) rfl (fa_cons (fe_tup (fa_cons fe_str fa_nil)) (fa_cons (fe_tup fa_nil) (fa_cons fe_non (fa_cons fe_non fa_nil))))))) dss_nil)
    (dss_cons (ds_if (fq_cmp (op_eqD hu) lk_eq (fv 0) fe_int (nomark _)) (dss_one (ds_expr (de_calK lx g_Book (hr.mono (by decide)) rfl (fa_cons (fe_tup (fa_cons fe_str fa_nil)) (fa_cons (fe_tup fa_nil) (fa_cons (fe_tup (fa_cons fe_int (fa_cons fe_int (fa_cons fe_int (fa_cons fe_int (fa_cons fe_int fa_nil)))))) (fa_cons fe_non fa_nil))))))) dss_nil)
    (dss_one (ds_if (fq_cmp (op_eqD hu) lk_eq (fv 0) fe_int (nomark _)) (dss_one (ds_expr (de_cal lx g_replay (hr.mono (by decide)) rfl (fa_cons (fv 1) (fa_cons (fe_lst (fa_cons fe_non fa_nil)) fa_nil))))) dss_nil)))))), fun ds C Q hl hs => ?_⟩
  clear hr hp lx hu hu1 hu9 S T Fn
  obtain ⟨v, b, rfl, ⟨w, hb, hw⟩, h⟩ := hs
  rcases h with ⟨rfl, h⟩ | ⟨rfl, h⟩ | ⟨rfl, h⟩ | ⟨rfl, h⟩ | ⟨rfl, h⟩ | ⟨hv, q⟩
  · exact ⟨true, by kernel_rfl, _, rfl, fun p hp => ⟨rfl, p, _, _, _, _, rfl, cupd_same, .inl ⟨rfl, h _ (Sub.new hp)⟩⟩⟩
  · exact ⟨false, by kernel_rfl, true, by kernel_rfl, _, rfl, fun p hp => ⟨rfl, p, _, _, _, _, rfl, cupd_same, .inr (.inl ⟨rfl, rfl, h _ (Sub.new hp)⟩)⟩⟩
  · exact ⟨false, by kernel_rfl, false, by kernel_rfl, true, by kernel_rfl, _, rfl, fun p hp => ⟨rfl, p, _, _, _, _, rfl, cupd_same, .inr (.inr (.inl ⟨rfl, rfl, rfl, h _ (Sub.new hp)⟩))⟩⟩
  · exact ⟨false, by kernel_rfl, false, by kernel_rfl, false, by kernel_rfl, true, by kernel_rfl, _, rfl, fun p hp => ⟨rfl, p, _, _, _, _, rfl, cupd_same, .inr (.inr (.inr (.inl ⟨rfl, rfl, rfl, rfl, h _ (Sub.new hp)⟩)))⟩⟩
  · exact ⟨false, by kernel_rfl, false, by kernel_rfl, false, by kernel_rfl, false, by kernel_rfl, true, by kernel_rfl, _, rfl, rfl, b, w, rfl, hb, hw, h⟩
  · have hf : ∀ k : Int, k < 5 → fB (fOp vEq (fV 0) (fC (.int k))) (startD ["_law_at", "_law_book"] [.int v, .ref b]) C = some false := fun k hk => by
      rw [eqk_is (x := v) rfl, decide_eq_false (by omega)]
    exact ⟨false, hf 0 (by decide), false, hf 1 (by decide), false, hf 2 (by decide), false, hf 3 (by decide), false, hf 4 (by decide), C, .refl, q⟩
abbrev s__law_later_calls : Stmt := top 70
theorem sc__law_later_calls : FnScope ["_law_at", "_law_book"] ["_law_at", "_law_book"] (defScope s__law_later_calls) := ⟨rfl, rfl, rfl, by decide +kernel, rfl, by decide +kernel, by decide +kernel⟩
theorem ok__law_later_calls {P : Program} {w : World} {K : PySem.W.Frag} {mg : Str → Option Value} {base : Heap} {Ω : Ad} {f : Addr} {fd : FuncData} (Fn : Fun K "_law_later_calls" "_law_later_calls" s__law_later_calls f fd) (T : Txt P w K mg Ω) (g_Book : CalK P w K mg base "Book" Ω.Book 5 ["self", "kinds", "quiet", "times", "rule"] (sp_Book___init__ Ω)) (g_alike : Cal P w K mg base "alike" 4 ["one", "other"] (sp_alike Ω)) (g_longest : Cal P w K mg base "longest" 5 ["book", "k"] (sp_longest Ω)) (g_mends : Cal P w K mg base "mends" 3 ["book", "words"] (sp_mends Ω)) (g_read : Cal P w K mg base "read" 5 ["text"] (sp_read Ω)) (g_Book_rule : CalP P w K mg base Ω.Book "rule" 3 (sp_Book_rule Ω)) : DFn P w K mg base 7 f fd ["_law_at", "_law_book"] (sp__law_later_calls Ω) := by
  have S := sc__law_later_calls
  refine dfnS Fn S fun X B W hX hr hp lx => ?_
  have hu := hr.units
  have hu1 : X.A.units + 65 < cLine := by have := hr.un; omega
  have hu9 : X.A.units + 9 < cLine := by have := hr.un; omega
  obtain ⟨cdv, A, outer, s, H, E, rfl⟩ := hX
  refine ⟨_, (dss_cons (ds_if (fq_cmp (op_eqD hu) lk_eq (fv 0) fe_int (nomark _)) (dss_one (ds_expr (de_cal lx g_longest (hr.mono (by decide)) rfl (fa_cons (fv 1) (fa_cons fe_int fa_nil))))) dss_nil)
    (dss_cons (ds_if (fq_cmp (op_eqD hu) lk_eq (fv 0) fe_int (nomark _)) (dss_one (ds_expr (de_cal lx g_alike (hr.mono (by decide)) rfl (da_cons (fv 1) (da_cons (de_calK lx g_Book (hr.mono (by decide)) rfl (da_cons (fe_tup (fa_cons fe_str fa_nil)) (da_cons (fe_tup fa_nil) (da_cons (fe_tup (fa_cons fe_int (fa_cons fe_int (fa_cons fe_int (fa_cons fe_int (fa_cons fe_int fa_nil)))))) (da_cons (de_calP g_Book_rule (hr.mono (by decide)) (fv 1)) da_nil))))) da_nil))))) dss_nil)
    (dss_cons (ds_if (fq_cmp (op_eqD hu) lk_eq (fv 0) fe_int (nomark _)) (dss_one (ds_expr (de_cal lx g_mends (hr.mono (by decide)) rfl (fa_cons (fv 1) (fa_cons (fe_lst (fa_cons fe_str fa_nil)) fa_nil))))) dss_nil)
    (dss_one (ds_if (fq_cmp (op_eqD hu) lk_eq (fv 0) fe_int (nomark _)) (dss_one (ds_expr (de_cal lx g_read (hr.mono (by decide)) rfl (fa_cons fe_str fa_nil)))) dss_nil))))), fun ds C Q hl hs => ?_⟩
  clear hr hp lx hu hu1 hu9 S T Fn
  obtain ⟨v, b, rfl, ⟨w, hb, hw⟩, h⟩ := hs
  rcases h with ⟨rfl, h⟩ | ⟨rfl, h⟩ | ⟨rfl, h⟩ | ⟨rfl, h⟩
  · exact ⟨true, by kernel_rfl, _, rfl, rfl, b, w, rfl, hb, h _ .refl⟩
  · refine ⟨false, by kernel_rfl, true, by kernel_rfl, _, rfl, _, rfl, _, rfl, _, rfl, _, rfl, b, _, rfl, hb, rfl, b, kA, w, rfl, hb, hw, fun p hp => ⟨rfl, p, kB, q0, t0, r0, rfl, cupd_same, .inr (.inr (.inr (.inr ⟨.inr rfl, rfl, rfl, rfl, fun w2 hw2 => ⟨rfl, rfl, b, w, p, w2, rfl, ?_, cupd_same, h _ ?_⟩⟩)))⟩⟩
    · have hbp : b ≠ p := ne_cell hb hp
      rw [cupd_ne hbp, new_at (by rw [cupd_ne hbp]; exact hb) hw2]
    · exact Sub.upd (Sub.upd (Sub.new hp) (by rw [cupd_ne (fun z => by rw [z, cupd_same] at hw2; cases hw2)] at hw2; exact hw2)) hp
  · exact ⟨false, by kernel_rfl, false, by kernel_rfl, true, by kernel_rfl, _, rfl, rfl, _, rfl, h _ .refl⟩
  · exact ⟨false, by kernel_rfl, false, by kernel_rfl, false, by kernel_rfl, true, by kernel_rfl, _, rfl, rfl, rfl, h⟩
abbrev s_law : Stmt := top 71
theorem sc_law : FnScope ["_law_script", "_law_row", "_law_at", "_law_told", "_law_book", "e", "_law_k"] ["_law_script"] (defScope s_law) := ⟨rfl, rfl, rfl, by decide +kernel, rfl, by decide +kernel, by decide +kernel⟩
theorem ok_law {P : Program} {w : World} {K : PySem.W.Frag} {mg : Str → Option Value} {base : Heap} {Ω : Ad} {f : Addr} {fd : FuncData} (Fn : Fun K "law" "law" s_law f fd) (T : Txt P w K mg Ω) (g_Book : CalK P w K mg base "Book" Ω.Book 5 ["self", "kinds", "quiet", "times", "rule"] (sp_Book___init__ Ω)) (g__law_draws : CalDr P w K mg base "_law_draws" "_law_script" 2) (g__law_calls : Cal P w K mg base "_law_calls" 8 ["_law_at", "_law_book"] (sp__law_calls Ω)) (g__law_later_calls : Cal P w K mg base "_law_later_calls" 7 ["_law_at", "_law_book"] (sp__law_later_calls Ω)) (g__law_pick : Cal P w K mg base "_law_pick" 3 ["_law_row", "_law_many"] (sp__law_pick Ω)) : FnOk P w K mg base (L2.CX P w) 9 f fd ["_law_script"] (spLw K) := by
  have S := sc_law
  refine law_fn Fn S fun X B sa ns hX hr hp lx hS hC hl63 => ?_
  have hu := hr.units
  have hu1 : X.A.units + 65 < cLine := by have := hr.un; omega
  have hu9 : X.A.units + 9 < cLine := by have := hr.un; omega
  obtain ⟨cdv, A, outer, s, H, E, rfl⟩ := hX
  refine ⟨_, (dss_cons (ds_set S.nd (i := 1) rfl (by first | exact Or.inl rfl | exact Or.inr rfl) (de_draws lx g__law_draws (hr.mono (by decide)) rfl (fv 0) hS hC (Nat.le_trans hl63 (by decide))))
    (dss_cons (ds_asg (de_tup (da_cons (de_cal lx g__law_pick (hr.mono (by decide)) rfl (fa_cons (fv 1) (fa_cons fe_int fa_nil))) (da_cons (fe_lst fa_nil) da_nil))) (dg_tup (n := 2) rfl (dgs_cons (dg_name S.nd (i := 2) rfl (by first | exact Or.inl rfl | exact Or.inr rfl)) (dgs_cons (dg_name S.nd (i := 3) rfl (by first | exact Or.inl rfl | exact Or.inr rfl)) dgs_nil))))
    (dss_cons (ds_set S.nd (i := 4) rfl (by first | exact Or.inl rfl | exact Or.inr rfl) (de_calK lx g_Book (hr.mono (by decide)) rfl (da_cons (fe_tup (fa_cons fe_str fa_nil)) (da_cons (fe_tup fa_nil) (da_cons (fe_tup (fa_cons fe_int (fa_cons fe_int (fa_cons fe_int (fa_cons fe_int (fa_cons fe_int fa_nil)))))) (da_cons (de_thaw 1 (de_disp (dps_cons fe_str fe_str (dps_cons fe_str fe_str (dps_cons fe_str fe_str (dps_cons fe_str fe_str dps_nil)))))) da_nil))))))
    (dss_cons (ds_try_as (i := 5) rfl rfl S.nd rfl rfl ⟨rfl, by decide, .inl T.m_AlarmError⟩ lx (fun B0 W2 pn xe lxE hpE => (dss_cons (ds_expr (de_calE lxE g__law_calls (hr.mono (by decide)) rfl (fa_cons (fv 2) (fa_cons (fv 4) fa_nil))))
      (dss_one (ds_expr (de_calE lxE g__law_later_calls (hr.mono (by decide)) rfl (fa_cons (fv 2) (fa_cons (fv 4) fa_nil))))))) (fun a oe c d fs pn B2 hz hf xr => (dss_cons (ds_set S.nd (i := 3) rfl (by first | exact Or.inl rfl | exact Or.inr rfl) (fe_lst (fa_cons (fe_isX (v := .ref Ω.BadKinds) (gX K (excs Ω) (.ref Ω.BadKinds)) (gX_ok T.exC) hz hf xr rfl T.b_isinstance (pe_glob rfl T.m_BadKinds rfl) (fun u h => h) (fv 5)) (fa_cons (fe_isX (v := .ref Ω.BadQuiet) (gX K (excs Ω) (.ref Ω.BadQuiet)) (gX_ok T.exC) hz hf xr rfl T.b_isinstance (pe_glob rfl T.m_BadQuiet rfl) (fun u h => h) (fv 5)) (fa_cons (fe_isX (v := .ref Ω.BadTimes) (gX K (excs Ω) (.ref Ω.BadTimes)) (gX_ok T.exC) hz hf xr rfl T.b_isinstance (pe_glob rfl T.m_BadTimes rfl) (fun u h => h) (fv 5)) (fa_cons (fe_isX (v := .ref Ω.BadRule) (gX K (excs Ω) (.ref Ω.BadRule)) (gX_ok T.exC) hz hf xr rfl T.b_isinstance (pe_glob rfl T.m_BadRule rfl) (fun u h => h) (fv 5)) fa_nil))))))
      (dss_cons (ds_set S.nd (i := 3) rfl (by first | exact Or.inl rfl | exact Or.inr rfl) (fe_bin op_addA lk_add (fv 3) (fe_lst (fa_cons (fe_isX (v := .ref Ω.BadEvent) (gX K (excs Ω) (.ref Ω.BadEvent)) (gX_ok T.exC) hz hf xr rfl T.b_isinstance (pe_glob rfl T.m_BadEvent rfl) (fun u h => h) (fv 5)) (fa_cons (fe_isX (v := .ref Ω.BadKind) (gX K (excs Ω) (.ref Ω.BadKind)) (gX_ok T.exC) hz hf xr rfl T.b_isinstance (pe_glob rfl T.m_BadKind rfl) (fun u h => h) (fv 5)) (fa_cons (fe_isX (v := .ref Ω.NotComparable) (gX K (excs Ω) (.ref Ω.NotComparable)) (gX_ok T.exC) hz hf xr rfl T.b_isinstance (pe_glob rfl T.m_NotComparable rfl) (fun u h => h) (fv 5)) fa_nil))))))
      (dss_one (ds_set S.nd (i := 3) rfl (by first | exact Or.inl rfl | exact Or.inr rfl) (fe_bin op_addA lk_add (fv 3) (fe_lst (fa_cons (fe_isX (v := .ref Ω.UnknownWord) (gX K (excs Ω) (.ref Ω.UnknownWord)) (gX_ok T.exC) hz hf xr rfl T.b_isinstance (pe_glob rfl T.m_UnknownWord rfl) (fun u h => h) (fv 5)) (fa_cons (fe_isX (v := .ref Ω.BadLine) (gX K (excs Ω) (.ref Ω.BadLine)) (gX_ok T.exC) hz hf xr rfl T.b_isinstance (pe_glob rfl T.m_BadLine rfl) (fun u h => h) (fv 5)) (fa_cons (fe_isX (v := .ty "ValueError") (gX K (excs Ω) (.type "ValueError")) (gX_ok T.exC) hz hf xr rfl T.b_isinstance (pe_bltn (v := .ty "ValueError") rfl T.b_ValueError (by decide +kernel) rfl (by decide) (by decide)) (fun u h => h) (fv 5)) fa_nil)))))))))))
    (dss_one (ds_ret (fe_cmp (op_eqD hu) lk_eq (fv 3) (fe_bin op_addA lk_add (fe_lc (own := [("_law_k", 6)]) rfl S.nd (fi_range rfl T.b_range fe_int) (by refine ⟨rfl, by decide +kernel, ?_, ?_, ?_⟩ <;> (dsimp only [cxOf, envOfC, compEnvC]; decide +kernel)) (fun _ _ _ _ _ _ => (dgc_name S.nd (i := 6) rfl (by first | exact Or.inl rfl | exact Or.inr rfl) (by decide))) (fun _ _ _ _ _ _ => dts_yes) (fun _ _ _ _ _ _ => (fe_cmp (op_eqD hu) lk_eq (fv 6) (fv 2) (nomark _)))) (fe_lst (fa_cons fe_bl fa_nil))) (nomark _)))))))), ?_⟩
  clear hr hp lx hu hu1 hu9 S hS hC
  refine ⟨rfl, fun l r hl hrl hr => ?_⟩
  have R1 : RowAt (cupd (cupd (fun _ => none) l (.lst (ns.map D.int))) r (.lst [.ref l, .int 0, .int 0, .int 7])) r := ⟨l, 0, 0, 7, ns, hrl, cupd_same, by rw [cupd_ne (Ne.symm hrl), cupd_same], by decide, hl63⟩
  generalize cupd (cupd (fun _ => none) l (.lst (ns.map D.int))) r (.lst [.ref l, .int 0, .int 0, .int 7]) = C1 at R1 ⊢
  refine ⟨_, rfl, rfl, r, 9, rfl, by decide, by decide, R1, fun v C2 hv R2 kp => ?_⟩
  refine ⟨_, rfl, by show 2 ≤ sizeLine; decide, _, rfl, rfl, _, _, rfl, _, _, rfl, rfl, ?_⟩
  refine ⟨_, rfl, _, rfl, _, rfl, ?_⟩
  refine disp_thaw (ps := [(.str "ends", .str "not"), (.str "keeps", .str "on"), (.str "passes", .str "now"), (.str "repeats", .str "never")]) (ks := ptK) (vs := wd0) (fun R h => ⟨_, rfl, _, rfl, _, rfl, _, rfl, _, rfl, _, rfl, _, rfl, _, rfl, h⟩) rfl (by decide) (by kernel_rfl) ?_
  refine fun p hp => ⟨rfl, p, kA, q0, t0, r0, rfl, cupd_same, .inr (.inr (.inr (.inr ⟨.inl rfl, rfl, rfl, rfl, fun w hw => ⟨rfl, ?_⟩⟩)))⟩
  have hwp : w ≠ p := fun z => by rw [z, cupd_same] at hw; cases hw
  have hB : B13 Ω (cupd (cupd (cupd C2 p (.ins Ω.Book [])) w (.dic ptK wd0)) p (.ins Ω.Book (bkFs kA w))) p := ⟨w, cupd_same, by rw [cupd_ne hwp, cupd_same]⟩
  generalize cupd (cupd (cupd C2 p (.ins Ω.Book [])) w (.dic ptK wd0)) p (.ins Ω.Book (bkFs kA w)) = C4 at hB ⊢
  rcases (by omega : v = 0 ∨ v = 1 ∨ v = 2 ∨ v = 3 ∨ v = 4 ∨ v = 5 ∨ v = 6 ∨ v = 7 ∨ v = 8) with rfl | rfl | rfl | rfl | rfl | rfl | rfl | rfl | rfl
  · exact ⟨_, rfl, rfl, 0, p, rfl, hB, .inl ⟨rfl, fun C5 s5 => ⟨true, T.exm_BadKinds_AlarmError, fun _ a ha => by
        have hD : Ω.BadKinds ∈ excs Ω := by unfold excs; simp
        refine ⟨.lst [.bl true, .bl false, .bl false, .bl false], (ev_lst (ev_cons (isx_is rfl (gX_is hD T.kit_BadKinds_BadKinds)) (ev_cons (isx_is rfl (gX_is hD T.kit_BadKinds_BadQuiet)) (ev_cons (isx_is rfl (gX_is hD T.kit_BadKinds_BadTimes)) (ev_cons (isx_is rfl (gX_is hD T.kit_BadKinds_BadRule)) rfl)))) (by decide)), .lst [.bl true, .bl false, .bl false, .bl false, .bl false, .bl false, .bl false], ev_op rfl (ev_lst (ev_cons (isx_is rfl (gX_is hD T.kit_BadKinds_BadEvent)) (ev_cons (isx_is rfl (gX_is hD T.kit_BadKinds_BadKind)) (ev_cons (isx_is rfl (gX_is hD T.kit_BadKinds_NotComparable)) rfl))) (by decide)) (by kernel_rfl), .lst [.bl true, .bl false, .bl false, .bl false, .bl false, .bl false, .bl false, .bl false, .bl false, .bl true], ev_op rfl (ev_lst (ev_cons (isx_is rfl (gX_is hD T.kit_BadKinds_UnknownWord)) (ev_cons (isx_is rfl (gX_is hD T.kit_BadKinds_BadLine)) (ev_cons (isx_is rfl (gX_is hD T.kitv_BadKinds_ValueError)) rfl))) (by decide)) (by kernel_rfl), _, (by kernel_rfl), rfl⟩, fun h => (nomatch h)⟩⟩⟩
  · exact ⟨_, rfl, rfl, 1, p, rfl, hB, .inr (.inl ⟨rfl, fun C5 s5 => ⟨true, T.exm_BadQuiet_AlarmError, fun _ a ha => by
        have hD : Ω.BadQuiet ∈ excs Ω := by unfold excs; simp
        refine ⟨.lst [.bl false, .bl true, .bl false, .bl false], (ev_lst (ev_cons (isx_is rfl (gX_is hD T.kit_BadQuiet_BadKinds)) (ev_cons (isx_is rfl (gX_is hD T.kit_BadQuiet_BadQuiet)) (ev_cons (isx_is rfl (gX_is hD T.kit_BadQuiet_BadTimes)) (ev_cons (isx_is rfl (gX_is hD T.kit_BadQuiet_BadRule)) rfl)))) (by decide)), .lst [.bl false, .bl true, .bl false, .bl false, .bl false, .bl false, .bl false], ev_op rfl (ev_lst (ev_cons (isx_is rfl (gX_is hD T.kit_BadQuiet_BadEvent)) (ev_cons (isx_is rfl (gX_is hD T.kit_BadQuiet_BadKind)) (ev_cons (isx_is rfl (gX_is hD T.kit_BadQuiet_NotComparable)) rfl))) (by decide)) (by kernel_rfl), .lst [.bl false, .bl true, .bl false, .bl false, .bl false, .bl false, .bl false, .bl false, .bl false, .bl true], ev_op rfl (ev_lst (ev_cons (isx_is rfl (gX_is hD T.kit_BadQuiet_UnknownWord)) (ev_cons (isx_is rfl (gX_is hD T.kit_BadQuiet_BadLine)) (ev_cons (isx_is rfl (gX_is hD T.kitv_BadQuiet_ValueError)) rfl))) (by decide)) (by kernel_rfl), _, (by kernel_rfl), rfl⟩, fun h => (nomatch h)⟩⟩)⟩
  · exact ⟨_, rfl, rfl, 2, p, rfl, hB, .inr (.inr (.inl ⟨rfl, fun C5 s5 => ⟨true, T.exm_BadTimes_AlarmError, fun _ a ha => by
        have hD : Ω.BadTimes ∈ excs Ω := by unfold excs; simp
        refine ⟨.lst [.bl false, .bl false, .bl true, .bl false], (ev_lst (ev_cons (isx_is rfl (gX_is hD T.kit_BadTimes_BadKinds)) (ev_cons (isx_is rfl (gX_is hD T.kit_BadTimes_BadQuiet)) (ev_cons (isx_is rfl (gX_is hD T.kit_BadTimes_BadTimes)) (ev_cons (isx_is rfl (gX_is hD T.kit_BadTimes_BadRule)) rfl)))) (by decide)), .lst [.bl false, .bl false, .bl true, .bl false, .bl false, .bl false, .bl false], ev_op rfl (ev_lst (ev_cons (isx_is rfl (gX_is hD T.kit_BadTimes_BadEvent)) (ev_cons (isx_is rfl (gX_is hD T.kit_BadTimes_BadKind)) (ev_cons (isx_is rfl (gX_is hD T.kit_BadTimes_NotComparable)) rfl))) (by decide)) (by kernel_rfl), .lst [.bl false, .bl false, .bl true, .bl false, .bl false, .bl false, .bl false, .bl false, .bl false, .bl true], ev_op rfl (ev_lst (ev_cons (isx_is rfl (gX_is hD T.kit_BadTimes_UnknownWord)) (ev_cons (isx_is rfl (gX_is hD T.kit_BadTimes_BadLine)) (ev_cons (isx_is rfl (gX_is hD T.kitv_BadTimes_ValueError)) rfl))) (by decide)) (by kernel_rfl), _, (by kernel_rfl), rfl⟩, fun h => (nomatch h)⟩⟩))⟩
  · exact ⟨_, rfl, rfl, 3, p, rfl, hB, .inr (.inr (.inr (.inl ⟨rfl, fun C5 s5 => ⟨true, T.exm_BadRule_AlarmError, fun _ a ha => by
        have hD : Ω.BadRule ∈ excs Ω := by unfold excs; simp
        refine ⟨.lst [.bl false, .bl false, .bl false, .bl true], (ev_lst (ev_cons (isx_is rfl (gX_is hD T.kit_BadRule_BadKinds)) (ev_cons (isx_is rfl (gX_is hD T.kit_BadRule_BadQuiet)) (ev_cons (isx_is rfl (gX_is hD T.kit_BadRule_BadTimes)) (ev_cons (isx_is rfl (gX_is hD T.kit_BadRule_BadRule)) rfl)))) (by decide)), .lst [.bl false, .bl false, .bl false, .bl true, .bl false, .bl false, .bl false], ev_op rfl (ev_lst (ev_cons (isx_is rfl (gX_is hD T.kit_BadRule_BadEvent)) (ev_cons (isx_is rfl (gX_is hD T.kit_BadRule_BadKind)) (ev_cons (isx_is rfl (gX_is hD T.kit_BadRule_NotComparable)) rfl))) (by decide)) (by kernel_rfl), .lst [.bl false, .bl false, .bl false, .bl true, .bl false, .bl false, .bl false, .bl false, .bl false, .bl true], ev_op rfl (ev_lst (ev_cons (isx_is rfl (gX_is hD T.kit_BadRule_UnknownWord)) (ev_cons (isx_is rfl (gX_is hD T.kit_BadRule_BadLine)) (ev_cons (isx_is rfl (gX_is hD T.kitv_BadRule_ValueError)) rfl))) (by decide)) (by kernel_rfl), _, (by kernel_rfl), rfl⟩, fun h => (nomatch h)⟩⟩)))⟩
  · exact ⟨_, rfl, rfl, 4, p, rfl, hB, .inr (.inr (.inr (.inr (.inl ⟨rfl, fun C5 s5 => ⟨true, T.exm_BadEvent_AlarmError, fun _ a ha => by
        have hD : Ω.BadEvent ∈ excs Ω := by unfold excs; simp
        refine ⟨.lst [.bl false, .bl false, .bl false, .bl false], (ev_lst (ev_cons (isx_is rfl (gX_is hD T.kit_BadEvent_BadKinds)) (ev_cons (isx_is rfl (gX_is hD T.kit_BadEvent_BadQuiet)) (ev_cons (isx_is rfl (gX_is hD T.kit_BadEvent_BadTimes)) (ev_cons (isx_is rfl (gX_is hD T.kit_BadEvent_BadRule)) rfl)))) (by decide)), .lst [.bl false, .bl false, .bl false, .bl false, .bl true, .bl false, .bl false], ev_op rfl (ev_lst (ev_cons (isx_is rfl (gX_is hD T.kit_BadEvent_BadEvent)) (ev_cons (isx_is rfl (gX_is hD T.kit_BadEvent_BadKind)) (ev_cons (isx_is rfl (gX_is hD T.kit_BadEvent_NotComparable)) rfl))) (by decide)) (by kernel_rfl), .lst [.bl false, .bl false, .bl false, .bl false, .bl true, .bl false, .bl false, .bl false, .bl false, .bl true], ev_op rfl (ev_lst (ev_cons (isx_is rfl (gX_is hD T.kit_BadEvent_UnknownWord)) (ev_cons (isx_is rfl (gX_is hD T.kit_BadEvent_BadLine)) (ev_cons (isx_is rfl (gX_is hD T.kitv_BadEvent_ValueError)) rfl))) (by decide)) (by kernel_rfl), _, (by kernel_rfl), rfl⟩, fun h => (nomatch h)⟩⟩))))⟩
  · exact ⟨_, rfl, rfl, 5, p, rfl, hB, .inr (.inr (.inr (.inr (.inr ⟨by decide, _, rfl, rfl, 5, p, rfl, hB, .inl ⟨rfl, fun C5 s5 => ⟨true, T.exm_BadKind_AlarmError, fun _ a ha => by
        have hD : Ω.BadKind ∈ excs Ω := by unfold excs; simp
        refine ⟨.lst [.bl false, .bl false, .bl false, .bl false], (ev_lst (ev_cons (isx_is rfl (gX_is hD T.kit_BadKind_BadKinds)) (ev_cons (isx_is rfl (gX_is hD T.kit_BadKind_BadQuiet)) (ev_cons (isx_is rfl (gX_is hD T.kit_BadKind_BadTimes)) (ev_cons (isx_is rfl (gX_is hD T.kit_BadKind_BadRule)) rfl)))) (by decide)), .lst [.bl false, .bl false, .bl false, .bl false, .bl false, .bl true, .bl false], ev_op rfl (ev_lst (ev_cons (isx_is rfl (gX_is hD T.kit_BadKind_BadEvent)) (ev_cons (isx_is rfl (gX_is hD T.kit_BadKind_BadKind)) (ev_cons (isx_is rfl (gX_is hD T.kit_BadKind_NotComparable)) rfl))) (by decide)) (by kernel_rfl), .lst [.bl false, .bl false, .bl false, .bl false, .bl false, .bl true, .bl false, .bl false, .bl false, .bl true], ev_op rfl (ev_lst (ev_cons (isx_is rfl (gX_is hD T.kit_BadKind_UnknownWord)) (ev_cons (isx_is rfl (gX_is hD T.kit_BadKind_BadLine)) (ev_cons (isx_is rfl (gX_is hD T.kitv_BadKind_ValueError)) rfl))) (by decide)) (by kernel_rfl), _, (by kernel_rfl), rfl⟩, fun h => (nomatch h)⟩⟩⟩))))⟩
  · exact ⟨_, rfl, rfl, 6, p, rfl, hB, .inr (.inr (.inr (.inr (.inr ⟨by decide, _, rfl, rfl, 6, p, rfl, hB, .inr (.inl ⟨rfl, fun C5 s5 => ⟨true, T.exm_NotComparable_AlarmError, fun _ a ha => by
        have hD : Ω.NotComparable ∈ excs Ω := by unfold excs; simp
        refine ⟨.lst [.bl false, .bl false, .bl false, .bl false], (ev_lst (ev_cons (isx_is rfl (gX_is hD T.kit_NotComparable_BadKinds)) (ev_cons (isx_is rfl (gX_is hD T.kit_NotComparable_BadQuiet)) (ev_cons (isx_is rfl (gX_is hD T.kit_NotComparable_BadTimes)) (ev_cons (isx_is rfl (gX_is hD T.kit_NotComparable_BadRule)) rfl)))) (by decide)), .lst [.bl false, .bl false, .bl false, .bl false, .bl false, .bl false, .bl true], ev_op rfl (ev_lst (ev_cons (isx_is rfl (gX_is hD T.kit_NotComparable_BadEvent)) (ev_cons (isx_is rfl (gX_is hD T.kit_NotComparable_BadKind)) (ev_cons (isx_is rfl (gX_is hD T.kit_NotComparable_NotComparable)) rfl))) (by decide)) (by kernel_rfl), .lst [.bl false, .bl false, .bl false, .bl false, .bl false, .bl false, .bl true, .bl false, .bl false, .bl true], ev_op rfl (ev_lst (ev_cons (isx_is rfl (gX_is hD T.kit_NotComparable_UnknownWord)) (ev_cons (isx_is rfl (gX_is hD T.kit_NotComparable_BadLine)) (ev_cons (isx_is rfl (gX_is hD T.kitv_NotComparable_ValueError)) rfl))) (by decide)) (by kernel_rfl), _, (by kernel_rfl), rfl⟩, fun h => (nomatch h)⟩⟩)⟩))))⟩
  · exact ⟨_, rfl, rfl, 7, p, rfl, hB, .inr (.inr (.inr (.inr (.inr ⟨by decide, _, rfl, rfl, 7, p, rfl, hB, .inr (.inr (.inl ⟨rfl, fun C5 s5 => ⟨true, T.exm_UnknownWord_AlarmError, fun _ a ha => by
        have hD : Ω.UnknownWord ∈ excs Ω := by unfold excs; simp
        refine ⟨.lst [.bl false, .bl false, .bl false, .bl false], (ev_lst (ev_cons (isx_is rfl (gX_is hD T.kit_UnknownWord_BadKinds)) (ev_cons (isx_is rfl (gX_is hD T.kit_UnknownWord_BadQuiet)) (ev_cons (isx_is rfl (gX_is hD T.kit_UnknownWord_BadTimes)) (ev_cons (isx_is rfl (gX_is hD T.kit_UnknownWord_BadRule)) rfl)))) (by decide)), .lst [.bl false, .bl false, .bl false, .bl false, .bl false, .bl false, .bl false], ev_op rfl (ev_lst (ev_cons (isx_is rfl (gX_is hD T.kit_UnknownWord_BadEvent)) (ev_cons (isx_is rfl (gX_is hD T.kit_UnknownWord_BadKind)) (ev_cons (isx_is rfl (gX_is hD T.kit_UnknownWord_NotComparable)) rfl))) (by decide)) (by kernel_rfl), .lst [.bl false, .bl false, .bl false, .bl false, .bl false, .bl false, .bl false, .bl true, .bl false, .bl true], ev_op rfl (ev_lst (ev_cons (isx_is rfl (gX_is hD T.kit_UnknownWord_UnknownWord)) (ev_cons (isx_is rfl (gX_is hD T.kit_UnknownWord_BadLine)) (ev_cons (isx_is rfl (gX_is hD T.kitv_UnknownWord_ValueError)) rfl))) (by decide)) (by kernel_rfl), _, (by kernel_rfl), rfl⟩, fun h => (nomatch h)⟩⟩))⟩))))⟩
  · exact ⟨_, rfl, rfl, 8, p, rfl, hB, .inr (.inr (.inr (.inr (.inr ⟨by decide, _, rfl, rfl, 8, p, rfl, hB, .inr (.inr (.inr (⟨rfl, fun C5 s5 => ⟨true, T.exm_BadLine_AlarmError, fun _ a ha => by
        have hD : Ω.BadLine ∈ excs Ω := by unfold excs; simp
        refine ⟨.lst [.bl false, .bl false, .bl false, .bl false], (ev_lst (ev_cons (isx_is rfl (gX_is hD T.kit_BadLine_BadKinds)) (ev_cons (isx_is rfl (gX_is hD T.kit_BadLine_BadQuiet)) (ev_cons (isx_is rfl (gX_is hD T.kit_BadLine_BadTimes)) (ev_cons (isx_is rfl (gX_is hD T.kit_BadLine_BadRule)) rfl)))) (by decide)), .lst [.bl false, .bl false, .bl false, .bl false, .bl false, .bl false, .bl false], ev_op rfl (ev_lst (ev_cons (isx_is rfl (gX_is hD T.kit_BadLine_BadEvent)) (ev_cons (isx_is rfl (gX_is hD T.kit_BadLine_BadKind)) (ev_cons (isx_is rfl (gX_is hD T.kit_BadLine_NotComparable)) rfl))) (by decide)) (by kernel_rfl), .lst [.bl false, .bl false, .bl false, .bl false, .bl false, .bl false, .bl false, .bl false, .bl true, .bl true], ev_op rfl (ev_lst (ev_cons (isx_is rfl (gX_is hD T.kit_BadLine_UnknownWord)) (ev_cons (isx_is rfl (gX_is hD T.kit_BadLine_BadLine)) (ev_cons (isx_is rfl (gX_is hD T.kitv_BadLine_ValueError)) rfl))) (by decide)) (by kernel_rfl), _, (by kernel_rfl), rfl⟩, fun h => (nomatch h)⟩⟩)))⟩))))⟩
end AL

set_option Elab.async false
set_option linter.all false
set_option maxRecDepth 100000
set_option maxHeartbeats 0
set_option pp.maxSteps 60
namespace AL
open PySem PySem.Spec PyProof.Rows L2 DL He AH
def faL0 : List Fa := [.free "ValueError",
  .free "all",
  .free "bool",
  .free "dict",
  .free "enumerate",
  .free "int",
  .free "isinstance",
  .free "len",
  .free "list",
  .free "range",
  .free "str",
  .free "tuple",
  .glo "POINTS",
  .cls "Book",
  .noat "Book" "groups_of",
  .noat "Book" "numbers",
  .noat "Book" "pairs",
  .noat "Book" "words",
  .cls "Line",
  .noat "Line" "at_line",
  .noat "Line" "spot",
  .noat "Line" "words_in",
  .cls "Record",
  .noat "Record" "counts",
  .noat "Record" "done",
  .noat "Record" "heard",
  .noat "Record" "names",
  .noat "Record" "noted",
  .noat "Record" "origin",
  .noat "Record" "seen",
  .noat "Record" "standing",
  .glo "AlarmError",
  .glo "BadEvent",
  .glo "BadKind",
  .glo "BadKinds",
  .glo "BadLine",
  .glo "BadQuiet",
  .glo "BadRule",
  .glo "BadTimes",
  .glo "NotComparable"]
def faL1 : List Fa := [.glo "UnknownWord",
  .noat "BadEvent" "index",
  .noat "BadLine" "line",
  .noat "BadLine" "word",
  .noat "BadQuiet" "index",
  .noat "BadRule" "point",
  .noat "BadTimes" "index",
  .noat "UnknownWord" "index",
  .glo "_law_draws",
  .glo "is_from",
  .glo "is_one_of",
  .glo "groups_in",
  .glo "loud_kinds",
  .meth "Record" "is_possible",
  .meth "Record" "add",
  .glo "parting",
  .glo "mends",
  .glo "Line",
  .mkr "Line",
  .meth "Line" "one_of",
  .glo "_law_pick",
  .glo "check_kinds",
  .glo "check_quiet",
  .glo "check_times",
  .glo "check_rule",
  .glo "check_kind",
  .glo "first_standing",
  .meth "Record" "look",
  .glo "alike",
  .glo "read_kinds",
  .glo "Book",
  .mkr "Book",
  .glo "Record",
  .mkr "Record",
  .glo "longest",
  .glo "read",
  .glo "replay",
  .glo "_law_later_calls",
  .glo "_law_calls",
  .glo "law"]
def faL : List Fa := faL0 ++ faL1
def exL0 : List EX := [.con "BOUNDS" (.tup [.tup [.int 0, .int 2], .tup [.int 1, .int 3], .tup [.int 0, .int 2], .tup [.int 1, .int 2], .tup [.int 1, .int 2]]),
  .con "GROUPS" (.tup [.str "a", .str "b"]),
  .con "MOST_KINDS" (.int 2),
  .con "NO_CLOCK" (.int (-1)),
  .pts "POINTS" [("ends", .tup [.str "not", .str "tells"]), ("keeps", .tup [.str "loud", .str "on"]), ("passes", .tup [.str "now", .str "then"]), ("repeats", .tup [.str "always", .str "never"])],
  .con "WORDS" (.tup [.str "nobody", .str "stale", .str "unheard"]),
  .exC "BadKinds",
  .exC "BadQuiet",
  .exC "BadTimes",
  .exC "BadRule",
  .exC "BadEvent",
  .exC "BadKind",
  .exC "NotComparable",
  .exC "UnknownWord",
  .exC "BadLine",
  .exm "BadEvent" "AlarmError" true,
  .exm "BadKind" "AlarmError" true,
  .exm "BadKinds" "AlarmError" true,
  .exm "BadLine" "AlarmError" true,
  .exm "BadQuiet" "AlarmError" true,
  .exm "BadRule" "AlarmError" true,
  .exm "BadTimes" "AlarmError" true,
  .exm "NotComparable" "AlarmError" true,
  .exm "UnknownWord" "AlarmError" true,
  .kit "BadEvent" "BadEvent" true,
  .kit "BadEvent" "BadKind" false,
  .kit "BadEvent" "BadKinds" false,
  .kit "BadEvent" "BadLine" false,
  .kit "BadEvent" "BadQuiet" false,
  .kit "BadEvent" "BadRule" false,
  .kit "BadEvent" "BadTimes" false,
  .kit "BadEvent" "NotComparable" false,
  .kit "BadEvent" "UnknownWord" false,
  .kit "BadKind" "BadEvent" false,
  .kit "BadKind" "BadKind" true,
  .kit "BadKind" "BadKinds" false,
  .kit "BadKind" "BadLine" false,
  .kit "BadKind" "BadQuiet" false,
  .kit "BadKind" "BadRule" false,
  .kit "BadKind" "BadTimes" false]
def exL1 : List EX := [.kit "BadKind" "NotComparable" false,
  .kit "BadKind" "UnknownWord" false,
  .kit "BadKinds" "BadEvent" false,
  .kit "BadKinds" "BadKind" false,
  .kit "BadKinds" "BadKinds" true,
  .kit "BadKinds" "BadLine" false,
  .kit "BadKinds" "BadQuiet" false,
  .kit "BadKinds" "BadRule" false,
  .kit "BadKinds" "BadTimes" false,
  .kit "BadKinds" "NotComparable" false,
  .kit "BadKinds" "UnknownWord" false,
  .kit "BadLine" "BadEvent" false,
  .kit "BadLine" "BadKind" false,
  .kit "BadLine" "BadKinds" false,
  .kit "BadLine" "BadLine" true,
  .kit "BadLine" "BadQuiet" false,
  .kit "BadLine" "BadRule" false,
  .kit "BadLine" "BadTimes" false,
  .kit "BadLine" "NotComparable" false,
  .kit "BadLine" "UnknownWord" false,
  .kit "BadQuiet" "BadEvent" false,
  .kit "BadQuiet" "BadKind" false,
  .kit "BadQuiet" "BadKinds" false,
  .kit "BadQuiet" "BadLine" false,
  .kit "BadQuiet" "BadQuiet" true,
  .kit "BadQuiet" "BadRule" false,
  .kit "BadQuiet" "BadTimes" false,
  .kit "BadQuiet" "NotComparable" false,
  .kit "BadQuiet" "UnknownWord" false,
  .kit "BadRule" "BadEvent" false,
  .kit "BadRule" "BadKind" false,
  .kit "BadRule" "BadKinds" false,
  .kit "BadRule" "BadLine" false,
  .kit "BadRule" "BadQuiet" false,
  .kit "BadRule" "BadRule" true,
  .kit "BadRule" "BadTimes" false,
  .kit "BadRule" "NotComparable" false,
  .kit "BadRule" "UnknownWord" false,
  .kit "BadTimes" "BadEvent" false,
  .kit "BadTimes" "BadKind" false]
def exL2 : List EX := [.kit "BadTimes" "BadKinds" false,
  .kit "BadTimes" "BadLine" false,
  .kit "BadTimes" "BadQuiet" false,
  .kit "BadTimes" "BadRule" false,
  .kit "BadTimes" "BadTimes" true,
  .kit "BadTimes" "NotComparable" false,
  .kit "BadTimes" "UnknownWord" false,
  .kit "NotComparable" "BadEvent" false,
  .kit "NotComparable" "BadKind" false,
  .kit "NotComparable" "BadKinds" false,
  .kit "NotComparable" "BadLine" false,
  .kit "NotComparable" "BadQuiet" false,
  .kit "NotComparable" "BadRule" false,
  .kit "NotComparable" "BadTimes" false,
  .kit "NotComparable" "NotComparable" true,
  .kit "NotComparable" "UnknownWord" false,
  .kit "UnknownWord" "BadEvent" false,
  .kit "UnknownWord" "BadKind" false,
  .kit "UnknownWord" "BadKinds" false,
  .kit "UnknownWord" "BadLine" false,
  .kit "UnknownWord" "BadQuiet" false,
  .kit "UnknownWord" "BadRule" false,
  .kit "UnknownWord" "BadTimes" false,
  .kit "UnknownWord" "NotComparable" false,
  .kit "UnknownWord" "UnknownWord" true,
  .kitv "BadEvent" "ValueError",
  .kitv "BadKind" "ValueError",
  .kitv "BadKinds" "ValueError",
  .kitv "BadLine" "ValueError",
  .kitv "BadQuiet" "ValueError",
  .kitv "BadRule" "ValueError",
  .kitv "BadTimes" "ValueError",
  .kitv "NotComparable" "ValueError",
  .kitv "UnknownWord" "ValueError",
  .getc "Book" "rule" "Book.rule",
  .xcl "BadEvent" "BadEvent.__init__",
  .xcl "BadKind" "BadKind.__init__",
  .xcl "BadKinds" "BadKinds.__init__",
  .xcl "BadLine" "BadLine.__init__",
  .xcl "BadQuiet" "BadQuiet.__init__"]
def exL3 : List EX := [.xcl "BadRule" "BadRule.__init__",
  .xcl "BadTimes" "BadTimes.__init__",
  .xcl "NotComparable" "NotComparable.__init__",
  .xcl "UnknownWord" "UnknownWord.__init__",
  .prop "Book" "rule"]
def exL : List EX := exL0 ++ exL1 ++ exL2 ++ exL3
def fnL0 : List DefD := [⟨("_law_draws", none), "_law_draws", "_law_draws", defArgs s__law_draws, defBody s__law_draws, defScope s__law_draws, [], []⟩,
  ⟨("is_from", none), "is_from", "is_from", defArgs s_is_from, defBody s_is_from, defScope s_is_from, [], []⟩,
  ⟨("is_one_of", none), "is_one_of", "is_one_of", defArgs s_is_one_of, defBody s_is_one_of, defScope s_is_one_of, [], []⟩,
  ⟨("groups_in", none), "groups_in", "groups_in", defArgs s_groups_in, defBody s_groups_in, defScope s_groups_in, [], []⟩,
  ⟨("loud_kinds", none), "loud_kinds", "loud_kinds", defArgs s_loud_kinds, defBody s_loud_kinds, defScope s_loud_kinds, [], []⟩,
  ⟨("Record", some "is_possible"), "is_possible", "Record.is_possible", defArgs s_Record_is_possible, defBody s_Record_is_possible, defScope s_Record_is_possible, [], []⟩,
  ⟨("Record", some "add"), "add", "Record.add", defArgs s_Record_add, defBody s_Record_add, defScope s_Record_add, [], []⟩,
  ⟨("parting", none), "parting", "parting", defArgs s_parting, defBody s_parting, defScope s_parting, [], []⟩,
  ⟨("mends", none), "mends", "mends", defArgs s_mends, defBody s_mends, defScope s_mends, [], []⟩,
  ⟨("Line", some "__init__"), "__init__", "Line.__init__", defArgs s_Line___init__, defBody s_Line___init__, defScope s_Line___init__, [], []⟩,
  ⟨("Line", some "one_of"), "one_of", "Line.one_of", defArgs s_Line_one_of, defBody s_Line_one_of, defScope s_Line_one_of, [], []⟩,
  ⟨("_law_pick", none), "_law_pick", "_law_pick", defArgs s__law_pick, defBody s__law_pick, defScope s__law_pick, [], []⟩,
  ⟨("check_kinds", none), "check_kinds", "check_kinds", defArgs s_check_kinds, defBody s_check_kinds, defScope s_check_kinds, [], []⟩,
  ⟨("check_quiet", none), "check_quiet", "check_quiet", defArgs s_check_quiet, defBody s_check_quiet, defScope s_check_quiet, [], []⟩,
  ⟨("check_times", none), "check_times", "check_times", defArgs s_check_times, defBody s_check_times, defScope s_check_times, [], []⟩,
  ⟨("check_rule", none), "check_rule", "check_rule", defArgs s_check_rule, defBody s_check_rule, defScope s_check_rule, [], []⟩,
  ⟨("check_kind", none), "check_kind", "check_kind", defArgs s_check_kind, defBody s_check_kind, defScope s_check_kind, [], []⟩,
  ⟨("first_standing", none), "first_standing", "first_standing", defArgs s_first_standing, defBody s_first_standing, defScope s_first_standing, [], []⟩,
  ⟨("Record", some "look"), "look", "Record.look", defArgs s_Record_look, defBody s_Record_look, defScope s_Record_look, [], []⟩,
  ⟨("alike", none), "alike", "alike", defArgs s_alike, defBody s_alike, defScope s_alike, [], []⟩,
  ⟨("read_kinds", none), "read_kinds", "read_kinds", defArgs s_read_kinds, defBody s_read_kinds, defScope s_read_kinds, [], []⟩,
  ⟨("Book", some "__init__"), "__init__", "Book.__init__", defArgs s_Book___init__, defBody s_Book___init__, defScope s_Book___init__, [], []⟩,
  ⟨("Record", some "__init__"), "__init__", "Record.__init__", defArgs s_Record___init__, defBody s_Record___init__, defScope s_Record___init__, [], []⟩,
  ⟨("longest", none), "longest", "longest", defArgs s_longest, defBody s_longest, defScope s_longest, [], []⟩,
  ⟨("read", none), "read", "read", defArgs s_read, defBody s_read, defScope s_read, [], []⟩,
  ⟨("replay", none), "replay", "replay", defArgs s_replay, defBody s_replay, defScope s_replay, [], []⟩,
  ⟨("_law_later_calls", none), "_law_later_calls", "_law_later_calls", defArgs s__law_later_calls, defBody s__law_later_calls, defScope s__law_later_calls, [], []⟩,
  ⟨("_law_calls", none), "_law_calls", "_law_calls", defArgs s__law_calls, defBody s__law_calls, defScope s__law_calls, [], []⟩,
  ⟨("law", none), "law", "law", defArgs s_law, defBody s_law, defScope s_law, [], []⟩]
def fnL : List DefD := fnL0
def xdL : List XD := [⟨"BadEvent", "BadEvent.__init__", defArgs (inClass (top 7) 0), defBody (inClass (top 7) 0), defScope (inClass (top 7) 0)⟩,
  ⟨"BadKind", "BadKind.__init__", defArgs (inClass (top 8) 0), defBody (inClass (top 8) 0), defScope (inClass (top 8) 0)⟩,
  ⟨"BadKinds", "BadKinds.__init__", defArgs (inClass (top 3) 0), defBody (inClass (top 3) 0), defScope (inClass (top 3) 0)⟩,
  ⟨"BadLine", "BadLine.__init__", defArgs (inClass (top 11) 0), defBody (inClass (top 11) 0), defScope (inClass (top 11) 0)⟩,
  ⟨"BadQuiet", "BadQuiet.__init__", defArgs (inClass (top 4) 0), defBody (inClass (top 4) 0), defScope (inClass (top 4) 0)⟩,
  ⟨"BadRule", "BadRule.__init__", defArgs (inClass (top 6) 0), defBody (inClass (top 6) 0), defScope (inClass (top 6) 0)⟩,
  ⟨"BadTimes", "BadTimes.__init__", defArgs (inClass (top 5) 0), defBody (inClass (top 5) 0), defScope (inClass (top 5) 0)⟩,
  ⟨"NotComparable", "NotComparable.__init__", defArgs (inClass (top 9) 0), defBody (inClass (top 9) 0), defScope (inClass (top 9) 0)⟩,
  ⟨"UnknownWord", "UnknownWord.__init__", defArgs (inClass (top 10) 0), defBody (inClass (top 10) 0), defScope (inClass (top 10) 0)⟩]
def gdL : List GD := [⟨"Book", "rule", "Book.rule", defArgs s_Book_rule, defBody s_Book_rule, defScope s_Book_rule⟩]
def tsL : List Tab := [((fun K => ga K "POINTS"), ["ends", "keeps", "passes", "repeats"])]
abbrev fileL : Str := PySem.Challenge.pw_alarmletters_k13_errors_apart.main.file
theorem link {w : World} {K : PySem.W.Frag} {h : Heap} {mg : Str → Option Value} {f : Addr} (X : K.In h) (G : h.Ns mainGlobals mg) (hfa : mg ("law" : Str) = some (.ref f)) (c : SaysZ fileL faL fnL tsL exL xdL gdL w K) :
    ∃ fd : FuncData, (∀ (s : Shared) (v : Value), BindsTo s fd ⟨[v], []⟩ [("_law_script", v)]) ∧ ∀ base : Heap, K.In base → base.Ns mainGlobals mg → FnOk PySem.Challenge.pw_alarmletters_k13_errors_apart w K mg base (L2.CX PySem.Challenge.pw_alarmletters_k13_errors_apart w) 9 f fd ["_law_script"] (spLw K) := by
  obtain ⟨fd__law_draws, D__law_draws⟩ := c.t.d.def_ 0 (d := ⟨("_law_draws", none), "_law_draws", "_law_draws", defArgs s__law_draws, defBody s__law_draws, defScope s__law_draws, [], []⟩) rfl
  have F__law_draws : Fun K "_law_draws" "_law_draws" s__law_draws _ _ := fun_of D__law_draws
  obtain ⟨fd_is_from, D_is_from⟩ := c.t.d.def_ 1 (d := ⟨("is_from", none), "is_from", "is_from", defArgs s_is_from, defBody s_is_from, defScope s_is_from, [], []⟩) rfl
  have F_is_from : Fun K "is_from" "is_from" s_is_from _ _ := fun_of D_is_from
  obtain ⟨fd_is_one_of, D_is_one_of⟩ := c.t.d.def_ 2 (d := ⟨("is_one_of", none), "is_one_of", "is_one_of", defArgs s_is_one_of, defBody s_is_one_of, defScope s_is_one_of, [], []⟩) rfl
  have F_is_one_of : Fun K "is_one_of" "is_one_of" s_is_one_of _ _ := fun_of D_is_one_of
  obtain ⟨fd_groups_in, D_groups_in⟩ := c.t.d.def_ 3 (d := ⟨("groups_in", none), "groups_in", "groups_in", defArgs s_groups_in, defBody s_groups_in, defScope s_groups_in, [], []⟩) rfl
  have F_groups_in : Fun K "groups_in" "groups_in" s_groups_in _ _ := fun_of D_groups_in
  obtain ⟨fd_loud_kinds, D_loud_kinds⟩ := c.t.d.def_ 4 (d := ⟨("loud_kinds", none), "loud_kinds", "loud_kinds", defArgs s_loud_kinds, defBody s_loud_kinds, defScope s_loud_kinds, [], []⟩) rfl
  have F_loud_kinds : Fun K "loud_kinds" "loud_kinds" s_loud_kinds _ _ := fun_of D_loud_kinds
  obtain ⟨fd_Book_rule, F_Book_rule⟩ := get_ok (x := "rule") (qual := "Book.rule") (st := s_Book_rule) (c.gd 0 (d := ⟨"Book", "rule", "Book.rule", defArgs s_Book_rule, defBody s_Book_rule, defScope s_Book_rule⟩) rfl) (c.exs 114 (e := .getc "Book" "rule" "Book.rule") rfl)
  obtain ⟨fd_Record_is_possible, D_Record_is_possible⟩ := c.t.d.def_ 5 (d := ⟨("Record", some "is_possible"), "is_possible", "Record.is_possible", defArgs s_Record_is_possible, defBody s_Record_is_possible, defScope s_Record_is_possible, [], []⟩) rfl
  have F_Record_is_possible : Fun K "is_possible" "Record.is_possible" s_Record_is_possible _ _ := fun_of D_Record_is_possible
  obtain ⟨fd_Record_add, D_Record_add⟩ := c.t.d.def_ 6 (d := ⟨("Record", some "add"), "add", "Record.add", defArgs s_Record_add, defBody s_Record_add, defScope s_Record_add, [], []⟩) rfl
  have F_Record_add : Fun K "add" "Record.add" s_Record_add _ _ := fun_of D_Record_add
  obtain ⟨fd_parting, D_parting⟩ := c.t.d.def_ 7 (d := ⟨("parting", none), "parting", "parting", defArgs s_parting, defBody s_parting, defScope s_parting, [], []⟩) rfl
  have F_parting : Fun K "parting" "parting" s_parting _ _ := fun_of D_parting
  obtain ⟨fd_mends, D_mends⟩ := c.t.d.def_ 8 (d := ⟨("mends", none), "mends", "mends", defArgs s_mends, defBody s_mends, defScope s_mends, [], []⟩) rfl
  have F_mends : Fun K "mends" "mends" s_mends _ _ := fun_of D_mends
  obtain ⟨fd_Line___init__, D_Line___init__⟩ := c.t.d.def_ 9 (d := ⟨("Line", some "__init__"), "__init__", "Line.__init__", defArgs s_Line___init__, defBody s_Line___init__, defScope s_Line___init__, [], []⟩) rfl
  have F_Line___init__ : Fun K "__init__" "Line.__init__" s_Line___init__ _ _ := fun_of D_Line___init__
  obtain ⟨fd_Line_one_of, D_Line_one_of⟩ := c.t.d.def_ 10 (d := ⟨("Line", some "one_of"), "one_of", "Line.one_of", defArgs s_Line_one_of, defBody s_Line_one_of, defScope s_Line_one_of, [], []⟩) rfl
  have F_Line_one_of : Fun K "one_of" "Line.one_of" s_Line_one_of _ _ := fun_of D_Line_one_of
  obtain ⟨fd__law_pick, D__law_pick⟩ := c.t.d.def_ 11 (d := ⟨("_law_pick", none), "_law_pick", "_law_pick", defArgs s__law_pick, defBody s__law_pick, defScope s__law_pick, [], []⟩) rfl
  have F__law_pick : Fun K "_law_pick" "_law_pick" s__law_pick _ _ := fun_of D__law_pick
  obtain ⟨fd_check_kinds, D_check_kinds⟩ := c.t.d.def_ 12 (d := ⟨("check_kinds", none), "check_kinds", "check_kinds", defArgs s_check_kinds, defBody s_check_kinds, defScope s_check_kinds, [], []⟩) rfl
  have F_check_kinds : Fun K "check_kinds" "check_kinds" s_check_kinds _ _ := fun_of D_check_kinds
  obtain ⟨fd_check_quiet, D_check_quiet⟩ := c.t.d.def_ 13 (d := ⟨("check_quiet", none), "check_quiet", "check_quiet", defArgs s_check_quiet, defBody s_check_quiet, defScope s_check_quiet, [], []⟩) rfl
  have F_check_quiet : Fun K "check_quiet" "check_quiet" s_check_quiet _ _ := fun_of D_check_quiet
  obtain ⟨fd_check_times, D_check_times⟩ := c.t.d.def_ 14 (d := ⟨("check_times", none), "check_times", "check_times", defArgs s_check_times, defBody s_check_times, defScope s_check_times, [], []⟩) rfl
  have F_check_times : Fun K "check_times" "check_times" s_check_times _ _ := fun_of D_check_times
  obtain ⟨fd_check_rule, D_check_rule⟩ := c.t.d.def_ 15 (d := ⟨("check_rule", none), "check_rule", "check_rule", defArgs s_check_rule, defBody s_check_rule, defScope s_check_rule, [], []⟩) rfl
  have F_check_rule : Fun K "check_rule" "check_rule" s_check_rule _ _ := fun_of D_check_rule
  obtain ⟨fd_check_kind, D_check_kind⟩ := c.t.d.def_ 16 (d := ⟨("check_kind", none), "check_kind", "check_kind", defArgs s_check_kind, defBody s_check_kind, defScope s_check_kind, [], []⟩) rfl
  have F_check_kind : Fun K "check_kind" "check_kind" s_check_kind _ _ := fun_of D_check_kind
  obtain ⟨fd_first_standing, D_first_standing⟩ := c.t.d.def_ 17 (d := ⟨("first_standing", none), "first_standing", "first_standing", defArgs s_first_standing, defBody s_first_standing, defScope s_first_standing, [], []⟩) rfl
  have F_first_standing : Fun K "first_standing" "first_standing" s_first_standing _ _ := fun_of D_first_standing
  obtain ⟨fd_Record_look, D_Record_look⟩ := c.t.d.def_ 18 (d := ⟨("Record", some "look"), "look", "Record.look", defArgs s_Record_look, defBody s_Record_look, defScope s_Record_look, [], []⟩) rfl
  have F_Record_look : Fun K "look" "Record.look" s_Record_look _ _ := fun_of D_Record_look
  obtain ⟨fd_alike, D_alike⟩ := c.t.d.def_ 19 (d := ⟨("alike", none), "alike", "alike", defArgs s_alike, defBody s_alike, defScope s_alike, [], []⟩) rfl
  have F_alike : Fun K "alike" "alike" s_alike _ _ := fun_of D_alike
  obtain ⟨fd_read_kinds, D_read_kinds⟩ := c.t.d.def_ 20 (d := ⟨("read_kinds", none), "read_kinds", "read_kinds", defArgs s_read_kinds, defBody s_read_kinds, defScope s_read_kinds, [], []⟩) rfl
  have F_read_kinds : Fun K "read_kinds" "read_kinds" s_read_kinds _ _ := fun_of D_read_kinds
  obtain ⟨fd_Book___init__, D_Book___init__⟩ := c.t.d.def_ 21 (d := ⟨("Book", some "__init__"), "__init__", "Book.__init__", defArgs s_Book___init__, defBody s_Book___init__, defScope s_Book___init__, [], []⟩) rfl
  have F_Book___init__ : Fun K "__init__" "Book.__init__" s_Book___init__ _ _ := fun_of D_Book___init__
  obtain ⟨fd_Record___init__, D_Record___init__⟩ := c.t.d.def_ 22 (d := ⟨("Record", some "__init__"), "__init__", "Record.__init__", defArgs s_Record___init__, defBody s_Record___init__, defScope s_Record___init__, [], []⟩) rfl
  have F_Record___init__ : Fun K "__init__" "Record.__init__" s_Record___init__ _ _ := fun_of D_Record___init__
  obtain ⟨fd_longest, D_longest⟩ := c.t.d.def_ 23 (d := ⟨("longest", none), "longest", "longest", defArgs s_longest, defBody s_longest, defScope s_longest, [], []⟩) rfl
  have F_longest : Fun K "longest" "longest" s_longest _ _ := fun_of D_longest
  obtain ⟨fd_read, D_read⟩ := c.t.d.def_ 24 (d := ⟨("read", none), "read", "read", defArgs s_read, defBody s_read, defScope s_read, [], []⟩) rfl
  have F_read : Fun K "read" "read" s_read _ _ := fun_of D_read
  obtain ⟨fd_replay, D_replay⟩ := c.t.d.def_ 25 (d := ⟨("replay", none), "replay", "replay", defArgs s_replay, defBody s_replay, defScope s_replay, [], []⟩) rfl
  have F_replay : Fun K "replay" "replay" s_replay _ _ := fun_of D_replay
  obtain ⟨fd__law_later_calls, D__law_later_calls⟩ := c.t.d.def_ 26 (d := ⟨("_law_later_calls", none), "_law_later_calls", "_law_later_calls", defArgs s__law_later_calls, defBody s__law_later_calls, defScope s__law_later_calls, [], []⟩) rfl
  have F__law_later_calls : Fun K "_law_later_calls" "_law_later_calls" s__law_later_calls _ _ := fun_of D__law_later_calls
  obtain ⟨fd__law_calls, D__law_calls⟩ := c.t.d.def_ 27 (d := ⟨("_law_calls", none), "_law_calls", "_law_calls", defArgs s__law_calls, defBody s__law_calls, defScope s__law_calls, [], []⟩) rfl
  have F__law_calls : Fun K "_law_calls" "_law_calls" s__law_calls _ _ := fun_of D__law_calls
  obtain ⟨fd_law, D_law⟩ := c.t.d.def_ 28 (d := ⟨("law", none), "law", "law", defArgs s_law, defBody s_law, defScope s_law, [], []⟩) rfl
  have F_law : Fun K "law" "law" s_law _ _ := fun_of D_law
  obtain ⟨f_BadEvent, fd_BadEvent, cda_BadEvent, cc_BadEvent, X_BadEvent⟩ := xcl_ok (P := PySem.Challenge.pw_alarmletters_k13_errors_apart) X G (d := ⟨"BadEvent", "BadEvent.__init__", defArgs (inClass (top 7) 0), defBody (inClass (top 7) 0), defScope (inClass (top 7) 0)⟩) (c.xd 0 (d := ⟨"BadEvent", "BadEvent.__init__", defArgs (inClass (top 7) 0), defBody (inClass (top 7) 0), defScope (inClass (top 7) 0)⟩) rfl) (c.exs 115 (e := .xcl "BadEvent" "BadEvent.__init__") rfl) (by decide +kernel)
  obtain ⟨f_BadKind, fd_BadKind, cda_BadKind, cc_BadKind, X_BadKind⟩ := xcl_ok (P := PySem.Challenge.pw_alarmletters_k13_errors_apart) X G (d := ⟨"BadKind", "BadKind.__init__", defArgs (inClass (top 8) 0), defBody (inClass (top 8) 0), defScope (inClass (top 8) 0)⟩) (c.xd 1 (d := ⟨"BadKind", "BadKind.__init__", defArgs (inClass (top 8) 0), defBody (inClass (top 8) 0), defScope (inClass (top 8) 0)⟩) rfl) (c.exs 116 (e := .xcl "BadKind" "BadKind.__init__") rfl) (by decide +kernel)
  obtain ⟨f_BadKinds, fd_BadKinds, cda_BadKinds, cc_BadKinds, X_BadKinds⟩ := xcl_ok (P := PySem.Challenge.pw_alarmletters_k13_errors_apart) X G (d := ⟨"BadKinds", "BadKinds.__init__", defArgs (inClass (top 3) 0), defBody (inClass (top 3) 0), defScope (inClass (top 3) 0)⟩) (c.xd 2 (d := ⟨"BadKinds", "BadKinds.__init__", defArgs (inClass (top 3) 0), defBody (inClass (top 3) 0), defScope (inClass (top 3) 0)⟩) rfl) (c.exs 117 (e := .xcl "BadKinds" "BadKinds.__init__") rfl) (by decide +kernel)
  obtain ⟨f_BadLine, fd_BadLine, cda_BadLine, cc_BadLine, X_BadLine⟩ := xcl_ok (P := PySem.Challenge.pw_alarmletters_k13_errors_apart) X G (d := ⟨"BadLine", "BadLine.__init__", defArgs (inClass (top 11) 0), defBody (inClass (top 11) 0), defScope (inClass (top 11) 0)⟩) (c.xd 3 (d := ⟨"BadLine", "BadLine.__init__", defArgs (inClass (top 11) 0), defBody (inClass (top 11) 0), defScope (inClass (top 11) 0)⟩) rfl) (c.exs 118 (e := .xcl "BadLine" "BadLine.__init__") rfl) (by decide +kernel)
  obtain ⟨f_BadQuiet, fd_BadQuiet, cda_BadQuiet, cc_BadQuiet, X_BadQuiet⟩ := xcl_ok (P := PySem.Challenge.pw_alarmletters_k13_errors_apart) X G (d := ⟨"BadQuiet", "BadQuiet.__init__", defArgs (inClass (top 4) 0), defBody (inClass (top 4) 0), defScope (inClass (top 4) 0)⟩) (c.xd 4 (d := ⟨"BadQuiet", "BadQuiet.__init__", defArgs (inClass (top 4) 0), defBody (inClass (top 4) 0), defScope (inClass (top 4) 0)⟩) rfl) (c.exs 119 (e := .xcl "BadQuiet" "BadQuiet.__init__") rfl) (by decide +kernel)
  obtain ⟨f_BadRule, fd_BadRule, cda_BadRule, cc_BadRule, X_BadRule⟩ := xcl_ok (P := PySem.Challenge.pw_alarmletters_k13_errors_apart) X G (d := ⟨"BadRule", "BadRule.__init__", defArgs (inClass (top 6) 0), defBody (inClass (top 6) 0), defScope (inClass (top 6) 0)⟩) (c.xd 5 (d := ⟨"BadRule", "BadRule.__init__", defArgs (inClass (top 6) 0), defBody (inClass (top 6) 0), defScope (inClass (top 6) 0)⟩) rfl) (c.exs 120 (e := .xcl "BadRule" "BadRule.__init__") rfl) (by decide +kernel)
  obtain ⟨f_BadTimes, fd_BadTimes, cda_BadTimes, cc_BadTimes, X_BadTimes⟩ := xcl_ok (P := PySem.Challenge.pw_alarmletters_k13_errors_apart) X G (d := ⟨"BadTimes", "BadTimes.__init__", defArgs (inClass (top 5) 0), defBody (inClass (top 5) 0), defScope (inClass (top 5) 0)⟩) (c.xd 6 (d := ⟨"BadTimes", "BadTimes.__init__", defArgs (inClass (top 5) 0), defBody (inClass (top 5) 0), defScope (inClass (top 5) 0)⟩) rfl) (c.exs 121 (e := .xcl "BadTimes" "BadTimes.__init__") rfl) (by decide +kernel)
  obtain ⟨f_NotComparable, fd_NotComparable, cda_NotComparable, cc_NotComparable, X_NotComparable⟩ := xcl_ok (P := PySem.Challenge.pw_alarmletters_k13_errors_apart) X G (d := ⟨"NotComparable", "NotComparable.__init__", defArgs (inClass (top 9) 0), defBody (inClass (top 9) 0), defScope (inClass (top 9) 0)⟩) (c.xd 7 (d := ⟨"NotComparable", "NotComparable.__init__", defArgs (inClass (top 9) 0), defBody (inClass (top 9) 0), defScope (inClass (top 9) 0)⟩) rfl) (c.exs 122 (e := .xcl "NotComparable" "NotComparable.__init__") rfl) (by decide +kernel)
  obtain ⟨f_UnknownWord, fd_UnknownWord, cda_UnknownWord, cc_UnknownWord, X_UnknownWord⟩ := xcl_ok (P := PySem.Challenge.pw_alarmletters_k13_errors_apart) X G (d := ⟨"UnknownWord", "UnknownWord.__init__", defArgs (inClass (top 10) 0), defBody (inClass (top 10) 0), defScope (inClass (top 10) 0)⟩) (c.xd 8 (d := ⟨"UnknownWord", "UnknownWord.__init__", defArgs (inClass (top 10) 0), defBody (inClass (top 10) 0), defScope (inClass (top 10) 0)⟩) rfl) (c.exs 123 (e := .xcl "UnknownWord" "UnknownWord.__init__") rfl) (by decide +kernel)
  have e := hfa.symm.trans (glo_ok X G (c.t.d.fact 79 (f := .glo "law") rfl))
  cases e
  have T : Txt PySem.Challenge.pw_alarmletters_k13_errors_apart w K mg (⟨ga K "AlarmError", ga K "BadEvent", ga K "BadKind", ga K "BadKinds", ga K "BadLine", ga K "BadQuiet", ga K "BadRule", ga K "BadTimes", ga K "Book", ga K "Line", ga K "NotComparable", ga K "Record", ga K "UnknownWord"⟩ : Ad) := ⟨(free_ok X G (c.t.d.fact 0 (f := .free "ValueError") rfl)),
    (free_ok X G (c.t.d.fact 1 (f := .free "all") rfl)),
    (free_ok X G (c.t.d.fact 2 (f := .free "bool") rfl)),
    (free_ok X G (c.t.d.fact 3 (f := .free "dict") rfl)),
    (free_ok X G (c.t.d.fact 4 (f := .free "enumerate") rfl)),
    (free_ok X G (c.t.d.fact 5 (f := .free "int") rfl)),
    (free_ok X G (c.t.d.fact 6 (f := .free "isinstance") rfl)),
    (free_ok X G (c.t.d.fact 7 (f := .free "len") rfl)),
    (free_ok X G (c.t.d.fact 8 (f := .free "list") rfl)),
    (free_ok X G (c.t.d.fact 9 (f := .free "range") rfl)),
    (free_ok X G (c.t.d.fact 10 (f := .free "str") rfl)),
    (free_ok X G (c.t.d.fact 11 (f := .free "tuple") rfl)),
    (con_ok X G (c.exs 0 (e := .con "BOUNDS" (.tup [.tup [.int 0, .int 2], .tup [.int 1, .int 3], .tup [.int 0, .int 2], .tup [.int 1, .int 2], .tup [.int 1, .int 2]])) rfl)),
    (con_ok X G (c.exs 1 (e := .con "GROUPS" (.tup [.str "a", .str "b"])) rfl)),
    (con_ok X G (c.exs 2 (e := .con "MOST_KINDS" (.int 2)) rfl)),
    (con_ok X G (c.exs 3 (e := .con "NO_CLOCK" (.int (-1))) rfl)),
    (pts_ok X G (c.exs 4 (e := .pts "POINTS" [("ends", .tup [.str "not", .str "tells"]), ("keeps", .tup [.str "loud", .str "on"]), ("passes", .tup [.str "now", .str "then"]), ("repeats", .tup [.str "always", .str "never"])]) rfl) (c.t.d.fact 12 (f := .glo "POINTS") rfl) (c.t.tab 0 (t := ((fun K => ga K "POINTS"), ["ends", "keeps", "passes", "repeats"])) rfl) (by decide) (by show 4 ≤ sizeLine; decide)),
    (con_ok X G (c.exs 5 (e := .con "WORDS" (.tup [.str "nobody", .str "stale", .str "unheard"])) rfl)),
    (fun D hD => by
      have hE : D = ga K "BadKinds" ∨ D = ga K "BadQuiet" ∨ D = ga K "BadTimes" ∨ D = ga K "BadRule" ∨ D = ga K "BadEvent" ∨ D = ga K "BadKind" ∨ D = ga K "NotComparable" ∨ D = ga K "UnknownWord" ∨ D = ga K "BadLine" := by simpa [excs] using hD
      rcases hE with rfl | rfl | rfl | rfl | rfl | rfl | rfl | rfl | rfl
      · exact exCB_ok (c.exs 6 (e := .exC "BadKinds") rfl)
      · exact exCB_ok (c.exs 7 (e := .exC "BadQuiet") rfl)
      · exact exCB_ok (c.exs 8 (e := .exC "BadTimes") rfl)
      · exact exCB_ok (c.exs 9 (e := .exC "BadRule") rfl)
      · exact exCB_ok (c.exs 10 (e := .exC "BadEvent") rfl)
      · exact exCB_ok (c.exs 11 (e := .exC "BadKind") rfl)
      · exact exCB_ok (c.exs 12 (e := .exC "NotComparable") rfl)
      · exact exCB_ok (c.exs 13 (e := .exC "UnknownWord") rfl)
      · exact exCB_ok (c.exs 14 (e := .exC "BadLine") rfl)),
    (of_decide_eq_true (c.exs 15 (e := .exm "BadEvent" "AlarmError" true) rfl)),
    (of_decide_eq_true (c.exs 16 (e := .exm "BadKind" "AlarmError" true) rfl)),
    (of_decide_eq_true (c.exs 17 (e := .exm "BadKinds" "AlarmError" true) rfl)),
    (of_decide_eq_true (c.exs 18 (e := .exm "BadLine" "AlarmError" true) rfl)),
    (of_decide_eq_true (c.exs 19 (e := .exm "BadQuiet" "AlarmError" true) rfl)),
    (of_decide_eq_true (c.exs 20 (e := .exm "BadRule" "AlarmError" true) rfl)),
    (of_decide_eq_true (c.exs 21 (e := .exm "BadTimes" "AlarmError" true) rfl)),
    (of_decide_eq_true (c.exs 22 (e := .exm "NotComparable" "AlarmError" true) rfl)),
    (of_decide_eq_true (c.exs 23 (e := .exm "UnknownWord" "AlarmError" true) rfl)),
    (⟨cls_ok (c.t.d.fact 13 (f := .cls "Book") rfl), noat_ok (c.t.d.fact 14 (f := .noat "Book" "groups_of") rfl)⟩),
    (⟨cls_ok (c.t.d.fact 13 (f := .cls "Book") rfl), noat_ok (c.t.d.fact 15 (f := .noat "Book" "numbers") rfl)⟩),
    (⟨cls_ok (c.t.d.fact 13 (f := .cls "Book") rfl), noat_ok (c.t.d.fact 16 (f := .noat "Book" "pairs") rfl)⟩),
    (⟨cls_ok (c.t.d.fact 13 (f := .cls "Book") rfl), noat_ok (c.t.d.fact 17 (f := .noat "Book" "words") rfl)⟩),
    (⟨cls_ok (c.t.d.fact 18 (f := .cls "Line") rfl), noat_ok (c.t.d.fact 19 (f := .noat "Line" "at_line") rfl)⟩),
    (⟨cls_ok (c.t.d.fact 18 (f := .cls "Line") rfl), noat_ok (c.t.d.fact 20 (f := .noat "Line" "spot") rfl)⟩),
    (⟨cls_ok (c.t.d.fact 18 (f := .cls "Line") rfl), noat_ok (c.t.d.fact 21 (f := .noat "Line" "words_in") rfl)⟩),
    (⟨cls_ok (c.t.d.fact 22 (f := .cls "Record") rfl), noat_ok (c.t.d.fact 23 (f := .noat "Record" "counts") rfl)⟩),
    (⟨cls_ok (c.t.d.fact 22 (f := .cls "Record") rfl), noat_ok (c.t.d.fact 24 (f := .noat "Record" "done") rfl)⟩),
    (⟨cls_ok (c.t.d.fact 22 (f := .cls "Record") rfl), noat_ok (c.t.d.fact 25 (f := .noat "Record" "heard") rfl)⟩),
    (⟨cls_ok (c.t.d.fact 22 (f := .cls "Record") rfl), noat_ok (c.t.d.fact 26 (f := .noat "Record" "names") rfl)⟩),
    (⟨cls_ok (c.t.d.fact 22 (f := .cls "Record") rfl), noat_ok (c.t.d.fact 27 (f := .noat "Record" "noted") rfl)⟩),
    (⟨cls_ok (c.t.d.fact 22 (f := .cls "Record") rfl), noat_ok (c.t.d.fact 28 (f := .noat "Record" "origin") rfl)⟩),
    (⟨cls_ok (c.t.d.fact 22 (f := .cls "Record") rfl), noat_ok (c.t.d.fact 29 (f := .noat "Record" "seen") rfl)⟩),
    (⟨cls_ok (c.t.d.fact 22 (f := .cls "Record") rfl), noat_ok (c.t.d.fact 30 (f := .noat "Record" "standing") rfl)⟩),
    (glo_ok X G (c.t.d.fact 31 (f := .glo "AlarmError") rfl)),
    (glo_ok X G (c.t.d.fact 32 (f := .glo "BadEvent") rfl)),
    (glo_ok X G (c.t.d.fact 33 (f := .glo "BadKind") rfl)),
    (glo_ok X G (c.t.d.fact 34 (f := .glo "BadKinds") rfl)),
    (glo_ok X G (c.t.d.fact 35 (f := .glo "BadLine") rfl)),
    (glo_ok X G (c.t.d.fact 36 (f := .glo "BadQuiet") rfl)),
    (glo_ok X G (c.t.d.fact 37 (f := .glo "BadRule") rfl)),
    (glo_ok X G (c.t.d.fact 38 (f := .glo "BadTimes") rfl)),
    (glo_ok X G (c.t.d.fact 39 (f := .glo "NotComparable") rfl)),
    (glo_ok X G (c.t.d.fact 40 (f := .glo "UnknownWord") rfl)),
    (of_decide_eq_true (c.exs 24 (e := .kit "BadEvent" "BadEvent" true) rfl)),
    (of_decide_eq_true (c.exs 25 (e := .kit "BadEvent" "BadKind" false) rfl)),
    (of_decide_eq_true (c.exs 26 (e := .kit "BadEvent" "BadKinds" false) rfl)),
    (of_decide_eq_true (c.exs 27 (e := .kit "BadEvent" "BadLine" false) rfl)),
    (of_decide_eq_true (c.exs 28 (e := .kit "BadEvent" "BadQuiet" false) rfl)),
    (of_decide_eq_true (c.exs 29 (e := .kit "BadEvent" "BadRule" false) rfl)),
    (of_decide_eq_true (c.exs 30 (e := .kit "BadEvent" "BadTimes" false) rfl)),
    (of_decide_eq_true (c.exs 31 (e := .kit "BadEvent" "NotComparable" false) rfl)),
    (of_decide_eq_true (c.exs 32 (e := .kit "BadEvent" "UnknownWord" false) rfl)),
    (of_decide_eq_true (c.exs 33 (e := .kit "BadKind" "BadEvent" false) rfl)),
    (of_decide_eq_true (c.exs 34 (e := .kit "BadKind" "BadKind" true) rfl)),
    (of_decide_eq_true (c.exs 35 (e := .kit "BadKind" "BadKinds" false) rfl)),
    (of_decide_eq_true (c.exs 36 (e := .kit "BadKind" "BadLine" false) rfl)),
    (of_decide_eq_true (c.exs 37 (e := .kit "BadKind" "BadQuiet" false) rfl)),
    (of_decide_eq_true (c.exs 38 (e := .kit "BadKind" "BadRule" false) rfl)),
    (of_decide_eq_true (c.exs 39 (e := .kit "BadKind" "BadTimes" false) rfl)),
    (of_decide_eq_true (c.exs 40 (e := .kit "BadKind" "NotComparable" false) rfl)),
    (of_decide_eq_true (c.exs 41 (e := .kit "BadKind" "UnknownWord" false) rfl)),
    (of_decide_eq_true (c.exs 42 (e := .kit "BadKinds" "BadEvent" false) rfl)),
    (of_decide_eq_true (c.exs 43 (e := .kit "BadKinds" "BadKind" false) rfl)),
    (of_decide_eq_true (c.exs 44 (e := .kit "BadKinds" "BadKinds" true) rfl)),
    (of_decide_eq_true (c.exs 45 (e := .kit "BadKinds" "BadLine" false) rfl)),
    (of_decide_eq_true (c.exs 46 (e := .kit "BadKinds" "BadQuiet" false) rfl)),
    (of_decide_eq_true (c.exs 47 (e := .kit "BadKinds" "BadRule" false) rfl)),
    (of_decide_eq_true (c.exs 48 (e := .kit "BadKinds" "BadTimes" false) rfl)),
    (of_decide_eq_true (c.exs 49 (e := .kit "BadKinds" "NotComparable" false) rfl)),
    (of_decide_eq_true (c.exs 50 (e := .kit "BadKinds" "UnknownWord" false) rfl)),
    (of_decide_eq_true (c.exs 51 (e := .kit "BadLine" "BadEvent" false) rfl)),
    (of_decide_eq_true (c.exs 52 (e := .kit "BadLine" "BadKind" false) rfl)),
    (of_decide_eq_true (c.exs 53 (e := .kit "BadLine" "BadKinds" false) rfl)),
    (of_decide_eq_true (c.exs 54 (e := .kit "BadLine" "BadLine" true) rfl)),
    (of_decide_eq_true (c.exs 55 (e := .kit "BadLine" "BadQuiet" false) rfl)),
    (of_decide_eq_true (c.exs 56 (e := .kit "BadLine" "BadRule" false) rfl)),
    (of_decide_eq_true (c.exs 57 (e := .kit "BadLine" "BadTimes" false) rfl)),
    (of_decide_eq_true (c.exs 58 (e := .kit "BadLine" "NotComparable" false) rfl)),
    (of_decide_eq_true (c.exs 59 (e := .kit "BadLine" "UnknownWord" false) rfl)),
    (of_decide_eq_true (c.exs 60 (e := .kit "BadQuiet" "BadEvent" false) rfl)),
    (of_decide_eq_true (c.exs 61 (e := .kit "BadQuiet" "BadKind" false) rfl)),
    (of_decide_eq_true (c.exs 62 (e := .kit "BadQuiet" "BadKinds" false) rfl)),
    (of_decide_eq_true (c.exs 63 (e := .kit "BadQuiet" "BadLine" false) rfl)),
    (of_decide_eq_true (c.exs 64 (e := .kit "BadQuiet" "BadQuiet" true) rfl)),
    (of_decide_eq_true (c.exs 65 (e := .kit "BadQuiet" "BadRule" false) rfl)),
    (of_decide_eq_true (c.exs 66 (e := .kit "BadQuiet" "BadTimes" false) rfl)),
    (of_decide_eq_true (c.exs 67 (e := .kit "BadQuiet" "NotComparable" false) rfl)),
    (of_decide_eq_true (c.exs 68 (e := .kit "BadQuiet" "UnknownWord" false) rfl)),
    (of_decide_eq_true (c.exs 69 (e := .kit "BadRule" "BadEvent" false) rfl)),
    (of_decide_eq_true (c.exs 70 (e := .kit "BadRule" "BadKind" false) rfl)),
    (of_decide_eq_true (c.exs 71 (e := .kit "BadRule" "BadKinds" false) rfl)),
    (of_decide_eq_true (c.exs 72 (e := .kit "BadRule" "BadLine" false) rfl)),
    (of_decide_eq_true (c.exs 73 (e := .kit "BadRule" "BadQuiet" false) rfl)),
    (of_decide_eq_true (c.exs 74 (e := .kit "BadRule" "BadRule" true) rfl)),
    (of_decide_eq_true (c.exs 75 (e := .kit "BadRule" "BadTimes" false) rfl)),
    (of_decide_eq_true (c.exs 76 (e := .kit "BadRule" "NotComparable" false) rfl)),
    (of_decide_eq_true (c.exs 77 (e := .kit "BadRule" "UnknownWord" false) rfl)),
    (of_decide_eq_true (c.exs 78 (e := .kit "BadTimes" "BadEvent" false) rfl)),
    (of_decide_eq_true (c.exs 79 (e := .kit "BadTimes" "BadKind" false) rfl)),
    (of_decide_eq_true (c.exs 80 (e := .kit "BadTimes" "BadKinds" false) rfl)),
    (of_decide_eq_true (c.exs 81 (e := .kit "BadTimes" "BadLine" false) rfl)),
    (of_decide_eq_true (c.exs 82 (e := .kit "BadTimes" "BadQuiet" false) rfl)),
    (of_decide_eq_true (c.exs 83 (e := .kit "BadTimes" "BadRule" false) rfl)),
    (of_decide_eq_true (c.exs 84 (e := .kit "BadTimes" "BadTimes" true) rfl)),
    (of_decide_eq_true (c.exs 85 (e := .kit "BadTimes" "NotComparable" false) rfl)),
    (of_decide_eq_true (c.exs 86 (e := .kit "BadTimes" "UnknownWord" false) rfl)),
    (of_decide_eq_true (c.exs 87 (e := .kit "NotComparable" "BadEvent" false) rfl)),
    (of_decide_eq_true (c.exs 88 (e := .kit "NotComparable" "BadKind" false) rfl)),
    (of_decide_eq_true (c.exs 89 (e := .kit "NotComparable" "BadKinds" false) rfl)),
    (of_decide_eq_true (c.exs 90 (e := .kit "NotComparable" "BadLine" false) rfl)),
    (of_decide_eq_true (c.exs 91 (e := .kit "NotComparable" "BadQuiet" false) rfl)),
    (of_decide_eq_true (c.exs 92 (e := .kit "NotComparable" "BadRule" false) rfl)),
    (of_decide_eq_true (c.exs 93 (e := .kit "NotComparable" "BadTimes" false) rfl)),
    (of_decide_eq_true (c.exs 94 (e := .kit "NotComparable" "NotComparable" true) rfl)),
    (of_decide_eq_true (c.exs 95 (e := .kit "NotComparable" "UnknownWord" false) rfl)),
    (of_decide_eq_true (c.exs 96 (e := .kit "UnknownWord" "BadEvent" false) rfl)),
    (of_decide_eq_true (c.exs 97 (e := .kit "UnknownWord" "BadKind" false) rfl)),
    (of_decide_eq_true (c.exs 98 (e := .kit "UnknownWord" "BadKinds" false) rfl)),
    (of_decide_eq_true (c.exs 99 (e := .kit "UnknownWord" "BadLine" false) rfl)),
    (of_decide_eq_true (c.exs 100 (e := .kit "UnknownWord" "BadQuiet" false) rfl)),
    (of_decide_eq_true (c.exs 101 (e := .kit "UnknownWord" "BadRule" false) rfl)),
    (of_decide_eq_true (c.exs 102 (e := .kit "UnknownWord" "BadTimes" false) rfl)),
    (of_decide_eq_true (c.exs 103 (e := .kit "UnknownWord" "NotComparable" false) rfl)),
    (of_decide_eq_true (c.exs 104 (e := .kit "UnknownWord" "UnknownWord" true) rfl)),
    (of_decide_eq_true (c.exs 105 (e := .kitv "BadEvent" "ValueError") rfl)),
    (of_decide_eq_true (c.exs 106 (e := .kitv "BadKind" "ValueError") rfl)),
    (of_decide_eq_true (c.exs 107 (e := .kitv "BadKinds" "ValueError") rfl)),
    (of_decide_eq_true (c.exs 108 (e := .kitv "BadLine" "ValueError") rfl)),
    (of_decide_eq_true (c.exs 109 (e := .kitv "BadQuiet" "ValueError") rfl)),
    (of_decide_eq_true (c.exs 110 (e := .kitv "BadRule" "ValueError") rfl)),
    (of_decide_eq_true (c.exs 111 (e := .kitv "BadTimes" "ValueError") rfl)),
    (of_decide_eq_true (c.exs 112 (e := .kitv "NotComparable" "ValueError") rfl)),
    (of_decide_eq_true (c.exs 113 (e := .kitv "UnknownWord" "ValueError") rfl)),
    (trivial)⟩
  let Ω : Ad := ⟨ga K "AlarmError", ga K "BadEvent", ga K "BadKind", ga K "BadKinds", ga K "BadLine", ga K "BadQuiet", ga K "BadRule", ga K "BadTimes", ga K "Book", ga K "Line", ga K "NotComparable", ga K "Record", ga K "UnknownWord"⟩
  refine ⟨fd_law, fun s v => (D_law.bindsA (ps := ["_law_script"]) fun _ _ _ _ _ _ us hl => match us, hl with | [_], _ => rfl) s [v] rfl, fun base hbase hns => ?_⟩
  have g_BadEvent : CalX PySem.Challenge.pw_alarmletters_k13_errors_apart w K mg base "BadEvent" Ω.BadEvent ["self", "index"] ["index"] := ⟨f_BadEvent, fd_BadEvent, glo_ok X G (c.t.d.fact 32 (f := .glo "BadEvent") rfl), X_BadEvent.oex, X_BadEvent.iC, X_BadEvent.tI, xbinds X_BadEvent (ps := ["self", "index"]) fun _ _ _ _ _ us hl => match us, hl with | [_, _], _ => rfl, init1 X_BadEvent (NdefX.nscope_by (by decide +kernel)) rfl rfl rfl (fun _ => ⟨rfl, rfl⟩) (by exact noat_ok (c.t.d.fact 41 (f := .noat "BadEvent" "index") rfl)) (by decide) (by decide) (by decide) (by decide)⟩
  have g_BadKind : CalX PySem.Challenge.pw_alarmletters_k13_errors_apart w K mg base "BadKind" Ω.BadKind ["self"] [] := ⟨f_BadKind, fd_BadKind, glo_ok X G (c.t.d.fact 33 (f := .glo "BadKind") rfl), X_BadKind.oex, X_BadKind.iC, X_BadKind.tI, xbinds X_BadKind (ps := ["self"]) fun _ _ _ _ _ us hl => match us, hl with | [_], _ => rfl, init0 X_BadKind (NdefX.nscope_by (by decide +kernel)) rfl rfl rfl (fun _ => ⟨rfl, rfl⟩)⟩
  have g_BadKinds : CalX PySem.Challenge.pw_alarmletters_k13_errors_apart w K mg base "BadKinds" Ω.BadKinds ["self"] [] := ⟨f_BadKinds, fd_BadKinds, glo_ok X G (c.t.d.fact 34 (f := .glo "BadKinds") rfl), X_BadKinds.oex, X_BadKinds.iC, X_BadKinds.tI, xbinds X_BadKinds (ps := ["self"]) fun _ _ _ _ _ us hl => match us, hl with | [_], _ => rfl, init0 X_BadKinds (NdefX.nscope_by (by decide +kernel)) rfl rfl rfl (fun _ => ⟨rfl, rfl⟩)⟩
  have g_BadLine : CalX PySem.Challenge.pw_alarmletters_k13_errors_apart w K mg base "BadLine" Ω.BadLine ["self", "line", "word"] ["line", "word"] := ⟨f_BadLine, fd_BadLine, glo_ok X G (c.t.d.fact 35 (f := .glo "BadLine") rfl), X_BadLine.oex, X_BadLine.iC, X_BadLine.tI, xbinds X_BadLine (ps := ["self", "line", "word"]) fun _ _ _ _ _ us hl => match us, hl with | [_, _, _], _ => rfl, init2 X_BadLine (NdefX.nscope_by (by decide +kernel)) rfl rfl rfl (fun _ => ⟨rfl, rfl⟩) (by exact noat_ok (c.t.d.fact 42 (f := .noat "BadLine" "line") rfl)) (by exact noat_ok (c.t.d.fact 43 (f := .noat "BadLine" "word") rfl)) (by decide) (by decide) (by decide) (by decide) (by decide) (by decide)⟩
  have g_BadQuiet : CalX PySem.Challenge.pw_alarmletters_k13_errors_apart w K mg base "BadQuiet" Ω.BadQuiet ["self", "index"] ["index"] := ⟨f_BadQuiet, fd_BadQuiet, glo_ok X G (c.t.d.fact 36 (f := .glo "BadQuiet") rfl), X_BadQuiet.oex, X_BadQuiet.iC, X_BadQuiet.tI, xbinds X_BadQuiet (ps := ["self", "index"]) fun _ _ _ _ _ us hl => match us, hl with | [_, _], _ => rfl, init1 X_BadQuiet (NdefX.nscope_by (by decide +kernel)) rfl rfl rfl (fun _ => ⟨rfl, rfl⟩) (by exact noat_ok (c.t.d.fact 44 (f := .noat "BadQuiet" "index") rfl)) (by decide) (by decide) (by decide) (by decide)⟩
  have g_BadRule : CalX PySem.Challenge.pw_alarmletters_k13_errors_apart w K mg base "BadRule" Ω.BadRule ["self", "point"] ["point"] := ⟨f_BadRule, fd_BadRule, glo_ok X G (c.t.d.fact 37 (f := .glo "BadRule") rfl), X_BadRule.oex, X_BadRule.iC, X_BadRule.tI, xbinds X_BadRule (ps := ["self", "point"]) fun _ _ _ _ _ us hl => match us, hl with | [_, _], _ => rfl, init1 X_BadRule (NdefX.nscope_by (by decide +kernel)) rfl rfl rfl (fun _ => ⟨rfl, rfl⟩) (by exact noat_ok (c.t.d.fact 45 (f := .noat "BadRule" "point") rfl)) (by decide) (by decide) (by decide) (by decide)⟩
  have g_BadTimes : CalX PySem.Challenge.pw_alarmletters_k13_errors_apart w K mg base "BadTimes" Ω.BadTimes ["self", "index"] ["index"] := ⟨f_BadTimes, fd_BadTimes, glo_ok X G (c.t.d.fact 38 (f := .glo "BadTimes") rfl), X_BadTimes.oex, X_BadTimes.iC, X_BadTimes.tI, xbinds X_BadTimes (ps := ["self", "index"]) fun _ _ _ _ _ us hl => match us, hl with | [_, _], _ => rfl, init1 X_BadTimes (NdefX.nscope_by (by decide +kernel)) rfl rfl rfl (fun _ => ⟨rfl, rfl⟩) (by exact noat_ok (c.t.d.fact 46 (f := .noat "BadTimes" "index") rfl)) (by decide) (by decide) (by decide) (by decide)⟩
  have g_NotComparable : CalX PySem.Challenge.pw_alarmletters_k13_errors_apart w K mg base "NotComparable" Ω.NotComparable ["self"] [] := ⟨f_NotComparable, fd_NotComparable, glo_ok X G (c.t.d.fact 39 (f := .glo "NotComparable") rfl), X_NotComparable.oex, X_NotComparable.iC, X_NotComparable.tI, xbinds X_NotComparable (ps := ["self"]) fun _ _ _ _ _ us hl => match us, hl with | [_], _ => rfl, init0 X_NotComparable (NdefX.nscope_by (by decide +kernel)) rfl rfl rfl (fun _ => ⟨rfl, rfl⟩)⟩
  have g_UnknownWord : CalX PySem.Challenge.pw_alarmletters_k13_errors_apart w K mg base "UnknownWord" Ω.UnknownWord ["self", "index"] ["index"] := ⟨f_UnknownWord, fd_UnknownWord, glo_ok X G (c.t.d.fact 40 (f := .glo "UnknownWord") rfl), X_UnknownWord.oex, X_UnknownWord.iC, X_UnknownWord.tI, xbinds X_UnknownWord (ps := ["self", "index"]) fun _ _ _ _ _ us hl => match us, hl with | [_, _], _ => rfl, init1 X_UnknownWord (NdefX.nscope_by (by decide +kernel)) rfl rfl rfl (fun _ => ⟨rfl, rfl⟩) (by exact noat_ok (c.t.d.fact 47 (f := .noat "UnknownWord" "index") rfl)) (by decide) (by decide) (by decide) (by decide)⟩
  have g__law_draws : CalDr PySem.Challenge.pw_alarmletters_k13_errors_apart w K mg base "_law_draws" "_law_script" 2 := ⟨_, _, glo_ok X G (c.t.d.fact 48 (f := .glo "_law_draws") rfl), F__law_draws.kp, (F__law_draws.binds (ps := ["_law_script"]) fun _ _ _ _ _ _ us hl => match us, hl with | [_], _ => rfl), ok__law_draws F__law_draws T⟩
  have g_is_from : Cal PySem.Challenge.pw_alarmletters_k13_errors_apart w K mg base "is_from" 3 ["value", "low", "high"] (spF (f_is_from Ω)) := ⟨_, _, glo_ok X G (c.t.d.fact 49 (f := .glo "is_from") rfl), F_is_from.kp, (F_is_from.binds (ps := ["value", "low", "high"]) fun _ _ _ _ _ _ us hl => match us, hl with | [_, _, _], _ => rfl), ok_is_from F_is_from T⟩
  have g_is_one_of : Cal PySem.Challenge.pw_alarmletters_k13_errors_apart w K mg base "is_one_of" 3 ["value", "some"] (spF (f_is_one_of Ω)) := ⟨_, _, glo_ok X G (c.t.d.fact 50 (f := .glo "is_one_of") rfl), F_is_one_of.kp, (F_is_one_of.binds (ps := ["value", "some"]) fun _ _ _ _ _ _ us hl => match us, hl with | [_, _], _ => rfl), ok_is_one_of F_is_one_of T⟩
  have g_groups_in : Cal PySem.Challenge.pw_alarmletters_k13_errors_apart w K mg base "groups_in" 3 ["book"] (spF (f_groups_in Ω)) := ⟨_, _, glo_ok X G (c.t.d.fact 51 (f := .glo "groups_in") rfl), F_groups_in.kp, (F_groups_in.binds (ps := ["book"]) fun _ _ _ _ _ _ us hl => match us, hl with | [_], _ => rfl), ok_groups_in F_groups_in T⟩
  have g_loud_kinds : Cal PySem.Challenge.pw_alarmletters_k13_errors_apart w K mg base "loud_kinds" 3 ["book", "on", "silences"] (sp_loud_kinds Ω) := ⟨_, _, glo_ok X G (c.t.d.fact 52 (f := .glo "loud_kinds") rfl), F_loud_kinds.kp, (F_loud_kinds.binds (ps := ["book", "on", "silences"]) fun _ _ _ _ _ _ us hl => match us, hl with | [_, _, _], _ => rfl), ok_loud_kinds F_loud_kinds T⟩
  have g_Book_rule : CalP PySem.Challenge.pw_alarmletters_k13_errors_apart w K mg base Ω.Book "rule" 3 (sp_Book_rule Ω) := ⟨cls_ok (c.t.d.fact 13 (f := .cls "Book") rfl), _, _, _, propB_ok (c.exs 124 (e := .prop "Book" "rule") rfl), (F_Book_rule.binds (ps := ["self"]) fun _ _ _ _ _ _ us hl => match us, hl with | [_], _ => rfl), ok_Book_rule F_Book_rule T⟩
  have g_Record_is_possible : CalM PySem.Challenge.pw_alarmletters_k13_errors_apart w K mg base Ω.Record "is_possible" 3 ["self", "event"] (sp_Record_is_possible Ω) := ⟨cls_ok (c.t.d.fact 22 (f := .cls "Record") rfl), _, _, meth_ok (c.t.d.fact 53 (f := .meth "Record" "is_possible") rfl), (F_Record_is_possible.binds (ps := ["self", "event"]) fun _ _ _ _ _ _ us hl => match us, hl with | [_, _], _ => rfl), ok_Record_is_possible F_Record_is_possible T⟩
  have g_Record_add : CalM PySem.Challenge.pw_alarmletters_k13_errors_apart w K mg base Ω.Record "add" 3 ["self", "event"] (sp_Record_add Ω) := ⟨cls_ok (c.t.d.fact 22 (f := .cls "Record") rfl), _, _, meth_ok (c.t.d.fact 54 (f := .meth "Record" "add") rfl), (F_Record_add.binds (ps := ["self", "event"]) fun _ _ _ _ _ _ us hl => match us, hl with | [_, _], _ => rfl), ok_Record_add F_Record_add T⟩
  have g_parting : Cal PySem.Challenge.pw_alarmletters_k13_errors_apart w K mg base "parting" 3 ["one", "other"] (sp_parting Ω) := ⟨_, _, glo_ok X G (c.t.d.fact 55 (f := .glo "parting") rfl), F_parting.kp, (F_parting.binds (ps := ["one", "other"]) fun _ _ _ _ _ _ us hl => match us, hl with | [_, _], _ => rfl), ok_parting F_parting T g_NotComparable⟩
  have g_mends : Cal PySem.Challenge.pw_alarmletters_k13_errors_apart w K mg base "mends" 3 ["book", "words"] (sp_mends Ω) := ⟨_, _, glo_ok X G (c.t.d.fact 56 (f := .glo "mends") rfl), F_mends.kp, (F_mends.binds (ps := ["book", "words"]) fun _ _ _ _ _ _ us hl => match us, hl with | [_, _], _ => rfl), ok_mends F_mends T g_UnknownWord⟩
  have g_Line : CalK PySem.Challenge.pw_alarmletters_k13_errors_apart w K mg base "Line" Ω.Line 3 ["self", "rows", "at"] (sp_Line___init__ Ω) := ⟨_, _, glo_ok X G (c.t.d.fact 57 (f := .glo "Line") rfl), mkr_ok (c.t.d.fact 58 (f := .mkr "Line") rfl), (F_Line___init__.binds (ps := ["self", "rows", "at"]) fun _ _ _ _ _ _ us hl => match us, hl with | [_, _, _], _ => rfl), ok_Line___init__ F_Line___init__ T g_BadLine⟩
  have g_Line_one_of : CalM PySem.Challenge.pw_alarmletters_k13_errors_apart w K mg base Ω.Line "one_of" 3 ["self", "some"] (sp_Line_one_of Ω) := ⟨cls_ok (c.t.d.fact 18 (f := .cls "Line") rfl), _, _, meth_ok (c.t.d.fact 59 (f := .meth "Line" "one_of") rfl), (F_Line_one_of.binds (ps := ["self", "some"]) fun _ _ _ _ _ _ us hl => match us, hl with | [_, _], _ => rfl), ok_Line_one_of F_Line_one_of T g_BadLine⟩
  have g__law_pick : Cal PySem.Challenge.pw_alarmletters_k13_errors_apart w K mg base "_law_pick" 3 ["_law_row", "_law_many"] (sp__law_pick Ω) := ⟨_, _, glo_ok X G (c.t.d.fact 60 (f := .glo "_law_pick") rfl), F__law_pick.kp, (F__law_pick.binds (ps := ["_law_row", "_law_many"]) fun _ _ _ _ _ _ us hl => match us, hl with | [_, _], _ => rfl), ok__law_pick F__law_pick T⟩
  have g_check_kinds : Cal PySem.Challenge.pw_alarmletters_k13_errors_apart w K mg base "check_kinds" 4 ["kinds"] (sp_check_kinds Ω) := ⟨_, _, glo_ok X G (c.t.d.fact 61 (f := .glo "check_kinds") rfl), F_check_kinds.kp, (F_check_kinds.binds (ps := ["kinds"]) fun _ _ _ _ _ _ us hl => match us, hl with | [_], _ => rfl), ok_check_kinds F_check_kinds T g_BadKinds g_is_one_of⟩
  have g_check_quiet : Cal PySem.Challenge.pw_alarmletters_k13_errors_apart w K mg base "check_quiet" 4 ["kinds", "quiet"] (sp_check_quiet Ω) := ⟨_, _, glo_ok X G (c.t.d.fact 62 (f := .glo "check_quiet") rfl), F_check_quiet.kp, (F_check_quiet.binds (ps := ["kinds", "quiet"]) fun _ _ _ _ _ _ us hl => match us, hl with | [_, _], _ => rfl), ok_check_quiet F_check_quiet T g_BadQuiet g_is_from⟩
  have g_check_times : Cal PySem.Challenge.pw_alarmletters_k13_errors_apart w K mg base "check_times" 4 ["times"] (sp_check_times Ω) := ⟨_, _, glo_ok X G (c.t.d.fact 63 (f := .glo "check_times") rfl), F_check_times.kp, (F_check_times.binds (ps := ["times"]) fun _ _ _ _ _ _ us hl => match us, hl with | [_], _ => rfl), ok_check_times F_check_times T g_BadTimes g_is_from⟩
  have g_check_rule : Cal PySem.Challenge.pw_alarmletters_k13_errors_apart w K mg base "check_rule" 4 ["rule"] (sp_check_rule Ω) := ⟨_, _, glo_ok X G (c.t.d.fact 64 (f := .glo "check_rule") rfl), F_check_rule.kp, (F_check_rule.binds (ps := ["rule"]) fun _ _ _ _ _ _ us hl => match us, hl with | [_], _ => rfl), ok_check_rule F_check_rule T g_BadRule g_is_one_of⟩
  have g_check_kind : Cal PySem.Challenge.pw_alarmletters_k13_errors_apart w K mg base "check_kind" 4 ["book", "kind"] (sp_check_kind Ω) := ⟨_, _, glo_ok X G (c.t.d.fact 65 (f := .glo "check_kind") rfl), F_check_kind.kp, (F_check_kind.binds (ps := ["book", "kind"]) fun _ _ _ _ _ _ us hl => match us, hl with | [_, _], _ => rfl), ok_check_kind F_check_kind T g_BadKind g_is_from⟩
  have g_first_standing : Cal PySem.Challenge.pw_alarmletters_k13_errors_apart w K mg base "first_standing" 4 ["book"] (sp_first_standing Ω) := ⟨_, _, glo_ok X G (c.t.d.fact 66 (f := .glo "first_standing") rfl), F_first_standing.kp, (F_first_standing.binds (ps := ["book"]) fun _ _ _ _ _ _ us hl => match us, hl with | [_], _ => rfl), ok_first_standing F_first_standing T g_groups_in⟩
  have g_Record_look : CalM PySem.Challenge.pw_alarmletters_k13_errors_apart w K mg base Ω.Record "look" 4 ["self"] (sp_Record_look Ω) := ⟨cls_ok (c.t.d.fact 22 (f := .cls "Record") rfl), _, _, meth_ok (c.t.d.fact 67 (f := .meth "Record" "look") rfl), (F_Record_look.binds (ps := ["self"]) fun _ _ _ _ _ _ us hl => match us, hl with | [_], _ => rfl), ok_Record_look F_Record_look T g_groups_in g_loud_kinds⟩
  have g_alike : Cal PySem.Challenge.pw_alarmletters_k13_errors_apart w K mg base "alike" 4 ["one", "other"] (sp_alike Ω) := ⟨_, _, glo_ok X G (c.t.d.fact 68 (f := .glo "alike") rfl), F_alike.kp, (F_alike.binds (ps := ["one", "other"]) fun _ _ _ _ _ _ us hl => match us, hl with | [_, _], _ => rfl), ok_alike F_alike T g_parting⟩
  have g_read_kinds : Cal PySem.Challenge.pw_alarmletters_k13_errors_apart w K mg base "read_kinds" 4 ["line"] (sp_read_kinds Ω) := ⟨_, _, glo_ok X G (c.t.d.fact 69 (f := .glo "read_kinds") rfl), F_read_kinds.kp, (F_read_kinds.binds (ps := ["line"]) fun _ _ _ _ _ _ us hl => match us, hl with | [_], _ => rfl), ok_read_kinds F_read_kinds T g_Line_one_of⟩
  have g_Book : CalK PySem.Challenge.pw_alarmletters_k13_errors_apart w K mg base "Book" Ω.Book 5 ["self", "kinds", "quiet", "times", "rule"] (sp_Book___init__ Ω) := ⟨_, _, glo_ok X G (c.t.d.fact 70 (f := .glo "Book") rfl), mkr_ok (c.t.d.fact 71 (f := .mkr "Book") rfl), (F_Book___init__.binds (ps := ["self", "kinds", "quiet", "times", "rule"]) fun _ _ _ _ _ _ us hl => match us, hl with | [_, _, _, _, _], _ => rfl), ok_Book___init__ F_Book___init__ T g_check_kinds g_check_quiet g_check_rule g_check_times⟩
  have g_Record : CalK PySem.Challenge.pw_alarmletters_k13_errors_apart w K mg base "Record" Ω.Record 5 ["self", "book"] (sp_Record___init__ Ω) := ⟨_, _, glo_ok X G (c.t.d.fact 72 (f := .glo "Record") rfl), mkr_ok (c.t.d.fact 73 (f := .mkr "Record") rfl), (F_Record___init__.binds (ps := ["self", "book"]) fun _ _ _ _ _ _ us hl => match us, hl with | [_, _], _ => rfl), ok_Record___init__ F_Record___init__ T g_first_standing g_Record_look⟩
  have g_longest : Cal PySem.Challenge.pw_alarmletters_k13_errors_apart w K mg base "longest" 5 ["book", "k"] (sp_longest Ω) := ⟨_, _, glo_ok X G (c.t.d.fact 74 (f := .glo "longest") rfl), F_longest.kp, (F_longest.binds (ps := ["book", "k"]) fun _ _ _ _ _ _ us hl => match us, hl with | [_, _], _ => rfl), ok_longest F_longest T g_check_kind⟩
  have g_read : Cal PySem.Challenge.pw_alarmletters_k13_errors_apart w K mg base "read" 5 ["text"] (sp_read Ω) := ⟨_, _, glo_ok X G (c.t.d.fact 75 (f := .glo "read") rfl), F_read.kp, (F_read.binds (ps := ["text"]) fun _ _ _ _ _ _ us hl => match us, hl with | [_], _ => rfl), ok_read F_read T g_Line g_read_kinds⟩
  have g_replay : Cal PySem.Challenge.pw_alarmletters_k13_errors_apart w K mg base "replay" 7 ["book", "events"] (sp_replay Ω) := ⟨_, _, glo_ok X G (c.t.d.fact 76 (f := .glo "replay") rfl), F_replay.kp, (F_replay.binds (ps := ["book", "events"]) fun _ _ _ _ _ _ us hl => match us, hl with | [_, _], _ => rfl), ok_replay F_replay T g_Record g_BadEvent g_Record_add g_Record_is_possible⟩
  have g__law_later_calls : Cal PySem.Challenge.pw_alarmletters_k13_errors_apart w K mg base "_law_later_calls" 7 ["_law_at", "_law_book"] (sp__law_later_calls Ω) := ⟨_, _, glo_ok X G (c.t.d.fact 77 (f := .glo "_law_later_calls") rfl), F__law_later_calls.kp, (F__law_later_calls.binds (ps := ["_law_at", "_law_book"]) fun _ _ _ _ _ _ us hl => match us, hl with | [_, _], _ => rfl), ok__law_later_calls F__law_later_calls T g_Book g_alike g_longest g_mends g_read g_Book_rule⟩
  have g__law_calls : Cal PySem.Challenge.pw_alarmletters_k13_errors_apart w K mg base "_law_calls" 8 ["_law_at", "_law_book"] (sp__law_calls Ω) := ⟨_, _, glo_ok X G (c.t.d.fact 78 (f := .glo "_law_calls") rfl), F__law_calls.kp, (F__law_calls.binds (ps := ["_law_at", "_law_book"]) fun _ _ _ _ _ _ us hl => match us, hl with | [_, _], _ => rfl), ok__law_calls F__law_calls T g_Book g_replay⟩
  exact ok_law F_law T g_Book g__law_draws g__law_calls g__law_later_calls g__law_pick
def names0 : List PySem.Str := ["_wall", "__name__", "AlarmError", "BadKinds", "BadQuiet", "BadTimes", "BadRule", "BadEvent", "BadKind", "NotComparable", "UnknownWord", "BadLine", "GROUPS", "MOST_KINDS", "BOUNDS", "POINTS", "is_from", "is_one_of", "check_kinds", "check_quiet", "check_times", "check_rule", "Book", "groups_in", "HEAD", "Line", "read_kinds", "read_pair", "read", "NO_CLOCK"]
def names1 : List PySem.Str := ["SHUT", "MINUTE", "first_standing", "events_of", "loud_kinds", "loud_in", "can_be", "put", "wound", "is_writing", "minute_of", "minute", "step", "Record", "replay", "moves", "Walk", "is_known", "is_untold", "Untold", "unheard", "check_kind", "longest", "WORDS", "parting_by", "parting", "alike", "has_none", "change_sets", "mends"]
def names2 : List PySem.Str := ["_law_draws", "_law_pick", "_law_calls", "_law_later_calls"]
def namesL : List PySem.Str := names0 ++ names1 ++ names2
abbrev RR : PySem.W.OpenRow := PySem.W.OpenLaw.row PySem.Challenge.rw_alarmletters_k13_errors_apart
abbrev hkL : PySem.W.Hook := hookZ 5 fileL faL fnL tsL exL xdL gdL
def obL (s : PySem.W.SharedT) : AlZ := obsZG 5 fileL faL fnL tsL exL xdL gdL (HandSHeadRun.getT s)
theorem obL_eq (s : PySem.W.SharedT) : obL s = hkL.obs s.abs := obsZG_eq (HandSHeadRun.getT_eq s)
end AL

set_option Elab.async false
set_option linter.all false
set_option maxRecDepth 100000
set_option maxHeartbeats 0
set_option pp.maxSteps 60
namespace AL
open PySem PySem.Spec PyProof.Rows L2 DL He AH
theorem runF (w : World) : HandSHeadRun.RunEq RR (PySem.W.view RR.prog [71]) hkL obL 40000 namesL (w.withFollow "special-get-raises" false) := by
  intro os
  kernel_rfl
theorem runT (w : World) : HandSHeadRun.RunEq RR (PySem.W.view RR.prog [71]) hkL obL 40000 namesL (w.withFollow "special-get-raises" true) := by
  intro os
  kernel_rfl
theorem runL (w : World) : HandSHeadRun.RunEq RR (PySem.W.view RR.prog [71]) hkL obL 40000 namesL w := PySem.W.byRow2 "special-get-raises" runF runT w
end AL
open PySem PySem.W PySem.Calls PyProof.Rows
theorem PySem.Challenge.cw_alarmletters_k13_errors_apart_holds : PySem.Challenge.rw_alarmletters_k13_errors_apart.Holds := by
  w_on; o_law
  refine HandSHeadRun.head_any (r := OpenLaw.row PySem.Challenge.rw_alarmletters_k13_errors_apart) (q := view (OpenLaw.row PySem.Challenge.rw_alarmletters_k13_errors_apart).prog [71]) (H := AL.hkL) (ob := AL.obL) (M := 40000) (loose := AL.namesL) (d := HandSHeadRun.topDef (OpenLaw.row PySem.Challenge.rw_alarmletters_k13_errors_apart).prog 71) (kwd := []) AL.obL_eq
    (by kernel_rfl) (fun s => by kernel_rfl) AL.runL (by kernel_rfl) (by kernel_rfl) (by kernel_rfl) (by rfl) (by first | assumption | decide +kernel) (by decide +kernel) ⟨rfl, rfl, rfl, rfl, rfl, by decide +kernel⟩ ?hw ?hc
  case hw => w_witness2
  case hc =>
    refine AL.walk_z (l := PySem.Challenge.rw_alarmletters_k13_errors_apart) (k := 9) (x := "_law_script") rfl (by kernel_rfl) ⟨rfl, by decide, by decide⟩ ?F
    intro w mg fa h Y G hmg0
    obtain ⟨K, KX, c⟩ := Y
    have hmg : mg ("law" : PySem.Str) = some (.ref fa) := by
      have e : (HandSHeadRun.topDef (OpenLaw.row PySem.Challenge.rw_alarmletters_k13_errors_apart).prog 71).name = ("law" : PySem.Str) := by kernel_rfl
      rw [← e]
      exact hmg0
    obtain ⟨fd, hb, hF⟩ := AL.link (w := w) KX G hmg c
    exact ⟨K, fd, KX, hb, hF⟩
#print axioms PySem.Challenge.cw_alarmletters_k13_errors_apart_holds
